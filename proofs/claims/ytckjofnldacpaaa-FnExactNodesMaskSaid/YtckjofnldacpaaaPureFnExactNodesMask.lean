/- The program's NodesMask and the reference's answer alike at every list, and leave the list alone. Conditions: none beyond the given statement. -/
import Derived.Test.YtckjofnldacpaaaPFnExactNodesMaskx2
import Derived.OpenShut
import Derived.Laws.BitsLemmas
namespace Go.Proofs.Ytckjofnldacpaaa.Pure
open Go.RowKit Go.Proofs.Ytckjofnldacpaaa.PFnExactNodesMask Go.Proofs.YtckjofnldacpaaaW.PrintWords Go.Proofs.YtckjofnldacpaaaW.PrintLast Go.Proofs.YtckjofnldacpaaaW.PrintMore
set_option linter.unusedVariables false
set_option linter.unusedSimpArgs false
/-! base -/
theorem w64 {n : Int} (h : -9223372036854775808 ≤ n) (h2 : n ≤ 9223372036854775807) : wrap64 n = n := by unfold wrap64; omega
theorem wsucc (i : Nat) (h : i < 4611686018427387904) : wrap64 ((i : Int) + 1) = ((i + 1 : Nat) : Int) := by unfold wrap64; omega
theorem wf64 {n : Int} (h : (Lit.int .i64 n).wf = true) : -9223372036854775808 ≤ n ∧ n ≤ 9223372036854775807 := bounds_i64 h
theorem Evpos {α : Type} {c : Prop} [Decidable c] {a b : Nat → Option α} {r : α} (h : c) (e : Ev a r) : Ev (fun k => if c then a k else b k) r := Ev.congr (fun _ => if_pos h) e
theorem Evneg {α : Type} {c : Prop} [Decidable c] {a b : Nat → Option α} {r : α} (h : ¬ c) (e : Ev b r) : Ev (fun k => if c then a k else b k) r := Ev.congr (fun _ => if_neg h) e
theorem Evsome {α β : Type} {a : α} {f : Nat → α → Option β} {r : β} (e : Ev (fun k => f k a) r) : Ev (fun k => (some a).bind (f k)) r := e
theorem Evbind {α β : Type} {g : Nat → Option α} {f : Nat → α → Option β} {a : α} {r : β} (h : Ev g a) (e : Ev (fun n => f n a) r) : Ev (fun n => (g n).bind (f n)) r := Ev.bind h e
theorem Evconst {α : Type} {g : Option α} {r : α} (h : g = some r) : Ev (fun _ => g) r := ⟨0, fun _ _ => h⟩
theorem Evto {α : Type} {g : Nat → Option α} {r r' : α} (h : r = r') (e : Ev g r) : Ev g r' := h ▸ e
theorem rd_nat (xs : List Int) (i : Nat) : rd xs (i : Int) = xs.getD i 0 := by simp [rd]
theorem getD_get (xs : List Int) (i : Nat) (h : i < xs.length) : xs.getD i 0 = xs[i] := by simp [List.getD_eq_getElem?_getD, List.getElem?_eq_getElem h]
theorem get_getD (xs : List Int) (i : Nat) (h : i < xs.length) : xs[i]? = some (xs.getD i 0) := by simp [List.getD_eq_getElem?_getD, List.getElem?_eq_getElem h]
theorem wf_getD {kd : IntKind} (xs : List Int) (hw : ∀ x ∈ xs, (Lit.int kd x).wf = true) (i : Nat) (h : i < xs.length) : (Lit.int kd (xs.getD i 0)).wf = true := by
  rw [getD_get xs i h]; exact hw _ (List.getElem_mem h)
theorem wf_iff (k : IntKind) (n : Int) : (Lit.int k n).wf = true ↔ k.min ≤ n ∧ n ≤ k.max := by simp [Lit.wf]
theorem wf8 {n : Int} (h : (Lit.int .u8 n).wf = true) : 0 ≤ n ∧ n ≤ 255 := by
  have := (wf_iff .u8 n).1 h
  simpa [IntKind.min, IntKind.max, IntKind.bits, IntKind.signed] using this
theorem wf_mk8 {n : Int} (h : 0 ≤ n) (h2 : n ≤ 255) : (Lit.int .u8 n).wf = true :=
  (wf_iff .u8 n).2 (by simp [IntKind.min, IntKind.max, IntKind.bits, IntKind.signed]; omega)
theorem wf_mk64 {n : Int} (h : -9223372036854775808 ≤ n) (h2 : n ≤ 9223372036854775807) : (Lit.int .i64 n).wf = true :=
  (wf_iff .i64 n).2 (by simp [IntKind.min, IntKind.max, IntKind.bits, IntKind.signed]; omega)
theorem drop_at (b : List Int) (j : Nat) (h : j < b.length) : b.drop j = b.getD j 0 :: b.drop (j + 1) := by
  rw [List.drop_eq_getElem_cons h, getD_get b j h]
theorem p63 : (2 : Int) ^ 63 = 9223372036854775808 := by decide
theorem p1289 : (128 : Nat) ^ 9 = 9223372036854775808 := by decide
theorem p27 : (2 : Int) ^ 7 = 128 := by decide
theorem natpos (i : Nat) : ((i : Int) > 0) ↔ 0 < i := by omega

/-! specin -/
theorem spec_l1In_f (a b c : Int) : spec_l1In.f a b c = some (decide (b ≤ a ∧ a ≤ c)) := by
  unfold spec_l1In.f
  by_cases h : a ≥ b
  · rw [if_pos h]; congr 1; exact decide_eq_decide.2 (by omega)
  · rw [if_neg h]; congr 1; symm; exact decide_eq_false (by omega)

/-! within -/
theorem impl_within_f (a b c : Int) : impl_within.f a b c = some (decide (b ≤ a ∧ a ≤ c)) := by
  unfold impl_within.f
  by_cases h : a ≥ b
  · rw [if_pos h]; congr 1; exact decide_eq_decide.2 (by omega)
  · rw [if_neg h]; congr 1; symm; exact decide_eq_false (by omega)

/-! ascm -/
def ascP (hi : Int) : Int → List Int → Bool
  | _, [] => true
  | p, x :: t => decide (0 ≤ x ∧ x ≤ hi ∧ p < x) && ascP hi x t
def asc (hi : Int) (l : List Int) : Bool := ascP hi (-1) l

/-! sasc -/
theorem spec_l4Asc_l0 (l : List Int) (hi : Int) (hn : l.length < 4611686018427387904) (d : Nat) : ∀ (i : Nat) (p : Int), i + d = l.length → (i = 0 → p = -1) → (0 < i → p = l.getD (i - 1) 0) → Ev (fun k => spec_l4Asc.l0 k l 0 hi (i : Int)) (ascP hi p (l.drop i)) := by
  induction d with
  | zero =>
    intro i p hi' h0 h1
    refine Ev.step (f := fun _ => some true) (fun k => ?_) (Evto ?_ (Ev.now _))
    · rw [spec_l4Asc.l0, if_neg (by omega)]
    · rw [List.drop_eq_nil_of_le (by omega)]; rfl
  | succ d ih =>
    intro i p hi' h0 h1
    have hlt : i < l.length := by omega
    rw [drop_at l i hlt]
    by_cases hr : 0 ≤ l.getD i 0 ∧ l.getD i 0 ≤ hi
    · by_cases hz : i = 0
      · subst hz
        have hp := h0 rfl
        refine Ev.step (f := fun k => spec_l4Asc.l0 k l 0 hi ((0 + 1 : Nat) : Int)) (fun k => ?_) (Evto ?_ (ih (0 + 1) (l.getD 0 0) (by omega) (by omega) (fun _ => rfl)))
        · rw [spec_l4Asc.l0, if_pos (by omega), if_pos (by omega), rd_nat, spec_l1In_f, Option.bind_some, if_pos (decide_eq_true hr), if_neg (by omega), wsucc 0 (by omega)]
        · rw [ascP, decide_eq_true (by omega)]; rfl
      · have hp := h1 (by omega)
        have hm : wrap64 ((i : Int) - 1) = ((i - 1 : Nat) : Int) := by rw [w64 (by omega) (by omega)]; omega
        by_cases hlt2 : p < l.getD i 0
        · refine Ev.step (f := fun k => spec_l4Asc.l0 k l 0 hi ((i + 1 : Nat) : Int)) (fun k => ?_) (Evto ?_ (ih (i + 1) (l.getD i 0) (by omega) (by omega) (fun _ => rfl)))
          · rw [spec_l4Asc.l0, if_pos (by omega), if_pos (by omega), rd_nat, spec_l1In_f, Option.bind_some, if_pos (decide_eq_true hr), if_pos (by omega), hm, if_pos (by omega), if_pos (by omega), rd_nat, ← hp, if_neg (by omega), wsucc i (by omega)]
          · rw [ascP, decide_eq_true (by omega)]; rfl
        · refine Ev.step (f := fun _ => some false) (fun k => ?_) (Evto ?_ (Ev.now _))
          · rw [spec_l4Asc.l0, if_pos (by omega), if_pos (by omega), rd_nat, spec_l1In_f, Option.bind_some, if_pos (decide_eq_true hr), if_pos (by omega), hm, if_pos (by omega), if_pos (by omega), rd_nat, ← hp, if_pos (by omega)]
          · rw [ascP, decide_eq_false (by omega)]; rfl
    · refine Ev.step (f := fun _ => some false) (fun k => ?_) (Evto ?_ (Ev.now _))
      · rw [spec_l4Asc.l0, if_pos (by omega), if_pos (by omega), rd_nat, spec_l1In_f, Option.bind_some, decide_eq_false hr, if_neg (by decide)]
      · rw [ascP, decide_eq_false (by omega)]; rfl
theorem spec_l4Asc_f (l : List Int) (hi : Int) (hn : l.length < 4611686018427387904) : Ev (fun k => spec_l4Asc.f k l 0 hi) (asc hi l) :=
  Ev.congr (fun k => by rw [spec_l4Asc.f]; rfl) (spec_l4Asc_l0 l hi hn l.length 0 (-1) (by omega) (fun _ => rfl) (fun h => by omega))

/-! iasc -/
theorem impl_ascends_l0 (l : List Int) (hi : Int) (hn : l.length < 4611686018427387904) (d : Nat) : ∀ (i : Nat) (p : Int), i + d = l.length → (i = 0 → p = -1) → (0 < i → p = l.getD (i - 1) 0) → Ev (fun k => impl_ascends.l0 k l hi l (l.length : Int) (i : Int)) (ascP hi p (l.drop i)) := by
  induction d with
  | zero =>
    intro i p hi' h0 h1
    refine Ev.step (f := fun _ => some true) (fun k => ?_) (Evto ?_ (Ev.now _))
    · rw [impl_ascends.l0, if_neg (by omega)]
    · rw [List.drop_eq_nil_of_le (by omega)]; rfl
  | succ d ih =>
    intro i p hi' h0 h1
    have hlt : i < l.length := by omega
    rw [drop_at l i hlt]
    by_cases hr : 0 ≤ l.getD i 0 ∧ l.getD i 0 ≤ hi
    · by_cases hz : i = 0
      · subst hz
        have hp := h0 rfl
        refine Ev.step (f := fun k => impl_ascends.l0 k l hi l (l.length : Int) ((0 + 1 : Nat) : Int)) (fun k => ?_) (Evto ?_ (ih (0 + 1) (l.getD 0 0) (by omega) (by omega) (fun _ => rfl)))
        · rw [impl_ascends.l0, if_pos (by omega), if_pos (by omega), if_pos (by omega), rd_nat, impl_within_f, Option.bind_some, if_pos (decide_eq_true hr), if_neg (by omega), wsucc 0 (by omega)]
        · rw [ascP, decide_eq_true (by omega)]; rfl
      · have hp := h1 (by omega)
        have hm : wrap64 ((i : Int) - 1) = ((i - 1 : Nat) : Int) := by rw [w64 (by omega) (by omega)]; omega
        by_cases hlt2 : p < l.getD i 0
        · refine Ev.step (f := fun k => impl_ascends.l0 k l hi l (l.length : Int) ((i + 1 : Nat) : Int)) (fun k => ?_) (Evto ?_ (ih (i + 1) (l.getD i 0) (by omega) (by omega) (fun _ => rfl)))
          · rw [impl_ascends.l0, if_pos (by omega), if_pos (by omega), if_pos (by omega), rd_nat, impl_within_f, Option.bind_some, if_pos (decide_eq_true hr), if_pos (by omega), hm, if_pos (by omega), if_pos (by omega), rd_nat, ← hp, if_neg (by omega), wsucc i (by omega)]
          · rw [ascP, decide_eq_true (by omega)]; rfl
        · refine Ev.step (f := fun _ => some false) (fun k => ?_) (Evto ?_ (Ev.now _))
          · rw [impl_ascends.l0, if_pos (by omega), if_pos (by omega), if_pos (by omega), rd_nat, impl_within_f, Option.bind_some, if_pos (decide_eq_true hr), if_pos (by omega), hm, if_pos (by omega), if_pos (by omega), rd_nat, ← hp, if_pos (by omega)]
          · rw [ascP, decide_eq_false (by omega)]; rfl
    · refine Ev.step (f := fun _ => some false) (fun k => ?_) (Evto ?_ (Ev.now _))
      · rw [impl_ascends.l0, if_pos (by omega), if_pos (by omega), if_pos (by omega), rd_nat, impl_within_f, Option.bind_some, decide_eq_false hr, if_neg (by decide)]
      · rw [ascP, decide_eq_false (by omega)]; rfl
theorem impl_ascends_f (l : List Int) (hi : Int) (hn : l.length < 4611686018427387904) : Ev (fun k => impl_ascends.f k l hi) (asc hi l) :=
  Ev.congr (fun k => by rw [impl_ascends.f]; rfl) (impl_ascends_l0 l hi hn l.length 0 (-1) (by omega) (fun _ => rfl) (fun h => by omega))

/-! nmaskm -/
def nmaskG (l : List Int) (x : Int) : Int := l.foldl (fun x n => Go.bits .or .i64 x (shl .i64 1 n)) x
def nodesMask (l : List Int) : Int := if asc 7 l = true then nmaskG l 0 else -1
theorem ascP_mem (hi : Int) (l : List Int) : ∀ p, ascP hi p l = true → ∀ x ∈ l, 0 ≤ x ∧ x ≤ hi := by
  induction l with
  | nil => intro p _ x hx; simp at hx
  | cons y t ih =>
    intro p h x hx
    simp only [ascP, Bool.and_eq_true, decide_eq_true_eq] at h
    rcases List.mem_cons.1 hx with rfl | hx
    · exact ⟨h.1.1, h.1.2.1⟩
    · exact ih y h.2 x hx
theorem nmaskG_cons (y : Int) (t : List Int) (x : Int) : nmaskG (y :: t) x = nmaskG t (Go.bits .or .i64 x (shl .i64 1 y)) := rfl

/-! snmask -/
theorem spec_NodesMask_l0 (l : List Int) (hn : l.length < 4611686018427387904) (h0 : ∀ x ∈ l, 0 ≤ x ∧ x ≤ 7) (d : Nat) : ∀ (i : Nat) (x : Int), i + d = l.length → Ev (fun k => spec_NodesMask.l0 k l x (i : Int)) (nmaskG (l.drop i) x) := by
  induction d with
  | zero =>
    intro i x hi
    refine Ev.step (f := fun _ => some x) (fun k => ?_) (Evto ?_ (Ev.now _))
    · rw [spec_NodesMask.l0, if_neg (by omega)]
    · rw [List.drop_eq_nil_of_le (by omega)]; rfl
  | succ d ih =>
    intro i x hi
    have hlt : i < l.length := by omega
    have hb := h0 (l.getD i 0) (by rw [getD_get l i hlt]; exact List.getElem_mem hlt)
    rw [drop_at l i hlt, nmaskG_cons]
    refine Ev.step (f := fun k => spec_NodesMask.l0 k l (Go.bits .or .i64 x (shl .i64 1 (l.getD i 0))) ((i + 1 : Nat) : Int)) (fun k => ?_) (ih (i + 1) _ (by omega))
    rw [spec_NodesMask.l0, if_pos (by omega), if_pos (by omega), rd_nat, if_pos (by omega), wsucc i (by omega)]
theorem spec_NodesMask_f (l : List Int) (hn : l.length < 4611686018427387904) : Ev (fun k => spec_NodesMask.f k l) (nodesMask l) := by
  refine Ev.congr (f := fun k => (spec_l4Asc.f k l 0 7).bind fun t => if t = true then spec_NodesMask.l0 k l 0 0 else some (-1)) (fun k => by rw [spec_NodesMask.f]) (Evbind (spec_l4Asc_f l 7 hn) ?_)
  unfold nodesMask
  by_cases h : asc 7 l = true
  · rw [if_pos h]; exact Evpos h (spec_NodesMask_l0 l hn (ascP_mem 7 l (-1) h) l.length 0 0 (by omega))
  · rw [if_neg h]; exact Evneg h (Ev.now _)

/-! inmask -/
theorem impl_NodesMask_l0 (l : List Int) (hn : l.length < 4611686018427387904) (h0 : ∀ x ∈ l, 0 ≤ x ∧ x ≤ 7) (d : Nat) : ∀ (i : Nat) (x : Int), i + d = l.length → Ev (fun k => impl_NodesMask.l0 k x l (l.length : Int) (i : Int)) (nmaskG (l.drop i) x) := by
  induction d with
  | zero =>
    intro i x hi
    refine Ev.step (f := fun _ => some x) (fun k => ?_) (Evto ?_ (Ev.now _))
    · rw [impl_NodesMask.l0, if_neg (by omega)]
    · rw [List.drop_eq_nil_of_le (by omega)]; rfl
  | succ d ih =>
    intro i x hi
    have hlt : i < l.length := by omega
    have hb := h0 (l.getD i 0) (by rw [getD_get l i hlt]; exact List.getElem_mem hlt)
    rw [drop_at l i hlt, nmaskG_cons]
    refine Ev.step (f := fun k => impl_NodesMask.l0 k (Go.bits .or .i64 x (shl .i64 1 (l.getD i 0))) l (l.length : Int) ((i + 1 : Nat) : Int)) (fun k => ?_) (ih (i + 1) _ (by omega))
    rw [impl_NodesMask.l0, if_pos (by omega), if_pos (by omega), if_pos (by omega), rd_nat, if_pos (by omega), wsucc i (by omega)]
theorem impl_NodesMask_f (l : List Int) (hn : l.length < 4611686018427387904) : Ev (fun k => impl_NodesMask.f k l) (nodesMask l) := by
  refine Ev.congr (f := fun k => (impl_ascends.f k l 7).bind fun t => if t = true then impl_NodesMask.l0 k 0 l (l.length : Int) 0 else some (-1)) (fun k => by rw [impl_NodesMask.f]) (Evbind (impl_ascends_f l 7 hn) ?_)
  unfold nodesMask
  by_cases h : asc 7 l = true
  · rw [if_pos h]; exact Evpos h (impl_NodesMask_l0 l hn (ascP_mem 7 l (-1) h) l.length 0 0 (by omega))
  · rw [if_neg h]; exact Evneg h (Ev.now _)

/-! eqInt -/
theorem eqIntS_l0 (x y : List Int) (hl : x.length = y.length) (hn : x.length < 4611686018427387904) (d : Nat) : ∀ i : Nat, i + d = x.length → Ev (fun k => laws_eqIntS.l0 k x y (i : Int)) (decide (x.drop i = y.drop i)) := by
  induction d with
  | zero =>
    intro i hi
    refine Ev.step (f := fun _ => some true) (fun k => ?_) ?_
    · rw [laws_eqIntS.l0, if_neg (by omega)]
    · rw [List.drop_eq_nil_of_le (by omega), List.drop_eq_nil_of_le (by omega)]; exact Ev.now _
  | succ d ih =>
    intro i hi
    have hx : i < x.length := by omega
    have hy : i < y.length := by omega
    have dx := List.drop_eq_getElem_cons hx
    have dy := List.drop_eq_getElem_cons hy
    by_cases e : x.getD i 0 = y.getD i 0
    · refine Ev.step (f := fun k => laws_eqIntS.l0 k x y ((i + 1 : Nat) : Int)) (fun k => ?_) (Evto ?_ (ih (i + 1) (by omega)))
      · rw [laws_eqIntS.l0, if_pos (by omega), if_pos (by omega), if_pos (by omega), rd_nat, rd_nat, if_pos e, wsucc i (by omega)]
      · rw [getD_get x i hx, getD_get y i hy] at e
        rw [dx, dy, e]; exact decide_eq_decide.2 ⟨fun h => by rw [h], fun h => (List.cons.inj h).2⟩
    · refine Ev.step (f := fun _ => some false) (fun k => ?_) (Evto ?_ (Ev.now _))
      · rw [laws_eqIntS.l0, if_pos (by omega), if_pos (by omega), if_pos (by omega), rd_nat, rd_nat, if_neg e]
      · rw [getD_get x i hx, getD_get y i hy] at e
        symm; apply decide_eq_false
        rw [dx, dy]; intro h; exact e (List.cons.inj h).1
theorem eqIntS_f (x y : List Int) (hn : x.length < 4611686018427387904) : Ev (fun k => laws_eqIntS.f k x y) (decide (x = y)) := by
  by_cases h : x.length = y.length
  · exact Ev.congr (fun k => by rw [laws_eqIntS.f, if_pos (by omega)]; rfl) (Evto (by simp) (eqIntS_l0 x y h hn x.length 0 (by omega)))
  · refine Ev.congr (g := fun k => laws_eqIntS.f k x y) (f := fun _ => some false) (fun k => by rw [laws_eqIntS.f, if_neg (by omega)]) (Evto ?_ (Ev.now _))
    symm; apply decide_eq_false; intro e; exact h (by rw [e])
theorem eqIntS_refl (x : List Int) (hn : x.length < 4611686018427387904) : Ev (fun k => laws_eqIntS.f k x x) true := Evto (by simp) (eqIntS_f x x hn)

/-! toInt -/
theorem toIntS_l0 (l : List Int) (hn : l.length < 4611686018427387904) (d : Nat) : ∀ (i : Nat) (x : List Int), i + d = l.length → x.length = l.length → (∀ j, j < i → x[j]? = l[j]?) → Ev (fun k => laws_toIntS.l0 k l x (i : Int)) l := by
  induction d with
  | zero =>
    intro i x hi hx h
    refine Ev.step (f := fun _ => some x) (fun k => ?_) (Evto ?_ (Ev.now _))
    · rw [laws_toIntS.l0, if_neg (by omega)]
    · apply List.ext_getElem?; intro j
      by_cases hj : j < i
      · exact h j hj
      · rw [List.getElem?_eq_none (by omega), List.getElem?_eq_none (by omega)]
  | succ d ih =>
    intro i x hi hx h
    refine Ev.step (f := fun k => laws_toIntS.l0 k l (x.set i (l.getD i 0)) ((i + 1 : Nat) : Int)) (fun k => ?_) (ih (i + 1) _ (by omega) (by simp [hx]) ?_)
    · rw [laws_toIntS.l0, if_pos (by omega), if_pos (by omega), if_pos (by omega), rd_nat, wsucc i (by omega), Int.toNat_natCast]
    · intro j hj
      rw [List.getElem?_set]
      by_cases e : i = j
      · subst e; rw [if_pos rfl, if_pos (by omega), get_getD l i (by omega)]
      · rw [if_neg e]; exact h j (by omega)
theorem toIntS_f (l : List Int) (hn : l.length ≤ 35184372088832) : Ev (fun k => laws_toIntS.f k l) l :=
  Ev.congr (fun k => by rw [laws_toIntS.f, if_pos (by omega), if_pos (by simp; omega)]; rfl) (toIntS_l0 l (by omega) l.length 0 _ (by omega) (by simp) (fun j hj => by omega))


theorem FnExactNodesMask (l0 : List Int) (hl0 : l0.length ≤ maxLen ∧ ∀ x ∈ l0, (Lit.int .i64 x).wf = true) : ∃ k, laws_FnExactNodesMask.f k l0 = some true := by
  refine Ev.rounds (g := fun k => laws_FnExactNodesMask.f k l0) ?_
  unfold laws_FnExactNodesMask.f
  by_cases hbig : (l0.length : Int) > 1048576
  · exact Evpos hbig (Ev.now _)
  refine Evneg hbig ?_
  have hb : l0.length ≤ 1048576 := by omega
  refine Evbind (toIntS_f l0 (by omega)) ?_
  refine Evbind (spec_NodesMask_f l0 (by omega)) ?_
  refine Evbind (toIntS_f l0 (by omega)) ?_
  refine Evbind (impl_NodesMask_f l0 (by omega)) ?_
  refine Evpos rfl ?_
  refine Evbind (toIntS_f l0 (by omega)) ?_
  refine Evbind (eqIntS_refl l0 (by omega)) ?_
  exact Evpos rfl (Ev.now _)

end Go.Proofs.Ytckjofnldacpaaa.Pure
