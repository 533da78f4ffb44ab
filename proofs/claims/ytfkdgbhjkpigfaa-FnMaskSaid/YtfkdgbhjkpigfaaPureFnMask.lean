/- The nodes of a drawn mask have just that mask, and a drawn list that has a mask is the nodes of it. Conditions: none beyond the given statement. -/
import Derived.Test.YtfkdgbhjkpigfaaMFnMaskx3
import Derived.OpenShut
import Derived.Laws.BitsLemmas
namespace Go.Proofs.Ytfkdgbhjkpigfaa.Pure
open Go.RowKit Go.Proofs.Ytfkdgbhjkpigfaa.PFnMask Go.Proofs.YtfkdgbhjkpigfaaW.PrintWords Go.Proofs.YtfkdgbhjkpigfaaW.PrintLast Go.Proofs.YtfkdgbhjkpigfaaW.PrintMore
set_option linter.unusedVariables false
set_option linter.unusedSimpArgs false
/-! base -/
theorem w64 {n : Int} (h : -9223372036854775808 ≤ n) (h2 : n ≤ 9223372036854775807) : wrap64 n = n := by unfold wrap64; omega
theorem wsucc (i : Nat) (h : i < 4611686018427387904) : wrap64 ((i : Int) + 1) = ((i + 1 : Nat) : Int) := by unfold wrap64; omega
theorem wf64 {n : Int} (h : (Lit.int .i64 n).wf = true) : -9223372036854775808 ≤ n ∧ n ≤ 9223372036854775807 := bounds_i64 h
theorem Evpos {α : Type} {c : Prop} [Decidable c] {a b : Nat → Option α} {r : α} (h : c) (e : Ev a r) : Ev (fun k => if c then a k else b k) r := Ev.congr (fun _ => if_pos h) e
theorem Evneg {α : Type} {c : Prop} [Decidable c] {a b : Nat → Option α} {r : α} (h : ¬ c) (e : Ev b r) : Ev (fun k => if c then a k else b k) r := Ev.congr (fun _ => if_neg h) e
theorem Evsome {α β : Type} {a : α} {f : Nat → α → Option β} {r : β} (e : Ev (fun k => f k a) r) : Ev (fun k => (some a).bind (f k)) r := e
theorem Evbind {α β : Type} {g : Nat → Option α} {f : Nat → α → Option β} {a : α} {r : β} (h : Ev g a) (e : Ev (fun n => f n a) r) : Ev (fun n => (g n).bind (f n)) r := Ev.bind h e
theorem Evconst {α : Type} {g : Option α} {r : α} (h : g = some r) : Ev (fun _ => g) r := ⟨0, fun _ _ => h⟩
theorem Evto {α : Type} {g : Nat → Option α} {r r' : α} (h : r = r') (e : Ev g r) : Ev g r' := h ▸ e
theorem rd_nat (xs : List Int) (i : Nat) : rd xs (i : Int) = xs.getD i 0 := by simp [rd]
theorem getD_get (xs : List Int) (i : Nat) (h : i < xs.length) : xs.getD i 0 = xs[i] := by simp [List.getD_eq_getElem?_getD, List.getElem?_eq_getElem h]
theorem get_getD (xs : List Int) (i : Nat) (h : i < xs.length) : xs[i]? = some (xs.getD i 0) := by simp [List.getD_eq_getElem?_getD, List.getElem?_eq_getElem h]
theorem wf_getD {kd : IntKind} (xs : List Int) (hw : ∀ x ∈ xs, (Lit.int kd x).wf = true) (i : Nat) (h : i < xs.length) : (Lit.int kd (xs.getD i 0)).wf = true := by
  rw [getD_get xs i h]; exact hw _ (List.getElem_mem h)
theorem wf_iff (k : IntKind) (n : Int) : (Lit.int k n).wf = true ↔ k.min ≤ n ∧ n ≤ k.max := by simp [Lit.wf]
theorem wf8 {n : Int} (h : (Lit.int .u8 n).wf = true) : 0 ≤ n ∧ n ≤ 255 := by
  have := (wf_iff .u8 n).1 h
  simpa [IntKind.min, IntKind.max, IntKind.bits, IntKind.signed] using this
theorem wf_mk8 {n : Int} (h : 0 ≤ n) (h2 : n ≤ 255) : (Lit.int .u8 n).wf = true :=
  (wf_iff .u8 n).2 (by simp [IntKind.min, IntKind.max, IntKind.bits, IntKind.signed]; omega)
theorem wf_mk64 {n : Int} (h : -9223372036854775808 ≤ n) (h2 : n ≤ 9223372036854775807) : (Lit.int .i64 n).wf = true :=
  (wf_iff .i64 n).2 (by simp [IntKind.min, IntKind.max, IntKind.bits, IntKind.signed]; omega)
theorem drop_at (b : List Int) (j : Nat) (h : j < b.length) : b.drop j = b.getD j 0 :: b.drop (j + 1) := by
  rw [List.drop_eq_getElem_cons h, getD_get b j h]
theorem p63 : (2 : Int) ^ 63 = 9223372036854775808 := by decide
theorem p1289 : (128 : Nat) ^ 9 = 9223372036854775808 := by decide
theorem p27 : (2 : Int) ^ 7 = 128 := by decide
theorem natpos (i : Nat) : ((i : Int) > 0) ↔ 0 < i := by omega

/-! specin -/
theorem spec_l1In_f (a b c : Int) : spec_l1In.f a b c = some (decide (b ≤ a ∧ a ≤ c)) := by
  unfold spec_l1In.f
  by_cases h : a ≥ b
  · rw [if_pos h]; congr 1; exact decide_eq_decide.2 (by omega)
  · rw [if_neg h]; congr 1; symm; exact decide_eq_false (by omega)

/-! within -/
theorem impl_within_f (a b c : Int) : impl_within.f a b c = some (decide (b ≤ a ∧ a ≤ c)) := by
  unfold impl_within.f
  by_cases h : a ≥ b
  · rw [if_pos h]; congr 1; exact decide_eq_decide.2 (by omega)
  · rw [if_neg h]; congr 1; symm; exact decide_eq_false (by omega)

/-! maskm -/
def mnodes (m : Int) : Nat → Nat → List Int
  | 0, _ => []
  | d + 1, i => if Go.bits .and .i64 (shr .i64 m (i : Int)) 1 = 1 then (i : Int) :: mnodes m d (i + 1) else mnodes m d (i + 1)
def maskNodes (m : Int) : List Int := if 0 ≤ m ∧ m ≤ 255 then mnodes m 8 0 else []
theorem mnodes_len (m : Int) (d : Nat) : ∀ i, (mnodes m d i).length ≤ d := by
  induction d with
  | zero => intro i; simp [mnodes]
  | succ d ih =>
    intro i
    have := ih (i + 1)
    rw [mnodes]
    by_cases h : Go.bits .and .i64 (shr .i64 m (i : Int)) 1 = 1
    · rw [if_pos h]; simp; omega
    · rw [if_neg h]; omega
theorem maskNodes_len (m : Int) : (maskNodes m).length ≤ 8 := by
  unfold maskNodes
  by_cases h : 0 ≤ m ∧ m ≤ 255
  · rw [if_pos h]; exact mnodes_len m 8 0
  · rw [if_neg h]; simp

/-! smask -/
theorem spec_MaskNodes_l0 (m : Int) (hm : 0 ≤ m ∧ m ≤ 255) (d : Nat) : ∀ (i : Nat) (x : List Int), i + d = 8 → x.length ≤ i → Ev (fun k => spec_MaskNodes.l0 k m x (i : Int)) (x ++ mnodes m d i) := by
  induction d with
  | zero =>
    intro i x hi hx
    refine Ev.step (f := fun k => spec_MaskNodes.j1 k m x (i : Int) false) (fun k => ?_) (Ev.step (f := fun _ => some x) (fun k => ?_) (Evto ?_ (Ev.now _)))
    · rw [spec_MaskNodes.l0, if_neg (by omega)]
    · rw [spec_MaskNodes.j1, if_neg (by decide)]
    · simp [mnodes]
  | succ d ih =>
    intro i x hi hx
    refine Ev.step (f := fun k => spec_MaskNodes.j1 k m x (i : Int) true) (fun k => ?_) ?_
    · rw [spec_MaskNodes.l0, if_pos (by omega), spec_l1In_f, Option.bind_some, decide_eq_true hm]
    by_cases h : Go.bits .and .i64 (shr .i64 m (i : Int)) 1 = 1
    · refine Ev.step (f := fun k => spec_MaskNodes.l0 k m (x ++ [(i : Int)]) ((i + 1 : Nat) : Int)) (fun k => ?_) (Evto ?_ (ih (i + 1) _ (by omega) (by simp; omega)))
      · rw [spec_MaskNodes.j1, if_pos rfl, if_pos (by omega), if_pos h, if_pos (by omega), wsucc i (by omega)]
      · rw [mnodes, if_pos h]; simp
    · refine Ev.step (f := fun k => spec_MaskNodes.l0 k m x ((i + 1 : Nat) : Int)) (fun k => ?_) (Evto ?_ (ih (i + 1) _ (by omega) (by omega)))
      · rw [spec_MaskNodes.j1, if_pos rfl, if_pos (by omega), if_neg h, wsucc i (by omega)]
      · rw [mnodes, if_neg h]
theorem spec_MaskNodes_f (m : Int) : Ev (fun k => spec_MaskNodes.f k m) (maskNodes m) := by
  unfold maskNodes
  by_cases hm : 0 ≤ m ∧ m ≤ 255
  · rw [if_pos hm]
    exact Ev.congr (fun k => by rw [spec_MaskNodes.f]; rfl) (spec_MaskNodes_l0 m hm 8 0 [] (by omega) (by simp))
  · rw [if_neg hm]
    refine Ev.congr (f := fun k => spec_MaskNodes.l0 k m [] 0) (fun k => by rw [spec_MaskNodes.f]) (Ev.step (f := fun k => spec_MaskNodes.j1 k m [] 0 false) (fun k => ?_) (Ev.step (f := fun _ => some []) (fun k => ?_) (Ev.now _)))
    · rw [spec_MaskNodes.l0, if_pos (by omega), spec_l1In_f, Option.bind_some, decide_eq_false hm]
    · rw [spec_MaskNodes.j1, if_neg (by decide)]

/-! imask -/
theorem impl_MaskNodes_l0 (m : Int) (d : Nat) : ∀ (i : Nat) (x : List Int), i + d = 8 → x.length ≤ i → Ev (fun k => impl_MaskNodes.l0 k m x (i : Int)) (x ++ mnodes m d i) := by
  induction d with
  | zero =>
    intro i x hi hx
    refine Ev.step (f := fun _ => some x) (fun k => ?_) (Evto ?_ (Ev.now _))
    · rw [impl_MaskNodes.l0, if_neg (by omega)]
    · simp [mnodes]
  | succ d ih =>
    intro i x hi hx
    by_cases h : Go.bits .and .i64 (shr .i64 m (i : Int)) 1 = 1
    · refine Ev.step (f := fun k => impl_MaskNodes.l0 k m (x ++ [(i : Int)]) ((i + 1 : Nat) : Int)) (fun k => ?_) (Evto ?_ (ih (i + 1) _ (by omega) (by simp; omega)))
      · rw [impl_MaskNodes.l0, if_pos (by omega), if_pos (by omega), if_pos h, if_pos (by omega), wsucc i (by omega)]
      · rw [mnodes, if_pos h]; simp
    · refine Ev.step (f := fun k => impl_MaskNodes.l0 k m x ((i + 1 : Nat) : Int)) (fun k => ?_) (Evto ?_ (ih (i + 1) _ (by omega) (by omega)))
      · rw [impl_MaskNodes.l0, if_pos (by omega), if_pos (by omega), if_neg h, wsucc i (by omega)]
      · rw [mnodes, if_neg h]
theorem impl_MaskNodes_f (m : Int) : Ev (fun k => impl_MaskNodes.f k m) (maskNodes m) := by
  unfold maskNodes
  by_cases hm : 0 ≤ m ∧ m ≤ 255
  · rw [if_pos hm]
    exact Ev.congr (f := fun k => impl_MaskNodes.l0 k m [] ((0 : Nat) : Int)) (fun k => by simp only [impl_MaskNodes.f, Option.bind_some, impl_within_f]; rw [if_pos (decide_eq_true hm)]; rfl) (impl_MaskNodes_l0 m 8 0 [] (by omega) (by simp))
  · rw [if_neg hm]
    exact Ev.congr (f := fun _ => some []) (fun k => by simp only [impl_MaskNodes.f, Option.bind_some, impl_within_f]; rw [decide_eq_false hm, if_neg (by decide)]) (Ev.now _)

/-! ascm -/
def ascP (hi : Int) : Int → List Int → Bool
  | _, [] => true
  | p, x :: t => decide (0 ≤ x ∧ x ≤ hi ∧ p < x) && ascP hi x t
def asc (hi : Int) (l : List Int) : Bool := ascP hi (-1) l

/-! sasc -/
theorem spec_l4Asc_l0 (l : List Int) (hi : Int) (hn : l.length < 4611686018427387904) (d : Nat) : ∀ (i : Nat) (p : Int), i + d = l.length → (i = 0 → p = -1) → (0 < i → p = l.getD (i - 1) 0) → Ev (fun k => spec_l4Asc.l0 k l 0 hi (i : Int)) (ascP hi p (l.drop i)) := by
  induction d with
  | zero =>
    intro i p hi' h0 h1
    refine Ev.step (f := fun _ => some true) (fun k => ?_) (Evto ?_ (Ev.now _))
    · rw [spec_l4Asc.l0, if_neg (by omega)]
    · rw [List.drop_eq_nil_of_le (by omega)]; rfl
  | succ d ih =>
    intro i p hi' h0 h1
    have hlt : i < l.length := by omega
    rw [drop_at l i hlt]
    by_cases hr : 0 ≤ l.getD i 0 ∧ l.getD i 0 ≤ hi
    · by_cases hz : i = 0
      · subst hz
        have hp := h0 rfl
        refine Ev.step (f := fun k => spec_l4Asc.l0 k l 0 hi ((0 + 1 : Nat) : Int)) (fun k => ?_) (Evto ?_ (ih (0 + 1) (l.getD 0 0) (by omega) (by omega) (fun _ => rfl)))
        · rw [spec_l4Asc.l0, if_pos (by omega), if_pos (by omega), rd_nat, spec_l1In_f, Option.bind_some, if_pos (decide_eq_true hr), if_neg (by omega), wsucc 0 (by omega)]
        · rw [ascP, decide_eq_true (by omega)]; rfl
      · have hp := h1 (by omega)
        have hm : wrap64 ((i : Int) - 1) = ((i - 1 : Nat) : Int) := by rw [w64 (by omega) (by omega)]; omega
        by_cases hlt2 : p < l.getD i 0
        · refine Ev.step (f := fun k => spec_l4Asc.l0 k l 0 hi ((i + 1 : Nat) : Int)) (fun k => ?_) (Evto ?_ (ih (i + 1) (l.getD i 0) (by omega) (by omega) (fun _ => rfl)))
          · rw [spec_l4Asc.l0, if_pos (by omega), if_pos (by omega), rd_nat, spec_l1In_f, Option.bind_some, if_pos (decide_eq_true hr), if_pos (by omega), hm, if_pos (by omega), if_pos (by omega), rd_nat, ← hp, if_neg (by omega), wsucc i (by omega)]
          · rw [ascP, decide_eq_true (by omega)]; rfl
        · refine Ev.step (f := fun _ => some false) (fun k => ?_) (Evto ?_ (Ev.now _))
          · rw [spec_l4Asc.l0, if_pos (by omega), if_pos (by omega), rd_nat, spec_l1In_f, Option.bind_some, if_pos (decide_eq_true hr), if_pos (by omega), hm, if_pos (by omega), if_pos (by omega), rd_nat, ← hp, if_pos (by omega)]
          · rw [ascP, decide_eq_false (by omega)]; rfl
    · refine Ev.step (f := fun _ => some false) (fun k => ?_) (Evto ?_ (Ev.now _))
      · rw [spec_l4Asc.l0, if_pos (by omega), if_pos (by omega), rd_nat, spec_l1In_f, Option.bind_some, decide_eq_false hr, if_neg (by decide)]
      · rw [ascP, decide_eq_false (by omega)]; rfl
theorem spec_l4Asc_f (l : List Int) (hi : Int) (hn : l.length < 4611686018427387904) : Ev (fun k => spec_l4Asc.f k l 0 hi) (asc hi l) :=
  Ev.congr (fun k => by rw [spec_l4Asc.f]; rfl) (spec_l4Asc_l0 l hi hn l.length 0 (-1) (by omega) (fun _ => rfl) (fun h => by omega))

/-! iasc -/
theorem impl_ascends_l0 (l : List Int) (hi : Int) (hn : l.length < 4611686018427387904) (d : Nat) : ∀ (i : Nat) (p : Int), i + d = l.length → (i = 0 → p = -1) → (0 < i → p = l.getD (i - 1) 0) → Ev (fun k => impl_ascends.l0 k l hi l (l.length : Int) (i : Int)) (ascP hi p (l.drop i)) := by
  induction d with
  | zero =>
    intro i p hi' h0 h1
    refine Ev.step (f := fun _ => some true) (fun k => ?_) (Evto ?_ (Ev.now _))
    · rw [impl_ascends.l0, if_neg (by omega)]
    · rw [List.drop_eq_nil_of_le (by omega)]; rfl
  | succ d ih =>
    intro i p hi' h0 h1
    have hlt : i < l.length := by omega
    rw [drop_at l i hlt]
    by_cases hr : 0 ≤ l.getD i 0 ∧ l.getD i 0 ≤ hi
    · by_cases hz : i = 0
      · subst hz
        have hp := h0 rfl
        refine Ev.step (f := fun k => impl_ascends.l0 k l hi l (l.length : Int) ((0 + 1 : Nat) : Int)) (fun k => ?_) (Evto ?_ (ih (0 + 1) (l.getD 0 0) (by omega) (by omega) (fun _ => rfl)))
        · rw [impl_ascends.l0, if_pos (by omega), if_pos (by omega), if_pos (by omega), rd_nat, impl_within_f, Option.bind_some, if_pos (decide_eq_true hr), if_neg (by omega), wsucc 0 (by omega)]
        · rw [ascP, decide_eq_true (by omega)]; rfl
      · have hp := h1 (by omega)
        have hm : wrap64 ((i : Int) - 1) = ((i - 1 : Nat) : Int) := by rw [w64 (by omega) (by omega)]; omega
        by_cases hlt2 : p < l.getD i 0
        · refine Ev.step (f := fun k => impl_ascends.l0 k l hi l (l.length : Int) ((i + 1 : Nat) : Int)) (fun k => ?_) (Evto ?_ (ih (i + 1) (l.getD i 0) (by omega) (by omega) (fun _ => rfl)))
          · rw [impl_ascends.l0, if_pos (by omega), if_pos (by omega), if_pos (by omega), rd_nat, impl_within_f, Option.bind_some, if_pos (decide_eq_true hr), if_pos (by omega), hm, if_pos (by omega), if_pos (by omega), rd_nat, ← hp, if_neg (by omega), wsucc i (by omega)]
          · rw [ascP, decide_eq_true (by omega)]; rfl
        · refine Ev.step (f := fun _ => some false) (fun k => ?_) (Evto ?_ (Ev.now _))
          · rw [impl_ascends.l0, if_pos (by omega), if_pos (by omega), if_pos (by omega), rd_nat, impl_within_f, Option.bind_some, if_pos (decide_eq_true hr), if_pos (by omega), hm, if_pos (by omega), if_pos (by omega), rd_nat, ← hp, if_pos (by omega)]
          · rw [ascP, decide_eq_false (by omega)]; rfl
    · refine Ev.step (f := fun _ => some false) (fun k => ?_) (Evto ?_ (Ev.now _))
      · rw [impl_ascends.l0, if_pos (by omega), if_pos (by omega), if_pos (by omega), rd_nat, impl_within_f, Option.bind_some, decide_eq_false hr, if_neg (by decide)]
      · rw [ascP, decide_eq_false (by omega)]; rfl
theorem impl_ascends_f (l : List Int) (hi : Int) (hn : l.length < 4611686018427387904) : Ev (fun k => impl_ascends.f k l hi) (asc hi l) :=
  Ev.congr (fun k => by rw [impl_ascends.f]; rfl) (impl_ascends_l0 l hi hn l.length 0 (-1) (by omega) (fun _ => rfl) (fun h => by omega))

/-! nmaskm -/
def nmaskG (l : List Int) (x : Int) : Int := l.foldl (fun x n => Go.bits .or .i64 x (shl .i64 1 n)) x
def nodesMask (l : List Int) : Int := if asc 7 l = true then nmaskG l 0 else -1
theorem ascP_mem (hi : Int) (l : List Int) : ∀ p, ascP hi p l = true → ∀ x ∈ l, 0 ≤ x ∧ x ≤ hi := by
  induction l with
  | nil => intro p _ x hx; simp at hx
  | cons y t ih =>
    intro p h x hx
    simp only [ascP, Bool.and_eq_true, decide_eq_true_eq] at h
    rcases List.mem_cons.1 hx with rfl | hx
    · exact ⟨h.1.1, h.1.2.1⟩
    · exact ih y h.2 x hx
theorem nmaskG_cons (y : Int) (t : List Int) (x : Int) : nmaskG (y :: t) x = nmaskG t (Go.bits .or .i64 x (shl .i64 1 y)) := rfl

/-! snmask -/
theorem spec_NodesMask_l0 (l : List Int) (hn : l.length < 4611686018427387904) (h0 : ∀ x ∈ l, 0 ≤ x ∧ x ≤ 7) (d : Nat) : ∀ (i : Nat) (x : Int), i + d = l.length → Ev (fun k => spec_NodesMask.l0 k l x (i : Int)) (nmaskG (l.drop i) x) := by
  induction d with
  | zero =>
    intro i x hi
    refine Ev.step (f := fun _ => some x) (fun k => ?_) (Evto ?_ (Ev.now _))
    · rw [spec_NodesMask.l0, if_neg (by omega)]
    · rw [List.drop_eq_nil_of_le (by omega)]; rfl
  | succ d ih =>
    intro i x hi
    have hlt : i < l.length := by omega
    have hb := h0 (l.getD i 0) (by rw [getD_get l i hlt]; exact List.getElem_mem hlt)
    rw [drop_at l i hlt, nmaskG_cons]
    refine Ev.step (f := fun k => spec_NodesMask.l0 k l (Go.bits .or .i64 x (shl .i64 1 (l.getD i 0))) ((i + 1 : Nat) : Int)) (fun k => ?_) (ih (i + 1) _ (by omega))
    rw [spec_NodesMask.l0, if_pos (by omega), if_pos (by omega), rd_nat, if_pos (by omega), wsucc i (by omega)]
theorem spec_NodesMask_f (l : List Int) (hn : l.length < 4611686018427387904) : Ev (fun k => spec_NodesMask.f k l) (nodesMask l) := by
  refine Ev.congr (f := fun k => (spec_l4Asc.f k l 0 7).bind fun t => if t = true then spec_NodesMask.l0 k l 0 0 else some (-1)) (fun k => by rw [spec_NodesMask.f]) (Evbind (spec_l4Asc_f l 7 hn) ?_)
  unfold nodesMask
  by_cases h : asc 7 l = true
  · rw [if_pos h]; exact Evpos h (spec_NodesMask_l0 l hn (ascP_mem 7 l (-1) h) l.length 0 0 (by omega))
  · rw [if_neg h]; exact Evneg h (Ev.now _)

/-! inmask -/
theorem impl_NodesMask_l0 (l : List Int) (hn : l.length < 4611686018427387904) (h0 : ∀ x ∈ l, 0 ≤ x ∧ x ≤ 7) (d : Nat) : ∀ (i : Nat) (x : Int), i + d = l.length → Ev (fun k => impl_NodesMask.l0 k x l (l.length : Int) (i : Int)) (nmaskG (l.drop i) x) := by
  induction d with
  | zero =>
    intro i x hi
    refine Ev.step (f := fun _ => some x) (fun k => ?_) (Evto ?_ (Ev.now _))
    · rw [impl_NodesMask.l0, if_neg (by omega)]
    · rw [List.drop_eq_nil_of_le (by omega)]; rfl
  | succ d ih =>
    intro i x hi
    have hlt : i < l.length := by omega
    have hb := h0 (l.getD i 0) (by rw [getD_get l i hlt]; exact List.getElem_mem hlt)
    rw [drop_at l i hlt, nmaskG_cons]
    refine Ev.step (f := fun k => impl_NodesMask.l0 k (Go.bits .or .i64 x (shl .i64 1 (l.getD i 0))) l (l.length : Int) ((i + 1 : Nat) : Int)) (fun k => ?_) (ih (i + 1) _ (by omega))
    rw [impl_NodesMask.l0, if_pos (by omega), if_pos (by omega), if_pos (by omega), rd_nat, if_pos (by omega), wsucc i (by omega)]
theorem impl_NodesMask_f (l : List Int) (hn : l.length < 4611686018427387904) : Ev (fun k => impl_NodesMask.f k l) (nodesMask l) := by
  refine Ev.congr (f := fun k => (impl_ascends.f k l 7).bind fun t => if t = true then impl_NodesMask.l0 k 0 l (l.length : Int) 0 else some (-1)) (fun k => by rw [impl_NodesMask.f]) (Evbind (impl_ascends_f l 7 hn) ?_)
  unfold nodesMask
  by_cases h : asc 7 l = true
  · rw [if_pos h]; exact Evpos h (impl_NodesMask_l0 l hn (ascP_mem 7 l (-1) h) l.length 0 0 (by omega))
  · rw [if_neg h]; exact Evneg h (Ev.now _)

/-! maskback -/
def subs : Nat → Int → List (List Int)
  | 0, _ => [[]]
  | d + 1, s => (subs d (s + 1)).map (s :: ·) ++ subs d (s + 1)
theorem nil_subs (d : Nat) : ∀ s, [] ∈ subs d s := by
  induction d with
  | zero => intro s; simp [subs]
  | succ d ih => intro s; rw [subs]; exact List.mem_append_right _ (ih (s + 1))
theorem asc_subs (d : Nat) : ∀ (s p : Int) (l : List Int), s + d = 8 → s ≤ p + 1 → ascP 7 p l = true → l ∈ subs d s := by
  induction d with
  | zero =>
    intro s p l hs hp h
    cases l with
    | nil => simp [subs]
    | cons x t => simp only [ascP, Bool.and_eq_true, decide_eq_true_eq] at h; omega
  | succ d ih =>
    intro s p l hs hp h
    cases l with
    | nil => exact nil_subs _ _
    | cons x t =>
      rw [subs]
      simp only [ascP, Bool.and_eq_true, decide_eq_true_eq] at h
      by_cases e : x = s
      · subst e
        exact List.mem_append_left _ (List.mem_map_of_mem (ih (x + 1) x t (by omega) (by omega) h.2))
      · refine List.mem_append_right _ (ih (s + 1) s (x :: t) (by omega) (by omega) ?_)
        simp only [ascP, Bool.and_eq_true, decide_eq_true_eq]
        exact ⟨⟨h.1.1, h.1.2.1, by omega⟩, h.2⟩
theorem subs_back : ∀ l ∈ subs 8 0, maskNodes (nodesMask l) = l := by decide +kernel
theorem mask_back0 : ∀ n : Fin 256, nodesMask (maskNodes (n.val : Int)) = (n.val : Int) := by decide +kernel
theorem mask_back (m : Int) (h0 : 0 ≤ m) (h1 : m ≤ 255) : nodesMask (maskNodes m) = m := by
  obtain ⟨n, rfl⟩ := Int.eq_ofNat_of_zero_le h0
  exact mask_back0 ⟨n, by omega⟩
theorem nodes_back (l : List Int) (h : 0 ≤ nodesMask l) : maskNodes (nodesMask l) = l := by
  have ha : asc 7 l = true := by
    by_cases ha : asc 7 l = true
    · exact ha
    · rw [nodesMask, if_neg ha] at h; omega
  exact subs_back l (asc_subs 8 0 (-1) l (by omega) (by omega) ha)

/-! down -/
theorem down {p : Nat → Prop} (n : Nat) (h0 : p n) (hs : ∀ i, i < n → p (i + 1) → p i) (i : Nat) (hi : i ≤ n) : p i := by
  obtain ⟨d, hd⟩ : ∃ d, i + d = n := ⟨n - i, by omega⟩
  induction d generalizing i with
  | zero => obtain rfl : i = n := by omega
            exact h0
  | succ d ih => exact hs i (by omega) (ih (i + 1) (by omega) (by omega))
theorem getD_mem (l : List Int) (i : Nat) (h : i < l.length) : l.getD i 0 ∈ l := by
  rw [getD_get l i h]; exact List.getElem_mem h

/-! drawnew -/
theorem l1New_l0 (b : List Int) (hb : b.length < 4611686018427387904) : ∀ i, i ≤ b.length → ∀ h : Int, ∃ h', Ev (fun k => spec_l1New.l0 k b h (i : Int)) (b, 0, h') := by
  refine down b.length ?_ ?_
  · intro h
    exact ⟨h, Ev.step (f := fun _ => some (b, 0, h)) (fun k => by rw [spec_l1New.l0, if_neg (by omega)]) (Ev.now _)⟩
  · intro i hi ih h
    by_cases c : (i : Int) < 4000
    · obtain ⟨h', e⟩ := ih (Go.bits .and .i64 (wrap64 ((wrap64 ((wrap64 (h * 131)) + (wrap64 (rd b i)))) + 7)) 1073741823)
      exact ⟨h', Ev.step (f := fun k => spec_l1New.l0 k b (Go.bits .and .i64 (wrap64 ((wrap64 ((wrap64 (h * 131)) + (wrap64 (rd b i)))) + 7)) 1073741823) ((i + 1 : Nat) : Int)) (fun k => by rw [spec_l1New.l0, if_pos (by omega), if_pos c, if_pos (by omega), wsucc i (by omega)]) e⟩
    · exact ⟨h, Ev.step (f := fun _ => some (b, 0, h)) (fun k => by rw [spec_l1New.l0, if_pos (by omega), if_neg c]) (Ev.now _)⟩
theorem l1New_f (b : List Int) (hb : b.length < 4611686018427387904) : ∃ h', Ev (fun k => spec_l1New.f k b) (b, 0, h') := by
  obtain ⟨h', e⟩ := l1New_l0 b hb 0 (by omega) (wrap64 (17817 + (b.length : Int)))
  exact ⟨h', Ev.congr (fun k => by rw [spec_l1New.f]; rfl) e⟩

/-! andbd -/
theorem and_bd (x : Int) (m : Nat) (hm : m < 9223372036854775808) : 0 ≤ Go.bits .and .i64 x (m : Int) ∧ Go.bits .and .i64 x (m : Int) ≤ m := by
  have hb : IntKind.bits .i64 = 64 := rfl
  have key : ((BitVec.ofInt 64 x) &&& (BitVec.ofInt 64 (m : Int))).toNat ≤ m := by
    rw [BitVec.toNat_and, BitVec.ofInt_natCast, BitVec.toNat_ofNat]
    exact Nat.le_trans Nat.and_le_right (Nat.mod_le _ _)
  have e : Go.bits .and .i64 x (m : Int) = IntKind.i64.wrap ((((BitVec.ofInt 64 x) &&& (BitVec.ofInt 64 (m : Int))).toNat : Nat) : Int) := rfl
  rw [e, IntKind.wrap_i64]
  generalize ((BitVec.ofInt 64 x) &&& (BitVec.ofInt 64 (m : Int))).toNat = z at *
  omega

/-! drawbyte -/
theorem l1Byte_f (b : List Int) (i h : Int) (h0 : 0 ≤ i) (h1 : i ≤ b.length) (hb : b.length < 4611686018427387904) : ∃ x i' h', spec_l1Byte.f b i h = some (x, i', h') ∧ 0 ≤ x ∧ x ≤ 255 ∧ 0 ≤ i' ∧ i' ≤ b.length := by
  unfold spec_l1Byte.f
  by_cases hc : i < (b.length : Int)
  · rw [if_pos hc, if_pos h0]
    have e : wrap64 (i + 1) = i + 1 := w64 (by omega) (by omega)
    have a := fun x => and_bd x 255 (by omega)
    exact ⟨_, _, _, rfl, (a _).1, (a _).2, by rw [e]; omega, by rw [e]; omega⟩
  · rw [if_neg hc]
    have a := fun x => and_bd x 255 (by omega)
    exact ⟨_, _, _, rfl, (a _).1, (a _).2, h0, h1⟩
theorem l1Below_f (b : List Int) (i h n : Int) (h0 : 0 ≤ i) (h1 : i ≤ b.length) (hb : b.length < 4611686018427387904) : ∃ x i' h', spec_l1Below.f b i h n = some (x, i', h') ∧ 0 ≤ x ∧ (0 < n → x < n) ∧ (n ≤ 0 → x = 0) ∧ x ≤ 4294967295 ∧ 0 ≤ i' ∧ i' ≤ b.length := by
  unfold spec_l1Below.f
  by_cases c1 : n ≤ 0
  · rw [if_pos c1]; exact ⟨_, _, _, rfl, by omega, by omega, fun _ => rfl, by omega, h0, h1⟩
  rw [if_neg c1]
  obtain ⟨x, i1, hh1, e1, b1⟩ := l1Byte_f b i h h0 h1 hb
  by_cases c2 : n ≤ 256
  · rw [if_pos c2, e1, Option.bind_some, if_neg (by omega)]
    have hm : Int.tmod x n = x % n := Int.tmod_eq_emod_of_nonneg (by omega)
    have hm1 := Int.emod_lt_of_pos x (show 0 < n by omega)
    have hm0 := Int.emod_nonneg x (show n ≠ 0 by omega)
    refine ⟨_, _, _, rfl, ?_⟩
    show 0 ≤ Int.tmod x n ∧ (0 < n → Int.tmod x n < n) ∧ (n ≤ 0 → Int.tmod x n = 0) ∧ Int.tmod x n ≤ 4294967295 ∧ 0 ≤ i1 ∧ i1 ≤ b.length
    rw [hm]
    exact ⟨hm0, fun _ => hm1, fun hh => absurd hh c1, by omega, b1.2.2.1, b1.2.2.2⟩
  · obtain ⟨y, i2, hh2, e2, b2⟩ := l1Byte_f b i1 hh1 b1.2.2.1 b1.2.2.2 hb
    obtain ⟨z, i3, hh3, e3, b3⟩ := l1Byte_f b i2 hh2 b2.2.2.1 b2.2.2.2 hb
    obtain ⟨w, i4, hh4, e4, b4⟩ := l1Byte_f b i3 hh3 b3.2.2.1 b3.2.2.2 hb
    rw [if_neg c2, e1, Option.bind_some]
    simp only [e2, e3, e4, Option.bind_some]
    rw [if_neg (by omega)]
    have w1 : wrap64 (x * 16777216) = x * 16777216 := w64 (by omega) (by omega)
    have w2 : wrap64 (y * 65536) = y * 65536 := w64 (by omega) (by omega)
    have w3 : wrap64 (x * 16777216 + y * 65536) = x * 16777216 + y * 65536 := w64 (by omega) (by omega)
    have w4 : wrap64 (z * 256) = z * 256 := w64 (by omega) (by omega)
    have w5 : wrap64 (x * 16777216 + y * 65536 + z * 256) = x * 16777216 + y * 65536 + z * 256 := w64 (by omega) (by omega)
    have w6 : wrap64 (x * 16777216 + y * 65536 + z * 256 + w) = x * 16777216 + y * 65536 + z * 256 + w := w64 (by omega) (by omega)
    rw [w1, w2, w3, w4, w5, w6]
    have hs0 : 0 ≤ x * 16777216 + y * 65536 + z * 256 + w := by omega
    have hs1 : x * 16777216 + y * 65536 + z * 256 + w ≤ 4294967295 := by omega
    generalize x * 16777216 + y * 65536 + z * 256 + w = s at *
    have hm : Int.tmod s n = s % n := Int.tmod_eq_emod_of_nonneg hs0
    have hm1 := Int.emod_lt_of_pos s (show 0 < n by omega)
    have hm0 := Int.emod_nonneg s (show n ≠ 0 by omega)
    have hm2 : s % n ≤ s := by
      have := Int.emod_add_mul_ediv s n
      have hq : 0 ≤ s / n := Int.ediv_nonneg hs0 (by omega)
      have : 0 ≤ n * (s / n) := Int.mul_nonneg (by omega) hq
      omega
    refine ⟨_, _, _, rfl, ?_⟩
    rw [hm]
    exact ⟨hm0, fun _ => hm1, fun hh => absurd hh c1, by omega, b4.2.2.1, b4.2.2.2⟩

/-! drawonce -/
theorem l1Once_f (b : List Int) (i h n : Int) (h0 : 0 ≤ i) (h1 : i ≤ b.length) (hb : b.length < 4611686018427387904) : ∃ x i' h', spec_l1Once.f b i h n = some (x, i', h') ∧ 0 ≤ i' ∧ i' ≤ b.length := by
  obtain ⟨x, i', h', e, b1⟩ := l1Below_f b i h n h0 h1 hb
  unfold spec_l1Once.f
  rw [e, Option.bind_some]
  exact ⟨_, _, _, rfl, b1.2.2.2.2⟩

/-! drawpick -/
theorem l1PickInt_f (b : List Int) (i h : Int) (l : List Int) (hl : 0 < l.length) (hl2 : l.length < 1000) (h0 : 0 ≤ i) (h1 : i ≤ b.length) (hb : b.length < 4611686018427387904) : ∃ x i' h', spec_l1PickInt.f b i h l = some (x, i', h') ∧ x ∈ l ∧ 0 ≤ i' ∧ i' ≤ b.length := by
  obtain ⟨x, i', h', e, b1⟩ := l1Below_f b i h (l.length : Int) h0 h1 hb
  unfold spec_l1PickInt.f
  have hx := b1.2.1 (by omega)
  obtain ⟨n, rfl⟩ := Int.eq_ofNat_of_zero_le b1.1
  rw [e, Option.bind_some]
  simp only []
  rw [if_pos b1.1, if_pos hx]
  refine ⟨_, _, _, rfl, ?_, b1.2.2.2.2⟩
  show rd l (n : Int) ∈ l
  rw [rd_nat]
  exact getD_mem l n (by omega)

/-! drawmask -/
theorem DrawMaskNodes_f (b : List Int) (hb : b.length < 4611686018427387904) : ∃ x, Ev (fun k => spec_DrawMaskNodes.f k b) x ∧ (Lit.int .i64 x).wf = true := by
  obtain ⟨h, e0⟩ := l1New_f b hb
  obtain ⟨o, i1, h1, e1, b1⟩ := l1Once_f b 0 h 9 (by omega) (by omega) hb
  cases o with
  | true =>
    obtain ⟨x, i2, h2, e2, hx, b2⟩ := l1PickInt_f b i1 h1 [(-1), 0, 255, 256, 9223372036854775807] (by decide) (by decide) b1.1 b1.2 hb
    refine ⟨x, ?_, ?_⟩
    · unfold spec_DrawMaskNodes.f
      exact Evbind e0 (Evbind (Evconst e1) (Evpos rfl (Evbind (Evconst e2) (Ev.now _))))
    · simp only [List.mem_cons, List.not_mem_nil, or_false] at hx
      apply wf_mk64 <;> omega
  | false =>
    obtain ⟨x, i2, h2, e2, b2⟩ := l1Below_f b i1 h1 256 b1.1 b1.2 hb
    refine ⟨x, ?_, ?_⟩
    · unfold spec_DrawMaskNodes.f
      exact Evbind e0 (Evbind (Evconst e1) (Evneg Bool.false_ne_true (Evbind (Evconst e2) (Ev.now _))))
    · have := b2.2.1 (by omega); apply wf_mk64 <;> omega

/-! drawnmask -/
theorem DrawNodesMask_f (b : List Int) (hb : b.length < 4611686018427387904) : ∃ l, Ev (fun k => spec_DrawNodesMask.f k b) l ∧ l.length ≤ 9 := by
  obtain ⟨h, e0⟩ := l1New_f b hb
  obtain ⟨m, i0, h0, em, bm⟩ := l1Below_f b 0 h 256 (by omega) (by omega) hb
  have hml := maskNodes_len m
  obtain ⟨o, i1, h1, e1, b1⟩ := l1Once_f b i0 h0 9 bm.2.2.2.2.1 bm.2.2.2.2.2 hb
  cases o with
  | true =>
    obtain ⟨x, i2, h2, e2, hx, b2⟩ := l1PickInt_f b i1 h1 [(-1), 8, 0] (by decide) (by decide) b1.1 b1.2 hb
    refine ⟨maskNodes m ++ [x], ?_, by simp; omega⟩
    unfold spec_DrawNodesMask.f
    exact Evbind e0 (Evbind (Evconst em) (Evbind (spec_MaskNodes_f m) (Evbind (Evconst e1) (Evpos rfl (Evbind (Evconst e2) (Evpos (by omega) (Ev.now _)))))))
  | false =>
    refine ⟨maskNodes m, ?_, by omega⟩
    unfold spec_DrawNodesMask.f
    exact Evbind e0 (Evbind (Evconst em) (Evbind (spec_MaskNodes_f m) (Evbind (Evconst e1) (Evneg Bool.false_ne_true (Ev.now _)))))

/-! same -/
theorem sameInts_l0 (x y : List Int) (hl : x.length = y.length) (hn : x.length < 4611686018427387904) (d : Nat) : ∀ i : Nat, i + d = x.length → Ev (fun k => laws_sameInts.l0 k x y (i : Int)) (decide (x.drop i = y.drop i)) := by
  induction d with
  | zero =>
    intro i hi
    refine Ev.step (f := fun _ => some true) (fun k => ?_) ?_
    · rw [laws_sameInts.l0, if_neg (by omega)]
    · rw [List.drop_eq_nil_of_le (by omega), List.drop_eq_nil_of_le (by omega)]; exact Ev.now _
  | succ d ih =>
    intro i hi
    have hx : i < x.length := by omega
    have hy : i < y.length := by omega
    have dx := List.drop_eq_getElem_cons hx
    have dy := List.drop_eq_getElem_cons hy
    by_cases e : x.getD i 0 = y.getD i 0
    · refine Ev.step (f := fun k => laws_sameInts.l0 k x y ((i + 1 : Nat) : Int)) (fun k => ?_) (Evto ?_ (ih (i + 1) (by omega)))
      · rw [laws_sameInts.l0, if_pos (by omega), if_pos (by omega), if_pos (by omega), rd_nat, rd_nat, if_pos e, wsucc i (by omega)]
      · rw [getD_get x i hx, getD_get y i hy] at e
        rw [dx, dy, e]; exact decide_eq_decide.2 ⟨fun h => by rw [h], fun h => (List.cons.inj h).2⟩
    · refine Ev.step (f := fun _ => some false) (fun k => ?_) (Evto ?_ (Ev.now _))
      · rw [laws_sameInts.l0, if_pos (by omega), if_pos (by omega), if_pos (by omega), rd_nat, rd_nat, if_neg e]
      · rw [getD_get x i hx, getD_get y i hy] at e
        symm; apply decide_eq_false
        rw [dx, dy]; intro h; exact e (List.cons.inj h).1
theorem sameInts_f (x y : List Int) (hn : x.length < 4611686018427387904) : Ev (fun k => laws_sameInts.f k x y) (decide (x = y)) := by
  by_cases h : x.length = y.length
  · exact Ev.congr (fun k => by rw [laws_sameInts.f, if_pos (by omega)]; rfl) (Evto (by simp) (sameInts_l0 x y h hn x.length 0 (by omega)))
  · refine Ev.congr (g := fun k => laws_sameInts.f k x y) (f := fun _ => some false) (fun k => by rw [laws_sameInts.f, if_neg (by omega)]) (Evto ?_ (Ev.now _))
    symm; apply decide_eq_false; intro e; exact h (by rw [e])
theorem sameInts_refl (x : List Int) (hn : x.length < 4611686018427387904) : Ev (fun k => laws_sameInts.f k x x) true := Evto (by simp) (sameInts_f x x hn)


theorem FnMask (l0 : List Int) (hl0 : l0.length ≤ maxLen ∧ ∀ x ∈ l0, (Lit.int .u8 x).wf = true) : ∃ k, laws_FnMask.f k l0 = some true := by
  refine Ev.rounds (g := fun k => laws_FnMask.f k l0) ?_
  unfold laws_FnMask.f laws_big.f
  simp only [Option.bind_some]
  by_cases hbig : (l0.length : Int) > 1048576
  · exact Evpos (decide_eq_true hbig) (Ev.now _)
  refine Evneg (by simpa using hbig) ?_
  have hb : l0.length < 4611686018427387904 := by omega
  obtain ⟨m, em, wm⟩ := DrawMaskNodes_f l0 hb
  obtain ⟨other, eo, ho⟩ := DrawNodesMask_f l0 hb
  have hml := maskNodes_len m
  refine Evbind em ?_
  refine Evbind (impl_MaskNodes_f m) ?_
  refine Evbind (spec_MaskNodes_f m) ?_
  refine Evbind (sameInts_refl _ (by omega)) ?_
  refine Evpos rfl ?_
  refine Evbind eo ?_
  refine Evbind (impl_NodesMask_f other (by omega)) ?_
  refine Evbind (spec_NodesMask_f other (by omega)) ?_
  refine Evpos rfl ?_
  have hout : (m < 0 ∨ m > 255) → Ev (fun k => laws_FnMask.j0 k m (maskNodes m) other (nodesMask other) true) true := by
    intro hh
    refine Ev.step (f := fun _ => some (((maskNodes m).length : Int) == 0)) (fun k => by rw [laws_FnMask.j0, if_pos rfl]) (Evto ?_ (Ev.now _))
    rw [maskNodes, if_neg (by omega)]; rfl
  by_cases h0 : m < 0
  · exact Evpos h0 (hout (.inl h0))
  refine Evneg h0 ?_
  by_cases h1 : m > 255
  · rw [decide_eq_true h1]; exact hout (.inr h1)
  rw [decide_eq_false h1]
  refine Ev.step (f := fun k => (impl_NodesMask.f k (maskNodes m)).bind fun t206 => (if t206 = m then (if nodesMask other < 0 then (some true) else ((impl_MaskNodes.f k (nodesMask other)).bind fun t207 => ((laws_sameInts.f k t207 other).bind fun t210 => (some t210)))) else (some false))) (fun k => by rw [laws_FnMask.j0, if_neg (by decide)]) ?_
  refine Evbind (impl_NodesMask_f (maskNodes m) (by omega)) ?_
  refine Evpos (mask_back m (by omega) (by omega)) ?_
  by_cases h2 : nodesMask other < 0
  · exact Evpos h2 (Ev.now _)
  refine Evneg h2 ?_
  refine Evbind (impl_MaskNodes_f (nodesMask other)) ?_
  rw [nodes_back other (by omega)]
  refine Evbind (sameInts_refl other (by omega)) ?_
  exact Ev.now _

end Go.Proofs.Ytfkdgbhjkpigfaa.Pure
