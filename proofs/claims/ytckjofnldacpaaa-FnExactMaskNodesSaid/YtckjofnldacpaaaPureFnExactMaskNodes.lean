/- The program's MaskNodes and the reference's give the same list at every number, each time in new memory. Conditions: none beyond the given statement. -/
import Derived.Test.YtckjofnldacpaaaPFnExactMaskNodesx2
import Derived.OpenShut
import Derived.Laws.BitsLemmas
namespace Go.Proofs.Ytckjofnldacpaaa.Pure
open Go.RowKit Go.Proofs.Ytckjofnldacpaaa.PFnExactMaskNodes Go.Proofs.YtckjofnldacpaaaW.PrintWords Go.Proofs.YtckjofnldacpaaaW.PrintLast Go.Proofs.YtckjofnldacpaaaW.PrintMore
set_option linter.unusedVariables false
set_option linter.unusedSimpArgs false
/-! base -/
theorem w64 {n : Int} (h : -9223372036854775808 ≤ n) (h2 : n ≤ 9223372036854775807) : wrap64 n = n := by unfold wrap64; omega
theorem wsucc (i : Nat) (h : i < 4611686018427387904) : wrap64 ((i : Int) + 1) = ((i + 1 : Nat) : Int) := by unfold wrap64; omega
theorem wf64 {n : Int} (h : (Lit.int .i64 n).wf = true) : -9223372036854775808 ≤ n ∧ n ≤ 9223372036854775807 := bounds_i64 h
theorem Evpos {α : Type} {c : Prop} [Decidable c] {a b : Nat → Option α} {r : α} (h : c) (e : Ev a r) : Ev (fun k => if c then a k else b k) r := Ev.congr (fun _ => if_pos h) e
theorem Evneg {α : Type} {c : Prop} [Decidable c] {a b : Nat → Option α} {r : α} (h : ¬ c) (e : Ev b r) : Ev (fun k => if c then a k else b k) r := Ev.congr (fun _ => if_neg h) e
theorem Evsome {α β : Type} {a : α} {f : Nat → α → Option β} {r : β} (e : Ev (fun k => f k a) r) : Ev (fun k => (some a).bind (f k)) r := e
theorem Evbind {α β : Type} {g : Nat → Option α} {f : Nat → α → Option β} {a : α} {r : β} (h : Ev g a) (e : Ev (fun n => f n a) r) : Ev (fun n => (g n).bind (f n)) r := Ev.bind h e
theorem Evconst {α : Type} {g : Option α} {r : α} (h : g = some r) : Ev (fun _ => g) r := ⟨0, fun _ _ => h⟩
theorem Evto {α : Type} {g : Nat → Option α} {r r' : α} (h : r = r') (e : Ev g r) : Ev g r' := h ▸ e
theorem rd_nat (xs : List Int) (i : Nat) : rd xs (i : Int) = xs.getD i 0 := by simp [rd]
theorem getD_get (xs : List Int) (i : Nat) (h : i < xs.length) : xs.getD i 0 = xs[i] := by simp [List.getD_eq_getElem?_getD, List.getElem?_eq_getElem h]
theorem get_getD (xs : List Int) (i : Nat) (h : i < xs.length) : xs[i]? = some (xs.getD i 0) := by simp [List.getD_eq_getElem?_getD, List.getElem?_eq_getElem h]
theorem wf_getD {kd : IntKind} (xs : List Int) (hw : ∀ x ∈ xs, (Lit.int kd x).wf = true) (i : Nat) (h : i < xs.length) : (Lit.int kd (xs.getD i 0)).wf = true := by
  rw [getD_get xs i h]; exact hw _ (List.getElem_mem h)
theorem wf_iff (k : IntKind) (n : Int) : (Lit.int k n).wf = true ↔ k.min ≤ n ∧ n ≤ k.max := by simp [Lit.wf]
theorem wf8 {n : Int} (h : (Lit.int .u8 n).wf = true) : 0 ≤ n ∧ n ≤ 255 := by
  have := (wf_iff .u8 n).1 h
  simpa [IntKind.min, IntKind.max, IntKind.bits, IntKind.signed] using this
theorem wf_mk8 {n : Int} (h : 0 ≤ n) (h2 : n ≤ 255) : (Lit.int .u8 n).wf = true :=
  (wf_iff .u8 n).2 (by simp [IntKind.min, IntKind.max, IntKind.bits, IntKind.signed]; omega)
theorem wf_mk64 {n : Int} (h : -9223372036854775808 ≤ n) (h2 : n ≤ 9223372036854775807) : (Lit.int .i64 n).wf = true :=
  (wf_iff .i64 n).2 (by simp [IntKind.min, IntKind.max, IntKind.bits, IntKind.signed]; omega)
theorem drop_at (b : List Int) (j : Nat) (h : j < b.length) : b.drop j = b.getD j 0 :: b.drop (j + 1) := by
  rw [List.drop_eq_getElem_cons h, getD_get b j h]
theorem p63 : (2 : Int) ^ 63 = 9223372036854775808 := by decide
theorem p1289 : (128 : Nat) ^ 9 = 9223372036854775808 := by decide
theorem p27 : (2 : Int) ^ 7 = 128 := by decide

/-! specin -/
theorem spec_l1In_f (a b c : Int) : spec_l1In.f a b c = some (decide (b ≤ a ∧ a ≤ c)) := by
  unfold spec_l1In.f
  by_cases h : a ≥ b
  · rw [if_pos h]; congr 1; exact decide_eq_decide.2 (by omega)
  · rw [if_neg h]; congr 1; symm; exact decide_eq_false (by omega)

/-! within -/
theorem impl_within_f (a b c : Int) : impl_within.f a b c = some (decide (b ≤ a ∧ a ≤ c)) := by
  unfold impl_within.f
  by_cases h : a ≥ b
  · rw [if_pos h]; congr 1; exact decide_eq_decide.2 (by omega)
  · rw [if_neg h]; congr 1; symm; exact decide_eq_false (by omega)

/-! maskm -/
def mnodes (m : Int) : Nat → Nat → List Int
  | 0, _ => []
  | d + 1, i => if Go.bits .and .i64 (shr .i64 m (i : Int)) 1 = 1 then (i : Int) :: mnodes m d (i + 1) else mnodes m d (i + 1)
def maskNodes (m : Int) : List Int := if 0 ≤ m ∧ m ≤ 255 then mnodes m 8 0 else []
theorem mnodes_len (m : Int) (d : Nat) : ∀ i, (mnodes m d i).length ≤ d := by
  induction d with
  | zero => intro i; simp [mnodes]
  | succ d ih =>
    intro i
    have := ih (i + 1)
    rw [mnodes]
    by_cases h : Go.bits .and .i64 (shr .i64 m (i : Int)) 1 = 1
    · rw [if_pos h]; simp; omega
    · rw [if_neg h]; omega
theorem maskNodes_len (m : Int) : (maskNodes m).length ≤ 8 := by
  unfold maskNodes
  by_cases h : 0 ≤ m ∧ m ≤ 255
  · rw [if_pos h]; exact mnodes_len m 8 0
  · rw [if_neg h]; simp

/-! smask -/
theorem spec_MaskNodes_l0 (m : Int) (hm : 0 ≤ m ∧ m ≤ 255) (d : Nat) : ∀ (i : Nat) (x : List Int), i + d = 8 → x.length ≤ i → Ev (fun k => spec_MaskNodes.l0 k m x (i : Int)) (x ++ mnodes m d i) := by
  induction d with
  | zero =>
    intro i x hi hx
    refine Ev.step (f := fun k => spec_MaskNodes.j1 k m x (i : Int) false) (fun k => ?_) (Ev.step (f := fun _ => some x) (fun k => ?_) (Evto ?_ (Ev.now _)))
    · rw [spec_MaskNodes.l0, if_neg (by omega)]
    · rw [spec_MaskNodes.j1, if_neg (by decide)]
    · simp [mnodes]
  | succ d ih =>
    intro i x hi hx
    refine Ev.step (f := fun k => spec_MaskNodes.j1 k m x (i : Int) true) (fun k => ?_) ?_
    · rw [spec_MaskNodes.l0, if_pos (by omega), spec_l1In_f, Option.bind_some, decide_eq_true hm]
    by_cases h : Go.bits .and .i64 (shr .i64 m (i : Int)) 1 = 1
    · refine Ev.step (f := fun k => spec_MaskNodes.l0 k m (x ++ [(i : Int)]) ((i + 1 : Nat) : Int)) (fun k => ?_) (Evto ?_ (ih (i + 1) _ (by omega) (by simp; omega)))
      · rw [spec_MaskNodes.j1, if_pos rfl, if_pos (by omega), if_pos h, if_pos (by omega), wsucc i (by omega)]
      · rw [mnodes, if_pos h]; simp
    · refine Ev.step (f := fun k => spec_MaskNodes.l0 k m x ((i + 1 : Nat) : Int)) (fun k => ?_) (Evto ?_ (ih (i + 1) _ (by omega) (by omega)))
      · rw [spec_MaskNodes.j1, if_pos rfl, if_pos (by omega), if_neg h, wsucc i (by omega)]
      · rw [mnodes, if_neg h]
theorem spec_MaskNodes_f (m : Int) : Ev (fun k => spec_MaskNodes.f k m) (maskNodes m) := by
  unfold maskNodes
  by_cases hm : 0 ≤ m ∧ m ≤ 255
  · rw [if_pos hm]
    exact Ev.congr (fun k => by rw [spec_MaskNodes.f]; rfl) (spec_MaskNodes_l0 m hm 8 0 [] (by omega) (by simp))
  · rw [if_neg hm]
    refine Ev.congr (f := fun k => spec_MaskNodes.l0 k m [] 0) (fun k => by rw [spec_MaskNodes.f]) (Ev.step (f := fun k => spec_MaskNodes.j1 k m [] 0 false) (fun k => ?_) (Ev.step (f := fun _ => some []) (fun k => ?_) (Ev.now _)))
    · rw [spec_MaskNodes.l0, if_pos (by omega), spec_l1In_f, Option.bind_some, decide_eq_false hm]
    · rw [spec_MaskNodes.j1, if_neg (by decide)]

/-! imask -/
theorem impl_MaskNodes_l0 (m : Int) (d : Nat) : ∀ (i : Nat) (x : List Int), i + d = 8 → x.length ≤ i → Ev (fun k => impl_MaskNodes.l0 k m x (i : Int)) (x ++ mnodes m d i) := by
  induction d with
  | zero =>
    intro i x hi hx
    refine Ev.step (f := fun _ => some x) (fun k => ?_) (Evto ?_ (Ev.now _))
    · rw [impl_MaskNodes.l0, if_neg (by omega)]
    · simp [mnodes]
  | succ d ih =>
    intro i x hi hx
    by_cases h : Go.bits .and .i64 (shr .i64 m (i : Int)) 1 = 1
    · refine Ev.step (f := fun k => impl_MaskNodes.l0 k m (x ++ [(i : Int)]) ((i + 1 : Nat) : Int)) (fun k => ?_) (Evto ?_ (ih (i + 1) _ (by omega) (by simp; omega)))
      · rw [impl_MaskNodes.l0, if_pos (by omega), if_pos (by omega), if_pos h, if_pos (by omega), wsucc i (by omega)]
      · rw [mnodes, if_pos h]; simp
    · refine Ev.step (f := fun k => impl_MaskNodes.l0 k m x ((i + 1 : Nat) : Int)) (fun k => ?_) (Evto ?_ (ih (i + 1) _ (by omega) (by omega)))
      · rw [impl_MaskNodes.l0, if_pos (by omega), if_pos (by omega), if_neg h, wsucc i (by omega)]
      · rw [mnodes, if_neg h]
theorem impl_MaskNodes_f (m : Int) : Ev (fun k => impl_MaskNodes.f k m) (maskNodes m) := by
  unfold maskNodes
  by_cases hm : 0 ≤ m ∧ m ≤ 255
  · rw [if_pos hm]
    exact Ev.congr (f := fun k => impl_MaskNodes.l0 k m [] ((0 : Nat) : Int)) (fun k => by simp only [impl_MaskNodes.f, Option.bind_some, impl_within_f]; rw [if_pos (decide_eq_true hm)]; rfl) (impl_MaskNodes_l0 m 8 0 [] (by omega) (by simp))
  · rw [if_neg hm]
    exact Ev.congr (f := fun _ => some []) (fun k => by simp only [impl_MaskNodes.f, Option.bind_some, impl_within_f]; rw [decide_eq_false hm, if_neg (by decide)]) (Ev.now _)

/-! eqInt -/
theorem eqIntS_l0 (x y : List Int) (hl : x.length = y.length) (hn : x.length < 4611686018427387904) (d : Nat) : ∀ i : Nat, i + d = x.length → Ev (fun k => laws_eqIntS.l0 k x y (i : Int)) (decide (x.drop i = y.drop i)) := by
  induction d with
  | zero =>
    intro i hi
    refine Ev.step (f := fun _ => some true) (fun k => ?_) ?_
    · rw [laws_eqIntS.l0, if_neg (by omega)]
    · rw [List.drop_eq_nil_of_le (by omega), List.drop_eq_nil_of_le (by omega)]; exact Ev.now _
  | succ d ih =>
    intro i hi
    have hx : i < x.length := by omega
    have hy : i < y.length := by omega
    have dx := List.drop_eq_getElem_cons hx
    have dy := List.drop_eq_getElem_cons hy
    by_cases e : x.getD i 0 = y.getD i 0
    · refine Ev.step (f := fun k => laws_eqIntS.l0 k x y ((i + 1 : Nat) : Int)) (fun k => ?_) (Evto ?_ (ih (i + 1) (by omega)))
      · rw [laws_eqIntS.l0, if_pos (by omega), if_pos (by omega), if_pos (by omega), rd_nat, rd_nat, if_pos e, wsucc i (by omega)]
      · rw [getD_get x i hx, getD_get y i hy] at e
        rw [dx, dy, e]; exact decide_eq_decide.2 ⟨fun h => by rw [h], fun h => (List.cons.inj h).2⟩
    · refine Ev.step (f := fun _ => some false) (fun k => ?_) (Evto ?_ (Ev.now _))
      · rw [laws_eqIntS.l0, if_pos (by omega), if_pos (by omega), if_pos (by omega), rd_nat, rd_nat, if_neg e]
      · rw [getD_get x i hx, getD_get y i hy] at e
        symm; apply decide_eq_false
        rw [dx, dy]; intro h; exact e (List.cons.inj h).1
theorem eqIntS_f (x y : List Int) (hn : x.length < 4611686018427387904) : Ev (fun k => laws_eqIntS.f k x y) (decide (x = y)) := by
  by_cases h : x.length = y.length
  · exact Ev.congr (fun k => by rw [laws_eqIntS.f, if_pos (by omega)]; rfl) (Evto (by simp) (eqIntS_l0 x y h hn x.length 0 (by omega)))
  · refine Ev.congr (g := fun k => laws_eqIntS.f k x y) (f := fun _ => some false) (fun k => by rw [laws_eqIntS.f, if_neg (by omega)]) (Evto ?_ (Ev.now _))
    symm; apply decide_eq_false; intro e; exact h (by rw [e])
theorem eqIntS_refl (x : List Int) (hn : x.length < 4611686018427387904) : Ev (fun k => laws_eqIntS.f k x x) true := Evto (by simp) (eqIntS_f x x hn)

/-! markInt -/
def marksInt (n : Nat) (a : Int) : List Int := (List.range n).map (fun j : Nat => a + (j : Int))
theorem marksInt_len (n : Nat) (a : Int) : (marksInt n a).length = n := by simp [marksInt]
theorem marksInt_get (n : Nat) (a : Int) (j : Nat) (h : j < n) : (marksInt n a)[j]? = some (a + (j : Int)) := by simp [marksInt, List.getElem?_range h]
theorem markIntS_l0 (n : Nat) (a : Int) (ha : 0 ≤ a) (hn : a + n < 4611686018427387904) (d : Nat) : ∀ (i : Nat) (x : List Int), i + d = n → x.length = n → (∀ j, j < i → x[j]? = some (a + (j : Int))) → Ev (fun k => laws_markIntS.l0 k x (a + i) (i : Int)) (a + n, marksInt n a) := by
  induction d with
  | zero =>
    intro i x hi hx h
    refine Ev.step (f := fun _ => some (a + i, x)) (fun k => ?_) (Evto ?_ (Ev.now _))
    · rw [laws_markIntS.l0, if_neg (by omega)]
    · have : x = marksInt n a := by
        apply List.ext_getElem?; intro j
        by_cases hj : j < i
        · rw [h j hj, marksInt_get n a j (by omega)]
        · rw [List.getElem?_eq_none (by omega), List.getElem?_eq_none (by rw [marksInt_len]; omega)]
      rw [this, show i = n by omega]
  | succ d ih =>
    intro i x hi hx h
    refine Ev.step (f := fun k => laws_markIntS.l0 k (x.set i (a + (i : Int))) (a + ((i + 1 : Nat) : Int)) ((i + 1 : Nat) : Int)) (fun k => ?_) (ih (i + 1) _ (by omega) (by simp [hx]) ?_)
    · rw [laws_markIntS.l0, if_pos (by omega), if_pos (by omega), wsucc i (by omega), Int.toNat_natCast, w64 (n := a + i + 1) (by omega) (by omega)]
      rw [show a + (i : Int) + 1 = a + ((i + 1 : Nat) : Int) by omega]
    · intro j hj
      rw [List.getElem?_set]
      by_cases e : i = j
      · subst e; rw [if_pos rfl, if_pos (by omega)]
      · rw [if_neg e]; exact h j (by omega)
theorem markIntS_f (x : List Int) (a : Int) (ha : 0 ≤ a) (hn : a + x.length < 4611686018427387904) : Ev (fun k => laws_markIntS.f k x a) (a + x.length, marksInt x.length a) :=
  Ev.congr (fun k => by rw [laws_markIntS.f]; simp) (markIntS_l0 x.length a ha hn x.length 0 x (by omega) rfl (fun j hj => by omega))
theorem heldIntS_l0 (n : Nat) (a : Int) (ha : 0 ≤ a) (hn : a + n < 4611686018427387904) (d : Nat) : ∀ (i : Nat), i + d = n → Ev (fun k => laws_heldIntS.l0 k (marksInt n a) (a + i) (i : Int)) (a + n) := by
  induction d with
  | zero =>
    intro i hi
    refine Ev.step (f := fun _ => some (a + i)) (fun k => ?_) (Evto ?_ (Ev.now _))
    · rw [laws_heldIntS.l0, marksInt_len, if_neg (by omega)]
    · rw [show i = n by omega]
  | succ d ih =>
    intro i hi
    refine Ev.step (f := fun k => laws_heldIntS.l0 k (marksInt n a) (a + ((i + 1 : Nat) : Int)) ((i + 1 : Nat) : Int)) (fun k => ?_) (ih (i + 1) (by omega))
    · rw [laws_heldIntS.l0, marksInt_len, if_pos (by omega), if_pos (by omega), rd_nat, if_pos, wsucc i (by omega), w64 (n := a + i + 1) (by omega) (by omega)]
      · rw [show a + (i : Int) + 1 = a + ((i + 1 : Nat) : Int) by omega]
      · rw [List.getD_eq_getElem?_getD, marksInt_get n a i (by omega)]; rfl
theorem heldIntS_f (n : Nat) (a : Int) (ha : 0 ≤ a) (hn : a + n < 4611686018427387904) : Ev (fun k => laws_heldIntS.f k (marksInt n a) a) (a + n) :=
  Ev.congr (fun k => by rw [laws_heldIntS.f]; simp) (heldIntS_l0 n a ha hn n 0 (by omega))

theorem FnExactMaskNodes : laws_FnExactMaskNodes.Pure := by
  intro x hx
  have hl := maskNodes_len x
  refine Ev.rounds (g := fun k => laws_FnExactMaskNodes.f k x) ?_
  unfold laws_FnExactMaskNodes.f
  refine Evbind (spec_MaskNodes_f x) ?_
  refine Evbind (impl_MaskNodes_f x) ?_
  refine Evbind (eqIntS_refl _ (by omega)) ?_
  refine Evpos rfl ?_
  refine Evbind (markIntS_f _ 1 (by decide) (by omega)) ?_
  refine Evbind (heldIntS_f _ 1 (by decide) (by omega)) ?_
  refine Evneg (by omega) ?_
  refine Evpos rfl ?_
  refine Evbind (impl_MaskNodes_f x) ?_
  refine Evbind (eqIntS_refl _ (by omega)) ?_
  refine Evpos rfl ?_
  refine Evbind (heldIntS_f _ 1 (by decide) (by omega)) ?_
  refine Evneg (by omega) ?_
  exact Evpos rfl (Ev.now _)

end Go.Proofs.Ytckjofnldacpaaa.Pure
