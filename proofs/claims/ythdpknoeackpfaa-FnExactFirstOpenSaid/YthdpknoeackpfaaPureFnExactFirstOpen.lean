/- The program's FirstOpen and the reference's answer alike at every register, and leave it alone. Conditions: none beyond the given statement. -/
import Derived.Test.YthdpknoeackpfaaMFnExactFirstOpenx3
import Derived.OpenShut
import Derived.Laws.BitsLemmas
namespace Go.Proofs.Ythdpknoeackpfaa.Pure
open Go.RowKit Go.Proofs.Ythdpknoeackpfaa.PFnExactFirstOpen Go.Proofs.YthdpknoeackpfaaW.PrintWords Go.Proofs.YthdpknoeackpfaaW.PrintLast Go.Proofs.YthdpknoeackpfaaW.PrintMore
set_option linter.unusedVariables false
set_option linter.unusedSimpArgs false
/-! base -/
theorem w64 {n : Int} (h : -9223372036854775808 ≤ n) (h2 : n ≤ 9223372036854775807) : wrap64 n = n := by unfold wrap64; omega
theorem wsucc (i : Nat) (h : i < 4611686018427387904) : wrap64 ((i : Int) + 1) = ((i + 1 : Nat) : Int) := by unfold wrap64; omega
theorem wf64 {n : Int} (h : (Lit.int .i64 n).wf = true) : -9223372036854775808 ≤ n ∧ n ≤ 9223372036854775807 := bounds_i64 h
theorem Evpos {α : Type} {c : Prop} [Decidable c] {a b : Nat → Option α} {r : α} (h : c) (e : Ev a r) : Ev (fun k => if c then a k else b k) r := Ev.congr (fun _ => if_pos h) e
theorem Evneg {α : Type} {c : Prop} [Decidable c] {a b : Nat → Option α} {r : α} (h : ¬ c) (e : Ev b r) : Ev (fun k => if c then a k else b k) r := Ev.congr (fun _ => if_neg h) e
theorem Evsome {α β : Type} {a : α} {f : Nat → α → Option β} {r : β} (e : Ev (fun k => f k a) r) : Ev (fun k => (some a).bind (f k)) r := e
theorem Evbind {α β : Type} {g : Nat → Option α} {f : Nat → α → Option β} {a : α} {r : β} (h : Ev g a) (e : Ev (fun n => f n a) r) : Ev (fun n => (g n).bind (f n)) r := Ev.bind h e
theorem Evconst {α : Type} {g : Option α} {r : α} (h : g = some r) : Ev (fun _ => g) r := ⟨0, fun _ _ => h⟩
theorem Evto {α : Type} {g : Nat → Option α} {r r' : α} (h : r = r') (e : Ev g r) : Ev g r' := h ▸ e
theorem rd_nat (xs : List Int) (i : Nat) : rd xs (i : Int) = xs.getD i 0 := by simp [rd]
theorem getD_get (xs : List Int) (i : Nat) (h : i < xs.length) : xs.getD i 0 = xs[i] := by simp [List.getD_eq_getElem?_getD, List.getElem?_eq_getElem h]
theorem get_getD (xs : List Int) (i : Nat) (h : i < xs.length) : xs[i]? = some (xs.getD i 0) := by simp [List.getD_eq_getElem?_getD, List.getElem?_eq_getElem h]
theorem wf_getD {kd : IntKind} (xs : List Int) (hw : ∀ x ∈ xs, (Lit.int kd x).wf = true) (i : Nat) (h : i < xs.length) : (Lit.int kd (xs.getD i 0)).wf = true := by
  rw [getD_get xs i h]; exact hw _ (List.getElem_mem h)
theorem wf_iff (k : IntKind) (n : Int) : (Lit.int k n).wf = true ↔ k.min ≤ n ∧ n ≤ k.max := by simp [Lit.wf]
theorem wf8 {n : Int} (h : (Lit.int .u8 n).wf = true) : 0 ≤ n ∧ n ≤ 255 := by
  have := (wf_iff .u8 n).1 h
  simpa [IntKind.min, IntKind.max, IntKind.bits, IntKind.signed] using this
theorem wf_mk8 {n : Int} (h : 0 ≤ n) (h2 : n ≤ 255) : (Lit.int .u8 n).wf = true :=
  (wf_iff .u8 n).2 (by simp [IntKind.min, IntKind.max, IntKind.bits, IntKind.signed]; omega)
theorem wf_mk64 {n : Int} (h : -9223372036854775808 ≤ n) (h2 : n ≤ 9223372036854775807) : (Lit.int .i64 n).wf = true :=
  (wf_iff .i64 n).2 (by simp [IntKind.min, IntKind.max, IntKind.bits, IntKind.signed]; omega)
theorem drop_at (b : List Int) (j : Nat) (h : j < b.length) : b.drop j = b.getD j 0 :: b.drop (j + 1) := by
  rw [List.drop_eq_getElem_cons h, getD_get b j h]
theorem p63 : (2 : Int) ^ 63 = 9223372036854775808 := by decide
theorem p1289 : (128 : Nat) ^ 9 = 9223372036854775808 := by decide
theorem p27 : (2 : Int) ^ 7 = 128 := by decide
theorem natpos (i : Nat) : ((i : Int) > 0) ↔ 0 < i := by omega

def QS115 (x : S115) : Prop := (x.f0.length ≤ maxLen ∧ ∀ y ∈ x.f0, (Lit.int .i64 y).wf = true) ∧ True ∧ (Lit.int .i64 x.f2).wf = true
/-! down -/
theorem down {p : Nat → Prop} (n : Nat) (h0 : p n) (hs : ∀ i, i < n → p (i + 1) → p i) (i : Nat) (hi : i ≤ n) : p i := by
  obtain ⟨d, hd⟩ : ∃ d, i + d = n := ⟨n - i, by omega⟩
  induction d generalizing i with
  | zero => obtain rfl : i = n := by omega
            exact h0
  | succ d ih => exact hs i (by omega) (ih (i + 1) (by omega) (by omega))
theorem getD_mem (l : List Int) (i : Nat) (h : i < l.length) : l.getD i 0 ∈ l := by
  rw [getD_get l i h]; exact List.getElem_mem h

/-! listg -/
theorem drop_g {α : Type} (z : α) (l : List α) (j : Nat) (h : j < l.length) : l.drop j = l.getD j z :: l.drop (j + 1) := by
  rw [List.drop_eq_getElem_cons h]; simp [List.getD_eq_getElem?_getD, List.getElem?_eq_getElem h]
theorem getD_memg {α : Type} (z : α) (l : List α) (j : Nat) (h : j < l.length) : l.getD j z ∈ l := by
  have : l.getD j z = l[j] := by simp [List.getD_eq_getElem?_getD, List.getElem?_eq_getElem h]
  rw [this]; exact List.getElem_mem h
theorem get_getDg {α : Type} (z : α) (xs : List α) (i : Nat) (h : i < xs.length) : xs[i]? = some (xs.getD i z) := by simp [List.getD_eq_getElem?_getD, List.getElem?_eq_getElem h]
theorem all_dropg {α : Type} (z : α) (p : α → Bool) (l : List α) (i : Nat) (h : i < l.length) : (l.drop i).all p = (p (l.getD i z) && (l.drop (i + 1)).all p) := by
  rw [drop_g z l i h, List.all_cons]

/-! toInt -/
theorem toIntS_l0 (l : List Int) (hn : l.length < 4611686018427387904) (d : Nat) : ∀ (i : Nat) (x : List Int), i + d = l.length → x.length = l.length → (∀ j, j < i → x[j]? = l[j]?) → Ev (fun k => laws_toIntS.l0 k l x (i : Int)) l := by
  induction d with
  | zero =>
    intro i x hi hx h
    refine Ev.step (f := fun _ => some x) (fun k => ?_) (Evto ?_ (Ev.now _))
    · rw [laws_toIntS.l0, if_neg (by omega)]
    · apply List.ext_getElem?; intro j
      by_cases hj : j < i
      · exact h j hj
      · rw [List.getElem?_eq_none (by omega), List.getElem?_eq_none (by omega)]
  | succ d ih =>
    intro i x hi hx h
    refine Ev.step (f := fun k => laws_toIntS.l0 k l (x.set i (l.getD i 0)) ((i + 1 : Nat) : Int)) (fun k => ?_) (ih (i + 1) _ (by omega) (by simp [hx]) ?_)
    · rw [laws_toIntS.l0, if_pos (by omega), if_pos (by omega), if_pos (by omega), rd_nat, wsucc i (by omega), Int.toNat_natCast]
    · intro j hj
      rw [List.getElem?_set]
      by_cases e : i = j
      · subst e; rw [if_pos rfl, if_pos (by omega), get_getD l i (by omega)]
      · rw [if_neg e]; exact h j (by omega)
theorem toIntS_f (l : List Int) (hn : l.length ≤ 35184372088832) : Ev (fun k => laws_toIntS.f k l) l :=
  Ev.congr (fun k => by rw [laws_toIntS.f, if_pos (by omega), if_pos (by simp; omega)]; rfl) (toIntS_l0 l (by omega) l.length 0 _ (by omega) (by simp) (fun j hj => by omega))

/-! eqInt -/
theorem eqIntS_l0 (x y : List Int) (hl : x.length = y.length) (hn : x.length < 4611686018427387904) (d : Nat) : ∀ i : Nat, i + d = x.length → Ev (fun k => laws_eqIntS.l0 k x y (i : Int)) (decide (x.drop i = y.drop i)) := by
  induction d with
  | zero =>
    intro i hi
    refine Ev.step (f := fun _ => some true) (fun k => ?_) ?_
    · rw [laws_eqIntS.l0, if_neg (by omega)]
    · rw [List.drop_eq_nil_of_le (by omega), List.drop_eq_nil_of_le (by omega)]; exact Ev.now _
  | succ d ih =>
    intro i hi
    have hx : i < x.length := by omega
    have hy : i < y.length := by omega
    have dx := List.drop_eq_getElem_cons hx
    have dy := List.drop_eq_getElem_cons hy
    by_cases e : x.getD i 0 = y.getD i 0
    · refine Ev.step (f := fun k => laws_eqIntS.l0 k x y ((i + 1 : Nat) : Int)) (fun k => ?_) (Evto ?_ (ih (i + 1) (by omega)))
      · rw [laws_eqIntS.l0, if_pos (by omega), if_pos (by omega), if_pos (by omega), rd_nat, rd_nat, if_pos e, wsucc i (by omega)]
      · rw [getD_get x i hx, getD_get y i hy] at e
        rw [dx, dy, e]; exact decide_eq_decide.2 ⟨fun h => by rw [h], fun h => (List.cons.inj h).2⟩
    · refine Ev.step (f := fun _ => some false) (fun k => ?_) (Evto ?_ (Ev.now _))
      · rw [laws_eqIntS.l0, if_pos (by omega), if_pos (by omega), if_pos (by omega), rd_nat, rd_nat, if_neg e]
      · rw [getD_get x i hx, getD_get y i hy] at e
        symm; apply decide_eq_false
        rw [dx, dy]; intro h; exact e (List.cons.inj h).1
theorem eqIntS_f (x y : List Int) (hn : x.length < 4611686018427387904) : Ev (fun k => laws_eqIntS.f k x y) (decide (x = y)) := by
  by_cases h : x.length = y.length
  · exact Ev.congr (fun k => by rw [laws_eqIntS.f, if_pos (by omega)]; rfl) (Evto (by simp) (eqIntS_l0 x y h hn x.length 0 (by omega)))
  · refine Ev.congr (g := fun k => laws_eqIntS.f k x y) (f := fun _ => some false) (fun k => by rw [laws_eqIntS.f, if_neg (by omega)]) (Evto ?_ (Ev.now _))
    symm; apply decide_eq_false; intro e; exact h (by rw [e])
theorem eqIntS_refl (x : List Int) (hn : x.length < 4611686018427387904) : Ev (fun k => laws_eqIntS.f k x x) true := Evto (by simp) (eqIntS_f x x hn)

/-! eral -/
def convR (x : S115) : S97 := ⟨x.f0, x.f1, x.f2⟩
theorem rdLR (l : List S115) (i : Nat) : rd_T115 l (i : Int) = l.getD i z115 := by simp [rd_T115]
theorem rdER (l : List S97) (i : Nat) : rd_T97 l (i : Int) = l.getD i z97 := by simp [rd_T97]
theorem szIntS_g (l : List Int) (a : Int) (hl : l.length ≤ maxLen) (ha : 0 ≤ a) (ha' : a ≤ 1048576) : ∃ r, laws_szIntS.f l a = some r ∧ r ≤ a ∧ (0 ≤ r ∨ r = -1) ∧ (0 ≤ r → l.length ≤ 1048576) := by
  unfold maxLen at hl
  unfold laws_szIntS.f
  rw [w64 (n := a - (l.length : Int)) (by omega) (by omega)]
  by_cases h : a - (l.length : Int) < 0
  · rw [if_pos h]; exact ⟨_, rfl, by omega, .inr rfl, fun h => absurd h (by decide)⟩
  · rw [if_neg h]; exact ⟨_, rfl, by omega, .inl (by omega), fun _ => by omega⟩
theorem szEra_f (l : List Int) (b : Bool) (c a : Int) (hl : l.length ≤ maxLen) (ha : 0 ≤ a) (ha' : a ≤ 1048576) : ∃ r, laws_szEra.f l b c a = some r ∧ r ≤ a ∧ (0 ≤ r ∨ r = -1) ∧ (0 ≤ r → l.length ≤ 1048576) := by
  obtain ⟨r, er, h1, h2, h3⟩ := szIntS_g l a hl ha ha'
  unfold laws_szEra.f
  rw [er, Option.bind_some]
  by_cases h : r < 0
  · rw [if_pos h]; exact ⟨_, rfl, by omega, .inr rfl, fun h => absurd h (by decide)⟩
  · rw [if_neg h]; exact ⟨_, rfl, h1, h2, h3⟩
theorem szEraS_l0 (l : List S115) (hn : l.length < 4611686018427387904) (hq : ∀ x ∈ l, x.f0.length ≤ maxLen) : ∀ i, i ≤ l.length → ∀ x : Int, 0 ≤ x → x ≤ 1048576 → ∃ r, Ev (fun k => laws_szEraS.l0 k l x (i : Int)) r ∧ r ≤ x ∧ (0 ≤ r ∨ r = -1) ∧ (0 ≤ r → ∀ y ∈ l.drop i, y.f0.length ≤ 1048576) := by
  refine down l.length ?_ ?_
  · intro x h0 h1
    exact ⟨x, Ev.step (f := fun _ => some x) (fun k => by rw [laws_szEraS.l0, if_neg (by omega)]) (Ev.now _), Int.le_refl _, .inl h0, fun _ y hy => by rw [List.drop_length] at hy; simp at hy⟩
  · intro i hi ih x h0 h1
    obtain ⟨t, et, ht, ht', ht2⟩ := szEra_f (l.getD i z115).f0 (l.getD i z115).f1 (l.getD i z115).f2 x (hq _ (getD_memg _ l i hi)) h0 h1
    have hi1 : (i : Int) < l.length := by omega
    have hi2 : 0 ≤ (i : Int) := by omega
    have hw := wsucc i (by omega)
    by_cases hneg : t < 0
    · exact ⟨-1, Ev.step (f := fun _ => some (-1)) (fun k => by rw [laws_szEraS.l0, if_pos hi1, if_pos hi2, rdLR, et, Option.bind_some, if_pos hneg]) (Ev.now _), by omega, .inr rfl, fun h => absurd h (by decide)⟩
    · obtain ⟨r, er, hr, hr', hr2⟩ := ih t (by omega) (by omega)
      refine ⟨r, Ev.step (f := fun k => laws_szEraS.l0 k l t ((i + 1 : Nat) : Int)) (fun k => by rw [laws_szEraS.l0, if_pos hi1, if_pos hi2, rdLR, et, Option.bind_some, if_neg hneg, hw]) er, by omega, hr', fun h y hy => ?_⟩
      rw [drop_g z115 l i hi] at hy
      rcases List.mem_cons.1 hy with rfl | hy
      · exact ht2 (by omega)
      · exact hr2 h y hy
theorem szRegister_f (l : List S115) (c : Int) (hn : l.length ≤ maxLen) (hq : ∀ x ∈ l, x.f0.length ≤ maxLen) : ∃ r, Ev (fun k => laws_szRegister.f k l c 1048576) r ∧ (0 ≤ r → l.length ≤ 1048576 ∧ ∀ y ∈ l, y.f0.length ≤ 1048576) := by
  unfold maxLen at hn
  have hw : wrap64 (1048576 - (l.length : Int)) = 1048576 - (l.length : Int) := w64 (by omega) (by omega)
  by_cases h : 1048576 - (l.length : Int) < 0
  · refine ⟨-1, ?_, fun h => absurd h (by decide)⟩
    unfold laws_szRegister.f
    exact Evbind (Ev.congr (f := fun _ => some (-1)) (fun k => by rw [laws_szEraS.f, hw, if_pos h]) (Ev.now _)) (Evpos (by decide) (Ev.now _))
  · obtain ⟨r, er, hr, hr', hr2⟩ := szEraS_l0 l (by omega) hq 0 (by omega) (1048576 - (l.length : Int)) (by omega) (by omega)
    have es : Ev (fun k => laws_szEraS.f k l 1048576) r := Ev.congr (f := fun k => laws_szEraS.l0 k l (1048576 - (l.length : Int)) ((0 : Nat) : Int)) (fun k => by rw [laws_szEraS.f, hw, if_neg h]; rfl) er
    by_cases hneg : r < 0
    · refine ⟨-1, ?_, fun h => absurd h (by decide)⟩
      unfold laws_szRegister.f
      exact Evbind es (Evpos hneg (Ev.now _))
    · refine ⟨r, ?_, fun h => ⟨by omega, by rw [List.drop_zero] at hr2; exact hr2 h⟩⟩
      unfold laws_szRegister.f
      exact Evbind es (Evneg hneg (Ev.now _))
theorem toEra_f (l : List Int) (b : Bool) (c : Int) (hl : l.length ≤ 1048576) : Ev (fun k => laws_toEra.f k l b c) (l, b, c) := by
  unfold laws_toEra.f
  exact Evbind (toIntS_f l (by omega)) (Ev.now _)
theorem toEraS_l0 (l : List S115) (hn : l.length < 4611686018427387904) (hq : ∀ y ∈ l, y.f0.length ≤ 1048576) : ∀ i, i ≤ l.length → ∀ x : List S97, x.length = l.length → (∀ j, j < i → x[j]? = (l.map convR)[j]?) → Ev (fun k => laws_toEraS.l0 k l x (i : Int)) (l.map convR) := by
  refine down l.length ?_ ?_
  · intro x hx h
    refine Ev.step (f := fun _ => some x) (fun k => by rw [laws_toEraS.l0, if_neg (by omega)]) (Evto ?_ (Ev.now _))
    apply List.ext_getElem?; intro j
    by_cases hj : j < l.length
    · exact h j hj
    · rw [List.getElem?_eq_none (by omega), List.getElem?_eq_none (by simp; omega)]
  · intro i hi ih x hx h
    have hi1 : (i : Int) < l.length := by omega
    have hi2 : 0 ≤ (i : Int) := by omega
    have hi3 : (i : Int) < x.length := by omega
    have hw := wsucc i (by omega)
    refine Ev.step (f := fun k => (laws_toEra.f k (l.getD i z115).f0 (l.getD i z115).f1 (l.getD i z115).f2).bind fun t => laws_toEraS.l0 k l (x.set i ⟨t.1, t.2.1, t.2.2⟩) ((i + 1 : Nat) : Int)) (fun k => ?_) (Evbind (toEra_f _ _ _ (hq _ (getD_memg _ l i hi))) (ih _ (by simp [hx]) ?_))
    · rw [laws_toEraS.l0, if_pos hi1, if_pos hi2, rdLR]; simp only [if_pos hi3, hw, Int.toNat_natCast]
    · intro j hj
      rw [List.getElem?_set]
      by_cases e : i = j
      · subst e; rw [if_pos rfl, if_pos (by omega), List.getElem?_map, get_getDg z115 l i hi]; rfl
      · rw [if_neg e]; exact h j (by omega)
theorem toRegister_f (l : List S115) (c : Int) (hn : l.length ≤ 1048576) (hq : ∀ y ∈ l, y.f0.length ≤ 1048576) : Ev (fun k => laws_toRegister.f k l c) (l.map convR, c) := by
  unfold laws_toRegister.f
  exact Evbind (Ev.congr (fun k => by rw [laws_toEraS.f, if_pos (by omega), if_pos (by simp; omega)]; rfl) (toEraS_l0 l (by omega) hq 0 (by omega) _ (by simp) (fun j hj => by omega))) (Ev.now _)
theorem eqEra_refl (l : List Int) (b : Bool) (c : Int) (hl : l.length < 4611686018427387904) : Ev (fun k => laws_eqEra.f k l b c l b c) true := by
  unfold laws_eqEra.f
  exact Evbind (eqIntS_refl l hl) (Evpos rfl (Evneg (by simp) (Evpos rfl (Ev.now _))))
theorem eqEraS_l0 (l : List S97) (hn : l.length < 4611686018427387904) (hq : ∀ y ∈ l, y.f0.length ≤ 1048576) : ∀ i, i ≤ l.length → Ev (fun k => laws_eqEraS.l0 k l l (i : Int)) true := by
  refine down l.length ?_ ?_
  · exact Ev.step (f := fun _ => some true) (fun k => by rw [laws_eqEraS.l0, if_neg (by omega)]) (Ev.now _)
  · intro i hi ih
    have hi1 : (i : Int) < l.length := by omega
    have hi2 : 0 ≤ (i : Int) := by omega
    have hw := wsucc i (by omega)
    have hql := hq _ (getD_memg z97 l i hi)
    refine Ev.step (f := fun k => (laws_eqEra.f k (l.getD i z97).f0 (l.getD i z97).f1 (l.getD i z97).f2 (l.getD i z97).f0 (l.getD i z97).f1 (l.getD i z97).f2).bind fun t => if t = true then laws_eqEraS.l0 k l l ((i + 1 : Nat) : Int) else some false) (fun k => ?_) (Evbind (eqEra_refl _ _ _ (by omega)) (Evpos rfl ih))
    rw [laws_eqEraS.l0, if_pos hi1, if_pos hi2, if_pos hi1, rdER, hw]
theorem eqRegister_refl (l : List S97) (c : Int) (hn : l.length < 4611686018427387904) (hq : ∀ y ∈ l, y.f0.length ≤ 1048576) : Ev (fun k => laws_eqRegister.f k l c l c) true := by
  unfold laws_eqRegister.f
  exact Evbind (Ev.congr (fun k => by rw [laws_eqEraS.f, if_pos rfl]; rfl) (eqEraS_l0 l hn hq 0 (by omega))) (Evpos rfl (Evpos rfl (Ev.now _)))

/-! firstopen -/
def fo : List S97 → Nat → Int
  | [], _ => 0
  | x :: t, i => if x.f1 = true then fo t (i + 1) else ((i + 1 : Nat) : Int)
theorem spec_FirstOpen_f (l : List S97) (c : Int) (hn : l.length < 4611686018427387904) : Ev (fun k => spec_FirstOpen.f k l c) (fo l 0) := by
  have key : ∀ i, i ≤ l.length → Ev (fun k => spec_FirstOpen.l0 k (i : Int) l c) (fo (l.drop i) i) := by
    refine down l.length ?_ ?_
    · refine Ev.step (f := fun _ => some 0) (fun k => by rw [spec_FirstOpen.l0, if_neg (by omega)]) (Evto ?_ (Ev.now _))
      rw [List.drop_length]; rfl
    · intro i hi ih
      have hi1 : (i : Int) < l.length := by omega
      have hi2 : 0 ≤ (i : Int) := by omega
      have hw := wsucc i (by omega)
      rw [drop_g z97 l i hi, fo]
      by_cases h : (l.getD i z97).f1 = true
      · rw [if_pos h]
        exact Ev.step (f := fun k => spec_FirstOpen.l0 k ((i + 1 : Nat) : Int) l c) (fun k => by rw [spec_FirstOpen.l0, if_pos hi1, if_pos hi2, rdER, if_pos h, hw]) ih
      · rw [if_neg h]
        exact Ev.step (f := fun _ => some ((i + 1 : Nat) : Int)) (fun k => by rw [spec_FirstOpen.l0, if_pos hi1, if_pos hi2, rdER, if_neg h, hw]) (Ev.now _)
  exact Ev.congr (fun k => by rw [spec_FirstOpen.f]; rfl) (key 0 (by omega))
theorem impl_FirstOpen_f (l : List S97) (c : Int) (hn : l.length < 4611686018427387904) : Ev (fun k => impl_FirstOpen.f k l c) (fo l 0) := by
  have key : ∀ i, i ≤ l.length → Ev (fun k => impl_FirstOpen.l0 k l (l.length : Int) (i : Int)) (fo (l.drop i) i) := by
    refine down l.length ?_ ?_
    · refine Ev.step (f := fun _ => some 0) (fun k => by rw [impl_FirstOpen.l0, if_neg (by omega)]) (Evto ?_ (Ev.now _))
      rw [List.drop_length]; rfl
    · intro i hi ih
      have hi1 : (i : Int) < l.length := by omega
      have hi2 : 0 ≤ (i : Int) := by omega
      have hw := wsucc i (by omega)
      rw [drop_g z97 l i hi, fo]
      by_cases h : (l.getD i z97).f1 = true
      · rw [if_pos h]
        exact Ev.step (f := fun k => impl_FirstOpen.l0 k l (l.length : Int) ((i + 1 : Nat) : Int)) (fun k => by rw [impl_FirstOpen.l0, if_pos hi1, if_pos hi2, if_pos hi1, rdER, if_pos h, hw]) ih
      · rw [if_neg h]
        exact Ev.step (f := fun _ => some ((i + 1 : Nat) : Int)) (fun k => by rw [impl_FirstOpen.l0, if_pos hi1, if_pos hi2, if_pos hi1, rdER, if_neg h, hw]) (Ev.now _)
  exact Ev.congr (fun k => by rw [impl_FirstOpen.f]; rfl) (key 0 (by omega))

theorem FnExactFirstOpen (l0_0 : List S115) (a0_1 : Int) (hl0_0 : l0_0.length ≤ maxLen ∧ ∀ x ∈ l0_0, QS115 x) (ha0_1 : (Lit.int .i64 a0_1).wf = true) : ∃ k, laws_FnExactFirstOpen.f k l0_0 a0_1 = some true := by
  refine Ev.rounds (g := fun k => laws_FnExactFirstOpen.f k l0_0 a0_1) ?_
  unfold laws_FnExactFirstOpen.f
  obtain ⟨r, er, hr⟩ := szRegister_f l0_0 a0_1 hl0_0.1 (fun x hx => (hl0_0.2 x hx).1.1)
  refine Evbind er ?_
  by_cases hneg : r < 0
  · exact Evpos hneg (Ev.now _)
  refine Evneg hneg ?_
  obtain ⟨hl, hq⟩ := hr (by omega)
  have htr := toRegister_f l0_0 a0_1 hl hq
  have hl' : (l0_0.map convR).length < 4611686018427387904 := by rw [List.length_map]; omega
  have hq' : ∀ y ∈ l0_0.map convR, y.f0.length ≤ 1048576 := by
    intro y hy; obtain ⟨x, hx, rfl⟩ := List.mem_map.1 hy; exact hq x hx
  refine Evbind htr ?_
  refine Evbind (spec_FirstOpen_f (l0_0.map convR) a0_1 hl') ?_
  refine Evbind htr ?_
  refine Evbind (impl_FirstOpen_f (l0_0.map convR) a0_1 hl') ?_
  refine Evpos rfl ?_
  refine Evbind htr ?_
  refine Evbind (eqRegister_refl (l0_0.map convR) a0_1 hl' hq') ?_
  exact Evpos rfl (Ev.now _)

end Go.Proofs.Ythdpknoeackpfaa.Pure
