/- The program's Enough and the reference's answer alike at every config and lists, and leave the arguments alone. Conditions: none beyond the given statement. -/
import Derived.Test.YtfkdgbhjkpigfaaMFnExactEnoughx6
import Derived.OpenShut
import Derived.Laws.BitsLemmas
namespace Go.Proofs.Ytfkdgbhjkpigfaa.Pure
open Go.RowKit Go.Proofs.Ytfkdgbhjkpigfaa.PFnExactEnough Go.Proofs.YtfkdgbhjkpigfaaW.PrintWords Go.Proofs.YtfkdgbhjkpigfaaW.PrintLast Go.Proofs.YtfkdgbhjkpigfaaW.PrintMore
set_option linter.unusedVariables false
set_option linter.unusedSimpArgs false
/-! base -/
theorem w64 {n : Int} (h : -9223372036854775808 ≤ n) (h2 : n ≤ 9223372036854775807) : wrap64 n = n := by unfold wrap64; omega
theorem wsucc (i : Nat) (h : i < 4611686018427387904) : wrap64 ((i : Int) + 1) = ((i + 1 : Nat) : Int) := by unfold wrap64; omega
theorem wf64 {n : Int} (h : (Lit.int .i64 n).wf = true) : -9223372036854775808 ≤ n ∧ n ≤ 9223372036854775807 := bounds_i64 h
theorem Evpos {α : Type} {c : Prop} [Decidable c] {a b : Nat → Option α} {r : α} (h : c) (e : Ev a r) : Ev (fun k => if c then a k else b k) r := Ev.congr (fun _ => if_pos h) e
theorem Evneg {α : Type} {c : Prop} [Decidable c] {a b : Nat → Option α} {r : α} (h : ¬ c) (e : Ev b r) : Ev (fun k => if c then a k else b k) r := Ev.congr (fun _ => if_neg h) e
theorem Evsome {α β : Type} {a : α} {f : Nat → α → Option β} {r : β} (e : Ev (fun k => f k a) r) : Ev (fun k => (some a).bind (f k)) r := e
theorem Evbind {α β : Type} {g : Nat → Option α} {f : Nat → α → Option β} {a : α} {r : β} (h : Ev g a) (e : Ev (fun n => f n a) r) : Ev (fun n => (g n).bind (f n)) r := Ev.bind h e
theorem Evconst {α : Type} {g : Option α} {r : α} (h : g = some r) : Ev (fun _ => g) r := ⟨0, fun _ _ => h⟩
theorem Evto {α : Type} {g : Nat → Option α} {r r' : α} (h : r = r') (e : Ev g r) : Ev g r' := h ▸ e
theorem rd_nat (xs : List Int) (i : Nat) : rd xs (i : Int) = xs.getD i 0 := by simp [rd]
theorem getD_get (xs : List Int) (i : Nat) (h : i < xs.length) : xs.getD i 0 = xs[i] := by simp [List.getD_eq_getElem?_getD, List.getElem?_eq_getElem h]
theorem get_getD (xs : List Int) (i : Nat) (h : i < xs.length) : xs[i]? = some (xs.getD i 0) := by simp [List.getD_eq_getElem?_getD, List.getElem?_eq_getElem h]
theorem wf_getD {kd : IntKind} (xs : List Int) (hw : ∀ x ∈ xs, (Lit.int kd x).wf = true) (i : Nat) (h : i < xs.length) : (Lit.int kd (xs.getD i 0)).wf = true := by
  rw [getD_get xs i h]; exact hw _ (List.getElem_mem h)
theorem wf_iff (k : IntKind) (n : Int) : (Lit.int k n).wf = true ↔ k.min ≤ n ∧ n ≤ k.max := by simp [Lit.wf]
theorem wf8 {n : Int} (h : (Lit.int .u8 n).wf = true) : 0 ≤ n ∧ n ≤ 255 := by
  have := (wf_iff .u8 n).1 h
  simpa [IntKind.min, IntKind.max, IntKind.bits, IntKind.signed] using this
theorem wf_mk8 {n : Int} (h : 0 ≤ n) (h2 : n ≤ 255) : (Lit.int .u8 n).wf = true :=
  (wf_iff .u8 n).2 (by simp [IntKind.min, IntKind.max, IntKind.bits, IntKind.signed]; omega)
theorem wf_mk64 {n : Int} (h : -9223372036854775808 ≤ n) (h2 : n ≤ 9223372036854775807) : (Lit.int .i64 n).wf = true :=
  (wf_iff .i64 n).2 (by simp [IntKind.min, IntKind.max, IntKind.bits, IntKind.signed]; omega)
theorem drop_at (b : List Int) (j : Nat) (h : j < b.length) : b.drop j = b.getD j 0 :: b.drop (j + 1) := by
  rw [List.drop_eq_getElem_cons h, getD_get b j h]
theorem p63 : (2 : Int) ^ 63 = 9223372036854775808 := by decide
theorem p1289 : (128 : Nat) ^ 9 = 9223372036854775808 := by decide
theorem p27 : (2 : Int) ^ 7 = 128 := by decide
theorem natpos (i : Nat) : ((i : Int) > 0) ↔ 0 < i := by omega

/-! eqInt -/
theorem eqIntS_l0 (x y : List Int) (hl : x.length = y.length) (hn : x.length < 4611686018427387904) (d : Nat) : ∀ i : Nat, i + d = x.length → Ev (fun k => laws_eqIntS.l0 k x y (i : Int)) (decide (x.drop i = y.drop i)) := by
  induction d with
  | zero =>
    intro i hi
    refine Ev.step (f := fun _ => some true) (fun k => ?_) ?_
    · rw [laws_eqIntS.l0, if_neg (by omega)]
    · rw [List.drop_eq_nil_of_le (by omega), List.drop_eq_nil_of_le (by omega)]; exact Ev.now _
  | succ d ih =>
    intro i hi
    have hx : i < x.length := by omega
    have hy : i < y.length := by omega
    have dx := List.drop_eq_getElem_cons hx
    have dy := List.drop_eq_getElem_cons hy
    by_cases e : x.getD i 0 = y.getD i 0
    · refine Ev.step (f := fun k => laws_eqIntS.l0 k x y ((i + 1 : Nat) : Int)) (fun k => ?_) (Evto ?_ (ih (i + 1) (by omega)))
      · rw [laws_eqIntS.l0, if_pos (by omega), if_pos (by omega), if_pos (by omega), rd_nat, rd_nat, if_pos e, wsucc i (by omega)]
      · rw [getD_get x i hx, getD_get y i hy] at e
        rw [dx, dy, e]; exact decide_eq_decide.2 ⟨fun h => by rw [h], fun h => (List.cons.inj h).2⟩
    · refine Ev.step (f := fun _ => some false) (fun k => ?_) (Evto ?_ (Ev.now _))
      · rw [laws_eqIntS.l0, if_pos (by omega), if_pos (by omega), if_pos (by omega), rd_nat, rd_nat, if_neg e]
      · rw [getD_get x i hx, getD_get y i hy] at e
        symm; apply decide_eq_false
        rw [dx, dy]; intro h; exact e (List.cons.inj h).1
theorem eqIntS_f (x y : List Int) (hn : x.length < 4611686018427387904) : Ev (fun k => laws_eqIntS.f k x y) (decide (x = y)) := by
  by_cases h : x.length = y.length
  · exact Ev.congr (fun k => by rw [laws_eqIntS.f, if_pos (by omega)]; rfl) (Evto (by simp) (eqIntS_l0 x y h hn x.length 0 (by omega)))
  · refine Ev.congr (g := fun k => laws_eqIntS.f k x y) (f := fun _ => some false) (fun k => by rw [laws_eqIntS.f, if_neg (by omega)]) (Evto ?_ (Ev.now _))
    symm; apply decide_eq_false; intro e; exact h (by rw [e])
theorem eqIntS_refl (x : List Int) (hn : x.length < 4611686018427387904) : Ev (fun k => laws_eqIntS.f k x x) true := Evto (by simp) (eqIntS_f x x hn)

/-! toInt -/
theorem toIntS_l0 (l : List Int) (hn : l.length < 4611686018427387904) (d : Nat) : ∀ (i : Nat) (x : List Int), i + d = l.length → x.length = l.length → (∀ j, j < i → x[j]? = l[j]?) → Ev (fun k => laws_toIntS.l0 k l x (i : Int)) l := by
  induction d with
  | zero =>
    intro i x hi hx h
    refine Ev.step (f := fun _ => some x) (fun k => ?_) (Evto ?_ (Ev.now _))
    · rw [laws_toIntS.l0, if_neg (by omega)]
    · apply List.ext_getElem?; intro j
      by_cases hj : j < i
      · exact h j hj
      · rw [List.getElem?_eq_none (by omega), List.getElem?_eq_none (by omega)]
  | succ d ih =>
    intro i x hi hx h
    refine Ev.step (f := fun k => laws_toIntS.l0 k l (x.set i (l.getD i 0)) ((i + 1 : Nat) : Int)) (fun k => ?_) (ih (i + 1) _ (by omega) (by simp [hx]) ?_)
    · rw [laws_toIntS.l0, if_pos (by omega), if_pos (by omega), if_pos (by omega), rd_nat, wsucc i (by omega), Int.toNat_natCast]
    · intro j hj
      rw [List.getElem?_set]
      by_cases e : i = j
      · subst e; rw [if_pos rfl, if_pos (by omega), get_getD l i (by omega)]
      · rw [if_neg e]; exact h j (by omega)
theorem toIntS_f (l : List Int) (hn : l.length ≤ 35184372088832) : Ev (fun k => laws_toIntS.f k l) l :=
  Ev.congr (fun k => by rw [laws_toIntS.f, if_pos (by omega), if_pos (by simp; omega)]; rfl) (toIntS_l0 l (by omega) l.length 0 _ (by omega) (by simp) (fun j hj => by omega))

/-! lawcfg -/
theorem szIntS_f (l : List Int) (a : Int) (hl : (l.length : Int) ≤ 9223372036854775807) (ha : 0 ≤ a) (ha' : a ≤ 1048576) : laws_szIntS.f l a = some (if a - (l.length : Int) < 0 then -1 else a - (l.length : Int)) := by
  unfold laws_szIntS.f
  rw [w64 (by omega) (by omega)]
  by_cases h : a - (l.length : Int) < 0
  · rw [if_pos h, if_pos h]
  · rw [if_neg h, if_neg h]
theorem szConfig_f (l : List Int) (c : Int) (hl : (l.length : Int) ≤ 9223372036854775807) : laws_szConfig.f l c 1048576 = some (if (1048576 : Int) - (l.length : Int) < 0 then -1 else 1048576 - (l.length : Int)) := by
  unfold laws_szConfig.f
  rw [szIntS_f l 1048576 hl (by decide) (by decide), Option.bind_some]
  by_cases h : (1048576 : Int) - (l.length : Int) < 0
  · rw [if_pos h, if_pos (by decide)]
  · rw [if_neg h, if_neg h]
theorem toConfig_f (l : List Int) (c : Int) (hl : l.length ≤ 35184372088832) : Ev (fun k => laws_toConfig.f k l c) (l, c) := by
  unfold laws_toConfig.f
  exact Evbind (toIntS_f l hl) (Ev.now _)
theorem eqConfig_f (l : List Int) (c : Int) (hl : l.length < 4611686018427387904) : Ev (fun k => laws_eqConfig.f k l c l c) true := by
  unfold laws_eqConfig.f
  exact Evbind (eqIntS_refl l hl) (Evpos rfl (Evpos rfl (Ev.now _)))

/-! down -/
theorem down {p : Nat → Prop} (n : Nat) (h0 : p n) (hs : ∀ i, i < n → p (i + 1) → p i) (i : Nat) (hi : i ≤ n) : p i := by
  obtain ⟨d, hd⟩ : ∃ d, i + d = n := ⟨n - i, by omega⟩
  induction d generalizing i with
  | zero => obtain rfl : i = n := by omega
            exact h0
  | succ d ih => exact hs i (by omega) (ih (i + 1) (by omega) (by omega))
theorem getD_mem (l : List Int) (i : Nat) (h : i < l.length) : l.getD i 0 ∈ l := by
  rw [getD_get l i h]; exact List.getElem_mem h

/-! cfgm -/
def domOk (d : Int) : Bool := decide (0 ≤ d ∧ d ≤ 7)
def configOk (ds : List Int) (c : Int) : Bool := decide (1 ≤ ds.length ∧ ds.length ≤ 8) && decide (1 ≤ c ∧ c ≤ 4) && ds.all domOk
theorem all_drop (p : Int → Bool) (l : List Int) (i : Nat) (h : i < l.length) : (l.drop i).all p = (p (l.getD i 0) && (l.drop (i + 1)).all p) := by
  rw [drop_at l i h, List.all_cons]
theorem configOk_len {ds : List Int} {c : Int} (h : configOk ds c = true) : 1 ≤ ds.length ∧ ds.length ≤ 8 := by
  simp only [configOk, Bool.and_eq_true, decide_eq_true_eq] at h; exact h.1.1
theorem configOk_copies {ds : List Int} {c : Int} (h : configOk ds c = true) : 1 ≤ c ∧ c ≤ 4 := by
  simp only [configOk, Bool.and_eq_true, decide_eq_true_eq] at h; exact h.1.2
theorem configOk_dom {ds : List Int} {c : Int} (h : configOk ds c = true) (i : Nat) (hi : i < ds.length) : 0 ≤ ds.getD i 0 ∧ ds.getD i 0 ≤ 7 := by
  simp only [configOk, Bool.and_eq_true, List.all_eq_true] at h
  have := h.2 _ (getD_mem ds i hi)
  simpa [domOk] using this

/-! ascm -/
def ascP (hi : Int) : Int → List Int → Bool
  | _, [] => true
  | p, x :: t => decide (0 ≤ x ∧ x ≤ hi ∧ p < x) && ascP hi x t
def asc (hi : Int) (l : List Int) : Bool := ascP hi (-1) l

/-! nodesm -/
def nodesOk (ds : List Int) (c : Int) (l : List Int) : Bool := configOk ds c && asc ((ds.length : Int) - 1) l
theorem ascP_mem' (hi : Int) (l : List Int) : ∀ p, ascP hi p l = true → ∀ x ∈ l, 0 ≤ x ∧ x ≤ hi ∧ p < x := by
  induction l with
  | nil => intro p _ x hx; simp at hx
  | cons y t ih =>
    intro p h x hx
    simp only [ascP, Bool.and_eq_true, decide_eq_true_eq] at h
    rcases List.mem_cons.1 hx with rfl | hx
    · exact h.1
    · have := ih y h.2 x hx; omega
theorem nodesOk_mem {ds : List Int} {c : Int} {l : List Int} (h : nodesOk ds c l = true) : configOk ds c = true ∧ ∀ x ∈ l, 0 ≤ x ∧ x < ds.length := by
  simp only [nodesOk, Bool.and_eq_true] at h
  exact ⟨h.1, fun x hx => by have := ascP_mem' _ l (-1) h.2 x hx; omega⟩

/-! restm -/
def less (set_ list_ : List Int) : List Int := set_.filter (fun x => !decide (x ∈ list_))
def restL (ds : List Int) (c : Int) (set_ list_ : List Int) : List Int := if nodesOk ds c set_ = true ∧ nodesOk ds c list_ = true then less set_ list_ else []
theorem filter_drop_i (p : Int → Bool) (l : List Int) (i : Nat) (h : i < l.length) : (l.drop i).filter p = (if p (l.getD i 0) = true then [l.getD i 0] else []) ++ (l.drop (i + 1)).filter p := by
  rw [drop_at l i h, List.filter_cons]
  by_cases hp : p (l.getD i 0) = true
  · rw [if_pos hp, if_pos hp]; rfl
  · rw [if_neg hp, if_neg hp]; rfl
theorem restL_len (ds : List Int) (c : Int) (s l : List Int) : (restL ds c s l).length ≤ s.length := by
  unfold restL less
  split
  · exact List.length_filter_le _ _
  · simp

/-! spanm -/
def addD (acc : List Int) (d : Int) : List Int := if d ∈ acc then acc else acc ++ [d]
def domsG (ds l : List Int) (acc : List Int) : List Int := l.foldl (fun acc n => addD acc (ds.getD n.toNat 0)) acc
def spanL (ds l : List Int) : Int := ((domsG ds l []).length : Int)
def spanOf (ds : List Int) (c : Int) (l : List Int) : Int := if nodesOk ds c l = true then spanL ds l else -1
theorem domsG_cons (ds : List Int) (n : Int) (l : List Int) (acc : List Int) : domsG ds (n :: l) acc = domsG ds l (addD acc (ds.getD n.toNat 0)) := rfl
theorem addD_len (acc : List Int) (d : Int) : acc.length ≤ (addD acc d).length ∧ (addD acc d).length ≤ acc.length + 1 := by
  unfold addD
  by_cases h : d ∈ acc
  · rw [if_pos h]; omega
  · rw [if_neg h]; simp
theorem domsG_len (ds l : List Int) : ∀ acc, acc.length ≤ (domsG ds l acc).length ∧ (domsG ds l acc).length ≤ acc.length + l.length := by
  induction l with
  | nil => intro acc; simp [domsG]
  | cons n t ih =>
    intro acc
    rw [domsG_cons]
    have h1 := ih (addD acc (ds.getD n.toNat 0))
    have h2 := addD_len acc (ds.getD n.toNat 0)
    simp only [List.length_cons]; omega

/-! spanlaw -/
theorem spanL_nonneg (ds l : List Int) : 0 ≤ spanL ds l := by unfold spanL; omega
theorem spanL_le (ds l : List Int) : spanL ds l ≤ l.length := by
  have := domsG_len ds l []
  unfold spanL; simp only [List.length_nil] at this; omega
theorem domsG_append (ds l m acc : List Int) : domsG ds (l ++ m) acc = domsG ds m (domsG ds l acc) := by unfold domsG; rw [List.foldl_append]
theorem spanL_snoc (ds l : List Int) (x : Int) : spanL ds (l ++ [x]) = spanL ds l ∨ spanL ds (l ++ [x]) = spanL ds l + 1 := by
  unfold spanL
  rw [domsG_append]
  have h : domsG ds [x] (domsG ds l []) = addD (domsG ds l []) (ds.getD x.toNat 0) := rfl
  rw [h]
  have := addD_len (domsG ds l []) (ds.getD x.toNat 0)
  omega
theorem ascP_snoc (hi x : Int) (hx0 : 0 ≤ x) (hx1 : x ≤ hi) (l : List Int) : ∀ p, ascP hi p l = true → p < x → (∀ y ∈ l, y < x) → ascP hi p (l ++ [x]) = true := by
  induction l with
  | nil => intro p _ hp _; simp [ascP, hx0, hx1, hp]
  | cons y t ih =>
    intro p h hp hy
    simp only [ascP, List.cons_append, Bool.and_eq_true, decide_eq_true_eq] at h ⊢
    exact ⟨h.1, ih y h.2 (hy y List.mem_cons_self) (fun z hz => hy z (List.mem_cons_of_mem _ hz))⟩
theorem ascP_last (hi : Int) (l : List Int) : ∀ p, ascP hi p l = true → ∀ y ∈ l, y ≤ l.getD (l.length - 1) 0 := by
  induction l with
  | nil => intro p _ y hy; simp at hy
  | cons x t ih =>
    intro p h y hy
    simp only [ascP, Bool.and_eq_true, decide_eq_true_eq] at h
    cases t with
    | nil => have := List.mem_singleton.1 hy; subst this; simp
    | cons z t' =>
      have e : (x :: z :: t').getD ((x :: z :: t').length - 1) 0 = (z :: t').getD ((z :: t').length - 1) 0 := by simp [List.getD_eq_getElem?_getD]
      rw [e]
      have hz := ih x h.2 z List.mem_cons_self
      have hxz : x < z := by have := ascP_mem' hi (z :: t') x h.2 z List.mem_cons_self; omega
      rcases List.mem_cons.1 hy with rfl | hy
      · omega
      · exact ih x h.2 y hy

/-! restlaw -/
theorem ascP_filter (hi : Int) (p : Int → Bool) (l : List Int) : ∀ q, ascP hi q l = true → ascP hi q (l.filter p) = true := by
  induction l with
  | nil => intro q h; exact h
  | cons x t ih =>
    intro q h
    simp only [ascP, Bool.and_eq_true, decide_eq_true_eq] at h
    rw [List.filter_cons]
    by_cases hp : p x = true
    · rw [if_pos hp]; simp only [ascP, Bool.and_eq_true, decide_eq_true_eq]; exact ⟨h.1, ih x h.2⟩
    · rw [if_neg hp]
      have h2 := ih x h.2
      cases hf : t.filter p with
      | nil => rfl
      | cons y u =>
        rw [hf] at h2
        simp only [ascP, Bool.and_eq_true, decide_eq_true_eq] at h2 ⊢
        exact ⟨⟨h2.1.1, h2.1.2.1, by omega⟩, h2.2⟩
theorem nodesOk_filter {ds : List Int} {c : Int} {l : List Int} (h : nodesOk ds c l = true) (p : Int → Bool) : nodesOk ds c (l.filter p) = true := by
  simp only [nodesOk, Bool.and_eq_true] at h ⊢
  exact ⟨h.1, ascP_filter _ p l _ h.2⟩
theorem nodup_sub (xs : List Int) : ∀ ys : List Int, xs.Nodup → (∀ x ∈ xs, x ∈ ys) → xs.length ≤ ys.length := by
  induction xs with
  | nil => intro ys _ _; simp
  | cons x t ih =>
    intro ys hn hs
    rw [List.nodup_cons] at hn
    have hx := hs x List.mem_cons_self
    have h1 := ih (ys.erase x) hn.2 (fun y hy => by
      have hne : y ≠ x := fun e => hn.1 (e ▸ hy)
      exact (List.mem_erase_of_ne hne).2 (hs y (List.mem_cons_of_mem _ hy)))
    have h2 := List.length_erase_of_mem hx
    have h3 : 0 < ys.length := List.length_pos_of_mem hx
    simp only [List.length_cons]; omega
theorem addD_mem (acc : List Int) (d e : Int) : e ∈ addD acc d ↔ e ∈ acc ∨ e = d := by
  unfold addD
  by_cases h : d ∈ acc
  · rw [if_pos h]; exact ⟨fun hh => .inl hh, fun hh => hh.elim id (fun he => he ▸ h)⟩
  · rw [if_neg h]; simp
theorem addD_nodup (acc : List Int) (d : Int) (h : acc.Nodup) : (addD acc d).Nodup := by
  unfold addD
  by_cases hd : d ∈ acc
  · rw [if_pos hd]; exact h
  · rw [if_neg hd]; exact List.nodup_append.2 ⟨h, by simp, fun a ha b hb => by have := List.mem_singleton.1 hb; subst this; exact fun e => hd (e ▸ ha)⟩
theorem domsG_mem (ds l : List Int) : ∀ acc e, e ∈ domsG ds l acc ↔ e ∈ acc ∨ ∃ n ∈ l, ds.getD n.toNat 0 = e := by
  induction l with
  | nil => intro acc e; simp [domsG]
  | cons n t ih =>
    intro acc e
    rw [domsG_cons, ih, addD_mem]
    constructor
    · rintro ((h | rfl) | ⟨m, hm, rfl⟩)
      · exact .inl h
      · exact .inr ⟨n, List.mem_cons_self, rfl⟩
      · exact .inr ⟨m, List.mem_cons_of_mem _ hm, rfl⟩
    · rintro (h | ⟨m, hm, rfl⟩)
      · exact .inl (.inl h)
      · rcases List.mem_cons.1 hm with rfl | hm
        · exact .inl (.inr rfl)
        · exact .inr ⟨m, hm, rfl⟩
theorem domsG_nodup (ds l : List Int) : ∀ acc : List Int, acc.Nodup → (domsG ds l acc).Nodup := by
  induction l with
  | nil => intro acc h; exact h
  | cons n t ih => intro acc h; rw [domsG_cons]; exact ih _ (addD_nodup acc _ h)
theorem spanL_mono (ds l m : List Int) (h : ∀ x ∈ l, x ∈ m) : spanL ds l ≤ spanL ds m := by
  unfold spanL
  have := nodup_sub (domsG ds l []) (domsG ds m []) (domsG_nodup ds l [] List.nodup_nil) (fun e he => by
    rw [domsG_mem] at he ⊢
    rcases he with he | ⟨n, hn, rfl⟩
    · exact .inl he
    · exact .inr ⟨n, h n hn, rfl⟩)
  omega

/-! holdsm -/
def holdsL (ds : List Int) (c : Int) (l : List Int) : Bool := nodesOk ds c l && decide (spanL ds l ≥ c)

/-! enoughm -/
def enoughL (ds : List Int) (c : Int) (s l : List Int) : Bool := holdsL ds c s && nodesOk ds c l && decide ((less l s).length = 0) && decide (spanL ds (less s l) < c)
theorem less_split (l s : List Int) : (l.filter (fun x => decide (x ∈ s))).length + (less l s).length = l.length := by
  unfold less
  induction l with
  | nil => rfl
  | cons x t ih =>
    rw [List.filter_cons, List.filter_cons, List.length_cons]
    by_cases h : x ∈ s
    · rw [if_pos (decide_eq_true h), if_neg (by simp [h]), List.length_cons]; omega
    · rw [if_neg (by simp [h]), if_pos (by simp [h]), List.length_cons]; omega
theorem less_len (s l : List Int) : (less s l).length ≤ s.length := List.length_filter_le _ _
theorem holdsL_split {ds : List Int} {c : Int} {s : List Int} (h : holdsL ds c s = true) : nodesOk ds c s = true ∧ spanL ds s ≥ c := by
  simpa [holdsL] using h
theorem enoughL_split {ds : List Int} {c : Int} {s l : List Int} (h : enoughL ds c s l = true) : holdsL ds c s = true ∧ nodesOk ds c l = true ∧ (less l s).length = 0 ∧ spanL ds (less s l) < c := by
  simp only [enoughL, Bool.and_eq_true, decide_eq_true_eq] at h
  exact ⟨h.1.1.1, h.1.1.2, h.1.2, h.2⟩

/-! shas -/
theorem has_f (l : List Int) (a : Int) (hn : l.length < 4611686018427387904) : Ev (fun k => spec_l4Has.f k l a) (decide (a ∈ l)) := by
  have key : ∀ i, i ≤ l.length → Ev (fun k => spec_l4Has.l0 k l a (i : Int)) (decide (a ∈ l.drop i)) := by
    refine down l.length ?_ ?_
    · refine Ev.step (f := fun _ => some false) (fun k => by rw [spec_l4Has.l0, if_neg (by omega)]) (Evto ?_ (Ev.now _))
      rw [List.drop_length]; simp
    · intro i hi ih
      have hi1 : (i : Int) < l.length := by omega
      have hi2 : 0 ≤ (i : Int) := by omega
      have hw := wsucc i (by omega)
      rw [drop_at l i hi]
      by_cases e : l.getD i 0 = a
      · refine Ev.step (f := fun _ => some true) (fun k => by rw [spec_l4Has.l0, if_pos hi1, if_pos hi2, rd_nat, if_pos e]) (Evto ?_ (Ev.now _))
        symm; apply decide_eq_true; rw [e]; exact List.mem_cons_self
      · refine Ev.step (f := fun k => spec_l4Has.l0 k l a ((i + 1 : Nat) : Int)) (fun k => by rw [spec_l4Has.l0, if_pos hi1, if_pos hi2, rd_nat, if_neg e, hw]) (Evto ?_ ih)
        apply decide_eq_decide.2; rw [List.mem_cons]
        exact ⟨fun h => .inr h, fun h => h.resolve_left (fun hh => e hh.symm)⟩
  exact Ev.congr (fun k => by rw [spec_l4Has.f]; rfl) (Evto (by rw [List.drop_zero]) (key 0 (by omega)))

/-! sless -/
theorem spec_l4Less_f (s l : List Int) (hs : s.length < 17592186044416) (hl : l.length < 4611686018427387904) : Ev (fun k => spec_l4Less.f k s l) (less s l) := by
  have key : ∀ i, i ≤ s.length → ∀ out : List Int, out.length ≤ i → Ev (fun k => spec_l4Less.l0 k s l out (i : Int)) (out ++ (s.drop i).filter (fun x => !decide (x ∈ l))) := by
    refine down s.length ?_ ?_
    · intro out ho
      refine Ev.step (f := fun _ => some out) (fun k => by rw [spec_l4Less.l0, if_neg (by omega)]) (Evto ?_ (Ev.now _))
      rw [List.drop_length]; simp
    · intro i hi ih out ho
      have hi1 : (i : Int) < s.length := by omega
      have hi2 : 0 ≤ (i : Int) := by omega
      have hw := wsucc i (by omega)
      rw [filter_drop_i _ s i hi]
      refine Ev.step (f := fun k => (spec_l4Has.f k l (s.getD i 0)).bind fun t => if t = true then spec_l4Less.l0 k s l out ((i + 1 : Nat) : Int) else (if out.length < 17592186044416 then spec_l4Less.l0 k s l (out ++ [s.getD i 0]) ((i + 1 : Nat) : Int) else none)) (fun k => by rw [spec_l4Less.l0, if_pos hi1, if_pos hi2, rd_nat, hw]) (Evbind (has_f l (s.getD i 0) hl) ?_)
      by_cases h : s.getD i 0 ∈ l
      · refine Evpos (decide_eq_true h) (Evto ?_ (ih out (by omega)))
        generalize s.getD i 0 = v at *; simp [h]
      · refine Evneg (by generalize s.getD i 0 = v at *; simpa using h) (Evpos (by omega) (Evto ?_ (ih (out ++ [s.getD i 0]) (by simp; omega))))
        generalize s.getD i 0 = v at *; simp [h]
  exact Ev.congr (fun k => by rw [spec_l4Less.f]; rfl) (key 0 (by omega) [] (by simp))

/-! specin -/
theorem spec_l1In_f (a b c : Int) : spec_l1In.f a b c = some (decide (b ≤ a ∧ a ≤ c)) := by
  unfold spec_l1In.f
  by_cases h : a ≥ b
  · rw [if_pos h]; congr 1; exact decide_eq_decide.2 (by omega)
  · rw [if_neg h]; congr 1; symm; exact decide_eq_false (by omega)

/-! scfg -/
theorem spec_ConfigOk_l0 (ds : List Int) (c : Int) (hn : ds.length < 4611686018427387904) : ∀ i, i ≤ ds.length → Ev (fun k => spec_ConfigOk.l0 k (i : Int) ds c) ((ds.drop i).all domOk) := by
  refine down ds.length ?_ ?_
  · refine Ev.step (f := fun _ => some true) (fun k => ?_) (Evto ?_ (Ev.now _))
    · rw [spec_ConfigOk.l0, if_neg (by omega)]
    · rw [List.drop_length]; rfl
  · intro i hi ih
    rw [all_drop domOk ds i hi]
    by_cases hr : 0 ≤ ds.getD i 0 ∧ ds.getD i 0 ≤ 7
    · refine Ev.step (f := fun k => spec_ConfigOk.l0 k ((i + 1 : Nat) : Int) ds c) (fun k => ?_) (Evto ?_ ih)
      · rw [spec_ConfigOk.l0, if_pos (by omega), if_pos (by omega), rd_nat, spec_l1In_f, Option.bind_some, if_pos (decide_eq_true hr), wsucc i (by omega)]
      · rw [domOk, decide_eq_true hr]; rfl
    · refine Ev.step (f := fun _ => some false) (fun k => ?_) (Evto ?_ (Ev.now _))
      · rw [spec_ConfigOk.l0, if_pos (by omega), if_pos (by omega), rd_nat, spec_l1In_f, Option.bind_some, decide_eq_false hr, if_neg (by decide)]
      · rw [domOk, decide_eq_false hr]; rfl
theorem spec_ConfigOk_f (ds : List Int) (c : Int) (hn : ds.length < 4611686018427387904) : Ev (fun k => spec_ConfigOk.f k ds c) (configOk ds c) := by
  unfold configOk
  by_cases h1 : 1 ≤ (ds.length : Int) ∧ (ds.length : Int) ≤ 8
  · rw [decide_eq_true (show 1 ≤ ds.length ∧ ds.length ≤ 8 by omega)]
    by_cases h2 : 1 ≤ c ∧ c ≤ 4
    · refine Ev.congr (f := fun k => spec_ConfigOk.j0 k false ds c) (fun k => ?_) (Ev.step (f := fun k => spec_ConfigOk.l0 k ((0 : Nat) : Int) ds c) (fun k => ?_) (Evto ?_ (spec_ConfigOk_l0 ds c hn 0 (by omega))))
      · rw [spec_ConfigOk.f, spec_l1In_f, Option.bind_some, if_pos (decide_eq_true h1), spec_l1In_f, Option.bind_some, decide_eq_true h2]; rfl
      · rw [spec_ConfigOk.j0, if_neg (by decide)]; rfl
      · rw [decide_eq_true h2]; rfl
    · refine Ev.congr (f := fun k => spec_ConfigOk.j0 k true ds c) (fun k => ?_) (Ev.step (f := fun _ => some false) (fun k => ?_) (Evto ?_ (Ev.now _)))
      · rw [spec_ConfigOk.f, spec_l1In_f, Option.bind_some, if_pos (decide_eq_true h1), spec_l1In_f, Option.bind_some, decide_eq_false h2]; rfl
      · rw [spec_ConfigOk.j0, if_pos rfl]
      · rw [decide_eq_false h2]; rfl
  · rw [decide_eq_false (show ¬ (1 ≤ ds.length ∧ ds.length ≤ 8) by omega)]
    refine Ev.congr (f := fun k => spec_ConfigOk.j0 k true ds c) (fun k => ?_) (Ev.step (f := fun _ => some false) (fun k => ?_) (Evto ?_ (Ev.now _)))
    · rw [spec_ConfigOk.f, spec_l1In_f, Option.bind_some, decide_eq_false h1, if_neg (by decide)]
    · rw [spec_ConfigOk.j0, if_pos rfl]
    · rfl

/-! sasc -/
theorem spec_l4Asc_l0 (l : List Int) (hi : Int) (hn : l.length < 4611686018427387904) (d : Nat) : ∀ (i : Nat) (p : Int), i + d = l.length → (i = 0 → p = -1) → (0 < i → p = l.getD (i - 1) 0) → Ev (fun k => spec_l4Asc.l0 k l 0 hi (i : Int)) (ascP hi p (l.drop i)) := by
  induction d with
  | zero =>
    intro i p hi' h0 h1
    refine Ev.step (f := fun _ => some true) (fun k => ?_) (Evto ?_ (Ev.now _))
    · rw [spec_l4Asc.l0, if_neg (by omega)]
    · rw [List.drop_eq_nil_of_le (by omega)]; rfl
  | succ d ih =>
    intro i p hi' h0 h1
    have hlt : i < l.length := by omega
    rw [drop_at l i hlt]
    by_cases hr : 0 ≤ l.getD i 0 ∧ l.getD i 0 ≤ hi
    · by_cases hz : i = 0
      · subst hz
        have hp := h0 rfl
        refine Ev.step (f := fun k => spec_l4Asc.l0 k l 0 hi ((0 + 1 : Nat) : Int)) (fun k => ?_) (Evto ?_ (ih (0 + 1) (l.getD 0 0) (by omega) (by omega) (fun _ => rfl)))
        · rw [spec_l4Asc.l0, if_pos (by omega), if_pos (by omega), rd_nat, spec_l1In_f, Option.bind_some, if_pos (decide_eq_true hr), if_neg (by omega), wsucc 0 (by omega)]
        · rw [ascP, decide_eq_true (by omega)]; rfl
      · have hp := h1 (by omega)
        have hm : wrap64 ((i : Int) - 1) = ((i - 1 : Nat) : Int) := by rw [w64 (by omega) (by omega)]; omega
        by_cases hlt2 : p < l.getD i 0
        · refine Ev.step (f := fun k => spec_l4Asc.l0 k l 0 hi ((i + 1 : Nat) : Int)) (fun k => ?_) (Evto ?_ (ih (i + 1) (l.getD i 0) (by omega) (by omega) (fun _ => rfl)))
          · rw [spec_l4Asc.l0, if_pos (by omega), if_pos (by omega), rd_nat, spec_l1In_f, Option.bind_some, if_pos (decide_eq_true hr), if_pos (by omega), hm, if_pos (by omega), if_pos (by omega), rd_nat, ← hp, if_neg (by omega), wsucc i (by omega)]
          · rw [ascP, decide_eq_true (by omega)]; rfl
        · refine Ev.step (f := fun _ => some false) (fun k => ?_) (Evto ?_ (Ev.now _))
          · rw [spec_l4Asc.l0, if_pos (by omega), if_pos (by omega), rd_nat, spec_l1In_f, Option.bind_some, if_pos (decide_eq_true hr), if_pos (by omega), hm, if_pos (by omega), if_pos (by omega), rd_nat, ← hp, if_pos (by omega)]
          · rw [ascP, decide_eq_false (by omega)]; rfl
    · refine Ev.step (f := fun _ => some false) (fun k => ?_) (Evto ?_ (Ev.now _))
      · rw [spec_l4Asc.l0, if_pos (by omega), if_pos (by omega), rd_nat, spec_l1In_f, Option.bind_some, decide_eq_false hr, if_neg (by decide)]
      · rw [ascP, decide_eq_false (by omega)]; rfl
theorem spec_l4Asc_f (l : List Int) (hi : Int) (hn : l.length < 4611686018427387904) : Ev (fun k => spec_l4Asc.f k l 0 hi) (asc hi l) :=
  Ev.congr (fun k => by rw [spec_l4Asc.f]; rfl) (spec_l4Asc_l0 l hi hn l.length 0 (-1) (by omega) (fun _ => rfl) (fun h => by omega))

/-! snodes -/
theorem spec_NodesOk_f (ds : List Int) (c : Int) (l : List Int) (hd : ds.length < 4611686018427387904) (hl : l.length < 4611686018427387904) : Ev (fun k => spec_NodesOk.f k ds c l) (nodesOk ds c l) := by
  unfold spec_NodesOk.f nodesOk
  refine Evbind (spec_ConfigOk_f ds c hd) ?_
  by_cases h : configOk ds c = true
  · have e : wrap64 ((ds.length : Int) - 1) = (ds.length : Int) - 1 := w64 (by omega) (by omega)
    refine Evpos h (Evto ?_ (Evbind (Ev.congr (fun k => by rw [e]) (spec_l4Asc_f l ((ds.length : Int) - 1) hl)) (Ev.now _)))
    rw [h]; rfl
  · refine Evneg h (Evto ?_ (Ev.now _))
    rw [Bool.eq_false_iff.2 h]; rfl

/-! sspan -/
theorem rdB (xs : List Bool) (d : Int) : rdOf false xs d = xs.getD d.toNat false := rfl
theorem spec_l4Span_l0 (ds l : List Int) (c : Int) (hc : configOk ds c = true) (hl : l.length < 4611686018427387904) (hm : ∀ x ∈ l, 0 ≤ x ∧ x < ds.length) : ∀ i, i ≤ l.length → ∀ (seen : List Bool) (acc : List Int), seen.length = 8 → (∀ d : Nat, d < 8 → (seen.getD d false = true ↔ (d : Int) ∈ acc)) → acc.length ≤ i →
    Ev (fun k => spec_l4Span.l0 k l seen (acc.length : Int) (i : Int) ds c) ((domsG ds (l.drop i) acc).length : Int) := by
  refine down l.length ?_ ?_
  · intro seen acc hs ha hal
    refine Ev.step (f := fun _ => some (acc.length : Int)) (fun k => ?_) (Evto ?_ (Ev.now _))
    · rw [spec_l4Span.l0, if_neg (by omega)]
    · rw [List.drop_length]; rfl
  · intro i hi ih seen acc hs ha hal
    have hx := hm _ (getD_mem l i hi)
    obtain ⟨n, hn⟩ := Int.eq_ofNat_of_zero_le hx.1
    have hnl : n < ds.length := by omega
    have hd := configOk_dom hc n hnl
    obtain ⟨d, hdd⟩ := Int.eq_ofNat_of_zero_le hd.1
    have hd8 : d < 8 := by omega
    have hw := wsucc i (by omega)
    rw [drop_at l i hi, domsG_cons, hn, Int.toNat_natCast, hdd]
    have hsd := ha d hd8
    have e1 : rd l (i : Int) = (n : Int) := by rw [rd_nat, hn]
    have e2 : rd ds (n : Int) = (d : Int) := by rw [rd_nat, hdd]
    have e3 : rdOf false seen (d : Int) = seen.getD d false := by rw [rdB, Int.toNat_natCast]
    have hi1 : (i : Int) < l.length := by omega
    have hi2 : 0 ≤ (i : Int) := by omega
    have hi3 : 0 ≤ (n : Int) := by omega
    have hi4 : (n : Int) < ds.length := by omega
    have hi5 : 0 ≤ (d : Int) := by omega
    have hi6 : (d : Int) < seen.length := by omega
    by_cases h : (d : Int) ∈ acc
    · have hs1 := hsd.2 h
      refine Ev.step (f := fun k => spec_l4Span.l0 k l seen (acc.length : Int) ((i + 1 : Nat) : Int) ds c) (fun k => ?_) (Evto ?_ (ih seen acc hs ha (by omega)))
      · rw [spec_l4Span.l0, if_pos hi1, if_pos hi2, e1, if_pos hi3, if_pos hi4, e2, if_pos hi5, if_pos hi6, e3, if_pos hs1, hw]
      · show _ = ((domsG ds (l.drop (i + 1)) (addD acc (d : Int))).length : Int)
        rw [addD, if_pos h]
    · have hs1 : ¬ seen.getD d false = true := fun hh => h (hsd.1 hh)
      have hw2 : wrap64 ((acc.length : Int) + 1) = ((acc.length + 1 : Nat) : Int) := wsucc acc.length (by omega)
      refine Ev.step (f := fun k => spec_l4Span.l0 k l (seen.set d true) (((acc ++ [(d : Int)]).length : Nat) : Int) ((i + 1 : Nat) : Int) ds c) (fun k => ?_) (Evto ?_ (ih (seen.set d true) (acc ++ [(d : Int)]) (by simp [hs]) ?_ (by simp; omega)))
      · rw [spec_l4Span.l0, if_pos hi1, if_pos hi2, e1, if_pos hi3, if_pos hi4, e2, if_pos hi5, if_pos hi6, e3, if_neg hs1, hw, hw2, Int.toNat_natCast]; simp
      · show _ = ((domsG ds (l.drop (i + 1)) (addD acc (d : Int))).length : Int)
        rw [addD, if_neg h]
      · intro q hq
        rw [List.getD_eq_getElem?_getD, List.getElem?_set]
        by_cases hqd : d = q
        · subst hqd; rw [if_pos rfl, if_pos (by omega)]; simp
        · rw [if_neg hqd, ← List.getD_eq_getElem?_getD, ha q hq]
          have : ¬ (q : Int) = (d : Int) := by omega
          simp [this]
theorem spec_l4Span_f (ds l : List Int) (c : Int) (h : nodesOk ds c l = true) (hl : l.length < 4611686018427387904) : Ev (fun k => spec_l4Span.f k ds c l) (spanL ds l) := by
  have hm := nodesOk_mem h
  refine Ev.congr (f := fun k => spec_l4Span.l0 k l (List.replicate 8 false) ((([] : List Int).length : Nat) : Int) ((0 : Nat) : Int) ds c) (fun k => by rw [spec_l4Span.f, if_pos (by decide)]; rfl) ?_
  refine spec_l4Span_l0 ds l c hm.1 hl hm.2 0 (by omega) _ [] (by simp) (fun d hd => ?_) (by simp)
  have e : (List.replicate 8 false).getD d false = false := by rw [List.getD_eq_getElem?_getD, List.getElem?_replicate, if_pos hd]; rfl
  rw [e]; simp

/-! sholds -/
theorem spec_Holds_f (ds : List Int) (c : Int) (l : List Int) (hd : ds.length < 4611686018427387904) (hl : l.length < 4611686018427387904) : Ev (fun k => spec_Holds.f k ds c l) (holdsL ds c l) := by
  unfold spec_Holds.f holdsL
  refine Evbind (spec_NodesOk_f ds c l hd hl) ?_
  by_cases h : nodesOk ds c l = true
  · rw [h, Bool.true_and]; exact Evpos rfl (Evbind (spec_l4Span_f ds l c h hl) (Ev.now _))
  · rw [Bool.eq_false_iff.2 h]; exact Evneg (by decide) (Ev.now _)

/-! senough -/
theorem spec_Enough_f (ds : List Int) (c : Int) (s l : List Int) (hd : ds.length < 4611686018427387904) (hs : s.length < 17592186044416) (hl : l.length < 17592186044416) : Ev (fun k => spec_Enough.f k ds c s l) (enoughL ds c s l) := by
  have hout : Ev (fun k => spec_Enough.j0 k s l true ds c) false := Ev.step (f := fun _ => some false) (fun k => by rw [spec_Enough.j0, if_pos rfl]) (Ev.now _)
  unfold spec_Enough.f enoughL
  refine Evbind (spec_Holds_f ds c s hd (by omega)) ?_
  cases hh : holdsL ds c s with
  | false => exact Evneg Bool.false_ne_true hout
  | true =>
    refine Evpos rfl (Evbind (spec_NodesOk_f ds c l hd (by omega)) ?_)
    cases hn : nodesOk ds c l with
    | false => exact Evneg Bool.false_ne_true hout
    | true =>
      refine Evpos rfl (Evbind (spec_l4Less_f l s hl (by omega)) ?_)
      by_cases h0 : (less l s).length = 0
      · rw [decide_eq_true h0, decide_eq_false (show ¬ ((less l s).length : Int) > 0 by omega)]
        have hns := (holdsL_split hh).1
        have hnl : nodesOk ds c (less s l) = true := nodesOk_filter hns _
        have hlen := less_len s l
        refine Ev.step (fun k => by rw [spec_Enough.j0, if_neg Bool.false_ne_true]) ?_
        exact Evbind (spec_l4Less_f s l hs (by omega)) (Evbind (spec_l4Span_f ds (less s l) c hnl (by omega)) (Ev.now _))
      · rw [decide_eq_false h0, decide_eq_true (show ((less l s).length : Int) > 0 by omega)]
        exact hout

/-! within -/
theorem impl_within_f (a b c : Int) : impl_within.f a b c = some (decide (b ≤ a ∧ a ≤ c)) := by
  unfold impl_within.f
  by_cases h : a ≥ b
  · rw [if_pos h]; congr 1; exact decide_eq_decide.2 (by omega)
  · rw [if_neg h]; congr 1; symm; exact decide_eq_false (by omega)

/-! icfg -/
theorem impl_ConfigOk_l0 (ds : List Int) (c : Int) (hn : ds.length < 4611686018427387904) : ∀ i, i ≤ ds.length → Ev (fun k => impl_ConfigOk.l0 k ds (ds.length : Int) (i : Int) ds c) (decide (1 ≤ ds.length ∧ ds.length ≤ 8) && decide (1 ≤ c ∧ c ≤ 4) && (ds.drop i).all domOk) := by
  refine down ds.length ?_ ?_
  · rw [List.drop_length]
    refine Ev.step (f := fun _ => some (decide (1 ≤ ds.length ∧ ds.length ≤ 8) && decide (1 ≤ c ∧ c ≤ 4))) (fun k => ?_) (Evto (by simp) (Ev.now _))
    rw [impl_ConfigOk.l0, if_neg (by omega), impl_within_f, Option.bind_some, impl_within_f, Option.bind_some]
    by_cases h1 : 1 ≤ (ds.length : Int) ∧ (ds.length : Int) ≤ 8
    · rw [if_pos (decide_eq_true h1), decide_eq_true (show 1 ≤ ds.length ∧ ds.length ≤ 8 by omega)]; rfl
    · rw [decide_eq_false h1, if_neg (by decide), decide_eq_false (show ¬ (1 ≤ ds.length ∧ ds.length ≤ 8) by omega)]; rfl
  · intro i hi ih
    rw [all_drop domOk ds i hi]
    by_cases hr : 0 ≤ ds.getD i 0 ∧ ds.getD i 0 ≤ 7
    · refine Ev.step (f := fun k => impl_ConfigOk.l0 k ds (ds.length : Int) ((i + 1 : Nat) : Int) ds c) (fun k => ?_) (Evto ?_ ih)
      · rw [impl_ConfigOk.l0, if_pos (by omega), if_pos (by omega), if_pos (by omega), rd_nat, impl_within_f, Option.bind_some, if_pos (decide_eq_true hr), wsucc i (by omega)]
      · rw [domOk, decide_eq_true hr, Bool.true_and]
    · refine Ev.step (f := fun _ => some false) (fun k => ?_) (Evto ?_ (Ev.now _))
      · rw [impl_ConfigOk.l0, if_pos (by omega), if_pos (by omega), if_pos (by omega), rd_nat, impl_within_f, Option.bind_some, decide_eq_false hr, if_neg (by decide)]
      · rw [domOk, decide_eq_false hr, Bool.false_and, Bool.and_false]
theorem impl_ConfigOk_f (ds : List Int) (c : Int) (hn : ds.length < 4611686018427387904) : Ev (fun k => impl_ConfigOk.f k ds c) (configOk ds c) :=
  Ev.congr (fun k => by rw [impl_ConfigOk.f]; rfl) (impl_ConfigOk_l0 ds c hn 0 (by omega))

/-! iasc -/
theorem impl_ascends_l0 (l : List Int) (hi : Int) (hn : l.length < 4611686018427387904) (d : Nat) : ∀ (i : Nat) (p : Int), i + d = l.length → (i = 0 → p = -1) → (0 < i → p = l.getD (i - 1) 0) → Ev (fun k => impl_ascends.l0 k l hi l (l.length : Int) (i : Int)) (ascP hi p (l.drop i)) := by
  induction d with
  | zero =>
    intro i p hi' h0 h1
    refine Ev.step (f := fun _ => some true) (fun k => ?_) (Evto ?_ (Ev.now _))
    · rw [impl_ascends.l0, if_neg (by omega)]
    · rw [List.drop_eq_nil_of_le (by omega)]; rfl
  | succ d ih =>
    intro i p hi' h0 h1
    have hlt : i < l.length := by omega
    rw [drop_at l i hlt]
    by_cases hr : 0 ≤ l.getD i 0 ∧ l.getD i 0 ≤ hi
    · by_cases hz : i = 0
      · subst hz
        have hp := h0 rfl
        refine Ev.step (f := fun k => impl_ascends.l0 k l hi l (l.length : Int) ((0 + 1 : Nat) : Int)) (fun k => ?_) (Evto ?_ (ih (0 + 1) (l.getD 0 0) (by omega) (by omega) (fun _ => rfl)))
        · rw [impl_ascends.l0, if_pos (by omega), if_pos (by omega), if_pos (by omega), rd_nat, impl_within_f, Option.bind_some, if_pos (decide_eq_true hr), if_neg (by omega), wsucc 0 (by omega)]
        · rw [ascP, decide_eq_true (by omega)]; rfl
      · have hp := h1 (by omega)
        have hm : wrap64 ((i : Int) - 1) = ((i - 1 : Nat) : Int) := by rw [w64 (by omega) (by omega)]; omega
        by_cases hlt2 : p < l.getD i 0
        · refine Ev.step (f := fun k => impl_ascends.l0 k l hi l (l.length : Int) ((i + 1 : Nat) : Int)) (fun k => ?_) (Evto ?_ (ih (i + 1) (l.getD i 0) (by omega) (by omega) (fun _ => rfl)))
          · rw [impl_ascends.l0, if_pos (by omega), if_pos (by omega), if_pos (by omega), rd_nat, impl_within_f, Option.bind_some, if_pos (decide_eq_true hr), if_pos (by omega), hm, if_pos (by omega), if_pos (by omega), rd_nat, ← hp, if_neg (by omega), wsucc i (by omega)]
          · rw [ascP, decide_eq_true (by omega)]; rfl
        · refine Ev.step (f := fun _ => some false) (fun k => ?_) (Evto ?_ (Ev.now _))
          · rw [impl_ascends.l0, if_pos (by omega), if_pos (by omega), if_pos (by omega), rd_nat, impl_within_f, Option.bind_some, if_pos (decide_eq_true hr), if_pos (by omega), hm, if_pos (by omega), if_pos (by omega), rd_nat, ← hp, if_pos (by omega)]
          · rw [ascP, decide_eq_false (by omega)]; rfl
    · refine Ev.step (f := fun _ => some false) (fun k => ?_) (Evto ?_ (Ev.now _))
      · rw [impl_ascends.l0, if_pos (by omega), if_pos (by omega), if_pos (by omega), rd_nat, impl_within_f, Option.bind_some, decide_eq_false hr, if_neg (by decide)]
      · rw [ascP, decide_eq_false (by omega)]; rfl
theorem impl_ascends_f (l : List Int) (hi : Int) (hn : l.length < 4611686018427387904) : Ev (fun k => impl_ascends.f k l hi) (asc hi l) :=
  Ev.congr (fun k => by rw [impl_ascends.f]; rfl) (impl_ascends_l0 l hi hn l.length 0 (-1) (by omega) (fun _ => rfl) (fun h => by omega))

/-! inodes -/
theorem impl_NodesOk_f (ds : List Int) (c : Int) (l : List Int) (hd : ds.length < 4611686018427387904) (hl : l.length < 4611686018427387904) : Ev (fun k => impl_NodesOk.f k ds c l) (nodesOk ds c l) := by
  unfold impl_NodesOk.f nodesOk
  refine Evbind (impl_ConfigOk_f ds c hd) ?_
  by_cases h : configOk ds c = true
  · have e : wrap64 ((ds.length : Int) - 1) = (ds.length : Int) - 1 := w64 (by omega) (by omega)
    refine Evpos h (Evto ?_ (Evbind (Ev.congr (fun k => by rw [e]) (impl_ascends_f l ((ds.length : Int) - 1) hl)) (Ev.now _)))
    rw [h]; rfl
  · refine Evneg h (Evto ?_ (Ev.now _))
    rw [Bool.eq_false_iff.2 h]; rfl

/-! contains -/
theorem index_l0 (l : List Int) (a : Int) (hn : l.length < 4611686018427387904) : ∀ i, i ≤ l.length → ∃ r, Ev (fun k => slices_Index_int_int.l0 k l a (l.length : Int) (i : Int)) r ∧ (0 ≤ r ↔ a ∈ l.drop i) := by
  refine down l.length ?_ ?_
  · refine ⟨-1, Ev.step (f := fun _ => some (-1)) (fun k => ?_) (Ev.now _), ?_⟩
    · rw [slices_Index_int_int.l0, if_neg (by omega)]
    · rw [List.drop_length]; simp
  · intro i hi ih
    rw [drop_at l i hi]
    by_cases e : a = l.getD i 0
    · refine ⟨i, Ev.step (f := fun _ => some (i : Int)) (fun k => ?_) (Ev.now _), ?_⟩
      · rw [slices_Index_int_int.l0, if_pos (by omega), if_pos (by omega), if_pos (by omega), rd_nat, if_pos e]
      · exact ⟨fun _ => by rw [← e]; exact List.mem_cons_self, fun _ => by omega⟩
    · obtain ⟨r, hr, h⟩ := ih
      refine ⟨r, Ev.step (f := fun k => slices_Index_int_int.l0 k l a (l.length : Int) ((i + 1 : Nat) : Int)) (fun k => ?_) hr, ?_⟩
      · rw [slices_Index_int_int.l0, if_pos (by omega), if_pos (by omega), if_pos (by omega), rd_nat, if_neg e, wsucc i (by omega)]
      · rw [h, List.mem_cons]; exact ⟨fun hh => .inr hh, fun hh => hh.resolve_left e⟩
theorem contains_f (l : List Int) (a : Int) (hn : l.length < 4611686018427387904) : Ev (fun k => slices_Contains_int_int.f k l a) (decide (a ∈ l)) := by
  obtain ⟨r, hr, h⟩ := index_l0 l a hn 0 (by omega)
  unfold slices_Contains_int_int.f
  refine Evbind (Ev.congr (fun k => by rw [slices_Index_int_int.f]; rfl) hr) (Evto ?_ (Ev.now _))
  rw [List.drop_zero] at h
  exact decide_eq_decide.2 h

/-! irest -/
theorem impl_Rest_l0 (s l : List Int) (hs : s.length < 17592186044416) (hl : l.length < 4611686018427387904) : ∀ i, i ≤ s.length → ∀ out : List Int, out.length ≤ i → Ev (fun k => impl_Rest.l0 k l out s (s.length : Int) (i : Int)) (out ++ (s.drop i).filter (fun x => !decide (x ∈ l))) := by
  refine down s.length ?_ ?_
  · intro out ho
    refine Ev.step (f := fun _ => some out) (fun k => by rw [impl_Rest.l0, if_neg (by omega)]) (Evto ?_ (Ev.now _))
    rw [List.drop_length]; simp
  · intro i hi ih out ho
    have hi1 : (i : Int) < s.length := by omega
    have hi2 : 0 ≤ (i : Int) := by omega
    have hw := wsucc i (by omega)
    rw [filter_drop_i _ s i hi]
    refine Ev.step (f := fun k => (slices_Contains_int_int.f k l (s.getD i 0)).bind fun t => if t = true then impl_Rest.l0 k l out s (s.length : Int) ((i + 1 : Nat) : Int) else (if out.length < 17592186044416 then impl_Rest.l0 k l (out ++ [s.getD i 0]) s (s.length : Int) ((i + 1 : Nat) : Int) else none)) (fun k => by rw [impl_Rest.l0, if_pos hi1, if_pos hi2, if_pos hi1, rd_nat, hw]) (Evbind (contains_f l (s.getD i 0) hl) ?_)
    by_cases h : s.getD i 0 ∈ l
    · refine Evpos (decide_eq_true h) (Evto ?_ (ih out (by omega)))
      generalize s.getD i 0 = v at *; simp [h]
    · refine Evneg (by generalize s.getD i 0 = v at *; simpa using h) (Evpos (by omega) (Evto ?_ (ih (out ++ [s.getD i 0]) (by simp; omega))))
      generalize s.getD i 0 = v at *; simp [h]
theorem impl_Rest_f (ds : List Int) (c : Int) (s l : List Int) (hd : ds.length < 4611686018427387904) (hs : s.length < 17592186044416) (hl : l.length < 4611686018427387904) : Ev (fun k => impl_Rest.f k ds c s l) (restL ds c s l) := by
  have hout : Ev (fun k => impl_Rest.j0 k s l [] true) [] := Ev.step (f := fun _ => some []) (fun k => by rw [impl_Rest.j0, if_pos rfl]) (Ev.now _)
  unfold impl_Rest.f restL
  refine Evsome (Evbind (impl_NodesOk_f ds c s hd (by omega)) ?_)
  by_cases h1 : nodesOk ds c s = true
  · refine Evpos h1 (Evbind (impl_NodesOk_f ds c l hd hl) ?_)
    by_cases h2 : nodesOk ds c l = true
    · rw [if_pos ⟨h1, h2⟩, h2]
      exact Ev.step (f := fun k => impl_Rest.l0 k l [] s (s.length : Int) ((0 : Nat) : Int)) (fun k => by rw [impl_Rest.j0, if_neg (by decide)]; rfl) (impl_Rest_l0 s l hs hl 0 (by omega) [] (by simp))
    · rw [if_neg (fun h => h2 h.2), Bool.eq_false_iff.2 h2]; exact hout
  · rw [if_neg (fun h => h1 h.1)]; exact Evneg h1 hout

/-! ispan -/
theorem impl_SpanOf_l0 (ds l : List Int) (c : Int) (hl : l.length < 17592186044416) (hm : ∀ x ∈ l, 0 ≤ x ∧ x < ds.length) : ∀ i, i ≤ l.length → ∀ (acc : List Int), acc.length ≤ i →
    Ev (fun k => impl_SpanOf.l0 k acc l (l.length : Int) (i : Int) ds c) ((domsG ds (l.drop i) acc).length : Int) := by
  refine down l.length ?_ ?_
  · intro acc hal
    refine Ev.step (f := fun _ => some (acc.length : Int)) (fun k => ?_) (Evto ?_ (Ev.now _))
    · rw [impl_SpanOf.l0, if_neg (by omega)]
    · rw [List.drop_length]; rfl
  · intro i hi ih acc hal
    have hx := hm _ (getD_mem l i hi)
    obtain ⟨n, hn⟩ := Int.eq_ofNat_of_zero_le hx.1
    have hw := wsucc i (by omega)
    rw [drop_at l i hi, domsG_cons, hn, Int.toNat_natCast]
    have e1 : rd l (i : Int) = (n : Int) := by rw [rd_nat, hn]
    have e2 : rd ds (n : Int) = ds.getD n 0 := rd_nat _ _
    have hi1 : (i : Int) < l.length := by omega
    have hi2 : 0 ≤ (i : Int) := by omega
    have hi3 : 0 ≤ (n : Int) := by omega
    have hi4 : (n : Int) < ds.length := by omega
    by_cases h : ds.getD n 0 ∈ acc
    · refine Ev.step (f := fun k => (slices_Contains_int_int.f k acc (ds.getD n 0)).bind fun t => if t = true then impl_SpanOf.l0 k acc l (l.length : Int) ((i + 1 : Nat) : Int) ds c else (if acc.length < 17592186044416 then impl_SpanOf.l0 k (acc ++ [ds.getD n 0]) l (l.length : Int) ((i + 1 : Nat) : Int) ds c else none)) (fun k => ?_) (Evto ?_ (Evbind (contains_f acc (ds.getD n 0) (by omega)) (Evpos (decide_eq_true h) (ih acc (by omega)))))
      · rw [impl_SpanOf.l0, if_pos hi1, if_pos hi2, if_pos hi1, e1, if_pos hi3, if_pos hi4, e2, hw]
      · rw [addD, if_pos h]
    · refine Ev.step (f := fun k => (slices_Contains_int_int.f k acc (ds.getD n 0)).bind fun t => if t = true then impl_SpanOf.l0 k acc l (l.length : Int) ((i + 1 : Nat) : Int) ds c else (if acc.length < 17592186044416 then impl_SpanOf.l0 k (acc ++ [ds.getD n 0]) l (l.length : Int) ((i + 1 : Nat) : Int) ds c else none)) (fun k => ?_) (Evto ?_ (Evbind (contains_f acc (ds.getD n 0) (by omega)) (Evneg (by simpa using h) (Evpos (by omega) (ih (acc ++ [ds.getD n 0]) (by simp; omega))))))
      · rw [impl_SpanOf.l0, if_pos hi1, if_pos hi2, if_pos hi1, e1, if_pos hi3, if_pos hi4, e2, hw]
      · rw [addD, if_neg h]
theorem impl_SpanOf_f (ds : List Int) (c : Int) (l : List Int) (hd : ds.length < 4611686018427387904) (hl : l.length < 17592186044416) : Ev (fun k => impl_SpanOf.f k ds c l) (spanOf ds c l) := by
  unfold impl_SpanOf.f spanOf
  refine Evbind (impl_NodesOk_f ds c l hd (by omega)) ?_
  by_cases h : nodesOk ds c l = true
  · rw [if_pos h]; exact Evpos h (impl_SpanOf_l0 ds l c hl (nodesOk_mem h).2 0 (by omega) [] (by simp))
  · rw [if_neg h]; exact Evneg h (Ev.now _)

/-! iholds -/
theorem impl_Holds_f (ds : List Int) (c : Int) (l : List Int) (hd : ds.length < 4611686018427387904) (hl : l.length < 17592186044416) : Ev (fun k => impl_Holds.f k ds c l) (holdsL ds c l) := by
  unfold impl_Holds.f holdsL
  refine Evbind (impl_NodesOk_f ds c l hd (by omega)) ?_
  by_cases h : nodesOk ds c l = true
  · rw [h, Bool.true_and]
    refine Evpos rfl (Evbind (impl_SpanOf_f ds c l hd hl) (Evto ?_ (Ev.now _)))
    rw [spanOf, if_pos h]
  · rw [Bool.eq_false_iff.2 h]; exact Evneg (by decide) (Ev.now _)

/-! ienough -/
theorem impl_Enough_f (ds : List Int) (c : Int) (s l : List Int) (hd : ds.length < 4611686018427387904) (hs : s.length < 17592186044416) (hl : l.length < 17592186044416) : Ev (fun k => impl_Enough.f k ds c s l) (enoughL ds c s l) := by
  have hout : Ev (fun k => impl_Enough.j0 k s l true ds c) false := Ev.step (f := fun _ => some false) (fun k => by rw [impl_Enough.j0, if_pos rfl]) (Ev.now _)
  have hb : impl_both.f l s = some (l.filter (fun x => decide (x ∈ s))) := by unfold impl_both.f; rw [if_pos ⟨hl, by omega⟩]
  have hsp := less_split l s
  unfold impl_Enough.f enoughL
  refine Evbind (impl_NodesOk_f ds c l hd (by omega)) ?_
  cases hn : nodesOk ds c l with
  | false => exact Evneg Bool.false_ne_true (Evto (by simp) hout)
  | true =>
    refine Evpos rfl (Evbind (impl_Holds_f ds c s hd hs) ?_)
    cases hh : holdsL ds c s with
    | false => exact Evneg Bool.false_ne_true hout
    | true =>
      refine Evpos rfl (Evbind (Evconst hb) ?_)
      generalize l.filter (fun x => decide (x ∈ s)) = F at *
      by_cases h0 : (less l s).length = 0
      · have hns := (holdsL_split hh).1
        have hnl : nodesOk ds c (less s l) = true := nodesOk_filter hns _
        have hlen := less_len s l
        have hr : restL ds c s l = less s l := by rw [restL, if_pos ⟨hns, hn⟩]
        have hir := impl_Rest_f ds c s l hd hs (by omega)
        rw [hr] at hir
        rw [decide_eq_true h0, show (((F.length : Int)) != (l.length : Int)) = false by rw [bne_eq_false_iff_eq]; omega]
        refine Ev.step (fun k => by rw [impl_Enough.j0, if_neg Bool.false_ne_true]) ?_
        refine Evbind hir (Evbind (impl_Holds_f ds c (less s l) hd (by omega)) (Evto ?_ (Ev.now _)))
        rw [holdsL, hnl, Bool.true_and, Bool.and_self, Bool.true_and]
        by_cases hlt : spanL ds (less s l) < c
        · rw [decide_eq_true hlt, decide_eq_false (by omega)]; rfl
        · rw [decide_eq_false hlt, decide_eq_true (by omega)]; rfl
      · rw [decide_eq_false h0, show (((F.length : Int)) != (l.length : Int)) = true by rw [bne_iff_ne]; omega]
        exact hout

theorem FnExactEnough (l0_0 : List Int) (a0_1 : Int) (l1 : List Int) (l2 : List Int) (hl0_0 : l0_0.length ≤ maxLen ∧ ∀ x ∈ l0_0, (Lit.int .i64 x).wf = true) (ha0_1 : (Lit.int .i64 a0_1).wf = true) (hl1 : l1.length ≤ maxLen ∧ ∀ x ∈ l1, (Lit.int .i64 x).wf = true) (hl2 : l2.length ≤ maxLen ∧ ∀ x ∈ l2, (Lit.int .i64 x).wf = true) : ∃ k, laws_FnExactEnough.f k l0_0 a0_1 l1 l2 = some true := by
  refine Ev.rounds (g := fun k => laws_FnExactEnough.f k l0_0 a0_1 l1 l2) ?_
  unfold laws_FnExactEnough.f
  by_cases hbig : (l1.length : Int) > 1048576
  · exact Evpos hbig (Ev.now _)
  refine Evneg hbig ?_
  by_cases hbig2 : (l2.length : Int) > 1048576
  · exact Evpos hbig2 (Ev.now _)
  refine Evneg hbig2 ?_
  have hd := hl0_0.1
  unfold maxLen at hd
  rw [szConfig_f l0_0 a0_1 (by omega)]
  simp only [Option.bind_some]
  by_cases hs : (1048576 : Int) - (l0_0.length : Int) < 0
  · rw [if_pos hs]; exact Evpos (by decide) (Ev.now _)
  rw [if_neg hs]
  refine Evneg hs ?_
  have hdd : l0_0.length ≤ 1048576 := by omega
  have hb1 : l1.length ≤ 1048576 := by omega
  have hb2 : l2.length ≤ 1048576 := by omega
  have htc := toConfig_f l0_0 a0_1 (by omega)
  have hec := eqConfig_f l0_0 a0_1 (by omega)
  have ht1 := toIntS_f l1 (by omega)
  have ht2 := toIntS_f l2 (by omega)
  have he1 := eqIntS_refl l1 (by omega)
  have he2 := eqIntS_refl l2 (by omega)
  refine Evbind htc (Evbind ht1 (Evbind ht2 (Evbind (spec_Enough_f l0_0 a0_1 l1 l2 (by omega) (by omega) (by omega)) ?_)))
  refine Evbind htc (Evbind ht1 (Evbind ht2 (Evbind (impl_Enough_f l0_0 a0_1 l1 l2 (by omega) (by omega) (by omega)) ?_)))
  refine Evneg (by simp) ?_
  refine Evbind htc (Evbind hec (Evpos rfl ?_))
  refine Evbind ht1 (Evbind he1 (Evpos rfl ?_))
  exact Evbind ht2 (Evbind he2 (Evpos rfl (Ev.now _)))

end Go.Proofs.Ytfkdgbhjkpigfaa.Pure
