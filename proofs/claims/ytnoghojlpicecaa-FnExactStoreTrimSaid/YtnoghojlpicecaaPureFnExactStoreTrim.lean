/- The program's StoreTrim and the reference's give the same store and answer at every store and place, in new memory, and leave the store alone. Conditions: none beyond the given statement. -/
import Derived.Test.YtnoghojlpicecaaMFnExactStoreTrimx8
import Derived.OpenShut
import Derived.Laws.BitsLemmas
namespace Go.Proofs.Ytnoghojlpicecaa.Pure
open Go.RowKit Go.Proofs.Ytnoghojlpicecaa.PFnExactStoreTrim Go.Proofs.YtnoghojlpicecaaW.PrintWords Go.Proofs.YtnoghojlpicecaaW.PrintLast Go.Proofs.YtnoghojlpicecaaW.PrintMore
set_option linter.unusedVariables false
set_option linter.unusedSimpArgs false
/-! base -/
theorem w64 {n : Int} (h : -9223372036854775808 ≤ n) (h2 : n ≤ 9223372036854775807) : wrap64 n = n := by unfold wrap64; omega
theorem wsucc (i : Nat) (h : i < 4611686018427387904) : wrap64 ((i : Int) + 1) = ((i + 1 : Nat) : Int) := by unfold wrap64; omega
theorem wf64 {n : Int} (h : (Lit.int .i64 n).wf = true) : -9223372036854775808 ≤ n ∧ n ≤ 9223372036854775807 := bounds_i64 h
theorem Evpos {α : Type} {c : Prop} [Decidable c] {a b : Nat → Option α} {r : α} (h : c) (e : Ev a r) : Ev (fun k => if c then a k else b k) r := Ev.congr (fun _ => if_pos h) e
theorem Evneg {α : Type} {c : Prop} [Decidable c] {a b : Nat → Option α} {r : α} (h : ¬ c) (e : Ev b r) : Ev (fun k => if c then a k else b k) r := Ev.congr (fun _ => if_neg h) e
theorem Evsome {α β : Type} {a : α} {f : Nat → α → Option β} {r : β} (e : Ev (fun k => f k a) r) : Ev (fun k => (some a).bind (f k)) r := e
theorem Evbind {α β : Type} {g : Nat → Option α} {f : Nat → α → Option β} {a : α} {r : β} (h : Ev g a) (e : Ev (fun n => f n a) r) : Ev (fun n => (g n).bind (f n)) r := Ev.bind h e
theorem Evconst {α : Type} {g : Option α} {r : α} (h : g = some r) : Ev (fun _ => g) r := ⟨0, fun _ _ => h⟩
theorem Evto {α : Type} {g : Nat → Option α} {r r' : α} (h : r = r') (e : Ev g r) : Ev g r' := h ▸ e
theorem rd_nat (xs : List Int) (i : Nat) : rd xs (i : Int) = xs.getD i 0 := by simp [rd]
theorem getD_get (xs : List Int) (i : Nat) (h : i < xs.length) : xs.getD i 0 = xs[i] := by simp [List.getD_eq_getElem?_getD, List.getElem?_eq_getElem h]
theorem get_getD (xs : List Int) (i : Nat) (h : i < xs.length) : xs[i]? = some (xs.getD i 0) := by simp [List.getD_eq_getElem?_getD, List.getElem?_eq_getElem h]
theorem wf_getD {kd : IntKind} (xs : List Int) (hw : ∀ x ∈ xs, (Lit.int kd x).wf = true) (i : Nat) (h : i < xs.length) : (Lit.int kd (xs.getD i 0)).wf = true := by
  rw [getD_get xs i h]; exact hw _ (List.getElem_mem h)
theorem wf_iff (k : IntKind) (n : Int) : (Lit.int k n).wf = true ↔ k.min ≤ n ∧ n ≤ k.max := by simp [Lit.wf]
theorem wf8 {n : Int} (h : (Lit.int .u8 n).wf = true) : 0 ≤ n ∧ n ≤ 255 := by
  have := (wf_iff .u8 n).1 h
  simpa [IntKind.min, IntKind.max, IntKind.bits, IntKind.signed] using this
theorem wf_mk8 {n : Int} (h : 0 ≤ n) (h2 : n ≤ 255) : (Lit.int .u8 n).wf = true :=
  (wf_iff .u8 n).2 (by simp [IntKind.min, IntKind.max, IntKind.bits, IntKind.signed]; omega)
theorem wf_mk64 {n : Int} (h : -9223372036854775808 ≤ n) (h2 : n ≤ 9223372036854775807) : (Lit.int .i64 n).wf = true :=
  (wf_iff .i64 n).2 (by simp [IntKind.min, IntKind.max, IntKind.bits, IntKind.signed]; omega)
theorem drop_at (b : List Int) (j : Nat) (h : j < b.length) : b.drop j = b.getD j 0 :: b.drop (j + 1) := by
  rw [List.drop_eq_getElem_cons h, getD_get b j h]
theorem p63 : (2 : Int) ^ 63 = 9223372036854775808 := by decide
theorem p1289 : (128 : Nat) ^ 9 = 9223372036854775808 := by decide
theorem p27 : (2 : Int) ^ 7 = 128 := by decide
theorem natpos (i : Nat) : ((i : Int) > 0) ↔ 0 < i := by omega

def QS26 (x : S26) : Prop := (Lit.int .i64 x.f0).wf = true ∧ (Lit.int .i64 x.f1).wf = true ∧ True ∧ x.f3.size ≤ maxLen
/-! down -/
theorem down {p : Nat → Prop} (n : Nat) (h0 : p n) (hs : ∀ i, i < n → p (i + 1) → p i) (i : Nat) (hi : i ≤ n) : p i := by
  obtain ⟨d, hd⟩ : ∃ d, i + d = n := ⟨n - i, by omega⟩
  induction d generalizing i with
  | zero => obtain rfl : i = n := by omega
            exact h0
  | succ d ih => exact hs i (by omega) (ih (i + 1) (by omega) (by omega))
theorem getD_mem (l : List Int) (i : Nat) (h : i < l.length) : l.getD i 0 ∈ l := by
  rw [getD_get l i h]; exact List.getElem_mem h

/-! listg -/
theorem drop_g {α : Type} (z : α) (l : List α) (j : Nat) (h : j < l.length) : l.drop j = l.getD j z :: l.drop (j + 1) := by
  rw [List.drop_eq_getElem_cons h]; simp [List.getD_eq_getElem?_getD, List.getElem?_eq_getElem h]
theorem getD_memg {α : Type} (z : α) (l : List α) (j : Nat) (h : j < l.length) : l.getD j z ∈ l := by
  have : l.getD j z = l[j] := by simp [List.getD_eq_getElem?_getD, List.getElem?_eq_getElem h]
  rw [this]; exact List.getElem_mem h
theorem get_getDg {α : Type} (z : α) (xs : List α) (i : Nat) (h : i < xs.length) : xs[i]? = some (xs.getD i z) := by simp [List.getD_eq_getElem?_getD, List.getElem?_eq_getElem h]
theorem all_dropg {α : Type} (z : α) (p : α → Bool) (l : List α) (i : Nat) (h : i < l.length) : (l.drop i).all p = (p (l.getD i z) && (l.drop (i + 1)).all p) := by
  rw [drop_g z l i h, List.all_cons]

/-! entl -/
def convE (x : S26) : S35 := ⟨x.f0, x.f1, x.f2, x.f3⟩
theorem rdL (l : List S26) (i : Nat) : rd_T26 l (i : Int) = l.getD i z26 := by simp [rd_T26]
theorem rdE (l : List S35) (i : Nat) : rd_T35 l (i : Int) = l.getD i z35 := by simp [rd_T35]
theorem etaE (x : S35) : (⟨x.f0, x.f1, x.f2, x.f3⟩ : S35) = x := rfl
def eWf (x : S35) : Prop := (Lit.int .i64 x.f0).wf = true ∧ (Lit.int .i64 x.f1).wf = true ∧ x.f3.size ≤ maxLen

/-! szent -/
theorem szEntry_f (a b : Int) (c : Bool) (s : ByteArray) (x : Int) (hx : 0 ≤ x) (hx' : x ≤ 1048576) (hs : s.size ≤ maxLen) : ∃ r, laws_szEntry.f a b c s x = some r ∧ r ≤ x ∧ (0 ≤ r ∨ r = -1) := by
  unfold maxLen at hs
  unfold laws_szEntry.f
  rw [w64 (n := x - (s.size : Int)) (by omega) (by omega)]
  by_cases h : x - (s.size : Int) < 0
  · rw [if_pos h]; exact ⟨_, rfl, by omega, .inr rfl⟩
  · rw [if_neg h]; exact ⟨_, rfl, by omega, .inl (by omega)⟩
theorem szEntryS_l0 (l : List S26) (hn : l.length < 4611686018427387904) (hq : ∀ x ∈ l, x.f3.size ≤ maxLen) : ∀ i, i ≤ l.length → ∀ x : Int, 0 ≤ x → x ≤ 1048576 → ∃ r, Ev (fun k => laws_szEntryS.l0 k l x (i : Int)) r ∧ r ≤ x ∧ (0 ≤ r ∨ r = -1) := by
  refine down l.length ?_ ?_
  · intro x h0 h1
    exact ⟨x, Ev.step (f := fun _ => some x) (fun k => by rw [laws_szEntryS.l0, if_neg (by omega)]) (Ev.now _), Int.le_refl _, .inl h0⟩
  · intro i hi ih x h0 h1
    obtain ⟨t, et, ht, ht'⟩ := szEntry_f (l.getD i z26).f0 (l.getD i z26).f1 (l.getD i z26).f2 (l.getD i z26).f3 x h0 h1 (hq _ (getD_memg _ l i hi))
    have hi1 : (i : Int) < l.length := by omega
    have hi2 : 0 ≤ (i : Int) := by omega
    have hw := wsucc i (by omega)
    by_cases hneg : t < 0
    · exact ⟨-1, Ev.step (f := fun _ => some (-1)) (fun k => by rw [laws_szEntryS.l0, if_pos hi1, if_pos hi2, rdL, et, Option.bind_some, if_pos hneg]) (Ev.now _), by omega, .inr rfl⟩
    · obtain ⟨r, er, hr, hr'⟩ := ih t (by omega) (by omega)
      exact ⟨r, Ev.step (f := fun k => laws_szEntryS.l0 k l t ((i + 1 : Nat) : Int)) (fun k => by rw [laws_szEntryS.l0, if_pos hi1, if_pos hi2, rdL, et, Option.bind_some, if_neg hneg, hw]) er, by omega, hr'⟩
theorem szEntryS_f (l : List S26) (hn : l.length ≤ maxLen) (hq : ∀ x ∈ l, x.f3.size ≤ maxLen) (a : Int) (h0 : 0 ≤ a) (h1 : a ≤ 1048576) : ∃ r, Ev (fun k => laws_szEntryS.f k l a) r ∧ r ≤ a ∧ (0 ≤ r ∨ r = -1) ∧ (0 ≤ r → l.length ≤ 1048576) := by
  unfold maxLen at hn
  have hw : wrap64 (a - (l.length : Int)) = a - (l.length : Int) := w64 (by omega) (by omega)
  by_cases h : a - (l.length : Int) < 0
  · exact ⟨-1, Ev.congr (f := fun _ => some (-1)) (fun k => by rw [laws_szEntryS.f, hw, if_pos h]) (Ev.now _), by omega, .inr rfl, fun h => absurd h (by decide)⟩
  · obtain ⟨r, er, hr, hr'⟩ := szEntryS_l0 l (by omega) hq 0 (by omega) (a - (l.length : Int)) (by omega) (by omega)
    exact ⟨r, Ev.congr (f := fun k => laws_szEntryS.l0 k l (a - (l.length : Int)) ((0 : Nat) : Int)) (fun k => by rw [laws_szEntryS.f, hw, if_neg h]; rfl) er, by omega, hr', fun _ => by omega⟩
theorem szStore_f (l m : List S26) (c : Int) (hl : l.length ≤ maxLen) (hm : m.length ≤ maxLen) (hq : ∀ x ∈ l, x.f3.size ≤ maxLen) (hq' : ∀ x ∈ m, x.f3.size ≤ maxLen) : ∃ r, Ev (fun k => laws_szStore.f k l m c 1048576) r ∧ (0 ≤ r ∨ r = -1) ∧ r ≤ 1048576 ∧ (0 ≤ r → l.length ≤ 1048576 ∧ m.length ≤ 1048576) := by
  obtain ⟨r, er, hr, hr1, hr2⟩ := szEntryS_f l hl hq 1048576 (by decide) (by decide)
  by_cases hneg : r < 0
  · refine ⟨-1, ?_, .inr rfl, by decide, fun h => absurd h (by decide)⟩
    unfold laws_szStore.f
    exact Evbind er (Evpos hneg (Ev.now _))
  · obtain ⟨s, es, hs, hs1, hs2⟩ := szEntryS_f m hm hq' r (by omega) (by omega)
    by_cases hneg' : s < 0
    · refine ⟨-1, ?_, .inr rfl, by decide, fun h => absurd h (by decide)⟩
      unfold laws_szStore.f
      exact Evbind er (Evneg hneg (Evbind es (Evpos hneg' (Ev.now _))))
    · refine ⟨s, ?_, hs1, by omega, fun h => ⟨hr2 (by omega), hs2 h⟩⟩
      unfold laws_szStore.f
      exact Evbind er (Evneg hneg (Evbind es (Evneg hneg' (Ev.now _))))

/-! toent -/
theorem toEntryS_l0 (l : List S26) (hn : l.length < 4611686018427387904) : ∀ i, i ≤ l.length → ∀ x : List S35, x.length = l.length → (∀ j, j < i → x[j]? = (l.map convE)[j]?) → Ev (fun k => laws_toEntryS.l0 k l x (i : Int)) (l.map convE) := by
  refine down l.length ?_ ?_
  · intro x hx h
    refine Ev.step (f := fun _ => some x) (fun k => by rw [laws_toEntryS.l0, if_neg (by omega)]) (Evto ?_ (Ev.now _))
    apply List.ext_getElem?; intro j
    by_cases hj : j < l.length
    · exact h j hj
    · rw [List.getElem?_eq_none (by omega), List.getElem?_eq_none (by simp; omega)]
  · intro i hi ih x hx h
    have hi1 : (i : Int) < l.length := by omega
    have hi2 : 0 ≤ (i : Int) := by omega
    have hi3 : (i : Int) < x.length := by omega
    refine Ev.step (f := fun k => laws_toEntryS.l0 k l (x.set i (convE (l.getD i z26))) ((i + 1 : Nat) : Int)) (fun k => ?_) (ih _ (by simp [hx]) ?_)
    · rw [laws_toEntryS.l0, if_pos hi1, if_pos hi2, rdL, laws_toEntry.f, Option.bind_some, if_pos hi3, wsucc i (by omega), Int.toNat_natCast]; rfl
    · intro j hj
      rw [List.getElem?_set]
      by_cases e : i = j
      · subst e; rw [if_pos rfl, if_pos (by omega), List.getElem?_map, get_getDg z26 l i hi]; rfl
      · rw [if_neg e]; exact h j (by omega)
theorem toEntryS_f (l : List S26) (hn : l.length ≤ 1048576) : Ev (fun k => laws_toEntryS.f k l) (l.map convE) :=
  Ev.congr (fun k => by rw [laws_toEntryS.f, if_pos (by omega), if_pos (by simp; omega)]; rfl) (toEntryS_l0 l (by omega) 0 (by omega) _ (by simp) (fun j hj => by omega))
theorem toStore_f (l m : List S26) (c : Int) (hl : l.length ≤ 1048576) (hm : m.length ≤ 1048576) : Ev (fun k => laws_toStore.f k l m c) (l.map convE, m.map convE, c) := by
  unfold laws_toStore.f
  exact Evbind (toEntryS_f l hl) (Evbind (toEntryS_f m hm) (Ev.now _))

/-! eqent -/
theorem eqEntry_refl (a b : Int) (c : Bool) (s : ByteArray) : laws_eqEntry.f a b c s a b c s = some true := by simp [laws_eqEntry.f]
theorem eqEntryS_l0 (l : List S35) (hn : l.length < 4611686018427387904) : ∀ i, i ≤ l.length → Ev (fun k => laws_eqEntryS.l0 k l l (i : Int)) true := by
  refine down l.length ?_ ?_
  · exact Ev.step (f := fun _ => some true) (fun k => by rw [laws_eqEntryS.l0, if_neg (by omega)]) (Ev.now _)
  · intro i hi ih
    have hi1 : (i : Int) < l.length := by omega
    refine Ev.step (f := fun k => laws_eqEntryS.l0 k l l ((i + 1 : Nat) : Int)) (fun k => ?_) ih
    rw [laws_eqEntryS.l0, if_pos hi1, if_pos (by omega), if_pos hi1, eqEntry_refl, Option.bind_some, if_pos rfl, wsucc i (by omega)]
theorem eqEntryS_refl (l : List S35) (hn : l.length < 4611686018427387904) : Ev (fun k => laws_eqEntryS.f k l l) true :=
  Ev.congr (fun k => by rw [laws_eqEntryS.f, if_pos rfl]; rfl) (eqEntryS_l0 l hn 0 (by omega))

/-! eqstore -/
theorem eqStore_refl (l m : List S35) (c : Int) (hl : l.length < 4611686018427387904) (hm : m.length < 4611686018427387904) : Ev (fun k => laws_eqStore.f k l m c l m c) true := by
  unfold laws_eqStore.f
  exact Evbind (eqEntryS_refl l hl) (Evpos rfl (Evbind (eqEntryS_refl m hm) (Evpos rfl (Evpos rfl (Ev.now _)))))

/-! lawstore -/
theorem wfK (l : List S26) (h : ∀ x ∈ l, (Lit.int .i64 x.f0).wf = true) : ∀ x ∈ l.map convE, (Lit.int .i64 x.f0).wf = true := by
  intro x hx; obtain ⟨y, hy, rfl⟩ := List.mem_map.1 hx; exact h y hy
theorem wfK1 (l : List S26) (h : ∀ x ∈ l, (Lit.int .i64 x.f1).wf = true) : ∀ x ∈ l.map convE, (Lit.int .i64 x.f1).wf = true := by
  intro x hx; obtain ⟨y, hy, rfl⟩ := List.mem_map.1 hx; exact h y hy

/-! placem -/
def placeOk (x : Int) : Bool := decide (4294967296 ≤ x ∧ x / 4294967296 ≤ 30 ∧ 1 ≤ x % 4294967296 ∧ x % 4294967296 ≤ 60)
theorem tdm (x : Int) : (0 ≤ x ∧ Int.tdiv x 4294967296 = x / 4294967296 ∧ Int.tmod x 4294967296 = x % 4294967296) ∨ (x < 0 ∧ Int.tdiv x 4294967296 ≤ 0 ∧ x ≤ Int.tdiv x 4294967296 ∧ Int.tmod x 4294967296 ≤ 0) := by
  by_cases h : 0 ≤ x
  · exact .inl ⟨h, Int.tdiv_eq_ediv_of_nonneg h, Int.tmod_eq_emod_of_nonneg h⟩
  · refine .inr ⟨by omega, ?_⟩
    obtain ⟨y, rfl⟩ : ∃ y, x = -y := ⟨-x, by omega⟩
    rw [Int.neg_tdiv, Int.neg_tmod, Int.tdiv_eq_ediv_of_nonneg (by omega), Int.tmod_eq_emod_of_nonneg (by omega)]
    omega
theorem placeOk_iff (x : Int) : placeOk x = true ↔ (4294967296 ≤ x ∧ x / 4294967296 ≤ 30 ∧ 1 ≤ x % 4294967296 ∧ x % 4294967296 ≤ 60) := by simp [placeOk]
theorem placeOk_div (x : Int) (h : placeOk x = true) : wrap64 (Int.tdiv x 4294967296) = x / 4294967296 := by
  have := (placeOk_iff x).1 h
  rw [Int.tdiv_eq_ediv_of_nonneg (by omega), w64 (by omega) (by omega)]
theorem placeOk_mod (x : Int) (h : placeOk x = true) : Int.tmod x 4294967296 = x % 4294967296 := by
  have := (placeOk_iff x).1 h
  rw [Int.tmod_eq_emod_of_nonneg (by omega)]

/-! epochm -/
def epochOf (x : Int) : Int := if placeOk x = true then x / 4294967296 else 0
theorem epochOf_bd (x : Int) : 0 ≤ epochOf x ∧ epochOf x ≤ 30 := by
  unfold epochOf
  by_cases hp : placeOk x = true
  · have := (placeOk_iff x).1 hp; rw [if_pos hp]; omega
  · rw [if_neg hp]; omega

/-! entokm -/
def entryOk (a w : Int) (h : Bool) (s : ByteArray) : Bool := decide (placeOk a = true ∧ 0 ≤ w ∧ w ≤ 30 ∧ (w = 0 ∨ epochOf a < w) ∧ s.size ≤ 40 ∧ (h = true → 0 < w ∧ s.toList = []))

/-! storem -/
def eOk (x : S35) : Bool := entryOk x.f0 x.f1 x.f2 x.f3
def ascPE : Int → List S35 → Bool
  | _, [] => true
  | p, x :: t => decide (p < x.f0) && ascPE x.f0 t
def placesAsc : List S35 → Bool
  | [] => true
  | x :: t => ascPE x.f0 t
def storeOk (kept late : List S35) (seal_ : Int) : Bool := decide (kept.length ≤ 200) && decide (late.length ≤ 20) && kept.all eOk && late.all eOk && placesAsc kept && decide (0 ≤ seal_ ∧ seal_ ≤ 30)

/-! okasc -/
theorem storeOk_asc {kept late : List S35} {c : Int} (h : storeOk kept late c = true) : placesAsc kept = true ∧ kept.length ≤ 200 ∧ late.length ≤ 20 ∧ (∀ x ∈ kept, eOk x = true) ∧ (∀ x ∈ late, eOk x = true) ∧ 0 ≤ c ∧ c ≤ 30 := by
  simp only [storeOk, Bool.and_eq_true, decide_eq_true_eq, List.all_eq_true] at h
  exact ⟨h.1.2, h.1.1.1.1.1, h.1.1.1.1.2, h.1.1.1.2, h.1.1.2, h.2.1, h.2.2⟩

/-! trimm -/
def trP (upto : Int) (x : S35) : Bool := decide (x.f0 > upto)
def storeTrim (kept late : List S35) (c upto : Int) : List S35 × List S35 × Int × Bool :=
  if storeOk kept late c = true then (if placeOk upto = true then (kept.filter (trP upto), late, c, true) else (kept, late, c, false)) else ([], [], 0, false)
theorem storeTrim_len (kept late : List S35) (c upto : Int) : (storeTrim kept late c upto).1.length ≤ 200 ∧ (storeTrim kept late c upto).2.1.length ≤ 20 := by
  unfold storeTrim
  by_cases h : storeOk kept late c = true
  · rw [if_pos h]
    have hs := storeOk_asc h
    by_cases h2 : placeOk upto = true
    · rw [if_pos h2]; exact ⟨Nat.le_trans (List.length_filter_le _ _) hs.2.1, hs.2.2.1⟩
    · rw [if_neg h2]; exact ⟨hs.2.1, hs.2.2.1⟩
  · rw [if_neg h]; simp

/-! specin -/
theorem spec_l1In_f (a b c : Int) : spec_l1In.f a b c = some (decide (b ≤ a ∧ a ≤ c)) := by
  unfold spec_l1In.f
  by_cases h : a ≥ b
  · rw [if_pos h]; congr 1; exact decide_eq_decide.2 (by omega)
  · rw [if_neg h]; congr 1; symm; exact decide_eq_false (by omega)

/-! splace -/
theorem spec_PlaceOk_f (x : Int) (h : (Lit.int .i64 x).wf = true) : spec_PlaceOk.f x = some (placeOk x) := by
  have hb := wf64 h
  unfold spec_PlaceOk.f
  simp only [spec_l1In_f, Option.bind_some, decide_eq_true_eq]
  have ht := tdm x
  rw [w64 (n := Int.tdiv x 4294967296) (by omega) (by omega)]
  by_cases h1 : x > 0
  · rw [if_pos h1]
    by_cases h2 : 1 ≤ Int.tdiv x 4294967296 ∧ Int.tdiv x 4294967296 ≤ 30
    · rw [if_pos h2]; congr 1; exact decide_eq_decide.2 (by omega)
    · rw [if_neg h2]; congr 1; symm; exact decide_eq_false (by omega)
  · rw [if_neg h1]; congr 1; symm; exact decide_eq_false (by omega)

/-! sepoch -/
theorem spec_EpochOf_f (x : Int) (h : (Lit.int .i64 x).wf = true) : spec_EpochOf.f x = some (epochOf x) := by
  unfold spec_EpochOf.f epochOf
  rw [spec_PlaceOk_f x h, Option.bind_some]
  by_cases hp : placeOk x = true
  · rw [if_pos hp, if_pos hp, placeOk_div x hp]
  · rw [if_neg hp, if_neg hp]

/-! sentok -/
theorem spec_EntryOk_f (a w : Int) (h : Bool) (s : ByteArray) (ha : (Lit.int .i64 a).wf = true) : spec_EntryOk.f a w h s = some (entryOk a w h s) := by
  have he := epochOf_bd a
  unfold spec_EntryOk.f entryOk
  rw [spec_PlaceOk_f a ha, spec_EpochOf_f a ha]
  simp only [Option.bind_some, spec_l1In_f]
  by_cases h1 : placeOk a = true
  · by_cases h2 : 0 ≤ w ∧ w ≤ 30
    · by_cases h3 : w > 0
      · by_cases h4 : w ≤ epochOf a
        · simp [h1, h2, h3, h4]; omega
        · by_cases h5 : (s.size : Int) > 40
          · simp [h1, h2, h3, h4, h5]; omega
          · have h5' : s.size ≤ 40 := by omega
            have h4' : epochOf a < w := by omega
            by_cases h6 : s.toList = [] <;> cases h <;> simp [h1, h2, h3, h4, h4', h5, h5', h6]
      · have h3' : w = 0 := by omega
        subst h3'
        by_cases h5 : (s.size : Int) > 40
        · simp [h1, h5]; omega
        · have h5' : s.size ≤ 40 := by omega
          cases h <;> simp [h1, h5, h5']
    · simp [h1, h2]; omega
  · simp [h1]

/-! sstore -/
theorem spec_l6List_l0 (l : List S35) (hn : l.length < 4611686018427387904) (hw : ∀ x ∈ l, (Lit.int .i64 x.f0).wf = true) : ∀ i, i ≤ l.length → Ev (fun k => spec_l6List.l0 k l (i : Int)) ((l.drop i).all eOk) := by
  refine down l.length ?_ ?_
  · refine Ev.step (f := fun _ => some true) (fun k => by rw [spec_l6List.l0, if_neg (by omega)]) (Evto ?_ (Ev.now _))
    rw [List.drop_length]; rfl
  · intro i hi ih
    have hi1 : (i : Int) < l.length := by omega
    have he := spec_EntryOk_f (l.getD i z35).f0 (l.getD i z35).f1 (l.getD i z35).f2 (l.getD i z35).f3 (hw _ (getD_memg _ l i hi))
    rw [all_dropg z35 eOk l i hi]
    cases hv : eOk (l.getD i z35) with
    | true =>
      have hv' : entryOk (l.getD i z35).f0 (l.getD i z35).f1 (l.getD i z35).f2 (l.getD i z35).f3 = true := hv
      exact Ev.step (f := fun k => spec_l6List.l0 k l ((i + 1 : Nat) : Int)) (fun k => by rw [spec_l6List.l0, if_pos hi1, if_pos (by omega), rdE, he, Option.bind_some, if_pos hv', wsucc i (by omega)]) ih
    | false =>
      have hv' : entryOk (l.getD i z35).f0 (l.getD i z35).f1 (l.getD i z35).f2 (l.getD i z35).f3 = false := hv
      exact Ev.step (f := fun _ => some false) (fun k => by rw [spec_l6List.l0, if_pos hi1, if_pos (by omega), rdE, he, Option.bind_some, hv', if_neg Bool.false_ne_true]) (Ev.now _)
theorem spec_l6List_f (l : List S35) (a : Nat) (hn : l.length < 4611686018427387904) (hw : ∀ x ∈ l, (Lit.int .i64 x.f0).wf = true) : Ev (fun k => spec_l6List.f k l (a : Int)) (decide (l.length ≤ a) && l.all eOk) := by
  by_cases h : (l.length : Int) > a
  · refine Ev.congr (f := fun _ => some false) (fun k => by rw [spec_l6List.f, if_pos h]) (Evto ?_ (Ev.now _))
    rw [decide_eq_false (show ¬ l.length ≤ a by omega)]; rfl
  · refine Ev.congr (fun k => by rw [spec_l6List.f, if_neg h]; rfl) (Evto ?_ (spec_l6List_l0 l hn hw 0 (by omega)))
    rw [decide_eq_true (show l.length ≤ a by omega)]; rfl
theorem spec_l6Asc_l0 (l : List S35) (hn : l.length < 4611686018427387904) : ∀ i, i ≤ l.length → 1 ≤ i → Ev (fun k => spec_l6Asc.l0 k l (i : Int)) (ascPE (l.getD (i - 1) z35).f0 (l.drop i)) := by
  refine down l.length ?_ ?_
  · intro h1
    refine Ev.step (f := fun _ => some true) (fun k => by rw [spec_l6Asc.l0, if_neg (by omega)]) (Evto ?_ (Ev.now _))
    rw [List.drop_length]; rfl
  · intro i hi ih h1
    have hm : wrap64 ((i : Int) - 1) = ((i - 1 : Nat) : Int) := by rw [w64 (by omega) (by omega)]; omega
    have hi1 : (i : Int) < l.length := by omega
    have hi2 : 0 ≤ ((i - 1 : Nat) : Int) := by omega
    have hi3 : ((i - 1 : Nat) : Int) < l.length := by omega
    have hi4 : 0 ≤ (i : Int) := by omega
    have hw := wsucc i (by omega)
    rw [drop_g z35 l i hi, ascPE]
    by_cases hlt : (l.getD (i - 1) z35).f0 < (l.getD i z35).f0
    · refine Ev.step (f := fun k => spec_l6Asc.l0 k l ((i + 1 : Nat) : Int)) (fun k => ?_) (Evto ?_ (ih (by omega)))
      · rw [spec_l6Asc.l0, if_pos hi1, hm, if_pos hi2, if_pos hi3, if_pos hi4, rdE, rdE, if_neg (by omega), hw]
      · rw [decide_eq_true hlt]; rfl
    · refine Ev.step (f := fun _ => some false) (fun k => ?_) (Evto ?_ (Ev.now _))
      · rw [spec_l6Asc.l0, if_pos hi1, hm, if_pos hi2, if_pos hi3, if_pos hi4, rdE, rdE, if_pos (by omega)]
      · rw [decide_eq_false hlt]; rfl
theorem spec_l6Asc_f (l : List S35) (hn : l.length < 4611686018427387904) : Ev (fun k => spec_l6Asc.f k l) (placesAsc l) := by
  cases l with
  | nil => exact Ev.step (f := fun _ => some true) (fun k => by rw [spec_l6Asc.f, spec_l6Asc.l0, if_neg (by simp)]) (Ev.now _)
  | cons x t => exact Ev.congr (fun k => by rw [spec_l6Asc.f]; rfl) (spec_l6Asc_l0 (x :: t) hn 1 (by simp) (by omega))
theorem spec_StoreOk_f (kept late : List S35) (c : Int) (hk : kept.length < 4611686018427387904) (hl : late.length < 4611686018427387904) (hwk : ∀ x ∈ kept, (Lit.int .i64 x.f0).wf = true) (hwl : ∀ x ∈ late, (Lit.int .i64 x.f0).wf = true) : Ev (fun k => spec_StoreOk.f k kept late c) (storeOk kept late c) := by
  unfold spec_StoreOk.f storeOk
  refine Evbind (spec_l6List_f kept 200 hk hwk) ?_
  cases h1 : decide (kept.length ≤ 200) && kept.all eOk with
  | false =>
    refine Evneg Bool.false_ne_true (Evto ?_ (Ev.now _))
    simp only [Bool.and_eq_false_iff] at h1
    rcases h1 with h1 | h1 <;> simp [h1]
  | true =>
    simp only [Bool.and_eq_true] at h1
    refine Evpos rfl (Evbind (spec_l6List_f late 20 hl hwl) ?_)
    cases h2 : decide (late.length ≤ 20) && late.all eOk with
    | false =>
      refine Evneg Bool.false_ne_true (Evto ?_ (Ev.now _))
      simp only [Bool.and_eq_false_iff] at h2
      rcases h2 with h2 | h2 <;> simp [h2]
    | true =>
      simp only [Bool.and_eq_true] at h2
      refine Evpos rfl (Evbind (spec_l6Asc_f kept hk) ?_)
      cases h3 : placesAsc kept with
      | false => exact Evneg Bool.false_ne_true (Evto (by simp) (Ev.now _))
      | true =>
        refine Evpos rfl (Evbind (Evconst (spec_l1In_f c 0 30)) (Evto ?_ (Ev.now _)))
        rw [h1.1, h1.2, h2.1, h2.2]; rfl

/-! l6copy -/
theorem spec_l6Copy_f (x y : List S35) (c : Int) (hx : x.length < 3518437208883) (hy : y.length < 3518437208883) : spec_l6Copy.f x y c = some (x, y, c) := by
  unfold spec_l6Copy.f
  rw [Option.bind_some, if_pos (by simpa using hx), Option.bind_some, if_pos (by simpa using hy)]; rfl

/-! eram -/
def eraP (epoch : Int) (x : S35) : Bool := decide (epochOf x.f0 = epoch)
def storeEra (kept late : List S35) (c epoch : Int) : List S35 := if storeOk kept late c = true then kept.filter (eraP epoch) else []
theorem storeOk_len {kept late : List S35} {c : Int} (h : storeOk kept late c = true) : kept.length ≤ 200 ∧ late.length ≤ 20 := by
  simp only [storeOk, Bool.and_eq_true, decide_eq_true_eq] at h; exact ⟨h.1.1.1.1.1, h.1.1.1.1.2⟩
theorem filter_dropg (z : S35) (p : S35 → Bool) (l : List S35) (i : Nat) (h : i < l.length) : (l.drop i).filter p = (if p (l.getD i z) = true then [l.getD i z] else []) ++ (l.drop (i + 1)).filter p := by
  rw [drop_g z l i h, List.filter_cons]
  by_cases hp : p (l.getD i z) = true
  · rw [if_pos hp, if_pos hp]; rfl
  · rw [if_neg hp, if_neg hp]; rfl
theorem storeEra_len (kept late : List S35) (c epoch : Int) : (storeEra kept late c epoch).length ≤ kept.length := by
  unfold storeEra
  by_cases h : storeOk kept late c = true
  · rw [if_pos h]; exact List.length_filter_le _ _
  · rw [if_neg h]; simp

/-! strim -/
theorem spec_StoreTrim_l0 (upto c C' : Int) (kept late L' : List S35) (hk : kept.length ≤ 200) : ∀ i, i ≤ kept.length → ∀ out : List S35, out.length ≤ i → Ev (fun k => spec_StoreTrim.l0 k upto (i : Int) kept late c out L' C') (out ++ (kept.drop i).filter (trP upto), L', C', true) := by
  refine down kept.length ?_ ?_
  · intro out ho
    refine Ev.step (f := fun _ => some (out, L', C', true)) (fun k => by rw [spec_StoreTrim.l0, if_neg (by omega)]) (Evto ?_ (Ev.now _))
    rw [List.drop_length]; simp
  · intro i hi ih out ho
    have hi1 : (i : Int) < kept.length := by omega
    have hi2 : 0 ≤ (i : Int) := by omega
    have hw := wsucc i (by omega)
    rw [filter_dropg z35 (trP upto) kept i hi]
    by_cases hp : (kept.getD i z35).f0 > upto
    · refine Ev.step (f := fun k => spec_StoreTrim.l0 k upto ((i + 1 : Nat) : Int) kept late c (out ++ [kept.getD i z35]) L' C') (fun k => ?_) (Evto ?_ (ih (out ++ [kept.getD i z35]) (by simp; omega)))
      · rw [spec_StoreTrim.l0, if_pos hi1, if_pos hi2, rdE, if_pos hp, if_pos (by omega), hw]
      · rw [if_pos (show trP upto (kept.getD i z35) = true from decide_eq_true hp)]; simp
    · refine Ev.step (f := fun k => spec_StoreTrim.l0 k upto ((i + 1 : Nat) : Int) kept late c out L' C') (fun k => ?_) (Evto ?_ (ih out (by omega)))
      · rw [spec_StoreTrim.l0, if_pos hi1, if_pos hi2, rdE, if_neg hp, hw]
      · rw [if_neg (show ¬ trP upto (kept.getD i z35) = true by simpa [trP] using hp)]; rfl
theorem spec_StoreTrim_f (kept late : List S35) (c upto : Int) (hk : kept.length < 1000000000) (hl : late.length < 1000000000) (hwk : ∀ x ∈ kept, (Lit.int .i64 x.f0).wf = true) (hwl : ∀ x ∈ late, (Lit.int .i64 x.f0).wf = true) (hu : (Lit.int .i64 upto).wf = true) : Ev (fun k => spec_StoreTrim.f k kept late c upto) (storeTrim kept late c upto) := by
  unfold storeTrim spec_StoreTrim.f
  have hso := spec_StoreOk_f kept late c (by omega) (by omega) hwk hwl
  refine Evbind hso ?_
  by_cases h : storeOk kept late c = true
  · rw [if_pos h]
    have hs := storeOk_asc h
    refine Evpos h (Evbind (Evconst (spec_l6Copy_f kept late c (by omega) (by omega))) (Evbind (Evconst (spec_PlaceOk_f upto hu)) ?_))
    by_cases h2 : placeOk upto = true
    · rw [if_pos h2]
      exact Evpos h2 (spec_StoreTrim_l0 upto c c kept late late hs.2.1 0 (by omega) [] (by simp))
    · rw [if_neg h2]; exact Evneg h2 (Ev.now _)
  · rw [if_neg h]; exact Evneg h (Ev.now _)

/-! within -/
theorem impl_within_f (a b c : Int) : impl_within.f a b c = some (decide (b ≤ a ∧ a ≤ c)) := by
  unfold impl_within.f
  by_cases h : a ≥ b
  · rw [if_pos h]; congr 1; exact decide_eq_decide.2 (by omega)
  · rw [if_neg h]; congr 1; symm; exact decide_eq_false (by omega)

/-! isep -/
theorem impl_isEpoch_f (a : Int) : impl_isEpoch.f a = some (decide (1 ≤ a ∧ a ≤ 30)) := by
  unfold impl_isEpoch.f; rw [impl_within_f]; rfl
theorem impl_isOff_f (a : Int) : impl_isOff.f a = some (decide (1 ≤ a ∧ a ≤ 60)) := by
  unfold impl_isOff.f; rw [impl_within_f]; rfl

/-! iplace -/
theorem impl_PlaceOk_f (x : Int) (h : (Lit.int .i64 x).wf = true) : impl_PlaceOk.f x = some (placeOk x) := by
  have hb := wf64 h
  unfold impl_PlaceOk.f
  simp only [impl_isEpoch_f, impl_isOff_f, Option.bind_some, decide_eq_true_eq]
  have ht := tdm x
  rw [w64 (n := Int.tdiv x 4294967296) (by omega) (by omega)]
  by_cases h2 : 1 ≤ Int.tdiv x 4294967296 ∧ Int.tdiv x 4294967296 ≤ 30
  · rw [if_pos h2]; congr 1; exact decide_eq_decide.2 (by omega)
  · rw [if_neg h2]; congr 1; symm; exact decide_eq_false (by omega)

/-! iepoch -/
theorem impl_EpochOf_f (x : Int) (h : (Lit.int .i64 x).wf = true) : impl_EpochOf.f x = some (epochOf x) := by
  unfold impl_EpochOf.f epochOf
  rw [impl_PlaceOk_f x h, Option.bind_some]
  by_cases hp : placeOk x = true
  · rw [if_pos hp, if_pos hp, placeOk_div x hp]
  · rw [if_neg hp, if_neg hp]

/-! ientok -/
theorem impl_EntryOk_f (a w : Int) (h : Bool) (s : ByteArray) (ha : (Lit.int .i64 a).wf = true) : impl_EntryOk.f a w h s = some (entryOk a w h s) := by
  have he := epochOf_bd a
  unfold impl_EntryOk.f entryOk impl_dataOk.f
  rw [impl_PlaceOk_f a ha, impl_EpochOf_f a ha]
  simp only [Option.bind_some, impl_within_f]
  by_cases h2 : 0 ≤ w ∧ w ≤ 30
  · by_cases h1 : placeOk a = true
    · by_cases h3 : w = 0
      · subst h3
        by_cases h5 : s.size ≤ 40
        · have h5' : (s.size : Int) ≤ 40 := by omega
          cases h <;> simp [h1, h5, h5']
        · have h5' : ¬ (s.size : Int) ≤ 40 := by omega
          cases h <;> simp [h1, h5, h5']
      · by_cases h4 : w > epochOf a
        · have h0 : w > 0 := by omega
          by_cases h5 : s.size ≤ 40
          · have h5' : (s.size : Int) ≤ 40 := by omega
            by_cases h6 : s.toList = [] <;> cases h <;> simp [h1, h2, h3, h4, h5, h5', h6, h0]
          · have h5' : ¬ (s.size : Int) ≤ 40 := by omega
            by_cases h6 : s.toList = [] <;> cases h <;> simp [h1, h2, h3, h4, h5, h5', h6, h0]
        · have h0 : w > 0 := by omega
          cases h <;> simp [h1, h2, h3, h4, h0]
    · cases h <;> by_cases h3 : w = 0 <;> simp [h1, h2, h3]
  · have h2' : ¬ (0 ≤ w ∧ w ≤ 30) := h2
    have : ¬ (placeOk a = true ∧ 0 ≤ w ∧ w ≤ 30 ∧ (w = 0 ∨ epochOf a < w) ∧ s.size ≤ 40 ∧ (h = true → 0 < w ∧ s.toList = [])) := fun hh => h2' ⟨hh.2.1, hh.2.2.1⟩
    rw [decide_eq_false this, decide_eq_false h2', if_neg (by decide)]
    cases h <;> by_cases h1 : placeOk a = true <;> by_cases h3 : w > 0 <;> simp [h1, h3]

/-! istore -/
theorem impl_entriesOk_l0 (l : List S35) (hn : l.length < 4611686018427387904) (hw : ∀ x ∈ l, (Lit.int .i64 x.f0).wf = true) : ∀ i, i ≤ l.length → Ev (fun k => impl_entriesOk.l0 k l (l.length : Int) (i : Int)) ((l.drop i).all eOk) := by
  refine down l.length ?_ ?_
  · refine Ev.step (f := fun _ => some true) (fun k => by rw [impl_entriesOk.l0, if_neg (by omega)]) (Evto ?_ (Ev.now _))
    rw [List.drop_length]; rfl
  · intro i hi ih
    have hi1 : (i : Int) < l.length := by omega
    have he := impl_EntryOk_f (l.getD i z35).f0 (l.getD i z35).f1 (l.getD i z35).f2 (l.getD i z35).f3 (hw _ (getD_memg _ l i hi))
    rw [all_dropg z35 eOk l i hi]
    cases hv : eOk (l.getD i z35) with
    | true =>
      have hv' : entryOk (l.getD i z35).f0 (l.getD i z35).f1 (l.getD i z35).f2 (l.getD i z35).f3 = true := hv
      exact Ev.step (f := fun k => impl_entriesOk.l0 k l (l.length : Int) ((i + 1 : Nat) : Int)) (fun k => by rw [impl_entriesOk.l0, if_pos hi1, if_pos (by omega), if_pos hi1, rdE, he, Option.bind_some, if_pos hv', wsucc i (by omega)]) ih
    | false =>
      have hv' : entryOk (l.getD i z35).f0 (l.getD i z35).f1 (l.getD i z35).f2 (l.getD i z35).f3 = false := hv
      exact Ev.step (f := fun _ => some false) (fun k => by rw [impl_entriesOk.l0, if_pos hi1, if_pos (by omega), if_pos hi1, rdE, he, Option.bind_some, hv', if_neg Bool.false_ne_true]) (Ev.now _)
theorem impl_entriesOk_f (l : List S35) (hn : l.length < 4611686018427387904) (hw : ∀ x ∈ l, (Lit.int .i64 x.f0).wf = true) : Ev (fun k => impl_entriesOk.f k l) (l.all eOk) :=
  Ev.congr (fun k => by rw [impl_entriesOk.f]; rfl) (impl_entriesOk_l0 l hn hw 0 (by omega))
theorem impl_placesAscend_l0 (l : List S35) (hn : l.length < 4611686018427387904) : ∀ i, i ≤ l.length → 1 ≤ i → Ev (fun k => impl_placesAscend.l0 k l l (l.length : Int) (i : Int)) (ascPE (l.getD (i - 1) z35).f0 (l.drop i)) := by
  refine down l.length ?_ ?_
  · intro h1
    refine Ev.step (f := fun _ => some true) (fun k => by rw [impl_placesAscend.l0, if_neg (by omega)]) (Evto ?_ (Ev.now _))
    rw [List.drop_length]; rfl
  · intro i hi ih h1
    have hm : wrap64 ((i : Int) - 1) = ((i - 1 : Nat) : Int) := by rw [w64 (by omega) (by omega)]; omega
    have hi1 : (i : Int) < l.length := by omega
    have hi2 : 0 ≤ ((i - 1 : Nat) : Int) := by omega
    have hi3 : ((i - 1 : Nat) : Int) < l.length := by omega
    have hi4 : 0 ≤ (i : Int) := by omega
    have hi5 : (i : Int) > 0 := by omega
    have hw := wsucc i (by omega)
    rw [drop_g z35 l i hi, ascPE]
    by_cases hlt : (l.getD (i - 1) z35).f0 < (l.getD i z35).f0
    · refine Ev.step (f := fun k => impl_placesAscend.l0 k l l (l.length : Int) ((i + 1 : Nat) : Int)) (fun k => ?_) (Evto ?_ (ih (by omega)))
      · rw [impl_placesAscend.l0, if_pos hi1, if_pos hi4, if_pos hi1, if_pos hi5, hm, if_pos hi2, if_pos hi3, rdE, rdE, if_neg (by omega), hw]
      · rw [decide_eq_true hlt]; rfl
    · refine Ev.step (f := fun _ => some false) (fun k => ?_) (Evto ?_ (Ev.now _))
      · rw [impl_placesAscend.l0, if_pos hi1, if_pos hi4, if_pos hi1, if_pos hi5, hm, if_pos hi2, if_pos hi3, rdE, rdE, if_pos (by omega)]
      · rw [decide_eq_false hlt]; rfl
theorem impl_placesAscend_f (l : List S35) (hn : l.length < 4611686018427387904) : Ev (fun k => impl_placesAscend.f k l) (placesAsc l) := by
  cases l with
  | nil => exact Ev.step (f := fun _ => some true) (fun k => by rw [impl_placesAscend.f, impl_placesAscend.l0, if_neg (by simp)]) (Ev.now _)
  | cons x t =>
    have h1 := impl_placesAscend_l0 (x :: t) hn 1 (by simp) (by omega)
    refine Ev.step (f := fun k => impl_placesAscend.l0 k (x :: t) (x :: t) ((x :: t).length : Int) ((1 : Nat) : Int)) (fun k => ?_) h1
    rw [impl_placesAscend.f, impl_placesAscend.l0, if_pos (by simp only [List.length_cons]; omega), if_pos (by decide), if_pos (by simp only [List.length_cons]; omega), if_neg (by decide)]
    rw [show wrap64 (0 + 1) = ((1 : Nat) : Int) from w64 (by decide) (by decide)]
theorem impl_StoreOk_f (kept late : List S35) (c : Int) (hk : kept.length < 4611686018427387904) (hl : late.length < 4611686018427387904) (hwk : ∀ x ∈ kept, (Lit.int .i64 x.f0).wf = true) (hwl : ∀ x ∈ late, (Lit.int .i64 x.f0).wf = true) : Ev (fun k => impl_StoreOk.f k kept late c) (storeOk kept late c) := by
  have hout : Ev (fun k => impl_StoreOk.j0 k true kept late c) false := Ev.step (f := fun _ => some false) (fun k => by rw [impl_StoreOk.j0, if_pos rfl]) (Ev.now _)
  unfold storeOk
  by_cases h1 : (kept.length : Int) > 200
  · refine Ev.congr (fun k => by rw [impl_StoreOk.f, if_pos h1]) (Evto ?_ hout)
    rw [decide_eq_false (show ¬ kept.length ≤ 200 by omega)]; simp
  rw [decide_eq_true (show kept.length ≤ 200 by omega)]
  by_cases h2 : (late.length : Int) > 20
  · refine Ev.congr (fun k => by rw [impl_StoreOk.f, if_neg h1, decide_eq_true h2]) (Evto ?_ hout)
    rw [decide_eq_false (show ¬ late.length ≤ 20 by omega)]; simp
  rw [decide_eq_true (show late.length ≤ 20 by omega)]
  refine Ev.congr (f := fun k => impl_StoreOk.j0 k false kept late c) (fun k => by rw [impl_StoreOk.f, if_neg h1, decide_eq_false h2]) ?_
  refine Ev.step (fun k => by rw [impl_StoreOk.j0, if_neg Bool.false_ne_true]) ?_
  refine Evbind (impl_entriesOk_f kept hk hwk) ?_
  cases kept.all eOk with
  | false => exact Evneg Bool.false_ne_true (Evto (by simp) (Ev.now _))
  | true =>
    refine Evpos rfl (Evbind (impl_entriesOk_f late hl hwl) ?_)
    cases late.all eOk with
    | false => exact Evneg Bool.false_ne_true (Evto (by simp) (Ev.now _))
    | true =>
      refine Evpos rfl (Evbind (impl_placesAscend_f kept hk) ?_)
      cases placesAsc kept with
      | false => exact Evneg Bool.false_ne_true (Evto (by simp) (Ev.now _))
      | true => exact Evpos rfl (Evbind (Evconst (impl_within_f c 0 30)) (Ev.now _))

/-! icopy -/
theorem impl_copyStore_f (x y : List S35) (c : Int) (hx : x.length < 3518437208883) (hy : y.length < 3518437208883) : impl_copyStore.f x y c = some (x, y, c) := by
  unfold impl_copyStore.f impl_copyEntries.f
  rw [Option.bind_some, if_pos (by simpa using hx), Option.bind_some, Option.bind_some, if_pos (by simpa using hy)]; rfl
theorem impl_storeAsWas_f (kept late : List S35) (c : Int) (hk : kept.length < 3518437208883) (hl : late.length < 3518437208883) (hwk : ∀ x ∈ kept, (Lit.int .i64 x.f0).wf = true) (hwl : ∀ x ∈ late, (Lit.int .i64 x.f0).wf = true) : Ev (fun k => impl_storeAsWas.f k kept late c) (if storeOk kept late c = true then (kept, late, c) else ([], [], 0)) := by
  unfold impl_storeAsWas.f
  refine Evbind (impl_StoreOk_f kept late c (by omega) (by omega) hwk hwl) ?_
  by_cases h : storeOk kept late c = true
  · exact Evpos h (Evto (if_pos h).symm (Evbind (Evconst (impl_copyStore_f kept late c hk hl)) (Ev.now _)))
  · exact Evneg h (Evto (if_neg h).symm (Ev.now _))

/-! itrim -/
theorem keepE_trP (a : Int) : keepE a = trP a := by
  funext x
  unfold keepE trP
  by_cases h : x.f0 ≤ a
  · rw [decide_eq_true h, decide_eq_false (by omega)]; rfl
  · rw [decide_eq_false h, decide_eq_true (by omega)]; rfl
theorem impl_StoreTrim_f (kept late : List S35) (c upto : Int) (hk : kept.length < 1000000000) (hl : late.length < 1000000000) (hwk : ∀ x ∈ kept, (Lit.int .i64 x.f0).wf = true) (hwl : ∀ x ∈ late, (Lit.int .i64 x.f0).wf = true) (hu : (Lit.int .i64 upto).wf = true) : Ev (fun k => impl_StoreTrim.f k kept late c upto) (storeTrim kept late c upto) := by
  have hcp := impl_copyStore_f kept late c (by omega) (by omega)
  have hno : ¬ (storeOk kept late c = true ∧ placeOk upto = true) → Ev (fun k => impl_StoreTrim.j0 k upto true kept late c) (storeTrim kept late c upto) := by
    intro hh
    refine Ev.step (fun k => by rw [impl_StoreTrim.j0, if_pos rfl]) (Evbind (impl_storeAsWas_f kept late c (by omega) (by omega) hwk hwl) ?_)
    unfold storeTrim
    by_cases h : storeOk kept late c = true
    · rw [if_pos h, if_pos h, if_neg (fun h2 => hh ⟨h, h2⟩)]
      exact Ev.now _
    · rw [if_neg h, if_neg h]
      exact Ev.now _
  unfold impl_StoreTrim.f
  refine Evbind (impl_StoreOk_f kept late c (by omega) (by omega) hwk hwl) ?_
  by_cases h : storeOk kept late c = true
  · refine Evpos h (Evbind (Evconst (impl_PlaceOk_f upto hu)) ?_)
    by_cases h2 : placeOk upto = true
    · have hs := storeOk_asc h
      rw [h2]
      refine Ev.step (fun k => by rw [impl_StoreTrim.j0, if_neg (by decide), hcp, Option.bind_some]) ?_
      have ht : trimDel.f kept upto = some (kept.filter (trP upto)) := by
        unfold trimDel.f
        rw [if_pos (by omega), keepE_trP]
      refine Evbind (Evconst ht) ?_
      unfold storeTrim
      rw [if_pos h, if_pos h2]
      exact Ev.now _
    · have h2' : placeOk upto = false := by simpa using h2
      rw [h2']
      exact hno (fun hh => h2 hh.2)
  · exact Evneg h (hno (fun hh => h hh.1))

/-! marktext -/
theorem markText_l0 (d : Nat) : ∀ (x : Int) (s : ByteArray), 0 ≤ x → x < 10 ^ d → x < 9223372036854775808 → s.size + d < 1000 → ∃ r, Ev (fun k => laws_markText.l0 k x s) r := by
  induction d with
  | zero =>
    intro x s h0 h1 _ hs
    have : (10 : Int) ^ 0 = 1 := rfl
    exact ⟨_, Ev.step (f := fun _ => some ((⟨#[109]⟩ : ByteArray) ++ s)) (fun k => by rw [laws_markText.l0, if_neg (by omega), if_pos (by omega)]) (Ev.now _)⟩
  | succ d ih =>
    intro x s h0 h1 h2 hs
    by_cases hx : x > 0
    · have e1 : wrap64 (Int.tdiv x 10) = x / 10 := by rw [Int.tdiv_eq_ediv_of_nonneg h0, w64 (by omega) (by omega)]
      have hsz : ∀ q : Int, (strOfNums ([q] : List Int)).size = 1 := fun q => by simp [strOfNums, ByteArray.size]
      have hp : (10 : Int) ^ (d + 1) = 10 * 10 ^ d := by rw [Int.pow_succ, Int.mul_comm]
      rw [hp] at h1
      generalize (10 : Int) ^ d = P at *
      obtain ⟨r, hr⟩ := ih (x / 10) ((strOfNums [(wrap64 (48 + (Int.tmod x 10))) % 256]) ++ s) (by omega) (by omega) (by omega) (by rw [ByteArray.size_append, hsz]; omega)
      refine ⟨r, Ev.step (f := fun k => laws_markText.l0 k (x / 10) ((strOfNums [(wrap64 (48 + (Int.tmod x 10))) % 256]) ++ s)) (fun k => ?_) hr⟩
      rw [laws_markText.l0, if_pos hx, Option.bind_some, if_pos (by rw [hsz]; omega), e1]
    · exact ⟨_, Ev.step (f := fun _ => some ((⟨#[109]⟩ : ByteArray) ++ s)) (fun k => by rw [laws_markText.l0, if_neg hx, if_pos (by omega)]) (Ev.now _)⟩
theorem p1020 : (10 : Int) ^ 20 = 100000000000000000000 := by decide
theorem markText_ex (x : Int) (h1 : x < 9223372036854775808) : ∃ r, Ev (fun k => laws_markText.f k x) r := by
  by_cases h0 : x ≤ 0
  · exact ⟨_, Ev.congr (f := fun _ => some (⟨#[109, 48]⟩ : ByteArray)) (fun k => by rw [laws_markText.f, if_pos h0]) (Ev.now _)⟩
  · obtain ⟨r, hr⟩ := markText_l0 20 x ⟨#[]⟩ (by omega) (by rw [p1020]; omega) h1 (by decide)
    exact ⟨r, Ev.congr (fun k => by rw [laws_markText.f, if_neg h0]) hr⟩
open Classical in
noncomputable def mt (x : Int) : ByteArray := if h : ∃ r, Ev (fun k => laws_markText.f k x) r then Classical.choose h else ⟨#[]⟩
theorem mt_f (x : Int) (h1 : x < 9223372036854775808) : Ev (fun k => laws_markText.f k x) (mt x) := by
  have h := markText_ex x h1
  rw [mt, dif_pos h]
  exact Classical.choose_spec h

/-! markent -/
noncomputable def mEnt (a : Int) : S35 := ⟨a, a + 1, (Int.tmod (a + 2) 3 == 0), mt (a + 3)⟩
noncomputable def marksE (n : Nat) (a : Int) : List S35 := (List.range n).map (fun j : Nat => mEnt (a + 4 * (j : Int)))
theorem marksE_len (n : Nat) (a : Int) : (marksE n a).length = n := by simp [marksE]
theorem marksE_get (n : Nat) (a : Int) (j : Nat) (h : j < n) : (marksE n a)[j]? = some (mEnt (a + 4 * (j : Int))) := by simp [marksE, List.getElem?_range h]
theorem marksE_getD (n : Nat) (a : Int) (j : Nat) (h : j < n) : (marksE n a).getD j z35 = mEnt (a + 4 * (j : Int)) := by rw [List.getD_eq_getElem?_getD, marksE_get n a j h]; rfl
theorem w4 (a : Int) (h0 : 0 ≤ a) (h1 : a < 4611686018427387904) : wrap64 (a + 1) = a + 1 ∧ wrap64 (a + 1 + 1) = a + 2 ∧ wrap64 (a + 2 + 1) = a + 3 ∧ wrap64 (a + 3 + 1) = a + 4 := by
  refine ⟨w64 (by omega) (by omega), ?_, ?_, ?_⟩ <;> rw [w64 (by omega) (by omega)] <;> omega
theorem markEntryS_l0 (n : Nat) (a : Int) (ha : 0 ≤ a) (hn : a + 4 * n < 1152921504606846976) : ∀ i, i ≤ n → ∀ x : List S35, x.length = n → (∀ j, j < i → x[j]? = some (mEnt (a + 4 * (j : Int)))) → Ev (fun k => laws_markEntryS.l0 k x (a + 4 * i) (i : Int)) (a + 4 * n, marksE n a) := by
  refine down n ?_ ?_
  · intro x hx h
    refine Ev.step (f := fun _ => some (a + 4 * n, x)) (fun k => by rw [laws_markEntryS.l0, if_neg (by omega)]) (Evto ?_ (Ev.now _))
    have : x = marksE n a := by
      apply List.ext_getElem?; intro j
      by_cases hj : j < n
      · rw [h j hj, marksE_get n a j hj]
      · rw [List.getElem?_eq_none (by omega), List.getElem?_eq_none (by rw [marksE_len]; omega)]
    rw [this]
  · intro i hi ih x hx h
    have hi1 : (i : Int) < x.length := by omega
    have hi2 : 0 ≤ (i : Int) := by omega
    have hw := wsucc i (by omega)
    obtain ⟨w1, w2, w3, w4'⟩ := w4 (a + 4 * i) (by omega) (by omega)
    have hset : ∀ (y : List S35) (v : S35), y.length = n → (y.set i v).getD i z35 = v := by
      intro y v hy; rw [List.getD_eq_getElem?_getD, List.getElem?_set, if_pos rfl, if_pos (by omega)]; rfl
    have hrd : ∀ (y : List S35) (v : S35), y.length = n → rd_T35 (y.set i v) (i : Int) = v := fun y v hy => by rw [rdE, hset y v hy]
    refine Ev.step (f := fun k => (laws_markText.f k (a + 4 * i + 3)).bind fun t => laws_markEntryS.l0 k (x.set i ⟨a + 4 * i, a + 4 * i + 1, (Int.tmod (a + 4 * i + 2) 3 == 0), t⟩) (a + 4 * ((i + 1 : Nat) : Int)) ((i + 1 : Nat) : Int)) (fun k => ?_) (Evbind (mt_f (a + 4 * i + 3) (by omega)) (ih _ (by simp [hx]) ?_))
    · rw [laws_markEntryS.l0, if_pos hi1, if_pos hi2]
      simp only [Option.bind_some, Int.toNat_natCast, w1, w2, w3, w4', hw]
      rw [hrd x _ hx]
      simp only [List.set_set]
      rw [hrd x _ hx]
      simp only [List.set_set]
      rw [hrd x _ hx]
      simp only [List.set_set]
      rw [show a + 4 * (i : Int) + 4 = a + 4 * ((i + 1 : Nat) : Int) by omega]
    · intro j hj
      rw [List.getElem?_set]
      by_cases e : i = j
      · subst e; rw [if_pos rfl, if_pos (by omega)]; rfl
      · rw [if_neg e]; exact h j (by omega)
theorem markEntryS_f (x : List S35) (a : Int) (ha : 0 ≤ a) (hn : a + 4 * x.length < 1152921504606846976) : Ev (fun k => laws_markEntryS.f k x a) (a + 4 * x.length, marksE x.length a) :=
  Ev.congr (fun k => by rw [laws_markEntryS.f]; simp) (markEntryS_l0 x.length a ha hn 0 (by omega) x rfl (fun j hj => by omega))

/-! markstore -/
theorem markStore_f (x y : List S35) (c a : Int) (ha : 0 ≤ a) (hn : a + 4 * x.length + 4 * y.length < 1152921504606846976) : Ev (fun k => laws_markStore.f k x y c a) (a + 4 * x.length + 4 * y.length, marksE x.length a, marksE y.length (a + 4 * x.length)) := by
  unfold laws_markStore.f
  exact Evbind (markEntryS_f x a ha (by omega)) (Evbind (markEntryS_f y (a + 4 * x.length) (by omega) (by omega)) (Ev.now _))

/-! heldent -/
theorem heldEntryS_l0 (n : Nat) (a : Int) (ha : 0 ≤ a) (hn : a + 4 * n < 1152921504606846976) : ∀ i, i ≤ n → Ev (fun k => laws_heldEntryS.l0 k (marksE n a) (a + 4 * i) (i : Int)) (a + 4 * n) := by
  refine down n ?_ ?_
  · exact Ev.step (f := fun _ => some (a + 4 * n)) (fun k => by rw [laws_heldEntryS.l0, marksE_len, if_neg (by omega)]) (Ev.now _)
  · intro i hi ih
    have hi1 : (i : Int) < (n : Int) := by omega
    have hi2 : 0 ≤ (i : Int) := by omega
    have hw := wsucc i (by omega)
    obtain ⟨w1, w2, w3, w4'⟩ := w4 (a + 4 * i) (by omega) (by omega)
    refine Ev.step (f := fun k => (laws_markText.f k (a + 4 * i + 3)).bind fun t => if (mt (a + 4 * i + 3)).toList = t.toList then laws_heldEntryS.l0 k (marksE n a) (a + 4 * ((i + 1 : Nat) : Int)) ((i + 1 : Nat) : Int) else some (-1)) (fun k => ?_) (Evbind (mt_f (a + 4 * i + 3) (by omega)) (Evpos rfl ih))
    rw [laws_heldEntryS.l0, marksE_len, if_pos hi1, if_pos hi2, rdE, marksE_getD n a i hi]
    simp only [mEnt, w1, w2, w3, w4', hw]
    rw [if_pos trivial, if_pos trivial, if_neg (by simp)]
    rw [show a + 4 * (i : Int) + 4 = a + 4 * ((i + 1 : Nat) : Int) by omega]
theorem heldEntryS_f (n : Nat) (a : Int) (ha : 0 ≤ a) (hn : a + 4 * n < 1152921504606846976) : Ev (fun k => laws_heldEntryS.f k (marksE n a) a) (a + 4 * n) :=
  Ev.congr (fun k => by rw [laws_heldEntryS.f]; simp) (heldEntryS_l0 n a ha hn 0 (by omega))

/-! heldstore -/
theorem heldStore_f (n m : Nat) (c a : Int) (ha : 0 ≤ a) (hn : a + 4 * n + 4 * m < 1152921504606846976) : Ev (fun k => laws_heldStore.f k (marksE n a) (marksE m (a + 4 * n)) c a) (a + 4 * n + 4 * m) := by
  unfold laws_heldStore.f
  refine Evbind (heldEntryS_f n a ha (by omega)) (Evneg (by omega) ?_)
  exact Evbind (heldEntryS_f m (a + 4 * n) (by omega) (by omega)) (Evneg (by omega) (Ev.now _))

theorem FnExactStoreTrim (l0_0 : List S26) (l0_1 : List S26) (a0_2 : Int) (a1 : Int) (hl0_0 : l0_0.length ≤ maxLen ∧ ∀ x ∈ l0_0, QS26 x) (hl0_1 : l0_1.length ≤ maxLen ∧ ∀ x ∈ l0_1, QS26 x) (ha0_2 : (Lit.int .i64 a0_2).wf = true) (ha1 : (Lit.int .i64 a1).wf = true) : ∃ k, laws_FnExactStoreTrim.f k l0_0 l0_1 a0_2 a1 = some true := by
  refine Ev.rounds (g := fun k => laws_FnExactStoreTrim.f k l0_0 l0_1 a0_2 a1) ?_
  unfold laws_FnExactStoreTrim.f
  obtain ⟨r, er, _, _, hr⟩ := szStore_f l0_0 l0_1 a0_2 hl0_0.1 hl0_1.1 (fun x hx => (hl0_0.2 x hx).2.2.2) (fun x hx => (hl0_1.2 x hx).2.2.2)
  refine Evbind er ?_
  by_cases hneg : r < 0
  · exact Evpos hneg (Ev.now _)
  refine Evneg hneg ?_
  obtain ⟨hlk, hll⟩ := hr (by omega)
  have hts := toStore_f l0_0 l0_1 a0_2 hlk hll
  have hlk' : (l0_0.map convE).length ≤ 1048576 := by rw [List.length_map]; exact hlk
  have hll' : (l0_1.map convE).length ≤ 1048576 := by rw [List.length_map]; exact hll
  have hwk := wfK l0_0 (fun x hx => (hl0_0.2 x hx).1)
  have hwl := wfK l0_1 (fun x hx => (hl0_1.2 x hx).1)
  have hes := eqStore_refl (l0_0.map convE) (l0_1.map convE) a0_2 (by omega) (by omega)
  have hs := spec_StoreTrim_f (l0_0.map convE) (l0_1.map convE) a0_2 a1 (by omega) (by omega) hwk hwl ha1
  have hi := impl_StoreTrim_f (l0_0.map convE) (l0_1.map convE) a0_2 a1 (by omega) (by omega) hwk hwl ha1
  have hlen := storeTrim_len (l0_0.map convE) (l0_1.map convE) a0_2 a1
  have hms := markStore_f (l0_0.map convE) (l0_1.map convE) a0_2 1 (by decide) (by omega)
  generalize storeTrim (l0_0.map convE) (l0_1.map convE) a0_2 a1 = P at *
  have heP := eqStore_refl P.1 P.2.1 P.2.2.1 (by omega) (by omega)
  have hmP := markStore_f P.1 P.2.1 P.2.2.1 1 (by decide) (by omega)
  have hhP := heldStore_f P.1.length P.2.1.length P.2.2.1 1 (by decide) (by omega)
  refine Evbind hts (Evbind hs (Evbind hts (Evbind hi (Evbind heP (Evpos rfl ?_)))))
  refine Ev.step (fun k => by rw [laws_FnExactStoreTrim.j0, if_neg (by simp)]) ?_
  refine Evbind hts (Evbind hes (Evpos rfl (Evbind hms ?_)))
  refine Evneg (show ¬ (1 + 4 * ((l0_0.map convE).length : Int) + 4 * ((l0_1.map convE).length : Int)) < 0 by omega) ?_
  refine Evbind heP (Evpos rfl ?_)
  refine Ev.step (fun k => by rw [laws_FnExactStoreTrim.j1, if_neg (by simp)]) ?_
  refine Evbind hmP (Evbind hhP (Evneg (by omega) (Evpos rfl ?_)))
  refine Evbind hts (Evbind hi (Evbind heP (Evpos rfl ?_)))
  refine Ev.step (fun k => by rw [laws_FnExactStoreTrim.j2, if_neg (by simp)]) ?_
  exact Evbind hhP (Evneg (by omega) (Evpos rfl (Ev.now _)))

end Go.Proofs.Ytnoghojlpicecaa.Pure
