/- The program's StorePack and the reference's give the same bytes and answer at every store, in new memory, and leave the store alone. Conditions: none beyond the given statement. -/
import Derived.Test.YthdpknoeackpfaaMFnExactStorePackx8
import Derived.OpenShut
import Derived.Laws.BitsLemmas
namespace Go.Proofs.Ythdpknoeackpfaa.Pure
open Go.RowKit Go.Proofs.Ythdpknoeackpfaa.PFnExactStorePack Go.Proofs.YthdpknoeackpfaaW.PrintWords Go.Proofs.YthdpknoeackpfaaW.PrintLast Go.Proofs.YthdpknoeackpfaaW.PrintMore
set_option linter.unusedVariables false
set_option linter.unusedSimpArgs false
/-! base -/
theorem w64 {n : Int} (h : -9223372036854775808 ≤ n) (h2 : n ≤ 9223372036854775807) : wrap64 n = n := by unfold wrap64; omega
theorem wsucc (i : Nat) (h : i < 4611686018427387904) : wrap64 ((i : Int) + 1) = ((i + 1 : Nat) : Int) := by unfold wrap64; omega
theorem wf64 {n : Int} (h : (Lit.int .i64 n).wf = true) : -9223372036854775808 ≤ n ∧ n ≤ 9223372036854775807 := bounds_i64 h
theorem Evpos {α : Type} {c : Prop} [Decidable c] {a b : Nat → Option α} {r : α} (h : c) (e : Ev a r) : Ev (fun k => if c then a k else b k) r := Ev.congr (fun _ => if_pos h) e
theorem Evneg {α : Type} {c : Prop} [Decidable c] {a b : Nat → Option α} {r : α} (h : ¬ c) (e : Ev b r) : Ev (fun k => if c then a k else b k) r := Ev.congr (fun _ => if_neg h) e
theorem Evsome {α β : Type} {a : α} {f : Nat → α → Option β} {r : β} (e : Ev (fun k => f k a) r) : Ev (fun k => (some a).bind (f k)) r := e
theorem Evbind {α β : Type} {g : Nat → Option α} {f : Nat → α → Option β} {a : α} {r : β} (h : Ev g a) (e : Ev (fun n => f n a) r) : Ev (fun n => (g n).bind (f n)) r := Ev.bind h e
theorem Evconst {α : Type} {g : Option α} {r : α} (h : g = some r) : Ev (fun _ => g) r := ⟨0, fun _ _ => h⟩
theorem Evto {α : Type} {g : Nat → Option α} {r r' : α} (h : r = r') (e : Ev g r) : Ev g r' := h ▸ e
theorem rd_nat (xs : List Int) (i : Nat) : rd xs (i : Int) = xs.getD i 0 := by simp [rd]
theorem getD_get (xs : List Int) (i : Nat) (h : i < xs.length) : xs.getD i 0 = xs[i] := by simp [List.getD_eq_getElem?_getD, List.getElem?_eq_getElem h]
theorem get_getD (xs : List Int) (i : Nat) (h : i < xs.length) : xs[i]? = some (xs.getD i 0) := by simp [List.getD_eq_getElem?_getD, List.getElem?_eq_getElem h]
theorem wf_getD {kd : IntKind} (xs : List Int) (hw : ∀ x ∈ xs, (Lit.int kd x).wf = true) (i : Nat) (h : i < xs.length) : (Lit.int kd (xs.getD i 0)).wf = true := by
  rw [getD_get xs i h]; exact hw _ (List.getElem_mem h)
theorem wf_iff (k : IntKind) (n : Int) : (Lit.int k n).wf = true ↔ k.min ≤ n ∧ n ≤ k.max := by simp [Lit.wf]
theorem wf8 {n : Int} (h : (Lit.int .u8 n).wf = true) : 0 ≤ n ∧ n ≤ 255 := by
  have := (wf_iff .u8 n).1 h
  simpa [IntKind.min, IntKind.max, IntKind.bits, IntKind.signed] using this
theorem wf_mk8 {n : Int} (h : 0 ≤ n) (h2 : n ≤ 255) : (Lit.int .u8 n).wf = true :=
  (wf_iff .u8 n).2 (by simp [IntKind.min, IntKind.max, IntKind.bits, IntKind.signed]; omega)
theorem wf_mk64 {n : Int} (h : -9223372036854775808 ≤ n) (h2 : n ≤ 9223372036854775807) : (Lit.int .i64 n).wf = true :=
  (wf_iff .i64 n).2 (by simp [IntKind.min, IntKind.max, IntKind.bits, IntKind.signed]; omega)
theorem drop_at (b : List Int) (j : Nat) (h : j < b.length) : b.drop j = b.getD j 0 :: b.drop (j + 1) := by
  rw [List.drop_eq_getElem_cons h, getD_get b j h]
theorem p63 : (2 : Int) ^ 63 = 9223372036854775808 := by decide
theorem p1289 : (128 : Nat) ^ 9 = 9223372036854775808 := by decide
theorem p27 : (2 : Int) ^ 7 = 128 := by decide
theorem natpos (i : Nat) : ((i : Int) > 0) ↔ 0 < i := by omega

def QS43 (x : S43) : Prop := (Lit.int .i64 x.f0).wf = true ∧ (Lit.int .i64 x.f1).wf = true ∧ True ∧ x.f3.size ≤ maxLen
/-! bits -/
theorem wraps63 (n : Int) (h₀ : 0 ≤ n) (h₁ : n < 2 ^ 63) : IntKind.i64.wrap n = n := by
  have e := p63
  rw [IntKind.wrap_i64]; omega
theorem and127 (x : Int) (h0 : 0 ≤ x) (h1 : x < 9223372036854775808) : Go.bits .and .i64 x 127 = x % 128 :=
  bits_mask .i64 63 (by decide) wraps63 7 (by decide) x h0 (by rw [p63]; exact h1)
theorem and1 (x : Int) (h0 : 0 ≤ x) (h1 : x < 9223372036854775808) : Go.bits .and .i64 x 1 = x % 2 :=
  bits_mask .i64 63 (by decide) wraps63 1 (by decide) x h0 (by rw [p63]; exact h1)
theorem or_comm64 (x y : Int) : Go.bits .or .i64 x y = Go.bits .or .i64 y x := by
  unfold Go.bits; simp only []; rw [BitVec.or_comm]
theorem or_low (i : Nat) (x z : Int) (hx : 0 ≤ x) (hx' : x < 2 ^ i) (hz : 0 ≤ z) (hz' : z < 9223372036854775808) (hm : z % 2 ^ i = 0) (hx2 : x < 9223372036854775808) : Go.bits .or .i64 x z = x + z := by
  have e := p63
  rw [or_comm64, bits_join .i64 63 (by decide) wraps63 i z x hz hm (by omega) hx hx' (by omega)]; omega

/-! down -/
theorem down {p : Nat → Prop} (n : Nat) (h0 : p n) (hs : ∀ i, i < n → p (i + 1) → p i) (i : Nat) (hi : i ≤ n) : p i := by
  obtain ⟨d, hd⟩ : ∃ d, i + d = n := ⟨n - i, by omega⟩
  induction d generalizing i with
  | zero => obtain rfl : i = n := by omega
            exact h0
  | succ d ih => exact hs i (by omega) (ih (i + 1) (by omega) (by omega))
theorem getD_mem (l : List Int) (i : Nat) (h : i < l.length) : l.getD i 0 ∈ l := by
  rw [getD_get l i h]; exact List.getElem_mem h

/-! listg -/
theorem drop_g {α : Type} (z : α) (l : List α) (j : Nat) (h : j < l.length) : l.drop j = l.getD j z :: l.drop (j + 1) := by
  rw [List.drop_eq_getElem_cons h]; simp [List.getD_eq_getElem?_getD, List.getElem?_eq_getElem h]
theorem getD_memg {α : Type} (z : α) (l : List α) (j : Nat) (h : j < l.length) : l.getD j z ∈ l := by
  have : l.getD j z = l[j] := by simp [List.getD_eq_getElem?_getD, List.getElem?_eq_getElem h]
  rw [this]; exact List.getElem_mem h
theorem get_getDg {α : Type} (z : α) (xs : List α) (i : Nat) (h : i < xs.length) : xs[i]? = some (xs.getD i z) := by simp [List.getD_eq_getElem?_getD, List.getElem?_eq_getElem h]
theorem all_dropg {α : Type} (z : α) (p : α → Bool) (l : List α) (i : Nat) (h : i < l.length) : (l.drop i).all p = (p (l.getD i z) && (l.drop (i + 1)).all p) := by
  rw [drop_g z l i h, List.all_cons]

/-! entl -/
def convE (x : S43) : S34 := ⟨x.f0, x.f1, x.f2, x.f3⟩
theorem rdL (l : List S43) (i : Nat) : rd_T43 l (i : Int) = l.getD i z43 := by simp [rd_T43]
theorem rdE (l : List S34) (i : Nat) : rd_T34 l (i : Int) = l.getD i z34 := by simp [rd_T34]
theorem etaE (x : S34) : (⟨x.f0, x.f1, x.f2, x.f3⟩ : S34) = x := rfl
def eWf (x : S34) : Prop := (Lit.int .i64 x.f0).wf = true ∧ (Lit.int .i64 x.f1).wf = true ∧ x.f3.size ≤ maxLen

/-! szent -/
theorem szEntry_f (a b : Int) (c : Bool) (s : ByteArray) (x : Int) (hx : 0 ≤ x) (hx' : x ≤ 1048576) (hs : s.size ≤ maxLen) : ∃ r, laws_szEntry.f a b c s x = some r ∧ r ≤ x ∧ (0 ≤ r ∨ r = -1) := by
  unfold maxLen at hs
  unfold laws_szEntry.f
  rw [w64 (n := x - (s.size : Int)) (by omega) (by omega)]
  by_cases h : x - (s.size : Int) < 0
  · rw [if_pos h]; exact ⟨_, rfl, by omega, .inr rfl⟩
  · rw [if_neg h]; exact ⟨_, rfl, by omega, .inl (by omega)⟩
theorem szEntryS_l0 (l : List S43) (hn : l.length < 4611686018427387904) (hq : ∀ x ∈ l, x.f3.size ≤ maxLen) : ∀ i, i ≤ l.length → ∀ x : Int, 0 ≤ x → x ≤ 1048576 → ∃ r, Ev (fun k => laws_szEntryS.l0 k l x (i : Int)) r ∧ r ≤ x ∧ (0 ≤ r ∨ r = -1) := by
  refine down l.length ?_ ?_
  · intro x h0 h1
    exact ⟨x, Ev.step (f := fun _ => some x) (fun k => by rw [laws_szEntryS.l0, if_neg (by omega)]) (Ev.now _), Int.le_refl _, .inl h0⟩
  · intro i hi ih x h0 h1
    obtain ⟨t, et, ht, ht'⟩ := szEntry_f (l.getD i z43).f0 (l.getD i z43).f1 (l.getD i z43).f2 (l.getD i z43).f3 x h0 h1 (hq _ (getD_memg _ l i hi))
    have hi1 : (i : Int) < l.length := by omega
    have hi2 : 0 ≤ (i : Int) := by omega
    have hw := wsucc i (by omega)
    by_cases hneg : t < 0
    · exact ⟨-1, Ev.step (f := fun _ => some (-1)) (fun k => by rw [laws_szEntryS.l0, if_pos hi1, if_pos hi2, rdL, et, Option.bind_some, if_pos hneg]) (Ev.now _), by omega, .inr rfl⟩
    · obtain ⟨r, er, hr, hr'⟩ := ih t (by omega) (by omega)
      exact ⟨r, Ev.step (f := fun k => laws_szEntryS.l0 k l t ((i + 1 : Nat) : Int)) (fun k => by rw [laws_szEntryS.l0, if_pos hi1, if_pos hi2, rdL, et, Option.bind_some, if_neg hneg, hw]) er, by omega, hr'⟩
theorem szEntryS_f (l : List S43) (hn : l.length ≤ maxLen) (hq : ∀ x ∈ l, x.f3.size ≤ maxLen) (a : Int) (h0 : 0 ≤ a) (h1 : a ≤ 1048576) : ∃ r, Ev (fun k => laws_szEntryS.f k l a) r ∧ r ≤ a ∧ (0 ≤ r ∨ r = -1) ∧ (0 ≤ r → l.length ≤ 1048576) := by
  unfold maxLen at hn
  have hw : wrap64 (a - (l.length : Int)) = a - (l.length : Int) := w64 (by omega) (by omega)
  by_cases h : a - (l.length : Int) < 0
  · exact ⟨-1, Ev.congr (f := fun _ => some (-1)) (fun k => by rw [laws_szEntryS.f, hw, if_pos h]) (Ev.now _), by omega, .inr rfl, fun h => absurd h (by decide)⟩
  · obtain ⟨r, er, hr, hr'⟩ := szEntryS_l0 l (by omega) hq 0 (by omega) (a - (l.length : Int)) (by omega) (by omega)
    exact ⟨r, Ev.congr (f := fun k => laws_szEntryS.l0 k l (a - (l.length : Int)) ((0 : Nat) : Int)) (fun k => by rw [laws_szEntryS.f, hw, if_neg h]; rfl) er, by omega, hr', fun _ => by omega⟩
theorem szStore_f (l m : List S43) (c : Int) (hl : l.length ≤ maxLen) (hm : m.length ≤ maxLen) (hq : ∀ x ∈ l, x.f3.size ≤ maxLen) (hq' : ∀ x ∈ m, x.f3.size ≤ maxLen) : ∃ r, Ev (fun k => laws_szStore.f k l m c 1048576) r ∧ (0 ≤ r ∨ r = -1) ∧ r ≤ 1048576 ∧ (0 ≤ r → l.length ≤ 1048576 ∧ m.length ≤ 1048576) := by
  obtain ⟨r, er, hr, hr1, hr2⟩ := szEntryS_f l hl hq 1048576 (by decide) (by decide)
  by_cases hneg : r < 0
  · refine ⟨-1, ?_, .inr rfl, by decide, fun h => absurd h (by decide)⟩
    unfold laws_szStore.f
    exact Evbind er (Evpos hneg (Ev.now _))
  · obtain ⟨s, es, hs, hs1, hs2⟩ := szEntryS_f m hm hq' r (by omega) (by omega)
    by_cases hneg' : s < 0
    · refine ⟨-1, ?_, .inr rfl, by decide, fun h => absurd h (by decide)⟩
      unfold laws_szStore.f
      exact Evbind er (Evneg hneg (Evbind es (Evpos hneg' (Ev.now _))))
    · refine ⟨s, ?_, hs1, by omega, fun h => ⟨hr2 (by omega), hs2 h⟩⟩
      unfold laws_szStore.f
      exact Evbind er (Evneg hneg (Evbind es (Evneg hneg' (Ev.now _))))

/-! toent -/
theorem toEntryS_l0 (l : List S43) (hn : l.length < 4611686018427387904) : ∀ i, i ≤ l.length → ∀ x : List S34, x.length = l.length → (∀ j, j < i → x[j]? = (l.map convE)[j]?) → Ev (fun k => laws_toEntryS.l0 k l x (i : Int)) (l.map convE) := by
  refine down l.length ?_ ?_
  · intro x hx h
    refine Ev.step (f := fun _ => some x) (fun k => by rw [laws_toEntryS.l0, if_neg (by omega)]) (Evto ?_ (Ev.now _))
    apply List.ext_getElem?; intro j
    by_cases hj : j < l.length
    · exact h j hj
    · rw [List.getElem?_eq_none (by omega), List.getElem?_eq_none (by simp; omega)]
  · intro i hi ih x hx h
    have hi1 : (i : Int) < l.length := by omega
    have hi2 : 0 ≤ (i : Int) := by omega
    have hi3 : (i : Int) < x.length := by omega
    refine Ev.step (f := fun k => laws_toEntryS.l0 k l (x.set i (convE (l.getD i z43))) ((i + 1 : Nat) : Int)) (fun k => ?_) (ih _ (by simp [hx]) ?_)
    · rw [laws_toEntryS.l0, if_pos hi1, if_pos hi2, rdL, laws_toEntry.f, Option.bind_some, if_pos hi3, wsucc i (by omega), Int.toNat_natCast]; rfl
    · intro j hj
      rw [List.getElem?_set]
      by_cases e : i = j
      · subst e; rw [if_pos rfl, if_pos (by omega), List.getElem?_map, get_getDg z43 l i hi]; rfl
      · rw [if_neg e]; exact h j (by omega)
theorem toEntryS_f (l : List S43) (hn : l.length ≤ 1048576) : Ev (fun k => laws_toEntryS.f k l) (l.map convE) :=
  Ev.congr (fun k => by rw [laws_toEntryS.f, if_pos (by omega), if_pos (by simp; omega)]; rfl) (toEntryS_l0 l (by omega) 0 (by omega) _ (by simp) (fun j hj => by omega))
theorem toStore_f (l m : List S43) (c : Int) (hl : l.length ≤ 1048576) (hm : m.length ≤ 1048576) : Ev (fun k => laws_toStore.f k l m c) (l.map convE, m.map convE, c) := by
  unfold laws_toStore.f
  exact Evbind (toEntryS_f l hl) (Evbind (toEntryS_f m hm) (Ev.now _))

/-! eqent -/
theorem eqEntry_refl (a b : Int) (c : Bool) (s : ByteArray) : laws_eqEntry.f a b c s a b c s = some true := by simp [laws_eqEntry.f]
theorem eqEntryS_l0 (l : List S34) (hn : l.length < 4611686018427387904) : ∀ i, i ≤ l.length → Ev (fun k => laws_eqEntryS.l0 k l l (i : Int)) true := by
  refine down l.length ?_ ?_
  · exact Ev.step (f := fun _ => some true) (fun k => by rw [laws_eqEntryS.l0, if_neg (by omega)]) (Ev.now _)
  · intro i hi ih
    have hi1 : (i : Int) < l.length := by omega
    refine Ev.step (f := fun k => laws_eqEntryS.l0 k l l ((i + 1 : Nat) : Int)) (fun k => ?_) ih
    rw [laws_eqEntryS.l0, if_pos hi1, if_pos (by omega), if_pos hi1, eqEntry_refl, Option.bind_some, if_pos rfl, wsucc i (by omega)]
theorem eqEntryS_refl (l : List S34) (hn : l.length < 4611686018427387904) : Ev (fun k => laws_eqEntryS.f k l l) true :=
  Ev.congr (fun k => by rw [laws_eqEntryS.f, if_pos rfl]; rfl) (eqEntryS_l0 l hn 0 (by omega))

/-! eqstore -/
theorem eqStore_refl (l m : List S34) (c : Int) (hl : l.length < 4611686018427387904) (hm : m.length < 4611686018427387904) : Ev (fun k => laws_eqStore.f k l m c l m c) true := by
  unfold laws_eqStore.f
  exact Evbind (eqEntryS_refl l hl) (Evpos rfl (Evbind (eqEntryS_refl m hm) (Evpos rfl (Evpos rfl (Ev.now _)))))

/-! marktext -/
theorem markText_l0 (d : Nat) : ∀ (x : Int) (s : ByteArray), 0 ≤ x → x < 10 ^ d → x < 9223372036854775808 → s.size + d < 1000 → ∃ r, Ev (fun k => laws_markText.l0 k x s) r := by
  induction d with
  | zero =>
    intro x s h0 h1 _ hs
    have : (10 : Int) ^ 0 = 1 := rfl
    exact ⟨_, Ev.step (f := fun _ => some ((⟨#[109]⟩ : ByteArray) ++ s)) (fun k => by rw [laws_markText.l0, if_neg (by omega), if_pos (by omega)]) (Ev.now _)⟩
  | succ d ih =>
    intro x s h0 h1 h2 hs
    by_cases hx : x > 0
    · have e1 : wrap64 (Int.tdiv x 10) = x / 10 := by rw [Int.tdiv_eq_ediv_of_nonneg h0, w64 (by omega) (by omega)]
      have hsz : ∀ q : Int, (strOfNums ([q] : List Int)).size = 1 := fun q => by simp [strOfNums, ByteArray.size]
      have hp : (10 : Int) ^ (d + 1) = 10 * 10 ^ d := by rw [Int.pow_succ, Int.mul_comm]
      rw [hp] at h1
      generalize (10 : Int) ^ d = P at *
      obtain ⟨r, hr⟩ := ih (x / 10) ((strOfNums [(wrap64 (48 + (Int.tmod x 10))) % 256]) ++ s) (by omega) (by omega) (by omega) (by rw [ByteArray.size_append, hsz]; omega)
      refine ⟨r, Ev.step (f := fun k => laws_markText.l0 k (x / 10) ((strOfNums [(wrap64 (48 + (Int.tmod x 10))) % 256]) ++ s)) (fun k => ?_) hr⟩
      rw [laws_markText.l0, if_pos hx, Option.bind_some, if_pos (by rw [hsz]; omega), e1]
    · exact ⟨_, Ev.step (f := fun _ => some ((⟨#[109]⟩ : ByteArray) ++ s)) (fun k => by rw [laws_markText.l0, if_neg hx, if_pos (by omega)]) (Ev.now _)⟩
theorem p1020 : (10 : Int) ^ 20 = 100000000000000000000 := by decide
theorem markText_ex (x : Int) (h1 : x < 9223372036854775808) : ∃ r, Ev (fun k => laws_markText.f k x) r := by
  by_cases h0 : x ≤ 0
  · exact ⟨_, Ev.congr (f := fun _ => some (⟨#[109, 48]⟩ : ByteArray)) (fun k => by rw [laws_markText.f, if_pos h0]) (Ev.now _)⟩
  · obtain ⟨r, hr⟩ := markText_l0 20 x ⟨#[]⟩ (by omega) (by rw [p1020]; omega) h1 (by decide)
    exact ⟨r, Ev.congr (fun k => by rw [laws_markText.f, if_neg h0]) hr⟩
open Classical in
noncomputable def mt (x : Int) : ByteArray := if h : ∃ r, Ev (fun k => laws_markText.f k x) r then Classical.choose h else ⟨#[]⟩
theorem mt_f (x : Int) (h1 : x < 9223372036854775808) : Ev (fun k => laws_markText.f k x) (mt x) := by
  have h := markText_ex x h1
  rw [mt, dif_pos h]
  exact Classical.choose_spec h

/-! markent -/
noncomputable def mEnt (a : Int) : S34 := ⟨a, a + 1, (Int.tmod (a + 2) 3 == 0), mt (a + 3)⟩
noncomputable def marksE (n : Nat) (a : Int) : List S34 := (List.range n).map (fun j : Nat => mEnt (a + 4 * (j : Int)))
theorem marksE_len (n : Nat) (a : Int) : (marksE n a).length = n := by simp [marksE]
theorem marksE_get (n : Nat) (a : Int) (j : Nat) (h : j < n) : (marksE n a)[j]? = some (mEnt (a + 4 * (j : Int))) := by simp [marksE, List.getElem?_range h]
theorem marksE_getD (n : Nat) (a : Int) (j : Nat) (h : j < n) : (marksE n a).getD j z34 = mEnt (a + 4 * (j : Int)) := by rw [List.getD_eq_getElem?_getD, marksE_get n a j h]; rfl
theorem w4 (a : Int) (h0 : 0 ≤ a) (h1 : a < 4611686018427387904) : wrap64 (a + 1) = a + 1 ∧ wrap64 (a + 1 + 1) = a + 2 ∧ wrap64 (a + 2 + 1) = a + 3 ∧ wrap64 (a + 3 + 1) = a + 4 := by
  refine ⟨w64 (by omega) (by omega), ?_, ?_, ?_⟩ <;> rw [w64 (by omega) (by omega)] <;> omega
theorem markEntryS_l0 (n : Nat) (a : Int) (ha : 0 ≤ a) (hn : a + 4 * n < 1152921504606846976) : ∀ i, i ≤ n → ∀ x : List S34, x.length = n → (∀ j, j < i → x[j]? = some (mEnt (a + 4 * (j : Int)))) → Ev (fun k => laws_markEntryS.l0 k x (a + 4 * i) (i : Int)) (a + 4 * n, marksE n a) := by
  refine down n ?_ ?_
  · intro x hx h
    refine Ev.step (f := fun _ => some (a + 4 * n, x)) (fun k => by rw [laws_markEntryS.l0, if_neg (by omega)]) (Evto ?_ (Ev.now _))
    have : x = marksE n a := by
      apply List.ext_getElem?; intro j
      by_cases hj : j < n
      · rw [h j hj, marksE_get n a j hj]
      · rw [List.getElem?_eq_none (by omega), List.getElem?_eq_none (by rw [marksE_len]; omega)]
    rw [this]
  · intro i hi ih x hx h
    have hi1 : (i : Int) < x.length := by omega
    have hi2 : 0 ≤ (i : Int) := by omega
    have hw := wsucc i (by omega)
    obtain ⟨w1, w2, w3, w4'⟩ := w4 (a + 4 * i) (by omega) (by omega)
    have hset : ∀ (y : List S34) (v : S34), y.length = n → (y.set i v).getD i z34 = v := by
      intro y v hy; rw [List.getD_eq_getElem?_getD, List.getElem?_set, if_pos rfl, if_pos (by omega)]; rfl
    have hrd : ∀ (y : List S34) (v : S34), y.length = n → rd_T34 (y.set i v) (i : Int) = v := fun y v hy => by rw [rdE, hset y v hy]
    refine Ev.step (f := fun k => (laws_markText.f k (a + 4 * i + 3)).bind fun t => laws_markEntryS.l0 k (x.set i ⟨a + 4 * i, a + 4 * i + 1, (Int.tmod (a + 4 * i + 2) 3 == 0), t⟩) (a + 4 * ((i + 1 : Nat) : Int)) ((i + 1 : Nat) : Int)) (fun k => ?_) (Evbind (mt_f (a + 4 * i + 3) (by omega)) (ih _ (by simp [hx]) ?_))
    · rw [laws_markEntryS.l0, if_pos hi1, if_pos hi2]
      simp only [Option.bind_some, Int.toNat_natCast, w1, w2, w3, w4', hw]
      rw [hrd x _ hx]
      simp only [List.set_set]
      rw [hrd x _ hx]
      simp only [List.set_set]
      rw [hrd x _ hx]
      simp only [List.set_set]
      rw [show a + 4 * (i : Int) + 4 = a + 4 * ((i + 1 : Nat) : Int) by omega]
    · intro j hj
      rw [List.getElem?_set]
      by_cases e : i = j
      · subst e; rw [if_pos rfl, if_pos (by omega)]; rfl
      · rw [if_neg e]; exact h j (by omega)
theorem markEntryS_f (x : List S34) (a : Int) (ha : 0 ≤ a) (hn : a + 4 * x.length < 1152921504606846976) : Ev (fun k => laws_markEntryS.f k x a) (a + 4 * x.length, marksE x.length a) :=
  Ev.congr (fun k => by rw [laws_markEntryS.f]; simp) (markEntryS_l0 x.length a ha hn 0 (by omega) x rfl (fun j hj => by omega))

/-! markstore -/
theorem markStore_f (x y : List S34) (c a : Int) (ha : 0 ≤ a) (hn : a + 4 * x.length + 4 * y.length < 1152921504606846976) : Ev (fun k => laws_markStore.f k x y c a) (a + 4 * x.length + 4 * y.length, marksE x.length a, marksE y.length (a + 4 * x.length)) := by
  unfold laws_markStore.f
  exact Evbind (markEntryS_f x a ha (by omega)) (Evbind (markEntryS_f y (a + 4 * x.length) (by omega) (by omega)) (Ev.now _))

/-! placem -/
def placeOk (x : Int) : Bool := decide (4294967296 ≤ x ∧ x / 4294967296 ≤ 30 ∧ 1 ≤ x % 4294967296 ∧ x % 4294967296 ≤ 60)
theorem tdm (x : Int) : (0 ≤ x ∧ Int.tdiv x 4294967296 = x / 4294967296 ∧ Int.tmod x 4294967296 = x % 4294967296) ∨ (x < 0 ∧ Int.tdiv x 4294967296 ≤ 0 ∧ x ≤ Int.tdiv x 4294967296 ∧ Int.tmod x 4294967296 ≤ 0) := by
  by_cases h : 0 ≤ x
  · exact .inl ⟨h, Int.tdiv_eq_ediv_of_nonneg h, Int.tmod_eq_emod_of_nonneg h⟩
  · refine .inr ⟨by omega, ?_⟩
    obtain ⟨y, rfl⟩ : ∃ y, x = -y := ⟨-x, by omega⟩
    rw [Int.neg_tdiv, Int.neg_tmod, Int.tdiv_eq_ediv_of_nonneg (by omega), Int.tmod_eq_emod_of_nonneg (by omega)]
    omega
theorem placeOk_iff (x : Int) : placeOk x = true ↔ (4294967296 ≤ x ∧ x / 4294967296 ≤ 30 ∧ 1 ≤ x % 4294967296 ∧ x % 4294967296 ≤ 60) := by simp [placeOk]
theorem placeOk_div (x : Int) (h : placeOk x = true) : wrap64 (Int.tdiv x 4294967296) = x / 4294967296 := by
  have := (placeOk_iff x).1 h
  rw [Int.tdiv_eq_ediv_of_nonneg (by omega), w64 (by omega) (by omega)]
theorem placeOk_mod (x : Int) (h : placeOk x = true) : Int.tmod x 4294967296 = x % 4294967296 := by
  have := (placeOk_iff x).1 h
  rw [Int.tmod_eq_emod_of_nonneg (by omega)]

/-! epochm -/
def epochOf (x : Int) : Int := if placeOk x = true then x / 4294967296 else 0
theorem epochOf_bd (x : Int) : 0 ≤ epochOf x ∧ epochOf x ≤ 30 := by
  unfold epochOf
  by_cases hp : placeOk x = true
  · have := (placeOk_iff x).1 hp; rw [if_pos hp]; omega
  · rw [if_neg hp]; omega

/-! entokm -/
def entryOk (a w : Int) (h : Bool) (s : ByteArray) : Bool := decide (placeOk a = true ∧ 0 ≤ w ∧ w ≤ 30 ∧ (w = 0 ∨ epochOf a < w) ∧ s.size ≤ 40 ∧ (h = true → 0 < w ∧ s.toList = []))

/-! storem -/
def eOk (x : S34) : Bool := entryOk x.f0 x.f1 x.f2 x.f3
def ascPE : Int → List S34 → Bool
  | _, [] => true
  | p, x :: t => decide (p < x.f0) && ascPE x.f0 t
def placesAsc : List S34 → Bool
  | [] => true
  | x :: t => ascPE x.f0 t
def storeOk (kept late : List S34) (seal_ : Int) : Bool := decide (kept.length ≤ 200) && decide (late.length ≤ 20) && kept.all eOk && late.all eOk && placesAsc kept && decide (0 ≤ seal_ ∧ seal_ ≤ 30)

/-! pnumm -/
def pnum (x : Nat) : List Int := if 127 < x then ((x % 128 + 128 : Nat) : Int) :: pnum (x / 128) else [(x : Int)]
termination_by x
decreasing_by omega
def putNum (x : Int) : List Int := if x < 0 then [] else pnum x.toNat
theorem pnum_big (x : Nat) (h : 127 < x) : pnum x = ((x % 128 + 128 : Nat) : Int) :: pnum (x / 128) := by rw [pnum, if_pos h]
theorem pnum_small (x : Nat) (h : ¬ 127 < x) : pnum x = [(x : Int)] := by rw [pnum, if_neg h]
theorem pnum_bd (x : Nat) : ∀ c ∈ pnum x, 0 ≤ c ∧ c ≤ 255 := by
  induction x using Nat.strongRecOn with
  | ind x ih =>
    intro c hc
    by_cases h : 127 < x
    · rw [pnum_big x h] at hc
      rcases List.mem_cons.1 hc with rfl | hc
      · omega
      · exact ih (x / 128) (by omega) c hc
    · rw [pnum_small x h] at hc
      have := List.mem_singleton.1 hc
      omega
theorem pnum_len (d : Nat) : ∀ x : Nat, x < 128 ^ (d + 1) → 1 ≤ (pnum x).length ∧ (pnum x).length ≤ d + 1 := by
  induction d with
  | zero => intro x hx; rw [pnum_small x (by omega)]; simp
  | succ d ih =>
    intro x hx
    by_cases h : 127 < x
    · rw [pnum_big x h]
      have := ih (x / 128) (by rw [Nat.div_lt_iff_lt_mul (by decide)]; rw [Nat.pow_succ] at hx; exact hx)
      simp; omega
    · rw [pnum_small x h]; simp
theorem pnum_len9 (x : Nat) (h : x < 9223372036854775808) : 1 ≤ (pnum x).length ∧ (pnum x).length ≤ 9 := pnum_len 8 x (by rw [p1289]; exact h)
theorem putNum_len (x : Int) (h : x ≤ 9223372036854775807) : (putNum x).length ≤ 9 := by
  unfold putNum
  by_cases h0 : x < 0
  · rw [if_pos h0]; simp
  · rw [if_neg h0]; exact (pnum_len9 x.toNat (by omega)).2
theorem putNum_wf (x : Int) : ∀ c ∈ putNum x, (Lit.int .u8 c).wf = true := by
  intro c hc
  unfold putNum at hc
  have : 0 ≤ c ∧ c ≤ 255 := by
    by_cases h0 : x < 0
    · rw [if_pos h0] at hc; simp at hc
    · rw [if_neg h0] at hc; exact pnum_bd _ c hc
  exact wf_mk8 this.1 this.2

/-! puttextm -/
def putText (s : ByteArray) : List Int := putNum (s.size : Int) ++ bytesOf s
theorem putText_len (s : ByteArray) (h : s.size ≤ 9223372036854775807) : (putText s).length ≤ 9 + s.size := by
  have := putNum_len (s.size : Int) (by omega)
  unfold putText
  rw [List.length_append, bytesOf_length]; omega

/-! entpackm -/
def entPack (a w : Int) (h : Bool) (s : ByteArray) : List Int := putNum a ++ putNum w ++ putNum (if h = true then 1 else 0) ++ putText s
def entPackO (a w : Int) (h : Bool) (s : ByteArray) : List Int × Bool := if entryOk a w h s = true then (entPack a w h s, true) else ([], false)
theorem entryOk_parts {a w : Int} {h : Bool} {s : ByteArray} (e : entryOk a w h s = true) : placeOk a = true ∧ 0 ≤ w ∧ w ≤ 30 ∧ s.size ≤ 40 := by
  have := of_decide_eq_true e
  exact ⟨this.1, this.2.1, this.2.2.1, this.2.2.2.2.1⟩
theorem flag_bd (h : Bool) : 0 ≤ (if h = true then (1 : Int) else 0) ∧ (if h = true then (1 : Int) else 0) ≤ 1 := by cases h <;> decide
theorem entPack_len (a w : Int) (h : Bool) (s : ByteArray) (ha : a ≤ 9223372036854775807) (hw : w ≤ 9223372036854775807) (hs : s.size ≤ 9223372036854775807) : (entPack a w h s).length ≤ 36 + s.size := by
  have h1 := putNum_len a ha
  have h2 := putNum_len w hw
  have h3 := putNum_len (if h = true then (1 : Int) else 0) (by have := (flag_bd h).2; omega)
  have h4 := putText_len s hs
  unfold entPack
  simp only [List.length_append]
  omega
theorem entPackO_len (a w : Int) (h : Bool) (s : ByteArray) (ha : a ≤ 9223372036854775807) : (entPackO a w h s).1.length ≤ 76 := by
  unfold entPackO
  split
  · rename_i e
    have hp := entryOk_parts e
    have := entPack_len a w h s ha (by omega) (by omega)
    show (entPack a w h s).length ≤ 76
    omega
  · exact Nat.zero_le _

/-! storepackm -/
def packE (x : S34) : List Int := entPack x.f0 x.f1 x.f2 x.f3
def storePack (l m : List S34) (c : Int) : List Int × Bool := if storeOk l m c = true ∧ m.length = 0 then (putNum c ++ putNum (l.length : Int) ++ (l.map packE).flatten, true) else ([], false)
theorem storeOk_parts {l m : List S34} {c : Int} (h : storeOk l m c = true) : l.length ≤ 200 ∧ (∀ x ∈ l, eOk x = true) ∧ 0 ≤ c ∧ c ≤ 30 := by
  unfold storeOk at h
  simp only [Bool.and_eq_true, decide_eq_true_eq, List.all_eq_true] at h
  exact ⟨h.1.1.1.1.1, h.1.1.1.2, h.2.1, h.2.2⟩
theorem packE_len (x : S34) (h : eOk x = true) (hw : (Lit.int .i64 x.f0).wf = true) : (packE x).length ≤ 76 := by
  have hp := entryOk_parts h
  have hb := wf64 hw
  have := entPack_len x.f0 x.f1 x.f2 x.f3 (by omega) (by omega) (by omega)
  unfold packE; omega
theorem packs_len (l : List S34) (hx : ∀ x ∈ l, eOk x = true) (hw : ∀ x ∈ l, (Lit.int .i64 x.f0).wf = true) : (l.map packE).flatten.length ≤ 76 * l.length := by
  induction l with
  | nil => simp
  | cons x t ih =>
    have h1 := packE_len x (hx x (by simp)) (hw x (by simp))
    have h2 := ih (fun y hy => hx y (by simp [hy])) (fun y hy => hw y (by simp [hy]))
    rw [List.map_cons, List.flatten_cons, List.length_append, List.length_cons]; omega
theorem storePack_len (l m : List S34) (c : Int) (hw : ∀ x ∈ l, (Lit.int .i64 x.f0).wf = true) : (storePack l m c).1.length ≤ 20000 := by
  unfold storePack
  by_cases h : storeOk l m c = true ∧ m.length = 0
  · rw [if_pos h]
    have hp := storeOk_parts h.1
    have h1 := packs_len l hp.2.1 hw
    have h2 := putNum_len c (by omega)
    have h3 := putNum_len (l.length : Int) (by omega)
    show (putNum c ++ putNum (l.length : Int) ++ (l.map packE).flatten).length ≤ 20000
    simp only [List.length_append]; omega
  · rw [if_neg h]; exact Nat.zero_le _

/-! specin -/
theorem spec_l1In_f (a b c : Int) : spec_l1In.f a b c = some (decide (b ≤ a ∧ a ≤ c)) := by
  unfold spec_l1In.f
  by_cases h : a ≥ b
  · rw [if_pos h]; congr 1; exact decide_eq_decide.2 (by omega)
  · rw [if_neg h]; congr 1; symm; exact decide_eq_false (by omega)

/-! splace -/
theorem spec_PlaceOk_f (x : Int) (h : (Lit.int .i64 x).wf = true) : spec_PlaceOk.f x = some (placeOk x) := by
  have hb := wf64 h
  unfold spec_PlaceOk.f
  simp only [spec_l1In_f, Option.bind_some, decide_eq_true_eq]
  have ht := tdm x
  rw [w64 (n := Int.tdiv x 4294967296) (by omega) (by omega)]
  by_cases h1 : x > 0
  · rw [if_pos h1]
    by_cases h2 : 1 ≤ Int.tdiv x 4294967296 ∧ Int.tdiv x 4294967296 ≤ 30
    · rw [if_pos h2]; congr 1; exact decide_eq_decide.2 (by omega)
    · rw [if_neg h2]; congr 1; symm; exact decide_eq_false (by omega)
  · rw [if_neg h1]; congr 1; symm; exact decide_eq_false (by omega)

/-! sepoch -/
theorem spec_EpochOf_f (x : Int) (h : (Lit.int .i64 x).wf = true) : spec_EpochOf.f x = some (epochOf x) := by
  unfold spec_EpochOf.f epochOf
  rw [spec_PlaceOk_f x h, Option.bind_some]
  by_cases hp : placeOk x = true
  · rw [if_pos hp, if_pos hp, placeOk_div x hp]
  · rw [if_neg hp, if_neg hp]

/-! sentok -/
theorem spec_EntryOk_f (a w : Int) (h : Bool) (s : ByteArray) (ha : (Lit.int .i64 a).wf = true) : spec_EntryOk.f a w h s = some (entryOk a w h s) := by
  have he := epochOf_bd a
  unfold spec_EntryOk.f entryOk
  rw [spec_PlaceOk_f a ha, spec_EpochOf_f a ha]
  simp only [Option.bind_some, spec_l1In_f]
  by_cases h1 : placeOk a = true
  · by_cases h2 : 0 ≤ w ∧ w ≤ 30
    · by_cases h3 : w > 0
      · by_cases h4 : w ≤ epochOf a
        · simp [h1, h2, h3, h4]; omega
        · by_cases h5 : (s.size : Int) > 40
          · simp [h1, h2, h3, h4, h5]; omega
          · have h5' : s.size ≤ 40 := by omega
            have h4' : epochOf a < w := by omega
            by_cases h6 : s.toList = [] <;> cases h <;> simp [h1, h2, h3, h4, h4', h5, h5', h6]
      · have h3' : w = 0 := by omega
        subst h3'
        by_cases h5 : (s.size : Int) > 40
        · simp [h1, h5]; omega
        · have h5' : s.size ≤ 40 := by omega
          cases h <;> simp [h1, h5, h5']
    · simp [h1, h2]; omega
  · simp [h1]

/-! sstore -/
theorem spec_l6List_l0 (l : List S34) (hn : l.length < 4611686018427387904) (hw : ∀ x ∈ l, (Lit.int .i64 x.f0).wf = true) : ∀ i, i ≤ l.length → Ev (fun k => spec_l6List.l0 k l (i : Int)) ((l.drop i).all eOk) := by
  refine down l.length ?_ ?_
  · refine Ev.step (f := fun _ => some true) (fun k => by rw [spec_l6List.l0, if_neg (by omega)]) (Evto ?_ (Ev.now _))
    rw [List.drop_length]; rfl
  · intro i hi ih
    have hi1 : (i : Int) < l.length := by omega
    have he := spec_EntryOk_f (l.getD i z34).f0 (l.getD i z34).f1 (l.getD i z34).f2 (l.getD i z34).f3 (hw _ (getD_memg _ l i hi))
    rw [all_dropg z34 eOk l i hi]
    cases hv : eOk (l.getD i z34) with
    | true =>
      have hv' : entryOk (l.getD i z34).f0 (l.getD i z34).f1 (l.getD i z34).f2 (l.getD i z34).f3 = true := hv
      exact Ev.step (f := fun k => spec_l6List.l0 k l ((i + 1 : Nat) : Int)) (fun k => by rw [spec_l6List.l0, if_pos hi1, if_pos (by omega), rdE, he, Option.bind_some, if_pos hv', wsucc i (by omega)]) ih
    | false =>
      have hv' : entryOk (l.getD i z34).f0 (l.getD i z34).f1 (l.getD i z34).f2 (l.getD i z34).f3 = false := hv
      exact Ev.step (f := fun _ => some false) (fun k => by rw [spec_l6List.l0, if_pos hi1, if_pos (by omega), rdE, he, Option.bind_some, hv', if_neg Bool.false_ne_true]) (Ev.now _)
theorem spec_l6List_f (l : List S34) (a : Nat) (hn : l.length < 4611686018427387904) (hw : ∀ x ∈ l, (Lit.int .i64 x.f0).wf = true) : Ev (fun k => spec_l6List.f k l (a : Int)) (decide (l.length ≤ a) && l.all eOk) := by
  by_cases h : (l.length : Int) > a
  · refine Ev.congr (f := fun _ => some false) (fun k => by rw [spec_l6List.f, if_pos h]) (Evto ?_ (Ev.now _))
    rw [decide_eq_false (show ¬ l.length ≤ a by omega)]; rfl
  · refine Ev.congr (fun k => by rw [spec_l6List.f, if_neg h]; rfl) (Evto ?_ (spec_l6List_l0 l hn hw 0 (by omega)))
    rw [decide_eq_true (show l.length ≤ a by omega)]; rfl
theorem spec_l6Asc_l0 (l : List S34) (hn : l.length < 4611686018427387904) : ∀ i, i ≤ l.length → 1 ≤ i → Ev (fun k => spec_l6Asc.l0 k l (i : Int)) (ascPE (l.getD (i - 1) z34).f0 (l.drop i)) := by
  refine down l.length ?_ ?_
  · intro h1
    refine Ev.step (f := fun _ => some true) (fun k => by rw [spec_l6Asc.l0, if_neg (by omega)]) (Evto ?_ (Ev.now _))
    rw [List.drop_length]; rfl
  · intro i hi ih h1
    have hm : wrap64 ((i : Int) - 1) = ((i - 1 : Nat) : Int) := by rw [w64 (by omega) (by omega)]; omega
    have hi1 : (i : Int) < l.length := by omega
    have hi2 : 0 ≤ ((i - 1 : Nat) : Int) := by omega
    have hi3 : ((i - 1 : Nat) : Int) < l.length := by omega
    have hi4 : 0 ≤ (i : Int) := by omega
    have hw := wsucc i (by omega)
    rw [drop_g z34 l i hi, ascPE]
    by_cases hlt : (l.getD (i - 1) z34).f0 < (l.getD i z34).f0
    · refine Ev.step (f := fun k => spec_l6Asc.l0 k l ((i + 1 : Nat) : Int)) (fun k => ?_) (Evto ?_ (ih (by omega)))
      · rw [spec_l6Asc.l0, if_pos hi1, hm, if_pos hi2, if_pos hi3, if_pos hi4, rdE, rdE, if_neg (by omega), hw]
      · rw [decide_eq_true hlt]; rfl
    · refine Ev.step (f := fun _ => some false) (fun k => ?_) (Evto ?_ (Ev.now _))
      · rw [spec_l6Asc.l0, if_pos hi1, hm, if_pos hi2, if_pos hi3, if_pos hi4, rdE, rdE, if_pos (by omega)]
      · rw [decide_eq_false hlt]; rfl
theorem spec_l6Asc_f (l : List S34) (hn : l.length < 4611686018427387904) : Ev (fun k => spec_l6Asc.f k l) (placesAsc l) := by
  cases l with
  | nil => exact Ev.step (f := fun _ => some true) (fun k => by rw [spec_l6Asc.f, spec_l6Asc.l0, if_neg (by simp)]) (Ev.now _)
  | cons x t => exact Ev.congr (fun k => by rw [spec_l6Asc.f]; rfl) (spec_l6Asc_l0 (x :: t) hn 1 (by simp) (by omega))
theorem spec_StoreOk_f (kept late : List S34) (c : Int) (hk : kept.length < 4611686018427387904) (hl : late.length < 4611686018427387904) (hwk : ∀ x ∈ kept, (Lit.int .i64 x.f0).wf = true) (hwl : ∀ x ∈ late, (Lit.int .i64 x.f0).wf = true) : Ev (fun k => spec_StoreOk.f k kept late c) (storeOk kept late c) := by
  unfold spec_StoreOk.f storeOk
  refine Evbind (spec_l6List_f kept 200 hk hwk) ?_
  cases h1 : decide (kept.length ≤ 200) && kept.all eOk with
  | false =>
    refine Evneg Bool.false_ne_true (Evto ?_ (Ev.now _))
    simp only [Bool.and_eq_false_iff] at h1
    rcases h1 with h1 | h1 <;> simp [h1]
  | true =>
    simp only [Bool.and_eq_true] at h1
    refine Evpos rfl (Evbind (spec_l6List_f late 20 hl hwl) ?_)
    cases h2 : decide (late.length ≤ 20) && late.all eOk with
    | false =>
      refine Evneg Bool.false_ne_true (Evto ?_ (Ev.now _))
      simp only [Bool.and_eq_false_iff] at h2
      rcases h2 with h2 | h2 <;> simp [h2]
    | true =>
      simp only [Bool.and_eq_true] at h2
      refine Evpos rfl (Evbind (spec_l6Asc_f kept hk) ?_)
      cases h3 : placesAsc kept with
      | false => exact Evneg Bool.false_ne_true (Evto (by simp) (Ev.now _))
      | true =>
        refine Evpos rfl (Evbind (Evconst (spec_l1In_f c 0 30)) (Evto ?_ (Ev.now _)))
        rw [h1.1, h1.2, h2.1, h2.2]; rfl

/-! spnum -/
theorem spec_PutNum_l0 (d : Nat) : ∀ (x : Nat) (out : List Int), x < 128 ^ (d + 1) → x < 9223372036854775808 → out.length + d < 140737488355328 → Ev (fun k => spec_PutNum.l0 k (x : Int) out) (out ++ pnum x) := by
  induction d with
  | zero =>
    intro x out hx hx' hl
    have hs : (x : Int) % 256 = x := by omega
    refine Ev.step (f := fun _ => some (out ++ [(x : Int)])) (fun k => ?_) (Evto ?_ (Ev.now _))
    · rw [spec_PutNum.l0, if_neg (by omega), if_pos (by omega), hs]
    · rw [pnum_small x (by omega)]
  | succ d ih =>
    intro x out hx hx' hl
    by_cases h : 127 < x
    · refine Ev.step (f := fun k => spec_PutNum.l0 k ((x / 128 : Nat) : Int) (out ++ [((x % 128 + 128 : Nat) : Int)])) (fun k => ?_) (Evto ?_ (ih (x / 128) (out ++ [((x % 128 + 128 : Nat) : Int)]) (by rw [Nat.div_lt_iff_lt_mul (by decide)]; rw [Nat.pow_succ] at hx; exact hx) (by omega) (by simp; omega)))
      · have e1 : wrap64 (Int.tdiv (x : Int) 128) = ((x / 128 : Nat) : Int) := by rw [Int.tdiv_eq_ediv_of_nonneg (by omega), w64 (by omega) (by omega)]; omega
        have e2 : (wrap64 (Int.tmod (x : Int) 128 + 128)) % 256 = ((x % 128 + 128 : Nat) : Int) := by rw [Int.tmod_eq_emod_of_nonneg (by omega), w64 (by omega) (by omega)]; omega
        rw [spec_PutNum.l0, if_pos (by omega), if_pos (by omega), e1, e2]
      · rw [pnum_big x h]; simp
    · have hs : (x : Int) % 256 = x := by omega
      refine Ev.step (f := fun _ => some (out ++ [(x : Int)])) (fun k => ?_) (Evto ?_ (Ev.now _))
      · rw [spec_PutNum.l0, if_neg (by omega), if_pos (by omega), hs]
      · rw [pnum_small x h]
theorem spec_PutNum_f (x : Int) (hx : x ≤ 9223372036854775807) : Ev (fun k => spec_PutNum.f k x) (putNum x) := by
  unfold putNum
  by_cases h0 : x < 0
  · rw [if_pos h0]
    exact Ev.congr (f := fun _ => some []) (fun k => by simp only [spec_PutNum.f, Option.bind_some]; rw [if_pos h0]) (Ev.now _)
  · rw [if_neg h0]
    obtain ⟨n, rfl⟩ := Int.eq_ofNat_of_zero_le (show 0 ≤ x by omega)
    exact Ev.congr (f := fun k => spec_PutNum.l0 k (n : Int) []) (fun k => by simp only [spec_PutNum.f, Option.bind_some]; rw [if_neg h0]) (spec_PutNum_l0 8 n [] (by rw [p1289]; omega) (by omega) (by simp))

/-! sputtext -/
theorem spec_PutText_f (s : ByteArray) (h : s.size < 140737488355000) : Ev (fun k => spec_PutText.f k s) (putText s) := by
  have hl := putNum_len (s.size : Int) (by omega)
  unfold spec_PutText.f
  exact Evbind (spec_PutNum_f (s.size : Int) (by omega)) (Evpos (by omega) (Ev.now _))

/-! sentpack -/
theorem spec_l3Bit_f (h : Bool) : spec_l3Bit.f h = some (if h = true then 1 else 0) := by cases h <;> rfl
theorem spec_l3Pack_f (a w : Int) (h : Bool) (s : ByteArray) (ha : a ≤ 9223372036854775807) (hw : w ≤ 9223372036854775807) (hs : s.size ≤ 1000000) : Ev (fun k => spec_l3Pack.f k a w h s) (entPack a w h s) := by
  have h1 := putNum_len a ha
  have h2 := putNum_len w hw
  have hf := flag_bd h
  have h3 := putNum_len (if h = true then (1 : Int) else 0) (by omega)
  have h4 := putText_len s (by omega)
  unfold spec_l3Pack.f entPack
  refine Evbind (spec_PutNum_f a ha) (Evbind (spec_PutNum_f w hw) (Evpos (by omega) (Evsome (f := fun k y => _) ?_)))
  refine Evbind (Evconst (spec_l3Bit_f h)) (Evbind (spec_PutNum_f _ (by omega)) ?_)
  refine Evpos (by rw [List.length_append]; omega) (Evsome (f := fun k y => _) ?_)
  refine Evbind (spec_PutText_f s (by omega)) (Evpos (by rw [List.length_append, List.length_append]; omega) (Ev.now _))

/-! sstorepack -/
theorem spec_StorePack_l0 (l m : List S34) (c : Int) (hn : l.length ≤ 200) (hx : ∀ x ∈ l, eOk x = true) (hw : ∀ x ∈ l, (Lit.int .i64 x.f0).wf = true) : ∀ i, i ≤ l.length → ∀ out : List Int, out.length ≤ 100 + 76 * i → Ev (fun k => spec_StorePack.l0 k out (i : Int) l m c) (out ++ ((l.drop i).map packE).flatten, true) := by
  refine down l.length ?_ ?_
  · intro out ho
    refine Ev.step (f := fun _ => some (out, true)) (fun k => by rw [spec_StorePack.l0, if_neg (by omega)]) (Evto ?_ (Ev.now _))
    rw [List.drop_length]; simp
  · intro i hi ih out ho
    have hm := getD_memg z34 l i hi
    have e1 := hx _ hm
    have hb := wf64 (hw _ hm)
    have hp := entryOk_parts e1
    have hl := packE_len _ e1 (hw _ hm)
    rw [drop_g z34 l i hi, List.map_cons, List.flatten_cons]
    generalize hg : l.getD i z34 = x at *
    refine Ev.step (f := fun k => (spec_l3Pack.f k x.f0 x.f1 x.f2 x.f3).bind fun t => (if out.length + t.length < 140737488355328 then (spec_StorePack.l0 k (out ++ t) (wrap64 ((i : Int) + 1)) l m c) else none)) (fun k => by rw [spec_StorePack.l0, if_pos (by omega), if_pos (by omega), rdE, hg]) ?_
    refine Evbind (spec_l3Pack_f x.f0 x.f1 x.f2 x.f3 (by omega) (by omega) (by omega)) ?_
    refine Evpos (by show out.length + (packE x).length < _; omega) ?_
    rw [wsucc i (by omega)]
    exact Evto (by rw [List.append_assoc]) (ih (out ++ packE x) (by rw [List.length_append]; omega))
theorem spec_StorePack_f (l m : List S34) (c : Int) (hk : l.length ≤ 1048576) (hl : m.length ≤ 1048576) (hwk : ∀ x ∈ l, (Lit.int .i64 x.f0).wf = true) (hwl : ∀ x ∈ m, (Lit.int .i64 x.f0).wf = true) : Ev (fun k => spec_StorePack.f k l m c) (storePack l m c) := by
  have hout : Ev (fun k => spec_StorePack.j0 k true l m c) ([], false) := Ev.step (f := fun _ => some ([], false)) (fun k => by rw [spec_StorePack.j0, if_pos rfl]) (Ev.now _)
  unfold spec_StorePack.f storePack
  refine Evbind (spec_StoreOk_f l m c (by omega) (by omega) hwk hwl) ?_
  by_cases h : storeOk l m c = true
  · have hp := storeOk_parts h
    refine Evpos h ?_
    by_cases h0 : m.length = 0
    · rw [if_pos ⟨h, h0⟩, decide_eq_false (by omega)]
      have h2 := putNum_len c (by omega)
      have h3 := putNum_len (l.length : Int) (by omega)
      refine Ev.step (fun k => by rw [spec_StorePack.j0, if_neg Bool.false_ne_true]) ?_
      refine Evbind (spec_PutNum_f c (by omega)) (Evbind (spec_PutNum_f (l.length : Int) (by omega)) (Evpos (by omega) ?_))
      exact spec_StorePack_l0 l m c hp.1 hp.2.1 hwk 0 (by omega) _ (by rw [List.length_append]; omega)
    · rw [if_neg (fun q => h0 q.2), decide_eq_true (by omega)]
      exact hout
  · rw [if_neg (fun q => h q.1)]
    exact Evneg h hout

/-! within -/
theorem impl_within_f (a b c : Int) : impl_within.f a b c = some (decide (b ≤ a ∧ a ≤ c)) := by
  unfold impl_within.f
  by_cases h : a ≥ b
  · rw [if_pos h]; congr 1; exact decide_eq_decide.2 (by omega)
  · rw [if_neg h]; congr 1; symm; exact decide_eq_false (by omega)

/-! isep -/
theorem impl_isEpoch_f (a : Int) : impl_isEpoch.f a = some (decide (1 ≤ a ∧ a ≤ 30)) := by
  unfold impl_isEpoch.f; rw [impl_within_f]; rfl
theorem impl_isOff_f (a : Int) : impl_isOff.f a = some (decide (1 ≤ a ∧ a ≤ 60)) := by
  unfold impl_isOff.f; rw [impl_within_f]; rfl

/-! iplace -/
theorem impl_PlaceOk_f (x : Int) (h : (Lit.int .i64 x).wf = true) : impl_PlaceOk.f x = some (placeOk x) := by
  have hb := wf64 h
  unfold impl_PlaceOk.f
  simp only [impl_isEpoch_f, impl_isOff_f, Option.bind_some, decide_eq_true_eq]
  have ht := tdm x
  rw [w64 (n := Int.tdiv x 4294967296) (by omega) (by omega)]
  by_cases h2 : 1 ≤ Int.tdiv x 4294967296 ∧ Int.tdiv x 4294967296 ≤ 30
  · rw [if_pos h2]; congr 1; exact decide_eq_decide.2 (by omega)
  · rw [if_neg h2]; congr 1; symm; exact decide_eq_false (by omega)

/-! iepoch -/
theorem impl_EpochOf_f (x : Int) (h : (Lit.int .i64 x).wf = true) : impl_EpochOf.f x = some (epochOf x) := by
  unfold impl_EpochOf.f epochOf
  rw [impl_PlaceOk_f x h, Option.bind_some]
  by_cases hp : placeOk x = true
  · rw [if_pos hp, if_pos hp, placeOk_div x hp]
  · rw [if_neg hp, if_neg hp]

/-! ientok -/
theorem impl_EntryOk_f (a w : Int) (h : Bool) (s : ByteArray) (ha : (Lit.int .i64 a).wf = true) : impl_EntryOk.f a w h s = some (entryOk a w h s) := by
  have he := epochOf_bd a
  unfold impl_EntryOk.f entryOk impl_dataOk.f
  rw [impl_PlaceOk_f a ha, impl_EpochOf_f a ha]
  simp only [Option.bind_some, impl_within_f]
  by_cases h2 : 0 ≤ w ∧ w ≤ 30
  · by_cases h1 : placeOk a = true
    · by_cases h3 : w = 0
      · subst h3
        by_cases h5 : s.size ≤ 40
        · have h5' : (s.size : Int) ≤ 40 := by omega
          cases h <;> simp [h1, h5, h5']
        · have h5' : ¬ (s.size : Int) ≤ 40 := by omega
          cases h <;> simp [h1, h5, h5']
      · by_cases h4 : w > epochOf a
        · have h0 : w > 0 := by omega
          by_cases h5 : s.size ≤ 40
          · have h5' : (s.size : Int) ≤ 40 := by omega
            by_cases h6 : s.toList = [] <;> cases h <;> simp [h1, h2, h3, h4, h5, h5', h6, h0]
          · have h5' : ¬ (s.size : Int) ≤ 40 := by omega
            by_cases h6 : s.toList = [] <;> cases h <;> simp [h1, h2, h3, h4, h5, h5', h6, h0]
        · have h0 : w > 0 := by omega
          cases h <;> simp [h1, h2, h3, h4, h0]
    · cases h <;> by_cases h3 : w = 0 <;> simp [h1, h2, h3]
  · have h2' : ¬ (0 ≤ w ∧ w ≤ 30) := h2
    have : ¬ (placeOk a = true ∧ 0 ≤ w ∧ w ≤ 30 ∧ (w = 0 ∨ epochOf a < w) ∧ s.size ≤ 40 ∧ (h = true → 0 < w ∧ s.toList = [])) := fun hh => h2' ⟨hh.2.1, hh.2.2.1⟩
    rw [decide_eq_false this, decide_eq_false h2', if_neg (by decide)]
    cases h <;> by_cases h1 : placeOk a = true <;> by_cases h3 : w > 0 <;> simp [h1, h3]

/-! istore -/
theorem impl_entriesOk_l0 (l : List S34) (hn : l.length < 4611686018427387904) (hw : ∀ x ∈ l, (Lit.int .i64 x.f0).wf = true) : ∀ i, i ≤ l.length → Ev (fun k => impl_entriesOk.l0 k l (l.length : Int) (i : Int)) ((l.drop i).all eOk) := by
  refine down l.length ?_ ?_
  · refine Ev.step (f := fun _ => some true) (fun k => by rw [impl_entriesOk.l0, if_neg (by omega)]) (Evto ?_ (Ev.now _))
    rw [List.drop_length]; rfl
  · intro i hi ih
    have hi1 : (i : Int) < l.length := by omega
    have he := impl_EntryOk_f (l.getD i z34).f0 (l.getD i z34).f1 (l.getD i z34).f2 (l.getD i z34).f3 (hw _ (getD_memg _ l i hi))
    rw [all_dropg z34 eOk l i hi]
    cases hv : eOk (l.getD i z34) with
    | true =>
      have hv' : entryOk (l.getD i z34).f0 (l.getD i z34).f1 (l.getD i z34).f2 (l.getD i z34).f3 = true := hv
      exact Ev.step (f := fun k => impl_entriesOk.l0 k l (l.length : Int) ((i + 1 : Nat) : Int)) (fun k => by rw [impl_entriesOk.l0, if_pos hi1, if_pos (by omega), if_pos hi1, rdE, he, Option.bind_some, if_pos hv', wsucc i (by omega)]) ih
    | false =>
      have hv' : entryOk (l.getD i z34).f0 (l.getD i z34).f1 (l.getD i z34).f2 (l.getD i z34).f3 = false := hv
      exact Ev.step (f := fun _ => some false) (fun k => by rw [impl_entriesOk.l0, if_pos hi1, if_pos (by omega), if_pos hi1, rdE, he, Option.bind_some, hv', if_neg Bool.false_ne_true]) (Ev.now _)
theorem impl_entriesOk_f (l : List S34) (hn : l.length < 4611686018427387904) (hw : ∀ x ∈ l, (Lit.int .i64 x.f0).wf = true) : Ev (fun k => impl_entriesOk.f k l) (l.all eOk) :=
  Ev.congr (fun k => by rw [impl_entriesOk.f]; rfl) (impl_entriesOk_l0 l hn hw 0 (by omega))
theorem impl_placesAscend_l0 (l : List S34) (hn : l.length < 4611686018427387904) : ∀ i, i ≤ l.length → 1 ≤ i → Ev (fun k => impl_placesAscend.l0 k l l (l.length : Int) (i : Int)) (ascPE (l.getD (i - 1) z34).f0 (l.drop i)) := by
  refine down l.length ?_ ?_
  · intro h1
    refine Ev.step (f := fun _ => some true) (fun k => by rw [impl_placesAscend.l0, if_neg (by omega)]) (Evto ?_ (Ev.now _))
    rw [List.drop_length]; rfl
  · intro i hi ih h1
    have hm : wrap64 ((i : Int) - 1) = ((i - 1 : Nat) : Int) := by rw [w64 (by omega) (by omega)]; omega
    have hi1 : (i : Int) < l.length := by omega
    have hi2 : 0 ≤ ((i - 1 : Nat) : Int) := by omega
    have hi3 : ((i - 1 : Nat) : Int) < l.length := by omega
    have hi4 : 0 ≤ (i : Int) := by omega
    have hi5 : (i : Int) > 0 := by omega
    have hw := wsucc i (by omega)
    rw [drop_g z34 l i hi, ascPE]
    by_cases hlt : (l.getD (i - 1) z34).f0 < (l.getD i z34).f0
    · refine Ev.step (f := fun k => impl_placesAscend.l0 k l l (l.length : Int) ((i + 1 : Nat) : Int)) (fun k => ?_) (Evto ?_ (ih (by omega)))
      · rw [impl_placesAscend.l0, if_pos hi1, if_pos hi4, if_pos hi1, if_pos hi5, hm, if_pos hi2, if_pos hi3, rdE, rdE, if_neg (by omega), hw]
      · rw [decide_eq_true hlt]; rfl
    · refine Ev.step (f := fun _ => some false) (fun k => ?_) (Evto ?_ (Ev.now _))
      · rw [impl_placesAscend.l0, if_pos hi1, if_pos hi4, if_pos hi1, if_pos hi5, hm, if_pos hi2, if_pos hi3, rdE, rdE, if_pos (by omega)]
      · rw [decide_eq_false hlt]; rfl
theorem impl_placesAscend_f (l : List S34) (hn : l.length < 4611686018427387904) : Ev (fun k => impl_placesAscend.f k l) (placesAsc l) := by
  cases l with
  | nil => exact Ev.step (f := fun _ => some true) (fun k => by rw [impl_placesAscend.f, impl_placesAscend.l0, if_neg (by simp)]) (Ev.now _)
  | cons x t =>
    have h1 := impl_placesAscend_l0 (x :: t) hn 1 (by simp) (by omega)
    refine Ev.step (f := fun k => impl_placesAscend.l0 k (x :: t) (x :: t) ((x :: t).length : Int) ((1 : Nat) : Int)) (fun k => ?_) h1
    rw [impl_placesAscend.f, impl_placesAscend.l0, if_pos (by simp only [List.length_cons]; omega), if_pos (by decide), if_pos (by simp only [List.length_cons]; omega), if_neg (by decide)]
    rw [show wrap64 (0 + 1) = ((1 : Nat) : Int) from w64 (by decide) (by decide)]
theorem impl_StoreOk_f (kept late : List S34) (c : Int) (hk : kept.length < 4611686018427387904) (hl : late.length < 4611686018427387904) (hwk : ∀ x ∈ kept, (Lit.int .i64 x.f0).wf = true) (hwl : ∀ x ∈ late, (Lit.int .i64 x.f0).wf = true) : Ev (fun k => impl_StoreOk.f k kept late c) (storeOk kept late c) := by
  have hout : Ev (fun k => impl_StoreOk.j0 k true kept late c) false := Ev.step (f := fun _ => some false) (fun k => by rw [impl_StoreOk.j0, if_pos rfl]) (Ev.now _)
  unfold storeOk
  by_cases h1 : (kept.length : Int) > 200
  · refine Ev.congr (fun k => by rw [impl_StoreOk.f, if_pos h1]) (Evto ?_ hout)
    rw [decide_eq_false (show ¬ kept.length ≤ 200 by omega)]; simp
  rw [decide_eq_true (show kept.length ≤ 200 by omega)]
  by_cases h2 : (late.length : Int) > 20
  · refine Ev.congr (fun k => by rw [impl_StoreOk.f, if_neg h1, decide_eq_true h2]) (Evto ?_ hout)
    rw [decide_eq_false (show ¬ late.length ≤ 20 by omega)]; simp
  rw [decide_eq_true (show late.length ≤ 20 by omega)]
  refine Ev.congr (f := fun k => impl_StoreOk.j0 k false kept late c) (fun k => by rw [impl_StoreOk.f, if_neg h1, decide_eq_false h2]) ?_
  refine Ev.step (fun k => by rw [impl_StoreOk.j0, if_neg Bool.false_ne_true]) ?_
  refine Evbind (impl_entriesOk_f kept hk hwk) ?_
  cases kept.all eOk with
  | false => exact Evneg Bool.false_ne_true (Evto (by simp) (Ev.now _))
  | true =>
    refine Evpos rfl (Evbind (impl_entriesOk_f late hl hwl) ?_)
    cases late.all eOk with
    | false => exact Evneg Bool.false_ne_true (Evto (by simp) (Ev.now _))
    | true =>
      refine Evpos rfl (Evbind (impl_placesAscend_f kept hk) ?_)
      cases placesAsc kept with
      | false => exact Evneg Bool.false_ne_true (Evto (by simp) (Ev.now _))
      | true => exact Evpos rfl (Evbind (Evconst (impl_within_f c 0 30)) (Ev.now _))

/-! ipnum -/
theorem impl_PutNum_l0 (d : Nat) : ∀ (x : Nat) (out : List Int), x < 128 ^ (d + 1) → x < 9223372036854775808 → out.length + d < 140737488355328 → Ev (fun k => impl_PutNum.l0 k (x : Int) out) (out ++ pnum x) := by
  induction d with
  | zero =>
    intro x out hx hx' hl
    have hs : (x : Int) % 256 = x := by omega
    refine Ev.step (f := fun _ => some (out ++ [(x : Int)])) (fun k => ?_) (Evto ?_ (Ev.now _))
    · rw [impl_PutNum.l0, if_neg (by omega), if_pos (by omega), hs]
    · rw [pnum_small x (by omega)]
  | succ d ih =>
    intro x out hx hx' hl
    by_cases h : 127 < x
    · refine Ev.step (f := fun k => impl_PutNum.l0 k ((x / 128 : Nat) : Int) (out ++ [((x % 128 + 128 : Nat) : Int)])) (fun k => ?_) (Evto ?_ (ih (x / 128) (out ++ [((x % 128 + 128 : Nat) : Int)]) (by rw [Nat.div_lt_iff_lt_mul (by decide)]; rw [Nat.pow_succ] at hx; exact hx) (by omega) (by simp; omega)))
      · have e1 : (x : Int) / 128 = ((x / 128 : Nat) : Int) := by omega
        have e2 : (Go.bits .or .i64 (Go.bits .and .i64 (x : Int) 127) 128) % 256 = ((x % 128 + 128 : Nat) : Int) := by
          rw [and127 _ (by omega) (by omega), or_low 7 _ 128 (by omega) (by rw [p27]; omega) (by decide) (by decide) (by decide) (by omega)]; omega
        rw [impl_PutNum.l0, if_pos (by omega), if_pos (by omega), e1, e2]
      · rw [pnum_big x h]; simp
    · have hs : (x : Int) % 256 = x := by omega
      refine Ev.step (f := fun _ => some (out ++ [(x : Int)])) (fun k => ?_) (Evto ?_ (Ev.now _))
      · rw [impl_PutNum.l0, if_neg (by omega), if_pos (by omega), hs]
      · rw [pnum_small x h]
theorem impl_PutNum_f (x : Int) (hx : x ≤ 9223372036854775807) : Ev (fun k => impl_PutNum.f k x) (putNum x) := by
  unfold putNum
  by_cases h0 : x < 0
  · rw [if_pos h0]
    exact Ev.congr (f := fun _ => some []) (fun k => by simp only [impl_PutNum.f, Option.bind_some]; rw [if_pos h0]) (Ev.now _)
  · rw [if_neg h0]
    obtain ⟨n, rfl⟩ := Int.eq_ofNat_of_zero_le (show 0 ≤ x by omega)
    exact Ev.congr (f := fun k => impl_PutNum.l0 k (n : Int) []) (fun k => by simp only [impl_PutNum.f, Option.bind_some]; rw [if_neg h0]) (impl_PutNum_l0 8 n [] (by rw [p1289]; omega) (by omega) (by simp))

/-! iputtext -/
theorem impl_PutText_f (s : ByteArray) (h : s.size < 140737488355000) : Ev (fun k => impl_PutText.f k s) (putText s) := by
  have hl := putNum_len (s.size : Int) (by omega)
  unfold impl_PutText.f
  exact Evbind (impl_PutNum_f (s.size : Int) (by omega)) (Evpos (by omega) (Ev.now _))

/-! ientpack -/
theorem impl_flagNum_f (h : Bool) : impl_flagNum.f h = some (if h = true then 1 else 0) := by cases h <;> rfl
theorem impl_putNums_l0 (l : List Int) (hl : l.length ≤ 1000) (hx : ∀ x ∈ l, x ≤ 9223372036854775807) (d : Nat) : ∀ (i : Nat) (out : List Int), i + d = l.length → out.length ≤ 9 * i → Ev (fun k => impl_putNums.l0 k out l (l.length : Int) (i : Int)) (out ++ ((l.drop i).map putNum).flatten) := by
  induction d with
  | zero =>
    intro i out hi _
    have e : l.drop i = [] := List.drop_eq_nil_of_le (by omega)
    rw [e]
    refine Ev.step (f := fun _ => some out) (fun k => by rw [impl_putNums.l0, if_neg (by omega)]) ?_
    exact Evto (by simp) (Ev.now _)
  | succ d ih =>
    intro i out hi ho
    have hil : i < l.length := by omega
    have hm : l.getD i 0 ∈ l := by rw [getD_get l i hil]; exact List.getElem_mem hil
    have hv := hx _ hm
    have hp := putNum_len _ hv
    rw [drop_at l i hil]
    generalize hg : l.getD i 0 = v at *
    refine Ev.step (f := fun k => (impl_PutNum.f k v).bind fun t => (if out.length + t.length < 140737488355328 then (impl_putNums.l0 k (out ++ t) l (l.length : Int) (wrap64 ((i : Int) + 1))) else none)) (fun k => by rw [impl_putNums.l0, if_pos (by omega), if_pos (by omega), if_pos (by omega), rd_nat, hg]) ?_
    refine Evbind (impl_PutNum_f v hv) (Evpos (by omega) ?_)
    rw [wsucc i (by omega)]
    exact Evto (by simp [List.append_assoc]) (ih (i + 1) (out ++ putNum v) (by omega) (by rw [List.length_append]; omega))
theorem impl_putNums_f (l : List Int) (hl : l.length ≤ 1000) (hx : ∀ x ∈ l, x ≤ 9223372036854775807) : Ev (fun k => impl_putNums.f k l) (l.map putNum).flatten := by
  have := impl_putNums_l0 l hl hx l.length 0 [] (by omega) (by simp)
  exact Evto (by simp) this
theorem impl_EntryPack_f (a w : Int) (h : Bool) (s : ByteArray) (ha : (Lit.int .i64 a).wf = true) : Ev (fun k => impl_EntryPack.f k a w h s) (entPackO a w h s) := by
  unfold impl_EntryPack.f entPackO
  refine Evbind (Evconst (impl_EntryOk_f a w h s ha)) ?_
  by_cases e : entryOk a w h s = true
  · rw [if_pos e]
    have hp := entryOk_parts e
    have hb := wf64 ha
    have hf := flag_bd h
    have h1 := putNum_len a (by omega)
    have h2 := putNum_len w (by omega)
    have h3 := putNum_len (if h = true then (1 : Int) else 0) (by omega)
    have h4 := putText_len s (by omega)
    refine Evpos e (Evbind (Evconst (impl_flagNum_f h)) ?_)
    refine Evbind (impl_putNums_f [a, w, if h = true then 1 else 0] (by simp) ?_) ?_
    · intro x hx
      simp only [List.mem_cons, List.not_mem_nil, or_false] at hx
      rcases hx with rfl | rfl | rfl <;> omega
    · have el : ([a, w, if h = true then 1 else 0].map putNum).flatten = putNum a ++ putNum w ++ putNum (if h = true then 1 else 0) := by simp [List.append_assoc]
      rw [el]
      exact Evbind (impl_PutText_f s (by omega)) (Evpos (by simp only [List.length_append]; omega) (Ev.now _))
  · rw [if_neg e]
    exact Evneg e (Ev.now _)

/-! istorepack -/
theorem impl_StorePack_l0 (l : List S34) (hn : l.length ≤ 200) (hx : ∀ x ∈ l, eOk x = true) (hw : ∀ x ∈ l, (Lit.int .i64 x.f0).wf = true) : ∀ i, i ≤ l.length → ∀ out : List Int, out.length ≤ 100 + 76 * i → Ev (fun k => impl_StorePack.l0 k out l (l.length : Int) (i : Int)) (out ++ ((l.drop i).map packE).flatten, true) := by
  refine down l.length ?_ ?_
  · intro out ho
    refine Ev.step (f := fun _ => some (out, true)) (fun k => by rw [impl_StorePack.l0, if_neg (by omega)]) (Evto ?_ (Ev.now _))
    rw [List.drop_length]; simp
  · intro i hi ih out ho
    have hm := getD_memg z34 l i hi
    have e1 := hx _ hm
    have hwx := hw _ hm
    have hl := packE_len _ e1 hwx
    rw [drop_g z34 l i hi, List.map_cons, List.flatten_cons]
    generalize hg : l.getD i z34 = x at *
    refine Ev.step (f := fun k => (impl_EntryPack.f k x.f0 x.f1 x.f2 x.f3).bind fun t => (if out.length + t.1.length < 140737488355328 then (impl_StorePack.l0 k (out ++ t.1) l (l.length : Int) (wrap64 ((i : Int) + 1))) else none)) (fun k => by rw [impl_StorePack.l0, if_pos (by omega), if_pos (by omega), if_pos (by omega), rdE, hg]) ?_
    have hPO : entPackO x.f0 x.f1 x.f2 x.f3 = (packE x, true) := by rw [entPackO, if_pos (show entryOk x.f0 x.f1 x.f2 x.f3 = true from e1)]; rfl
    refine Evbind (impl_EntryPack_f x.f0 x.f1 x.f2 x.f3 hwx) ?_
    rw [hPO]
    refine Evpos (by show out.length + (packE x).length < _; omega) ?_
    rw [wsucc i (by omega)]
    exact Evto (by rw [List.append_assoc]) (ih (out ++ packE x) (by rw [List.length_append]; omega))
theorem impl_StorePack_f (l m : List S34) (c : Int) (hk : l.length ≤ 1048576) (hl : m.length ≤ 1048576) (hwk : ∀ x ∈ l, (Lit.int .i64 x.f0).wf = true) (hwl : ∀ x ∈ m, (Lit.int .i64 x.f0).wf = true) : Ev (fun k => impl_StorePack.f k l m c) (storePack l m c) := by
  have hout : Ev (fun k => impl_StorePack.j0 k true l m c) ([], false) := Ev.step (f := fun _ => some ([], false)) (fun k => by rw [impl_StorePack.j0, if_pos rfl]) (Ev.now _)
  unfold impl_StorePack.f storePack
  refine Evbind (impl_StoreOk_f l m c (by omega) (by omega) hwk hwl) ?_
  by_cases h : storeOk l m c = true
  · have hp := storeOk_parts h
    refine Evpos h ?_
    by_cases h0 : m.length = 0
    · rw [if_pos ⟨h, h0⟩, decide_eq_false (by omega)]
      have h2 := putNum_len c (by omega)
      have h3 := putNum_len (l.length : Int) (by omega)
      refine Ev.step (fun k => by rw [impl_StorePack.j0, if_neg Bool.false_ne_true]) ?_
      refine Evbind (impl_putNums_f [c, (l.length : Int)] (by simp) ?_) ?_
      · intro x hx
        simp only [List.mem_cons, List.not_mem_nil, or_false] at hx
        rcases hx with rfl | rfl <;> omega
      · have el : ([c, (l.length : Int)].map putNum).flatten = putNum c ++ putNum (l.length : Int) := by simp
        rw [el]
        exact impl_StorePack_l0 l hp.1 hp.2.1 hwk 0 (by omega) _ (by rw [List.length_append]; omega)
    · rw [if_neg (fun q => h0 q.2), decide_eq_true (by omega)]
      exact hout
  · rw [if_neg (fun q => h q.1)]
    exact Evneg h hout

/-! eqByte -/
theorem eqByteS_l0 (x y : List Int) (hl : x.length = y.length) (hn : x.length < 4611686018427387904) (d : Nat) : ∀ i : Nat, i + d = x.length → Ev (fun k => laws_eqByteS.l0 k x y (i : Int)) (decide (x.drop i = y.drop i)) := by
  induction d with
  | zero =>
    intro i hi
    refine Ev.step (f := fun _ => some true) (fun k => ?_) ?_
    · rw [laws_eqByteS.l0, if_neg (by omega)]
    · rw [List.drop_eq_nil_of_le (by omega), List.drop_eq_nil_of_le (by omega)]; exact Ev.now _
  | succ d ih =>
    intro i hi
    have hx : i < x.length := by omega
    have hy : i < y.length := by omega
    have dx := List.drop_eq_getElem_cons hx
    have dy := List.drop_eq_getElem_cons hy
    by_cases e : x.getD i 0 = y.getD i 0
    · refine Ev.step (f := fun k => laws_eqByteS.l0 k x y ((i + 1 : Nat) : Int)) (fun k => ?_) (Evto ?_ (ih (i + 1) (by omega)))
      · rw [laws_eqByteS.l0, if_pos (by omega), if_pos (by omega), if_pos (by omega), rd_nat, rd_nat, if_pos e, wsucc i (by omega)]
      · rw [getD_get x i hx, getD_get y i hy] at e
        rw [dx, dy, e]; exact decide_eq_decide.2 ⟨fun h => by rw [h], fun h => (List.cons.inj h).2⟩
    · refine Ev.step (f := fun _ => some false) (fun k => ?_) (Evto ?_ (Ev.now _))
      · rw [laws_eqByteS.l0, if_pos (by omega), if_pos (by omega), if_pos (by omega), rd_nat, rd_nat, if_neg e]
      · rw [getD_get x i hx, getD_get y i hy] at e
        symm; apply decide_eq_false
        rw [dx, dy]; intro h; exact e (List.cons.inj h).1
theorem eqByteS_f (x y : List Int) (hn : x.length < 4611686018427387904) : Ev (fun k => laws_eqByteS.f k x y) (decide (x = y)) := by
  by_cases h : x.length = y.length
  · exact Ev.congr (fun k => by rw [laws_eqByteS.f, if_pos (by omega)]; rfl) (Evto (by simp) (eqByteS_l0 x y h hn x.length 0 (by omega)))
  · refine Ev.congr (g := fun k => laws_eqByteS.f k x y) (f := fun _ => some false) (fun k => by rw [laws_eqByteS.f, if_neg (by omega)]) (Evto ?_ (Ev.now _))
    symm; apply decide_eq_false; intro e; exact h (by rw [e])
theorem eqByteS_refl (x : List Int) (hn : x.length < 4611686018427387904) : Ev (fun k => laws_eqByteS.f k x x) true := Evto (by simp) (eqByteS_f x x hn)

/-! markByte -/
def marksByte (n : Nat) (a : Int) : List Int := (List.range n).map (fun j : Nat => (a + (j : Int)) % 256)
theorem marksByte_len (n : Nat) (a : Int) : (marksByte n a).length = n := by simp [marksByte]
theorem marksByte_get (n : Nat) (a : Int) (j : Nat) (h : j < n) : (marksByte n a)[j]? = some ((a + (j : Int)) % 256) := by simp [marksByte, List.getElem?_range h]
theorem markByteS_l0 (n : Nat) (a : Int) (ha : 0 ≤ a) (hn : a + n < 4611686018427387904) (d : Nat) : ∀ (i : Nat) (x : List Int), i + d = n → x.length = n → (∀ j, j < i → x[j]? = some ((a + (j : Int)) % 256)) → Ev (fun k => laws_markByteS.l0 k x (a + i) (i : Int)) (a + n, marksByte n a) := by
  induction d with
  | zero =>
    intro i x hi hx h
    refine Ev.step (f := fun _ => some (a + i, x)) (fun k => ?_) (Evto ?_ (Ev.now _))
    · rw [laws_markByteS.l0, if_neg (by omega)]
    · have : x = marksByte n a := by
        apply List.ext_getElem?; intro j
        by_cases hj : j < i
        · rw [h j hj, marksByte_get n a j (by omega)]
        · rw [List.getElem?_eq_none (by omega), List.getElem?_eq_none (by rw [marksByte_len]; omega)]
      rw [this, show i = n by omega]
  | succ d ih =>
    intro i x hi hx h
    refine Ev.step (f := fun k => laws_markByteS.l0 k (x.set i ((a + (i : Int)) % 256)) (a + ((i + 1 : Nat) : Int)) ((i + 1 : Nat) : Int)) (fun k => ?_) (ih (i + 1) _ (by omega) (by simp [hx]) ?_)
    · rw [laws_markByteS.l0, if_pos (by omega), if_pos (by omega), wsucc i (by omega), Int.toNat_natCast, w64 (n := a + i + 1) (by omega) (by omega)]
      rw [show a + (i : Int) + 1 = a + ((i + 1 : Nat) : Int) by omega]
    · intro j hj
      rw [List.getElem?_set]
      by_cases e : i = j
      · subst e; rw [if_pos rfl, if_pos (by omega)]
      · rw [if_neg e]; exact h j (by omega)
theorem markByteS_f (x : List Int) (a : Int) (ha : 0 ≤ a) (hn : a + x.length < 4611686018427387904) : Ev (fun k => laws_markByteS.f k x a) (a + x.length, marksByte x.length a) :=
  Ev.congr (fun k => by rw [laws_markByteS.f]; simp) (markByteS_l0 x.length a ha hn x.length 0 x (by omega) rfl (fun j hj => by omega))
theorem heldByteS_l0 (n : Nat) (a : Int) (ha : 0 ≤ a) (hn : a + n < 4611686018427387904) (d : Nat) : ∀ (i : Nat), i + d = n → Ev (fun k => laws_heldByteS.l0 k (marksByte n a) (a + i) (i : Int)) (a + n) := by
  induction d with
  | zero =>
    intro i hi
    refine Ev.step (f := fun _ => some (a + i)) (fun k => ?_) (Evto ?_ (Ev.now _))
    · rw [laws_heldByteS.l0, marksByte_len, if_neg (by omega)]
    · rw [show i = n by omega]
  | succ d ih =>
    intro i hi
    refine Ev.step (f := fun k => laws_heldByteS.l0 k (marksByte n a) (a + ((i + 1 : Nat) : Int)) ((i + 1 : Nat) : Int)) (fun k => ?_) (ih (i + 1) (by omega))
    · rw [laws_heldByteS.l0, marksByte_len, if_pos (by omega), if_pos (by omega), rd_nat, if_pos, wsucc i (by omega), w64 (n := a + i + 1) (by omega) (by omega)]
      · rw [show a + (i : Int) + 1 = a + ((i + 1 : Nat) : Int) by omega]
      · rw [List.getD_eq_getElem?_getD, marksByte_get n a i (by omega)]; rfl
theorem heldByteS_f (n : Nat) (a : Int) (ha : 0 ≤ a) (hn : a + n < 4611686018427387904) : Ev (fun k => laws_heldByteS.f k (marksByte n a) a) (a + n) :=
  Ev.congr (fun k => by rw [laws_heldByteS.f]; simp) (heldByteS_l0 n a ha hn n 0 (by omega))

theorem FnExactStorePack (l0_0 : List S43) (l0_1 : List S43) (a0_2 : Int) (hl0_0 : l0_0.length ≤ maxLen ∧ ∀ x ∈ l0_0, QS43 x) (hl0_1 : l0_1.length ≤ maxLen ∧ ∀ x ∈ l0_1, QS43 x) (ha0_2 : (Lit.int .i64 a0_2).wf = true) : ∃ k, laws_FnExactStorePack.f k l0_0 l0_1 a0_2 = some true := by
  refine Ev.rounds (g := fun k => laws_FnExactStorePack.f k l0_0 l0_1 a0_2) ?_
  unfold laws_FnExactStorePack.f
  obtain ⟨r, er, _, _, hr⟩ := szStore_f l0_0 l0_1 a0_2 hl0_0.1 hl0_1.1 (fun x hx => (hl0_0.2 x hx).2.2.2) (fun x hx => (hl0_1.2 x hx).2.2.2)
  refine Evbind er ?_
  by_cases hneg : r < 0
  · exact Evpos hneg (Ev.now _)
  refine Evneg hneg ?_
  obtain ⟨hlk, hll⟩ := hr (by omega)
  have hts := toStore_f l0_0 l0_1 a0_2 hlk hll
  have hlk' : (l0_0.map convE).length ≤ 1048576 := by rw [List.length_map]; exact hlk
  have hll' : (l0_1.map convE).length ≤ 1048576 := by rw [List.length_map]; exact hll
  have hwk : ∀ x ∈ l0_0.map convE, (Lit.int .i64 x.f0).wf = true := by
    intro x hx; obtain ⟨y, hy, rfl⟩ := List.mem_map.1 hx; exact (hl0_0.2 y hy).1
  have hwl : ∀ x ∈ l0_1.map convE, (Lit.int .i64 x.f0).wf = true := by
    intro x hx; obtain ⟨y, hy, rfl⟩ := List.mem_map.1 hx; exact (hl0_1.2 y hy).1
  have hes := eqStore_refl (l0_0.map convE) (l0_1.map convE) a0_2 (by omega) (by omega)
  have hsp := spec_StorePack_f (l0_0.map convE) (l0_1.map convE) a0_2 hlk' hll' hwk hwl
  have hip := impl_StorePack_f (l0_0.map convE) (l0_1.map convE) a0_2 hlk' hll' hwk hwl
  have hlen := storePack_len (l0_0.map convE) (l0_1.map convE) a0_2 hwk
  have hms := markStore_f (l0_0.map convE) (l0_1.map convE) a0_2 1 (by decide) (by omega)
  generalize storePack (l0_0.map convE) (l0_1.map convE) a0_2 = P at *
  have he := eqByteS_refl P.1 (by omega)
  have hmb := markByteS_f P.1 1 (by decide) (by omega)
  have hhb := heldByteS_f P.1.length 1 (by decide) (by omega)
  refine Evbind hts (Evbind hsp (Evbind hts (Evbind hip (Evbind he (Evpos rfl ?_)))))
  refine Ev.step (fun k => by rw [laws_FnExactStorePack.j0, if_neg (by simp)]) ?_
  refine Evbind hts (Evbind hes (Evpos rfl (Evbind hms ?_)))
  refine Evneg (show ¬ (1 + 4 * ((l0_0.map convE).length : Int) + 4 * ((l0_1.map convE).length : Int)) < 0 by omega) ?_
  refine Evbind he (Evpos rfl ?_)
  refine Ev.step (fun k => by rw [laws_FnExactStorePack.j1, if_neg (by simp)]) ?_
  refine Evbind hmb (Evbind hhb (Evneg (by omega) (Evpos rfl ?_)))
  refine Evbind hts (Evbind hip (Evbind he (Evpos rfl ?_)))
  refine Ev.step (fun k => by rw [laws_FnExactStorePack.j2, if_neg (by simp)]) ?_
  exact Evbind hhb (Evneg (by omega) (Evpos rfl (Ev.now _)))

end Go.Proofs.Ythdpknoeackpfaa.Pure
