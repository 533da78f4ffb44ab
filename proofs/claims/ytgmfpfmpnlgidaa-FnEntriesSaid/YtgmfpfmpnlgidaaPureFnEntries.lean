/- A drawn entry is read from its bytes as it was; bytes that are read are those of the entry. Conditions: none beyond the given statement. -/
import Derived.Test.YtgmfpfmpnlgidaaMFnEntriesx8
import Derived.OpenShut
import Derived.Laws.BitsLemmas
namespace Go.Proofs.Ytgmfpfmpnlgidaa.Pure
open Go.RowKit Go.Proofs.Ytgmfpfmpnlgidaa.PFnEntries Go.Proofs.YtgmfpfmpnlgidaaW.PrintWords Go.Proofs.YtgmfpfmpnlgidaaW.PrintLast Go.Proofs.YtgmfpfmpnlgidaaW.PrintMore
set_option linter.unusedVariables false
set_option linter.unusedSimpArgs false
/-! base -/
theorem w64 {n : Int} (h : -9223372036854775808 ≤ n) (h2 : n ≤ 9223372036854775807) : wrap64 n = n := by unfold wrap64; omega
theorem wsucc (i : Nat) (h : i < 4611686018427387904) : wrap64 ((i : Int) + 1) = ((i + 1 : Nat) : Int) := by unfold wrap64; omega
theorem wf64 {n : Int} (h : (Lit.int .i64 n).wf = true) : -9223372036854775808 ≤ n ∧ n ≤ 9223372036854775807 := bounds_i64 h
theorem Evpos {α : Type} {c : Prop} [Decidable c] {a b : Nat → Option α} {r : α} (h : c) (e : Ev a r) : Ev (fun k => if c then a k else b k) r := Ev.congr (fun _ => if_pos h) e
theorem Evneg {α : Type} {c : Prop} [Decidable c] {a b : Nat → Option α} {r : α} (h : ¬ c) (e : Ev b r) : Ev (fun k => if c then a k else b k) r := Ev.congr (fun _ => if_neg h) e
theorem Evsome {α β : Type} {a : α} {f : Nat → α → Option β} {r : β} (e : Ev (fun k => f k a) r) : Ev (fun k => (some a).bind (f k)) r := e
theorem Evbind {α β : Type} {g : Nat → Option α} {f : Nat → α → Option β} {a : α} {r : β} (h : Ev g a) (e : Ev (fun n => f n a) r) : Ev (fun n => (g n).bind (f n)) r := Ev.bind h e
theorem Evconst {α : Type} {g : Option α} {r : α} (h : g = some r) : Ev (fun _ => g) r := ⟨0, fun _ _ => h⟩
theorem Evto {α : Type} {g : Nat → Option α} {r r' : α} (h : r = r') (e : Ev g r) : Ev g r' := h ▸ e
theorem rd_nat (xs : List Int) (i : Nat) : rd xs (i : Int) = xs.getD i 0 := by simp [rd]
theorem getD_get (xs : List Int) (i : Nat) (h : i < xs.length) : xs.getD i 0 = xs[i] := by simp [List.getD_eq_getElem?_getD, List.getElem?_eq_getElem h]
theorem get_getD (xs : List Int) (i : Nat) (h : i < xs.length) : xs[i]? = some (xs.getD i 0) := by simp [List.getD_eq_getElem?_getD, List.getElem?_eq_getElem h]
theorem wf_getD {kd : IntKind} (xs : List Int) (hw : ∀ x ∈ xs, (Lit.int kd x).wf = true) (i : Nat) (h : i < xs.length) : (Lit.int kd (xs.getD i 0)).wf = true := by
  rw [getD_get xs i h]; exact hw _ (List.getElem_mem h)
theorem wf_iff (k : IntKind) (n : Int) : (Lit.int k n).wf = true ↔ k.min ≤ n ∧ n ≤ k.max := by simp [Lit.wf]
theorem wf8 {n : Int} (h : (Lit.int .u8 n).wf = true) : 0 ≤ n ∧ n ≤ 255 := by
  have := (wf_iff .u8 n).1 h
  simpa [IntKind.min, IntKind.max, IntKind.bits, IntKind.signed] using this
theorem wf_mk8 {n : Int} (h : 0 ≤ n) (h2 : n ≤ 255) : (Lit.int .u8 n).wf = true :=
  (wf_iff .u8 n).2 (by simp [IntKind.min, IntKind.max, IntKind.bits, IntKind.signed]; omega)
theorem wf_mk64 {n : Int} (h : -9223372036854775808 ≤ n) (h2 : n ≤ 9223372036854775807) : (Lit.int .i64 n).wf = true :=
  (wf_iff .i64 n).2 (by simp [IntKind.min, IntKind.max, IntKind.bits, IntKind.signed]; omega)
theorem drop_at (b : List Int) (j : Nat) (h : j < b.length) : b.drop j = b.getD j 0 :: b.drop (j + 1) := by
  rw [List.drop_eq_getElem_cons h, getD_get b j h]
theorem p63 : (2 : Int) ^ 63 = 9223372036854775808 := by decide
theorem p1289 : (128 : Nat) ^ 9 = 9223372036854775808 := by decide
theorem p27 : (2 : Int) ^ 7 = 128 := by decide
theorem natpos (i : Nat) : ((i : Int) > 0) ↔ 0 < i := by omega

/-! bits -/
theorem wraps63 (n : Int) (h₀ : 0 ≤ n) (h₁ : n < 2 ^ 63) : IntKind.i64.wrap n = n := by
  have e := p63
  rw [IntKind.wrap_i64]; omega
theorem and127 (x : Int) (h0 : 0 ≤ x) (h1 : x < 9223372036854775808) : Go.bits .and .i64 x 127 = x % 128 :=
  bits_mask .i64 63 (by decide) wraps63 7 (by decide) x h0 (by rw [p63]; exact h1)
theorem and1 (x : Int) (h0 : 0 ≤ x) (h1 : x < 9223372036854775808) : Go.bits .and .i64 x 1 = x % 2 :=
  bits_mask .i64 63 (by decide) wraps63 1 (by decide) x h0 (by rw [p63]; exact h1)
theorem or_comm64 (x y : Int) : Go.bits .or .i64 x y = Go.bits .or .i64 y x := by
  unfold Go.bits; simp only []; rw [BitVec.or_comm]
theorem or_low (i : Nat) (x z : Int) (hx : 0 ≤ x) (hx' : x < 2 ^ i) (hz : 0 ≤ z) (hz' : z < 9223372036854775808) (hm : z % 2 ^ i = 0) (hx2 : x < 9223372036854775808) : Go.bits .or .i64 x z = x + z := by
  have e := p63
  rw [or_comm64, bits_join .i64 63 (by decide) wraps63 i z x hz hm (by omega) hx hx' (by omega)]; omega

/-! specin -/
theorem spec_l1In_f (a b c : Int) : spec_l1In.f a b c = some (decide (b ≤ a ∧ a ≤ c)) := by
  unfold spec_l1In.f
  by_cases h : a ≥ b
  · rw [if_pos h]; congr 1; exact decide_eq_decide.2 (by omega)
  · rw [if_neg h]; congr 1; symm; exact decide_eq_false (by omega)

/-! within -/
theorem impl_within_f (a b c : Int) : impl_within.f a b c = some (decide (b ≤ a ∧ a ≤ c)) := by
  unfold impl_within.f
  by_cases h : a ≥ b
  · rw [if_pos h]; congr 1; exact decide_eq_decide.2 (by omega)
  · rw [if_neg h]; congr 1; symm; exact decide_eq_false (by omega)

/-! isep -/
theorem impl_isEpoch_f (a : Int) : impl_isEpoch.f a = some (decide (1 ≤ a ∧ a ≤ 30)) := by
  unfold impl_isEpoch.f; rw [impl_within_f]; rfl
theorem impl_isOff_f (a : Int) : impl_isOff.f a = some (decide (1 ≤ a ∧ a ≤ 60)) := by
  unfold impl_isOff.f; rw [impl_within_f]; rfl

/-! andbd -/
theorem and_bd (x : Int) (m : Nat) (hm : m < 9223372036854775808) : 0 ≤ Go.bits .and .i64 x (m : Int) ∧ Go.bits .and .i64 x (m : Int) ≤ m := by
  have hb : IntKind.bits .i64 = 64 := rfl
  have key : ((BitVec.ofInt 64 x) &&& (BitVec.ofInt 64 (m : Int))).toNat ≤ m := by
    rw [BitVec.toNat_and, BitVec.ofInt_natCast, BitVec.toNat_ofNat]
    exact Nat.le_trans Nat.and_le_right (Nat.mod_le _ _)
  have e : Go.bits .and .i64 x (m : Int) = IntKind.i64.wrap ((((BitVec.ofInt 64 x) &&& (BitVec.ofInt 64 (m : Int))).toNat : Nat) : Int) := rfl
  rw [e, IntKind.wrap_i64]
  generalize ((BitVec.ofInt 64 x) &&& (BitVec.ofInt 64 (m : Int))).toNat = z at *
  omega

/-! drawbyte -/
theorem l1Byte_f (b : List Int) (i h : Int) (h0 : 0 ≤ i) (h1 : i ≤ b.length) (hb : b.length < 4611686018427387904) : ∃ x i' h', spec_l1Byte.f b i h = some (x, i', h') ∧ 0 ≤ x ∧ x ≤ 255 ∧ 0 ≤ i' ∧ i' ≤ b.length := by
  unfold spec_l1Byte.f
  by_cases hc : i < (b.length : Int)
  · rw [if_pos hc, if_pos h0]
    have e : wrap64 (i + 1) = i + 1 := w64 (by omega) (by omega)
    have a := fun x => and_bd x 255 (by omega)
    exact ⟨_, _, _, rfl, (a _).1, (a _).2, by rw [e]; omega, by rw [e]; omega⟩
  · rw [if_neg hc]
    have a := fun x => and_bd x 255 (by omega)
    exact ⟨_, _, _, rfl, (a _).1, (a _).2, h0, h1⟩
theorem l1Below_f (b : List Int) (i h n : Int) (h0 : 0 ≤ i) (h1 : i ≤ b.length) (hb : b.length < 4611686018427387904) : ∃ x i' h', spec_l1Below.f b i h n = some (x, i', h') ∧ 0 ≤ x ∧ (0 < n → x < n) ∧ (n ≤ 0 → x = 0) ∧ x ≤ 4294967295 ∧ 0 ≤ i' ∧ i' ≤ b.length := by
  unfold spec_l1Below.f
  by_cases c1 : n ≤ 0
  · rw [if_pos c1]; exact ⟨_, _, _, rfl, by omega, by omega, fun _ => rfl, by omega, h0, h1⟩
  rw [if_neg c1]
  obtain ⟨x, i1, hh1, e1, b1⟩ := l1Byte_f b i h h0 h1 hb
  by_cases c2 : n ≤ 256
  · rw [if_pos c2, e1, Option.bind_some, if_neg (by omega)]
    have hm : Int.tmod x n = x % n := Int.tmod_eq_emod_of_nonneg (by omega)
    have hm1 := Int.emod_lt_of_pos x (show 0 < n by omega)
    have hm0 := Int.emod_nonneg x (show n ≠ 0 by omega)
    refine ⟨_, _, _, rfl, ?_⟩
    show 0 ≤ Int.tmod x n ∧ (0 < n → Int.tmod x n < n) ∧ (n ≤ 0 → Int.tmod x n = 0) ∧ Int.tmod x n ≤ 4294967295 ∧ 0 ≤ i1 ∧ i1 ≤ b.length
    rw [hm]
    exact ⟨hm0, fun _ => hm1, fun hh => absurd hh c1, by omega, b1.2.2.1, b1.2.2.2⟩
  · obtain ⟨y, i2, hh2, e2, b2⟩ := l1Byte_f b i1 hh1 b1.2.2.1 b1.2.2.2 hb
    obtain ⟨z, i3, hh3, e3, b3⟩ := l1Byte_f b i2 hh2 b2.2.2.1 b2.2.2.2 hb
    obtain ⟨w, i4, hh4, e4, b4⟩ := l1Byte_f b i3 hh3 b3.2.2.1 b3.2.2.2 hb
    rw [if_neg c2, e1, Option.bind_some]
    simp only [e2, e3, e4, Option.bind_some]
    rw [if_neg (by omega)]
    have w1 : wrap64 (x * 16777216) = x * 16777216 := w64 (by omega) (by omega)
    have w2 : wrap64 (y * 65536) = y * 65536 := w64 (by omega) (by omega)
    have w3 : wrap64 (x * 16777216 + y * 65536) = x * 16777216 + y * 65536 := w64 (by omega) (by omega)
    have w4 : wrap64 (z * 256) = z * 256 := w64 (by omega) (by omega)
    have w5 : wrap64 (x * 16777216 + y * 65536 + z * 256) = x * 16777216 + y * 65536 + z * 256 := w64 (by omega) (by omega)
    have w6 : wrap64 (x * 16777216 + y * 65536 + z * 256 + w) = x * 16777216 + y * 65536 + z * 256 + w := w64 (by omega) (by omega)
    rw [w1, w2, w3, w4, w5, w6]
    have hs0 : 0 ≤ x * 16777216 + y * 65536 + z * 256 + w := by omega
    have hs1 : x * 16777216 + y * 65536 + z * 256 + w ≤ 4294967295 := by omega
    generalize x * 16777216 + y * 65536 + z * 256 + w = s at *
    have hm : Int.tmod s n = s % n := Int.tmod_eq_emod_of_nonneg hs0
    have hm1 := Int.emod_lt_of_pos s (show 0 < n by omega)
    have hm0 := Int.emod_nonneg s (show n ≠ 0 by omega)
    have hm2 : s % n ≤ s := by
      have := Int.emod_add_mul_ediv s n
      have hq : 0 ≤ s / n := Int.ediv_nonneg hs0 (by omega)
      have : 0 ≤ n * (s / n) := Int.mul_nonneg (by omega) hq
      omega
    refine ⟨_, _, _, rfl, ?_⟩
    rw [hm]
    exact ⟨hm0, fun _ => hm1, fun hh => absurd hh c1, by omega, b4.2.2.1, b4.2.2.2⟩

/-! down -/
theorem down {p : Nat → Prop} (n : Nat) (h0 : p n) (hs : ∀ i, i < n → p (i + 1) → p i) (i : Nat) (hi : i ≤ n) : p i := by
  obtain ⟨d, hd⟩ : ∃ d, i + d = n := ⟨n - i, by omega⟩
  induction d generalizing i with
  | zero => obtain rfl : i = n := by omega
            exact h0
  | succ d ih => exact hs i (by omega) (ih (i + 1) (by omega) (by omega))
theorem getD_mem (l : List Int) (i : Nat) (h : i < l.length) : l.getD i 0 ∈ l := by
  rw [getD_get l i h]; exact List.getElem_mem h

/-! drawpick -/
theorem l1PickInt_f (b : List Int) (i h : Int) (l : List Int) (hl : 0 < l.length) (hl2 : l.length < 1000) (h0 : 0 ≤ i) (h1 : i ≤ b.length) (hb : b.length < 4611686018427387904) : ∃ x i' h', spec_l1PickInt.f b i h l = some (x, i', h') ∧ x ∈ l ∧ 0 ≤ i' ∧ i' ≤ b.length := by
  obtain ⟨x, i', h', e, b1⟩ := l1Below_f b i h (l.length : Int) h0 h1 hb
  unfold spec_l1PickInt.f
  have hx := b1.2.1 (by omega)
  obtain ⟨n, rfl⟩ := Int.eq_ofNat_of_zero_le b1.1
  rw [e, Option.bind_some]
  simp only []
  rw [if_pos b1.1, if_pos hx]
  refine ⟨_, _, _, rfl, ?_, b1.2.2.2.2⟩
  show rd l (n : Int) ∈ l
  rw [rd_nat]
  exact getD_mem l n (by omega)

/-! drawplace -/
theorem l1Place_f (e o : Int) (he : 0 ≤ e ∧ e ≤ 31) (ho : 0 ≤ o ∧ o ≤ 61) : spec_l1Place.f e o = some (4294967296 * e + o) := by
  unfold spec_l1Place.f
  rw [w64 (n := 4294967296 * e) (by omega) (by omega), w64 (by omega) (by omega)]

/-! drawpicks -/
theorem l1Pick_f (b : List Int) (i h : Int) (l : List ByteArray) (hl : 0 < l.length) (hl2 : l.length < 1000) (h0 : 0 ≤ i) (h1 : i ≤ b.length) (hb : b.length < 4611686018427387904) : ∃ x i' h', spec_l1Pick.f b i h l = some (x, i', h') ∧ x ∈ l ∧ 0 ≤ i' ∧ i' ≤ b.length := by
  obtain ⟨x, i', h', e, b1⟩ := l1Below_f b i h (l.length : Int) h0 h1 hb
  unfold spec_l1Pick.f
  have hx := b1.2.1 (by omega)
  obtain ⟨n, rfl⟩ := Int.eq_ofNat_of_zero_le b1.1
  rw [e, Option.bind_some]
  simp only []
  rw [if_pos b1.1, if_pos hx]
  refine ⟨_, _, _, rfl, ?_, b1.2.2.2.2⟩
  show rdOf ByteArray.empty l (n : Int) ∈ l
  have hn : n < l.length := by omega
  have : rdOf ByteArray.empty l (n : Int) = l[n] := by simp [rdOf, List.getD_eq_getElem?_getD, List.getElem?_eq_getElem hn]
  rw [this]; exact List.getElem_mem hn

/-! drawonce -/
theorem l1Once_f (b : List Int) (i h n : Int) (h0 : 0 ≤ i) (h1 : i ≤ b.length) (hb : b.length < 4611686018427387904) : ∃ x i' h', spec_l1Once.f b i h n = some (x, i', h') ∧ 0 ≤ i' ∧ i' ≤ b.length := by
  obtain ⟨x, i', h', e, b1⟩ := l1Below_f b i h n h0 h1 hb
  unfold spec_l1Once.f
  rw [e, Option.bind_some]
  exact ⟨_, _, _, rfl, b1.2.2.2.2⟩

/-! placem -/
def placeOk (x : Int) : Bool := decide (4294967296 ≤ x ∧ x / 4294967296 ≤ 30 ∧ 1 ≤ x % 4294967296 ∧ x % 4294967296 ≤ 60)
theorem tdm (x : Int) : (0 ≤ x ∧ Int.tdiv x 4294967296 = x / 4294967296 ∧ Int.tmod x 4294967296 = x % 4294967296) ∨ (x < 0 ∧ Int.tdiv x 4294967296 ≤ 0 ∧ x ≤ Int.tdiv x 4294967296 ∧ Int.tmod x 4294967296 ≤ 0) := by
  by_cases h : 0 ≤ x
  · exact .inl ⟨h, Int.tdiv_eq_ediv_of_nonneg h, Int.tmod_eq_emod_of_nonneg h⟩
  · refine .inr ⟨by omega, ?_⟩
    obtain ⟨y, rfl⟩ : ∃ y, x = -y := ⟨-x, by omega⟩
    rw [Int.neg_tdiv, Int.neg_tmod, Int.tdiv_eq_ediv_of_nonneg (by omega), Int.tmod_eq_emod_of_nonneg (by omega)]
    omega
theorem placeOk_iff (x : Int) : placeOk x = true ↔ (4294967296 ≤ x ∧ x / 4294967296 ≤ 30 ∧ 1 ≤ x % 4294967296 ∧ x % 4294967296 ≤ 60) := by simp [placeOk]
theorem placeOk_div (x : Int) (h : placeOk x = true) : wrap64 (Int.tdiv x 4294967296) = x / 4294967296 := by
  have := (placeOk_iff x).1 h
  rw [Int.tdiv_eq_ediv_of_nonneg (by omega), w64 (by omega) (by omega)]
theorem placeOk_mod (x : Int) (h : placeOk x = true) : Int.tmod x 4294967296 = x % 4294967296 := by
  have := (placeOk_iff x).1 h
  rw [Int.tmod_eq_emod_of_nonneg (by omega)]

/-! splace -/
theorem spec_PlaceOk_f (x : Int) (h : (Lit.int .i64 x).wf = true) : spec_PlaceOk.f x = some (placeOk x) := by
  have hb := wf64 h
  unfold spec_PlaceOk.f
  simp only [spec_l1In_f, Option.bind_some, decide_eq_true_eq]
  have ht := tdm x
  rw [w64 (n := Int.tdiv x 4294967296) (by omega) (by omega)]
  by_cases h1 : x > 0
  · rw [if_pos h1]
    by_cases h2 : 1 ≤ Int.tdiv x 4294967296 ∧ Int.tdiv x 4294967296 ≤ 30
    · rw [if_pos h2]; congr 1; exact decide_eq_decide.2 (by omega)
    · rw [if_neg h2]; congr 1; symm; exact decide_eq_false (by omega)
  · rw [if_neg h1]; congr 1; symm; exact decide_eq_false (by omega)

/-! epochm -/
def epochOf (x : Int) : Int := if placeOk x = true then x / 4294967296 else 0
theorem epochOf_bd (x : Int) : 0 ≤ epochOf x ∧ epochOf x ≤ 30 := by
  unfold epochOf
  by_cases hp : placeOk x = true
  · have := (placeOk_iff x).1 hp; rw [if_pos hp]; omega
  · rw [if_neg hp]; omega

/-! sepoch -/
theorem spec_EpochOf_f (x : Int) (h : (Lit.int .i64 x).wf = true) : spec_EpochOf.f x = some (epochOf x) := by
  unfold spec_EpochOf.f epochOf
  rw [spec_PlaceOk_f x h, Option.bind_some]
  by_cases hp : placeOk x = true
  · rw [if_pos hp, if_pos hp, placeOk_div x hp]
  · rw [if_neg hp, if_neg hp]

/-! drawright -/
theorem wf_add64 (x : Int) : (Lit.int .i64 (wrap64 x)).wf = true := wrap64_wf x
theorem l3DrawRight_f (b : List Int) (i h : Int) (h0 : 0 ≤ i) (h1 : i ≤ b.length) (hb : b.length < 4611686018427387904) : ∃ a w hl s i' h', spec_l3DrawRight.f b i h = some (a, w, hl, s, i', h') ∧ (Lit.int .i64 a).wf = true ∧ (Lit.int .i64 w).wf = true ∧ s.size ≤ 4 ∧ 0 ≤ i' ∧ i' ≤ b.length ∧ (∃ e o : Int, 1 ≤ e ∧ e ≤ 3 ∧ 1 ≤ o ∧ o ≤ 6 ∧ a = 4294967296 * e + o) ∧ (w = 0 ∧ hl = false ∨ epochOf a < w ∧ w ≤ 30 ∧ (hl = true → s.toList = [])) := by
  obtain ⟨x1, i1, g1, e1, b1⟩ := l1Below_f b i h 3 h0 h1 hb
  obtain ⟨x2, i2, g2, e2, b2⟩ := l1Below_f b i1 g1 6 b1.2.2.2.2.1 b1.2.2.2.2.2 hb
  have k1 := b1.2.1 (by omega)
  have k2 := b2.2.1 (by omega)
  have w1 : wrap64 (1 + x1) = 1 + x1 := w64 (by omega) (by omega)
  have w2 : wrap64 (1 + x2) = 1 + x2 := w64 (by omega) (by omega)
  have p := l1Place_f (1 + x1) (1 + x2) (by omega) (by omega)
  obtain ⟨s, i3, g3, e3, hs, b3⟩ := l1Pick_f b i2 g2 [(⟨#[]⟩ : ByteArray), (⟨#[97]⟩ : ByteArray), (⟨#[98, 99]⟩ : ByteArray), (⟨#[0]⟩ : ByteArray), (⟨#[119, 111, 114, 100]⟩ : ByteArray)] (by decide) (by decide) b2.2.2.2.2.1 b2.2.2.2.2.2 hb
  have hs4 : s.size ≤ 4 := by
    simp only [List.mem_cons, List.not_mem_nil, or_false] at hs
    rcases hs with rfl | rfl | rfl | rfl | rfl <;> decide
  have wfa : (Lit.int .i64 (4294967296 * (1 + x1) + (1 + x2))).wf = true := by apply wf_mk64 <;> omega
  have hpl : ∃ e o : Int, 1 ≤ e ∧ e ≤ 3 ∧ 1 ≤ o ∧ o ≤ 6 ∧ 4294967296 * (1 + x1) + (1 + x2) = 4294967296 * e + o := ⟨1 + x1, 1 + x2, by omega, by omega, by omega, by omega, rfl⟩
  obtain ⟨o, i4, g4, e4, b4⟩ := l1Once_f b i3 g3 3 b3.1 b3.2 hb
  unfold spec_l3DrawRight.f
  simp only [e1, e2, w1, w2, p, e3, e4, Option.bind_some]
  cases o with
  | true =>
    obtain ⟨x5, i5, g5, e5, b5⟩ := l1Below_f b i4 g4 3 b4.1 b4.2 hb
    obtain ⟨o6, i6, g6, e6, b6⟩ := l1Once_f b i5 g5 2 b5.2.2.2.2.1 b5.2.2.2.2.2 hb
    have k5 := b5.2.1 (by omega)
    rw [if_pos rfl, spec_EpochOf_f _ wfa]
    simp only [e5, e6, Option.bind_some]
    have he := epochOf_bd (4294967296 * (1 + x1) + (1 + x2))
    have hpo : placeOk (4294967296 * (1 + x1) + (1 + x2)) = true := (placeOk_iff _).2 (by omega)
    have heo : epochOf (4294967296 * (1 + x1) + (1 + x2)) = 1 + x1 := by rw [epochOf, if_pos hpo]; omega
    have w3 : wrap64 (epochOf (4294967296 * (1 + x1) + (1 + x2)) + 1) = epochOf (4294967296 * (1 + x1) + (1 + x2)) + 1 := w64 (by omega) (by omega)
    have w4 : wrap64 (epochOf (4294967296 * (1 + x1) + (1 + x2)) + 1 + x5) = epochOf (4294967296 * (1 + x1) + (1 + x2)) + 1 + x5 := w64 (by omega) (by omega)
    cases o6 with
    | true =>
      rw [if_pos rfl]
      exact ⟨_, _, _, _, _, _, rfl, wfa, wf_add64 _, by decide, b6.1, b6.2, hpl, .inr ⟨by rw [w3, w4]; omega, by rw [w3, w4]; omega, fun _ => ByteArray.toList_eq _⟩⟩
    | false =>
      rw [if_neg Bool.false_ne_true]
      exact ⟨_, _, _, _, _, _, rfl, wfa, wf_add64 _, hs4, b6.1, b6.2, hpl, .inr ⟨by rw [w3, w4]; omega, by rw [w3, w4]; omega, fun hh => absurd hh Bool.false_ne_true⟩⟩
  | false =>
    rw [if_neg Bool.false_ne_true]
    exact ⟨_, _, _, _, _, _, rfl, wfa, by decide, hs4, b4.1, b4.2, hpl, .inl ⟨rfl, rfl⟩⟩

/-! drawplc -/
theorem l1DrawPlace_f (b : List Int) (i h : Int) (h0 : 0 ≤ i) (h1 : i ≤ b.length) (hb : b.length < 4611686018427387904) : ∃ x i' h', spec_l1DrawPlace.f b i h = some (x, i', h') ∧ (Lit.int .i64 x).wf = true ∧ 0 ≤ i' ∧ i' ≤ b.length := by
  obtain ⟨x1, i1, g1, e1, b1⟩ := l1Below_f b i h 3 h0 h1 hb
  obtain ⟨x2, i2, g2, e2, b2⟩ := l1Below_f b i1 g1 6 b1.2.2.2.2.1 b1.2.2.2.2.2 hb
  have k1 := b1.2.1 (by omega)
  have k2 := b2.2.1 (by omega)
  have w1 : wrap64 (1 + x1) = 1 + x1 := w64 (by omega) (by omega)
  have w2 : wrap64 (1 + x2) = 1 + x2 := w64 (by omega) (by omega)
  have p := l1Place_f (1 + x1) (1 + x2) (by omega) (by omega)
  obtain ⟨x3, i3, g3, e3, b3⟩ := l1Below_f b i2 g2 15 b2.2.2.2.2.1 b2.2.2.2.2.2 hb
  unfold spec_l1DrawPlace.f
  simp only [e1, e2, w1, w2, p, e3, Option.bind_some]
  by_cases c0 : x3 = 0
  · obtain ⟨x4, i4, g4, e4, hx, b4⟩ := l1PickInt_f b i3 g3 [0, (-1), 4294967296, 4294967297, 9223372036854775807, (-9223372036854775808)] (by decide) (by decide) b3.2.2.2.2.1 b3.2.2.2.2.2 hb
    rw [if_pos c0, e4, Option.bind_some]
    refine ⟨_, _, _, rfl, ?_, b4⟩
    simp only [List.mem_cons, List.not_mem_nil, or_false] at hx
    apply wf_mk64 <;> omega
  rw [if_neg c0]
  by_cases c1 : x3 = 1
  · obtain ⟨x4, i4, g4, e4, hx, b4⟩ := l1PickInt_f b i3 g3 [0, 30, 31] (by decide) (by decide) b3.2.2.2.2.1 b3.2.2.2.2.2 hb
    obtain ⟨x5, i5, g5, e5, hy, b5⟩ := l1PickInt_f b i4 g4 [0, 60, 61] (by decide) (by decide) b4.1 b4.2 hb
    simp only [List.mem_cons, List.not_mem_nil, or_false] at hx hy
    rw [if_pos c1]
    simp only [e4, e5, Option.bind_some]
    rw [l1Place_f x4 x5 (by omega) (by omega), Option.bind_some]
    refine ⟨_, _, _, rfl, ?_, b5⟩
    apply wf_mk64 <;> omega
  rw [if_neg c1]
  refine ⟨_, _, _, rfl, ?_, b3.2.2.2.2⟩
  apply wf_mk64 <;> omega

/-! drawentry -/
theorem strOfNums_size (n : Nat) : (strOfNums (List.replicate n 0)).size = n := by simp [strOfNums, ByteArray.size]
theorem l3Draw_f (b : List Int) (i h : Int) (h0 : 0 ≤ i) (h1 : i ≤ b.length) (hb : b.length < 4611686018427387904) : ∃ a w hl s i' h', spec_l3Draw.f b i h = some (a, w, hl, s, i', h') ∧ (Lit.int .i64 a).wf = true ∧ (Lit.int .i64 w).wf = true ∧ s.size ≤ 41 ∧ 0 ≤ i' ∧ i' ≤ b.length := by
  obtain ⟨a, w, hl, s, i1, g1, e1, wa, ww, hs, b10, b11, _⟩ := l3DrawRight_f b i h h0 h1 hb
  obtain ⟨x2, i2, g2, e2, b2⟩ := l1Below_f b i1 g1 15 b10 b11 hb
  unfold spec_l3Draw.f
  simp only [e1, e2, Option.bind_some]
  by_cases c0 : x2 = 0
  · obtain ⟨x3, i3, g3, e3, w3, b3⟩ := l1DrawPlace_f b i2 g2 b2.2.2.2.2.1 b2.2.2.2.2.2 hb
    rw [if_pos c0, e3, Option.bind_some]
    exact ⟨_, _, _, _, _, _, rfl, w3, ww, by omega, b3.1, b3.2⟩
  rw [if_neg c0]
  by_cases c1 : x2 = 1
  · obtain ⟨x3, i3, g3, e3, hx, b3⟩ := l1PickInt_f b i2 g2 [(-1), 1, 30, 31] (by decide) (by decide) b2.2.2.2.2.1 b2.2.2.2.2.2 hb
    rw [if_pos c1, e3, Option.bind_some]
    simp only [List.mem_cons, List.not_mem_nil, or_false] at hx
    exact ⟨_, _, _, _, _, _, rfl, wa, by apply wf_mk64 <;> omega, by omega, b3.1, b3.2⟩
  rw [if_neg c1]
  by_cases c2 : x2 = 2
  · rw [if_pos c2]
    exact ⟨_, _, _, _, _, _, rfl, wa, ww, by omega, b2.2.2.2.2.1, b2.2.2.2.2.2⟩
  rw [if_neg c2]
  by_cases c3 : x2 = 3
  · obtain ⟨x3, i3, g3, e3, b3⟩ := l1Below_f b i2 g2 2 b2.2.2.2.2.1 b2.2.2.2.2.2 hb
    have k3 := b3.2.1 (by omega)
    have w3 : wrap64 (40 + x3) = 40 + x3 := w64 (by omega) (by omega)
    rw [if_pos c3, e3, Option.bind_some]
    simp only [w3]
    rw [if_pos (by omega), if_pos (by omega)]
    exact ⟨_, _, _, _, _, _, rfl, wa, ww, by rw [strOfNums_size]; omega, b3.2.2.2.2.1, b3.2.2.2.2.2⟩
  rw [if_neg c3]
  exact ⟨_, _, _, _, _, _, rfl, wa, ww, by omega, b2.2.2.2.2.1, b2.2.2.2.2.2⟩

/-! drawnew -/
theorem l1New_l0 (b : List Int) (hb : b.length < 4611686018427387904) : ∀ i, i ≤ b.length → ∀ h : Int, ∃ h', Ev (fun k => spec_l1New.l0 k b h (i : Int)) (b, 0, h') := by
  refine down b.length ?_ ?_
  · intro h
    exact ⟨h, Ev.step (f := fun _ => some (b, 0, h)) (fun k => by rw [spec_l1New.l0, if_neg (by omega)]) (Ev.now _)⟩
  · intro i hi ih h
    by_cases c : (i : Int) < 4000
    · obtain ⟨h', e⟩ := ih (Go.bits .and .i64 (wrap64 ((wrap64 ((wrap64 (h * 131)) + (wrap64 (rd b i)))) + 7)) 1073741823)
      exact ⟨h', Ev.step (f := fun k => spec_l1New.l0 k b (Go.bits .and .i64 (wrap64 ((wrap64 ((wrap64 (h * 131)) + (wrap64 (rd b i)))) + 7)) 1073741823) ((i + 1 : Nat) : Int)) (fun k => by rw [spec_l1New.l0, if_pos (by omega), if_pos c, if_pos (by omega), wsucc i (by omega)]) e⟩
    · exact ⟨h, Ev.step (f := fun _ => some (b, 0, h)) (fun k => by rw [spec_l1New.l0, if_pos (by omega), if_neg c]) (Ev.now _)⟩
theorem l1New_f (b : List Int) (hb : b.length < 4611686018427387904) : ∃ h', Ev (fun k => spec_l1New.f k b) (b, 0, h') := by
  obtain ⟨h', e⟩ := l1New_l0 b hb 0 (by omega) (wrap64 (17817 + (b.length : Int)))
  exact ⟨h', Ev.congr (fun k => by rw [spec_l1New.f]; rfl) e⟩

/-! entokm -/
def entryOk (a w : Int) (h : Bool) (s : ByteArray) : Bool := decide (placeOk a = true ∧ 0 ≤ w ∧ w ≤ 30 ∧ (w = 0 ∨ epochOf a < w) ∧ s.size ≤ 40 ∧ (h = true → 0 < w ∧ s.toList = []))

/-! sentok -/
theorem spec_EntryOk_f (a w : Int) (h : Bool) (s : ByteArray) (ha : (Lit.int .i64 a).wf = true) : spec_EntryOk.f a w h s = some (entryOk a w h s) := by
  have he := epochOf_bd a
  unfold spec_EntryOk.f entryOk
  rw [spec_PlaceOk_f a ha, spec_EpochOf_f a ha]
  simp only [Option.bind_some, spec_l1In_f]
  by_cases h1 : placeOk a = true
  · by_cases h2 : 0 ≤ w ∧ w ≤ 30
    · by_cases h3 : w > 0
      · by_cases h4 : w ≤ epochOf a
        · simp [h1, h2, h3, h4]; omega
        · by_cases h5 : (s.size : Int) > 40
          · simp [h1, h2, h3, h4, h5]; omega
          · have h5' : s.size ≤ 40 := by omega
            have h4' : epochOf a < w := by omega
            by_cases h6 : s.toList = [] <;> cases h <;> simp [h1, h2, h3, h4, h4', h5, h5', h6]
      · have h3' : w = 0 := by omega
        subst h3'
        by_cases h5 : (s.size : Int) > 40
        · simp [h1, h5]; omega
        · have h5' : s.size ≤ 40 := by omega
          cases h <;> simp [h1, h5, h5']
    · simp [h1, h2]; omega
  · simp [h1]

/-! pnumm -/
def pnum (x : Nat) : List Int := if 127 < x then ((x % 128 + 128 : Nat) : Int) :: pnum (x / 128) else [(x : Int)]
termination_by x
decreasing_by omega
def putNum (x : Int) : List Int := if x < 0 then [] else pnum x.toNat
theorem pnum_big (x : Nat) (h : 127 < x) : pnum x = ((x % 128 + 128 : Nat) : Int) :: pnum (x / 128) := by rw [pnum, if_pos h]
theorem pnum_small (x : Nat) (h : ¬ 127 < x) : pnum x = [(x : Int)] := by rw [pnum, if_neg h]
theorem pnum_bd (x : Nat) : ∀ c ∈ pnum x, 0 ≤ c ∧ c ≤ 255 := by
  induction x using Nat.strongRecOn with
  | ind x ih =>
    intro c hc
    by_cases h : 127 < x
    · rw [pnum_big x h] at hc
      rcases List.mem_cons.1 hc with rfl | hc
      · omega
      · exact ih (x / 128) (by omega) c hc
    · rw [pnum_small x h] at hc
      have := List.mem_singleton.1 hc
      omega
theorem pnum_len (d : Nat) : ∀ x : Nat, x < 128 ^ (d + 1) → 1 ≤ (pnum x).length ∧ (pnum x).length ≤ d + 1 := by
  induction d with
  | zero => intro x hx; rw [pnum_small x (by omega)]; simp
  | succ d ih =>
    intro x hx
    by_cases h : 127 < x
    · rw [pnum_big x h]
      have := ih (x / 128) (by rw [Nat.div_lt_iff_lt_mul (by decide)]; rw [Nat.pow_succ] at hx; exact hx)
      simp; omega
    · rw [pnum_small x h]; simp
theorem pnum_len9 (x : Nat) (h : x < 9223372036854775808) : 1 ≤ (pnum x).length ∧ (pnum x).length ≤ 9 := pnum_len 8 x (by rw [p1289]; exact h)
theorem putNum_len (x : Int) (h : x ≤ 9223372036854775807) : (putNum x).length ≤ 9 := by
  unfold putNum
  by_cases h0 : x < 0
  · rw [if_pos h0]; simp
  · rw [if_neg h0]; exact (pnum_len9 x.toNat (by omega)).2
theorem putNum_wf (x : Int) : ∀ c ∈ putNum x, (Lit.int .u8 c).wf = true := by
  intro c hc
  unfold putNum at hc
  have : 0 ≤ c ∧ c ≤ 255 := by
    by_cases h0 : x < 0
    · rw [if_pos h0] at hc; simp at hc
    · rw [if_neg h0] at hc; exact pnum_bd _ c hc
  exact wf_mk8 this.1 this.2

/-! puttextm -/
def putText (s : ByteArray) : List Int := putNum (s.size : Int) ++ bytesOf s
theorem putText_len (s : ByteArray) (h : s.size ≤ 9223372036854775807) : (putText s).length ≤ 9 + s.size := by
  have := putNum_len (s.size : Int) (by omega)
  unfold putText
  rw [List.length_append, bytesOf_length]; omega

/-! entpackm -/
def entPack (a w : Int) (h : Bool) (s : ByteArray) : List Int := putNum a ++ putNum w ++ putNum (if h = true then 1 else 0) ++ putText s
def entPackO (a w : Int) (h : Bool) (s : ByteArray) : List Int × Bool := if entryOk a w h s = true then (entPack a w h s, true) else ([], false)
theorem entryOk_parts {a w : Int} {h : Bool} {s : ByteArray} (e : entryOk a w h s = true) : placeOk a = true ∧ 0 ≤ w ∧ w ≤ 30 ∧ s.size ≤ 40 := by
  have := of_decide_eq_true e
  exact ⟨this.1, this.2.1, this.2.2.1, this.2.2.2.2.1⟩
theorem flag_bd (h : Bool) : 0 ≤ (if h = true then (1 : Int) else 0) ∧ (if h = true then (1 : Int) else 0) ≤ 1 := by cases h <;> decide
theorem entPack_len (a w : Int) (h : Bool) (s : ByteArray) (ha : a ≤ 9223372036854775807) (hw : w ≤ 9223372036854775807) (hs : s.size ≤ 9223372036854775807) : (entPack a w h s).length ≤ 36 + s.size := by
  have h1 := putNum_len a ha
  have h2 := putNum_len w hw
  have h3 := putNum_len (if h = true then (1 : Int) else 0) (by have := (flag_bd h).2; omega)
  have h4 := putText_len s hs
  unfold entPack
  simp only [List.length_append]
  omega
theorem entPackO_len (a w : Int) (h : Bool) (s : ByteArray) (ha : a ≤ 9223372036854775807) : (entPackO a w h s).1.length ≤ 76 := by
  unfold entPackO
  split
  · rename_i e
    have hp := entryOk_parts e
    have := entPack_len a w h s ha (by omega) (by omega)
    show (entPack a w h s).length ≤ 76
    omega
  · exact Nat.zero_le _

/-! spnum -/
theorem spec_PutNum_l0 (d : Nat) : ∀ (x : Nat) (out : List Int), x < 128 ^ (d + 1) → x < 9223372036854775808 → out.length + d < 140737488355328 → Ev (fun k => spec_PutNum.l0 k (x : Int) out) (out ++ pnum x) := by
  induction d with
  | zero =>
    intro x out hx hx' hl
    have hs : (x : Int) % 256 = x := by omega
    refine Ev.step (f := fun _ => some (out ++ [(x : Int)])) (fun k => ?_) (Evto ?_ (Ev.now _))
    · rw [spec_PutNum.l0, if_neg (by omega), if_pos (by omega), hs]
    · rw [pnum_small x (by omega)]
  | succ d ih =>
    intro x out hx hx' hl
    by_cases h : 127 < x
    · refine Ev.step (f := fun k => spec_PutNum.l0 k ((x / 128 : Nat) : Int) (out ++ [((x % 128 + 128 : Nat) : Int)])) (fun k => ?_) (Evto ?_ (ih (x / 128) (out ++ [((x % 128 + 128 : Nat) : Int)]) (by rw [Nat.div_lt_iff_lt_mul (by decide)]; rw [Nat.pow_succ] at hx; exact hx) (by omega) (by simp; omega)))
      · have e1 : wrap64 (Int.tdiv (x : Int) 128) = ((x / 128 : Nat) : Int) := by rw [Int.tdiv_eq_ediv_of_nonneg (by omega), w64 (by omega) (by omega)]; omega
        have e2 : (wrap64 (Int.tmod (x : Int) 128 + 128)) % 256 = ((x % 128 + 128 : Nat) : Int) := by rw [Int.tmod_eq_emod_of_nonneg (by omega), w64 (by omega) (by omega)]; omega
        rw [spec_PutNum.l0, if_pos (by omega), if_pos (by omega), e1, e2]
      · rw [pnum_big x h]; simp
    · have hs : (x : Int) % 256 = x := by omega
      refine Ev.step (f := fun _ => some (out ++ [(x : Int)])) (fun k => ?_) (Evto ?_ (Ev.now _))
      · rw [spec_PutNum.l0, if_neg (by omega), if_pos (by omega), hs]
      · rw [pnum_small x h]
theorem spec_PutNum_f (x : Int) (hx : x ≤ 9223372036854775807) : Ev (fun k => spec_PutNum.f k x) (putNum x) := by
  unfold putNum
  by_cases h0 : x < 0
  · rw [if_pos h0]
    exact Ev.congr (f := fun _ => some []) (fun k => by simp only [spec_PutNum.f, Option.bind_some]; rw [if_pos h0]) (Ev.now _)
  · rw [if_neg h0]
    obtain ⟨n, rfl⟩ := Int.eq_ofNat_of_zero_le (show 0 ≤ x by omega)
    exact Ev.congr (f := fun k => spec_PutNum.l0 k (n : Int) []) (fun k => by simp only [spec_PutNum.f, Option.bind_some]; rw [if_neg h0]) (spec_PutNum_l0 8 n [] (by rw [p1289]; omega) (by omega) (by simp))

/-! sputtext -/
theorem spec_PutText_f (s : ByteArray) (h : s.size < 140737488355000) : Ev (fun k => spec_PutText.f k s) (putText s) := by
  have hl := putNum_len (s.size : Int) (by omega)
  unfold spec_PutText.f
  exact Evbind (spec_PutNum_f (s.size : Int) (by omega)) (Evpos (by omega) (Ev.now _))

/-! sentpack -/
theorem spec_l3Bit_f (h : Bool) : spec_l3Bit.f h = some (if h = true then 1 else 0) := by cases h <;> rfl
theorem spec_l3Pack_f (a w : Int) (h : Bool) (s : ByteArray) (ha : a ≤ 9223372036854775807) (hw : w ≤ 9223372036854775807) (hs : s.size ≤ 1000000) : Ev (fun k => spec_l3Pack.f k a w h s) (entPack a w h s) := by
  have h1 := putNum_len a ha
  have h2 := putNum_len w hw
  have hf := flag_bd h
  have h3 := putNum_len (if h = true then (1 : Int) else 0) (by omega)
  have h4 := putText_len s (by omega)
  unfold spec_l3Pack.f entPack
  refine Evbind (spec_PutNum_f a ha) (Evbind (spec_PutNum_f w hw) (Evpos (by omega) (Evsome (f := fun k y => _) ?_)))
  refine Evbind (Evconst (spec_l3Bit_f h)) (Evbind (spec_PutNum_f _ (by omega)) ?_)
  refine Evpos (by rw [List.length_append]; omega) (Evsome (f := fun k y => _) ?_)
  refine Evbind (spec_PutText_f s (by omega)) (Evpos (by rw [List.length_append, List.length_append]; omega) (Ev.now _))

/-! entpackwf -/
theorem putText_wf (s : ByteArray) : ∀ c ∈ putText s, (Lit.int .u8 c).wf = true := by
  intro c hc
  rcases List.mem_append.1 hc with h | h
  · exact putNum_wf _ c h
  · obtain ⟨u, _, rfl⟩ := List.mem_map.1 h
    have := u.toNat_lt
    exact wf_mk8 (by omega) (by omega)
theorem entPack_wf (a w : Int) (h : Bool) (s : ByteArray) : ∀ c ∈ entPack a w h s, (Lit.int .u8 c).wf = true := by
  intro c hc
  unfold entPack at hc
  simp only [List.mem_append] at hc
  rcases hc with ((hc | hc) | hc) | hc
  · exact putNum_wf _ c hc
  · exact putNum_wf _ c hc
  · exact putNum_wf _ c hc
  · exact putText_wf _ c hc
theorem mod8 (x : Int) : (Lit.int .u8 (x % 256)).wf = true := wf_mk8 (by omega) (by omega)

/-! drawentread -/
theorem DrawEntryRead_f (b : List Int) (hb : b.length < 4611686018427387904) : ∃ raw p, Ev (fun k => spec_DrawEntryRead.f k b) (raw, p) ∧ raw.length ≤ 1000 ∧ (∀ c ∈ raw, (Lit.int .u8 c).wf = true) ∧ (Lit.int .i64 p).wf = true := by
  obtain ⟨h, eh⟩ := l1New_f b hb
  obtain ⟨a, w, hl, s, i1, h1, e1, ha, hw, hs, hi1, hi1', _⟩ := l3DrawRight_f b 0 h (by omega) (by omega) hb
  have hba := wf64 ha
  have hbw := wf64 hw
  have hlen := entPack_len a w hl s (by omega) (by omega) (by omega)
  have hy : ([9] ++ entPack a w hl s).length ≤ 100 := by rw [List.length_append, List.length_singleton]; omega
  have hyw : ∀ c ∈ [9] ++ entPack a w hl s, (Lit.int .u8 c).wf = true := by
    intro c hc
    rcases List.mem_append.1 hc with hc | hc
    · rw [List.mem_singleton.1 hc]; decide
    · exact entPack_wf _ _ _ _ c hc
  have hy0 : 0 < ([9] ++ entPack a w hl s).length := by rw [List.length_append, List.length_singleton]; omega
  have start : ∀ {raw p}, Ev (fun k => (spec_l1Below.f b i1 h1 6).bind fun bt392 => (if bt392.1 = 0 then ((spec_l1Below.f b bt392.2.1 bt392.2.2 ((([9] ++ entPack a w hl s).length : Int))).bind fun bt395 => ((spec_l1PickInt.f b bt395.2.1 bt395.2.2 (([0, 1, 2, 127, 128, 255] : List Int))).bind fun bt401 => (if 0 ≤ bt395.1 then (if bt395.1 < (([9] ++ entPack a w hl s).length : Int) then (some ((([9] ++ entPack a w hl s).set (bt395.1 : Int).toNat ((bt401.1) % 256)), 1)) else (none)) else (none)))) else (if bt392.1 = 1 then ((spec_l1Below.f b bt392.2.1 bt392.2.2 (wrap64 ((([9] ++ entPack a w hl s).length : Int) + 1))).bind fun bt405 => (if 0 ≤ bt405.1 then (if bt405.1 ≤ (([9] ++ entPack a w hl s).length : Int) then (some ((([9] ++ entPack a w hl s).take (bt405.1 : Int).toNat), 1)) else (none)) else (none))) else (if bt392.1 = 2 then ((spec_l1PickInt.f b bt392.2.1 bt392.2.2 (([(-1), 0, (([9] ++ entPack a w hl s).length : Int)] : List Int))).bind fun bt414 => (some (([9] ++ entPack a w hl s), bt414.1))) else (some (([9] ++ entPack a w hl s), (1 : Int))))))) (raw, p) → Ev (fun k => spec_DrawEntryRead.f k b) (raw, p) := by
    intro raw p e
    unfold spec_DrawEntryRead.f
    refine Evbind eh (Evsome (f := fun k y => _) ?_)
    refine Evbind (Evconst e1) (Evbind (spec_l3Pack_f a w hl s (by omega) (by omega) (by omega)) (Evpos (by show 1 + (entPack a w hl s).length < _; omega) (Evsome (f := fun k y => _) ?_)))
    exact e
  generalize [9] ++ entPack a w hl s = Y at *
  obtain ⟨x, i2, h2, e2, hx0, hx6, _, _, hi2, hi2'⟩ := l1Below_f b i1 h1 6 hi1 hi1' hb
  by_cases c0 : x = 0
  · obtain ⟨j, i3, h3, e3, hj0, hj, _, _, hi3, hi3'⟩ := l1Below_f b i2 h2 (Y.length : Int) hi2 hi2' hb
    obtain ⟨v, i4, h4, e4, _, _, _⟩ := l1PickInt_f b i3 h3 [0, 1, 2, 127, 128, 255] (by simp) (by simp) hi3 hi3' hb
    have hj' := hj (by omega)
    refine ⟨Y.set j.toNat (v % 256), 1, ?_, by rw [List.length_set]; omega, ?_, by decide⟩
    · refine start ?_
      refine Evbind (Evconst e2) ?_
      refine Evpos c0 ?_
      refine Evbind (Evconst e3) ?_
      refine Evbind (Evconst e4) ?_
      refine Evpos hj0 ?_
      refine Evpos hj' ?_
      exact Ev.now _
    intro c hc
    rcases List.mem_or_eq_of_mem_set hc with hc | hc
    · exact hyw c hc
    · rw [hc]; exact mod8 _
  · by_cases c1 : x = 1
    · obtain ⟨j, i3, h3, e3, hj0, hj, _, _, hi3, hi3'⟩ := l1Below_f b i2 h2 ((Y.length : Int) + 1) hi2 hi2' hb
      have hj' := hj (by omega)
      have e3' : spec_l1Below.f b i2 h2 (wrap64 ((Y.length : Int) + 1)) = some (j, i3, h3) := by rw [show wrap64 ((Y.length : Int) + 1) = (Y.length : Int) + 1 from w64 (by omega) (by omega)]; exact e3
      refine ⟨Y.take j.toNat, 1, ?_, by rw [List.length_take]; omega, fun c hc => hyw c (List.mem_of_mem_take hc), by decide⟩
      refine start ?_
      refine Evbind (Evconst e2) ?_
      refine Evneg c0 ?_
      refine Evpos c1 ?_
      refine Evbind (Evconst e3') ?_
      refine Evpos hj0 ?_
      refine Evpos (by show j ≤ _; omega) ?_
      exact Ev.now _
    · by_cases c2 : x = 2
      · obtain ⟨v, i4, h4, e4, hv, _, _⟩ := l1PickInt_f b i2 h2 [(-1), 0, (Y.length : Int)] (by simp) (by simp) hi2 hi2' hb
        refine ⟨Y, v, ?_, by omega, hyw, ?_⟩
        · refine start ?_
          refine Evbind (Evconst e2) ?_
          refine Evneg c0 ?_
          refine Evneg c1 ?_
          refine Evpos c2 ?_
          refine Evbind (Evconst e4) ?_
          exact Ev.now _
        simp only [List.mem_cons, List.not_mem_nil, or_false] at hv
        exact wf_mk64 (by omega) (by omega)
      · refine ⟨Y, 1, ?_, by omega, hyw, by decide⟩
        refine start ?_
        refine Evbind (Evconst e2) ?_
        refine Evneg c0 ?_
        refine Evneg c1 ?_
        refine Evneg c2 ?_
        exact Ev.now _

/-! iplace -/
theorem impl_PlaceOk_f (x : Int) (h : (Lit.int .i64 x).wf = true) : impl_PlaceOk.f x = some (placeOk x) := by
  have hb := wf64 h
  unfold impl_PlaceOk.f
  simp only [impl_isEpoch_f, impl_isOff_f, Option.bind_some, decide_eq_true_eq]
  have ht := tdm x
  rw [w64 (n := Int.tdiv x 4294967296) (by omega) (by omega)]
  by_cases h2 : 1 ≤ Int.tdiv x 4294967296 ∧ Int.tdiv x 4294967296 ≤ 30
  · rw [if_pos h2]; congr 1; exact decide_eq_decide.2 (by omega)
  · rw [if_neg h2]; congr 1; symm; exact decide_eq_false (by omega)

/-! iepoch -/
theorem impl_EpochOf_f (x : Int) (h : (Lit.int .i64 x).wf = true) : impl_EpochOf.f x = some (epochOf x) := by
  unfold impl_EpochOf.f epochOf
  rw [impl_PlaceOk_f x h, Option.bind_some]
  by_cases hp : placeOk x = true
  · rw [if_pos hp, if_pos hp, placeOk_div x hp]
  · rw [if_neg hp, if_neg hp]

/-! ientok -/
theorem impl_EntryOk_f (a w : Int) (h : Bool) (s : ByteArray) (ha : (Lit.int .i64 a).wf = true) : impl_EntryOk.f a w h s = some (entryOk a w h s) := by
  have he := epochOf_bd a
  unfold impl_EntryOk.f entryOk impl_dataOk.f
  rw [impl_PlaceOk_f a ha, impl_EpochOf_f a ha]
  simp only [Option.bind_some, impl_within_f]
  by_cases h2 : 0 ≤ w ∧ w ≤ 30
  · by_cases h1 : placeOk a = true
    · by_cases h3 : w = 0
      · subst h3
        by_cases h5 : s.size ≤ 40
        · have h5' : (s.size : Int) ≤ 40 := by omega
          cases h <;> simp [h1, h5, h5']
        · have h5' : ¬ (s.size : Int) ≤ 40 := by omega
          cases h <;> simp [h1, h5, h5']
      · by_cases h4 : w > epochOf a
        · have h0 : w > 0 := by omega
          by_cases h5 : s.size ≤ 40
          · have h5' : (s.size : Int) ≤ 40 := by omega
            by_cases h6 : s.toList = [] <;> cases h <;> simp [h1, h2, h3, h4, h5, h5', h6, h0]
          · have h5' : ¬ (s.size : Int) ≤ 40 := by omega
            by_cases h6 : s.toList = [] <;> cases h <;> simp [h1, h2, h3, h4, h5, h5', h6, h0]
        · have h0 : w > 0 := by omega
          cases h <;> simp [h1, h2, h3, h4, h0]
    · cases h <;> by_cases h3 : w = 0 <;> simp [h1, h2, h3]
  · have h2' : ¬ (0 ≤ w ∧ w ≤ 30) := h2
    have : ¬ (placeOk a = true ∧ 0 ≤ w ∧ w ≤ 30 ∧ (w = 0 ∨ epochOf a < w) ∧ s.size ≤ 40 ∧ (h = true → 0 < w ∧ s.toList = [])) := fun hh => h2' ⟨hh.2.1, hh.2.2.1⟩
    rw [decide_eq_false this, decide_eq_false h2', if_neg (by decide)]
    cases h <;> by_cases h1 : placeOk a = true <;> by_cases h3 : w > 0 <;> simp [h1, h3]

/-! ipnum -/
theorem impl_PutNum_l0 (d : Nat) : ∀ (x : Nat) (out : List Int), x < 128 ^ (d + 1) → x < 9223372036854775808 → out.length + d < 140737488355328 → Ev (fun k => impl_PutNum.l0 k (x : Int) out) (out ++ pnum x) := by
  induction d with
  | zero =>
    intro x out hx hx' hl
    have hs : (x : Int) % 256 = x := by omega
    refine Ev.step (f := fun _ => some (out ++ [(x : Int)])) (fun k => ?_) (Evto ?_ (Ev.now _))
    · rw [impl_PutNum.l0, if_neg (by omega), if_pos (by omega), hs]
    · rw [pnum_small x (by omega)]
  | succ d ih =>
    intro x out hx hx' hl
    by_cases h : 127 < x
    · refine Ev.step (f := fun k => impl_PutNum.l0 k ((x / 128 : Nat) : Int) (out ++ [((x % 128 + 128 : Nat) : Int)])) (fun k => ?_) (Evto ?_ (ih (x / 128) (out ++ [((x % 128 + 128 : Nat) : Int)]) (by rw [Nat.div_lt_iff_lt_mul (by decide)]; rw [Nat.pow_succ] at hx; exact hx) (by omega) (by simp; omega)))
      · have e1 : (x : Int) / 128 = ((x / 128 : Nat) : Int) := by omega
        have e2 : (Go.bits .or .i64 (Go.bits .and .i64 (x : Int) 127) 128) % 256 = ((x % 128 + 128 : Nat) : Int) := by
          rw [and127 _ (by omega) (by omega), or_low 7 _ 128 (by omega) (by rw [p27]; omega) (by decide) (by decide) (by decide) (by omega)]; omega
        rw [impl_PutNum.l0, if_pos (by omega), if_pos (by omega), e1, e2]
      · rw [pnum_big x h]; simp
    · have hs : (x : Int) % 256 = x := by omega
      refine Ev.step (f := fun _ => some (out ++ [(x : Int)])) (fun k => ?_) (Evto ?_ (Ev.now _))
      · rw [impl_PutNum.l0, if_neg (by omega), if_pos (by omega), hs]
      · rw [pnum_small x h]
theorem impl_PutNum_f (x : Int) (hx : x ≤ 9223372036854775807) : Ev (fun k => impl_PutNum.f k x) (putNum x) := by
  unfold putNum
  by_cases h0 : x < 0
  · rw [if_pos h0]
    exact Ev.congr (f := fun _ => some []) (fun k => by simp only [impl_PutNum.f, Option.bind_some]; rw [if_pos h0]) (Ev.now _)
  · rw [if_neg h0]
    obtain ⟨n, rfl⟩ := Int.eq_ofNat_of_zero_le (show 0 ≤ x by omega)
    exact Ev.congr (f := fun k => impl_PutNum.l0 k (n : Int) []) (fun k => by simp only [impl_PutNum.f, Option.bind_some]; rw [if_neg h0]) (impl_PutNum_l0 8 n [] (by rw [p1289]; omega) (by omega) (by simp))

/-! iputtext -/
theorem impl_PutText_f (s : ByteArray) (h : s.size < 140737488355000) : Ev (fun k => impl_PutText.f k s) (putText s) := by
  have hl := putNum_len (s.size : Int) (by omega)
  unfold impl_PutText.f
  exact Evbind (impl_PutNum_f (s.size : Int) (by omega)) (Evpos (by omega) (Ev.now _))

/-! ientpack -/
theorem impl_flagNum_f (h : Bool) : impl_flagNum.f h = some (if h = true then 1 else 0) := by cases h <;> rfl
theorem impl_putNums_l0 (l : List Int) (hl : l.length ≤ 1000) (hx : ∀ x ∈ l, x ≤ 9223372036854775807) (d : Nat) : ∀ (i : Nat) (out : List Int), i + d = l.length → out.length ≤ 9 * i → Ev (fun k => impl_putNums.l0 k out l (l.length : Int) (i : Int)) (out ++ ((l.drop i).map putNum).flatten) := by
  induction d with
  | zero =>
    intro i out hi _
    have e : l.drop i = [] := List.drop_eq_nil_of_le (by omega)
    rw [e]
    refine Ev.step (f := fun _ => some out) (fun k => by rw [impl_putNums.l0, if_neg (by omega)]) ?_
    exact Evto (by simp) (Ev.now _)
  | succ d ih =>
    intro i out hi ho
    have hil : i < l.length := by omega
    have hm : l.getD i 0 ∈ l := by rw [getD_get l i hil]; exact List.getElem_mem hil
    have hv := hx _ hm
    have hp := putNum_len _ hv
    rw [drop_at l i hil]
    generalize hg : l.getD i 0 = v at *
    refine Ev.step (f := fun k => (impl_PutNum.f k v).bind fun t => (if out.length + t.length < 140737488355328 then (impl_putNums.l0 k (out ++ t) l (l.length : Int) (wrap64 ((i : Int) + 1))) else none)) (fun k => by rw [impl_putNums.l0, if_pos (by omega), if_pos (by omega), if_pos (by omega), rd_nat, hg]) ?_
    refine Evbind (impl_PutNum_f v hv) (Evpos (by omega) ?_)
    rw [wsucc i (by omega)]
    exact Evto (by simp [List.append_assoc]) (ih (i + 1) (out ++ putNum v) (by omega) (by rw [List.length_append]; omega))
theorem impl_putNums_f (l : List Int) (hl : l.length ≤ 1000) (hx : ∀ x ∈ l, x ≤ 9223372036854775807) : Ev (fun k => impl_putNums.f k l) (l.map putNum).flatten := by
  have := impl_putNums_l0 l hl hx l.length 0 [] (by omega) (by simp)
  exact Evto (by simp) this
theorem impl_EntryPack_f (a w : Int) (h : Bool) (s : ByteArray) (ha : (Lit.int .i64 a).wf = true) : Ev (fun k => impl_EntryPack.f k a w h s) (entPackO a w h s) := by
  unfold impl_EntryPack.f entPackO
  refine Evbind (Evconst (impl_EntryOk_f a w h s ha)) ?_
  by_cases e : entryOk a w h s = true
  · rw [if_pos e]
    have hp := entryOk_parts e
    have hb := wf64 ha
    have hf := flag_bd h
    have h1 := putNum_len a (by omega)
    have h2 := putNum_len w (by omega)
    have h3 := putNum_len (if h = true then (1 : Int) else 0) (by omega)
    have h4 := putText_len s (by omega)
    refine Evpos e (Evbind (Evconst (impl_flagNum_f h)) ?_)
    refine Evbind (impl_putNums_f [a, w, if h = true then 1 else 0] (by simp) ?_) ?_
    · intro x hx
      simp only [List.mem_cons, List.not_mem_nil, or_false] at hx
      rcases hx with rfl | rfl | rfl <;> omega
    · have el : ([a, w, if h = true then 1 else 0].map putNum).flatten = putNum a ++ putNum w ++ putNum (if h = true then 1 else 0) := by simp [List.append_assoc]
      rw [el]
      exact Evbind (impl_PutText_f s (by omega)) (Evpos (by simp only [List.length_append]; omega) (Ev.now _))
  · rw [if_neg e]
    exact Evneg e (Ev.now _)

/-! gnumm -/
def pw (i : Nat) : Int := 128 ^ i
def gnum : Nat → List Int → Nat → Int → Option (Int × Nat)
  | 0, _, _, _ => none
  | _ + 1, [], _, _ => none
  | d + 1, c :: t, i, x => if c < 128 then (if c = 0 ∧ 0 < i then none else some (x + c * pw i, i + 1)) else gnum d t (i + 1) (x + (c - 128) * pw i)
def numOut (at_ : Int) (o : Option (Int × Nat)) : Int × Int × Bool := match o with
  | none => (0, 0, false)
  | some (x, m) => (x, at_ + (m : Int), true)
def getNum (b : List Int) (at_ : Int) : Int × Int × Bool := if at_ < 0 then (0, 0, false) else numOut at_ (gnum 9 (b.drop at_.toNat) 0 0)
theorem pw_succ (i : Nat) : pw (i + 1) = 128 * pw i := by unfold pw; rw [Int.pow_succ, Int.mul_comm]
theorem pw_zero : pw 0 = 1 := rfl
theorem pw_pos (i : Nat) : 1 ≤ pw i := by
  induction i with
  | zero => rw [pw_zero]; decide
  | succ i ih => rw [pw_succ]; omega
theorem pw_le9 (d : Nat) : ∀ i, i + d = 9 → pw i * 1 ≤ 9223372036854775808 := by
  induction d with
  | zero => intro i hi; obtain rfl : i = 9 := by omega
            decide
  | succ d ih => intro i hi; have := ih (i + 1) (by omega); rw [pw_succ] at this; have := pw_pos i; omega
theorem digit_bd (c x : Int) (i : Nat) (hi : i < 9) (hc : 0 ≤ c) (hc' : c ≤ 127) (hx : 0 ≤ x) (hx' : x < pw i) : 0 ≤ c * pw i ∧ c * pw i < 9223372036854775808 ∧ 0 ≤ x + c * pw i ∧ x + c * pw i < pw (i + 1) ∧ x + c * pw i < 9223372036854775808 ∧ x < 9223372036854775808 ∧ pw i ≤ 9223372036854775807 := by
  have p := pw_pos i
  have e := pw_succ i
  have h1 : 0 ≤ c * pw i := Int.mul_nonneg hc (by omega)
  have h2 : c * pw i ≤ 127 * pw i := Int.mul_le_mul_of_nonneg_right hc' (by omega)
  have h3 := pw_le9 (8 - i) (i + 1) (by omega)
  generalize c * pw i = z at *
  omega

/-! sgnum -/
theorem spec_GetNum_l0 (b : List Int) (hb : b.length < 4611686018427387904) (hw : ∀ x ∈ b, (Lit.int .u8 x).wf = true) (a : Nat) (ha : a ≤ b.length) (d : Nat) : ∀ (i : Nat) (x : Int), i + d = 9 → 0 ≤ x → x < pw i →
    Ev (fun k => spec_GetNum.l0 k b (a : Int) x (wrap64 (pw i)) (i : Int)) (numOut a (gnum d (b.drop (a + i)) i x)) := by
  induction d with
  | zero =>
    intro i x hi hx hx'
    refine Ev.step (f := fun k => spec_GetNum.j2 k b (a : Int) x (wrap64 (pw i)) (i : Int) false) (fun k => ?_) (Ev.step (f := fun _ => some (0, 0, false)) (fun k => ?_) (Ev.now _))
    · rw [spec_GetNum.l0, if_neg (by omega)]
    · rw [spec_GetNum.j2, if_neg (by decide)]
  | succ d ih =>
    intro i x hi hx hx'
    have hws : wrap64 ((i : Int) + 1) = ((i + 1 : Nat) : Int) := wsucc i (by omega)
    have hbase : wrap64 ((a : Int) + i) = ((a + i : Nat) : Int) := by rw [w64 (by omega) (by omega)]; omega
    by_cases hj : a + i < b.length
    · have hc := wf8 (wf_getD b hw (a + i) hj)
      rw [drop_at b (a + i) hj]
      generalize hcv : b.getD (a + i) 0 = c at *
      have hi0 : (0 : Int) ≤ ((a + i : Nat) : Int) := by omega
      have hi1 : ((a + i : Nat) : Int) < (b.length : Int) := by omega
      have hcc : wrap64 c = c := w64 (by omega) (by omega)
      have hrd : rd b ((a + i : Nat) : Int) = c := by rw [rd_nat, hcv]
      refine Ev.step (f := fun k => spec_GetNum.j2 k b (a : Int) x (wrap64 (pw i)) (i : Int) true) (fun k => ?_) ?_
      · rw [spec_GetNum.l0, if_pos (by omega), hbase, decide_eq_true (by omega)]
      by_cases hlt : c < 128
      · have hn : wrap64 (((a + i : Nat) : Int) + 1) = (a : Int) + ((i + 1 : Nat) : Int) := by rw [w64 (by omega) (by omega)]; omega
        have hm : Int.tmod c 128 = c := by rw [Int.tmod_eq_emod_of_nonneg (by omega)]; omega
        have hpp := pw_pos i
        have hd := digit_bd c x i (by omega) (by omega) (by omega) hx hx'
        have hu : wrap64 (pw i) = pw i := w64 (by omega) hd.2.2.2.2.2.2
        have hp : wrap64 (c * pw i) = c * pw i := w64 (by omega) (by omega)
        have hs : wrap64 (x + c * pw i) = x + c * pw i := w64 (by omega) (by omega)
        by_cases hz : c = 0 ∧ 0 < i
        · have hz2 : (i : Int) > 0 := (natpos i).2 hz.2
          refine Ev.step (f := fun _ => some (0, 0, false)) (fun k => ?_) (Evto ?_ (Ev.now _))
          · rw [spec_GetNum.j2, if_pos rfl, hbase, if_pos hi0, if_pos hi1, hrd, hcc, if_pos hlt, if_pos hz.1, if_pos hz2]
          · rw [gnum, if_pos hlt, if_pos hz]; rfl
        · refine Ev.step (f := fun _ => some (x + c * pw i, (a : Int) + ((i + 1 : Nat) : Int), true)) (fun k => ?_) (Evto ?_ (Ev.now _))
          · rw [spec_GetNum.j2, if_pos rfl, hbase, if_pos hi0, if_pos hi1, hrd, hcc, if_pos hlt, hm, hu, hp, hs, hn]
            by_cases h0 : c = 0
            · rw [if_pos h0, if_neg (fun hh => hz ⟨h0, (natpos i).1 hh⟩)]
            · rw [if_neg h0]
          · rw [gnum, if_pos hlt, if_neg hz]; rfl
      · have hm : Int.tmod c 128 = c - 128 := by rw [Int.tmod_eq_emod_of_nonneg (by omega)]; omega
        have hpp := pw_pos i
        have hd := digit_bd (c - 128) x i (by omega) (by omega) (by omega) hx hx'
        have hq : pw i * 128 = pw (i + 1) := by rw [pw_succ, Int.mul_comm]
        have hx1 : 0 ≤ x + (c - 128) * pw i := hd.2.2.1
        have hx2 : x + (c - 128) * pw i < pw (i + 1) := hd.2.2.2.1
        have hx3 : i + 1 + d = 9 := by omega
        have hu : wrap64 (pw i) = pw i := w64 (by omega) hd.2.2.2.2.2.2
        have hp : wrap64 ((c - 128) * pw i) = (c - 128) * pw i := w64 (by omega) (by omega)
        have hs : wrap64 (x + (c - 128) * pw i) = x + (c - 128) * pw i := w64 (by omega) (by omega)
        refine Ev.step (f := fun k => spec_GetNum.l0 k b (a : Int) (x + (c - 128) * pw i) (wrap64 (pw (i + 1))) ((i + 1 : Nat) : Int)) (fun k => ?_) (Evto ?_ (ih (i + 1) _ hx3 hx1 hx2))
        · rw [spec_GetNum.j2, if_pos rfl, hbase, if_pos hi0, if_pos hi1, hrd, hcc, if_neg hlt, hm, hu, hp, hs, hq, hws]
        · rw [gnum, if_neg hlt]; rfl
    · refine Ev.step (f := fun k => spec_GetNum.j2 k b (a : Int) x (wrap64 (pw i)) (i : Int) false) (fun k => ?_) (Ev.step (f := fun _ => some (0, 0, false)) (fun k => ?_) (Evto ?_ (Ev.now _)))
      · rw [spec_GetNum.l0, if_pos (by omega), hbase, decide_eq_false (by omega)]
      · rw [spec_GetNum.j2, if_neg (by decide)]
      · rw [List.drop_eq_nil_of_le (by omega)]; rfl
theorem spec_GetNum_f (b : List Int) (hb : b.length < 4611686018427387904) (hw : ∀ x ∈ b, (Lit.int .u8 x).wf = true) (at_ : Int) : Ev (fun k => spec_GetNum.f k b at_) (getNum b at_) := by
  by_cases h0 : at_ < 0
  · refine Ev.congr (f := fun k => spec_GetNum.j0 k b at_ true) (fun k => by rw [spec_GetNum.f, if_pos h0]) (Ev.step (f := fun _ => some (0, 0, false)) (fun k => by rw [spec_GetNum.j0, if_pos rfl]) (Evto ?_ (Ev.now _)))
    rw [getNum, if_pos h0]
  · obtain ⟨a, rfl⟩ := Int.eq_ofNat_of_zero_le (show 0 ≤ at_ by omega)
    rw [getNum, if_neg h0, Int.toNat_natCast]
    by_cases h1 : a < b.length
    · refine Ev.congr (f := fun k => spec_GetNum.j0 k b (a : Int) false) (fun k => by rw [spec_GetNum.f, if_neg h0, decide_eq_false (by omega)]) (Ev.step (f := fun k => spec_GetNum.l0 k b (a : Int) 0 (wrap64 (pw 0)) ((0 : Nat) : Int)) (fun k => by rw [spec_GetNum.j0, if_neg (by decide), show wrap64 (pw 0) = 1 from by rw [pw_zero]; exact w64 (by decide) (by decide)]; rfl) ?_)
      exact spec_GetNum_l0 b hb hw a (by omega) 9 0 0 (by omega) (by omega) (by rw [pw_zero]; decide)
    · refine Ev.congr (f := fun k => spec_GetNum.j0 k b (a : Int) true) (fun k => by rw [spec_GetNum.f, if_neg h0, decide_eq_true (by omega)]) (Ev.step (f := fun _ => some (0, 0, false)) (fun k => by rw [spec_GetNum.j0, if_pos rfl]) (Evto ?_ (Ev.now _)))
      rw [List.drop_eq_nil_of_le (by omega)]; rfl

/-! gtextm -/
theorem gnum_bd (d : Nat) : ∀ (l : List Int) (i : Nat) (x : Int), i + d = 9 → 0 ≤ x → x < pw i → (∀ c ∈ l, (Lit.int .u8 c).wf = true) → ∀ v m, gnum d l i x = some (v, m) → 0 ≤ v ∧ v < 9223372036854775808 ∧ m ≤ i + l.length := by
  induction d with
  | zero => intro l i x _ _ _ _ v m h; rw [gnum] at h; exact absurd h (by simp)
  | succ d ih =>
    intro l i x hi hx hx' hw v m h
    match l, hw, h with
    | [], _, h => rw [gnum] at h; exact absurd h (by simp)
    | c :: t, hw, h =>
      have hc := wf8 (hw c (by simp))
      rw [gnum] at h
      by_cases h1 : c < 128
      · rw [if_pos h1] at h
        by_cases h2 : c = 0 ∧ 0 < i
        · rw [if_pos h2] at h; exact absurd h (by simp)
        · rw [if_neg h2] at h
          simp only [Option.some.injEq, Prod.mk.injEq] at h
          obtain ⟨rfl, rfl⟩ := h
          have hb := digit_bd c x i (by omega) (by omega) (by omega) hx hx'
          refine ⟨hb.2.2.1, hb.2.2.2.2.1, ?_⟩
          rw [List.length_cons]; omega
      · rw [if_neg h1] at h
        have hb := digit_bd (c - 128) x i (by omega) (by omega) (by omega) hx hx'
        have := ih t (i + 1) (x + (c - 128) * pw i) (by omega) hb.2.2.1 hb.2.2.2.1 (fun q hq => hw q (by simp [hq])) v m h
        refine ⟨this.1, this.2.1, ?_⟩
        rw [List.length_cons]; have := this.2.2; omega
theorem getNum_bd (b : List Int) (hw : ∀ c ∈ b, (Lit.int .u8 c).wf = true) (at_ : Int) (n p : Int) (h : getNum b at_ = (n, p, true)) : 0 ≤ n ∧ n < 9223372036854775808 ∧ 0 ≤ at_ ∧ at_ ≤ p ∧ p ≤ b.length := by
  unfold getNum at h
  by_cases h0 : at_ < 0
  · rw [if_pos h0] at h; exact absurd h (by simp)
  · rw [if_neg h0] at h
    cases hg : gnum 9 (b.drop at_.toNat) 0 0 with
    | none => rw [hg] at h; exact absurd h (by simp [numOut])
    | some q =>
      obtain ⟨v, m⟩ := q
      rw [hg] at h
      simp only [numOut, Prod.mk.injEq, and_true] at h
      obtain ⟨rfl, rfl⟩ := h
      have := gnum_bd 9 (b.drop at_.toNat) 0 0 (by omega) (by omega) (by rw [pw_zero]; decide) (fun c hc => hw c (List.mem_of_mem_drop hc)) v m hg
      have h3 := this.2.2
      rw [List.length_drop] at h3
      refine ⟨this.1, this.2.1, by omega, by omega, ?_⟩
      by_cases hl : at_.toNat ≤ b.length
      · omega
      · rw [List.drop_eq_nil_of_le (by omega)] at hg; rw [gnum] at hg; exact absurd hg (by simp)
def getText (b : List Int) (at_ : Int) : ByteArray × Int × Bool := match getNum b at_ with
  | (n, p, true) => if n > (b.length : Int) - p then (⟨#[]⟩, 0, false) else (strOfNums ((b.take (p + n).toNat).drop p.toNat), p + n, true)
  | (_, _, false) => (⟨#[]⟩, 0, false)

/-! sgtext -/
theorem spec_GetText_f (b : List Int) (hb : b.length ≤ 1048576) (hw : ∀ x ∈ b, (Lit.int .u8 x).wf = true) (at_ : Int) : Ev (fun k => spec_GetText.f k b at_) (getText b at_) := by
  unfold spec_GetText.f getText
  refine Evbind (spec_GetNum_f b (by omega) hw at_) ?_
  have hbd := getNum_bd b hw at_
  generalize getNum b at_ = R at *
  obtain ⟨n, p, ok⟩ := R
  cases ok with
  | false => exact Evneg Bool.false_ne_true (Ev.now _)
  | true =>
    have h := hbd n p rfl
    refine Evpos rfl ?_
    have e1 : wrap64 ((b.length : Int) - p) = (b.length : Int) - p := w64 (by omega) (by omega)
    simp only [e1]
    by_cases c : n > (b.length : Int) - p
    · exact Evto (if_pos c).symm (Evpos c (Ev.now _))
    · have e2 : wrap64 (p + n) = p + n := w64 (by omega) (by omega)
      simp only [e2]
      exact Evto (if_neg c).symm (Evneg c (Evpos (by omega) (Evpos (by omega) (Evpos (by omega) (Ev.now _)))))

/-! entreadm -/
def failE : Int × Int × Bool × ByteArray × Int × Bool := (0, 0, false, ⟨#[]⟩, 0, false)
def entryRead (b : List Int) (at_ : Int) : Int × Int × Bool × ByteArray × Int × Bool := match getNum b at_ with
  | (_, _, false) => failE
  | (a, p1, true) => match getNum b p1 with
    | (_, _, false) => failE
    | (w, p2, true) => match getNum b p2 with
      | (_, _, false) => failE
      | (h, p3, true) => if h > 1 then failE else match getText b p3 with
        | (_, _, false) => failE
        | (s, p4, true) => if entryOk a w (h == 1) s = true then (a, w, h == 1, s, p4, true) else failE

/-! sentread -/
theorem spec_EntryRead_f (b : List Int) (hb : b.length ≤ 1048576) (hw : ∀ x ∈ b, (Lit.int .u8 x).wf = true) (at_ : Int) : Ev (fun k => spec_EntryRead.f k b at_) (entryRead b at_) := by
  have hfail : ∀ p a w h, Ev (fun k => spec_EntryRead.j0 k b p a w h true 0 0 false (⟨#[]⟩ : ByteArray)) failE := by
    intro p a w h
    exact Ev.step (f := fun _ => some failE) (fun k => by rw [spec_EntryRead.j0, if_pos rfl]; rfl) (Ev.now _)
  unfold spec_EntryRead.f entryRead
  refine Evbind (spec_GetNum_f b (by omega) hw at_) ?_
  have hbd := getNum_bd b hw at_
  generalize getNum b at_ = R1 at *
  obtain ⟨a, p1, ok1⟩ := R1
  cases ok1 with
  | false => exact Evneg Bool.false_ne_true (Ev.now _)
  | true =>
    have h1 := hbd a p1 rfl
    refine Evpos rfl (Evbind (spec_GetNum_f b (by omega) hw p1) ?_)
    simp only
    generalize getNum b p1 = R2 at *
    obtain ⟨w, p2, ok2⟩ := R2
    cases ok2 with
    | false => exact Evneg Bool.false_ne_true (Ev.now _)
    | true =>
      refine Evpos rfl (Evbind (spec_GetNum_f b (by omega) hw p2) ?_)
      simp only
      generalize getNum b p2 = R3 at *
      obtain ⟨h, p3, ok3⟩ := R3
      cases ok3 with
      | false => exact Evneg Bool.false_ne_true (hfail _ _ _ _)
      | true =>
        refine Evpos rfl ?_
        by_cases hh : h > 1
        · simp only [if_pos hh, decide_eq_true hh]; exact hfail _ _ _ _
        · simp only [if_neg hh, decide_eq_false hh]
          refine Ev.step (fun k => by rw [spec_EntryRead.j0, if_neg Bool.false_ne_true]) ?_
          refine Evbind (spec_GetText_f b hb hw p3) ?_
          generalize getText b p3 = R4 at *
          obtain ⟨s, p4, ok4⟩ := R4
          cases ok4 with
          | false => exact Evneg Bool.false_ne_true (Ev.now _)
          | true =>
            refine Evpos rfl (Evbind (Evconst (spec_EntryOk_f a w (h == 1) s (wf_mk64 (by omega) (by omega)))) ?_)
            by_cases e : entryOk a w (h == 1) s = true
            · exact Evto (if_pos e).symm (Evpos e (Ev.now _))
            · exact Evto (if_neg e).symm (Evneg e (Ev.now _))

/-! ignum -/
theorem pow27 (i : Nat) : (2 : Int) ^ (7 * i) = pw i := by unfold pw; rw [Int.pow_mul]; rfl
theorem w7 (i : Nat) (hi : i < 9) : 0 ≤ wrap64 (7 * (i : Int)) := by rw [w64 (by omega) (by omega)]; omega
theorem wbase (a i n : Nat) (h : a + i < n) (hn : n < 4611686018427387904) : wrap64 ((a : Int) + i) = ((a + i : Nat) : Int) := by rw [w64 (by omega) (by omega)]; omega
theorem wnext (a i n : Nat) (h : a + i < n) (hn : n < 4611686018427387904) : wrap64 (((a + i : Nat) : Int) + 1) = (a : Int) + ((i + 1 : Nat) : Int) := by rw [w64 (by omega) (by omega)]; omega
theorem shl7 (c : Int) (i : Nat) (hi : i < 9) (h0 : 0 ≤ c * pw i) (h1 : c * pw i < 9223372036854775808) : shl .i64 c (wrap64 (7 * (i : Int))) = c * pw i := by
  have e1 : wrap64 (7 * (i : Int)) = ((7 * i : Nat) : Int) := by rw [w64 (by omega) (by omega)]; omega
  have e2 : IntKind.bits .i64 = 64 := rfl
  unfold shl
  rw [e1, Int.toNat_natCast, e2, Nat.min_eq_left (by omega), pow27, IntKind.wrap_i64]; omega
theorem impl_GetNum_l0 (b : List Int) (hb : b.length < 4611686018427387904) (hw : ∀ x ∈ b, (Lit.int .u8 x).wf = true) (a : Nat) (ha : (a : Int) ≤ 9223372036854775807) (d : Nat) : ∀ (i : Nat) (x : Int), i + d = 9 → 0 ≤ x → x < pw i →
    Ev (fun k => impl_GetNum.l0 k b (a : Int) x (i : Int)) (numOut a (gnum d (b.drop (a + i)) i x)) := by
  have hsub : wrap64 ((b.length : Int) - a) = (b.length : Int) - a := w64 (by omega) (by omega)
  induction d with
  | zero =>
    intro i x hi hx hx'
    refine Ev.step (f := fun k => impl_GetNum.j1 k b (a : Int) x (i : Int) false) (fun k => ?_) (Ev.step (f := fun _ => some (0, 0, false)) (fun k => ?_) (Ev.now _))
    · rw [impl_GetNum.l0, if_neg (by omega)]
    · rw [impl_GetNum.j1, if_neg (by decide)]
  | succ d ih =>
    intro i x hi hx hx'
    by_cases hj : a + i < b.length
    · have hi9 : i < 9 := by omega
      have hx3 : i + 1 + d = 9 := by omega
      have hi0 : (0 : Int) ≤ ((a + i : Nat) : Int) := by omega
      have hi1 : ((a + i : Nat) : Int) < (b.length : Int) := by omega
      have hbase := wbase a i b.length hj hb
      have hc := wf8 (wf_getD b hw (a + i) hj)
      rw [drop_at b (a + i) hj]
      generalize hcv : b.getD (a + i) 0 = c at *
      have hmc1 : c < 128 → c % 128 = c := by omega
      have hmc2 : ¬ c < 128 → c % 128 = c - 128 := by omega
      have hgt : c > 127 ↔ ¬ c < 128 := by omega
      have hi9' : (i : Int) < 9 := by omega
      have hlen : (i : Int) < (b.length : Int) - a := by omega
      have hc0 : 0 ≤ c := by omega
      have hc1 : c < 9223372036854775808 := by omega
      have hm0 : 0 ≤ c % 128 := by omega
      have hm1 : c % 128 ≤ 127 := by omega
      have hn := wnext a i b.length hj hb
      have hws : wrap64 ((i : Int) + 1) = ((i + 1 : Nat) : Int) := wsucc i (by omega)
      have hcc : wrap64 c = c := w64 (by omega) (by omega)
      have hrd : rd b ((a + i : Nat) : Int) = c := by rw [rd_nat, hcv]
      have h7 := w7 i hi9
      refine Ev.step (f := fun k => impl_GetNum.j1 k b (a : Int) x (i : Int) true) (fun k => ?_) ?_
      · rw [impl_GetNum.l0, if_pos hi9', hsub, decide_eq_true hlen]
      have hm : Go.bits .and .i64 c 127 = c % 128 := and127 c hc0 hc1
      have hd := digit_bd (c % 128) x i hi9 hm0 hm1 hx hx'
      have hsh : shl .i64 (c % 128) (wrap64 (7 * (i : Int))) = c % 128 * pw i := shl7 _ i hi9 hd.1 hd.2.1
      have hor : Go.bits .or .i64 x (c % 128 * pw i) = x + c % 128 * pw i := or_low (7 * i) _ _ hx (by rw [pow27]; exact hx') hd.1 hd.2.1 (by rw [pow27]; exact Int.mul_emod_left _ _) hd.2.2.2.2.2.1
      by_cases hlt : c < 128
      · replace hgt : ¬ c > 127 := fun h => hgt.1 h hlt
        have hmc : c % 128 = c := hmc1 hlt
        by_cases hz : c = 0 ∧ 0 < i
        · have hz2 : (i : Int) > 0 := (natpos i).2 hz.2
          refine Ev.step (f := fun _ => some (0, 0, false)) (fun k => ?_) (Evto ?_ (Ev.now _))
          · rw [impl_GetNum.j1, if_pos rfl, hbase, if_pos hi0, if_pos hi1, if_pos h7, hrd, hcc, if_neg hgt, if_pos hz2, if_pos hz.1]
          · rw [gnum, if_pos hlt, if_pos hz]; rfl
        · refine Ev.step (f := fun _ => some (x + c * pw i, (a : Int) + ((i + 1 : Nat) : Int), true)) (fun k => ?_) (Evto ?_ (Ev.now _))
          · rw [impl_GetNum.j1, if_pos rfl, hbase, if_pos hi0, if_pos hi1, if_pos h7, hrd, hcc, if_neg hgt, hm, hsh, hor, hn, hmc]
            by_cases h0 : (i : Int) > 0
            · rw [if_pos h0, if_neg (fun hh => hz ⟨hh, (natpos i).1 h0⟩)]
            · rw [if_neg h0]
          · rw [gnum, if_pos hlt, if_neg hz]; rfl
      · replace hgt : c > 127 := hgt.2 hlt
        have hmc : c % 128 = c - 128 := hmc2 hlt
        rw [hmc] at hd hsh hor
        have hx1 : 0 ≤ x + (c - 128) * pw i := hd.2.2.1
        have hx2 : x + (c - 128) * pw i < pw (i + 1) := hd.2.2.2.1
        refine Ev.step (f := fun k => impl_GetNum.l0 k b (a : Int) (x + (c - 128) * pw i) ((i + 1 : Nat) : Int)) (fun k => ?_) (Evto ?_ (ih (i + 1) _ hx3 hx1 hx2))
        · rw [impl_GetNum.j1, if_pos rfl, hbase, if_pos hi0, if_pos hi1, if_pos h7, hrd, hcc, if_pos hgt, hm, hmc, hsh, hor, hws]
        · rw [gnum, if_neg hlt]; rfl
    · refine Ev.step (f := fun k => impl_GetNum.j1 k b (a : Int) x (i : Int) false) (fun k => ?_) (Ev.step (f := fun _ => some (0, 0, false)) (fun k => ?_) (Evto ?_ (Ev.now _)))
      · rw [impl_GetNum.l0, if_pos (by omega), hsub, decide_eq_false (by omega)]
      · rw [impl_GetNum.j1, if_neg (by decide)]
      · rw [List.drop_eq_nil_of_le (by omega)]; rfl
theorem impl_GetNum_f (b : List Int) (hb : b.length < 4611686018427387904) (hw : ∀ x ∈ b, (Lit.int .u8 x).wf = true) (at_ : Int) (hat : (Lit.int .i64 at_).wf = true) : Ev (fun k => impl_GetNum.f k b at_) (getNum b at_) := by
  have hbd := wf64 hat
  by_cases h0 : at_ < 0
  · refine Ev.congr (f := fun _ => some (0, 0, false)) (fun k => by rw [impl_GetNum.f, if_pos h0]) (Evto ?_ (Ev.now _))
    rw [getNum, if_pos h0]
  · obtain ⟨a, rfl⟩ := Int.eq_ofNat_of_zero_le (show 0 ≤ at_ by omega)
    rw [getNum, if_neg h0, Int.toNat_natCast]
    refine Ev.congr (f := fun k => impl_GetNum.l0 k b (a : Int) 0 ((0 : Nat) : Int)) (fun k => by rw [impl_GetNum.f, if_neg h0]; rfl) ?_
    exact impl_GetNum_l0 b hb hw a (by omega) 9 0 0 (by omega) (by omega) (by rw [pw_zero]; decide)

/-! ireadtext -/
def numS (b : List Int) (at_ : Int) (bad : Bool) : Int × Int × Bool := if bad = true then (0, at_, true) else match getNum b at_ with
  | (n, p, true) => (n, p, false)
  | (_, _, false) => (0, at_, true)
theorem impl_reader_num_f (b : List Int) (hb : b.length ≤ 1048576) (hw : ∀ x ∈ b, (Lit.int .u8 x).wf = true) (at_ : Int) (hat : (Lit.int .i64 at_).wf = true) (bad : Bool) : Ev (fun k => impl_reader_num.f k b at_ bad) (numS b at_ bad) := by
  unfold impl_reader_num.f numS
  refine Evbind (impl_GetNum_f b (by omega) hw at_ hat) ?_
  cases bad with
  | true => exact Evto rfl (Evpos rfl (Ev.now ((0, at_, true) : Int × Int × Bool)))
  | false =>
    generalize getNum b at_ = R at *
    obtain ⟨n, p, ok⟩ := R
    cases ok with
    | false => exact Evto rfl (Evneg Bool.false_ne_true (Evneg Bool.false_ne_true (Ev.now ((0, at_, true) : Int × Int × Bool))))
    | true => exact Evto rfl (Evneg Bool.false_ne_true (Evpos rfl (Ev.now ((n, p, false) : Int × Int × Bool))))
theorem numS_bd (b : List Int) (hb : b.length ≤ 1048576) (hw : ∀ x ∈ b, (Lit.int .u8 x).wf = true) (at_ : Int) (bad : Bool) (n p : Int) (h : numS b at_ bad = (n, p, false)) : bad = false ∧ 0 ≤ n ∧ n < 9223372036854775808 ∧ 0 ≤ at_ ∧ at_ ≤ p ∧ p ≤ b.length ∧ getNum b at_ = (n, p, true) := by
  unfold numS at h
  cases bad with
  | true => rw [if_pos rfl] at h; exact absurd h (by simp)
  | false =>
    rw [if_neg Bool.false_ne_true] at h
    have hbd := getNum_bd b hw at_
    generalize getNum b at_ = R at *
    obtain ⟨n', p', ok⟩ := R
    cases ok with
    | false => exact absurd h (by simp)
    | true =>
      simp only [Prod.mk.injEq, and_true] at h
      obtain ⟨rfl, rfl⟩ := h
      have := hbd n' p' rfl
      exact ⟨rfl, this.1, this.2.1, this.2.2.1, this.2.2.2.1, this.2.2.2.2, rfl⟩
def textS (b : List Int) (at_ : Int) (bad : Bool) : ByteArray × Int × Bool := match numS b at_ bad with
  | (_, p, true) => (⟨#[]⟩, p, true)
  | (n, p, false) => if n > (b.length : Int) - p then (⟨#[]⟩, p, true) else (strOfNums ((b.take (p + n).toNat).drop p.toNat), p + n, false)
theorem impl_reader_text_f (b : List Int) (hb : b.length ≤ 1048576) (hw : ∀ x ∈ b, (Lit.int .u8 x).wf = true) (at_ : Int) (hat : (Lit.int .i64 at_).wf = true) (bad : Bool) : Ev (fun k => impl_reader_text.f k b at_ bad) (textS b at_ bad) := by
  unfold impl_reader_text.f textS
  refine Evbind (impl_reader_num_f b hb hw at_ hat bad) ?_
  have hbd := numS_bd b hb hw at_ bad
  generalize numS b at_ bad = R at *
  obtain ⟨n, p, q⟩ := R
  cases q with
  | true => exact Evpos rfl (Ev.now _)
  | false =>
    have h := hbd n p rfl
    refine Evneg Bool.false_ne_true ?_
    have e1 : wrap64 ((b.length : Int) - p) = (b.length : Int) - p := w64 (by omega) (by omega)
    simp only [e1]
    by_cases c : n > (b.length : Int) - p
    · exact Evto (if_pos c).symm (Evpos c (Ev.now _))
    · have e2 : wrap64 (p + n) = p + n := w64 (by omega) (by omega)
      have e3 : wrap64 (p + n - n) = p := by rw [show p + n - n = p by omega]; exact w64 (by omega) (by omega)
      simp only [e2, e3]
      exact Evto (if_neg c).symm (Evneg c (Evpos (by omega) (Evpos (by omega) (Evpos (by omega) (Ev.now _)))))

/-! ientread -/
theorem wf_zero : (Lit.int .i64 0).wf = true := by decide
theorem numS_wf (b : List Int) (hb : b.length ≤ 1048576) (hw : ∀ x ∈ b, (Lit.int .u8 x).wf = true) (at_ : Int) (hat : (Lit.int .i64 at_).wf = true) (bad : Bool) : (Lit.int .i64 (numS b at_ bad).1).wf = true ∧ (Lit.int .i64 (numS b at_ bad).2.1).wf = true := by
  unfold numS
  cases bad with
  | true => exact ⟨wf_zero, hat⟩
  | false =>
    rw [if_neg Bool.false_ne_true]
    have hbd := getNum_bd b hw at_
    generalize getNum b at_ = R at *
    obtain ⟨n, p, ok⟩ := R
    cases ok with
    | false => exact ⟨wf_zero, hat⟩
    | true =>
      have := hbd n p rfl
      show (Lit.int .i64 n).wf = true ∧ (Lit.int .i64 p).wf = true
      exact ⟨wf_mk64 (by omega) (by omega), wf_mk64 (by omega) (by omega)⟩
def flagS (b : List Int) (at_ : Int) (bad : Bool) : Bool × Int × Bool := if (numS b at_ bad).1 > 1 then (false, (numS b at_ bad).2.1, true) else ((numS b at_ bad).1 == 1, (numS b at_ bad).2.1, (numS b at_ bad).2.2)
theorem impl_reader_flag_f (b : List Int) (hb : b.length ≤ 1048576) (hw : ∀ x ∈ b, (Lit.int .u8 x).wf = true) (at_ : Int) (hat : (Lit.int .i64 at_).wf = true) (bad : Bool) : Ev (fun k => impl_reader_flag.f k b at_ bad) (flagS b at_ bad) := by
  unfold impl_reader_flag.f flagS
  have hc : Ev (fun k => impl_reader_count.f k b at_ bad 1) (if (numS b at_ bad).1 > 1 then (0, (numS b at_ bad).2.1, true) else ((numS b at_ bad).1, (numS b at_ bad).2.1, (numS b at_ bad).2.2)) := by
    unfold impl_reader_count.f
    refine Evbind (impl_reader_num_f b hb hw at_ hat bad) ?_
    by_cases c : (numS b at_ bad).1 > 1
    · exact Evto (if_pos c).symm (Evpos c (Ev.now _))
    · exact Evto (if_neg c).symm (Evneg c (Ev.now _))
  refine Evbind hc (Evto ?_ (Ev.now _))
  by_cases c : (numS b at_ bad).1 > 1
  · rw [if_pos c, if_pos c]; rfl
  · rw [if_neg c, if_neg c]
theorem flagS_wf (b : List Int) (hb : b.length ≤ 1048576) (hw : ∀ x ∈ b, (Lit.int .u8 x).wf = true) (at_ : Int) (hat : (Lit.int .i64 at_).wf = true) (bad : Bool) : (Lit.int .i64 (flagS b at_ bad).2.1).wf = true := by
  have := (numS_wf b hb hw at_ hat bad).2
  unfold flagS
  split <;> exact this
def entryS (b : List Int) (at_ : Int) (bad : Bool) : Int × Int × Bool × ByteArray × Int × Bool :=
  let n1 := numS b at_ bad
  let n2 := numS b n1.2.1 n1.2.2
  let n3 := flagS b n2.2.1 n2.2.2
  let n4 := textS b n3.2.1 n3.2.2
  if n4.2.2 = true then (0, 0, false, ⟨#[]⟩, n4.2.1, true) else if entryOk n1.1 n2.1 n3.1 n4.1 = true then (n1.1, n2.1, n3.1, n4.1, n4.2.1, n4.2.2) else (0, 0, false, ⟨#[]⟩, n4.2.1, true)
theorem impl_reader_entry_f (b : List Int) (hb : b.length ≤ 1048576) (hw : ∀ x ∈ b, (Lit.int .u8 x).wf = true) (at_ : Int) (hat : (Lit.int .i64 at_).wf = true) (bad : Bool) : Ev (fun k => impl_reader_entry.f k b at_ bad) (entryS b at_ bad) := by
  unfold impl_reader_entry.f entryS
  have w1 := numS_wf b hb hw at_ hat bad
  refine Evbind (impl_reader_num_f b hb hw at_ hat bad) ?_
  generalize numS b at_ bad = n1 at *
  refine Evbind (impl_reader_num_f b hb hw _ w1.2 _) ?_
  have w2 := numS_wf b hb hw n1.2.1 w1.2 n1.2.2
  simp only
  generalize numS b n1.2.1 n1.2.2 = n2 at *
  refine Evbind (impl_reader_flag_f b hb hw _ w2.2 _) ?_
  have w3 := flagS_wf b hb hw n2.2.1 w2.2 n2.2.2
  generalize flagS b n2.2.1 n2.2.2 = n3 at *
  refine Evbind (impl_reader_text_f b hb hw _ w3 _) ?_
  generalize textS b n3.2.1 n3.2.2 = n4 at *
  by_cases c : n4.2.2 = true
  · exact Evto (if_pos c).symm (Evpos c (Ev.now _))
  · refine Evto (if_neg c).symm (Evneg c (Evbind (Evconst (impl_EntryOk_f n1.1 n2.1 n3.1 n4.1 w1.1)) ?_))
    by_cases e : entryOk n1.1 n2.1 n3.1 n4.1 = true
    · exact Evto (if_pos e).symm (Evpos e (Ev.now _))
    · exact Evto (if_neg e).symm (Evneg e (Ev.now _))
theorem numS_bad (b : List Int) (p : Int) : numS b p true = (0, p, true) := rfl
theorem flagS_bad (b : List Int) (p : Int) : flagS b p true = (false, p, true) := rfl
theorem textS_bad (b : List Int) (p : Int) : textS b p true = (⟨#[]⟩, p, true) := rfl
theorem entryS_read (b : List Int) (at_ : Int) : (if (entryS b at_ false).2.2.2.2.2 = true then failE else ((entryS b at_ false).1, (entryS b at_ false).2.1, (entryS b at_ false).2.2.1, (entryS b at_ false).2.2.2.1, (entryS b at_ false).2.2.2.2.1, true)) = entryRead b at_ := by
  have ns : ∀ p R, getNum b p = R → numS b p false = (match R with | (n, q, true) => (n, q, false) | (_, _, false) => (0, p, true)) := by
    intro p R h; rw [numS, if_neg Bool.false_ne_true, h]
  rcases h1 : getNum b at_ with ⟨a, p1, ok1⟩
  have e1 := ns at_ _ h1
  cases ok1 with
  | false => simp [entryS, e1, numS_bad, flagS_bad, textS_bad, entryRead, h1]
  | true =>
    rcases h2 : getNum b p1 with ⟨w, p2, ok2⟩
    have e2 := ns p1 _ h2
    cases ok2 with
    | false => simp [entryS, e1, e2, numS_bad, flagS_bad, textS_bad, entryRead, h1, h2]
    | true =>
      rcases h3 : getNum b p2 with ⟨h, p3, ok3⟩
      have e3 := ns p2 _ h3
      cases ok3 with
      | false => simp [entryS, e1, e2, e3, flagS, textS_bad, entryRead, h1, h2, h3]
      | true =>
        by_cases hh : h > 1
        · simp [entryS, e1, e2, e3, flagS, textS_bad, entryRead, h1, h2, h3, hh]
        · have e3' : flagS b p2 false = (h == 1, p3, false) := by simp [flagS, e3, hh]
          rcases h4 : getNum b p3 with ⟨n, p4, ok4⟩
          have e4 := ns p3 _ h4
          cases ok4 with
          | false => simp [entryS, e1, e2, e3', textS, getText, e4, entryRead, h1, h2, h3, h4, hh]
          | true =>
            by_cases hn : n > (b.length : Int) - p4
            · simp [entryS, e1, e2, e3', textS, getText, e4, entryRead, h1, h2, h3, h4, hh, hn]
            · simp only [entryS, e1, e2, e3', textS, getText, e4, entryRead, h1, h2, h3, h4, if_neg hh, if_neg hn, if_neg Bool.false_ne_true]
              by_cases e : entryOk a w (h == 1) (strOfNums ((b.take (p4 + n).toNat).drop p4.toNat)) = true
              · simp [e]
              · simp [e]
theorem impl_EntryRead_f (b : List Int) (hb : b.length ≤ 1048576) (hw : ∀ x ∈ b, (Lit.int .u8 x).wf = true) (at_ : Int) (hat : (Lit.int .i64 at_).wf = true) : Ev (fun k => impl_EntryRead.f k b at_) (entryRead b at_) := by
  unfold impl_EntryRead.f
  refine Evbind (impl_reader_entry_f b hb hw at_ hat false) ?_
  rw [← entryS_read]
  by_cases c : (entryS b at_ false).2.2.2.2.2 = true
  · exact Evto (if_pos c).symm (Evpos c (Ev.now _))
  · exact Evto (if_neg c).symm (Evneg c (Ev.now _))

/-! numcanon -/
theorem gnum_canon (d : Nat) : ∀ (l : List Int) (i : Nat) (x v : Int) (m : Nat), (∀ c ∈ l, (Lit.int .u8 c).wf = true) → gnum d l i x = some (v, m) → ∃ n : Nat, m = i + (pnum n).length ∧ v = x + (n : Int) * pw i ∧ (0 < i → 0 < n) ∧ ∃ t, l = pnum n ++ t := by
  induction d with
  | zero => intro l i x v m _ h; rw [gnum] at h; exact absurd h (by simp)
  | succ d ih =>
    intro l i x v m hw h
    match l, hw, h with
    | [], _, h => rw [gnum] at h; exact absurd h (by simp)
    | c :: t, hw, h =>
      have hc := wf8 (hw c (by simp))
      obtain ⟨c, rfl⟩ := Int.eq_ofNat_of_zero_le hc.1
      rw [gnum] at h
      by_cases h1 : (c : Int) < 128
      · rw [if_pos h1] at h
        by_cases h2 : (c : Int) = 0 ∧ 0 < i
        · rw [if_pos h2] at h; exact absurd h (by simp)
        · rw [if_neg h2] at h
          simp only [Option.some.injEq, Prod.mk.injEq] at h
          refine ⟨c, ?_, h.1.symm, by omega, t, ?_⟩
          · rw [pnum_small c (by omega), ← h.2]; rfl
          · rw [pnum_small c (by omega)]; rfl
      · rw [if_neg h1] at h
        obtain ⟨n, e1, e2, e3, t', e4⟩ := ih t (i + 1) _ v m (fun q hq => hw q (by simp [hq])) h
        have hn := e3 (by omega)
        have hq : 127 < 128 * n + (c - 128) := by omega
        have q1 : (128 * n + (c - 128)) / 128 = n := by omega
        have q2 : (((128 * n + (c - 128)) % 128 + 128 : Nat) : Int) = (c : Int) := by omega
        have ep : pnum (128 * n + (c - 128)) = (c : Int) :: pnum n := by rw [pnum_big _ hq, q1, q2]
        refine ⟨128 * n + (c - 128), ?_, ?_, fun _ => by omega, t', ?_⟩
        · rw [ep, List.length_cons, e1]; omega
        · have q3 : ((128 * n + (c - 128) : Nat) : Int) = 128 * (n : Int) + ((c : Int) - 128) := by omega
          rw [q3, e2, pw_succ]
          generalize pw i = P
          generalize (n : Int) = N
          generalize (c : Int) - 128 = C
          rw [Int.add_mul, Int.add_assoc, Int.add_comm (C * P), Int.mul_comm 128 N, Int.mul_assoc]
        · rw [ep, e4]; rfl
theorem getNum_canon (b : List Int) (hw : ∀ c ∈ b, (Lit.int .u8 c).wf = true) (at_ n p : Int) (h : getNum b at_ = (n, p, true)) : 0 ≤ n ∧ ∃ t, b.drop at_.toNat = putNum n ++ t ∧ p = at_ + ((putNum n).length : Int) := by
  unfold getNum at h
  by_cases h0 : at_ < 0
  · rw [if_pos h0] at h; exact absurd h (by simp)
  · rw [if_neg h0] at h
    cases hg : gnum 9 (b.drop at_.toNat) 0 0 with
    | none => rw [hg] at h; exact absurd h (by simp [numOut])
    | some q =>
      obtain ⟨v, m⟩ := q
      rw [hg] at h
      simp only [numOut, Prod.mk.injEq, and_true] at h
      obtain ⟨rfl, rfl⟩ := h
      obtain ⟨k, e1, e2, _, t, e4⟩ := gnum_canon 9 _ 0 0 v m (fun c hc => hw c (List.mem_of_mem_drop hc)) hg
      rw [pw_zero, Int.mul_one, Int.zero_add] at e2
      subst e2
      have e : putNum (k : Int) = pnum k := by rw [putNum, if_neg (by omega)]; rfl
      refine ⟨by omega, t, by rw [e]; exact e4, ?_⟩
      rw [e, e1, Nat.zero_add]
theorem bytesOf_strOf (xs : List Int) (hw : ∀ c ∈ xs, (Lit.int .u8 c).wf = true) : bytesOf (strOfNums xs) = xs := by
  have e : ∀ x ∈ xs, (((UInt8.ofNat x.toNat).toNat : Nat) : Int) = x := by
    intro x hx
    have := wf8 (hw x hx)
    rw [UInt8.toNat_ofNat']
    omega
  simp only [strOfNums, bytesOf, List.map_map]
  conv => rhs; rw [← List.map_id xs]
  exact List.map_congr_left (fun x hx => e x hx)
theorem getText_canon (b : List Int) (hw : ∀ c ∈ b, (Lit.int .u8 c).wf = true) (at_ p : Int) (s : ByteArray) (h : getText b at_ = (s, p, true)) : ∃ t, b.drop at_.toNat = putText s ++ t ∧ p = at_ + ((putText s).length : Int) := by
  have hbd := getNum_bd b hw at_
  have hcn := getNum_canon b hw at_
  unfold getText at h
  generalize getNum b at_ = R at *
  obtain ⟨n, q, ok⟩ := R
  cases ok with
  | false => exact absurd h (by simp)
  | true =>
    obtain ⟨b1, b2, b3, b4, b5⟩ := hbd n q rfl
    obtain ⟨c1, t, c2, c3⟩ := hcn n q rfl
    simp only at h
    by_cases hn : n > (b.length : Int) - q
    · rw [if_pos hn] at h; exact absurd h (by simp)
    · rw [if_neg hn] at h
      simp only [Prod.mk.injEq, and_true] at h
      obtain ⟨rfl, rfl⟩ := h
      have d1 : b.drop q.toNat = t := by
        have : q.toNat = at_.toNat + (putNum n).length := by omega
        rw [this, ← List.drop_drop, c2, List.drop_left]
      have d2 : (b.take (q + n).toNat).drop q.toNat = t.take n.toNat := by
        rw [List.drop_take, d1]
        congr 1; omega
      have d3 : t.length = b.length - q.toNat := by rw [← d1, List.length_drop]
      have hwt : ∀ c ∈ t.take n.toNat, (Lit.int .u8 c).wf = true := by
        intro c hc
        have : c ∈ t := List.mem_of_mem_take hc
        rw [← d1] at this
        exact hw c (List.mem_of_mem_drop this)
      have d4 : (t.take n.toNat).length = n.toNat := by rw [List.length_take]; omega
      rw [d2]
      have e1 : ((strOfNums (t.take n.toNat)).size : Int) = n := by rw [show (strOfNums (t.take n.toNat)).size = (t.take n.toNat).length from by simp [strOfNums, ByteArray.size], d4]; omega
      have e2 : putText (strOfNums (t.take n.toNat)) = putNum n ++ t.take n.toNat := by rw [putText, e1, bytesOf_strOf _ hwt]
      refine ⟨t.drop n.toNat, ?_, ?_⟩
      · rw [e2, c2, List.append_assoc, List.take_append_drop]
      · rw [e2, List.length_append, d4, c3]; omega

/-! entcanon -/
theorem entryRead_out (b : List Int) (at_ : Int) : entryRead b at_ = failE ∨ ∃ a w h s p, entryRead b at_ = (a, w, h, s, p, true) := by
  unfold entryRead
  split
  · exact .inl rfl
  · split
    · exact .inl rfl
    · split
      · exact .inl rfl
      · split
        · exact .inl rfl
        · split
          · exact .inl rfl
          · split
            · exact .inr ⟨_, _, _, _, _, rfl⟩
            · exact .inl rfl
theorem entryRead_canon (b : List Int) (hw : ∀ c ∈ b, (Lit.int .u8 c).wf = true) (at_ a w : Int) (h : Bool) (s : ByteArray) (p : Int) (e : entryRead b at_ = (a, w, h, s, p, true)) : entryOk a w h s = true ∧ 0 ≤ at_ ∧ (∃ t, b.drop at_.toNat = entPack a w h s ++ t) ∧ p = at_ + ((entPack a w h s).length : Int) ∧ a ≤ 9223372036854775807 ∧ 0 ≤ a := by
  unfold entryRead at e
  have f0 : ∀ x, failE = x → x.2.2.2.2.2 = false := fun x hx => hx ▸ rfl
  rcases h1 : getNum b at_ with ⟨n1, p1, ok1⟩
  rw [h1] at e
  cases ok1 with
  | false => exact absurd (f0 _ e) (by simp)
  | true =>
    simp only at e
    rcases h2 : getNum b p1 with ⟨n2, p2, ok2⟩
    rw [h2] at e
    cases ok2 with
    | false => exact absurd (f0 _ e) (by simp)
    | true =>
      simp only at e
      rcases h3 : getNum b p2 with ⟨n3, p3, ok3⟩
      rw [h3] at e
      cases ok3 with
      | false => exact absurd (f0 _ e) (by simp)
      | true =>
        simp only at e
        by_cases hh : n3 > 1
        · rw [if_pos hh] at e; exact absurd (f0 _ e) (by simp)
        · rw [if_neg hh] at e
          rcases h4 : getText b p3 with ⟨s4, p4, ok4⟩
          rw [h4] at e
          cases ok4 with
          | false => exact absurd (f0 _ e) (by simp)
          | true =>
            simp only at e
            by_cases ho : entryOk n1 n2 (n3 == 1) s4 = true
            · rw [if_pos ho] at e
              simp only [Prod.mk.injEq, and_true] at e
              obtain ⟨rfl, rfl, rfl, rfl, rfl⟩ := e
              have b1 := getNum_bd b hw _ _ _ h1
              obtain ⟨z1, t1, c1, q1⟩ := getNum_canon b hw _ _ _ h1
              obtain ⟨z2, t2, c2, q2⟩ := getNum_canon b hw _ _ _ h2
              obtain ⟨z3, t3, c3, q3⟩ := getNum_canon b hw _ _ _ h3
              obtain ⟨t4, c4, q4⟩ := getText_canon b hw _ _ _ h4
              have dr : ∀ (x y : Int) (l t u : List Int), 0 ≤ x → b.drop x.toNat = l ++ t → y = x + (l.length : Int) → b.drop y.toNat = u → t = u := by
                intro x y l t u hx hd hy hu
                have : y.toNat = x.toNat + l.length := by omega
                rw [← hu, this, ← List.drop_drop, hd, List.drop_left]
              have r1 := dr _ _ _ _ _ b1.2.2.1 c1 q1 c2
              have r2 := dr _ _ _ _ _ (by omega) c2 q2 c3
              have r3 := dr _ _ _ _ _ (by omega) c3 q3 c4
              have e3 : putNum n3 = putNum (if (n3 == 1) = true then 1 else 0) := by
                by_cases h1 : n3 = 1
                · rw [h1]; rfl
                · have : n3 = 0 := by omega
                  rw [this]; rfl
              refine ⟨ho, b1.2.2.1, ⟨t4, ?_⟩, ?_, by omega, b1.1⟩
              · rw [c1, r1, r2, r3, entPack, ← e3]; simp only [List.append_assoc]
              · rw [entPack, ← e3]; simp only [List.length_append]; omega
            · rw [if_neg ho] at e; exact absurd (f0 _ e) (by simp)

/-! numback -/
theorem gnum_pnum (d : Nat) : ∀ (x i : Nat) (acc : Int) (rest : List Int), x < 128 ^ (d + 1) → (0 < i → 0 < x) → gnum (d + 1) (pnum x ++ rest) i acc = some (acc + (x : Int) * pw i, i + (pnum x).length) := by
  induction d with
  | zero =>
    intro x i acc rest hx hi
    have hx1 : x < 128 := by simpa using hx
    rw [pnum_small x (by omega), List.cons_append, gnum, if_pos (by omega), if_neg (by omega)]
    rfl
  | succ d ih =>
    intro x i acc rest hx hi
    by_cases h : 127 < x
    · have hp : x / 128 < 128 ^ (d + 1) := Nat.div_lt_of_lt_mul (by rw [Nat.pow_succ] at hx; rw [Nat.mul_comm]; exact hx)
      rw [pnum_big x h, List.cons_append, gnum, if_neg (by omega)]
      rw [ih (x / 128) (i + 1) _ rest hp (by omega), pw_succ, List.length_cons]
      have e : ((x % 128 + 128 : Nat) : Int) - 128 = ((x % 128 : Nat) : Int) := by omega
      have e2 : (x : Int) = ((x % 128 : Nat) : Int) + 128 * ((x / 128 : Nat) : Int) := by omega
      rw [e]
      generalize ((x % 128 : Nat) : Int) = r at *
      generalize ((x / 128 : Nat) : Int) = q at *
      rw [e2]
      refine congrArg some (Prod.ext ?_ (by show i + 1 + _ = i + (_ + 1); omega))
      show acc + r * pw i + q * (128 * pw i) = acc + (r + 128 * q) * pw i
      rw [Int.add_mul, ← Int.mul_assoc, Int.mul_comm q 128, Int.add_assoc]
    · rw [pnum_small x h, List.cons_append, gnum, if_pos (by omega), if_neg (by omega)]
      rfl
theorem getNum_put (pre rest : List Int) (x : Int) (h0 : 0 ≤ x) (h1 : x ≤ 9223372036854775807) : getNum (pre ++ (putNum x ++ rest)) (pre.length : Int) = (x, (pre.length : Int) + ((putNum x).length : Int), true) := by
  obtain ⟨n, rfl⟩ := Int.eq_ofNat_of_zero_le h0
  have e : putNum (n : Int) = pnum n := by rw [putNum, if_neg (by omega)]; rfl
  rw [getNum, if_neg (by omega), Int.toNat_natCast, List.drop_left, e, gnum_pnum 8 n 0 0 rest (by rw [p1289]; omega) (by omega)]
  simp [numOut, pw_zero]
theorem strOf_bytesOf (s : ByteArray) : strOfNums (bytesOf s) = s := by
  obtain ⟨⟨l⟩⟩ := s
  have e : ∀ b : UInt8, UInt8.ofNat ((b.toNat : Int)).toNat = b := fun b => by simp
  simp only [strOfNums, bytesOf, List.map_map, Function.comp_def, e, List.map_id']
theorem getText_put (pre rest : List Int) (s : ByteArray) (hs : s.size ≤ 1000000) : getText (pre ++ (putText s ++ rest)) (pre.length : Int) = (s, (pre.length : Int) + ((putText s).length : Int), true) := by
  have hl : (bytesOf s).length = s.size := bytesOf_length s
  have e : pre ++ (putText s ++ rest) = pre ++ (putNum (s.size : Int) ++ (bytesOf s ++ rest)) := by rw [putText, List.append_assoc]
  rw [e, getText, getNum_put pre _ (s.size : Int) (by omega) (by omega)]
  show (if _ then _ else _) = _
  rw [if_neg (by simp only [List.length_append, hl]; omega)]
  have e2 : putText s = putNum (s.size : Int) ++ bytesOf s := rfl
  refine Prod.ext ?_ (Prod.ext ?_ rfl)
  · show strOfNums _ = s
    have e3 : ((pre.length : Int) + ((putNum (s.size : Int)).length : Int) + (s.size : Int)).toNat = (pre ++ putNum (s.size : Int) ++ bytesOf s).length := by simp only [List.length_append, hl]; omega
    have e4 : ((pre.length : Int) + ((putNum (s.size : Int)).length : Int)).toNat = (pre ++ putNum (s.size : Int)).length := by simp only [List.length_append]; omega
    have e5 : pre ++ (putNum (s.size : Int) ++ (bytesOf s ++ rest)) = (pre ++ putNum (s.size : Int) ++ bytesOf s) ++ rest := by simp only [List.append_assoc]
    rw [e3, e4, e5, List.take_left, List.drop_left, strOf_bytesOf]
  · show (pre.length : Int) + ((putNum (s.size : Int)).length : Int) + (s.size : Int) = (pre.length : Int) + ((putText s).length : Int)
    rw [e2, List.length_append, hl]; omega

/-! entback -/
theorem entryRead_put (pre rest : List Int) (a w : Int) (h : Bool) (s : ByteArray) (ha : 0 ≤ a) (ha' : a ≤ 9223372036854775807) (ho : entryOk a w h s = true) : entryRead (pre ++ (entPack a w h s ++ rest)) (pre.length : Int) = (a, w, h, s, (pre.length : Int) + ((entPack a w h s).length : Int), true) := by
  have hp := entryOk_parts ho
  have hf := flag_bd h
  generalize hF : (if h = true then (1 : Int) else 0) = F at *
  have eP : entPack a w h s = putNum a ++ (putNum w ++ (putNum F ++ putText s)) := by rw [entPack, hF]; simp only [List.append_assoc]
  generalize hB : pre ++ (entPack a w h s ++ rest) = B
  have g1 : getNum B (pre.length : Int) = (a, (pre.length : Int) + ((putNum a).length : Int), true) := by
    rw [← hB, eP]; simp only [List.append_assoc]
    exact getNum_put pre _ a ha ha'
  have g2 : getNum B ((pre.length : Int) + ((putNum a).length : Int)) = (w, (pre.length : Int) + ((putNum a).length : Int) + ((putNum w).length : Int), true) := by
    have := getNum_put (pre ++ putNum a) (putNum F ++ (putText s ++ rest)) w (by omega) (by omega)
    rw [← hB, eP]
    simp only [List.append_assoc, List.length_append, Int.natCast_add] at this ⊢
    exact this
  have g3 : getNum B ((pre.length : Int) + ((putNum a).length : Int) + ((putNum w).length : Int)) = (F, (pre.length : Int) + ((putNum a).length : Int) + ((putNum w).length : Int) + ((putNum F).length : Int), true) := by
    have := getNum_put (pre ++ putNum a ++ putNum w) (putText s ++ rest) F (by omega) (by omega)
    rw [← hB, eP]
    simp only [List.append_assoc, List.length_append, Int.natCast_add, ← Int.add_assoc] at this ⊢
    exact this
  have g4 : getText B ((pre.length : Int) + ((putNum a).length : Int) + ((putNum w).length : Int) + ((putNum F).length : Int)) = (s, (pre.length : Int) + ((putNum a).length : Int) + ((putNum w).length : Int) + ((putNum F).length : Int) + ((putText s).length : Int), true) := by
    have := getText_put (pre ++ putNum a ++ putNum w ++ putNum F) rest s (by omega)
    rw [← hB, eP]
    simp only [List.append_assoc, List.length_append, Int.natCast_add, ← Int.add_assoc] at this ⊢
    exact this
  have e1 : (F == 1) = h := by rw [← hF]; cases h <;> rfl
  rw [entryRead, g1]
  simp only [g2, g3, if_neg (show ¬ F > 1 by omega), g4, e1, if_pos ho]
  rw [eP]
  simp only [List.length_append, Int.natCast_add, ← Int.add_assoc]

theorem at_f (b : List Int) (i : Nat) : ∃ x, laws_at.f b (i : Int) = some x := by
  unfold laws_at.f
  by_cases h : (i : Int) < b.length
  · rw [if_pos h, if_pos (by omega)]; exact ⟨_, rfl⟩
  · rw [if_neg h]; exact ⟨_, rfl⟩
theorem packO_ok (a w : Int) (h : Bool) (s : ByteArray) : (entPackO a w h s).2 = entryOk a w h s := by
  unfold entPackO
  by_cases e : entryOk a w h s = true
  · rw [if_pos e, e]
  · rw [if_neg e, Bool.eq_false_iff.mpr e]
theorem FnEntries_j1 (l0 : List Int) (hb : l0.length < 4611686018427387904) : Ev (fun k => laws_FnEntries.j1 k l0) true := by
  obtain ⟨raw, p, er, hlen, hw, hp⟩ := DrawEntryRead_f l0 hb
  refine Ev.step (fun k => by rw [laws_FnEntries.j1]) ?_
  refine Evbind er (Evbind (impl_EntryRead_f raw (by omega) hw p hp) (Evbind (spec_EntryRead_f raw (by omega) hw p) (Evneg (by simp) ?_)))
  have hcn := entryRead_canon raw hw p
  rcases entryRead_out raw p with e | ⟨a, w, h, s, q, e⟩
  · rw [e]
    exact Evbind (impl_EntryPack_f 0 0 false ⟨#[]⟩ (by decide)) (Evneg Bool.false_ne_true (Evpos (by simp [failE]) (Ev.now _)))
  · rw [e]
    obtain ⟨ho, hp0, ⟨t, ht⟩, hq, ha, ha0⟩ := hcn a w h s q e
    have hPO : entPackO a w h s = (entPack a w h s, true) := by rw [entPackO, if_pos ho]
    have hl : p.toNat + (entPack a w h s).length ≤ raw.length := by
      have := congrArg List.length ht
      rw [List.length_drop, List.length_append] at this
      have : 0 < (entPack a w h s).length := by
        have h1 := (pnum_len9 a.toNat (by omega)).1
        unfold entPack
        simp only [List.length_append]
        have : putNum a = pnum a.toNat := by rw [putNum, if_neg (by omega)]
        rw [this]; omega
      omega
    refine Evbind (impl_EntryPack_f a w h s (wf_mk64 (by omega) ha)) ?_
    rw [hPO]
    refine Evpos rfl (Evpos rfl (Evpos hp0 (Evpos (by show p ≤ q; omega) (Evpos (by show q ≤ (raw.length : Int); omega) (Evto ?_ (Ev.now _))))))
    have e2 : (raw.take q.toNat).drop p.toNat = entPack a w h s := by
      rw [List.drop_take, ht]
      have : q.toNat - p.toNat = (entPack a w h s).length := by omega
      rw [this, List.take_left]
    show ((strOfNums (entPack a w h s)).toList == (strOfNums ((raw.take q.toNat).drop p.toNat)).toList) = true
    rw [e2]; simp
theorem FnEntries (l0 : List Int) (hl0 : l0.length ≤ maxLen ∧ ∀ x ∈ l0, (Lit.int .u8 x).wf = true) : ∃ k, laws_FnEntries.f k l0 = some true := by
  refine Ev.rounds (g := fun k => laws_FnEntries.f k l0) ?_
  unfold laws_FnEntries.f laws_big.f
  simp only [Option.bind_some]
  by_cases hbig : (l0.length : Int) > 1048576
  · exact Evpos (decide_eq_true hbig) (Ev.now _)
  refine Evneg (by simpa using hbig) ?_
  have hb : l0.length < 4611686018427387904 := by omega
  have hj1 := FnEntries_j1 l0 hb
  obtain ⟨h0, eh⟩ := l1New_f l0 hb
  obtain ⟨a, w, hl, s, i1, h1, e1, ha, hw, hs, _, _⟩ := l3Draw_f l0 0 h0 (by omega) (by omega) hb
  have hd : Ev (fun k => spec_DrawEntryPack.f k l0) (a, w, hl, s) := by
    unfold spec_DrawEntryPack.f
    exact Evbind eh (Evbind (Evconst e1) (Ev.now _))
  refine Evbind hd (Evbind (impl_EntryPack_f a w hl s ha) (Evbind (Evconst (spec_EntryOk_f a w hl s ha)) ?_))
  rw [packO_ok]
  refine Evneg (by simp) (Evbind (Evconst (impl_EntryOk_f a w hl s ha)) ?_)
  refine Ev.step (fun k => by rw [laws_FnEntries.j0, if_neg (by simp)]) ?_
  simp only [Option.bind_some]
  by_cases ho : entryOk a w hl s = true
  · have hPO : entPackO a w hl s = (entPack a w hl s, true) := by rw [entPackO, if_pos ho]
    have hba := wf64 ha
    have hpo := entryOk_parts ho
    have hlen := entPack_len a w hl s (by omega) (by omega) (by omega)
    rw [hPO]
    obtain ⟨c1, hc1⟩ := at_f l0 1
    refine Evpos ho (Evpos (by rw [List.length_singleton]; show 1 + (entPack a w hl s).length < _; omega) ?_)
    refine Evbind (Evconst hc1) (Evpos (by rw [List.length_append, List.length_singleton]; show 1 + (entPack a w hl s).length < _; omega) ?_)
    have ha0 : 0 ≤ a := by have := (placeOk_iff a).1 hpo.1; omega
    have eb : [7] ++ entPack a w hl s ++ [c1 % 256] = [7] ++ (entPack a w hl s ++ [c1 % 256]) := by rw [List.append_assoc]
    have hw1 : ∀ c ∈ [7] ++ entPack a w hl s ++ [c1 % 256], (Lit.int .u8 c).wf = true := by
      intro c hc
      rw [eb] at hc
      rcases List.mem_append.1 hc with h | h
      · rw [List.mem_singleton.1 h]; decide
      · rcases List.mem_append.1 h with h | h
        · exact entPack_wf _ _ _ _ c h
        · rw [List.mem_singleton.1 h]; exact mod8 _
    have hr := impl_EntryRead_f ([7] ++ entPack a w hl s ++ [c1 % 256]) (by simp only [List.length_append, List.length_singleton]; omega) hw1 1 (by decide)
    have hv : entryRead ([7] ++ entPack a w hl s ++ [c1 % 256]) 1 = (a, w, hl, s, 1 + ((entPack a w hl s).length : Int), true) := by rw [eb]; exact entryRead_put [7] [c1 % 256] a w hl s ha0 (by omega) ho
    rw [hv] at hr
    have ew : wrap64 (1 + ((entPack a w hl s).length : Int)) = 1 + ((entPack a w hl s).length : Int) := w64 (by omega) (by omega)
    exact Evbind hr (Evpos rfl (Evneg (by simp) (Evpos ew.symm hj1)))
  · exact Evneg ho hj1

end Go.Proofs.Ytgmfpfmpnlgidaa.Pure
