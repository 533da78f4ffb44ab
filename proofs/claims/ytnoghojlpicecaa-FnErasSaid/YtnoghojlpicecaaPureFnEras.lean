/- What a drawn store has of an epoch is what it has of its places, in order; trimmed it has what is above alone. Conditions: none beyond the given statement. -/
import Derived.Test.YtnoghojlpicecaaMFnErasx15
import Derived.OpenShut
import Derived.Laws.BitsLemmas
namespace Go.Proofs.Ytnoghojlpicecaa.Pure
open Go.RowKit Go.Proofs.Ytnoghojlpicecaa.PFnEras Go.Proofs.YtnoghojlpicecaaW.PrintWords Go.Proofs.YtnoghojlpicecaaW.PrintLast Go.Proofs.YtnoghojlpicecaaW.PrintMore
set_option linter.unusedVariables false
set_option linter.unusedSimpArgs false
theorem w64 {n : Int} (h : -9223372036854775808 ≤ n) (h2 : n ≤ 9223372036854775807) : wrap64 n = n := by unfold wrap64; omega
theorem wsucc (i : Nat) (h : i < 4611686018427387904) : wrap64 ((i : Int) + 1) = ((i + 1 : Nat) : Int) := by unfold wrap64; omega
theorem wf64 {n : Int} (h : (Lit.int .i64 n).wf = true) : -9223372036854775808 ≤ n ∧ n ≤ 9223372036854775807 := bounds_i64 h
theorem Evpos {α : Type} {c : Prop} [Decidable c] {a b : Nat → Option α} {r : α} (h : c) (e : Ev a r) : Ev (fun k => if c then a k else b k) r := Ev.congr (fun _ => if_pos h) e
theorem Evneg {α : Type} {c : Prop} [Decidable c] {a b : Nat → Option α} {r : α} (h : ¬ c) (e : Ev b r) : Ev (fun k => if c then a k else b k) r := Ev.congr (fun _ => if_neg h) e
theorem Evsome {α β : Type} {a : α} {f : Nat → α → Option β} {r : β} (e : Ev (fun k => f k a) r) : Ev (fun k => (some a).bind (f k)) r := e
theorem Evbind {α β : Type} {g : Nat → Option α} {f : Nat → α → Option β} {a : α} {r : β} (h : Ev g a) (e : Ev (fun n => f n a) r) : Ev (fun n => (g n).bind (f n)) r := Ev.bind h e
theorem Evconst {α : Type} {g : Option α} {r : α} (h : g = some r) : Ev (fun _ => g) r := ⟨0, fun _ _ => h⟩
theorem Evto {α : Type} {g : Nat → Option α} {r r' : α} (h : r = r') (e : Ev g r) : Ev g r' := h ▸ e
theorem rd_nat (xs : List Int) (i : Nat) : rd xs (i : Int) = xs.getD i 0 := by simp [rd]
theorem getD_get (xs : List Int) (i : Nat) (h : i < xs.length) : xs.getD i 0 = xs[i] := by simp [List.getD_eq_getElem?_getD, List.getElem?_eq_getElem h]
theorem wf_iff (k : IntKind) (n : Int) : (Lit.int k n).wf = true ↔ k.min ≤ n ∧ n ≤ k.max := by simp [Lit.wf]
theorem wf_mk64 {n : Int} (h : -9223372036854775808 ≤ n) (h2 : n ≤ 9223372036854775807) : (Lit.int .i64 n).wf = true :=
  (wf_iff .i64 n).2 (by simp [IntKind.min, IntKind.max, IntKind.bits, IntKind.signed]; omega)
theorem and_bd (x : Int) (m : Nat) (hm : m < 9223372036854775808) : 0 ≤ Go.bits .and .i64 x (m : Int) ∧ Go.bits .and .i64 x (m : Int) ≤ m := by
  have hb : IntKind.bits .i64 = 64 := rfl
  have key : ((BitVec.ofInt 64 x) &&& (BitVec.ofInt 64 (m : Int))).toNat ≤ m := by
    rw [BitVec.toNat_and, BitVec.ofInt_natCast, BitVec.toNat_ofNat]
    exact Nat.le_trans Nat.and_le_right (Nat.mod_le _ _)
  have e : Go.bits .and .i64 x (m : Int) = IntKind.i64.wrap ((((BitVec.ofInt 64 x) &&& (BitVec.ofInt 64 (m : Int))).toNat : Nat) : Int) := rfl
  rw [e, IntKind.wrap_i64]
  generalize ((BitVec.ofInt 64 x) &&& (BitVec.ofInt 64 (m : Int))).toNat = z at *
  omega

theorem l1Byte_f (b : List Int) (i h : Int) (h0 : 0 ≤ i) (h1 : i ≤ b.length) (hb : b.length < 4611686018427387904) : ∃ x i' h', spec_l1Byte.f b i h = some (x, i', h') ∧ 0 ≤ x ∧ x ≤ 255 ∧ 0 ≤ i' ∧ i' ≤ b.length := by
  unfold spec_l1Byte.f
  by_cases hc : i < (b.length : Int)
  · rw [if_pos hc, if_pos h0]
    have e : wrap64 (i + 1) = i + 1 := w64 (by omega) (by omega)
    have a := fun x => and_bd x 255 (by omega)
    exact ⟨_, _, _, rfl, (a _).1, (a _).2, by rw [e]; omega, by rw [e]; omega⟩
  · rw [if_neg hc]
    have a := fun x => and_bd x 255 (by omega)
    exact ⟨_, _, _, rfl, (a _).1, (a _).2, h0, h1⟩
theorem l1Below_f (b : List Int) (i h n : Int) (h0 : 0 ≤ i) (h1 : i ≤ b.length) (hb : b.length < 4611686018427387904) : ∃ x i' h', spec_l1Below.f b i h n = some (x, i', h') ∧ 0 ≤ x ∧ (0 < n → x < n) ∧ (n ≤ 0 → x = 0) ∧ x ≤ 4294967295 ∧ 0 ≤ i' ∧ i' ≤ b.length := by
  unfold spec_l1Below.f
  by_cases c1 : n ≤ 0
  · rw [if_pos c1]; exact ⟨_, _, _, rfl, by omega, by omega, fun _ => rfl, by omega, h0, h1⟩
  rw [if_neg c1]
  obtain ⟨x, i1, hh1, e1, b1⟩ := l1Byte_f b i h h0 h1 hb
  by_cases c2 : n ≤ 256
  · rw [if_pos c2, e1, Option.bind_some, if_neg (by omega)]
    have hm : Int.tmod x n = x % n := Int.tmod_eq_emod_of_nonneg (by omega)
    have hm1 := Int.emod_lt_of_pos x (show 0 < n by omega)
    have hm0 := Int.emod_nonneg x (show n ≠ 0 by omega)
    refine ⟨_, _, _, rfl, ?_⟩
    show 0 ≤ Int.tmod x n ∧ (0 < n → Int.tmod x n < n) ∧ (n ≤ 0 → Int.tmod x n = 0) ∧ Int.tmod x n ≤ 4294967295 ∧ 0 ≤ i1 ∧ i1 ≤ b.length
    rw [hm]
    exact ⟨hm0, fun _ => hm1, fun hh => absurd hh c1, by omega, b1.2.2.1, b1.2.2.2⟩
  · obtain ⟨y, i2, hh2, e2, b2⟩ := l1Byte_f b i1 hh1 b1.2.2.1 b1.2.2.2 hb
    obtain ⟨z, i3, hh3, e3, b3⟩ := l1Byte_f b i2 hh2 b2.2.2.1 b2.2.2.2 hb
    obtain ⟨w, i4, hh4, e4, b4⟩ := l1Byte_f b i3 hh3 b3.2.2.1 b3.2.2.2 hb
    rw [if_neg c2, e1, Option.bind_some]
    simp only [e2, e3, e4, Option.bind_some]
    rw [if_neg (by omega)]
    have w1 : wrap64 (x * 16777216) = x * 16777216 := w64 (by omega) (by omega)
    have w2 : wrap64 (y * 65536) = y * 65536 := w64 (by omega) (by omega)
    have w3 : wrap64 (x * 16777216 + y * 65536) = x * 16777216 + y * 65536 := w64 (by omega) (by omega)
    have w4 : wrap64 (z * 256) = z * 256 := w64 (by omega) (by omega)
    have w5 : wrap64 (x * 16777216 + y * 65536 + z * 256) = x * 16777216 + y * 65536 + z * 256 := w64 (by omega) (by omega)
    have w6 : wrap64 (x * 16777216 + y * 65536 + z * 256 + w) = x * 16777216 + y * 65536 + z * 256 + w := w64 (by omega) (by omega)
    rw [w1, w2, w3, w4, w5, w6]
    have hs0 : 0 ≤ x * 16777216 + y * 65536 + z * 256 + w := by omega
    have hs1 : x * 16777216 + y * 65536 + z * 256 + w ≤ 4294967295 := by omega
    generalize x * 16777216 + y * 65536 + z * 256 + w = s at *
    have hm : Int.tmod s n = s % n := Int.tmod_eq_emod_of_nonneg hs0
    have hm1 := Int.emod_lt_of_pos s (show 0 < n by omega)
    have hm0 := Int.emod_nonneg s (show n ≠ 0 by omega)
    have hm2 : s % n ≤ s := by
      have := Int.emod_add_mul_ediv s n
      have hq : 0 ≤ s / n := Int.ediv_nonneg hs0 (by omega)
      have : 0 ≤ n * (s / n) := Int.mul_nonneg (by omega) hq
      omega
    refine ⟨_, _, _, rfl, ?_⟩
    rw [hm]
    exact ⟨hm0, fun _ => hm1, fun hh => absurd hh c1, by omega, b4.2.2.1, b4.2.2.2⟩

theorem down {p : Nat → Prop} (n : Nat) (h0 : p n) (hs : ∀ i, i < n → p (i + 1) → p i) (i : Nat) (hi : i ≤ n) : p i := by
  obtain ⟨d, hd⟩ : ∃ d, i + d = n := ⟨n - i, by omega⟩
  induction d generalizing i with
  | zero => obtain rfl : i = n := by omega
            exact h0
  | succ d ih => exact hs i (by omega) (ih (i + 1) (by omega) (by omega))
theorem getD_mem (l : List Int) (i : Nat) (h : i < l.length) : l.getD i 0 ∈ l := by
  rw [getD_get l i h]; exact List.getElem_mem h

theorem l1PickInt_f (b : List Int) (i h : Int) (l : List Int) (hl : 0 < l.length) (hl2 : l.length < 1000) (h0 : 0 ≤ i) (h1 : i ≤ b.length) (hb : b.length < 4611686018427387904) : ∃ x i' h', spec_l1PickInt.f b i h l = some (x, i', h') ∧ x ∈ l ∧ 0 ≤ i' ∧ i' ≤ b.length := by
  obtain ⟨x, i', h', e, b1⟩ := l1Below_f b i h (l.length : Int) h0 h1 hb
  unfold spec_l1PickInt.f
  have hx := b1.2.1 (by omega)
  obtain ⟨n, rfl⟩ := Int.eq_ofNat_of_zero_le b1.1
  rw [e, Option.bind_some]
  simp only []
  rw [if_pos b1.1, if_pos hx]
  refine ⟨_, _, _, rfl, ?_, b1.2.2.2.2⟩
  show rd l (n : Int) ∈ l
  rw [rd_nat]
  exact getD_mem l n (by omega)

theorem l1Place_f (e o : Int) (he : 0 ≤ e ∧ e ≤ 31) (ho : 0 ≤ o ∧ o ≤ 61) : spec_l1Place.f e o = some (4294967296 * e + o) := by
  unfold spec_l1Place.f
  rw [w64 (n := 4294967296 * e) (by omega) (by omega), w64 (by omega) (by omega)]

theorem l1Pick_f (b : List Int) (i h : Int) (l : List ByteArray) (hl : 0 < l.length) (hl2 : l.length < 1000) (h0 : 0 ≤ i) (h1 : i ≤ b.length) (hb : b.length < 4611686018427387904) : ∃ x i' h', spec_l1Pick.f b i h l = some (x, i', h') ∧ x ∈ l ∧ 0 ≤ i' ∧ i' ≤ b.length := by
  obtain ⟨x, i', h', e, b1⟩ := l1Below_f b i h (l.length : Int) h0 h1 hb
  unfold spec_l1Pick.f
  have hx := b1.2.1 (by omega)
  obtain ⟨n, rfl⟩ := Int.eq_ofNat_of_zero_le b1.1
  rw [e, Option.bind_some]
  simp only []
  rw [if_pos b1.1, if_pos hx]
  refine ⟨_, _, _, rfl, ?_, b1.2.2.2.2⟩
  show rdOf ByteArray.empty l (n : Int) ∈ l
  have hn : n < l.length := by omega
  have : rdOf ByteArray.empty l (n : Int) = l[n] := by simp [rdOf, List.getD_eq_getElem?_getD, List.getElem?_eq_getElem hn]
  rw [this]; exact List.getElem_mem hn

theorem l1Once_f (b : List Int) (i h n : Int) (h0 : 0 ≤ i) (h1 : i ≤ b.length) (hb : b.length < 4611686018427387904) : ∃ x i' h', spec_l1Once.f b i h n = some (x, i', h') ∧ 0 ≤ i' ∧ i' ≤ b.length := by
  obtain ⟨x, i', h', e, b1⟩ := l1Below_f b i h n h0 h1 hb
  unfold spec_l1Once.f
  rw [e, Option.bind_some]
  exact ⟨_, _, _, rfl, b1.2.2.2.2⟩

theorem spec_l1In_f (a b c : Int) : spec_l1In.f a b c = some (decide (b ≤ a ∧ a ≤ c)) := by
  unfold spec_l1In.f
  by_cases h : a ≥ b
  · rw [if_pos h]; congr 1; exact decide_eq_decide.2 (by omega)
  · rw [if_neg h]; congr 1; symm; exact decide_eq_false (by omega)

def placeOk (x : Int) : Bool := decide (4294967296 ≤ x ∧ x / 4294967296 ≤ 30 ∧ 1 ≤ x % 4294967296 ∧ x % 4294967296 ≤ 60)
theorem tdm (x : Int) : (0 ≤ x ∧ Int.tdiv x 4294967296 = x / 4294967296 ∧ Int.tmod x 4294967296 = x % 4294967296) ∨ (x < 0 ∧ Int.tdiv x 4294967296 ≤ 0 ∧ x ≤ Int.tdiv x 4294967296 ∧ Int.tmod x 4294967296 ≤ 0) := by
  by_cases h : 0 ≤ x
  · exact .inl ⟨h, Int.tdiv_eq_ediv_of_nonneg h, Int.tmod_eq_emod_of_nonneg h⟩
  · refine .inr ⟨by omega, ?_⟩
    obtain ⟨y, rfl⟩ : ∃ y, x = -y := ⟨-x, by omega⟩
    rw [Int.neg_tdiv, Int.neg_tmod, Int.tdiv_eq_ediv_of_nonneg (by omega), Int.tmod_eq_emod_of_nonneg (by omega)]
    omega
theorem placeOk_iff (x : Int) : placeOk x = true ↔ (4294967296 ≤ x ∧ x / 4294967296 ≤ 30 ∧ 1 ≤ x % 4294967296 ∧ x % 4294967296 ≤ 60) := by simp [placeOk]
theorem placeOk_div (x : Int) (h : placeOk x = true) : wrap64 (Int.tdiv x 4294967296) = x / 4294967296 := by
  have := (placeOk_iff x).1 h
  rw [Int.tdiv_eq_ediv_of_nonneg (by omega), w64 (by omega) (by omega)]
theorem spec_PlaceOk_f (x : Int) (h : (Lit.int .i64 x).wf = true) : spec_PlaceOk.f x = some (placeOk x) := by
  have hb := wf64 h
  unfold spec_PlaceOk.f
  simp only [spec_l1In_f, Option.bind_some, decide_eq_true_eq]
  have ht := tdm x
  rw [w64 (n := Int.tdiv x 4294967296) (by omega) (by omega)]
  by_cases h1 : x > 0
  · rw [if_pos h1]
    by_cases h2 : 1 ≤ Int.tdiv x 4294967296 ∧ Int.tdiv x 4294967296 ≤ 30
    · rw [if_pos h2]; congr 1; exact decide_eq_decide.2 (by omega)
    · rw [if_neg h2]; congr 1; symm; exact decide_eq_false (by omega)
  · rw [if_neg h1]; congr 1; symm; exact decide_eq_false (by omega)

def epochOf (x : Int) : Int := if placeOk x = true then x / 4294967296 else 0
theorem epochOf_bd (x : Int) : 0 ≤ epochOf x ∧ epochOf x ≤ 30 := by
  unfold epochOf
  by_cases hp : placeOk x = true
  · have := (placeOk_iff x).1 hp; rw [if_pos hp]; omega
  · rw [if_neg hp]; omega

theorem spec_EpochOf_f (x : Int) (h : (Lit.int .i64 x).wf = true) : spec_EpochOf.f x = some (epochOf x) := by
  unfold spec_EpochOf.f epochOf
  rw [spec_PlaceOk_f x h, Option.bind_some]
  by_cases hp : placeOk x = true
  · rw [if_pos hp, if_pos hp, placeOk_div x hp]
  · rw [if_neg hp, if_neg hp]

theorem wf_add64 (x : Int) : (Lit.int .i64 (wrap64 x)).wf = true := wrap64_wf x
theorem l3DrawRight_f (b : List Int) (i h : Int) (h0 : 0 ≤ i) (h1 : i ≤ b.length) (hb : b.length < 4611686018427387904) : ∃ a w hl s i' h', spec_l3DrawRight.f b i h = some (a, w, hl, s, i', h') ∧ (Lit.int .i64 a).wf = true ∧ (Lit.int .i64 w).wf = true ∧ s.size ≤ 4 ∧ 0 ≤ i' ∧ i' ≤ b.length ∧ (∃ e o : Int, 1 ≤ e ∧ e ≤ 3 ∧ 1 ≤ o ∧ o ≤ 6 ∧ a = 4294967296 * e + o) ∧ (w = 0 ∧ hl = false ∨ epochOf a < w ∧ w ≤ 30 ∧ (hl = true → s.toList = [])) := by
  obtain ⟨x1, i1, g1, e1, b1⟩ := l1Below_f b i h 3 h0 h1 hb
  obtain ⟨x2, i2, g2, e2, b2⟩ := l1Below_f b i1 g1 6 b1.2.2.2.2.1 b1.2.2.2.2.2 hb
  have k1 := b1.2.1 (by omega)
  have k2 := b2.2.1 (by omega)
  have w1 : wrap64 (1 + x1) = 1 + x1 := w64 (by omega) (by omega)
  have w2 : wrap64 (1 + x2) = 1 + x2 := w64 (by omega) (by omega)
  have p := l1Place_f (1 + x1) (1 + x2) (by omega) (by omega)
  obtain ⟨s, i3, g3, e3, hs, b3⟩ := l1Pick_f b i2 g2 [(⟨#[]⟩ : ByteArray), (⟨#[97]⟩ : ByteArray), (⟨#[98, 99]⟩ : ByteArray), (⟨#[0]⟩ : ByteArray), (⟨#[119, 111, 114, 100]⟩ : ByteArray)] (by decide) (by decide) b2.2.2.2.2.1 b2.2.2.2.2.2 hb
  have hs4 : s.size ≤ 4 := by
    simp only [List.mem_cons, List.not_mem_nil, or_false] at hs
    rcases hs with rfl | rfl | rfl | rfl | rfl <;> decide
  have wfa : (Lit.int .i64 (4294967296 * (1 + x1) + (1 + x2))).wf = true := by apply wf_mk64 <;> omega
  have hpl : ∃ e o : Int, 1 ≤ e ∧ e ≤ 3 ∧ 1 ≤ o ∧ o ≤ 6 ∧ 4294967296 * (1 + x1) + (1 + x2) = 4294967296 * e + o := ⟨1 + x1, 1 + x2, by omega, by omega, by omega, by omega, rfl⟩
  obtain ⟨o, i4, g4, e4, b4⟩ := l1Once_f b i3 g3 3 b3.1 b3.2 hb
  unfold spec_l3DrawRight.f
  simp only [e1, e2, w1, w2, p, e3, e4, Option.bind_some]
  cases o with
  | true =>
    obtain ⟨x5, i5, g5, e5, b5⟩ := l1Below_f b i4 g4 3 b4.1 b4.2 hb
    obtain ⟨o6, i6, g6, e6, b6⟩ := l1Once_f b i5 g5 2 b5.2.2.2.2.1 b5.2.2.2.2.2 hb
    have k5 := b5.2.1 (by omega)
    rw [if_pos rfl, spec_EpochOf_f _ wfa]
    simp only [e5, e6, Option.bind_some]
    have he := epochOf_bd (4294967296 * (1 + x1) + (1 + x2))
    have hpo : placeOk (4294967296 * (1 + x1) + (1 + x2)) = true := (placeOk_iff _).2 (by omega)
    have heo : epochOf (4294967296 * (1 + x1) + (1 + x2)) = 1 + x1 := by rw [epochOf, if_pos hpo]; omega
    have w3 : wrap64 (epochOf (4294967296 * (1 + x1) + (1 + x2)) + 1) = epochOf (4294967296 * (1 + x1) + (1 + x2)) + 1 := w64 (by omega) (by omega)
    have w4 : wrap64 (epochOf (4294967296 * (1 + x1) + (1 + x2)) + 1 + x5) = epochOf (4294967296 * (1 + x1) + (1 + x2)) + 1 + x5 := w64 (by omega) (by omega)
    cases o6 with
    | true =>
      rw [if_pos rfl]
      exact ⟨_, _, _, _, _, _, rfl, wfa, wf_add64 _, by decide, b6.1, b6.2, hpl, .inr ⟨by rw [w3, w4]; omega, by rw [w3, w4]; omega, fun _ => ByteArray.toList_eq _⟩⟩
    | false =>
      rw [if_neg Bool.false_ne_true]
      exact ⟨_, _, _, _, _, _, rfl, wfa, wf_add64 _, hs4, b6.1, b6.2, hpl, .inr ⟨by rw [w3, w4]; omega, by rw [w3, w4]; omega, fun hh => absurd hh Bool.false_ne_true⟩⟩
  | false =>
    rw [if_neg Bool.false_ne_true]
    exact ⟨_, _, _, _, _, _, rfl, wfa, by decide, hs4, b4.1, b4.2, hpl, .inl ⟨rfl, rfl⟩⟩

theorem l1DrawPlace_f (b : List Int) (i h : Int) (h0 : 0 ≤ i) (h1 : i ≤ b.length) (hb : b.length < 4611686018427387904) : ∃ x i' h', spec_l1DrawPlace.f b i h = some (x, i', h') ∧ (Lit.int .i64 x).wf = true ∧ 0 ≤ i' ∧ i' ≤ b.length := by
  obtain ⟨x1, i1, g1, e1, b1⟩ := l1Below_f b i h 3 h0 h1 hb
  obtain ⟨x2, i2, g2, e2, b2⟩ := l1Below_f b i1 g1 6 b1.2.2.2.2.1 b1.2.2.2.2.2 hb
  have k1 := b1.2.1 (by omega)
  have k2 := b2.2.1 (by omega)
  have w1 : wrap64 (1 + x1) = 1 + x1 := w64 (by omega) (by omega)
  have w2 : wrap64 (1 + x2) = 1 + x2 := w64 (by omega) (by omega)
  have p := l1Place_f (1 + x1) (1 + x2) (by omega) (by omega)
  obtain ⟨x3, i3, g3, e3, b3⟩ := l1Below_f b i2 g2 15 b2.2.2.2.2.1 b2.2.2.2.2.2 hb
  unfold spec_l1DrawPlace.f
  simp only [e1, e2, w1, w2, p, e3, Option.bind_some]
  by_cases c0 : x3 = 0
  · obtain ⟨x4, i4, g4, e4, hx, b4⟩ := l1PickInt_f b i3 g3 [0, (-1), 4294967296, 4294967297, 9223372036854775807, (-9223372036854775808)] (by decide) (by decide) b3.2.2.2.2.1 b3.2.2.2.2.2 hb
    rw [if_pos c0, e4, Option.bind_some]
    refine ⟨_, _, _, rfl, ?_, b4⟩
    simp only [List.mem_cons, List.not_mem_nil, or_false] at hx
    apply wf_mk64 <;> omega
  rw [if_neg c0]
  by_cases c1 : x3 = 1
  · obtain ⟨x4, i4, g4, e4, hx, b4⟩ := l1PickInt_f b i3 g3 [0, 30, 31] (by decide) (by decide) b3.2.2.2.2.1 b3.2.2.2.2.2 hb
    obtain ⟨x5, i5, g5, e5, hy, b5⟩ := l1PickInt_f b i4 g4 [0, 60, 61] (by decide) (by decide) b4.1 b4.2 hb
    simp only [List.mem_cons, List.not_mem_nil, or_false] at hx hy
    rw [if_pos c1]
    simp only [e4, e5, Option.bind_some]
    rw [l1Place_f x4 x5 (by omega) (by omega), Option.bind_some]
    refine ⟨_, _, _, rfl, ?_, b5⟩
    apply wf_mk64 <;> omega
  rw [if_neg c1]
  refine ⟨_, _, _, rfl, ?_, b3.2.2.2.2⟩
  apply wf_mk64 <;> omega

theorem strOfNums_size (n : Nat) : (strOfNums (List.replicate n 0)).size = n := by simp [strOfNums, ByteArray.size]
theorem l3Draw_f (b : List Int) (i h : Int) (h0 : 0 ≤ i) (h1 : i ≤ b.length) (hb : b.length < 4611686018427387904) : ∃ a w hl s i' h', spec_l3Draw.f b i h = some (a, w, hl, s, i', h') ∧ (Lit.int .i64 a).wf = true ∧ (Lit.int .i64 w).wf = true ∧ s.size ≤ 41 ∧ 0 ≤ i' ∧ i' ≤ b.length := by
  obtain ⟨a, w, hl, s, i1, g1, e1, wa, ww, hs, b10, b11, _⟩ := l3DrawRight_f b i h h0 h1 hb
  obtain ⟨x2, i2, g2, e2, b2⟩ := l1Below_f b i1 g1 15 b10 b11 hb
  unfold spec_l3Draw.f
  simp only [e1, e2, Option.bind_some]
  by_cases c0 : x2 = 0
  · obtain ⟨x3, i3, g3, e3, w3, b3⟩ := l1DrawPlace_f b i2 g2 b2.2.2.2.2.1 b2.2.2.2.2.2 hb
    rw [if_pos c0, e3, Option.bind_some]
    exact ⟨_, _, _, _, _, _, rfl, w3, ww, by omega, b3.1, b3.2⟩
  rw [if_neg c0]
  by_cases c1 : x2 = 1
  · obtain ⟨x3, i3, g3, e3, hx, b3⟩ := l1PickInt_f b i2 g2 [(-1), 1, 30, 31] (by decide) (by decide) b2.2.2.2.2.1 b2.2.2.2.2.2 hb
    rw [if_pos c1, e3, Option.bind_some]
    simp only [List.mem_cons, List.not_mem_nil, or_false] at hx
    exact ⟨_, _, _, _, _, _, rfl, wa, by apply wf_mk64 <;> omega, by omega, b3.1, b3.2⟩
  rw [if_neg c1]
  by_cases c2 : x2 = 2
  · rw [if_pos c2]
    exact ⟨_, _, _, _, _, _, rfl, wa, ww, by omega, b2.2.2.2.2.1, b2.2.2.2.2.2⟩
  rw [if_neg c2]
  by_cases c3 : x2 = 3
  · obtain ⟨x3, i3, g3, e3, b3⟩ := l1Below_f b i2 g2 2 b2.2.2.2.2.1 b2.2.2.2.2.2 hb
    have k3 := b3.2.1 (by omega)
    have w3 : wrap64 (40 + x3) = 40 + x3 := w64 (by omega) (by omega)
    rw [if_pos c3, e3, Option.bind_some]
    simp only [w3]
    rw [if_pos (by omega), if_pos (by omega)]
    exact ⟨_, _, _, _, _, _, rfl, wa, ww, by rw [strOfNums_size]; omega, b3.2.2.2.2.1, b3.2.2.2.2.2⟩
  rw [if_neg c3]
  exact ⟨_, _, _, _, _, _, rfl, wa, ww, by omega, b2.2.2.2.2.1, b2.2.2.2.2.2⟩

theorem l1New_l0 (b : List Int) (hb : b.length < 4611686018427387904) : ∀ i, i ≤ b.length → ∀ h : Int, ∃ h', Ev (fun k => spec_l1New.l0 k b h (i : Int)) (b, 0, h') := by
  refine down b.length ?_ ?_
  · intro h
    exact ⟨h, Ev.step (f := fun _ => some (b, 0, h)) (fun k => by rw [spec_l1New.l0, if_neg (by omega)]) (Ev.now _)⟩
  · intro i hi ih h
    by_cases c : (i : Int) < 4000
    · obtain ⟨h', e⟩ := ih (Go.bits .and .i64 (wrap64 ((wrap64 ((wrap64 (h * 131)) + (wrap64 (rd b i)))) + 7)) 1073741823)
      exact ⟨h', Ev.step (f := fun k => spec_l1New.l0 k b (Go.bits .and .i64 (wrap64 ((wrap64 ((wrap64 (h * 131)) + (wrap64 (rd b i)))) + 7)) 1073741823) ((i + 1 : Nat) : Int)) (fun k => by rw [spec_l1New.l0, if_pos (by omega), if_pos c, if_pos (by omega), wsucc i (by omega)]) e⟩
    · exact ⟨h, Ev.step (f := fun _ => some (b, 0, h)) (fun k => by rw [spec_l1New.l0, if_pos (by omega), if_neg c]) (Ev.now _)⟩
theorem l1New_f (b : List Int) (hb : b.length < 4611686018427387904) : ∃ h', Ev (fun k => spec_l1New.f k b) (b, 0, h') := by
  obtain ⟨h', e⟩ := l1New_l0 b hb 0 (by omega) (wrap64 (17817 + (b.length : Int)))
  exact ⟨h', Ev.congr (fun k => by rw [spec_l1New.f]; rfl) e⟩

theorem drop_g {α : Type} (z : α) (l : List α) (j : Nat) (h : j < l.length) : l.drop j = l.getD j z :: l.drop (j + 1) := by
  rw [List.drop_eq_getElem_cons h]; simp [List.getD_eq_getElem?_getD, List.getElem?_eq_getElem h]
theorem getD_memg {α : Type} (z : α) (l : List α) (j : Nat) (h : j < l.length) : l.getD j z ∈ l := by
  have : l.getD j z = l[j] := by simp [List.getD_eq_getElem?_getD, List.getElem?_eq_getElem h]
  rw [this]; exact List.getElem_mem h
theorem all_dropg {α : Type} (z : α) (p : α → Bool) (l : List α) (i : Nat) (h : i < l.length) : (l.drop i).all p = (p (l.getD i z) && (l.drop (i + 1)).all p) := by
  rw [drop_g z l i h, List.all_cons]

theorem rdE (l : List S35) (i : Nat) : rd_T35 l (i : Int) = l.getD i z35 := by simp [rd_T35]
def entryOk (a w : Int) (h : Bool) (s : ByteArray) : Bool := decide (placeOk a = true ∧ 0 ≤ w ∧ w ≤ 30 ∧ (w = 0 ∨ epochOf a < w) ∧ s.size ≤ 40 ∧ (h = true → 0 < w ∧ s.toList = []))

def eOk (x : S35) : Bool := entryOk x.f0 x.f1 x.f2 x.f3
def ascPE : Int → List S35 → Bool
  | _, [] => true
  | p, x :: t => decide (p < x.f0) && ascPE x.f0 t
def placesAsc : List S35 → Bool
  | [] => true
  | x :: t => ascPE x.f0 t
def storeOk (kept late : List S35) (seal_ : Int) : Bool := decide (kept.length ≤ 200) && decide (late.length ≤ 20) && kept.all eOk && late.all eOk && placesAsc kept && decide (0 ≤ seal_ ∧ seal_ ≤ 30)

def takesB (e : S35) (c : Int) : Bool := if e.f1 = 0 then decide (epochOf e.f0 > c) else decide (e.f1 > c)
def storePut (kept late : List S35) (c : Int) (e : S35) : List S35 × List S35 × Int × Bool :=
  if storeOk kept late c = true then
    (if entryOk e.f0 e.f1 e.f2 e.f3 = true ∧ takesB e c = true ∧ ¬ (late.length : Int) = 20 then (kept, late ++ [e], c, true) else (kept, late, c, false))
  else ([], [], 0, false)
theorem spec_EntryOk_f (a w : Int) (h : Bool) (s : ByteArray) (ha : (Lit.int .i64 a).wf = true) : spec_EntryOk.f a w h s = some (entryOk a w h s) := by
  have he := epochOf_bd a
  unfold spec_EntryOk.f entryOk
  rw [spec_PlaceOk_f a ha, spec_EpochOf_f a ha]
  simp only [Option.bind_some, spec_l1In_f]
  by_cases h1 : placeOk a = true
  · by_cases h2 : 0 ≤ w ∧ w ≤ 30
    · by_cases h3 : w > 0
      · by_cases h4 : w ≤ epochOf a
        · simp [h1, h2, h3, h4]; omega
        · by_cases h5 : (s.size : Int) > 40
          · simp [h1, h2, h3, h4, h5]; omega
          · have h5' : s.size ≤ 40 := by omega
            have h4' : epochOf a < w := by omega
            by_cases h6 : s.toList = [] <;> cases h <;> simp [h1, h2, h3, h4, h4', h5, h5', h6]
      · have h3' : w = 0 := by omega
        subst h3'
        by_cases h5 : (s.size : Int) > 40
        · simp [h1, h5]; omega
        · have h5' : s.size ≤ 40 := by omega
          cases h <;> simp [h1, h5, h5']
    · simp [h1, h2]; omega
  · simp [h1]

theorem spec_l6List_l0 (l : List S35) (hn : l.length < 4611686018427387904) (hw : ∀ x ∈ l, (Lit.int .i64 x.f0).wf = true) : ∀ i, i ≤ l.length → Ev (fun k => spec_l6List.l0 k l (i : Int)) ((l.drop i).all eOk) := by
  refine down l.length ?_ ?_
  · refine Ev.step (f := fun _ => some true) (fun k => by rw [spec_l6List.l0, if_neg (by omega)]) (Evto ?_ (Ev.now _))
    rw [List.drop_length]; rfl
  · intro i hi ih
    have hi1 : (i : Int) < l.length := by omega
    have he := spec_EntryOk_f (l.getD i z35).f0 (l.getD i z35).f1 (l.getD i z35).f2 (l.getD i z35).f3 (hw _ (getD_memg _ l i hi))
    rw [all_dropg z35 eOk l i hi]
    cases hv : eOk (l.getD i z35) with
    | true =>
      have hv' : entryOk (l.getD i z35).f0 (l.getD i z35).f1 (l.getD i z35).f2 (l.getD i z35).f3 = true := hv
      exact Ev.step (f := fun k => spec_l6List.l0 k l ((i + 1 : Nat) : Int)) (fun k => by rw [spec_l6List.l0, if_pos hi1, if_pos (by omega), rdE, he, Option.bind_some, if_pos hv', wsucc i (by omega)]) ih
    | false =>
      have hv' : entryOk (l.getD i z35).f0 (l.getD i z35).f1 (l.getD i z35).f2 (l.getD i z35).f3 = false := hv
      exact Ev.step (f := fun _ => some false) (fun k => by rw [spec_l6List.l0, if_pos hi1, if_pos (by omega), rdE, he, Option.bind_some, hv', if_neg Bool.false_ne_true]) (Ev.now _)
theorem spec_l6List_f (l : List S35) (a : Nat) (hn : l.length < 4611686018427387904) (hw : ∀ x ∈ l, (Lit.int .i64 x.f0).wf = true) : Ev (fun k => spec_l6List.f k l (a : Int)) (decide (l.length ≤ a) && l.all eOk) := by
  by_cases h : (l.length : Int) > a
  · refine Ev.congr (f := fun _ => some false) (fun k => by rw [spec_l6List.f, if_pos h]) (Evto ?_ (Ev.now _))
    rw [decide_eq_false (show ¬ l.length ≤ a by omega)]; rfl
  · refine Ev.congr (fun k => by rw [spec_l6List.f, if_neg h]; rfl) (Evto ?_ (spec_l6List_l0 l hn hw 0 (by omega)))
    rw [decide_eq_true (show l.length ≤ a by omega)]; rfl
theorem spec_l6Asc_l0 (l : List S35) (hn : l.length < 4611686018427387904) : ∀ i, i ≤ l.length → 1 ≤ i → Ev (fun k => spec_l6Asc.l0 k l (i : Int)) (ascPE (l.getD (i - 1) z35).f0 (l.drop i)) := by
  refine down l.length ?_ ?_
  · intro h1
    refine Ev.step (f := fun _ => some true) (fun k => by rw [spec_l6Asc.l0, if_neg (by omega)]) (Evto ?_ (Ev.now _))
    rw [List.drop_length]; rfl
  · intro i hi ih h1
    have hm : wrap64 ((i : Int) - 1) = ((i - 1 : Nat) : Int) := by rw [w64 (by omega) (by omega)]; omega
    have hi1 : (i : Int) < l.length := by omega
    have hi2 : 0 ≤ ((i - 1 : Nat) : Int) := by omega
    have hi3 : ((i - 1 : Nat) : Int) < l.length := by omega
    have hi4 : 0 ≤ (i : Int) := by omega
    have hw := wsucc i (by omega)
    rw [drop_g z35 l i hi, ascPE]
    by_cases hlt : (l.getD (i - 1) z35).f0 < (l.getD i z35).f0
    · refine Ev.step (f := fun k => spec_l6Asc.l0 k l ((i + 1 : Nat) : Int)) (fun k => ?_) (Evto ?_ (ih (by omega)))
      · rw [spec_l6Asc.l0, if_pos hi1, hm, if_pos hi2, if_pos hi3, if_pos hi4, rdE, rdE, if_neg (by omega), hw]
      · rw [decide_eq_true hlt]; rfl
    · refine Ev.step (f := fun _ => some false) (fun k => ?_) (Evto ?_ (Ev.now _))
      · rw [spec_l6Asc.l0, if_pos hi1, hm, if_pos hi2, if_pos hi3, if_pos hi4, rdE, rdE, if_pos (by omega)]
      · rw [decide_eq_false hlt]; rfl
theorem spec_l6Asc_f (l : List S35) (hn : l.length < 4611686018427387904) : Ev (fun k => spec_l6Asc.f k l) (placesAsc l) := by
  cases l with
  | nil => exact Ev.step (f := fun _ => some true) (fun k => by rw [spec_l6Asc.f, spec_l6Asc.l0, if_neg (by simp)]) (Ev.now _)
  | cons x t => exact Ev.congr (fun k => by rw [spec_l6Asc.f]; rfl) (spec_l6Asc_l0 (x :: t) hn 1 (by simp) (by omega))
theorem spec_StoreOk_f (kept late : List S35) (c : Int) (hk : kept.length < 4611686018427387904) (hl : late.length < 4611686018427387904) (hwk : ∀ x ∈ kept, (Lit.int .i64 x.f0).wf = true) (hwl : ∀ x ∈ late, (Lit.int .i64 x.f0).wf = true) : Ev (fun k => spec_StoreOk.f k kept late c) (storeOk kept late c) := by
  unfold spec_StoreOk.f storeOk
  refine Evbind (spec_l6List_f kept 200 hk hwk) ?_
  cases h1 : decide (kept.length ≤ 200) && kept.all eOk with
  | false =>
    refine Evneg Bool.false_ne_true (Evto ?_ (Ev.now _))
    simp only [Bool.and_eq_false_iff] at h1
    rcases h1 with h1 | h1 <;> simp [h1]
  | true =>
    simp only [Bool.and_eq_true] at h1
    refine Evpos rfl (Evbind (spec_l6List_f late 20 hl hwl) ?_)
    cases h2 : decide (late.length ≤ 20) && late.all eOk with
    | false =>
      refine Evneg Bool.false_ne_true (Evto ?_ (Ev.now _))
      simp only [Bool.and_eq_false_iff] at h2
      rcases h2 with h2 | h2 <;> simp [h2]
    | true =>
      simp only [Bool.and_eq_true] at h2
      refine Evpos rfl (Evbind (spec_l6Asc_f kept hk) ?_)
      cases h3 : placesAsc kept with
      | false => exact Evneg Bool.false_ne_true (Evto (by simp) (Ev.now _))
      | true =>
        refine Evpos rfl (Evbind (Evconst (spec_l1In_f c 0 30)) (Evto ?_ (Ev.now _)))
        rw [h1.1, h1.2, h2.1, h2.2]; rfl

theorem spec_l6Copy_f (x y : List S35) (c : Int) (hx : x.length < 3518437208883) (hy : y.length < 3518437208883) : spec_l6Copy.f x y c = some (x, y, c) := by
  unfold spec_l6Copy.f
  rw [Option.bind_some, if_pos (by simpa using hx), Option.bind_some, if_pos (by simpa using hy)]; rfl

theorem spec_l6Takes_f (kept late : List S35) (c : Int) (e : S35) (he : (Lit.int .i64 e.f0).wf = true) : spec_l6Takes.f kept late c e.f0 e.f1 e.f2 e.f3 = some (takesB e c) := by
  unfold spec_l6Takes.f takesB
  by_cases h : e.f1 = 0
  · rw [if_pos h, if_pos h, spec_EpochOf_f _ he, Option.bind_some]
  · rw [if_neg h, if_neg h]
theorem spec_StorePut_f (kept late : List S35) (c : Int) (e : S35) (hk : kept.length < 1000000000) (hl : late.length < 1000000000) (hwk : ∀ x ∈ kept, (Lit.int .i64 x.f0).wf = true) (hwl : ∀ x ∈ late, (Lit.int .i64 x.f0).wf = true) (he : (Lit.int .i64 e.f0).wf = true) : Ev (fun k => spec_StorePut.f k kept late c e.f0 e.f1 e.f2 e.f3) (storePut kept late c e) := by
  unfold spec_StorePut.f storePut
  refine Evbind (spec_StoreOk_f kept late c (by omega) (by omega) hwk hwl) ?_
  by_cases h : storeOk kept late c = true
  · refine Evpos h (Evto (if_pos h).symm (Evbind (Evconst (spec_l6Copy_f kept late c (by omega) (by omega))) (Evbind (Evconst (spec_EntryOk_f _ _ _ _ he)) ?_)))
    by_cases h1 : entryOk e.f0 e.f1 e.f2 e.f3 = true
    · refine Evpos h1 (Evbind (Evconst (spec_l6Takes_f kept late c e he)) ?_)
      by_cases h2 : takesB e c = true
      · refine Evpos h2 ?_
        by_cases h3 : (late.length : Int) = 20
        · exact Evpos h3 (Evto (if_neg (fun hh => hh.2.2 h3)).symm (Ev.now _))
        · exact Evneg h3 (Evto (if_pos ⟨h1, h2, h3⟩).symm (Evpos (by show late.length < _; omega) (Ev.now _)))
      · exact Evneg h2 (Evto (if_neg (fun hh => h2 hh.2.1)).symm (Ev.now _))
    · exact Evneg h1 (Evto (if_neg (fun hh => h1 hh.1)).symm (Ev.now _))
  · exact Evneg h (Evto (if_neg h).symm (Ev.now _))

theorem storeOk_asc {kept late : List S35} {c : Int} (h : storeOk kept late c = true) : placesAsc kept = true ∧ kept.length ≤ 200 ∧ late.length ≤ 20 ∧ (∀ x ∈ kept, eOk x = true) ∧ (∀ x ∈ late, eOk x = true) ∧ 0 ≤ c ∧ c ≤ 30 := by
  simp only [storeOk, Bool.and_eq_true, decide_eq_true_eq, List.all_eq_true] at h
  exact ⟨h.1.2, h.1.1.1.1.1, h.1.1.1.1.2, h.1.1.1.2, h.1.1.2, h.2.1, h.2.2⟩

theorem ascPG_eq (l : List S35) : ∀ p, ascPG p l = ascPE p l := by
  induction l with
  | nil => intro p; rfl
  | cons x t ih => intro p; rw [ascPG, ascPE, ih]
theorem plAscG_eq (l : List S35) : plAscG l = placesAsc l := by
  cases l with
  | nil => rfl
  | cons x t => exact ascPG_eq t x.f0

abbrev getT := Int × Int × Bool × ByteArray × Bool
def getZ : getT := (0, 0, false, (⟨#[]⟩ : ByteArray), false)
def getF (x : S35) : getT := (x.f0, x.f1, x.f2, x.f3, true)
def getM : List S35 → Int → getT
  | [], _ => getZ
  | x :: t, p => if x.f0 = p then getF x else getM t p
def storeGet (kept late : List S35) (c p : Int) : getT := if storeOk kept late c = true then getM kept p else getZ
theorem getM_none (l : List S35) (p : Int) (h : ∀ y ∈ l, y.f0 ≠ p) : getM l p = getZ := by
  induction l with
  | nil => rfl
  | cons x t ih =>
    rw [getM, if_neg (h x List.mem_cons_self)]
    exact ih (fun y hy => h y (List.mem_cons_of_mem _ hy))
theorem getM_found (p : Int) (l : List S35) : ∀ q, ascPE q l = true → (lowG l p ≤ l.length) ∧ getM l p = if foundG l p = true then getF (l.getD (lowG l p) z35) else getZ := by
  induction l with
  | nil => intro q _; exact ⟨by simp [lowG], by simp [foundG, lowG, getM]⟩
  | cons x t ih =>
    intro q h
    simp only [ascPE, Bool.and_eq_true, decide_eq_true_eq] at h
    have ih' := ih x.f0 h.2
    by_cases hx : x.f0 < p
    · have hl : lowG (x :: t) p = lowG t p + 1 := by unfold lowG; rw [List.countP_cons_of_pos (by simpa using hx)]
      have hf : foundG (x :: t) p = foundG t p := by
        unfold foundG
        rw [hl]
        simp
      rw [hl, hf, getM, if_neg (by omega), ih'.2]
      refine ⟨by simp; exact ih'.1, ?_⟩
      simp
    · have hall : ∀ y ∈ t, x.f0 < y.f0 := by
        have := (ascPG_all t x.f0 (by rw [ascPG_eq]; exact h.2)).1
        exact this
      have hl : lowG (x :: t) p = 0 := by
        unfold lowG
        rw [List.countP_eq_zero]
        intro y hy
        rcases List.mem_cons.1 hy with rfl | hy
        · simpa using hx
        · have := hall y hy; simp; omega
      have hf : foundG (x :: t) p = decide (x.f0 = p) := by unfold foundG; rw [hl]; simp
      rw [hl, hf, getM]
      refine ⟨by omega, ?_⟩
      by_cases he : x.f0 = p
      · rw [if_pos he, if_pos (decide_eq_true he)]; simp
      · rw [if_neg he, if_neg (by simpa using he)]
        exact getM_none t p (fun y hy => by have := hall y hy; omega)
theorem getM_asc (p : Int) (l : List S35) (h : placesAsc l = true) : getM l p = if foundG l p = true then getF (l.getD (lowG l p) z35) else getZ := by
  cases l with
  | nil => exact (getM_found p [] 0 rfl).2
  | cons x t => exact (getM_found p (x :: t) (x.f0 - 1) (by simp only [ascPE, Bool.and_eq_true, decide_eq_true_eq]; exact ⟨by omega, h⟩)).2
theorem foundG_lt {l : List S35} {p : Int} (h : foundG l p = true) : lowG l p < l.length := by
  simp only [foundG, Bool.and_eq_true, decide_eq_true_eq] at h; exact h.1

def bet (a b : S35) : S35 := if b.f1 > a.f1 then b else a
def keepM (e : S35) : List S35 → List S35
  | [] => [e]
  | x :: t => if x.f0 = e.f0 then bet x e :: t else if x.f0 > e.f0 then e :: x :: t else x :: keepM e t
theorem keepM_len (e : S35) (l : List S35) : l.length ≤ (keepM e l).length ∧ (keepM e l).length ≤ l.length + 1 := by
  induction l with
  | nil => simp [keepM]
  | cons x t ih =>
    rw [keepM]
    by_cases h1 : x.f0 = e.f0
    · rw [if_pos h1]; simp
    · rw [if_neg h1]
      by_cases h2 : x.f0 > e.f0
      · rw [if_pos h2]; simp
      · rw [if_neg h2]; simp only [List.length_cons]; omega
theorem placesAsc_iff (l : List S35) : placesAsc l = true ↔ ∃ p, ascPE p l = true := by
  cases l with
  | nil => exact ⟨fun _ => ⟨0, rfl⟩, fun _ => rfl⟩
  | cons x t =>
    constructor
    · intro h; exact ⟨x.f0 - 1, by simp only [ascPE, Bool.and_eq_true, decide_eq_true_eq]; exact ⟨by omega, h⟩⟩
    · rintro ⟨p, h⟩; simp only [ascPE, Bool.and_eq_true, decide_eq_true_eq] at h; exact h.2
theorem ascPE_weak (l : List S35) (p q : Int) (h : ascPE p l = true) (hq : q ≤ p) : ascPE q l = true := by
  cases l with
  | nil => rfl
  | cons x t => simp only [ascPE, Bool.and_eq_true, decide_eq_true_eq] at h ⊢; exact ⟨by omega, h.2⟩
def bitOn (keep : Int) (i : Nat) : Bool := decide ((Go.bits .and .i64 (shr .i64 keep (i : Int)) 1) = 1)
def crashG (keep : Int) : Nat → List S35 → List S35 → List S35
  | _, [], kept => kept
  | i, x :: t, kept => crashG keep (i + 1) t (if bitOn keep i = true then keepM x kept else kept)
abbrev stT := List S35 × List S35 × Int × Bool
def storeCrash (kept late : List S35) (c keep : Int) : stT :=
  if storeOk kept late c = true then
    (if (0 ≤ keep ∧ keep ≤ 1048575) ∧ (crashG keep 0 late kept).length ≤ 200 then (crashG keep 0 late kept, [], c, true) else (kept, late, c, false))
  else ([], [], 0, false)
theorem specBetter (a b : S35) : spec_Better.f a.f0 a.f1 a.f2 a.f3 b.f0 b.f1 b.f2 b.f3 = some ((bet a b).f0, (bet a b).f1, (bet a b).f2, (bet a b).f3) := by
  unfold spec_Better.f bet
  by_cases h : b.f1 > a.f1
  · rw [if_pos h, if_pos h]
  · rw [if_neg h, if_neg h]
theorem spec_l6Keep_true (l : List S35) (e : S35) (hn : l.length < 1000) : ∀ i, i ≤ l.length → ∀ out : List S35, out.length ≤ i + 1 → Ev (fun k => spec_l6Keep.l0 k l out true (i : Int) e.f0 e.f1 e.f2 e.f3) (out ++ l.drop i) := by
  refine down l.length ?_ ?_
  · intro out ho
    refine Ev.step (f := fun _ => some out) (fun k => by rw [spec_l6Keep.l0, if_neg (by omega), if_pos rfl]) (Evto ?_ (Ev.now _))
    rw [List.drop_length, List.append_nil]
  · intro i hi ih out ho
    have hi1 : (i : Int) < l.length := by omega
    have hi2 : 0 ≤ (i : Int) := by omega
    have ho1 : out.length < 3518437208883 := by omega
    have hw := wsucc i (by omega)
    refine Ev.step (f := fun k => spec_l6Keep.j1 k l out true (i : Int) false e.f0 e.f1 e.f2 e.f3) (fun k => by rw [spec_l6Keep.l0, if_pos hi1, if_pos rfl]) ?_
    refine Ev.step (f := fun k => spec_l6Keep.l0 k l (out ++ [l.getD i z35]) true ((i + 1 : Nat) : Int) e.f0 e.f1 e.f2 e.f3) (fun k => by rw [spec_l6Keep.j1, if_neg Bool.false_ne_true, if_pos rfl, if_pos hi2, if_pos hi1, if_pos ho1, hw, rdE]) (Evto ?_ (ih _ (by simp; omega)))
    rw [drop_g z35 l i hi, List.append_assoc]; rfl
theorem spec_l6Keep_false (l : List S35) (e : S35) (hn : l.length < 1000) : ∀ i, i ≤ l.length → ∀ out : List S35, out.length ≤ i → Ev (fun k => spec_l6Keep.l0 k l out false (i : Int) e.f0 e.f1 e.f2 e.f3) (out ++ keepM e (l.drop i)) := by
  refine down l.length ?_ ?_
  · intro out ho
    refine Ev.step (f := fun _ => some (out ++ [e])) (fun k => by rw [spec_l6Keep.l0, if_neg (by omega), if_neg Bool.false_ne_true, if_pos (by omega)]) (Evto ?_ (Ev.now _))
    rw [List.drop_length]; rfl
  · intro i hi ih out ho
    have hi1 : (i : Int) < l.length := by omega
    have hi2 : 0 ≤ (i : Int) := by omega
    have ho1 : out.length < 3518437208883 := by omega
    have ho2 : (out ++ [e]).length < 3518437208883 := by rw [List.length_append]; simp only [List.length_cons, List.length_nil]; omega
    have ho3 : (out ++ [bet (l.getD i z35) e]).length ≤ i + 1 + 1 := by rw [List.length_append]; simp only [List.length_cons, List.length_nil]; omega
    have ho4 : ((out ++ [e]) ++ [l.getD i z35]).length ≤ i + 1 + 1 := by rw [List.length_append, List.length_append]; simp only [List.length_cons, List.length_nil]; omega
    have ho5 : (out ++ [l.getD i z35]).length ≤ i + 1 := by rw [List.length_append]; simp only [List.length_cons, List.length_nil]; omega
    have hw := wsucc i (by omega)
    refine Ev.step (f := fun k => spec_l6Keep.j1 k l out false (i : Int) ((l.getD i z35).f0 == e.f0) e.f0 e.f1 e.f2 e.f3) (fun k => by rw [spec_l6Keep.l0, if_pos hi1, if_neg Bool.false_ne_true, if_pos hi2, rdE]) ?_
    rw [drop_g z35 l i hi, keepM]
    by_cases h1 : (l.getD i z35).f0 = e.f0
    · refine Ev.step (f := fun k => spec_l6Keep.l0 k l (out ++ [bet (l.getD i z35) e]) true ((i + 1 : Nat) : Int) e.f0 e.f1 e.f2 e.f3) (fun k => by rw [spec_l6Keep.j1, if_pos (beq_iff_eq.2 h1), if_pos hi2, if_pos hi1, rdE, specBetter, Option.bind_some, if_pos ho1, hw]) (Evto ?_ (spec_l6Keep_true l e hn (i + 1) (by omega) _ ho3))
      rw [if_pos h1, List.append_assoc]; rfl
    · rw [if_neg h1]
      by_cases h2 : (l.getD i z35).f0 > e.f0
      · refine Ev.step (f := fun k => spec_l6Keep.l0 k l ((out ++ [e]) ++ [l.getD i z35]) true ((i + 1 : Nat) : Int) e.f0 e.f1 e.f2 e.f3) (fun k => by rw [spec_l6Keep.j1, if_neg (by simpa using h1), if_neg Bool.false_ne_true, if_pos hi2, if_pos hi1, rdE, if_pos h2, if_pos ho1, Option.bind_some, if_pos ho2, hw]) (Evto ?_ (spec_l6Keep_true l e hn (i + 1) (by omega) _ ho4))
        rw [if_pos h2, List.append_assoc, List.append_assoc]; rfl
      · refine Ev.step (f := fun k => spec_l6Keep.l0 k l (out ++ [l.getD i z35]) false ((i + 1 : Nat) : Int) e.f0 e.f1 e.f2 e.f3) (fun k => by rw [spec_l6Keep.j1, if_neg (by simpa using h1), if_neg Bool.false_ne_true, if_pos hi2, if_pos hi1, rdE, if_neg h2, if_pos ho1, hw]) (Evto ?_ (ih _ ho5))
        rw [if_neg h2, List.append_assoc]; rfl
theorem spec_l6Keep_f (l : List S35) (e : S35) (hn : l.length < 1000) : Ev (fun k => spec_l6Keep.f k l e.f0 e.f1 e.f2 e.f3) (keepM e l) := by
  unfold spec_l6Keep.f
  exact spec_l6Keep_false l e hn 0 (by omega) [] (by simp)

theorem spec_StoreCrash_l0 (keep c : Int) (kept late : List S35) (hk : kept.length ≤ 200) (hl : late.length ≤ 20) : ∀ i, i ≤ late.length → ∀ cur : List S35, cur.length ≤ 200 + i →
    Ev (fun k => spec_StoreCrash.l0 k keep (i : Int) kept late c cur c) (if (0 ≤ keep ∧ keep ≤ 1048575) ∧ (crashG keep i (late.drop i) cur).length ≤ 200 then (crashG keep i (late.drop i) cur, [], c, true) else (kept, late, c, false)) := by
  have hcp := spec_l6Copy_f kept late c (by omega) (by omega)
  refine down late.length ?_ ?_
  · intro cur hc
    rw [List.drop_length, crashG]
    refine Ev.step (f := fun _ => (spec_l1In.f keep 0 1048575).bind fun t237 => (if t237 = true then (if (cur.length : Int) > 200 then ((spec_l6Copy.f kept late c).bind fun bt238 => (some (bt238.1, bt238.2.1, bt238.2.2, false))) else (some (cur, ([] : List (S35)), c, true))) else ((spec_l6Copy.f kept late c).bind fun bt245 => (some (bt245.1, bt245.2.1, bt245.2.2, false))))) (fun k => by rw [spec_StoreCrash.l0, if_neg (by omega)]) ?_
    refine Evbind (Evconst (spec_l1In_f keep 0 1048575)) ?_
    by_cases hb : 0 ≤ keep ∧ keep ≤ 1048575
    · refine Evpos (decide_eq_true hb) ?_
      by_cases h2 : (cur.length : Int) > 200
      · refine Evpos h2 (Evto (if_neg (by omega)).symm (Evbind (Evconst hcp) (Ev.now _)))
      · exact Evneg h2 (Evto (if_pos ⟨hb, by omega⟩).symm (Ev.now _))
    · exact Evneg (by simpa using hb) (Evto (if_neg (fun h => hb h.1)).symm (Evbind (Evconst hcp) (Ev.now _)))
  · intro i hi ih cur hc
    have hi1 : (i : Int) < (late.length : Int) := by omega
    have hi2 : 0 ≤ (i : Int) := by omega
    have hkl := keepM_len (late.getD i z35) cur
    have hc1 : cur.length ≤ 200 + (i + 1) := by omega
    have hc2 : (keepM (late.getD i z35) cur).length ≤ 200 + (i + 1) := by omega
    have hkp := spec_l6Keep_f cur (late.getD i z35) (by omega)
    have hw := wsucc i (by omega)
    rw [drop_g z35 late i hi, crashG]
    by_cases hbt : (Go.bits .and .i64 (shr .i64 keep (i : Int)) 1) = 1
    · rw [if_pos (show bitOn keep i = true from decide_eq_true hbt)]
      exact Ev.step (f := fun k => (spec_l6Keep.f k cur (late.getD i z35).f0 (late.getD i z35).f1 (late.getD i z35).f2 (late.getD i z35).f3).bind fun t234 => (spec_StoreCrash.l0 k keep ((i + 1 : Nat) : Int) kept late c t234 c)) (fun k => by rw [spec_StoreCrash.l0, if_pos hi1, if_pos hi2, if_pos hbt, rdE, hw]) (Evbind hkp (ih _ hc2))
    · rw [if_neg (show ¬ bitOn keep i = true by unfold bitOn; simpa using hbt)]
      exact Ev.step (f := fun k => spec_StoreCrash.l0 k keep ((i + 1 : Nat) : Int) kept late c cur c) (fun k => by rw [spec_StoreCrash.l0, if_pos hi1, if_pos hi2, if_neg hbt, hw]) (ih _ hc1)
theorem spec_StoreCrash_f (kept late : List S35) (c keep : Int) (hk : kept.length < 4611686018427387904) (hl : late.length < 4611686018427387904) (hwk : ∀ x ∈ kept, (Lit.int .i64 x.f0).wf = true) (hwl : ∀ x ∈ late, (Lit.int .i64 x.f0).wf = true) : Ev (fun k => spec_StoreCrash.f k kept late c keep) (storeCrash kept late c keep) := by
  unfold spec_StoreCrash.f storeCrash
  refine Evbind (spec_StoreOk_f kept late c hk hl hwk hwl) ?_
  by_cases h : storeOk kept late c = true
  · have hs := storeOk_asc h
    refine Evpos h (Evto (if_pos h).symm (Evsome (Evpos (by simp; omega) ?_)))
    exact spec_StoreCrash_l0 keep c kept late hs.2.1 hs.2.2.1 0 (by omega) kept (by omega)
  · exact Evneg h (Evto (if_neg h).symm (Ev.now _))

theorem spec_StoreSync_f (kept late : List S35) (c : Int) (hk : kept.length < 4611686018427387904) (hl : late.length < 4611686018427387904) (hwk : ∀ x ∈ kept, (Lit.int .i64 x.f0).wf = true) (hwl : ∀ x ∈ late, (Lit.int .i64 x.f0).wf = true) : Ev (fun k => spec_StoreSync.f k kept late c) (storeCrash kept late c 1048575) := by
  unfold spec_StoreSync.f
  exact Evbind (spec_StoreCrash_f kept late c 1048575 hk hl hwk hwl) (Ev.now _)

def maxS (a b : Int) : Int := if a < b then b else a
def storeSeal (kept late : List S35) (c upto : Int) : stT :=
  if storeOk kept late c = true then
    (if (storeCrash kept late c 1048575).2.2.2 = true ∧ (0 ≤ upto ∧ upto ≤ 30) then ((storeCrash kept late c 1048575).1, (storeCrash kept late c 1048575).2.1, maxS (storeCrash kept late c 1048575).2.2.1 upto, true) else (kept, late, c, false))
  else ([], [], 0, false)
theorem spec_l1Max_f (a b : Int) : spec_l1Max.f a b = some (maxS a b) := by
  unfold spec_l1Max.f maxS
  by_cases h : a > b
  · rw [if_pos h, if_neg (by omega)]
  · rw [if_neg h]
    by_cases h2 : a < b
    · rw [if_pos h2]
    · rw [if_neg h2]; congr 1; omega
theorem spec_StoreSeal_f (kept late : List S35) (c upto : Int) (hk : kept.length < 4611686018427387904) (hl : late.length < 4611686018427387904) (hwk : ∀ x ∈ kept, (Lit.int .i64 x.f0).wf = true) (hwl : ∀ x ∈ late, (Lit.int .i64 x.f0).wf = true) : Ev (fun k => spec_StoreSeal.f k kept late c upto) (storeSeal kept late c upto) := by
  have hsy := spec_StoreSync_f kept late c hk hl hwk hwl
  unfold spec_StoreSeal.f storeSeal
  refine Evbind (spec_StoreOk_f kept late c hk hl hwk hwl) ?_
  by_cases h : storeOk kept late c = true
  · have hs := storeOk_asc h
    have hcp := spec_l6Copy_f kept late c (by omega) (by omega)
    refine Evpos h (Evto (if_pos h).symm (Evbind hsy ?_))
    generalize storeCrash kept late c 1048575 = P at *
    have hno : ∀ a b d, Ev (fun k => spec_StoreSeal.j0 k upto true kept late c a b d) (kept, late, c, false) := fun a b d =>
      Ev.step (fun k => by rw [spec_StoreSeal.j0, if_pos rfl]) (Evbind (Evconst hcp) (Ev.now _))
    by_cases hp : P.2.2.2 = true
    · refine Evpos hp (Evbind (Evconst (spec_l1In_f upto 0 30)) ?_)
      by_cases hu : 0 ≤ upto ∧ upto ≤ 30
      · rw [decide_eq_true hu]
        refine Evto (if_pos ⟨hp, hu⟩).symm (Ev.step (fun k => by rw [show (!true) = false from rfl, spec_StoreSeal.j0, if_neg Bool.false_ne_true]) ?_)
        exact Evbind (Evconst (spec_l1Max_f _ _)) (Ev.now _)
      · rw [decide_eq_false hu]
        exact Evto (if_neg (fun h => hu h.2)).symm (hno _ _ _)
    · exact Evneg hp (Evto (if_neg (fun h => hp h.1)).symm (hno _ _ _))
  · exact Evneg h (Evto (if_neg h).symm (Ev.now _))

theorem keepM_mem (e : S35) (l : List S35) : ∀ x ∈ keepM e l, x = e ∨ x ∈ l := by
  induction l with
  | nil => intro x hx; exact .inl (List.mem_singleton.1 hx)
  | cons y t ih =>
    intro x hx
    rw [keepM] at hx
    by_cases h1 : y.f0 = e.f0
    · rw [if_pos h1] at hx
      rcases List.mem_cons.1 hx with h | h
      · unfold bet at h
        split at h
        · exact .inl h
        · exact .inr (h ▸ List.mem_cons_self)
      · exact .inr (List.mem_cons_of_mem _ h)
    · rw [if_neg h1] at hx
      by_cases h2 : y.f0 > e.f0
      · rw [if_pos h2] at hx
        rcases List.mem_cons.1 hx with h | h
        · exact .inl h
        · exact .inr h
      · rw [if_neg h2] at hx
        rcases List.mem_cons.1 hx with h | h
        · exact .inr (h ▸ List.mem_cons_self)
        · rcases ih x h with h | h
          · exact .inl h
          · exact .inr (List.mem_cons_of_mem _ h)
theorem crashG_mem (keep : Int) (late : List S35) : ∀ i kept, ∀ x ∈ crashG keep i late kept, x ∈ kept ∨ x ∈ late := by
  induction late with
  | nil => intro i kept x hx; exact .inl hx
  | cons y t ih =>
    intro i kept x hx
    rw [crashG] at hx
    rcases ih _ _ x hx with h | h
    · split at h
      · rcases keepM_mem y kept x h with h | h
        · exact .inr (h ▸ List.mem_cons_self)
        · exact .inl h
      · exact .inl h
    · exact .inr (List.mem_cons_of_mem _ h)

def stI (n : Nat) (k l : List S35) : Prop := k.length ≤ n ∧ l.length ≤ n ∧ (∀ x ∈ k, (Lit.int .i64 x.f0).wf = true) ∧ (∀ x ∈ l, (Lit.int .i64 x.f0).wf = true)
theorem stI_nil (n : Nat) : stI n [] [] := ⟨by simp, by simp, by simp, by simp⟩
theorem stI_mono {n m : Nat} {k l : List S35} (h : stI n k l) (hnm : n ≤ m) : stI m k l := ⟨by have := h.1; omega, by have := h.2.1; omega, h.2.2⟩
theorem wf_snoc {l : List S35} {e : S35} (h : ∀ x ∈ l, (Lit.int .i64 x.f0).wf = true) (he : (Lit.int .i64 e.f0).wf = true) : ∀ x ∈ l ++ [e], (Lit.int .i64 x.f0).wf = true := by
  intro x hx
  rcases List.mem_append.1 hx with hx | hx
  · exact h x hx
  · rw [List.mem_singleton.1 hx]; exact he
theorem stI_put {n : Nat} (hn : 21 ≤ n) {k l : List S35} (c : Int) (e : S35) (h : stI n k l) (he : (Lit.int .i64 e.f0).wf = true) : stI n (storePut k l c e).1 (storePut k l c e).2.1 := by
  unfold storePut
  by_cases hs : storeOk k l c = true
  · rw [if_pos hs]
    have h0 := storeOk_asc hs
    by_cases h2 : entryOk e.f0 e.f1 e.f2 e.f3 = true ∧ takesB e c = true ∧ ¬ (l.length : Int) = 20
    · rw [if_pos h2]
      exact ⟨h.1, by rw [List.length_append, List.length_singleton]; omega, h.2.2.1, wf_snoc h.2.2.2 he⟩
    · rw [if_neg h2]; exact h
  · rw [if_neg hs]; exact stI_nil n
theorem stI_crash {n : Nat} (hn : 200 ≤ n) {k l : List S35} (c keep : Int) (h : stI n k l) : stI n (storeCrash k l c keep).1 (storeCrash k l c keep).2.1 := by
  unfold storeCrash
  by_cases hs : storeOk k l c = true
  · rw [if_pos hs]
    by_cases h2 : (0 ≤ keep ∧ keep ≤ 1048575) ∧ (crashG keep 0 l k).length ≤ 200
    · rw [if_pos h2]
      exact ⟨Nat.le_trans h2.2 hn, by simp, fun x hx => (crashG_mem keep l 0 k x hx).elim (h.2.2.1 x) (h.2.2.2 x), by simp⟩
    · rw [if_neg h2]; exact h
  · rw [if_neg hs]; exact stI_nil n
theorem stI_seal {n : Nat} (hn : 200 ≤ n) {k l : List S35} (c upto : Int) (h : stI n k l) : stI n (storeSeal k l c upto).1 (storeSeal k l c upto).2.1 := by
  unfold storeSeal
  by_cases hs : storeOk k l c = true
  · rw [if_pos hs]
    by_cases h2 : (storeCrash k l c 1048575).2.2.2 = true ∧ (0 ≤ upto ∧ upto ≤ 30)
    · rw [if_pos h2]; exact stI_crash hn c _ h
    · rw [if_neg h2]; exact h
  · rw [if_neg hs]; exact stI_nil n
abbrev drT := List S35 × List S35 × Int × Int × Int
def stR (n : Nat) (b : List Int) (r : drT) : Prop := stI n r.1 r.2.1 ∧ 0 ≤ r.2.2.2.1 ∧ r.2.2.2.1 ≤ b.length
theorem dr_l2 (b : List Int) (i h : Int) (late : List S35) (c : Int) (e : Int) (he : 0 ≤ e ∧ e ≤ 30) (M : Nat) (hM : M ≤ 1000)
    (hn : ∀ kept : List S35, kept.length ≤ M → (∀ x ∈ kept, (Lit.int .i64 x.f0).wf = true) → ∃ r, Ev (fun k => spec_l6DrawRight.l1 k (e + 1) b i h kept late c) r ∧ stR 300 b r) :
    ∀ o : Nat, o ≤ 51 → ∀ kept : List S35, kept.length + (51 - o) ≤ M → (∀ x ∈ kept, (Lit.int .i64 x.f0).wf = true) → ∃ r, Ev (fun k => spec_l6DrawRight.l2 k e (o : Int) b i h kept late c) r ∧ stR 300 b r := by
  refine down 51 ?_ ?_
  · intro kept hl hw
    obtain ⟨r, er, hr⟩ := hn kept (by omega) hw
    exact ⟨r, Ev.step (f := fun k => spec_l6DrawRight.l1 k (e + 1) b i h kept late c) (fun k => by rw [spec_l6DrawRight.l2, if_neg (by omega), w64 (n := e + 1) (by omega) (by omega)]) er, hr⟩
  · intro o ho ih kept hl hw
    obtain ⟨r, er, hr⟩ := ih (kept ++ [⟨4294967296 * e + (o : Int), 0, false, (⟨#[]⟩ : ByteArray)⟩]) (by rw [List.length_append, List.length_singleton]; omega) (wf_snoc hw (show (Lit.int .i64 (4294967296 * e + (o : Int))).wf = true from wf_mk64 (by omega) (by omega)))
    exact ⟨r, Ev.step (f := fun k => spec_l6DrawRight.l2 k e ((o + 1 : Nat) : Int) b i h (kept ++ [⟨4294967296 * e + (o : Int), 0, false, (⟨#[]⟩ : ByteArray)⟩]) late c) (fun k => by rw [spec_l6DrawRight.l2, if_pos (by omega), l1Place_f e (o : Int) (by omega) (by omega), Option.bind_some, if_pos (by omega), wsucc o (by omega)]) er, hr⟩
theorem dr_l1 (b : List Int) (i h : Int) (hi : 0 ≤ i ∧ i ≤ b.length) (late : List S35) (c : Int) (hll : late.length ≤ 300) (hwl : ∀ x ∈ late, (Lit.int .i64 x.f0).wf = true) :
    ∀ e : Nat, e ≤ 5 → ∀ kept : List S35, kept.length + 51 * (5 - e) ≤ 300 → (∀ x ∈ kept, (Lit.int .i64 x.f0).wf = true) → ∃ r, Ev (fun k => spec_l6DrawRight.l1 k (e : Int) b i h kept late c) r ∧ stR 300 b r := by
  refine down 5 ?_ ?_
  · intro kept hl hw
    exact ⟨_, Ev.step (f := fun _ => some (kept, late, c, i, h)) (fun k => by rw [spec_l6DrawRight.l1, if_neg (by omega)]) (Ev.now _), ⟨⟨by omega, hll, hw, hwl⟩, hi⟩⟩
  · intro e he ih kept hl hw
    obtain ⟨r, er, hr⟩ := dr_l2 b i h late c (e : Int) (by omega) (300 - 51 * (5 - (e + 1))) (by omega) (fun kept' hl' hw' => ih kept' (by omega) hw') 1 (by omega) kept (by omega) hw
    exact ⟨r, Ev.step (f := fun k => spec_l6DrawRight.l2 k (e : Int) ((1 : Nat) : Int) b i h kept late c) (fun k => by rw [spec_l6DrawRight.l1, if_pos (by omega)]; rfl) er, hr⟩
theorem dr_l0 (b : List Int) (hb : b.length < 4611686018427387904) (n : Nat) (hn : n ≤ 8) : ∀ j : Nat, j ≤ n → ∀ (i h : Int) (kept late : List S35) (c : Int), 0 ≤ i → i ≤ b.length → stI 300 kept late → ∃ r, Ev (fun k => spec_l6DrawRight.l0 k (n : Int) (j : Int) b i h kept late c) r ∧ stR 300 b r := by
  refine down n ?_ ?_
  · intro i h kept late c h0 h1 hs
    obtain ⟨o, i1, g1, e1, b1⟩ := l1Once_f b i h 40 h0 h1 hb
    cases o with
    | true =>
      obtain ⟨r, er, hr⟩ := dr_l1 b i1 g1 ⟨b1.1, b1.2⟩ late c hs.2.1 hs.2.2.2 1 (by omega) [] (by simp) (by simp)
      exact ⟨r, Ev.step (fun k => by rw [spec_l6DrawRight.l0, if_neg (by omega)]) (Evbind (Evconst e1) (Evpos rfl er)), hr⟩
    | false => exact ⟨_, Ev.step (fun k => by rw [spec_l6DrawRight.l0, if_neg (by omega)]) (Evbind (Evconst e1) (Evneg Bool.false_ne_true (Ev.now _))), hs, b1⟩
  · intro j hj ih i h kept late c h0 h1 hs
    have hjn : (j : Int) < (n : Int) := by omega
    obtain ⟨a, w, hl, s, i1, g1, e1, wa, ww, _, b10, b11, _⟩ := l3DrawRight_f b i h h0 h1 hb
    obtain ⟨x2, i2, g2, e2, b2⟩ := l1Below_f b i1 g1 6 b10 b11 hb
    have hput := spec_StorePut_f kept late c ⟨a, w, hl, s⟩ (by have := hs.1; omega) (by have := hs.2.1; omega) hs.2.2.1 hs.2.2.2 wa
    have hsp := stI_put (n := 300) (by omega) c ⟨a, w, hl, s⟩ hs wa
    have hj1 : ∀ (ok : Bool) (i h : Int) (K L : List S35) (C : Int), 0 ≤ i → i ≤ b.length → stI 300 K L → ∃ r, Ev (fun k => spec_l6DrawRight.j1 k (n : Int) (j : Int) ok b i h kept late c K L C) r ∧ stR 300 b r := by
      intro ok i h K L C h0 h1 hK
      cases ok with
      | true =>
        obtain ⟨r, er, hr⟩ := ih i h K L C h0 h1 hK
        exact ⟨r, Ev.step (f := fun k => spec_l6DrawRight.l0 k (n : Int) ((j + 1 : Nat) : Int) b i h K L C) (fun k => by rw [spec_l6DrawRight.j1, if_pos rfl, wsucc j (by omega)]) er, hr⟩
      | false =>
        obtain ⟨r, er, hr⟩ := ih i h kept late c h0 h1 hs
        exact ⟨r, Ev.step (f := fun k => spec_l6DrawRight.l0 k (n : Int) ((j + 1 : Nat) : Int) b i h kept late c) (fun k => by rw [spec_l6DrawRight.j1, if_neg Bool.false_ne_true, wsucc j (by omega)]) er, hr⟩
    generalize storePut kept late c ⟨a, w, hl, s⟩ = P at hput hsp
    by_cases c0 : x2 = 0
    · obtain ⟨r, er, hr⟩ := hj1 (storeCrash kept late c 1048575).2.2.2 i2 g2 _ _ (storeCrash kept late c 1048575).2.2.1 b2.2.2.2.2.1 b2.2.2.2.2.2 (stI_crash (by omega) c 1048575 hs)
      exact ⟨r, Ev.step (fun k => by rw [spec_l6DrawRight.l0, if_pos hjn]) (Evbind (Evconst e1) (Evbind hput (Evbind (Evconst e2) (Evpos c0 (Evbind (spec_StoreSync_f kept late c (by have := hs.1; omega) (by have := hs.2.1; omega) hs.2.2.1 hs.2.2.2) er))))), hr⟩
    by_cases c1 : x2 = 1
    · obtain ⟨r, er, hr⟩ := hj1 (storeCrash P.1 P.2.1 P.2.2.1 1048575).2.2.2 i2 g2 _ _ (storeCrash P.1 P.2.1 P.2.2.1 1048575).2.2.1 b2.2.2.2.2.1 b2.2.2.2.2.2 (stI_crash (by omega) P.2.2.1 1048575 hsp)
      exact ⟨r, Ev.step (fun k => by rw [spec_l6DrawRight.l0, if_pos hjn]) (Evbind (Evconst e1) (Evbind hput (Evbind (Evconst e2) (Evneg c0 (Evpos c1 (Evbind (spec_StoreSync_f P.1 P.2.1 P.2.2.1 (by have := hsp.1; omega) (by have := hsp.2.1; omega) hsp.2.2.1 hsp.2.2.2) er)))))), hr⟩
    by_cases c2 : x2 = 2
    · obtain ⟨o, i3, g3, e3, b3⟩ := l1Once_f b i2 g2 3 b2.2.2.2.2.1 b2.2.2.2.2.2 hb
      cases o with
      | true =>
        obtain ⟨x4, i4, g4, e4, b4⟩ := l1Below_f b i3 g3 4 b3.1 b3.2 hb
        obtain ⟨r, er, hr⟩ := hj1 (storeSeal kept late c x4).2.2.2 i4 g4 _ _ (storeSeal kept late c x4).2.2.1 b4.2.2.2.2.1 b4.2.2.2.2.2 (stI_seal (by omega) c x4 hs)
        exact ⟨r, Ev.step (fun k => by rw [spec_l6DrawRight.l0, if_pos hjn]) (Evbind (Evconst e1) (Evbind hput (Evbind (Evconst e2) (Evneg c0 (Evneg c1 (Evpos c2 (Evbind (Evconst e3) (Evpos rfl (Evbind (Evconst e4) (Evbind (spec_StoreSeal_f kept late c x4 (by have := hs.1; omega) (by have := hs.2.1; omega) hs.2.2.1 hs.2.2.2) er)))))))))), hr⟩
      | false =>
        obtain ⟨r, er, hr⟩ := hj1 P.2.2.2 i3 g3 _ _ P.2.2.1 b3.1 b3.2 hsp
        exact ⟨r, Ev.step (fun k => by rw [spec_l6DrawRight.l0, if_pos hjn]) (Evbind (Evconst e1) (Evbind hput (Evbind (Evconst e2) (Evneg c0 (Evneg c1 (Evpos c2 (Evbind (Evconst e3) (Evneg Bool.false_ne_true er)))))))), hr⟩
    · obtain ⟨r, er, hr⟩ := hj1 P.2.2.2 i2 g2 _ _ P.2.2.1 b2.2.2.2.2.1 b2.2.2.2.2.2 hsp
      exact ⟨r, Ev.step (fun k => by rw [spec_l6DrawRight.l0, if_pos hjn]) (Evbind (Evconst e1) (Evbind hput (Evbind (Evconst e2) (Evneg c0 (Evneg c1 (Evneg c2 er)))))), hr⟩
theorem l6DrawRight_f (b : List Int) (i h : Int) (h0 : 0 ≤ i) (h1 : i ≤ b.length) (hb : b.length < 4611686018427387904) : ∃ r, Ev (fun k => spec_l6DrawRight.f k b i h) r ∧ stR 300 b r := by
  obtain ⟨x1, i1, g1, e1, b1⟩ := l1Below_f b i h 8 h0 h1 hb
  have k1 := b1.2.1 (by omega)
  obtain ⟨n, rfl⟩ := Int.eq_ofNat_of_zero_le b1.1
  obtain ⟨r, er, hr⟩ := dr_l0 b hb n (by omega) 0 (by omega) i1 g1 [] [] 0 b1.2.2.2.2.1 b1.2.2.2.2.2 (stI_nil 300)
  unfold spec_l6DrawRight.f
  exact ⟨r, Evbind (Evconst e1) er, hr⟩
theorem dw_l0 (b : List Int) (hb : b.length < 4611686018427387904) (kept : List S35) (c : Int) (hk : kept.length ≤ 400) (hwk : ∀ x ∈ kept, (Lit.int .i64 x.f0).wf = true) :
    ∀ d : Nat, ∀ (late : List S35) (i h : Int), 21 - late.length ≤ d → late.length ≤ 400 → (∀ x ∈ late, (Lit.int .i64 x.f0).wf = true) → 0 ≤ i → i ≤ b.length → ∃ r, Ev (fun k => spec_l6Draw.l0 k b i h kept late c) r ∧ stR 400 b r := by
  intro d
  induction d with
  | zero =>
    intro late i h hd hl hw h0 h1
    obtain ⟨x1, i1, g1, e1, b1⟩ := l1Below_f b i h 2 h0 h1 hb
    have k1 := b1.2.1 (by omega)
    exact ⟨_, Ev.step (fun k => by rw [spec_l6Draw.l0]) (Evbind (Evconst e1) (Evneg (show ¬ (late.length : Int) < wrap64 (20 + x1) by rw [w64 (by omega) (by omega)]; omega) (Ev.now _))), ⟨hk, hl, hwk, hw⟩, b1.2.2.2.2⟩
  | succ d ih =>
    intro late i h hd hl hw h0 h1
    obtain ⟨x1, i1, g1, e1, b1⟩ := l1Below_f b i h 2 h0 h1 hb
    have k1 := b1.2.1 (by omega)
    by_cases cc : (late.length : Int) < wrap64 (20 + x1)
    · have cc' := cc
      rw [w64 (by omega) (by omega)] at cc'
      obtain ⟨r, er, hr⟩ := ih (late ++ [⟨4294967296 * 5 + 1, 0, false, (⟨#[]⟩ : ByteArray)⟩]) i1 g1 (by rw [List.length_append, List.length_singleton]; omega) (by rw [List.length_append, List.length_singleton]; omega) (wf_snoc hw (show (Lit.int .i64 (4294967296 * 5 + 1 : Int)).wf = true from wf_mk64 (by omega) (by omega))) b1.2.2.2.2.1 b1.2.2.2.2.2
      exact ⟨r, Ev.step (fun k => by rw [spec_l6Draw.l0]) (Evbind (Evconst e1) (Evpos cc (Evbind (Evconst (l1Place_f 5 1 (by omega) (by omega))) (Evpos (show late.length < 3518437208883 by omega) er)))), hr⟩
    · exact ⟨_, Ev.step (fun k => by rw [spec_l6Draw.l0]) (Evbind (Evconst e1) (Evneg cc (Ev.now _))), ⟨hk, hl, hwk, hw⟩, b1.2.2.2.2⟩
theorem l6Draw_f (b : List Int) (i h : Int) (h0 : 0 ≤ i) (h1 : i ≤ b.length) (hb : b.length < 4611686018427387904) : ∃ r, Ev (fun k => spec_l6Draw.f k b i h) r ∧ stR 400 b r := by
  obtain ⟨P, eP, hP, hP0, hP1⟩ := l6DrawRight_f b i h h0 h1 hb
  obtain ⟨x1, i1, g1, e1, b1⟩ := l1Below_f b P.2.2.2.1 P.2.2.2.2 25 hP0 hP1 hb
  have hQ := stI_mono hP (show 300 ≤ 400 by omega)
  unfold spec_l6Draw.f
  by_cases c0 : x1 = 0
  · obtain ⟨x3, i3, g3, e3, hx, b3⟩ := l1PickInt_f b i1 g1 [(-1), 30, 31] (by decide) (by decide) b1.2.2.2.2.1 b1.2.2.2.2.2 hb
    exact ⟨_, Evbind eP (Evbind (Evconst e1) (Evpos c0 (Evbind (Evconst e3) (Ev.now _)))), hQ, b3⟩
  by_cases c1 : x1 = 1
  · obtain ⟨a, w, hl, s, i3, g3, e3, wa, ww, _, b3⟩ := l3Draw_f b i1 g1 b1.2.2.2.2.1 b1.2.2.2.2.2 hb
    exact ⟨_, Evbind eP (Evbind (Evconst e1) (Evneg c0 (Evpos c1 (Evbind (Evconst e3) (Evpos (show P.1.length < 3518437208883 by have := hP.1; omega) (Ev.now _)))))), ⟨by rw [List.length_append, List.length_singleton]; have := hP.1; omega, hQ.2.1, wf_snoc hQ.2.2.1 wa, hQ.2.2.2⟩, b3⟩
  by_cases c2 : x1 = 2
  · obtain ⟨a, w, hl, s, i3, g3, e3, wa, ww, _, b3⟩ := l3Draw_f b i1 g1 b1.2.2.2.2.1 b1.2.2.2.2.2 hb
    exact ⟨_, Evbind eP (Evbind (Evconst e1) (Evneg c0 (Evneg c1 (Evpos c2 (Evbind (Evconst e3) (Evpos (show P.2.1.length < 3518437208883 by have := hP.2.1; omega) (Ev.now _))))))), ⟨hQ.1, by rw [List.length_append, List.length_singleton]; have := hP.2.1; omega, hQ.2.2.1, wf_snoc hQ.2.2.2 wa⟩, b3⟩
  by_cases c3 : x1 = 3
  · obtain ⟨r, er, hr⟩ := dw_l0 b hb P.1 P.2.2.1 hQ.1 hQ.2.2.1 21 P.2.1 i1 g1 (by omega) hQ.2.1 hQ.2.2.2 b1.2.2.2.2.1 b1.2.2.2.2.2
    exact ⟨r, Evbind eP (Evbind (Evconst e1) (Evneg c0 (Evneg c1 (Evneg c2 (Evpos c3 er))))), hr⟩
  · exact ⟨_, Evbind eP (Evbind (Evconst e1) (Evneg c0 (Evneg c1 (Evneg c2 (Evneg c3 (Ev.now _)))))), hQ, b1.2.2.2.2⟩

theorem DrawStoreEra_f (b : List Int) (hb : b.length < 4611686018427387904) : ∃ k l c e, Ev (fun n => spec_DrawStoreEra.f n b) (k, l, c, e) ∧ stI 400 k l := by
  obtain ⟨g, eg⟩ := l1New_f b hb
  obtain ⟨P, eP, hP, hP0, hP1⟩ := l6Draw_f b 0 g (by omega) (by omega) hb
  obtain ⟨x3, i3, g3, e3, _⟩ := l1Below_f b P.2.2.2.1 P.2.2.2.2 5 hP0 hP1 hb
  unfold spec_DrawStoreEra.f
  exact ⟨_, _, _, _, Evbind eg (Evbind eP (Evbind (Evconst e3) (Ev.now _))), hP⟩
theorem l6DrawAt_j0 (b : List Int) (o : Bool) (i h : Int) (k l : List S35) (c : Int) (h0 : 0 ≤ i) (h1 : i ≤ b.length) (hb : b.length < 4611686018427387904) (ho : o = true → 0 < k.length) (hk : k.length ≤ 400) (hw : ∀ x ∈ k, (Lit.int .i64 x.f0).wf = true) : ∃ r : Int × Int × Int, Ev (fun n => spec_l6DrawAt.j0 n o b i h k l c) r ∧ (Lit.int .i64 r.1).wf = true := by
  cases o with
  | true =>
    have hp := ho rfl
    obtain ⟨x, i1, g1, e1, b1⟩ := l1Below_f b i h (k.length : Int) h0 h1 hb
    have k1 := b1.2.1 (by omega)
    obtain ⟨n, rfl⟩ := Int.eq_ofNat_of_zero_le b1.1
    refine ⟨_, Ev.step (fun n => by rw [spec_l6DrawAt.j0, if_pos rfl]) (Evbind (Evconst e1) (Evpos b1.1 (Evpos k1 (Ev.now _)))), ?_⟩
    show (Lit.int .i64 (rd_T35 k (n : Int)).f0).wf = true
    rw [rdE]
    exact hw _ (getD_memg _ k n (by omega))
  | false =>
    obtain ⟨x, i1, g1, e1, wx, _⟩ := l1DrawPlace_f b i h h0 h1 hb
    exact ⟨_, Ev.step (fun n => by rw [spec_l6DrawAt.j0, if_neg Bool.false_ne_true]) (Evbind (Evconst e1) (Ev.now _)), wx⟩
theorem DrawStoreTrim_f (b : List Int) (hb : b.length < 4611686018427387904) : ∃ k l c up, Ev (fun n => spec_DrawStoreTrim.f n b) (k, l, c, up) ∧ stI 400 k l ∧ (Lit.int .i64 up).wf = true := by
  obtain ⟨g, eg⟩ := l1New_f b hb
  obtain ⟨P, eP, hP, hP0, hP1⟩ := l6Draw_f b 0 g (by omega) (by omega) hb
  have hat : ∃ r : Int × Int × Int, Ev (fun n => spec_l6DrawAt.f n b P.2.2.2.1 P.2.2.2.2 P.1 P.2.1 P.2.2.1) r ∧ (Lit.int .i64 r.1).wf = true := by
    unfold spec_l6DrawAt.f
    by_cases hp : (P.1.length : Int) > 0
    · obtain ⟨o, i1, g1, e1, b1⟩ := l1Once_f b P.2.2.2.1 P.2.2.2.2 4 hP0 hP1 hb
      obtain ⟨r, er, hr⟩ := l6DrawAt_j0 b (!o) i1 g1 P.1 P.2.1 P.2.2.1 b1.1 b1.2 hb (fun _ => by omega) hP.1 hP.2.2.1
      exact ⟨r, Evpos hp (Evbind (Evconst e1) er), hr⟩
    · obtain ⟨r, er, hr⟩ := l6DrawAt_j0 b false P.2.2.2.1 P.2.2.2.2 P.1 P.2.1 P.2.2.1 hP0 hP1 hb (fun h => absurd h Bool.false_ne_true) hP.1 hP.2.2.1
      exact ⟨r, Evneg hp er, hr⟩
  obtain ⟨r, er, hr⟩ := hat
  unfold spec_DrawStoreTrim.f
  exact ⟨_, _, _, _, Evbind eg (Evbind eP (Evbind er (Ev.now _))), hP, hr⟩

def eraP (epoch : Int) (x : S35) : Bool := decide (epochOf x.f0 = epoch)
def storeEra (kept late : List S35) (c epoch : Int) : List S35 := if storeOk kept late c = true then kept.filter (eraP epoch) else []
theorem storeOk_len {kept late : List S35} {c : Int} (h : storeOk kept late c = true) : kept.length ≤ 200 ∧ late.length ≤ 20 := by
  simp only [storeOk, Bool.and_eq_true, decide_eq_true_eq] at h; exact ⟨h.1.1.1.1.1, h.1.1.1.1.2⟩
theorem filter_dropg (z : S35) (p : S35 → Bool) (l : List S35) (i : Nat) (h : i < l.length) : (l.drop i).filter p = (if p (l.getD i z) = true then [l.getD i z] else []) ++ (l.drop (i + 1)).filter p := by
  rw [drop_g z l i h, List.filter_cons]
  by_cases hp : p (l.getD i z) = true
  · rw [if_pos hp, if_pos hp]; rfl
  · rw [if_neg hp, if_neg hp]; rfl
theorem storeEra_len (kept late : List S35) (c epoch : Int) : (storeEra kept late c epoch).length ≤ kept.length := by
  unfold storeEra
  by_cases h : storeOk kept late c = true
  · rw [if_pos h]; exact List.length_filter_le _ _
  · rw [if_neg h]; simp

theorem spec_StoreEra_l0 (kept late : List S35) (c epoch : Int) (hok : storeOk kept late c = true) (hwk : ∀ x ∈ kept, (Lit.int .i64 x.f0).wf = true) (hwl : ∀ x ∈ late, (Lit.int .i64 x.f0).wf = true) : ∀ i, i ≤ kept.length → ∀ out : List S35, out.length ≤ i → Ev (fun k => spec_StoreEra.l0 k epoch out (i : Int) kept late c) (out ++ (kept.drop i).filter (eraP epoch)) := by
  have hlen := storeOk_len hok
  have hso := spec_StoreOk_f kept late c (by omega) (by omega) hwk hwl
  rw [hok] at hso
  refine down kept.length ?_ ?_
  · intro out ho
    refine Ev.step (f := fun k => spec_StoreEra.j1 k epoch out (kept.length : Int) false kept late c) (fun k => by rw [spec_StoreEra.l0, if_neg (by omega)]) (Ev.step (f := fun _ => some out) (fun k => by rw [spec_StoreEra.j1, if_neg Bool.false_ne_true]) (Evto ?_ (Ev.now _)))
    rw [List.drop_length]; simp
  · intro i hi ih out ho
    have hi1 : (i : Int) < kept.length := by omega
    have hi2 : 0 ≤ (i : Int) := by omega
    have hw := wsucc i (by omega)
    have he := spec_EpochOf_f (kept.getD i z35).f0 (hwk _ (getD_memg _ kept i hi))
    refine Ev.step (f := fun k => (spec_StoreOk.f k kept late c).bind fun t => spec_StoreEra.j1 k epoch out (i : Int) t kept late c) (fun k => by rw [spec_StoreEra.l0, if_pos hi1]) (Evbind hso ?_)
    rw [filter_dropg z35 (eraP epoch) kept i hi]
    by_cases hp : epochOf (kept.getD i z35).f0 = epoch
    · refine Ev.step (f := fun k => spec_StoreEra.l0 k epoch (out ++ [kept.getD i z35]) ((i + 1 : Nat) : Int) kept late c) (fun k => ?_) (Evto ?_ (ih (out ++ [kept.getD i z35]) (by simp; omega)))
      · rw [spec_StoreEra.j1, if_pos rfl, if_pos hi2, if_pos hi1, rdE, he, Option.bind_some, if_pos hp, if_pos (by omega), hw]
      · rw [if_pos (show eraP epoch (kept.getD i z35) = true from decide_eq_true hp)]; simp
    · refine Ev.step (f := fun k => spec_StoreEra.l0 k epoch out ((i + 1 : Nat) : Int) kept late c) (fun k => ?_) (Evto ?_ (ih out (by omega)))
      · rw [spec_StoreEra.j1, if_pos rfl, if_pos hi2, if_pos hi1, rdE, he, Option.bind_some, if_neg hp, hw]
      · rw [if_neg (show ¬ eraP epoch (kept.getD i z35) = true by simpa [eraP] using hp)]; simp
theorem spec_StoreEra_f (kept late : List S35) (c epoch : Int) (hk : kept.length < 4611686018427387904) (hl : late.length < 4611686018427387904) (hwk : ∀ x ∈ kept, (Lit.int .i64 x.f0).wf = true) (hwl : ∀ x ∈ late, (Lit.int .i64 x.f0).wf = true) : Ev (fun k => spec_StoreEra.f k kept late c epoch) (storeEra kept late c epoch) := by
  unfold storeEra
  by_cases h : storeOk kept late c = true
  · rw [if_pos h]
    exact Ev.congr (fun k => by rw [spec_StoreEra.f]; rfl) (spec_StoreEra_l0 kept late c epoch h hwk hwl 0 (by omega) [] (by simp))
  · rw [if_neg h]
    have hso := spec_StoreOk_f kept late c hk hl hwk hwl
    rw [Bool.eq_false_iff.2 h] at hso
    have hout : Ev (fun k => spec_StoreEra.j1 k epoch [] 0 false kept late c) [] := Ev.step (f := fun _ => some []) (fun k => by rw [spec_StoreEra.j1, if_neg Bool.false_ne_true]) (Ev.now _)
    refine Ev.congr (f := fun k => spec_StoreEra.l0 k epoch [] 0 kept late c) (fun k => by rw [spec_StoreEra.f]) ?_
    by_cases h0 : (0 : Int) < (kept.length : Int)
    · exact Ev.step (f := fun k => (spec_StoreOk.f k kept late c).bind fun t => spec_StoreEra.j1 k epoch [] 0 t kept late c) (fun k => by rw [spec_StoreEra.l0, if_pos h0]) (Evbind hso hout)
    · exact Ev.step (fun k => by rw [spec_StoreEra.l0, if_neg h0]) hout

theorem impl_within_f (a b c : Int) : impl_within.f a b c = some (decide (b ≤ a ∧ a ≤ c)) := by
  unfold impl_within.f
  by_cases h : a ≥ b
  · rw [if_pos h]; congr 1; exact decide_eq_decide.2 (by omega)
  · rw [if_neg h]; congr 1; symm; exact decide_eq_false (by omega)

theorem impl_isEpoch_f (a : Int) : impl_isEpoch.f a = some (decide (1 ≤ a ∧ a ≤ 30)) := by
  unfold impl_isEpoch.f; rw [impl_within_f]; rfl
theorem impl_isOff_f (a : Int) : impl_isOff.f a = some (decide (1 ≤ a ∧ a ≤ 60)) := by
  unfold impl_isOff.f; rw [impl_within_f]; rfl

theorem impl_PlaceOk_f (x : Int) (h : (Lit.int .i64 x).wf = true) : impl_PlaceOk.f x = some (placeOk x) := by
  have hb := wf64 h
  unfold impl_PlaceOk.f
  simp only [impl_isEpoch_f, impl_isOff_f, Option.bind_some, decide_eq_true_eq]
  have ht := tdm x
  rw [w64 (n := Int.tdiv x 4294967296) (by omega) (by omega)]
  by_cases h2 : 1 ≤ Int.tdiv x 4294967296 ∧ Int.tdiv x 4294967296 ≤ 30
  · rw [if_pos h2]; congr 1; exact decide_eq_decide.2 (by omega)
  · rw [if_neg h2]; congr 1; symm; exact decide_eq_false (by omega)

theorem impl_EpochOf_f (x : Int) (h : (Lit.int .i64 x).wf = true) : impl_EpochOf.f x = some (epochOf x) := by
  unfold impl_EpochOf.f epochOf
  rw [impl_PlaceOk_f x h, Option.bind_some]
  by_cases hp : placeOk x = true
  · rw [if_pos hp, if_pos hp, placeOk_div x hp]
  · rw [if_neg hp, if_neg hp]

theorem impl_EntryOk_f (a w : Int) (h : Bool) (s : ByteArray) (ha : (Lit.int .i64 a).wf = true) : impl_EntryOk.f a w h s = some (entryOk a w h s) := by
  have he := epochOf_bd a
  unfold impl_EntryOk.f entryOk impl_dataOk.f
  rw [impl_PlaceOk_f a ha, impl_EpochOf_f a ha]
  simp only [Option.bind_some, impl_within_f]
  by_cases h2 : 0 ≤ w ∧ w ≤ 30
  · by_cases h1 : placeOk a = true
    · by_cases h3 : w = 0
      · subst h3
        by_cases h5 : s.size ≤ 40
        · have h5' : (s.size : Int) ≤ 40 := by omega
          cases h <;> simp [h1, h5, h5']
        · have h5' : ¬ (s.size : Int) ≤ 40 := by omega
          cases h <;> simp [h1, h5, h5']
      · by_cases h4 : w > epochOf a
        · have h0 : w > 0 := by omega
          by_cases h5 : s.size ≤ 40
          · have h5' : (s.size : Int) ≤ 40 := by omega
            by_cases h6 : s.toList = [] <;> cases h <;> simp [h1, h2, h3, h4, h5, h5', h6, h0]
          · have h5' : ¬ (s.size : Int) ≤ 40 := by omega
            by_cases h6 : s.toList = [] <;> cases h <;> simp [h1, h2, h3, h4, h5, h5', h6, h0]
        · have h0 : w > 0 := by omega
          cases h <;> simp [h1, h2, h3, h4, h0]
    · cases h <;> by_cases h3 : w = 0 <;> simp [h1, h2, h3]
  · have h2' : ¬ (0 ≤ w ∧ w ≤ 30) := h2
    have : ¬ (placeOk a = true ∧ 0 ≤ w ∧ w ≤ 30 ∧ (w = 0 ∨ epochOf a < w) ∧ s.size ≤ 40 ∧ (h = true → 0 < w ∧ s.toList = [])) := fun hh => h2' ⟨hh.2.1, hh.2.2.1⟩
    rw [decide_eq_false this, decide_eq_false h2', if_neg (by decide)]
    cases h <;> by_cases h1 : placeOk a = true <;> by_cases h3 : w > 0 <;> simp [h1, h3]

theorem impl_entriesOk_l0 (l : List S35) (hn : l.length < 4611686018427387904) (hw : ∀ x ∈ l, (Lit.int .i64 x.f0).wf = true) : ∀ i, i ≤ l.length → Ev (fun k => impl_entriesOk.l0 k l (l.length : Int) (i : Int)) ((l.drop i).all eOk) := by
  refine down l.length ?_ ?_
  · refine Ev.step (f := fun _ => some true) (fun k => by rw [impl_entriesOk.l0, if_neg (by omega)]) (Evto ?_ (Ev.now _))
    rw [List.drop_length]; rfl
  · intro i hi ih
    have hi1 : (i : Int) < l.length := by omega
    have he := impl_EntryOk_f (l.getD i z35).f0 (l.getD i z35).f1 (l.getD i z35).f2 (l.getD i z35).f3 (hw _ (getD_memg _ l i hi))
    rw [all_dropg z35 eOk l i hi]
    cases hv : eOk (l.getD i z35) with
    | true =>
      have hv' : entryOk (l.getD i z35).f0 (l.getD i z35).f1 (l.getD i z35).f2 (l.getD i z35).f3 = true := hv
      exact Ev.step (f := fun k => impl_entriesOk.l0 k l (l.length : Int) ((i + 1 : Nat) : Int)) (fun k => by rw [impl_entriesOk.l0, if_pos hi1, if_pos (by omega), if_pos hi1, rdE, he, Option.bind_some, if_pos hv', wsucc i (by omega)]) ih
    | false =>
      have hv' : entryOk (l.getD i z35).f0 (l.getD i z35).f1 (l.getD i z35).f2 (l.getD i z35).f3 = false := hv
      exact Ev.step (f := fun _ => some false) (fun k => by rw [impl_entriesOk.l0, if_pos hi1, if_pos (by omega), if_pos hi1, rdE, he, Option.bind_some, hv', if_neg Bool.false_ne_true]) (Ev.now _)
theorem impl_entriesOk_f (l : List S35) (hn : l.length < 4611686018427387904) (hw : ∀ x ∈ l, (Lit.int .i64 x.f0).wf = true) : Ev (fun k => impl_entriesOk.f k l) (l.all eOk) :=
  Ev.congr (fun k => by rw [impl_entriesOk.f]; rfl) (impl_entriesOk_l0 l hn hw 0 (by omega))
theorem impl_placesAscend_l0 (l : List S35) (hn : l.length < 4611686018427387904) : ∀ i, i ≤ l.length → 1 ≤ i → Ev (fun k => impl_placesAscend.l0 k l l (l.length : Int) (i : Int)) (ascPE (l.getD (i - 1) z35).f0 (l.drop i)) := by
  refine down l.length ?_ ?_
  · intro h1
    refine Ev.step (f := fun _ => some true) (fun k => by rw [impl_placesAscend.l0, if_neg (by omega)]) (Evto ?_ (Ev.now _))
    rw [List.drop_length]; rfl
  · intro i hi ih h1
    have hm : wrap64 ((i : Int) - 1) = ((i - 1 : Nat) : Int) := by rw [w64 (by omega) (by omega)]; omega
    have hi1 : (i : Int) < l.length := by omega
    have hi2 : 0 ≤ ((i - 1 : Nat) : Int) := by omega
    have hi3 : ((i - 1 : Nat) : Int) < l.length := by omega
    have hi4 : 0 ≤ (i : Int) := by omega
    have hi5 : (i : Int) > 0 := by omega
    have hw := wsucc i (by omega)
    rw [drop_g z35 l i hi, ascPE]
    by_cases hlt : (l.getD (i - 1) z35).f0 < (l.getD i z35).f0
    · refine Ev.step (f := fun k => impl_placesAscend.l0 k l l (l.length : Int) ((i + 1 : Nat) : Int)) (fun k => ?_) (Evto ?_ (ih (by omega)))
      · rw [impl_placesAscend.l0, if_pos hi1, if_pos hi4, if_pos hi1, if_pos hi5, hm, if_pos hi2, if_pos hi3, rdE, rdE, if_neg (by omega), hw]
      · rw [decide_eq_true hlt]; rfl
    · refine Ev.step (f := fun _ => some false) (fun k => ?_) (Evto ?_ (Ev.now _))
      · rw [impl_placesAscend.l0, if_pos hi1, if_pos hi4, if_pos hi1, if_pos hi5, hm, if_pos hi2, if_pos hi3, rdE, rdE, if_pos (by omega)]
      · rw [decide_eq_false hlt]; rfl
theorem impl_placesAscend_f (l : List S35) (hn : l.length < 4611686018427387904) : Ev (fun k => impl_placesAscend.f k l) (placesAsc l) := by
  cases l with
  | nil => exact Ev.step (f := fun _ => some true) (fun k => by rw [impl_placesAscend.f, impl_placesAscend.l0, if_neg (by simp)]) (Ev.now _)
  | cons x t =>
    have h1 := impl_placesAscend_l0 (x :: t) hn 1 (by simp) (by omega)
    refine Ev.step (f := fun k => impl_placesAscend.l0 k (x :: t) (x :: t) ((x :: t).length : Int) ((1 : Nat) : Int)) (fun k => ?_) h1
    rw [impl_placesAscend.f, impl_placesAscend.l0, if_pos (by simp only [List.length_cons]; omega), if_pos (by decide), if_pos (by simp only [List.length_cons]; omega), if_neg (by decide)]
    rw [show wrap64 (0 + 1) = ((1 : Nat) : Int) from w64 (by decide) (by decide)]
theorem impl_StoreOk_f (kept late : List S35) (c : Int) (hk : kept.length < 4611686018427387904) (hl : late.length < 4611686018427387904) (hwk : ∀ x ∈ kept, (Lit.int .i64 x.f0).wf = true) (hwl : ∀ x ∈ late, (Lit.int .i64 x.f0).wf = true) : Ev (fun k => impl_StoreOk.f k kept late c) (storeOk kept late c) := by
  have hout : Ev (fun k => impl_StoreOk.j0 k true kept late c) false := Ev.step (f := fun _ => some false) (fun k => by rw [impl_StoreOk.j0, if_pos rfl]) (Ev.now _)
  unfold storeOk
  by_cases h1 : (kept.length : Int) > 200
  · refine Ev.congr (fun k => by rw [impl_StoreOk.f, if_pos h1]) (Evto ?_ hout)
    rw [decide_eq_false (show ¬ kept.length ≤ 200 by omega)]; simp
  rw [decide_eq_true (show kept.length ≤ 200 by omega)]
  by_cases h2 : (late.length : Int) > 20
  · refine Ev.congr (fun k => by rw [impl_StoreOk.f, if_neg h1, decide_eq_true h2]) (Evto ?_ hout)
    rw [decide_eq_false (show ¬ late.length ≤ 20 by omega)]; simp
  rw [decide_eq_true (show late.length ≤ 20 by omega)]
  refine Ev.congr (f := fun k => impl_StoreOk.j0 k false kept late c) (fun k => by rw [impl_StoreOk.f, if_neg h1, decide_eq_false h2]) ?_
  refine Ev.step (fun k => by rw [impl_StoreOk.j0, if_neg Bool.false_ne_true]) ?_
  refine Evbind (impl_entriesOk_f kept hk hwk) ?_
  cases kept.all eOk with
  | false => exact Evneg Bool.false_ne_true (Evto (by simp) (Ev.now _))
  | true =>
    refine Evpos rfl (Evbind (impl_entriesOk_f late hl hwl) ?_)
    cases late.all eOk with
    | false => exact Evneg Bool.false_ne_true (Evto (by simp) (Ev.now _))
    | true =>
      refine Evpos rfl (Evbind (impl_placesAscend_f kept hk) ?_)
      cases placesAsc kept with
      | false => exact Evneg Bool.false_ne_true (Evto (by simp) (Ev.now _))
      | true => exact Evpos rfl (Evbind (Evconst (impl_within_f c 0 30)) (Ev.now _))

theorem impl_StoreEra_l0 (kept : List S35) (epoch : Int) (hn : kept.length < 3518437208883) (hwk : ∀ x ∈ kept, (Lit.int .i64 x.f0).wf = true) : ∀ i, i ≤ kept.length → ∀ out : List S35, out.length ≤ i → Ev (fun k => impl_StoreEra.l0 k epoch out kept (kept.length : Int) (i : Int)) (out ++ (kept.drop i).filter (eraP epoch)) := by
  refine down kept.length ?_ ?_
  · intro out ho
    refine Ev.step (f := fun _ => some out) (fun k => by rw [impl_StoreEra.l0, if_neg (by omega)]) (Evto ?_ (Ev.now _))
    rw [List.drop_length]; simp
  · intro i hi ih out ho
    have hi1 : (i : Int) < kept.length := by omega
    have hi2 : 0 ≤ (i : Int) := by omega
    have hw := wsucc i (by omega)
    have he := impl_EpochOf_f (kept.getD i z35).f0 (hwk _ (getD_memg _ kept i hi))
    rw [filter_dropg z35 (eraP epoch) kept i hi]
    by_cases hp : epochOf (kept.getD i z35).f0 = epoch
    · refine Ev.step (f := fun k => impl_StoreEra.l0 k epoch (out ++ [kept.getD i z35]) kept (kept.length : Int) ((i + 1 : Nat) : Int)) (fun k => ?_) (Evto ?_ (ih (out ++ [kept.getD i z35]) (by simp; omega)))
      · rw [impl_StoreEra.l0, if_pos hi1, if_pos hi2, if_pos hi1, rdE, he, Option.bind_some, if_pos hp, if_pos (by omega), hw]
      · rw [if_pos (show eraP epoch (kept.getD i z35) = true from decide_eq_true hp)]; simp
    · refine Ev.step (f := fun k => impl_StoreEra.l0 k epoch out kept (kept.length : Int) ((i + 1 : Nat) : Int)) (fun k => ?_) (Evto ?_ (ih out (by omega)))
      · rw [impl_StoreEra.l0, if_pos hi1, if_pos hi2, if_pos hi1, rdE, he, Option.bind_some, if_neg hp, hw]
      · rw [if_neg (show ¬ eraP epoch (kept.getD i z35) = true by simpa [eraP] using hp)]; simp
theorem impl_StoreEra_f (kept late : List S35) (c epoch : Int) (hk : kept.length < 4611686018427387904) (hl : late.length < 4611686018427387904) (hwk : ∀ x ∈ kept, (Lit.int .i64 x.f0).wf = true) (hwl : ∀ x ∈ late, (Lit.int .i64 x.f0).wf = true) : Ev (fun k => impl_StoreEra.f k kept late c epoch) (storeEra kept late c epoch) := by
  unfold impl_StoreEra.f storeEra
  refine Evsome (Evbind (impl_StoreOk_f kept late c hk hl hwk hwl) ?_)
  by_cases h : storeOk kept late c = true
  · have hlen := storeOk_len h
    rw [if_pos h]
    exact Evpos h (impl_StoreEra_l0 kept epoch (by omega) hwk 0 (by omega) [] (by simp))
  · rw [if_neg h]; exact Evneg h (Ev.now _)

def trP (upto : Int) (x : S35) : Bool := decide (x.f0 > upto)
def storeTrim (kept late : List S35) (c upto : Int) : List S35 × List S35 × Int × Bool :=
  if storeOk kept late c = true then (if placeOk upto = true then (kept.filter (trP upto), late, c, true) else (kept, late, c, false)) else ([], [], 0, false)
theorem spec_StoreTrim_l0 (upto c C' : Int) (kept late L' : List S35) (hk : kept.length ≤ 200) : ∀ i, i ≤ kept.length → ∀ out : List S35, out.length ≤ i → Ev (fun k => spec_StoreTrim.l0 k upto (i : Int) kept late c out L' C') (out ++ (kept.drop i).filter (trP upto), L', C', true) := by
  refine down kept.length ?_ ?_
  · intro out ho
    refine Ev.step (f := fun _ => some (out, L', C', true)) (fun k => by rw [spec_StoreTrim.l0, if_neg (by omega)]) (Evto ?_ (Ev.now _))
    rw [List.drop_length]; simp
  · intro i hi ih out ho
    have hi1 : (i : Int) < kept.length := by omega
    have hi2 : 0 ≤ (i : Int) := by omega
    have hw := wsucc i (by omega)
    rw [filter_dropg z35 (trP upto) kept i hi]
    by_cases hp : (kept.getD i z35).f0 > upto
    · refine Ev.step (f := fun k => spec_StoreTrim.l0 k upto ((i + 1 : Nat) : Int) kept late c (out ++ [kept.getD i z35]) L' C') (fun k => ?_) (Evto ?_ (ih (out ++ [kept.getD i z35]) (by simp; omega)))
      · rw [spec_StoreTrim.l0, if_pos hi1, if_pos hi2, rdE, if_pos hp, if_pos (by omega), hw]
      · rw [if_pos (show trP upto (kept.getD i z35) = true from decide_eq_true hp)]; simp
    · refine Ev.step (f := fun k => spec_StoreTrim.l0 k upto ((i + 1 : Nat) : Int) kept late c out L' C') (fun k => ?_) (Evto ?_ (ih out (by omega)))
      · rw [spec_StoreTrim.l0, if_pos hi1, if_pos hi2, rdE, if_neg hp, hw]
      · rw [if_neg (show ¬ trP upto (kept.getD i z35) = true by simpa [trP] using hp)]; rfl
theorem spec_StoreTrim_f (kept late : List S35) (c upto : Int) (hk : kept.length < 1000000000) (hl : late.length < 1000000000) (hwk : ∀ x ∈ kept, (Lit.int .i64 x.f0).wf = true) (hwl : ∀ x ∈ late, (Lit.int .i64 x.f0).wf = true) (hu : (Lit.int .i64 upto).wf = true) : Ev (fun k => spec_StoreTrim.f k kept late c upto) (storeTrim kept late c upto) := by
  unfold storeTrim spec_StoreTrim.f
  have hso := spec_StoreOk_f kept late c (by omega) (by omega) hwk hwl
  refine Evbind hso ?_
  by_cases h : storeOk kept late c = true
  · rw [if_pos h]
    have hs := storeOk_asc h
    refine Evpos h (Evbind (Evconst (spec_l6Copy_f kept late c (by omega) (by omega))) (Evbind (Evconst (spec_PlaceOk_f upto hu)) ?_))
    by_cases h2 : placeOk upto = true
    · rw [if_pos h2]
      exact Evpos h2 (spec_StoreTrim_l0 upto c c kept late late hs.2.1 0 (by omega) [] (by simp))
    · rw [if_neg h2]; exact Evneg h2 (Ev.now _)
  · rw [if_neg h]; exact Evneg h (Ev.now _)

theorem impl_copyStore_f (x y : List S35) (c : Int) (hx : x.length < 3518437208883) (hy : y.length < 3518437208883) : impl_copyStore.f x y c = some (x, y, c) := by
  unfold impl_copyStore.f impl_copyEntries.f
  rw [Option.bind_some, if_pos (by simpa using hx), Option.bind_some, Option.bind_some, if_pos (by simpa using hy)]; rfl
theorem impl_storeAsWas_f (kept late : List S35) (c : Int) (hk : kept.length < 3518437208883) (hl : late.length < 3518437208883) (hwk : ∀ x ∈ kept, (Lit.int .i64 x.f0).wf = true) (hwl : ∀ x ∈ late, (Lit.int .i64 x.f0).wf = true) : Ev (fun k => impl_storeAsWas.f k kept late c) (if storeOk kept late c = true then (kept, late, c) else ([], [], 0)) := by
  unfold impl_storeAsWas.f
  refine Evbind (impl_StoreOk_f kept late c (by omega) (by omega) hwk hwl) ?_
  by_cases h : storeOk kept late c = true
  · exact Evpos h (Evto (if_pos h).symm (Evbind (Evconst (impl_copyStore_f kept late c hk hl)) (Ev.now _)))
  · exact Evneg h (Evto (if_neg h).symm (Ev.now _))

theorem keepE_trP (a : Int) : keepE a = trP a := by
  funext x
  unfold keepE trP
  by_cases h : x.f0 ≤ a
  · rw [decide_eq_true h, decide_eq_false (by omega)]; rfl
  · rw [decide_eq_false h, decide_eq_true (by omega)]; rfl
theorem impl_StoreTrim_f (kept late : List S35) (c upto : Int) (hk : kept.length < 1000000000) (hl : late.length < 1000000000) (hwk : ∀ x ∈ kept, (Lit.int .i64 x.f0).wf = true) (hwl : ∀ x ∈ late, (Lit.int .i64 x.f0).wf = true) (hu : (Lit.int .i64 upto).wf = true) : Ev (fun k => impl_StoreTrim.f k kept late c upto) (storeTrim kept late c upto) := by
  have hcp := impl_copyStore_f kept late c (by omega) (by omega)
  have hno : ¬ (storeOk kept late c = true ∧ placeOk upto = true) → Ev (fun k => impl_StoreTrim.j0 k upto true kept late c) (storeTrim kept late c upto) := by
    intro hh
    refine Ev.step (fun k => by rw [impl_StoreTrim.j0, if_pos rfl]) (Evbind (impl_storeAsWas_f kept late c (by omega) (by omega) hwk hwl) ?_)
    unfold storeTrim
    by_cases h : storeOk kept late c = true
    · rw [if_pos h, if_pos h, if_neg (fun h2 => hh ⟨h, h2⟩)]
      exact Ev.now _
    · rw [if_neg h, if_neg h]
      exact Ev.now _
  unfold impl_StoreTrim.f
  refine Evbind (impl_StoreOk_f kept late c (by omega) (by omega) hwk hwl) ?_
  by_cases h : storeOk kept late c = true
  · refine Evpos h (Evbind (Evconst (impl_PlaceOk_f upto hu)) ?_)
    by_cases h2 : placeOk upto = true
    · have hs := storeOk_asc h
      rw [h2]
      refine Ev.step (fun k => by rw [impl_StoreTrim.j0, if_neg (by decide), hcp, Option.bind_some]) ?_
      have ht : trimDel.f kept upto = some (kept.filter (trP upto)) := by
        unfold trimDel.f
        rw [if_pos (by omega), keepE_trP]
      refine Evbind (Evconst ht) ?_
      unfold storeTrim
      rw [if_pos h, if_pos h2]
      exact Ev.now _
    · have h2' : placeOk upto = false := by simpa using h2
      rw [h2']
      exact hno (fun hh => h2 hh.2)
  · exact Evneg h (hno (fun hh => h hh.1))

theorem impl_StoreGet_f (kept late : List S35) (c p : Int) (hk : kept.length < 4611686018427387904) (hl : late.length < 4611686018427387904) (hwk : ∀ x ∈ kept, (Lit.int .i64 x.f0).wf = true) (hwl : ∀ x ∈ late, (Lit.int .i64 x.f0).wf = true) : Ev (fun k => impl_StoreGet.f k kept late c p) (storeGet kept late c p) := by
  unfold impl_StoreGet.f storeGet
  refine Evbind (impl_StoreOk_f kept late c hk hl hwk hwl) ?_
  by_cases h : storeOk kept late c = true
  · have ha := (storeOk_asc h).1
    have hp : impl_placeIn.f kept p = some (((lowG kept p : Nat) : Int), foundG kept p) := by unfold impl_placeIn.f; rw [if_pos ⟨by rw [plAscG_eq]; exact ha, hk⟩]
    refine Evpos h (Evto (if_pos h).symm (Evbind (Evconst hp) ?_))
    rw [getM_asc p kept ha]
    by_cases hf : foundG kept p = true
    · have hlt := foundG_lt hf
      refine Evpos hf (Evpos (Int.natCast_nonneg _) (Evpos (by simpa using hlt) (Evto ?_ (Ev.now _))))
      rw [if_pos hf]
      simp only [rdE]
      rfl
    · exact Evneg hf (Evto (if_neg hf).symm (Ev.now _))
  · exact Evneg h (Evto (if_neg h).symm (Ev.now _))

theorem ascPE_lt (l : List S35) : ∀ p, ascPE p l = true → ∀ x ∈ l, p < x.f0 := by
  induction l with
  | nil => intro p _ x hx; simp at hx
  | cons y t ih =>
    intro p h x hx
    simp only [ascPE, Bool.and_eq_true, decide_eq_true_eq] at h
    rcases List.mem_cons.1 hx with rfl | hx
    · exact h.1
    · have := ih y.f0 h.2 x hx; omega
theorem getM_memP (l : List S35) : ∀ p, ascPE p l = true → ∀ x ∈ l, getM l x.f0 = getF x := by
  induction l with
  | nil => intro p _ x hx; simp at hx
  | cons y t ih =>
    intro p h x hx
    simp only [ascPE, Bool.and_eq_true, decide_eq_true_eq] at h
    rcases List.mem_cons.1 hx with rfl | hx
    · rw [getM, if_pos rfl]
    · have := ascPE_lt t y.f0 h.2 x hx
      rw [getM, if_neg (by omega)]
      exact ih y.f0 h.2 x hx
theorem getM_mem (l : List S35) (h : placesAsc l = true) (x : S35) (hx : x ∈ l) : getM l x.f0 = getF x := by
  cases l with
  | nil => simp at hx
  | cons y t => exact getM_memP (y :: t) (y.f0 - 1) (by simp only [ascPE, Bool.and_eq_true, decide_eq_true_eq]; exact ⟨by omega, h⟩) x hx
theorem storeOk_mk {kept late : List S35} {c : Int} (h1 : placesAsc kept = true) (h2 : kept.length ≤ 200) (h3 : late.length ≤ 20) (h4 : ∀ x ∈ kept, eOk x = true) (h5 : ∀ x ∈ late, eOk x = true) (h6 : 0 ≤ c ∧ c ≤ 30) : storeOk kept late c = true := by
  simp only [storeOk, Bool.and_eq_true, decide_eq_true_eq, List.all_eq_true]
  exact ⟨⟨⟨⟨⟨h2, h3⟩, h4⟩, h5⟩, h1⟩, h6⟩

theorem ascPE_filter (q : S35 → Bool) (l : List S35) : ∀ p, ascPE p l = true → ascPE p (l.filter q) = true := by
  induction l with
  | nil => intro p _; rfl
  | cons x t ih =>
    intro p h
    simp only [ascPE, Bool.and_eq_true, decide_eq_true_eq] at h
    by_cases hq : q x = true
    · rw [List.filter_cons_of_pos hq]
      simp only [ascPE, Bool.and_eq_true, decide_eq_true_eq]
      exact ⟨h.1, ih x.f0 h.2⟩
    · rw [List.filter_cons_of_neg hq]
      exact ascPE_weak _ x.f0 p (ih x.f0 h.2) (by omega)
theorem placesAsc_filter (q : S35 → Bool) (l : List S35) (h : placesAsc l = true) : placesAsc (l.filter q) = true := by
  obtain ⟨p, hp⟩ := (placesAsc_iff l).1 h
  exact (placesAsc_iff _).2 ⟨p, ascPE_filter q l p hp⟩
theorem ascPE_next (l : List S35) : ∀ p, ascPE p l = true → ∀ i, i + 1 < l.length → (l.getD i z35).f0 < (l.getD (i + 1) z35).f0 := by
  induction l with
  | nil => intro p _ i hi; simp at hi
  | cons x t ih =>
    intro p h i hi
    simp only [ascPE, Bool.and_eq_true, decide_eq_true_eq] at h
    cases i with
    | zero =>
      cases t with
      | nil => simp at hi
      | cons y s =>
        have h2 := h.2
        simp only [ascPE, Bool.and_eq_true, decide_eq_true_eq] at h2
        exact h2.1
    | succ i => exact ih x.f0 h.2 i (by simpa using hi)
theorem getD_in (l : List S35) (i : Nat) (hi : i < l.length) : l.getD i z35 ∈ l := by
  rw [show l.getD i z35 = l[i] by simp [List.getD_eq_getElem?_getD, List.getElem?_eq_getElem hi]]
  exact List.getElem_mem hi

theorem sameEntries_l0 (l : List S35) (hn : l.length < 4611686018427387904) : ∀ i, i ≤ l.length → Ev (fun k => laws_sameEntries.l0 k l l (i : Int)) true := by
  refine down l.length ?_ ?_
  · exact Ev.step (f := fun _ => some true) (fun k => by rw [laws_sameEntries.l0, if_neg (by omega)]) (Ev.now _)
  · intro i hi ih
    exact Ev.step (f := fun k => laws_sameEntries.l0 k l l ((i + 1 : Nat) : Int)) (fun k => by rw [laws_sameEntries.l0, if_pos (by omega), if_pos (by omega), if_pos (by omega), if_neg (by simp), wsucc i (by omega)]) ih
theorem sameEntries_refl (l : List S35) (hn : l.length < 4611686018427387904) : Ev (fun k => laws_sameEntries.f k l l) true := Ev.congr (fun k => by rw [laws_sameEntries.f, if_pos rfl]; rfl) (sameEntries_l0 l hn 0 (by omega))

theorem fe_l1t (upto : Int) (K L : List S35) (C : Int) (hs : storeOk K L C = true) (hwk : ∀ x ∈ K, (Lit.int .i64 x.f0).wf = true) (hwl : ∀ x ∈ L, (Lit.int .i64 x.f0).wf = true) :
    ∀ i, i ≤ K.length → Ev (fun k => laws_FnEras.l1 k upto true (i : Int) K L C (K.filter (trP upto)) L C) true := by
  have ha := storeOk_asc hs
  have hfl : (K.filter (trP upto)).length ≤ K.length := List.length_filter_le _ _
  have hN : storeOk (K.filter (trP upto)) L C = true := storeOk_mk (placesAsc_filter _ K ha.1) (by omega) ha.2.2.1 (fun x hx => ha.2.2.2.1 x (List.mem_filter.1 hx).1) ha.2.2.2.2.1 ha.2.2.2.2.2
  refine down K.length ?_ ?_
  · refine Ev.step (f := fun k => laws_FnEras.j2 k upto true (K.length : Int) false K L C (K.filter (trP upto)) L C) (fun k => by rw [laws_FnEras.l1, if_neg (by omega)]) ?_
    exact Ev.step (f := fun _ => some true) (fun k => by rw [laws_FnEras.j2, if_neg Bool.false_ne_true]) (Ev.now _)
  · intro i hi ih
    refine Ev.step (f := fun k => laws_FnEras.j2 k upto true (i : Int) true K L C (K.filter (trP upto)) L C) (fun k => by rw [laws_FnEras.l1, if_pos (by omega)]) ?_
    have hy := getD_in K i hi
    have hget := impl_StoreGet_f (K.filter (trP upto)) L C (K.getD i z35).f0 (by omega) (by omega) (fun x hx => hwk x (List.mem_filter.1 hx).1) hwl
    rw [storeGet, if_pos hN] at hget
    refine Ev.step (fun k => by rw [laws_FnEras.j2, if_pos rfl, if_pos (by omega), if_pos (by omega), rdE, wsucc i (by omega)]) (Evbind hget (Evneg ?_ ih))
    generalize K.getD i z35 = y at *
    by_cases hp : y.f0 > upto
    · rw [getM_mem _ (placesAsc_filter _ K ha.1) y (List.mem_filter.2 ⟨hy, decide_eq_true hp⟩)]
      show ¬ ((true != decide (y.f0 > upto)) = true)
      rw [decide_eq_true hp]; decide
    · rw [getM_none _ y.f0 (fun z hz e => by
        have h1 := (List.mem_filter.1 hz).2
        have h2 : z.f0 > upto := of_decide_eq_true h1
        omega)]
      show ¬ ((false != decide (y.f0 > upto)) = true)
      rw [decide_eq_false hp]; decide
theorem fe_l1f (upto : Int) (K L : List S35) (C : Int) (N M : List S35) (C' : Int) : Ev (fun k => laws_FnEras.l1 k upto false 0 K L C N M C') true := by
  have hj : Ev (fun k => laws_FnEras.j2 k upto false 0 false K L C N M C') true := Ev.step (f := fun _ => some true) (fun k => by rw [laws_FnEras.j2, if_neg Bool.false_ne_true]) (Ev.now _)
  by_cases h : (0 : Int) < (K.length : Int)
  · exact Ev.step (fun k => by rw [laws_FnEras.l1, if_pos h]) hj
  · exact Ev.step (fun k => by rw [laws_FnEras.l1, if_neg h]) hj
theorem fe_l0 (b : List Int) (epoch : Int) (K L : List S35) (C : Int) (hI : stI 400 K L) (hT : Ev (fun k => laws_FnEras.l0 k b epoch (storeEra K L C epoch) ((storeEra K L C epoch).length : Int) K L C) true) :
    ∀ i, i ≤ (storeEra K L C epoch).length → Ev (fun k => laws_FnEras.l0 k b epoch (storeEra K L C epoch) (i : Int) K L C) true := by
  have hlen := storeEra_len K L C epoch
  have hk := hI.1
  have hl := hI.2.1
  refine down (storeEra K L C epoch).length hT ?_
  intro i hi ih
  have hs : storeOk K L C = true := by
    by_cases h : storeOk K L C = true
    · exact h
    · exfalso; unfold storeEra at hi; rw [if_neg h] at hi; simp at hi
  have ha := storeOk_asc hs
  have hE : storeEra K L C epoch = K.filter (eraP epoch) := by unfold storeEra; rw [if_pos hs]
  have hmem := getD_in (storeEra K L C epoch) i hi
  have hasc : ∀ t, t + 1 < (storeEra K L C epoch).length → ((storeEra K L C epoch).getD t z35).f0 < ((storeEra K L C epoch).getD (t + 1) z35).f0 := by
    obtain ⟨p, hp⟩ := (placesAsc_iff _).1 (placesAsc_filter (eraP epoch) K ha.1)
    rw [hE]; exact ascPE_next _ p hp
  have hm2 : (storeEra K L C epoch).getD i z35 ∈ K ∧ epochOf ((storeEra K L C epoch).getD i z35).f0 = epoch := by
    have h := hmem
    generalize (storeEra K L C epoch).getD i z35 = y at h
    rw [hE] at h
    exact ⟨(List.mem_filter.1 h).1, of_decide_eq_true (List.mem_filter.1 h).2⟩
  generalize storeEra K L C epoch = E at *
  have hget := impl_StoreGet_f K L C (E.getD i z35).f0 (by omega) (by omega) hI.2.2.1 hI.2.2.2
  rw [storeGet, if_pos hs, getM_mem K ha.1 _ hm2.1] at hget
  have hep := impl_EpochOf_f (E.getD i z35).f0 (hI.2.2.1 _ hm2.1)
  have hw := wsucc i (by omega)
  refine Ev.step (fun k => by rw [laws_FnEras.l0, if_pos (by omega), if_pos (by omega), rdE, hw]) ?_
  refine Evbind hget (Evpos rfl (Evneg (by simp [getF]) (Evbind (Evconst hep) (Evpos hm2.2 ?_))))
  by_cases h0 : (i : Int) > 0
  · have hw2 : wrap64 ((i : Int) - 1) = ((i - 1 : Nat) : Int) := by rw [w64 (by omega) (by omega)]; omega
    have hlt := hasc (i - 1) (by omega)
    rw [show i - 1 + 1 = i by omega] at hlt
    refine Evpos h0 ?_
    rw [hw2]
    refine Evpos (by omega) (Evpos (by omega) (Evneg ?_ ih))
    rw [rdE]
    omega
  · exact Evneg h0 ih
theorem FnEras (l0 : List Int) (hl0 : l0.length ≤ maxLen ∧ ∀ x ∈ l0, (Lit.int .u8 x).wf = true) : ∃ k, laws_FnEras.f k l0 = some true := by
  refine Ev.rounds (g := fun k => laws_FnEras.f k l0) ?_
  unfold laws_FnEras.f laws_big.f
  simp only [Option.bind_some]
  by_cases hbig : (l0.length : Int) > 1048576
  · exact Evpos (decide_eq_true hbig) (Ev.now _)
  refine Evneg (by simpa using hbig) ?_
  obtain ⟨K, L, c, epoch, ed, hI⟩ := DrawStoreEra_f l0 (by omega)
  have hk := hI.1
  have hl := hI.2.1
  have hi := impl_StoreEra_f K L c epoch (by omega) (by omega) hI.2.2.1 hI.2.2.2
  have hsp := spec_StoreEra_f K L c epoch (by omega) (by omega) hI.2.2.1 hI.2.2.2
  have hlen := storeEra_len K L c epoch
  refine Evbind ed (Evbind hi (Evbind hsp (Evbind (sameEntries_refl _ (by omega)) (Evpos rfl ?_))))
  refine fe_l0 l0 epoch K L c hI ?_ 0 (by omega)
  refine Ev.step (fun k => by rw [laws_FnEras.l0, if_neg (by omega)]) ?_
  obtain ⟨K2, L2, c2, up, ed2, hI2, hup⟩ := DrawStoreTrim_f l0 (by omega)
  have hk2 := hI2.1
  have hl2 := hI2.2.1
  have hi2 := impl_StoreTrim_f K2 L2 c2 up (by omega) (by omega) hI2.2.2.1 hI2.2.2.2 hup
  have hsp2 := spec_StoreTrim_f K2 L2 c2 up (by omega) (by omega) hI2.2.2.1 hI2.2.2.2 hup
  refine Evbind ed2 (Evbind hi2 (Evbind hsp2 (Evneg (by simp) ?_)))
  unfold storeTrim
  by_cases hs : storeOk K2 L2 c2 = true
  · rw [if_pos hs]
    by_cases h2 : placeOk up = true
    · rw [if_pos h2]
      exact fe_l1t up K2 L2 c2 hs hI2.2.2.1 hI2.2.2.2 0 (by omega)
    · rw [if_neg h2]
      exact fe_l1f up K2 L2 c2 _ _ _
  · rw [if_neg hs]
    exact fe_l1f up K2 L2 c2 _ _ _

end Go.Proofs.Ytnoghojlpicecaa.Pure
