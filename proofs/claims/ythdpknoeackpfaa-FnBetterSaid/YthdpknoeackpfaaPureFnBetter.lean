/- The better one of two drawn entries is one of them, none has a greater wave, and of a third one it does not matter which two are held first where the waves are not alike. Conditions: none beyond the given statement. -/
import Derived.Test.YthdpknoeackpfaaMFnBetterx4
import Derived.OpenShut
import Derived.Laws.BitsLemmas
namespace Go.Proofs.Ythdpknoeackpfaa.Pure
open Go.RowKit Go.Proofs.Ythdpknoeackpfaa.PFnBetter Go.Proofs.YthdpknoeackpfaaW.PrintWords Go.Proofs.YthdpknoeackpfaaW.PrintLast Go.Proofs.YthdpknoeackpfaaW.PrintMore
set_option linter.unusedVariables false
set_option linter.unusedSimpArgs false
/-! base -/
theorem w64 {n : Int} (h : -9223372036854775808 ≤ n) (h2 : n ≤ 9223372036854775807) : wrap64 n = n := by unfold wrap64; omega
theorem wsucc (i : Nat) (h : i < 4611686018427387904) : wrap64 ((i : Int) + 1) = ((i + 1 : Nat) : Int) := by unfold wrap64; omega
theorem wf64 {n : Int} (h : (Lit.int .i64 n).wf = true) : -9223372036854775808 ≤ n ∧ n ≤ 9223372036854775807 := bounds_i64 h
theorem Evpos {α : Type} {c : Prop} [Decidable c] {a b : Nat → Option α} {r : α} (h : c) (e : Ev a r) : Ev (fun k => if c then a k else b k) r := Ev.congr (fun _ => if_pos h) e
theorem Evneg {α : Type} {c : Prop} [Decidable c] {a b : Nat → Option α} {r : α} (h : ¬ c) (e : Ev b r) : Ev (fun k => if c then a k else b k) r := Ev.congr (fun _ => if_neg h) e
theorem Evsome {α β : Type} {a : α} {f : Nat → α → Option β} {r : β} (e : Ev (fun k => f k a) r) : Ev (fun k => (some a).bind (f k)) r := e
theorem Evbind {α β : Type} {g : Nat → Option α} {f : Nat → α → Option β} {a : α} {r : β} (h : Ev g a) (e : Ev (fun n => f n a) r) : Ev (fun n => (g n).bind (f n)) r := Ev.bind h e
theorem Evconst {α : Type} {g : Option α} {r : α} (h : g = some r) : Ev (fun _ => g) r := ⟨0, fun _ _ => h⟩
theorem Evto {α : Type} {g : Nat → Option α} {r r' : α} (h : r = r') (e : Ev g r) : Ev g r' := h ▸ e
theorem rd_nat (xs : List Int) (i : Nat) : rd xs (i : Int) = xs.getD i 0 := by simp [rd]
theorem getD_get (xs : List Int) (i : Nat) (h : i < xs.length) : xs.getD i 0 = xs[i] := by simp [List.getD_eq_getElem?_getD, List.getElem?_eq_getElem h]
theorem get_getD (xs : List Int) (i : Nat) (h : i < xs.length) : xs[i]? = some (xs.getD i 0) := by simp [List.getD_eq_getElem?_getD, List.getElem?_eq_getElem h]
theorem wf_getD {kd : IntKind} (xs : List Int) (hw : ∀ x ∈ xs, (Lit.int kd x).wf = true) (i : Nat) (h : i < xs.length) : (Lit.int kd (xs.getD i 0)).wf = true := by
  rw [getD_get xs i h]; exact hw _ (List.getElem_mem h)
theorem wf_iff (k : IntKind) (n : Int) : (Lit.int k n).wf = true ↔ k.min ≤ n ∧ n ≤ k.max := by simp [Lit.wf]
theorem wf8 {n : Int} (h : (Lit.int .u8 n).wf = true) : 0 ≤ n ∧ n ≤ 255 := by
  have := (wf_iff .u8 n).1 h
  simpa [IntKind.min, IntKind.max, IntKind.bits, IntKind.signed] using this
theorem wf_mk8 {n : Int} (h : 0 ≤ n) (h2 : n ≤ 255) : (Lit.int .u8 n).wf = true :=
  (wf_iff .u8 n).2 (by simp [IntKind.min, IntKind.max, IntKind.bits, IntKind.signed]; omega)
theorem wf_mk64 {n : Int} (h : -9223372036854775808 ≤ n) (h2 : n ≤ 9223372036854775807) : (Lit.int .i64 n).wf = true :=
  (wf_iff .i64 n).2 (by simp [IntKind.min, IntKind.max, IntKind.bits, IntKind.signed]; omega)
theorem drop_at (b : List Int) (j : Nat) (h : j < b.length) : b.drop j = b.getD j 0 :: b.drop (j + 1) := by
  rw [List.drop_eq_getElem_cons h, getD_get b j h]
theorem p63 : (2 : Int) ^ 63 = 9223372036854775808 := by decide
theorem p1289 : (128 : Nat) ^ 9 = 9223372036854775808 := by decide
theorem p27 : (2 : Int) ^ 7 = 128 := by decide
theorem natpos (i : Nat) : ((i : Int) > 0) ↔ 0 < i := by omega

/-! down -/
theorem down {p : Nat → Prop} (n : Nat) (h0 : p n) (hs : ∀ i, i < n → p (i + 1) → p i) (i : Nat) (hi : i ≤ n) : p i := by
  obtain ⟨d, hd⟩ : ∃ d, i + d = n := ⟨n - i, by omega⟩
  induction d generalizing i with
  | zero => obtain rfl : i = n := by omega
            exact h0
  | succ d ih => exact hs i (by omega) (ih (i + 1) (by omega) (by omega))
theorem getD_mem (l : List Int) (i : Nat) (h : i < l.length) : l.getD i 0 ∈ l := by
  rw [getD_get l i h]; exact List.getElem_mem h

/-! drawnew -/
theorem l1New_l0 (b : List Int) (hb : b.length < 4611686018427387904) : ∀ i, i ≤ b.length → ∀ h : Int, ∃ h', Ev (fun k => spec_l1New.l0 k b h (i : Int)) (b, 0, h') := by
  refine down b.length ?_ ?_
  · intro h
    exact ⟨h, Ev.step (f := fun _ => some (b, 0, h)) (fun k => by rw [spec_l1New.l0, if_neg (by omega)]) (Ev.now _)⟩
  · intro i hi ih h
    by_cases c : (i : Int) < 4000
    · obtain ⟨h', e⟩ := ih (Go.bits .and .i64 (wrap64 ((wrap64 ((wrap64 (h * 131)) + (wrap64 (rd b i)))) + 7)) 1073741823)
      exact ⟨h', Ev.step (f := fun k => spec_l1New.l0 k b (Go.bits .and .i64 (wrap64 ((wrap64 ((wrap64 (h * 131)) + (wrap64 (rd b i)))) + 7)) 1073741823) ((i + 1 : Nat) : Int)) (fun k => by rw [spec_l1New.l0, if_pos (by omega), if_pos c, if_pos (by omega), wsucc i (by omega)]) e⟩
    · exact ⟨h, Ev.step (f := fun _ => some (b, 0, h)) (fun k => by rw [spec_l1New.l0, if_pos (by omega), if_neg c]) (Ev.now _)⟩
theorem l1New_f (b : List Int) (hb : b.length < 4611686018427387904) : ∃ h', Ev (fun k => spec_l1New.f k b) (b, 0, h') := by
  obtain ⟨h', e⟩ := l1New_l0 b hb 0 (by omega) (wrap64 (17817 + (b.length : Int)))
  exact ⟨h', Ev.congr (fun k => by rw [spec_l1New.f]; rfl) e⟩

/-! andbd -/
theorem and_bd (x : Int) (m : Nat) (hm : m < 9223372036854775808) : 0 ≤ Go.bits .and .i64 x (m : Int) ∧ Go.bits .and .i64 x (m : Int) ≤ m := by
  have hb : IntKind.bits .i64 = 64 := rfl
  have key : ((BitVec.ofInt 64 x) &&& (BitVec.ofInt 64 (m : Int))).toNat ≤ m := by
    rw [BitVec.toNat_and, BitVec.ofInt_natCast, BitVec.toNat_ofNat]
    exact Nat.le_trans Nat.and_le_right (Nat.mod_le _ _)
  have e : Go.bits .and .i64 x (m : Int) = IntKind.i64.wrap ((((BitVec.ofInt 64 x) &&& (BitVec.ofInt 64 (m : Int))).toNat : Nat) : Int) := rfl
  rw [e, IntKind.wrap_i64]
  generalize ((BitVec.ofInt 64 x) &&& (BitVec.ofInt 64 (m : Int))).toNat = z at *
  omega

/-! drawbyte -/
theorem l1Byte_f (b : List Int) (i h : Int) (h0 : 0 ≤ i) (h1 : i ≤ b.length) (hb : b.length < 4611686018427387904) : ∃ x i' h', spec_l1Byte.f b i h = some (x, i', h') ∧ 0 ≤ x ∧ x ≤ 255 ∧ 0 ≤ i' ∧ i' ≤ b.length := by
  unfold spec_l1Byte.f
  by_cases hc : i < (b.length : Int)
  · rw [if_pos hc, if_pos h0]
    have e : wrap64 (i + 1) = i + 1 := w64 (by omega) (by omega)
    have a := fun x => and_bd x 255 (by omega)
    exact ⟨_, _, _, rfl, (a _).1, (a _).2, by rw [e]; omega, by rw [e]; omega⟩
  · rw [if_neg hc]
    have a := fun x => and_bd x 255 (by omega)
    exact ⟨_, _, _, rfl, (a _).1, (a _).2, h0, h1⟩
theorem l1Below_f (b : List Int) (i h n : Int) (h0 : 0 ≤ i) (h1 : i ≤ b.length) (hb : b.length < 4611686018427387904) : ∃ x i' h', spec_l1Below.f b i h n = some (x, i', h') ∧ 0 ≤ x ∧ (0 < n → x < n) ∧ (n ≤ 0 → x = 0) ∧ x ≤ 4294967295 ∧ 0 ≤ i' ∧ i' ≤ b.length := by
  unfold spec_l1Below.f
  by_cases c1 : n ≤ 0
  · rw [if_pos c1]; exact ⟨_, _, _, rfl, by omega, by omega, fun _ => rfl, by omega, h0, h1⟩
  rw [if_neg c1]
  obtain ⟨x, i1, hh1, e1, b1⟩ := l1Byte_f b i h h0 h1 hb
  by_cases c2 : n ≤ 256
  · rw [if_pos c2, e1, Option.bind_some, if_neg (by omega)]
    have hm : Int.tmod x n = x % n := Int.tmod_eq_emod_of_nonneg (by omega)
    have hm1 := Int.emod_lt_of_pos x (show 0 < n by omega)
    have hm0 := Int.emod_nonneg x (show n ≠ 0 by omega)
    refine ⟨_, _, _, rfl, ?_⟩
    show 0 ≤ Int.tmod x n ∧ (0 < n → Int.tmod x n < n) ∧ (n ≤ 0 → Int.tmod x n = 0) ∧ Int.tmod x n ≤ 4294967295 ∧ 0 ≤ i1 ∧ i1 ≤ b.length
    rw [hm]
    exact ⟨hm0, fun _ => hm1, fun hh => absurd hh c1, by omega, b1.2.2.1, b1.2.2.2⟩
  · obtain ⟨y, i2, hh2, e2, b2⟩ := l1Byte_f b i1 hh1 b1.2.2.1 b1.2.2.2 hb
    obtain ⟨z, i3, hh3, e3, b3⟩ := l1Byte_f b i2 hh2 b2.2.2.1 b2.2.2.2 hb
    obtain ⟨w, i4, hh4, e4, b4⟩ := l1Byte_f b i3 hh3 b3.2.2.1 b3.2.2.2 hb
    rw [if_neg c2, e1, Option.bind_some]
    simp only [e2, e3, e4, Option.bind_some]
    rw [if_neg (by omega)]
    have w1 : wrap64 (x * 16777216) = x * 16777216 := w64 (by omega) (by omega)
    have w2 : wrap64 (y * 65536) = y * 65536 := w64 (by omega) (by omega)
    have w3 : wrap64 (x * 16777216 + y * 65536) = x * 16777216 + y * 65536 := w64 (by omega) (by omega)
    have w4 : wrap64 (z * 256) = z * 256 := w64 (by omega) (by omega)
    have w5 : wrap64 (x * 16777216 + y * 65536 + z * 256) = x * 16777216 + y * 65536 + z * 256 := w64 (by omega) (by omega)
    have w6 : wrap64 (x * 16777216 + y * 65536 + z * 256 + w) = x * 16777216 + y * 65536 + z * 256 + w := w64 (by omega) (by omega)
    rw [w1, w2, w3, w4, w5, w6]
    have hs0 : 0 ≤ x * 16777216 + y * 65536 + z * 256 + w := by omega
    have hs1 : x * 16777216 + y * 65536 + z * 256 + w ≤ 4294967295 := by omega
    generalize x * 16777216 + y * 65536 + z * 256 + w = s at *
    have hm : Int.tmod s n = s % n := Int.tmod_eq_emod_of_nonneg hs0
    have hm1 := Int.emod_lt_of_pos s (show 0 < n by omega)
    have hm0 := Int.emod_nonneg s (show n ≠ 0 by omega)
    have hm2 : s % n ≤ s := by
      have := Int.emod_add_mul_ediv s n
      have hq : 0 ≤ s / n := Int.ediv_nonneg hs0 (by omega)
      have : 0 ≤ n * (s / n) := Int.mul_nonneg (by omega) hq
      omega
    refine ⟨_, _, _, rfl, ?_⟩
    rw [hm]
    exact ⟨hm0, fun _ => hm1, fun hh => absurd hh c1, by omega, b4.2.2.1, b4.2.2.2⟩

/-! drawpick -/
theorem l1PickInt_f (b : List Int) (i h : Int) (l : List Int) (hl : 0 < l.length) (hl2 : l.length < 1000) (h0 : 0 ≤ i) (h1 : i ≤ b.length) (hb : b.length < 4611686018427387904) : ∃ x i' h', spec_l1PickInt.f b i h l = some (x, i', h') ∧ x ∈ l ∧ 0 ≤ i' ∧ i' ≤ b.length := by
  obtain ⟨x, i', h', e, b1⟩ := l1Below_f b i h (l.length : Int) h0 h1 hb
  unfold spec_l1PickInt.f
  have hx := b1.2.1 (by omega)
  obtain ⟨n, rfl⟩ := Int.eq_ofNat_of_zero_le b1.1
  rw [e, Option.bind_some]
  simp only []
  rw [if_pos b1.1, if_pos hx]
  refine ⟨_, _, _, rfl, ?_, b1.2.2.2.2⟩
  show rd l (n : Int) ∈ l
  rw [rd_nat]
  exact getD_mem l n (by omega)

/-! drawplace -/
theorem l1Place_f (e o : Int) (he : 0 ≤ e ∧ e ≤ 31) (ho : 0 ≤ o ∧ o ≤ 61) : spec_l1Place.f e o = some (4294967296 * e + o) := by
  unfold spec_l1Place.f
  rw [w64 (n := 4294967296 * e) (by omega) (by omega), w64 (by omega) (by omega)]

/-! drawpicks -/
theorem l1Pick_f (b : List Int) (i h : Int) (l : List ByteArray) (hl : 0 < l.length) (hl2 : l.length < 1000) (h0 : 0 ≤ i) (h1 : i ≤ b.length) (hb : b.length < 4611686018427387904) : ∃ x i' h', spec_l1Pick.f b i h l = some (x, i', h') ∧ x ∈ l ∧ 0 ≤ i' ∧ i' ≤ b.length := by
  obtain ⟨x, i', h', e, b1⟩ := l1Below_f b i h (l.length : Int) h0 h1 hb
  unfold spec_l1Pick.f
  have hx := b1.2.1 (by omega)
  obtain ⟨n, rfl⟩ := Int.eq_ofNat_of_zero_le b1.1
  rw [e, Option.bind_some]
  simp only []
  rw [if_pos b1.1, if_pos hx]
  refine ⟨_, _, _, rfl, ?_, b1.2.2.2.2⟩
  show rdOf ByteArray.empty l (n : Int) ∈ l
  have hn : n < l.length := by omega
  have : rdOf ByteArray.empty l (n : Int) = l[n] := by simp [rdOf, List.getD_eq_getElem?_getD, List.getElem?_eq_getElem hn]
  rw [this]; exact List.getElem_mem hn

/-! drawonce -/
theorem l1Once_f (b : List Int) (i h n : Int) (h0 : 0 ≤ i) (h1 : i ≤ b.length) (hb : b.length < 4611686018427387904) : ∃ x i' h', spec_l1Once.f b i h n = some (x, i', h') ∧ 0 ≤ i' ∧ i' ≤ b.length := by
  obtain ⟨x, i', h', e, b1⟩ := l1Below_f b i h n h0 h1 hb
  unfold spec_l1Once.f
  rw [e, Option.bind_some]
  exact ⟨_, _, _, rfl, b1.2.2.2.2⟩

/-! specin -/
theorem spec_l1In_f (a b c : Int) : spec_l1In.f a b c = some (decide (b ≤ a ∧ a ≤ c)) := by
  unfold spec_l1In.f
  by_cases h : a ≥ b
  · rw [if_pos h]; congr 1; exact decide_eq_decide.2 (by omega)
  · rw [if_neg h]; congr 1; symm; exact decide_eq_false (by omega)

/-! placem -/
def placeOk (x : Int) : Bool := decide (4294967296 ≤ x ∧ x / 4294967296 ≤ 30 ∧ 1 ≤ x % 4294967296 ∧ x % 4294967296 ≤ 60)
theorem tdm (x : Int) : (0 ≤ x ∧ Int.tdiv x 4294967296 = x / 4294967296 ∧ Int.tmod x 4294967296 = x % 4294967296) ∨ (x < 0 ∧ Int.tdiv x 4294967296 ≤ 0 ∧ x ≤ Int.tdiv x 4294967296 ∧ Int.tmod x 4294967296 ≤ 0) := by
  by_cases h : 0 ≤ x
  · exact .inl ⟨h, Int.tdiv_eq_ediv_of_nonneg h, Int.tmod_eq_emod_of_nonneg h⟩
  · refine .inr ⟨by omega, ?_⟩
    obtain ⟨y, rfl⟩ : ∃ y, x = -y := ⟨-x, by omega⟩
    rw [Int.neg_tdiv, Int.neg_tmod, Int.tdiv_eq_ediv_of_nonneg (by omega), Int.tmod_eq_emod_of_nonneg (by omega)]
    omega
theorem placeOk_iff (x : Int) : placeOk x = true ↔ (4294967296 ≤ x ∧ x / 4294967296 ≤ 30 ∧ 1 ≤ x % 4294967296 ∧ x % 4294967296 ≤ 60) := by simp [placeOk]
theorem placeOk_div (x : Int) (h : placeOk x = true) : wrap64 (Int.tdiv x 4294967296) = x / 4294967296 := by
  have := (placeOk_iff x).1 h
  rw [Int.tdiv_eq_ediv_of_nonneg (by omega), w64 (by omega) (by omega)]
theorem placeOk_mod (x : Int) (h : placeOk x = true) : Int.tmod x 4294967296 = x % 4294967296 := by
  have := (placeOk_iff x).1 h
  rw [Int.tmod_eq_emod_of_nonneg (by omega)]

/-! splace -/
theorem spec_PlaceOk_f (x : Int) (h : (Lit.int .i64 x).wf = true) : spec_PlaceOk.f x = some (placeOk x) := by
  have hb := wf64 h
  unfold spec_PlaceOk.f
  simp only [spec_l1In_f, Option.bind_some, decide_eq_true_eq]
  have ht := tdm x
  rw [w64 (n := Int.tdiv x 4294967296) (by omega) (by omega)]
  by_cases h1 : x > 0
  · rw [if_pos h1]
    by_cases h2 : 1 ≤ Int.tdiv x 4294967296 ∧ Int.tdiv x 4294967296 ≤ 30
    · rw [if_pos h2]; congr 1; exact decide_eq_decide.2 (by omega)
    · rw [if_neg h2]; congr 1; symm; exact decide_eq_false (by omega)
  · rw [if_neg h1]; congr 1; symm; exact decide_eq_false (by omega)

/-! epochm -/
def epochOf (x : Int) : Int := if placeOk x = true then x / 4294967296 else 0
theorem epochOf_bd (x : Int) : 0 ≤ epochOf x ∧ epochOf x ≤ 30 := by
  unfold epochOf
  by_cases hp : placeOk x = true
  · have := (placeOk_iff x).1 hp; rw [if_pos hp]; omega
  · rw [if_neg hp]; omega

/-! sepoch -/
theorem spec_EpochOf_f (x : Int) (h : (Lit.int .i64 x).wf = true) : spec_EpochOf.f x = some (epochOf x) := by
  unfold spec_EpochOf.f epochOf
  rw [spec_PlaceOk_f x h, Option.bind_some]
  by_cases hp : placeOk x = true
  · rw [if_pos hp, if_pos hp, placeOk_div x hp]
  · rw [if_neg hp, if_neg hp]

/-! drawright -/
theorem wf_add64 (x : Int) : (Lit.int .i64 (wrap64 x)).wf = true := wrap64_wf x
theorem l3DrawRight_f (b : List Int) (i h : Int) (h0 : 0 ≤ i) (h1 : i ≤ b.length) (hb : b.length < 4611686018427387904) : ∃ a w hl s i' h', spec_l3DrawRight.f b i h = some (a, w, hl, s, i', h') ∧ (Lit.int .i64 a).wf = true ∧ (Lit.int .i64 w).wf = true ∧ s.size ≤ 4 ∧ 0 ≤ i' ∧ i' ≤ b.length ∧ (∃ e o : Int, 1 ≤ e ∧ e ≤ 3 ∧ 1 ≤ o ∧ o ≤ 6 ∧ a = 4294967296 * e + o) ∧ (w = 0 ∧ hl = false ∨ epochOf a < w ∧ w ≤ 30 ∧ (hl = true → s.toList = [])) := by
  obtain ⟨x1, i1, g1, e1, b1⟩ := l1Below_f b i h 3 h0 h1 hb
  obtain ⟨x2, i2, g2, e2, b2⟩ := l1Below_f b i1 g1 6 b1.2.2.2.2.1 b1.2.2.2.2.2 hb
  have k1 := b1.2.1 (by omega)
  have k2 := b2.2.1 (by omega)
  have w1 : wrap64 (1 + x1) = 1 + x1 := w64 (by omega) (by omega)
  have w2 : wrap64 (1 + x2) = 1 + x2 := w64 (by omega) (by omega)
  have p := l1Place_f (1 + x1) (1 + x2) (by omega) (by omega)
  obtain ⟨s, i3, g3, e3, hs, b3⟩ := l1Pick_f b i2 g2 [(⟨#[]⟩ : ByteArray), (⟨#[97]⟩ : ByteArray), (⟨#[98, 99]⟩ : ByteArray), (⟨#[0]⟩ : ByteArray), (⟨#[119, 111, 114, 100]⟩ : ByteArray)] (by decide) (by decide) b2.2.2.2.2.1 b2.2.2.2.2.2 hb
  have hs4 : s.size ≤ 4 := by
    simp only [List.mem_cons, List.not_mem_nil, or_false] at hs
    rcases hs with rfl | rfl | rfl | rfl | rfl <;> decide
  have wfa : (Lit.int .i64 (4294967296 * (1 + x1) + (1 + x2))).wf = true := by apply wf_mk64 <;> omega
  have hpl : ∃ e o : Int, 1 ≤ e ∧ e ≤ 3 ∧ 1 ≤ o ∧ o ≤ 6 ∧ 4294967296 * (1 + x1) + (1 + x2) = 4294967296 * e + o := ⟨1 + x1, 1 + x2, by omega, by omega, by omega, by omega, rfl⟩
  obtain ⟨o, i4, g4, e4, b4⟩ := l1Once_f b i3 g3 3 b3.1 b3.2 hb
  unfold spec_l3DrawRight.f
  simp only [e1, e2, w1, w2, p, e3, e4, Option.bind_some]
  cases o with
  | true =>
    obtain ⟨x5, i5, g5, e5, b5⟩ := l1Below_f b i4 g4 3 b4.1 b4.2 hb
    obtain ⟨o6, i6, g6, e6, b6⟩ := l1Once_f b i5 g5 2 b5.2.2.2.2.1 b5.2.2.2.2.2 hb
    have k5 := b5.2.1 (by omega)
    rw [if_pos rfl, spec_EpochOf_f _ wfa]
    simp only [e5, e6, Option.bind_some]
    have he := epochOf_bd (4294967296 * (1 + x1) + (1 + x2))
    have hpo : placeOk (4294967296 * (1 + x1) + (1 + x2)) = true := (placeOk_iff _).2 (by omega)
    have heo : epochOf (4294967296 * (1 + x1) + (1 + x2)) = 1 + x1 := by rw [epochOf, if_pos hpo]; omega
    have w3 : wrap64 (epochOf (4294967296 * (1 + x1) + (1 + x2)) + 1) = epochOf (4294967296 * (1 + x1) + (1 + x2)) + 1 := w64 (by omega) (by omega)
    have w4 : wrap64 (epochOf (4294967296 * (1 + x1) + (1 + x2)) + 1 + x5) = epochOf (4294967296 * (1 + x1) + (1 + x2)) + 1 + x5 := w64 (by omega) (by omega)
    cases o6 with
    | true =>
      rw [if_pos rfl]
      exact ⟨_, _, _, _, _, _, rfl, wfa, wf_add64 _, by decide, b6.1, b6.2, hpl, .inr ⟨by rw [w3, w4]; omega, by rw [w3, w4]; omega, fun _ => ByteArray.toList_eq _⟩⟩
    | false =>
      rw [if_neg Bool.false_ne_true]
      exact ⟨_, _, _, _, _, _, rfl, wfa, wf_add64 _, hs4, b6.1, b6.2, hpl, .inr ⟨by rw [w3, w4]; omega, by rw [w3, w4]; omega, fun hh => absurd hh Bool.false_ne_true⟩⟩
  | false =>
    rw [if_neg Bool.false_ne_true]
    exact ⟨_, _, _, _, _, _, rfl, wfa, by decide, hs4, b4.1, b4.2, hpl, .inl ⟨rfl, rfl⟩⟩

/-! drawplc -/
theorem l1DrawPlace_f (b : List Int) (i h : Int) (h0 : 0 ≤ i) (h1 : i ≤ b.length) (hb : b.length < 4611686018427387904) : ∃ x i' h', spec_l1DrawPlace.f b i h = some (x, i', h') ∧ (Lit.int .i64 x).wf = true ∧ 0 ≤ i' ∧ i' ≤ b.length := by
  obtain ⟨x1, i1, g1, e1, b1⟩ := l1Below_f b i h 3 h0 h1 hb
  obtain ⟨x2, i2, g2, e2, b2⟩ := l1Below_f b i1 g1 6 b1.2.2.2.2.1 b1.2.2.2.2.2 hb
  have k1 := b1.2.1 (by omega)
  have k2 := b2.2.1 (by omega)
  have w1 : wrap64 (1 + x1) = 1 + x1 := w64 (by omega) (by omega)
  have w2 : wrap64 (1 + x2) = 1 + x2 := w64 (by omega) (by omega)
  have p := l1Place_f (1 + x1) (1 + x2) (by omega) (by omega)
  obtain ⟨x3, i3, g3, e3, b3⟩ := l1Below_f b i2 g2 15 b2.2.2.2.2.1 b2.2.2.2.2.2 hb
  unfold spec_l1DrawPlace.f
  simp only [e1, e2, w1, w2, p, e3, Option.bind_some]
  by_cases c0 : x3 = 0
  · obtain ⟨x4, i4, g4, e4, hx, b4⟩ := l1PickInt_f b i3 g3 [0, (-1), 4294967296, 4294967297, 9223372036854775807, (-9223372036854775808)] (by decide) (by decide) b3.2.2.2.2.1 b3.2.2.2.2.2 hb
    rw [if_pos c0, e4, Option.bind_some]
    refine ⟨_, _, _, rfl, ?_, b4⟩
    simp only [List.mem_cons, List.not_mem_nil, or_false] at hx
    apply wf_mk64 <;> omega
  rw [if_neg c0]
  by_cases c1 : x3 = 1
  · obtain ⟨x4, i4, g4, e4, hx, b4⟩ := l1PickInt_f b i3 g3 [0, 30, 31] (by decide) (by decide) b3.2.2.2.2.1 b3.2.2.2.2.2 hb
    obtain ⟨x5, i5, g5, e5, hy, b5⟩ := l1PickInt_f b i4 g4 [0, 60, 61] (by decide) (by decide) b4.1 b4.2 hb
    simp only [List.mem_cons, List.not_mem_nil, or_false] at hx hy
    rw [if_pos c1]
    simp only [e4, e5, Option.bind_some]
    rw [l1Place_f x4 x5 (by omega) (by omega), Option.bind_some]
    refine ⟨_, _, _, rfl, ?_, b5⟩
    apply wf_mk64 <;> omega
  rw [if_neg c1]
  refine ⟨_, _, _, rfl, ?_, b3.2.2.2.2⟩
  apply wf_mk64 <;> omega

/-! drawentry -/
theorem strOfNums_size (n : Nat) : (strOfNums (List.replicate n 0)).size = n := by simp [strOfNums, ByteArray.size]
theorem l3Draw_f (b : List Int) (i h : Int) (h0 : 0 ≤ i) (h1 : i ≤ b.length) (hb : b.length < 4611686018427387904) : ∃ a w hl s i' h', spec_l3Draw.f b i h = some (a, w, hl, s, i', h') ∧ (Lit.int .i64 a).wf = true ∧ (Lit.int .i64 w).wf = true ∧ s.size ≤ 41 ∧ 0 ≤ i' ∧ i' ≤ b.length := by
  obtain ⟨a, w, hl, s, i1, g1, e1, wa, ww, hs, b10, b11, _⟩ := l3DrawRight_f b i h h0 h1 hb
  obtain ⟨x2, i2, g2, e2, b2⟩ := l1Below_f b i1 g1 15 b10 b11 hb
  unfold spec_l3Draw.f
  simp only [e1, e2, Option.bind_some]
  by_cases c0 : x2 = 0
  · obtain ⟨x3, i3, g3, e3, w3, b3⟩ := l1DrawPlace_f b i2 g2 b2.2.2.2.2.1 b2.2.2.2.2.2 hb
    rw [if_pos c0, e3, Option.bind_some]
    exact ⟨_, _, _, _, _, _, rfl, w3, ww, by omega, b3.1, b3.2⟩
  rw [if_neg c0]
  by_cases c1 : x2 = 1
  · obtain ⟨x3, i3, g3, e3, hx, b3⟩ := l1PickInt_f b i2 g2 [(-1), 1, 30, 31] (by decide) (by decide) b2.2.2.2.2.1 b2.2.2.2.2.2 hb
    rw [if_pos c1, e3, Option.bind_some]
    simp only [List.mem_cons, List.not_mem_nil, or_false] at hx
    exact ⟨_, _, _, _, _, _, rfl, wa, by apply wf_mk64 <;> omega, by omega, b3.1, b3.2⟩
  rw [if_neg c1]
  by_cases c2 : x2 = 2
  · rw [if_pos c2]
    exact ⟨_, _, _, _, _, _, rfl, wa, ww, by omega, b2.2.2.2.2.1, b2.2.2.2.2.2⟩
  rw [if_neg c2]
  by_cases c3 : x2 = 3
  · obtain ⟨x3, i3, g3, e3, b3⟩ := l1Below_f b i2 g2 2 b2.2.2.2.2.1 b2.2.2.2.2.2 hb
    have k3 := b3.2.1 (by omega)
    have w3 : wrap64 (40 + x3) = 40 + x3 := w64 (by omega) (by omega)
    rw [if_pos c3, e3, Option.bind_some]
    simp only [w3]
    rw [if_pos (by omega), if_pos (by omega)]
    exact ⟨_, _, _, _, _, _, rfl, wa, ww, by rw [strOfNums_size]; omega, b3.2.2.2.2.1, b3.2.2.2.2.2⟩
  rw [if_neg c3]
  exact ⟨_, _, _, _, _, _, rfl, wa, ww, by omega, b2.2.2.2.2.1, b2.2.2.2.2.2⟩

/-! drawbetter -/
theorem DrawBetter_f (b : List Int) (hb : b.length < 4611686018427387904) : ∃ a w hl s a' w' hl' s', Ev (fun k => spec_DrawBetter.f k b) (a, w, hl, s, a', w', hl', s') := by
  obtain ⟨h, e0⟩ := l1New_f b hb
  obtain ⟨a, w, hl, s, i1, g1, e1, _, _, _, b10, b11⟩ := l3Draw_f b 0 h (by omega) (by omega) hb
  obtain ⟨a', w', hl', s', i2, g2, e2, _, _, _, b20, b21⟩ := l3Draw_f b i1 g1 b10 b11 hb
  refine ⟨a, w, hl, s, a', w', hl', s', ?_⟩
  unfold spec_DrawBetter.f
  exact Evbind e0 (Evbind (Evconst e1) (Evbind (Evconst e2) (Ev.now _)))

theorem at_f (l : List Int) (hl : l.length < 4611686018427387904) : ∃ t, laws_at.f l 1 = some t := by
  unfold laws_at.f
  by_cases h : (1 : Int) < (l.length : Int)
  · rw [if_pos h, if_pos (by decide)]; exact ⟨_, rfl⟩
  · rw [if_neg h]; exact ⟨_, rfl⟩

theorem FnBetter (l0 : List Int) (hl0 : l0.length ≤ maxLen ∧ ∀ x ∈ l0, (Lit.int .u8 x).wf = true) : ∃ k, laws_FnBetter.f k l0 = some true := by
  refine Ev.rounds (g := fun k => laws_FnBetter.f k l0) ?_
  unfold laws_FnBetter.f laws_big.f
  simp only [Option.bind_some]
  by_cases hbig : (l0.length : Int) > 1048576
  · exact Evpos (decide_eq_true hbig) (Ev.now _)
  refine Evneg (by simpa using hbig) ?_
  have hb : l0.length < 4611686018427387904 := by omega
  obtain ⟨a, w, hl, s, a', w', hl', s', e0⟩ := DrawBetter_f l0 hb
  obtain ⟨t, et⟩ := at_f l0 hb
  refine Evbind e0 ?_
  simp only [impl_Better.f, spec_Better.f]
  have hj : ∀ (xa xw : Int) (xh : Bool) (xs : ByteArray), (xa, xw, xh, xs) = (if w' > w then (a', w', hl', s') else (a, w, hl, s)) → Ev (fun k => laws_FnBetter.j0 k l0 false a w hl s a' w' hl' s' xa xw xh xs) true := by
    intro xa xw xh xs hx
    have fin : ∀ (c : Bool), (c = false → Int.tmod t 5 ≠ w ∧ Int.tmod t 5 ≠ w' ∧ w ≠ w') → Ev (fun k => laws_FnBetter.j1 k c a w hl s a' w' hl' s' xa xw xh xs a (Int.tmod t 5) false (⟨#[]⟩ : ByteArray)) true := by
      intro c hc
      cases c with
      | true => exact Ev.step (f := fun _ => some true) (fun k => by rw [laws_FnBetter.j1, if_pos rfl]; simp [impl_Better.f]) (Ev.now _)
      | false =>
        have hne := hc rfl
        refine Ev.step (f := fun _ => some true) (fun k => ?_) (Ev.now _)
        rw [laws_FnBetter.j1, if_neg Bool.false_ne_true]
        simp only [impl_Better.f]
        generalize Int.tmod t 5 = z at *
        by_cases h1 : w' > w
        · rw [if_pos h1] at hx
          simp only [Prod.mk.injEq] at hx
          obtain ⟨rfl, rfl, rfl, rfl⟩ := hx
          by_cases h2 : z > xw
          · have h3 : z > w := by omega
            simp [h2, h3]
          · simp [h1, h2]
        · rw [if_neg h1] at hx
          simp only [Prod.mk.injEq] at hx
          obtain ⟨rfl, rfl, rfl, rfl⟩ := hx
          by_cases h2 : z > xw
          · have h3 : z > w' := by omega
            simp [h2, h3]
          · by_cases h3 : z > w'
            · simp [h2, h3]
            · simp [h1, h2, h3]
    by_cases h1 : Int.tmod t 5 = w
    · exact Ev.step (f := fun k => laws_FnBetter.j1 k true a w hl s a' w' hl' s' xa xw xh xs a (Int.tmod t 5) false (⟨#[]⟩ : ByteArray)) (fun k => by rw [laws_FnBetter.j0, if_neg Bool.false_ne_true, et, Option.bind_some, if_pos h1]) (fin true (fun h => absurd h.symm Bool.false_ne_true))
    · by_cases h2 : Int.tmod t 5 = w'
      · exact Ev.step (f := fun k => laws_FnBetter.j1 k true a w hl s a' w' hl' s' xa xw xh xs a (Int.tmod t 5) false (⟨#[]⟩ : ByteArray)) (fun k => by rw [laws_FnBetter.j0, if_neg Bool.false_ne_true, et, Option.bind_some, if_neg h1, if_pos h2]) (fin true (fun h => absurd h.symm Bool.false_ne_true))
      · exact Ev.step (f := fun k => laws_FnBetter.j1 k (w == w') a w hl s a' w' hl' s' xa xw xh xs a (Int.tmod t 5) false (⟨#[]⟩ : ByteArray)) (fun k => by rw [laws_FnBetter.j0, if_neg Bool.false_ne_true, et, Option.bind_some, if_neg h1, if_neg h2]) (fin (w == w') (fun h => ⟨h1, h2, by simpa using h⟩))
  by_cases h1 : w' > w
  · rw [if_pos h1]
    have := hj a' w' hl' s' (by rw [if_pos h1])
    refine Evsome (Evsome (Evneg (by simp) ?_))
    by_cases hq : (!(a' == a) || (!(w' == w) || (!(hl' == hl) || (!(s'.toList == s.toList))))) = true
    · refine Evpos hq (Evneg (by simp) ?_)
      refine Evneg (show ¬ w > w' by omega) ?_
      simpa using this
    · refine Evneg hq ?_
      refine Evneg (show ¬ w > w' by omega) ?_
      simpa using this
  · rw [if_neg h1]
    have := hj a w hl s (by rw [if_neg h1])
    refine Evsome (Evsome (Evneg (by simp) (Evneg (by simp) ?_)))
    refine Evneg (show ¬ w > w by omega) ?_
    rw [decide_eq_false h1]
    exact this

end Go.Proofs.Ythdpknoeackpfaa.Pure
