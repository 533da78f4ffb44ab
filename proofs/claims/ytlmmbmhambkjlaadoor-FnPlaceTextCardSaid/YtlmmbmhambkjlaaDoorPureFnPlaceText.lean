/- A text that is read as a place is written as it was; an earlier offset or epoch is a lesser place. Conditions: none beyond the given statement. -/
import Derived.Test.YtlmmbmhambkjlaaDoorMFnPlaceTextx5
import Derived.OpenShut
import Derived.Laws.BitsLemmas
namespace Go.Proofs.YtlmmbmhambkjlaaDoor.Pure
open Go.RowKit Go.Proofs.YtlmmbmhambkjlaaDoor.PFnPlaceText Go.Proofs.YtlmmbmhambkjlaaDoorW.PrintWords Go.Proofs.YtlmmbmhambkjlaaDoorW.PrintLast Go.Proofs.YtlmmbmhambkjlaaDoorW.PrintMore
set_option linter.unusedVariables false
set_option linter.unusedSimpArgs false
/-! base -/
theorem w64 {n : Int} (h : -9223372036854775808 ≤ n) (h2 : n ≤ 9223372036854775807) : wrap64 n = n := by unfold wrap64; omega
theorem wsucc (i : Nat) (h : i < 4611686018427387904) : wrap64 ((i : Int) + 1) = ((i + 1 : Nat) : Int) := by unfold wrap64; omega
theorem wf64 {n : Int} (h : (Lit.int .i64 n).wf = true) : -9223372036854775808 ≤ n ∧ n ≤ 9223372036854775807 := bounds_i64 h
theorem Evpos {α : Type} {c : Prop} [Decidable c] {a b : Nat → Option α} {r : α} (h : c) (e : Ev a r) : Ev (fun k => if c then a k else b k) r := Ev.congr (fun _ => if_pos h) e
theorem Evneg {α : Type} {c : Prop} [Decidable c] {a b : Nat → Option α} {r : α} (h : ¬ c) (e : Ev b r) : Ev (fun k => if c then a k else b k) r := Ev.congr (fun _ => if_neg h) e
theorem Evsome {α β : Type} {a : α} {f : Nat → α → Option β} {r : β} (e : Ev (fun k => f k a) r) : Ev (fun k => (some a).bind (f k)) r := e
theorem Evbind {α β : Type} {g : Nat → Option α} {f : Nat → α → Option β} {a : α} {r : β} (h : Ev g a) (e : Ev (fun n => f n a) r) : Ev (fun n => (g n).bind (f n)) r := Ev.bind h e
theorem Evconst {α : Type} {g : Option α} {r : α} (h : g = some r) : Ev (fun _ => g) r := ⟨0, fun _ _ => h⟩
theorem Evto {α : Type} {g : Nat → Option α} {r r' : α} (h : r = r') (e : Ev g r) : Ev g r' := h ▸ e
theorem rd_nat (xs : List Int) (i : Nat) : rd xs (i : Int) = xs.getD i 0 := by simp [rd]
theorem getD_get (xs : List Int) (i : Nat) (h : i < xs.length) : xs.getD i 0 = xs[i] := by simp [List.getD_eq_getElem?_getD, List.getElem?_eq_getElem h]
theorem get_getD (xs : List Int) (i : Nat) (h : i < xs.length) : xs[i]? = some (xs.getD i 0) := by simp [List.getD_eq_getElem?_getD, List.getElem?_eq_getElem h]
theorem wf_getD {kd : IntKind} (xs : List Int) (hw : ∀ x ∈ xs, (Lit.int kd x).wf = true) (i : Nat) (h : i < xs.length) : (Lit.int kd (xs.getD i 0)).wf = true := by
  rw [getD_get xs i h]; exact hw _ (List.getElem_mem h)
theorem wf_iff (k : IntKind) (n : Int) : (Lit.int k n).wf = true ↔ k.min ≤ n ∧ n ≤ k.max := by simp [Lit.wf]
theorem wf8 {n : Int} (h : (Lit.int .u8 n).wf = true) : 0 ≤ n ∧ n ≤ 255 := by
  have := (wf_iff .u8 n).1 h
  simpa [IntKind.min, IntKind.max, IntKind.bits, IntKind.signed] using this
theorem wf_mk8 {n : Int} (h : 0 ≤ n) (h2 : n ≤ 255) : (Lit.int .u8 n).wf = true :=
  (wf_iff .u8 n).2 (by simp [IntKind.min, IntKind.max, IntKind.bits, IntKind.signed]; omega)
theorem wf_mk64 {n : Int} (h : -9223372036854775808 ≤ n) (h2 : n ≤ 9223372036854775807) : (Lit.int .i64 n).wf = true :=
  (wf_iff .i64 n).2 (by simp [IntKind.min, IntKind.max, IntKind.bits, IntKind.signed]; omega)
theorem drop_at (b : List Int) (j : Nat) (h : j < b.length) : b.drop j = b.getD j 0 :: b.drop (j + 1) := by
  rw [List.drop_eq_getElem_cons h, getD_get b j h]
theorem p63 : (2 : Int) ^ 63 = 9223372036854775808 := by decide
theorem p1289 : (128 : Nat) ^ 9 = 9223372036854775808 := by decide
theorem p27 : (2 : Int) ^ 7 = 128 := by decide
theorem natpos (i : Nat) : ((i : Int) > 0) ↔ 0 < i := by omega

/-! down -/
theorem down {p : Nat → Prop} (n : Nat) (h0 : p n) (hs : ∀ i, i < n → p (i + 1) → p i) (i : Nat) (hi : i ≤ n) : p i := by
  obtain ⟨d, hd⟩ : ∃ d, i + d = n := ⟨n - i, by omega⟩
  induction d generalizing i with
  | zero => obtain rfl : i = n := by omega
            exact h0
  | succ d ih => exact hs i (by omega) (ih (i + 1) (by omega) (by omega))
theorem getD_mem (l : List Int) (i : Nat) (h : i < l.length) : l.getD i 0 ∈ l := by
  rw [getD_get l i h]; exact List.getElem_mem h

/-! drawnew -/
theorem l1New_l0 (b : List Int) (hb : b.length < 4611686018427387904) : ∀ i, i ≤ b.length → ∀ h : Int, ∃ h', Ev (fun k => spec_l1New.l0 k b h (i : Int)) (b, 0, h') := by
  refine down b.length ?_ ?_
  · intro h
    exact ⟨h, Ev.step (f := fun _ => some (b, 0, h)) (fun k => by rw [spec_l1New.l0, if_neg (by omega)]) (Ev.now _)⟩
  · intro i hi ih h
    by_cases c : (i : Int) < 4000
    · obtain ⟨h', e⟩ := ih (Go.bits .and .i64 (wrap64 ((wrap64 ((wrap64 (h * 131)) + (wrap64 (rd b i)))) + 7)) 1073741823)
      exact ⟨h', Ev.step (f := fun k => spec_l1New.l0 k b (Go.bits .and .i64 (wrap64 ((wrap64 ((wrap64 (h * 131)) + (wrap64 (rd b i)))) + 7)) 1073741823) ((i + 1 : Nat) : Int)) (fun k => by rw [spec_l1New.l0, if_pos (by omega), if_pos c, if_pos (by omega), wsucc i (by omega)]) e⟩
    · exact ⟨h, Ev.step (f := fun _ => some (b, 0, h)) (fun k => by rw [spec_l1New.l0, if_pos (by omega), if_neg c]) (Ev.now _)⟩
theorem l1New_f (b : List Int) (hb : b.length < 4611686018427387904) : ∃ h', Ev (fun k => spec_l1New.f k b) (b, 0, h') := by
  obtain ⟨h', e⟩ := l1New_l0 b hb 0 (by omega) (wrap64 (17817 + (b.length : Int)))
  exact ⟨h', Ev.congr (fun k => by rw [spec_l1New.f]; rfl) e⟩

/-! andbd -/
theorem and_bd (x : Int) (m : Nat) (hm : m < 9223372036854775808) : 0 ≤ Go.bits .and .i64 x (m : Int) ∧ Go.bits .and .i64 x (m : Int) ≤ m := by
  have hb : IntKind.bits .i64 = 64 := rfl
  have key : ((BitVec.ofInt 64 x) &&& (BitVec.ofInt 64 (m : Int))).toNat ≤ m := by
    rw [BitVec.toNat_and, BitVec.ofInt_natCast, BitVec.toNat_ofNat]
    exact Nat.le_trans Nat.and_le_right (Nat.mod_le _ _)
  have e : Go.bits .and .i64 x (m : Int) = IntKind.i64.wrap ((((BitVec.ofInt 64 x) &&& (BitVec.ofInt 64 (m : Int))).toNat : Nat) : Int) := rfl
  rw [e, IntKind.wrap_i64]
  generalize ((BitVec.ofInt 64 x) &&& (BitVec.ofInt 64 (m : Int))).toNat = z at *
  omega

/-! drawbyte -/
theorem l1Byte_f (b : List Int) (i h : Int) (h0 : 0 ≤ i) (h1 : i ≤ b.length) (hb : b.length < 4611686018427387904) : ∃ x i' h', spec_l1Byte.f b i h = some (x, i', h') ∧ 0 ≤ x ∧ x ≤ 255 ∧ 0 ≤ i' ∧ i' ≤ b.length := by
  unfold spec_l1Byte.f
  by_cases hc : i < (b.length : Int)
  · rw [if_pos hc, if_pos h0]
    have e : wrap64 (i + 1) = i + 1 := w64 (by omega) (by omega)
    have a := fun x => and_bd x 255 (by omega)
    exact ⟨_, _, _, rfl, (a _).1, (a _).2, by rw [e]; omega, by rw [e]; omega⟩
  · rw [if_neg hc]
    have a := fun x => and_bd x 255 (by omega)
    exact ⟨_, _, _, rfl, (a _).1, (a _).2, h0, h1⟩
theorem l1Below_f (b : List Int) (i h n : Int) (h0 : 0 ≤ i) (h1 : i ≤ b.length) (hb : b.length < 4611686018427387904) : ∃ x i' h', spec_l1Below.f b i h n = some (x, i', h') ∧ 0 ≤ x ∧ (0 < n → x < n) ∧ (n ≤ 0 → x = 0) ∧ x ≤ 4294967295 ∧ 0 ≤ i' ∧ i' ≤ b.length := by
  unfold spec_l1Below.f
  by_cases c1 : n ≤ 0
  · rw [if_pos c1]; exact ⟨_, _, _, rfl, by omega, by omega, fun _ => rfl, by omega, h0, h1⟩
  rw [if_neg c1]
  obtain ⟨x, i1, hh1, e1, b1⟩ := l1Byte_f b i h h0 h1 hb
  by_cases c2 : n ≤ 256
  · rw [if_pos c2, e1, Option.bind_some, if_neg (by omega)]
    have hm : Int.tmod x n = x % n := Int.tmod_eq_emod_of_nonneg (by omega)
    have hm1 := Int.emod_lt_of_pos x (show 0 < n by omega)
    have hm0 := Int.emod_nonneg x (show n ≠ 0 by omega)
    refine ⟨_, _, _, rfl, ?_⟩
    show 0 ≤ Int.tmod x n ∧ (0 < n → Int.tmod x n < n) ∧ (n ≤ 0 → Int.tmod x n = 0) ∧ Int.tmod x n ≤ 4294967295 ∧ 0 ≤ i1 ∧ i1 ≤ b.length
    rw [hm]
    exact ⟨hm0, fun _ => hm1, fun hh => absurd hh c1, by omega, b1.2.2.1, b1.2.2.2⟩
  · obtain ⟨y, i2, hh2, e2, b2⟩ := l1Byte_f b i1 hh1 b1.2.2.1 b1.2.2.2 hb
    obtain ⟨z, i3, hh3, e3, b3⟩ := l1Byte_f b i2 hh2 b2.2.2.1 b2.2.2.2 hb
    obtain ⟨w, i4, hh4, e4, b4⟩ := l1Byte_f b i3 hh3 b3.2.2.1 b3.2.2.2 hb
    rw [if_neg c2, e1, Option.bind_some]
    simp only [e2, e3, e4, Option.bind_some]
    rw [if_neg (by omega)]
    have w1 : wrap64 (x * 16777216) = x * 16777216 := w64 (by omega) (by omega)
    have w2 : wrap64 (y * 65536) = y * 65536 := w64 (by omega) (by omega)
    have w3 : wrap64 (x * 16777216 + y * 65536) = x * 16777216 + y * 65536 := w64 (by omega) (by omega)
    have w4 : wrap64 (z * 256) = z * 256 := w64 (by omega) (by omega)
    have w5 : wrap64 (x * 16777216 + y * 65536 + z * 256) = x * 16777216 + y * 65536 + z * 256 := w64 (by omega) (by omega)
    have w6 : wrap64 (x * 16777216 + y * 65536 + z * 256 + w) = x * 16777216 + y * 65536 + z * 256 + w := w64 (by omega) (by omega)
    rw [w1, w2, w3, w4, w5, w6]
    have hs0 : 0 ≤ x * 16777216 + y * 65536 + z * 256 + w := by omega
    have hs1 : x * 16777216 + y * 65536 + z * 256 + w ≤ 4294967295 := by omega
    generalize x * 16777216 + y * 65536 + z * 256 + w = s at *
    have hm : Int.tmod s n = s % n := Int.tmod_eq_emod_of_nonneg hs0
    have hm1 := Int.emod_lt_of_pos s (show 0 < n by omega)
    have hm0 := Int.emod_nonneg s (show n ≠ 0 by omega)
    have hm2 : s % n ≤ s := by
      have := Int.emod_add_mul_ediv s n
      have hq : 0 ≤ s / n := Int.ediv_nonneg hs0 (by omega)
      have : 0 ≤ n * (s / n) := Int.mul_nonneg (by omega) hq
      omega
    refine ⟨_, _, _, rfl, ?_⟩
    rw [hm]
    exact ⟨hm0, fun _ => hm1, fun hh => absurd hh c1, by omega, b4.2.2.1, b4.2.2.2⟩

/-! drawpick -/
theorem l1PickInt_f (b : List Int) (i h : Int) (l : List Int) (hl : 0 < l.length) (hl2 : l.length < 1000) (h0 : 0 ≤ i) (h1 : i ≤ b.length) (hb : b.length < 4611686018427387904) : ∃ x i' h', spec_l1PickInt.f b i h l = some (x, i', h') ∧ x ∈ l ∧ 0 ≤ i' ∧ i' ≤ b.length := by
  obtain ⟨x, i', h', e, b1⟩ := l1Below_f b i h (l.length : Int) h0 h1 hb
  unfold spec_l1PickInt.f
  have hx := b1.2.1 (by omega)
  obtain ⟨n, rfl⟩ := Int.eq_ofNat_of_zero_le b1.1
  rw [e, Option.bind_some]
  simp only []
  rw [if_pos b1.1, if_pos hx]
  refine ⟨_, _, _, rfl, ?_, b1.2.2.2.2⟩
  show rd l (n : Int) ∈ l
  rw [rd_nat]
  exact getD_mem l n (by omega)

/-! drawplace -/
theorem l1Place_f (e o : Int) (he : 0 ≤ e ∧ e ≤ 31) (ho : 0 ≤ o ∧ o ≤ 61) : spec_l1Place.f e o = some (4294967296 * e + o) := by
  unfold spec_l1Place.f
  rw [w64 (n := 4294967296 * e) (by omega) (by omega), w64 (by omega) (by omega)]

/-! drawplc -/
theorem l1DrawPlace_f (b : List Int) (i h : Int) (h0 : 0 ≤ i) (h1 : i ≤ b.length) (hb : b.length < 4611686018427387904) : ∃ x i' h', spec_l1DrawPlace.f b i h = some (x, i', h') ∧ (Lit.int .i64 x).wf = true ∧ 0 ≤ i' ∧ i' ≤ b.length := by
  obtain ⟨x1, i1, g1, e1, b1⟩ := l1Below_f b i h 3 h0 h1 hb
  obtain ⟨x2, i2, g2, e2, b2⟩ := l1Below_f b i1 g1 6 b1.2.2.2.2.1 b1.2.2.2.2.2 hb
  have k1 := b1.2.1 (by omega)
  have k2 := b2.2.1 (by omega)
  have w1 : wrap64 (1 + x1) = 1 + x1 := w64 (by omega) (by omega)
  have w2 : wrap64 (1 + x2) = 1 + x2 := w64 (by omega) (by omega)
  have p := l1Place_f (1 + x1) (1 + x2) (by omega) (by omega)
  obtain ⟨x3, i3, g3, e3, b3⟩ := l1Below_f b i2 g2 15 b2.2.2.2.2.1 b2.2.2.2.2.2 hb
  unfold spec_l1DrawPlace.f
  simp only [e1, e2, w1, w2, p, e3, Option.bind_some]
  by_cases c0 : x3 = 0
  · obtain ⟨x4, i4, g4, e4, hx, b4⟩ := l1PickInt_f b i3 g3 [0, (-1), 4294967296, 4294967297, 9223372036854775807, (-9223372036854775808)] (by decide) (by decide) b3.2.2.2.2.1 b3.2.2.2.2.2 hb
    rw [if_pos c0, e4, Option.bind_some]
    refine ⟨_, _, _, rfl, ?_, b4⟩
    simp only [List.mem_cons, List.not_mem_nil, or_false] at hx
    apply wf_mk64 <;> omega
  rw [if_neg c0]
  by_cases c1 : x3 = 1
  · obtain ⟨x4, i4, g4, e4, hx, b4⟩ := l1PickInt_f b i3 g3 [0, 30, 31] (by decide) (by decide) b3.2.2.2.2.1 b3.2.2.2.2.2 hb
    obtain ⟨x5, i5, g5, e5, hy, b5⟩ := l1PickInt_f b i4 g4 [0, 60, 61] (by decide) (by decide) b4.1 b4.2 hb
    simp only [List.mem_cons, List.not_mem_nil, or_false] at hx hy
    rw [if_pos c1]
    simp only [e4, e5, Option.bind_some]
    rw [l1Place_f x4 x5 (by omega) (by omega), Option.bind_some]
    refine ⟨_, _, _, rfl, ?_, b5⟩
    apply wf_mk64 <;> omega
  rw [if_neg c1]
  refine ⟨_, _, _, rfl, ?_, b3.2.2.2.2⟩
  apply wf_mk64 <;> omega

/-! drawonce -/
theorem l1Once_f (b : List Int) (i h n : Int) (h0 : 0 ≤ i) (h1 : i ≤ b.length) (hb : b.length < 4611686018427387904) : ∃ x i' h', spec_l1Once.f b i h n = some (x, i', h') ∧ 0 ≤ i' ∧ i' ≤ b.length := by
  obtain ⟨x, i', h', e, b1⟩ := l1Below_f b i h n h0 h1 hb
  unfold spec_l1Once.f
  rw [e, Option.bind_some]
  exact ⟨_, _, _, rfl, b1.2.2.2.2⟩

/-! numb -/
noncomputable def numB (n : Nat) : ByteArray := ⟨(Lib.decDigits n).toArray⟩
theorem ba_ext {a b : ByteArray} (h : a.data.toList = b.data.toList) : a = b := by
  cases a; cases b; simp only [ByteArray.mk.injEq]; exact Array.toList_inj.1 h
theorem ba_app (a b : ByteArray) : (a ++ b).data.toList = a.data.toList ++ b.data.toList := by simp [ByteArray.data_append]
theorem son_data (xs : List Int) : (strOfNums xs).data.toList = xs.map (fun x => UInt8.ofNat x.toNat) := by unfold strOfNums; simp only [List.toList_toArray]
theorem numB_small {n : Nat} (h : n < 10) : (numB n).data.toList = [UInt8.ofNat (48 + n)] := by
  unfold numB; rw [Lib.decDigits, dif_pos h]
theorem numB_big {n : Nat} (h : ¬ n < 10) : (numB n).data.toList = (numB (n / 10)).data.toList ++ [UInt8.ofNat (48 + n % 10)] := by
  unfold numB; rw [Lib.decDigits, dif_neg h]
theorem numB_size {n : Nat} (h : n < 100) : 1 ≤ (numB n).size ∧ (numB n).size ≤ 2 := by
  have hs : (numB n).size = (numB n).data.toList.length := rfl
  rw [hs]
  by_cases h1 : n < 10
  · rw [numB_small h1]; simp
  · rw [numB_big h1, numB_small (show n / 10 < 10 by omega), List.length_append, List.length_singleton, List.length_singleton]; omega
theorem digit_eq (n : Nat) (h : n < 4611686018427387904) : (wrap64 (48 + Int.tmod (n : Int) 10)) % 256 = ((48 + n % 10 : Nat) : Int) := by
  rw [Int.tmod_eq_emod_of_nonneg (by omega), w64 (by omega) (by omega)]; omega
theorem tdiv10 (n : Nat) (h : n < 4611686018427387904) : wrap64 (Int.tdiv (n : Int) 10) = ((n / 10 : Nat) : Int) := by
  rw [Int.tdiv_eq_ediv_of_nonneg (by omega), w64 (by omega) (by omega)]; omega

/-! placem -/
def placeOk (x : Int) : Bool := decide (4294967296 ≤ x ∧ x / 4294967296 ≤ 30 ∧ 1 ≤ x % 4294967296 ∧ x % 4294967296 ≤ 60)
theorem tdm (x : Int) : (0 ≤ x ∧ Int.tdiv x 4294967296 = x / 4294967296 ∧ Int.tmod x 4294967296 = x % 4294967296) ∨ (x < 0 ∧ Int.tdiv x 4294967296 ≤ 0 ∧ x ≤ Int.tdiv x 4294967296 ∧ Int.tmod x 4294967296 ≤ 0) := by
  by_cases h : 0 ≤ x
  · exact .inl ⟨h, Int.tdiv_eq_ediv_of_nonneg h, Int.tmod_eq_emod_of_nonneg h⟩
  · refine .inr ⟨by omega, ?_⟩
    obtain ⟨y, rfl⟩ : ∃ y, x = -y := ⟨-x, by omega⟩
    rw [Int.neg_tdiv, Int.neg_tmod, Int.tdiv_eq_ediv_of_nonneg (by omega), Int.tmod_eq_emod_of_nonneg (by omega)]
    omega
theorem placeOk_iff (x : Int) : placeOk x = true ↔ (4294967296 ≤ x ∧ x / 4294967296 ≤ 30 ∧ 1 ≤ x % 4294967296 ∧ x % 4294967296 ≤ 60) := by simp [placeOk]
theorem placeOk_div (x : Int) (h : placeOk x = true) : wrap64 (Int.tdiv x 4294967296) = x / 4294967296 := by
  have := (placeOk_iff x).1 h
  rw [Int.tdiv_eq_ediv_of_nonneg (by omega), w64 (by omega) (by omega)]
theorem placeOk_mod (x : Int) (h : placeOk x = true) : Int.tmod x 4294967296 = x % 4294967296 := by
  have := (placeOk_iff x).1 h
  rw [Int.tmod_eq_emod_of_nonneg (by omega)]

/-! epochm -/
def epochOf (x : Int) : Int := if placeOk x = true then x / 4294967296 else 0
theorem epochOf_bd (x : Int) : 0 ≤ epochOf x ∧ epochOf x ≤ 30 := by
  unfold epochOf
  by_cases hp : placeOk x = true
  · have := (placeOk_iff x).1 hp; rw [if_pos hp]; omega
  · rw [if_neg hp]; omega

/-! offm -/
def offOf (x : Int) : Int := if placeOk x = true then x % 4294967296 else 0

/-! ptext -/
noncomputable def placeText (x : Int) : ByteArray := if placeOk x = true then ((((⟨#[101]⟩ : ByteArray) ++ numB (epochOf x).toNat) ++ (⟨#[46]⟩ : ByteArray)) ++ numB (offOf x).toNat) else (⟨#[]⟩ : ByteArray)
theorem place_parts {x : Int} (h : placeOk x = true) : 0 < (epochOf x).toNat ∧ (epochOf x).toNat < 100 ∧ ((epochOf x).toNat : Int) = epochOf x ∧ 0 < (offOf x).toNat ∧ (offOf x).toNat < 100 ∧ ((offOf x).toNat : Int) = offOf x := by
  have hb := (placeOk_iff x).1 h
  have he : epochOf x = x / 4294967296 := by rw [epochOf, if_pos h]
  have ho : offOf x = x % 4294967296 := by rw [offOf, if_pos h]
  omega
theorem ptext_sizes {a b : Nat} (ha : a < 100) (hb : b < 100) : 1 + (numB a).size ≤ 9223372036854775807 ∧ ((⟨#[101]⟩ : ByteArray) ++ numB a).size + 1 ≤ 9223372036854775807 ∧ (((⟨#[101]⟩ : ByteArray) ++ numB a) ++ (⟨#[46]⟩ : ByteArray)).size + (numB b).size ≤ 9223372036854775807 := by
  have h1 := numB_size ha
  have h2 := numB_size hb
  have e1 : (⟨#[101]⟩ : ByteArray).size = 1 := rfl
  have e2 : (⟨#[46]⟩ : ByteArray).size = 1 := rfl
  simp only [ByteArray.size_append, e1, e2]
  omega

/-! plread -/
def mkP (x y : Int) : Int × Bool := if (1 ≤ x ∧ x ≤ 30) ∧ (1 ≤ y ∧ y ≤ 60) then (4294967296 * x + y, true) else (0, false)
theorem mkP_yes {x y : Int} (h : (mkP x y).2 = true) : (1 ≤ x ∧ x ≤ 30) ∧ (1 ≤ y ∧ y ≤ 60) := by
  unfold mkP at h
  by_cases hc : (1 ≤ x ∧ x ≤ 30) ∧ (1 ≤ y ∧ y ≤ 60)
  · exact hc
  · rw [if_neg hc] at h; exact absurd h (by decide)
theorem mkP_place {x y : Int} (h : (1 ≤ x ∧ x ≤ 30) ∧ (1 ≤ y ∧ y ≤ 60)) : mkP x y = (4294967296 * x + y, true) := by unfold mkP; rw [if_pos h]
theorem mkP_wf (x y : Int) : (Lit.int .i64 (mkP x y).1).wf = true := by
  unfold mkP
  by_cases hc : (1 ≤ x ∧ x ≤ 30) ∧ (1 ≤ y ∧ y ≤ 60)
  · rw [if_pos hc]; exact wf_mk64 (by dsimp only; omega) (by dsimp only; omega)
  · rw [if_neg hc]; exact wf_mk64 (by decide) (by decide)
theorem mkP_ok {x y : Int} (h : (mkP x y).2 = true) : placeOk (mkP x y).1 = true := by
  have hc := mkP_yes h
  rw [mkP_place hc, placeOk_iff]
  dsimp only
  omega
theorem place_back {x : Int} (h : placeOk x = true) : mkP ((epochOf x).toNat : Int) ((offOf x).toNat : Int) = (x, true) := by
  have hb := (placeOk_iff x).1 h
  obtain ⟨h1, h2, h3, h4, h5, h6⟩ := place_parts h
  have he : epochOf x = x / 4294967296 := by rw [epochOf, if_pos h]
  have ho : offOf x = x % 4294967296 := by rw [offOf, if_pos h]
  rw [h3, h6, mkP_place (by omega), he, ho]
  have : 4294967296 * (x / 4294967296) + x % 4294967296 = x := by omega
  rw [this]
theorem place_wf {x : Int} (h : placeOk x = true) : (Lit.int .i64 x).wf = true := by
  have hb := (placeOk_iff x).1 h
  exact wf_mk64 (by omega) (by omega)
/-- How a text is read as a place: what is read has that text, and each text of a place is read. -/
structure IsRead (s : ByteArray) (r : Int × Bool) : Prop where
  no : r.2 = false → r = (0, false)
  yes : r.2 = true → placeOk r.1 = true ∧ placeText r.1 = s
  all : ∀ x, placeOk x = true → placeText x = s → r = (x, true)
theorem IsRead.same {s : ByteArray} {r r' : Int × Bool} (h : IsRead s r) (h' : IsRead s r') : r = r' := by
  cases hb : r.2 with
  | true =>
    obtain ⟨p, t⟩ := h.yes hb
    rw [h'.all r.1 p t, ← hb]
  | false =>
    rw [h.no hb]
    cases hb' : r'.2 with
    | true =>
      obtain ⟨p, t⟩ := h'.yes hb'
      have := h.all r'.1 p t
      rw [h.no hb] at this
      exact absurd (congrArg Prod.snd this) (by simp)
    | false => rw [h'.no hb']
theorem isRead_no {s : ByteArray} (h : ∀ x, placeOk x = true → placeText x ≠ s) : IsRead s (0, false) where
  no := fun _ => rfl
  yes := fun e => absurd e (by decide)
  all := fun x p t => absurd t (h x p)
theorem isRead_yes {s : ByteArray} {x : Int} (p : placeOk x = true) (t : placeText x = s) (h : ∀ y, placeOk y = true → placeText y = s → y = x) : IsRead s (x, true) where
  no := fun e => absurd e (by simp)
  yes := fun _ => ⟨p, t⟩
  all := fun y q u => by rw [h y q u]
theorem ptext_list {x : Int} (h : placeOk x = true) : (placeText x).data.toList = 101 :: ((numB (epochOf x).toNat).data.toList ++ 46 :: (numB (offOf x).toNat).data.toList) := by
  unfold placeText
  rw [if_pos h, ba_app, ba_app, ba_app]
  simp
theorem numB_list {n : Nat} (h : n < 100) : (n < 10 ∧ (numB n).data.toList = [UInt8.ofNat (48 + n)]) ∨ (∃ a b, a < 10 ∧ b < 10 ∧ n = 10 * a + b ∧ (numB n).data.toList = [UInt8.ofNat (48 + a), UInt8.ofNat (48 + b)]) := by
  by_cases h1 : n < 10
  · exact .inl ⟨h1, numB_small h1⟩
  · refine .inr ⟨n / 10, n % 10, by omega, by omega, by omega, ?_⟩
    rw [numB_big h1, numB_small (show n / 10 < 10 by omega)]
    rfl
theorem ptext_size {x : Int} (h : placeOk x = true) : 4 ≤ (placeText x).size := by
  have e : (placeText x).size = (placeText x).data.toList.length := rfl
  obtain ⟨h1, h2, h3, h4, h5, h6⟩ := place_parts h
  have s1 := (numB_size h2).1
  have s2 := (numB_size h5).1
  have e1 : (numB (epochOf x).toNat).size = (numB (epochOf x).toNat).data.toList.length := rfl
  have e2 : (numB (offOf x).toNat).size = (numB (offOf x).toNat).data.toList.length := rfl
  rw [e, ptext_list h, List.length_cons, List.length_append, List.length_cons]
  omega
theorem bal {a b : ByteArray} : a.toList = b.toList ↔ a = b := by
  rw [ByteArray.toList_eq, ByteArray.toList_eq]
  exact ⟨ba_ext, fun e => by rw [e]⟩
theorem numB_inj {a b : Nat} (ha : a < 100) (hb : b < 100) (h : (numB a).data.toList = (numB b).data.toList) : a = b := by
  have u : ∀ x : Nat, x < 10 → (UInt8.ofNat (48 + x)).toNat = 48 + x := fun x hx => by rw [UInt8.toNat_ofNat']; omega
  rcases numB_list ha with ⟨h1, e1⟩ | ⟨c, d, hc, hd, rfl, e1⟩ <;> rcases numB_list hb with ⟨h2, e2⟩ | ⟨c', d', hc', hd', rfl, e2⟩ <;> rw [e1, e2] at h
  · have := congrArg UInt8.toNat (List.cons.inj h).1
    rw [u a h1, u b h2] at this
    omega
  · exact absurd (congrArg List.length h) (by simp)
  · exact absurd (congrArg List.length h) (by simp)
  · have h3 := congrArg UInt8.toNat (List.cons.inj h).1
    have h4 := congrArg UInt8.toNat (List.cons.inj (List.cons.inj h).2).1
    rw [u c hc, u c' hc'] at h3
    rw [u d hd, u d' hd'] at h4
    omega
theorem numB_nodot {n : Nat} (h : n < 100) : ∀ b ∈ (numB n).data.toList, b ≠ 46 := by
  have u : ∀ x : Nat, x < 10 → UInt8.ofNat (48 + x) ≠ 46 := fun x hx e => by
    have := congrArg UInt8.toNat e
    rw [UInt8.toNat_ofNat'] at this
    have h46 : (46 : UInt8).toNat = 46 := rfl
    omega
  rcases numB_list h with ⟨h1, e1⟩ | ⟨c, d, hc, hd, rfl, e1⟩ <;> rw [e1] <;> intro b hb
  · rw [List.mem_singleton] at hb; rw [hb]; exact u n h1
  · rcases List.mem_cons.1 hb with rfl | hb
    · exact u c hc
    · rw [List.mem_singleton] at hb; rw [hb]; exact u d hd
theorem dot_split : ∀ (l1 l2 m1 m2 : List UInt8), (∀ b ∈ l1, b ≠ 46) → (∀ b ∈ l2, b ≠ 46) → l1 ++ 46 :: m1 = l2 ++ 46 :: m2 → l1 = l2 ∧ m1 = m2
  | [], [], _, _, _, _, h => ⟨rfl, (List.cons.inj h).2⟩
  | [], b :: l2, _, _, _, h2, h => absurd (List.cons.inj h).1.symm (h2 b (by simp))
  | a :: l1, [], _, _, h1, _, h => absurd (List.cons.inj h).1 (h1 a (by simp))
  | a :: l1, b :: l2, m1, m2, h1, h2, h => by
    have h3 := List.cons.inj h
    obtain ⟨e1, e2⟩ := dot_split l1 l2 m1 m2 (fun x hx => h1 x (List.mem_cons_of_mem _ hx)) (fun x hx => h2 x (List.mem_cons_of_mem _ hx)) h3.2
    exact ⟨by rw [h3.1, e1], e2⟩
theorem ptext_inj {x y : Int} (hx : placeOk x = true) (hy : placeOk y = true) (h : placeText x = placeText y) : x = y := by
  have a1 := ptext_list hx
  rw [h, ptext_list hy] at a1
  obtain ⟨h1, h2, h3, h4, h5, h6⟩ := place_parts hx
  obtain ⟨g1, g2, g3, g4, g5, g6⟩ := place_parts hy
  obtain ⟨e1, e2⟩ := dot_split _ _ _ _ (numB_nodot g2) (numB_nodot h2) (List.cons.inj a1).2
  have n1 := numB_inj g2 h2 e1
  have n2 := numB_inj g5 h5 e2
  have b1 := place_back hx
  rw [← n1, ← n2, place_back hy] at b1
  exact (congrArg Prod.fst b1).symm
theorem ptext_size_le (x : Int) : (placeText x).size ≤ 6 := by
  by_cases h : placeOk x = true
  · have e : (placeText x).size = (placeText x).data.toList.length := rfl
    obtain ⟨h1, h2, h3, h4, h5, h6⟩ := place_parts h
    have s1 := (numB_size h2).2
    have s2 := (numB_size h5).2
    have e1 : (numB (epochOf x).toNat).size = (numB (epochOf x).toNat).data.toList.length := rfl
    have e2 : (numB (offOf x).toNat).size = (numB (offOf x).toNat).data.toList.length := rfl
    rw [e, ptext_list h, List.length_cons, List.length_append, List.length_cons]
    omega
  · unfold placeText
    rw [if_neg h]
    decide
theorem mkP_parts {x y : Int} (h : (1 ≤ x ∧ x ≤ 30) ∧ (1 ≤ y ∧ y ≤ 60)) : placeOk (4294967296 * x + y) = true ∧ epochOf (4294967296 * x + y) = x ∧ offOf (4294967296 * x + y) = y := by
  have p : placeOk (4294967296 * x + y) = true := by rw [placeOk_iff]; omega
  refine ⟨p, ?_, ?_⟩
  · rw [epochOf, if_pos p]; omega
  · rw [offOf, if_pos p]; omega

/-! snum -/
theorem l1Num_l0 : ∀ (d n : Nat) (acc : ByteArray), n ≤ d → n < 1000000 → acc.size + n ≤ 1000000 → Ev (fun k => spec_l1Num.l0 k (n : Int) acc) (if n = 0 then acc else numB n ++ acc) := by
  intro d
  induction d with
  | zero =>
    intro n acc hd _ _
    obtain rfl : n = 0 := by omega
    exact Ev.step (f := fun _ => some acc) (fun k => by rw [spec_l1Num.l0, if_neg (by decide)]) (Ev.now _)
  | succ d ih =>
    intro n acc hd hn ha
    by_cases h0 : n = 0
    · subst h0
      exact Ev.step (f := fun _ => some acc) (fun k => by rw [spec_l1Num.l0, if_neg (by decide)]) (Ev.now _)
    · rw [if_neg h0]
      have hpos : (n : Int) > 0 := by omega
      have e1 := digit_eq n (by omega)
      have e2 := tdiv10 n (by omega)
      have hsz : (strOfNums [((48 + n % 10 : Nat) : Int)]).size = 1 := by simp [strOfNums, ByteArray.size]
      have hle : (strOfNums [((48 + n % 10 : Nat) : Int)]).size + acc.size ≤ 9223372036854775807 := by omega
      have hsa : (strOfNums [((48 + n % 10 : Nat) : Int)] ++ acc).size = 1 + acc.size := by rw [ByteArray.size_append, hsz]
      refine Ev.step (f := fun k => spec_l1Num.l0 k ((n / 10 : Nat) : Int) (strOfNums [((48 + n % 10 : Nat) : Int)] ++ acc)) (fun k => by rw [spec_l1Num.l0, if_pos hpos, Option.bind_some, e1, if_pos hle, e2]) (Evto ?_ (ih (n / 10) _ (by omega) (by omega) (by rw [hsa]; omega)))
      by_cases h1 : n < 10
      · rw [if_pos (show n / 10 = 0 by omega)]
        apply ba_ext
        rw [ba_app, ba_app, son_data, numB_small h1, Nat.mod_eq_of_lt h1]
        rfl
      · rw [if_neg (show ¬ n / 10 = 0 by omega)]
        apply ba_ext
        rw [ba_app, ba_app, ba_app, son_data, numB_big h1, List.append_assoc]
        rfl
theorem l1Num_f (n : Nat) (h0 : 0 < n) (hn : n < 1000000) : Ev (fun k => spec_l1Num.f k (n : Int)) (numB n) := by
  refine Ev.congr (f := fun k => spec_l1Num.l0 k (n : Int) (⟨#[]⟩ : ByteArray)) (fun k => by rw [spec_l1Num.f, if_neg (by omega)]) (Evto ?_ (l1Num_l0 n n ⟨#[]⟩ (by omega) hn (by simp [ByteArray.size]; omega)))
  rw [if_neg (by omega)]
  apply ba_ext
  rw [ba_app]; simp

/-! specin -/
theorem spec_l1In_f (a b c : Int) : spec_l1In.f a b c = some (decide (b ≤ a ∧ a ≤ c)) := by
  unfold spec_l1In.f
  by_cases h : a ≥ b
  · rw [if_pos h]; congr 1; exact decide_eq_decide.2 (by omega)
  · rw [if_neg h]; congr 1; symm; exact decide_eq_false (by omega)

/-! splace -/
theorem spec_PlaceOk_f (x : Int) (h : (Lit.int .i64 x).wf = true) : spec_PlaceOk.f x = some (placeOk x) := by
  have hb := wf64 h
  unfold spec_PlaceOk.f
  simp only [spec_l1In_f, Option.bind_some, decide_eq_true_eq]
  have ht := tdm x
  rw [w64 (n := Int.tdiv x 4294967296) (by omega) (by omega)]
  by_cases h1 : x > 0
  · rw [if_pos h1]
    by_cases h2 : 1 ≤ Int.tdiv x 4294967296 ∧ Int.tdiv x 4294967296 ≤ 30
    · rw [if_pos h2]; congr 1; exact decide_eq_decide.2 (by omega)
    · rw [if_neg h2]; congr 1; symm; exact decide_eq_false (by omega)
  · rw [if_neg h1]; congr 1; symm; exact decide_eq_false (by omega)

/-! sepoch -/
theorem spec_EpochOf_f (x : Int) (h : (Lit.int .i64 x).wf = true) : spec_EpochOf.f x = some (epochOf x) := by
  unfold spec_EpochOf.f epochOf
  rw [spec_PlaceOk_f x h, Option.bind_some]
  by_cases hp : placeOk x = true
  · rw [if_pos hp, if_pos hp, placeOk_div x hp]
  · rw [if_neg hp, if_neg hp]

/-! soff -/
theorem spec_OffOf_f (x : Int) (h : (Lit.int .i64 x).wf = true) : spec_OffOf.f x = some (offOf x) := by
  unfold spec_OffOf.f offOf
  rw [spec_PlaceOk_f x h, Option.bind_some]
  by_cases hp : placeOk x = true
  · rw [if_pos hp, if_pos hp, placeOk_mod x hp]
  · rw [if_neg hp, if_neg hp]

/-! sptext -/
theorem spec_PlaceText_f (x : Int) (h : (Lit.int .i64 x).wf = true) : Ev (fun k => spec_PlaceText.f k x) (placeText x) := by
  unfold spec_PlaceText.f placeText
  refine Evbind (Evconst (spec_PlaceOk_f x h)) ?_
  by_cases hp : placeOk x = true
  · obtain ⟨h1, h2, h3, h4, h5, h6⟩ := place_parts hp
    obtain ⟨s1, s2, s3⟩ := ptext_sizes h2 h5
    have n1 := l1Num_f (epochOf x).toNat h1 (by omega)
    have n2 := l1Num_f (offOf x).toNat h4 (by omega)
    rw [h3] at n1
    rw [h6] at n2
    refine Evpos hp (Evto (if_pos hp).symm (Evbind (Evconst (spec_EpochOf_f x h)) (Evbind n1 (Evpos s1 (Evpos s2 (Evbind (Evconst (spec_OffOf_f x h)) (Evbind n2 (Evpos s3 (Ev.now _)))))))))
  · exact Evneg hp (Evto (if_neg hp).symm (Ev.now _))

/-! splmake -/
theorem spec_PlaceMake_f (x y : Int) : spec_PlaceMake.f x y = some (mkP x y) := by
  unfold spec_PlaceMake.f mkP
  simp only [spec_l1In_f, Option.bind_some, decide_eq_true_eq]
  by_cases h1 : 1 ≤ x ∧ x ≤ 30 <;> by_cases h2 : 1 ≤ y ∧ y ≤ 60
  · rw [if_pos h1, if_pos h2, if_pos ⟨h1, h2⟩, w64 (n := 4294967296 * x) (by omega) (by omega), w64 (by omega) (by omega)]
  · rw [if_pos h1, if_neg h2, if_neg (fun h => h2 h.2)]
  · rw [if_neg h1, if_neg (fun h => h1 h.1)]
  · rw [if_neg h1, if_neg (fun h => h1 h.1)]

/-! splread -/
theorem l1Read_fin (x1 x6 x7 : Int) : ∃ v, (if x1 = x6 then (some ((-1 : Int), x1)) else (if (wrap64 (x1 - x6)) > 10 then (some ((-1 : Int), x1)) else (some (x7, x1)))) = some (v, x1) := by
  by_cases h : x1 = x6
  · exact ⟨_, if_pos h⟩
  · rw [if_neg h]
    by_cases h2 : wrap64 (x1 - x6) > 10
    · exact ⟨_, if_pos h2⟩
    · exact ⟨_, if_neg h2⟩
theorem l1Read_tot (s : ByteArray) (i0 : Nat) (hs : s.size ≤ 1048576) (h0 : i0 ≤ 1048576) : ∀ (d i : Nat) (x : Int), s.size - i ≤ d → i0 ≤ i → i ≤ i0 + 11 → ∃ (v : Int) (j : Nat), Ev (fun k => spec_l1Read.l0 k s (i : Int) (i0 : Int) x) (v, (j : Int)) ∧ j ≤ i0 + 11 := by
  intro d
  induction d with
  | zero =>
    intro i x hd hi hj
    obtain ⟨v, hv⟩ := l1Read_fin (i : Int) (i0 : Int) x
    exact ⟨v, i, Ev.step (f := fun _ => some (v, (i : Int))) (fun k => by rw [spec_l1Read.l0, if_neg (by omega), hv]) (Ev.now _), hj⟩
  | succ d ih =>
    intro i x hd hi hj
    obtain ⟨v, hv⟩ := l1Read_fin (i : Int) (i0 : Int) x
    by_cases h1 : (i : Int) < (s.size : Int)
    · have p0 : (0 : Int) ≤ (i : Int) := by omega
      by_cases h2 : bt s i ≥ 48
      · by_cases h3 : bt s i ≤ 57
        · have hw : wrap64 ((i : Int) - (i0 : Int)) = (i : Int) - (i0 : Int) := w64 (by omega) (by omega)
          by_cases h4 : wrap64 ((i : Int) - (i0 : Int)) < 11
          · obtain ⟨v', j, hv', hj'⟩ := ih (i + 1) (wrap64 ((wrap64 ((wrap64 (10 * x)) + (wrap64 (bt s i)))) - 48)) (by omega) (by omega) (by omega)
            have hsu := wsucc i (by omega)
            exact ⟨v', j, Ev.step (fun k => by rw [spec_l1Read.l0, if_pos h1, if_pos p0, if_pos h2, if_pos h3, if_pos h4, hsu]) hv', hj'⟩
          · exact ⟨v, i, Ev.step (f := fun _ => some (v, (i : Int))) (fun k => by rw [spec_l1Read.l0, if_pos h1, if_pos p0, if_pos h2, if_pos h3, if_neg h4, hv]) (Ev.now _), hj⟩
        · exact ⟨v, i, Ev.step (f := fun _ => some (v, (i : Int))) (fun k => by rw [spec_l1Read.l0, if_pos h1, if_pos p0, if_pos h2, if_neg h3, hv]) (Ev.now _), hj⟩
      · exact ⟨v, i, Ev.step (f := fun _ => some (v, (i : Int))) (fun k => by rw [spec_l1Read.l0, if_pos h1, if_pos p0, if_neg h2, hv]) (Ev.now _), hj⟩
    · exact ⟨v, i, Ev.step (f := fun _ => some (v, (i : Int))) (fun k => by rw [spec_l1Read.l0, if_neg h1, hv]) (Ev.now _), hj⟩
theorem bt_list {s : ByteArray} {i : Nat} {b : UInt8} (h : s.data.toList[i]? = some b) : (i : Int) < (s.size : Int) ∧ bt s (i : Int) = (b.toNat : Int) := by
  obtain ⟨hi, he⟩ := List.getElem?_eq_some_iff.1 h
  have hl : i < s.size := hi
  refine ⟨by omega, ?_⟩
  unfold bt
  rw [dif_pos (show (i : Int).toNat < s.size from hl)]
  have : s[(i : Int).toNat] = b := he
  rw [this]
theorem l1Read_step {s : ByteArray} {i i0 x d : Nat} (h : s.data.toList[i]? = some (UInt8.ofNat (48 + d))) (hd : d < 10) (hi : i0 ≤ i) (hj : i < i0 + 11) (hx : x ≤ 1000) (hb : i ≤ 1048576) (k : Nat) : spec_l1Read.l0 (k + 1) s (i : Int) (i0 : Int) (x : Int) = spec_l1Read.l0 k s ((i + 1 : Nat) : Int) (i0 : Int) ((10 * x + d : Nat) : Int) := by
  obtain ⟨h1, h2⟩ := bt_list h
  have h3 : (UInt8.ofNat (48 + d)).toNat = 48 + d := by rw [UInt8.toNat_ofNat']; omega
  rw [h3] at h2
  have e1 : wrap64 ((i : Int) - (i0 : Int)) < 11 := by rw [w64 (by omega) (by omega)]; omega
  have e2 := wsucc i (by omega)
  have e3 : wrap64 ((wrap64 ((wrap64 (10 * (x : Int))) + (wrap64 (bt s i)))) - 48) = ((10 * x + d : Nat) : Int) := by
    rw [h2, w64 (n := 10 * (x : Int)) (by omega) (by omega), w64 (n := ((48 + d : Nat) : Int)) (by omega) (by omega), w64 (n := 10 * (x : Int) + ((48 + d : Nat) : Int)) (by omega) (by omega), w64 (by omega) (by omega)]
    omega
  rw [spec_l1Read.l0, if_pos h1, if_pos (by omega), if_pos (by omega), if_pos (by omega), if_pos e1, e2, e3]
theorem l1Read_stop {s : ByteArray} {i i0 x : Nat} (h : s.data.toList[i]? = none ∨ s.data.toList[i]? = some 46) (hi : i0 < i) (hj : i ≤ i0 + 10) (hb : i ≤ 1048576) (k : Nat) : spec_l1Read.l0 (k + 1) s (i : Int) (i0 : Int) (x : Int) = some ((x : Int), (i : Int)) := by
  have e1 : ¬ wrap64 ((i : Int) - (i0 : Int)) > 10 := by rw [w64 (by omega) (by omega)]; omega
  have e2 : ¬ (i : Int) = (i0 : Int) := by omega
  rcases h with h | h
  · have h1 : s.size ≤ i := List.getElem?_eq_none_iff.1 h
    rw [spec_l1Read.l0, if_neg (by omega), if_neg e2, if_neg e1]
  · obtain ⟨h1, h2⟩ := bt_list h
    have h3 : (46 : UInt8).toNat = 46 := rfl
    rw [h3] at h2
    rw [spec_l1Read.l0, if_pos h1, if_pos (by omega), if_neg (by omega), if_neg e2, if_neg e1]
theorem l1Read_digits (s : ByteArray) (n : Nat) (hn : n < 100) (pre post : List UInt8) (hs : s.data.toList = pre ++ ((numB n).data.toList ++ post)) (hp : pre.length ≤ 1000) (hpost : post = [] ∨ ∃ t, post = 46 :: t) : Ev (fun k => spec_l1Read.f k s (pre.length : Int)) ((n : Int), ((pre.length + (numB n).size : Nat) : Int)) := by
  have esz : (numB n).size = (numB n).data.toList.length := rfl
  have at_ : ∀ i, s.data.toList[pre.length + i]? = ((numB n).data.toList ++ post)[i]? := fun i => by
    rw [hs, List.getElem?_append_right (by omega)]; congr 1; omega
  rcases numB_list hn with ⟨h1, hl⟩ | ⟨a, b, ha, hb, rfl, hl⟩
  · rw [esz, hl]
    have d0 : s.data.toList[pre.length]? = some (UInt8.ofNat (48 + n)) := by rw [show pre.length = pre.length + 0 from rfl, at_ 0, hl]; rfl
    have d1 : s.data.toList[pre.length + 1]? = none ∨ s.data.toList[pre.length + 1]? = some 46 := by
      rw [at_ 1, hl]
      rcases hpost with rfl | ⟨t, rfl⟩
      · exact .inl rfl
      · exact .inr rfl
    refine Ev.congr (f := fun k => spec_l1Read.l0 k s (pre.length : Int) (pre.length : Int) ((0 : Nat) : Int)) (fun k => rfl) ?_
    refine Ev.step (fun k => l1Read_step d0 h1 (by omega) (by omega) (by omega) (by omega) k) ?_
    refine Ev.step (f := fun _ => some ((n : Int), ((pre.length + 1 : Nat) : Int))) (fun k => by rw [l1Read_stop d1 (by omega) (by omega) (by omega) k]; simp) (Ev.now _)
  · rw [esz, hl]
    have d0 : s.data.toList[pre.length]? = some (UInt8.ofNat (48 + a)) := by rw [show pre.length = pre.length + 0 from rfl, at_ 0, hl]; rfl
    have d1 : s.data.toList[pre.length + 1]? = some (UInt8.ofNat (48 + b)) := by rw [at_ 1, hl]; rfl
    have d2 : s.data.toList[pre.length + 1 + 1]? = none ∨ s.data.toList[pre.length + 1 + 1]? = some 46 := by
      rw [show pre.length + 1 + 1 = pre.length + 2 from rfl, at_ 2, hl]
      rcases hpost with rfl | ⟨t, rfl⟩
      · exact .inl rfl
      · exact .inr rfl
    refine Ev.congr (f := fun k => spec_l1Read.l0 k s (pre.length : Int) (pre.length : Int) ((0 : Nat) : Int)) (fun k => rfl) ?_
    refine Ev.step (fun k => l1Read_step d0 ha (by omega) (by omega) (by omega) (by omega) k) ?_
    refine Ev.step (fun k => l1Read_step d1 hb (by omega) (by omega) (by omega) (by omega) k) ?_
    refine Ev.step (f := fun _ => some (((10 * a + b : Nat) : Int), ((pre.length + 2 : Nat) : Int))) (fun k => by rw [l1Read_stop d2 (by omega) (by omega) (by omega) k]; simp; omega) (Ev.now _)
theorem spec_PlaceRead_f (s : ByteArray) (hs : s.size ≤ 1048576) : ∃ r : Int × Bool, Ev (fun k => spec_PlaceRead.f k s) r ∧ IsRead s r := by
  unfold spec_PlaceRead.f
  by_cases h4 : (s.size : Int) < 4
  · refine ⟨(0, false), Evpos h4 (Ev.now _), isRead_no fun x p t => ?_⟩
    have := ptext_size p
    rw [t] at this
    omega
  · -- what the two readings give
    have hr : ∃ (e : Int) (j : Nat), Ev (fun k => spec_l1Read.f k s 1) (e, (j : Int)) ∧ j ≤ 12 ∧ ∃ (o : Int) (l : Int), Ev (fun k => spec_l1Read.f k s ((j + 1 : Nat) : Int)) (o, l) ∧ ∀ x, placeOk x = true → placeText x = s → mkP e o = (x, true) := by
      by_cases hx : ∃ x, placeOk x = true ∧ placeText x = s
      · obtain ⟨x, p, t⟩ := hx
        obtain ⟨h1, h2, h3, g4, h5, h6⟩ := place_parts p
        have hl := ptext_list p
        rw [t] at hl
        have r1 := l1Read_digits s (epochOf x).toNat h2 [101] (46 :: (numB (offOf x).toNat).data.toList) hl (by simp) (.inr ⟨_, rfl⟩)
        have r2 := l1Read_digits s (offOf x).toNat h5 (101 :: ((numB (epochOf x).toNat).data.toList ++ [46])) [] (by rw [hl]; simp) (by
          have e1 : (numB (epochOf x).toNat).size = (numB (epochOf x).toNat).data.toList.length := rfl
          have s1 := (numB_size h2).2
          simp only [List.length_cons, List.length_append, List.length_nil]; omega) (.inl rfl)
        have s1 := (numB_size h2).2
        have e1 : (numB (epochOf x).toNat).size = (numB (epochOf x).toNat).data.toList.length := rfl
        refine ⟨_, _, r1, ?_, _, _, Ev.congr (fun k => ?_) r2, ?_⟩
        · simp only [List.length_cons, List.length_nil]; omega
        · simp only [List.length_cons, List.length_append, List.length_nil, e1]
          congr 2
          omega
        · intro y q u
          have hxy : y = x := by
            have a1 := ptext_list q
            rw [u, hl] at a1
            exact ptext_inj q p (u.trans t.symm)
          rw [hxy]
          exact place_back p
      · obtain ⟨e, j, he, hj⟩ := l1Read_tot s 1 hs (by omega) (s.size - 1) 1 0 (by omega) (by omega) (by omega)
        obtain ⟨o, l, ho, _⟩ := l1Read_tot s (j + 1) hs (by omega) (s.size - (j + 1)) (j + 1) 0 (by omega) (by omega) (by omega)
        exact ⟨e, j, he, by omega, o, _, ho, fun x p t => absurd ⟨x, p, t⟩ hx⟩
    obtain ⟨e, j, he, hj, o, l, ho, hall⟩ := hr
    have hsu := wsucc j (by omega)
    have hrest : ∃ r : Int × Bool, Ev (fun k => (if (mkP e o).2 = true then ((spec_PlaceText.f k (mkP e o).1).bind fun t121 => (if t121.toList = s.toList then (some ((mkP e o).1, true)) else (some (0, false)))) else (some (0, false)))) r ∧ IsRead s r := by
      by_cases hk : (mkP e o).2 = true
      · by_cases ht : (placeText (mkP e o).1).toList = s.toList
        · refine ⟨_, Evpos hk (Evbind (spec_PlaceText_f _ (mkP_wf e o)) (Evpos ht (Ev.now _))), isRead_yes (mkP_ok hk) (bal.1 ht) fun y q u => ?_⟩
          have := hall y q u
          rw [this]
        · refine ⟨_, Evpos hk (Evbind (spec_PlaceText_f _ (mkP_wf e o)) (Evneg ht (Ev.now _))), isRead_no fun x p t => ?_⟩
          have := hall x p t
          rw [this] at ht
          exact ht (bal.2 t)
      · refine ⟨_, Evneg hk (Ev.now _), isRead_no fun x p t => ?_⟩
        have := hall x p t
        rw [this] at hk
        exact hk rfl
    obtain ⟨r, hr, hi⟩ := hrest
    refine ⟨r, Evneg h4 (Evbind he (Ev.congr (fun k => by rw [hsu]) (Evbind ho (Evbind (Evconst (spec_PlaceMake_f e o)) hr)))), hi⟩

/-! within -/
theorem impl_within_f (a b c : Int) : impl_within.f a b c = some (decide (b ≤ a ∧ a ≤ c)) := by
  unfold impl_within.f
  by_cases h : a ≥ b
  · rw [if_pos h]; congr 1; exact decide_eq_decide.2 (by omega)
  · rw [if_neg h]; congr 1; symm; exact decide_eq_false (by omega)

/-! isep -/
theorem impl_isEpoch_f (a : Int) : impl_isEpoch.f a = some (decide (1 ≤ a ∧ a ≤ 30)) := by
  unfold impl_isEpoch.f; rw [impl_within_f]; rfl
theorem impl_isOff_f (a : Int) : impl_isOff.f a = some (decide (1 ≤ a ∧ a ≤ 60)) := by
  unfold impl_isOff.f; rw [impl_within_f]; rfl

/-! iplace -/
theorem impl_PlaceOk_f (x : Int) (h : (Lit.int .i64 x).wf = true) : impl_PlaceOk.f x = some (placeOk x) := by
  have hb := wf64 h
  unfold impl_PlaceOk.f
  simp only [impl_isEpoch_f, impl_isOff_f, Option.bind_some, decide_eq_true_eq]
  have ht := tdm x
  rw [w64 (n := Int.tdiv x 4294967296) (by omega) (by omega)]
  by_cases h2 : 1 ≤ Int.tdiv x 4294967296 ∧ Int.tdiv x 4294967296 ≤ 30
  · rw [if_pos h2]; congr 1; exact decide_eq_decide.2 (by omega)
  · rw [if_neg h2]; congr 1; symm; exact decide_eq_false (by omega)

/-! iepoch -/
theorem impl_EpochOf_f (x : Int) (h : (Lit.int .i64 x).wf = true) : impl_EpochOf.f x = some (epochOf x) := by
  unfold impl_EpochOf.f epochOf
  rw [impl_PlaceOk_f x h, Option.bind_some]
  by_cases hp : placeOk x = true
  · rw [if_pos hp, if_pos hp, placeOk_div x hp]
  · rw [if_neg hp, if_neg hp]

/-! ioff -/
theorem impl_OffOf_f (x : Int) (h : (Lit.int .i64 x).wf = true) : impl_OffOf.f x = some (offOf x) := by
  unfold impl_OffOf.f offOf
  rw [impl_PlaceOk_f x h, Option.bind_some]
  by_cases hp : placeOk x = true
  · rw [if_pos hp, if_pos hp, placeOk_mod x hp]
  · rw [if_neg hp, if_neg hp]

/-! iptext -/
theorem impl_digits_f (n : Nat) (h : n < 100) : impl_digits.f (n : Int) = some (numB n) := by
  unfold impl_digits.f numB
  rw [if_pos ⟨by omega, by omega⟩, Int.toNat_natCast]
theorem impl_PlaceText_f (x : Int) (h : (Lit.int .i64 x).wf = true) : impl_PlaceText.f x = some (placeText x) := by
  unfold impl_PlaceText.f placeText
  rw [impl_PlaceOk_f x h, Option.bind_some]
  by_cases hp : placeOk x = true
  · obtain ⟨h1, h2, h3, h4, h5, h6⟩ := place_parts hp
    obtain ⟨s1, s2, s3⟩ := ptext_sizes h2 h5
    have n1 := impl_digits_f (epochOf x).toNat h2
    have n2 := impl_digits_f (offOf x).toNat h5
    rw [h3] at n1
    rw [h6] at n2
    rw [if_pos hp, if_pos hp, impl_EpochOf_f x h, Option.bind_some, n1, Option.bind_some, if_pos s1, if_pos s2, impl_OffOf_f x h, Option.bind_some, n2, Option.bind_some, if_pos s3]
  · rw [if_neg hp, if_neg hp]

/-! iplread -/
theorem impl_PlaceMake_f (x y : Int) : impl_PlaceMake.f x y = some (mkP x y) := by
  unfold impl_PlaceMake.f mkP
  simp only [impl_isEpoch_f, impl_isOff_f, Option.bind_some, decide_eq_true_eq]
  by_cases h1 : 1 ≤ x ∧ x ≤ 30 <;> by_cases h2 : 1 ≤ y ∧ y ≤ 60
  · rw [if_pos h1, if_pos h2, if_pos ⟨h1, h2⟩, w64 (n := 4294967296 * x) (by omega) (by omega), w64 (by omega) (by omega)]
  · rw [if_pos h1, if_neg h2, if_neg (fun h => h2 h.2)]
  · rw [if_neg h1, if_neg (fun h => h1 h.1)]
  · rw [if_neg h1, if_neg (fun h => h1 h.1)]
theorem one_size : (⟨#[101]⟩ : ByteArray).size = 1 := rfl
theorem extract_list (s : ByteArray) (i j : Nat) : (s.extract i j).data.toList = (s.data.toList.drop i).take (j - i) := by
  rw [ByteArray.data_extract, Array.toList_extract, List.extract_eq_take_drop]
theorem trim_f (s : ByteArray) : ∃ t, strings_TrimPrefix.f s (⟨#[101]⟩ : ByteArray) = some t ∧ t.size ≤ s.size ∧ ∀ l, s.data.toList = 101 :: l → t.data.toList = l := by
  have es : s.size = s.data.toList.length := rfl
  unfold strings_TrimPrefix.f stringslite_TrimPrefix.f stringslite_HasPrefix.f
  rw [one_size]
  by_cases h1 : (s.size : Int) ≥ ((1 : Nat) : Int)
  · have p0 : (0 : Int) ≤ ((1 : Nat) : Int) := by decide
    rw [if_pos h1, if_pos p0, if_pos h1, Option.bind_some]
    by_cases h2 : ((s.extract 0 (((1 : Nat) : Int) : Int).toNat).toList == (⟨#[101]⟩ : ByteArray).toList) = true
    · rw [if_pos h2, if_pos p0, if_pos h1, Option.bind_some]
      refine ⟨_, rfl, ?_, fun l hl => ?_⟩
      · have : (s.extract (((1 : Nat) : Int)).toNat s.size).size = (s.extract (((1 : Nat) : Int)).toNat s.size).data.toList.length := rfl
        rw [this, extract_list, List.length_take]
        omega
      · rw [extract_list, hl, es, hl]
        simp
    · rw [if_neg h2, Option.bind_some]
      refine ⟨_, rfl, Nat.le_refl _, fun l hl => absurd ?_ h2⟩
      rw [beq_iff_eq, bal]
      apply ba_ext
      rw [extract_list, hl]
      rfl
  · rw [if_neg h1, Option.bind_some, if_neg (by decide), Option.bind_some]
    refine ⟨_, rfl, Nat.le_refl _, fun l hl => absurd h1 ?_⟩
    rw [es, hl]
    simp only [List.length_cons]; omega
theorem index_dot : ∀ (l1 l2 : List UInt8), (∀ b ∈ l1, b ≠ 46) → Lib.index (l1 ++ 46 :: l2) [46] = (l1.length : Int)
  | [], l2, _ => by simp [Lib.index, List.isPrefixOf]
  | b :: l1, l2, h => by
    have hb : b ≠ 46 := h b (by simp)
    have ih := index_dot l1 l2 (fun x hx => h x (List.mem_cons_of_mem _ hx))
    rw [List.cons_append, Lib.index, ih]
    have h1 : ([46] : List UInt8).isPrefixOf (b :: (l1 ++ 46 :: l2)) = false := by
      simp [List.isPrefixOf, Ne.symm hb]
    rw [h1, if_neg (by decide), if_neg (by simp), List.length_cons]
    omega
theorem cut_dot (l1 l2 : List UInt8) (h : ∀ b ∈ l1, b ≠ 46) : Lib.cut (l1 ++ 46 :: l2) [46] = (l1, l2, true) := by
  unfold Lib.cut
  rw [index_dot l1 l2 h, if_pos (by omega)]
  simp
theorem cut_sizes (s sep : List UInt8) : (Lib.cut s sep).1.length ≤ s.length ∧ (Lib.cut s sep).2.1.length ≤ s.length := by
  unfold Lib.cut
  by_cases h : 0 ≤ Lib.index s sep
  · rw [if_pos h]
    simp only [List.length_take, List.length_drop]
    omega
  · rw [if_neg h]; simp
theorem parse_lt : ∀ (l : List UInt8) (acc u : Nat), Lib.parseUint10 acc l = .ok u → u < (acc + 1) * 10 ^ l.length
  | [], acc, u, h => by
    simp only [Lib.parseUint10] at h
    injection h with h
    rw [← h]; simp
  | c :: r, acc, u, h => by
    simp only [Lib.parseUint10] at h
    split at h
    · split at h
      · cases h
      · split at h
        · cases h
        · have := parse_lt r _ u h
          rw [List.length_cons, Nat.pow_succ]
          have h2 : (acc * 10 + (c.toNat - 48) + 1) * 10 ^ r.length ≤ ((acc + 1) * 10) * 10 ^ r.length := Nat.mul_le_mul_right _ (by omega)
          have h3 : ((acc + 1) * 10) * 10 ^ r.length = (acc + 1) * (10 ^ r.length * 10) := by rw [Nat.mul_assoc, Nat.mul_comm 10]
          omega
    · cases h
theorem parse_small {l : List UInt8} {u : Nat} (hl : l.length ≤ 2) (h : Lib.parseMag l = .ok u) : u < 100 := by
  unfold Lib.parseMag at h
  split at h
  · cases h
  · have h1 := parse_lt l 0 u h
    have h2 : 10 ^ l.length ≤ 10 ^ 2 := Nat.pow_le_pow_right (by omega) hl
    omega
theorem atoi_small {l : List UInt8} {v : Int} (hl : l.length ≤ 2) (h : Lib.atoiAll l = .ok v) : v < 100 := by
  unfold Lib.atoiAll at h
  cases l with
  | nil => cases h
  | cons c r =>
    dsimp only at h
    split at h
    · cases h
    · cases h
    · rename_i u hu
      have hu' : u < 100 := parse_small (by split <;> simp at hl ⊢ <;> omega) hu
      split at h
      · cases h
      · split at h
        · cases h
        · injection h with h
          rw [← h]
          split <;> omega
theorem atoi_one : ∀ a : Fin 10, Lib.atoiAll [UInt8.ofNat (48 + a.val)] = .ok (a.val : Int) := by decide +kernel
theorem atoi_two : ∀ a b : Fin 10, Lib.atoiAll [UInt8.ofNat (48 + a.val), UInt8.ofNat (48 + b.val)] = .ok ((10 * a.val + b.val : Nat) : Int) := by decide +kernel
theorem atoi_num {n : Nat} (h : n < 100) : Lib.atoiAll (numB n).data.toList = .ok (n : Int) := by
  rcases numB_list h with ⟨h1, e1⟩ | ⟨a, b, ha, hb, rfl, e1⟩ <;> rw [e1]
  · exact atoi_one ⟨n, h1⟩
  · exact atoi_two ⟨a, ha⟩ ⟨b, hb⟩
theorem readDigits_tot (t : ByteArray) (ht : t.size ≤ 281474976710656) : ∃ r, impl_readDigits.f t 2 = some r := by
  unfold impl_readDigits.f
  rw [if_pos ht]
  cases hA : Lib.atoiAll t.data.toList
  rotate_left
  · exact ⟨_, rfl⟩
  · exact ⟨_, rfl⟩
  · rename_i v
    dsimp only
    by_cases h1 : v < 0
    · rw [if_pos h1]; exact ⟨_, rfl⟩
    · rw [if_neg h1]
      by_cases h2 : (t.size : Int) > 2
      · rw [if_pos h2]; exact ⟨_, rfl⟩
      · have es : t.size = t.data.toList.length := rfl
        have hv := atoi_small (by omega) hA
        obtain ⟨n, rfl⟩ := Int.eq_ofNat_of_zero_le (show 0 ≤ v by omega)
        rw [if_neg h2, impl_digits_f n (by omega), Option.bind_some]
        by_cases h3 : (numB n).toList = t.toList
        · rw [if_pos h3]; exact ⟨_, rfl⟩
        · rw [if_neg h3]; exact ⟨_, rfl⟩
theorem readDigits_num {n : Nat} (h : n < 100) : impl_readDigits.f (numB n) 2 = some ((n : Int), true) := by
  have hs := numB_size h
  unfold impl_readDigits.f
  rw [if_pos (by omega), atoi_num h]
  dsimp only
  rw [if_neg (by omega), if_neg (by omega), impl_digits_f n h, Option.bind_some, if_pos rfl]
theorem impl_PlaceRead_f (s : ByteArray) (hs : s.size ≤ 1048576) : ∃ r : Int × Bool, impl_PlaceRead.f s = some r ∧ IsRead s r := by
  unfold impl_PlaceRead.f
  obtain ⟨t, ht, hts, htl⟩ := trim_f s
  rw [ht, Option.bind_some]
  unfold strings_Cut.f
  rw [if_pos (by omega), Option.bind_some]
  dsimp only
  have hsz := cut_sizes t.data.toList (⟨#[46]⟩ : ByteArray).data.toList
  have et : t.size = t.data.toList.length := rfl
  have hcut : ∀ x, placeOk x = true → placeText x = s → Lib.cut t.data.toList (⟨#[46]⟩ : ByteArray).data.toList = ((numB (epochOf x).toNat).data.toList, (numB (offOf x).toNat).data.toList, true) := by
    intro x p u
    have hl := ptext_list p
    rw [u] at hl
    rw [htl _ hl]
    exact cut_dot _ _ (numB_nodot (place_parts p).2.1)
  generalize Lib.cut t.data.toList (⟨#[46]⟩ : ByteArray).data.toList = c at hsz hcut
  obtain ⟨c1, c2, c3⟩ := c
  dsimp only at hsz ⊢
  obtain ⟨⟨e, okE⟩, hE⟩ := readDigits_tot (⟨c1.toArray⟩ : ByteArray) (by show c1.toArray.size ≤ _; rw [List.size_toArray]; omega)
  obtain ⟨⟨o, okO⟩, hO⟩ := readDigits_tot (⟨c2.toArray⟩ : ByteArray) (by show c2.toArray.size ≤ _; rw [List.size_toArray]; omega)
  have hall : ∀ x, placeOk x = true → placeText x = s → okE = true ∧ okO = true ∧ mkP e o = (x, true) := by
    intro x p u
    have hc := hcut x p u
    simp only [Prod.mk.injEq] at hc
    obtain ⟨rfl, rfl, rfl⟩ := hc
    obtain ⟨h1, h2, h3, h4, h5, h6⟩ := place_parts p
    have g1 := readDigits_num h2
    have g2 := readDigits_num h5
    have e1 : (⟨(numB (epochOf x).toNat).data.toList.toArray⟩ : ByteArray) = numB (epochOf x).toNat := ba_ext (by simp)
    have e2 : (⟨(numB (offOf x).toNat).data.toList.toArray⟩ : ByteArray) = numB (offOf x).toNat := ba_ext (by simp)
    rw [e1, g1] at hE
    rw [e2, g2] at hO
    simp only [Option.some.injEq, Prod.mk.injEq] at hE hO
    obtain ⟨rfl, rfl⟩ := hE
    obtain ⟨rfl, rfl⟩ := hO
    exact ⟨rfl, rfl, place_back p⟩
  rw [hE, Option.bind_some, hO, Option.bind_some, impl_PlaceMake_f, Option.bind_some]
  dsimp only
  cases okE with
  | false => exact ⟨_, by rw [if_neg (by decide)], isRead_no fun x p u => absurd (hall x p u).1 (by decide)⟩
  | true =>
    rw [if_pos rfl]
    cases okO with
    | false => exact ⟨_, by rw [if_neg (by decide)], isRead_no fun x p u => absurd (hall x p u).2.1 (by decide)⟩
    | true =>
      rw [if_pos rfl]
      by_cases hk : (mkP e o).2 = true
      · rw [if_pos hk, impl_PlaceText_f _ (mkP_wf e o), Option.bind_some]
        by_cases ht : (placeText (mkP e o).1).toList = s.toList
        · refine ⟨_, if_pos ht, isRead_yes (mkP_ok hk) (bal.1 ht) fun y q u => ?_⟩
          rw [(hall y q u).2.2]
        · refine ⟨_, if_neg ht, isRead_no fun x p u => ?_⟩
          rw [(hall x p u).2.2] at ht
          exact ht (bal.2 u)
      · refine ⟨_, if_neg hk, isRead_no fun x p u => ?_⟩
        rw [(hall x p u).2.2] at hk
        exact hk rfl

/-! pldent -/
theorem l1Pick_f (b : List Int) (i h : Int) (l : List ByteArray) (hl : 0 < l.length) (hl2 : l.length < 1000) (hz : ∀ x ∈ l, x.size ≤ 20) (h0 : 0 ≤ i) (h1 : i ≤ b.length) (hb : b.length < 4611686018427387904) : ∃ x i' h', spec_l1Pick.f b i h l = some (x, i', h') ∧ x.size ≤ 20 ∧ 0 ≤ i' ∧ i' ≤ b.length := by
  obtain ⟨x, i', h', e, hx0, hx1, _, _, h3, h4⟩ := l1Below_f b i h (l.length : Int) h0 h1 hb
  have hx := hx1 (by omega)
  unfold spec_l1Pick.f
  rw [e, Option.bind_some]
  dsimp only
  rw [if_pos hx0, if_pos hx]
  refine ⟨_, _, _, rfl, ?_, h3, h4⟩
  unfold rdOf
  have hn : x.toNat < l.length := by omega
  rw [List.getD_eq_getElem?_getD, List.getElem?_eq_getElem hn]
  exact hz _ (List.getElem_mem hn)
theorem ext_size (a : ByteArray) (i j : Nat) : (a.extract i j).size ≤ a.size := by
  rw [ByteArray.size_extract]; omega
theorem l1Dent_f (b : List Int) (i h : Int) (a : ByteArray) (l : List ByteArray) (ha : a.size ≤ 1000) (hl : 0 < l.length) (hl2 : l.length < 1000) (hz : ∀ x ∈ l, x.size ≤ 20) (h0 : 0 ≤ i) (h1 : i ≤ b.length) (hb : b.length < 4611686018427387904) : ∃ x i' h', spec_l1Dent.f b i h a l = some (x, i', h') ∧ x.size ≤ 5000 := by
  have hw : wrap64 ((a.size : Int) + 1) = ((a.size + 1 : Nat) : Int) := wsucc a.size (by omega)
  obtain ⟨t, i1, g1, e1, t0, t1, _, _, b1, b2⟩ := l1Below_f b i h ((a.size + 1 : Nat) : Int) h0 h1 hb
  obtain ⟨c, i2, g2, e2, _, _, _, _, c1, c2⟩ := l1Below_f b i1 g1 3 b1 b2 hb
  have ht := t1 (by omega)
  have ht2 : t ≤ (a.size : Int) := by omega
  have z0 := ext_size a 0 t.toNat
  unfold spec_l1Dent.f
  rw [hw, e1, Option.bind_some]
  dsimp only
  rw [e2, Option.bind_some]
  dsimp only
  by_cases k0 : c = 0
  · rw [if_pos k0, if_pos t0, if_pos ht2]
    exact ⟨_, _, _, rfl, by omega⟩
  rw [if_neg k0]
  obtain ⟨p, i3, g3, e3, p1, p2⟩ := l1Pick_f b i2 g2 l hl hl2 hz c1 c2 hb
  have s1 : (a.extract 0 t.toNat).size + p.size ≤ 9223372036854775807 := by omega
  by_cases k1 : c = 1
  · have wt : wrap64 (t + 1) = t + 1 := w64 (by omega) (by omega)
    have hm : ∃ m, spec_l1Min.f (t + 1) (a.size : Int) = some m ∧ 0 ≤ m ∧ m ≤ (a.size : Int) := by
      unfold spec_l1Min.f
      by_cases hc : t + 1 < (a.size : Int)
      · exact ⟨_, if_pos hc, by omega, by omega⟩
      · exact ⟨_, if_neg hc, by omega, by omega⟩
    obtain ⟨m, em, m0, m1⟩ := hm
    have z1 := ext_size a m.toNat a.size
    have s2 : ((a.extract 0 t.toNat) ++ p).size + (a.extract m.toNat a.size).size ≤ 9223372036854775807 := by rw [ByteArray.size_append]; omega
    rw [if_pos k1, if_pos t0, if_pos ht2, e3, Option.bind_some]
    dsimp only
    rw [if_pos s1, wt, em, Option.bind_some, if_pos m0, if_pos m1, if_pos s2]
    refine ⟨_, _, _, rfl, ?_⟩
    rw [ByteArray.size_append, ByteArray.size_append]; omega
  · have z1 := ext_size a t.toNat a.size
    have s2 : ((a.extract 0 t.toNat) ++ p).size + (a.extract t.toNat a.size).size ≤ 9223372036854775807 := by rw [ByteArray.size_append]; omega
    rw [if_neg k1, if_pos t0, if_pos ht2, e3, Option.bind_some]
    dsimp only
    rw [if_pos s1, if_pos s2]
    refine ⟨_, _, _, rfl, ?_⟩
    rw [ByteArray.size_append, ByteArray.size_append]; omega
theorem DrawPlaceRead_f (l0 : List Int) (hb : l0.length < 4611686018427387904) : ∃ s, Ev (fun k => spec_DrawPlaceRead.f k l0) s ∧ s.size ≤ 5000 := by
  obtain ⟨h', en⟩ := l1New_f l0 hb
  obtain ⟨y, i3, g3, e3, wy, b3⟩ := l1DrawPlace_f l0 0 h' (by omega) (by omega) hb
  obtain ⟨c, i4, g4, e4, b4⟩ := l1Once_f l0 i3 g3 2 b3.1 b3.2 hb
  have hsz := ptext_size_le y
  unfold spec_DrawPlaceRead.f
  by_cases hc : c = true
  · obtain ⟨s, i5, g5, e5, hs⟩ := l1Dent_f l0 i4 g4 (placeText y) [(⟨#[101]⟩ : ByteArray), (⟨#[46]⟩ : ByteArray), (⟨#[48]⟩ : ByteArray), (⟨#[57]⟩ : ByteArray), (⟨#[32]⟩ : ByteArray), (⟨#[54, 49]⟩ : ByteArray), (⟨#[57, 57, 57, 57, 57, 57, 57, 57, 57, 57, 57]⟩ : ByteArray)] (by omega) (by decide) (by decide) (by
      intro x hx
      simp only [List.mem_cons, List.not_mem_nil, or_false] at hx
      rcases hx with rfl | rfl | rfl | rfl | rfl | rfl | rfl <;> decide) b4.1 b4.2 hb
    refine ⟨s, Evbind en ?_, hs⟩
    refine Evbind (Evconst e3) (Evbind (spec_PlaceText_f y wy) (Evbind (Evconst e4) (Evpos hc (Evbind (Evconst e5) (Ev.now _)))))
  · refine ⟨placeText y, Evbind en ?_, by omega⟩
    refine Evbind (Evconst e3) (Evbind (spec_PlaceText_f y wy) (Evbind (Evconst e4) (Evneg hc (Ev.now _))))

theorem FnPlaceText (l0 : List Int) (hl0 : l0.length ≤ maxLen ∧ ∀ x ∈ l0, (Lit.int .u8 x).wf = true) : ∃ k, laws_FnPlaceText.f k l0 = some true := by
  refine Ev.rounds (g := fun k => laws_FnPlaceText.f k l0) ?_
  unfold laws_FnPlaceText.f laws_big.f
  simp only [Option.bind_some]
  by_cases hbig : (l0.length : Int) > 1048576
  · exact Evpos (decide_eq_true hbig) (Ev.now _)
  refine Evneg (by simpa using hbig) ?_
  have hb : l0.length < 4611686018427387904 := by omega
  obtain ⟨s, es, hs⟩ := DrawPlaceRead_f l0 hb
  obtain ⟨r, hr, ir⟩ := spec_PlaceRead_f s (by omega)
  obtain ⟨r', hr', ir'⟩ := impl_PlaceRead_f s (by omega)
  obtain rfl := ir'.same ir
  refine Evbind es (Evbind (Evconst hr') (Evbind hr (Evneg (by simp) ?_)))
  by_cases hk : r'.2 = true
  · obtain ⟨p, t⟩ := ir.yes hk
    have wx := place_wf p
    have hbd := (placeOk_iff _).1 p
    have he : epochOf r'.1 = r'.1 / 4294967296 := by rw [epochOf, if_pos p]
    have ho : offOf r'.1 = r'.1 % 4294967296 := by rw [offOf, if_pos p]
    have w1 : wrap64 (offOf r'.1 - 1) = offOf r'.1 - 1 := w64 (by omega) (by omega)
    have w2 : wrap64 (epochOf r'.1 - 1) = epochOf r'.1 - 1 := w64 (by omega) (by omega)
    have fin : ∀ x y z : Int, x / 4294967296 = z / 4294967296 → x % 4294967296 < z % 4294967296 → x < z := fun x y z _ _ => by omega
    have l1 : (mkP (epochOf r'.1) (offOf r'.1 - 1)).2 = true → (mkP (epochOf r'.1) (offOf r'.1 - 1)).1 < r'.1 := fun h => by
      have hc := mkP_yes h
      rw [mkP_place hc, he, ho]; dsimp only; omega
    have l2 : (mkP (epochOf r'.1 - 1) 60).2 = true → (mkP (epochOf r'.1 - 1) 60).1 < r'.1 := fun h => by
      have hc := mkP_yes h
      rw [mkP_place hc, he]; dsimp only; omega
    refine Evpos hk (Evbind (Evconst (impl_EpochOf_f _ wx)) (Evbind (Evconst (impl_OffOf_f _ wx)) ?_))
    rw [w1]
    refine Evbind (Evconst (impl_PlaceMake_f _ _)) (Evbind (Evconst (impl_EpochOf_f _ wx)) ?_)
    rw [w2]
    refine Evbind (Evconst (impl_PlaceMake_f _ _)) (Evbind (Evconst (impl_PlaceText_f _ wx)) (Evpos (by rw [t]) ?_))
    by_cases h1 : (mkP (epochOf r'.1) (offOf r'.1 - 1)).2 = true
    · refine Evpos h1 (Evpos (l1 h1) ?_)
      by_cases h2 : (mkP (epochOf r'.1 - 1) 60).2 = true
      · exact Evpos h2 (Evto (decide_eq_true (l2 h2)) (Ev.now _))
      · exact Evneg h2 (Ev.now _)
    · refine Evneg h1 ?_
      by_cases h2 : (mkP (epochOf r'.1 - 1) 60).2 = true
      · exact Evpos h2 (Evto (decide_eq_true (l2 h2)) (Ev.now _))
      · exact Evneg h2 (Ev.now _)
  · have := ir.no (by simpa using hk)
    exact Evneg hk (Evto (r := (r'.1 == 0)) (by rw [this]; rfl) (Ev.now _))

end Go.Proofs.YtlmmbmhambkjlaaDoor.Pure
