/- The program's PlaceText and the reference's give the same text at every number. Conditions: none beyond the given statement. -/
import Derived.Test.YtlmmbmhambkjlaaDoorMFnExactPlaceTextx1
import Derived.OpenShut
import Derived.Laws.BitsLemmas
namespace Go.Proofs.YtlmmbmhambkjlaaDoor.Pure
open Go.RowKit Go.Proofs.YtlmmbmhambkjlaaDoor.PFnExactPlaceText Go.Proofs.YtlmmbmhambkjlaaDoorW.PrintWords Go.Proofs.YtlmmbmhambkjlaaDoorW.PrintLast Go.Proofs.YtlmmbmhambkjlaaDoorW.PrintMore
set_option linter.unusedVariables false
set_option linter.unusedSimpArgs false
/-! base -/
theorem w64 {n : Int} (h : -9223372036854775808 ≤ n) (h2 : n ≤ 9223372036854775807) : wrap64 n = n := by unfold wrap64; omega
theorem wsucc (i : Nat) (h : i < 4611686018427387904) : wrap64 ((i : Int) + 1) = ((i + 1 : Nat) : Int) := by unfold wrap64; omega
theorem wf64 {n : Int} (h : (Lit.int .i64 n).wf = true) : -9223372036854775808 ≤ n ∧ n ≤ 9223372036854775807 := bounds_i64 h
theorem Evpos {α : Type} {c : Prop} [Decidable c] {a b : Nat → Option α} {r : α} (h : c) (e : Ev a r) : Ev (fun k => if c then a k else b k) r := Ev.congr (fun _ => if_pos h) e
theorem Evneg {α : Type} {c : Prop} [Decidable c] {a b : Nat → Option α} {r : α} (h : ¬ c) (e : Ev b r) : Ev (fun k => if c then a k else b k) r := Ev.congr (fun _ => if_neg h) e
theorem Evsome {α β : Type} {a : α} {f : Nat → α → Option β} {r : β} (e : Ev (fun k => f k a) r) : Ev (fun k => (some a).bind (f k)) r := e
theorem Evbind {α β : Type} {g : Nat → Option α} {f : Nat → α → Option β} {a : α} {r : β} (h : Ev g a) (e : Ev (fun n => f n a) r) : Ev (fun n => (g n).bind (f n)) r := Ev.bind h e
theorem Evconst {α : Type} {g : Option α} {r : α} (h : g = some r) : Ev (fun _ => g) r := ⟨0, fun _ _ => h⟩
theorem Evto {α : Type} {g : Nat → Option α} {r r' : α} (h : r = r') (e : Ev g r) : Ev g r' := h ▸ e
theorem rd_nat (xs : List Int) (i : Nat) : rd xs (i : Int) = xs.getD i 0 := by simp [rd]
theorem getD_get (xs : List Int) (i : Nat) (h : i < xs.length) : xs.getD i 0 = xs[i] := by simp [List.getD_eq_getElem?_getD, List.getElem?_eq_getElem h]
theorem get_getD (xs : List Int) (i : Nat) (h : i < xs.length) : xs[i]? = some (xs.getD i 0) := by simp [List.getD_eq_getElem?_getD, List.getElem?_eq_getElem h]
theorem wf_getD {kd : IntKind} (xs : List Int) (hw : ∀ x ∈ xs, (Lit.int kd x).wf = true) (i : Nat) (h : i < xs.length) : (Lit.int kd (xs.getD i 0)).wf = true := by
  rw [getD_get xs i h]; exact hw _ (List.getElem_mem h)
theorem wf_iff (k : IntKind) (n : Int) : (Lit.int k n).wf = true ↔ k.min ≤ n ∧ n ≤ k.max := by simp [Lit.wf]
theorem wf8 {n : Int} (h : (Lit.int .u8 n).wf = true) : 0 ≤ n ∧ n ≤ 255 := by
  have := (wf_iff .u8 n).1 h
  simpa [IntKind.min, IntKind.max, IntKind.bits, IntKind.signed] using this
theorem wf_mk8 {n : Int} (h : 0 ≤ n) (h2 : n ≤ 255) : (Lit.int .u8 n).wf = true :=
  (wf_iff .u8 n).2 (by simp [IntKind.min, IntKind.max, IntKind.bits, IntKind.signed]; omega)
theorem wf_mk64 {n : Int} (h : -9223372036854775808 ≤ n) (h2 : n ≤ 9223372036854775807) : (Lit.int .i64 n).wf = true :=
  (wf_iff .i64 n).2 (by simp [IntKind.min, IntKind.max, IntKind.bits, IntKind.signed]; omega)
theorem drop_at (b : List Int) (j : Nat) (h : j < b.length) : b.drop j = b.getD j 0 :: b.drop (j + 1) := by
  rw [List.drop_eq_getElem_cons h, getD_get b j h]
theorem p63 : (2 : Int) ^ 63 = 9223372036854775808 := by decide
theorem p1289 : (128 : Nat) ^ 9 = 9223372036854775808 := by decide
theorem p27 : (2 : Int) ^ 7 = 128 := by decide
theorem natpos (i : Nat) : ((i : Int) > 0) ↔ 0 < i := by omega

/-! numb -/
noncomputable def numB (n : Nat) : ByteArray := ⟨(Lib.decDigits n).toArray⟩
theorem ba_ext {a b : ByteArray} (h : a.data.toList = b.data.toList) : a = b := by
  cases a; cases b; simp only [ByteArray.mk.injEq]; exact Array.toList_inj.1 h
theorem ba_app (a b : ByteArray) : (a ++ b).data.toList = a.data.toList ++ b.data.toList := by simp [ByteArray.data_append]
theorem son_data (xs : List Int) : (strOfNums xs).data.toList = xs.map (fun x => UInt8.ofNat x.toNat) := by unfold strOfNums; simp only [List.toList_toArray]
theorem numB_small {n : Nat} (h : n < 10) : (numB n).data.toList = [UInt8.ofNat (48 + n)] := by
  unfold numB; rw [Lib.decDigits, dif_pos h]
theorem numB_big {n : Nat} (h : ¬ n < 10) : (numB n).data.toList = (numB (n / 10)).data.toList ++ [UInt8.ofNat (48 + n % 10)] := by
  unfold numB; rw [Lib.decDigits, dif_neg h]
theorem numB_size {n : Nat} (h : n < 100) : 1 ≤ (numB n).size ∧ (numB n).size ≤ 2 := by
  have hs : (numB n).size = (numB n).data.toList.length := rfl
  rw [hs]
  by_cases h1 : n < 10
  · rw [numB_small h1]; simp
  · rw [numB_big h1, numB_small (show n / 10 < 10 by omega), List.length_append, List.length_singleton, List.length_singleton]; omega
theorem digit_eq (n : Nat) (h : n < 4611686018427387904) : (wrap64 (48 + Int.tmod (n : Int) 10)) % 256 = ((48 + n % 10 : Nat) : Int) := by
  rw [Int.tmod_eq_emod_of_nonneg (by omega), w64 (by omega) (by omega)]; omega
theorem tdiv10 (n : Nat) (h : n < 4611686018427387904) : wrap64 (Int.tdiv (n : Int) 10) = ((n / 10 : Nat) : Int) := by
  rw [Int.tdiv_eq_ediv_of_nonneg (by omega), w64 (by omega) (by omega)]; omega

/-! placem -/
def placeOk (x : Int) : Bool := decide (4294967296 ≤ x ∧ x / 4294967296 ≤ 30 ∧ 1 ≤ x % 4294967296 ∧ x % 4294967296 ≤ 60)
theorem tdm (x : Int) : (0 ≤ x ∧ Int.tdiv x 4294967296 = x / 4294967296 ∧ Int.tmod x 4294967296 = x % 4294967296) ∨ (x < 0 ∧ Int.tdiv x 4294967296 ≤ 0 ∧ x ≤ Int.tdiv x 4294967296 ∧ Int.tmod x 4294967296 ≤ 0) := by
  by_cases h : 0 ≤ x
  · exact .inl ⟨h, Int.tdiv_eq_ediv_of_nonneg h, Int.tmod_eq_emod_of_nonneg h⟩
  · refine .inr ⟨by omega, ?_⟩
    obtain ⟨y, rfl⟩ : ∃ y, x = -y := ⟨-x, by omega⟩
    rw [Int.neg_tdiv, Int.neg_tmod, Int.tdiv_eq_ediv_of_nonneg (by omega), Int.tmod_eq_emod_of_nonneg (by omega)]
    omega
theorem placeOk_iff (x : Int) : placeOk x = true ↔ (4294967296 ≤ x ∧ x / 4294967296 ≤ 30 ∧ 1 ≤ x % 4294967296 ∧ x % 4294967296 ≤ 60) := by simp [placeOk]
theorem placeOk_div (x : Int) (h : placeOk x = true) : wrap64 (Int.tdiv x 4294967296) = x / 4294967296 := by
  have := (placeOk_iff x).1 h
  rw [Int.tdiv_eq_ediv_of_nonneg (by omega), w64 (by omega) (by omega)]
theorem placeOk_mod (x : Int) (h : placeOk x = true) : Int.tmod x 4294967296 = x % 4294967296 := by
  have := (placeOk_iff x).1 h
  rw [Int.tmod_eq_emod_of_nonneg (by omega)]

/-! epochm -/
def epochOf (x : Int) : Int := if placeOk x = true then x / 4294967296 else 0
theorem epochOf_bd (x : Int) : 0 ≤ epochOf x ∧ epochOf x ≤ 30 := by
  unfold epochOf
  by_cases hp : placeOk x = true
  · have := (placeOk_iff x).1 hp; rw [if_pos hp]; omega
  · rw [if_neg hp]; omega

/-! offm -/
def offOf (x : Int) : Int := if placeOk x = true then x % 4294967296 else 0

/-! ptext -/
noncomputable def placeText (x : Int) : ByteArray := if placeOk x = true then ((((⟨#[101]⟩ : ByteArray) ++ numB (epochOf x).toNat) ++ (⟨#[46]⟩ : ByteArray)) ++ numB (offOf x).toNat) else (⟨#[]⟩ : ByteArray)
theorem place_parts {x : Int} (h : placeOk x = true) : 0 < (epochOf x).toNat ∧ (epochOf x).toNat < 100 ∧ ((epochOf x).toNat : Int) = epochOf x ∧ 0 < (offOf x).toNat ∧ (offOf x).toNat < 100 ∧ ((offOf x).toNat : Int) = offOf x := by
  have hb := (placeOk_iff x).1 h
  have he : epochOf x = x / 4294967296 := by rw [epochOf, if_pos h]
  have ho : offOf x = x % 4294967296 := by rw [offOf, if_pos h]
  omega
theorem ptext_sizes {a b : Nat} (ha : a < 100) (hb : b < 100) : 1 + (numB a).size ≤ 9223372036854775807 ∧ ((⟨#[101]⟩ : ByteArray) ++ numB a).size + 1 ≤ 9223372036854775807 ∧ (((⟨#[101]⟩ : ByteArray) ++ numB a) ++ (⟨#[46]⟩ : ByteArray)).size + (numB b).size ≤ 9223372036854775807 := by
  have h1 := numB_size ha
  have h2 := numB_size hb
  have e1 : (⟨#[101]⟩ : ByteArray).size = 1 := rfl
  have e2 : (⟨#[46]⟩ : ByteArray).size = 1 := rfl
  simp only [ByteArray.size_append, e1, e2]
  omega

/-! snum -/
theorem l1Num_l0 : ∀ (d n : Nat) (acc : ByteArray), n ≤ d → n < 1000000 → acc.size + n ≤ 1000000 → Ev (fun k => spec_l1Num.l0 k (n : Int) acc) (if n = 0 then acc else numB n ++ acc) := by
  intro d
  induction d with
  | zero =>
    intro n acc hd _ _
    obtain rfl : n = 0 := by omega
    exact Ev.step (f := fun _ => some acc) (fun k => by rw [spec_l1Num.l0, if_neg (by decide)]) (Ev.now _)
  | succ d ih =>
    intro n acc hd hn ha
    by_cases h0 : n = 0
    · subst h0
      exact Ev.step (f := fun _ => some acc) (fun k => by rw [spec_l1Num.l0, if_neg (by decide)]) (Ev.now _)
    · rw [if_neg h0]
      have hpos : (n : Int) > 0 := by omega
      have e1 := digit_eq n (by omega)
      have e2 := tdiv10 n (by omega)
      have hsz : (strOfNums [((48 + n % 10 : Nat) : Int)]).size = 1 := by simp [strOfNums, ByteArray.size]
      have hle : (strOfNums [((48 + n % 10 : Nat) : Int)]).size + acc.size ≤ 9223372036854775807 := by omega
      have hsa : (strOfNums [((48 + n % 10 : Nat) : Int)] ++ acc).size = 1 + acc.size := by rw [ByteArray.size_append, hsz]
      refine Ev.step (f := fun k => spec_l1Num.l0 k ((n / 10 : Nat) : Int) (strOfNums [((48 + n % 10 : Nat) : Int)] ++ acc)) (fun k => by rw [spec_l1Num.l0, if_pos hpos, Option.bind_some, e1, if_pos hle, e2]) (Evto ?_ (ih (n / 10) _ (by omega) (by omega) (by rw [hsa]; omega)))
      by_cases h1 : n < 10
      · rw [if_pos (show n / 10 = 0 by omega)]
        apply ba_ext
        rw [ba_app, ba_app, son_data, numB_small h1, Nat.mod_eq_of_lt h1]
        rfl
      · rw [if_neg (show ¬ n / 10 = 0 by omega)]
        apply ba_ext
        rw [ba_app, ba_app, ba_app, son_data, numB_big h1, List.append_assoc]
        rfl
theorem l1Num_f (n : Nat) (h0 : 0 < n) (hn : n < 1000000) : Ev (fun k => spec_l1Num.f k (n : Int)) (numB n) := by
  refine Ev.congr (f := fun k => spec_l1Num.l0 k (n : Int) (⟨#[]⟩ : ByteArray)) (fun k => by rw [spec_l1Num.f, if_neg (by omega)]) (Evto ?_ (l1Num_l0 n n ⟨#[]⟩ (by omega) hn (by simp [ByteArray.size]; omega)))
  rw [if_neg (by omega)]
  apply ba_ext
  rw [ba_app]; simp

/-! specin -/
theorem spec_l1In_f (a b c : Int) : spec_l1In.f a b c = some (decide (b ≤ a ∧ a ≤ c)) := by
  unfold spec_l1In.f
  by_cases h : a ≥ b
  · rw [if_pos h]; congr 1; exact decide_eq_decide.2 (by omega)
  · rw [if_neg h]; congr 1; symm; exact decide_eq_false (by omega)

/-! splace -/
theorem spec_PlaceOk_f (x : Int) (h : (Lit.int .i64 x).wf = true) : spec_PlaceOk.f x = some (placeOk x) := by
  have hb := wf64 h
  unfold spec_PlaceOk.f
  simp only [spec_l1In_f, Option.bind_some, decide_eq_true_eq]
  have ht := tdm x
  rw [w64 (n := Int.tdiv x 4294967296) (by omega) (by omega)]
  by_cases h1 : x > 0
  · rw [if_pos h1]
    by_cases h2 : 1 ≤ Int.tdiv x 4294967296 ∧ Int.tdiv x 4294967296 ≤ 30
    · rw [if_pos h2]; congr 1; exact decide_eq_decide.2 (by omega)
    · rw [if_neg h2]; congr 1; symm; exact decide_eq_false (by omega)
  · rw [if_neg h1]; congr 1; symm; exact decide_eq_false (by omega)

/-! sepoch -/
theorem spec_EpochOf_f (x : Int) (h : (Lit.int .i64 x).wf = true) : spec_EpochOf.f x = some (epochOf x) := by
  unfold spec_EpochOf.f epochOf
  rw [spec_PlaceOk_f x h, Option.bind_some]
  by_cases hp : placeOk x = true
  · rw [if_pos hp, if_pos hp, placeOk_div x hp]
  · rw [if_neg hp, if_neg hp]

/-! soff -/
theorem spec_OffOf_f (x : Int) (h : (Lit.int .i64 x).wf = true) : spec_OffOf.f x = some (offOf x) := by
  unfold spec_OffOf.f offOf
  rw [spec_PlaceOk_f x h, Option.bind_some]
  by_cases hp : placeOk x = true
  · rw [if_pos hp, if_pos hp, placeOk_mod x hp]
  · rw [if_neg hp, if_neg hp]

/-! sptext -/
theorem spec_PlaceText_f (x : Int) (h : (Lit.int .i64 x).wf = true) : Ev (fun k => spec_PlaceText.f k x) (placeText x) := by
  unfold spec_PlaceText.f placeText
  refine Evbind (Evconst (spec_PlaceOk_f x h)) ?_
  by_cases hp : placeOk x = true
  · obtain ⟨h1, h2, h3, h4, h5, h6⟩ := place_parts hp
    obtain ⟨s1, s2, s3⟩ := ptext_sizes h2 h5
    have n1 := l1Num_f (epochOf x).toNat h1 (by omega)
    have n2 := l1Num_f (offOf x).toNat h4 (by omega)
    rw [h3] at n1
    rw [h6] at n2
    refine Evpos hp (Evto (if_pos hp).symm (Evbind (Evconst (spec_EpochOf_f x h)) (Evbind n1 (Evpos s1 (Evpos s2 (Evbind (Evconst (spec_OffOf_f x h)) (Evbind n2 (Evpos s3 (Ev.now _)))))))))
  · exact Evneg hp (Evto (if_neg hp).symm (Ev.now _))

/-! within -/
theorem impl_within_f (a b c : Int) : impl_within.f a b c = some (decide (b ≤ a ∧ a ≤ c)) := by
  unfold impl_within.f
  by_cases h : a ≥ b
  · rw [if_pos h]; congr 1; exact decide_eq_decide.2 (by omega)
  · rw [if_neg h]; congr 1; symm; exact decide_eq_false (by omega)

/-! isep -/
theorem impl_isEpoch_f (a : Int) : impl_isEpoch.f a = some (decide (1 ≤ a ∧ a ≤ 30)) := by
  unfold impl_isEpoch.f; rw [impl_within_f]; rfl
theorem impl_isOff_f (a : Int) : impl_isOff.f a = some (decide (1 ≤ a ∧ a ≤ 60)) := by
  unfold impl_isOff.f; rw [impl_within_f]; rfl

/-! iplace -/
theorem impl_PlaceOk_f (x : Int) (h : (Lit.int .i64 x).wf = true) : impl_PlaceOk.f x = some (placeOk x) := by
  have hb := wf64 h
  unfold impl_PlaceOk.f
  simp only [impl_isEpoch_f, impl_isOff_f, Option.bind_some, decide_eq_true_eq]
  have ht := tdm x
  rw [w64 (n := Int.tdiv x 4294967296) (by omega) (by omega)]
  by_cases h2 : 1 ≤ Int.tdiv x 4294967296 ∧ Int.tdiv x 4294967296 ≤ 30
  · rw [if_pos h2]; congr 1; exact decide_eq_decide.2 (by omega)
  · rw [if_neg h2]; congr 1; symm; exact decide_eq_false (by omega)

/-! iepoch -/
theorem impl_EpochOf_f (x : Int) (h : (Lit.int .i64 x).wf = true) : impl_EpochOf.f x = some (epochOf x) := by
  unfold impl_EpochOf.f epochOf
  rw [impl_PlaceOk_f x h, Option.bind_some]
  by_cases hp : placeOk x = true
  · rw [if_pos hp, if_pos hp, placeOk_div x hp]
  · rw [if_neg hp, if_neg hp]

/-! ioff -/
theorem impl_OffOf_f (x : Int) (h : (Lit.int .i64 x).wf = true) : impl_OffOf.f x = some (offOf x) := by
  unfold impl_OffOf.f offOf
  rw [impl_PlaceOk_f x h, Option.bind_some]
  by_cases hp : placeOk x = true
  · rw [if_pos hp, if_pos hp, placeOk_mod x hp]
  · rw [if_neg hp, if_neg hp]

/-! iptext -/
theorem impl_digits_f (n : Nat) (h : n < 100) : impl_digits.f (n : Int) = some (numB n) := by
  unfold impl_digits.f numB
  rw [if_pos ⟨by omega, by omega⟩, Int.toNat_natCast]
theorem impl_PlaceText_f (x : Int) (h : (Lit.int .i64 x).wf = true) : impl_PlaceText.f x = some (placeText x) := by
  unfold impl_PlaceText.f placeText
  rw [impl_PlaceOk_f x h, Option.bind_some]
  by_cases hp : placeOk x = true
  · obtain ⟨h1, h2, h3, h4, h5, h6⟩ := place_parts hp
    obtain ⟨s1, s2, s3⟩ := ptext_sizes h2 h5
    have n1 := impl_digits_f (epochOf x).toNat h2
    have n2 := impl_digits_f (offOf x).toNat h5
    rw [h3] at n1
    rw [h6] at n2
    rw [if_pos hp, if_pos hp, impl_EpochOf_f x h, Option.bind_some, n1, Option.bind_some, if_pos s1, if_pos s2, impl_OffOf_f x h, Option.bind_some, n2, Option.bind_some, if_pos s3]
  · rw [if_neg hp, if_neg hp]

theorem FnExactPlaceText (a0 : Int) (ha0 : (Lit.int .i64 a0).wf = true) : ∃ k, laws_FnExactPlaceText.f k a0 = some true := by
  refine Ev.rounds (g := fun k => laws_FnExactPlaceText.f k a0) ?_
  unfold laws_FnExactPlaceText.f
  exact Evbind (spec_PlaceText_f a0 ha0) (Evbind (Evconst (impl_PlaceText_f a0 ha0)) (Evpos rfl (Ev.now _)))

end Go.Proofs.YtlmmbmhambkjlaaDoor.Pure
