/- The program's OffOf and the reference's answer alike at every number. Conditions: none beyond the given statement. -/
import Derived.Test.YtckjofnldacpaaaPFnExactOffOfx1
import Derived.OpenShut
import Derived.Laws.BitsLemmas
namespace Go.Proofs.Ytckjofnldacpaaa.Pure
open Go.RowKit Go.Proofs.Ytckjofnldacpaaa.PFnExactOffOf Go.Proofs.YtckjofnldacpaaaW.PrintWords Go.Proofs.YtckjofnldacpaaaW.PrintLast Go.Proofs.YtckjofnldacpaaaW.PrintMore
set_option linter.unusedVariables false
set_option linter.unusedSimpArgs false
/-! base -/
theorem w64 {n : Int} (h : -9223372036854775808 ≤ n) (h2 : n ≤ 9223372036854775807) : wrap64 n = n := by unfold wrap64; omega
theorem wsucc (i : Nat) (h : i < 4611686018427387904) : wrap64 ((i : Int) + 1) = ((i + 1 : Nat) : Int) := by unfold wrap64; omega
theorem wf64 {n : Int} (h : (Lit.int .i64 n).wf = true) : -9223372036854775808 ≤ n ∧ n ≤ 9223372036854775807 := bounds_i64 h
theorem Evpos {α : Type} {c : Prop} [Decidable c] {a b : Nat → Option α} {r : α} (h : c) (e : Ev a r) : Ev (fun k => if c then a k else b k) r := Ev.congr (fun _ => if_pos h) e
theorem Evneg {α : Type} {c : Prop} [Decidable c] {a b : Nat → Option α} {r : α} (h : ¬ c) (e : Ev b r) : Ev (fun k => if c then a k else b k) r := Ev.congr (fun _ => if_neg h) e
theorem Evsome {α β : Type} {a : α} {f : Nat → α → Option β} {r : β} (e : Ev (fun k => f k a) r) : Ev (fun k => (some a).bind (f k)) r := e
theorem Evbind {α β : Type} {g : Nat → Option α} {f : Nat → α → Option β} {a : α} {r : β} (h : Ev g a) (e : Ev (fun n => f n a) r) : Ev (fun n => (g n).bind (f n)) r := Ev.bind h e
theorem Evconst {α : Type} {g : Option α} {r : α} (h : g = some r) : Ev (fun _ => g) r := ⟨0, fun _ _ => h⟩
theorem Evto {α : Type} {g : Nat → Option α} {r r' : α} (h : r = r') (e : Ev g r) : Ev g r' := h ▸ e
theorem rd_nat (xs : List Int) (i : Nat) : rd xs (i : Int) = xs.getD i 0 := by simp [rd]
theorem getD_get (xs : List Int) (i : Nat) (h : i < xs.length) : xs.getD i 0 = xs[i] := by simp [List.getD_eq_getElem?_getD, List.getElem?_eq_getElem h]
theorem get_getD (xs : List Int) (i : Nat) (h : i < xs.length) : xs[i]? = some (xs.getD i 0) := by simp [List.getD_eq_getElem?_getD, List.getElem?_eq_getElem h]
theorem wf_getD {kd : IntKind} (xs : List Int) (hw : ∀ x ∈ xs, (Lit.int kd x).wf = true) (i : Nat) (h : i < xs.length) : (Lit.int kd (xs.getD i 0)).wf = true := by
  rw [getD_get xs i h]; exact hw _ (List.getElem_mem h)
theorem wf_iff (k : IntKind) (n : Int) : (Lit.int k n).wf = true ↔ k.min ≤ n ∧ n ≤ k.max := by simp [Lit.wf]
theorem wf8 {n : Int} (h : (Lit.int .u8 n).wf = true) : 0 ≤ n ∧ n ≤ 255 := by
  have := (wf_iff .u8 n).1 h
  simpa [IntKind.min, IntKind.max, IntKind.bits, IntKind.signed] using this
theorem wf_mk8 {n : Int} (h : 0 ≤ n) (h2 : n ≤ 255) : (Lit.int .u8 n).wf = true :=
  (wf_iff .u8 n).2 (by simp [IntKind.min, IntKind.max, IntKind.bits, IntKind.signed]; omega)
theorem wf_mk64 {n : Int} (h : -9223372036854775808 ≤ n) (h2 : n ≤ 9223372036854775807) : (Lit.int .i64 n).wf = true :=
  (wf_iff .i64 n).2 (by simp [IntKind.min, IntKind.max, IntKind.bits, IntKind.signed]; omega)

/-! specin -/
theorem spec_l1In_f (a b c : Int) : spec_l1In.f a b c = some (decide (b ≤ a ∧ a ≤ c)) := by
  unfold spec_l1In.f
  by_cases h : a ≥ b
  · rw [if_pos h]; congr 1; exact decide_eq_decide.2 (by omega)
  · rw [if_neg h]; congr 1; symm; exact decide_eq_false (by omega)

/-! within -/
theorem impl_within_f (a b c : Int) : impl_within.f a b c = some (decide (b ≤ a ∧ a ≤ c)) := by
  unfold impl_within.f
  by_cases h : a ≥ b
  · rw [if_pos h]; congr 1; exact decide_eq_decide.2 (by omega)
  · rw [if_neg h]; congr 1; symm; exact decide_eq_false (by omega)

/-! isep -/
theorem impl_isEpoch_f (a : Int) : impl_isEpoch.f a = some (decide (1 ≤ a ∧ a ≤ 30)) := by
  unfold impl_isEpoch.f; rw [impl_within_f]; rfl
theorem impl_isOff_f (a : Int) : impl_isOff.f a = some (decide (1 ≤ a ∧ a ≤ 60)) := by
  unfold impl_isOff.f; rw [impl_within_f]; rfl

/-! placem -/
def placeOk (x : Int) : Bool := decide (4294967296 ≤ x ∧ x / 4294967296 ≤ 30 ∧ 1 ≤ x % 4294967296 ∧ x % 4294967296 ≤ 60)
theorem tdm (x : Int) : (0 ≤ x ∧ Int.tdiv x 4294967296 = x / 4294967296 ∧ Int.tmod x 4294967296 = x % 4294967296) ∨ (x < 0 ∧ Int.tdiv x 4294967296 ≤ 0 ∧ x ≤ Int.tdiv x 4294967296 ∧ Int.tmod x 4294967296 ≤ 0) := by
  by_cases h : 0 ≤ x
  · exact .inl ⟨h, Int.tdiv_eq_ediv_of_nonneg h, Int.tmod_eq_emod_of_nonneg h⟩
  · refine .inr ⟨by omega, ?_⟩
    obtain ⟨y, rfl⟩ : ∃ y, x = -y := ⟨-x, by omega⟩
    rw [Int.neg_tdiv, Int.neg_tmod, Int.tdiv_eq_ediv_of_nonneg (by omega), Int.tmod_eq_emod_of_nonneg (by omega)]
    omega
theorem placeOk_iff (x : Int) : placeOk x = true ↔ (4294967296 ≤ x ∧ x / 4294967296 ≤ 30 ∧ 1 ≤ x % 4294967296 ∧ x % 4294967296 ≤ 60) := by simp [placeOk]
theorem placeOk_div (x : Int) (h : placeOk x = true) : wrap64 (Int.tdiv x 4294967296) = x / 4294967296 := by
  have := (placeOk_iff x).1 h
  rw [Int.tdiv_eq_ediv_of_nonneg (by omega), w64 (by omega) (by omega)]
theorem placeOk_mod (x : Int) (h : placeOk x = true) : Int.tmod x 4294967296 = x % 4294967296 := by
  have := (placeOk_iff x).1 h
  rw [Int.tmod_eq_emod_of_nonneg (by omega)]

/-! splace -/
theorem spec_PlaceOk_f (x : Int) (h : (Lit.int .i64 x).wf = true) : spec_PlaceOk.f x = some (placeOk x) := by
  have hb := wf64 h
  unfold spec_PlaceOk.f
  simp only [spec_l1In_f, Option.bind_some, decide_eq_true_eq]
  have ht := tdm x
  rw [w64 (n := Int.tdiv x 4294967296) (by omega) (by omega)]
  by_cases h1 : x > 0
  · rw [if_pos h1]
    by_cases h2 : 1 ≤ Int.tdiv x 4294967296 ∧ Int.tdiv x 4294967296 ≤ 30
    · rw [if_pos h2]; congr 1; exact decide_eq_decide.2 (by omega)
    · rw [if_neg h2]; congr 1; symm; exact decide_eq_false (by omega)
  · rw [if_neg h1]; congr 1; symm; exact decide_eq_false (by omega)

/-! iplace -/
theorem impl_PlaceOk_f (x : Int) (h : (Lit.int .i64 x).wf = true) : impl_PlaceOk.f x = some (placeOk x) := by
  have hb := wf64 h
  unfold impl_PlaceOk.f
  simp only [impl_isEpoch_f, impl_isOff_f, Option.bind_some, decide_eq_true_eq]
  have ht := tdm x
  rw [w64 (n := Int.tdiv x 4294967296) (by omega) (by omega)]
  by_cases h2 : 1 ≤ Int.tdiv x 4294967296 ∧ Int.tdiv x 4294967296 ≤ 30
  · rw [if_pos h2]; congr 1; exact decide_eq_decide.2 (by omega)
  · rw [if_neg h2]; congr 1; symm; exact decide_eq_false (by omega)

/-! offm -/
def offOf (x : Int) : Int := if placeOk x = true then x % 4294967296 else 0

/-! soff -/
theorem spec_OffOf_f (x : Int) (h : (Lit.int .i64 x).wf = true) : spec_OffOf.f x = some (offOf x) := by
  unfold spec_OffOf.f offOf
  rw [spec_PlaceOk_f x h, Option.bind_some]
  by_cases hp : placeOk x = true
  · rw [if_pos hp, if_pos hp, placeOk_mod x hp]
  · rw [if_neg hp, if_neg hp]

/-! ioff -/
theorem impl_OffOf_f (x : Int) (h : (Lit.int .i64 x).wf = true) : impl_OffOf.f x = some (offOf x) := by
  unfold impl_OffOf.f offOf
  rw [impl_PlaceOk_f x h, Option.bind_some]
  by_cases hp : placeOk x = true
  · rw [if_pos hp, if_pos hp, placeOk_mod x hp]
  · rw [if_neg hp, if_neg hp]

theorem FnExactOffOf : laws_FnExactOffOf.Pure := by
  intro x hx
  unfold laws_FnExactOffOf.f
  rw [spec_OffOf_f x hx, Option.bind_some, impl_OffOf_f x hx, Option.bind_some, if_pos rfl]

end Go.Proofs.Ytckjofnldacpaaa.Pure
