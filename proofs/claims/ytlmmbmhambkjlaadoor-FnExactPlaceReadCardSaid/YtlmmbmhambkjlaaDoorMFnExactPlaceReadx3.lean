-- What each Go function that this law reaches comes to: written by a program out of the translation.
import Derived.Test.YtlmmbmhambkjlaaDoorMFnExactPlaceReadx0
import Derived.Test.YtlmmbmhambkjlaaDoorMFnExactPlaceReadx1
import Derived.Test.YtlmmbmhambkjlaaDoorMFnExactPlaceReadx2
namespace Go.Proofs.YtlmmbmhambkjlaaDoor.PFnExactPlaceRead
open Go.RowKit Go.Proofs.YtlmmbmhambkjlaaDoorW.PrintWords Go.Proofs.YtlmmbmhambkjlaaDoorW.PrintLast Go.Proofs.YtlmmbmhambkjlaaDoorW.PrintMore
attribute [local go_sem] max2_int min2_int max_two min_two max_three min_three max_four min_four   -- for this text's walks alone
set_option linter.unusedVariables false
set_option linter.unusedSimpArgs false

/-! ### impl_PlaceRead: function 10 -/
noncomputable def impl_PlaceRead.f (a0 : ByteArray) : Option (Int × Bool) := (strings_TrimPrefix.f a0 (⟨#[101]⟩ : ByteArray)).bind fun t137 => ((strings_Cut.f t137 (⟨#[46]⟩ : ByteArray)).bind fun bt138 => ((impl_readDigits.f bt138.1 2).bind fun bt141 => ((impl_readDigits.f bt138.2.1 2).bind fun bt143 => ((impl_PlaceMake.f bt141.1 bt143.1).bind fun bt145 => (if bt141.2 = true then (if bt143.2 = true then (if bt145.2 = true then ((impl_PlaceText.f bt145.1).bind fun t147 => (if t147.toList = a0.toList then (some (bt145.1, true)) else (some (0, false)))) else (some (0, false))) else (some (0, false))) else (some (0, false)))))))
set_option maxHeartbeats 8000000 in
set_option maxRecDepth 100000 in
theorem impl_PlaceRead.calls (a0 : ByteArray) (r1 : Int) (r2 : Bool) (w : World) (h : impl_PlaceRead.f a0 = some (r1, r2)) (hGl : Gl w) :
  Calls Tryd.prog 10 #[.string a0] w fun e w' => e = .returned (.tuple #[.int .i64 r1, .bool r2]) ∧ Below w.heap.size w w' := by
 have HB := Aside0.mk (Below.refl w.heap.size w)
 have H : ((strings_TrimPrefix.f a0 (⟨#[101]⟩ : ByteArray)).bind fun t137 => ((strings_Cut.f t137 (⟨#[46]⟩ : ByteArray)).bind fun bt138 => ((impl_readDigits.f bt138.1 2).bind fun bt141 => ((impl_readDigits.f bt138.2.1 2).bind fun bt143 => ((impl_PlaceMake.f bt141.1 bt143.1).bind fun bt145 => (if bt141.2 = true then (if bt143.2 = true then (if bt145.2 = true then ((impl_PlaceText.f bt145.1).bind fun t147 => (if t147.toList = a0.toList then (some (bt145.1, true)) else (some (0, false)))) else (some (0, false))) else (some (0, false))) else (some (0, false)))))))) = some (r1, r2) := h
 clear h
 replace H := Option.bind_eq_some_iff.mp H
 obtain ⟨t137, A20, H⟩ := H
 replace H : ((strings_Cut.f t137 (⟨#[46]⟩ : ByteArray)).bind fun bt138 => ((impl_readDigits.f bt138.1 2).bind fun bt141 => ((impl_readDigits.f bt138.2.1 2).bind fun bt143 => ((impl_PlaceMake.f bt141.1 bt143.1).bind fun bt145 => (if bt141.2 = true then (if bt143.2 = true then (if bt145.2 = true then ((impl_PlaceText.f bt145.1).bind fun t147 => (if t147.toList = a0.toList then (some (bt145.1, true)) else (some (0, false)))) else (some (0, false))) else (some (0, false))) else (some (0, false))))))) = some (r1, r2) := H
 have A2 := Aside0.mk A20
 clear A20
 replace H := Option.bind_eq_some_iff.mp H
 obtain ⟨⟨t138, t139, t140⟩, A30, H⟩ := H
 replace H : ((impl_readDigits.f t138 2).bind fun bt141 => ((impl_readDigits.f t139 2).bind fun bt143 => ((impl_PlaceMake.f bt141.1 bt143.1).bind fun bt145 => (if bt141.2 = true then (if bt143.2 = true then (if bt145.2 = true then ((impl_PlaceText.f bt145.1).bind fun t147 => (if t147.toList = a0.toList then (some (bt145.1, true)) else (some (0, false)))) else (some (0, false))) else (some (0, false))) else (some (0, false)))))) = some (r1, r2) := H
 have A3 := Aside0.mk A30
 clear A30
 replace H := Option.bind_eq_some_iff.mp H
 obtain ⟨⟨t141, t142⟩, A40, H⟩ := H
 replace H : ((impl_readDigits.f t139 2).bind fun bt143 => ((impl_PlaceMake.f t141 bt143.1).bind fun bt145 => (if t142 = true then (if bt143.2 = true then (if bt145.2 = true then ((impl_PlaceText.f bt145.1).bind fun t147 => (if t147.toList = a0.toList then (some (bt145.1, true)) else (some (0, false)))) else (some (0, false))) else (some (0, false))) else (some (0, false))))) = some (r1, r2) := H
 have A4 := Aside0.mk A40
 clear A40
 replace H := Option.bind_eq_some_iff.mp H
 obtain ⟨⟨t143, t144⟩, A50, H⟩ := H
 replace H : ((impl_PlaceMake.f t141 t143).bind fun bt145 => (if t142 = true then (if t144 = true then (if bt145.2 = true then ((impl_PlaceText.f bt145.1).bind fun t147 => (if t147.toList = a0.toList then (some (bt145.1, true)) else (some (0, false)))) else (some (0, false))) else (some (0, false))) else (some (0, false)))) = some (r1, r2) := H
 have A5 := Aside0.mk A50
 clear A50
 replace H := Option.bind_eq_some_iff.mp H
 obtain ⟨⟨t145, t146⟩, A60, H⟩ := H
 replace H : (if t142 = true then (if t144 = true then (if t146 = true then ((impl_PlaceText.f t145).bind fun t147 => (if t147.toList = a0.toList then (some (t145, true)) else (some (0, false)))) else (some (0, false))) else (some (0, false))) else (some (0, false))) = some (r1, r2) := H
 have A6 := Aside0.mk A60
 clear A60
 by_cases c7 : t142 = true
 ·subst c7
  have H1 : (if t144 = true then (if t146 = true then ((impl_PlaceText.f t145).bind fun t147 => (if t147.toList = a0.toList then (some (t145, true)) else (some (0, false)))) else (some (0, false))) else (some (0, false))) = some (r1, r2) := by rw [if_pos rfl] at H; exact H
  clear H
  have H := H1
  clear H1
  by_cases c8 : t144 = true
  ·subst c8
   have H1 : (if t146 = true then ((impl_PlaceText.f t145).bind fun t147 => (if t147.toList = a0.toList then (some (t145, true)) else (some (0, false)))) else (some (0, false))) = some (r1, r2) := by rw [if_pos rfl] at H; exact H
   clear H
   have H := H1
   clear H1
   by_cases c9 : t146 = true
   ·subst c9
    have H1 : ((impl_PlaceText.f t145).bind fun t147 => (if t147.toList = a0.toList then (some (t145, true)) else (some (0, false)))) = some (r1, r2) := by rw [if_pos rfl] at H; exact H
    clear H
    have H := H1
    clear H1
    replace H := Option.bind_eq_some_iff.mp H
    obtain ⟨t147, A100, H⟩ := H
    replace H : (if t147.toList = a0.toList then (some (t145, true)) else (some (0, false))) = some (r1, r2) := H
    have A10 := Aside0.mk A100
    clear A100
    by_cases c11 : t147.toList = a0.toList
    ·rw [if_pos c11] at H
     have c11b0 : (t147.toList == a0.toList) = true := beq_iff_eq.mpr c11
     have c11b1 : (t147.toList != a0.toList) = false := bne_eq_false_iff_eq.mpr c11
     clear c11
     simp only [Option.some.injEq, Prod.mk.injEq] at H
     obtain ⟨rfl, rfl⟩ := H
     go_enter Tryd.func10, Tryd.ntmps10
     go_wp2_with (first | ((with_reducible refine gate_callee (f := 27) rfl ?_); refine goesL_ (some 15) rfl rfl Tryd.func27 (by kernel_rfl) rfl #[.string a0, .string (⟨#[101]⟩ : ByteArray)] rfl KL ?_; (with_reducible refine (strings_TrimPrefix.calls a0 (⟨#[101]⟩ : ByteArray) t137 _ A2.out).mono ?_); rintro e w' ⟨rfl, ⟨nd, rfl⟩⟩; refine ⟨_, rfl, ?_⟩) | ((with_reducible refine gate_callee (f := 26) rfl ?_); refine goesL_ (some 16) rfl rfl Tryd.func26 (by kernel_rfl) rfl #[.string t137, .string (⟨#[46]⟩ : ByteArray)] rfl KL ?_; (with_reducible refine (strings_Cut.calls t137 (⟨#[46]⟩ : ByteArray) t138 t139 t140 _ A3.out (KGl hGl)).mono ?_); rintro e w' ⟨rfl, ⟨nd, rfl⟩⟩; refine ⟨_, rfl, ?_⟩) | ((with_reducible refine gate_callee (f := 28) rfl ?_); refine goesL_ (some 22) rfl rfl Tryd.func28 (by kernel_rfl) rfl #[.string t138, .int .i64 2] rfl KL ?_; (with_reducible refine (impl_readDigits.calls t138 2 t141 true _ A4.out (KGl hGl)).mono ?_); rintro e w12 ⟨rfl, hb⟩; refine ⟨_, rfl, ?_⟩; have n0_ := Aside0.mk (below_step KB hb); clear HB; have HB := n0_; clear n0_; (try clear hb); (try clear hb2); (try clear hk); (try clear hi)) | ((with_reducible refine gate_callee (f := 28) rfl ?_); refine goesL_ (some 27) rfl rfl Tryd.func28 (by kernel_rfl) rfl #[.string t139, .int .i64 2] rfl KL ?_; (with_reducible refine (impl_readDigits.calls t139 2 t143 true _ A5.out (KGl hGl)).mono ?_); rintro e w13 ⟨rfl, hb⟩; refine ⟨_, rfl, ?_⟩; have n0_ := Aside0.mk (below_step KB hb); clear HB; have HB := n0_; clear n0_; (try clear hb); (try clear hb2); (try clear hk); (try clear hi)) | ((with_reducible refine gate_callee (f := 13) rfl ?_); refine goesL_ (some 33) rfl rfl Tryd.func13 (by kernel_rfl) rfl #[.int .i64 t141, .int .i64 t143] rfl KL ?_; (with_reducible refine (impl_PlaceMake.calls t141 t143 t145 true _ A6.out).mono ?_); rintro e w' ⟨rfl, ⟨nd, rfl⟩⟩; refine ⟨_, rfl, ?_⟩) | (go_at_call 8; (with_reducible refine (impl_PlaceText.calls t145 t147 _ A10.out).mono ?_); rintro e w' ⟨rfl, ⟨nd, rfl⟩⟩))
     go_ret2
     exact ⟨KE, KB⟩
    ·rw [if_neg c11] at H
     have c11b0 : (t147.toList == a0.toList) = false := beq_eq_false_iff_ne.mpr c11
     have c11b1 : (t147.toList != a0.toList) = true := bne_iff_ne.mpr c11
     simp only [Option.some.injEq, Prod.mk.injEq] at H
     obtain ⟨rfl, rfl⟩ := H
     go_enter Tryd.func10, Tryd.ntmps10
     go_wp2_with (first | ((with_reducible refine gate_callee (f := 27) rfl ?_); refine goesL_ (some 15) rfl rfl Tryd.func27 (by kernel_rfl) rfl #[.string a0, .string (⟨#[101]⟩ : ByteArray)] rfl KL ?_; (with_reducible refine (strings_TrimPrefix.calls a0 (⟨#[101]⟩ : ByteArray) t137 _ A2.out).mono ?_); rintro e w' ⟨rfl, ⟨nd, rfl⟩⟩; refine ⟨_, rfl, ?_⟩) | ((with_reducible refine gate_callee (f := 26) rfl ?_); refine goesL_ (some 16) rfl rfl Tryd.func26 (by kernel_rfl) rfl #[.string t137, .string (⟨#[46]⟩ : ByteArray)] rfl KL ?_; (with_reducible refine (strings_Cut.calls t137 (⟨#[46]⟩ : ByteArray) t138 t139 t140 _ A3.out (KGl hGl)).mono ?_); rintro e w' ⟨rfl, ⟨nd, rfl⟩⟩; refine ⟨_, rfl, ?_⟩) | ((with_reducible refine gate_callee (f := 28) rfl ?_); refine goesL_ (some 22) rfl rfl Tryd.func28 (by kernel_rfl) rfl #[.string t138, .int .i64 2] rfl KL ?_; (with_reducible refine (impl_readDigits.calls t138 2 t141 true _ A4.out (KGl hGl)).mono ?_); rintro e w14 ⟨rfl, hb⟩; refine ⟨_, rfl, ?_⟩; have n0_ := Aside0.mk (below_step KB hb); clear HB; have HB := n0_; clear n0_; (try clear hb); (try clear hb2); (try clear hk); (try clear hi)) | ((with_reducible refine gate_callee (f := 28) rfl ?_); refine goesL_ (some 27) rfl rfl Tryd.func28 (by kernel_rfl) rfl #[.string t139, .int .i64 2] rfl KL ?_; (with_reducible refine (impl_readDigits.calls t139 2 t143 true _ A5.out (KGl hGl)).mono ?_); rintro e w15 ⟨rfl, hb⟩; refine ⟨_, rfl, ?_⟩; have n0_ := Aside0.mk (below_step KB hb); clear HB; have HB := n0_; clear n0_; (try clear hb); (try clear hb2); (try clear hk); (try clear hi)) | ((with_reducible refine gate_callee (f := 13) rfl ?_); refine goesL_ (some 33) rfl rfl Tryd.func13 (by kernel_rfl) rfl #[.int .i64 t141, .int .i64 t143] rfl KL ?_; (with_reducible refine (impl_PlaceMake.calls t141 t143 t145 true _ A6.out).mono ?_); rintro e w' ⟨rfl, ⟨nd, rfl⟩⟩; refine ⟨_, rfl, ?_⟩) | (go_at_call 8; (with_reducible refine (impl_PlaceText.calls t145 t147 _ A10.out).mono ?_); rintro e w' ⟨rfl, ⟨nd, rfl⟩⟩))
     go_ret2
     exact ⟨KE, KB⟩
   ·replace c9 := Bool.eq_false_iff.mpr c9
    subst c9
    have H1 : (some (0, false)) = some (r1, r2) := by rw [if_neg (show ¬ (false = true) by decide)] at H; exact H
    clear H
    have H := H1
    clear H1
    simp only [Option.some.injEq, Prod.mk.injEq] at H
    obtain ⟨rfl, rfl⟩ := H
    go_enter Tryd.func10, Tryd.ntmps10
    go_wp2_with (first | ((with_reducible refine gate_callee (f := 27) rfl ?_); refine goesL_ (some 15) rfl rfl Tryd.func27 (by kernel_rfl) rfl #[.string a0, .string (⟨#[101]⟩ : ByteArray)] rfl KL ?_; (with_reducible refine (strings_TrimPrefix.calls a0 (⟨#[101]⟩ : ByteArray) t137 _ A2.out).mono ?_); rintro e w' ⟨rfl, ⟨nd, rfl⟩⟩; refine ⟨_, rfl, ?_⟩) | ((with_reducible refine gate_callee (f := 26) rfl ?_); refine goesL_ (some 16) rfl rfl Tryd.func26 (by kernel_rfl) rfl #[.string t137, .string (⟨#[46]⟩ : ByteArray)] rfl KL ?_; (with_reducible refine (strings_Cut.calls t137 (⟨#[46]⟩ : ByteArray) t138 t139 t140 _ A3.out (KGl hGl)).mono ?_); rintro e w' ⟨rfl, ⟨nd, rfl⟩⟩; refine ⟨_, rfl, ?_⟩) | ((with_reducible refine gate_callee (f := 28) rfl ?_); refine goesL_ (some 22) rfl rfl Tryd.func28 (by kernel_rfl) rfl #[.string t138, .int .i64 2] rfl KL ?_; (with_reducible refine (impl_readDigits.calls t138 2 t141 true _ A4.out (KGl hGl)).mono ?_); rintro e w16 ⟨rfl, hb⟩; refine ⟨_, rfl, ?_⟩; have n0_ := Aside0.mk (below_step KB hb); clear HB; have HB := n0_; clear n0_; (try clear hb); (try clear hb2); (try clear hk); (try clear hi)) | ((with_reducible refine gate_callee (f := 28) rfl ?_); refine goesL_ (some 27) rfl rfl Tryd.func28 (by kernel_rfl) rfl #[.string t139, .int .i64 2] rfl KL ?_; (with_reducible refine (impl_readDigits.calls t139 2 t143 true _ A5.out (KGl hGl)).mono ?_); rintro e w17 ⟨rfl, hb⟩; refine ⟨_, rfl, ?_⟩; have n0_ := Aside0.mk (below_step KB hb); clear HB; have HB := n0_; clear n0_; (try clear hb); (try clear hb2); (try clear hk); (try clear hi)) | ((with_reducible refine gate_callee (f := 13) rfl ?_); refine goesL_ (some 33) rfl rfl Tryd.func13 (by kernel_rfl) rfl #[.int .i64 t141, .int .i64 t143] rfl KL ?_; (with_reducible refine (impl_PlaceMake.calls t141 t143 t145 false _ A6.out).mono ?_); rintro e w' ⟨rfl, ⟨nd, rfl⟩⟩; refine ⟨_, rfl, ?_⟩))
    go_ret2
    exact ⟨KE, KB⟩
  ·replace c8 := Bool.eq_false_iff.mpr c8
   subst c8
   have H1 : (some (0, false)) = some (r1, r2) := by rw [if_neg (show ¬ (false = true) by decide)] at H; exact H
   clear H
   have H := H1
   clear H1
   simp only [Option.some.injEq, Prod.mk.injEq] at H
   obtain ⟨rfl, rfl⟩ := H
   go_enter Tryd.func10, Tryd.ntmps10
   go_wp2_with (first | ((with_reducible refine gate_callee (f := 27) rfl ?_); refine goesL_ (some 15) rfl rfl Tryd.func27 (by kernel_rfl) rfl #[.string a0, .string (⟨#[101]⟩ : ByteArray)] rfl KL ?_; (with_reducible refine (strings_TrimPrefix.calls a0 (⟨#[101]⟩ : ByteArray) t137 _ A2.out).mono ?_); rintro e w' ⟨rfl, ⟨nd, rfl⟩⟩; refine ⟨_, rfl, ?_⟩) | ((with_reducible refine gate_callee (f := 26) rfl ?_); refine goesL_ (some 16) rfl rfl Tryd.func26 (by kernel_rfl) rfl #[.string t137, .string (⟨#[46]⟩ : ByteArray)] rfl KL ?_; (with_reducible refine (strings_Cut.calls t137 (⟨#[46]⟩ : ByteArray) t138 t139 t140 _ A3.out (KGl hGl)).mono ?_); rintro e w' ⟨rfl, ⟨nd, rfl⟩⟩; refine ⟨_, rfl, ?_⟩) | ((with_reducible refine gate_callee (f := 28) rfl ?_); refine goesL_ (some 22) rfl rfl Tryd.func28 (by kernel_rfl) rfl #[.string t138, .int .i64 2] rfl KL ?_; (with_reducible refine (impl_readDigits.calls t138 2 t141 true _ A4.out (KGl hGl)).mono ?_); rintro e w18 ⟨rfl, hb⟩; refine ⟨_, rfl, ?_⟩; have n0_ := Aside0.mk (below_step KB hb); clear HB; have HB := n0_; clear n0_; (try clear hb); (try clear hb2); (try clear hk); (try clear hi)) | ((with_reducible refine gate_callee (f := 28) rfl ?_); refine goesL_ (some 27) rfl rfl Tryd.func28 (by kernel_rfl) rfl #[.string t139, .int .i64 2] rfl KL ?_; (with_reducible refine (impl_readDigits.calls t139 2 t143 false _ A5.out (KGl hGl)).mono ?_); rintro e w19 ⟨rfl, hb⟩; refine ⟨_, rfl, ?_⟩; have n0_ := Aside0.mk (below_step KB hb); clear HB; have HB := n0_; clear n0_; (try clear hb); (try clear hb2); (try clear hk); (try clear hi)) | ((with_reducible refine gate_callee (f := 13) rfl ?_); refine goesL_ (some 33) rfl rfl Tryd.func13 (by kernel_rfl) rfl #[.int .i64 t141, .int .i64 t143] rfl KL ?_; (with_reducible refine (impl_PlaceMake.calls t141 t143 t145 t146 _ A6.out).mono ?_); rintro e w' ⟨rfl, ⟨nd, rfl⟩⟩; refine ⟨_, rfl, ?_⟩))
   go_ret2
   exact ⟨KE, KB⟩
 ·replace c7 := Bool.eq_false_iff.mpr c7
  subst c7
  have H1 : (some (0, false)) = some (r1, r2) := by rw [if_neg (show ¬ (false = true) by decide)] at H; exact H
  clear H
  have H := H1
  clear H1
  simp only [Option.some.injEq, Prod.mk.injEq] at H
  obtain ⟨rfl, rfl⟩ := H
  go_enter Tryd.func10, Tryd.ntmps10
  go_wp2_with (first | ((with_reducible refine gate_callee (f := 27) rfl ?_); refine goesL_ (some 15) rfl rfl Tryd.func27 (by kernel_rfl) rfl #[.string a0, .string (⟨#[101]⟩ : ByteArray)] rfl KL ?_; (with_reducible refine (strings_TrimPrefix.calls a0 (⟨#[101]⟩ : ByteArray) t137 _ A2.out).mono ?_); rintro e w' ⟨rfl, ⟨nd, rfl⟩⟩; refine ⟨_, rfl, ?_⟩) | ((with_reducible refine gate_callee (f := 26) rfl ?_); refine goesL_ (some 16) rfl rfl Tryd.func26 (by kernel_rfl) rfl #[.string t137, .string (⟨#[46]⟩ : ByteArray)] rfl KL ?_; (with_reducible refine (strings_Cut.calls t137 (⟨#[46]⟩ : ByteArray) t138 t139 t140 _ A3.out (KGl hGl)).mono ?_); rintro e w' ⟨rfl, ⟨nd, rfl⟩⟩; refine ⟨_, rfl, ?_⟩) | ((with_reducible refine gate_callee (f := 28) rfl ?_); refine goesL_ (some 22) rfl rfl Tryd.func28 (by kernel_rfl) rfl #[.string t138, .int .i64 2] rfl KL ?_; (with_reducible refine (impl_readDigits.calls t138 2 t141 false _ A4.out (KGl hGl)).mono ?_); rintro e w20 ⟨rfl, hb⟩; refine ⟨_, rfl, ?_⟩; have n0_ := Aside0.mk (below_step KB hb); clear HB; have HB := n0_; clear n0_; (try clear hb); (try clear hb2); (try clear hk); (try clear hi)) | ((with_reducible refine gate_callee (f := 28) rfl ?_); refine goesL_ (some 27) rfl rfl Tryd.func28 (by kernel_rfl) rfl #[.string t139, .int .i64 2] rfl KL ?_; (with_reducible refine (impl_readDigits.calls t139 2 t143 t144 _ A5.out (KGl hGl)).mono ?_); rintro e w21 ⟨rfl, hb⟩; refine ⟨_, rfl, ?_⟩; have n0_ := Aside0.mk (below_step KB hb); clear HB; have HB := n0_; clear n0_; (try clear hb); (try clear hb2); (try clear hk); (try clear hi)) | ((with_reducible refine gate_callee (f := 13) rfl ?_); refine goesL_ (some 33) rfl rfl Tryd.func13 (by kernel_rfl) rfl #[.int .i64 t141, .int .i64 t143] rfl KL ?_; (with_reducible refine (impl_PlaceMake.calls t141 t143 t145 t146 _ A6.out).mono ?_); rintro e w' ⟨rfl, ⟨nd, rfl⟩⟩; refine ⟨_, rfl, ?_⟩))
  go_ret2
  exact ⟨KE, KB⟩

/-! ### laws_FnExactPlaceRead: function 4 -/
noncomputable def laws_FnExactPlaceRead.f (k : Nat) (a0 : ByteArray) : Option (Bool) := if (a0.size : Int) > 1048576 then (some true) else ((spec_PlaceRead.f k a0).bind fun bt148 => ((impl_PlaceRead.f a0).bind fun bt150 => (if bt150.1 = bt148.1 then (if (bt150.2 != bt148.2) = true then (none) else (some true)) else (none))))
theorem laws_FnExactPlaceRead.mono : ∀ a0 k, LeO (laws_FnExactPlaceRead.f k a0) (laws_FnExactPlaceRead.f (k + 1) a0) := by
 intro a0 k
 unfold laws_FnExactPlaceRead.f
 repeat' first
   | (with_reducible exact spec_PlaceRead.mono _ _)
   | (with_reducible exact LeO.refl _)
   | (with_reducible exact LeO.none _)
   | (with_reducible refine LeO.ite ?_ ?_)
   | (with_reducible refine LeO.bind ?_ (fun _ => ?_))
   | exact spec_PlaceRead.mono _ _
   | exact LeO.none _
   | refine LeO.ite ?_ ?_
   | refine LeO.bind ?_ (fun _ => ?_)
set_option maxHeartbeats 8000000 in
set_option maxRecDepth 100000 in
theorem laws_FnExactPlaceRead.calls (k : Nat) (a0 : ByteArray) (r : Bool) (w : World) (h : laws_FnExactPlaceRead.f k a0 = some r) (hGl : Gl w) :
  Calls Tryd.prog 4 #[.string a0] w fun e w' => e = .returned (.bool r) ∧ Below w.heap.size w w' := by
 have HB := Aside0.mk (Below.refl w.heap.size w)
 have H : (if (a0.size : Int) > 1048576 then (some true) else ((spec_PlaceRead.f k a0).bind fun bt148 => ((impl_PlaceRead.f a0).bind fun bt150 => (if bt150.1 = bt148.1 then (if (bt150.2 != bt148.2) = true then (none) else (some true)) else (none))))) = some r := h
 clear h
 by_cases c2 : (a0.size : Int) > 1048576
 ·rw [if_pos c2] at H
  have c2b0 : decide (1048576 < (a0.size : Int)) = true := decide_eq_true c2
  have c2b1 : decide (1048576 < a0.size) = true := decide_eq_true (by omega)
  clear c2
  obtain rfl := Option.some.inj H
  go_enter Tryd.func4, Tryd.ntmps4
  go_wp2
  go_ret
  exact ⟨KE, KB⟩
 ·rw [if_neg c2] at H
  have c2b0 : decide (1048576 < (a0.size : Int)) = false := decide_eq_false c2
  have c2b1 : decide (1048576 < a0.size) = false := decide_eq_false (by omega)
  clear c2
  replace H := Option.bind_eq_some_iff.mp H
  obtain ⟨⟨t148, t149⟩, A30, H⟩ := H
  replace H : ((impl_PlaceRead.f a0).bind fun bt150 => (if bt150.1 = t148 then (if (bt150.2 != t149) = true then (none) else (some true)) else (none))) = some r := H
  have A3 := Aside0.mk A30
  clear A30
  replace H := Option.bind_eq_some_iff.mp H
  obtain ⟨⟨t150, t151⟩, A40, H⟩ := H
  replace H : (if t150 = t148 then (if (t151 != t149) = true then (none) else (some true)) else (none)) = some r := H
  have A4 := Aside0.mk A40
  clear A40
  by_cases c5 : t150 = t148
  ·rw [if_pos c5] at H
   have c5b0 : (t150 == t148) = true := beq_iff_eq.mpr c5
   have c5b1 : (t150 != t148) = false := bne_eq_false_iff_eq.mpr c5
   clear c5
   by_cases c6 : (t151 != t149) = true
   ·rw [if_pos c6] at H
    exact absurd H (by simp)
   ·rw [if_neg c6] at H
    have c6b0 : (t151 != t149) = false := by simpa using c6
    (try (have c6b1 : decide (t151 = t149) = true := by simpa using c6))
    (try (have c6b2 : (t151 == t149) = true := by simpa using c6))
    clear c6
    obtain rfl := Option.some.inj H
    go_enter Tryd.func4, Tryd.ntmps4
    go_wp2_with (first | ((with_reducible refine gate_callee (f := 9) rfl ?_); refine goesL_ (some 12) rfl rfl Tryd.func9 (by kernel_rfl) rfl #[.string a0] rfl KL ?_; (with_reducible refine (spec_PlaceRead.calls k a0 t148 t149 _ A3.out).mono ?_); rintro e w7 ⟨rfl, hb⟩; refine ⟨_, rfl, ?_⟩; have n0_ := Aside0.mk (below_step KB hb); clear HB; have HB := n0_; clear n0_; (try clear hb); (try clear hb2); (try clear hk); (try clear hi)) | ((with_reducible refine gate_callee (f := 10) rfl ?_); refine goesL_ (some 17) rfl rfl Tryd.func10 (by kernel_rfl) rfl #[.string a0] rfl KL ?_; (with_reducible refine (impl_PlaceRead.calls a0 t150 t151 _ A4.out (KGl hGl)).mono ?_); rintro e w8 ⟨rfl, hb⟩; refine ⟨_, rfl, ?_⟩; have n0_ := Aside0.mk (below_step KB hb); clear HB; have HB := n0_; clear n0_; (try clear hb); (try clear hb2); (try clear hk); (try clear hi)))
    go_ret
    exact ⟨KE, KB⟩
  ·rw [if_neg c5] at H
   exact absurd H (by simp)

/-- THE ONE PURE STATEMENT of laws_FnExactPlaceRead: yours. -/
def laws_FnExactPlaceRead.Pure : Prop := ∀ (a0 : ByteArray), a0.size ≤ 140737488351232 → ∃ k, laws_FnExactPlaceRead.f k a0 = some true
theorem laws_FnExactPlaceRead.walk (P : laws_FnExactPlaceRead.Pure) (a0 : ByteArray) (w : World) (w0 : a0.size ≤ 140737488351232) (hGl : Gl w) :
  Calls Tryd.prog 4 #[.string a0] w fun e w' => e = .returned (.bool true) ∧ Below w.heap.size w w' := by
 obtain ⟨k, h⟩ := P a0 w0
 refine (laws_FnExactPlaceRead.calls k a0 true w h hGl).mono ?_
 rintro e w' ⟨rfl, hd⟩
 exact ⟨rfl, hd⟩

end Go.Proofs.YtlmmbmhambkjlaaDoor.PFnExactPlaceRead
