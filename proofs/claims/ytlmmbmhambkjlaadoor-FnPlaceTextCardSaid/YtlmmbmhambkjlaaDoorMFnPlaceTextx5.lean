-- What each Go function that this law reaches comes to: written by a program out of the translation.
import Derived.Test.YtlmmbmhambkjlaaDoorMFnPlaceTextx0
import Derived.Test.YtlmmbmhambkjlaaDoorMFnPlaceTextx1
import Derived.Test.YtlmmbmhambkjlaaDoorMFnPlaceTextx2
import Derived.Test.YtlmmbmhambkjlaaDoorMFnPlaceTextx3
import Derived.Test.YtlmmbmhambkjlaaDoorMFnPlaceTextx4
namespace Go.Proofs.YtlmmbmhambkjlaaDoor.PFnPlaceText
open Go.RowKit Go.Proofs.YtlmmbmhambkjlaaDoorW.PrintWords Go.Proofs.YtlmmbmhambkjlaaDoorW.PrintLast Go.Proofs.YtlmmbmhambkjlaaDoorW.PrintMore
attribute [local go_sem] max2_int min2_int max_two min_two max_three min_three max_four min_four   -- for this text's walks alone
set_option linter.unusedVariables false
set_option linter.unusedSimpArgs false

/-! ### laws_FnPlaceText: function 6 -/
noncomputable def laws_FnPlaceText.f (k : Nat) (l0 : List Int) : Option (Bool) := (laws_big.f l0).bind fun t237 => (if t237 = true then (some true) else ((spec_DrawPlaceRead.f k l0).bind fun t238 => ((impl_PlaceRead.f t238).bind fun bt239 => ((spec_PlaceRead.f k t238).bind fun bt241 => (if (bt239.2 != bt241.2) = true then (none) else (if bt239.2 = true then ((impl_EpochOf.f bt239.1).bind fun t243 => ((impl_OffOf.f bt239.1).bind fun t244 => ((impl_PlaceMake.f t243 (wrap64 (t244 - 1))).bind fun bt245 => ((impl_EpochOf.f bt239.1).bind fun t247 => ((impl_PlaceMake.f (wrap64 (t247 - 1)) 60).bind fun bt248 => ((impl_PlaceText.f bt239.1).bind fun t250 => (if t250.toList = t238.toList then (if bt245.2 = true then (if bt245.1 < bt239.1 then (if bt248.2 = true then (some (decide (bt248.1 < bt239.1))) else (some true)) else (none)) else (if bt248.2 = true then (some (decide (bt248.1 < bt239.1))) else (some true))) else (none)))))))) else (some (bt239.1 == 0))))))))
theorem laws_FnPlaceText.mono : ∀ a0 k, LeO (laws_FnPlaceText.f k a0) (laws_FnPlaceText.f (k + 1) a0) := by
 intro a0 k
 unfold laws_FnPlaceText.f
 repeat' first
   | (with_reducible exact spec_DrawPlaceRead.mono _ _)
   | (with_reducible exact spec_PlaceRead.mono _ _)
   | (with_reducible exact LeO.refl _)
   | (with_reducible exact LeO.none _)
   | (with_reducible refine LeO.ite ?_ ?_)
   | (with_reducible refine LeO.bind ?_ (fun _ => ?_))
   | exact spec_DrawPlaceRead.mono _ _
   | exact spec_PlaceRead.mono _ _
   | exact LeO.none _
   | refine LeO.ite ?_ ?_
   | refine LeO.bind ?_ (fun _ => ?_)
set_option maxHeartbeats 8000000 in
set_option maxRecDepth 100000 in
theorem laws_FnPlaceText.calls (k : Nat) (A0 : Option Addr) (c0 : Nat) (l0 : List Int) (r : Bool) (w : World) (hr0 : Kd.C (Kd.int .u8) w A0 l0.length l0) (hc0 : l0.length ≤ c0) (h : laws_FnPlaceText.f k l0 = some r) (hGl : Gl w) :
  Calls Tryd.prog 6 #[.slice A0 l0.length c0] w fun e w' => e = .returned (.bool r) ∧ Below w.heap.size w w' := by
 have HR0 := Aside0.mk hr0
 have HC0 := Aside0.mk hc0
 clear hr0 hc0
 have HB := Aside0.mk (Below.refl w.heap.size w)
 have H : ((laws_big.f l0).bind fun t237 => (if t237 = true then (some true) else ((spec_DrawPlaceRead.f k l0).bind fun t238 => ((impl_PlaceRead.f t238).bind fun bt239 => ((spec_PlaceRead.f k t238).bind fun bt241 => (if (bt239.2 != bt241.2) = true then (none) else (if bt239.2 = true then ((impl_EpochOf.f bt239.1).bind fun t243 => ((impl_OffOf.f bt239.1).bind fun t244 => ((impl_PlaceMake.f t243 (wrap64 (t244 - 1))).bind fun bt245 => ((impl_EpochOf.f bt239.1).bind fun t247 => ((impl_PlaceMake.f (wrap64 (t247 - 1)) 60).bind fun bt248 => ((impl_PlaceText.f bt239.1).bind fun t250 => (if t250.toList = t238.toList then (if bt245.2 = true then (if bt245.1 < bt239.1 then (if bt248.2 = true then (some (decide (bt248.1 < bt239.1))) else (some true)) else (none)) else (if bt248.2 = true then (some (decide (bt248.1 < bt239.1))) else (some true))) else (none)))))))) else (some (bt239.1 == 0))))))))) = some r := h
 clear h
 replace H := Option.bind_eq_some_iff.mp H
 obtain ⟨t237, A20, H⟩ := H
 replace H : (if t237 = true then (some true) else ((spec_DrawPlaceRead.f k l0).bind fun t238 => ((impl_PlaceRead.f t238).bind fun bt239 => ((spec_PlaceRead.f k t238).bind fun bt241 => (if (bt239.2 != bt241.2) = true then (none) else (if bt239.2 = true then ((impl_EpochOf.f bt239.1).bind fun t243 => ((impl_OffOf.f bt239.1).bind fun t244 => ((impl_PlaceMake.f t243 (wrap64 (t244 - 1))).bind fun bt245 => ((impl_EpochOf.f bt239.1).bind fun t247 => ((impl_PlaceMake.f (wrap64 (t247 - 1)) 60).bind fun bt248 => ((impl_PlaceText.f bt239.1).bind fun t250 => (if t250.toList = t238.toList then (if bt245.2 = true then (if bt245.1 < bt239.1 then (if bt248.2 = true then (some (decide (bt248.1 < bt239.1))) else (some true)) else (none)) else (if bt248.2 = true then (some (decide (bt248.1 < bt239.1))) else (some true))) else (none)))))))) else (some (bt239.1 == 0)))))))) = some r := H
 have A2 := Aside0.mk A20
 clear A20
 by_cases c3 : t237 = true
 ·subst c3
  have H1 : (some true) = some r := by rw [if_pos rfl] at H; exact H
  clear H
  have H := H1
  clear H1
  obtain rfl := Option.some.inj H
  go_enter Tryd.func6, Tryd.ntmps6
  go_wp2_with (first | ((with_reducible refine gate_callee (f := 11) rfl ?_); refine goesL_ (some 13) rfl rfl Tryd.func11 (by kernel_rfl) rfl #[.slice A0 l0.length c0] rfl KL ?_; (with_reducible refine (laws_big.calls _ _ l0 true _ ?side1 ?side2 A2.out).mono ?_); (case side1 => exact KC); (case side2 => exact HC0.out); rintro e w' ⟨rfl, ⟨nd, rfl⟩⟩; refine ⟨_, rfl, ?_⟩))
  go_ret
  exact ⟨KE, KB⟩
 ·replace c3 := Bool.eq_false_iff.mpr c3
  subst c3
  have H1 : ((spec_DrawPlaceRead.f k l0).bind fun t238 => ((impl_PlaceRead.f t238).bind fun bt239 => ((spec_PlaceRead.f k t238).bind fun bt241 => (if (bt239.2 != bt241.2) = true then (none) else (if bt239.2 = true then ((impl_EpochOf.f bt239.1).bind fun t243 => ((impl_OffOf.f bt239.1).bind fun t244 => ((impl_PlaceMake.f t243 (wrap64 (t244 - 1))).bind fun bt245 => ((impl_EpochOf.f bt239.1).bind fun t247 => ((impl_PlaceMake.f (wrap64 (t247 - 1)) 60).bind fun bt248 => ((impl_PlaceText.f bt239.1).bind fun t250 => (if t250.toList = t238.toList then (if bt245.2 = true then (if bt245.1 < bt239.1 then (if bt248.2 = true then (some (decide (bt248.1 < bt239.1))) else (some true)) else (none)) else (if bt248.2 = true then (some (decide (bt248.1 < bt239.1))) else (some true))) else (none)))))))) else (some (bt239.1 == 0))))))) = some r := by rw [if_neg (show ¬ (false = true) by decide)] at H; exact H
  clear H
  have H := H1
  clear H1
  replace H := Option.bind_eq_some_iff.mp H
  obtain ⟨t238, A40, H⟩ := H
  replace H : ((impl_PlaceRead.f t238).bind fun bt239 => ((spec_PlaceRead.f k t238).bind fun bt241 => (if (bt239.2 != bt241.2) = true then (none) else (if bt239.2 = true then ((impl_EpochOf.f bt239.1).bind fun t243 => ((impl_OffOf.f bt239.1).bind fun t244 => ((impl_PlaceMake.f t243 (wrap64 (t244 - 1))).bind fun bt245 => ((impl_EpochOf.f bt239.1).bind fun t247 => ((impl_PlaceMake.f (wrap64 (t247 - 1)) 60).bind fun bt248 => ((impl_PlaceText.f bt239.1).bind fun t250 => (if t250.toList = t238.toList then (if bt245.2 = true then (if bt245.1 < bt239.1 then (if bt248.2 = true then (some (decide (bt248.1 < bt239.1))) else (some true)) else (none)) else (if bt248.2 = true then (some (decide (bt248.1 < bt239.1))) else (some true))) else (none)))))))) else (some (bt239.1 == 0)))))) = some r := H
  have A4 := Aside0.mk A40
  clear A40
  replace H := Option.bind_eq_some_iff.mp H
  obtain ⟨⟨t239, t240⟩, A50, H⟩ := H
  replace H : ((spec_PlaceRead.f k t238).bind fun bt241 => (if (t240 != bt241.2) = true then (none) else (if t240 = true then ((impl_EpochOf.f t239).bind fun t243 => ((impl_OffOf.f t239).bind fun t244 => ((impl_PlaceMake.f t243 (wrap64 (t244 - 1))).bind fun bt245 => ((impl_EpochOf.f t239).bind fun t247 => ((impl_PlaceMake.f (wrap64 (t247 - 1)) 60).bind fun bt248 => ((impl_PlaceText.f t239).bind fun t250 => (if t250.toList = t238.toList then (if bt245.2 = true then (if bt245.1 < t239 then (if bt248.2 = true then (some (decide (bt248.1 < t239))) else (some true)) else (none)) else (if bt248.2 = true then (some (decide (bt248.1 < t239))) else (some true))) else (none)))))))) else (some (t239 == 0))))) = some r := H
  have A5 := Aside0.mk A50
  clear A50
  replace H := Option.bind_eq_some_iff.mp H
  obtain ⟨⟨t241, t242⟩, A60, H⟩ := H
  replace H : (if (t240 != t242) = true then (none) else (if t240 = true then ((impl_EpochOf.f t239).bind fun t243 => ((impl_OffOf.f t239).bind fun t244 => ((impl_PlaceMake.f t243 (wrap64 (t244 - 1))).bind fun bt245 => ((impl_EpochOf.f t239).bind fun t247 => ((impl_PlaceMake.f (wrap64 (t247 - 1)) 60).bind fun bt248 => ((impl_PlaceText.f t239).bind fun t250 => (if t250.toList = t238.toList then (if bt245.2 = true then (if bt245.1 < t239 then (if bt248.2 = true then (some (decide (bt248.1 < t239))) else (some true)) else (none)) else (if bt248.2 = true then (some (decide (bt248.1 < t239))) else (some true))) else (none)))))))) else (some (t239 == 0)))) = some r := H
  have A6 := Aside0.mk A60
  clear A60
  by_cases c7 : (t240 != t242) = true
  ·rw [if_pos c7] at H
   exact absurd H (by simp)
  ·rw [if_neg c7] at H
   have c7b0 : (t240 != t242) = false := by simpa using c7
   (try (have c7b1 : decide (t240 = t242) = true := by simpa using c7))
   (try (have c7b2 : (t240 == t242) = true := by simpa using c7))
   clear c7
   by_cases c8 : t240 = true
   ·subst c8
    have H1 : ((impl_EpochOf.f t239).bind fun t243 => ((impl_OffOf.f t239).bind fun t244 => ((impl_PlaceMake.f t243 (wrap64 (t244 - 1))).bind fun bt245 => ((impl_EpochOf.f t239).bind fun t247 => ((impl_PlaceMake.f (wrap64 (t247 - 1)) 60).bind fun bt248 => ((impl_PlaceText.f t239).bind fun t250 => (if t250.toList = t238.toList then (if bt245.2 = true then (if bt245.1 < t239 then (if bt248.2 = true then (some (decide (bt248.1 < t239))) else (some true)) else (none)) else (if bt248.2 = true then (some (decide (bt248.1 < t239))) else (some true))) else (none)))))))) = some r := by rw [if_pos rfl] at H; exact H
    clear H
    have H := H1
    clear H1
    replace H := Option.bind_eq_some_iff.mp H
    obtain ⟨t243, A90, H⟩ := H
    replace H : ((impl_OffOf.f t239).bind fun t244 => ((impl_PlaceMake.f t243 (wrap64 (t244 - 1))).bind fun bt245 => ((impl_EpochOf.f t239).bind fun t247 => ((impl_PlaceMake.f (wrap64 (t247 - 1)) 60).bind fun bt248 => ((impl_PlaceText.f t239).bind fun t250 => (if t250.toList = t238.toList then (if bt245.2 = true then (if bt245.1 < t239 then (if bt248.2 = true then (some (decide (bt248.1 < t239))) else (some true)) else (none)) else (if bt248.2 = true then (some (decide (bt248.1 < t239))) else (some true))) else (none))))))) = some r := H
    have A9 := Aside0.mk A90
    clear A90
    replace H := Option.bind_eq_some_iff.mp H
    obtain ⟨t244, A100, H⟩ := H
    replace H : ((impl_PlaceMake.f t243 (wrap64 (t244 - 1))).bind fun bt245 => ((impl_EpochOf.f t239).bind fun t247 => ((impl_PlaceMake.f (wrap64 (t247 - 1)) 60).bind fun bt248 => ((impl_PlaceText.f t239).bind fun t250 => (if t250.toList = t238.toList then (if bt245.2 = true then (if bt245.1 < t239 then (if bt248.2 = true then (some (decide (bt248.1 < t239))) else (some true)) else (none)) else (if bt248.2 = true then (some (decide (bt248.1 < t239))) else (some true))) else (none)))))) = some r := H
    have A10 := Aside0.mk A100
    clear A100
    replace H := Option.bind_eq_some_iff.mp H
    obtain ⟨⟨t245, t246⟩, A110, H⟩ := H
    replace H : ((impl_EpochOf.f t239).bind fun t247 => ((impl_PlaceMake.f (wrap64 (t247 - 1)) 60).bind fun bt248 => ((impl_PlaceText.f t239).bind fun t250 => (if t250.toList = t238.toList then (if t246 = true then (if t245 < t239 then (if bt248.2 = true then (some (decide (bt248.1 < t239))) else (some true)) else (none)) else (if bt248.2 = true then (some (decide (bt248.1 < t239))) else (some true))) else (none))))) = some r := H
    have A11 := Aside0.mk A110
    clear A110
    replace H := Option.bind_eq_some_iff.mp H
    obtain ⟨t247, A120, H⟩ := H
    replace H : ((impl_PlaceMake.f (wrap64 (t247 - 1)) 60).bind fun bt248 => ((impl_PlaceText.f t239).bind fun t250 => (if t250.toList = t238.toList then (if t246 = true then (if t245 < t239 then (if bt248.2 = true then (some (decide (bt248.1 < t239))) else (some true)) else (none)) else (if bt248.2 = true then (some (decide (bt248.1 < t239))) else (some true))) else (none)))) = some r := H
    have A12 := Aside0.mk A120
    clear A120
    replace H := Option.bind_eq_some_iff.mp H
    obtain ⟨⟨t248, t249⟩, A130, H⟩ := H
    replace H : ((impl_PlaceText.f t239).bind fun t250 => (if t250.toList = t238.toList then (if t246 = true then (if t245 < t239 then (if t249 = true then (some (decide (t248 < t239))) else (some true)) else (none)) else (if t249 = true then (some (decide (t248 < t239))) else (some true))) else (none))) = some r := H
    have A13 := Aside0.mk A130
    clear A130
    replace H := Option.bind_eq_some_iff.mp H
    obtain ⟨t250, A140, H⟩ := H
    replace H : (if t250.toList = t238.toList then (if t246 = true then (if t245 < t239 then (if t249 = true then (some (decide (t248 < t239))) else (some true)) else (none)) else (if t249 = true then (some (decide (t248 < t239))) else (some true))) else (none)) = some r := H
    have A14 := Aside0.mk A140
    clear A140
    by_cases c15 : t250.toList = t238.toList
    ·rw [if_pos c15] at H
     have c15b0 : (t250.toList == t238.toList) = true := beq_iff_eq.mpr c15
     have c15b1 : (t250.toList != t238.toList) = false := bne_eq_false_iff_eq.mpr c15
     clear c15
     by_cases c16 : t246 = true
     ·subst c16
      have H1 : (if t245 < t239 then (if t249 = true then (some (decide (t248 < t239))) else (some true)) else (none)) = some r := by rw [if_pos rfl] at H; exact H
      clear H
      have H := H1
      clear H1
      by_cases c17 : t245 < t239
      ·rw [if_pos c17] at H
       have c17b0 : decide (t245 < t239) = true := decide_eq_true c17
       clear c17
       by_cases c18 : t249 = true
       ·subst c18
        have H1 : (some (decide (t248 < t239))) = some r := by rw [if_pos rfl] at H; exact H
        clear H
        have H := H1
        clear H1
        obtain rfl := Option.some.inj H
        go_enter Tryd.func6, Tryd.ntmps6
        go_wp2_with (first | ((with_reducible refine gate_callee (f := 11) rfl ?_); refine goesL_ (some 13) rfl rfl Tryd.func11 (by kernel_rfl) rfl #[.slice A0 l0.length c0] rfl KL ?_; (with_reducible refine (laws_big.calls _ _ l0 false _ ?side1 ?side2 A2.out).mono ?_); (case side1 => exact KC); (case side2 => exact HC0.out); rintro e w' ⟨rfl, ⟨nd, rfl⟩⟩; refine ⟨_, rfl, ?_⟩) | ((with_reducible refine gate_callee (f := 20) rfl ?_); refine goesL_ (some 15) rfl rfl Tryd.func20 (by kernel_rfl) rfl #[.slice A0 l0.length c0] rfl KL ?_; (with_reducible refine (spec_DrawPlaceRead.calls k _ _ l0 t238 _ ?side1 ?side2 A4.out).mono ?_); (case side1 => exact KC); (case side2 => exact HC0.out); rintro e w19 ⟨rfl, hb⟩; refine ⟨_, rfl, ?_⟩; have n0_ := Aside0.mk (below_step KB hb); clear HB; have HB := n0_; clear n0_; (try clear hb); (try clear hb2); (try clear hk); (try clear hi)) | ((with_reducible refine gate_callee (f := 10) rfl ?_); refine goesL_ (some 18) rfl rfl Tryd.func10 (by kernel_rfl) rfl #[.string t238] rfl KL ?_; (with_reducible refine (impl_PlaceRead.calls t238 t239 true _ A5.out (KGl hGl)).mono ?_); rintro e w20 ⟨rfl, hb⟩; refine ⟨_, rfl, ?_⟩; have n0_ := Aside0.mk (below_step KB hb); clear HB; have HB := n0_; clear n0_; (try clear hb); (try clear hb2); (try clear hk); (try clear hi)) | ((with_reducible refine gate_callee (f := 9) rfl ?_); refine goesL_ (some 23) rfl rfl Tryd.func9 (by kernel_rfl) rfl #[.string t238] rfl KL ?_; (with_reducible refine (spec_PlaceRead.calls k t238 t241 t242 _ A6.out).mono ?_); rintro e w21 ⟨rfl, hb⟩; refine ⟨_, rfl, ?_⟩; have n0_ := Aside0.mk (below_step KB hb); clear HB; have HB := n0_; clear n0_; (try clear hb); (try clear hb2); (try clear hk); (try clear hi)) | ((with_reducible refine gate_callee (f := 18) rfl ?_); refine goesL_ (some 35) rfl rfl Tryd.func18 (by kernel_rfl) rfl #[.int .i64 t239] rfl KL ?_; (with_reducible refine (impl_EpochOf.calls t239 t243 _ A9.out).mono ?_); rintro e w' ⟨rfl, ⟨nd, rfl⟩⟩; refine ⟨_, rfl, ?_⟩) | ((with_reducible refine gate_callee (f := 19) rfl ?_); refine goesL_ (some 37) rfl rfl Tryd.func19 (by kernel_rfl) rfl #[.int .i64 t239] rfl KL ?_; (with_reducible refine (impl_OffOf.calls t239 t244 _ A10.out).mono ?_); rintro e w' ⟨rfl, ⟨nd, rfl⟩⟩; refine ⟨_, rfl, ?_⟩) | ((with_reducible refine gate_callee (f := 13) rfl ?_); refine goesL_ (some 39) rfl rfl Tryd.func13 (by kernel_rfl) rfl #[.int .i64 t243, .int .i64 (wrap64 (t244 - 1))] rfl KL ?_; (with_reducible refine (impl_PlaceMake.calls t243 (wrap64 (t244 - 1)) t245 true _ A11.out).mono ?_); rintro e w' ⟨rfl, ⟨nd, rfl⟩⟩; refine ⟨_, rfl, ?_⟩) | ((with_reducible refine gate_callee (f := 18) rfl ?_); refine goesL_ (some 44) rfl rfl Tryd.func18 (by kernel_rfl) rfl #[.int .i64 t239] rfl KL ?_; (with_reducible refine (impl_EpochOf.calls t239 t247 _ A12.out).mono ?_); rintro e w' ⟨rfl, ⟨nd, rfl⟩⟩; refine ⟨_, rfl, ?_⟩) | ((with_reducible refine gate_callee (f := 13) rfl ?_); refine goesL_ (some 46) rfl rfl Tryd.func13 (by kernel_rfl) rfl #[.int .i64 (wrap64 (t247 - 1)), .int .i64 60] rfl KL ?_; (with_reducible refine (impl_PlaceMake.calls (wrap64 (t247 - 1)) 60 t248 true _ A13.out).mono ?_); rintro e w' ⟨rfl, ⟨nd, rfl⟩⟩; refine ⟨_, rfl, ?_⟩) | ((with_reducible refine gate_callee (f := 8) rfl ?_); refine goesL_ (some 50) rfl rfl Tryd.func8 (by kernel_rfl) rfl #[.int .i64 t239] rfl KL ?_; (with_reducible refine (impl_PlaceText.calls t239 t250 _ A14.out).mono ?_); rintro e w' ⟨rfl, ⟨nd, rfl⟩⟩; refine ⟨_, rfl, ?_⟩))
        go_ret
        exact ⟨KE, KB⟩
       ·replace c18 := Bool.eq_false_iff.mpr c18
        subst c18
        have H1 : (some true) = some r := by rw [if_neg (show ¬ (false = true) by decide)] at H; exact H
        clear H
        have H := H1
        clear H1
        obtain rfl := Option.some.inj H
        go_enter Tryd.func6, Tryd.ntmps6
        go_wp2_with (first | ((with_reducible refine gate_callee (f := 11) rfl ?_); refine goesL_ (some 13) rfl rfl Tryd.func11 (by kernel_rfl) rfl #[.slice A0 l0.length c0] rfl KL ?_; (with_reducible refine (laws_big.calls _ _ l0 false _ ?side1 ?side2 A2.out).mono ?_); (case side1 => exact KC); (case side2 => exact HC0.out); rintro e w' ⟨rfl, ⟨nd, rfl⟩⟩; refine ⟨_, rfl, ?_⟩) | ((with_reducible refine gate_callee (f := 20) rfl ?_); refine goesL_ (some 15) rfl rfl Tryd.func20 (by kernel_rfl) rfl #[.slice A0 l0.length c0] rfl KL ?_; (with_reducible refine (spec_DrawPlaceRead.calls k _ _ l0 t238 _ ?side1 ?side2 A4.out).mono ?_); (case side1 => exact KC); (case side2 => exact HC0.out); rintro e w22 ⟨rfl, hb⟩; refine ⟨_, rfl, ?_⟩; have n0_ := Aside0.mk (below_step KB hb); clear HB; have HB := n0_; clear n0_; (try clear hb); (try clear hb2); (try clear hk); (try clear hi)) | ((with_reducible refine gate_callee (f := 10) rfl ?_); refine goesL_ (some 18) rfl rfl Tryd.func10 (by kernel_rfl) rfl #[.string t238] rfl KL ?_; (with_reducible refine (impl_PlaceRead.calls t238 t239 true _ A5.out (KGl hGl)).mono ?_); rintro e w23 ⟨rfl, hb⟩; refine ⟨_, rfl, ?_⟩; have n0_ := Aside0.mk (below_step KB hb); clear HB; have HB := n0_; clear n0_; (try clear hb); (try clear hb2); (try clear hk); (try clear hi)) | ((with_reducible refine gate_callee (f := 9) rfl ?_); refine goesL_ (some 23) rfl rfl Tryd.func9 (by kernel_rfl) rfl #[.string t238] rfl KL ?_; (with_reducible refine (spec_PlaceRead.calls k t238 t241 t242 _ A6.out).mono ?_); rintro e w24 ⟨rfl, hb⟩; refine ⟨_, rfl, ?_⟩; have n0_ := Aside0.mk (below_step KB hb); clear HB; have HB := n0_; clear n0_; (try clear hb); (try clear hb2); (try clear hk); (try clear hi)) | ((with_reducible refine gate_callee (f := 18) rfl ?_); refine goesL_ (some 35) rfl rfl Tryd.func18 (by kernel_rfl) rfl #[.int .i64 t239] rfl KL ?_; (with_reducible refine (impl_EpochOf.calls t239 t243 _ A9.out).mono ?_); rintro e w' ⟨rfl, ⟨nd, rfl⟩⟩; refine ⟨_, rfl, ?_⟩) | ((with_reducible refine gate_callee (f := 19) rfl ?_); refine goesL_ (some 37) rfl rfl Tryd.func19 (by kernel_rfl) rfl #[.int .i64 t239] rfl KL ?_; (with_reducible refine (impl_OffOf.calls t239 t244 _ A10.out).mono ?_); rintro e w' ⟨rfl, ⟨nd, rfl⟩⟩; refine ⟨_, rfl, ?_⟩) | ((with_reducible refine gate_callee (f := 13) rfl ?_); refine goesL_ (some 39) rfl rfl Tryd.func13 (by kernel_rfl) rfl #[.int .i64 t243, .int .i64 (wrap64 (t244 - 1))] rfl KL ?_; (with_reducible refine (impl_PlaceMake.calls t243 (wrap64 (t244 - 1)) t245 true _ A11.out).mono ?_); rintro e w' ⟨rfl, ⟨nd, rfl⟩⟩; refine ⟨_, rfl, ?_⟩) | ((with_reducible refine gate_callee (f := 18) rfl ?_); refine goesL_ (some 44) rfl rfl Tryd.func18 (by kernel_rfl) rfl #[.int .i64 t239] rfl KL ?_; (with_reducible refine (impl_EpochOf.calls t239 t247 _ A12.out).mono ?_); rintro e w' ⟨rfl, ⟨nd, rfl⟩⟩; refine ⟨_, rfl, ?_⟩) | ((with_reducible refine gate_callee (f := 13) rfl ?_); refine goesL_ (some 46) rfl rfl Tryd.func13 (by kernel_rfl) rfl #[.int .i64 (wrap64 (t247 - 1)), .int .i64 60] rfl KL ?_; (with_reducible refine (impl_PlaceMake.calls (wrap64 (t247 - 1)) 60 t248 false _ A13.out).mono ?_); rintro e w' ⟨rfl, ⟨nd, rfl⟩⟩; refine ⟨_, rfl, ?_⟩) | ((with_reducible refine gate_callee (f := 8) rfl ?_); refine goesL_ (some 50) rfl rfl Tryd.func8 (by kernel_rfl) rfl #[.int .i64 t239] rfl KL ?_; (with_reducible refine (impl_PlaceText.calls t239 t250 _ A14.out).mono ?_); rintro e w' ⟨rfl, ⟨nd, rfl⟩⟩; refine ⟨_, rfl, ?_⟩))
        go_ret
        exact ⟨KE, KB⟩
      ·rw [if_neg c17] at H
       exact absurd H (by simp)
     ·replace c16 := Bool.eq_false_iff.mpr c16
      subst c16
      have H1 : (if t249 = true then (some (decide (t248 < t239))) else (some true)) = some r := by rw [if_neg (show ¬ (false = true) by decide)] at H; exact H
      clear H
      have H := H1
      clear H1
      by_cases c25 : t249 = true
      ·subst c25
       have H1 : (some (decide (t248 < t239))) = some r := by rw [if_pos rfl] at H; exact H
       clear H
       have H := H1
       clear H1
       obtain rfl := Option.some.inj H
       go_enter Tryd.func6, Tryd.ntmps6
       go_wp2_with (first | ((with_reducible refine gate_callee (f := 11) rfl ?_); refine goesL_ (some 13) rfl rfl Tryd.func11 (by kernel_rfl) rfl #[.slice A0 l0.length c0] rfl KL ?_; (with_reducible refine (laws_big.calls _ _ l0 false _ ?side1 ?side2 A2.out).mono ?_); (case side1 => exact KC); (case side2 => exact HC0.out); rintro e w' ⟨rfl, ⟨nd, rfl⟩⟩; refine ⟨_, rfl, ?_⟩) | ((with_reducible refine gate_callee (f := 20) rfl ?_); refine goesL_ (some 15) rfl rfl Tryd.func20 (by kernel_rfl) rfl #[.slice A0 l0.length c0] rfl KL ?_; (with_reducible refine (spec_DrawPlaceRead.calls k _ _ l0 t238 _ ?side1 ?side2 A4.out).mono ?_); (case side1 => exact KC); (case side2 => exact HC0.out); rintro e w26 ⟨rfl, hb⟩; refine ⟨_, rfl, ?_⟩; have n0_ := Aside0.mk (below_step KB hb); clear HB; have HB := n0_; clear n0_; (try clear hb); (try clear hb2); (try clear hk); (try clear hi)) | ((with_reducible refine gate_callee (f := 10) rfl ?_); refine goesL_ (some 18) rfl rfl Tryd.func10 (by kernel_rfl) rfl #[.string t238] rfl KL ?_; (with_reducible refine (impl_PlaceRead.calls t238 t239 true _ A5.out (KGl hGl)).mono ?_); rintro e w27 ⟨rfl, hb⟩; refine ⟨_, rfl, ?_⟩; have n0_ := Aside0.mk (below_step KB hb); clear HB; have HB := n0_; clear n0_; (try clear hb); (try clear hb2); (try clear hk); (try clear hi)) | ((with_reducible refine gate_callee (f := 9) rfl ?_); refine goesL_ (some 23) rfl rfl Tryd.func9 (by kernel_rfl) rfl #[.string t238] rfl KL ?_; (with_reducible refine (spec_PlaceRead.calls k t238 t241 t242 _ A6.out).mono ?_); rintro e w28 ⟨rfl, hb⟩; refine ⟨_, rfl, ?_⟩; have n0_ := Aside0.mk (below_step KB hb); clear HB; have HB := n0_; clear n0_; (try clear hb); (try clear hb2); (try clear hk); (try clear hi)) | ((with_reducible refine gate_callee (f := 18) rfl ?_); refine goesL_ (some 35) rfl rfl Tryd.func18 (by kernel_rfl) rfl #[.int .i64 t239] rfl KL ?_; (with_reducible refine (impl_EpochOf.calls t239 t243 _ A9.out).mono ?_); rintro e w' ⟨rfl, ⟨nd, rfl⟩⟩; refine ⟨_, rfl, ?_⟩) | ((with_reducible refine gate_callee (f := 19) rfl ?_); refine goesL_ (some 37) rfl rfl Tryd.func19 (by kernel_rfl) rfl #[.int .i64 t239] rfl KL ?_; (with_reducible refine (impl_OffOf.calls t239 t244 _ A10.out).mono ?_); rintro e w' ⟨rfl, ⟨nd, rfl⟩⟩; refine ⟨_, rfl, ?_⟩) | ((with_reducible refine gate_callee (f := 13) rfl ?_); refine goesL_ (some 39) rfl rfl Tryd.func13 (by kernel_rfl) rfl #[.int .i64 t243, .int .i64 (wrap64 (t244 - 1))] rfl KL ?_; (with_reducible refine (impl_PlaceMake.calls t243 (wrap64 (t244 - 1)) t245 false _ A11.out).mono ?_); rintro e w' ⟨rfl, ⟨nd, rfl⟩⟩; refine ⟨_, rfl, ?_⟩) | ((with_reducible refine gate_callee (f := 18) rfl ?_); refine goesL_ (some 44) rfl rfl Tryd.func18 (by kernel_rfl) rfl #[.int .i64 t239] rfl KL ?_; (with_reducible refine (impl_EpochOf.calls t239 t247 _ A12.out).mono ?_); rintro e w' ⟨rfl, ⟨nd, rfl⟩⟩; refine ⟨_, rfl, ?_⟩) | ((with_reducible refine gate_callee (f := 13) rfl ?_); refine goesL_ (some 46) rfl rfl Tryd.func13 (by kernel_rfl) rfl #[.int .i64 (wrap64 (t247 - 1)), .int .i64 60] rfl KL ?_; (with_reducible refine (impl_PlaceMake.calls (wrap64 (t247 - 1)) 60 t248 true _ A13.out).mono ?_); rintro e w' ⟨rfl, ⟨nd, rfl⟩⟩; refine ⟨_, rfl, ?_⟩) | ((with_reducible refine gate_callee (f := 8) rfl ?_); refine goesL_ (some 50) rfl rfl Tryd.func8 (by kernel_rfl) rfl #[.int .i64 t239] rfl KL ?_; (with_reducible refine (impl_PlaceText.calls t239 t250 _ A14.out).mono ?_); rintro e w' ⟨rfl, ⟨nd, rfl⟩⟩; refine ⟨_, rfl, ?_⟩))
       go_ret
       exact ⟨KE, KB⟩
      ·replace c25 := Bool.eq_false_iff.mpr c25
       subst c25
       have H1 : (some true) = some r := by rw [if_neg (show ¬ (false = true) by decide)] at H; exact H
       clear H
       have H := H1
       clear H1
       obtain rfl := Option.some.inj H
       go_enter Tryd.func6, Tryd.ntmps6
       go_wp2_with (first | ((with_reducible refine gate_callee (f := 11) rfl ?_); refine goesL_ (some 13) rfl rfl Tryd.func11 (by kernel_rfl) rfl #[.slice A0 l0.length c0] rfl KL ?_; (with_reducible refine (laws_big.calls _ _ l0 false _ ?side1 ?side2 A2.out).mono ?_); (case side1 => exact KC); (case side2 => exact HC0.out); rintro e w' ⟨rfl, ⟨nd, rfl⟩⟩; refine ⟨_, rfl, ?_⟩) | ((with_reducible refine gate_callee (f := 20) rfl ?_); refine goesL_ (some 15) rfl rfl Tryd.func20 (by kernel_rfl) rfl #[.slice A0 l0.length c0] rfl KL ?_; (with_reducible refine (spec_DrawPlaceRead.calls k _ _ l0 t238 _ ?side1 ?side2 A4.out).mono ?_); (case side1 => exact KC); (case side2 => exact HC0.out); rintro e w29 ⟨rfl, hb⟩; refine ⟨_, rfl, ?_⟩; have n0_ := Aside0.mk (below_step KB hb); clear HB; have HB := n0_; clear n0_; (try clear hb); (try clear hb2); (try clear hk); (try clear hi)) | ((with_reducible refine gate_callee (f := 10) rfl ?_); refine goesL_ (some 18) rfl rfl Tryd.func10 (by kernel_rfl) rfl #[.string t238] rfl KL ?_; (with_reducible refine (impl_PlaceRead.calls t238 t239 true _ A5.out (KGl hGl)).mono ?_); rintro e w30 ⟨rfl, hb⟩; refine ⟨_, rfl, ?_⟩; have n0_ := Aside0.mk (below_step KB hb); clear HB; have HB := n0_; clear n0_; (try clear hb); (try clear hb2); (try clear hk); (try clear hi)) | ((with_reducible refine gate_callee (f := 9) rfl ?_); refine goesL_ (some 23) rfl rfl Tryd.func9 (by kernel_rfl) rfl #[.string t238] rfl KL ?_; (with_reducible refine (spec_PlaceRead.calls k t238 t241 t242 _ A6.out).mono ?_); rintro e w31 ⟨rfl, hb⟩; refine ⟨_, rfl, ?_⟩; have n0_ := Aside0.mk (below_step KB hb); clear HB; have HB := n0_; clear n0_; (try clear hb); (try clear hb2); (try clear hk); (try clear hi)) | ((with_reducible refine gate_callee (f := 18) rfl ?_); refine goesL_ (some 35) rfl rfl Tryd.func18 (by kernel_rfl) rfl #[.int .i64 t239] rfl KL ?_; (with_reducible refine (impl_EpochOf.calls t239 t243 _ A9.out).mono ?_); rintro e w' ⟨rfl, ⟨nd, rfl⟩⟩; refine ⟨_, rfl, ?_⟩) | ((with_reducible refine gate_callee (f := 19) rfl ?_); refine goesL_ (some 37) rfl rfl Tryd.func19 (by kernel_rfl) rfl #[.int .i64 t239] rfl KL ?_; (with_reducible refine (impl_OffOf.calls t239 t244 _ A10.out).mono ?_); rintro e w' ⟨rfl, ⟨nd, rfl⟩⟩; refine ⟨_, rfl, ?_⟩) | ((with_reducible refine gate_callee (f := 13) rfl ?_); refine goesL_ (some 39) rfl rfl Tryd.func13 (by kernel_rfl) rfl #[.int .i64 t243, .int .i64 (wrap64 (t244 - 1))] rfl KL ?_; (with_reducible refine (impl_PlaceMake.calls t243 (wrap64 (t244 - 1)) t245 false _ A11.out).mono ?_); rintro e w' ⟨rfl, ⟨nd, rfl⟩⟩; refine ⟨_, rfl, ?_⟩) | ((with_reducible refine gate_callee (f := 18) rfl ?_); refine goesL_ (some 44) rfl rfl Tryd.func18 (by kernel_rfl) rfl #[.int .i64 t239] rfl KL ?_; (with_reducible refine (impl_EpochOf.calls t239 t247 _ A12.out).mono ?_); rintro e w' ⟨rfl, ⟨nd, rfl⟩⟩; refine ⟨_, rfl, ?_⟩) | ((with_reducible refine gate_callee (f := 13) rfl ?_); refine goesL_ (some 46) rfl rfl Tryd.func13 (by kernel_rfl) rfl #[.int .i64 (wrap64 (t247 - 1)), .int .i64 60] rfl KL ?_; (with_reducible refine (impl_PlaceMake.calls (wrap64 (t247 - 1)) 60 t248 false _ A13.out).mono ?_); rintro e w' ⟨rfl, ⟨nd, rfl⟩⟩; refine ⟨_, rfl, ?_⟩) | ((with_reducible refine gate_callee (f := 8) rfl ?_); refine goesL_ (some 50) rfl rfl Tryd.func8 (by kernel_rfl) rfl #[.int .i64 t239] rfl KL ?_; (with_reducible refine (impl_PlaceText.calls t239 t250 _ A14.out).mono ?_); rintro e w' ⟨rfl, ⟨nd, rfl⟩⟩; refine ⟨_, rfl, ?_⟩))
       go_ret
       exact ⟨KE, KB⟩
    ·rw [if_neg c15] at H
     exact absurd H (by simp)
   ·replace c8 := Bool.eq_false_iff.mpr c8
    subst c8
    have H1 : (some (t239 == 0)) = some r := by rw [if_neg (show ¬ (false = true) by decide)] at H; exact H
    clear H
    have H := H1
    clear H1
    obtain rfl := Option.some.inj H
    go_enter Tryd.func6, Tryd.ntmps6
    go_wp2_with (first | ((with_reducible refine gate_callee (f := 11) rfl ?_); refine goesL_ (some 13) rfl rfl Tryd.func11 (by kernel_rfl) rfl #[.slice A0 l0.length c0] rfl KL ?_; (with_reducible refine (laws_big.calls _ _ l0 false _ ?side1 ?side2 A2.out).mono ?_); (case side1 => exact KC); (case side2 => exact HC0.out); rintro e w' ⟨rfl, ⟨nd, rfl⟩⟩; refine ⟨_, rfl, ?_⟩) | ((with_reducible refine gate_callee (f := 20) rfl ?_); refine goesL_ (some 15) rfl rfl Tryd.func20 (by kernel_rfl) rfl #[.slice A0 l0.length c0] rfl KL ?_; (with_reducible refine (spec_DrawPlaceRead.calls k _ _ l0 t238 _ ?side1 ?side2 A4.out).mono ?_); (case side1 => exact KC); (case side2 => exact HC0.out); rintro e w32 ⟨rfl, hb⟩; refine ⟨_, rfl, ?_⟩; have n0_ := Aside0.mk (below_step KB hb); clear HB; have HB := n0_; clear n0_; (try clear hb); (try clear hb2); (try clear hk); (try clear hi)) | ((with_reducible refine gate_callee (f := 10) rfl ?_); refine goesL_ (some 18) rfl rfl Tryd.func10 (by kernel_rfl) rfl #[.string t238] rfl KL ?_; (with_reducible refine (impl_PlaceRead.calls t238 t239 false _ A5.out (KGl hGl)).mono ?_); rintro e w33 ⟨rfl, hb⟩; refine ⟨_, rfl, ?_⟩; have n0_ := Aside0.mk (below_step KB hb); clear HB; have HB := n0_; clear n0_; (try clear hb); (try clear hb2); (try clear hk); (try clear hi)) | ((with_reducible refine gate_callee (f := 9) rfl ?_); refine goesL_ (some 23) rfl rfl Tryd.func9 (by kernel_rfl) rfl #[.string t238] rfl KL ?_; (with_reducible refine (spec_PlaceRead.calls k t238 t241 t242 _ A6.out).mono ?_); rintro e w34 ⟨rfl, hb⟩; refine ⟨_, rfl, ?_⟩; have n0_ := Aside0.mk (below_step KB hb); clear HB; have HB := n0_; clear n0_; (try clear hb); (try clear hb2); (try clear hk); (try clear hi)))
    go_ret
    exact ⟨KE, KB⟩

/-- THE ONE PURE STATEMENT of laws_FnPlaceText: yours. -/
def laws_FnPlaceText.Pure : Prop := ∀ (l0 : List Int), l0.length ≤ maxLen → l0.length * 1 ≤ 140737488351232 → (∀ x ∈ l0, (Lit.int .u8 x).wf = true) → ∃ k, laws_FnPlaceText.f k l0 = some true
theorem laws_FnPlaceText.walk (P : laws_FnPlaceText.Pure) (a0 : Option Addr) (len0 cap0 : Nat) (z0 : List Int) (w : World) (w0 : (a0 = none ∧ len0 = 0 ∧ cap0 = 0 ∧ z0 = []) ∨ ∃ x, a0 = some x ∧ len0 ≤ cap0 ∧ cap0 ≤ maxLen ∧ z0.length = cap0 ∧ (∀ i, i < z0.length → w.cell? (x.add i) = some (.int .u8 (z0.getD i 0))) ∧ ∀ n ∈ z0, (Lit.int .u8 n).wf = true) (y0 : len0 * 1 ≤ 140737488351232) (hGl : Gl w) :
  Calls Tryd.prog 6 #[.slice a0 len0 cap0] w fun e w' => e = .returned (.bool true) ∧ Below w.heap.size w w' := by
 obtain ⟨l0, rfl, hr0, hm0, hw0, hc0⟩ := ReadsInt.ofRowC w0
 obtain ⟨k, h⟩ := P l0 hm0 y0 hw0
 refine (laws_FnPlaceText.calls k _ _ l0 true w (Kd.C_of_reads (d := (0 : Int)) (h1 := fun _ => rfl) hr0) hc0 h hGl).mono ?_
 rintro e w' ⟨rfl, hd⟩
 exact ⟨rfl, hd⟩

end Go.Proofs.YtlmmbmhambkjlaaDoor.PFnPlaceText
