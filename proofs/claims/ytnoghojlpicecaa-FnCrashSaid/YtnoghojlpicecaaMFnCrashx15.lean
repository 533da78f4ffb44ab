-- What each Go function that this law reaches comes to: written by a program out of the translation.
import Derived.Test.YtnoghojlpicecaaMFnCrashx0
import Derived.Test.YtnoghojlpicecaaMFnCrashx1
import Derived.Test.YtnoghojlpicecaaMFnCrashx2
import Derived.Test.YtnoghojlpicecaaMFnCrashx6
import Derived.Test.YtnoghojlpicecaaMFnCrashx10
import Derived.Test.YtnoghojlpicecaaMFnCrashx12
import Derived.Test.YtnoghojlpicecaaMFnCrashx14
namespace Go.Proofs.Ytnoghojlpicecaa.PFnCrash
open Go.RowKit Go.Proofs.YtnoghojlpicecaaW.PrintWords Go.Proofs.YtnoghojlpicecaaW.PrintLast Go.Proofs.YtnoghojlpicecaaW.PrintMore
attribute [local go_sem] max2_int min2_int max_two min_two max_three min_three max_four min_four   -- for this text's walks alone
set_option linter.unusedVariables false
set_option linter.unusedSimpArgs false

attribute [local go_sem high] eqA35
/-! ### laws_FnCrash: function 6 -/
mutual
def laws_FnCrash.l0 : Nat → Int → List (S35) → List (S35) → Int → List (S35) → List (S35) → Int → Option (Bool)
 | 0, _, _, _, _, _, _, _ => none
 | k + 1, x9, x615000, x615001, x615002, x624000, x624001, x624002 => if x9 < (x624000.length : Int) then (if 0 ≤ x9 then ((spec_StoreGet.f k x615000 x615001 x615002 ((rd_T35 x624000 x9).f0)).bind fun bt635 => (if bt635.2.2.2.2 = true then (laws_FnCrash.j1 k x9 (bt635.1 == ((rd_T35 x624000 x9).f0) && (bt635.2.1 == ((rd_T35 x624000 x9).f1) && (bt635.2.2.1 == ((rd_T35 x624000 x9).f2) && (bt635.2.2.2.1.toList == (((rd_T35 x624000 x9).f3).toList))))) x615000 x615001 x615002 x624000 x624001 x624002) else (laws_FnCrash.j1 k x9 false x615000 x615001 x615002 x624000 x624001 x624002))) else (none)) else (if (x624001.length : Int) = 0 then (if (x624000.length : Int) ≥ (x615000.length : Int) then (if x624002 = x615002 then ((impl_StoreOk.f k x624000 x624001 x624002).bind fun t633 => (some t633)) else (none)) else (none)) else (none))
def laws_FnCrash.j1 : Nat → Int → Bool → List (S35) → List (S35) → Int → List (S35) → List (S35) → Int → Option (Bool)
 | 0, _, _, _, _, _, _, _, _ => none
 | k + 1, x9, x12, x615000, x615001, x615002, x624000, x624001, x624002 => laws_FnCrash.l1 k x9 x12 0 x615000 x615001 x615002 x624000 x624001 x624002
def laws_FnCrash.l1 : Nat → Int → Bool → Int → List (S35) → List (S35) → Int → List (S35) → List (S35) → Int → Option (Bool)
 | 0, _, _, _, _, _, _, _, _, _ => none
 | k + 1, x9, x12, x13, x615000, x615001, x615002, x624000, x624001, x624002 => if x13 < (x615001.length : Int) then (if x12 = true then (laws_FnCrash.l1 k x9 true (wrap64 (x13 + 1)) x615000 x615001 x615002 x624000 x624001 x624002) else (if 0 ≤ x13 then (if 0 ≤ x9 then (if x9 < (x624000.length : Int) then (laws_FnCrash.l1 k x9 (((rd_T35 x615001 x13).f0) == ((rd_T35 x624000 x9).f0) && (((rd_T35 x615001 x13).f1) == ((rd_T35 x624000 x9).f1) && (((rd_T35 x615001 x13).f2) == ((rd_T35 x624000 x9).f2) && ((((rd_T35 x615001 x13).f3).toList) == (((rd_T35 x624000 x9).f3).toList))))) (wrap64 (x13 + 1)) x615000 x615001 x615002 x624000 x624001 x624002) else (none)) else (none)) else (none))) else (if x12 = true then (laws_FnCrash.l0 k (wrap64 (x9 + 1)) x615000 x615001 x615002 x624000 x624001 x624002) else (none))
end
def laws_FnCrash.f (k : Nat) (l0 : List Int) : Option (Bool) := (laws_big.f l0).bind fun t605 => (if t605 = true then (some true) else ((spec_DrawStoreCrash.f k l0).bind fun bt606 => ((impl_StoreCrash.f k bt606.1 bt606.2.1 bt606.2.2.1 bt606.2.2.2).bind fun bt615 => ((spec_StoreCrash.f k bt606.1 bt606.2.1 bt606.2.2.1 bt606.2.2.2).bind fun bt624 => (if (bt615.2.2.2 != bt624.2.2.2) = true then (none) else (if bt615.2.2.2 = true then (laws_FnCrash.l0 k 0 bt606.1 bt606.2.1 bt606.2.2.1 bt615.1 bt615.2.1 bt615.2.2.1) else (if (bt615.2.1.length : Int) = (bt606.2.1.length : Int) then (some true) else (some ((bt615.1.length : Int) == 0)))))))))
theorem laws_FnCrash.mono_l : ∀ k, (∀ y0 y1 y2 y3 y4 y5 y6, LeO (laws_FnCrash.l0 k y0 y1 y2 y3 y4 y5 y6) (laws_FnCrash.l0 (k + 1) y0 y1 y2 y3 y4 y5 y6)) ∧ (∀ y0 y1 y2 y3 y4 y5 y6 y7, LeO (laws_FnCrash.j1 k y0 y1 y2 y3 y4 y5 y6 y7) (laws_FnCrash.j1 (k + 1) y0 y1 y2 y3 y4 y5 y6 y7)) ∧ (∀ y0 y1 y2 y3 y4 y5 y6 y7 y8, LeO (laws_FnCrash.l1 k y0 y1 y2 y3 y4 y5 y6 y7 y8) (laws_FnCrash.l1 (k + 1) y0 y1 y2 y3 y4 y5 y6 y7 y8))
 | 0 => ⟨fun _ _ _ _ _ _ _ r h => by simp [laws_FnCrash.l0] at h, fun _ _ _ _ _ _ _ _ r h => by simp [laws_FnCrash.j1] at h, fun _ _ _ _ _ _ _ _ _ r h => by simp [laws_FnCrash.l1] at h⟩
 | k + 1 => by
  obtain ⟨ih0, ih1, ih2⟩ := laws_FnCrash.mono_l k
  refine ⟨?_, ?_, ?_⟩
  ·intro y0 y1 y2 y3 y4 y5 y6
   unfold laws_FnCrash.l0
   repeat' first
   | (with_reducible exact ih0 _ _ _ _ _ _ _)
   | (with_reducible exact ih1 _ _ _ _ _ _ _ _)
   | (with_reducible exact ih2 _ _ _ _ _ _ _ _ _)
   | (with_reducible exact impl_StoreCrash.mono _ _ _ _ _)
   | (with_reducible exact impl_StoreOk.mono _ _ _ _)
   | (with_reducible exact spec_DrawStoreCrash.mono _ _)
   | (with_reducible exact spec_StoreCrash.mono _ _ _ _ _)
   | (with_reducible exact spec_StoreGet.mono _ _ _ _ _)
   | (with_reducible exact LeO.refl _)
   | (with_reducible exact LeO.none _)
   | (with_reducible refine LeO.ite ?_ ?_)
   | (with_reducible refine LeO.bind ?_ (fun _ => ?_))
   | exact ih0 _ _ _ _ _ _ _
   | exact ih1 _ _ _ _ _ _ _ _
   | exact ih2 _ _ _ _ _ _ _ _ _
   | exact impl_StoreCrash.mono _ _ _ _ _
   | exact impl_StoreOk.mono _ _ _ _
   | exact spec_DrawStoreCrash.mono _ _
   | exact spec_StoreCrash.mono _ _ _ _ _
   | exact spec_StoreGet.mono _ _ _ _ _
   | exact LeO.none _
   | refine LeO.ite ?_ ?_
   | refine LeO.bind ?_ (fun _ => ?_)
  ·intro y0 y1 y2 y3 y4 y5 y6 y7
   unfold laws_FnCrash.j1
   repeat' first
   | (with_reducible exact ih0 _ _ _ _ _ _ _)
   | (with_reducible exact ih1 _ _ _ _ _ _ _ _)
   | (with_reducible exact ih2 _ _ _ _ _ _ _ _ _)
   | (with_reducible exact impl_StoreCrash.mono _ _ _ _ _)
   | (with_reducible exact impl_StoreOk.mono _ _ _ _)
   | (with_reducible exact spec_DrawStoreCrash.mono _ _)
   | (with_reducible exact spec_StoreCrash.mono _ _ _ _ _)
   | (with_reducible exact spec_StoreGet.mono _ _ _ _ _)
   | (with_reducible exact LeO.refl _)
   | (with_reducible exact LeO.none _)
   | (with_reducible refine LeO.ite ?_ ?_)
   | (with_reducible refine LeO.bind ?_ (fun _ => ?_))
   | exact ih0 _ _ _ _ _ _ _
   | exact ih1 _ _ _ _ _ _ _ _
   | exact ih2 _ _ _ _ _ _ _ _ _
   | exact impl_StoreCrash.mono _ _ _ _ _
   | exact impl_StoreOk.mono _ _ _ _
   | exact spec_DrawStoreCrash.mono _ _
   | exact spec_StoreCrash.mono _ _ _ _ _
   | exact spec_StoreGet.mono _ _ _ _ _
   | exact LeO.none _
   | refine LeO.ite ?_ ?_
   | refine LeO.bind ?_ (fun _ => ?_)
  ·intro y0 y1 y2 y3 y4 y5 y6 y7 y8
   unfold laws_FnCrash.l1
   repeat' first
   | (with_reducible exact ih0 _ _ _ _ _ _ _)
   | (with_reducible exact ih1 _ _ _ _ _ _ _ _)
   | (with_reducible exact ih2 _ _ _ _ _ _ _ _ _)
   | (with_reducible exact impl_StoreCrash.mono _ _ _ _ _)
   | (with_reducible exact impl_StoreOk.mono _ _ _ _)
   | (with_reducible exact spec_DrawStoreCrash.mono _ _)
   | (with_reducible exact spec_StoreCrash.mono _ _ _ _ _)
   | (with_reducible exact spec_StoreGet.mono _ _ _ _ _)
   | (with_reducible exact LeO.refl _)
   | (with_reducible exact LeO.none _)
   | (with_reducible refine LeO.ite ?_ ?_)
   | (with_reducible refine LeO.bind ?_ (fun _ => ?_))
   | exact ih0 _ _ _ _ _ _ _
   | exact ih1 _ _ _ _ _ _ _ _
   | exact ih2 _ _ _ _ _ _ _ _ _
   | exact impl_StoreCrash.mono _ _ _ _ _
   | exact impl_StoreOk.mono _ _ _ _
   | exact spec_DrawStoreCrash.mono _ _
   | exact spec_StoreCrash.mono _ _ _ _ _
   | exact spec_StoreGet.mono _ _ _ _ _
   | exact LeO.none _
   | refine LeO.ite ?_ ?_
   | refine LeO.bind ?_ (fun _ => ?_)
theorem laws_FnCrash.mono : ∀ a0 k, LeO (laws_FnCrash.f k a0) (laws_FnCrash.f (k + 1) a0) := by
 intro a0 k
 obtain ⟨ih0, ih1, ih2⟩ := laws_FnCrash.mono_l k
 unfold laws_FnCrash.f
 repeat' first
   | (with_reducible exact ih0 _ _ _ _ _ _ _)
   | (with_reducible exact ih1 _ _ _ _ _ _ _ _)
   | (with_reducible exact ih2 _ _ _ _ _ _ _ _ _)
   | (with_reducible exact impl_StoreCrash.mono _ _ _ _ _)
   | (with_reducible exact impl_StoreOk.mono _ _ _ _)
   | (with_reducible exact spec_DrawStoreCrash.mono _ _)
   | (with_reducible exact spec_StoreCrash.mono _ _ _ _ _)
   | (with_reducible exact spec_StoreGet.mono _ _ _ _ _)
   | (with_reducible exact LeO.refl _)
   | (with_reducible exact LeO.none _)
   | (with_reducible refine LeO.ite ?_ ?_)
   | (with_reducible refine LeO.bind ?_ (fun _ => ?_))
   | exact ih0 _ _ _ _ _ _ _
   | exact ih1 _ _ _ _ _ _ _ _
   | exact ih2 _ _ _ _ _ _ _ _ _
   | exact impl_StoreCrash.mono _ _ _ _ _
   | exact impl_StoreOk.mono _ _ _ _
   | exact spec_DrawStoreCrash.mono _ _
   | exact spec_StoreCrash.mono _ _ _ _ _
   | exact spec_StoreGet.mono _ _ _ _ _
   | exact LeO.none _
   | refine LeO.ite ?_ ?_
   | refine LeO.bind ?_ (fun _ => ?_)
def laws_FnCrash.T13 : Bool × List (List Nat × List Nat) := (true, [([], []), ([], []), ([1], [1]), ([], []), ([2, 3], [2, 3]), ([4], [4]), ([5], [5]), ([0, 6], [0, 6]), ([7], [7]), ([8], [8]), ([8], [8]), ([], []), ([11, 9, 7, 0, 1, 2, 3, 4, 5, 6, 7, 8, 9, 11], [9, 11]), ([10, 12, 0, 1, 2, 3, 4, 5, 6, 7, 8, 9, 10, 11, 12], [10])])
def laws_FnCrash.B13 : List Nat := [0, 0, 2, 0, 14, 30, 62, 127, 255, 511, 511, 0, 3071, 8191]
theorem laws_FnCrash.tab13 : rtab .any (opsOf Try.f6 13) = laws_FnCrash.T13 := by kernel_rfl
theorem laws_FnCrash.bits13 : waitsOk laws_FnCrash.T13.2 laws_FnCrash.B13 = true := by kernel_rfl
def laws_FnCrash.T14 : Bool × List (List Nat × List Nat) := (true, [([], []), ([0], [0]), ([1], [1]), ([1], [1]), ([3, 1], [1, 3]), ([1], [1]), ([4, 5, 1], [1, 4, 5]), ([6, 1], [1, 6]), ([2, 7, 1], [1, 2, 7]), ([1, 8], [1, 8]), ([9, 1, 0, 1, 2, 3, 4, 5, 6, 7, 8, 9], [9])])
def laws_FnCrash.B14 : List Nat := [0, 1, 3, 3, 11, 3, 59, 123, 255, 511, 1023]
theorem laws_FnCrash.tab14 : rtab .any (opsOf Try.f6 14) = laws_FnCrash.T14 := by kernel_rfl
theorem laws_FnCrash.bits14 : waitsOk laws_FnCrash.T14.2 laws_FnCrash.B14 = true := by kernel_rfl
def laws_FnCrash.T18 : Bool × List (List Nat × List Nat) := (true, [([], []), ([0], [0]), ([1], [1]), ([2, 1], [1, 2]), ([1], [1]), ([3, 4, 1], [1, 3, 4]), ([5, 1], [1, 5]), ([1], [1]), ([7, 1], [1, 7]), ([1], [1]), ([8, 9, 1], [1, 8, 9]), ([10, 1], [1, 10]), ([6, 11, 1], [1, 6, 11]), ([1, 12], [1, 12]), ([13, 1, 0, 1, 2, 3, 4, 5, 6, 7, 8, 9, 10, 11, 12, 13], [0, 13])])
def laws_FnCrash.B18 : List Nat := [0, 1, 3, 7, 3, 31, 63, 3, 131, 3, 899, 1923, 4095, 8191, 16383]
theorem laws_FnCrash.tab18 : rtab .any (opsOf Try.f6 18) = laws_FnCrash.T18 := by kernel_rfl
theorem laws_FnCrash.bits18 : waitsOk laws_FnCrash.T18.2 laws_FnCrash.B18 = true := by kernel_rfl
set_option maxHeartbeats 8000000 in
set_option maxRecDepth 100000 in
theorem laws_FnCrash.calls (k : Nat) (A0 : Option Addr) (c0 : Nat) (l0 : List Int) (r : Bool) (w : World) (hr0 : Kd.C (Kd.int .u8) w A0 l0.length l0) (hc0 : l0.length ≤ c0) (h : laws_FnCrash.f k l0 = some r) :
  Calls Try.prog 6 #[.slice A0 l0.length c0] w fun e w' => e = .returned (.bool r) ∧ Below w.heap.size w w' := by
 have hu31 := Try.underlying31
 have hu35 := Try.underlying35
 have HR0 := Aside0.mk hr0
 have HC0 := Aside0.mk hc0
 clear hr0 hc0
 have HB := Aside0.mk (Below.refl w.heap.size w)
 have H : ((laws_big.f l0).bind fun t605 => (if t605 = true then (some true) else ((spec_DrawStoreCrash.f k l0).bind fun bt606 => ((impl_StoreCrash.f k bt606.1 bt606.2.1 bt606.2.2.1 bt606.2.2.2).bind fun bt615 => ((spec_StoreCrash.f k bt606.1 bt606.2.1 bt606.2.2.1 bt606.2.2.2).bind fun bt624 => (if (bt615.2.2.2 != bt624.2.2.2) = true then (none) else (if bt615.2.2.2 = true then (laws_FnCrash.l0 k 0 bt606.1 bt606.2.1 bt606.2.2.1 bt615.1 bt615.2.1 bt615.2.2.1) else (if (bt615.2.1.length : Int) = (bt606.2.1.length : Int) then (some true) else (some ((bt615.1.length : Int) == 0)))))))))) = some r := h
 clear h
 replace H := Option.bind_eq_some_iff.mp H
 obtain ⟨t605, A20, H⟩ := H
 replace H : (if t605 = true then (some true) else ((spec_DrawStoreCrash.f k l0).bind fun bt606 => ((impl_StoreCrash.f k bt606.1 bt606.2.1 bt606.2.2.1 bt606.2.2.2).bind fun bt615 => ((spec_StoreCrash.f k bt606.1 bt606.2.1 bt606.2.2.1 bt606.2.2.2).bind fun bt624 => (if (bt615.2.2.2 != bt624.2.2.2) = true then (none) else (if bt615.2.2.2 = true then (laws_FnCrash.l0 k 0 bt606.1 bt606.2.1 bt606.2.2.1 bt615.1 bt615.2.1 bt615.2.2.1) else (if (bt615.2.1.length : Int) = (bt606.2.1.length : Int) then (some true) else (some ((bt615.1.length : Int) == 0))))))))) = some r := H
 have A2 := Aside0.mk A20
 clear A20
 by_cases c3 : t605 = true
 ·subst c3
  have H1 : (some true) = some r := by rw [if_pos rfl] at H; exact H
  clear H
  have H := H1
  clear H1
  obtain rfl := Option.some.inj H
  go_enter Try.func6, Try.ntmps6
  go_wp2_with (first | ((with_reducible refine gate_callee (f := 20) rfl ?_); refine goesL_ (some 15) rfl rfl Try.func20 (by kernel_rfl) rfl #[.slice A0 l0.length c0] rfl KL ?_; (with_reducible refine (laws_big.calls _ _ l0 true _ ?side1 ?side2 A2.out).mono ?_); (case side1 => exact KC); (case side2 => exact HC0.out); rintro e w' ⟨rfl, ⟨nd, rfl⟩⟩; refine ⟨_, rfl, ?_⟩))
  go_ret
  exact ⟨KE, KB⟩
 ·replace c3 := Bool.eq_false_iff.mpr c3
  subst c3
  have H1 : ((spec_DrawStoreCrash.f k l0).bind fun bt606 => ((impl_StoreCrash.f k bt606.1 bt606.2.1 bt606.2.2.1 bt606.2.2.2).bind fun bt615 => ((spec_StoreCrash.f k bt606.1 bt606.2.1 bt606.2.2.1 bt606.2.2.2).bind fun bt624 => (if (bt615.2.2.2 != bt624.2.2.2) = true then (none) else (if bt615.2.2.2 = true then (laws_FnCrash.l0 k 0 bt606.1 bt606.2.1 bt606.2.2.1 bt615.1 bt615.2.1 bt615.2.2.1) else (if (bt615.2.1.length : Int) = (bt606.2.1.length : Int) then (some true) else (some ((bt615.1.length : Int) == 0)))))))) = some r := by rw [if_neg (show ¬ (false = true) by decide)] at H; exact H
  clear H
  have H := H1
  clear H1
  replace H := Option.bind_eq_some_iff.mp H
  obtain ⟨⟨t606, t609, t612, t613⟩, A40, H⟩ := H
  replace H : ((impl_StoreCrash.f k t606 t609 t612 t613).bind fun bt615 => ((spec_StoreCrash.f k t606 t609 t612 t613).bind fun bt624 => (if (bt615.2.2.2 != bt624.2.2.2) = true then (none) else (if bt615.2.2.2 = true then (laws_FnCrash.l0 k 0 t606 t609 t612 bt615.1 bt615.2.1 bt615.2.2.1) else (if (bt615.2.1.length : Int) = (t609.length : Int) then (some true) else (some ((bt615.1.length : Int) == 0))))))) = some r := H
  have A4 := Aside0.mk A40
  clear A40
  replace H := Option.bind_eq_some_iff.mp H
  obtain ⟨⟨t615, t618, t621, t622⟩, A50, H⟩ := H
  replace H : ((spec_StoreCrash.f k t606 t609 t612 t613).bind fun bt624 => (if (t622 != bt624.2.2.2) = true then (none) else (if t622 = true then (laws_FnCrash.l0 k 0 t606 t609 t612 t615 t618 t621) else (if (t618.length : Int) = (t609.length : Int) then (some true) else (some ((t615.length : Int) == 0)))))) = some r := H
  have A5 := Aside0.mk A50
  clear A50
  replace H := Option.bind_eq_some_iff.mp H
  obtain ⟨⟨t624, t627, t630, t631⟩, A60, H⟩ := H
  replace H : (if (t622 != t631) = true then (none) else (if t622 = true then (laws_FnCrash.l0 k 0 t606 t609 t612 t615 t618 t621) else (if (t618.length : Int) = (t609.length : Int) then (some true) else (some ((t615.length : Int) == 0))))) = some r := H
  have A6 := Aside0.mk A60
  clear A60
  by_cases c7 : (t622 != t631) = true
  ·rw [if_pos c7] at H
   exact absurd H (by simp)
  ·rw [if_neg c7] at H
   have c7b0 : (t622 != t631) = false := by simpa using c7
   (try (have c7b1 : decide (t622 = t631) = true := by simpa using c7))
   (try (have c7b2 : (t622 == t631) = true := by simpa using c7))
   clear c7
   by_cases c8 : t622 = true
   ·subst c8
    have H1 : (laws_FnCrash.l0 k 0 t606 t609 t612 t615 t618 t621) = some r := by rw [if_pos rfl] at H; exact H
    clear H
    have H := H1
    clear H1
    have H' := Aside0.mk H
    clear H
    go_enter Try.func6, Try.ntmps6
    go_wp2_with (first | ((with_reducible refine gate_callee (f := 20) rfl ?_); refine goesL_ (some 15) rfl rfl Try.func20 (by kernel_rfl) rfl #[.slice A0 l0.length c0] rfl KL ?_; (with_reducible refine (laws_big.calls _ _ l0 false _ ?side1 ?side2 A2.out).mono ?_); (case side1 => exact KC); (case side2 => exact HC0.out); rintro e w' ⟨rfl, ⟨nd, rfl⟩⟩; refine ⟨_, rfl, ?_⟩) | ((with_reducible refine gate_callee (f := 28) rfl ?_); refine goesL_ (some 18) rfl rfl Try.func28 (by kernel_rfl) rfl #[.slice A0 l0.length c0] rfl KL ?_; (with_reducible refine (spec_DrawStoreCrash.calls k _ _ l0 t606 t609 t612 t613 _ ?side1 ?side2 A4.out).mono ?_); (case side1 => exact KC); (case side2 => exact HC0.out); rintro e w9 ⟨v607, v610, rfl, ho0, ho1, hb⟩; refine ⟨_, rfl, ?_⟩; have h_ := P3 (Kd.R_lower ho0 (below_size KB)) (Kd.R_lower ho1 (below_size KB)) (below_step KB hb); clear HB; obtain ⟨HO608, HO611, HB⟩ := h_; (try clear hb); (try clear hk); (try clear hi); (try clear ho0); (try clear ho1)) | ((with_reducible refine gate_dst (N := 3) rfl ?_); (try (refine gate_guard (by rfl) ?_; dsimp only)); refine BE 3 #[.slice none 0 0, .slice none 0 0, .int .i64 0] 31 ?_; intro gb614 hg w10 hbox hb; have h_ := P6 (Kd.R_below (KR HO608.out) hb) (Kd.R_below (KR HO611.out) hb) (below_step KB hb) hbox (KG hg : w.heap.size ≤ gb614) (KG hg : w.heap.size ≤ gb614); clear HO608 HO611 HB; obtain ⟨HO608, HO611, HB, BK614, GW614, GE614⟩ := h_; clear hb hbox hg; obtain ⟨Ao11, co11, eo11⟩ := Kd.R_slice HO608.out; subst eo11; obtain ⟨hcz12_0, hcz12_1, hcz12_2, hfz12_0, hfz12_1, hfz12_2⟩ := C3 BK614.out; obtain ⟨Ao13, co13, eo13⟩ := Kd.R_slice HO611.out; subst eo13) | ((with_reducible refine gate_callee (f := 29) rfl ?_); refine goesL_ (some 24) rfl rfl Try.func29 (by kernel_rfl) rfl #[.agg #[.slice Ao11 t606.length co11, .slice Ao13 t609.length co13, .int .i64 t612], .int .i64 t613] rfl KL ?_; (with_reducible refine (impl_StoreCrash.calls k _ _ t606 _ _ t609 t612 t613 t615 t618 t621 true _ ?side1 ?side2 ?side3 ?side4 A5.out).mono ?_); (case side1 => refine (Kd.R_reads' (e := 35) (base := w.heap.size) (ok := fun k_ => some k_ ≠ (.slice Ao13 t609.length co13 : Value).ownBlock) (n := t606.length) (c := co11) ?_).2.2; exact (RQ (RT HO608.out BK614.out))); (case side2 => exact (Kd.R_reads' HO608.out).2.1); (case side3 => refine (Kd.R_reads' (e := 35) (base := w.heap.size) (ok := fun k_ => some k_ ≠ (.slice Ao11 t606.length co11 : Value).ownBlock) (n := t609.length) (c := co13) ?_).2.2; exact (RQ (RT HO611.out BK614.out))); (case side4 => exact (Kd.R_reads' HO611.out).2.1); rintro e w14 ⟨v616, v619, rfl, ho0, ho1, hb⟩; refine ⟨_, rfl, ?_⟩; have h_ := P6 (Kd.R_mono (Kd.R_told (Kd.R_told (Kd.R_old (RQ (RT HO608.out BK614.out)) hb) (Kd.R_base ho0)) (Kd.R_base ho1)) (fun _ h_ => h_.1)) (Kd.R_mono (Kd.R_told (Kd.R_told (Kd.R_old (RQ (RT HO611.out BK614.out)) hb) (Kd.R_base ho0)) (Kd.R_base ho1)) (fun _ h_ => h_.1)) (Kd.R_lower (Kd.R_new' (Kd.R_new' ho0 (Kd.R_lt (RQ (RT HO608.out BK614.out)))) (Kd.R_lt (RQ (RT HO611.out BK614.out)))) (below_size KB)) (Kd.R_lower (Kd.R_new' (Kd.R_new' ho1 (Kd.R_lt (RQ (RT HO608.out BK614.out)))) (Kd.R_lt (RQ (RT HO611.out BK614.out)))) (below_size KB)) (blk_below (g := gb614) (o := .cells #[.slice Ao11 t606.length co11, .slice Ao13 t609.length co13, .int .i64 t612] 31 (0, 0)) (by refine SK ?_; refine blk_put (cs := #[.slice Ao11 t606.length co11, .slice Ao13 t609.length co13, .int .i64 0]) ?_ 2 _ rfl; refine SK ?_; refine blk_put (cs := #[.slice Ao11 t606.length co11, .slice none 0 0, .int .i64 0]) ?_ 1 _ rfl; refine SK ?_; refine blk_put (cs := #[.slice none 0 0, .slice none 0 0, .int .i64 0]) ?_ 0 _ rfl; exact SK BK614.out) hb) (below_step KB hb); clear HO608 HO611 BK614 HB; obtain ⟨HO608, HO611, HO617, HO620, BK614, HB⟩ := h_; (try clear hb); (try clear hk); (try clear hi); (try clear ho0); (try clear ho1)) | ((with_reducible refine gate_dst (N := 5) rfl ?_); (try (refine gate_guard (by rfl) ?_; dsimp only)); refine BE 5 #[.slice none 0 0, .slice none 0 0, .int .i64 0] 31 ?_; intro gb623 hg w15 hbox hb; have h_ := P11 (Kd.R_below (KR HO608.out) hb) (Kd.R_below (KR HO611.out) hb) (Kd.R_below (KR HO617.out) hb) (Kd.R_below (KR HO620.out) hb) (BL BK614.out hb) (below_step KB hb) hbox (KG hg : w.heap.size ≤ gb623) (KG hg : w.heap.size ≤ gb623) (NX hg BK614.out) (Ne.symm (NX hg BK614.out)); clear HO608 HO611 HO617 HO620 BK614 HB; obtain ⟨HO608, HO611, HO617, HO620, BK614, HB, BK623, GW623, GE623, NB614_623, NB623_614⟩ := h_; clear hb hbox hg; obtain ⟨Ao16, co16, eo16⟩ := Kd.R_slice HO617.out; subst eo16; have hnb17 := NB623_614.out; have hnc17 := NB614_623.out; obtain ⟨hcz18_0, hcz18_1, hcz18_2, hfz18_0, hfz18_1, hfz18_2⟩ := C3 BK623.out; obtain ⟨Ao19, co19, eo19⟩ := Kd.R_slice HO620.out; subst eo19; obtain ⟨hcz20_0, hcz20_1, hcz20_2, hfz20_0, hfz20_1, hfz20_2⟩ := C3 BK614.out) | ((with_reducible refine gate_callee (f := 30) rfl ?_); refine goesL_ (some 30) rfl rfl Try.func30 (by kernel_rfl) rfl #[.agg #[.slice Ao11 t606.length co11, .slice Ao13 t609.length co13, .int .i64 t612], .int .i64 t613] rfl KL ?_; (with_reducible refine (spec_StoreCrash.calls k _ _ t606 _ _ t609 t612 t613 t624 t627 t630 t631 _ ?side1 ?side2 ?side3 ?side4 A6.out).mono ?_); (case side1 => refine (Kd.R_reads' (e := 35) (base := w.heap.size) (ok := fun k_ => ((some k_ ≠ (.slice Ao13 t609.length co13 : Value).ownBlock ∧ some k_ ≠ (.slice Ao16 t615.length co16 : Value).ownBlock) ∧ some k_ ≠ (.slice Ao19 t618.length co19 : Value).ownBlock)) (n := t606.length) (c := co11) ?_).2.2; exact (RQ (RT HO608.out BK623.out))); (case side2 => exact (Kd.R_reads' HO608.out).2.1); (case side3 => refine (Kd.R_reads' (e := 35) (base := w.heap.size) (ok := fun k_ => ((some k_ ≠ (.slice Ao11 t606.length co11 : Value).ownBlock ∧ some k_ ≠ (.slice Ao16 t615.length co16 : Value).ownBlock) ∧ some k_ ≠ (.slice Ao19 t618.length co19 : Value).ownBlock)) (n := t609.length) (c := co13) ?_).2.2; exact (RQ (RT HO611.out BK623.out))); (case side4 => exact (Kd.R_reads' HO611.out).2.1); rintro e w21 ⟨v625, v628, rfl, ho0, ho1, hb⟩; refine ⟨_, rfl, ?_⟩; have h_ := P9 (Kd.R_mono (Kd.R_told (Kd.R_told (Kd.R_old (RQ (RT HO608.out BK623.out)) hb) (Kd.R_base ho0)) (Kd.R_base ho1)) (fun _ h_ => h_.1)) (Kd.R_mono (Kd.R_told (Kd.R_told (Kd.R_old (RQ (RT HO611.out BK623.out)) hb) (Kd.R_base ho0)) (Kd.R_base ho1)) (fun _ h_ => h_.1)) (Kd.R_mono (Kd.R_told (Kd.R_told (Kd.R_old (RQ (RT HO617.out BK623.out)) hb) (Kd.R_base ho0)) (Kd.R_base ho1)) (fun _ h_ => h_.1)) (Kd.R_mono (Kd.R_told (Kd.R_told (Kd.R_old (RQ (RT HO620.out BK623.out)) hb) (Kd.R_base ho0)) (Kd.R_base ho1)) (fun _ h_ => h_.1)) (Kd.R_lower (Kd.R_new' (Kd.R_new' (Kd.R_new' (Kd.R_new' ho0 (Kd.R_lt (RQ (RT HO608.out BK623.out)))) (Kd.R_lt (RQ (RT HO611.out BK623.out)))) (Kd.R_lt (RQ (RT HO617.out BK623.out)))) (Kd.R_lt (RQ (RT HO620.out BK623.out)))) (below_size KB)) (Kd.R_lower (Kd.R_new' (Kd.R_new' (Kd.R_new' (Kd.R_new' ho1 (Kd.R_lt (RQ (RT HO608.out BK623.out)))) (Kd.R_lt (RQ (RT HO611.out BK623.out)))) (Kd.R_lt (RQ (RT HO617.out BK623.out)))) (Kd.R_lt (RQ (RT HO620.out BK623.out)))) (below_size KB)) (BL BK614.out hb) (blk_below (g := gb623) (o := .cells #[.slice Ao16 t615.length co16, .slice Ao19 t618.length co19, .int .i64 t621] 31 (0, 0)) (by refine SK ?_; refine blk_put (cs := #[.slice Ao16 t615.length co16, .slice Ao19 t618.length co19, .int .i64 0]) ?_ 2 _ rfl; refine SK ?_; refine blk_put (cs := #[.slice Ao16 t615.length co16, .slice none 0 0, .int .i64 0]) ?_ 1 _ rfl; refine SK ?_; refine blk_put (cs := #[.slice none 0 0, .slice none 0 0, .int .i64 0]) ?_ 0 _ rfl; exact SK BK623.out) hb) (below_step KB hb); clear HO608 HO611 HO617 HO620 BK614 BK623 HB; obtain ⟨HO608, HO611, HO617, HO620, HO626, HO629, BK614, BK623, HB⟩ := h_; (try clear hb); (try clear hk); (try clear hi); (try clear ho0); (try clear ho1)) | ((with_reducible refine gate_dst (N := 7) rfl ?_); (try (refine gate_guard (by rfl) ?_; dsimp only)); refine BE 7 #[.slice none 0 0, .slice none 0 0, .int .i64 0] 31 ?_; intro gb632 hg w22 hbox hb; have h_ := P16 (Kd.R_below (KR HO608.out) hb) (Kd.R_below (KR HO611.out) hb) (Kd.R_below (KR HO617.out) hb) (Kd.R_below (KR HO620.out) hb) (Kd.R_below (KR HO626.out) hb) (Kd.R_below (KR HO629.out) hb) (BL BK614.out hb) (BL BK623.out hb) (below_step KB hb) hbox (KG hg : w.heap.size ≤ gb632) (KG hg : w.heap.size ≤ gb632) (NX hg BK614.out) (Ne.symm (NX hg BK614.out)) (NX hg BK623.out) (Ne.symm (NX hg BK623.out)); clear HO608 HO611 HO617 HO620 HO626 HO629 BK614 BK623 HB; obtain ⟨HO608, HO611, HO617, HO620, HO626, HO629, BK614, BK623, HB, BK632, GW632, GE632, NB614_632, NB632_614, NB623_632, NB632_623⟩ := h_; clear hb hbox hg; obtain ⟨Ao23, co23, eo23⟩ := Kd.R_slice HO626.out; subst eo23; have hnb24 := NB632_614.out; have hnc24 := NB614_632.out; have hnb25 := NB632_623.out; have hnc25 := NB623_632.out; obtain ⟨hcz26_0, hcz26_1, hcz26_2, hfz26_0, hfz26_1, hfz26_2⟩ := C3 BK632.out; obtain ⟨Ao27, co27, eo27⟩ := Kd.R_slice HO629.out; subst eo27))
    go_loopg [9] k (fun kq v9 w' => ∃ (x9_1 : Int), v9 = .int .i64 x9_1 ∧ Aside0 (laws_FnCrash.l0 kq x9_1 t606 t609 t612 t615 t618 t621 = some r) ∧ Aside0 (kq ≤ k) ∧ Aside0 (Kd.R k35 35 w' w.heap.size (fun k_ => some k_ ≠ ((.slice Ao13 t609.length co13) : Value).ownBlock ∧ some k_ ≠ ((.slice Ao16 t615.length co16) : Value).ownBlock ∧ some k_ ≠ ((.slice Ao19 t618.length co19) : Value).ownBlock ∧ some k_ ≠ ((.slice Ao23 t624.length co23) : Value).ownBlock ∧ some k_ ≠ ((.slice Ao27 t627.length co27) : Value).ownBlock) (.slice Ao11 t606.length co11) t606) ∧ Aside0 (Kd.R k35 35 w' w.heap.size (fun k_ => some k_ ≠ ((.slice Ao11 t606.length co11) : Value).ownBlock ∧ some k_ ≠ ((.slice Ao16 t615.length co16) : Value).ownBlock ∧ some k_ ≠ ((.slice Ao19 t618.length co19) : Value).ownBlock ∧ some k_ ≠ ((.slice Ao23 t624.length co23) : Value).ownBlock ∧ some k_ ≠ ((.slice Ao27 t627.length co27) : Value).ownBlock) (.slice Ao13 t609.length co13) t609) ∧ Aside0 (Kd.R k35 35 w' w.heap.size (fun k_ => some k_ ≠ ((.slice Ao11 t606.length co11) : Value).ownBlock ∧ some k_ ≠ ((.slice Ao13 t609.length co13) : Value).ownBlock ∧ some k_ ≠ ((.slice Ao19 t618.length co19) : Value).ownBlock ∧ some k_ ≠ ((.slice Ao23 t624.length co23) : Value).ownBlock ∧ some k_ ≠ ((.slice Ao27 t627.length co27) : Value).ownBlock) (.slice Ao16 t615.length co16) t615) ∧ Aside0 (Kd.R k35 35 w' w.heap.size (fun k_ => some k_ ≠ ((.slice Ao11 t606.length co11) : Value).ownBlock ∧ some k_ ≠ ((.slice Ao13 t609.length co13) : Value).ownBlock ∧ some k_ ≠ ((.slice Ao16 t615.length co16) : Value).ownBlock ∧ some k_ ≠ ((.slice Ao23 t624.length co23) : Value).ownBlock ∧ some k_ ≠ ((.slice Ao27 t627.length co27) : Value).ownBlock) (.slice Ao19 t618.length co19) t618) ∧ Aside0 (Kd.R k35 35 w' w.heap.size (fun k_ => some k_ ≠ ((.slice Ao11 t606.length co11) : Value).ownBlock ∧ some k_ ≠ ((.slice Ao13 t609.length co13) : Value).ownBlock ∧ some k_ ≠ ((.slice Ao16 t615.length co16) : Value).ownBlock ∧ some k_ ≠ ((.slice Ao19 t618.length co19) : Value).ownBlock ∧ some k_ ≠ ((.slice Ao27 t627.length co27) : Value).ownBlock) (.slice Ao23 t624.length co23) t624) ∧ Aside0 (Kd.R k35 35 w' w.heap.size (fun k_ => some k_ ≠ ((.slice Ao11 t606.length co11) : Value).ownBlock ∧ some k_ ≠ ((.slice Ao13 t609.length co13) : Value).ownBlock ∧ some k_ ≠ ((.slice Ao16 t615.length co16) : Value).ownBlock ∧ some k_ ≠ ((.slice Ao19 t618.length co19) : Value).ownBlock ∧ some k_ ≠ ((.slice Ao23 t624.length co23) : Value).ownBlock) (.slice Ao27 t627.length co27) t627) ∧ Aside0 (w'.heap[gb614]? = some (.cells #[(.slice Ao11 t606.length co11), (.slice Ao13 t609.length co13), .int .i64 t612] 31 (0, 0))) ∧ Aside0 (w'.heap[gb623]? = some (.cells #[(.slice Ao16 t615.length co16), (.slice Ao19 t618.length co19), .int .i64 t621] 31 (0, 0))) ∧ Aside0 (w'.heap[gb632]? = some (.cells #[(.slice Ao23 t624.length co23), (.slice Ao27 t627.length co27), .int .i64 t630] 31 (0, 0))) ∧ Aside0 (Below w.heap.size w w'))
    case atStart => exact ⟨(0), (by first | rfl | (simp; done) | (simp [*]; done)), H', ⟨Nat.le_refl _⟩, ⟨by (with_reducible repeat (first | apply Kd.R_alloc | apply Kd.R_drewN | apply Kd.R_drew)); exact Kd.R_mono (Kd.R_far (p := ⟨gb632, 2, none⟩) (Kd.R_far (p := ⟨gb632, 1, none⟩) (Kd.R_far (p := ⟨gb632, 0, none⟩) (RT HO608.out BK632.out) (fun _ hk => hk.2) (.slice Ao23 t624.length co23)) (fun _ hk => hk.2) (.slice Ao27 t627.length co27)) (fun _ hk => hk.2) (.int .i64 t630)) (fun _ hk => ⟨hk.1.1.1.1.1, ⟨hk.1.1.1.1.2, ⟨hk.1.1.1.2, ⟨hk.1.1.2, hk.1.2⟩⟩⟩⟩)⟩, ⟨by (with_reducible repeat (first | apply Kd.R_alloc | apply Kd.R_drewN | apply Kd.R_drew)); exact Kd.R_mono (Kd.R_far (p := ⟨gb632, 2, none⟩) (Kd.R_far (p := ⟨gb632, 1, none⟩) (Kd.R_far (p := ⟨gb632, 0, none⟩) (RT HO611.out BK632.out) (fun _ hk => hk.2) (.slice Ao23 t624.length co23)) (fun _ hk => hk.2) (.slice Ao27 t627.length co27)) (fun _ hk => hk.2) (.int .i64 t630)) (fun _ hk => ⟨hk.1.1.1.1.1, ⟨hk.1.1.1.1.2, ⟨hk.1.1.1.2, ⟨hk.1.1.2, hk.1.2⟩⟩⟩⟩)⟩, ⟨by (with_reducible repeat (first | apply Kd.R_alloc | apply Kd.R_drewN | apply Kd.R_drew)); exact Kd.R_mono (Kd.R_far (p := ⟨gb632, 2, none⟩) (Kd.R_far (p := ⟨gb632, 1, none⟩) (Kd.R_far (p := ⟨gb632, 0, none⟩) (RT HO617.out BK632.out) (fun _ hk => hk.2) (.slice Ao23 t624.length co23)) (fun _ hk => hk.2) (.slice Ao27 t627.length co27)) (fun _ hk => hk.2) (.int .i64 t630)) (fun _ hk => ⟨hk.1.1.1.1.2, ⟨hk.1.1.1.2, ⟨hk.1.1.1.1.1, ⟨hk.1.1.2, hk.1.2⟩⟩⟩⟩)⟩, ⟨by (with_reducible repeat (first | apply Kd.R_alloc | apply Kd.R_drewN | apply Kd.R_drew)); exact Kd.R_mono (Kd.R_far (p := ⟨gb632, 2, none⟩) (Kd.R_far (p := ⟨gb632, 1, none⟩) (Kd.R_far (p := ⟨gb632, 0, none⟩) (RT HO620.out BK632.out) (fun _ hk => hk.2) (.slice Ao23 t624.length co23)) (fun _ hk => hk.2) (.slice Ao27 t627.length co27)) (fun _ hk => hk.2) (.int .i64 t630)) (fun _ hk => ⟨hk.1.1.1.1.2, ⟨hk.1.1.1.2, ⟨hk.1.1.1.1.1, ⟨hk.1.1.2, hk.1.2⟩⟩⟩⟩)⟩, ⟨by (with_reducible repeat (first | apply Kd.R_alloc | apply Kd.R_drewN | apply Kd.R_drew)); exact Kd.R_mono (Kd.R_far (p := ⟨gb632, 2, none⟩) (Kd.R_far (p := ⟨gb632, 1, none⟩) (Kd.R_far (p := ⟨gb632, 0, none⟩) (RT HO626.out BK632.out) (fun _ hk => hk.2) (.slice Ao23 t624.length co23)) (fun _ hk => hk.2) (.slice Ao27 t627.length co27)) (fun _ hk => hk.2) (.int .i64 t630)) (fun _ hk => ⟨hk.1.1.1.1.2, ⟨hk.1.1.1.2, ⟨hk.1.1.2, ⟨hk.1.2, hk.1.1.1.1.1⟩⟩⟩⟩)⟩, ⟨by (with_reducible repeat (first | apply Kd.R_alloc | apply Kd.R_drewN | apply Kd.R_drew)); exact Kd.R_mono (Kd.R_far (p := ⟨gb632, 2, none⟩) (Kd.R_far (p := ⟨gb632, 1, none⟩) (Kd.R_far (p := ⟨gb632, 0, none⟩) (RT HO629.out BK632.out) (fun _ hk => hk.2) (.slice Ao23 t624.length co23)) (fun _ hk => hk.2) (.slice Ao27 t627.length co27)) (fun _ hk => hk.2) (.int .i64 t630)) (fun _ hk => ⟨hk.1.1.1.1.2, ⟨hk.1.1.1.2, ⟨hk.1.1.2, ⟨hk.1.2, hk.1.1.1.1.1⟩⟩⟩⟩)⟩, ⟨KK⟩, ⟨KK⟩, ⟨by refine SK ?_; refine blk_put (cs := #[.slice Ao23 t624.length co23, .slice Ao27 t627.length co27, .int .i64 0]) ?_ 2 _ rfl; refine SK ?_; refine blk_put (cs := #[.slice Ao23 t624.length co23, .slice none 0 0, .int .i64 0]) ?_ 1 _ rfl; refine SK ?_; refine blk_put (cs := #[.slice none 0 0, .slice none 0 0, .int .i64 0]) ?_ 0 _ rfl; exact SK BK632.out⟩, ⟨KB⟩⟩
    case round =>
     clear H'
     try clear c1
     try clear c2
     try clear p2
     try clear c3
     try clear c6
     try clear c7
     try clear c7b0
     try clear c7b1
     try clear c7b2
     try clear c8
     try clear c17
     try clear c20
     try clear c24
     try clear c25
     try clear hcz12_0
     try clear hcz12_1
     try clear hcz12_2
     try clear hcz18_0
     try clear hcz18_1
     try clear hcz18_2
     try clear hcz20_0
     try clear hcz20_1
     try clear hcz20_2
     try clear hcz26_0
     try clear hcz26_1
     try clear hcz26_2
     try clear hfz12_0
     try clear hfz12_1
     try clear hfz12_2
     try clear hfz18_0
     try clear hfz18_1
     try clear hfz18_2
     try clear hfz20_0
     try clear hfz20_1
     try clear hfz20_2
     try clear hfz26_0
     try clear hfz26_1
     try clear hfz26_2
     obtain ⟨x9_1, rfl, HA, HK1, HO_615000, HO_615001, HO_624000, HO_624001, HO_633000, HO_633001, BK614, BK623, BK632, HB⟩ := hrel
     cases gk with
     | zero => exact absurd HA.out (by simp [laws_FnCrash.l0])
     | succ k1 =>
      have H := HA.out
      clear HA
      simp only [laws_FnCrash.l0] at H
      by_cases c28 : x9_1 < (t615.length : Int)
      ·rw [if_pos c28] at H
       have c28b0 : decide (x9_1 < (t615.length : Int)) = true := decide_eq_true c28
       clear c28
       by_cases c29 : 0 ≤ x9_1
       ·rw [if_pos c29] at H
        have c29b0 : decide (0 ≤ x9_1) = true := decide_eq_true c29
        clear c29
        replace H := Option.bind_eq_some_iff.mp H
        obtain ⟨⟨t635, t636, t637, t638, t639⟩, A300, H⟩ := H
        replace H : (if t639 = true then (laws_FnCrash.j1 k1 x9_1 (t635 == ((rd_T35 t615 x9_1).f0) && (t636 == ((rd_T35 t615 x9_1).f1) && (t637 == ((rd_T35 t615 x9_1).f2) && (t638.toList == (((rd_T35 t615 x9_1).f3).toList))))) t606 t609 t612 t615 t618 t621) else (laws_FnCrash.j1 k1 x9_1 false t606 t609 t612 t615 t618 t621)) = some r := H
        have A30 := Aside0.mk A300
        clear A300
        have HC31 := Aside0.mk H
        clear H
        have hnb32 := NB623_614.out
        have hnc32 := NB614_623.out
        have hnb33 := NB623_632.out
        have hnc33 := NB632_623.out
        obtain ⟨hcz34_0, hcz34_1, hcz34_2, hfz34_0, hfz34_1, hfz34_2⟩ := C3 BK623.out
        try go_wp2
        have h_ := P10 (Kd.R_drew HO_615000.out) (Kd.R_drew HO_615001.out) (Kd.R_drew HO_624000.out) (Kd.R_drew HO_624001.out) (Kd.R_drew HO_633000.out) (Kd.R_drew HO_633001.out) (blk_drew BK614.out) (blk_drew BK623.out) (blk_drew BK632.out) (below_drew1 HB.out)
        clear HO_615000 HO_615001 HO_624000 HO_624001 HO_633000 HO_633001 BK614 BK623 BK632 HB
        obtain ⟨HO_615000, HO_615001, HO_624000, HO_624001, HO_633000, HO_633001, BK614, BK623, BK632, HB⟩ := h_
        have p634 : 0 ≤ (x9_1 : Int) := of_decide_eq_true (by first | (with_reducible assumption) | assumption)
        have q634 : x9_1 < (t615.length : Int) := of_decide_eq_true (by first | (with_reducible assumption) | assumption)
        obtain ⟨ad634, e634, hx634_0, hx634_1, hx634_2, hx634_3⟩ := at_T35 (Kd.R_reads' HO_624000.out).2.2 x9_1 p634 q634
        cases e634
        replace p634 := eq_true p634
        replace q634 := eq_true q634
        refine start_ (n := 14) (S := fun w' => w'.cell? ⟨gb614, 0, none⟩ = some (.slice Ao11 t606.length co11) ∧ w'.cell? ⟨gb614, 1, none⟩ = some (.slice Ao13 t609.length co13) ∧ w'.cell? ⟨gb614, 2, none⟩ = some (.int .i64 t612) ∧ w'.cell? ⟨gb623, 0, none⟩ = some (.slice (some ad634) t615.length co16) ∧ w'.cell? ⟨gb623, 1, none⟩ = some (.slice Ao19 t618.length co19) ∧ w'.cell? ⟨gb623, 2, none⟩ = some (.int .i64 t621) ∧ w'.cell? (ad634.add ((x9_1).toNat * 4)) = some (.int .i64 ((rd_T35 t615 x9_1).f0)) ∧ w'.cell? ⟨(ad634.add ((x9_1).toNat * 4)).block, (ad634.add ((x9_1).toNat * 4)).off + 1, none⟩ = some (.int .i64 ((rd_T35 t615 x9_1).f1)) ∧ w'.cell? ⟨(ad634.add ((x9_1).toNat * 4)).block, (ad634.add ((x9_1).toNat * 4)).off + 2, none⟩ = some (.bool ((rd_T35 t615 x9_1).f2)) ∧ w'.cell? ⟨(ad634.add ((x9_1).toNat * 4)).block, (ad634.add ((x9_1).toNat * 4)).off + 3, none⟩ = some (.string ((rd_T35 t615 x9_1).f3))) (ds := []) #[false, false, false, false, false, false, false, false, false, false, false, false, false, false] (by kernel_rfl) rfl rfl ⟨(blk_cell BK614.out 0).trans rfl, (blk_cell BK614.out 1).trans rfl, (blk_cell BK614.out 2).trans rfl, (blk_cell BK623.out 0).trans rfl, (blk_cell BK623.out 1).trans rfl, (blk_cell BK623.out 2).trans rfl, hx634_0, hx634_1, hx634_2, hx634_3⟩ (fun hHeld => ?_); refine with_tabW laws_FnCrash.tab13 laws_FnCrash.bits13 (fun HT_ HW_ => ?_)
        generalize wr.drew = w35 at HO_615000 HO_615001 HO_624000 HO_624001 HO_633000 HO_633001 BK614 BK623 BK632 HB hx634_0 hx634_1 hx634_2 hx634_3 hHeld ⊢
        refine pure_ (i := 1) (N := some 60) (v := ?_) (a' := ?_) #[false, true, false, false, false, false, false, false, false, false, false, false, false, false] rfl rfl (any_of HT_.out (by kernel_rfl)) (fun _ _ _ h => h) (Or.inl ⟨by rfl, ?_⟩) ?_ ?_
        rotate_left
        ·intro w'
         go_simp
         with_reducible rfl
        rotate_left
        ·exact KA
        refine pure_ (i := 3) (N := some 62) (v := ?_) (a' := ?_) #[false, true, false, true, false, false, false, false, false, false, false, false, false, false] rfl rfl (any_of HT_.out (by kernel_rfl)) (fun _ _ _ h => h) (Or.inl ⟨by rfl, ?_⟩) ?_ ?_
        rotate_left
        ·intro w'
         go_simp
         with_reducible rfl
        rotate_left
        ·exact KA
        refine take_ (i := 0) (N := some 59) (v := ?_) (a' := ?_) #[true, true, false, true, false, false, false, false, false, false, false, false, false, false] rfl rfl (take_ofW HT_.out HW_.out (by kernel_rfl)) (fun _ _ _ h => h) (Or.inl ⟨by rfl, ?_⟩) hHeld ?_ ?_
        rotate_left
        ·rintro w' ⟨s0, s1, s2, s3, s4, s5, s6, s7, s8, s9⟩
         go_simp
         with_reducible rfl
        rotate_left
        ·exact KA
        refine take_ (i := 2) (N := some 61) (v := ?_) (a' := ?_) #[true, true, true, true, false, false, false, false, false, false, false, false, false, false] rfl rfl (take_ofW HT_.out HW_.out (by kernel_rfl)) (fun _ _ _ h => h) (Or.inl ⟨by rfl, ?_⟩) hHeld ?_ ?_
        rotate_left
        ·rintro w' ⟨s0, s1, s2, s3, s4, s5, s6, s7, s8, s9⟩
         go_simp
         with_reducible rfl
        rotate_left
        ·exact KA
        refine pure_ (i := 4) (N := some 63) (v := ?_) (a' := ?_) #[true, true, true, true, true, false, false, false, false, false, false, false, false, false] rfl rfl (any_of HT_.out (by kernel_rfl)) (fun _ _ _ h => h) (Or.inl ⟨by rfl, ?_⟩) ?_ ?_
        rotate_left
        ·intro w'
         go_simp
         with_reducible rfl
        rotate_left
        ·exact KA
        refine pure_ (i := 5) (N := some 64) (v := ?_) (a' := ?_) #[true, true, true, true, true, true, false, false, false, false, false, false, false, false] rfl rfl (any_of HT_.out (by kernel_rfl)) (fun _ _ _ h => h) (Or.inl ⟨by rfl, ?_⟩) ?_ ?_
        rotate_left
        ·intro w'
         go_simp
         with_reducible rfl
        rotate_left
        ·exact KA
        refine take_ (i := 6) (N := some 65) (v := ?_) (a' := ?_) #[true, true, true, true, true, true, true, false, false, false, false, false, false, false] rfl rfl (take_ofW HT_.out HW_.out (by kernel_rfl)) (fun _ _ _ h => h) (Or.inl ⟨by rfl, ?_⟩) hHeld ?_ ?_
        rotate_left
        ·rintro w' ⟨s0, s1, s2, s3, s4, s5, s6, s7, s8, s9⟩
         go_simp
         with_reducible rfl
        rotate_left
        ·exact KA
        refine join_ (σ := Nat) 2 #[true, true, true, true, true, true, true, true, true, true, true, true, false, false] (fun s_ => [(66, .tuple #[.agg #[.int .i64 t635, .int .i64 t636, .bool t637, .string t638], .bool t639]), (10, .pointer (some ⟨s_, 0, none⟩)), (58, .tuple #[.agg #[.int .i64 t635, .int .i64 t636, .bool t637, .string t638], .bool t639]), (67, .agg #[.int .i64 t635, .int .i64 t636, .bool t637, .string t638]), (68, .bool t639)]) (fun s_ w' => (w'.cell? ⟨gb614, 0, none⟩ = some (.slice Ao11 t606.length co11) ∧ w'.cell? ⟨gb614, 1, none⟩ = some (.slice Ao13 t609.length co13) ∧ w'.cell? ⟨gb614, 2, none⟩ = some (.int .i64 t612) ∧ w'.cell? ⟨gb623, 0, none⟩ = some (.slice (some ad634) t615.length co16) ∧ w'.cell? ⟨gb623, 1, none⟩ = some (.slice Ao19 t618.length co19) ∧ w'.cell? ⟨gb623, 2, none⟩ = some (.int .i64 t621) ∧ w'.cell? (ad634.add ((x9_1).toNat * 4)) = some (.int .i64 ((rd_T35 t615 x9_1).f0)) ∧ w'.cell? ⟨(ad634.add ((x9_1).toNat * 4)).block, (ad634.add ((x9_1).toNat * 4)).off + 1, none⟩ = some (.int .i64 ((rd_T35 t615 x9_1).f1)) ∧ w'.cell? ⟨(ad634.add ((x9_1).toNat * 4)).block, (ad634.add ((x9_1).toNat * 4)).off + 2, none⟩ = some (.bool ((rd_T35 t615 x9_1).f2)) ∧ w'.cell? ⟨(ad634.add ((x9_1).toNat * 4)).block, (ad634.add ((x9_1).toNat * 4)).off + 3, none⟩ = some (.string ((rd_T35 t615 x9_1).f3))) ∧ (Kd.R k35 35 w' w.heap.size (fun k_ => some k_ ≠ (.slice Ao13 t609.length co13 : Value).ownBlock ∧ some k_ ≠ (.slice (some ad634) t615.length co16 : Value).ownBlock ∧ some k_ ≠ (.slice Ao19 t618.length co19 : Value).ownBlock ∧ some k_ ≠ (.slice Ao23 t624.length co23 : Value).ownBlock ∧ some k_ ≠ (.slice Ao27 t627.length co27 : Value).ownBlock ∧ k_ ≠ s_) (.slice Ao11 t606.length co11) t606) ∧ (Kd.R k35 35 w' w.heap.size (fun k_ => some k_ ≠ (.slice Ao11 t606.length co11 : Value).ownBlock ∧ some k_ ≠ (.slice (some ad634) t615.length co16 : Value).ownBlock ∧ some k_ ≠ (.slice Ao19 t618.length co19 : Value).ownBlock ∧ some k_ ≠ (.slice Ao23 t624.length co23 : Value).ownBlock ∧ some k_ ≠ (.slice Ao27 t627.length co27 : Value).ownBlock ∧ k_ ≠ s_) (.slice Ao13 t609.length co13) t609) ∧ (Kd.R k35 35 w' w.heap.size (fun k_ => some k_ ≠ (.slice Ao11 t606.length co11 : Value).ownBlock ∧ some k_ ≠ (.slice Ao13 t609.length co13 : Value).ownBlock ∧ some k_ ≠ (.slice Ao19 t618.length co19 : Value).ownBlock ∧ some k_ ≠ (.slice Ao23 t624.length co23 : Value).ownBlock ∧ some k_ ≠ (.slice Ao27 t627.length co27 : Value).ownBlock ∧ k_ ≠ s_) (.slice (some ad634) t615.length co16) t615) ∧ (Kd.R k35 35 w' w.heap.size (fun k_ => some k_ ≠ (.slice Ao11 t606.length co11 : Value).ownBlock ∧ some k_ ≠ (.slice Ao13 t609.length co13 : Value).ownBlock ∧ some k_ ≠ (.slice (some ad634) t615.length co16 : Value).ownBlock ∧ some k_ ≠ (.slice Ao23 t624.length co23 : Value).ownBlock ∧ some k_ ≠ (.slice Ao27 t627.length co27 : Value).ownBlock ∧ k_ ≠ s_) (.slice Ao19 t618.length co19) t618) ∧ (Kd.R k35 35 w' w.heap.size (fun k_ => some k_ ≠ (.slice Ao11 t606.length co11 : Value).ownBlock ∧ some k_ ≠ (.slice Ao13 t609.length co13 : Value).ownBlock ∧ some k_ ≠ (.slice (some ad634) t615.length co16 : Value).ownBlock ∧ some k_ ≠ (.slice Ao19 t618.length co19 : Value).ownBlock ∧ some k_ ≠ (.slice Ao27 t627.length co27 : Value).ownBlock ∧ k_ ≠ s_) (.slice Ao23 t624.length co23) t624) ∧ (Kd.R k35 35 w' w.heap.size (fun k_ => some k_ ≠ (.slice Ao11 t606.length co11 : Value).ownBlock ∧ some k_ ≠ (.slice Ao13 t609.length co13 : Value).ownBlock ∧ some k_ ≠ (.slice (some ad634) t615.length co16 : Value).ownBlock ∧ some k_ ≠ (.slice Ao19 t618.length co19 : Value).ownBlock ∧ some k_ ≠ (.slice Ao23 t624.length co23 : Value).ownBlock ∧ k_ ≠ s_) (.slice Ao27 t627.length co27) t627) ∧ (w'.heap[gb614]? = some (.cells #[.slice Ao11 t606.length co11, .slice Ao13 t609.length co13, .int .i64 t612] 31 (0, 0))) ∧ (w'.heap[gb623]? = some (.cells #[.slice (some ad634) t615.length co16, .slice Ao19 t618.length co19, .int .i64 t621] 31 (0, 0))) ∧ (w'.heap[gb632]? = some (.cells #[.slice Ao23 t624.length co23, .slice Ao27 t627.length co27, .int .i64 t630] 31 (0, 0))) ∧ (w'.heap[s_]? = some (.cells #[.int .i64 0, .int .i64 0, .bool false, .string (⟨#[]⟩ : ByteArray)] 35 (0, 0))) ∧ (w.heap.size ≤ s_) ∧ (w.heap.size ≤ s_) ∧ (gb614 ≠ s_) ∧ (s_ ≠ gb614) ∧ (gb623 ≠ s_) ∧ (s_ ≠ gb623) ∧ (gb632 ≠ s_) ∧ (s_ ≠ gb632) ∧ (Below w.heap.size w w')) ?_ ?_
        rotate_left
        ·intro hCont
         refine two_ (i := 7) (j := 11) (Ni := some 66) (Nj := some 10) #[true, true, true, true, true, true, true, true, false, false, false, false, false, false] #[true, true, true, true, true, true, true, false, false, false, false, true, false, false] rfl rfl rfl rfl (two_of HT_.out (by kernel_rfl)) (by decide) (by decide) (fun K hK => ?_) (fun K hK => ?_)
         ·skip
          refine goes_ Try.func31 (by kernel_rfl) rfl #[.agg #[.slice Ao11 t606.length co11, .slice Ao13 t609.length co13, .int .i64 t612], .int .i64 ((rd_T35 t615 x9_1).f0)] (by rfl) rfl rfl KL ?_
          with_reducible refine (spec_StoreGet.calls k1 _ _ t606 _ _ t609 t612 ((rd_T35 t615 x9_1).f0) t635 t636 t637 t638 t639 _ ?side1 ?side2 ?side3 ?side4 A30.out).mono ?_
          (case side1 => repeat (first | exact (Kd.R_reads' HO_615000.out).2.2 | (with_reducible refine Kd.C_alloc ?_ _) | (with_reducible refine Kd.C_drewN ?_ _) | (with_reducible refine Kd.C_drew ?_)))
          (case side2 => exact (Kd.R_reads' HO_615000.out).2.1)
          (case side3 => repeat (first | exact (Kd.R_reads' HO_615001.out).2.2 | (with_reducible refine Kd.C_alloc ?_ _) | (with_reducible refine Kd.C_drewN ?_ _) | (with_reducible refine Kd.C_drew ?_)))
          (case side4 => exact (Kd.R_reads' HO_615001.out).2.1)
          rintro e w36 ⟨rfl, hb⟩
          have HS6_ := (hb.cell (World.block_lt_of_cell? _ _ (hHeld.2.2.2.2.2.2.1))).trans (hHeld.2.2.2.2.2.2.1)
          have HS7_ := (hb.cell (World.block_lt_of_cell? _ _ (hHeld.2.2.2.2.2.2.2.1))).trans (hHeld.2.2.2.2.2.2.2.1)
          have HS8_ := (hb.cell (World.block_lt_of_cell? _ _ (hHeld.2.2.2.2.2.2.2.2.1))).trans (hHeld.2.2.2.2.2.2.2.2.1)
          have HS9_ := (hb.cell (World.block_lt_of_cell? _ _ (hHeld.2.2.2.2.2.2.2.2.2))).trans (hHeld.2.2.2.2.2.2.2.2.2)
          refine ⟨_, rfl, ?_⟩
          have h_ := P10 (Kd.R_below (KR HO_615000.out) hb) (Kd.R_below (KR HO_615001.out) hb) (Kd.R_below (KR HO_624000.out) hb) (Kd.R_below (KR HO_624001.out) hb) (Kd.R_below (KR HO_633000.out) hb) (Kd.R_below (KR HO_633001.out) hb) (BL BK614.out hb) (BL BK623.out hb) (BL BK632.out hb) (below_step KB hb)
          clear HO_615000 HO_615001 HO_624000 HO_624001 HO_633000 HO_633001 BK614 BK623 BK632 HB
          obtain ⟨HO_615000, HO_615001, HO_624000, HO_624001, HO_633000, HO_633001, BK614, BK623, BK632, HB⟩ := h_
          (try clear hb); (try clear hk); (try clear hi)
          refine hK.out _ _ ⟨(blk_cell BK614.out 0).trans rfl, (blk_cell BK614.out 1).trans rfl, (blk_cell BK614.out 2).trans rfl, (blk_cell BK623.out 0).trans rfl, (blk_cell BK623.out 1).trans rfl, (blk_cell BK623.out 2).trans rfl, HS6_, HS7_, HS8_, HS9_⟩ (fun hHeld => ?_)
          clear hK K
          refine norm_ (a' := ?_) ?_ ?_
          rotate_left
          ·show Act.put _ (some 66) _ = _; exact KA
          refine pure_ (i := 8) (N := some 58) (v := ?_) (a' := ?_) #[true, true, true, true, true, true, true, true, true, false, false, false, false, false] rfl rfl (any_of HT_.out (by kernel_rfl)) (fun _ _ _ h => h) (Or.inl ⟨by rfl, ?_⟩) ?_ ?_
          rotate_left
          ·intro w'
           go_simp
           with_reducible rfl
          rotate_left
          ·exact KA
          refine pure_ (i := 9) (N := some 67) (v := ?_) (a' := ?_) #[true, true, true, true, true, true, true, true, true, true, false, false, false, false] rfl rfl (any_of HT_.out (by kernel_rfl)) (fun _ _ _ h => h) (Or.inl ⟨by rfl, ?_⟩) ?_ ?_
          rotate_left
          ·intro w'
           go_simp
           with_reducible rfl
          rotate_left
          ·exact KA
          refine pure_ (i := 10) (N := some 68) (v := ?_) (a' := ?_) #[true, true, true, true, true, true, true, true, true, true, true, false, false, false] rfl rfl (any_of HT_.out (by kernel_rfl)) (fun _ _ _ h => h) (Or.inl ⟨by rfl, ?_⟩) ?_ ?_
          rotate_left
          ·intro w'
           go_simp
           with_reducible rfl
          rotate_left
          ·exact KA
          refine one_ (i := 11) (N := some 10) #[true, true, true, true, true, true, true, true, true, true, true, true, false, false] rfl rfl (one_of HT_.out (by kernel_rfl)) (by decide) (fun K hK => ?_)
          refine box_step ?hg (N := 10) ?hd (cs := #[.int .i64 0, .int .i64 0, .bool false, .string (⟨#[]⟩ : ByteArray)]) (t := 35) ?hr ?_; (case hd => rfl); (case hg => rfl); (case hr => first | (go_simp; done) | (go_simp; rfl))
          intro gb640 hg w37 hbox hb
          have HS6_ := (hb.cell (World.block_lt_of_cell? _ _ (hHeld.2.2.2.2.2.2.1))).trans (hHeld.2.2.2.2.2.2.1)
          have HS7_ := (hb.cell (World.block_lt_of_cell? _ _ (hHeld.2.2.2.2.2.2.2.1))).trans (hHeld.2.2.2.2.2.2.2.1)
          have HS8_ := (hb.cell (World.block_lt_of_cell? _ _ (hHeld.2.2.2.2.2.2.2.2.1))).trans (hHeld.2.2.2.2.2.2.2.2.1)
          have HS9_ := (hb.cell (World.block_lt_of_cell? _ _ (hHeld.2.2.2.2.2.2.2.2.2))).trans (hHeld.2.2.2.2.2.2.2.2.2)
          have h_ := P19 (Kd.R_below (Kd.R_elderB (KR HO_615000.out) gb640 (Nat.le_of_eq hg.symm)) hb) (Kd.R_below (Kd.R_elderB (KR HO_615001.out) gb640 (Nat.le_of_eq hg.symm)) hb) (Kd.R_below (Kd.R_elderB (KR HO_624000.out) gb640 (Nat.le_of_eq hg.symm)) hb) (Kd.R_below (Kd.R_elderB (KR HO_624001.out) gb640 (Nat.le_of_eq hg.symm)) hb) (Kd.R_below (Kd.R_elderB (KR HO_633000.out) gb640 (Nat.le_of_eq hg.symm)) hb) (Kd.R_below (Kd.R_elderB (KR HO_633001.out) gb640 (Nat.le_of_eq hg.symm)) hb) (BL BK614.out hb) (BL BK623.out hb) (BL BK632.out hb) (below_step KB hb) hbox (KG hg : w.heap.size ≤ gb640) (KG hg : w.heap.size ≤ gb640) (NX hg BK614.out) (Ne.symm (NX hg BK614.out)) (NX hg BK623.out) (Ne.symm (NX hg BK623.out)) (NX hg BK632.out) (Ne.symm (NX hg BK632.out))
          clear HO_615000 HO_615001 HO_624000 HO_624001 HO_633000 HO_633001 BK614 BK623 BK632 HB
          obtain ⟨HO_615000, HO_615001, HO_624000, HO_624001, HO_633000, HO_633001, BK614, BK623, BK632, HB, BK640, GW640, GE640, NB614_640, NB640_614, NB623_640, NB640_623, NB632_640, NB640_632⟩ := h_
          clear hb hbox hg
          refine hK.out _ _ ⟨(blk_cell BK614.out 0).trans rfl, (blk_cell BK614.out 1).trans rfl, (blk_cell BK614.out 2).trans rfl, (blk_cell BK623.out 0).trans rfl, (blk_cell BK623.out 1).trans rfl, (blk_cell BK623.out 2).trans rfl, HS6_, HS7_, HS8_, HS9_⟩ (fun hHeld => ?_)
          clear hK K
          refine norm_ (a' := ?_) ?_ ?_
          rotate_left
          ·show Act.put _ (some 10) _ = _; exact KA
          exact norm_ (by simp only [putAll, Act.put, List.setIfInBounds_toArray, List.set_cons_zero, List.set_cons_succ]) (hCont (gb640) _ ⟨hHeld, (by (with_reducible repeat (first | apply Kd.R_alloc | apply Kd.R_drewN | apply Kd.R_drew)); exact Kd.R_mono HO_615000.out (fun _ hk => ⟨hk.1.1, ⟨hk.1.2.1, ⟨hk.1.2.2.1, ⟨hk.1.2.2.2.1, ⟨hk.1.2.2.2.2, hk.2⟩⟩⟩⟩⟩)), (by (with_reducible repeat (first | apply Kd.R_alloc | apply Kd.R_drewN | apply Kd.R_drew)); exact Kd.R_mono HO_615001.out (fun _ hk => ⟨hk.1.1, ⟨hk.1.2.1, ⟨hk.1.2.2.1, ⟨hk.1.2.2.2.1, ⟨hk.1.2.2.2.2, hk.2⟩⟩⟩⟩⟩)), (by (with_reducible repeat (first | apply Kd.R_alloc | apply Kd.R_drewN | apply Kd.R_drew)); exact Kd.R_mono HO_624000.out (fun _ hk => ⟨hk.1.1, ⟨hk.1.2.1, ⟨hk.1.2.2.1, ⟨hk.1.2.2.2.1, ⟨hk.1.2.2.2.2, hk.2⟩⟩⟩⟩⟩)), (by (with_reducible repeat (first | apply Kd.R_alloc | apply Kd.R_drewN | apply Kd.R_drew)); exact Kd.R_mono HO_624001.out (fun _ hk => ⟨hk.1.1, ⟨hk.1.2.1, ⟨hk.1.2.2.1, ⟨hk.1.2.2.2.1, ⟨hk.1.2.2.2.2, hk.2⟩⟩⟩⟩⟩)), (by (with_reducible repeat (first | apply Kd.R_alloc | apply Kd.R_drewN | apply Kd.R_drew)); exact Kd.R_mono HO_633000.out (fun _ hk => ⟨hk.1.1, ⟨hk.1.2.1, ⟨hk.1.2.2.1, ⟨hk.1.2.2.2.1, ⟨hk.1.2.2.2.2, hk.2⟩⟩⟩⟩⟩)), (by (with_reducible repeat (first | apply Kd.R_alloc | apply Kd.R_drewN | apply Kd.R_drew)); exact Kd.R_mono HO_633001.out (fun _ hk => ⟨hk.1.1, ⟨hk.1.2.1, ⟨hk.1.2.2.1, ⟨hk.1.2.2.2.1, ⟨hk.1.2.2.2.2, hk.2⟩⟩⟩⟩⟩)), KK, KK, KK, KK, GW640.out, GE640.out, NB614_640.out, NB640_614.out, NB623_640.out, NB640_623.out, NB632_640.out, NB640_632.out, KB⟩)
         ·skip
          refine box_step ?hg (N := 10) ?hd (cs := #[.int .i64 0, .int .i64 0, .bool false, .string (⟨#[]⟩ : ByteArray)]) (t := 35) ?hr ?_; (case hd => rfl); (case hg => rfl); (case hr => first | (go_simp; done) | (go_simp; rfl))
          intro gb640 hg w36 hbox hb
          have HS6_ := (hb.cell (World.block_lt_of_cell? _ _ (hHeld.2.2.2.2.2.2.1))).trans (hHeld.2.2.2.2.2.2.1)
          have HS7_ := (hb.cell (World.block_lt_of_cell? _ _ (hHeld.2.2.2.2.2.2.2.1))).trans (hHeld.2.2.2.2.2.2.2.1)
          have HS8_ := (hb.cell (World.block_lt_of_cell? _ _ (hHeld.2.2.2.2.2.2.2.2.1))).trans (hHeld.2.2.2.2.2.2.2.2.1)
          have HS9_ := (hb.cell (World.block_lt_of_cell? _ _ (hHeld.2.2.2.2.2.2.2.2.2))).trans (hHeld.2.2.2.2.2.2.2.2.2)
          have h_ := P19 (Kd.R_below (Kd.R_elderB (KR HO_615000.out) gb640 (Nat.le_of_eq hg.symm)) hb) (Kd.R_below (Kd.R_elderB (KR HO_615001.out) gb640 (Nat.le_of_eq hg.symm)) hb) (Kd.R_below (Kd.R_elderB (KR HO_624000.out) gb640 (Nat.le_of_eq hg.symm)) hb) (Kd.R_below (Kd.R_elderB (KR HO_624001.out) gb640 (Nat.le_of_eq hg.symm)) hb) (Kd.R_below (Kd.R_elderB (KR HO_633000.out) gb640 (Nat.le_of_eq hg.symm)) hb) (Kd.R_below (Kd.R_elderB (KR HO_633001.out) gb640 (Nat.le_of_eq hg.symm)) hb) (BL BK614.out hb) (BL BK623.out hb) (BL BK632.out hb) (below_step KB hb) hbox (KG hg : w.heap.size ≤ gb640) (KG hg : w.heap.size ≤ gb640) (NX hg BK614.out) (Ne.symm (NX hg BK614.out)) (NX hg BK623.out) (Ne.symm (NX hg BK623.out)) (NX hg BK632.out) (Ne.symm (NX hg BK632.out))
          clear HO_615000 HO_615001 HO_624000 HO_624001 HO_633000 HO_633001 BK614 BK623 BK632 HB
          obtain ⟨HO_615000, HO_615001, HO_624000, HO_624001, HO_633000, HO_633001, BK614, BK623, BK632, HB, BK640, GW640, GE640, NB614_640, NB640_614, NB623_640, NB640_623, NB632_640, NB640_632⟩ := h_
          clear hb hbox hg
          refine hK.out _ _ ⟨(blk_cell BK614.out 0).trans rfl, (blk_cell BK614.out 1).trans rfl, (blk_cell BK614.out 2).trans rfl, (blk_cell BK623.out 0).trans rfl, (blk_cell BK623.out 1).trans rfl, (blk_cell BK623.out 2).trans rfl, HS6_, HS7_, HS8_, HS9_⟩ (fun hHeld => ?_)
          clear hK K
          refine norm_ (a' := ?_) ?_ ?_
          rotate_left
          ·show Act.put _ (some 10) _ = _; exact KA
          refine one_ (i := 7) (N := some 66) #[true, true, true, true, true, true, true, true, false, false, false, true, false, false] rfl rfl (one_of HT_.out (by kernel_rfl)) (by decide) (fun K hK => ?_)
          refine goes_ Try.func31 (by kernel_rfl) rfl #[.agg #[.slice Ao11 t606.length co11, .slice Ao13 t609.length co13, .int .i64 t612], .int .i64 ((rd_T35 t615 x9_1).f0)] (by rfl) rfl rfl KL ?_
          with_reducible refine (spec_StoreGet.calls k1 _ _ t606 _ _ t609 t612 ((rd_T35 t615 x9_1).f0) t635 t636 t637 t638 t639 _ ?side1 ?side2 ?side3 ?side4 A30.out).mono ?_
          (case side1 => repeat (first | exact (Kd.R_reads' HO_615000.out).2.2 | (with_reducible refine Kd.C_alloc ?_ _) | (with_reducible refine Kd.C_drewN ?_ _) | (with_reducible refine Kd.C_drew ?_)))
          (case side2 => exact (Kd.R_reads' HO_615000.out).2.1)
          (case side3 => repeat (first | exact (Kd.R_reads' HO_615001.out).2.2 | (with_reducible refine Kd.C_alloc ?_ _) | (with_reducible refine Kd.C_drewN ?_ _) | (with_reducible refine Kd.C_drew ?_)))
          (case side4 => exact (Kd.R_reads' HO_615001.out).2.1)
          rintro e w37 ⟨rfl, hb⟩
          have HS6_ := (hb.cell (World.block_lt_of_cell? _ _ (hHeld.2.2.2.2.2.2.1))).trans (hHeld.2.2.2.2.2.2.1)
          have HS7_ := (hb.cell (World.block_lt_of_cell? _ _ (hHeld.2.2.2.2.2.2.2.1))).trans (hHeld.2.2.2.2.2.2.2.1)
          have HS8_ := (hb.cell (World.block_lt_of_cell? _ _ (hHeld.2.2.2.2.2.2.2.2.1))).trans (hHeld.2.2.2.2.2.2.2.2.1)
          have HS9_ := (hb.cell (World.block_lt_of_cell? _ _ (hHeld.2.2.2.2.2.2.2.2.2))).trans (hHeld.2.2.2.2.2.2.2.2.2)
          refine ⟨_, rfl, ?_⟩
          have h_ := P11 (Kd.R_below (KR HO_615000.out) hb) (Kd.R_below (KR HO_615001.out) hb) (Kd.R_below (KR HO_624000.out) hb) (Kd.R_below (KR HO_624001.out) hb) (Kd.R_below (KR HO_633000.out) hb) (Kd.R_below (KR HO_633001.out) hb) (BL BK614.out hb) (BL BK623.out hb) (BL BK632.out hb) (BL BK640.out hb) (below_step KB hb)
          clear HO_615000 HO_615001 HO_624000 HO_624001 HO_633000 HO_633001 BK614 BK623 BK632 BK640 HB
          obtain ⟨HO_615000, HO_615001, HO_624000, HO_624001, HO_633000, HO_633001, BK614, BK623, BK632, BK640, HB⟩ := h_
          (try clear hb); (try clear hk); (try clear hi)
          refine hK.out _ _ ⟨(blk_cell BK614.out 0).trans rfl, (blk_cell BK614.out 1).trans rfl, (blk_cell BK614.out 2).trans rfl, (blk_cell BK623.out 0).trans rfl, (blk_cell BK623.out 1).trans rfl, (blk_cell BK623.out 2).trans rfl, HS6_, HS7_, HS8_, HS9_⟩ (fun hHeld => ?_)
          clear hK K
          refine norm_ (a' := ?_) ?_ ?_
          rotate_left
          ·show Act.put _ (some 66) _ = _; exact KA
          refine pure_ (i := 8) (N := some 58) (v := ?_) (a' := ?_) #[true, true, true, true, true, true, true, true, true, false, false, true, false, false] rfl rfl (any_of HT_.out (by kernel_rfl)) (fun _ _ _ h => h) (Or.inl ⟨by rfl, ?_⟩) ?_ ?_
          rotate_left
          ·intro w'
           go_simp
           with_reducible rfl
          rotate_left
          ·exact KA
          refine pure_ (i := 9) (N := some 67) (v := ?_) (a' := ?_) #[true, true, true, true, true, true, true, true, true, true, false, true, false, false] rfl rfl (any_of HT_.out (by kernel_rfl)) (fun _ _ _ h => h) (Or.inl ⟨by rfl, ?_⟩) ?_ ?_
          rotate_left
          ·intro w'
           go_simp
           with_reducible rfl
          rotate_left
          ·exact KA
          refine pure_ (i := 10) (N := some 68) (v := ?_) (a' := ?_) #[true, true, true, true, true, true, true, true, true, true, true, true, false, false] rfl rfl (any_of HT_.out (by kernel_rfl)) (fun _ _ _ h => h) (Or.inl ⟨by rfl, ?_⟩) ?_ ?_
          rotate_left
          ·intro w'
           go_simp
           with_reducible rfl
          rotate_left
          ·exact KA
          exact norm_ (by simp only [putAll, Act.put, List.setIfInBounds_toArray, List.set_cons_zero, List.set_cons_succ]) (hCont (gb640) _ ⟨hHeld, (by (with_reducible repeat (first | apply Kd.R_alloc | apply Kd.R_drewN | apply Kd.R_drew)); exact Kd.R_mono HO_615000.out (fun _ hk => ⟨hk.1.1, ⟨hk.1.2.1, ⟨hk.1.2.2.1, ⟨hk.1.2.2.2.1, ⟨hk.1.2.2.2.2, hk.2⟩⟩⟩⟩⟩)), (by (with_reducible repeat (first | apply Kd.R_alloc | apply Kd.R_drewN | apply Kd.R_drew)); exact Kd.R_mono HO_615001.out (fun _ hk => ⟨hk.1.1, ⟨hk.1.2.1, ⟨hk.1.2.2.1, ⟨hk.1.2.2.2.1, ⟨hk.1.2.2.2.2, hk.2⟩⟩⟩⟩⟩)), (by (with_reducible repeat (first | apply Kd.R_alloc | apply Kd.R_drewN | apply Kd.R_drew)); exact Kd.R_mono HO_624000.out (fun _ hk => ⟨hk.1.1, ⟨hk.1.2.1, ⟨hk.1.2.2.1, ⟨hk.1.2.2.2.1, ⟨hk.1.2.2.2.2, hk.2⟩⟩⟩⟩⟩)), (by (with_reducible repeat (first | apply Kd.R_alloc | apply Kd.R_drewN | apply Kd.R_drew)); exact Kd.R_mono HO_624001.out (fun _ hk => ⟨hk.1.1, ⟨hk.1.2.1, ⟨hk.1.2.2.1, ⟨hk.1.2.2.2.1, ⟨hk.1.2.2.2.2, hk.2⟩⟩⟩⟩⟩)), (by (with_reducible repeat (first | apply Kd.R_alloc | apply Kd.R_drewN | apply Kd.R_drew)); exact Kd.R_mono HO_633000.out (fun _ hk => ⟨hk.1.1, ⟨hk.1.2.1, ⟨hk.1.2.2.1, ⟨hk.1.2.2.2.1, ⟨hk.1.2.2.2.2, hk.2⟩⟩⟩⟩⟩)), (by (with_reducible repeat (first | apply Kd.R_alloc | apply Kd.R_drewN | apply Kd.R_drew)); exact Kd.R_mono HO_633001.out (fun _ hk => ⟨hk.1.1, ⟨hk.1.2.1, ⟨hk.1.2.2.1, ⟨hk.1.2.2.2.1, ⟨hk.1.2.2.2.2, hk.2⟩⟩⟩⟩⟩)), KK, KK, KK, KK, GW640.out, GE640.out, NB614_640.out, NB640_614.out, NB623_640.out, NB640_623.out, NB632_640.out, NB640_632.out, KB⟩)
        rintro gb640 w38 ⟨hS_, h0_, h1_, h2_, h3_, h4_, h5_, h6_, h7_, h8_, h9_, h10_, h11_, h12_, h13_, h14_, h15_, h16_, h17_, h18_⟩
        have n0_ : Aside0 (Kd.R k35 35 w38 w.heap.size (fun k_ => some k_ ≠ (.slice Ao13 t609.length co13 : Value).ownBlock ∧ some k_ ≠ (.slice (some ad634) t615.length co16 : Value).ownBlock ∧ some k_ ≠ (.slice Ao19 t618.length co19 : Value).ownBlock ∧ some k_ ≠ (.slice Ao23 t624.length co23 : Value).ownBlock ∧ some k_ ≠ (.slice Ao27 t627.length co27 : Value).ownBlock ∧ k_ ≠ gb640) (.slice Ao11 t606.length co11) t606) := ⟨h0_⟩
        have n1_ : Aside0 (Kd.R k35 35 w38 w.heap.size (fun k_ => some k_ ≠ (.slice Ao11 t606.length co11 : Value).ownBlock ∧ some k_ ≠ (.slice (some ad634) t615.length co16 : Value).ownBlock ∧ some k_ ≠ (.slice Ao19 t618.length co19 : Value).ownBlock ∧ some k_ ≠ (.slice Ao23 t624.length co23 : Value).ownBlock ∧ some k_ ≠ (.slice Ao27 t627.length co27 : Value).ownBlock ∧ k_ ≠ gb640) (.slice Ao13 t609.length co13) t609) := ⟨h1_⟩
        have n2_ : Aside0 (Kd.R k35 35 w38 w.heap.size (fun k_ => some k_ ≠ (.slice Ao11 t606.length co11 : Value).ownBlock ∧ some k_ ≠ (.slice Ao13 t609.length co13 : Value).ownBlock ∧ some k_ ≠ (.slice Ao19 t618.length co19 : Value).ownBlock ∧ some k_ ≠ (.slice Ao23 t624.length co23 : Value).ownBlock ∧ some k_ ≠ (.slice Ao27 t627.length co27 : Value).ownBlock ∧ k_ ≠ gb640) (.slice (some ad634) t615.length co16) t615) := ⟨h2_⟩
        have n3_ : Aside0 (Kd.R k35 35 w38 w.heap.size (fun k_ => some k_ ≠ (.slice Ao11 t606.length co11 : Value).ownBlock ∧ some k_ ≠ (.slice Ao13 t609.length co13 : Value).ownBlock ∧ some k_ ≠ (.slice (some ad634) t615.length co16 : Value).ownBlock ∧ some k_ ≠ (.slice Ao23 t624.length co23 : Value).ownBlock ∧ some k_ ≠ (.slice Ao27 t627.length co27 : Value).ownBlock ∧ k_ ≠ gb640) (.slice Ao19 t618.length co19) t618) := ⟨h3_⟩
        have n4_ : Aside0 (Kd.R k35 35 w38 w.heap.size (fun k_ => some k_ ≠ (.slice Ao11 t606.length co11 : Value).ownBlock ∧ some k_ ≠ (.slice Ao13 t609.length co13 : Value).ownBlock ∧ some k_ ≠ (.slice (some ad634) t615.length co16 : Value).ownBlock ∧ some k_ ≠ (.slice Ao19 t618.length co19 : Value).ownBlock ∧ some k_ ≠ (.slice Ao27 t627.length co27 : Value).ownBlock ∧ k_ ≠ gb640) (.slice Ao23 t624.length co23) t624) := ⟨h4_⟩
        have n5_ : Aside0 (Kd.R k35 35 w38 w.heap.size (fun k_ => some k_ ≠ (.slice Ao11 t606.length co11 : Value).ownBlock ∧ some k_ ≠ (.slice Ao13 t609.length co13 : Value).ownBlock ∧ some k_ ≠ (.slice (some ad634) t615.length co16 : Value).ownBlock ∧ some k_ ≠ (.slice Ao19 t618.length co19 : Value).ownBlock ∧ some k_ ≠ (.slice Ao23 t624.length co23 : Value).ownBlock ∧ k_ ≠ gb640) (.slice Ao27 t627.length co27) t627) := ⟨h5_⟩
        have n6_ : Aside0 (w38.heap[gb614]? = some (.cells #[.slice Ao11 t606.length co11, .slice Ao13 t609.length co13, .int .i64 t612] 31 (0, 0))) := ⟨h6_⟩
        have n7_ : Aside0 (w38.heap[gb623]? = some (.cells #[.slice (some ad634) t615.length co16, .slice Ao19 t618.length co19, .int .i64 t621] 31 (0, 0))) := ⟨h7_⟩
        have n8_ : Aside0 (w38.heap[gb632]? = some (.cells #[.slice Ao23 t624.length co23, .slice Ao27 t627.length co27, .int .i64 t630] 31 (0, 0))) := ⟨h8_⟩
        have n9_ : Aside0 (w38.heap[gb640]? = some (.cells #[.int .i64 0, .int .i64 0, .bool false, .string (⟨#[]⟩ : ByteArray)] 35 (0, 0))) := ⟨h9_⟩
        have n10_ : Aside0 (w.heap.size ≤ gb640) := ⟨h10_⟩
        have n11_ : Aside0 (w.heap.size ≤ gb640) := ⟨h11_⟩
        have n12_ : Aside0 (gb614 ≠ gb640) := ⟨h12_⟩
        have n13_ : Aside0 (gb640 ≠ gb614) := ⟨h13_⟩
        have n14_ : Aside0 (gb623 ≠ gb640) := ⟨h14_⟩
        have n15_ : Aside0 (gb640 ≠ gb623) := ⟨h15_⟩
        have n16_ : Aside0 (gb632 ≠ gb640) := ⟨h16_⟩
        have n17_ : Aside0 (gb640 ≠ gb632) := ⟨h17_⟩
        have n18_ : Aside0 (Below w.heap.size w w38) := ⟨h18_⟩
        clear HO_615000
        clear HO_615001
        clear HO_624000
        clear HO_624001
        clear HO_633000
        clear HO_633001
        clear BK614
        clear BK623
        clear BK632
        clear HB
        clear h0_ h1_ h2_ h3_ h4_ h5_ h6_ h7_ h8_ h9_ h10_ h11_ h12_ h13_ h14_ h15_ h16_ h17_ h18_
        have HO_615000 := n0_
        have HO_615001 := n1_
        have HO_624000 := n2_
        have HO_624001 := n3_
        have HO_633000 := n4_
        have HO_633001 := n5_
        have BK614 := n6_
        have BK623 := n7_
        have BK632 := n8_
        have BK640 := n9_
        have GW640 := n10_
        have GE640 := n11_
        have NB614_640 := n12_
        have NB640_614 := n13_
        have NB623_640 := n14_
        have NB640_623 := n15_
        have NB632_640 := n16_
        have NB640_632 := n17_
        have HB := n18_
        clear n0_ n1_ n2_ n3_ n4_ n5_ n6_ n7_ n8_ n9_ n10_ n11_ n12_ n13_ n14_ n15_ n16_ n17_ n18_
        have hHeld : w38.cell? ⟨gb614, 0, none⟩ = some (.slice Ao11 t606.length co11) ∧ w38.cell? ⟨gb614, 1, none⟩ = some (.slice Ao13 t609.length co13) ∧ w38.cell? ⟨gb614, 2, none⟩ = some (.int .i64 t612) ∧ w38.cell? ⟨gb623, 0, none⟩ = some (.slice (some ad634) t615.length co16) ∧ w38.cell? ⟨gb623, 1, none⟩ = some (.slice Ao19 t618.length co19) ∧ w38.cell? ⟨gb623, 2, none⟩ = some (.int .i64 t621) ∧ w38.cell? (ad634.add ((x9_1).toNat * 4)) = some (.int .i64 ((rd_T35 t615 x9_1).f0)) ∧ w38.cell? ⟨(ad634.add ((x9_1).toNat * 4)).block, (ad634.add ((x9_1).toNat * 4)).off + 1, none⟩ = some (.int .i64 ((rd_T35 t615 x9_1).f1)) ∧ w38.cell? ⟨(ad634.add ((x9_1).toNat * 4)).block, (ad634.add ((x9_1).toNat * 4)).off + 2, none⟩ = some (.bool ((rd_T35 t615 x9_1).f2)) ∧ w38.cell? ⟨(ad634.add ((x9_1).toNat * 4)).block, (ad634.add ((x9_1).toNat * 4)).off + 3, none⟩ = some (.string ((rd_T35 t615 x9_1).f3)) := hS_
        refine norm_ (a' := ?_) ?_ ?_
        rotate_left
        ·simp only [putAll, Act.put, List.setIfInBounds_toArray, List.set_cons_zero, List.set_cons_succ]
         rfl
        refine one_ (i := 12) (N := none) #[true, true, true, true, true, true, true, true, true, true, true, true, true, false] rfl rfl (one_of HT_.out (by kernel_rfl)) (by decide) (fun K hK => ?_)
        have hs39 : w38.cell? ⟨gb640, 0, none⟩ = some (.int .i64 0) := (blk_cell BK640.out 0).trans rfl
        have hfs39 := blk_frozen BK640.out 0
        have hns39_0 := NB614_640.out
        have hns39_1 := NB623_640.out
        have hns39_2 := NB632_640.out
        have hms39_0 := NB640_614.out
        have hms39_1 := NB640_623.out
        have hms39_2 := NB640_632.out
        have hs40 : w38.cell? ⟨gb640, 1, none⟩ = some (.int .i64 0) := (blk_cell BK640.out 1).trans rfl
        have hfs40 := blk_frozen BK640.out 1
        have hns40_0 := NB614_640.out
        have hns40_1 := NB623_640.out
        have hns40_2 := NB632_640.out
        have hms40_0 := NB640_614.out
        have hms40_1 := NB640_623.out
        have hms40_2 := NB640_632.out
        have hs41 : w38.cell? ⟨gb640, 2, none⟩ = some (.bool false) := (blk_cell BK640.out 2).trans rfl
        have hfs41 := blk_frozen BK640.out 2
        have hns41_0 := NB614_640.out
        have hns41_1 := NB623_640.out
        have hns41_2 := NB632_640.out
        have hms41_0 := NB640_614.out
        have hms41_1 := NB640_623.out
        have hms41_2 := NB640_632.out
        have hs42 : w38.cell? ⟨gb640, 3, none⟩ = some (.string (⟨#[]⟩ : ByteArray)) := (blk_cell BK640.out 3).trans rfl
        have hfs42 := blk_frozen BK640.out 3
        have hns42_0 := NB614_640.out
        have hns42_1 := NB623_640.out
        have hns42_2 := NB632_640.out
        have hms42_0 := NB640_614.out
        have hms42_1 := NB640_623.out
        have hms42_2 := NB640_632.out
        refine skip_ (w1 := ?_) (by rfl) rfl ?_ ?_
        rotate_left
        ·go_simp
         rfl
        refine hK.out _ _ ⟨((cell_far (p := ⟨gb640, _, none⟩) NB614_640.out _).trans (((cell_far (p := ⟨gb640, _, none⟩) NB614_640.out _).trans (((cell_far (p := ⟨gb640, _, none⟩) NB614_640.out _).trans (((cell_far (p := ⟨gb640, _, none⟩) NB614_640.out _).trans (hHeld.1)))))))), ((cell_far (p := ⟨gb640, _, none⟩) NB614_640.out _).trans (((cell_far (p := ⟨gb640, _, none⟩) NB614_640.out _).trans (((cell_far (p := ⟨gb640, _, none⟩) NB614_640.out _).trans (((cell_far (p := ⟨gb640, _, none⟩) NB614_640.out _).trans (hHeld.2.1)))))))), ((cell_far (p := ⟨gb640, _, none⟩) NB614_640.out _).trans (((cell_far (p := ⟨gb640, _, none⟩) NB614_640.out _).trans (((cell_far (p := ⟨gb640, _, none⟩) NB614_640.out _).trans (((cell_far (p := ⟨gb640, _, none⟩) NB614_640.out _).trans (hHeld.2.2.1)))))))), ((cell_far (p := ⟨gb640, _, none⟩) NB623_640.out _).trans (((cell_far (p := ⟨gb640, _, none⟩) NB623_640.out _).trans (((cell_far (p := ⟨gb640, _, none⟩) NB623_640.out _).trans (((cell_far (p := ⟨gb640, _, none⟩) NB623_640.out _).trans (hHeld.2.2.2.1)))))))), ((cell_far (p := ⟨gb640, _, none⟩) NB623_640.out _).trans (((cell_far (p := ⟨gb640, _, none⟩) NB623_640.out _).trans (((cell_far (p := ⟨gb640, _, none⟩) NB623_640.out _).trans (((cell_far (p := ⟨gb640, _, none⟩) NB623_640.out _).trans (hHeld.2.2.2.2.1)))))))), ((cell_far (p := ⟨gb640, _, none⟩) NB623_640.out _).trans (((cell_far (p := ⟨gb640, _, none⟩) NB623_640.out _).trans (((cell_far (p := ⟨gb640, _, none⟩) NB623_640.out _).trans (((cell_far (p := ⟨gb640, _, none⟩) NB623_640.out _).trans (hHeld.2.2.2.2.2.1)))))))), ((cell_far (p := ⟨gb640, _, none⟩) (by first | exact Kd.own_blk (Kd.R_away HO_624000.out (fun _ hk => hk.2.2.2.2.2)) | (rw [add_block]; exact Kd.own_blk (Kd.R_away HO_624000.out (fun _ hk => hk.2.2.2.2.2))) | (show (Addr.add _ _).block ≠ _; rw [add_block]; exact Kd.own_blk (Kd.R_away HO_624000.out (fun _ hk => hk.2.2.2.2.2))) | (dsimp only; exact Kd.own_blk (Kd.R_away HO_624000.out (fun _ hk => hk.2.2.2.2.2)))) _).trans (((cell_far (p := ⟨gb640, _, none⟩) (by first | exact Kd.own_blk (Kd.R_away HO_624000.out (fun _ hk => hk.2.2.2.2.2)) | (rw [add_block]; exact Kd.own_blk (Kd.R_away HO_624000.out (fun _ hk => hk.2.2.2.2.2))) | (show (Addr.add _ _).block ≠ _; rw [add_block]; exact Kd.own_blk (Kd.R_away HO_624000.out (fun _ hk => hk.2.2.2.2.2))) | (dsimp only; exact Kd.own_blk (Kd.R_away HO_624000.out (fun _ hk => hk.2.2.2.2.2)))) _).trans (((cell_far (p := ⟨gb640, _, none⟩) (by first | exact Kd.own_blk (Kd.R_away HO_624000.out (fun _ hk => hk.2.2.2.2.2)) | (rw [add_block]; exact Kd.own_blk (Kd.R_away HO_624000.out (fun _ hk => hk.2.2.2.2.2))) | (show (Addr.add _ _).block ≠ _; rw [add_block]; exact Kd.own_blk (Kd.R_away HO_624000.out (fun _ hk => hk.2.2.2.2.2))) | (dsimp only; exact Kd.own_blk (Kd.R_away HO_624000.out (fun _ hk => hk.2.2.2.2.2)))) _).trans (((cell_far (p := ⟨gb640, _, none⟩) (by first | exact Kd.own_blk (Kd.R_away HO_624000.out (fun _ hk => hk.2.2.2.2.2)) | (rw [add_block]; exact Kd.own_blk (Kd.R_away HO_624000.out (fun _ hk => hk.2.2.2.2.2))) | (show (Addr.add _ _).block ≠ _; rw [add_block]; exact Kd.own_blk (Kd.R_away HO_624000.out (fun _ hk => hk.2.2.2.2.2))) | (dsimp only; exact Kd.own_blk (Kd.R_away HO_624000.out (fun _ hk => hk.2.2.2.2.2)))) _).trans (hHeld.2.2.2.2.2.2.1)))))))), ((cell_far (p := ⟨gb640, _, none⟩) (by first | exact Kd.own_blk (Kd.R_away HO_624000.out (fun _ hk => hk.2.2.2.2.2)) | (rw [add_block]; exact Kd.own_blk (Kd.R_away HO_624000.out (fun _ hk => hk.2.2.2.2.2))) | (show (Addr.add _ _).block ≠ _; rw [add_block]; exact Kd.own_blk (Kd.R_away HO_624000.out (fun _ hk => hk.2.2.2.2.2))) | (dsimp only; exact Kd.own_blk (Kd.R_away HO_624000.out (fun _ hk => hk.2.2.2.2.2)))) _).trans (((cell_far (p := ⟨gb640, _, none⟩) (by first | exact Kd.own_blk (Kd.R_away HO_624000.out (fun _ hk => hk.2.2.2.2.2)) | (rw [add_block]; exact Kd.own_blk (Kd.R_away HO_624000.out (fun _ hk => hk.2.2.2.2.2))) | (show (Addr.add _ _).block ≠ _; rw [add_block]; exact Kd.own_blk (Kd.R_away HO_624000.out (fun _ hk => hk.2.2.2.2.2))) | (dsimp only; exact Kd.own_blk (Kd.R_away HO_624000.out (fun _ hk => hk.2.2.2.2.2)))) _).trans (((cell_far (p := ⟨gb640, _, none⟩) (by first | exact Kd.own_blk (Kd.R_away HO_624000.out (fun _ hk => hk.2.2.2.2.2)) | (rw [add_block]; exact Kd.own_blk (Kd.R_away HO_624000.out (fun _ hk => hk.2.2.2.2.2))) | (show (Addr.add _ _).block ≠ _; rw [add_block]; exact Kd.own_blk (Kd.R_away HO_624000.out (fun _ hk => hk.2.2.2.2.2))) | (dsimp only; exact Kd.own_blk (Kd.R_away HO_624000.out (fun _ hk => hk.2.2.2.2.2)))) _).trans (((cell_far (p := ⟨gb640, _, none⟩) (by first | exact Kd.own_blk (Kd.R_away HO_624000.out (fun _ hk => hk.2.2.2.2.2)) | (rw [add_block]; exact Kd.own_blk (Kd.R_away HO_624000.out (fun _ hk => hk.2.2.2.2.2))) | (show (Addr.add _ _).block ≠ _; rw [add_block]; exact Kd.own_blk (Kd.R_away HO_624000.out (fun _ hk => hk.2.2.2.2.2))) | (dsimp only; exact Kd.own_blk (Kd.R_away HO_624000.out (fun _ hk => hk.2.2.2.2.2)))) _).trans (hHeld.2.2.2.2.2.2.2.1)))))))), ((cell_far (p := ⟨gb640, _, none⟩) (by first | exact Kd.own_blk (Kd.R_away HO_624000.out (fun _ hk => hk.2.2.2.2.2)) | (rw [add_block]; exact Kd.own_blk (Kd.R_away HO_624000.out (fun _ hk => hk.2.2.2.2.2))) | (show (Addr.add _ _).block ≠ _; rw [add_block]; exact Kd.own_blk (Kd.R_away HO_624000.out (fun _ hk => hk.2.2.2.2.2))) | (dsimp only; exact Kd.own_blk (Kd.R_away HO_624000.out (fun _ hk => hk.2.2.2.2.2)))) _).trans (((cell_far (p := ⟨gb640, _, none⟩) (by first | exact Kd.own_blk (Kd.R_away HO_624000.out (fun _ hk => hk.2.2.2.2.2)) | (rw [add_block]; exact Kd.own_blk (Kd.R_away HO_624000.out (fun _ hk => hk.2.2.2.2.2))) | (show (Addr.add _ _).block ≠ _; rw [add_block]; exact Kd.own_blk (Kd.R_away HO_624000.out (fun _ hk => hk.2.2.2.2.2))) | (dsimp only; exact Kd.own_blk (Kd.R_away HO_624000.out (fun _ hk => hk.2.2.2.2.2)))) _).trans (((cell_far (p := ⟨gb640, _, none⟩) (by first | exact Kd.own_blk (Kd.R_away HO_624000.out (fun _ hk => hk.2.2.2.2.2)) | (rw [add_block]; exact Kd.own_blk (Kd.R_away HO_624000.out (fun _ hk => hk.2.2.2.2.2))) | (show (Addr.add _ _).block ≠ _; rw [add_block]; exact Kd.own_blk (Kd.R_away HO_624000.out (fun _ hk => hk.2.2.2.2.2))) | (dsimp only; exact Kd.own_blk (Kd.R_away HO_624000.out (fun _ hk => hk.2.2.2.2.2)))) _).trans (((cell_far (p := ⟨gb640, _, none⟩) (by first | exact Kd.own_blk (Kd.R_away HO_624000.out (fun _ hk => hk.2.2.2.2.2)) | (rw [add_block]; exact Kd.own_blk (Kd.R_away HO_624000.out (fun _ hk => hk.2.2.2.2.2))) | (show (Addr.add _ _).block ≠ _; rw [add_block]; exact Kd.own_blk (Kd.R_away HO_624000.out (fun _ hk => hk.2.2.2.2.2))) | (dsimp only; exact Kd.own_blk (Kd.R_away HO_624000.out (fun _ hk => hk.2.2.2.2.2)))) _).trans (hHeld.2.2.2.2.2.2.2.2.1)))))))), ((cell_far (p := ⟨gb640, _, none⟩) (by first | exact Kd.own_blk (Kd.R_away HO_624000.out (fun _ hk => hk.2.2.2.2.2)) | (rw [add_block]; exact Kd.own_blk (Kd.R_away HO_624000.out (fun _ hk => hk.2.2.2.2.2))) | (show (Addr.add _ _).block ≠ _; rw [add_block]; exact Kd.own_blk (Kd.R_away HO_624000.out (fun _ hk => hk.2.2.2.2.2))) | (dsimp only; exact Kd.own_blk (Kd.R_away HO_624000.out (fun _ hk => hk.2.2.2.2.2)))) _).trans (((cell_far (p := ⟨gb640, _, none⟩) (by first | exact Kd.own_blk (Kd.R_away HO_624000.out (fun _ hk => hk.2.2.2.2.2)) | (rw [add_block]; exact Kd.own_blk (Kd.R_away HO_624000.out (fun _ hk => hk.2.2.2.2.2))) | (show (Addr.add _ _).block ≠ _; rw [add_block]; exact Kd.own_blk (Kd.R_away HO_624000.out (fun _ hk => hk.2.2.2.2.2))) | (dsimp only; exact Kd.own_blk (Kd.R_away HO_624000.out (fun _ hk => hk.2.2.2.2.2)))) _).trans (((cell_far (p := ⟨gb640, _, none⟩) (by first | exact Kd.own_blk (Kd.R_away HO_624000.out (fun _ hk => hk.2.2.2.2.2)) | (rw [add_block]; exact Kd.own_blk (Kd.R_away HO_624000.out (fun _ hk => hk.2.2.2.2.2))) | (show (Addr.add _ _).block ≠ _; rw [add_block]; exact Kd.own_blk (Kd.R_away HO_624000.out (fun _ hk => hk.2.2.2.2.2))) | (dsimp only; exact Kd.own_blk (Kd.R_away HO_624000.out (fun _ hk => hk.2.2.2.2.2)))) _).trans (((cell_far (p := ⟨gb640, _, none⟩) (by first | exact Kd.own_blk (Kd.R_away HO_624000.out (fun _ hk => hk.2.2.2.2.2)) | (rw [add_block]; exact Kd.own_blk (Kd.R_away HO_624000.out (fun _ hk => hk.2.2.2.2.2))) | (show (Addr.add _ _).block ≠ _; rw [add_block]; exact Kd.own_blk (Kd.R_away HO_624000.out (fun _ hk => hk.2.2.2.2.2))) | (dsimp only; exact Kd.own_blk (Kd.R_away HO_624000.out (fun _ hk => hk.2.2.2.2.2)))) _).trans (hHeld.2.2.2.2.2.2.2.2.2))))))))⟩ (fun hHeld => ?_)
        clear hK K
        refine pure_ (i := 13) (N := some 11) (v := ?_) (a' := ?_) #[true, true, true, true, true, true, true, true, true, true, true, true, true, true] rfl rfl (any_of HT_.out (by kernel_rfl)) (fun _ _ _ h => h) (Or.inl ⟨by rfl, ?_⟩) ?_ ?_
        rotate_left
        ·intro w'
         go_simp
         with_reducible rfl
        rotate_left
        ·exact KA
        refine done_ (done_of HT_.out (by kernel_rfl)) ?_
        go_upto_region 14 with (fail)
        go_cut [12] (fun v12 wc => ∃ (kq : Nat) (x12_30 : Bool), v12 = .bool x12_30 ∧ Aside0 (laws_FnCrash.j1 kq x9_1 x12_30 t606 t609 t612 t615 t618 t621 = some r) ∧ Aside0 (kq ≤ k1) ∧ Aside0 (Kd.R k35 35 wc w.heap.size (fun k_ => some k_ ≠ ((.slice Ao13 t609.length co13) : Value).ownBlock ∧ some k_ ≠ ((.slice (some ad634) t615.length co16) : Value).ownBlock ∧ some k_ ≠ ((.slice Ao19 t618.length co19) : Value).ownBlock ∧ some k_ ≠ ((.slice Ao23 t624.length co23) : Value).ownBlock ∧ some k_ ≠ ((.slice Ao27 t627.length co27) : Value).ownBlock ∧ k_ ≠ gb640) (.slice Ao11 t606.length co11) t606) ∧ Aside0 (Kd.R k35 35 wc w.heap.size (fun k_ => some k_ ≠ ((.slice Ao11 t606.length co11) : Value).ownBlock ∧ some k_ ≠ ((.slice (some ad634) t615.length co16) : Value).ownBlock ∧ some k_ ≠ ((.slice Ao19 t618.length co19) : Value).ownBlock ∧ some k_ ≠ ((.slice Ao23 t624.length co23) : Value).ownBlock ∧ some k_ ≠ ((.slice Ao27 t627.length co27) : Value).ownBlock ∧ k_ ≠ gb640) (.slice Ao13 t609.length co13) t609) ∧ Aside0 (Kd.R k35 35 wc w.heap.size (fun k_ => some k_ ≠ ((.slice Ao11 t606.length co11) : Value).ownBlock ∧ some k_ ≠ ((.slice Ao13 t609.length co13) : Value).ownBlock ∧ some k_ ≠ ((.slice Ao19 t618.length co19) : Value).ownBlock ∧ some k_ ≠ ((.slice Ao23 t624.length co23) : Value).ownBlock ∧ some k_ ≠ ((.slice Ao27 t627.length co27) : Value).ownBlock ∧ k_ ≠ gb640) (.slice (some ad634) t615.length co16) t615) ∧ Aside0 (Kd.R k35 35 wc w.heap.size (fun k_ => some k_ ≠ ((.slice Ao11 t606.length co11) : Value).ownBlock ∧ some k_ ≠ ((.slice Ao13 t609.length co13) : Value).ownBlock ∧ some k_ ≠ ((.slice (some ad634) t615.length co16) : Value).ownBlock ∧ some k_ ≠ ((.slice Ao23 t624.length co23) : Value).ownBlock ∧ some k_ ≠ ((.slice Ao27 t627.length co27) : Value).ownBlock ∧ k_ ≠ gb640) (.slice Ao19 t618.length co19) t618) ∧ Aside0 (Kd.R k35 35 wc w.heap.size (fun k_ => some k_ ≠ ((.slice Ao11 t606.length co11) : Value).ownBlock ∧ some k_ ≠ ((.slice Ao13 t609.length co13) : Value).ownBlock ∧ some k_ ≠ ((.slice (some ad634) t615.length co16) : Value).ownBlock ∧ some k_ ≠ ((.slice Ao19 t618.length co19) : Value).ownBlock ∧ some k_ ≠ ((.slice Ao27 t627.length co27) : Value).ownBlock ∧ k_ ≠ gb640) (.slice Ao23 t624.length co23) t624) ∧ Aside0 (Kd.R k35 35 wc w.heap.size (fun k_ => some k_ ≠ ((.slice Ao11 t606.length co11) : Value).ownBlock ∧ some k_ ≠ ((.slice Ao13 t609.length co13) : Value).ownBlock ∧ some k_ ≠ ((.slice (some ad634) t615.length co16) : Value).ownBlock ∧ some k_ ≠ ((.slice Ao19 t618.length co19) : Value).ownBlock ∧ some k_ ≠ ((.slice Ao23 t624.length co23) : Value).ownBlock ∧ k_ ≠ gb640) (.slice Ao27 t627.length co27) t627) ∧ Aside0 (wc.heap[gb614]? = some (.cells #[(.slice Ao11 t606.length co11), (.slice Ao13 t609.length co13), .int .i64 t612] 31 (0, 0))) ∧ Aside0 (wc.heap[gb623]? = some (.cells #[(.slice (some ad634) t615.length co16), (.slice Ao19 t618.length co19), .int .i64 t621] 31 (0, 0))) ∧ Aside0 (wc.heap[gb632]? = some (.cells #[(.slice Ao23 t624.length co23), (.slice Ao27 t627.length co27), .int .i64 t630] 31 (0, 0))) ∧ Aside0 (wc.heap[gb640]? = some (.cells #[.int .i64 t635, .int .i64 t636, .bool t637, .string t638] 35 (0, 0))) ∧ Aside0 (Below w.heap.size w wc))
        case first =>
         have H := HC31.out
         clear HC31
         by_cases c43 : t639 = true
         ·subst c43
          have H1 : (laws_FnCrash.j1 k1 x9_1 (t635 == ((rd_T35 t615 x9_1).f0) && (t636 == ((rd_T35 t615 x9_1).f1) && (t637 == ((rd_T35 t615 x9_1).f2) && (t638.toList == (((rd_T35 t615 x9_1).f3).toList))))) t606 t609 t612 t615 t618 t621) = some r := by rw [if_pos rfl] at H; exact H
          clear H
          have H := H1
          clear H1
          have H' := Aside0.mk H
          clear H
          try go_wp2
          have n0_ : Aside0 (Kd.R k35 35 ((((w38.setCell ⟨gb640, 0, none⟩ (.int .i64 t635)).setCell ⟨gb640, 1, none⟩ (.int .i64 t636)).setCell ⟨gb640, 2, none⟩ (.bool t637)).setCell ⟨gb640, 3, none⟩ (.string t638)) w.heap.size (fun k_ => some k_ ≠ (.slice Ao13 t609.length co13 : Value).ownBlock ∧ some k_ ≠ (.slice (some ad634) t615.length co16 : Value).ownBlock ∧ some k_ ≠ (.slice Ao19 t618.length co19 : Value).ownBlock ∧ some k_ ≠ (.slice Ao23 t624.length co23 : Value).ownBlock ∧ some k_ ≠ (.slice Ao27 t627.length co27 : Value).ownBlock ∧ k_ ≠ gb640) (.slice Ao11 t606.length co11) t606) := ⟨by (with_reducible repeat (first | apply Kd.R_alloc | apply Kd.R_drewN | apply Kd.R_drew)); exact Kd.R_mono (Kd.R_far (p := ⟨gb640, 3, none⟩) (Kd.R_far (p := ⟨gb640, 2, none⟩) (Kd.R_far (p := ⟨gb640, 1, none⟩) (Kd.R_far (p := ⟨gb640, 0, none⟩) (Kd.R_mono HO_615000.out (fun k_ hk => (⟨hk, hk.2.2.2.2.2⟩ : _ ∧ k_ ≠ gb640))) (fun _ hk => hk.2) (.int .i64 t635)) (fun _ hk => hk.2) (.int .i64 t636)) (fun _ hk => hk.2) (.bool t637)) (fun _ hk => hk.2) (.string t638)) (fun _ hk => ⟨hk.1.1, ⟨hk.1.2.1, ⟨hk.1.2.2.1, ⟨hk.1.2.2.2.1, ⟨hk.1.2.2.2.2.1, hk.1.2.2.2.2.2⟩⟩⟩⟩⟩)⟩
          have n1_ : Aside0 (Kd.R k35 35 ((((w38.setCell ⟨gb640, 0, none⟩ (.int .i64 t635)).setCell ⟨gb640, 1, none⟩ (.int .i64 t636)).setCell ⟨gb640, 2, none⟩ (.bool t637)).setCell ⟨gb640, 3, none⟩ (.string t638)) w.heap.size (fun k_ => some k_ ≠ (.slice Ao11 t606.length co11 : Value).ownBlock ∧ some k_ ≠ (.slice (some ad634) t615.length co16 : Value).ownBlock ∧ some k_ ≠ (.slice Ao19 t618.length co19 : Value).ownBlock ∧ some k_ ≠ (.slice Ao23 t624.length co23 : Value).ownBlock ∧ some k_ ≠ (.slice Ao27 t627.length co27 : Value).ownBlock ∧ k_ ≠ gb640) (.slice Ao13 t609.length co13) t609) := ⟨by (with_reducible repeat (first | apply Kd.R_alloc | apply Kd.R_drewN | apply Kd.R_drew)); exact Kd.R_mono (Kd.R_far (p := ⟨gb640, 3, none⟩) (Kd.R_far (p := ⟨gb640, 2, none⟩) (Kd.R_far (p := ⟨gb640, 1, none⟩) (Kd.R_far (p := ⟨gb640, 0, none⟩) (Kd.R_mono HO_615001.out (fun k_ hk => (⟨hk, hk.2.2.2.2.2⟩ : _ ∧ k_ ≠ gb640))) (fun _ hk => hk.2) (.int .i64 t635)) (fun _ hk => hk.2) (.int .i64 t636)) (fun _ hk => hk.2) (.bool t637)) (fun _ hk => hk.2) (.string t638)) (fun _ hk => ⟨hk.1.1, ⟨hk.1.2.1, ⟨hk.1.2.2.1, ⟨hk.1.2.2.2.1, ⟨hk.1.2.2.2.2.1, hk.1.2.2.2.2.2⟩⟩⟩⟩⟩)⟩
          have n2_ : Aside0 (Kd.R k35 35 ((((w38.setCell ⟨gb640, 0, none⟩ (.int .i64 t635)).setCell ⟨gb640, 1, none⟩ (.int .i64 t636)).setCell ⟨gb640, 2, none⟩ (.bool t637)).setCell ⟨gb640, 3, none⟩ (.string t638)) w.heap.size (fun k_ => some k_ ≠ (.slice Ao11 t606.length co11 : Value).ownBlock ∧ some k_ ≠ (.slice Ao13 t609.length co13 : Value).ownBlock ∧ some k_ ≠ (.slice Ao19 t618.length co19 : Value).ownBlock ∧ some k_ ≠ (.slice Ao23 t624.length co23 : Value).ownBlock ∧ some k_ ≠ (.slice Ao27 t627.length co27 : Value).ownBlock ∧ k_ ≠ gb640) (.slice (some ad634) t615.length co16) t615) := ⟨by (with_reducible repeat (first | apply Kd.R_alloc | apply Kd.R_drewN | apply Kd.R_drew)); exact Kd.R_mono (Kd.R_far (p := ⟨gb640, 3, none⟩) (Kd.R_far (p := ⟨gb640, 2, none⟩) (Kd.R_far (p := ⟨gb640, 1, none⟩) (Kd.R_far (p := ⟨gb640, 0, none⟩) (Kd.R_mono HO_624000.out (fun k_ hk => (⟨hk, hk.2.2.2.2.2⟩ : _ ∧ k_ ≠ gb640))) (fun _ hk => hk.2) (.int .i64 t635)) (fun _ hk => hk.2) (.int .i64 t636)) (fun _ hk => hk.2) (.bool t637)) (fun _ hk => hk.2) (.string t638)) (fun _ hk => ⟨hk.1.1, ⟨hk.1.2.1, ⟨hk.1.2.2.1, ⟨hk.1.2.2.2.1, ⟨hk.1.2.2.2.2.1, hk.1.2.2.2.2.2⟩⟩⟩⟩⟩)⟩
          have n3_ : Aside0 (Kd.R k35 35 ((((w38.setCell ⟨gb640, 0, none⟩ (.int .i64 t635)).setCell ⟨gb640, 1, none⟩ (.int .i64 t636)).setCell ⟨gb640, 2, none⟩ (.bool t637)).setCell ⟨gb640, 3, none⟩ (.string t638)) w.heap.size (fun k_ => some k_ ≠ (.slice Ao11 t606.length co11 : Value).ownBlock ∧ some k_ ≠ (.slice Ao13 t609.length co13 : Value).ownBlock ∧ some k_ ≠ (.slice (some ad634) t615.length co16 : Value).ownBlock ∧ some k_ ≠ (.slice Ao23 t624.length co23 : Value).ownBlock ∧ some k_ ≠ (.slice Ao27 t627.length co27 : Value).ownBlock ∧ k_ ≠ gb640) (.slice Ao19 t618.length co19) t618) := ⟨by (with_reducible repeat (first | apply Kd.R_alloc | apply Kd.R_drewN | apply Kd.R_drew)); exact Kd.R_mono (Kd.R_far (p := ⟨gb640, 3, none⟩) (Kd.R_far (p := ⟨gb640, 2, none⟩) (Kd.R_far (p := ⟨gb640, 1, none⟩) (Kd.R_far (p := ⟨gb640, 0, none⟩) (Kd.R_mono HO_624001.out (fun k_ hk => (⟨hk, hk.2.2.2.2.2⟩ : _ ∧ k_ ≠ gb640))) (fun _ hk => hk.2) (.int .i64 t635)) (fun _ hk => hk.2) (.int .i64 t636)) (fun _ hk => hk.2) (.bool t637)) (fun _ hk => hk.2) (.string t638)) (fun _ hk => ⟨hk.1.1, ⟨hk.1.2.1, ⟨hk.1.2.2.1, ⟨hk.1.2.2.2.1, ⟨hk.1.2.2.2.2.1, hk.1.2.2.2.2.2⟩⟩⟩⟩⟩)⟩
          have n4_ : Aside0 (Kd.R k35 35 ((((w38.setCell ⟨gb640, 0, none⟩ (.int .i64 t635)).setCell ⟨gb640, 1, none⟩ (.int .i64 t636)).setCell ⟨gb640, 2, none⟩ (.bool t637)).setCell ⟨gb640, 3, none⟩ (.string t638)) w.heap.size (fun k_ => some k_ ≠ (.slice Ao11 t606.length co11 : Value).ownBlock ∧ some k_ ≠ (.slice Ao13 t609.length co13 : Value).ownBlock ∧ some k_ ≠ (.slice (some ad634) t615.length co16 : Value).ownBlock ∧ some k_ ≠ (.slice Ao19 t618.length co19 : Value).ownBlock ∧ some k_ ≠ (.slice Ao27 t627.length co27 : Value).ownBlock ∧ k_ ≠ gb640) (.slice Ao23 t624.length co23) t624) := ⟨by (with_reducible repeat (first | apply Kd.R_alloc | apply Kd.R_drewN | apply Kd.R_drew)); exact Kd.R_mono (Kd.R_far (p := ⟨gb640, 3, none⟩) (Kd.R_far (p := ⟨gb640, 2, none⟩) (Kd.R_far (p := ⟨gb640, 1, none⟩) (Kd.R_far (p := ⟨gb640, 0, none⟩) (Kd.R_mono HO_633000.out (fun k_ hk => (⟨hk, hk.2.2.2.2.2⟩ : _ ∧ k_ ≠ gb640))) (fun _ hk => hk.2) (.int .i64 t635)) (fun _ hk => hk.2) (.int .i64 t636)) (fun _ hk => hk.2) (.bool t637)) (fun _ hk => hk.2) (.string t638)) (fun _ hk => ⟨hk.1.1, ⟨hk.1.2.1, ⟨hk.1.2.2.1, ⟨hk.1.2.2.2.1, ⟨hk.1.2.2.2.2.1, hk.1.2.2.2.2.2⟩⟩⟩⟩⟩)⟩
          have n5_ : Aside0 (Kd.R k35 35 ((((w38.setCell ⟨gb640, 0, none⟩ (.int .i64 t635)).setCell ⟨gb640, 1, none⟩ (.int .i64 t636)).setCell ⟨gb640, 2, none⟩ (.bool t637)).setCell ⟨gb640, 3, none⟩ (.string t638)) w.heap.size (fun k_ => some k_ ≠ (.slice Ao11 t606.length co11 : Value).ownBlock ∧ some k_ ≠ (.slice Ao13 t609.length co13 : Value).ownBlock ∧ some k_ ≠ (.slice (some ad634) t615.length co16 : Value).ownBlock ∧ some k_ ≠ (.slice Ao19 t618.length co19 : Value).ownBlock ∧ some k_ ≠ (.slice Ao23 t624.length co23 : Value).ownBlock ∧ k_ ≠ gb640) (.slice Ao27 t627.length co27) t627) := ⟨by (with_reducible repeat (first | apply Kd.R_alloc | apply Kd.R_drewN | apply Kd.R_drew)); exact Kd.R_mono (Kd.R_far (p := ⟨gb640, 3, none⟩) (Kd.R_far (p := ⟨gb640, 2, none⟩) (Kd.R_far (p := ⟨gb640, 1, none⟩) (Kd.R_far (p := ⟨gb640, 0, none⟩) (Kd.R_mono HO_633001.out (fun k_ hk => (⟨hk, hk.2.2.2.2.2⟩ : _ ∧ k_ ≠ gb640))) (fun _ hk => hk.2) (.int .i64 t635)) (fun _ hk => hk.2) (.int .i64 t636)) (fun _ hk => hk.2) (.bool t637)) (fun _ hk => hk.2) (.string t638)) (fun _ hk => ⟨hk.1.1, ⟨hk.1.2.1, ⟨hk.1.2.2.1, ⟨hk.1.2.2.2.1, ⟨hk.1.2.2.2.2.1, hk.1.2.2.2.2.2⟩⟩⟩⟩⟩)⟩
          have n6_ : Aside0 (((((w38.setCell ⟨gb640, 0, none⟩ (.int .i64 t635)).setCell ⟨gb640, 1, none⟩ (.int .i64 t636)).setCell ⟨gb640, 2, none⟩ (.bool t637)).setCell ⟨gb640, 3, none⟩ (.string t638)).heap[gb614]? = some (.cells #[.slice Ao11 t606.length co11, .slice Ao13 t609.length co13, .int .i64 t612] 31 (0, 0))) := ⟨KK⟩
          have n7_ : Aside0 (((((w38.setCell ⟨gb640, 0, none⟩ (.int .i64 t635)).setCell ⟨gb640, 1, none⟩ (.int .i64 t636)).setCell ⟨gb640, 2, none⟩ (.bool t637)).setCell ⟨gb640, 3, none⟩ (.string t638)).heap[gb623]? = some (.cells #[.slice (some ad634) t615.length co16, .slice Ao19 t618.length co19, .int .i64 t621] 31 (0, 0))) := ⟨KK⟩
          have n8_ : Aside0 (((((w38.setCell ⟨gb640, 0, none⟩ (.int .i64 t635)).setCell ⟨gb640, 1, none⟩ (.int .i64 t636)).setCell ⟨gb640, 2, none⟩ (.bool t637)).setCell ⟨gb640, 3, none⟩ (.string t638)).heap[gb632]? = some (.cells #[.slice Ao23 t624.length co23, .slice Ao27 t627.length co27, .int .i64 t630] 31 (0, 0))) := ⟨KK⟩
          have n9_ : Aside0 (((((w38.setCell ⟨gb640, 0, none⟩ (.int .i64 t635)).setCell ⟨gb640, 1, none⟩ (.int .i64 t636)).setCell ⟨gb640, 2, none⟩ (.bool t637)).setCell ⟨gb640, 3, none⟩ (.string t638)).heap[gb640]? = some (.cells #[.int .i64 t635, .int .i64 t636, .bool t637, .string t638] 35 (0, 0))) := ⟨by refine SK ?_; refine blk_put (cs := #[.int .i64 t635, .int .i64 t636, .bool t637, .string (⟨#[]⟩ : ByteArray)]) ?_ 3 _ rfl; refine SK ?_; refine blk_put (cs := #[.int .i64 t635, .int .i64 t636, .bool false, .string (⟨#[]⟩ : ByteArray)]) ?_ 2 _ rfl; refine SK ?_; refine blk_put (cs := #[.int .i64 t635, .int .i64 0, .bool false, .string (⟨#[]⟩ : ByteArray)]) ?_ 1 _ rfl; refine SK ?_; refine blk_put (cs := #[.int .i64 0, .int .i64 0, .bool false, .string (⟨#[]⟩ : ByteArray)]) ?_ 0 _ rfl; exact SK BK640.out⟩
          have n10_ : Aside0 (Below w.heap.size w ((((w38.setCell ⟨gb640, 0, none⟩ (.int .i64 t635)).setCell ⟨gb640, 1, none⟩ (.int .i64 t636)).setCell ⟨gb640, 2, none⟩ (.bool t637)).setCell ⟨gb640, 3, none⟩ (.string t638))) := ⟨KB⟩
          (try clear HO_615000)
          (try clear HO_615001)
          (try clear HO_624000)
          (try clear HO_624001)
          (try clear HO_633000)
          (try clear HO_633001)
          (try clear BK614)
          (try clear BK623)
          (try clear BK632)
          (try clear BK640)
          (try clear HB)
          generalize ((((w38.setCell ⟨gb640, 0, none⟩ (.int .i64 t635)).setCell ⟨gb640, 1, none⟩ (.int .i64 t636)).setCell ⟨gb640, 2, none⟩ (.bool t637)).setCell ⟨gb640, 3, none⟩ (.string t638)) = w44 at n0_ n1_ n2_ n3_ n4_ n5_ n6_ n7_ n8_ n9_ n10_ ⊢
          have HO_615000 := n0_
          have HO_615001 := n1_
          have HO_624000 := n2_
          have HO_624001 := n3_
          have HO_633000 := n4_
          have HO_633001 := n5_
          have BK614 := n6_
          have BK623 := n7_
          have BK632 := n8_
          have BK640 := n9_
          have HB := n10_
          clear n0_ n1_ n2_ n3_ n4_ n5_ n6_ n7_ n8_ n9_ n10_
          have h_ := P11 (Kd.R_drew HO_615000.out) (Kd.R_drew HO_615001.out) (Kd.R_drew HO_624000.out) (Kd.R_drew HO_624001.out) (Kd.R_drew HO_633000.out) (Kd.R_drew HO_633001.out) (blk_drew BK614.out) (blk_drew BK623.out) (blk_drew BK632.out) (blk_drew BK640.out) (below_drew1 HB.out)
          clear HO_615000 HO_615001 HO_624000 HO_624001 HO_633000 HO_633001 BK614 BK623 BK632 BK640 HB
          obtain ⟨HO_615000, HO_615001, HO_624000, HO_624001, HO_633000, HO_633001, BK614, BK623, BK632, BK640, HB⟩ := h_
          have p641 : 0 ≤ (x9_1 : Int) := of_decide_eq_true (by first | (with_reducible assumption) | assumption)
          have q641 : x9_1 < (t615.length : Int) := of_decide_eq_true (by first | (with_reducible assumption) | assumption)
          obtain ⟨ad641, e641, hx641_0, hx641_1, hx641_2, hx641_3⟩ := at_T35 (Kd.R_reads' HO_624000.out).2.2 x9_1 p641 q641
          obtain rfl : ad634 = ad641 := (by injection e641)
          replace p641 := eq_true p641
          replace q641 := eq_true q641
          refine start_ (n := 11) (S := fun w' => w'.cell? ⟨gb640, 0, none⟩ = some (.int .i64 t635) ∧ w'.cell? ⟨gb640, 1, none⟩ = some (.int .i64 t636) ∧ w'.cell? ⟨gb640, 2, none⟩ = some (.bool t637) ∧ w'.cell? ⟨gb640, 3, none⟩ = some (.string t638) ∧ w'.cell? ⟨gb623, 0, none⟩ = some (.slice (some ad634) t615.length co16) ∧ w'.cell? ⟨gb623, 1, none⟩ = some (.slice Ao19 t618.length co19) ∧ w'.cell? ⟨gb623, 2, none⟩ = some (.int .i64 t621) ∧ w'.cell? (ad634.add ((x9_1).toNat * 4)) = some (.int .i64 ((rd_T35 t615 x9_1).f0)) ∧ w'.cell? ⟨(ad634.add ((x9_1).toNat * 4)).block, (ad634.add ((x9_1).toNat * 4)).off + 1, none⟩ = some (.int .i64 ((rd_T35 t615 x9_1).f1)) ∧ w'.cell? ⟨(ad634.add ((x9_1).toNat * 4)).block, (ad634.add ((x9_1).toNat * 4)).off + 2, none⟩ = some (.bool ((rd_T35 t615 x9_1).f2)) ∧ w'.cell? ⟨(ad634.add ((x9_1).toNat * 4)).block, (ad634.add ((x9_1).toNat * 4)).off + 3, none⟩ = some (.string ((rd_T35 t615 x9_1).f3))) (ds := []) #[false, false, false, false, false, false, false, false, false, false, false] (by kernel_rfl) rfl rfl ⟨(blk_cell BK640.out 0).trans rfl, (blk_cell BK640.out 1).trans rfl, (blk_cell BK640.out 2).trans rfl, (blk_cell BK640.out 3).trans rfl, (blk_cell BK623.out 0).trans rfl, (blk_cell BK623.out 1).trans rfl, (blk_cell BK623.out 2).trans rfl, hx641_0, hx641_1, hx641_2, hx641_3⟩ (fun hHeld => ?_); refine with_tabW laws_FnCrash.tab14 laws_FnCrash.bits14 (fun HT_ HW_ => ?_)
          generalize w44.drew = w45 at HO_615000 HO_615001 HO_624000 HO_624001 HO_633000 HO_633001 BK614 BK623 BK632 BK640 HB hx641_0 hx641_1 hx641_2 hx641_3 hHeld ⊢
          refine pure_ (i := 0) (N := some 69) (v := ?_) (a' := ?_) #[true, false, false, false, false, false, false, false, false, false, false] rfl rfl (any_of HT_.out (by kernel_rfl)) (fun _ _ _ h => h) (Or.inl ⟨by rfl, ?_⟩) ?_ ?_
          rotate_left
          ·intro w'
           go_simp
           with_reducible rfl
          rotate_left
          ·exact KA
          refine pure_ (i := 1) (N := some 70) (v := ?_) (a' := ?_) #[true, true, false, false, false, false, false, false, false, false, false] rfl rfl (any_of HT_.out (by kernel_rfl)) (fun _ _ _ h => h) (Or.inl ⟨by rfl, ?_⟩) ?_ ?_
          rotate_left
          ·intro w'
           go_simp
           with_reducible rfl
          rotate_left
          ·exact KA
          refine pure_ (i := 3) (N := some 72) (v := ?_) (a' := ?_) #[true, true, false, true, false, false, false, false, false, false, false] rfl rfl (any_of HT_.out (by kernel_rfl)) (fun _ _ _ h => h) (Or.inl ⟨by rfl, ?_⟩) ?_ ?_
          rotate_left
          ·intro w'
           go_simp
           with_reducible rfl
          rotate_left
          ·exact KA
          refine pure_ (i := 5) (N := some 74) (v := ?_) (a' := ?_) #[true, true, false, true, false, true, false, false, false, false, false] rfl rfl (any_of HT_.out (by kernel_rfl)) (fun _ _ _ h => h) (Or.inl ⟨by rfl, ?_⟩) ?_ ?_
          rotate_left
          ·intro w'
           go_simp
           with_reducible rfl
          rotate_left
          ·exact KA
          refine take_ (i := 2) (N := some 71) (v := ?_) (a' := ?_) #[true, true, true, true, false, true, false, false, false, false, false] rfl rfl (take_ofW HT_.out HW_.out (by kernel_rfl)) (fun _ _ _ h => h) (Or.inl ⟨by rfl, ?_⟩) hHeld ?_ ?_
          rotate_left
          ·rintro w' ⟨s0, s1, s2, s3, s4, s5, s6, s7, s8, s9, s10⟩
           go_simp
           with_reducible rfl
          rotate_left
          ·exact KA
          refine take_ (i := 4) (N := some 73) (v := ?_) (a' := ?_) #[true, true, true, true, true, true, false, false, false, false, false] rfl rfl (take_ofW HT_.out HW_.out (by kernel_rfl)) (fun _ _ _ h => h) (Or.inl ⟨by rfl, ?_⟩) hHeld ?_ ?_
          rotate_left
          ·rintro w' ⟨s0, s1, s2, s3, s4, s5, s6, s7, s8, s9, s10⟩
           go_simp
           with_reducible rfl
          rotate_left
          ·exact KA
          refine pure_ (i := 6) (N := some 75) (v := ?_) (a' := ?_) #[true, true, true, true, true, true, true, false, false, false, false] rfl rfl (any_of HT_.out (by kernel_rfl)) (fun _ _ _ h => h) (Or.inl ⟨by rfl, ?_⟩) ?_ ?_
          rotate_left
          ·intro w'
           go_simp
           with_reducible rfl
          rotate_left
          ·exact KA
          refine take_ (i := 7) (N := some 76) (v := ?_) (a' := ?_) #[true, true, true, true, true, true, true, true, false, false, false] rfl rfl (take_ofW HT_.out HW_.out (by kernel_rfl)) (fun _ _ _ h => h) (Or.inl ⟨by rfl, ?_⟩) hHeld ?_ ?_
          rotate_left
          ·rintro w' ⟨s0, s1, s2, s3, s4, s5, s6, s7, s8, s9, s10⟩
           go_simp
           with_reducible rfl
          rotate_left
          ·exact KA
          refine pure_ (i := 8) (N := some 77) (v := ?_) (a' := ?_) #[true, true, true, true, true, true, true, true, true, false, false] rfl rfl (any_of HT_.out (by kernel_rfl)) (fun _ _ _ h => h) (Or.inl ⟨by rfl, ?_⟩) ?_ ?_
          rotate_left
          ·intro w'
           go_simp
           with_reducible rfl
          rotate_left
          ·exact KA
          refine pure_ (i := 9) (N := some 78) (v := ?_) (a' := ?_) #[true, true, true, true, true, true, true, true, true, true, false] rfl rfl (any_of HT_.out (by kernel_rfl)) (fun _ _ _ h => h) (Or.inl ⟨by rfl, ?_⟩) ?_ ?_
          rotate_left
          ·intro w'
           go_simp
           with_reducible rfl
          rotate_left
          ·exact KA
          refine pure_ (i := 10) (N := some 12) (v := ?_) (a' := ?_) #[true, true, true, true, true, true, true, true, true, true, true] rfl rfl (any_of HT_.out (by kernel_rfl)) (fun _ _ _ h => h) (Or.inl ⟨by rfl, ?_⟩) ?_ ?_
          rotate_left
          ·intro w'
           go_simp
           with_reducible rfl
          rotate_left
          ·exact KA
          refine done_ (done_of HT_.out (by kernel_rfl)) ?_
          try go_wp2
          go_meet
          case rel => exact ⟨_, ((t635 == ((rd_T35 t615 x9_1).f0) && (t636 == ((rd_T35 t615 x9_1).f1) && (t637 == ((rd_T35 t615 x9_1).f2) && (t638.toList == (((rd_T35 t615 x9_1).f3).toList)))))), (by first | rfl | (simp; done) | (simp [*]; done)), H', ⟨by have := HK1.out; first | omega | exact Nat.le_refl _⟩, ⟨by (with_reducible repeat (first | apply Kd.R_alloc | apply Kd.R_drewN | apply Kd.R_drew)); exact HO_615000.out⟩, ⟨by (with_reducible repeat (first | apply Kd.R_alloc | apply Kd.R_drewN | apply Kd.R_drew)); exact HO_615001.out⟩, ⟨by (with_reducible repeat (first | apply Kd.R_alloc | apply Kd.R_drewN | apply Kd.R_drew)); exact HO_624000.out⟩, ⟨by (with_reducible repeat (first | apply Kd.R_alloc | apply Kd.R_drewN | apply Kd.R_drew)); exact HO_624001.out⟩, ⟨by (with_reducible repeat (first | apply Kd.R_alloc | apply Kd.R_drewN | apply Kd.R_drew)); exact HO_633000.out⟩, ⟨by (with_reducible repeat (first | apply Kd.R_alloc | apply Kd.R_drewN | apply Kd.R_drew)); exact HO_633001.out⟩, ⟨KK⟩, ⟨KK⟩, ⟨KK⟩, ⟨KK⟩, ⟨KB⟩⟩
         ·replace c43 := Bool.eq_false_iff.mpr c43
          subst c43
          have H1 : (laws_FnCrash.j1 k1 x9_1 false t606 t609 t612 t615 t618 t621) = some r := by rw [if_neg (show ¬ (false = true) by decide)] at H; exact H
          clear H
          have H := H1
          clear H1
          have H' := Aside0.mk H
          clear H
          try go_wp2
          have n0_ : Aside0 (Kd.R k35 35 ((((w38.setCell ⟨gb640, 0, none⟩ (.int .i64 t635)).setCell ⟨gb640, 1, none⟩ (.int .i64 t636)).setCell ⟨gb640, 2, none⟩ (.bool t637)).setCell ⟨gb640, 3, none⟩ (.string t638)) w.heap.size (fun k_ => some k_ ≠ (.slice Ao13 t609.length co13 : Value).ownBlock ∧ some k_ ≠ (.slice (some ad634) t615.length co16 : Value).ownBlock ∧ some k_ ≠ (.slice Ao19 t618.length co19 : Value).ownBlock ∧ some k_ ≠ (.slice Ao23 t624.length co23 : Value).ownBlock ∧ some k_ ≠ (.slice Ao27 t627.length co27 : Value).ownBlock ∧ k_ ≠ gb640) (.slice Ao11 t606.length co11) t606) := ⟨by (with_reducible repeat (first | apply Kd.R_alloc | apply Kd.R_drewN | apply Kd.R_drew)); exact Kd.R_mono (Kd.R_far (p := ⟨gb640, 3, none⟩) (Kd.R_far (p := ⟨gb640, 2, none⟩) (Kd.R_far (p := ⟨gb640, 1, none⟩) (Kd.R_far (p := ⟨gb640, 0, none⟩) (Kd.R_mono HO_615000.out (fun k_ hk => (⟨hk, hk.2.2.2.2.2⟩ : _ ∧ k_ ≠ gb640))) (fun _ hk => hk.2) (.int .i64 t635)) (fun _ hk => hk.2) (.int .i64 t636)) (fun _ hk => hk.2) (.bool t637)) (fun _ hk => hk.2) (.string t638)) (fun _ hk => ⟨hk.1.1, ⟨hk.1.2.1, ⟨hk.1.2.2.1, ⟨hk.1.2.2.2.1, ⟨hk.1.2.2.2.2.1, hk.1.2.2.2.2.2⟩⟩⟩⟩⟩)⟩
          have n1_ : Aside0 (Kd.R k35 35 ((((w38.setCell ⟨gb640, 0, none⟩ (.int .i64 t635)).setCell ⟨gb640, 1, none⟩ (.int .i64 t636)).setCell ⟨gb640, 2, none⟩ (.bool t637)).setCell ⟨gb640, 3, none⟩ (.string t638)) w.heap.size (fun k_ => some k_ ≠ (.slice Ao11 t606.length co11 : Value).ownBlock ∧ some k_ ≠ (.slice (some ad634) t615.length co16 : Value).ownBlock ∧ some k_ ≠ (.slice Ao19 t618.length co19 : Value).ownBlock ∧ some k_ ≠ (.slice Ao23 t624.length co23 : Value).ownBlock ∧ some k_ ≠ (.slice Ao27 t627.length co27 : Value).ownBlock ∧ k_ ≠ gb640) (.slice Ao13 t609.length co13) t609) := ⟨by (with_reducible repeat (first | apply Kd.R_alloc | apply Kd.R_drewN | apply Kd.R_drew)); exact Kd.R_mono (Kd.R_far (p := ⟨gb640, 3, none⟩) (Kd.R_far (p := ⟨gb640, 2, none⟩) (Kd.R_far (p := ⟨gb640, 1, none⟩) (Kd.R_far (p := ⟨gb640, 0, none⟩) (Kd.R_mono HO_615001.out (fun k_ hk => (⟨hk, hk.2.2.2.2.2⟩ : _ ∧ k_ ≠ gb640))) (fun _ hk => hk.2) (.int .i64 t635)) (fun _ hk => hk.2) (.int .i64 t636)) (fun _ hk => hk.2) (.bool t637)) (fun _ hk => hk.2) (.string t638)) (fun _ hk => ⟨hk.1.1, ⟨hk.1.2.1, ⟨hk.1.2.2.1, ⟨hk.1.2.2.2.1, ⟨hk.1.2.2.2.2.1, hk.1.2.2.2.2.2⟩⟩⟩⟩⟩)⟩
          have n2_ : Aside0 (Kd.R k35 35 ((((w38.setCell ⟨gb640, 0, none⟩ (.int .i64 t635)).setCell ⟨gb640, 1, none⟩ (.int .i64 t636)).setCell ⟨gb640, 2, none⟩ (.bool t637)).setCell ⟨gb640, 3, none⟩ (.string t638)) w.heap.size (fun k_ => some k_ ≠ (.slice Ao11 t606.length co11 : Value).ownBlock ∧ some k_ ≠ (.slice Ao13 t609.length co13 : Value).ownBlock ∧ some k_ ≠ (.slice Ao19 t618.length co19 : Value).ownBlock ∧ some k_ ≠ (.slice Ao23 t624.length co23 : Value).ownBlock ∧ some k_ ≠ (.slice Ao27 t627.length co27 : Value).ownBlock ∧ k_ ≠ gb640) (.slice (some ad634) t615.length co16) t615) := ⟨by (with_reducible repeat (first | apply Kd.R_alloc | apply Kd.R_drewN | apply Kd.R_drew)); exact Kd.R_mono (Kd.R_far (p := ⟨gb640, 3, none⟩) (Kd.R_far (p := ⟨gb640, 2, none⟩) (Kd.R_far (p := ⟨gb640, 1, none⟩) (Kd.R_far (p := ⟨gb640, 0, none⟩) (Kd.R_mono HO_624000.out (fun k_ hk => (⟨hk, hk.2.2.2.2.2⟩ : _ ∧ k_ ≠ gb640))) (fun _ hk => hk.2) (.int .i64 t635)) (fun _ hk => hk.2) (.int .i64 t636)) (fun _ hk => hk.2) (.bool t637)) (fun _ hk => hk.2) (.string t638)) (fun _ hk => ⟨hk.1.1, ⟨hk.1.2.1, ⟨hk.1.2.2.1, ⟨hk.1.2.2.2.1, ⟨hk.1.2.2.2.2.1, hk.1.2.2.2.2.2⟩⟩⟩⟩⟩)⟩
          have n3_ : Aside0 (Kd.R k35 35 ((((w38.setCell ⟨gb640, 0, none⟩ (.int .i64 t635)).setCell ⟨gb640, 1, none⟩ (.int .i64 t636)).setCell ⟨gb640, 2, none⟩ (.bool t637)).setCell ⟨gb640, 3, none⟩ (.string t638)) w.heap.size (fun k_ => some k_ ≠ (.slice Ao11 t606.length co11 : Value).ownBlock ∧ some k_ ≠ (.slice Ao13 t609.length co13 : Value).ownBlock ∧ some k_ ≠ (.slice (some ad634) t615.length co16 : Value).ownBlock ∧ some k_ ≠ (.slice Ao23 t624.length co23 : Value).ownBlock ∧ some k_ ≠ (.slice Ao27 t627.length co27 : Value).ownBlock ∧ k_ ≠ gb640) (.slice Ao19 t618.length co19) t618) := ⟨by (with_reducible repeat (first | apply Kd.R_alloc | apply Kd.R_drewN | apply Kd.R_drew)); exact Kd.R_mono (Kd.R_far (p := ⟨gb640, 3, none⟩) (Kd.R_far (p := ⟨gb640, 2, none⟩) (Kd.R_far (p := ⟨gb640, 1, none⟩) (Kd.R_far (p := ⟨gb640, 0, none⟩) (Kd.R_mono HO_624001.out (fun k_ hk => (⟨hk, hk.2.2.2.2.2⟩ : _ ∧ k_ ≠ gb640))) (fun _ hk => hk.2) (.int .i64 t635)) (fun _ hk => hk.2) (.int .i64 t636)) (fun _ hk => hk.2) (.bool t637)) (fun _ hk => hk.2) (.string t638)) (fun _ hk => ⟨hk.1.1, ⟨hk.1.2.1, ⟨hk.1.2.2.1, ⟨hk.1.2.2.2.1, ⟨hk.1.2.2.2.2.1, hk.1.2.2.2.2.2⟩⟩⟩⟩⟩)⟩
          have n4_ : Aside0 (Kd.R k35 35 ((((w38.setCell ⟨gb640, 0, none⟩ (.int .i64 t635)).setCell ⟨gb640, 1, none⟩ (.int .i64 t636)).setCell ⟨gb640, 2, none⟩ (.bool t637)).setCell ⟨gb640, 3, none⟩ (.string t638)) w.heap.size (fun k_ => some k_ ≠ (.slice Ao11 t606.length co11 : Value).ownBlock ∧ some k_ ≠ (.slice Ao13 t609.length co13 : Value).ownBlock ∧ some k_ ≠ (.slice (some ad634) t615.length co16 : Value).ownBlock ∧ some k_ ≠ (.slice Ao19 t618.length co19 : Value).ownBlock ∧ some k_ ≠ (.slice Ao27 t627.length co27 : Value).ownBlock ∧ k_ ≠ gb640) (.slice Ao23 t624.length co23) t624) := ⟨by (with_reducible repeat (first | apply Kd.R_alloc | apply Kd.R_drewN | apply Kd.R_drew)); exact Kd.R_mono (Kd.R_far (p := ⟨gb640, 3, none⟩) (Kd.R_far (p := ⟨gb640, 2, none⟩) (Kd.R_far (p := ⟨gb640, 1, none⟩) (Kd.R_far (p := ⟨gb640, 0, none⟩) (Kd.R_mono HO_633000.out (fun k_ hk => (⟨hk, hk.2.2.2.2.2⟩ : _ ∧ k_ ≠ gb640))) (fun _ hk => hk.2) (.int .i64 t635)) (fun _ hk => hk.2) (.int .i64 t636)) (fun _ hk => hk.2) (.bool t637)) (fun _ hk => hk.2) (.string t638)) (fun _ hk => ⟨hk.1.1, ⟨hk.1.2.1, ⟨hk.1.2.2.1, ⟨hk.1.2.2.2.1, ⟨hk.1.2.2.2.2.1, hk.1.2.2.2.2.2⟩⟩⟩⟩⟩)⟩
          have n5_ : Aside0 (Kd.R k35 35 ((((w38.setCell ⟨gb640, 0, none⟩ (.int .i64 t635)).setCell ⟨gb640, 1, none⟩ (.int .i64 t636)).setCell ⟨gb640, 2, none⟩ (.bool t637)).setCell ⟨gb640, 3, none⟩ (.string t638)) w.heap.size (fun k_ => some k_ ≠ (.slice Ao11 t606.length co11 : Value).ownBlock ∧ some k_ ≠ (.slice Ao13 t609.length co13 : Value).ownBlock ∧ some k_ ≠ (.slice (some ad634) t615.length co16 : Value).ownBlock ∧ some k_ ≠ (.slice Ao19 t618.length co19 : Value).ownBlock ∧ some k_ ≠ (.slice Ao23 t624.length co23 : Value).ownBlock ∧ k_ ≠ gb640) (.slice Ao27 t627.length co27) t627) := ⟨by (with_reducible repeat (first | apply Kd.R_alloc | apply Kd.R_drewN | apply Kd.R_drew)); exact Kd.R_mono (Kd.R_far (p := ⟨gb640, 3, none⟩) (Kd.R_far (p := ⟨gb640, 2, none⟩) (Kd.R_far (p := ⟨gb640, 1, none⟩) (Kd.R_far (p := ⟨gb640, 0, none⟩) (Kd.R_mono HO_633001.out (fun k_ hk => (⟨hk, hk.2.2.2.2.2⟩ : _ ∧ k_ ≠ gb640))) (fun _ hk => hk.2) (.int .i64 t635)) (fun _ hk => hk.2) (.int .i64 t636)) (fun _ hk => hk.2) (.bool t637)) (fun _ hk => hk.2) (.string t638)) (fun _ hk => ⟨hk.1.1, ⟨hk.1.2.1, ⟨hk.1.2.2.1, ⟨hk.1.2.2.2.1, ⟨hk.1.2.2.2.2.1, hk.1.2.2.2.2.2⟩⟩⟩⟩⟩)⟩
          have n6_ : Aside0 (((((w38.setCell ⟨gb640, 0, none⟩ (.int .i64 t635)).setCell ⟨gb640, 1, none⟩ (.int .i64 t636)).setCell ⟨gb640, 2, none⟩ (.bool t637)).setCell ⟨gb640, 3, none⟩ (.string t638)).heap[gb614]? = some (.cells #[.slice Ao11 t606.length co11, .slice Ao13 t609.length co13, .int .i64 t612] 31 (0, 0))) := ⟨KK⟩
          have n7_ : Aside0 (((((w38.setCell ⟨gb640, 0, none⟩ (.int .i64 t635)).setCell ⟨gb640, 1, none⟩ (.int .i64 t636)).setCell ⟨gb640, 2, none⟩ (.bool t637)).setCell ⟨gb640, 3, none⟩ (.string t638)).heap[gb623]? = some (.cells #[.slice (some ad634) t615.length co16, .slice Ao19 t618.length co19, .int .i64 t621] 31 (0, 0))) := ⟨KK⟩
          have n8_ : Aside0 (((((w38.setCell ⟨gb640, 0, none⟩ (.int .i64 t635)).setCell ⟨gb640, 1, none⟩ (.int .i64 t636)).setCell ⟨gb640, 2, none⟩ (.bool t637)).setCell ⟨gb640, 3, none⟩ (.string t638)).heap[gb632]? = some (.cells #[.slice Ao23 t624.length co23, .slice Ao27 t627.length co27, .int .i64 t630] 31 (0, 0))) := ⟨KK⟩
          have n9_ : Aside0 (((((w38.setCell ⟨gb640, 0, none⟩ (.int .i64 t635)).setCell ⟨gb640, 1, none⟩ (.int .i64 t636)).setCell ⟨gb640, 2, none⟩ (.bool t637)).setCell ⟨gb640, 3, none⟩ (.string t638)).heap[gb640]? = some (.cells #[.int .i64 t635, .int .i64 t636, .bool t637, .string t638] 35 (0, 0))) := ⟨by refine SK ?_; refine blk_put (cs := #[.int .i64 t635, .int .i64 t636, .bool t637, .string (⟨#[]⟩ : ByteArray)]) ?_ 3 _ rfl; refine SK ?_; refine blk_put (cs := #[.int .i64 t635, .int .i64 t636, .bool false, .string (⟨#[]⟩ : ByteArray)]) ?_ 2 _ rfl; refine SK ?_; refine blk_put (cs := #[.int .i64 t635, .int .i64 0, .bool false, .string (⟨#[]⟩ : ByteArray)]) ?_ 1 _ rfl; refine SK ?_; refine blk_put (cs := #[.int .i64 0, .int .i64 0, .bool false, .string (⟨#[]⟩ : ByteArray)]) ?_ 0 _ rfl; exact SK BK640.out⟩
          have n10_ : Aside0 (Below w.heap.size w ((((w38.setCell ⟨gb640, 0, none⟩ (.int .i64 t635)).setCell ⟨gb640, 1, none⟩ (.int .i64 t636)).setCell ⟨gb640, 2, none⟩ (.bool t637)).setCell ⟨gb640, 3, none⟩ (.string t638))) := ⟨KB⟩
          (try clear HO_615000)
          (try clear HO_615001)
          (try clear HO_624000)
          (try clear HO_624001)
          (try clear HO_633000)
          (try clear HO_633001)
          (try clear BK614)
          (try clear BK623)
          (try clear BK632)
          (try clear BK640)
          (try clear HB)
          generalize ((((w38.setCell ⟨gb640, 0, none⟩ (.int .i64 t635)).setCell ⟨gb640, 1, none⟩ (.int .i64 t636)).setCell ⟨gb640, 2, none⟩ (.bool t637)).setCell ⟨gb640, 3, none⟩ (.string t638)) = w46 at n0_ n1_ n2_ n3_ n4_ n5_ n6_ n7_ n8_ n9_ n10_ ⊢
          have HO_615000 := n0_
          have HO_615001 := n1_
          have HO_624000 := n2_
          have HO_624001 := n3_
          have HO_633000 := n4_
          have HO_633001 := n5_
          have BK614 := n6_
          have BK623 := n7_
          have BK632 := n8_
          have BK640 := n9_
          have HB := n10_
          clear n0_ n1_ n2_ n3_ n4_ n5_ n6_ n7_ n8_ n9_ n10_
          have h_ := P11 (Kd.R_drew HO_615000.out) (Kd.R_drew HO_615001.out) (Kd.R_drew HO_624000.out) (Kd.R_drew HO_624001.out) (Kd.R_drew HO_633000.out) (Kd.R_drew HO_633001.out) (blk_drew BK614.out) (blk_drew BK623.out) (blk_drew BK632.out) (blk_drew BK640.out) (below_drew1 HB.out)
          clear HO_615000 HO_615001 HO_624000 HO_624001 HO_633000 HO_633001 BK614 BK623 BK632 BK640 HB
          obtain ⟨HO_615000, HO_615001, HO_624000, HO_624001, HO_633000, HO_633001, BK614, BK623, BK632, BK640, HB⟩ := h_
          refine start_ (n := 11) (S := fun w' => True) (ds := []) #[false, false, false, false, false, false, false, false, false, false, false] (by kernel_rfl) rfl rfl trivial (fun hHeld => ?_); refine with_tabW laws_FnCrash.tab14 laws_FnCrash.bits14 (fun HT_ HW_ => ?_)
          generalize w46.drew = w47 at HO_615000 HO_615001 HO_624000 HO_624001 HO_633000 HO_633001 BK614 BK623 BK632 BK640 HB hHeld ⊢
          refine pure_ (i := 0) (N := some 69) (v := ?_) (a' := ?_) #[true, false, false, false, false, false, false, false, false, false, false] rfl rfl (any_of HT_.out (by kernel_rfl)) (fun _ _ _ h => h) (Or.inl ⟨by rfl, ?_⟩) ?_ ?_
          rotate_left
          ·intro w'
           go_simp
           with_reducible rfl
          rotate_left
          ·exact KA
          refine pure_ (i := 1) (N := some 70) (v := ?_) (a' := ?_) #[true, true, false, false, false, false, false, false, false, false, false] rfl rfl (any_of HT_.out (by kernel_rfl)) (fun _ _ _ h => h) (Or.inl ⟨by rfl, ?_⟩) ?_ ?_
          rotate_left
          ·intro w'
           go_simp
           with_reducible rfl
          rotate_left
          ·exact KA
          refine pure_ (i := 2) (N := some 71) (v := undef) (a' := ?_) #[true, true, true, false, false, false, false, false, false, false, false] rfl rfl (any_of HT_.out (by kernel_rfl)) (fun _ _ _ h => h) (Or.inr ⟨by rfl, rfl⟩) ?_ ?_
          rotate_left
          ·exact KA
          refine pure_ (i := 3) (N := some 72) (v := undef) (a' := ?_) #[true, true, true, true, false, false, false, false, false, false, false] rfl rfl (any_of HT_.out (by kernel_rfl)) (fun _ _ _ h => h) (Or.inr ⟨by rfl, rfl⟩) ?_ ?_
          rotate_left
          ·exact KA
          refine pure_ (i := 4) (N := some 73) (v := undef) (a' := ?_) #[true, true, true, true, true, false, false, false, false, false, false] rfl rfl (any_of HT_.out (by kernel_rfl)) (fun _ _ _ h => h) (Or.inr ⟨by rfl, rfl⟩) ?_ ?_
          rotate_left
          ·exact KA
          refine pure_ (i := 5) (N := some 74) (v := undef) (a' := ?_) #[true, true, true, true, true, true, false, false, false, false, false] rfl rfl (any_of HT_.out (by kernel_rfl)) (fun _ _ _ h => h) (Or.inr ⟨by rfl, rfl⟩) ?_ ?_
          rotate_left
          ·exact KA
          refine pure_ (i := 6) (N := some 75) (v := undef) (a' := ?_) #[true, true, true, true, true, true, true, false, false, false, false] rfl rfl (any_of HT_.out (by kernel_rfl)) (fun _ _ _ h => h) (Or.inr ⟨by rfl, rfl⟩) ?_ ?_
          rotate_left
          ·exact KA
          refine pure_ (i := 7) (N := some 76) (v := undef) (a' := ?_) #[true, true, true, true, true, true, true, true, false, false, false] rfl rfl (any_of HT_.out (by kernel_rfl)) (fun _ _ _ h => h) (Or.inr ⟨by rfl, rfl⟩) ?_ ?_
          rotate_left
          ·exact KA
          refine pure_ (i := 8) (N := some 77) (v := undef) (a' := ?_) #[true, true, true, true, true, true, true, true, true, false, false] rfl rfl (any_of HT_.out (by kernel_rfl)) (fun _ _ _ h => h) (Or.inr ⟨by rfl, rfl⟩) ?_ ?_
          rotate_left
          ·exact KA
          refine pure_ (i := 9) (N := some 78) (v := ?_) (a' := ?_) #[true, true, true, true, true, true, true, true, true, true, false] rfl rfl (any_of HT_.out (by kernel_rfl)) (fun _ _ _ h => h) (Or.inl ⟨by rfl, ?_⟩) ?_ ?_
          rotate_left
          ·intro w'
           go_simp
           with_reducible rfl
          rotate_left
          ·exact KA
          refine pure_ (i := 10) (N := some 12) (v := ?_) (a' := ?_) #[true, true, true, true, true, true, true, true, true, true, true] rfl rfl (any_of HT_.out (by kernel_rfl)) (fun _ _ _ h => h) (Or.inl ⟨by rfl, ?_⟩) ?_ ?_
          rotate_left
          ·intro w'
           go_simp
           with_reducible rfl
          rotate_left
          ·exact KA
          refine done_ (done_of HT_.out (by kernel_rfl)) ?_
          try go_wp2
          go_meet
          case rel => exact ⟨_, (false), (by first | rfl | (simp; done) | (simp [*]; done)), H', ⟨by have := HK1.out; first | omega | exact Nat.le_refl _⟩, ⟨by (with_reducible repeat (first | apply Kd.R_alloc | apply Kd.R_drewN | apply Kd.R_drew)); exact HO_615000.out⟩, ⟨by (with_reducible repeat (first | apply Kd.R_alloc | apply Kd.R_drewN | apply Kd.R_drew)); exact HO_615001.out⟩, ⟨by (with_reducible repeat (first | apply Kd.R_alloc | apply Kd.R_drewN | apply Kd.R_drew)); exact HO_624000.out⟩, ⟨by (with_reducible repeat (first | apply Kd.R_alloc | apply Kd.R_drewN | apply Kd.R_drew)); exact HO_624001.out⟩, ⟨by (with_reducible repeat (first | apply Kd.R_alloc | apply Kd.R_drewN | apply Kd.R_drew)); exact HO_633000.out⟩, ⟨by (with_reducible repeat (first | apply Kd.R_alloc | apply Kd.R_drewN | apply Kd.R_drew)); exact HO_633001.out⟩, ⟨KK⟩, ⟨KK⟩, ⟨KK⟩, ⟨KK⟩, ⟨KB⟩⟩
        case rest =>
         clear HC31
         try clear p2
         try clear c3
         try clear c4
         try clear p6
         try clear q6
         try clear hx6
         try clear c31
         try clear c43
         try clear hx641_0
         try clear hx641_1
         try clear hx641_2
         try clear hx641_3
         try clear p641
         try clear q641
         obtain ⟨kq, x12_30, rfl, HA, HJ30, HO_615000, HO_615001, HO_624000, HO_624001, HO_633000, HO_633001, BK614, BK623, BK632, BK640, HB⟩ := hcut
         cases kq with
         | zero => exact absurd HA.out (by simp [laws_FnCrash.j1])
         | succ kj30 =>
          have H := HA.out
          clear HA
          simp only [laws_FnCrash.j1] at H
          have H' := Aside0.mk H
          clear H
          go_wp2
          go_loopg [12, 13] kj30 (fun kq v12 v13 w' => ∃ (x12_3 : Bool) (x13_3 : Int), v12 = .bool x12_3 ∧ v13 = .int .i64 x13_3 ∧ Aside0 (laws_FnCrash.l1 kq x9_1 x12_3 x13_3 t606 t609 t612 t615 t618 t621 = some r) ∧ Aside0 (kq ≤ kj30) ∧ Aside0 (Kd.R k35 35 w' w.heap.size (fun k_ => some k_ ≠ ((.slice Ao13 t609.length co13) : Value).ownBlock ∧ some k_ ≠ ((.slice (some ad634) t615.length co16) : Value).ownBlock ∧ some k_ ≠ ((.slice Ao19 t618.length co19) : Value).ownBlock ∧ some k_ ≠ ((.slice Ao23 t624.length co23) : Value).ownBlock ∧ some k_ ≠ ((.slice Ao27 t627.length co27) : Value).ownBlock ∧ k_ ≠ gb640) (.slice Ao11 t606.length co11) t606) ∧ Aside0 (Kd.R k35 35 w' w.heap.size (fun k_ => some k_ ≠ ((.slice Ao11 t606.length co11) : Value).ownBlock ∧ some k_ ≠ ((.slice (some ad634) t615.length co16) : Value).ownBlock ∧ some k_ ≠ ((.slice Ao19 t618.length co19) : Value).ownBlock ∧ some k_ ≠ ((.slice Ao23 t624.length co23) : Value).ownBlock ∧ some k_ ≠ ((.slice Ao27 t627.length co27) : Value).ownBlock ∧ k_ ≠ gb640) (.slice Ao13 t609.length co13) t609) ∧ Aside0 (Kd.R k35 35 w' w.heap.size (fun k_ => some k_ ≠ ((.slice Ao11 t606.length co11) : Value).ownBlock ∧ some k_ ≠ ((.slice Ao13 t609.length co13) : Value).ownBlock ∧ some k_ ≠ ((.slice Ao19 t618.length co19) : Value).ownBlock ∧ some k_ ≠ ((.slice Ao23 t624.length co23) : Value).ownBlock ∧ some k_ ≠ ((.slice Ao27 t627.length co27) : Value).ownBlock ∧ k_ ≠ gb640) (.slice (some ad634) t615.length co16) t615) ∧ Aside0 (Kd.R k35 35 w' w.heap.size (fun k_ => some k_ ≠ ((.slice Ao11 t606.length co11) : Value).ownBlock ∧ some k_ ≠ ((.slice Ao13 t609.length co13) : Value).ownBlock ∧ some k_ ≠ ((.slice (some ad634) t615.length co16) : Value).ownBlock ∧ some k_ ≠ ((.slice Ao23 t624.length co23) : Value).ownBlock ∧ some k_ ≠ ((.slice Ao27 t627.length co27) : Value).ownBlock ∧ k_ ≠ gb640) (.slice Ao19 t618.length co19) t618) ∧ Aside0 (Kd.R k35 35 w' w.heap.size (fun k_ => some k_ ≠ ((.slice Ao11 t606.length co11) : Value).ownBlock ∧ some k_ ≠ ((.slice Ao13 t609.length co13) : Value).ownBlock ∧ some k_ ≠ ((.slice (some ad634) t615.length co16) : Value).ownBlock ∧ some k_ ≠ ((.slice Ao19 t618.length co19) : Value).ownBlock ∧ some k_ ≠ ((.slice Ao27 t627.length co27) : Value).ownBlock ∧ k_ ≠ gb640) (.slice Ao23 t624.length co23) t624) ∧ Aside0 (Kd.R k35 35 w' w.heap.size (fun k_ => some k_ ≠ ((.slice Ao11 t606.length co11) : Value).ownBlock ∧ some k_ ≠ ((.slice Ao13 t609.length co13) : Value).ownBlock ∧ some k_ ≠ ((.slice (some ad634) t615.length co16) : Value).ownBlock ∧ some k_ ≠ ((.slice Ao19 t618.length co19) : Value).ownBlock ∧ some k_ ≠ ((.slice Ao23 t624.length co23) : Value).ownBlock ∧ k_ ≠ gb640) (.slice Ao27 t627.length co27) t627) ∧ Aside0 (w'.heap[gb614]? = some (.cells #[(.slice Ao11 t606.length co11), (.slice Ao13 t609.length co13), .int .i64 t612] 31 (0, 0))) ∧ Aside0 (w'.heap[gb623]? = some (.cells #[(.slice (some ad634) t615.length co16), (.slice Ao19 t618.length co19), .int .i64 t621] 31 (0, 0))) ∧ Aside0 (w'.heap[gb632]? = some (.cells #[(.slice Ao23 t624.length co23), (.slice Ao27 t627.length co27), .int .i64 t630] 31 (0, 0))) ∧ Aside0 (w'.heap[gb640]? = some (.cells #[.int .i64 t635, .int .i64 t636, .bool t637, .string t638] 35 (0, 0))) ∧ Aside0 (Below w.heap.size w w'))
          case atStart => exact ⟨(x12_30), (0), (by first | rfl | (simp; done) | (simp [*]; done)), (by first | rfl | (simp; done) | (simp [*]; done)), H', ⟨Nat.le_refl _⟩, ⟨by (with_reducible repeat (first | apply Kd.R_alloc | apply Kd.R_drewN | apply Kd.R_drew)); exact HO_615000.out⟩, ⟨by (with_reducible repeat (first | apply Kd.R_alloc | apply Kd.R_drewN | apply Kd.R_drew)); exact HO_615001.out⟩, ⟨by (with_reducible repeat (first | apply Kd.R_alloc | apply Kd.R_drewN | apply Kd.R_drew)); exact HO_624000.out⟩, ⟨by (with_reducible repeat (first | apply Kd.R_alloc | apply Kd.R_drewN | apply Kd.R_drew)); exact HO_624001.out⟩, ⟨by (with_reducible repeat (first | apply Kd.R_alloc | apply Kd.R_drewN | apply Kd.R_drew)); exact HO_633000.out⟩, ⟨by (with_reducible repeat (first | apply Kd.R_alloc | apply Kd.R_drewN | apply Kd.R_drew)); exact HO_633001.out⟩, ⟨KK⟩, ⟨KK⟩, ⟨KK⟩, ⟨KK⟩, ⟨KB⟩⟩
          case round =>
           clear H'
           try clear p2
           try clear c3
           try clear c4
           try clear p6
           try clear q6
           try clear hx6
           try clear c31
           try clear c43
           try clear hx641_0
           try clear hx641_1
           try clear hx641_2
           try clear hx641_3
           try clear p2
           try clear p6
           try clear p641
           try clear q6
           try clear q641
           obtain ⟨x12_3, x13_3, rfl, rfl, HA, HK3, HO_615000, HO_615001, HO_624000, HO_624001, HO_633000, HO_633001, BK614, BK623, BK632, BK640, HB⟩ := hrel
           cases gk with
           | zero => exact absurd HA.out (by simp [laws_FnCrash.l1])
           | succ k3 =>
            have H := HA.out
            clear HA
            simp only [laws_FnCrash.l1] at H
            by_cases c48 : x13_3 < (t609.length : Int)
            ·rw [if_pos c48] at H
             have c48b0 : decide (x13_3 < (t609.length : Int)) = true := decide_eq_true c48
             clear c48
             by_cases c49 : x12_3 = true
             ·subst c49
              have H1 : (laws_FnCrash.l1 k3 x9_1 true (wrap64 (x13_3 + 1)) t606 t609 t612 t615 t618 t621) = some r := by rw [if_pos rfl] at H; exact H
              clear H
              have H := H1
              clear H1
              have H' := Aside0.mk H
              clear H
              have hnb50 := NB614_623.out
              have hnc50 := NB623_614.out
              have hnb51 := NB614_632.out
              have hnc51 := NB632_614.out
              have hnb52 := NB614_640.out
              have hnc52 := NB640_614.out
              obtain ⟨hcz53_0, hcz53_1, hcz53_2, hfz53_0, hfz53_1, hfz53_2⟩ := C3 BK614.out
              try go_wp2
              have h_ := P11 (Kd.R_drew HO_615000.out) (Kd.R_drew HO_615001.out) (Kd.R_drew HO_624000.out) (Kd.R_drew HO_624001.out) (Kd.R_drew HO_633000.out) (Kd.R_drew HO_633001.out) (blk_drew BK614.out) (blk_drew BK623.out) (blk_drew BK632.out) (blk_drew BK640.out) (below_drew1 HB.out)
              clear HO_615000 HO_615001 HO_624000 HO_624001 HO_633000 HO_633001 BK614 BK623 BK632 BK640 HB
              obtain ⟨HO_615000, HO_615001, HO_624000, HO_624001, HO_633000, HO_633001, BK614, BK623, BK632, BK640, HB⟩ := h_
              refine start_ (n := 15) (S := fun w' => True) (ds := []) #[false, false, false, false, false, false, false, false, false, false, false, false, false, false, false] (by kernel_rfl) rfl rfl trivial (fun hHeld => ?_); refine with_tabW laws_FnCrash.tab18 laws_FnCrash.bits18 (fun HT_ HW_ => ?_)
              generalize wr.drew = w54 at HO_615000 HO_615001 HO_624000 HO_624001 HO_633000 HO_633001 BK614 BK623 BK632 BK640 HB hHeld ⊢
              refine pure_ (i := 0) (N := some 86) (v := ?_) (a' := ?_) #[true, false, false, false, false, false, false, false, false, false, false, false, false, false, false] rfl rfl (any_of HT_.out (by kernel_rfl)) (fun _ _ _ h => h) (Or.inl ⟨by rfl, ?_⟩) ?_ ?_
              rotate_left
              ·intro w'
               go_simp
               with_reducible rfl
              rotate_left
              ·exact KA
              refine pure_ (i := 1) (N := some 87) (v := ?_) (a' := ?_) #[true, true, false, false, false, false, false, false, false, false, false, false, false, false, false] rfl rfl (any_of HT_.out (by kernel_rfl)) (fun _ _ _ h => h) (Or.inl ⟨by rfl, ?_⟩) ?_ ?_
              rotate_left
              ·intro w'
               go_simp
               with_reducible rfl
              rotate_left
              ·exact KA
              refine pure_ (i := 2) (N := some 88) (v := undef) (a' := ?_) #[true, true, true, false, false, false, false, false, false, false, false, false, false, false, false] rfl rfl (any_of HT_.out (by kernel_rfl)) (fun _ _ _ h => h) (Or.inr ⟨by rfl, rfl⟩) ?_ ?_
              rotate_left
              ·exact KA
              refine pure_ (i := 3) (N := some 89) (v := undef) (a' := ?_) #[true, true, true, true, false, false, false, false, false, false, false, false, false, false, false] rfl rfl (any_of HT_.out (by kernel_rfl)) (fun _ _ _ h => h) (Or.inr ⟨by rfl, rfl⟩) ?_ ?_
              rotate_left
              ·exact KA
              refine pure_ (i := 4) (N := some 90) (v := undef) (a' := ?_) #[true, true, true, true, true, false, false, false, false, false, false, false, false, false, false] rfl rfl (any_of HT_.out (by kernel_rfl)) (fun _ _ _ h => h) (Or.inr ⟨by rfl, rfl⟩) ?_ ?_
              rotate_left
              ·exact KA
              refine pure_ (i := 5) (N := some 91) (v := undef) (a' := ?_) #[true, true, true, true, true, true, false, false, false, false, false, false, false, false, false] rfl rfl (any_of HT_.out (by kernel_rfl)) (fun _ _ _ h => h) (Or.inr ⟨by rfl, rfl⟩) ?_ ?_
              rotate_left
              ·exact KA
              refine pure_ (i := 6) (N := some 92) (v := undef) (a' := ?_) #[true, true, true, true, true, true, true, false, false, false, false, false, false, false, false] rfl rfl (any_of HT_.out (by kernel_rfl)) (fun _ _ _ h => h) (Or.inr ⟨by rfl, rfl⟩) ?_ ?_
              rotate_left
              ·exact KA
              refine pure_ (i := 7) (N := some 93) (v := undef) (a' := ?_) #[true, true, true, true, true, true, true, true, false, false, false, false, false, false, false] rfl rfl (any_of HT_.out (by kernel_rfl)) (fun _ _ _ h => h) (Or.inr ⟨by rfl, rfl⟩) ?_ ?_
              rotate_left
              ·exact KA
              refine pure_ (i := 8) (N := some 94) (v := undef) (a' := ?_) #[true, true, true, true, true, true, true, true, true, false, false, false, false, false, false] rfl rfl (any_of HT_.out (by kernel_rfl)) (fun _ _ _ h => h) (Or.inr ⟨by rfl, rfl⟩) ?_ ?_
              rotate_left
              ·exact KA
              refine pure_ (i := 9) (N := some 95) (v := undef) (a' := ?_) #[true, true, true, true, true, true, true, true, true, true, false, false, false, false, false] rfl rfl (any_of HT_.out (by kernel_rfl)) (fun _ _ _ h => h) (Or.inr ⟨by rfl, rfl⟩) ?_ ?_
              rotate_left
              ·exact KA
              refine pure_ (i := 10) (N := some 96) (v := undef) (a' := ?_) #[true, true, true, true, true, true, true, true, true, true, true, false, false, false, false] rfl rfl (any_of HT_.out (by kernel_rfl)) (fun _ _ _ h => h) (Or.inr ⟨by rfl, rfl⟩) ?_ ?_
              rotate_left
              ·exact KA
              refine pure_ (i := 11) (N := some 97) (v := undef) (a' := ?_) #[true, true, true, true, true, true, true, true, true, true, true, true, false, false, false] rfl rfl (any_of HT_.out (by kernel_rfl)) (fun _ _ _ h => h) (Or.inr ⟨by rfl, rfl⟩) ?_ ?_
              rotate_left
              ·exact KA
              refine pure_ (i := 12) (N := some 98) (v := undef) (a' := ?_) #[true, true, true, true, true, true, true, true, true, true, true, true, true, false, false] rfl rfl (any_of HT_.out (by kernel_rfl)) (fun _ _ _ h => h) (Or.inr ⟨by rfl, rfl⟩) ?_ ?_
              rotate_left
              ·exact KA
              refine pure_ (i := 13) (N := some 99) (v := ?_) (a' := ?_) #[true, true, true, true, true, true, true, true, true, true, true, true, true, true, false] rfl rfl (any_of HT_.out (by kernel_rfl)) (fun _ _ _ h => h) (Or.inl ⟨by rfl, ?_⟩) ?_ ?_
              rotate_left
              ·intro w'
               go_simp
               with_reducible rfl
              rotate_left
              ·exact KA
              refine pure_ (i := 14) (N := some 12) (v := ?_) (a' := ?_) #[true, true, true, true, true, true, true, true, true, true, true, true, true, true, true] rfl rfl (any_of HT_.out (by kernel_rfl)) (fun _ _ _ h => h) (Or.inl ⟨by rfl, ?_⟩) ?_ ?_
              rotate_left
              ·intro w'
               go_simp
               with_reducible rfl
              rotate_left
              ·exact KA
              refine done_ (done_of HT_.out (by kernel_rfl)) ?_
              try go_wp2
              go_roundg k3
              case measure => have := HK1.out; have := HJ30.out; have := HK3.out; omega
              case rel => exact ⟨(true), (wrap64 (x13_3 + 1)), (by first | rfl | (simp; done) | (simp [*]; done)), (by first | rfl | (simp; done) | (simp [*]; done)), H', ⟨by have := HK1.out; have := HJ30.out; have := HK3.out; omega⟩, ⟨by (with_reducible repeat (first | apply Kd.R_alloc | apply Kd.R_drewN | apply Kd.R_drew)); exact HO_615000.out⟩, ⟨by (with_reducible repeat (first | apply Kd.R_alloc | apply Kd.R_drewN | apply Kd.R_drew)); exact HO_615001.out⟩, ⟨by (with_reducible repeat (first | apply Kd.R_alloc | apply Kd.R_drewN | apply Kd.R_drew)); exact HO_624000.out⟩, ⟨by (with_reducible repeat (first | apply Kd.R_alloc | apply Kd.R_drewN | apply Kd.R_drew)); exact HO_624001.out⟩, ⟨by (with_reducible repeat (first | apply Kd.R_alloc | apply Kd.R_drewN | apply Kd.R_drew)); exact HO_633000.out⟩, ⟨by (with_reducible repeat (first | apply Kd.R_alloc | apply Kd.R_drewN | apply Kd.R_drew)); exact HO_633001.out⟩, ⟨KK⟩, ⟨KK⟩, ⟨KK⟩, ⟨KK⟩, ⟨KB⟩⟩
             ·replace c49 := Bool.eq_false_iff.mpr c49
              subst c49
              have H1 : (if 0 ≤ x13_3 then (if 0 ≤ x9_1 then (if x9_1 < (t615.length : Int) then (laws_FnCrash.l1 k3 x9_1 (((rd_T35 t609 x13_3).f0) == ((rd_T35 t615 x9_1).f0) && (((rd_T35 t609 x13_3).f1) == ((rd_T35 t615 x9_1).f1) && (((rd_T35 t609 x13_3).f2) == ((rd_T35 t615 x9_1).f2) && ((((rd_T35 t609 x13_3).f3).toList) == (((rd_T35 t615 x9_1).f3).toList))))) (wrap64 (x13_3 + 1)) t606 t609 t612 t615 t618 t621) else (none)) else (none)) else (none)) = some r := by rw [if_neg (show ¬ (false = true) by decide)] at H; exact H
              clear H
              have H := H1
              clear H1
              by_cases c55 : 0 ≤ x13_3
              ·rw [if_pos c55] at H
               have c55b0 : decide (0 ≤ x13_3) = true := decide_eq_true c55
               clear c55
               by_cases c56 : 0 ≤ x9_1
               ·rw [if_pos c56] at H
                have c56b0 : decide (0 ≤ x9_1) = true := decide_eq_true c56
                clear c56
                by_cases c57 : x9_1 < (t615.length : Int)
                ·rw [if_pos c57] at H
                 have c57b0 : decide (x9_1 < (t615.length : Int)) = true := decide_eq_true c57
                 clear c57
                 have H' := Aside0.mk H
                 clear H
                 have hnb58 := NB614_623.out
                 have hnc58 := NB623_614.out
                 have hnb59 := NB614_632.out
                 have hnc59 := NB632_614.out
                 have hnb60 := NB614_640.out
                 have hnc60 := NB640_614.out
                 obtain ⟨hcz61_0, hcz61_1, hcz61_2, hfz61_0, hfz61_1, hfz61_2⟩ := C3 BK614.out
                 try go_wp2
                 have h_ := P11 (Kd.R_drew HO_615000.out) (Kd.R_drew HO_615001.out) (Kd.R_drew HO_624000.out) (Kd.R_drew HO_624001.out) (Kd.R_drew HO_633000.out) (Kd.R_drew HO_633001.out) (blk_drew BK614.out) (blk_drew BK623.out) (blk_drew BK632.out) (blk_drew BK640.out) (below_drew1 HB.out)
                 clear HO_615000 HO_615001 HO_624000 HO_624001 HO_633000 HO_633001 BK614 BK623 BK632 BK640 HB
                 obtain ⟨HO_615000, HO_615001, HO_624000, HO_624001, HO_633000, HO_633001, BK614, BK623, BK632, BK640, HB⟩ := h_
                 have p642 : 0 ≤ (x13_3 : Int) := of_decide_eq_true (by first | (with_reducible assumption) | assumption)
                 have q642 : x13_3 < (t609.length : Int) := of_decide_eq_true (by first | (with_reducible assumption) | assumption)
                 obtain ⟨ad642, e642, hx642_0, hx642_1, hx642_2, hx642_3⟩ := at_T35 (Kd.R_reads' HO_615001.out).2.2 x13_3 p642 q642
                 cases e642
                 replace p642 := eq_true p642
                 replace q642 := eq_true q642
                 have p643 : 0 ≤ (x9_1 : Int) := of_decide_eq_true (by first | (with_reducible assumption) | assumption)
                 have q643 : x9_1 < (t615.length : Int) := of_decide_eq_true (by first | (with_reducible assumption) | assumption)
                 obtain ⟨ad643, e643, hx643_0, hx643_1, hx643_2, hx643_3⟩ := at_T35 (Kd.R_reads' HO_624000.out).2.2 x9_1 p643 q643
                 obtain rfl : ad634 = ad643 := (by injection e643)
                 replace p643 := eq_true p643
                 replace q643 := eq_true q643
                 refine start_ (n := 15) (S := fun w' => w'.cell? ⟨gb614, 0, none⟩ = some (.slice Ao11 t606.length co11) ∧ w'.cell? ⟨gb614, 1, none⟩ = some (.slice (some ad642) t609.length co13) ∧ w'.cell? ⟨gb614, 2, none⟩ = some (.int .i64 t612) ∧ w'.cell? ⟨gb623, 0, none⟩ = some (.slice (some ad634) t615.length co16) ∧ w'.cell? ⟨gb623, 1, none⟩ = some (.slice Ao19 t618.length co19) ∧ w'.cell? ⟨gb623, 2, none⟩ = some (.int .i64 t621) ∧ w'.cell? (ad642.add ((x13_3).toNat * 4)) = some (.int .i64 ((rd_T35 t609 x13_3).f0)) ∧ w'.cell? ⟨(ad642.add ((x13_3).toNat * 4)).block, (ad642.add ((x13_3).toNat * 4)).off + 1, none⟩ = some (.int .i64 ((rd_T35 t609 x13_3).f1)) ∧ w'.cell? ⟨(ad642.add ((x13_3).toNat * 4)).block, (ad642.add ((x13_3).toNat * 4)).off + 2, none⟩ = some (.bool ((rd_T35 t609 x13_3).f2)) ∧ w'.cell? ⟨(ad642.add ((x13_3).toNat * 4)).block, (ad642.add ((x13_3).toNat * 4)).off + 3, none⟩ = some (.string ((rd_T35 t609 x13_3).f3)) ∧ w'.cell? (ad634.add ((x9_1).toNat * 4)) = some (.int .i64 ((rd_T35 t615 x9_1).f0)) ∧ w'.cell? ⟨(ad634.add ((x9_1).toNat * 4)).block, (ad634.add ((x9_1).toNat * 4)).off + 1, none⟩ = some (.int .i64 ((rd_T35 t615 x9_1).f1)) ∧ w'.cell? ⟨(ad634.add ((x9_1).toNat * 4)).block, (ad634.add ((x9_1).toNat * 4)).off + 2, none⟩ = some (.bool ((rd_T35 t615 x9_1).f2)) ∧ w'.cell? ⟨(ad634.add ((x9_1).toNat * 4)).block, (ad634.add ((x9_1).toNat * 4)).off + 3, none⟩ = some (.string ((rd_T35 t615 x9_1).f3))) (ds := []) #[false, false, false, false, false, false, false, false, false, false, false, false, false, false, false] (by kernel_rfl) rfl rfl ⟨(blk_cell BK614.out 0).trans rfl, (blk_cell BK614.out 1).trans rfl, (blk_cell BK614.out 2).trans rfl, (blk_cell BK623.out 0).trans rfl, (blk_cell BK623.out 1).trans rfl, (blk_cell BK623.out 2).trans rfl, hx642_0, hx642_1, hx642_2, hx642_3, hx643_0, hx643_1, hx643_2, hx643_3⟩ (fun hHeld => ?_); refine with_tabW laws_FnCrash.tab18 laws_FnCrash.bits18 (fun HT_ HW_ => ?_)
                 generalize wr.drew = w62 at HO_615000 HO_615001 HO_624000 HO_624001 HO_633000 HO_633001 BK614 BK623 BK632 BK640 HB hx642_0 hx642_1 hx642_2 hx642_3 hx643_0 hx643_1 hx643_2 hx643_3 hHeld ⊢
                 refine pure_ (i := 0) (N := some 86) (v := ?_) (a' := ?_) #[true, false, false, false, false, false, false, false, false, false, false, false, false, false, false] rfl rfl (any_of HT_.out (by kernel_rfl)) (fun _ _ _ h => h) (Or.inl ⟨by rfl, ?_⟩) ?_ ?_
                 rotate_left
                 ·intro w'
                  go_simp
                  with_reducible rfl
                 rotate_left
                 ·exact KA
                 refine pure_ (i := 1) (N := some 87) (v := ?_) (a' := ?_) #[true, true, false, false, false, false, false, false, false, false, false, false, false, false, false] rfl rfl (any_of HT_.out (by kernel_rfl)) (fun _ _ _ h => h) (Or.inl ⟨by rfl, ?_⟩) ?_ ?_
                 rotate_left
                 ·intro w'
                  go_simp
                  with_reducible rfl
                 rotate_left
                 ·exact KA
                 refine pure_ (i := 2) (N := some 88) (v := ?_) (a' := ?_) #[true, true, true, false, false, false, false, false, false, false, false, false, false, false, false] rfl rfl (any_of HT_.out (by kernel_rfl)) (fun _ _ _ h => h) (Or.inl ⟨by rfl, ?_⟩) ?_ ?_
                 rotate_left
                 ·intro w'
                  go_simp
                  with_reducible rfl
                 rotate_left
                 ·exact KA
                 refine pure_ (i := 4) (N := some 90) (v := ?_) (a' := ?_) #[true, true, true, false, true, false, false, false, false, false, false, false, false, false, false] rfl rfl (any_of HT_.out (by kernel_rfl)) (fun _ _ _ h => h) (Or.inl ⟨by rfl, ?_⟩) ?_ ?_
                 rotate_left
                 ·intro w'
                  go_simp
                  with_reducible rfl
                 rotate_left
                 ·exact KA
                 refine pure_ (i := 7) (N := some 93) (v := ?_) (a' := ?_) #[true, true, true, false, true, false, false, true, false, false, false, false, false, false, false] rfl rfl (any_of HT_.out (by kernel_rfl)) (fun _ _ _ h => h) (Or.inl ⟨by rfl, ?_⟩) ?_ ?_
                 rotate_left
                 ·intro w'
                  go_simp
                  with_reducible rfl
                 rotate_left
                 ·exact KA
                 refine pure_ (i := 9) (N := some 95) (v := ?_) (a' := ?_) #[true, true, true, false, true, false, false, true, false, true, false, false, false, false, false] rfl rfl (any_of HT_.out (by kernel_rfl)) (fun _ _ _ h => h) (Or.inl ⟨by rfl, ?_⟩) ?_ ?_
                 rotate_left
                 ·intro w'
                  go_simp
                  with_reducible rfl
                 rotate_left
                 ·exact KA
                 refine take_ (i := 3) (N := some 89) (v := ?_) (a' := ?_) #[true, true, true, true, true, false, false, true, false, true, false, false, false, false, false] rfl rfl (take_ofW HT_.out HW_.out (by kernel_rfl)) (fun _ _ _ h => h) (Or.inl ⟨by rfl, ?_⟩) hHeld ?_ ?_
                 rotate_left
                 ·rintro w' ⟨s0, s1, s2, s3, s4, s5, s6, s7, s8, s9, s10, s11, s12, s13⟩
                  go_simp
                  with_reducible rfl
                 rotate_left
                 ·exact KA
                 refine pure_ (i := 5) (N := some 91) (v := ?_) (a' := ?_) #[true, true, true, true, true, true, false, true, false, true, false, false, false, false, false] rfl rfl (any_of HT_.out (by kernel_rfl)) (fun _ _ _ h => h) (Or.inl ⟨by rfl, ?_⟩) ?_ ?_
                 rotate_left
                 ·intro w'
                  go_simp
                  with_reducible rfl
                 rotate_left
                 ·exact KA
                 refine take_ (i := 6) (N := some 92) (v := ?_) (a' := ?_) #[true, true, true, true, true, true, true, true, false, true, false, false, false, false, false] rfl rfl (take_ofW HT_.out HW_.out (by kernel_rfl)) (fun _ _ _ h => h) (Or.inl ⟨by rfl, ?_⟩) hHeld ?_ ?_
                 rotate_left
                 ·rintro w' ⟨s0, s1, s2, s3, s4, s5, s6, s7, s8, s9, s10, s11, s12, s13⟩
                  go_simp
                  with_reducible rfl
                 rotate_left
                 ·exact KA
                 refine take_ (i := 8) (N := some 94) (v := ?_) (a' := ?_) #[true, true, true, true, true, true, true, true, true, true, false, false, false, false, false] rfl rfl (take_ofW HT_.out HW_.out (by kernel_rfl)) (fun _ _ _ h => h) (Or.inl ⟨by rfl, ?_⟩) hHeld ?_ ?_
                 rotate_left
                 ·rintro w' ⟨s0, s1, s2, s3, s4, s5, s6, s7, s8, s9, s10, s11, s12, s13⟩
                  go_simp
                  with_reducible rfl
                 rotate_left
                 ·exact KA
                 refine pure_ (i := 10) (N := some 96) (v := ?_) (a' := ?_) #[true, true, true, true, true, true, true, true, true, true, true, false, false, false, false] rfl rfl (any_of HT_.out (by kernel_rfl)) (fun _ _ _ h => h) (Or.inl ⟨by rfl, ?_⟩) ?_ ?_
                 rotate_left
                 ·intro w'
                  go_simp
                  with_reducible rfl
                 rotate_left
                 ·exact KA
                 refine take_ (i := 11) (N := some 97) (v := ?_) (a' := ?_) #[true, true, true, true, true, true, true, true, true, true, true, true, false, false, false] rfl rfl (take_ofW HT_.out HW_.out (by kernel_rfl)) (fun _ _ _ h => h) (Or.inl ⟨by rfl, ?_⟩) hHeld ?_ ?_
                 rotate_left
                 ·rintro w' ⟨s0, s1, s2, s3, s4, s5, s6, s7, s8, s9, s10, s11, s12, s13⟩
                  go_simp
                  with_reducible rfl
                 rotate_left
                 ·exact KA
                 refine pure_ (i := 12) (N := some 98) (v := ?_) (a' := ?_) #[true, true, true, true, true, true, true, true, true, true, true, true, true, false, false] rfl rfl (any_of HT_.out (by kernel_rfl)) (fun _ _ _ h => h) (Or.inl ⟨by rfl, ?_⟩) ?_ ?_
                 rotate_left
                 ·intro w'
                  go_simp
                  with_reducible rfl
                 rotate_left
                 ·exact KA
                 refine pure_ (i := 13) (N := some 99) (v := ?_) (a' := ?_) #[true, true, true, true, true, true, true, true, true, true, true, true, true, true, false] rfl rfl (any_of HT_.out (by kernel_rfl)) (fun _ _ _ h => h) (Or.inl ⟨by rfl, ?_⟩) ?_ ?_
                 rotate_left
                 ·intro w'
                  go_simp
                  with_reducible rfl
                 rotate_left
                 ·exact KA
                 refine pure_ (i := 14) (N := some 12) (v := ?_) (a' := ?_) #[true, true, true, true, true, true, true, true, true, true, true, true, true, true, true] rfl rfl (any_of HT_.out (by kernel_rfl)) (fun _ _ _ h => h) (Or.inl ⟨by rfl, ?_⟩) ?_ ?_
                 rotate_left
                 ·intro w'
                  go_simp
                  with_reducible rfl
                 rotate_left
                 ·exact KA
                 refine done_ (done_of HT_.out (by kernel_rfl)) ?_
                 try go_wp2
                 go_roundg k3
                 case measure => have := HK1.out; have := HJ30.out; have := HK3.out; omega
                 case rel => exact ⟨((((rd_T35 t609 x13_3).f0) == ((rd_T35 t615 x9_1).f0) && (((rd_T35 t609 x13_3).f1) == ((rd_T35 t615 x9_1).f1) && (((rd_T35 t609 x13_3).f2) == ((rd_T35 t615 x9_1).f2) && ((((rd_T35 t609 x13_3).f3).toList) == (((rd_T35 t615 x9_1).f3).toList)))))), (wrap64 (x13_3 + 1)), (by first | rfl | (simp; done) | (simp [*]; done)), (by first | rfl | (simp; done) | (simp [*]; done)), H', ⟨by have := HK1.out; have := HJ30.out; have := HK3.out; omega⟩, ⟨by (with_reducible repeat (first | apply Kd.R_alloc | apply Kd.R_drewN | apply Kd.R_drew)); exact HO_615000.out⟩, ⟨by (with_reducible repeat (first | apply Kd.R_alloc | apply Kd.R_drewN | apply Kd.R_drew)); exact HO_615001.out⟩, ⟨by (with_reducible repeat (first | apply Kd.R_alloc | apply Kd.R_drewN | apply Kd.R_drew)); exact HO_624000.out⟩, ⟨by (with_reducible repeat (first | apply Kd.R_alloc | apply Kd.R_drewN | apply Kd.R_drew)); exact HO_624001.out⟩, ⟨by (with_reducible repeat (first | apply Kd.R_alloc | apply Kd.R_drewN | apply Kd.R_drew)); exact HO_633000.out⟩, ⟨by (with_reducible repeat (first | apply Kd.R_alloc | apply Kd.R_drewN | apply Kd.R_drew)); exact HO_633001.out⟩, ⟨KK⟩, ⟨KK⟩, ⟨KK⟩, ⟨KK⟩, ⟨KB⟩⟩
                ·rw [if_neg c57] at H
                 exact absurd H (by simp)
               ·rw [if_neg c56] at H
                exact absurd H (by simp)
              ·rw [if_neg c55] at H
               exact absurd H (by simp)
            ·rw [if_neg c48] at H
             have c48b0 : decide (x13_3 < (t609.length : Int)) = false := decide_eq_false c48
             clear c48
             by_cases c63 : x12_3 = true
             ·subst c63
              have H1 : (laws_FnCrash.l0 k3 (wrap64 (x9_1 + 1)) t606 t609 t612 t615 t618 t621) = some r := by rw [if_pos rfl] at H; exact H
              clear H
              have H := H1
              clear H1
              have H' := Aside0.mk H
              clear H
              have hnb64 := NB614_623.out
              have hnc64 := NB623_614.out
              have hnb65 := NB614_632.out
              have hnc65 := NB632_614.out
              have hnb66 := NB614_640.out
              have hnc66 := NB640_614.out
              obtain ⟨hcz67_0, hcz67_1, hcz67_2, hfz67_0, hfz67_1, hfz67_2⟩ := C3 BK614.out
              go_wp2
              go_roundg k3
              case measure => have := HK1.out; have := HJ30.out; have := HK3.out; omega
              case rel => exact ⟨(wrap64 (x9_1 + 1)), (by first | rfl | (simp; done) | (simp [*]; done)), H', ⟨by have := HK1.out; have := HJ30.out; have := HK3.out; omega⟩, ⟨by (with_reducible repeat (first | apply Kd.R_alloc | apply Kd.R_drewN | apply Kd.R_drew)); exact Kd.R_mono HO_615000.out (fun _ hk => ⟨hk.1, ⟨hk.2.1, ⟨hk.2.2.1, ⟨hk.2.2.2.1, hk.2.2.2.2.1⟩⟩⟩⟩)⟩, ⟨by (with_reducible repeat (first | apply Kd.R_alloc | apply Kd.R_drewN | apply Kd.R_drew)); exact Kd.R_mono HO_615001.out (fun _ hk => ⟨hk.1, ⟨hk.2.1, ⟨hk.2.2.1, ⟨hk.2.2.2.1, hk.2.2.2.2.1⟩⟩⟩⟩)⟩, ⟨by (with_reducible repeat (first | apply Kd.R_alloc | apply Kd.R_drewN | apply Kd.R_drew)); exact Kd.R_mono HO_624000.out (fun _ hk => ⟨hk.1, ⟨hk.2.1, ⟨hk.2.2.1, ⟨hk.2.2.2.1, hk.2.2.2.2.1⟩⟩⟩⟩)⟩, ⟨by (with_reducible repeat (first | apply Kd.R_alloc | apply Kd.R_drewN | apply Kd.R_drew)); exact Kd.R_mono HO_624001.out (fun _ hk => ⟨hk.1, ⟨hk.2.1, ⟨hk.2.2.1, ⟨hk.2.2.2.1, hk.2.2.2.2.1⟩⟩⟩⟩)⟩, ⟨by (with_reducible repeat (first | apply Kd.R_alloc | apply Kd.R_drewN | apply Kd.R_drew)); exact Kd.R_mono HO_633000.out (fun _ hk => ⟨hk.1, ⟨hk.2.1, ⟨hk.2.2.1, ⟨hk.2.2.2.1, hk.2.2.2.2.1⟩⟩⟩⟩)⟩, ⟨by (with_reducible repeat (first | apply Kd.R_alloc | apply Kd.R_drewN | apply Kd.R_drew)); exact Kd.R_mono HO_633001.out (fun _ hk => ⟨hk.1, ⟨hk.2.1, ⟨hk.2.2.1, ⟨hk.2.2.2.1, hk.2.2.2.2.1⟩⟩⟩⟩)⟩, ⟨KK⟩, ⟨KK⟩, ⟨KK⟩, ⟨KB⟩⟩
             ·replace c63 := Bool.eq_false_iff.mpr c63
              subst c63
              have H1 : (none) = some r := by rw [if_neg (show ¬ (false = true) by decide)] at H; exact H
              clear H
              have H := H1
              clear H1
              exact absurd H (by simp)
       ·rw [if_neg c29] at H
        exact absurd H (by simp)
      ·rw [if_neg c28] at H
       have c28b0 : decide (x9_1 < (t615.length : Int)) = false := decide_eq_false c28
       clear c28
       by_cases c68 : (t618.length : Int) = 0
       ·rw [if_pos c68] at H
        have c68b0 : ((t618.length : Int) == 0) = true := beq_iff_eq.mpr c68
        have c68b1 : ((t618.length : Int) != 0) = false := bne_eq_false_iff_eq.mpr c68
        clear c68
        by_cases c69 : (t615.length : Int) ≥ (t606.length : Int)
        ·rw [if_pos c69] at H
         have c69b0 : decide ((t606.length : Int) ≤ (t615.length : Int)) = true := decide_eq_true c69
         have c69b1 : decide (t606.length ≤ t615.length) = true := decide_eq_true (Int.ofNat_le.mp c69)
         clear c69
         by_cases c70 : t621 = t612
         ·rw [if_pos c70] at H
          have c70b0 : (t621 == t612) = true := beq_iff_eq.mpr c70
          have c70b1 : (t621 != t612) = false := bne_eq_false_iff_eq.mpr c70
          clear c70
          replace H := Option.bind_eq_some_iff.mp H
          obtain ⟨t633, A710, H⟩ := H
          replace H : (some t633) = some r := H
          have A71 := Aside0.mk A710
          clear A710
          obtain rfl := Option.some.inj H
          have hnb72 := NB623_614.out
          have hnc72 := NB614_623.out
          have hnb73 := NB623_632.out
          have hnc73 := NB632_623.out
          obtain ⟨hcz74_0, hcz74_1, hcz74_2, hfz74_0, hfz74_1, hfz74_2⟩ := C3 BK623.out
          have hnb75 := NB614_632.out
          have hnc75 := NB632_614.out
          obtain ⟨hcz76_0, hcz76_1, hcz76_2, hfz76_0, hfz76_1, hfz76_2⟩ := C3 BK614.out
          go_wp2_with (first | (go_at_call 32; (with_reducible refine (impl_StoreOk.calls k1 _ _ t615 _ _ t618 t621 t633 _ ?side1 ?side2 ?side3 ?side4 A71.out).mono ?_); (case side1 => repeat (first | exact (Kd.R_reads' HO_624000.out).2.2 | (with_reducible refine Kd.C_alloc ?_ _) | (with_reducible refine Kd.C_drewN ?_ _) | (with_reducible refine Kd.C_drew ?_))); (case side2 => exact (Kd.R_reads' HO_624000.out).2.1); (case side3 => repeat (first | exact (Kd.R_reads' HO_624001.out).2.2 | (with_reducible refine Kd.C_alloc ?_ _) | (with_reducible refine Kd.C_drewN ?_ _) | (with_reducible refine Kd.C_drew ?_))); (case side4 => exact (Kd.R_reads' HO_624001.out).2.1); rintro e w77 ⟨rfl, hb⟩; have h_ := P10 (Kd.R_below (KR HO_615000.out) hb) (Kd.R_below (KR HO_615001.out) hb) (Kd.R_below (KR HO_624000.out) hb) (Kd.R_below (KR HO_624001.out) hb) (Kd.R_below (KR HO_633000.out) hb) (Kd.R_below (KR HO_633001.out) hb) (BL BK614.out hb) (BL BK623.out hb) (BL BK632.out hb) (below_step KB hb); clear HO_615000 HO_615001 HO_624000 HO_624001 HO_633000 HO_633001 BK614 BK623 BK632 HB; obtain ⟨HO_615000, HO_615001, HO_624000, HO_624001, HO_633000, HO_633001, BK614, BK623, BK632, HB⟩ := h_; (try clear hb); (try clear hk); (try clear hi)))
          go_ret
          exact ⟨KE, KB⟩
         ·rw [if_neg c70] at H
          exact absurd H (by simp)
        ·rw [if_neg c69] at H
         exact absurd H (by simp)
       ·rw [if_neg c68] at H
        exact absurd H (by simp)
   ·replace c8 := Bool.eq_false_iff.mpr c8
    subst c8
    have H1 : (if (t618.length : Int) = (t609.length : Int) then (some true) else (some ((t615.length : Int) == 0))) = some r := by rw [if_neg (show ¬ (false = true) by decide)] at H; exact H
    clear H
    have H := H1
    clear H1
    by_cases c78 : (t618.length : Int) = (t609.length : Int)
    ·rw [if_pos c78] at H
     have c78b0 : ((t618.length : Int) == (t609.length : Int)) = true := beq_iff_eq.mpr c78
     have c78b1 : ((t618.length : Int) != (t609.length : Int)) = false := bne_eq_false_iff_eq.mpr c78
     have c78b2 : (t618.length == t609.length) = true := by first | simpa using c78 | (simp at c78 ⊢; omega)
     clear c78
     obtain rfl := Option.some.inj H
     go_enter Try.func6, Try.ntmps6
     go_wp2_with (first | ((with_reducible refine gate_callee (f := 20) rfl ?_); refine goesL_ (some 15) rfl rfl Try.func20 (by kernel_rfl) rfl #[.slice A0 l0.length c0] rfl KL ?_; (with_reducible refine (laws_big.calls _ _ l0 false _ ?side1 ?side2 A2.out).mono ?_); (case side1 => exact KC); (case side2 => exact HC0.out); rintro e w' ⟨rfl, ⟨nd, rfl⟩⟩; refine ⟨_, rfl, ?_⟩) | ((with_reducible refine gate_callee (f := 28) rfl ?_); refine goesL_ (some 18) rfl rfl Try.func28 (by kernel_rfl) rfl #[.slice A0 l0.length c0] rfl KL ?_; (with_reducible refine (spec_DrawStoreCrash.calls k _ _ l0 t606 t609 t612 t613 _ ?side1 ?side2 A4.out).mono ?_); (case side1 => exact KC); (case side2 => exact HC0.out); rintro e w79 ⟨v607, v610, rfl, ho0, ho1, hb⟩; refine ⟨_, rfl, ?_⟩; have h_ := P3 (Kd.R_lower ho0 (below_size KB)) (Kd.R_lower ho1 (below_size KB)) (below_step KB hb); clear HB; obtain ⟨HO608, HO611, HB⟩ := h_; (try clear hb); (try clear hk); (try clear hi); (try clear ho0); (try clear ho1)) | ((with_reducible refine gate_dst (N := 3) rfl ?_); (try (refine gate_guard (by rfl) ?_; dsimp only)); refine BE 3 #[.slice none 0 0, .slice none 0 0, .int .i64 0] 31 ?_; intro gb614 hg w80 hbox hb; have h_ := P6 (Kd.R_below (KR HO608.out) hb) (Kd.R_below (KR HO611.out) hb) (below_step KB hb) hbox (KG hg : w.heap.size ≤ gb614) (KG hg : w.heap.size ≤ gb614); clear HO608 HO611 HB; obtain ⟨HO608, HO611, HB, BK614, GW614, GE614⟩ := h_; clear hb hbox hg; obtain ⟨Ao81, co81, eo81⟩ := Kd.R_slice HO608.out; subst eo81; obtain ⟨hcz82_0, hcz82_1, hcz82_2, hfz82_0, hfz82_1, hfz82_2⟩ := C3 BK614.out; obtain ⟨Ao83, co83, eo83⟩ := Kd.R_slice HO611.out; subst eo83) | ((with_reducible refine gate_callee (f := 29) rfl ?_); refine goesL_ (some 24) rfl rfl Try.func29 (by kernel_rfl) rfl #[.agg #[.slice Ao81 t606.length co81, .slice Ao83 t609.length co83, .int .i64 t612], .int .i64 t613] rfl KL ?_; (with_reducible refine (impl_StoreCrash.calls k _ _ t606 _ _ t609 t612 t613 t615 t618 t621 false _ ?side1 ?side2 ?side3 ?side4 A5.out).mono ?_); (case side1 => refine (Kd.R_reads' (e := 35) (base := w.heap.size) (ok := fun k_ => some k_ ≠ (.slice Ao83 t609.length co83 : Value).ownBlock) (n := t606.length) (c := co81) ?_).2.2; exact (RQ (RT HO608.out BK614.out))); (case side2 => exact (Kd.R_reads' HO608.out).2.1); (case side3 => refine (Kd.R_reads' (e := 35) (base := w.heap.size) (ok := fun k_ => some k_ ≠ (.slice Ao81 t606.length co81 : Value).ownBlock) (n := t609.length) (c := co83) ?_).2.2; exact (RQ (RT HO611.out BK614.out))); (case side4 => exact (Kd.R_reads' HO611.out).2.1); rintro e w84 ⟨v616, v619, rfl, ho0, ho1, hb⟩; refine ⟨_, rfl, ?_⟩; have h_ := P6 (Kd.R_mono (Kd.R_told (Kd.R_told (Kd.R_old (RQ (RT HO608.out BK614.out)) hb) (Kd.R_base ho0)) (Kd.R_base ho1)) (fun _ h_ => h_.1)) (Kd.R_mono (Kd.R_told (Kd.R_told (Kd.R_old (RQ (RT HO611.out BK614.out)) hb) (Kd.R_base ho0)) (Kd.R_base ho1)) (fun _ h_ => h_.1)) (Kd.R_lower (Kd.R_new' (Kd.R_new' ho0 (Kd.R_lt (RQ (RT HO608.out BK614.out)))) (Kd.R_lt (RQ (RT HO611.out BK614.out)))) (below_size KB)) (Kd.R_lower (Kd.R_new' (Kd.R_new' ho1 (Kd.R_lt (RQ (RT HO608.out BK614.out)))) (Kd.R_lt (RQ (RT HO611.out BK614.out)))) (below_size KB)) (blk_below (g := gb614) (o := .cells #[.slice Ao81 t606.length co81, .slice Ao83 t609.length co83, .int .i64 t612] 31 (0, 0)) (by refine SK ?_; refine blk_put (cs := #[.slice Ao81 t606.length co81, .slice Ao83 t609.length co83, .int .i64 0]) ?_ 2 _ rfl; refine SK ?_; refine blk_put (cs := #[.slice Ao81 t606.length co81, .slice none 0 0, .int .i64 0]) ?_ 1 _ rfl; refine SK ?_; refine blk_put (cs := #[.slice none 0 0, .slice none 0 0, .int .i64 0]) ?_ 0 _ rfl; exact SK BK614.out) hb) (below_step KB hb); clear HO608 HO611 BK614 HB; obtain ⟨HO608, HO611, HO617, HO620, BK614, HB⟩ := h_; (try clear hb); (try clear hk); (try clear hi); (try clear ho0); (try clear ho1)) | ((with_reducible refine gate_dst (N := 5) rfl ?_); (try (refine gate_guard (by rfl) ?_; dsimp only)); refine BE 5 #[.slice none 0 0, .slice none 0 0, .int .i64 0] 31 ?_; intro gb623 hg w85 hbox hb; have h_ := P11 (Kd.R_below (KR HO608.out) hb) (Kd.R_below (KR HO611.out) hb) (Kd.R_below (KR HO617.out) hb) (Kd.R_below (KR HO620.out) hb) (BL BK614.out hb) (below_step KB hb) hbox (KG hg : w.heap.size ≤ gb623) (KG hg : w.heap.size ≤ gb623) (NX hg BK614.out) (Ne.symm (NX hg BK614.out)); clear HO608 HO611 HO617 HO620 BK614 HB; obtain ⟨HO608, HO611, HO617, HO620, BK614, HB, BK623, GW623, GE623, NB614_623, NB623_614⟩ := h_; clear hb hbox hg; obtain ⟨Ao86, co86, eo86⟩ := Kd.R_slice HO617.out; subst eo86; have hnb87 := NB623_614.out; have hnc87 := NB614_623.out; obtain ⟨hcz88_0, hcz88_1, hcz88_2, hfz88_0, hfz88_1, hfz88_2⟩ := C3 BK623.out; obtain ⟨Ao89, co89, eo89⟩ := Kd.R_slice HO620.out; subst eo89; obtain ⟨hcz90_0, hcz90_1, hcz90_2, hfz90_0, hfz90_1, hfz90_2⟩ := C3 BK614.out) | ((with_reducible refine gate_callee (f := 30) rfl ?_); refine goesL_ (some 30) rfl rfl Try.func30 (by kernel_rfl) rfl #[.agg #[.slice Ao81 t606.length co81, .slice Ao83 t609.length co83, .int .i64 t612], .int .i64 t613] rfl KL ?_; (with_reducible refine (spec_StoreCrash.calls k _ _ t606 _ _ t609 t612 t613 t624 t627 t630 t631 _ ?side1 ?side2 ?side3 ?side4 A6.out).mono ?_); (case side1 => refine (Kd.R_reads' (e := 35) (base := w.heap.size) (ok := fun k_ => ((some k_ ≠ (.slice Ao83 t609.length co83 : Value).ownBlock ∧ some k_ ≠ (.slice Ao86 t615.length co86 : Value).ownBlock) ∧ some k_ ≠ (.slice Ao89 t618.length co89 : Value).ownBlock)) (n := t606.length) (c := co81) ?_).2.2; exact (RQ (RT HO608.out BK623.out))); (case side2 => exact (Kd.R_reads' HO608.out).2.1); (case side3 => refine (Kd.R_reads' (e := 35) (base := w.heap.size) (ok := fun k_ => ((some k_ ≠ (.slice Ao81 t606.length co81 : Value).ownBlock ∧ some k_ ≠ (.slice Ao86 t615.length co86 : Value).ownBlock) ∧ some k_ ≠ (.slice Ao89 t618.length co89 : Value).ownBlock)) (n := t609.length) (c := co83) ?_).2.2; exact (RQ (RT HO611.out BK623.out))); (case side4 => exact (Kd.R_reads' HO611.out).2.1); rintro e w91 ⟨v625, v628, rfl, ho0, ho1, hb⟩; refine ⟨_, rfl, ?_⟩; have h_ := P9 (Kd.R_mono (Kd.R_told (Kd.R_told (Kd.R_old (RQ (RT HO608.out BK623.out)) hb) (Kd.R_base ho0)) (Kd.R_base ho1)) (fun _ h_ => h_.1)) (Kd.R_mono (Kd.R_told (Kd.R_told (Kd.R_old (RQ (RT HO611.out BK623.out)) hb) (Kd.R_base ho0)) (Kd.R_base ho1)) (fun _ h_ => h_.1)) (Kd.R_mono (Kd.R_told (Kd.R_told (Kd.R_old (RQ (RT HO617.out BK623.out)) hb) (Kd.R_base ho0)) (Kd.R_base ho1)) (fun _ h_ => h_.1)) (Kd.R_mono (Kd.R_told (Kd.R_told (Kd.R_old (RQ (RT HO620.out BK623.out)) hb) (Kd.R_base ho0)) (Kd.R_base ho1)) (fun _ h_ => h_.1)) (Kd.R_lower (Kd.R_new' (Kd.R_new' (Kd.R_new' (Kd.R_new' ho0 (Kd.R_lt (RQ (RT HO608.out BK623.out)))) (Kd.R_lt (RQ (RT HO611.out BK623.out)))) (Kd.R_lt (RQ (RT HO617.out BK623.out)))) (Kd.R_lt (RQ (RT HO620.out BK623.out)))) (below_size KB)) (Kd.R_lower (Kd.R_new' (Kd.R_new' (Kd.R_new' (Kd.R_new' ho1 (Kd.R_lt (RQ (RT HO608.out BK623.out)))) (Kd.R_lt (RQ (RT HO611.out BK623.out)))) (Kd.R_lt (RQ (RT HO617.out BK623.out)))) (Kd.R_lt (RQ (RT HO620.out BK623.out)))) (below_size KB)) (BL BK614.out hb) (blk_below (g := gb623) (o := .cells #[.slice Ao86 t615.length co86, .slice Ao89 t618.length co89, .int .i64 t621] 31 (0, 0)) (by refine SK ?_; refine blk_put (cs := #[.slice Ao86 t615.length co86, .slice Ao89 t618.length co89, .int .i64 0]) ?_ 2 _ rfl; refine SK ?_; refine blk_put (cs := #[.slice Ao86 t615.length co86, .slice none 0 0, .int .i64 0]) ?_ 1 _ rfl; refine SK ?_; refine blk_put (cs := #[.slice none 0 0, .slice none 0 0, .int .i64 0]) ?_ 0 _ rfl; exact SK BK623.out) hb) (below_step KB hb); clear HO608 HO611 HO617 HO620 BK614 BK623 HB; obtain ⟨HO608, HO611, HO617, HO620, HO626, HO629, BK614, BK623, HB⟩ := h_; (try clear hb); (try clear hk); (try clear hi); (try clear ho0); (try clear ho1)) | ((with_reducible refine gate_dst (N := 7) rfl ?_); (try (refine gate_guard (by rfl) ?_; dsimp only)); refine BE 7 #[.slice none 0 0, .slice none 0 0, .int .i64 0] 31 ?_; intro gb632 hg w92 hbox hb; have h_ := P16 (Kd.R_below (KR HO608.out) hb) (Kd.R_below (KR HO611.out) hb) (Kd.R_below (KR HO617.out) hb) (Kd.R_below (KR HO620.out) hb) (Kd.R_below (KR HO626.out) hb) (Kd.R_below (KR HO629.out) hb) (BL BK614.out hb) (BL BK623.out hb) (below_step KB hb) hbox (KG hg : w.heap.size ≤ gb632) (KG hg : w.heap.size ≤ gb632) (NX hg BK614.out) (Ne.symm (NX hg BK614.out)) (NX hg BK623.out) (Ne.symm (NX hg BK623.out)); clear HO608 HO611 HO617 HO620 HO626 HO629 BK614 BK623 HB; obtain ⟨HO608, HO611, HO617, HO620, HO626, HO629, BK614, BK623, HB, BK632, GW632, GE632, NB614_632, NB632_614, NB623_632, NB632_623⟩ := h_; clear hb hbox hg; obtain ⟨Ao93, co93, eo93⟩ := Kd.R_slice HO626.out; subst eo93; have hnb94 := NB632_614.out; have hnc94 := NB614_632.out; have hnb95 := NB632_623.out; have hnc95 := NB623_632.out; obtain ⟨hcz96_0, hcz96_1, hcz96_2, hfz96_0, hfz96_1, hfz96_2⟩ := C3 BK632.out; obtain ⟨Ao97, co97, eo97⟩ := Kd.R_slice HO629.out; subst eo97; obtain ⟨hcz98_0, hcz98_1, hcz98_2, hfz98_0, hfz98_1, hfz98_2⟩ := C3 BK623.out; obtain ⟨hcz99_0, hcz99_1, hcz99_2, hfz99_0, hfz99_1, hfz99_2⟩ := C3 BK614.out))
     go_ret
     exact ⟨KE, KB⟩
    ·rw [if_neg c78] at H
     have c78b0 : ((t618.length : Int) == (t609.length : Int)) = false := beq_eq_false_iff_ne.mpr c78
     have c78b1 : ((t618.length : Int) != (t609.length : Int)) = true := bne_iff_ne.mpr c78
     have c78b2 : (t618.length == t609.length) = false := by first | simpa using c78 | (simp at c78 ⊢; omega)
     obtain rfl := Option.some.inj H
     go_enter Try.func6, Try.ntmps6
     go_wp2_with (first | ((with_reducible refine gate_callee (f := 20) rfl ?_); refine goesL_ (some 15) rfl rfl Try.func20 (by kernel_rfl) rfl #[.slice A0 l0.length c0] rfl KL ?_; (with_reducible refine (laws_big.calls _ _ l0 false _ ?side1 ?side2 A2.out).mono ?_); (case side1 => exact KC); (case side2 => exact HC0.out); rintro e w' ⟨rfl, ⟨nd, rfl⟩⟩; refine ⟨_, rfl, ?_⟩) | ((with_reducible refine gate_callee (f := 28) rfl ?_); refine goesL_ (some 18) rfl rfl Try.func28 (by kernel_rfl) rfl #[.slice A0 l0.length c0] rfl KL ?_; (with_reducible refine (spec_DrawStoreCrash.calls k _ _ l0 t606 t609 t612 t613 _ ?side1 ?side2 A4.out).mono ?_); (case side1 => exact KC); (case side2 => exact HC0.out); rintro e w100 ⟨v607, v610, rfl, ho0, ho1, hb⟩; refine ⟨_, rfl, ?_⟩; have h_ := P3 (Kd.R_lower ho0 (below_size KB)) (Kd.R_lower ho1 (below_size KB)) (below_step KB hb); clear HB; obtain ⟨HO608, HO611, HB⟩ := h_; (try clear hb); (try clear hk); (try clear hi); (try clear ho0); (try clear ho1)) | ((with_reducible refine gate_dst (N := 3) rfl ?_); (try (refine gate_guard (by rfl) ?_; dsimp only)); refine BE 3 #[.slice none 0 0, .slice none 0 0, .int .i64 0] 31 ?_; intro gb614 hg w101 hbox hb; have h_ := P6 (Kd.R_below (KR HO608.out) hb) (Kd.R_below (KR HO611.out) hb) (below_step KB hb) hbox (KG hg : w.heap.size ≤ gb614) (KG hg : w.heap.size ≤ gb614); clear HO608 HO611 HB; obtain ⟨HO608, HO611, HB, BK614, GW614, GE614⟩ := h_; clear hb hbox hg; obtain ⟨Ao102, co102, eo102⟩ := Kd.R_slice HO608.out; subst eo102; obtain ⟨hcz103_0, hcz103_1, hcz103_2, hfz103_0, hfz103_1, hfz103_2⟩ := C3 BK614.out; obtain ⟨Ao104, co104, eo104⟩ := Kd.R_slice HO611.out; subst eo104) | ((with_reducible refine gate_callee (f := 29) rfl ?_); refine goesL_ (some 24) rfl rfl Try.func29 (by kernel_rfl) rfl #[.agg #[.slice Ao102 t606.length co102, .slice Ao104 t609.length co104, .int .i64 t612], .int .i64 t613] rfl KL ?_; (with_reducible refine (impl_StoreCrash.calls k _ _ t606 _ _ t609 t612 t613 t615 t618 t621 false _ ?side1 ?side2 ?side3 ?side4 A5.out).mono ?_); (case side1 => refine (Kd.R_reads' (e := 35) (base := w.heap.size) (ok := fun k_ => some k_ ≠ (.slice Ao104 t609.length co104 : Value).ownBlock) (n := t606.length) (c := co102) ?_).2.2; exact (RQ (RT HO608.out BK614.out))); (case side2 => exact (Kd.R_reads' HO608.out).2.1); (case side3 => refine (Kd.R_reads' (e := 35) (base := w.heap.size) (ok := fun k_ => some k_ ≠ (.slice Ao102 t606.length co102 : Value).ownBlock) (n := t609.length) (c := co104) ?_).2.2; exact (RQ (RT HO611.out BK614.out))); (case side4 => exact (Kd.R_reads' HO611.out).2.1); rintro e w105 ⟨v616, v619, rfl, ho0, ho1, hb⟩; refine ⟨_, rfl, ?_⟩; have h_ := P6 (Kd.R_mono (Kd.R_told (Kd.R_told (Kd.R_old (RQ (RT HO608.out BK614.out)) hb) (Kd.R_base ho0)) (Kd.R_base ho1)) (fun _ h_ => h_.1)) (Kd.R_mono (Kd.R_told (Kd.R_told (Kd.R_old (RQ (RT HO611.out BK614.out)) hb) (Kd.R_base ho0)) (Kd.R_base ho1)) (fun _ h_ => h_.1)) (Kd.R_lower (Kd.R_new' (Kd.R_new' ho0 (Kd.R_lt (RQ (RT HO608.out BK614.out)))) (Kd.R_lt (RQ (RT HO611.out BK614.out)))) (below_size KB)) (Kd.R_lower (Kd.R_new' (Kd.R_new' ho1 (Kd.R_lt (RQ (RT HO608.out BK614.out)))) (Kd.R_lt (RQ (RT HO611.out BK614.out)))) (below_size KB)) (blk_below (g := gb614) (o := .cells #[.slice Ao102 t606.length co102, .slice Ao104 t609.length co104, .int .i64 t612] 31 (0, 0)) (by refine SK ?_; refine blk_put (cs := #[.slice Ao102 t606.length co102, .slice Ao104 t609.length co104, .int .i64 0]) ?_ 2 _ rfl; refine SK ?_; refine blk_put (cs := #[.slice Ao102 t606.length co102, .slice none 0 0, .int .i64 0]) ?_ 1 _ rfl; refine SK ?_; refine blk_put (cs := #[.slice none 0 0, .slice none 0 0, .int .i64 0]) ?_ 0 _ rfl; exact SK BK614.out) hb) (below_step KB hb); clear HO608 HO611 BK614 HB; obtain ⟨HO608, HO611, HO617, HO620, BK614, HB⟩ := h_; (try clear hb); (try clear hk); (try clear hi); (try clear ho0); (try clear ho1)) | ((with_reducible refine gate_dst (N := 5) rfl ?_); (try (refine gate_guard (by rfl) ?_; dsimp only)); refine BE 5 #[.slice none 0 0, .slice none 0 0, .int .i64 0] 31 ?_; intro gb623 hg w106 hbox hb; have h_ := P11 (Kd.R_below (KR HO608.out) hb) (Kd.R_below (KR HO611.out) hb) (Kd.R_below (KR HO617.out) hb) (Kd.R_below (KR HO620.out) hb) (BL BK614.out hb) (below_step KB hb) hbox (KG hg : w.heap.size ≤ gb623) (KG hg : w.heap.size ≤ gb623) (NX hg BK614.out) (Ne.symm (NX hg BK614.out)); clear HO608 HO611 HO617 HO620 BK614 HB; obtain ⟨HO608, HO611, HO617, HO620, BK614, HB, BK623, GW623, GE623, NB614_623, NB623_614⟩ := h_; clear hb hbox hg; obtain ⟨Ao107, co107, eo107⟩ := Kd.R_slice HO617.out; subst eo107; have hnb108 := NB623_614.out; have hnc108 := NB614_623.out; obtain ⟨hcz109_0, hcz109_1, hcz109_2, hfz109_0, hfz109_1, hfz109_2⟩ := C3 BK623.out; obtain ⟨Ao110, co110, eo110⟩ := Kd.R_slice HO620.out; subst eo110; obtain ⟨hcz111_0, hcz111_1, hcz111_2, hfz111_0, hfz111_1, hfz111_2⟩ := C3 BK614.out) | ((with_reducible refine gate_callee (f := 30) rfl ?_); refine goesL_ (some 30) rfl rfl Try.func30 (by kernel_rfl) rfl #[.agg #[.slice Ao102 t606.length co102, .slice Ao104 t609.length co104, .int .i64 t612], .int .i64 t613] rfl KL ?_; (with_reducible refine (spec_StoreCrash.calls k _ _ t606 _ _ t609 t612 t613 t624 t627 t630 t631 _ ?side1 ?side2 ?side3 ?side4 A6.out).mono ?_); (case side1 => refine (Kd.R_reads' (e := 35) (base := w.heap.size) (ok := fun k_ => ((some k_ ≠ (.slice Ao104 t609.length co104 : Value).ownBlock ∧ some k_ ≠ (.slice Ao107 t615.length co107 : Value).ownBlock) ∧ some k_ ≠ (.slice Ao110 t618.length co110 : Value).ownBlock)) (n := t606.length) (c := co102) ?_).2.2; exact (RQ (RT HO608.out BK623.out))); (case side2 => exact (Kd.R_reads' HO608.out).2.1); (case side3 => refine (Kd.R_reads' (e := 35) (base := w.heap.size) (ok := fun k_ => ((some k_ ≠ (.slice Ao102 t606.length co102 : Value).ownBlock ∧ some k_ ≠ (.slice Ao107 t615.length co107 : Value).ownBlock) ∧ some k_ ≠ (.slice Ao110 t618.length co110 : Value).ownBlock)) (n := t609.length) (c := co104) ?_).2.2; exact (RQ (RT HO611.out BK623.out))); (case side4 => exact (Kd.R_reads' HO611.out).2.1); rintro e w112 ⟨v625, v628, rfl, ho0, ho1, hb⟩; refine ⟨_, rfl, ?_⟩; have h_ := P9 (Kd.R_mono (Kd.R_told (Kd.R_told (Kd.R_old (RQ (RT HO608.out BK623.out)) hb) (Kd.R_base ho0)) (Kd.R_base ho1)) (fun _ h_ => h_.1)) (Kd.R_mono (Kd.R_told (Kd.R_told (Kd.R_old (RQ (RT HO611.out BK623.out)) hb) (Kd.R_base ho0)) (Kd.R_base ho1)) (fun _ h_ => h_.1)) (Kd.R_mono (Kd.R_told (Kd.R_told (Kd.R_old (RQ (RT HO617.out BK623.out)) hb) (Kd.R_base ho0)) (Kd.R_base ho1)) (fun _ h_ => h_.1)) (Kd.R_mono (Kd.R_told (Kd.R_told (Kd.R_old (RQ (RT HO620.out BK623.out)) hb) (Kd.R_base ho0)) (Kd.R_base ho1)) (fun _ h_ => h_.1)) (Kd.R_lower (Kd.R_new' (Kd.R_new' (Kd.R_new' (Kd.R_new' ho0 (Kd.R_lt (RQ (RT HO608.out BK623.out)))) (Kd.R_lt (RQ (RT HO611.out BK623.out)))) (Kd.R_lt (RQ (RT HO617.out BK623.out)))) (Kd.R_lt (RQ (RT HO620.out BK623.out)))) (below_size KB)) (Kd.R_lower (Kd.R_new' (Kd.R_new' (Kd.R_new' (Kd.R_new' ho1 (Kd.R_lt (RQ (RT HO608.out BK623.out)))) (Kd.R_lt (RQ (RT HO611.out BK623.out)))) (Kd.R_lt (RQ (RT HO617.out BK623.out)))) (Kd.R_lt (RQ (RT HO620.out BK623.out)))) (below_size KB)) (BL BK614.out hb) (blk_below (g := gb623) (o := .cells #[.slice Ao107 t615.length co107, .slice Ao110 t618.length co110, .int .i64 t621] 31 (0, 0)) (by refine SK ?_; refine blk_put (cs := #[.slice Ao107 t615.length co107, .slice Ao110 t618.length co110, .int .i64 0]) ?_ 2 _ rfl; refine SK ?_; refine blk_put (cs := #[.slice Ao107 t615.length co107, .slice none 0 0, .int .i64 0]) ?_ 1 _ rfl; refine SK ?_; refine blk_put (cs := #[.slice none 0 0, .slice none 0 0, .int .i64 0]) ?_ 0 _ rfl; exact SK BK623.out) hb) (below_step KB hb); clear HO608 HO611 HO617 HO620 BK614 BK623 HB; obtain ⟨HO608, HO611, HO617, HO620, HO626, HO629, BK614, BK623, HB⟩ := h_; (try clear hb); (try clear hk); (try clear hi); (try clear ho0); (try clear ho1)) | ((with_reducible refine gate_dst (N := 7) rfl ?_); (try (refine gate_guard (by rfl) ?_; dsimp only)); refine BE 7 #[.slice none 0 0, .slice none 0 0, .int .i64 0] 31 ?_; intro gb632 hg w113 hbox hb; have h_ := P16 (Kd.R_below (KR HO608.out) hb) (Kd.R_below (KR HO611.out) hb) (Kd.R_below (KR HO617.out) hb) (Kd.R_below (KR HO620.out) hb) (Kd.R_below (KR HO626.out) hb) (Kd.R_below (KR HO629.out) hb) (BL BK614.out hb) (BL BK623.out hb) (below_step KB hb) hbox (KG hg : w.heap.size ≤ gb632) (KG hg : w.heap.size ≤ gb632) (NX hg BK614.out) (Ne.symm (NX hg BK614.out)) (NX hg BK623.out) (Ne.symm (NX hg BK623.out)); clear HO608 HO611 HO617 HO620 HO626 HO629 BK614 BK623 HB; obtain ⟨HO608, HO611, HO617, HO620, HO626, HO629, BK614, BK623, HB, BK632, GW632, GE632, NB614_632, NB632_614, NB623_632, NB632_623⟩ := h_; clear hb hbox hg; obtain ⟨Ao114, co114, eo114⟩ := Kd.R_slice HO626.out; subst eo114; have hnb115 := NB632_614.out; have hnc115 := NB614_632.out; have hnb116 := NB632_623.out; have hnc116 := NB623_632.out; obtain ⟨hcz117_0, hcz117_1, hcz117_2, hfz117_0, hfz117_1, hfz117_2⟩ := C3 BK632.out; obtain ⟨Ao118, co118, eo118⟩ := Kd.R_slice HO629.out; subst eo118; obtain ⟨hcz119_0, hcz119_1, hcz119_2, hfz119_0, hfz119_1, hfz119_2⟩ := C3 BK623.out; obtain ⟨hcz120_0, hcz120_1, hcz120_2, hfz120_0, hfz120_1, hfz120_2⟩ := C3 BK614.out))
     go_ret
     exact ⟨KE, KB⟩

/-- THE ONE PURE STATEMENT of laws_FnCrash: yours. -/
def laws_FnCrash.Pure : Prop := ∀ (l0 : List Int), l0.length ≤ maxLen → l0.length * 1 ≤ 140737488351232 → (∀ x ∈ l0, (Lit.int .u8 x).wf = true) → ∃ k, laws_FnCrash.f k l0 = some true
theorem laws_FnCrash.walk (P : laws_FnCrash.Pure) (a0 : Option Addr) (len0 cap0 : Nat) (z0 : List Int) (w : World) (w0 : (a0 = none ∧ len0 = 0 ∧ cap0 = 0 ∧ z0 = []) ∨ ∃ x, a0 = some x ∧ len0 ≤ cap0 ∧ cap0 ≤ maxLen ∧ z0.length = cap0 ∧ (∀ i, i < z0.length → w.cell? (x.add i) = some (.int .u8 (z0.getD i 0))) ∧ ∀ n ∈ z0, (Lit.int .u8 n).wf = true) (y0 : len0 * 1 ≤ 140737488351232) :
  Calls Try.prog 6 #[.slice a0 len0 cap0] w fun e w' => e = .returned (.bool true) ∧ Below w.heap.size w w' := by
 obtain ⟨l0, rfl, hr0, hm0, hw0, hc0⟩ := ReadsInt.ofRowC w0
 obtain ⟨k, h⟩ := P l0 hm0 y0 hw0
 refine (laws_FnCrash.calls k _ _ l0 true w (Kd.C_of_reads (d := (0 : Int)) (h1 := fun _ => rfl) hr0) hc0 h).mono ?_
 rintro e w' ⟨rfl, hd⟩
 exact ⟨rfl, hd⟩

end Go.Proofs.Ytnoghojlpicecaa.PFnCrash
