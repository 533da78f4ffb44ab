-- What each Go function that this law reaches comes to: written by a program out of the translation.
import Derived.Test.YtnoghojlpicecaaMFnExactStoreTrimx0
import Derived.Test.YtnoghojlpicecaaMFnExactStoreTrimx1
import Derived.Test.YtnoghojlpicecaaMFnExactStoreTrimx2
import Derived.Test.YtnoghojlpicecaaMFnExactStoreTrimx3
import Derived.Test.YtnoghojlpicecaaMFnExactStoreTrimx4
import Derived.Test.YtnoghojlpicecaaMFnExactStoreTrimx7
namespace Go.Proofs.Ytnoghojlpicecaa.PFnExactStoreTrim
open Go.RowKit Go.Proofs.YtnoghojlpicecaaW.PrintWords Go.Proofs.YtnoghojlpicecaaW.PrintLast Go.Proofs.YtnoghojlpicecaaW.PrintMore
attribute [local go_sem] max2_int min2_int max_two min_two max_three min_three max_four min_four   -- for this text's walks alone
set_option linter.unusedVariables false
set_option linter.unusedSimpArgs false

/-! ### laws_FnExactStoreTrim: function 4 -/
mutual
def laws_FnExactStoreTrim.j0 : Nat → Int → Bool → Bool → Bool → List (S26) → List (S26) → Int → List (S35) → List (S35) → Int → List (S35) → List (S35) → Int → List (S35) → List (S35) → Int → Option (Bool)
 | 0, _, _, _, _, _, _, _, _, _, _, _, _, _, _, _, _ => none
 | k + 1, x1, x7, x10, x44, x262000, x262001, x262002, x279000, x279001, x279002, x287000, x287001, x287002, x296000, x296001, x296002 => if x44 = true then (none) else ((laws_toStore.f k x262000 x262001 x262002).bind fun bt297 => ((laws_eqStore.f k x287000 x287001 x287002 bt297.1 bt297.2.1 bt297.2.2).bind fun t304 => (if t304 = true then ((laws_markStore.f k x287000 x287001 x287002 1).bind fun bt305 => (if bt305.1 < 0 then (laws_FnExactStoreTrim.j1 k x1 x7 true x262000 x262001 x262002 x279000 x279001 x279002 x296000 x296001 x296002) else ((laws_eqStore.f k x296000 x296001 x296002 x279000 x279001 x279002).bind fun t308 => (if t308 = true then (laws_FnExactStoreTrim.j1 k x1 x7 (x10 != x7) x262000 x262001 x262002 x279000 x279001 x279002 x296000 x296001 x296002) else (laws_FnExactStoreTrim.j1 k x1 x7 true x262000 x262001 x262002 x279000 x279001 x279002 x296000 x296001 x296002))))) else (none))))
def laws_FnExactStoreTrim.j1 : Nat → Int → Bool → Bool → List (S26) → List (S26) → Int → List (S35) → List (S35) → Int → List (S35) → List (S35) → Int → Option (Bool)
 | 0, _, _, _, _, _, _, _, _, _, _, _, _ => none
 | k + 1, x1, x7, x65, x262000, x262001, x262002, x279000, x279001, x279002, x296000, x296001, x296002 => if x65 = true then (none) else ((laws_markStore.f k x296000 x296001 x296002 1).bind fun bt309 => ((laws_heldStore.f k bt309.2.1 bt309.2.2 x296002 1).bind fun t312 => (if t312 < 0 then (none) else (if t312 = bt309.1 then ((laws_toStore.f k x262000 x262001 x262002).bind fun bt313 => ((impl_StoreTrim.f k bt313.1 bt313.2.1 bt313.2.2 x1).bind fun bt320 => ((laws_eqStore.f k bt320.1 bt320.2.1 bt320.2.2.1 x279000 x279001 x279002).bind fun t329 => (if t329 = true then (laws_FnExactStoreTrim.j2 k bt309.1 (bt320.2.2.2 != x7) bt309.2.1 bt309.2.2 x296002) else (laws_FnExactStoreTrim.j2 k bt309.1 true bt309.2.1 bt309.2.2 x296002))))) else (none)))))
def laws_FnExactStoreTrim.j2 : Nat → Int → Bool → List (S35) → List (S35) → Int → Option (Bool)
 | 0, _, _, _, _, _ => none
 | k + 1, x12, x92, x296000, x296001, x296002 => if x92 = true then (none) else ((laws_heldStore.f k x296000 x296001 x296002 1).bind fun t330 => (if t330 < 0 then (none) else (if t330 = x12 then (some true) else (none))))
end
def laws_FnExactStoreTrim.f (k : Nat) (l0_0 : List (S26)) (l0_1 : List (S26)) (a0_2 : Int) (a1 : Int) : Option (Bool) := (laws_szStore.f k l0_0 l0_1 a0_2 1048576).bind fun t262 => (if t262 < 0 then (some true) else ((laws_toStore.f k l0_0 l0_1 a0_2).bind fun bt263 => ((spec_StoreTrim.f k bt263.1 bt263.2.1 bt263.2.2 a1).bind fun bt270 => ((laws_toStore.f k l0_0 l0_1 a0_2).bind fun bt279 => ((impl_StoreTrim.f k bt279.1 bt279.2.1 bt279.2.2 a1).bind fun bt287 => ((laws_eqStore.f k bt287.1 bt287.2.1 bt287.2.2.1 bt270.1 bt270.2.1 bt270.2.2.1).bind fun t296 => (if t296 = true then (laws_FnExactStoreTrim.j0 k a1 bt270.2.2.2 bt287.2.2.2 (bt287.2.2.2 != bt270.2.2.2) l0_0 l0_1 a0_2 bt270.1 bt270.2.1 bt270.2.2.1 bt279.1 bt279.2.1 bt279.2.2 bt287.1 bt287.2.1 bt287.2.2.1) else (laws_FnExactStoreTrim.j0 k a1 bt270.2.2.2 bt287.2.2.2 true l0_0 l0_1 a0_2 bt270.1 bt270.2.1 bt270.2.2.1 bt279.1 bt279.2.1 bt279.2.2 bt287.1 bt287.2.1 bt287.2.2.1))))))))
theorem laws_FnExactStoreTrim.mono_l : ∀ k, (∀ y0 y1 y2 y3 y4 y5 y6 y7 y8 y9 y10 y11 y12 y13 y14 y15, LeO (laws_FnExactStoreTrim.j0 k y0 y1 y2 y3 y4 y5 y6 y7 y8 y9 y10 y11 y12 y13 y14 y15) (laws_FnExactStoreTrim.j0 (k + 1) y0 y1 y2 y3 y4 y5 y6 y7 y8 y9 y10 y11 y12 y13 y14 y15)) ∧ (∀ y0 y1 y2 y3 y4 y5 y6 y7 y8 y9 y10 y11, LeO (laws_FnExactStoreTrim.j1 k y0 y1 y2 y3 y4 y5 y6 y7 y8 y9 y10 y11) (laws_FnExactStoreTrim.j1 (k + 1) y0 y1 y2 y3 y4 y5 y6 y7 y8 y9 y10 y11)) ∧ (∀ y0 y1 y2 y3 y4, LeO (laws_FnExactStoreTrim.j2 k y0 y1 y2 y3 y4) (laws_FnExactStoreTrim.j2 (k + 1) y0 y1 y2 y3 y4))
 | 0 => ⟨fun _ _ _ _ _ _ _ _ _ _ _ _ _ _ _ _ r h => by simp [laws_FnExactStoreTrim.j0] at h, fun _ _ _ _ _ _ _ _ _ _ _ _ r h => by simp [laws_FnExactStoreTrim.j1] at h, fun _ _ _ _ _ r h => by simp [laws_FnExactStoreTrim.j2] at h⟩
 | k + 1 => by
  obtain ⟨ih0, ih1, ih2⟩ := laws_FnExactStoreTrim.mono_l k
  refine ⟨?_, ?_, ?_⟩
  ·intro y0 y1 y2 y3 y4 y5 y6 y7 y8 y9 y10 y11 y12 y13 y14 y15
   unfold laws_FnExactStoreTrim.j0
   repeat' first
   | (with_reducible exact ih0 _ _ _ _ _ _ _ _ _ _ _ _ _ _ _ _)
   | (with_reducible exact ih1 _ _ _ _ _ _ _ _ _ _ _ _)
   | (with_reducible exact ih2 _ _ _ _ _)
   | (with_reducible exact impl_StoreTrim.mono _ _ _ _ _)
   | (with_reducible exact laws_eqStore.mono _ _ _ _ _ _ _)
   | (with_reducible exact laws_heldStore.mono _ _ _ _ _)
   | (with_reducible exact laws_markStore.mono _ _ _ _ _)
   | (with_reducible exact laws_szStore.mono _ _ _ _ _)
   | (with_reducible exact laws_toStore.mono _ _ _ _)
   | (with_reducible exact spec_StoreTrim.mono _ _ _ _ _)
   | (with_reducible exact LeO.refl _)
   | (with_reducible exact LeO.none _)
   | (with_reducible refine LeO.ite ?_ ?_)
   | (with_reducible refine LeO.bind ?_ (fun _ => ?_))
   | exact ih0 _ _ _ _ _ _ _ _ _ _ _ _ _ _ _ _
   | exact ih1 _ _ _ _ _ _ _ _ _ _ _ _
   | exact ih2 _ _ _ _ _
   | exact impl_StoreTrim.mono _ _ _ _ _
   | exact laws_eqStore.mono _ _ _ _ _ _ _
   | exact laws_heldStore.mono _ _ _ _ _
   | exact laws_markStore.mono _ _ _ _ _
   | exact laws_szStore.mono _ _ _ _ _
   | exact laws_toStore.mono _ _ _ _
   | exact spec_StoreTrim.mono _ _ _ _ _
   | exact LeO.none _
   | refine LeO.ite ?_ ?_
   | refine LeO.bind ?_ (fun _ => ?_)
  ·intro y0 y1 y2 y3 y4 y5 y6 y7 y8 y9 y10 y11
   unfold laws_FnExactStoreTrim.j1
   repeat' first
   | (with_reducible exact ih0 _ _ _ _ _ _ _ _ _ _ _ _ _ _ _ _)
   | (with_reducible exact ih1 _ _ _ _ _ _ _ _ _ _ _ _)
   | (with_reducible exact ih2 _ _ _ _ _)
   | (with_reducible exact impl_StoreTrim.mono _ _ _ _ _)
   | (with_reducible exact laws_eqStore.mono _ _ _ _ _ _ _)
   | (with_reducible exact laws_heldStore.mono _ _ _ _ _)
   | (with_reducible exact laws_markStore.mono _ _ _ _ _)
   | (with_reducible exact laws_szStore.mono _ _ _ _ _)
   | (with_reducible exact laws_toStore.mono _ _ _ _)
   | (with_reducible exact spec_StoreTrim.mono _ _ _ _ _)
   | (with_reducible exact LeO.refl _)
   | (with_reducible exact LeO.none _)
   | (with_reducible refine LeO.ite ?_ ?_)
   | (with_reducible refine LeO.bind ?_ (fun _ => ?_))
   | exact ih0 _ _ _ _ _ _ _ _ _ _ _ _ _ _ _ _
   | exact ih1 _ _ _ _ _ _ _ _ _ _ _ _
   | exact ih2 _ _ _ _ _
   | exact impl_StoreTrim.mono _ _ _ _ _
   | exact laws_eqStore.mono _ _ _ _ _ _ _
   | exact laws_heldStore.mono _ _ _ _ _
   | exact laws_markStore.mono _ _ _ _ _
   | exact laws_szStore.mono _ _ _ _ _
   | exact laws_toStore.mono _ _ _ _
   | exact spec_StoreTrim.mono _ _ _ _ _
   | exact LeO.none _
   | refine LeO.ite ?_ ?_
   | refine LeO.bind ?_ (fun _ => ?_)
  ·intro y0 y1 y2 y3 y4
   unfold laws_FnExactStoreTrim.j2
   repeat' first
   | (with_reducible exact ih0 _ _ _ _ _ _ _ _ _ _ _ _ _ _ _ _)
   | (with_reducible exact ih1 _ _ _ _ _ _ _ _ _ _ _ _)
   | (with_reducible exact ih2 _ _ _ _ _)
   | (with_reducible exact impl_StoreTrim.mono _ _ _ _ _)
   | (with_reducible exact laws_eqStore.mono _ _ _ _ _ _ _)
   | (with_reducible exact laws_heldStore.mono _ _ _ _ _)
   | (with_reducible exact laws_markStore.mono _ _ _ _ _)
   | (with_reducible exact laws_szStore.mono _ _ _ _ _)
   | (with_reducible exact laws_toStore.mono _ _ _ _)
   | (with_reducible exact spec_StoreTrim.mono _ _ _ _ _)
   | (with_reducible exact LeO.refl _)
   | (with_reducible exact LeO.none _)
   | (with_reducible refine LeO.ite ?_ ?_)
   | (with_reducible refine LeO.bind ?_ (fun _ => ?_))
   | exact ih0 _ _ _ _ _ _ _ _ _ _ _ _ _ _ _ _
   | exact ih1 _ _ _ _ _ _ _ _ _ _ _ _
   | exact ih2 _ _ _ _ _
   | exact impl_StoreTrim.mono _ _ _ _ _
   | exact laws_eqStore.mono _ _ _ _ _ _ _
   | exact laws_heldStore.mono _ _ _ _ _
   | exact laws_markStore.mono _ _ _ _ _
   | exact laws_szStore.mono _ _ _ _ _
   | exact laws_toStore.mono _ _ _ _
   | exact spec_StoreTrim.mono _ _ _ _ _
   | exact LeO.none _
   | refine LeO.ite ?_ ?_
   | refine LeO.bind ?_ (fun _ => ?_)
theorem laws_FnExactStoreTrim.mono : ∀ a0 a1 a2 a3 k, LeO (laws_FnExactStoreTrim.f k a0 a1 a2 a3) (laws_FnExactStoreTrim.f (k + 1) a0 a1 a2 a3) := by
 intro a0 a1 a2 a3 k
 obtain ⟨ih0, ih1, ih2⟩ := laws_FnExactStoreTrim.mono_l k
 unfold laws_FnExactStoreTrim.f
 repeat' first
   | (with_reducible exact ih0 _ _ _ _ _ _ _ _ _ _ _ _ _ _ _ _)
   | (with_reducible exact ih1 _ _ _ _ _ _ _ _ _ _ _ _)
   | (with_reducible exact ih2 _ _ _ _ _)
   | (with_reducible exact impl_StoreTrim.mono _ _ _ _ _)
   | (with_reducible exact laws_eqStore.mono _ _ _ _ _ _ _)
   | (with_reducible exact laws_heldStore.mono _ _ _ _ _)
   | (with_reducible exact laws_markStore.mono _ _ _ _ _)
   | (with_reducible exact laws_szStore.mono _ _ _ _ _)
   | (with_reducible exact laws_toStore.mono _ _ _ _)
   | (with_reducible exact spec_StoreTrim.mono _ _ _ _ _)
   | (with_reducible exact LeO.refl _)
   | (with_reducible exact LeO.none _)
   | (with_reducible refine LeO.ite ?_ ?_)
   | (with_reducible refine LeO.bind ?_ (fun _ => ?_))
   | exact ih0 _ _ _ _ _ _ _ _ _ _ _ _ _ _ _ _
   | exact ih1 _ _ _ _ _ _ _ _ _ _ _ _
   | exact ih2 _ _ _ _ _
   | exact impl_StoreTrim.mono _ _ _ _ _
   | exact laws_eqStore.mono _ _ _ _ _ _ _
   | exact laws_heldStore.mono _ _ _ _ _
   | exact laws_markStore.mono _ _ _ _ _
   | exact laws_szStore.mono _ _ _ _ _
   | exact laws_toStore.mono _ _ _ _
   | exact spec_StoreTrim.mono _ _ _ _ _
   | exact LeO.none _
   | refine LeO.ite ?_ ?_
   | refine LeO.bind ?_ (fun _ => ?_)
set_option maxHeartbeats 8000000 in
set_option maxRecDepth 100000 in
theorem laws_FnExactStoreTrim.calls (k : Nat) (A0_0 : Option Addr) (c0_0 : Nat) (l0_0 : List (S26)) (A0_1 : Option Addr) (c0_1 : Nat) (l0_1 : List (S26)) (a0_2 : Int) (a1 : Int) (r : Bool) (w : World) (hr0_0 : Kd.C k26 w A0_0 l0_0.length l0_0) (hc0_0 : l0_0.length ≤ c0_0) (hr0_1 : Kd.C k26 w A0_1 l0_1.length l0_1) (hc0_1 : l0_1.length ≤ c0_1) (h : laws_FnExactStoreTrim.f k l0_0 l0_1 a0_2 a1 = some r) :
  Calls Try.prog 4 #[.agg #[.slice A0_0 l0_0.length c0_0, .slice A0_1 l0_1.length c0_1, .int .i64 a0_2], .int .i64 a1] w fun e w' => e = .returned (.bool r) ∧ Below w.heap.size w w' := by
 have hu24 := Try.underlying24
 have hu31 := Try.underlying31
 have HR0_0 := Aside0.mk hr0_0
 have HC0_0 := Aside0.mk hc0_0
 clear hr0_0 hc0_0
 have HR0_1 := Aside0.mk hr0_1
 have HC0_1 := Aside0.mk hc0_1
 clear hr0_1 hc0_1
 have HB := Aside0.mk (Below.refl w.heap.size w)
 have H : ((laws_szStore.f k l0_0 l0_1 a0_2 1048576).bind fun t262 => (if t262 < 0 then (some true) else ((laws_toStore.f k l0_0 l0_1 a0_2).bind fun bt263 => ((spec_StoreTrim.f k bt263.1 bt263.2.1 bt263.2.2 a1).bind fun bt270 => ((laws_toStore.f k l0_0 l0_1 a0_2).bind fun bt279 => ((impl_StoreTrim.f k bt279.1 bt279.2.1 bt279.2.2 a1).bind fun bt287 => ((laws_eqStore.f k bt287.1 bt287.2.1 bt287.2.2.1 bt270.1 bt270.2.1 bt270.2.2.1).bind fun t296 => (if t296 = true then (laws_FnExactStoreTrim.j0 k a1 bt270.2.2.2 bt287.2.2.2 (bt287.2.2.2 != bt270.2.2.2) l0_0 l0_1 a0_2 bt270.1 bt270.2.1 bt270.2.2.1 bt279.1 bt279.2.1 bt279.2.2 bt287.1 bt287.2.1 bt287.2.2.1) else (laws_FnExactStoreTrim.j0 k a1 bt270.2.2.2 bt287.2.2.2 true l0_0 l0_1 a0_2 bt270.1 bt270.2.1 bt270.2.2.1 bt279.1 bt279.2.1 bt279.2.2 bt287.1 bt287.2.1 bt287.2.2.1))))))))) = some r := h
 clear h
 replace H := Option.bind_eq_some_iff.mp H
 obtain ⟨t262, A30, H⟩ := H
 replace H : (if t262 < 0 then (some true) else ((laws_toStore.f k l0_0 l0_1 a0_2).bind fun bt263 => ((spec_StoreTrim.f k bt263.1 bt263.2.1 bt263.2.2 a1).bind fun bt270 => ((laws_toStore.f k l0_0 l0_1 a0_2).bind fun bt279 => ((impl_StoreTrim.f k bt279.1 bt279.2.1 bt279.2.2 a1).bind fun bt287 => ((laws_eqStore.f k bt287.1 bt287.2.1 bt287.2.2.1 bt270.1 bt270.2.1 bt270.2.2.1).bind fun t296 => (if t296 = true then (laws_FnExactStoreTrim.j0 k a1 bt270.2.2.2 bt287.2.2.2 (bt287.2.2.2 != bt270.2.2.2) l0_0 l0_1 a0_2 bt270.1 bt270.2.1 bt270.2.2.1 bt279.1 bt279.2.1 bt279.2.2 bt287.1 bt287.2.1 bt287.2.2.1) else (laws_FnExactStoreTrim.j0 k a1 bt270.2.2.2 bt287.2.2.2 true l0_0 l0_1 a0_2 bt270.1 bt270.2.1 bt270.2.2.1 bt279.1 bt279.2.1 bt279.2.2 bt287.1 bt287.2.1 bt287.2.2.1)))))))) = some r := H
 have A3 := Aside0.mk A30
 clear A30
 by_cases c4 : t262 < 0
 ·rw [if_pos c4] at H
  have c4b0 : decide (t262 < 0) = true := decide_eq_true c4
  clear c4
  obtain rfl := Option.some.inj H
  go_enter Try.func4, Try.ntmps4
  go_wp2_with (first | ((with_reducible refine gate_dst (N := 2) rfl ?_); refine BE 2 #[.slice A0_0 l0_0.length c0_0, .slice A0_1 l0_1.length c0_1, .int .i64 a0_2] 24 ?_; intro gb261 hg w5 hbox hb; have h_ := P4 (below_step KB hb) hbox (KG hg : w.heap.size ≤ gb261) (KG hg : w.heap.size ≤ gb261); clear HB; obtain ⟨HB, BK261, GW261, GE261⟩ := h_; clear hb hbox hg; obtain ⟨hcz6_0, hcz6_1, hcz6_2, hfz6_0, hfz6_1, hfz6_2⟩ := C3 BK261.out) | ((with_reducible refine gate_callee (f := 9) rfl ?_); refine goesL_ (some 18) rfl rfl Try.func9 (by kernel_rfl) rfl #[.agg #[.slice A0_0 l0_0.length c0_0, .slice A0_1 l0_1.length c0_1, .int .i64 a0_2], .int .i64 1048576] rfl KL ?_; (with_reducible refine (laws_szStore.calls k _ _ l0_0 _ _ l0_1 a0_2 1048576 t262 _ ?side1 ?side2 ?side3 ?side4 A3.out).mono ?_); (case side1 => exact KD (Kd.C_below HR0_0.out HB.out)); (case side2 => exact HC0_0.out); (case side3 => exact KD (Kd.C_below HR0_1.out HB.out)); (case side4 => exact HC0_1.out); rintro e w7 ⟨rfl, hb⟩; refine ⟨_, rfl, ?_⟩; have h_ := P2 (BL BK261.out hb) (below_step KB hb); clear BK261 HB; obtain ⟨BK261, HB⟩ := h_; (try clear hb); (try clear hk); (try clear hi)))
  go_ret
  exact ⟨KE, KB⟩
 ·rw [if_neg c4] at H
  have c4b0 : decide (t262 < 0) = false := decide_eq_false c4
  clear c4
  replace H := Option.bind_eq_some_iff.mp H
  obtain ⟨⟨t263, t266, t269⟩, A80, H⟩ := H
  replace H : ((spec_StoreTrim.f k t263 t266 t269 a1).bind fun bt270 => ((laws_toStore.f k l0_0 l0_1 a0_2).bind fun bt279 => ((impl_StoreTrim.f k bt279.1 bt279.2.1 bt279.2.2 a1).bind fun bt287 => ((laws_eqStore.f k bt287.1 bt287.2.1 bt287.2.2.1 bt270.1 bt270.2.1 bt270.2.2.1).bind fun t296 => (if t296 = true then (laws_FnExactStoreTrim.j0 k a1 bt270.2.2.2 bt287.2.2.2 (bt287.2.2.2 != bt270.2.2.2) l0_0 l0_1 a0_2 bt270.1 bt270.2.1 bt270.2.2.1 bt279.1 bt279.2.1 bt279.2.2 bt287.1 bt287.2.1 bt287.2.2.1) else (laws_FnExactStoreTrim.j0 k a1 bt270.2.2.2 bt287.2.2.2 true l0_0 l0_1 a0_2 bt270.1 bt270.2.1 bt270.2.2.1 bt279.1 bt279.2.1 bt279.2.2 bt287.1 bt287.2.1 bt287.2.2.1)))))) = some r := H
  have A8 := Aside0.mk A80
  clear A80
  replace H := Option.bind_eq_some_iff.mp H
  obtain ⟨⟨t270, t273, t276, t277⟩, A90, H⟩ := H
  replace H : ((laws_toStore.f k l0_0 l0_1 a0_2).bind fun bt279 => ((impl_StoreTrim.f k bt279.1 bt279.2.1 bt279.2.2 a1).bind fun bt287 => ((laws_eqStore.f k bt287.1 bt287.2.1 bt287.2.2.1 t270 t273 t276).bind fun t296 => (if t296 = true then (laws_FnExactStoreTrim.j0 k a1 t277 bt287.2.2.2 (bt287.2.2.2 != t277) l0_0 l0_1 a0_2 t270 t273 t276 bt279.1 bt279.2.1 bt279.2.2 bt287.1 bt287.2.1 bt287.2.2.1) else (laws_FnExactStoreTrim.j0 k a1 t277 bt287.2.2.2 true l0_0 l0_1 a0_2 t270 t273 t276 bt279.1 bt279.2.1 bt279.2.2 bt287.1 bt287.2.1 bt287.2.2.1))))) = some r := H
  have A9 := Aside0.mk A90
  clear A90
  replace H := Option.bind_eq_some_iff.mp H
  obtain ⟨⟨t279, t282, t285⟩, A100, H⟩ := H
  replace H : ((impl_StoreTrim.f k t279 t282 t285 a1).bind fun bt287 => ((laws_eqStore.f k bt287.1 bt287.2.1 bt287.2.2.1 t270 t273 t276).bind fun t296 => (if t296 = true then (laws_FnExactStoreTrim.j0 k a1 t277 bt287.2.2.2 (bt287.2.2.2 != t277) l0_0 l0_1 a0_2 t270 t273 t276 t279 t282 t285 bt287.1 bt287.2.1 bt287.2.2.1) else (laws_FnExactStoreTrim.j0 k a1 t277 bt287.2.2.2 true l0_0 l0_1 a0_2 t270 t273 t276 t279 t282 t285 bt287.1 bt287.2.1 bt287.2.2.1)))) = some r := H
  have A10 := Aside0.mk A100
  clear A100
  replace H := Option.bind_eq_some_iff.mp H
  obtain ⟨⟨t287, t290, t293, t294⟩, A110, H⟩ := H
  replace H : ((laws_eqStore.f k t287 t290 t293 t270 t273 t276).bind fun t296 => (if t296 = true then (laws_FnExactStoreTrim.j0 k a1 t277 t294 (t294 != t277) l0_0 l0_1 a0_2 t270 t273 t276 t279 t282 t285 t287 t290 t293) else (laws_FnExactStoreTrim.j0 k a1 t277 t294 true l0_0 l0_1 a0_2 t270 t273 t276 t279 t282 t285 t287 t290 t293))) = some r := H
  have A11 := Aside0.mk A110
  clear A110
  have HC12 := Aside0.mk H
  clear H
  go_enter Try.func4, Try.ntmps4
  go_upto_region 8 with (first | ((with_reducible refine gate_dst (N := 2) rfl ?_); refine BE 2 #[.slice A0_0 l0_0.length c0_0, .slice A0_1 l0_1.length c0_1, .int .i64 a0_2] 24 ?_; intro gb261 hg w13 hbox hb; have h_ := P4 (below_step KB hb) hbox (KG hg : w.heap.size ≤ gb261) (KG hg : w.heap.size ≤ gb261); clear HB; obtain ⟨HB, BK261, GW261, GE261⟩ := h_; clear hb hbox hg; obtain ⟨hcz14_0, hcz14_1, hcz14_2, hfz14_0, hfz14_1, hfz14_2⟩ := C3 BK261.out) | ((with_reducible refine gate_callee (f := 9) rfl ?_); refine goesL_ (some 18) rfl rfl Try.func9 (by kernel_rfl) rfl #[.agg #[.slice A0_0 l0_0.length c0_0, .slice A0_1 l0_1.length c0_1, .int .i64 a0_2], .int .i64 1048576] rfl KL ?_; (with_reducible refine (laws_szStore.calls k _ _ l0_0 _ _ l0_1 a0_2 1048576 t262 _ ?side1 ?side2 ?side3 ?side4 A3.out).mono ?_); (case side1 => exact KD (Kd.C_below HR0_0.out HB.out)); (case side2 => exact HC0_0.out); (case side3 => exact KD (Kd.C_below HR0_1.out HB.out)); (case side4 => exact HC0_1.out); rintro e w15 ⟨rfl, hb⟩; refine ⟨_, rfl, ?_⟩; have h_ := P2 (BL BK261.out hb) (below_step KB hb); clear BK261 HB; obtain ⟨BK261, HB⟩ := h_; (try clear hb); (try clear hk); (try clear hi); obtain ⟨hcz16_0, hcz16_1, hcz16_2, hfz16_0, hfz16_1, hfz16_2⟩ := C3 BK261.out) | ((with_reducible refine gate_callee (f := 12) rfl ?_); refine goesL_ (some 23) rfl rfl Try.func12 (by kernel_rfl) rfl #[.agg #[.slice A0_0 l0_0.length c0_0, .slice A0_1 l0_1.length c0_1, .int .i64 a0_2]] rfl KL ?_; (with_reducible refine (laws_toStore.calls k _ _ l0_0 _ _ l0_1 a0_2 t263 t266 t269 _ ?side1 ?side2 ?side3 ?side4 A8.out).mono ?_); (case side1 => exact KD (Kd.C_below HR0_0.out HB.out)); (case side2 => exact HC0_0.out); (case side3 => exact KD (Kd.C_below HR0_1.out HB.out)); (case side4 => exact HC0_1.out); rintro e w17 ⟨v264, v267, rfl, ho0, ho1, hb⟩; refine ⟨_, rfl, ?_⟩; have h_ := P4 (Kd.R_lower ho0 (below_size KB)) (Kd.R_lower ho1 (below_size KB)) (BL BK261.out hb) (below_step KB hb); clear BK261 HB; obtain ⟨HO265, HO268, BK261, HB⟩ := h_; (try clear hb); (try clear hk); (try clear hi); (try clear ho0); (try clear ho1); obtain ⟨Ao18, co18, eo18⟩ := Kd.R_slice HO265.out; subst eo18; obtain ⟨Ao19, co19, eo19⟩ := Kd.R_slice HO268.out; subst eo19) | ((with_reducible refine gate_callee (f := 18) rfl ?_); refine goesL_ (some 25) rfl rfl Try.func18 (by kernel_rfl) rfl #[.agg #[.slice Ao18 t263.length co18, .slice Ao19 t266.length co19, .int .i64 t269], .int .i64 a1] rfl KL ?_; (with_reducible refine (spec_StoreTrim.calls k _ _ t263 _ _ t266 t269 a1 t270 t273 t276 t277 _ ?side1 ?side2 ?side3 ?side4 A9.out).mono ?_); (case side1 => repeat (first | exact (Kd.R_reads' HO265.out).2.2 | (with_reducible refine Kd.C_alloc ?_ _) | (with_reducible refine Kd.C_drewN ?_ _) | (with_reducible refine Kd.C_drew ?_))); (case side2 => exact (Kd.R_reads' HO265.out).2.1); (case side3 => repeat (first | exact (Kd.R_reads' HO268.out).2.2 | (with_reducible refine Kd.C_alloc ?_ _) | (with_reducible refine Kd.C_drewN ?_ _) | (with_reducible refine Kd.C_drew ?_))); (case side4 => exact (Kd.R_reads' HO268.out).2.1); rintro e w20 ⟨v271, v274, rfl, ho0, ho1, hb⟩; refine ⟨_, rfl, ?_⟩; have h_ := P6 (Kd.R_mono (Kd.R_told (Kd.R_told (Kd.R_old (KR HO265.out) hb) (Kd.R_base ho0)) (Kd.R_base ho1)) (fun _ h_ => h_.1)) (Kd.R_mono (Kd.R_told (Kd.R_told (Kd.R_old (KR HO268.out) hb) (Kd.R_base ho0)) (Kd.R_base ho1)) (fun _ h_ => h_.1)) (Kd.R_lower (Kd.R_new' (Kd.R_new' ho0 (Kd.R_lt (KR HO265.out))) (Kd.R_lt (KR HO268.out))) (below_size KB)) (Kd.R_lower (Kd.R_new' (Kd.R_new' ho1 (Kd.R_lt (KR HO265.out))) (Kd.R_lt (KR HO268.out))) (below_size KB)) (BL BK261.out hb) (below_step KB hb); clear HO265 HO268 BK261 HB; obtain ⟨HO265, HO268, HO272, HO275, BK261, HB⟩ := h_; (try clear hb); (try clear hk); (try clear hi); (try clear ho0); (try clear ho1)) | ((with_reducible refine gate_dst (N := 6) rfl ?_); refine BE 6 #[.slice none 0 0, .slice none 0 0, .int .i64 0] 31 ?_; intro gb278 hg w21 hbox hb; have h_ := P11 (Kd.R_below (KR HO265.out) hb) (Kd.R_below (KR HO268.out) hb) (Kd.R_below (KR HO272.out) hb) (Kd.R_below (KR HO275.out) hb) (BL BK261.out hb) (below_step KB hb) hbox (KG hg : w.heap.size ≤ gb278) (KG hg : w.heap.size ≤ gb278) (NX hg BK261.out) (Ne.symm (NX hg BK261.out)); clear HO265 HO268 HO272 HO275 BK261 HB; obtain ⟨HO265, HO268, HO272, HO275, BK261, HB, BK278, GW278, GE278, NB261_278, NB278_261⟩ := h_; clear hb hbox hg; obtain ⟨Ao22, co22, eo22⟩ := Kd.R_slice HO272.out; subst eo22; have hnb23 := NB278_261.out; have hnc23 := NB261_278.out; obtain ⟨hcz24_0, hcz24_1, hcz24_2, hfz24_0, hfz24_1, hfz24_2⟩ := C3 BK278.out; obtain ⟨Ao25, co25, eo25⟩ := Kd.R_slice HO275.out; subst eo25; obtain ⟨hcz26_0, hcz26_1, hcz26_2, hfz26_0, hfz26_1, hfz26_2⟩ := C3 BK261.out) | ((with_reducible refine gate_callee (f := 12) rfl ?_); refine goesL_ (some 29) rfl rfl Try.func12 (by kernel_rfl) rfl #[.agg #[.slice A0_0 l0_0.length c0_0, .slice A0_1 l0_1.length c0_1, .int .i64 a0_2]] rfl KL ?_; (with_reducible refine (laws_toStore.calls k _ _ l0_0 _ _ l0_1 a0_2 t279 t282 t285 _ ?side1 ?side2 ?side3 ?side4 A10.out).mono ?_); (case side1 => exact Kd.C_below HR0_0.out KB); (case side2 => exact HC0_0.out); (case side3 => exact Kd.C_below HR0_1.out KB); (case side4 => exact HC0_1.out); rintro e w27 ⟨v280, v283, rfl, ho0, ho1, hb⟩; refine ⟨_, rfl, ?_⟩; have h_ := P9 (Kd.R_mono (Kd.R_told (Kd.R_told (Kd.R_old (RQ (RT HO265.out BK278.out)) hb) (Kd.R_base ho0)) (Kd.R_base ho1)) (fun _ h_ => h_.1)) (Kd.R_mono (Kd.R_told (Kd.R_told (Kd.R_old (RQ (RT HO268.out BK278.out)) hb) (Kd.R_base ho0)) (Kd.R_base ho1)) (fun _ h_ => h_.1)) (Kd.R_mono (Kd.R_told (Kd.R_told (Kd.R_old (RQ (RT HO272.out BK278.out)) hb) (Kd.R_base ho0)) (Kd.R_base ho1)) (fun _ h_ => h_.1)) (Kd.R_mono (Kd.R_told (Kd.R_told (Kd.R_old (RQ (RT HO275.out BK278.out)) hb) (Kd.R_base ho0)) (Kd.R_base ho1)) (fun _ h_ => h_.1)) (Kd.R_lower (Kd.R_new' (Kd.R_new' (Kd.R_new' (Kd.R_new' ho0 (Kd.R_lt (RQ (RT HO265.out BK278.out)))) (Kd.R_lt (RQ (RT HO268.out BK278.out)))) (Kd.R_lt (RQ (RT HO272.out BK278.out)))) (Kd.R_lt (RQ (RT HO275.out BK278.out)))) (below_size KB)) (Kd.R_lower (Kd.R_new' (Kd.R_new' (Kd.R_new' (Kd.R_new' ho1 (Kd.R_lt (RQ (RT HO265.out BK278.out)))) (Kd.R_lt (RQ (RT HO268.out BK278.out)))) (Kd.R_lt (RQ (RT HO272.out BK278.out)))) (Kd.R_lt (RQ (RT HO275.out BK278.out)))) (below_size KB)) (BL BK261.out hb) (blk_below (g := gb278) (o := .cells #[.slice Ao22 t270.length co22, .slice Ao25 t273.length co25, .int .i64 t276] 31 (0, 0)) (by refine SK ?_; refine blk_put (cs := #[.slice Ao22 t270.length co22, .slice Ao25 t273.length co25, .int .i64 0]) ?_ 2 _ rfl; refine SK ?_; refine blk_put (cs := #[.slice Ao22 t270.length co22, .slice none 0 0, .int .i64 0]) ?_ 1 _ rfl; refine SK ?_; refine blk_put (cs := #[.slice none 0 0, .slice none 0 0, .int .i64 0]) ?_ 0 _ rfl; exact SK BK278.out) hb) (below_step KB hb); clear HO265 HO268 HO272 HO275 BK261 BK278 HB; obtain ⟨HO265, HO268, HO272, HO275, HO281, HO284, BK261, BK278, HB⟩ := h_; (try clear hb); (try clear hk); (try clear hi); (try clear ho0); (try clear ho1)) | ((with_reducible refine gate_dst (N := 8) rfl ?_); refine BE 8 #[.slice none 0 0, .slice none 0 0, .int .i64 0] 31 ?_; intro gb286 hg w28 hbox hb; have h_ := P16 (Kd.R_below (KR HO265.out) hb) (Kd.R_below (KR HO268.out) hb) (Kd.R_below (KR HO272.out) hb) (Kd.R_below (KR HO275.out) hb) (Kd.R_below (KR HO281.out) hb) (Kd.R_below (KR HO284.out) hb) (BL BK261.out hb) (BL BK278.out hb) (below_step KB hb) hbox (KG hg : w.heap.size ≤ gb286) (KG hg : w.heap.size ≤ gb286) (NX hg BK261.out) (Ne.symm (NX hg BK261.out)) (NX hg BK278.out) (Ne.symm (NX hg BK278.out)); clear HO265 HO268 HO272 HO275 HO281 HO284 BK261 BK278 HB; obtain ⟨HO265, HO268, HO272, HO275, HO281, HO284, BK261, BK278, HB, BK286, GW286, GE286, NB261_286, NB286_261, NB278_286, NB286_278⟩ := h_; clear hb hbox hg; obtain ⟨Ao29, co29, eo29⟩ := Kd.R_slice HO281.out; subst eo29; have hnb30 := NB286_261.out; have hnc30 := NB261_286.out; have hnb31 := NB286_278.out; have hnc31 := NB278_286.out; obtain ⟨hcz32_0, hcz32_1, hcz32_2, hfz32_0, hfz32_1, hfz32_2⟩ := C3 BK286.out; obtain ⟨Ao33, co33, eo33⟩ := Kd.R_slice HO284.out; subst eo33) | ((with_reducible refine gate_callee (f := 19) rfl ?_); refine goesL_ (some 33) rfl rfl Try.func19 (by kernel_rfl) rfl #[.agg #[.slice Ao29 t279.length co29, .slice Ao33 t282.length co33, .int .i64 t285], .int .i64 a1] rfl KL ?_; (with_reducible refine (impl_StoreTrim.calls k _ _ t279 _ _ t282 t285 a1 t287 t290 t293 t294 _ ?side1 ?side2 ?side3 ?side4 A11.out).mono ?_); (case side1 => refine (Kd.R_reads' (e := 35) (base := w.heap.size) (ok := fun k_ => ((((some k_ ≠ (.slice Ao33 t282.length co33 : Value).ownBlock ∧ some k_ ≠ (.slice Ao18 t263.length co18 : Value).ownBlock) ∧ some k_ ≠ (.slice Ao19 t266.length co19 : Value).ownBlock) ∧ some k_ ≠ (.slice Ao22 t270.length co22 : Value).ownBlock) ∧ some k_ ≠ (.slice Ao25 t273.length co25 : Value).ownBlock)) (n := t279.length) (c := co29) ?_).2.2; exact (RQ (RT HO281.out BK286.out))); (case side2 => exact (Kd.R_reads' HO281.out).2.1); (case side3 => refine (Kd.R_reads' (e := 35) (base := w.heap.size) (ok := fun k_ => ((((some k_ ≠ (.slice Ao29 t279.length co29 : Value).ownBlock ∧ some k_ ≠ (.slice Ao18 t263.length co18 : Value).ownBlock) ∧ some k_ ≠ (.slice Ao19 t266.length co19 : Value).ownBlock) ∧ some k_ ≠ (.slice Ao22 t270.length co22 : Value).ownBlock) ∧ some k_ ≠ (.slice Ao25 t273.length co25 : Value).ownBlock)) (n := t282.length) (c := co33) ?_).2.2; exact (RQ (RT HO284.out BK286.out))); (case side4 => exact (Kd.R_reads' HO284.out).2.1); rintro e w34 ⟨v288, v291, rfl, ho0, ho1, hb⟩; refine ⟨_, rfl, ?_⟩; have h_ := P12 (Kd.R_mono (Kd.R_told (Kd.R_told (Kd.R_old (RQ (RT HO265.out BK286.out)) hb) (Kd.R_base ho0)) (Kd.R_base ho1)) (fun _ h_ => h_.1)) (Kd.R_mono (Kd.R_told (Kd.R_told (Kd.R_old (RQ (RT HO268.out BK286.out)) hb) (Kd.R_base ho0)) (Kd.R_base ho1)) (fun _ h_ => h_.1)) (Kd.R_mono (Kd.R_told (Kd.R_told (Kd.R_old (RQ (RT HO272.out BK286.out)) hb) (Kd.R_base ho0)) (Kd.R_base ho1)) (fun _ h_ => h_.1)) (Kd.R_mono (Kd.R_told (Kd.R_told (Kd.R_old (RQ (RT HO275.out BK286.out)) hb) (Kd.R_base ho0)) (Kd.R_base ho1)) (fun _ h_ => h_.1)) (Kd.R_mono (Kd.R_told (Kd.R_told (Kd.R_old (RQ (RT HO281.out BK286.out)) hb) (Kd.R_base ho0)) (Kd.R_base ho1)) (fun _ h_ => h_.1)) (Kd.R_mono (Kd.R_told (Kd.R_told (Kd.R_old (RQ (RT HO284.out BK286.out)) hb) (Kd.R_base ho0)) (Kd.R_base ho1)) (fun _ h_ => h_.1)) (Kd.R_lower (Kd.R_new' (Kd.R_new' (Kd.R_new' (Kd.R_new' (Kd.R_new' (Kd.R_new' ho0 (Kd.R_lt (RQ (RT HO265.out BK286.out)))) (Kd.R_lt (RQ (RT HO268.out BK286.out)))) (Kd.R_lt (RQ (RT HO272.out BK286.out)))) (Kd.R_lt (RQ (RT HO275.out BK286.out)))) (Kd.R_lt (RQ (RT HO281.out BK286.out)))) (Kd.R_lt (RQ (RT HO284.out BK286.out)))) (below_size KB)) (Kd.R_lower (Kd.R_new' (Kd.R_new' (Kd.R_new' (Kd.R_new' (Kd.R_new' (Kd.R_new' ho1 (Kd.R_lt (RQ (RT HO265.out BK286.out)))) (Kd.R_lt (RQ (RT HO268.out BK286.out)))) (Kd.R_lt (RQ (RT HO272.out BK286.out)))) (Kd.R_lt (RQ (RT HO275.out BK286.out)))) (Kd.R_lt (RQ (RT HO281.out BK286.out)))) (Kd.R_lt (RQ (RT HO284.out BK286.out)))) (below_size KB)) (BL BK261.out hb) (BL BK278.out hb) (blk_below (g := gb286) (o := .cells #[.slice Ao29 t279.length co29, .slice Ao33 t282.length co33, .int .i64 t285] 31 (0, 0)) (by refine SK ?_; refine blk_put (cs := #[.slice Ao29 t279.length co29, .slice Ao33 t282.length co33, .int .i64 0]) ?_ 2 _ rfl; refine SK ?_; refine blk_put (cs := #[.slice Ao29 t279.length co29, .slice none 0 0, .int .i64 0]) ?_ 1 _ rfl; refine SK ?_; refine blk_put (cs := #[.slice none 0 0, .slice none 0 0, .int .i64 0]) ?_ 0 _ rfl; exact SK BK286.out) hb) (below_step KB hb); clear HO265 HO268 HO272 HO275 HO281 HO284 BK261 BK278 BK286 HB; obtain ⟨HO265, HO268, HO272, HO275, HO281, HO284, HO289, HO292, BK261, BK278, BK286, HB⟩ := h_; (try clear hb); (try clear hk); (try clear hi); (try clear ho0); (try clear ho1)) | ((with_reducible refine gate_dst (N := 9) rfl ?_); refine BE 9 #[.slice none 0 0, .slice none 0 0, .int .i64 0] 31 ?_; intro gb295 hg w35 hbox hb; have h_ := P21 (Kd.R_below (KR HO265.out) hb) (Kd.R_below (KR HO268.out) hb) (Kd.R_below (KR HO272.out) hb) (Kd.R_below (KR HO275.out) hb) (Kd.R_below (KR HO281.out) hb) (Kd.R_below (KR HO284.out) hb) (Kd.R_below (KR HO289.out) hb) (Kd.R_below (KR HO292.out) hb) (BL BK261.out hb) (BL BK278.out hb) (BL BK286.out hb) (below_step KB hb) hbox (KG hg : w.heap.size ≤ gb295) (KG hg : w.heap.size ≤ gb295) (NX hg BK261.out) (Ne.symm (NX hg BK261.out)) (NX hg BK278.out) (Ne.symm (NX hg BK278.out)) (NX hg BK286.out) (Ne.symm (NX hg BK286.out)); clear HO265 HO268 HO272 HO275 HO281 HO284 HO289 HO292 BK261 BK278 BK286 HB; obtain ⟨HO265, HO268, HO272, HO275, HO281, HO284, HO289, HO292, BK261, BK278, BK286, HB, BK295, GW295, GE295, NB261_295, NB295_261, NB278_295, NB295_278, NB286_295, NB295_286⟩ := h_; clear hb hbox hg; obtain ⟨Ao36, co36, eo36⟩ := Kd.R_slice HO289.out; subst eo36; have hnb37 := NB295_261.out; have hnc37 := NB261_295.out; have hnb38 := NB295_278.out; have hnc38 := NB278_295.out; have hnb39 := NB295_286.out; have hnc39 := NB286_295.out; obtain ⟨hcz40_0, hcz40_1, hcz40_2, hfz40_0, hfz40_1, hfz40_2⟩ := C3 BK295.out; obtain ⟨Ao41, co41, eo41⟩ := Kd.R_slice HO292.out; subst eo41))
  (try simp only [Act.put, List.setIfInBounds_toArray, List.set_cons_zero, List.set_cons_succ])
  go_cut [44] (fun v44 wc => ∃ (kq : Nat) (x44_11 : Bool), v44 = .bool x44_11 ∧ Aside0 (laws_FnExactStoreTrim.j0 kq a1 t277 t294 x44_11 l0_0 l0_1 a0_2 t270 t273 t276 t279 t282 t285 t287 t290 t293 = some r) ∧ Aside0 (kq ≤ k) ∧ Aside0 (Kd.R k35 35 wc w.heap.size (fun k_ => some k_ ≠ ((.slice Ao25 t273.length co25) : Value).ownBlock ∧ some k_ ≠ ((.slice Ao29 t279.length co29) : Value).ownBlock ∧ some k_ ≠ ((.slice Ao33 t282.length co33) : Value).ownBlock ∧ some k_ ≠ ((.slice Ao36 t287.length co36) : Value).ownBlock ∧ some k_ ≠ ((.slice Ao41 t290.length co41) : Value).ownBlock) (.slice Ao22 t270.length co22) t270) ∧ Aside0 (Kd.R k35 35 wc w.heap.size (fun k_ => some k_ ≠ ((.slice Ao22 t270.length co22) : Value).ownBlock ∧ some k_ ≠ ((.slice Ao29 t279.length co29) : Value).ownBlock ∧ some k_ ≠ ((.slice Ao33 t282.length co33) : Value).ownBlock ∧ some k_ ≠ ((.slice Ao36 t287.length co36) : Value).ownBlock ∧ some k_ ≠ ((.slice Ao41 t290.length co41) : Value).ownBlock) (.slice Ao25 t273.length co25) t273) ∧ Aside0 (Kd.R k35 35 wc w.heap.size (fun k_ => some k_ ≠ ((.slice Ao22 t270.length co22) : Value).ownBlock ∧ some k_ ≠ ((.slice Ao25 t273.length co25) : Value).ownBlock ∧ some k_ ≠ ((.slice Ao33 t282.length co33) : Value).ownBlock ∧ some k_ ≠ ((.slice Ao36 t287.length co36) : Value).ownBlock ∧ some k_ ≠ ((.slice Ao41 t290.length co41) : Value).ownBlock) (.slice Ao29 t279.length co29) t279) ∧ Aside0 (Kd.R k35 35 wc w.heap.size (fun k_ => some k_ ≠ ((.slice Ao22 t270.length co22) : Value).ownBlock ∧ some k_ ≠ ((.slice Ao25 t273.length co25) : Value).ownBlock ∧ some k_ ≠ ((.slice Ao29 t279.length co29) : Value).ownBlock ∧ some k_ ≠ ((.slice Ao36 t287.length co36) : Value).ownBlock ∧ some k_ ≠ ((.slice Ao41 t290.length co41) : Value).ownBlock) (.slice Ao33 t282.length co33) t282) ∧ Aside0 (Kd.R k35 35 wc w.heap.size (fun k_ => some k_ ≠ ((.slice Ao22 t270.length co22) : Value).ownBlock ∧ some k_ ≠ ((.slice Ao25 t273.length co25) : Value).ownBlock ∧ some k_ ≠ ((.slice Ao29 t279.length co29) : Value).ownBlock ∧ some k_ ≠ ((.slice Ao33 t282.length co33) : Value).ownBlock ∧ some k_ ≠ ((.slice Ao41 t290.length co41) : Value).ownBlock) (.slice Ao36 t287.length co36) t287) ∧ Aside0 (Kd.R k35 35 wc w.heap.size (fun k_ => some k_ ≠ ((.slice Ao22 t270.length co22) : Value).ownBlock ∧ some k_ ≠ ((.slice Ao25 t273.length co25) : Value).ownBlock ∧ some k_ ≠ ((.slice Ao29 t279.length co29) : Value).ownBlock ∧ some k_ ≠ ((.slice Ao33 t282.length co33) : Value).ownBlock ∧ some k_ ≠ ((.slice Ao36 t287.length co36) : Value).ownBlock) (.slice Ao41 t290.length co41) t290) ∧ Aside0 (wc.heap[gb261]? = some (.cells #[(.slice A0_0 l0_0.length c0_0), (.slice A0_1 l0_1.length c0_1), .int .i64 a0_2] 24 (0, 0))) ∧ Aside0 (wc.heap[gb278]? = some (.cells #[(.slice Ao22 t270.length co22), (.slice Ao25 t273.length co25), .int .i64 t276] 31 (0, 0))) ∧ Aside0 (wc.heap[gb286]? = some (.cells #[(.slice Ao29 t279.length co29), (.slice Ao33 t282.length co33), .int .i64 t285] 31 (0, 0))) ∧ Aside0 (wc.heap[gb295]? = some (.cells #[(.slice Ao36 t287.length co36), (.slice Ao41 t290.length co41), .int .i64 t293] 31 (0, 0))) ∧ Aside0 (Below w.heap.size w wc))
  case first =>
   have H := HC12.out
   clear HC12
   replace H := Option.bind_eq_some_iff.mp H
   obtain ⟨t296, A420, H⟩ := H
   replace H : (if t296 = true then (laws_FnExactStoreTrim.j0 k a1 t277 t294 (t294 != t277) l0_0 l0_1 a0_2 t270 t273 t276 t279 t282 t285 t287 t290 t293) else (laws_FnExactStoreTrim.j0 k a1 t277 t294 true l0_0 l0_1 a0_2 t270 t273 t276 t279 t282 t285 t287 t290 t293)) = some r := H
   have A42 := Aside0.mk A420
   clear A420
   by_cases c43 : t296 = true
   ·subst c43
    have H1 : (laws_FnExactStoreTrim.j0 k a1 t277 t294 (t294 != t277) l0_0 l0_1 a0_2 t270 t273 t276 t279 t282 t285 t287 t290 t293) = some r := by rw [if_pos rfl] at H; exact H
    clear H
    have H := H1
    clear H1
    have H' := Aside0.mk H
    clear H
    have hnb44 := NB295_261.out
    have hnc44 := NB261_295.out
    have hnb45 := NB295_278.out
    have hnc45 := NB278_295.out
    have hnb46 := NB295_286.out
    have hnc46 := NB286_295.out
    obtain ⟨hcz47_0, hcz47_1, hcz47_2, hfz47_0, hfz47_1, hfz47_2⟩ := C3 BK295.out
    have hnb48 := NB278_261.out
    have hnc48 := NB261_278.out
    have hnb49 := NB278_286.out
    have hnc49 := NB286_278.out
    obtain ⟨hcz50_0, hcz50_1, hcz50_2, hfz50_0, hfz50_1, hfz50_2⟩ := C3 BK278.out
    go_wp2_with (first | ((with_reducible refine gate_callee (f := 15) rfl ?_); refine goesL_ (some 38) rfl rfl Try.func15 (by kernel_rfl) rfl #[.agg #[.slice Ao36 t287.length co36, .slice Ao41 t290.length co41, .int .i64 t293], .agg #[.slice Ao22 t270.length co22, .slice Ao25 t273.length co25, .int .i64 t276]] rfl KL ?_; (with_reducible refine (laws_eqStore.calls k _ _ t287 _ _ t290 t293 _ _ t270 _ _ t273 t276 true _ ?side1 ?side2 ?side3 ?side4 ?side5 ?side6 ?side7 ?side8 A42.out).mono ?_); (case side1 => refine (Kd.R_reads' (e := 35) (base := w.heap.size) (ok := fun k_ => ((((((some k_ ≠ (.slice Ao41 t290.length co41 : Value).ownBlock ∧ some k_ ≠ (.slice Ao18 t263.length co18 : Value).ownBlock) ∧ some k_ ≠ (.slice Ao19 t266.length co19 : Value).ownBlock) ∧ some k_ ≠ (.slice Ao22 t270.length co22 : Value).ownBlock) ∧ some k_ ≠ (.slice Ao25 t273.length co25 : Value).ownBlock) ∧ some k_ ≠ (.slice Ao29 t279.length co29 : Value).ownBlock) ∧ some k_ ≠ (.slice Ao33 t282.length co33 : Value).ownBlock)) (n := t287.length) (c := co36) ?_).2.2; exact (RQ (RT HO289.out BK295.out))); (case side2 => exact (Kd.R_reads' HO289.out).2.1); (case side3 => refine (Kd.R_reads' (e := 35) (base := w.heap.size) (ok := fun k_ => ((((((some k_ ≠ (.slice Ao36 t287.length co36 : Value).ownBlock ∧ some k_ ≠ (.slice Ao18 t263.length co18 : Value).ownBlock) ∧ some k_ ≠ (.slice Ao19 t266.length co19 : Value).ownBlock) ∧ some k_ ≠ (.slice Ao22 t270.length co22 : Value).ownBlock) ∧ some k_ ≠ (.slice Ao25 t273.length co25 : Value).ownBlock) ∧ some k_ ≠ (.slice Ao29 t279.length co29 : Value).ownBlock) ∧ some k_ ≠ (.slice Ao33 t282.length co33 : Value).ownBlock)) (n := t290.length) (c := co41) ?_).2.2; exact (RQ (RT HO292.out BK295.out))); (case side4 => exact (Kd.R_reads' HO292.out).2.1); (case side5 => refine (Kd.R_reads' (e := 35) (base := w.heap.size) (ok := fun k_ => ((((((some k_ ≠ (.slice Ao25 t273.length co25 : Value).ownBlock ∧ some k_ ≠ (.slice Ao18 t263.length co18 : Value).ownBlock) ∧ some k_ ≠ (.slice Ao19 t266.length co19 : Value).ownBlock) ∧ some k_ ≠ (.slice Ao29 t279.length co29 : Value).ownBlock) ∧ some k_ ≠ (.slice Ao33 t282.length co33 : Value).ownBlock) ∧ some k_ ≠ (.slice Ao36 t287.length co36 : Value).ownBlock) ∧ some k_ ≠ (.slice Ao41 t290.length co41 : Value).ownBlock)) (n := t270.length) (c := co22) ?_).2.2; exact (RQ (RT HO272.out BK295.out))); (case side6 => exact (Kd.R_reads' HO272.out).2.1); (case side7 => refine (Kd.R_reads' (e := 35) (base := w.heap.size) (ok := fun k_ => ((((((some k_ ≠ (.slice Ao22 t270.length co22 : Value).ownBlock ∧ some k_ ≠ (.slice Ao18 t263.length co18 : Value).ownBlock) ∧ some k_ ≠ (.slice Ao19 t266.length co19 : Value).ownBlock) ∧ some k_ ≠ (.slice Ao29 t279.length co29 : Value).ownBlock) ∧ some k_ ≠ (.slice Ao33 t282.length co33 : Value).ownBlock) ∧ some k_ ≠ (.slice Ao36 t287.length co36 : Value).ownBlock) ∧ some k_ ≠ (.slice Ao41 t290.length co41 : Value).ownBlock)) (n := t273.length) (c := co25) ?_).2.2; exact (RQ (RT HO275.out BK295.out))); (case side8 => exact (Kd.R_reads' HO275.out).2.1); rintro e w51 ⟨rfl, hb⟩; refine ⟨_, rfl, ?_⟩; have h_ := P13 (Kd.R_below (RQ (RT HO265.out BK295.out)) hb) (Kd.R_below (RQ (RT HO268.out BK295.out)) hb) (Kd.R_below (RQ (RT HO272.out BK295.out)) hb) (Kd.R_below (RQ (RT HO275.out BK295.out)) hb) (Kd.R_below (RQ (RT HO281.out BK295.out)) hb) (Kd.R_below (RQ (RT HO284.out BK295.out)) hb) (Kd.R_below (RQ (RT HO289.out BK295.out)) hb) (Kd.R_below (RQ (RT HO292.out BK295.out)) hb) (BL BK261.out hb) (BL BK278.out hb) (BL BK286.out hb) (blk_below (g := gb295) (o := .cells #[.slice Ao36 t287.length co36, .slice Ao41 t290.length co41, .int .i64 t293] 31 (0, 0)) (by refine SK ?_; refine blk_put (cs := #[.slice Ao36 t287.length co36, .slice Ao41 t290.length co41, .int .i64 0]) ?_ 2 _ rfl; refine SK ?_; refine blk_put (cs := #[.slice Ao36 t287.length co36, .slice none 0 0, .int .i64 0]) ?_ 1 _ rfl; refine SK ?_; refine blk_put (cs := #[.slice none 0 0, .slice none 0 0, .int .i64 0]) ?_ 0 _ rfl; exact SK BK295.out) hb) (below_step KB hb); clear HO265 HO268 HO272 HO275 HO281 HO284 HO289 HO292 BK261 BK278 BK286 BK295 HB; obtain ⟨HO265, HO268, HO272, HO275, HO281, HO284, HO289, HO292, BK261, BK278, BK286, BK295, HB⟩ := h_; (try clear hb); (try clear hk); (try clear hi)))
    go_meet
    case rel => exact ⟨_, ((t294 != t277)), (by first | rfl | (simp; done) | (simp [*]; done)), H', ⟨by first | omega | exact Nat.le_refl _⟩, ⟨by (with_reducible repeat (first | apply Kd.R_alloc | apply Kd.R_drewN | apply Kd.R_drew)); exact Kd.R_mono HO272.out (fun _ hk => ⟨hk.1.1.1.1.1.1, ⟨hk.1.1.1.2, ⟨hk.1.1.2, ⟨hk.1.2, hk.2⟩⟩⟩⟩)⟩, ⟨by (with_reducible repeat (first | apply Kd.R_alloc | apply Kd.R_drewN | apply Kd.R_drew)); exact Kd.R_mono HO275.out (fun _ hk => ⟨hk.1.1.1.1.1.1, ⟨hk.1.1.1.2, ⟨hk.1.1.2, ⟨hk.1.2, hk.2⟩⟩⟩⟩)⟩, ⟨by (with_reducible repeat (first | apply Kd.R_alloc | apply Kd.R_drewN | apply Kd.R_drew)); exact Kd.R_mono HO281.out (fun _ hk => ⟨hk.1.1.1.2, ⟨hk.1.1.2, ⟨hk.1.1.1.1.1.1, ⟨hk.1.2, hk.2⟩⟩⟩⟩)⟩, ⟨by (with_reducible repeat (first | apply Kd.R_alloc | apply Kd.R_drewN | apply Kd.R_drew)); exact Kd.R_mono HO284.out (fun _ hk => ⟨hk.1.1.1.2, ⟨hk.1.1.2, ⟨hk.1.1.1.1.1.1, ⟨hk.1.2, hk.2⟩⟩⟩⟩)⟩, ⟨by (with_reducible repeat (first | apply Kd.R_alloc | apply Kd.R_drewN | apply Kd.R_drew)); exact Kd.R_mono HO289.out (fun _ hk => ⟨hk.1.1.1.2, ⟨hk.1.1.2, ⟨hk.1.2, ⟨hk.2, hk.1.1.1.1.1.1⟩⟩⟩⟩)⟩, ⟨by (with_reducible repeat (first | apply Kd.R_alloc | apply Kd.R_drewN | apply Kd.R_drew)); exact Kd.R_mono HO292.out (fun _ hk => ⟨hk.1.1.1.2, ⟨hk.1.1.2, ⟨hk.1.2, ⟨hk.2, hk.1.1.1.1.1.1⟩⟩⟩⟩)⟩, ⟨KK⟩, ⟨KK⟩, ⟨KK⟩, ⟨KK⟩, ⟨KB⟩⟩
   ·replace c43 := Bool.eq_false_iff.mpr c43
    subst c43
    have H1 : (laws_FnExactStoreTrim.j0 k a1 t277 t294 true l0_0 l0_1 a0_2 t270 t273 t276 t279 t282 t285 t287 t290 t293) = some r := by rw [if_neg (show ¬ (false = true) by decide)] at H; exact H
    clear H
    have H := H1
    clear H1
    have H' := Aside0.mk H
    clear H
    have hnb52 := NB295_261.out
    have hnc52 := NB261_295.out
    have hnb53 := NB295_278.out
    have hnc53 := NB278_295.out
    have hnb54 := NB295_286.out
    have hnc54 := NB286_295.out
    obtain ⟨hcz55_0, hcz55_1, hcz55_2, hfz55_0, hfz55_1, hfz55_2⟩ := C3 BK295.out
    have hnb56 := NB278_261.out
    have hnc56 := NB261_278.out
    have hnb57 := NB278_286.out
    have hnc57 := NB286_278.out
    obtain ⟨hcz58_0, hcz58_1, hcz58_2, hfz58_0, hfz58_1, hfz58_2⟩ := C3 BK278.out
    go_wp2_with (first | ((with_reducible refine gate_callee (f := 15) rfl ?_); refine goesL_ (some 38) rfl rfl Try.func15 (by kernel_rfl) rfl #[.agg #[.slice Ao36 t287.length co36, .slice Ao41 t290.length co41, .int .i64 t293], .agg #[.slice Ao22 t270.length co22, .slice Ao25 t273.length co25, .int .i64 t276]] rfl KL ?_; (with_reducible refine (laws_eqStore.calls k _ _ t287 _ _ t290 t293 _ _ t270 _ _ t273 t276 false _ ?side1 ?side2 ?side3 ?side4 ?side5 ?side6 ?side7 ?side8 A42.out).mono ?_); (case side1 => refine (Kd.R_reads' (e := 35) (base := w.heap.size) (ok := fun k_ => ((((((some k_ ≠ (.slice Ao41 t290.length co41 : Value).ownBlock ∧ some k_ ≠ (.slice Ao18 t263.length co18 : Value).ownBlock) ∧ some k_ ≠ (.slice Ao19 t266.length co19 : Value).ownBlock) ∧ some k_ ≠ (.slice Ao22 t270.length co22 : Value).ownBlock) ∧ some k_ ≠ (.slice Ao25 t273.length co25 : Value).ownBlock) ∧ some k_ ≠ (.slice Ao29 t279.length co29 : Value).ownBlock) ∧ some k_ ≠ (.slice Ao33 t282.length co33 : Value).ownBlock)) (n := t287.length) (c := co36) ?_).2.2; exact (RQ (RT HO289.out BK295.out))); (case side2 => exact (Kd.R_reads' HO289.out).2.1); (case side3 => refine (Kd.R_reads' (e := 35) (base := w.heap.size) (ok := fun k_ => ((((((some k_ ≠ (.slice Ao36 t287.length co36 : Value).ownBlock ∧ some k_ ≠ (.slice Ao18 t263.length co18 : Value).ownBlock) ∧ some k_ ≠ (.slice Ao19 t266.length co19 : Value).ownBlock) ∧ some k_ ≠ (.slice Ao22 t270.length co22 : Value).ownBlock) ∧ some k_ ≠ (.slice Ao25 t273.length co25 : Value).ownBlock) ∧ some k_ ≠ (.slice Ao29 t279.length co29 : Value).ownBlock) ∧ some k_ ≠ (.slice Ao33 t282.length co33 : Value).ownBlock)) (n := t290.length) (c := co41) ?_).2.2; exact (RQ (RT HO292.out BK295.out))); (case side4 => exact (Kd.R_reads' HO292.out).2.1); (case side5 => refine (Kd.R_reads' (e := 35) (base := w.heap.size) (ok := fun k_ => ((((((some k_ ≠ (.slice Ao25 t273.length co25 : Value).ownBlock ∧ some k_ ≠ (.slice Ao18 t263.length co18 : Value).ownBlock) ∧ some k_ ≠ (.slice Ao19 t266.length co19 : Value).ownBlock) ∧ some k_ ≠ (.slice Ao29 t279.length co29 : Value).ownBlock) ∧ some k_ ≠ (.slice Ao33 t282.length co33 : Value).ownBlock) ∧ some k_ ≠ (.slice Ao36 t287.length co36 : Value).ownBlock) ∧ some k_ ≠ (.slice Ao41 t290.length co41 : Value).ownBlock)) (n := t270.length) (c := co22) ?_).2.2; exact (RQ (RT HO272.out BK295.out))); (case side6 => exact (Kd.R_reads' HO272.out).2.1); (case side7 => refine (Kd.R_reads' (e := 35) (base := w.heap.size) (ok := fun k_ => ((((((some k_ ≠ (.slice Ao22 t270.length co22 : Value).ownBlock ∧ some k_ ≠ (.slice Ao18 t263.length co18 : Value).ownBlock) ∧ some k_ ≠ (.slice Ao19 t266.length co19 : Value).ownBlock) ∧ some k_ ≠ (.slice Ao29 t279.length co29 : Value).ownBlock) ∧ some k_ ≠ (.slice Ao33 t282.length co33 : Value).ownBlock) ∧ some k_ ≠ (.slice Ao36 t287.length co36 : Value).ownBlock) ∧ some k_ ≠ (.slice Ao41 t290.length co41 : Value).ownBlock)) (n := t273.length) (c := co25) ?_).2.2; exact (RQ (RT HO275.out BK295.out))); (case side8 => exact (Kd.R_reads' HO275.out).2.1); rintro e w59 ⟨rfl, hb⟩; refine ⟨_, rfl, ?_⟩; have h_ := P13 (Kd.R_below (RQ (RT HO265.out BK295.out)) hb) (Kd.R_below (RQ (RT HO268.out BK295.out)) hb) (Kd.R_below (RQ (RT HO272.out BK295.out)) hb) (Kd.R_below (RQ (RT HO275.out BK295.out)) hb) (Kd.R_below (RQ (RT HO281.out BK295.out)) hb) (Kd.R_below (RQ (RT HO284.out BK295.out)) hb) (Kd.R_below (RQ (RT HO289.out BK295.out)) hb) (Kd.R_below (RQ (RT HO292.out BK295.out)) hb) (BL BK261.out hb) (BL BK278.out hb) (BL BK286.out hb) (blk_below (g := gb295) (o := .cells #[.slice Ao36 t287.length co36, .slice Ao41 t290.length co41, .int .i64 t293] 31 (0, 0)) (by refine SK ?_; refine blk_put (cs := #[.slice Ao36 t287.length co36, .slice Ao41 t290.length co41, .int .i64 0]) ?_ 2 _ rfl; refine SK ?_; refine blk_put (cs := #[.slice Ao36 t287.length co36, .slice none 0 0, .int .i64 0]) ?_ 1 _ rfl; refine SK ?_; refine blk_put (cs := #[.slice none 0 0, .slice none 0 0, .int .i64 0]) ?_ 0 _ rfl; exact SK BK295.out) hb) (below_step KB hb); clear HO265 HO268 HO272 HO275 HO281 HO284 HO289 HO292 BK261 BK278 BK286 BK295 HB; obtain ⟨HO265, HO268, HO272, HO275, HO281, HO284, HO289, HO292, BK261, BK278, BK286, BK295, HB⟩ := h_; (try clear hb); (try clear hk); (try clear hi)))
    go_meet
    case rel => exact ⟨_, (true), (by first | rfl | (simp; done) | (simp [*]; done)), H', ⟨by first | omega | exact Nat.le_refl _⟩, ⟨by (with_reducible repeat (first | apply Kd.R_alloc | apply Kd.R_drewN | apply Kd.R_drew)); exact Kd.R_mono HO272.out (fun _ hk => ⟨hk.1.1.1.1.1.1, ⟨hk.1.1.1.2, ⟨hk.1.1.2, ⟨hk.1.2, hk.2⟩⟩⟩⟩)⟩, ⟨by (with_reducible repeat (first | apply Kd.R_alloc | apply Kd.R_drewN | apply Kd.R_drew)); exact Kd.R_mono HO275.out (fun _ hk => ⟨hk.1.1.1.1.1.1, ⟨hk.1.1.1.2, ⟨hk.1.1.2, ⟨hk.1.2, hk.2⟩⟩⟩⟩)⟩, ⟨by (with_reducible repeat (first | apply Kd.R_alloc | apply Kd.R_drewN | apply Kd.R_drew)); exact Kd.R_mono HO281.out (fun _ hk => ⟨hk.1.1.1.2, ⟨hk.1.1.2, ⟨hk.1.1.1.1.1.1, ⟨hk.1.2, hk.2⟩⟩⟩⟩)⟩, ⟨by (with_reducible repeat (first | apply Kd.R_alloc | apply Kd.R_drewN | apply Kd.R_drew)); exact Kd.R_mono HO284.out (fun _ hk => ⟨hk.1.1.1.2, ⟨hk.1.1.2, ⟨hk.1.1.1.1.1.1, ⟨hk.1.2, hk.2⟩⟩⟩⟩)⟩, ⟨by (with_reducible repeat (first | apply Kd.R_alloc | apply Kd.R_drewN | apply Kd.R_drew)); exact Kd.R_mono HO289.out (fun _ hk => ⟨hk.1.1.1.2, ⟨hk.1.1.2, ⟨hk.1.2, ⟨hk.2, hk.1.1.1.1.1.1⟩⟩⟩⟩)⟩, ⟨by (with_reducible repeat (first | apply Kd.R_alloc | apply Kd.R_drewN | apply Kd.R_drew)); exact Kd.R_mono HO292.out (fun _ hk => ⟨hk.1.1.1.2, ⟨hk.1.1.2, ⟨hk.1.2, ⟨hk.2, hk.1.1.1.1.1.1⟩⟩⟩⟩)⟩, ⟨KK⟩, ⟨KK⟩, ⟨KK⟩, ⟨KK⟩, ⟨KB⟩⟩
  case rest =>
   clear HC12
   try clear c1
   try clear c2
   try clear p2
   try clear c3
   try clear c4
   try clear c4b0
   try clear c5
   try clear c9
   try clear c12
   try clear c15
   try clear c18
   try clear c19
   try clear c23
   try clear c30
   try clear c31
   try clear c37
   try clear c38
   try clear c39
   try clear c43
   try clear c44
   try clear c45
   try clear c46
   try clear c48
   try clear c49
   try clear c52
   try clear c53
   try clear c54
   try clear c56
   try clear c57
   try clear hcz14_0
   try clear hcz14_1
   try clear hcz14_2
   try clear hcz16_0
   try clear hcz16_1
   try clear hcz16_2
   try clear hcz24_0
   try clear hcz24_1
   try clear hcz24_2
   try clear hcz26_0
   try clear hcz26_1
   try clear hcz26_2
   try clear hcz32_0
   try clear hcz32_1
   try clear hcz32_2
   try clear hcz40_0
   try clear hcz40_1
   try clear hcz40_2
   try clear hcz47_0
   try clear hcz47_1
   try clear hcz47_2
   try clear hcz50_0
   try clear hcz50_1
   try clear hcz50_2
   try clear hcz55_0
   try clear hcz55_1
   try clear hcz55_2
   try clear hcz58_0
   try clear hcz58_1
   try clear hcz58_2
   try clear hcz6_0
   try clear hcz6_1
   try clear hcz6_2
   try clear hfz14_0
   try clear hfz14_1
   try clear hfz14_2
   try clear hfz16_0
   try clear hfz16_1
   try clear hfz16_2
   try clear hfz24_0
   try clear hfz24_1
   try clear hfz24_2
   try clear hfz26_0
   try clear hfz26_1
   try clear hfz26_2
   try clear hfz32_0
   try clear hfz32_1
   try clear hfz32_2
   try clear hfz40_0
   try clear hfz40_1
   try clear hfz40_2
   try clear hfz47_0
   try clear hfz47_1
   try clear hfz47_2
   try clear hfz50_0
   try clear hfz50_1
   try clear hfz50_2
   try clear hfz55_0
   try clear hfz55_1
   try clear hfz55_2
   try clear hfz58_0
   try clear hfz58_1
   try clear hfz58_2
   try clear hfz6_0
   try clear hfz6_1
   try clear hfz6_2
   obtain ⟨kq, x44_11, rfl, HA, HJ11, HO_279000, HO_279001, HO_287000, HO_287001, HO_296000, HO_296001, BK261, BK278, BK286, BK295, HB⟩ := hcut
   cases kq with
   | zero => exact absurd HA.out (by simp [laws_FnExactStoreTrim.j0])
   | succ kj11 =>
    have H := HA.out
    clear HA
    simp only [laws_FnExactStoreTrim.j0] at H
    by_cases c60 : x44_11 = true
    ·subst c60
     have H1 : (none) = some r := by rw [if_pos rfl] at H; exact H
     clear H
     have H := H1
     clear H1
     exact absurd H (by simp)
    ·replace c60 := Bool.eq_false_iff.mpr c60
     subst c60
     have H1 : ((laws_toStore.f kj11 l0_0 l0_1 a0_2).bind fun bt297 => ((laws_eqStore.f kj11 t279 t282 t285 bt297.1 bt297.2.1 bt297.2.2).bind fun t304 => (if t304 = true then ((laws_markStore.f kj11 t279 t282 t285 1).bind fun bt305 => (if bt305.1 < 0 then (laws_FnExactStoreTrim.j1 kj11 a1 t277 true l0_0 l0_1 a0_2 t270 t273 t276 t287 t290 t293) else ((laws_eqStore.f kj11 t287 t290 t293 t270 t273 t276).bind fun t308 => (if t308 = true then (laws_FnExactStoreTrim.j1 kj11 a1 t277 (t294 != t277) l0_0 l0_1 a0_2 t270 t273 t276 t287 t290 t293) else (laws_FnExactStoreTrim.j1 kj11 a1 t277 true l0_0 l0_1 a0_2 t270 t273 t276 t287 t290 t293))))) else (none)))) = some r := by rw [if_neg (show ¬ (false = true) by decide)] at H; exact H
     clear H
     have H := H1
     clear H1
     replace H := Option.bind_eq_some_iff.mp H
     obtain ⟨⟨t297, t300, t303⟩, A610, H⟩ := H
     replace H : ((laws_eqStore.f kj11 t279 t282 t285 t297 t300 t303).bind fun t304 => (if t304 = true then ((laws_markStore.f kj11 t279 t282 t285 1).bind fun bt305 => (if bt305.1 < 0 then (laws_FnExactStoreTrim.j1 kj11 a1 t277 true l0_0 l0_1 a0_2 t270 t273 t276 t287 t290 t293) else ((laws_eqStore.f kj11 t287 t290 t293 t270 t273 t276).bind fun t308 => (if t308 = true then (laws_FnExactStoreTrim.j1 kj11 a1 t277 (t294 != t277) l0_0 l0_1 a0_2 t270 t273 t276 t287 t290 t293) else (laws_FnExactStoreTrim.j1 kj11 a1 t277 true l0_0 l0_1 a0_2 t270 t273 t276 t287 t290 t293))))) else (none))) = some r := H
     have A61 := Aside0.mk A610
     clear A610
     replace H := Option.bind_eq_some_iff.mp H
     obtain ⟨t304, A620, H⟩ := H
     replace H : (if t304 = true then ((laws_markStore.f kj11 t279 t282 t285 1).bind fun bt305 => (if bt305.1 < 0 then (laws_FnExactStoreTrim.j1 kj11 a1 t277 true l0_0 l0_1 a0_2 t270 t273 t276 t287 t290 t293) else ((laws_eqStore.f kj11 t287 t290 t293 t270 t273 t276).bind fun t308 => (if t308 = true then (laws_FnExactStoreTrim.j1 kj11 a1 t277 (t294 != t277) l0_0 l0_1 a0_2 t270 t273 t276 t287 t290 t293) else (laws_FnExactStoreTrim.j1 kj11 a1 t277 true l0_0 l0_1 a0_2 t270 t273 t276 t287 t290 t293))))) else (none)) = some r := H
     have A62 := Aside0.mk A620
     clear A620
     by_cases c63 : t304 = true
     ·subst c63
      have H1 : ((laws_markStore.f kj11 t279 t282 t285 1).bind fun bt305 => (if bt305.1 < 0 then (laws_FnExactStoreTrim.j1 kj11 a1 t277 true l0_0 l0_1 a0_2 t270 t273 t276 t287 t290 t293) else ((laws_eqStore.f kj11 t287 t290 t293 t270 t273 t276).bind fun t308 => (if t308 = true then (laws_FnExactStoreTrim.j1 kj11 a1 t277 (t294 != t277) l0_0 l0_1 a0_2 t270 t273 t276 t287 t290 t293) else (laws_FnExactStoreTrim.j1 kj11 a1 t277 true l0_0 l0_1 a0_2 t270 t273 t276 t287 t290 t293))))) = some r := by rw [if_pos rfl] at H; exact H
      clear H
      have H := H1
      clear H1
      replace H := Option.bind_eq_some_iff.mp H
      obtain ⟨⟨t305, t306, t307⟩, A640, H⟩ := H
      replace H : (if t305 < 0 then (laws_FnExactStoreTrim.j1 kj11 a1 t277 true l0_0 l0_1 a0_2 t270 t273 t276 t287 t290 t293) else ((laws_eqStore.f kj11 t287 t290 t293 t270 t273 t276).bind fun t308 => (if t308 = true then (laws_FnExactStoreTrim.j1 kj11 a1 t277 (t294 != t277) l0_0 l0_1 a0_2 t270 t273 t276 t287 t290 t293) else (laws_FnExactStoreTrim.j1 kj11 a1 t277 true l0_0 l0_1 a0_2 t270 t273 t276 t287 t290 t293)))) = some r := H
      have A64 := Aside0.mk A640
      clear A640
      have HC65 := Aside0.mk H
      clear H
      try go_wp2
      have h_ := P11 (Kd.R_drew HO_279000.out) (Kd.R_drew HO_279001.out) (Kd.R_drew HO_287000.out) (Kd.R_drew HO_287001.out) (Kd.R_drew HO_296000.out) (Kd.R_drew HO_296001.out) (blk_drew BK261.out) (blk_drew BK278.out) (blk_drew BK286.out) (blk_drew BK295.out) (below_drew1 HB.out)
      clear HO_279000 HO_279001 HO_287000 HO_287001 HO_296000 HO_296001 BK261 BK278 BK286 BK295 HB
      obtain ⟨HO_279000, HO_279001, HO_287000, HO_287001, HO_296000, HO_296001, BK261, BK278, BK286, BK295, HB⟩ := h_
      refine start_ (n := 5) (S := fun w' => w'.cell? ⟨gb286, 0, none⟩ = some (.slice Ao29 t279.length co29) ∧ w'.cell? ⟨gb286, 1, none⟩ = some (.slice Ao33 t282.length co33) ∧ w'.cell? ⟨gb286, 2, none⟩ = some (.int .i64 t285) ∧ w'.cell? ⟨gb261, 0, none⟩ = some (.slice A0_0 l0_0.length c0_0) ∧ w'.cell? ⟨gb261, 1, none⟩ = some (.slice A0_1 l0_1.length c0_1) ∧ w'.cell? ⟨gb261, 2, none⟩ = some (.int .i64 a0_2)) (ds := []) #[false, false, false, false, false] (by kernel_rfl) rfl rfl ⟨(blk_cell BK286.out 0).trans rfl, (blk_cell BK286.out 1).trans rfl, (blk_cell BK286.out 2).trans rfl, (blk_cell BK261.out 0).trans rfl, (blk_cell BK261.out 1).trans rfl, (blk_cell BK261.out 2).trans rfl⟩ (fun hHeld => ?_)
      generalize wc.drew = w66 at HO_279000 HO_279001 HO_287000 HO_287001 HO_296000 HO_296001 BK261 BK278 BK286 BK295 HB hHeld ⊢
      refine take_ (i := 0) (N := some 45) (v := ?_) (a' := ?_) #[true, false, false, false, false] rfl rfl (by kernel_rfl) (fun _ _ _ h => h) (Or.inl ⟨by rfl, ?_⟩) hHeld ?_ ?_
      rotate_left
      ·rintro w' ⟨s0, s1, s2, s3, s4, s5⟩
       go_simp
       with_reducible rfl
      rotate_left
      ·exact KA
      refine take_ (i := 1) (N := some 46) (v := ?_) (a' := ?_) #[true, true, false, false, false] rfl rfl (by kernel_rfl) (fun _ _ _ h => h) (Or.inl ⟨by rfl, ?_⟩) hHeld ?_ ?_
      rotate_left
      ·rintro w' ⟨s0, s1, s2, s3, s4, s5⟩
       go_simp
       with_reducible rfl
      rotate_left
      ·exact KA
      refine one_ (i := 2) (N := some 47) #[true, true, true, false, false] rfl rfl (by kernel_rfl) (by decide) (fun K hK => ?_)
      refine goes_ Try.func12 (by kernel_rfl) rfl #[.agg #[.slice A0_0 l0_0.length c0_0, .slice A0_1 l0_1.length c0_1, .int .i64 a0_2]] (by rfl) rfl rfl KL ?_
      with_reducible refine (laws_toStore.calls kj11 _ _ l0_0 _ _ l0_1 a0_2 t297 t300 t303 _ ?side1 ?side2 ?side3 ?side4 A61.out).mono ?_
      (case side1 => exact KD (Kd.C_below HR0_0.out HB.out))
      (case side2 => exact HC0_0.out)
      (case side3 => exact KD (Kd.C_below HR0_1.out HB.out))
      (case side4 => exact HC0_1.out)
      rintro e w67 ⟨v298, v301, rfl, ho0, ho1, hb⟩
      refine ⟨_, rfl, ?_⟩
      have h_ := P13 (Kd.R_mono (Kd.R_told (Kd.R_told (Kd.R_old (KR HO_279000.out) hb) (Kd.R_base ho0)) (Kd.R_base ho1)) (fun _ h_ => h_.1)) (Kd.R_mono (Kd.R_told (Kd.R_told (Kd.R_old (KR HO_279001.out) hb) (Kd.R_base ho0)) (Kd.R_base ho1)) (fun _ h_ => h_.1)) (Kd.R_mono (Kd.R_told (Kd.R_told (Kd.R_old (KR HO_287000.out) hb) (Kd.R_base ho0)) (Kd.R_base ho1)) (fun _ h_ => h_.1)) (Kd.R_mono (Kd.R_told (Kd.R_told (Kd.R_old (KR HO_287001.out) hb) (Kd.R_base ho0)) (Kd.R_base ho1)) (fun _ h_ => h_.1)) (Kd.R_mono (Kd.R_told (Kd.R_told (Kd.R_old (KR HO_296000.out) hb) (Kd.R_base ho0)) (Kd.R_base ho1)) (fun _ h_ => h_.1)) (Kd.R_mono (Kd.R_told (Kd.R_told (Kd.R_old (KR HO_296001.out) hb) (Kd.R_base ho0)) (Kd.R_base ho1)) (fun _ h_ => h_.1)) (Kd.R_lower (Kd.R_new' (Kd.R_new' (Kd.R_new' (Kd.R_new' (Kd.R_new' (Kd.R_new' ho0 (Kd.R_lt (KR HO_279000.out))) (Kd.R_lt (KR HO_279001.out))) (Kd.R_lt (KR HO_287000.out))) (Kd.R_lt (KR HO_287001.out))) (Kd.R_lt (KR HO_296000.out))) (Kd.R_lt (KR HO_296001.out))) (below_size KB)) (Kd.R_lower (Kd.R_new' (Kd.R_new' (Kd.R_new' (Kd.R_new' (Kd.R_new' (Kd.R_new' ho1 (Kd.R_lt (KR HO_279000.out))) (Kd.R_lt (KR HO_279001.out))) (Kd.R_lt (KR HO_287000.out))) (Kd.R_lt (KR HO_287001.out))) (Kd.R_lt (KR HO_296000.out))) (Kd.R_lt (KR HO_296001.out))) (below_size KB)) (BL BK261.out hb) (BL BK278.out hb) (BL BK286.out hb) (BL BK295.out hb) (below_step KB hb)
      clear HO_279000 HO_279001 HO_287000 HO_287001 HO_296000 HO_296001 BK261 BK278 BK286 BK295 HB
      obtain ⟨HO_279000, HO_279001, HO_287000, HO_287001, HO_296000, HO_296001, HO299, HO302, BK261, BK278, BK286, BK295, HB⟩ := h_
      (try clear hb); (try clear hk); (try clear hi)
      (try clear ho0)
      (try clear ho1)
      obtain ⟨Ao68, co68, eo68⟩ := Kd.R_slice HO299.out
      (first | subst eo68 | (injection eo68 with f1_ f2_ f3_; have f4_ := f1_.symm; have f5_ := f3_.symm; clear f1_ f2_ f3_; subst f4_; subst f5_))
      obtain ⟨Ao69, co69, eo69⟩ := Kd.R_slice HO302.out
      (first | subst eo69 | (injection eo69 with f1_ f2_ f3_; have f4_ := f1_.symm; have f5_ := f3_.symm; clear f1_ f2_ f3_; subst f4_; subst f5_))
      refine hK.out _ _ ⟨(blk_cell BK286.out 0).trans rfl, (blk_cell BK286.out 1).trans rfl, (blk_cell BK286.out 2).trans rfl, (blk_cell BK261.out 0).trans rfl, (blk_cell BK261.out 1).trans rfl, (blk_cell BK261.out 2).trans rfl⟩ (fun hHeld => ?_)
      clear hK K
      refine norm_ (a' := ?_) ?_ ?_
      rotate_left
      ·show Act.put _ (some 47) _ = _; exact KA
      refine one_ (i := 3) (N := some 48) #[true, true, true, true, false] rfl rfl (by kernel_rfl) (by decide) (fun K hK => ?_)
      refine goes_ Try.func15 (by kernel_rfl) rfl #[.agg #[.slice Ao29 t279.length co29, .slice Ao33 t282.length co33, .int .i64 t285], .agg #[.slice Ao68 t297.length co68, .slice Ao69 t300.length co69, .int .i64 t303]] (by rfl) rfl rfl KL ?_
      with_reducible refine (laws_eqStore.calls kj11 _ _ t279 _ _ t282 t285 _ _ t297 _ _ t300 t303 true _ ?side1 ?side2 ?side3 ?side4 ?side5 ?side6 ?side7 ?side8 A62.out).mono ?_
      (case side1 => repeat (first | exact (Kd.R_reads' HO_287000.out).2.2 | (with_reducible refine Kd.C_alloc ?_ _) | (with_reducible refine Kd.C_drewN ?_ _) | (with_reducible refine Kd.C_drew ?_)))
      (case side2 => exact (Kd.R_reads' HO_287000.out).2.1)
      (case side3 => repeat (first | exact (Kd.R_reads' HO_287001.out).2.2 | (with_reducible refine Kd.C_alloc ?_ _) | (with_reducible refine Kd.C_drewN ?_ _) | (with_reducible refine Kd.C_drew ?_)))
      (case side4 => exact (Kd.R_reads' HO_287001.out).2.1)
      (case side5 => repeat (first | exact (Kd.R_reads' HO299.out).2.2 | (with_reducible refine Kd.C_alloc ?_ _) | (with_reducible refine Kd.C_drewN ?_ _) | (with_reducible refine Kd.C_drew ?_)))
      (case side6 => exact (Kd.R_reads' HO299.out).2.1)
      (case side7 => repeat (first | exact (Kd.R_reads' HO302.out).2.2 | (with_reducible refine Kd.C_alloc ?_ _) | (with_reducible refine Kd.C_drewN ?_ _) | (with_reducible refine Kd.C_drew ?_)))
      (case side8 => exact (Kd.R_reads' HO302.out).2.1)
      rintro e w70 ⟨rfl, hb⟩
      refine ⟨_, rfl, ?_⟩
      have h_ := P13 (Kd.R_below (KR HO_279000.out) hb) (Kd.R_below (KR HO_279001.out) hb) (Kd.R_below (KR HO_287000.out) hb) (Kd.R_below (KR HO_287001.out) hb) (Kd.R_below (KR HO_296000.out) hb) (Kd.R_below (KR HO_296001.out) hb) (Kd.R_below (KR HO299.out) hb) (Kd.R_below (KR HO302.out) hb) (BL BK261.out hb) (BL BK278.out hb) (BL BK286.out hb) (BL BK295.out hb) (below_step KB hb)
      clear HO_279000 HO_279001 HO_287000 HO_287001 HO_296000 HO_296001 HO299 HO302 BK261 BK278 BK286 BK295 HB
      obtain ⟨HO_279000, HO_279001, HO_287000, HO_287001, HO_296000, HO_296001, HO299, HO302, BK261, BK278, BK286, BK295, HB⟩ := h_
      (try clear hb); (try clear hk); (try clear hi)
      refine hK.out _ _ ⟨(blk_cell BK286.out 0).trans rfl, (blk_cell BK286.out 1).trans rfl, (blk_cell BK286.out 2).trans rfl, (blk_cell BK261.out 0).trans rfl, (blk_cell BK261.out 1).trans rfl, (blk_cell BK261.out 2).trans rfl⟩ (fun hHeld => ?_)
      clear hK K
      refine norm_ (a' := ?_) ?_ ?_
      rotate_left
      ·show Act.put _ (some 48) _ = _; exact KA
      refine pure_ (i := 4) (N := some 49) (v := ?_) (a' := ?_) #[true, true, true, true, true] rfl rfl (by kernel_rfl) (fun _ _ _ h => h) (Or.inl ⟨by rfl, ?_⟩) ?_ ?_
      rotate_left
      ·intro w'
       go_simp
       with_reducible rfl
      rotate_left
      ·exact KA
      refine done_ (by kernel_rfl) ?_
      have hnb71 := NB286_261.out
      have hnc71 := NB261_286.out
      have hnb72 := NB286_278.out
      have hnc72 := NB278_286.out
      have hnb73 := NB286_295.out
      have hnc73 := NB295_286.out
      obtain ⟨hcz74_0, hcz74_1, hcz74_2, hfz74_0, hfz74_1, hfz74_2⟩ := C3 BK286.out
      go_upto_region 14 with (first | ((with_reducible refine gate_callee (f := 16) rfl ?_); refine goesL_ (some 52) rfl rfl Try.func16 (by kernel_rfl) rfl #[.agg #[.slice Ao29 t279.length co29, .slice Ao33 t282.length co33, .int .i64 t285], .int .i64 1] rfl KL ?_; (with_reducible refine (laws_markStore.calls kj11 (fun k_ => some k_ = (.slice Ao29 t279.length co29 : Value).ownBlock) (.slice Ao29 t279.length co29) t279 (fun k_ => some k_ = (.slice Ao33 t282.length co33 : Value).ownBlock) (.slice Ao33 t282.length co33) t282 t285 1 t305 t306 t307 w _ ?side1 ?side2 ?side3 ?side4 ?side5 A64.out).mono ?_); (case side1 => exact KB); (case side2 => exact Kd.R_tight rfl HO_287000.out); (case side3 => exact fun k_ e_ => (HO_287000.out.1 k_ e_.symm).1.1.2.2.1); (case side4 => exact Kd.R_tight rfl HO_287001.out); (case side5 => exact fun k_ e_ => (HO_287001.out.1 k_ e_.symm).1.1.2.2.1); rintro e w75 ⟨rfl, hy0, hy1, hb, hkp⟩; refine ⟨_, rfl, ?_⟩; have h_ := P13 (Kd.R_mono (ok' := fun k_ => some k_ ≠ (.slice Ao25 t273.length co25 : Value).ownBlock ∧ some k_ ≠ (.slice Ao29 t279.length co29 : Value).ownBlock ∧ some k_ ≠ (.slice Ao33 t282.length co33 : Value).ownBlock ∧ some k_ ≠ (.slice Ao36 t287.length co36 : Value).ownBlock ∧ some k_ ≠ (.slice Ao41 t290.length co41 : Value).ownBlock ∧ some k_ ≠ (.slice Ao68 t297.length co68 : Value).ownBlock ∧ some k_ ≠ (.slice Ao69 t300.length co69 : Value).ownBlock) (Kd.R_keptB (HO_279000.out) hkp (fun k_ hk_ hs_ => Or.elim hs_ (fun e_ => (hk_.1.1.2.1) e_) (fun e_ => (hk_.1.1.2.2.1) e_))) (fun k_ hk_ => ⟨hk_.1.1.1.1, hk_.1.1.1.2.1, hk_.1.1.1.2.2.1, hk_.1.1.1.2.2.2.1, hk_.1.1.1.2.2.2.2, hk_.1.1.2, hk_.1.2⟩)) (Kd.R_mono (ok' := fun k_ => some k_ ≠ (.slice Ao22 t270.length co22 : Value).ownBlock ∧ some k_ ≠ (.slice Ao29 t279.length co29 : Value).ownBlock ∧ some k_ ≠ (.slice Ao33 t282.length co33 : Value).ownBlock ∧ some k_ ≠ (.slice Ao36 t287.length co36 : Value).ownBlock ∧ some k_ ≠ (.slice Ao41 t290.length co41 : Value).ownBlock ∧ some k_ ≠ (.slice Ao68 t297.length co68 : Value).ownBlock ∧ some k_ ≠ (.slice Ao69 t300.length co69 : Value).ownBlock) (Kd.R_keptB (HO_279001.out) hkp (fun k_ hk_ hs_ => Or.elim hs_ (fun e_ => (hk_.1.1.2.1) e_) (fun e_ => (hk_.1.1.2.2.1) e_))) (fun k_ hk_ => ⟨hk_.1.1.1.1, hk_.1.1.1.2.1, hk_.1.1.1.2.2.1, hk_.1.1.1.2.2.2.1, hk_.1.1.1.2.2.2.2, hk_.1.1.2, hk_.1.2⟩)) (Kd.R_reok rfl hy0 (fun k_ e_ => HO_287000.out.1 k_ e_)) (Kd.R_reok rfl hy1 (fun k_ e_ => HO_287001.out.1 k_ e_)) (Kd.R_mono (ok' := fun k_ => some k_ ≠ (.slice Ao22 t270.length co22 : Value).ownBlock ∧ some k_ ≠ (.slice Ao25 t273.length co25 : Value).ownBlock ∧ some k_ ≠ (.slice Ao29 t279.length co29 : Value).ownBlock ∧ some k_ ≠ (.slice Ao33 t282.length co33 : Value).ownBlock ∧ some k_ ≠ (.slice Ao41 t290.length co41 : Value).ownBlock ∧ some k_ ≠ (.slice Ao68 t297.length co68 : Value).ownBlock ∧ some k_ ≠ (.slice Ao69 t300.length co69 : Value).ownBlock) (Kd.R_keptB (HO_296000.out) hkp (fun k_ hk_ hs_ => Or.elim hs_ (fun e_ => (hk_.1.1.2.2.1) e_) (fun e_ => (hk_.1.1.2.2.2.1) e_))) (fun k_ hk_ => ⟨hk_.1.1.1.1, hk_.1.1.1.2.1, hk_.1.1.1.2.2.1, hk_.1.1.1.2.2.2.1, hk_.1.1.1.2.2.2.2, hk_.1.1.2, hk_.1.2⟩)) (Kd.R_mono (ok' := fun k_ => some k_ ≠ (.slice Ao22 t270.length co22 : Value).ownBlock ∧ some k_ ≠ (.slice Ao25 t273.length co25 : Value).ownBlock ∧ some k_ ≠ (.slice Ao29 t279.length co29 : Value).ownBlock ∧ some k_ ≠ (.slice Ao33 t282.length co33 : Value).ownBlock ∧ some k_ ≠ (.slice Ao36 t287.length co36 : Value).ownBlock ∧ some k_ ≠ (.slice Ao68 t297.length co68 : Value).ownBlock ∧ some k_ ≠ (.slice Ao69 t300.length co69 : Value).ownBlock) (Kd.R_keptB (HO_296001.out) hkp (fun k_ hk_ hs_ => Or.elim hs_ (fun e_ => (hk_.1.1.2.2.1) e_) (fun e_ => (hk_.1.1.2.2.2.1) e_))) (fun k_ hk_ => ⟨hk_.1.1.1.1, hk_.1.1.1.2.1, hk_.1.1.1.2.2.1, hk_.1.1.1.2.2.2.1, hk_.1.1.1.2.2.2.2, hk_.1.1.2, hk_.1.2⟩)) (blk_kept KK hkp (fun hs_ => Or.elim hs_ (fun e_ => (fun e_ => (Kd.R_ne HO_287000.out BK261.out (by decide)) e_) e_) (fun e_ => (fun e_ => (Kd.R_ne HO_287001.out BK261.out (by decide)) e_) e_))) (blk_kept KK hkp (fun hs_ => Or.elim hs_ (fun e_ => (fun e_ => (Kd.R_ne HO_287000.out BK278.out (by decide)) e_) e_) (fun e_ => (fun e_ => (Kd.R_ne HO_287001.out BK278.out (by decide)) e_) e_))) (blk_kept KK hkp (fun hs_ => Or.elim hs_ (fun e_ => (fun e_ => (Kd.R_ne HO_287000.out BK286.out (by decide)) e_) e_) (fun e_ => (fun e_ => (Kd.R_ne HO_287001.out BK286.out (by decide)) e_) e_))) (blk_kept KK hkp (fun hs_ => Or.elim hs_ (fun e_ => (fun e_ => (Kd.R_ne HO_287000.out BK295.out (by decide)) e_) e_) (fun e_ => (fun e_ => (Kd.R_ne HO_287001.out BK295.out (by decide)) e_) e_))) (Kd.R_mono (ok' := fun k_ => some k_ ≠ (.slice Ao22 t270.length co22 : Value).ownBlock ∧ some k_ ≠ (.slice Ao25 t273.length co25 : Value).ownBlock ∧ some k_ ≠ (.slice Ao29 t279.length co29 : Value).ownBlock ∧ some k_ ≠ (.slice Ao33 t282.length co33 : Value).ownBlock ∧ some k_ ≠ (.slice Ao36 t287.length co36 : Value).ownBlock ∧ some k_ ≠ (.slice Ao41 t290.length co41 : Value).ownBlock ∧ some k_ ≠ (.slice Ao69 t300.length co69 : Value).ownBlock) (Kd.R_keptB (HO299.out) hkp (fun k_ hk_ hs_ => Or.elim hs_ (fun e_ => (hk_.1.1.1.2) e_) (fun e_ => (hk_.1.1.2) e_))) (fun k_ hk_ => ⟨hk_.1.1.1.1.1.1.2, hk_.1.1.1.1.1.2, hk_.1.1.1.1.2, hk_.1.1.1.2, hk_.1.1.2, hk_.1.2, hk_.1.1.1.1.1.1.1⟩)) (Kd.R_mono (ok' := fun k_ => some k_ ≠ (.slice Ao22 t270.length co22 : Value).ownBlock ∧ some k_ ≠ (.slice Ao25 t273.length co25 : Value).ownBlock ∧ some k_ ≠ (.slice Ao29 t279.length co29 : Value).ownBlock ∧ some k_ ≠ (.slice Ao33 t282.length co33 : Value).ownBlock ∧ some k_ ≠ (.slice Ao36 t287.length co36 : Value).ownBlock ∧ some k_ ≠ (.slice Ao41 t290.length co41 : Value).ownBlock ∧ some k_ ≠ (.slice Ao68 t297.length co68 : Value).ownBlock) (Kd.R_keptB (HO302.out) hkp (fun k_ hk_ hs_ => Or.elim hs_ (fun e_ => (hk_.1.1.1.2) e_) (fun e_ => (hk_.1.1.2) e_))) (fun k_ hk_ => ⟨hk_.1.1.1.1.1.1.2, hk_.1.1.1.1.1.2, hk_.1.1.1.1.2, hk_.1.1.1.2, hk_.1.1.2, hk_.1.2, hk_.1.1.1.1.1.1.1⟩)) hb; clear HO_279000 HO_279001 HO_287000 HO_287001 HO_296000 HO_296001 BK261 BK278 BK286 BK295 HO299 HO302 HB; obtain ⟨HO_279000, HO_279001, HO_287000, HO_287001, HO_296000, HO_296001, BK261, BK278, BK286, BK295, HO299, HO302, HB⟩ := h_; (try clear hb); (try clear hkp); (try clear hy0); (try clear hy1)))
      (try simp only [Act.put, List.setIfInBounds_toArray, List.set_cons_zero, List.set_cons_succ])
      go_cut [65] (fun v65 wc => ∃ (kq : Nat) (x65_64 : Bool), v65 = .bool x65_64 ∧ Aside0 (laws_FnExactStoreTrim.j1 kq a1 t277 x65_64 l0_0 l0_1 a0_2 t270 t273 t276 t287 t290 t293 = some r) ∧ Aside0 (kq ≤ kj11) ∧ Aside0 (Kd.R k35 35 wc w.heap.size (fun k_ => some k_ ≠ ((.slice Ao25 t273.length co25) : Value).ownBlock ∧ some k_ ≠ ((.slice Ao29 t279.length co29) : Value).ownBlock ∧ some k_ ≠ ((.slice Ao33 t282.length co33) : Value).ownBlock ∧ some k_ ≠ ((.slice Ao36 t287.length co36) : Value).ownBlock ∧ some k_ ≠ ((.slice Ao41 t290.length co41) : Value).ownBlock) (.slice Ao22 t270.length co22) t270) ∧ Aside0 (Kd.R k35 35 wc w.heap.size (fun k_ => some k_ ≠ ((.slice Ao22 t270.length co22) : Value).ownBlock ∧ some k_ ≠ ((.slice Ao29 t279.length co29) : Value).ownBlock ∧ some k_ ≠ ((.slice Ao33 t282.length co33) : Value).ownBlock ∧ some k_ ≠ ((.slice Ao36 t287.length co36) : Value).ownBlock ∧ some k_ ≠ ((.slice Ao41 t290.length co41) : Value).ownBlock) (.slice Ao25 t273.length co25) t273) ∧ Aside0 (Kd.R k35 35 wc w.heap.size (fun k_ => some k_ ≠ ((.slice Ao22 t270.length co22) : Value).ownBlock ∧ some k_ ≠ ((.slice Ao25 t273.length co25) : Value).ownBlock ∧ some k_ ≠ ((.slice Ao33 t282.length co33) : Value).ownBlock ∧ some k_ ≠ ((.slice Ao36 t287.length co36) : Value).ownBlock ∧ some k_ ≠ ((.slice Ao41 t290.length co41) : Value).ownBlock) (.slice Ao29 t279.length co29) t306) ∧ Aside0 (Kd.R k35 35 wc w.heap.size (fun k_ => some k_ ≠ ((.slice Ao22 t270.length co22) : Value).ownBlock ∧ some k_ ≠ ((.slice Ao25 t273.length co25) : Value).ownBlock ∧ some k_ ≠ ((.slice Ao29 t279.length co29) : Value).ownBlock ∧ some k_ ≠ ((.slice Ao36 t287.length co36) : Value).ownBlock ∧ some k_ ≠ ((.slice Ao41 t290.length co41) : Value).ownBlock) (.slice Ao33 t282.length co33) t307) ∧ Aside0 (Kd.R k35 35 wc w.heap.size (fun k_ => some k_ ≠ ((.slice Ao22 t270.length co22) : Value).ownBlock ∧ some k_ ≠ ((.slice Ao25 t273.length co25) : Value).ownBlock ∧ some k_ ≠ ((.slice Ao29 t279.length co29) : Value).ownBlock ∧ some k_ ≠ ((.slice Ao33 t282.length co33) : Value).ownBlock ∧ some k_ ≠ ((.slice Ao41 t290.length co41) : Value).ownBlock) (.slice Ao36 t287.length co36) t287) ∧ Aside0 (Kd.R k35 35 wc w.heap.size (fun k_ => some k_ ≠ ((.slice Ao22 t270.length co22) : Value).ownBlock ∧ some k_ ≠ ((.slice Ao25 t273.length co25) : Value).ownBlock ∧ some k_ ≠ ((.slice Ao29 t279.length co29) : Value).ownBlock ∧ some k_ ≠ ((.slice Ao33 t282.length co33) : Value).ownBlock ∧ some k_ ≠ ((.slice Ao36 t287.length co36) : Value).ownBlock) (.slice Ao41 t290.length co41) t290) ∧ Aside0 (wc.heap[gb261]? = some (.cells #[(.slice A0_0 l0_0.length c0_0), (.slice A0_1 l0_1.length c0_1), .int .i64 a0_2] 24 (0, 0))) ∧ Aside0 (wc.heap[gb278]? = some (.cells #[(.slice Ao22 t270.length co22), (.slice Ao25 t273.length co25), .int .i64 t276] 31 (0, 0))) ∧ Aside0 (wc.heap[gb286]? = some (.cells #[(.slice Ao29 t279.length co29), (.slice Ao33 t282.length co33), .int .i64 t285] 31 (0, 0))) ∧ Aside0 (wc.heap[gb295]? = some (.cells #[(.slice Ao36 t287.length co36), (.slice Ao41 t290.length co41), .int .i64 t293] 31 (0, 0))) ∧ Aside0 (Below w.heap.size w wc))
      case first =>
       have H := HC65.out
       clear HC65
       by_cases c76 : t305 < 0
       ·rw [if_pos c76] at H
        have c76b0 : decide (t305 < 0) = true := decide_eq_true c76
        clear c76
        (first | rw [c76b0] | (simp only [i64_w, i32_w]; rw [c76b0]) | skip)
        have H' := Aside0.mk H
        clear H
        go_wp2
        go_meet
        case rel => exact ⟨_, (true), (by first | rfl | (simp; done) | (simp [*]; done)), H', ⟨by have := HJ11.out; first | omega | exact Nat.le_refl _⟩, ⟨by (with_reducible repeat (first | apply Kd.R_alloc | apply Kd.R_drewN | apply Kd.R_drew)); exact Kd.R_mono HO_279000.out (fun _ hk => ⟨hk.1, ⟨hk.2.1, ⟨hk.2.2.1, ⟨hk.2.2.2.1, hk.2.2.2.2.1⟩⟩⟩⟩)⟩, ⟨by (with_reducible repeat (first | apply Kd.R_alloc | apply Kd.R_drewN | apply Kd.R_drew)); exact Kd.R_mono HO_279001.out (fun _ hk => ⟨hk.1, ⟨hk.2.1, ⟨hk.2.2.1, ⟨hk.2.2.2.1, hk.2.2.2.2.1⟩⟩⟩⟩)⟩, ⟨by (with_reducible repeat (first | apply Kd.R_alloc | apply Kd.R_drewN | apply Kd.R_drew)); exact Kd.R_mono HO_287000.out (fun _ hk => ⟨hk.1.1.1, ⟨hk.1.1.2.1, ⟨hk.1.1.2.2.1, ⟨hk.1.1.2.2.2.1, hk.1.1.2.2.2.2⟩⟩⟩⟩)⟩, ⟨by (with_reducible repeat (first | apply Kd.R_alloc | apply Kd.R_drewN | apply Kd.R_drew)); exact Kd.R_mono HO_287001.out (fun _ hk => ⟨hk.1.1.1, ⟨hk.1.1.2.1, ⟨hk.1.1.2.2.1, ⟨hk.1.1.2.2.2.1, hk.1.1.2.2.2.2⟩⟩⟩⟩)⟩, ⟨by (with_reducible repeat (first | apply Kd.R_alloc | apply Kd.R_drewN | apply Kd.R_drew)); exact Kd.R_mono HO_296000.out (fun _ hk => ⟨hk.1, ⟨hk.2.1, ⟨hk.2.2.1, ⟨hk.2.2.2.1, hk.2.2.2.2.1⟩⟩⟩⟩)⟩, ⟨by (with_reducible repeat (first | apply Kd.R_alloc | apply Kd.R_drewN | apply Kd.R_drew)); exact Kd.R_mono HO_296001.out (fun _ hk => ⟨hk.1, ⟨hk.2.1, ⟨hk.2.2.1, ⟨hk.2.2.2.1, hk.2.2.2.2.1⟩⟩⟩⟩)⟩, ⟨KK⟩, ⟨KK⟩, ⟨KK⟩, ⟨KK⟩, ⟨KB⟩⟩
       ·rw [if_neg c76] at H
        have c76b0 : decide (t305 < 0) = false := decide_eq_false c76
        clear c76
        (first | rw [c76b0] | (simp only [i64_w, i32_w]; rw [c76b0]) | skip)
        replace H := Option.bind_eq_some_iff.mp H
        obtain ⟨t308, A770, H⟩ := H
        replace H : (if t308 = true then (laws_FnExactStoreTrim.j1 kj11 a1 t277 (t294 != t277) l0_0 l0_1 a0_2 t270 t273 t276 t287 t290 t293) else (laws_FnExactStoreTrim.j1 kj11 a1 t277 true l0_0 l0_1 a0_2 t270 t273 t276 t287 t290 t293)) = some r := H
        have A77 := Aside0.mk A770
        clear A770
        by_cases c78 : t308 = true
        ·subst c78
         have H1 : (laws_FnExactStoreTrim.j1 kj11 a1 t277 (t294 != t277) l0_0 l0_1 a0_2 t270 t273 t276 t287 t290 t293) = some r := by rw [if_pos rfl] at H; exact H
         clear H
         have H := H1
         clear H1
         have H' := Aside0.mk H
         clear H
         have hnb79 := NB295_261.out
         have hnc79 := NB261_295.out
         have hnb80 := NB295_278.out
         have hnc80 := NB278_295.out
         have hnb81 := NB295_286.out
         have hnc81 := NB286_295.out
         obtain ⟨hcz82_0, hcz82_1, hcz82_2, hfz82_0, hfz82_1, hfz82_2⟩ := C3 BK295.out
         have hnb83 := NB278_261.out
         have hnc83 := NB261_278.out
         have hnb84 := NB278_286.out
         have hnc84 := NB286_278.out
         obtain ⟨hcz85_0, hcz85_1, hcz85_2, hfz85_0, hfz85_1, hfz85_2⟩ := C3 BK278.out
         go_wp2_with (first | (go_at_call 15; (with_reducible refine (laws_eqStore.calls kj11 _ _ t287 _ _ t290 t293 _ _ t270 _ _ t273 t276 true _ ?side1 ?side2 ?side3 ?side4 ?side5 ?side6 ?side7 ?side8 A77.out).mono ?_); (case side1 => repeat (first | exact (Kd.R_reads' HO_296000.out).2.2 | (with_reducible refine Kd.C_alloc ?_ _) | (with_reducible refine Kd.C_drewN ?_ _) | (with_reducible refine Kd.C_drew ?_))); (case side2 => exact (Kd.R_reads' HO_296000.out).2.1); (case side3 => repeat (first | exact (Kd.R_reads' HO_296001.out).2.2 | (with_reducible refine Kd.C_alloc ?_ _) | (with_reducible refine Kd.C_drewN ?_ _) | (with_reducible refine Kd.C_drew ?_))); (case side4 => exact (Kd.R_reads' HO_296001.out).2.1); (case side5 => repeat (first | exact (Kd.R_reads' HO_279000.out).2.2 | (with_reducible refine Kd.C_alloc ?_ _) | (with_reducible refine Kd.C_drewN ?_ _) | (with_reducible refine Kd.C_drew ?_))); (case side6 => exact (Kd.R_reads' HO_279000.out).2.1); (case side7 => repeat (first | exact (Kd.R_reads' HO_279001.out).2.2 | (with_reducible refine Kd.C_alloc ?_ _) | (with_reducible refine Kd.C_drewN ?_ _) | (with_reducible refine Kd.C_drew ?_))); (case side8 => exact (Kd.R_reads' HO_279001.out).2.1); rintro e w86 ⟨rfl, hb⟩; have h_ := P13 (Kd.R_below (KR HO_279000.out) hb) (Kd.R_below (KR HO_279001.out) hb) (Kd.R_below (KR HO_287000.out) hb) (Kd.R_below (KR HO_287001.out) hb) (Kd.R_below (KR HO_296000.out) hb) (Kd.R_below (KR HO_296001.out) hb) (Kd.R_below (KR HO299.out) hb) (Kd.R_below (KR HO302.out) hb) (BL BK261.out hb) (BL BK278.out hb) (BL BK286.out hb) (BL BK295.out hb) (below_step KB hb); clear HO_279000 HO_279001 HO_287000 HO_287001 HO_296000 HO_296001 HO299 HO302 BK261 BK278 BK286 BK295 HB; obtain ⟨HO_279000, HO_279001, HO_287000, HO_287001, HO_296000, HO_296001, HO299, HO302, BK261, BK278, BK286, BK295, HB⟩ := h_; (try clear hb); (try clear hk); (try clear hi)))
         go_meet
         case rel => exact ⟨_, ((t294 != t277)), (by first | rfl | (simp; done) | (simp [*]; done)), H', ⟨by have := HJ11.out; first | omega | exact Nat.le_refl _⟩, ⟨by (with_reducible repeat (first | apply Kd.R_alloc | apply Kd.R_drewN | apply Kd.R_drew)); exact Kd.R_mono HO_279000.out (fun _ hk => ⟨hk.1, ⟨hk.2.1, ⟨hk.2.2.1, ⟨hk.2.2.2.1, hk.2.2.2.2.1⟩⟩⟩⟩)⟩, ⟨by (with_reducible repeat (first | apply Kd.R_alloc | apply Kd.R_drewN | apply Kd.R_drew)); exact Kd.R_mono HO_279001.out (fun _ hk => ⟨hk.1, ⟨hk.2.1, ⟨hk.2.2.1, ⟨hk.2.2.2.1, hk.2.2.2.2.1⟩⟩⟩⟩)⟩, ⟨by (with_reducible repeat (first | apply Kd.R_alloc | apply Kd.R_drewN | apply Kd.R_drew)); exact Kd.R_mono HO_287000.out (fun _ hk => ⟨hk.1.1.1, ⟨hk.1.1.2.1, ⟨hk.1.1.2.2.1, ⟨hk.1.1.2.2.2.1, hk.1.1.2.2.2.2⟩⟩⟩⟩)⟩, ⟨by (with_reducible repeat (first | apply Kd.R_alloc | apply Kd.R_drewN | apply Kd.R_drew)); exact Kd.R_mono HO_287001.out (fun _ hk => ⟨hk.1.1.1, ⟨hk.1.1.2.1, ⟨hk.1.1.2.2.1, ⟨hk.1.1.2.2.2.1, hk.1.1.2.2.2.2⟩⟩⟩⟩)⟩, ⟨by (with_reducible repeat (first | apply Kd.R_alloc | apply Kd.R_drewN | apply Kd.R_drew)); exact Kd.R_mono HO_296000.out (fun _ hk => ⟨hk.1, ⟨hk.2.1, ⟨hk.2.2.1, ⟨hk.2.2.2.1, hk.2.2.2.2.1⟩⟩⟩⟩)⟩, ⟨by (with_reducible repeat (first | apply Kd.R_alloc | apply Kd.R_drewN | apply Kd.R_drew)); exact Kd.R_mono HO_296001.out (fun _ hk => ⟨hk.1, ⟨hk.2.1, ⟨hk.2.2.1, ⟨hk.2.2.2.1, hk.2.2.2.2.1⟩⟩⟩⟩)⟩, ⟨KK⟩, ⟨KK⟩, ⟨KK⟩, ⟨KK⟩, ⟨KB⟩⟩
        ·replace c78 := Bool.eq_false_iff.mpr c78
         subst c78
         have H1 : (laws_FnExactStoreTrim.j1 kj11 a1 t277 true l0_0 l0_1 a0_2 t270 t273 t276 t287 t290 t293) = some r := by rw [if_neg (show ¬ (false = true) by decide)] at H; exact H
         clear H
         have H := H1
         clear H1
         have H' := Aside0.mk H
         clear H
         have hnb87 := NB295_261.out
         have hnc87 := NB261_295.out
         have hnb88 := NB295_278.out
         have hnc88 := NB278_295.out
         have hnb89 := NB295_286.out
         have hnc89 := NB286_295.out
         obtain ⟨hcz90_0, hcz90_1, hcz90_2, hfz90_0, hfz90_1, hfz90_2⟩ := C3 BK295.out
         have hnb91 := NB278_261.out
         have hnc91 := NB261_278.out
         have hnb92 := NB278_286.out
         have hnc92 := NB286_278.out
         obtain ⟨hcz93_0, hcz93_1, hcz93_2, hfz93_0, hfz93_1, hfz93_2⟩ := C3 BK278.out
         go_wp2_with (first | (go_at_call 15; (with_reducible refine (laws_eqStore.calls kj11 _ _ t287 _ _ t290 t293 _ _ t270 _ _ t273 t276 false _ ?side1 ?side2 ?side3 ?side4 ?side5 ?side6 ?side7 ?side8 A77.out).mono ?_); (case side1 => repeat (first | exact (Kd.R_reads' HO_296000.out).2.2 | (with_reducible refine Kd.C_alloc ?_ _) | (with_reducible refine Kd.C_drewN ?_ _) | (with_reducible refine Kd.C_drew ?_))); (case side2 => exact (Kd.R_reads' HO_296000.out).2.1); (case side3 => repeat (first | exact (Kd.R_reads' HO_296001.out).2.2 | (with_reducible refine Kd.C_alloc ?_ _) | (with_reducible refine Kd.C_drewN ?_ _) | (with_reducible refine Kd.C_drew ?_))); (case side4 => exact (Kd.R_reads' HO_296001.out).2.1); (case side5 => repeat (first | exact (Kd.R_reads' HO_279000.out).2.2 | (with_reducible refine Kd.C_alloc ?_ _) | (with_reducible refine Kd.C_drewN ?_ _) | (with_reducible refine Kd.C_drew ?_))); (case side6 => exact (Kd.R_reads' HO_279000.out).2.1); (case side7 => repeat (first | exact (Kd.R_reads' HO_279001.out).2.2 | (with_reducible refine Kd.C_alloc ?_ _) | (with_reducible refine Kd.C_drewN ?_ _) | (with_reducible refine Kd.C_drew ?_))); (case side8 => exact (Kd.R_reads' HO_279001.out).2.1); rintro e w94 ⟨rfl, hb⟩; have h_ := P13 (Kd.R_below (KR HO_279000.out) hb) (Kd.R_below (KR HO_279001.out) hb) (Kd.R_below (KR HO_287000.out) hb) (Kd.R_below (KR HO_287001.out) hb) (Kd.R_below (KR HO_296000.out) hb) (Kd.R_below (KR HO_296001.out) hb) (Kd.R_below (KR HO299.out) hb) (Kd.R_below (KR HO302.out) hb) (BL BK261.out hb) (BL BK278.out hb) (BL BK286.out hb) (BL BK295.out hb) (below_step KB hb); clear HO_279000 HO_279001 HO_287000 HO_287001 HO_296000 HO_296001 HO299 HO302 BK261 BK278 BK286 BK295 HB; obtain ⟨HO_279000, HO_279001, HO_287000, HO_287001, HO_296000, HO_296001, HO299, HO302, BK261, BK278, BK286, BK295, HB⟩ := h_; (try clear hb); (try clear hk); (try clear hi)))
         go_meet
         case rel => exact ⟨_, (true), (by first | rfl | (simp; done) | (simp [*]; done)), H', ⟨by have := HJ11.out; first | omega | exact Nat.le_refl _⟩, ⟨by (with_reducible repeat (first | apply Kd.R_alloc | apply Kd.R_drewN | apply Kd.R_drew)); exact Kd.R_mono HO_279000.out (fun _ hk => ⟨hk.1, ⟨hk.2.1, ⟨hk.2.2.1, ⟨hk.2.2.2.1, hk.2.2.2.2.1⟩⟩⟩⟩)⟩, ⟨by (with_reducible repeat (first | apply Kd.R_alloc | apply Kd.R_drewN | apply Kd.R_drew)); exact Kd.R_mono HO_279001.out (fun _ hk => ⟨hk.1, ⟨hk.2.1, ⟨hk.2.2.1, ⟨hk.2.2.2.1, hk.2.2.2.2.1⟩⟩⟩⟩)⟩, ⟨by (with_reducible repeat (first | apply Kd.R_alloc | apply Kd.R_drewN | apply Kd.R_drew)); exact Kd.R_mono HO_287000.out (fun _ hk => ⟨hk.1.1.1, ⟨hk.1.1.2.1, ⟨hk.1.1.2.2.1, ⟨hk.1.1.2.2.2.1, hk.1.1.2.2.2.2⟩⟩⟩⟩)⟩, ⟨by (with_reducible repeat (first | apply Kd.R_alloc | apply Kd.R_drewN | apply Kd.R_drew)); exact Kd.R_mono HO_287001.out (fun _ hk => ⟨hk.1.1.1, ⟨hk.1.1.2.1, ⟨hk.1.1.2.2.1, ⟨hk.1.1.2.2.2.1, hk.1.1.2.2.2.2⟩⟩⟩⟩)⟩, ⟨by (with_reducible repeat (first | apply Kd.R_alloc | apply Kd.R_drewN | apply Kd.R_drew)); exact Kd.R_mono HO_296000.out (fun _ hk => ⟨hk.1, ⟨hk.2.1, ⟨hk.2.2.1, ⟨hk.2.2.2.1, hk.2.2.2.2.1⟩⟩⟩⟩)⟩, ⟨by (with_reducible repeat (first | apply Kd.R_alloc | apply Kd.R_drewN | apply Kd.R_drew)); exact Kd.R_mono HO_296001.out (fun _ hk => ⟨hk.1, ⟨hk.2.1, ⟨hk.2.2.1, ⟨hk.2.2.2.1, hk.2.2.2.2.1⟩⟩⟩⟩)⟩, ⟨KK⟩, ⟨KK⟩, ⟨KK⟩, ⟨KK⟩, ⟨KB⟩⟩
      case rest =>
       clear HC65
       try clear c1
       try clear c2
       try clear p2
       try clear c3
       try clear c4
       try clear c4b0
       try clear c5
       try clear c6
       try clear c7
       try clear c8
       try clear c9
       try clear c12
       try clear c15
       try clear c16
       try clear c18
       try clear c19
       try clear c23
       try clear c30
       try clear c31
       try clear c37
       try clear c38
       try clear c39
       try clear c43
       try clear c44
       try clear c45
       try clear c46
       try clear c48
       try clear c49
       try clear c52
       try clear c53
       try clear c54
       try clear c56
       try clear c57
       try clear c60
       try clear c63
       try clear c71
       try clear c72
       try clear c73
       try clear c76
       try clear c76b0
       try clear c78
       try clear c79
       try clear c80
       try clear c81
       try clear c83
       try clear c84
       try clear c87
       try clear c88
       try clear c89
       try clear c91
       try clear c92
       try clear hcz14_0
       try clear hcz14_1
       try clear hcz14_2
       try clear hcz16_0
       try clear hcz16_1
       try clear hcz16_2
       try clear hcz24_0
       try clear hcz24_1
       try clear hcz24_2
       try clear hcz26_0
       try clear hcz26_1
       try clear hcz26_2
       try clear hcz32_0
       try clear hcz32_1
       try clear hcz32_2
       try clear hcz40_0
       try clear hcz40_1
       try clear hcz40_2
       try clear hcz47_0
       try clear hcz47_1
       try clear hcz47_2
       try clear hcz50_0
       try clear hcz50_1
       try clear hcz50_2
       try clear hcz55_0
       try clear hcz55_1
       try clear hcz55_2
       try clear hcz58_0
       try clear hcz58_1
       try clear hcz58_2
       try clear hcz6_0
       try clear hcz6_1
       try clear hcz6_2
       try clear hcz74_0
       try clear hcz74_1
       try clear hcz74_2
       try clear hcz82_0
       try clear hcz82_1
       try clear hcz82_2
       try clear hcz85_0
       try clear hcz85_1
       try clear hcz85_2
       try clear hcz90_0
       try clear hcz90_1
       try clear hcz90_2
       try clear hcz93_0
       try clear hcz93_1
       try clear hcz93_2
       try clear hfz14_0
       try clear hfz14_1
       try clear hfz14_2
       try clear hfz16_0
       try clear hfz16_1
       try clear hfz16_2
       try clear hfz24_0
       try clear hfz24_1
       try clear hfz24_2
       try clear hfz26_0
       try clear hfz26_1
       try clear hfz26_2
       try clear hfz32_0
       try clear hfz32_1
       try clear hfz32_2
       try clear hfz40_0
       try clear hfz40_1
       try clear hfz40_2
       try clear hfz47_0
       try clear hfz47_1
       try clear hfz47_2
       try clear hfz50_0
       try clear hfz50_1
       try clear hfz50_2
       try clear hfz55_0
       try clear hfz55_1
       try clear hfz55_2
       try clear hfz58_0
       try clear hfz58_1
       try clear hfz58_2
       try clear hfz6_0
       try clear hfz6_1
       try clear hfz6_2
       try clear hfz74_0
       try clear hfz74_1
       try clear hfz74_2
       try clear hfz82_0
       try clear hfz82_1
       try clear hfz82_2
       try clear hfz85_0
       try clear hfz85_1
       try clear hfz85_2
       try clear hfz90_0
       try clear hfz90_1
       try clear hfz90_2
       try clear hfz93_0
       try clear hfz93_1
       try clear hfz93_2
       try clear p2
       obtain ⟨kq, x65_64, rfl, HA, HJ64, HO_279000, HO_279001, HO_287000, HO_287001, HO_296000, HO_296001, BK261, BK278, BK286, BK295, HB⟩ := hcut
       have hl287000_64 := (Kd.R_reads' HO_287000.out).1
       rw [hl287000_64] at HO_287000
       (try simp only [hl287000_64])
       (try simp only [hl287000_64] at BK261)
       (try simp only [hl287000_64] at BK278)
       (try simp only [hl287000_64] at BK286)
       (try simp only [hl287000_64] at BK295)
       (try simp only [hl287000_64] at HO_279000)
       (try simp only [hl287000_64] at HO_279001)
       (try simp only [hl287000_64] at HO_287001)
       (try simp only [hl287000_64] at HO_296000)
       (try simp only [hl287000_64] at HO_296001)
       have hl287001_64 := (Kd.R_reads' HO_287001.out).1
       rw [hl287001_64] at HO_287001
       (try simp only [hl287001_64])
       (try simp only [hl287001_64] at BK261)
       (try simp only [hl287001_64] at BK278)
       (try simp only [hl287001_64] at BK286)
       (try simp only [hl287001_64] at BK295)
       (try simp only [hl287001_64] at HO_279000)
       (try simp only [hl287001_64] at HO_279001)
       (try simp only [hl287001_64] at HO_287000)
       (try simp only [hl287001_64] at HO_296000)
       (try simp only [hl287001_64] at HO_296001)
       cases kq with
       | zero => exact absurd HA.out (by simp [laws_FnExactStoreTrim.j1])
       | succ kj64 =>
        have H := HA.out
        clear HA
        simp only [laws_FnExactStoreTrim.j1] at H
        by_cases c95 : x65_64 = true
        ·subst c95
         have H1 : (none) = some r := by rw [if_pos rfl] at H; exact H
         clear H
         have H := H1
         clear H1
         exact absurd H (by simp)
        ·replace c95 := Bool.eq_false_iff.mpr c95
         subst c95
         have H1 : ((laws_markStore.f kj64 t287 t290 t293 1).bind fun bt309 => ((laws_heldStore.f kj64 bt309.2.1 bt309.2.2 t293 1).bind fun t312 => (if t312 < 0 then (none) else (if t312 = bt309.1 then ((laws_toStore.f kj64 l0_0 l0_1 a0_2).bind fun bt313 => ((impl_StoreTrim.f kj64 bt313.1 bt313.2.1 bt313.2.2 a1).bind fun bt320 => ((laws_eqStore.f kj64 bt320.1 bt320.2.1 bt320.2.2.1 t270 t273 t276).bind fun t329 => (if t329 = true then (laws_FnExactStoreTrim.j2 kj64 bt309.1 (bt320.2.2.2 != t277) bt309.2.1 bt309.2.2 t293) else (laws_FnExactStoreTrim.j2 kj64 bt309.1 true bt309.2.1 bt309.2.2 t293))))) else (none))))) = some r := by rw [if_neg (show ¬ (false = true) by decide)] at H; exact H
         clear H
         have H := H1
         clear H1
         replace H := Option.bind_eq_some_iff.mp H
         obtain ⟨⟨t309, t310, t311⟩, A960, H⟩ := H
         replace H : ((laws_heldStore.f kj64 t310 t311 t293 1).bind fun t312 => (if t312 < 0 then (none) else (if t312 = t309 then ((laws_toStore.f kj64 l0_0 l0_1 a0_2).bind fun bt313 => ((impl_StoreTrim.f kj64 bt313.1 bt313.2.1 bt313.2.2 a1).bind fun bt320 => ((laws_eqStore.f kj64 bt320.1 bt320.2.1 bt320.2.2.1 t270 t273 t276).bind fun t329 => (if t329 = true then (laws_FnExactStoreTrim.j2 kj64 t309 (bt320.2.2.2 != t277) t310 t311 t293) else (laws_FnExactStoreTrim.j2 kj64 t309 true t310 t311 t293))))) else (none)))) = some r := H
         have A96 := Aside0.mk A960
         clear A960
         replace H := Option.bind_eq_some_iff.mp H
         obtain ⟨t312, A970, H⟩ := H
         replace H : (if t312 < 0 then (none) else (if t312 = t309 then ((laws_toStore.f kj64 l0_0 l0_1 a0_2).bind fun bt313 => ((impl_StoreTrim.f kj64 bt313.1 bt313.2.1 bt313.2.2 a1).bind fun bt320 => ((laws_eqStore.f kj64 bt320.1 bt320.2.1 bt320.2.2.1 t270 t273 t276).bind fun t329 => (if t329 = true then (laws_FnExactStoreTrim.j2 kj64 t309 (bt320.2.2.2 != t277) t310 t311 t293) else (laws_FnExactStoreTrim.j2 kj64 t309 true t310 t311 t293))))) else (none))) = some r := H
         have A97 := Aside0.mk A970
         clear A970
         by_cases c98 : t312 < 0
         ·rw [if_pos c98] at H
          exact absurd H (by simp)
         ·rw [if_neg c98] at H
          have c98b0 : decide (t312 < 0) = false := decide_eq_false c98
          clear c98
          by_cases c99 : t312 = t309
          ·rw [if_pos c99] at H
           have c99b0 : (t312 == t309) = true := beq_iff_eq.mpr c99
           have c99b1 : (t312 != t309) = false := bne_eq_false_iff_eq.mpr c99
           clear c99
           replace H := Option.bind_eq_some_iff.mp H
           obtain ⟨⟨t313, t316, t319⟩, A1000, H⟩ := H
           replace H : ((impl_StoreTrim.f kj64 t313 t316 t319 a1).bind fun bt320 => ((laws_eqStore.f kj64 bt320.1 bt320.2.1 bt320.2.2.1 t270 t273 t276).bind fun t329 => (if t329 = true then (laws_FnExactStoreTrim.j2 kj64 t309 (bt320.2.2.2 != t277) t310 t311 t293) else (laws_FnExactStoreTrim.j2 kj64 t309 true t310 t311 t293)))) = some r := H
           have A100 := Aside0.mk A1000
           clear A1000
           replace H := Option.bind_eq_some_iff.mp H
           obtain ⟨⟨t320, t323, t326, t327⟩, A1010, H⟩ := H
           replace H : ((laws_eqStore.f kj64 t320 t323 t326 t270 t273 t276).bind fun t329 => (if t329 = true then (laws_FnExactStoreTrim.j2 kj64 t309 (t327 != t277) t310 t311 t293) else (laws_FnExactStoreTrim.j2 kj64 t309 true t310 t311 t293))) = some r := H
           have A101 := Aside0.mk A1010
           clear A1010
           have HC102 := Aside0.mk H
           clear H
           have hnb103 := NB295_261.out
           have hnc103 := NB261_295.out
           have hnb104 := NB295_278.out
           have hnc104 := NB278_295.out
           have hnb105 := NB295_286.out
           have hnc105 := NB286_295.out
           obtain ⟨hcz106_0, hcz106_1, hcz106_2, hfz106_0, hfz106_1, hfz106_2⟩ := C3 BK295.out
           go_upto_region 25 with (first | ((with_reducible refine gate_callee (f := 16) rfl ?_); refine goesL_ (some 68) rfl rfl Try.func16 (by kernel_rfl) rfl #[.agg #[.slice Ao36 t287.length co36, .slice Ao41 t290.length co41, .int .i64 t293], .int .i64 1] rfl KL ?_; (with_reducible refine (laws_markStore.calls kj64 (fun k_ => some k_ = (.slice Ao36 t287.length co36 : Value).ownBlock) (.slice Ao36 t287.length co36) t287 (fun k_ => some k_ = (.slice Ao41 t290.length co41 : Value).ownBlock) (.slice Ao41 t290.length co41) t290 t293 1 t309 t310 t311 w _ ?side1 ?side2 ?side3 ?side4 ?side5 A96.out).mono ?_); (case side1 => exact KB); (case side2 => exact Kd.R_tight rfl HO_296000.out); (case side3 => exact fun k_ e_ => (HO_296000.out.1 k_ e_.symm).2.2.2.2); (case side4 => exact Kd.R_tight rfl HO_296001.out); (case side5 => exact fun k_ e_ => (HO_296001.out.1 k_ e_.symm).2.2.2.2); rintro e w107 ⟨rfl, hy0, hy1, hb, hkp⟩; refine ⟨_, rfl, ?_⟩; have h_ := P11 (Kd.R_mono (ok' := fun k_ => some k_ ≠ (.slice Ao25 t273.length co25 : Value).ownBlock ∧ some k_ ≠ (.slice Ao29 t306.length co29 : Value).ownBlock ∧ some k_ ≠ (.slice Ao33 t307.length co33 : Value).ownBlock ∧ some k_ ≠ (.slice Ao36 t287.length co36 : Value).ownBlock ∧ some k_ ≠ (.slice Ao41 t290.length co41 : Value).ownBlock) (Kd.R_keptB (HO_279000.out) hkp (fun k_ hk_ hs_ => Or.elim hs_ (fun e_ => (hk_.2.2.2.1) e_) (fun e_ => (hk_.2.2.2.2) e_))) (fun k_ hk_ => ⟨hk_.1.1, hk_.1.2.1, hk_.1.2.2.1, hk_.1.2.2.2.1, hk_.1.2.2.2.2⟩)) (Kd.R_mono (ok' := fun k_ => some k_ ≠ (.slice Ao22 t270.length co22 : Value).ownBlock ∧ some k_ ≠ (.slice Ao29 t306.length co29 : Value).ownBlock ∧ some k_ ≠ (.slice Ao33 t307.length co33 : Value).ownBlock ∧ some k_ ≠ (.slice Ao36 t287.length co36 : Value).ownBlock ∧ some k_ ≠ (.slice Ao41 t290.length co41 : Value).ownBlock) (Kd.R_keptB (HO_279001.out) hkp (fun k_ hk_ hs_ => Or.elim hs_ (fun e_ => (hk_.2.2.2.1) e_) (fun e_ => (hk_.2.2.2.2) e_))) (fun k_ hk_ => ⟨hk_.1.1, hk_.1.2.1, hk_.1.2.2.1, hk_.1.2.2.2.1, hk_.1.2.2.2.2⟩)) (Kd.R_mono (ok' := fun k_ => some k_ ≠ (.slice Ao22 t270.length co22 : Value).ownBlock ∧ some k_ ≠ (.slice Ao25 t273.length co25 : Value).ownBlock ∧ some k_ ≠ (.slice Ao33 t307.length co33 : Value).ownBlock ∧ some k_ ≠ (.slice Ao36 t287.length co36 : Value).ownBlock ∧ some k_ ≠ (.slice Ao41 t290.length co41 : Value).ownBlock) (Kd.R_keptB (HO_287000.out) hkp (fun k_ hk_ hs_ => Or.elim hs_ (fun e_ => (hk_.2.2.2.1) e_) (fun e_ => (hk_.2.2.2.2) e_))) (fun k_ hk_ => ⟨hk_.1.1, hk_.1.2.1, hk_.1.2.2.1, hk_.1.2.2.2.1, hk_.1.2.2.2.2⟩)) (Kd.R_mono (ok' := fun k_ => some k_ ≠ (.slice Ao22 t270.length co22 : Value).ownBlock ∧ some k_ ≠ (.slice Ao25 t273.length co25 : Value).ownBlock ∧ some k_ ≠ (.slice Ao29 t306.length co29 : Value).ownBlock ∧ some k_ ≠ (.slice Ao36 t287.length co36 : Value).ownBlock ∧ some k_ ≠ (.slice Ao41 t290.length co41 : Value).ownBlock) (Kd.R_keptB (HO_287001.out) hkp (fun k_ hk_ hs_ => Or.elim hs_ (fun e_ => (hk_.2.2.2.1) e_) (fun e_ => (hk_.2.2.2.2) e_))) (fun k_ hk_ => ⟨hk_.1.1, hk_.1.2.1, hk_.1.2.2.1, hk_.1.2.2.2.1, hk_.1.2.2.2.2⟩)) (Kd.R_reok rfl hy0 (fun k_ e_ => HO_296000.out.1 k_ e_)) (Kd.R_reok rfl hy1 (fun k_ e_ => HO_296001.out.1 k_ e_)) (blk_kept KK hkp (fun hs_ => Or.elim hs_ (fun e_ => (fun e_ => (Kd.R_ne HO_296000.out BK261.out (by decide)) e_) e_) (fun e_ => (fun e_ => (Kd.R_ne HO_296001.out BK261.out (by decide)) e_) e_))) (blk_kept KK hkp (fun hs_ => Or.elim hs_ (fun e_ => (fun e_ => (Kd.R_ne HO_296000.out BK278.out (by decide)) e_) e_) (fun e_ => (fun e_ => (Kd.R_ne HO_296001.out BK278.out (by decide)) e_) e_))) (blk_kept KK hkp (fun hs_ => Or.elim hs_ (fun e_ => (fun e_ => (Kd.R_ne HO_296000.out BK286.out (by decide)) e_) e_) (fun e_ => (fun e_ => (Kd.R_ne HO_296001.out BK286.out (by decide)) e_) e_))) (blk_kept KK hkp (fun hs_ => Or.elim hs_ (fun e_ => (fun e_ => (Kd.R_ne HO_296000.out BK295.out (by decide)) e_) e_) (fun e_ => (fun e_ => (Kd.R_ne HO_296001.out BK295.out (by decide)) e_) e_))) hb; clear HO_279000 HO_279001 HO_287000 HO_287001 HO_296000 HO_296001 BK261 BK278 BK286 BK295 HB; obtain ⟨HO_279000, HO_279001, HO_287000, HO_287001, HO_296000, HO_296001, BK261, BK278, BK286, BK295, HB⟩ := h_; (try clear hb); (try clear hkp); (try clear hy0); (try clear hy1); obtain ⟨hcz108_0, hcz108_1, hcz108_2, hfz108_0, hfz108_1, hfz108_2⟩ := C3 BK295.out) | ((with_reducible refine gate_callee (f := 17) rfl ?_); refine goesL_ (some 71) rfl rfl Try.func17 (by kernel_rfl) rfl #[.agg #[.slice Ao36 t310.length co36, .slice Ao41 t311.length co41, .int .i64 t293], .int .i64 1] rfl (by (try simp only [List.map_toArray, List.map_cons, List.map_nil]); first | done | (rw [show t310.length = t287.length from (Kd.R_reads' HO_296000.out).1.symm, show t311.length = t290.length from (Kd.R_reads' HO_296001.out).1.symm] <;> rfl) | rfl | (simp only [List.length_drop, List.length_take]; rfl)) ?_; (with_reducible refine (laws_heldStore.calls kj64 _ _ t310 _ _ t311 t293 1 t312 _ ?side1 ?side2 ?side3 ?side4 A97.out).mono ?_); (case side1 => repeat (first | exact (Kd.R_reads' HO_296000.out).2.2 | (with_reducible refine Kd.C_alloc ?_ _) | (with_reducible refine Kd.C_drewN ?_ _) | (with_reducible refine Kd.C_drew ?_))); (case side2 => rw [show t310.length = t287.length from (Kd.R_reads' HO_296000.out).1.symm]; exact (Kd.R_reads' HO_296000.out).2.1); (case side3 => repeat (first | exact (Kd.R_reads' HO_296001.out).2.2 | (with_reducible refine Kd.C_alloc ?_ _) | (with_reducible refine Kd.C_drewN ?_ _) | (with_reducible refine Kd.C_drew ?_))); (case side4 => rw [show t311.length = t290.length from (Kd.R_reads' HO_296001.out).1.symm]; exact (Kd.R_reads' HO_296001.out).2.1); rintro e w109 ⟨rfl, hb⟩; refine ⟨_, rfl, ?_⟩; have h_ := P11 (Kd.R_below (KR HO_279000.out) hb) (Kd.R_below (KR HO_279001.out) hb) (Kd.R_below (KR HO_287000.out) hb) (Kd.R_below (KR HO_287001.out) hb) (Kd.R_below (KR HO_296000.out) hb) (Kd.R_below (KR HO_296001.out) hb) (BL BK261.out hb) (BL BK278.out hb) (BL BK286.out hb) (BL BK295.out hb) (below_step KB hb); clear HO_279000 HO_279001 HO_287000 HO_287001 HO_296000 HO_296001 BK261 BK278 BK286 BK295 HB; obtain ⟨HO_279000, HO_279001, HO_287000, HO_287001, HO_296000, HO_296001, BK261, BK278, BK286, BK295, HB⟩ := h_; (try clear hb); (try clear hk); (try clear hi); have hnb110 := NB261_278.out; have hnc110 := NB278_261.out; have hnb111 := NB261_286.out; have hnc111 := NB286_261.out; obtain ⟨hcz112_0, hcz112_1, hcz112_2, hfz112_0, hfz112_1, hfz112_2⟩ := C3 BK261.out) | ((with_reducible refine gate_callee (f := 12) rfl ?_); refine goesL_ (some 79) rfl rfl Try.func12 (by kernel_rfl) rfl #[.agg #[.slice A0_0 l0_0.length c0_0, .slice A0_1 l0_1.length c0_1, .int .i64 a0_2]] rfl KL ?_; (with_reducible refine (laws_toStore.calls kj64 _ _ l0_0 _ _ l0_1 a0_2 t313 t316 t319 _ ?side1 ?side2 ?side3 ?side4 A100.out).mono ?_); (case side1 => exact KD (Kd.C_below HR0_0.out HB.out)); (case side2 => exact HC0_0.out); (case side3 => exact KD (Kd.C_below HR0_1.out HB.out)); (case side4 => exact HC0_1.out); rintro e w113 ⟨v314, v317, rfl, ho0, ho1, hb⟩; refine ⟨_, rfl, ?_⟩; have h_ := P13 (Kd.R_mono (Kd.R_told (Kd.R_told (Kd.R_old (KR HO_279000.out) hb) (Kd.R_base ho0)) (Kd.R_base ho1)) (fun _ h_ => h_.1)) (Kd.R_mono (Kd.R_told (Kd.R_told (Kd.R_old (KR HO_279001.out) hb) (Kd.R_base ho0)) (Kd.R_base ho1)) (fun _ h_ => h_.1)) (Kd.R_mono (Kd.R_told (Kd.R_told (Kd.R_old (KR HO_287000.out) hb) (Kd.R_base ho0)) (Kd.R_base ho1)) (fun _ h_ => h_.1)) (Kd.R_mono (Kd.R_told (Kd.R_told (Kd.R_old (KR HO_287001.out) hb) (Kd.R_base ho0)) (Kd.R_base ho1)) (fun _ h_ => h_.1)) (Kd.R_mono (Kd.R_told (Kd.R_told (Kd.R_old (KR HO_296000.out) hb) (Kd.R_base ho0)) (Kd.R_base ho1)) (fun _ h_ => h_.1)) (Kd.R_mono (Kd.R_told (Kd.R_told (Kd.R_old (KR HO_296001.out) hb) (Kd.R_base ho0)) (Kd.R_base ho1)) (fun _ h_ => h_.1)) (Kd.R_lower (Kd.R_new' (Kd.R_new' (Kd.R_new' (Kd.R_new' (Kd.R_new' (Kd.R_new' ho0 (Kd.R_lt (KR HO_279000.out))) (Kd.R_lt (KR HO_279001.out))) (Kd.R_lt (KR HO_287000.out))) (Kd.R_lt (KR HO_287001.out))) (Kd.R_lt (KR HO_296000.out))) (Kd.R_lt (KR HO_296001.out))) (below_size KB)) (Kd.R_lower (Kd.R_new' (Kd.R_new' (Kd.R_new' (Kd.R_new' (Kd.R_new' (Kd.R_new' ho1 (Kd.R_lt (KR HO_279000.out))) (Kd.R_lt (KR HO_279001.out))) (Kd.R_lt (KR HO_287000.out))) (Kd.R_lt (KR HO_287001.out))) (Kd.R_lt (KR HO_296000.out))) (Kd.R_lt (KR HO_296001.out))) (below_size KB)) (BL BK261.out hb) (BL BK278.out hb) (BL BK286.out hb) (BL BK295.out hb) (below_step KB hb); clear HO_279000 HO_279001 HO_287000 HO_287001 HO_296000 HO_296001 BK261 BK278 BK286 BK295 HB; obtain ⟨HO_279000, HO_279001, HO_287000, HO_287001, HO_296000, HO_296001, HO315, HO318, BK261, BK278, BK286, BK295, HB⟩ := h_; (try clear hb); (try clear hk); (try clear hi); (try clear ho0); (try clear ho1); obtain ⟨Ao114, co114, eo114⟩ := Kd.R_slice HO315.out; subst eo114; obtain ⟨Ao115, co115, eo115⟩ := Kd.R_slice HO318.out; subst eo115) | ((with_reducible refine gate_callee (f := 19) rfl ?_); refine goesL_ (some 81) rfl rfl Try.func19 (by kernel_rfl) rfl #[.agg #[.slice Ao114 t313.length co114, .slice Ao115 t316.length co115, .int .i64 t319], .int .i64 a1] rfl KL ?_; (with_reducible refine (impl_StoreTrim.calls kj64 _ _ t313 _ _ t316 t319 a1 t320 t323 t326 t327 _ ?side1 ?side2 ?side3 ?side4 A101.out).mono ?_); (case side1 => repeat (first | exact (Kd.R_reads' HO315.out).2.2 | (with_reducible refine Kd.C_alloc ?_ _) | (with_reducible refine Kd.C_drewN ?_ _) | (with_reducible refine Kd.C_drew ?_))); (case side2 => exact (Kd.R_reads' HO315.out).2.1); (case side3 => repeat (first | exact (Kd.R_reads' HO318.out).2.2 | (with_reducible refine Kd.C_alloc ?_ _) | (with_reducible refine Kd.C_drewN ?_ _) | (with_reducible refine Kd.C_drew ?_))); (case side4 => exact (Kd.R_reads' HO318.out).2.1); rintro e w116 ⟨v321, v324, rfl, ho0, ho1, hb⟩; refine ⟨_, rfl, ?_⟩; have h_ := P15 (Kd.R_mono (Kd.R_told (Kd.R_told (Kd.R_old (KR HO_279000.out) hb) (Kd.R_base ho0)) (Kd.R_base ho1)) (fun _ h_ => h_.1)) (Kd.R_mono (Kd.R_told (Kd.R_told (Kd.R_old (KR HO_279001.out) hb) (Kd.R_base ho0)) (Kd.R_base ho1)) (fun _ h_ => h_.1)) (Kd.R_mono (Kd.R_told (Kd.R_told (Kd.R_old (KR HO_287000.out) hb) (Kd.R_base ho0)) (Kd.R_base ho1)) (fun _ h_ => h_.1)) (Kd.R_mono (Kd.R_told (Kd.R_told (Kd.R_old (KR HO_287001.out) hb) (Kd.R_base ho0)) (Kd.R_base ho1)) (fun _ h_ => h_.1)) (Kd.R_mono (Kd.R_told (Kd.R_told (Kd.R_old (KR HO_296000.out) hb) (Kd.R_base ho0)) (Kd.R_base ho1)) (fun _ h_ => h_.1)) (Kd.R_mono (Kd.R_told (Kd.R_told (Kd.R_old (KR HO_296001.out) hb) (Kd.R_base ho0)) (Kd.R_base ho1)) (fun _ h_ => h_.1)) (Kd.R_mono (Kd.R_told (Kd.R_told (Kd.R_old (KR HO315.out) hb) (Kd.R_base ho0)) (Kd.R_base ho1)) (fun _ h_ => h_.1)) (Kd.R_mono (Kd.R_told (Kd.R_told (Kd.R_old (KR HO318.out) hb) (Kd.R_base ho0)) (Kd.R_base ho1)) (fun _ h_ => h_.1)) (Kd.R_lower (Kd.R_new' (Kd.R_new' (Kd.R_new' (Kd.R_new' (Kd.R_new' (Kd.R_new' (Kd.R_new' (Kd.R_new' ho0 (Kd.R_lt (KR HO_279000.out))) (Kd.R_lt (KR HO_279001.out))) (Kd.R_lt (KR HO_287000.out))) (Kd.R_lt (KR HO_287001.out))) (Kd.R_lt (KR HO_296000.out))) (Kd.R_lt (KR HO_296001.out))) (Kd.R_lt (KR HO315.out))) (Kd.R_lt (KR HO318.out))) (below_size KB)) (Kd.R_lower (Kd.R_new' (Kd.R_new' (Kd.R_new' (Kd.R_new' (Kd.R_new' (Kd.R_new' (Kd.R_new' (Kd.R_new' ho1 (Kd.R_lt (KR HO_279000.out))) (Kd.R_lt (KR HO_279001.out))) (Kd.R_lt (KR HO_287000.out))) (Kd.R_lt (KR HO_287001.out))) (Kd.R_lt (KR HO_296000.out))) (Kd.R_lt (KR HO_296001.out))) (Kd.R_lt (KR HO315.out))) (Kd.R_lt (KR HO318.out))) (below_size KB)) (BL BK261.out hb) (BL BK278.out hb) (BL BK286.out hb) (BL BK295.out hb) (below_step KB hb); clear HO_279000 HO_279001 HO_287000 HO_287001 HO_296000 HO_296001 HO315 HO318 BK261 BK278 BK286 BK295 HB; obtain ⟨HO_279000, HO_279001, HO_287000, HO_287001, HO_296000, HO_296001, HO315, HO318, HO322, HO325, BK261, BK278, BK286, BK295, HB⟩ := h_; (try clear hb); (try clear hk); (try clear hi); (try clear ho0); (try clear ho1)) | ((with_reducible refine gate_dst (N := 14) rfl ?_); refine BE 14 #[.slice none 0 0, .slice none 0 0, .int .i64 0] 31 ?_; intro gb328 hg w117 hbox hb; have h_ := P26 (Kd.R_below (KR HO_279000.out) hb) (Kd.R_below (KR HO_279001.out) hb) (Kd.R_below (KR HO_287000.out) hb) (Kd.R_below (KR HO_287001.out) hb) (Kd.R_below (KR HO_296000.out) hb) (Kd.R_below (KR HO_296001.out) hb) (Kd.R_below (KR HO315.out) hb) (Kd.R_below (KR HO318.out) hb) (Kd.R_below (KR HO322.out) hb) (Kd.R_below (KR HO325.out) hb) (BL BK261.out hb) (BL BK278.out hb) (BL BK286.out hb) (BL BK295.out hb) (below_step KB hb) hbox (KG hg : w.heap.size ≤ gb328) (KG hg : w.heap.size ≤ gb328) (NX hg BK261.out) (Ne.symm (NX hg BK261.out)) (NX hg BK278.out) (Ne.symm (NX hg BK278.out)) (NX hg BK286.out) (Ne.symm (NX hg BK286.out)) (NX hg BK295.out) (Ne.symm (NX hg BK295.out)); clear HO_279000 HO_279001 HO_287000 HO_287001 HO_296000 HO_296001 HO315 HO318 HO322 HO325 BK261 BK278 BK286 BK295 HB; obtain ⟨HO_279000, HO_279001, HO_287000, HO_287001, HO_296000, HO_296001, HO315, HO318, HO322, HO325, BK261, BK278, BK286, BK295, HB, BK328, GW328, GE328, NB261_328, NB328_261, NB278_328, NB328_278, NB286_328, NB328_286, NB295_328, NB328_295⟩ := h_; clear hb hbox hg; obtain ⟨Ao118, co118, eo118⟩ := Kd.R_slice HO322.out; subst eo118; have hnb119 := NB328_261.out; have hnc119 := NB261_328.out; have hnb120 := NB328_278.out; have hnc120 := NB278_328.out; have hnb121 := NB328_286.out; have hnc121 := NB286_328.out; have hnb122 := NB328_295.out; have hnc122 := NB295_328.out; obtain ⟨hcz123_0, hcz123_1, hcz123_2, hfz123_0, hfz123_1, hfz123_2⟩ := C3 BK328.out; obtain ⟨Ao124, co124, eo124⟩ := Kd.R_slice HO325.out; subst eo124))
           (try simp only [Act.put, List.setIfInBounds_toArray, List.set_cons_zero, List.set_cons_succ])
           go_cut [92] (fun v92 wc => ∃ (kq : Nat) (x92_101 : Bool), v92 = .bool x92_101 ∧ Aside0 (laws_FnExactStoreTrim.j2 kq t309 x92_101 t310 t311 t293 = some r) ∧ Aside0 (kq ≤ kj64) ∧ Aside0 (Kd.R k35 35 wc w.heap.size (fun k_ => some k_ ≠ ((.slice Ao25 t273.length co25) : Value).ownBlock ∧ some k_ ≠ ((.slice Ao29 t306.length co29) : Value).ownBlock ∧ some k_ ≠ ((.slice Ao33 t307.length co33) : Value).ownBlock ∧ some k_ ≠ ((.slice Ao36 t287.length co36) : Value).ownBlock ∧ some k_ ≠ ((.slice Ao41 t290.length co41) : Value).ownBlock ∧ some k_ ≠ ((.slice Ao118 t320.length co118) : Value).ownBlock ∧ some k_ ≠ ((.slice Ao124 t323.length co124) : Value).ownBlock) (.slice Ao22 t270.length co22) t270) ∧ Aside0 (Kd.R k35 35 wc w.heap.size (fun k_ => some k_ ≠ ((.slice Ao22 t270.length co22) : Value).ownBlock ∧ some k_ ≠ ((.slice Ao29 t306.length co29) : Value).ownBlock ∧ some k_ ≠ ((.slice Ao33 t307.length co33) : Value).ownBlock ∧ some k_ ≠ ((.slice Ao36 t287.length co36) : Value).ownBlock ∧ some k_ ≠ ((.slice Ao41 t290.length co41) : Value).ownBlock ∧ some k_ ≠ ((.slice Ao118 t320.length co118) : Value).ownBlock ∧ some k_ ≠ ((.slice Ao124 t323.length co124) : Value).ownBlock) (.slice Ao25 t273.length co25) t273) ∧ Aside0 (Kd.R k35 35 wc w.heap.size (fun k_ => some k_ ≠ ((.slice Ao22 t270.length co22) : Value).ownBlock ∧ some k_ ≠ ((.slice Ao25 t273.length co25) : Value).ownBlock ∧ some k_ ≠ ((.slice Ao33 t307.length co33) : Value).ownBlock ∧ some k_ ≠ ((.slice Ao36 t287.length co36) : Value).ownBlock ∧ some k_ ≠ ((.slice Ao41 t290.length co41) : Value).ownBlock ∧ some k_ ≠ ((.slice Ao118 t320.length co118) : Value).ownBlock ∧ some k_ ≠ ((.slice Ao124 t323.length co124) : Value).ownBlock) (.slice Ao29 t306.length co29) t306) ∧ Aside0 (Kd.R k35 35 wc w.heap.size (fun k_ => some k_ ≠ ((.slice Ao22 t270.length co22) : Value).ownBlock ∧ some k_ ≠ ((.slice Ao25 t273.length co25) : Value).ownBlock ∧ some k_ ≠ ((.slice Ao29 t306.length co29) : Value).ownBlock ∧ some k_ ≠ ((.slice Ao36 t287.length co36) : Value).ownBlock ∧ some k_ ≠ ((.slice Ao41 t290.length co41) : Value).ownBlock ∧ some k_ ≠ ((.slice Ao118 t320.length co118) : Value).ownBlock ∧ some k_ ≠ ((.slice Ao124 t323.length co124) : Value).ownBlock) (.slice Ao33 t307.length co33) t307) ∧ Aside0 (Kd.R k35 35 wc w.heap.size (fun k_ => some k_ ≠ ((.slice Ao22 t270.length co22) : Value).ownBlock ∧ some k_ ≠ ((.slice Ao25 t273.length co25) : Value).ownBlock ∧ some k_ ≠ ((.slice Ao29 t306.length co29) : Value).ownBlock ∧ some k_ ≠ ((.slice Ao33 t307.length co33) : Value).ownBlock ∧ some k_ ≠ ((.slice Ao41 t290.length co41) : Value).ownBlock ∧ some k_ ≠ ((.slice Ao118 t320.length co118) : Value).ownBlock ∧ some k_ ≠ ((.slice Ao124 t323.length co124) : Value).ownBlock) (.slice Ao36 t287.length co36) t310) ∧ Aside0 (Kd.R k35 35 wc w.heap.size (fun k_ => some k_ ≠ ((.slice Ao22 t270.length co22) : Value).ownBlock ∧ some k_ ≠ ((.slice Ao25 t273.length co25) : Value).ownBlock ∧ some k_ ≠ ((.slice Ao29 t306.length co29) : Value).ownBlock ∧ some k_ ≠ ((.slice Ao33 t307.length co33) : Value).ownBlock ∧ some k_ ≠ ((.slice Ao36 t287.length co36) : Value).ownBlock ∧ some k_ ≠ ((.slice Ao118 t320.length co118) : Value).ownBlock ∧ some k_ ≠ ((.slice Ao124 t323.length co124) : Value).ownBlock) (.slice Ao41 t290.length co41) t311) ∧ Aside0 (Kd.R k35 35 wc w.heap.size (fun k_ => some k_ ≠ ((.slice Ao22 t270.length co22) : Value).ownBlock ∧ some k_ ≠ ((.slice Ao25 t273.length co25) : Value).ownBlock ∧ some k_ ≠ ((.slice Ao29 t306.length co29) : Value).ownBlock ∧ some k_ ≠ ((.slice Ao33 t307.length co33) : Value).ownBlock ∧ some k_ ≠ ((.slice Ao36 t287.length co36) : Value).ownBlock ∧ some k_ ≠ ((.slice Ao41 t290.length co41) : Value).ownBlock ∧ some k_ ≠ ((.slice Ao124 t323.length co124) : Value).ownBlock) (.slice Ao118 t320.length co118) t320) ∧ Aside0 (Kd.R k35 35 wc w.heap.size (fun k_ => some k_ ≠ ((.slice Ao22 t270.length co22) : Value).ownBlock ∧ some k_ ≠ ((.slice Ao25 t273.length co25) : Value).ownBlock ∧ some k_ ≠ ((.slice Ao29 t306.length co29) : Value).ownBlock ∧ some k_ ≠ ((.slice Ao33 t307.length co33) : Value).ownBlock ∧ some k_ ≠ ((.slice Ao36 t287.length co36) : Value).ownBlock ∧ some k_ ≠ ((.slice Ao41 t290.length co41) : Value).ownBlock ∧ some k_ ≠ ((.slice Ao118 t320.length co118) : Value).ownBlock) (.slice Ao124 t323.length co124) t323) ∧ Aside0 (wc.heap[gb261]? = some (.cells #[(.slice A0_0 l0_0.length c0_0), (.slice A0_1 l0_1.length c0_1), .int .i64 a0_2] 24 (0, 0))) ∧ Aside0 (wc.heap[gb278]? = some (.cells #[(.slice Ao22 t270.length co22), (.slice Ao25 t273.length co25), .int .i64 t276] 31 (0, 0))) ∧ Aside0 (wc.heap[gb286]? = some (.cells #[(.slice Ao29 t306.length co29), (.slice Ao33 t307.length co33), .int .i64 t285] 31 (0, 0))) ∧ Aside0 (wc.heap[gb295]? = some (.cells #[(.slice Ao36 t287.length co36), (.slice Ao41 t290.length co41), .int .i64 t293] 31 (0, 0))) ∧ Aside0 (wc.heap[gb328]? = some (.cells #[(.slice Ao118 t320.length co118), (.slice Ao124 t323.length co124), .int .i64 t326] 31 (0, 0))) ∧ Aside0 (Below w.heap.size w wc))
           case first =>
            have H := HC102.out
            clear HC102
            replace H := Option.bind_eq_some_iff.mp H
            obtain ⟨t329, A1250, H⟩ := H
            replace H : (if t329 = true then (laws_FnExactStoreTrim.j2 kj64 t309 (t327 != t277) t310 t311 t293) else (laws_FnExactStoreTrim.j2 kj64 t309 true t310 t311 t293)) = some r := H
            have A125 := Aside0.mk A1250
            clear A1250
            by_cases c126 : t329 = true
            ·subst c126
             have H1 : (laws_FnExactStoreTrim.j2 kj64 t309 (t327 != t277) t310 t311 t293) = some r := by rw [if_pos rfl] at H; exact H
             clear H
             have H := H1
             clear H1
             have H' := Aside0.mk H
             clear H
             have hnb127 := NB328_261.out
             have hnc127 := NB261_328.out
             have hnb128 := NB328_278.out
             have hnc128 := NB278_328.out
             have hnb129 := NB328_286.out
             have hnc129 := NB286_328.out
             have hnb130 := NB328_295.out
             have hnc130 := NB295_328.out
             obtain ⟨hcz131_0, hcz131_1, hcz131_2, hfz131_0, hfz131_1, hfz131_2⟩ := C3 BK328.out
             have hnb132 := NB278_261.out
             have hnc132 := NB261_278.out
             have hnb133 := NB278_286.out
             have hnc133 := NB286_278.out
             have hnb134 := NB278_295.out
             have hnc134 := NB295_278.out
             obtain ⟨hcz135_0, hcz135_1, hcz135_2, hfz135_0, hfz135_1, hfz135_2⟩ := C3 BK278.out
             go_wp2_with (first | ((with_reducible refine gate_callee (f := 15) rfl ?_); refine goesL_ (some 86) rfl rfl Try.func15 (by kernel_rfl) rfl #[.agg #[.slice Ao118 t320.length co118, .slice Ao124 t323.length co124, .int .i64 t326], .agg #[.slice Ao22 t270.length co22, .slice Ao25 t273.length co25, .int .i64 t276]] rfl KL ?_; (with_reducible refine (laws_eqStore.calls kj64 _ _ t320 _ _ t323 t326 _ _ t270 _ _ t273 t276 true _ ?side1 ?side2 ?side3 ?side4 ?side5 ?side6 ?side7 ?side8 A125.out).mono ?_); (case side1 => refine (Kd.R_reads' (e := 35) (base := w.heap.size) (ok := fun k_ => ((((((((some k_ ≠ (.slice Ao124 t323.length co124 : Value).ownBlock ∧ some k_ ≠ (.slice Ao22 t270.length co22 : Value).ownBlock) ∧ some k_ ≠ (.slice Ao25 t273.length co25 : Value).ownBlock) ∧ some k_ ≠ (.slice Ao29 t306.length co29 : Value).ownBlock) ∧ some k_ ≠ (.slice Ao33 t307.length co33 : Value).ownBlock) ∧ some k_ ≠ (.slice Ao36 t287.length co36 : Value).ownBlock) ∧ some k_ ≠ (.slice Ao41 t290.length co41 : Value).ownBlock) ∧ some k_ ≠ (.slice Ao114 t313.length co114 : Value).ownBlock) ∧ some k_ ≠ (.slice Ao115 t316.length co115 : Value).ownBlock)) (n := t320.length) (c := co118) ?_).2.2; exact (RQ (RT HO322.out BK328.out))); (case side2 => exact (Kd.R_reads' HO322.out).2.1); (case side3 => refine (Kd.R_reads' (e := 35) (base := w.heap.size) (ok := fun k_ => ((((((((some k_ ≠ (.slice Ao118 t320.length co118 : Value).ownBlock ∧ some k_ ≠ (.slice Ao22 t270.length co22 : Value).ownBlock) ∧ some k_ ≠ (.slice Ao25 t273.length co25 : Value).ownBlock) ∧ some k_ ≠ (.slice Ao29 t306.length co29 : Value).ownBlock) ∧ some k_ ≠ (.slice Ao33 t307.length co33 : Value).ownBlock) ∧ some k_ ≠ (.slice Ao36 t287.length co36 : Value).ownBlock) ∧ some k_ ≠ (.slice Ao41 t290.length co41 : Value).ownBlock) ∧ some k_ ≠ (.slice Ao114 t313.length co114 : Value).ownBlock) ∧ some k_ ≠ (.slice Ao115 t316.length co115 : Value).ownBlock)) (n := t323.length) (c := co124) ?_).2.2; exact (RQ (RT HO325.out BK328.out))); (case side4 => exact (Kd.R_reads' HO325.out).2.1); (case side5 => refine (Kd.R_reads' (e := 35) (base := w.heap.size) (ok := fun k_ => (((((some k_ ≠ (.slice Ao25 t273.length co25 : Value).ownBlock ∧ (some k_ ≠ (.slice Ao29 t306.length co29 : Value).ownBlock ∧ (some k_ ≠ (.slice Ao33 t307.length co33 : Value).ownBlock ∧ (some k_ ≠ (.slice Ao36 t287.length co36 : Value).ownBlock ∧ some k_ ≠ (.slice Ao41 t290.length co41 : Value).ownBlock)))) ∧ some k_ ≠ (.slice Ao114 t313.length co114 : Value).ownBlock) ∧ some k_ ≠ (.slice Ao115 t316.length co115 : Value).ownBlock) ∧ some k_ ≠ (.slice Ao118 t320.length co118 : Value).ownBlock) ∧ some k_ ≠ (.slice Ao124 t323.length co124 : Value).ownBlock)) (n := t270.length) (c := co22) ?_).2.2; exact (RQ (RT HO_279000.out BK328.out))); (case side6 => exact (Kd.R_reads' HO_279000.out).2.1); (case side7 => refine (Kd.R_reads' (e := 35) (base := w.heap.size) (ok := fun k_ => (((((some k_ ≠ (.slice Ao22 t270.length co22 : Value).ownBlock ∧ (some k_ ≠ (.slice Ao29 t306.length co29 : Value).ownBlock ∧ (some k_ ≠ (.slice Ao33 t307.length co33 : Value).ownBlock ∧ (some k_ ≠ (.slice Ao36 t287.length co36 : Value).ownBlock ∧ some k_ ≠ (.slice Ao41 t290.length co41 : Value).ownBlock)))) ∧ some k_ ≠ (.slice Ao114 t313.length co114 : Value).ownBlock) ∧ some k_ ≠ (.slice Ao115 t316.length co115 : Value).ownBlock) ∧ some k_ ≠ (.slice Ao118 t320.length co118 : Value).ownBlock) ∧ some k_ ≠ (.slice Ao124 t323.length co124 : Value).ownBlock)) (n := t273.length) (c := co25) ?_).2.2; exact (RQ (RT HO_279001.out BK328.out))); (case side8 => exact (Kd.R_reads' HO_279001.out).2.1); rintro e w136 ⟨rfl, hb⟩; refine ⟨_, rfl, ?_⟩; have h_ := P16 (Kd.R_below (RQ (RT HO_279000.out BK328.out)) hb) (Kd.R_below (RQ (RT HO_279001.out BK328.out)) hb) (Kd.R_below (RQ (RT HO_287000.out BK328.out)) hb) (Kd.R_below (RQ (RT HO_287001.out BK328.out)) hb) (Kd.R_below (RQ (RT HO_296000.out BK328.out)) hb) (Kd.R_below (RQ (RT HO_296001.out BK328.out)) hb) (Kd.R_below (RQ (RT HO315.out BK328.out)) hb) (Kd.R_below (RQ (RT HO318.out BK328.out)) hb) (Kd.R_below (RQ (RT HO322.out BK328.out)) hb) (Kd.R_below (RQ (RT HO325.out BK328.out)) hb) (BL BK261.out hb) (BL BK278.out hb) (BL BK286.out hb) (BL BK295.out hb) (blk_below (g := gb328) (o := .cells #[.slice Ao118 t320.length co118, .slice Ao124 t323.length co124, .int .i64 t326] 31 (0, 0)) (by refine SK ?_; refine blk_put (cs := #[.slice Ao118 t320.length co118, .slice Ao124 t323.length co124, .int .i64 0]) ?_ 2 _ rfl; refine SK ?_; refine blk_put (cs := #[.slice Ao118 t320.length co118, .slice none 0 0, .int .i64 0]) ?_ 1 _ rfl; refine SK ?_; refine blk_put (cs := #[.slice none 0 0, .slice none 0 0, .int .i64 0]) ?_ 0 _ rfl; exact SK BK328.out) hb) (below_step KB hb); clear HO_279000 HO_279001 HO_287000 HO_287001 HO_296000 HO_296001 HO315 HO318 HO322 HO325 BK261 BK278 BK286 BK295 BK328 HB; obtain ⟨HO_279000, HO_279001, HO_287000, HO_287001, HO_296000, HO_296001, HO315, HO318, HO322, HO325, BK261, BK278, BK286, BK295, BK328, HB⟩ := h_; (try clear hb); (try clear hk); (try clear hi)))
             go_meet
             case rel => exact ⟨_, ((t327 != t277)), (by first | rfl | (simp; done) | (simp [*]; done)), H', ⟨by have := HJ11.out; have := HJ64.out; first | omega | exact Nat.le_refl _⟩, ⟨by (try simp only [hl287000_64]); (try simp only [hl287001_64]); (with_reducible repeat (first | apply Kd.R_alloc | apply Kd.R_drewN | apply Kd.R_drew)); exact Kd.R_mono HO_279000.out (fun _ hk => ⟨hk.1.1.1.1.1, ⟨hk.1.1.1.1.2.1, ⟨hk.1.1.1.1.2.2.1, ⟨hk.1.1.1.1.2.2.2.1, ⟨hk.1.1.1.1.2.2.2.2, ⟨hk.1.2, hk.2⟩⟩⟩⟩⟩⟩)⟩, ⟨by (try simp only [hl287000_64]); (try simp only [hl287001_64]); (with_reducible repeat (first | apply Kd.R_alloc | apply Kd.R_drewN | apply Kd.R_drew)); exact Kd.R_mono HO_279001.out (fun _ hk => ⟨hk.1.1.1.1.1, ⟨hk.1.1.1.1.2.1, ⟨hk.1.1.1.1.2.2.1, ⟨hk.1.1.1.1.2.2.2.1, ⟨hk.1.1.1.1.2.2.2.2, ⟨hk.1.2, hk.2⟩⟩⟩⟩⟩⟩)⟩, ⟨by (try simp only [hl287000_64]); (try simp only [hl287001_64]); (with_reducible repeat (first | apply Kd.R_alloc | apply Kd.R_drewN | apply Kd.R_drew)); exact Kd.R_mono HO_287000.out (fun _ hk => ⟨hk.1.1.1.1.1, ⟨hk.1.1.1.1.2.1, ⟨hk.1.1.1.1.2.2.1, ⟨hk.1.1.1.1.2.2.2.1, ⟨hk.1.1.1.1.2.2.2.2, ⟨hk.1.2, hk.2⟩⟩⟩⟩⟩⟩)⟩, ⟨by (try simp only [hl287000_64]); (try simp only [hl287001_64]); (with_reducible repeat (first | apply Kd.R_alloc | apply Kd.R_drewN | apply Kd.R_drew)); exact Kd.R_mono HO_287001.out (fun _ hk => ⟨hk.1.1.1.1.1, ⟨hk.1.1.1.1.2.1, ⟨hk.1.1.1.1.2.2.1, ⟨hk.1.1.1.1.2.2.2.1, ⟨hk.1.1.1.1.2.2.2.2, ⟨hk.1.2, hk.2⟩⟩⟩⟩⟩⟩)⟩, ⟨by (try simp only [hl287000_64]); (try simp only [hl287001_64]); (with_reducible repeat (first | apply Kd.R_alloc | apply Kd.R_drewN | apply Kd.R_drew)); exact Kd.R_mono HO_296000.out (fun _ hk => ⟨hk.1.1.1.1.1, ⟨hk.1.1.1.1.2.1, ⟨hk.1.1.1.1.2.2.1, ⟨hk.1.1.1.1.2.2.2.1, ⟨hk.1.1.1.1.2.2.2.2, ⟨hk.1.2, hk.2⟩⟩⟩⟩⟩⟩)⟩, ⟨by (try simp only [hl287000_64]); (try simp only [hl287001_64]); (with_reducible repeat (first | apply Kd.R_alloc | apply Kd.R_drewN | apply Kd.R_drew)); exact Kd.R_mono HO_296001.out (fun _ hk => ⟨hk.1.1.1.1.1, ⟨hk.1.1.1.1.2.1, ⟨hk.1.1.1.1.2.2.1, ⟨hk.1.1.1.1.2.2.2.1, ⟨hk.1.1.1.1.2.2.2.2, ⟨hk.1.2, hk.2⟩⟩⟩⟩⟩⟩)⟩, ⟨by (try simp only [hl287000_64]); (try simp only [hl287001_64]); (with_reducible repeat (first | apply Kd.R_alloc | apply Kd.R_drewN | apply Kd.R_drew)); exact Kd.R_mono HO322.out (fun _ hk => ⟨hk.1.1.1.1.1.1.1.2, ⟨hk.1.1.1.1.1.1.2, ⟨hk.1.1.1.1.1.2, ⟨hk.1.1.1.1.2, ⟨hk.1.1.1.2, ⟨hk.1.1.2, hk.1.1.1.1.1.1.1.1⟩⟩⟩⟩⟩⟩)⟩, ⟨by (try simp only [hl287000_64]); (try simp only [hl287001_64]); (with_reducible repeat (first | apply Kd.R_alloc | apply Kd.R_drewN | apply Kd.R_drew)); exact Kd.R_mono HO325.out (fun _ hk => ⟨hk.1.1.1.1.1.1.1.2, ⟨hk.1.1.1.1.1.1.2, ⟨hk.1.1.1.1.1.2, ⟨hk.1.1.1.1.2, ⟨hk.1.1.1.2, ⟨hk.1.1.2, hk.1.1.1.1.1.1.1.1⟩⟩⟩⟩⟩⟩)⟩, ⟨by (try simp only [hl287000_64]); (try simp only [hl287001_64]); exact SK BK261.out⟩, ⟨by (try simp only [hl287000_64]); (try simp only [hl287001_64]); exact SK BK278.out⟩, ⟨by (try simp only [hl287000_64]); (try simp only [hl287001_64]); exact SK BK286.out⟩, ⟨by (try simp only [hl287000_64]); (try simp only [hl287001_64]); exact SK BK295.out⟩, ⟨by (try simp only [hl287000_64]); (try simp only [hl287001_64]); exact SK BK328.out⟩, ⟨KB⟩⟩
            ·replace c126 := Bool.eq_false_iff.mpr c126
             subst c126
             have H1 : (laws_FnExactStoreTrim.j2 kj64 t309 true t310 t311 t293) = some r := by rw [if_neg (show ¬ (false = true) by decide)] at H; exact H
             clear H
             have H := H1
             clear H1
             have H' := Aside0.mk H
             clear H
             have hnb137 := NB328_261.out
             have hnc137 := NB261_328.out
             have hnb138 := NB328_278.out
             have hnc138 := NB278_328.out
             have hnb139 := NB328_286.out
             have hnc139 := NB286_328.out
             have hnb140 := NB328_295.out
             have hnc140 := NB295_328.out
             obtain ⟨hcz141_0, hcz141_1, hcz141_2, hfz141_0, hfz141_1, hfz141_2⟩ := C3 BK328.out
             have hnb142 := NB278_261.out
             have hnc142 := NB261_278.out
             have hnb143 := NB278_286.out
             have hnc143 := NB286_278.out
             have hnb144 := NB278_295.out
             have hnc144 := NB295_278.out
             obtain ⟨hcz145_0, hcz145_1, hcz145_2, hfz145_0, hfz145_1, hfz145_2⟩ := C3 BK278.out
             go_wp2_with (first | ((with_reducible refine gate_callee (f := 15) rfl ?_); refine goesL_ (some 86) rfl rfl Try.func15 (by kernel_rfl) rfl #[.agg #[.slice Ao118 t320.length co118, .slice Ao124 t323.length co124, .int .i64 t326], .agg #[.slice Ao22 t270.length co22, .slice Ao25 t273.length co25, .int .i64 t276]] rfl KL ?_; (with_reducible refine (laws_eqStore.calls kj64 _ _ t320 _ _ t323 t326 _ _ t270 _ _ t273 t276 false _ ?side1 ?side2 ?side3 ?side4 ?side5 ?side6 ?side7 ?side8 A125.out).mono ?_); (case side1 => refine (Kd.R_reads' (e := 35) (base := w.heap.size) (ok := fun k_ => ((((((((some k_ ≠ (.slice Ao124 t323.length co124 : Value).ownBlock ∧ some k_ ≠ (.slice Ao22 t270.length co22 : Value).ownBlock) ∧ some k_ ≠ (.slice Ao25 t273.length co25 : Value).ownBlock) ∧ some k_ ≠ (.slice Ao29 t306.length co29 : Value).ownBlock) ∧ some k_ ≠ (.slice Ao33 t307.length co33 : Value).ownBlock) ∧ some k_ ≠ (.slice Ao36 t287.length co36 : Value).ownBlock) ∧ some k_ ≠ (.slice Ao41 t290.length co41 : Value).ownBlock) ∧ some k_ ≠ (.slice Ao114 t313.length co114 : Value).ownBlock) ∧ some k_ ≠ (.slice Ao115 t316.length co115 : Value).ownBlock)) (n := t320.length) (c := co118) ?_).2.2; exact (RQ (RT HO322.out BK328.out))); (case side2 => exact (Kd.R_reads' HO322.out).2.1); (case side3 => refine (Kd.R_reads' (e := 35) (base := w.heap.size) (ok := fun k_ => ((((((((some k_ ≠ (.slice Ao118 t320.length co118 : Value).ownBlock ∧ some k_ ≠ (.slice Ao22 t270.length co22 : Value).ownBlock) ∧ some k_ ≠ (.slice Ao25 t273.length co25 : Value).ownBlock) ∧ some k_ ≠ (.slice Ao29 t306.length co29 : Value).ownBlock) ∧ some k_ ≠ (.slice Ao33 t307.length co33 : Value).ownBlock) ∧ some k_ ≠ (.slice Ao36 t287.length co36 : Value).ownBlock) ∧ some k_ ≠ (.slice Ao41 t290.length co41 : Value).ownBlock) ∧ some k_ ≠ (.slice Ao114 t313.length co114 : Value).ownBlock) ∧ some k_ ≠ (.slice Ao115 t316.length co115 : Value).ownBlock)) (n := t323.length) (c := co124) ?_).2.2; exact (RQ (RT HO325.out BK328.out))); (case side4 => exact (Kd.R_reads' HO325.out).2.1); (case side5 => refine (Kd.R_reads' (e := 35) (base := w.heap.size) (ok := fun k_ => (((((some k_ ≠ (.slice Ao25 t273.length co25 : Value).ownBlock ∧ (some k_ ≠ (.slice Ao29 t306.length co29 : Value).ownBlock ∧ (some k_ ≠ (.slice Ao33 t307.length co33 : Value).ownBlock ∧ (some k_ ≠ (.slice Ao36 t287.length co36 : Value).ownBlock ∧ some k_ ≠ (.slice Ao41 t290.length co41 : Value).ownBlock)))) ∧ some k_ ≠ (.slice Ao114 t313.length co114 : Value).ownBlock) ∧ some k_ ≠ (.slice Ao115 t316.length co115 : Value).ownBlock) ∧ some k_ ≠ (.slice Ao118 t320.length co118 : Value).ownBlock) ∧ some k_ ≠ (.slice Ao124 t323.length co124 : Value).ownBlock)) (n := t270.length) (c := co22) ?_).2.2; exact (RQ (RT HO_279000.out BK328.out))); (case side6 => exact (Kd.R_reads' HO_279000.out).2.1); (case side7 => refine (Kd.R_reads' (e := 35) (base := w.heap.size) (ok := fun k_ => (((((some k_ ≠ (.slice Ao22 t270.length co22 : Value).ownBlock ∧ (some k_ ≠ (.slice Ao29 t306.length co29 : Value).ownBlock ∧ (some k_ ≠ (.slice Ao33 t307.length co33 : Value).ownBlock ∧ (some k_ ≠ (.slice Ao36 t287.length co36 : Value).ownBlock ∧ some k_ ≠ (.slice Ao41 t290.length co41 : Value).ownBlock)))) ∧ some k_ ≠ (.slice Ao114 t313.length co114 : Value).ownBlock) ∧ some k_ ≠ (.slice Ao115 t316.length co115 : Value).ownBlock) ∧ some k_ ≠ (.slice Ao118 t320.length co118 : Value).ownBlock) ∧ some k_ ≠ (.slice Ao124 t323.length co124 : Value).ownBlock)) (n := t273.length) (c := co25) ?_).2.2; exact (RQ (RT HO_279001.out BK328.out))); (case side8 => exact (Kd.R_reads' HO_279001.out).2.1); rintro e w146 ⟨rfl, hb⟩; refine ⟨_, rfl, ?_⟩; have h_ := P16 (Kd.R_below (RQ (RT HO_279000.out BK328.out)) hb) (Kd.R_below (RQ (RT HO_279001.out BK328.out)) hb) (Kd.R_below (RQ (RT HO_287000.out BK328.out)) hb) (Kd.R_below (RQ (RT HO_287001.out BK328.out)) hb) (Kd.R_below (RQ (RT HO_296000.out BK328.out)) hb) (Kd.R_below (RQ (RT HO_296001.out BK328.out)) hb) (Kd.R_below (RQ (RT HO315.out BK328.out)) hb) (Kd.R_below (RQ (RT HO318.out BK328.out)) hb) (Kd.R_below (RQ (RT HO322.out BK328.out)) hb) (Kd.R_below (RQ (RT HO325.out BK328.out)) hb) (BL BK261.out hb) (BL BK278.out hb) (BL BK286.out hb) (BL BK295.out hb) (blk_below (g := gb328) (o := .cells #[.slice Ao118 t320.length co118, .slice Ao124 t323.length co124, .int .i64 t326] 31 (0, 0)) (by refine SK ?_; refine blk_put (cs := #[.slice Ao118 t320.length co118, .slice Ao124 t323.length co124, .int .i64 0]) ?_ 2 _ rfl; refine SK ?_; refine blk_put (cs := #[.slice Ao118 t320.length co118, .slice none 0 0, .int .i64 0]) ?_ 1 _ rfl; refine SK ?_; refine blk_put (cs := #[.slice none 0 0, .slice none 0 0, .int .i64 0]) ?_ 0 _ rfl; exact SK BK328.out) hb) (below_step KB hb); clear HO_279000 HO_279001 HO_287000 HO_287001 HO_296000 HO_296001 HO315 HO318 HO322 HO325 BK261 BK278 BK286 BK295 BK328 HB; obtain ⟨HO_279000, HO_279001, HO_287000, HO_287001, HO_296000, HO_296001, HO315, HO318, HO322, HO325, BK261, BK278, BK286, BK295, BK328, HB⟩ := h_; (try clear hb); (try clear hk); (try clear hi)))
             go_meet
             case rel => exact ⟨_, (true), (by first | rfl | (simp; done) | (simp [*]; done)), H', ⟨by have := HJ11.out; have := HJ64.out; first | omega | exact Nat.le_refl _⟩, ⟨by (try simp only [hl287000_64]); (try simp only [hl287001_64]); (with_reducible repeat (first | apply Kd.R_alloc | apply Kd.R_drewN | apply Kd.R_drew)); exact Kd.R_mono HO_279000.out (fun _ hk => ⟨hk.1.1.1.1.1, ⟨hk.1.1.1.1.2.1, ⟨hk.1.1.1.1.2.2.1, ⟨hk.1.1.1.1.2.2.2.1, ⟨hk.1.1.1.1.2.2.2.2, ⟨hk.1.2, hk.2⟩⟩⟩⟩⟩⟩)⟩, ⟨by (try simp only [hl287000_64]); (try simp only [hl287001_64]); (with_reducible repeat (first | apply Kd.R_alloc | apply Kd.R_drewN | apply Kd.R_drew)); exact Kd.R_mono HO_279001.out (fun _ hk => ⟨hk.1.1.1.1.1, ⟨hk.1.1.1.1.2.1, ⟨hk.1.1.1.1.2.2.1, ⟨hk.1.1.1.1.2.2.2.1, ⟨hk.1.1.1.1.2.2.2.2, ⟨hk.1.2, hk.2⟩⟩⟩⟩⟩⟩)⟩, ⟨by (try simp only [hl287000_64]); (try simp only [hl287001_64]); (with_reducible repeat (first | apply Kd.R_alloc | apply Kd.R_drewN | apply Kd.R_drew)); exact Kd.R_mono HO_287000.out (fun _ hk => ⟨hk.1.1.1.1.1, ⟨hk.1.1.1.1.2.1, ⟨hk.1.1.1.1.2.2.1, ⟨hk.1.1.1.1.2.2.2.1, ⟨hk.1.1.1.1.2.2.2.2, ⟨hk.1.2, hk.2⟩⟩⟩⟩⟩⟩)⟩, ⟨by (try simp only [hl287000_64]); (try simp only [hl287001_64]); (with_reducible repeat (first | apply Kd.R_alloc | apply Kd.R_drewN | apply Kd.R_drew)); exact Kd.R_mono HO_287001.out (fun _ hk => ⟨hk.1.1.1.1.1, ⟨hk.1.1.1.1.2.1, ⟨hk.1.1.1.1.2.2.1, ⟨hk.1.1.1.1.2.2.2.1, ⟨hk.1.1.1.1.2.2.2.2, ⟨hk.1.2, hk.2⟩⟩⟩⟩⟩⟩)⟩, ⟨by (try simp only [hl287000_64]); (try simp only [hl287001_64]); (with_reducible repeat (first | apply Kd.R_alloc | apply Kd.R_drewN | apply Kd.R_drew)); exact Kd.R_mono HO_296000.out (fun _ hk => ⟨hk.1.1.1.1.1, ⟨hk.1.1.1.1.2.1, ⟨hk.1.1.1.1.2.2.1, ⟨hk.1.1.1.1.2.2.2.1, ⟨hk.1.1.1.1.2.2.2.2, ⟨hk.1.2, hk.2⟩⟩⟩⟩⟩⟩)⟩, ⟨by (try simp only [hl287000_64]); (try simp only [hl287001_64]); (with_reducible repeat (first | apply Kd.R_alloc | apply Kd.R_drewN | apply Kd.R_drew)); exact Kd.R_mono HO_296001.out (fun _ hk => ⟨hk.1.1.1.1.1, ⟨hk.1.1.1.1.2.1, ⟨hk.1.1.1.1.2.2.1, ⟨hk.1.1.1.1.2.2.2.1, ⟨hk.1.1.1.1.2.2.2.2, ⟨hk.1.2, hk.2⟩⟩⟩⟩⟩⟩)⟩, ⟨by (try simp only [hl287000_64]); (try simp only [hl287001_64]); (with_reducible repeat (first | apply Kd.R_alloc | apply Kd.R_drewN | apply Kd.R_drew)); exact Kd.R_mono HO322.out (fun _ hk => ⟨hk.1.1.1.1.1.1.1.2, ⟨hk.1.1.1.1.1.1.2, ⟨hk.1.1.1.1.1.2, ⟨hk.1.1.1.1.2, ⟨hk.1.1.1.2, ⟨hk.1.1.2, hk.1.1.1.1.1.1.1.1⟩⟩⟩⟩⟩⟩)⟩, ⟨by (try simp only [hl287000_64]); (try simp only [hl287001_64]); (with_reducible repeat (first | apply Kd.R_alloc | apply Kd.R_drewN | apply Kd.R_drew)); exact Kd.R_mono HO325.out (fun _ hk => ⟨hk.1.1.1.1.1.1.1.2, ⟨hk.1.1.1.1.1.1.2, ⟨hk.1.1.1.1.1.2, ⟨hk.1.1.1.1.2, ⟨hk.1.1.1.2, ⟨hk.1.1.2, hk.1.1.1.1.1.1.1.1⟩⟩⟩⟩⟩⟩)⟩, ⟨by (try simp only [hl287000_64]); (try simp only [hl287001_64]); exact SK BK261.out⟩, ⟨by (try simp only [hl287000_64]); (try simp only [hl287001_64]); exact SK BK278.out⟩, ⟨by (try simp only [hl287000_64]); (try simp only [hl287001_64]); exact SK BK286.out⟩, ⟨by (try simp only [hl287000_64]); (try simp only [hl287001_64]); exact SK BK295.out⟩, ⟨by (try simp only [hl287000_64]); (try simp only [hl287001_64]); exact SK BK328.out⟩, ⟨KB⟩⟩
           case rest =>
            clear HC102
            try clear c1
            try clear c2
            try clear p2
            try clear c3
            try clear c4
            try clear c4b0
            try clear c5
            try clear c6
            try clear c7
            try clear c8
            try clear c9
            try clear c10
            try clear c11
            try clear c12
            try clear c13
            try clear c14
            try clear c15
            try clear c16
            try clear c17
            try clear c18
            try clear c19
            try clear c23
            try clear c30
            try clear c31
            try clear c37
            try clear c38
            try clear c39
            try clear c43
            try clear c44
            try clear c45
            try clear c46
            try clear c48
            try clear c49
            try clear c52
            try clear c53
            try clear c54
            try clear c56
            try clear c57
            try clear c60
            try clear c63
            try clear c71
            try clear c72
            try clear c73
            try clear c76
            try clear c76b0
            try clear c78
            try clear c79
            try clear c80
            try clear c81
            try clear c83
            try clear c84
            try clear c87
            try clear c88
            try clear c89
            try clear c91
            try clear c92
            try clear c95
            try clear c98
            try clear c98b0
            try clear c99
            try clear c99b0
            try clear c99b1
            try clear c103
            try clear c104
            try clear c105
            try clear c110
            try clear c111
            try clear c119
            try clear c120
            try clear c121
            try clear c122
            try clear c126
            try clear c127
            try clear c128
            try clear c129
            try clear c130
            try clear c132
            try clear c133
            try clear c134
            try clear c137
            try clear c138
            try clear c139
            try clear c140
            try clear c142
            try clear c143
            try clear c144
            try clear hcz106_0
            try clear hcz106_1
            try clear hcz106_2
            try clear hcz108_0
            try clear hcz108_1
            try clear hcz108_2
            try clear hcz112_0
            try clear hcz112_1
            try clear hcz112_2
            try clear hcz123_0
            try clear hcz123_1
            try clear hcz123_2
            try clear hcz131_0
            try clear hcz131_1
            try clear hcz131_2
            try clear hcz135_0
            try clear hcz135_1
            try clear hcz135_2
            try clear hcz141_0
            try clear hcz141_1
            try clear hcz141_2
            try clear hcz145_0
            try clear hcz145_1
            try clear hcz145_2
            try clear hcz14_0
            try clear hcz14_1
            try clear hcz14_2
            try clear hcz16_0
            try clear hcz16_1
            try clear hcz16_2
            try clear hcz24_0
            try clear hcz24_1
            try clear hcz24_2
            try clear hcz26_0
            try clear hcz26_1
            try clear hcz26_2
            try clear hcz32_0
            try clear hcz32_1
            try clear hcz32_2
            try clear hcz40_0
            try clear hcz40_1
            try clear hcz40_2
            try clear hcz47_0
            try clear hcz47_1
            try clear hcz47_2
            try clear hcz50_0
            try clear hcz50_1
            try clear hcz50_2
            try clear hcz55_0
            try clear hcz55_1
            try clear hcz55_2
            try clear hcz58_0
            try clear hcz58_1
            try clear hcz58_2
            try clear hcz6_0
            try clear hcz6_1
            try clear hcz6_2
            try clear hcz74_0
            try clear hcz74_1
            try clear hcz74_2
            try clear hcz82_0
            try clear hcz82_1
            try clear hcz82_2
            try clear hcz85_0
            try clear hcz85_1
            try clear hcz85_2
            try clear hcz90_0
            try clear hcz90_1
            try clear hcz90_2
            try clear hcz93_0
            try clear hcz93_1
            try clear hcz93_2
            try clear hfz106_0
            try clear hfz106_1
            try clear hfz106_2
            try clear hfz108_0
            try clear hfz108_1
            try clear hfz108_2
            try clear hfz112_0
            try clear hfz112_1
            try clear hfz112_2
            try clear hfz123_0
            try clear hfz123_1
            try clear hfz123_2
            try clear hfz131_0
            try clear hfz131_1
            try clear hfz131_2
            try clear hfz135_0
            try clear hfz135_1
            try clear hfz135_2
            try clear hfz141_0
            try clear hfz141_1
            try clear hfz141_2
            try clear hfz145_0
            try clear hfz145_1
            try clear hfz145_2
            try clear hfz14_0
            try clear hfz14_1
            try clear hfz14_2
            try clear hfz16_0
            try clear hfz16_1
            try clear hfz16_2
            try clear hfz24_0
            try clear hfz24_1
            try clear hfz24_2
            try clear hfz26_0
            try clear hfz26_1
            try clear hfz26_2
            try clear hfz32_0
            try clear hfz32_1
            try clear hfz32_2
            try clear hfz40_0
            try clear hfz40_1
            try clear hfz40_2
            try clear hfz47_0
            try clear hfz47_1
            try clear hfz47_2
            try clear hfz50_0
            try clear hfz50_1
            try clear hfz50_2
            try clear hfz55_0
            try clear hfz55_1
            try clear hfz55_2
            try clear hfz58_0
            try clear hfz58_1
            try clear hfz58_2
            try clear hfz6_0
            try clear hfz6_1
            try clear hfz6_2
            try clear hfz74_0
            try clear hfz74_1
            try clear hfz74_2
            try clear hfz82_0
            try clear hfz82_1
            try clear hfz82_2
            try clear hfz85_0
            try clear hfz85_1
            try clear hfz85_2
            try clear hfz90_0
            try clear hfz90_1
            try clear hfz90_2
            try clear hfz93_0
            try clear hfz93_1
            try clear hfz93_2
            try clear p2
            obtain ⟨kq, x92_101, rfl, HA, HJ101, HO_279000, HO_279001, HO_287000, HO_287001, HO_296000, HO_296001, HO_329000, HO_329001, BK261, BK278, BK286, BK295, BK328, HB⟩ := hcut
            have hl296000_101 := (Kd.R_reads' HO_296000.out).1
            rw [hl296000_101] at HO_296000
            (try simp only [hl296000_101])
            (try simp only [hl296000_101] at BK261)
            (try simp only [hl296000_101] at BK278)
            (try simp only [hl296000_101] at BK286)
            (try simp only [hl296000_101] at BK295)
            (try simp only [hl296000_101] at BK328)
            (try simp only [hl296000_101] at HO_279000)
            (try simp only [hl296000_101] at HO_279001)
            (try simp only [hl296000_101] at HO_287000)
            (try simp only [hl296000_101] at HO_287001)
            (try simp only [hl296000_101] at HO_296001)
            (try simp only [hl296000_101] at HO_329000)
            (try simp only [hl296000_101] at HO_329001)
            have hl296001_101 := (Kd.R_reads' HO_296001.out).1
            rw [hl296001_101] at HO_296001
            (try simp only [hl296001_101])
            (try simp only [hl296001_101] at BK261)
            (try simp only [hl296001_101] at BK278)
            (try simp only [hl296001_101] at BK286)
            (try simp only [hl296001_101] at BK295)
            (try simp only [hl296001_101] at BK328)
            (try simp only [hl296001_101] at HO_279000)
            (try simp only [hl296001_101] at HO_279001)
            (try simp only [hl296001_101] at HO_287000)
            (try simp only [hl296001_101] at HO_287001)
            (try simp only [hl296001_101] at HO_296000)
            (try simp only [hl296001_101] at HO_329000)
            (try simp only [hl296001_101] at HO_329001)
            cases kq with
            | zero => exact absurd HA.out (by simp [laws_FnExactStoreTrim.j2])
            | succ kj101 =>
             have H := HA.out
             clear HA
             simp only [laws_FnExactStoreTrim.j2] at H
             by_cases c147 : x92_101 = true
             ·subst c147
              have H1 : (none) = some r := by rw [if_pos rfl] at H; exact H
              clear H
              have H := H1
              clear H1
              exact absurd H (by simp)
             ·replace c147 := Bool.eq_false_iff.mpr c147
              subst c147
              have H1 : ((laws_heldStore.f kj101 t310 t311 t293 1).bind fun t330 => (if t330 < 0 then (none) else (if t330 = t309 then (some true) else (none)))) = some r := by rw [if_neg (show ¬ (false = true) by decide)] at H; exact H
              clear H
              have H := H1
              clear H1
              replace H := Option.bind_eq_some_iff.mp H
              obtain ⟨t330, A1480, H⟩ := H
              replace H : (if t330 < 0 then (none) else (if t330 = t309 then (some true) else (none))) = some r := H
              have A148 := Aside0.mk A1480
              clear A1480
              by_cases c149 : t330 < 0
              ·rw [if_pos c149] at H
               exact absurd H (by simp)
              ·rw [if_neg c149] at H
               have c149b0 : decide (t330 < 0) = false := decide_eq_false c149
               clear c149
               by_cases c150 : t330 = t309
               ·rw [if_pos c150] at H
                have c150b0 : (t330 == t309) = true := beq_iff_eq.mpr c150
                have c150b1 : (t330 != t309) = false := bne_eq_false_iff_eq.mpr c150
                clear c150
                obtain rfl := Option.some.inj H
                have hnb151 := NB295_261.out
                have hnc151 := NB261_295.out
                have hnb152 := NB295_278.out
                have hnc152 := NB278_295.out
                have hnb153 := NB295_286.out
                have hnc153 := NB286_295.out
                have hnb154 := NB295_328.out
                have hnc154 := NB328_295.out
                obtain ⟨hcz155_0, hcz155_1, hcz155_2, hfz155_0, hfz155_1, hfz155_2⟩ := C3 BK295.out
                go_wp2_with (first | ((with_reducible refine gate_callee (f := 17) rfl ?_); refine goesL_ (some 95) rfl rfl Try.func17 (by kernel_rfl) rfl #[.agg #[.slice Ao36 t310.length co36, .slice Ao41 t311.length co41, .int .i64 t293], .int .i64 1] rfl KL ?_; (with_reducible refine (laws_heldStore.calls kj101 _ _ t310 _ _ t311 t293 1 t330 _ ?side1 ?side2 ?side3 ?side4 A148.out).mono ?_); (case side1 => repeat (first | exact (Kd.R_reads' HO_296000.out).2.2 | (with_reducible refine Kd.C_alloc ?_ _) | (with_reducible refine Kd.C_drewN ?_ _) | (with_reducible refine Kd.C_drew ?_))); (case side2 => exact (Kd.R_reads' HO_296000.out).2.1); (case side3 => repeat (first | exact (Kd.R_reads' HO_296001.out).2.2 | (with_reducible refine Kd.C_alloc ?_ _) | (with_reducible refine Kd.C_drewN ?_ _) | (with_reducible refine Kd.C_drew ?_))); (case side4 => exact (Kd.R_reads' HO_296001.out).2.1); rintro e w156 ⟨rfl, hb⟩; refine ⟨_, rfl, ?_⟩; have h_ := P14 (Kd.R_below (KR HO_279000.out) hb) (Kd.R_below (KR HO_279001.out) hb) (Kd.R_below (KR HO_287000.out) hb) (Kd.R_below (KR HO_287001.out) hb) (Kd.R_below (KR HO_296000.out) hb) (Kd.R_below (KR HO_296001.out) hb) (Kd.R_below (KR HO_329000.out) hb) (Kd.R_below (KR HO_329001.out) hb) (BL BK261.out hb) (BL BK278.out hb) (BL BK286.out hb) (BL BK295.out hb) (BL BK328.out hb) (below_step KB hb); clear HO_279000 HO_279001 HO_287000 HO_287001 HO_296000 HO_296001 HO_329000 HO_329001 BK261 BK278 BK286 BK295 BK328 HB; obtain ⟨HO_279000, HO_279001, HO_287000, HO_287001, HO_296000, HO_296001, HO_329000, HO_329001, BK261, BK278, BK286, BK295, BK328, HB⟩ := h_; (try clear hb); (try clear hk); (try clear hi)))
                go_ret
                exact ⟨KE, KB⟩
               ·rw [if_neg c150] at H
                exact absurd H (by simp)
          ·rw [if_neg c99] at H
           exact absurd H (by simp)
     ·replace c63 := Bool.eq_false_iff.mpr c63
      subst c63
      have H1 : (none) = some r := by rw [if_neg (show ¬ (false = true) by decide)] at H; exact H
      clear H
      have H := H1
      clear H1
      exact absurd H (by simp)

end Go.Proofs.Ytnoghojlpicecaa.PFnExactStoreTrim
