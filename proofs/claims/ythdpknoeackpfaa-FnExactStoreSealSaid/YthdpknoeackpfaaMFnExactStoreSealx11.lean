-- What each Go function that this law reaches comes to: written by a program out of the translation.
import Derived.Test.YthdpknoeackpfaaMFnExactStoreSealx0
import Derived.Test.YthdpknoeackpfaaMFnExactStoreSealx1
import Derived.Test.YthdpknoeackpfaaMFnExactStoreSealx2
import Derived.Test.YthdpknoeackpfaaMFnExactStoreSealx3
import Derived.Test.YthdpknoeackpfaaMFnExactStoreSealx7
import Derived.Test.YthdpknoeackpfaaMFnExactStoreSealx10
namespace Go.Proofs.Ythdpknoeackpfaa.PFnExactStoreSeal
open Go.RowKit Go.Proofs.YthdpknoeackpfaaW.PrintWords Go.Proofs.YthdpknoeackpfaaW.PrintLast Go.Proofs.YthdpknoeackpfaaW.PrintMore
attribute [local go_sem] max2_int min2_int max_two min_two max_three min_three max_four min_four   -- for this text's walks alone
set_option linter.unusedVariables false
set_option linter.unusedSimpArgs false

/-! ### laws_FnExactStoreSeal: function 11 -/
mutual
def laws_FnExactStoreSeal.j0 : Nat → Int → Bool → Bool → Bool → List (S43) → List (S43) → Int → List (S34) → List (S34) → Int → List (S34) → List (S34) → Int → List (S34) → List (S34) → Int → Option (Bool)
 | 0, _, _, _, _, _, _, _, _, _, _, _, _, _, _, _, _ => none
 | k + 1, x1, x7, x10, x44, x426000, x426001, x426002, x443000, x443001, x443002, x451000, x451001, x451002, x460000, x460001, x460002 => if x44 = true then (none) else ((laws_toStore.f k x426000 x426001 x426002).bind fun bt461 => ((laws_eqStore.f k x451000 x451001 x451002 bt461.1 bt461.2.1 bt461.2.2).bind fun t468 => (if t468 = true then ((laws_markStore.f k x451000 x451001 x451002 1).bind fun bt469 => (if bt469.1 < 0 then (laws_FnExactStoreSeal.j1 k x1 x7 true x426000 x426001 x426002 x443000 x443001 x443002 x460000 x460001 x460002) else ((laws_eqStore.f k x460000 x460001 x460002 x443000 x443001 x443002).bind fun t472 => (if t472 = true then (laws_FnExactStoreSeal.j1 k x1 x7 (x10 != x7) x426000 x426001 x426002 x443000 x443001 x443002 x460000 x460001 x460002) else (laws_FnExactStoreSeal.j1 k x1 x7 true x426000 x426001 x426002 x443000 x443001 x443002 x460000 x460001 x460002))))) else (none))))
def laws_FnExactStoreSeal.j1 : Nat → Int → Bool → Bool → List (S43) → List (S43) → Int → List (S34) → List (S34) → Int → List (S34) → List (S34) → Int → Option (Bool)
 | 0, _, _, _, _, _, _, _, _, _, _, _, _ => none
 | k + 1, x1, x7, x65, x426000, x426001, x426002, x443000, x443001, x443002, x460000, x460001, x460002 => if x65 = true then (none) else ((laws_markStore.f k x460000 x460001 x460002 1).bind fun bt473 => ((laws_heldStore.f k bt473.2.1 bt473.2.2 x460002 1).bind fun t476 => (if t476 < 0 then (none) else (if t476 = bt473.1 then ((laws_toStore.f k x426000 x426001 x426002).bind fun bt477 => ((impl_StoreSeal.f k bt477.1 bt477.2.1 bt477.2.2 x1).bind fun bt484 => ((laws_eqStore.f k bt484.1 bt484.2.1 bt484.2.2.1 x443000 x443001 x443002).bind fun t493 => (if t493 = true then (laws_FnExactStoreSeal.j2 k bt473.1 (bt484.2.2.2 != x7) bt473.2.1 bt473.2.2 x460002) else (laws_FnExactStoreSeal.j2 k bt473.1 true bt473.2.1 bt473.2.2 x460002))))) else (none)))))
def laws_FnExactStoreSeal.j2 : Nat → Int → Bool → List (S34) → List (S34) → Int → Option (Bool)
 | 0, _, _, _, _, _ => none
 | k + 1, x12, x92, x460000, x460001, x460002 => if x92 = true then (none) else ((laws_heldStore.f k x460000 x460001 x460002 1).bind fun t494 => (if t494 < 0 then (none) else (if t494 = x12 then (some true) else (none))))
end
def laws_FnExactStoreSeal.f (k : Nat) (l0_0 : List (S43)) (l0_1 : List (S43)) (a0_2 : Int) (a1 : Int) : Option (Bool) := (laws_szStore.f k l0_0 l0_1 a0_2 1048576).bind fun t426 => (if t426 < 0 then (some true) else ((laws_toStore.f k l0_0 l0_1 a0_2).bind fun bt427 => ((spec_StoreSeal.f k bt427.1 bt427.2.1 bt427.2.2 a1).bind fun bt434 => ((laws_toStore.f k l0_0 l0_1 a0_2).bind fun bt443 => ((impl_StoreSeal.f k bt443.1 bt443.2.1 bt443.2.2 a1).bind fun bt451 => ((laws_eqStore.f k bt451.1 bt451.2.1 bt451.2.2.1 bt434.1 bt434.2.1 bt434.2.2.1).bind fun t460 => (if t460 = true then (laws_FnExactStoreSeal.j0 k a1 bt434.2.2.2 bt451.2.2.2 (bt451.2.2.2 != bt434.2.2.2) l0_0 l0_1 a0_2 bt434.1 bt434.2.1 bt434.2.2.1 bt443.1 bt443.2.1 bt443.2.2 bt451.1 bt451.2.1 bt451.2.2.1) else (laws_FnExactStoreSeal.j0 k a1 bt434.2.2.2 bt451.2.2.2 true l0_0 l0_1 a0_2 bt434.1 bt434.2.1 bt434.2.2.1 bt443.1 bt443.2.1 bt443.2.2 bt451.1 bt451.2.1 bt451.2.2.1))))))))
theorem laws_FnExactStoreSeal.mono_l : ∀ k, (∀ y0 y1 y2 y3 y4 y5 y6 y7 y8 y9 y10 y11 y12 y13 y14 y15, LeO (laws_FnExactStoreSeal.j0 k y0 y1 y2 y3 y4 y5 y6 y7 y8 y9 y10 y11 y12 y13 y14 y15) (laws_FnExactStoreSeal.j0 (k + 1) y0 y1 y2 y3 y4 y5 y6 y7 y8 y9 y10 y11 y12 y13 y14 y15)) ∧ (∀ y0 y1 y2 y3 y4 y5 y6 y7 y8 y9 y10 y11, LeO (laws_FnExactStoreSeal.j1 k y0 y1 y2 y3 y4 y5 y6 y7 y8 y9 y10 y11) (laws_FnExactStoreSeal.j1 (k + 1) y0 y1 y2 y3 y4 y5 y6 y7 y8 y9 y10 y11)) ∧ (∀ y0 y1 y2 y3 y4, LeO (laws_FnExactStoreSeal.j2 k y0 y1 y2 y3 y4) (laws_FnExactStoreSeal.j2 (k + 1) y0 y1 y2 y3 y4))
 | 0 => ⟨fun _ _ _ _ _ _ _ _ _ _ _ _ _ _ _ _ r h => by simp [laws_FnExactStoreSeal.j0] at h, fun _ _ _ _ _ _ _ _ _ _ _ _ r h => by simp [laws_FnExactStoreSeal.j1] at h, fun _ _ _ _ _ r h => by simp [laws_FnExactStoreSeal.j2] at h⟩
 | k + 1 => by
  obtain ⟨ih0, ih1, ih2⟩ := laws_FnExactStoreSeal.mono_l k
  refine ⟨?_, ?_, ?_⟩
  ·intro y0 y1 y2 y3 y4 y5 y6 y7 y8 y9 y10 y11 y12 y13 y14 y15
   unfold laws_FnExactStoreSeal.j0
   repeat' first
   | (with_reducible exact ih0 _ _ _ _ _ _ _ _ _ _ _ _ _ _ _ _)
   | (with_reducible exact ih1 _ _ _ _ _ _ _ _ _ _ _ _)
   | (with_reducible exact ih2 _ _ _ _ _)
   | (with_reducible exact impl_StoreSeal.mono _ _ _ _ _)
   | (with_reducible exact laws_eqStore.mono _ _ _ _ _ _ _)
   | (with_reducible exact laws_heldStore.mono _ _ _ _ _)
   | (with_reducible exact laws_markStore.mono _ _ _ _ _)
   | (with_reducible exact laws_szStore.mono _ _ _ _ _)
   | (with_reducible exact laws_toStore.mono _ _ _ _)
   | (with_reducible exact spec_StoreSeal.mono _ _ _ _ _)
   | (with_reducible exact LeO.refl _)
   | (with_reducible exact LeO.none _)
   | (with_reducible refine LeO.ite ?_ ?_)
   | (with_reducible refine LeO.bind ?_ (fun _ => ?_))
   | exact ih0 _ _ _ _ _ _ _ _ _ _ _ _ _ _ _ _
   | exact ih1 _ _ _ _ _ _ _ _ _ _ _ _
   | exact ih2 _ _ _ _ _
   | exact impl_StoreSeal.mono _ _ _ _ _
   | exact laws_eqStore.mono _ _ _ _ _ _ _
   | exact laws_heldStore.mono _ _ _ _ _
   | exact laws_markStore.mono _ _ _ _ _
   | exact laws_szStore.mono _ _ _ _ _
   | exact laws_toStore.mono _ _ _ _
   | exact spec_StoreSeal.mono _ _ _ _ _
   | exact LeO.none _
   | refine LeO.ite ?_ ?_
   | refine LeO.bind ?_ (fun _ => ?_)
  ·intro y0 y1 y2 y3 y4 y5 y6 y7 y8 y9 y10 y11
   unfold laws_FnExactStoreSeal.j1
   repeat' first
   | (with_reducible exact ih0 _ _ _ _ _ _ _ _ _ _ _ _ _ _ _ _)
   | (with_reducible exact ih1 _ _ _ _ _ _ _ _ _ _ _ _)
   | (with_reducible exact ih2 _ _ _ _ _)
   | (with_reducible exact impl_StoreSeal.mono _ _ _ _ _)
   | (with_reducible exact laws_eqStore.mono _ _ _ _ _ _ _)
   | (with_reducible exact laws_heldStore.mono _ _ _ _ _)
   | (with_reducible exact laws_markStore.mono _ _ _ _ _)
   | (with_reducible exact laws_szStore.mono _ _ _ _ _)
   | (with_reducible exact laws_toStore.mono _ _ _ _)
   | (with_reducible exact spec_StoreSeal.mono _ _ _ _ _)
   | (with_reducible exact LeO.refl _)
   | (with_reducible exact LeO.none _)
   | (with_reducible refine LeO.ite ?_ ?_)
   | (with_reducible refine LeO.bind ?_ (fun _ => ?_))
   | exact ih0 _ _ _ _ _ _ _ _ _ _ _ _ _ _ _ _
   | exact ih1 _ _ _ _ _ _ _ _ _ _ _ _
   | exact ih2 _ _ _ _ _
   | exact impl_StoreSeal.mono _ _ _ _ _
   | exact laws_eqStore.mono _ _ _ _ _ _ _
   | exact laws_heldStore.mono _ _ _ _ _
   | exact laws_markStore.mono _ _ _ _ _
   | exact laws_szStore.mono _ _ _ _ _
   | exact laws_toStore.mono _ _ _ _
   | exact spec_StoreSeal.mono _ _ _ _ _
   | exact LeO.none _
   | refine LeO.ite ?_ ?_
   | refine LeO.bind ?_ (fun _ => ?_)
  ·intro y0 y1 y2 y3 y4
   unfold laws_FnExactStoreSeal.j2
   repeat' first
   | (with_reducible exact ih0 _ _ _ _ _ _ _ _ _ _ _ _ _ _ _ _)
   | (with_reducible exact ih1 _ _ _ _ _ _ _ _ _ _ _ _)
   | (with_reducible exact ih2 _ _ _ _ _)
   | (with_reducible exact impl_StoreSeal.mono _ _ _ _ _)
   | (with_reducible exact laws_eqStore.mono _ _ _ _ _ _ _)
   | (with_reducible exact laws_heldStore.mono _ _ _ _ _)
   | (with_reducible exact laws_markStore.mono _ _ _ _ _)
   | (with_reducible exact laws_szStore.mono _ _ _ _ _)
   | (with_reducible exact laws_toStore.mono _ _ _ _)
   | (with_reducible exact spec_StoreSeal.mono _ _ _ _ _)
   | (with_reducible exact LeO.refl _)
   | (with_reducible exact LeO.none _)
   | (with_reducible refine LeO.ite ?_ ?_)
   | (with_reducible refine LeO.bind ?_ (fun _ => ?_))
   | exact ih0 _ _ _ _ _ _ _ _ _ _ _ _ _ _ _ _
   | exact ih1 _ _ _ _ _ _ _ _ _ _ _ _
   | exact ih2 _ _ _ _ _
   | exact impl_StoreSeal.mono _ _ _ _ _
   | exact laws_eqStore.mono _ _ _ _ _ _ _
   | exact laws_heldStore.mono _ _ _ _ _
   | exact laws_markStore.mono _ _ _ _ _
   | exact laws_szStore.mono _ _ _ _ _
   | exact laws_toStore.mono _ _ _ _
   | exact spec_StoreSeal.mono _ _ _ _ _
   | exact LeO.none _
   | refine LeO.ite ?_ ?_
   | refine LeO.bind ?_ (fun _ => ?_)
theorem laws_FnExactStoreSeal.mono : ∀ a0 a1 a2 a3 k, LeO (laws_FnExactStoreSeal.f k a0 a1 a2 a3) (laws_FnExactStoreSeal.f (k + 1) a0 a1 a2 a3) := by
 intro a0 a1 a2 a3 k
 obtain ⟨ih0, ih1, ih2⟩ := laws_FnExactStoreSeal.mono_l k
 unfold laws_FnExactStoreSeal.f
 repeat' first
   | (with_reducible exact ih0 _ _ _ _ _ _ _ _ _ _ _ _ _ _ _ _)
   | (with_reducible exact ih1 _ _ _ _ _ _ _ _ _ _ _ _)
   | (with_reducible exact ih2 _ _ _ _ _)
   | (with_reducible exact impl_StoreSeal.mono _ _ _ _ _)
   | (with_reducible exact laws_eqStore.mono _ _ _ _ _ _ _)
   | (with_reducible exact laws_heldStore.mono _ _ _ _ _)
   | (with_reducible exact laws_markStore.mono _ _ _ _ _)
   | (with_reducible exact laws_szStore.mono _ _ _ _ _)
   | (with_reducible exact laws_toStore.mono _ _ _ _)
   | (with_reducible exact spec_StoreSeal.mono _ _ _ _ _)
   | (with_reducible exact LeO.refl _)
   | (with_reducible exact LeO.none _)
   | (with_reducible refine LeO.ite ?_ ?_)
   | (with_reducible refine LeO.bind ?_ (fun _ => ?_))
   | exact ih0 _ _ _ _ _ _ _ _ _ _ _ _ _ _ _ _
   | exact ih1 _ _ _ _ _ _ _ _ _ _ _ _
   | exact ih2 _ _ _ _ _
   | exact impl_StoreSeal.mono _ _ _ _ _
   | exact laws_eqStore.mono _ _ _ _ _ _ _
   | exact laws_heldStore.mono _ _ _ _ _
   | exact laws_markStore.mono _ _ _ _ _
   | exact laws_szStore.mono _ _ _ _ _
   | exact laws_toStore.mono _ _ _ _
   | exact spec_StoreSeal.mono _ _ _ _ _
   | exact LeO.none _
   | refine LeO.ite ?_ ?_
   | refine LeO.bind ?_ (fun _ => ?_)
set_option maxHeartbeats 8000000 in
set_option maxRecDepth 100000 in
theorem laws_FnExactStoreSeal.calls (k : Nat) (A0_0 : Option Addr) (c0_0 : Nat) (l0_0 : List (S43)) (A0_1 : Option Addr) (c0_1 : Nat) (l0_1 : List (S43)) (a0_2 : Int) (a1 : Int) (r : Bool) (w : World) (hr0_0 : Kd.C k43 w A0_0 l0_0.length l0_0) (hc0_0 : l0_0.length ≤ c0_0) (hr0_1 : Kd.C k43 w A0_1 l0_1.length l0_1) (hc0_1 : l0_1.length ≤ c0_1) (h : laws_FnExactStoreSeal.f k l0_0 l0_1 a0_2 a1 = some r) :
  Calls Try.prog 11 #[.agg #[.slice A0_0 l0_0.length c0_0, .slice A0_1 l0_1.length c0_1, .int .i64 a0_2], .int .i64 a1] w fun e w' => e = .returned (.bool r) ∧ Below w.heap.size w w' := by
 have hu24 := Try.underlying24
 have hu29 := Try.underlying29
 have HR0_0 := Aside0.mk hr0_0
 have HC0_0 := Aside0.mk hc0_0
 clear hr0_0 hc0_0
 have HR0_1 := Aside0.mk hr0_1
 have HC0_1 := Aside0.mk hc0_1
 clear hr0_1 hc0_1
 have HB := Aside0.mk (Below.refl w.heap.size w)
 have H : ((laws_szStore.f k l0_0 l0_1 a0_2 1048576).bind fun t426 => (if t426 < 0 then (some true) else ((laws_toStore.f k l0_0 l0_1 a0_2).bind fun bt427 => ((spec_StoreSeal.f k bt427.1 bt427.2.1 bt427.2.2 a1).bind fun bt434 => ((laws_toStore.f k l0_0 l0_1 a0_2).bind fun bt443 => ((impl_StoreSeal.f k bt443.1 bt443.2.1 bt443.2.2 a1).bind fun bt451 => ((laws_eqStore.f k bt451.1 bt451.2.1 bt451.2.2.1 bt434.1 bt434.2.1 bt434.2.2.1).bind fun t460 => (if t460 = true then (laws_FnExactStoreSeal.j0 k a1 bt434.2.2.2 bt451.2.2.2 (bt451.2.2.2 != bt434.2.2.2) l0_0 l0_1 a0_2 bt434.1 bt434.2.1 bt434.2.2.1 bt443.1 bt443.2.1 bt443.2.2 bt451.1 bt451.2.1 bt451.2.2.1) else (laws_FnExactStoreSeal.j0 k a1 bt434.2.2.2 bt451.2.2.2 true l0_0 l0_1 a0_2 bt434.1 bt434.2.1 bt434.2.2.1 bt443.1 bt443.2.1 bt443.2.2 bt451.1 bt451.2.1 bt451.2.2.1))))))))) = some r := h
 clear h
 replace H := Option.bind_eq_some_iff.mp H
 obtain ⟨t426, A30, H⟩ := H
 replace H : (if t426 < 0 then (some true) else ((laws_toStore.f k l0_0 l0_1 a0_2).bind fun bt427 => ((spec_StoreSeal.f k bt427.1 bt427.2.1 bt427.2.2 a1).bind fun bt434 => ((laws_toStore.f k l0_0 l0_1 a0_2).bind fun bt443 => ((impl_StoreSeal.f k bt443.1 bt443.2.1 bt443.2.2 a1).bind fun bt451 => ((laws_eqStore.f k bt451.1 bt451.2.1 bt451.2.2.1 bt434.1 bt434.2.1 bt434.2.2.1).bind fun t460 => (if t460 = true then (laws_FnExactStoreSeal.j0 k a1 bt434.2.2.2 bt451.2.2.2 (bt451.2.2.2 != bt434.2.2.2) l0_0 l0_1 a0_2 bt434.1 bt434.2.1 bt434.2.2.1 bt443.1 bt443.2.1 bt443.2.2 bt451.1 bt451.2.1 bt451.2.2.1) else (laws_FnExactStoreSeal.j0 k a1 bt434.2.2.2 bt451.2.2.2 true l0_0 l0_1 a0_2 bt434.1 bt434.2.1 bt434.2.2.1 bt443.1 bt443.2.1 bt443.2.2 bt451.1 bt451.2.1 bt451.2.2.1)))))))) = some r := H
 have A3 := Aside0.mk A30
 clear A30
 by_cases c4 : t426 < 0
 ·rw [if_pos c4] at H
  have c4b0 : decide (t426 < 0) = true := decide_eq_true c4
  clear c4
  obtain rfl := Option.some.inj H
  go_enter Try.func11, Try.ntmps11
  go_wp2_with (first | ((with_reducible refine gate_dst (N := 2) rfl ?_); refine box_event ?hg (N := 2) ?hd (cs := #[.slice A0_0 l0_0.length c0_0, .slice A0_1 l0_1.length c0_1, .int .i64 a0_2]) (t := 24) ?hr ?_; (case hd => rfl); (case hg => rfl); (case hr => first | (go_simp; done) | (go_simp; rfl)); intro gb425 hg w5 hbox hb; have n0_ := Aside0.mk (below_step KB hb); have n1_ := Aside0.mk (hbox); have n2_ := Aside0.mk ((KG hg : w.heap.size ≤ gb425)); have n3_ := Aside0.mk ((KG hg : w.heap.size ≤ gb425)); clear HB; have HB := n0_; have BK425 := n1_; have GW425 := n2_; have GE425 := n3_; clear n0_ n1_ n2_ n3_; clear hb hbox hg; have hcz6_0 : w5.cell? ⟨gb425, 0, none⟩ = some (.slice A0_0 l0_0.length c0_0) := (blk_cell BK425.out 0).trans rfl; have hcz6_1 : w5.cell? ⟨gb425, 1, none⟩ = some (.slice A0_1 l0_1.length c0_1) := (blk_cell BK425.out 1).trans rfl; have hcz6_2 : w5.cell? ⟨gb425, 2, none⟩ = some (.int .i64 a0_2) := (blk_cell BK425.out 2).trans rfl; have hfz6_0 := blk_frozen BK425.out 0; have hfz6_1 := blk_frozen BK425.out 1; have hfz6_2 := blk_frozen BK425.out 2) | ((with_reducible refine gate_callee (f := 15) rfl ?_); refine goesL_ (some 18) rfl rfl Try.func15 (by kernel_rfl) rfl #[.agg #[.slice A0_0 l0_0.length c0_0, .slice A0_1 l0_1.length c0_1, .int .i64 a0_2], .int .i64 1048576] rfl KL ?_; (with_reducible refine (laws_szStore.calls k _ _ l0_0 _ _ l0_1 a0_2 1048576 t426 _ ?side1 ?side2 ?side3 ?side4 A3.out).mono ?_); (case side1 => exact KD (Kd.C_below HR0_0.out HB.out)); (case side2 => exact HC0_0.out); (case side3 => exact KD (Kd.C_below HR0_1.out HB.out)); (case side4 => exact HC0_1.out); rintro e w7 ⟨rfl, hb⟩; refine ⟨_, rfl, ?_⟩; have n0_ := Aside0.mk (blk_below (g := gb425) (o := .cells #[.slice A0_0 l0_0.length c0_0, .slice A0_1 l0_1.length c0_1, .int .i64 a0_2] 24 (0, 0)) KK hb); have n1_ := Aside0.mk (below_step KB hb); clear BK425; clear HB; have BK425 := n0_; have HB := n1_; clear n0_ n1_; (try clear hb); (try clear hb2); (try clear hk); (try clear hi)))
  go_ret
  exact ⟨KE, KB⟩
 ·rw [if_neg c4] at H
  have c4b0 : decide (t426 < 0) = false := decide_eq_false c4
  clear c4
  replace H := Option.bind_eq_some_iff.mp H
  obtain ⟨⟨t427, t430, t433⟩, A80, H⟩ := H
  replace H : ((spec_StoreSeal.f k t427 t430 t433 a1).bind fun bt434 => ((laws_toStore.f k l0_0 l0_1 a0_2).bind fun bt443 => ((impl_StoreSeal.f k bt443.1 bt443.2.1 bt443.2.2 a1).bind fun bt451 => ((laws_eqStore.f k bt451.1 bt451.2.1 bt451.2.2.1 bt434.1 bt434.2.1 bt434.2.2.1).bind fun t460 => (if t460 = true then (laws_FnExactStoreSeal.j0 k a1 bt434.2.2.2 bt451.2.2.2 (bt451.2.2.2 != bt434.2.2.2) l0_0 l0_1 a0_2 bt434.1 bt434.2.1 bt434.2.2.1 bt443.1 bt443.2.1 bt443.2.2 bt451.1 bt451.2.1 bt451.2.2.1) else (laws_FnExactStoreSeal.j0 k a1 bt434.2.2.2 bt451.2.2.2 true l0_0 l0_1 a0_2 bt434.1 bt434.2.1 bt434.2.2.1 bt443.1 bt443.2.1 bt443.2.2 bt451.1 bt451.2.1 bt451.2.2.1)))))) = some r := H
  have A8 := Aside0.mk A80
  clear A80
  replace H := Option.bind_eq_some_iff.mp H
  obtain ⟨⟨t434, t437, t440, t441⟩, A90, H⟩ := H
  replace H : ((laws_toStore.f k l0_0 l0_1 a0_2).bind fun bt443 => ((impl_StoreSeal.f k bt443.1 bt443.2.1 bt443.2.2 a1).bind fun bt451 => ((laws_eqStore.f k bt451.1 bt451.2.1 bt451.2.2.1 t434 t437 t440).bind fun t460 => (if t460 = true then (laws_FnExactStoreSeal.j0 k a1 t441 bt451.2.2.2 (bt451.2.2.2 != t441) l0_0 l0_1 a0_2 t434 t437 t440 bt443.1 bt443.2.1 bt443.2.2 bt451.1 bt451.2.1 bt451.2.2.1) else (laws_FnExactStoreSeal.j0 k a1 t441 bt451.2.2.2 true l0_0 l0_1 a0_2 t434 t437 t440 bt443.1 bt443.2.1 bt443.2.2 bt451.1 bt451.2.1 bt451.2.2.1))))) = some r := H
  have A9 := Aside0.mk A90
  clear A90
  replace H := Option.bind_eq_some_iff.mp H
  obtain ⟨⟨t443, t446, t449⟩, A100, H⟩ := H
  replace H : ((impl_StoreSeal.f k t443 t446 t449 a1).bind fun bt451 => ((laws_eqStore.f k bt451.1 bt451.2.1 bt451.2.2.1 t434 t437 t440).bind fun t460 => (if t460 = true then (laws_FnExactStoreSeal.j0 k a1 t441 bt451.2.2.2 (bt451.2.2.2 != t441) l0_0 l0_1 a0_2 t434 t437 t440 t443 t446 t449 bt451.1 bt451.2.1 bt451.2.2.1) else (laws_FnExactStoreSeal.j0 k a1 t441 bt451.2.2.2 true l0_0 l0_1 a0_2 t434 t437 t440 t443 t446 t449 bt451.1 bt451.2.1 bt451.2.2.1)))) = some r := H
  have A10 := Aside0.mk A100
  clear A100
  replace H := Option.bind_eq_some_iff.mp H
  obtain ⟨⟨t451, t454, t457, t458⟩, A110, H⟩ := H
  replace H : ((laws_eqStore.f k t451 t454 t457 t434 t437 t440).bind fun t460 => (if t460 = true then (laws_FnExactStoreSeal.j0 k a1 t441 t458 (t458 != t441) l0_0 l0_1 a0_2 t434 t437 t440 t443 t446 t449 t451 t454 t457) else (laws_FnExactStoreSeal.j0 k a1 t441 t458 true l0_0 l0_1 a0_2 t434 t437 t440 t443 t446 t449 t451 t454 t457))) = some r := H
  have A11 := Aside0.mk A110
  clear A110
  have HC12 := Aside0.mk H
  clear H
  go_enter Try.func11, Try.ntmps11
  go_upto_region 8 with (first | ((with_reducible refine gate_dst (N := 2) rfl ?_); refine box_event ?hg (N := 2) ?hd (cs := #[.slice A0_0 l0_0.length c0_0, .slice A0_1 l0_1.length c0_1, .int .i64 a0_2]) (t := 24) ?hr ?_; (case hd => rfl); (case hg => rfl); (case hr => first | (go_simp; done) | (go_simp; rfl)); intro gb425 hg w13 hbox hb; have n0_ := Aside0.mk (below_step KB hb); have n1_ := Aside0.mk (hbox); have n2_ := Aside0.mk ((KG hg : w.heap.size ≤ gb425)); have n3_ := Aside0.mk ((KG hg : w.heap.size ≤ gb425)); clear HB; have HB := n0_; have BK425 := n1_; have GW425 := n2_; have GE425 := n3_; clear n0_ n1_ n2_ n3_; clear hb hbox hg; have hcz14_0 : w13.cell? ⟨gb425, 0, none⟩ = some (.slice A0_0 l0_0.length c0_0) := (blk_cell BK425.out 0).trans rfl; have hcz14_1 : w13.cell? ⟨gb425, 1, none⟩ = some (.slice A0_1 l0_1.length c0_1) := (blk_cell BK425.out 1).trans rfl; have hcz14_2 : w13.cell? ⟨gb425, 2, none⟩ = some (.int .i64 a0_2) := (blk_cell BK425.out 2).trans rfl; have hfz14_0 := blk_frozen BK425.out 0; have hfz14_1 := blk_frozen BK425.out 1; have hfz14_2 := blk_frozen BK425.out 2) | ((with_reducible refine gate_callee (f := 15) rfl ?_); refine goesL_ (some 18) rfl rfl Try.func15 (by kernel_rfl) rfl #[.agg #[.slice A0_0 l0_0.length c0_0, .slice A0_1 l0_1.length c0_1, .int .i64 a0_2], .int .i64 1048576] rfl KL ?_; (with_reducible refine (laws_szStore.calls k _ _ l0_0 _ _ l0_1 a0_2 1048576 t426 _ ?side1 ?side2 ?side3 ?side4 A3.out).mono ?_); (case side1 => exact KD (Kd.C_below HR0_0.out HB.out)); (case side2 => exact HC0_0.out); (case side3 => exact KD (Kd.C_below HR0_1.out HB.out)); (case side4 => exact HC0_1.out); rintro e w15 ⟨rfl, hb⟩; refine ⟨_, rfl, ?_⟩; have n0_ := Aside0.mk (blk_below (g := gb425) (o := .cells #[.slice A0_0 l0_0.length c0_0, .slice A0_1 l0_1.length c0_1, .int .i64 a0_2] 24 (0, 0)) KK hb); have n1_ := Aside0.mk (below_step KB hb); clear BK425; clear HB; have BK425 := n0_; have HB := n1_; clear n0_ n1_; (try clear hb); (try clear hb2); (try clear hk); (try clear hi); have hcz16_0 : w15.cell? ⟨gb425, 0, none⟩ = some (.slice A0_0 l0_0.length c0_0) := (blk_cell BK425.out 0).trans rfl; have hcz16_1 : w15.cell? ⟨gb425, 1, none⟩ = some (.slice A0_1 l0_1.length c0_1) := (blk_cell BK425.out 1).trans rfl; have hcz16_2 : w15.cell? ⟨gb425, 2, none⟩ = some (.int .i64 a0_2) := (blk_cell BK425.out 2).trans rfl; have hfz16_0 := blk_frozen BK425.out 0; have hfz16_1 := blk_frozen BK425.out 1; have hfz16_2 := blk_frozen BK425.out 2) | ((with_reducible refine gate_callee (f := 17) rfl ?_); refine goesL_ (some 23) rfl rfl Try.func17 (by kernel_rfl) rfl #[.agg #[.slice A0_0 l0_0.length c0_0, .slice A0_1 l0_1.length c0_1, .int .i64 a0_2]] rfl KL ?_; (with_reducible refine (laws_toStore.calls k _ _ l0_0 _ _ l0_1 a0_2 t427 t430 t433 _ ?side1 ?side2 ?side3 ?side4 A8.out).mono ?_); (case side1 => exact KD (Kd.C_below HR0_0.out HB.out)); (case side2 => exact HC0_0.out); (case side3 => exact KD (Kd.C_below HR0_1.out HB.out)); (case side4 => exact HC0_1.out); rintro e w17 ⟨v428, v431, rfl, ho0, ho1, hb⟩; refine ⟨_, rfl, ?_⟩; have n0_ := Aside0.mk (Kd.R_lower ho0 (below_size KB)); have n1_ := Aside0.mk (Kd.R_lower ho1 (below_size KB)); have n2_ := Aside0.mk (blk_below (g := gb425) (o := .cells #[.slice A0_0 l0_0.length c0_0, .slice A0_1 l0_1.length c0_1, .int .i64 a0_2] 24 (0, 0)) KK hb); have n3_ := Aside0.mk (below_step KB hb); clear BK425; clear HB; have HO429 := n0_; have HO432 := n1_; have BK425 := n2_; have HB := n3_; clear n0_ n1_ n2_ n3_; (try clear hb); (try clear hb2); (try clear hk); (try clear hi); (try clear ho0); (try clear ho1); obtain ⟨Ao18, co18, eo18⟩ := Kd.R_slice HO429.out; subst eo18; obtain ⟨Ao19, co19, eo19⟩ := Kd.R_slice HO432.out; subst eo19) | ((with_reducible refine gate_callee (f := 45) rfl ?_); refine goesL_ (some 25) rfl rfl Try.func45 (by kernel_rfl) rfl #[.agg #[.slice Ao18 t427.length co18, .slice Ao19 t430.length co19, .int .i64 t433], .int .i64 a1] rfl KL ?_; (with_reducible refine (spec_StoreSeal.calls k _ _ t427 _ _ t430 t433 a1 t434 t437 t440 t441 _ ?side1 ?side2 ?side3 ?side4 A9.out).mono ?_); (case side1 => repeat (first | exact (Kd.R_reads' HO429.out).2.2 | (with_reducible refine Kd.C_alloc ?_ _) | (with_reducible refine Kd.C_drewN ?_ _) | (with_reducible refine Kd.C_drew ?_))); (case side2 => exact (Kd.R_reads' HO429.out).2.1); (case side3 => repeat (first | exact (Kd.R_reads' HO432.out).2.2 | (with_reducible refine Kd.C_alloc ?_ _) | (with_reducible refine Kd.C_drewN ?_ _) | (with_reducible refine Kd.C_drew ?_))); (case side4 => exact (Kd.R_reads' HO432.out).2.1); rintro e w20 ⟨v435, v438, rfl, ho0, ho1, hb⟩; refine ⟨_, rfl, ?_⟩; have n0_ := Aside0.mk (Kd.R_mono (Kd.R_told (Kd.R_told (Kd.R_old (KR HO429.out) hb) (Kd.R_base ho0)) (Kd.R_base ho1)) (fun _ h_ => h_.1)); have n1_ := Aside0.mk (Kd.R_mono (Kd.R_told (Kd.R_told (Kd.R_old (KR HO432.out) hb) (Kd.R_base ho0)) (Kd.R_base ho1)) (fun _ h_ => h_.1)); have n2_ := Aside0.mk (Kd.R_lower (Kd.R_new' (Kd.R_new' ho0 (Kd.R_lt (KR HO429.out))) (Kd.R_lt (KR HO432.out))) (below_size KB)); have n3_ := Aside0.mk (Kd.R_lower (Kd.R_new' (Kd.R_new' ho1 (Kd.R_lt (KR HO429.out))) (Kd.R_lt (KR HO432.out))) (below_size KB)); have n4_ := Aside0.mk (blk_below (g := gb425) (o := .cells #[.slice A0_0 l0_0.length c0_0, .slice A0_1 l0_1.length c0_1, .int .i64 a0_2] 24 (0, 0)) KK hb); have n5_ := Aside0.mk (below_step KB hb); clear HO429; clear HO432; clear BK425; clear HB; have HO429 := n0_; have HO432 := n1_; have HO436 := n2_; have HO439 := n3_; have BK425 := n4_; have HB := n5_; clear n0_ n1_ n2_ n3_ n4_ n5_; (try clear hb); (try clear hb2); (try clear hk); (try clear hi); (try clear ho0); (try clear ho1)) | ((with_reducible refine gate_dst (N := 6) rfl ?_); refine box_event ?hg (N := 6) ?hd (cs := #[.slice none 0 0, .slice none 0 0, .int .i64 0]) (t := 29) ?hr ?_; (case hd => rfl); (case hg => rfl); (case hr => first | (go_simp; done) | (go_simp; rfl)); intro gb442 hg w21 hbox hb; have n0_ := Aside0.mk (Kd.R_below (KR HO429.out) hb); have n1_ := Aside0.mk (Kd.R_below (KR HO432.out) hb); have n2_ := Aside0.mk (Kd.R_below (KR HO436.out) hb); have n3_ := Aside0.mk (Kd.R_below (KR HO439.out) hb); have n4_ := Aside0.mk (blk_below (g := gb425) (o := .cells #[.slice A0_0 l0_0.length c0_0, .slice A0_1 l0_1.length c0_1, .int .i64 a0_2] 24 (0, 0)) KK hb); have n5_ := Aside0.mk (below_step KB hb); have n6_ := Aside0.mk (hbox); have n7_ := Aside0.mk ((KG hg : w.heap.size ≤ gb442)); have n8_ := Aside0.mk ((KG hg : w.heap.size ≤ gb442)); have n9_ := Aside0.mk ((by rw [hg]; exact Nat.ne_of_lt (blk_lt (g := gb425) (o := .cells #[.slice A0_0 l0_0.length c0_0, .slice A0_1 l0_1.length c0_1, .int .i64 a0_2] 24 (0, 0)) KK) : gb425 ≠ gb442)); have n10_ := Aside0.mk ((by rw [hg]; exact Nat.ne_of_gt (blk_lt (g := gb425) (o := .cells #[.slice A0_0 l0_0.length c0_0, .slice A0_1 l0_1.length c0_1, .int .i64 a0_2] 24 (0, 0)) KK) : gb442 ≠ gb425)); clear HO429; clear HO432; clear HO436; clear HO439; clear BK425; clear HB; have HO429 := n0_; have HO432 := n1_; have HO436 := n2_; have HO439 := n3_; have BK425 := n4_; have HB := n5_; have BK442 := n6_; have GW442 := n7_; have GE442 := n8_; have NB425_442 := n9_; have NB442_425 := n10_; clear n0_ n1_ n2_ n3_ n4_ n5_ n6_ n7_ n8_ n9_ n10_; clear hb hbox hg; obtain ⟨Ao22, co22, eo22⟩ := Kd.R_slice HO436.out; subst eo22; have hnb23 := NB442_425.out; have hnc23 := NB425_442.out; have hcz24_0 : w21.cell? ⟨gb442, 0, none⟩ = some (.slice none 0 0) := (blk_cell BK442.out 0).trans rfl; have hcz24_1 : w21.cell? ⟨gb442, 1, none⟩ = some (.slice none 0 0) := (blk_cell BK442.out 1).trans rfl; have hcz24_2 : w21.cell? ⟨gb442, 2, none⟩ = some (.int .i64 0) := (blk_cell BK442.out 2).trans rfl; have hfz24_0 := blk_frozen BK442.out 0; have hfz24_1 := blk_frozen BK442.out 1; have hfz24_2 := blk_frozen BK442.out 2; obtain ⟨Ao25, co25, eo25⟩ := Kd.R_slice HO439.out; subst eo25; have hcz26_0 : w21.cell? ⟨gb425, 0, none⟩ = some (.slice A0_0 l0_0.length c0_0) := (blk_cell BK425.out 0).trans rfl; have hcz26_1 : w21.cell? ⟨gb425, 1, none⟩ = some (.slice A0_1 l0_1.length c0_1) := (blk_cell BK425.out 1).trans rfl; have hcz26_2 : w21.cell? ⟨gb425, 2, none⟩ = some (.int .i64 a0_2) := (blk_cell BK425.out 2).trans rfl; have hfz26_0 := blk_frozen BK425.out 0; have hfz26_1 := blk_frozen BK425.out 1; have hfz26_2 := blk_frozen BK425.out 2) | ((with_reducible refine gate_callee (f := 17) rfl ?_); refine goesL_ (some 29) rfl rfl Try.func17 (by kernel_rfl) rfl #[.agg #[.slice A0_0 l0_0.length c0_0, .slice A0_1 l0_1.length c0_1, .int .i64 a0_2]] rfl KL ?_; (with_reducible refine (laws_toStore.calls k _ _ l0_0 _ _ l0_1 a0_2 t443 t446 t449 _ ?side1 ?side2 ?side3 ?side4 A10.out).mono ?_); (case side1 => exact Kd.C_below HR0_0.out KB); (case side2 => exact HC0_0.out); (case side3 => exact Kd.C_below HR0_1.out KB); (case side4 => exact HC0_1.out); rintro e w27 ⟨v444, v447, rfl, ho0, ho1, hb⟩; refine ⟨_, rfl, ?_⟩; have n0_ := Aside0.mk (Kd.R_mono (Kd.R_told (Kd.R_told (Kd.R_old (by (with_reducible repeat (first | apply Kd.R_alloc | apply Kd.R_drewN | apply Kd.R_drew)); exact (Kd.R_mono (Kd.R_far (p := ⟨gb442, 2, none⟩) (Kd.R_far (p := ⟨gb442, 1, none⟩) (Kd.R_far (p := ⟨gb442, 0, none⟩) (Kd.R_types HO429.out BK442.out (by decide)) (fun _ hk => hk.2) (.slice Ao22 t434.length co22)) (fun _ hk => hk.2) (.slice Ao25 t437.length co25)) (fun _ hk => hk.2) (.int .i64 t440)) (fun _ h_ => h_.1))) hb) (Kd.R_base ho0)) (Kd.R_base ho1)) (fun _ h_ => h_.1)); have n1_ := Aside0.mk (Kd.R_mono (Kd.R_told (Kd.R_told (Kd.R_old (by (with_reducible repeat (first | apply Kd.R_alloc | apply Kd.R_drewN | apply Kd.R_drew)); exact (Kd.R_mono (Kd.R_far (p := ⟨gb442, 2, none⟩) (Kd.R_far (p := ⟨gb442, 1, none⟩) (Kd.R_far (p := ⟨gb442, 0, none⟩) (Kd.R_types HO432.out BK442.out (by decide)) (fun _ hk => hk.2) (.slice Ao22 t434.length co22)) (fun _ hk => hk.2) (.slice Ao25 t437.length co25)) (fun _ hk => hk.2) (.int .i64 t440)) (fun _ h_ => h_.1))) hb) (Kd.R_base ho0)) (Kd.R_base ho1)) (fun _ h_ => h_.1)); have n2_ := Aside0.mk (Kd.R_mono (Kd.R_told (Kd.R_told (Kd.R_old (by (with_reducible repeat (first | apply Kd.R_alloc | apply Kd.R_drewN | apply Kd.R_drew)); exact (Kd.R_mono (Kd.R_far (p := ⟨gb442, 2, none⟩) (Kd.R_far (p := ⟨gb442, 1, none⟩) (Kd.R_far (p := ⟨gb442, 0, none⟩) (Kd.R_types HO436.out BK442.out (by decide)) (fun _ hk => hk.2) (.slice Ao22 t434.length co22)) (fun _ hk => hk.2) (.slice Ao25 t437.length co25)) (fun _ hk => hk.2) (.int .i64 t440)) (fun _ h_ => h_.1))) hb) (Kd.R_base ho0)) (Kd.R_base ho1)) (fun _ h_ => h_.1)); have n3_ := Aside0.mk (Kd.R_mono (Kd.R_told (Kd.R_told (Kd.R_old (by (with_reducible repeat (first | apply Kd.R_alloc | apply Kd.R_drewN | apply Kd.R_drew)); exact (Kd.R_mono (Kd.R_far (p := ⟨gb442, 2, none⟩) (Kd.R_far (p := ⟨gb442, 1, none⟩) (Kd.R_far (p := ⟨gb442, 0, none⟩) (Kd.R_types HO439.out BK442.out (by decide)) (fun _ hk => hk.2) (.slice Ao22 t434.length co22)) (fun _ hk => hk.2) (.slice Ao25 t437.length co25)) (fun _ hk => hk.2) (.int .i64 t440)) (fun _ h_ => h_.1))) hb) (Kd.R_base ho0)) (Kd.R_base ho1)) (fun _ h_ => h_.1)); have n4_ := Aside0.mk (Kd.R_lower (Kd.R_new' (Kd.R_new' (Kd.R_new' (Kd.R_new' ho0 (Kd.R_lt (by (with_reducible repeat (first | apply Kd.R_alloc | apply Kd.R_drewN | apply Kd.R_drew)); exact (Kd.R_mono (Kd.R_far (p := ⟨gb442, 2, none⟩) (Kd.R_far (p := ⟨gb442, 1, none⟩) (Kd.R_far (p := ⟨gb442, 0, none⟩) (Kd.R_types HO429.out BK442.out (by decide)) (fun _ hk => hk.2) (.slice Ao22 t434.length co22)) (fun _ hk => hk.2) (.slice Ao25 t437.length co25)) (fun _ hk => hk.2) (.int .i64 t440)) (fun _ h_ => h_.1))))) (Kd.R_lt (by (with_reducible repeat (first | apply Kd.R_alloc | apply Kd.R_drewN | apply Kd.R_drew)); exact (Kd.R_mono (Kd.R_far (p := ⟨gb442, 2, none⟩) (Kd.R_far (p := ⟨gb442, 1, none⟩) (Kd.R_far (p := ⟨gb442, 0, none⟩) (Kd.R_types HO432.out BK442.out (by decide)) (fun _ hk => hk.2) (.slice Ao22 t434.length co22)) (fun _ hk => hk.2) (.slice Ao25 t437.length co25)) (fun _ hk => hk.2) (.int .i64 t440)) (fun _ h_ => h_.1))))) (Kd.R_lt (by (with_reducible repeat (first | apply Kd.R_alloc | apply Kd.R_drewN | apply Kd.R_drew)); exact (Kd.R_mono (Kd.R_far (p := ⟨gb442, 2, none⟩) (Kd.R_far (p := ⟨gb442, 1, none⟩) (Kd.R_far (p := ⟨gb442, 0, none⟩) (Kd.R_types HO436.out BK442.out (by decide)) (fun _ hk => hk.2) (.slice Ao22 t434.length co22)) (fun _ hk => hk.2) (.slice Ao25 t437.length co25)) (fun _ hk => hk.2) (.int .i64 t440)) (fun _ h_ => h_.1))))) (Kd.R_lt (by (with_reducible repeat (first | apply Kd.R_alloc | apply Kd.R_drewN | apply Kd.R_drew)); exact (Kd.R_mono (Kd.R_far (p := ⟨gb442, 2, none⟩) (Kd.R_far (p := ⟨gb442, 1, none⟩) (Kd.R_far (p := ⟨gb442, 0, none⟩) (Kd.R_types HO439.out BK442.out (by decide)) (fun _ hk => hk.2) (.slice Ao22 t434.length co22)) (fun _ hk => hk.2) (.slice Ao25 t437.length co25)) (fun _ hk => hk.2) (.int .i64 t440)) (fun _ h_ => h_.1))))) (below_size KB)); have n5_ := Aside0.mk (Kd.R_lower (Kd.R_new' (Kd.R_new' (Kd.R_new' (Kd.R_new' ho1 (Kd.R_lt (by (with_reducible repeat (first | apply Kd.R_alloc | apply Kd.R_drewN | apply Kd.R_drew)); exact (Kd.R_mono (Kd.R_far (p := ⟨gb442, 2, none⟩) (Kd.R_far (p := ⟨gb442, 1, none⟩) (Kd.R_far (p := ⟨gb442, 0, none⟩) (Kd.R_types HO429.out BK442.out (by decide)) (fun _ hk => hk.2) (.slice Ao22 t434.length co22)) (fun _ hk => hk.2) (.slice Ao25 t437.length co25)) (fun _ hk => hk.2) (.int .i64 t440)) (fun _ h_ => h_.1))))) (Kd.R_lt (by (with_reducible repeat (first | apply Kd.R_alloc | apply Kd.R_drewN | apply Kd.R_drew)); exact (Kd.R_mono (Kd.R_far (p := ⟨gb442, 2, none⟩) (Kd.R_far (p := ⟨gb442, 1, none⟩) (Kd.R_far (p := ⟨gb442, 0, none⟩) (Kd.R_types HO432.out BK442.out (by decide)) (fun _ hk => hk.2) (.slice Ao22 t434.length co22)) (fun _ hk => hk.2) (.slice Ao25 t437.length co25)) (fun _ hk => hk.2) (.int .i64 t440)) (fun _ h_ => h_.1))))) (Kd.R_lt (by (with_reducible repeat (first | apply Kd.R_alloc | apply Kd.R_drewN | apply Kd.R_drew)); exact (Kd.R_mono (Kd.R_far (p := ⟨gb442, 2, none⟩) (Kd.R_far (p := ⟨gb442, 1, none⟩) (Kd.R_far (p := ⟨gb442, 0, none⟩) (Kd.R_types HO436.out BK442.out (by decide)) (fun _ hk => hk.2) (.slice Ao22 t434.length co22)) (fun _ hk => hk.2) (.slice Ao25 t437.length co25)) (fun _ hk => hk.2) (.int .i64 t440)) (fun _ h_ => h_.1))))) (Kd.R_lt (by (with_reducible repeat (first | apply Kd.R_alloc | apply Kd.R_drewN | apply Kd.R_drew)); exact (Kd.R_mono (Kd.R_far (p := ⟨gb442, 2, none⟩) (Kd.R_far (p := ⟨gb442, 1, none⟩) (Kd.R_far (p := ⟨gb442, 0, none⟩) (Kd.R_types HO439.out BK442.out (by decide)) (fun _ hk => hk.2) (.slice Ao22 t434.length co22)) (fun _ hk => hk.2) (.slice Ao25 t437.length co25)) (fun _ hk => hk.2) (.int .i64 t440)) (fun _ h_ => h_.1))))) (below_size KB)); have n6_ := Aside0.mk (blk_below (g := gb425) (o := .cells #[.slice A0_0 l0_0.length c0_0, .slice A0_1 l0_1.length c0_1, .int .i64 a0_2] 24 (0, 0)) KK hb); have n7_ := Aside0.mk (blk_below (g := gb442) (o := .cells #[.slice Ao22 t434.length co22, .slice Ao25 t437.length co25, .int .i64 t440] 29 (0, 0)) (by (with_reducible repeat (first | refine blk_drewN ?_ _ | refine blk_drew ?_ | refine blk_alloc ?_ _)); refine blk_put (cs := #[.slice Ao22 t434.length co22, .slice Ao25 t437.length co25, .int .i64 0]) ?_ 2 _ rfl; (with_reducible repeat (first | refine blk_drewN ?_ _ | refine blk_drew ?_ | refine blk_alloc ?_ _)); refine blk_put (cs := #[.slice Ao22 t434.length co22, .slice none 0 0, .int .i64 0]) ?_ 1 _ rfl; (with_reducible repeat (first | refine blk_drewN ?_ _ | refine blk_drew ?_ | refine blk_alloc ?_ _)); refine blk_put (cs := #[.slice none 0 0, .slice none 0 0, .int .i64 0]) ?_ 0 _ rfl; (with_reducible repeat (first | refine blk_drewN ?_ _ | refine blk_drew ?_ | refine blk_alloc ?_ _)); exact BK442.out) hb); have n8_ := Aside0.mk (below_step KB hb); clear HO429; clear HO432; clear HO436; clear HO439; clear BK425; clear BK442; clear HB; have HO429 := n0_; have HO432 := n1_; have HO436 := n2_; have HO439 := n3_; have HO445 := n4_; have HO448 := n5_; have BK425 := n6_; have BK442 := n7_; have HB := n8_; clear n0_ n1_ n2_ n3_ n4_ n5_ n6_ n7_ n8_; (try clear hb); (try clear hb2); (try clear hk); (try clear hi); (try clear ho0); (try clear ho1)) | ((with_reducible refine gate_dst (N := 8) rfl ?_); refine box_event ?hg (N := 8) ?hd (cs := #[.slice none 0 0, .slice none 0 0, .int .i64 0]) (t := 29) ?hr ?_; (case hd => rfl); (case hg => rfl); (case hr => first | (go_simp; done) | (go_simp; rfl)); intro gb450 hg w28 hbox hb; have n0_ := Aside0.mk (Kd.R_below (KR HO429.out) hb); have n1_ := Aside0.mk (Kd.R_below (KR HO432.out) hb); have n2_ := Aside0.mk (Kd.R_below (KR HO436.out) hb); have n3_ := Aside0.mk (Kd.R_below (KR HO439.out) hb); have n4_ := Aside0.mk (Kd.R_below (KR HO445.out) hb); have n5_ := Aside0.mk (Kd.R_below (KR HO448.out) hb); have n6_ := Aside0.mk (blk_below (g := gb425) (o := .cells #[.slice A0_0 l0_0.length c0_0, .slice A0_1 l0_1.length c0_1, .int .i64 a0_2] 24 (0, 0)) KK hb); have n7_ := Aside0.mk (blk_below (g := gb442) (o := .cells #[.slice Ao22 t434.length co22, .slice Ao25 t437.length co25, .int .i64 t440] 29 (0, 0)) KK hb); have n8_ := Aside0.mk (below_step KB hb); have n9_ := Aside0.mk (hbox); have n10_ := Aside0.mk ((KG hg : w.heap.size ≤ gb450)); have n11_ := Aside0.mk ((KG hg : w.heap.size ≤ gb450)); have n12_ := Aside0.mk ((by rw [hg]; exact Nat.ne_of_lt (blk_lt (g := gb425) (o := .cells #[.slice A0_0 l0_0.length c0_0, .slice A0_1 l0_1.length c0_1, .int .i64 a0_2] 24 (0, 0)) KK) : gb425 ≠ gb450)); have n13_ := Aside0.mk ((by rw [hg]; exact Nat.ne_of_gt (blk_lt (g := gb425) (o := .cells #[.slice A0_0 l0_0.length c0_0, .slice A0_1 l0_1.length c0_1, .int .i64 a0_2] 24 (0, 0)) KK) : gb450 ≠ gb425)); have n14_ := Aside0.mk ((by rw [hg]; exact Nat.ne_of_lt (blk_lt (g := gb442) (o := .cells #[.slice Ao22 t434.length co22, .slice Ao25 t437.length co25, .int .i64 t440] 29 (0, 0)) KK) : gb442 ≠ gb450)); have n15_ := Aside0.mk ((by rw [hg]; exact Nat.ne_of_gt (blk_lt (g := gb442) (o := .cells #[.slice Ao22 t434.length co22, .slice Ao25 t437.length co25, .int .i64 t440] 29 (0, 0)) KK) : gb450 ≠ gb442)); clear HO429; clear HO432; clear HO436; clear HO439; clear HO445; clear HO448; clear BK425; clear BK442; clear HB; have HO429 := n0_; have HO432 := n1_; have HO436 := n2_; have HO439 := n3_; have HO445 := n4_; have HO448 := n5_; have BK425 := n6_; have BK442 := n7_; have HB := n8_; have BK450 := n9_; have GW450 := n10_; have GE450 := n11_; have NB425_450 := n12_; have NB450_425 := n13_; have NB442_450 := n14_; have NB450_442 := n15_; clear n0_ n1_ n2_ n3_ n4_ n5_ n6_ n7_ n8_ n9_ n10_ n11_ n12_ n13_ n14_ n15_; clear hb hbox hg; obtain ⟨Ao29, co29, eo29⟩ := Kd.R_slice HO445.out; subst eo29; have hnb30 := NB450_425.out; have hnc30 := NB425_450.out; have hnb31 := NB450_442.out; have hnc31 := NB442_450.out; have hcz32_0 : w28.cell? ⟨gb450, 0, none⟩ = some (.slice none 0 0) := (blk_cell BK450.out 0).trans rfl; have hcz32_1 : w28.cell? ⟨gb450, 1, none⟩ = some (.slice none 0 0) := (blk_cell BK450.out 1).trans rfl; have hcz32_2 : w28.cell? ⟨gb450, 2, none⟩ = some (.int .i64 0) := (blk_cell BK450.out 2).trans rfl; have hfz32_0 := blk_frozen BK450.out 0; have hfz32_1 := blk_frozen BK450.out 1; have hfz32_2 := blk_frozen BK450.out 2; obtain ⟨Ao33, co33, eo33⟩ := Kd.R_slice HO448.out; subst eo33) | ((with_reducible refine gate_callee (f := 46) rfl ?_); refine goesL_ (some 33) rfl rfl Try.func46 (by kernel_rfl) rfl #[.agg #[.slice Ao29 t443.length co29, .slice Ao33 t446.length co33, .int .i64 t449], .int .i64 a1] rfl KL ?_; (with_reducible refine (impl_StoreSeal.calls k _ _ t443 _ _ t446 t449 a1 t451 t454 t457 t458 _ ?side1 ?side2 ?side3 ?side4 A11.out).mono ?_); (case side1 => refine (Kd.R_reads' (e := 34) (base := w.heap.size) (ok := fun k_ => ((((some k_ ≠ (.slice Ao33 t446.length co33 : Value).ownBlock ∧ some k_ ≠ (.slice Ao18 t427.length co18 : Value).ownBlock) ∧ some k_ ≠ (.slice Ao19 t430.length co19 : Value).ownBlock) ∧ some k_ ≠ (.slice Ao22 t434.length co22 : Value).ownBlock) ∧ some k_ ≠ (.slice Ao25 t437.length co25 : Value).ownBlock)) (n := t443.length) (c := co29) ?_).2.2; exact (by (with_reducible repeat (first | apply Kd.R_alloc | apply Kd.R_drewN | apply Kd.R_drew)); exact (Kd.R_mono (Kd.R_far (p := ⟨gb450, 2, none⟩) (Kd.R_far (p := ⟨gb450, 1, none⟩) (Kd.R_far (p := ⟨gb450, 0, none⟩) (Kd.R_types HO445.out BK450.out (by decide)) (fun _ hk => hk.2) (.slice Ao29 t443.length co29)) (fun _ hk => hk.2) (.slice Ao33 t446.length co33)) (fun _ hk => hk.2) (.int .i64 t449)) (fun _ h_ => h_.1)))); (case side2 => exact (Kd.R_reads' HO445.out).2.1); (case side3 => refine (Kd.R_reads' (e := 34) (base := w.heap.size) (ok := fun k_ => ((((some k_ ≠ (.slice Ao29 t443.length co29 : Value).ownBlock ∧ some k_ ≠ (.slice Ao18 t427.length co18 : Value).ownBlock) ∧ some k_ ≠ (.slice Ao19 t430.length co19 : Value).ownBlock) ∧ some k_ ≠ (.slice Ao22 t434.length co22 : Value).ownBlock) ∧ some k_ ≠ (.slice Ao25 t437.length co25 : Value).ownBlock)) (n := t446.length) (c := co33) ?_).2.2; exact (by (with_reducible repeat (first | apply Kd.R_alloc | apply Kd.R_drewN | apply Kd.R_drew)); exact (Kd.R_mono (Kd.R_far (p := ⟨gb450, 2, none⟩) (Kd.R_far (p := ⟨gb450, 1, none⟩) (Kd.R_far (p := ⟨gb450, 0, none⟩) (Kd.R_types HO448.out BK450.out (by decide)) (fun _ hk => hk.2) (.slice Ao29 t443.length co29)) (fun _ hk => hk.2) (.slice Ao33 t446.length co33)) (fun _ hk => hk.2) (.int .i64 t449)) (fun _ h_ => h_.1)))); (case side4 => exact (Kd.R_reads' HO448.out).2.1); rintro e w34 ⟨v452, v455, rfl, ho0, ho1, hb⟩; refine ⟨_, rfl, ?_⟩; have n0_ := Aside0.mk (Kd.R_mono (Kd.R_told (Kd.R_told (Kd.R_old (by (with_reducible repeat (first | apply Kd.R_alloc | apply Kd.R_drewN | apply Kd.R_drew)); exact (Kd.R_mono (Kd.R_far (p := ⟨gb450, 2, none⟩) (Kd.R_far (p := ⟨gb450, 1, none⟩) (Kd.R_far (p := ⟨gb450, 0, none⟩) (Kd.R_types HO429.out BK450.out (by decide)) (fun _ hk => hk.2) (.slice Ao29 t443.length co29)) (fun _ hk => hk.2) (.slice Ao33 t446.length co33)) (fun _ hk => hk.2) (.int .i64 t449)) (fun _ h_ => h_.1))) hb) (Kd.R_base ho0)) (Kd.R_base ho1)) (fun _ h_ => h_.1)); have n1_ := Aside0.mk (Kd.R_mono (Kd.R_told (Kd.R_told (Kd.R_old (by (with_reducible repeat (first | apply Kd.R_alloc | apply Kd.R_drewN | apply Kd.R_drew)); exact (Kd.R_mono (Kd.R_far (p := ⟨gb450, 2, none⟩) (Kd.R_far (p := ⟨gb450, 1, none⟩) (Kd.R_far (p := ⟨gb450, 0, none⟩) (Kd.R_types HO432.out BK450.out (by decide)) (fun _ hk => hk.2) (.slice Ao29 t443.length co29)) (fun _ hk => hk.2) (.slice Ao33 t446.length co33)) (fun _ hk => hk.2) (.int .i64 t449)) (fun _ h_ => h_.1))) hb) (Kd.R_base ho0)) (Kd.R_base ho1)) (fun _ h_ => h_.1)); have n2_ := Aside0.mk (Kd.R_mono (Kd.R_told (Kd.R_told (Kd.R_old (by (with_reducible repeat (first | apply Kd.R_alloc | apply Kd.R_drewN | apply Kd.R_drew)); exact (Kd.R_mono (Kd.R_far (p := ⟨gb450, 2, none⟩) (Kd.R_far (p := ⟨gb450, 1, none⟩) (Kd.R_far (p := ⟨gb450, 0, none⟩) (Kd.R_types HO436.out BK450.out (by decide)) (fun _ hk => hk.2) (.slice Ao29 t443.length co29)) (fun _ hk => hk.2) (.slice Ao33 t446.length co33)) (fun _ hk => hk.2) (.int .i64 t449)) (fun _ h_ => h_.1))) hb) (Kd.R_base ho0)) (Kd.R_base ho1)) (fun _ h_ => h_.1)); have n3_ := Aside0.mk (Kd.R_mono (Kd.R_told (Kd.R_told (Kd.R_old (by (with_reducible repeat (first | apply Kd.R_alloc | apply Kd.R_drewN | apply Kd.R_drew)); exact (Kd.R_mono (Kd.R_far (p := ⟨gb450, 2, none⟩) (Kd.R_far (p := ⟨gb450, 1, none⟩) (Kd.R_far (p := ⟨gb450, 0, none⟩) (Kd.R_types HO439.out BK450.out (by decide)) (fun _ hk => hk.2) (.slice Ao29 t443.length co29)) (fun _ hk => hk.2) (.slice Ao33 t446.length co33)) (fun _ hk => hk.2) (.int .i64 t449)) (fun _ h_ => h_.1))) hb) (Kd.R_base ho0)) (Kd.R_base ho1)) (fun _ h_ => h_.1)); have n4_ := Aside0.mk (Kd.R_mono (Kd.R_told (Kd.R_told (Kd.R_old (by (with_reducible repeat (first | apply Kd.R_alloc | apply Kd.R_drewN | apply Kd.R_drew)); exact (Kd.R_mono (Kd.R_far (p := ⟨gb450, 2, none⟩) (Kd.R_far (p := ⟨gb450, 1, none⟩) (Kd.R_far (p := ⟨gb450, 0, none⟩) (Kd.R_types HO445.out BK450.out (by decide)) (fun _ hk => hk.2) (.slice Ao29 t443.length co29)) (fun _ hk => hk.2) (.slice Ao33 t446.length co33)) (fun _ hk => hk.2) (.int .i64 t449)) (fun _ h_ => h_.1))) hb) (Kd.R_base ho0)) (Kd.R_base ho1)) (fun _ h_ => h_.1)); have n5_ := Aside0.mk (Kd.R_mono (Kd.R_told (Kd.R_told (Kd.R_old (by (with_reducible repeat (first | apply Kd.R_alloc | apply Kd.R_drewN | apply Kd.R_drew)); exact (Kd.R_mono (Kd.R_far (p := ⟨gb450, 2, none⟩) (Kd.R_far (p := ⟨gb450, 1, none⟩) (Kd.R_far (p := ⟨gb450, 0, none⟩) (Kd.R_types HO448.out BK450.out (by decide)) (fun _ hk => hk.2) (.slice Ao29 t443.length co29)) (fun _ hk => hk.2) (.slice Ao33 t446.length co33)) (fun _ hk => hk.2) (.int .i64 t449)) (fun _ h_ => h_.1))) hb) (Kd.R_base ho0)) (Kd.R_base ho1)) (fun _ h_ => h_.1)); have n6_ := Aside0.mk (Kd.R_lower (Kd.R_new' (Kd.R_new' (Kd.R_new' (Kd.R_new' (Kd.R_new' (Kd.R_new' ho0 (Kd.R_lt (by (with_reducible repeat (first | apply Kd.R_alloc | apply Kd.R_drewN | apply Kd.R_drew)); exact (Kd.R_mono (Kd.R_far (p := ⟨gb450, 2, none⟩) (Kd.R_far (p := ⟨gb450, 1, none⟩) (Kd.R_far (p := ⟨gb450, 0, none⟩) (Kd.R_types HO429.out BK450.out (by decide)) (fun _ hk => hk.2) (.slice Ao29 t443.length co29)) (fun _ hk => hk.2) (.slice Ao33 t446.length co33)) (fun _ hk => hk.2) (.int .i64 t449)) (fun _ h_ => h_.1))))) (Kd.R_lt (by (with_reducible repeat (first | apply Kd.R_alloc | apply Kd.R_drewN | apply Kd.R_drew)); exact (Kd.R_mono (Kd.R_far (p := ⟨gb450, 2, none⟩) (Kd.R_far (p := ⟨gb450, 1, none⟩) (Kd.R_far (p := ⟨gb450, 0, none⟩) (Kd.R_types HO432.out BK450.out (by decide)) (fun _ hk => hk.2) (.slice Ao29 t443.length co29)) (fun _ hk => hk.2) (.slice Ao33 t446.length co33)) (fun _ hk => hk.2) (.int .i64 t449)) (fun _ h_ => h_.1))))) (Kd.R_lt (by (with_reducible repeat (first | apply Kd.R_alloc | apply Kd.R_drewN | apply Kd.R_drew)); exact (Kd.R_mono (Kd.R_far (p := ⟨gb450, 2, none⟩) (Kd.R_far (p := ⟨gb450, 1, none⟩) (Kd.R_far (p := ⟨gb450, 0, none⟩) (Kd.R_types HO436.out BK450.out (by decide)) (fun _ hk => hk.2) (.slice Ao29 t443.length co29)) (fun _ hk => hk.2) (.slice Ao33 t446.length co33)) (fun _ hk => hk.2) (.int .i64 t449)) (fun _ h_ => h_.1))))) (Kd.R_lt (by (with_reducible repeat (first | apply Kd.R_alloc | apply Kd.R_drewN | apply Kd.R_drew)); exact (Kd.R_mono (Kd.R_far (p := ⟨gb450, 2, none⟩) (Kd.R_far (p := ⟨gb450, 1, none⟩) (Kd.R_far (p := ⟨gb450, 0, none⟩) (Kd.R_types HO439.out BK450.out (by decide)) (fun _ hk => hk.2) (.slice Ao29 t443.length co29)) (fun _ hk => hk.2) (.slice Ao33 t446.length co33)) (fun _ hk => hk.2) (.int .i64 t449)) (fun _ h_ => h_.1))))) (Kd.R_lt (by (with_reducible repeat (first | apply Kd.R_alloc | apply Kd.R_drewN | apply Kd.R_drew)); exact (Kd.R_mono (Kd.R_far (p := ⟨gb450, 2, none⟩) (Kd.R_far (p := ⟨gb450, 1, none⟩) (Kd.R_far (p := ⟨gb450, 0, none⟩) (Kd.R_types HO445.out BK450.out (by decide)) (fun _ hk => hk.2) (.slice Ao29 t443.length co29)) (fun _ hk => hk.2) (.slice Ao33 t446.length co33)) (fun _ hk => hk.2) (.int .i64 t449)) (fun _ h_ => h_.1))))) (Kd.R_lt (by (with_reducible repeat (first | apply Kd.R_alloc | apply Kd.R_drewN | apply Kd.R_drew)); exact (Kd.R_mono (Kd.R_far (p := ⟨gb450, 2, none⟩) (Kd.R_far (p := ⟨gb450, 1, none⟩) (Kd.R_far (p := ⟨gb450, 0, none⟩) (Kd.R_types HO448.out BK450.out (by decide)) (fun _ hk => hk.2) (.slice Ao29 t443.length co29)) (fun _ hk => hk.2) (.slice Ao33 t446.length co33)) (fun _ hk => hk.2) (.int .i64 t449)) (fun _ h_ => h_.1))))) (below_size KB)); have n7_ := Aside0.mk (Kd.R_lower (Kd.R_new' (Kd.R_new' (Kd.R_new' (Kd.R_new' (Kd.R_new' (Kd.R_new' ho1 (Kd.R_lt (by (with_reducible repeat (first | apply Kd.R_alloc | apply Kd.R_drewN | apply Kd.R_drew)); exact (Kd.R_mono (Kd.R_far (p := ⟨gb450, 2, none⟩) (Kd.R_far (p := ⟨gb450, 1, none⟩) (Kd.R_far (p := ⟨gb450, 0, none⟩) (Kd.R_types HO429.out BK450.out (by decide)) (fun _ hk => hk.2) (.slice Ao29 t443.length co29)) (fun _ hk => hk.2) (.slice Ao33 t446.length co33)) (fun _ hk => hk.2) (.int .i64 t449)) (fun _ h_ => h_.1))))) (Kd.R_lt (by (with_reducible repeat (first | apply Kd.R_alloc | apply Kd.R_drewN | apply Kd.R_drew)); exact (Kd.R_mono (Kd.R_far (p := ⟨gb450, 2, none⟩) (Kd.R_far (p := ⟨gb450, 1, none⟩) (Kd.R_far (p := ⟨gb450, 0, none⟩) (Kd.R_types HO432.out BK450.out (by decide)) (fun _ hk => hk.2) (.slice Ao29 t443.length co29)) (fun _ hk => hk.2) (.slice Ao33 t446.length co33)) (fun _ hk => hk.2) (.int .i64 t449)) (fun _ h_ => h_.1))))) (Kd.R_lt (by (with_reducible repeat (first | apply Kd.R_alloc | apply Kd.R_drewN | apply Kd.R_drew)); exact (Kd.R_mono (Kd.R_far (p := ⟨gb450, 2, none⟩) (Kd.R_far (p := ⟨gb450, 1, none⟩) (Kd.R_far (p := ⟨gb450, 0, none⟩) (Kd.R_types HO436.out BK450.out (by decide)) (fun _ hk => hk.2) (.slice Ao29 t443.length co29)) (fun _ hk => hk.2) (.slice Ao33 t446.length co33)) (fun _ hk => hk.2) (.int .i64 t449)) (fun _ h_ => h_.1))))) (Kd.R_lt (by (with_reducible repeat (first | apply Kd.R_alloc | apply Kd.R_drewN | apply Kd.R_drew)); exact (Kd.R_mono (Kd.R_far (p := ⟨gb450, 2, none⟩) (Kd.R_far (p := ⟨gb450, 1, none⟩) (Kd.R_far (p := ⟨gb450, 0, none⟩) (Kd.R_types HO439.out BK450.out (by decide)) (fun _ hk => hk.2) (.slice Ao29 t443.length co29)) (fun _ hk => hk.2) (.slice Ao33 t446.length co33)) (fun _ hk => hk.2) (.int .i64 t449)) (fun _ h_ => h_.1))))) (Kd.R_lt (by (with_reducible repeat (first | apply Kd.R_alloc | apply Kd.R_drewN | apply Kd.R_drew)); exact (Kd.R_mono (Kd.R_far (p := ⟨gb450, 2, none⟩) (Kd.R_far (p := ⟨gb450, 1, none⟩) (Kd.R_far (p := ⟨gb450, 0, none⟩) (Kd.R_types HO445.out BK450.out (by decide)) (fun _ hk => hk.2) (.slice Ao29 t443.length co29)) (fun _ hk => hk.2) (.slice Ao33 t446.length co33)) (fun _ hk => hk.2) (.int .i64 t449)) (fun _ h_ => h_.1))))) (Kd.R_lt (by (with_reducible repeat (first | apply Kd.R_alloc | apply Kd.R_drewN | apply Kd.R_drew)); exact (Kd.R_mono (Kd.R_far (p := ⟨gb450, 2, none⟩) (Kd.R_far (p := ⟨gb450, 1, none⟩) (Kd.R_far (p := ⟨gb450, 0, none⟩) (Kd.R_types HO448.out BK450.out (by decide)) (fun _ hk => hk.2) (.slice Ao29 t443.length co29)) (fun _ hk => hk.2) (.slice Ao33 t446.length co33)) (fun _ hk => hk.2) (.int .i64 t449)) (fun _ h_ => h_.1))))) (below_size KB)); have n8_ := Aside0.mk (blk_below (g := gb425) (o := .cells #[.slice A0_0 l0_0.length c0_0, .slice A0_1 l0_1.length c0_1, .int .i64 a0_2] 24 (0, 0)) KK hb); have n9_ := Aside0.mk (blk_below (g := gb442) (o := .cells #[.slice Ao22 t434.length co22, .slice Ao25 t437.length co25, .int .i64 t440] 29 (0, 0)) KK hb); have n10_ := Aside0.mk (blk_below (g := gb450) (o := .cells #[.slice Ao29 t443.length co29, .slice Ao33 t446.length co33, .int .i64 t449] 29 (0, 0)) (by (with_reducible repeat (first | refine blk_drewN ?_ _ | refine blk_drew ?_ | refine blk_alloc ?_ _)); refine blk_put (cs := #[.slice Ao29 t443.length co29, .slice Ao33 t446.length co33, .int .i64 0]) ?_ 2 _ rfl; (with_reducible repeat (first | refine blk_drewN ?_ _ | refine blk_drew ?_ | refine blk_alloc ?_ _)); refine blk_put (cs := #[.slice Ao29 t443.length co29, .slice none 0 0, .int .i64 0]) ?_ 1 _ rfl; (with_reducible repeat (first | refine blk_drewN ?_ _ | refine blk_drew ?_ | refine blk_alloc ?_ _)); refine blk_put (cs := #[.slice none 0 0, .slice none 0 0, .int .i64 0]) ?_ 0 _ rfl; (with_reducible repeat (first | refine blk_drewN ?_ _ | refine blk_drew ?_ | refine blk_alloc ?_ _)); exact BK450.out) hb); have n11_ := Aside0.mk (below_step KB hb); clear HO429; clear HO432; clear HO436; clear HO439; clear HO445; clear HO448; clear BK425; clear BK442; clear BK450; clear HB; have HO429 := n0_; have HO432 := n1_; have HO436 := n2_; have HO439 := n3_; have HO445 := n4_; have HO448 := n5_; have HO453 := n6_; have HO456 := n7_; have BK425 := n8_; have BK442 := n9_; have BK450 := n10_; have HB := n11_; clear n0_ n1_ n2_ n3_ n4_ n5_ n6_ n7_ n8_ n9_ n10_ n11_; (try clear hb); (try clear hb2); (try clear hk); (try clear hi); (try clear ho0); (try clear ho1)) | ((with_reducible refine gate_dst (N := 9) rfl ?_); refine box_event ?hg (N := 9) ?hd (cs := #[.slice none 0 0, .slice none 0 0, .int .i64 0]) (t := 29) ?hr ?_; (case hd => rfl); (case hg => rfl); (case hr => first | (go_simp; done) | (go_simp; rfl)); intro gb459 hg w35 hbox hb; have n0_ := Aside0.mk (Kd.R_below (KR HO429.out) hb); have n1_ := Aside0.mk (Kd.R_below (KR HO432.out) hb); have n2_ := Aside0.mk (Kd.R_below (KR HO436.out) hb); have n3_ := Aside0.mk (Kd.R_below (KR HO439.out) hb); have n4_ := Aside0.mk (Kd.R_below (KR HO445.out) hb); have n5_ := Aside0.mk (Kd.R_below (KR HO448.out) hb); have n6_ := Aside0.mk (Kd.R_below (KR HO453.out) hb); have n7_ := Aside0.mk (Kd.R_below (KR HO456.out) hb); have n8_ := Aside0.mk (blk_below (g := gb425) (o := .cells #[.slice A0_0 l0_0.length c0_0, .slice A0_1 l0_1.length c0_1, .int .i64 a0_2] 24 (0, 0)) KK hb); have n9_ := Aside0.mk (blk_below (g := gb442) (o := .cells #[.slice Ao22 t434.length co22, .slice Ao25 t437.length co25, .int .i64 t440] 29 (0, 0)) KK hb); have n10_ := Aside0.mk (blk_below (g := gb450) (o := .cells #[.slice Ao29 t443.length co29, .slice Ao33 t446.length co33, .int .i64 t449] 29 (0, 0)) KK hb); have n11_ := Aside0.mk (below_step KB hb); have n12_ := Aside0.mk (hbox); have n13_ := Aside0.mk ((KG hg : w.heap.size ≤ gb459)); have n14_ := Aside0.mk ((KG hg : w.heap.size ≤ gb459)); have n15_ := Aside0.mk ((by rw [hg]; exact Nat.ne_of_lt (blk_lt (g := gb425) (o := .cells #[.slice A0_0 l0_0.length c0_0, .slice A0_1 l0_1.length c0_1, .int .i64 a0_2] 24 (0, 0)) KK) : gb425 ≠ gb459)); have n16_ := Aside0.mk ((by rw [hg]; exact Nat.ne_of_gt (blk_lt (g := gb425) (o := .cells #[.slice A0_0 l0_0.length c0_0, .slice A0_1 l0_1.length c0_1, .int .i64 a0_2] 24 (0, 0)) KK) : gb459 ≠ gb425)); have n17_ := Aside0.mk ((by rw [hg]; exact Nat.ne_of_lt (blk_lt (g := gb442) (o := .cells #[.slice Ao22 t434.length co22, .slice Ao25 t437.length co25, .int .i64 t440] 29 (0, 0)) KK) : gb442 ≠ gb459)); have n18_ := Aside0.mk ((by rw [hg]; exact Nat.ne_of_gt (blk_lt (g := gb442) (o := .cells #[.slice Ao22 t434.length co22, .slice Ao25 t437.length co25, .int .i64 t440] 29 (0, 0)) KK) : gb459 ≠ gb442)); have n19_ := Aside0.mk ((by rw [hg]; exact Nat.ne_of_lt (blk_lt (g := gb450) (o := .cells #[.slice Ao29 t443.length co29, .slice Ao33 t446.length co33, .int .i64 t449] 29 (0, 0)) KK) : gb450 ≠ gb459)); have n20_ := Aside0.mk ((by rw [hg]; exact Nat.ne_of_gt (blk_lt (g := gb450) (o := .cells #[.slice Ao29 t443.length co29, .slice Ao33 t446.length co33, .int .i64 t449] 29 (0, 0)) KK) : gb459 ≠ gb450)); clear HO429; clear HO432; clear HO436; clear HO439; clear HO445; clear HO448; clear HO453; clear HO456; clear BK425; clear BK442; clear BK450; clear HB; have HO429 := n0_; have HO432 := n1_; have HO436 := n2_; have HO439 := n3_; have HO445 := n4_; have HO448 := n5_; have HO453 := n6_; have HO456 := n7_; have BK425 := n8_; have BK442 := n9_; have BK450 := n10_; have HB := n11_; have BK459 := n12_; have GW459 := n13_; have GE459 := n14_; have NB425_459 := n15_; have NB459_425 := n16_; have NB442_459 := n17_; have NB459_442 := n18_; have NB450_459 := n19_; have NB459_450 := n20_; clear n0_ n1_ n2_ n3_ n4_ n5_ n6_ n7_ n8_ n9_ n10_ n11_ n12_ n13_ n14_ n15_ n16_ n17_ n18_ n19_ n20_; clear hb hbox hg; obtain ⟨Ao36, co36, eo36⟩ := Kd.R_slice HO453.out; subst eo36; have hnb37 := NB459_425.out; have hnc37 := NB425_459.out; have hnb38 := NB459_442.out; have hnc38 := NB442_459.out; have hnb39 := NB459_450.out; have hnc39 := NB450_459.out; have hcz40_0 : w35.cell? ⟨gb459, 0, none⟩ = some (.slice none 0 0) := (blk_cell BK459.out 0).trans rfl; have hcz40_1 : w35.cell? ⟨gb459, 1, none⟩ = some (.slice none 0 0) := (blk_cell BK459.out 1).trans rfl; have hcz40_2 : w35.cell? ⟨gb459, 2, none⟩ = some (.int .i64 0) := (blk_cell BK459.out 2).trans rfl; have hfz40_0 := blk_frozen BK459.out 0; have hfz40_1 := blk_frozen BK459.out 1; have hfz40_2 := blk_frozen BK459.out 2; obtain ⟨Ao41, co41, eo41⟩ := Kd.R_slice HO456.out; subst eo41))
  (try simp only [Act.put, List.setIfInBounds_toArray, List.set_cons_zero, List.set_cons_succ])
  go_cut [44] (fun v44 wc => ∃ (kq : Nat) (x44_11 : Bool), v44 = .bool x44_11 ∧ Aside0 (laws_FnExactStoreSeal.j0 kq a1 t441 t458 x44_11 l0_0 l0_1 a0_2 t434 t437 t440 t443 t446 t449 t451 t454 t457 = some r) ∧ Aside0 (kq ≤ k) ∧ Aside0 (Kd.R k34 34 wc w.heap.size (fun k_ => some k_ ≠ ((.slice Ao25 t437.length co25) : Value).ownBlock ∧ some k_ ≠ ((.slice Ao29 t443.length co29) : Value).ownBlock ∧ some k_ ≠ ((.slice Ao33 t446.length co33) : Value).ownBlock ∧ some k_ ≠ ((.slice Ao36 t451.length co36) : Value).ownBlock ∧ some k_ ≠ ((.slice Ao41 t454.length co41) : Value).ownBlock) (.slice Ao22 t434.length co22) t434) ∧ Aside0 (Kd.R k34 34 wc w.heap.size (fun k_ => some k_ ≠ ((.slice Ao22 t434.length co22) : Value).ownBlock ∧ some k_ ≠ ((.slice Ao29 t443.length co29) : Value).ownBlock ∧ some k_ ≠ ((.slice Ao33 t446.length co33) : Value).ownBlock ∧ some k_ ≠ ((.slice Ao36 t451.length co36) : Value).ownBlock ∧ some k_ ≠ ((.slice Ao41 t454.length co41) : Value).ownBlock) (.slice Ao25 t437.length co25) t437) ∧ Aside0 (Kd.R k34 34 wc w.heap.size (fun k_ => some k_ ≠ ((.slice Ao22 t434.length co22) : Value).ownBlock ∧ some k_ ≠ ((.slice Ao25 t437.length co25) : Value).ownBlock ∧ some k_ ≠ ((.slice Ao33 t446.length co33) : Value).ownBlock ∧ some k_ ≠ ((.slice Ao36 t451.length co36) : Value).ownBlock ∧ some k_ ≠ ((.slice Ao41 t454.length co41) : Value).ownBlock) (.slice Ao29 t443.length co29) t443) ∧ Aside0 (Kd.R k34 34 wc w.heap.size (fun k_ => some k_ ≠ ((.slice Ao22 t434.length co22) : Value).ownBlock ∧ some k_ ≠ ((.slice Ao25 t437.length co25) : Value).ownBlock ∧ some k_ ≠ ((.slice Ao29 t443.length co29) : Value).ownBlock ∧ some k_ ≠ ((.slice Ao36 t451.length co36) : Value).ownBlock ∧ some k_ ≠ ((.slice Ao41 t454.length co41) : Value).ownBlock) (.slice Ao33 t446.length co33) t446) ∧ Aside0 (Kd.R k34 34 wc w.heap.size (fun k_ => some k_ ≠ ((.slice Ao22 t434.length co22) : Value).ownBlock ∧ some k_ ≠ ((.slice Ao25 t437.length co25) : Value).ownBlock ∧ some k_ ≠ ((.slice Ao29 t443.length co29) : Value).ownBlock ∧ some k_ ≠ ((.slice Ao33 t446.length co33) : Value).ownBlock ∧ some k_ ≠ ((.slice Ao41 t454.length co41) : Value).ownBlock) (.slice Ao36 t451.length co36) t451) ∧ Aside0 (Kd.R k34 34 wc w.heap.size (fun k_ => some k_ ≠ ((.slice Ao22 t434.length co22) : Value).ownBlock ∧ some k_ ≠ ((.slice Ao25 t437.length co25) : Value).ownBlock ∧ some k_ ≠ ((.slice Ao29 t443.length co29) : Value).ownBlock ∧ some k_ ≠ ((.slice Ao33 t446.length co33) : Value).ownBlock ∧ some k_ ≠ ((.slice Ao36 t451.length co36) : Value).ownBlock) (.slice Ao41 t454.length co41) t454) ∧ Aside0 (wc.heap[gb425]? = some (.cells #[(.slice A0_0 l0_0.length c0_0), (.slice A0_1 l0_1.length c0_1), .int .i64 a0_2] 24 (0, 0))) ∧ Aside0 (wc.heap[gb442]? = some (.cells #[(.slice Ao22 t434.length co22), (.slice Ao25 t437.length co25), .int .i64 t440] 29 (0, 0))) ∧ Aside0 (wc.heap[gb450]? = some (.cells #[(.slice Ao29 t443.length co29), (.slice Ao33 t446.length co33), .int .i64 t449] 29 (0, 0))) ∧ Aside0 (wc.heap[gb459]? = some (.cells #[(.slice Ao36 t451.length co36), (.slice Ao41 t454.length co41), .int .i64 t457] 29 (0, 0))) ∧ Aside0 (Below w.heap.size w wc))
  case first =>
   have H := HC12.out
   clear HC12
   replace H := Option.bind_eq_some_iff.mp H
   obtain ⟨t460, A420, H⟩ := H
   replace H : (if t460 = true then (laws_FnExactStoreSeal.j0 k a1 t441 t458 (t458 != t441) l0_0 l0_1 a0_2 t434 t437 t440 t443 t446 t449 t451 t454 t457) else (laws_FnExactStoreSeal.j0 k a1 t441 t458 true l0_0 l0_1 a0_2 t434 t437 t440 t443 t446 t449 t451 t454 t457)) = some r := H
   have A42 := Aside0.mk A420
   clear A420
   by_cases c43 : t460 = true
   ·subst c43
    have H1 : (laws_FnExactStoreSeal.j0 k a1 t441 t458 (t458 != t441) l0_0 l0_1 a0_2 t434 t437 t440 t443 t446 t449 t451 t454 t457) = some r := by rw [if_pos rfl] at H; exact H
    clear H
    have H := H1
    clear H1
    have H' := Aside0.mk H
    clear H
    have hnb44 := NB459_425.out
    have hnc44 := NB425_459.out
    have hnb45 := NB459_442.out
    have hnc45 := NB442_459.out
    have hnb46 := NB459_450.out
    have hnc46 := NB450_459.out
    have hcz47_0 : w35.cell? ⟨gb459, 0, none⟩ = some (.slice none 0 0) := (blk_cell BK459.out 0).trans rfl
    have hcz47_1 : w35.cell? ⟨gb459, 1, none⟩ = some (.slice none 0 0) := (blk_cell BK459.out 1).trans rfl
    have hcz47_2 : w35.cell? ⟨gb459, 2, none⟩ = some (.int .i64 0) := (blk_cell BK459.out 2).trans rfl
    have hfz47_0 := blk_frozen BK459.out 0
    have hfz47_1 := blk_frozen BK459.out 1
    have hfz47_2 := blk_frozen BK459.out 2
    have hnb48 := NB442_425.out
    have hnc48 := NB425_442.out
    have hnb49 := NB442_450.out
    have hnc49 := NB450_442.out
    have hcz50_0 : w35.cell? ⟨gb442, 0, none⟩ = some (.slice Ao22 t434.length co22) := (blk_cell BK442.out 0).trans rfl
    have hcz50_1 : w35.cell? ⟨gb442, 1, none⟩ = some (.slice Ao25 t437.length co25) := (blk_cell BK442.out 1).trans rfl
    have hcz50_2 : w35.cell? ⟨gb442, 2, none⟩ = some (.int .i64 t440) := (blk_cell BK442.out 2).trans rfl
    have hfz50_0 := blk_frozen BK442.out 0
    have hfz50_1 := blk_frozen BK442.out 1
    have hfz50_2 := blk_frozen BK442.out 2
    go_wp2_with (first | ((with_reducible refine gate_callee (f := 19) rfl ?_); refine goesL_ (some 38) rfl rfl Try.func19 (by kernel_rfl) rfl #[.agg #[.slice Ao36 t451.length co36, .slice Ao41 t454.length co41, .int .i64 t457], .agg #[.slice Ao22 t434.length co22, .slice Ao25 t437.length co25, .int .i64 t440]] rfl KL ?_; (with_reducible refine (laws_eqStore.calls k _ _ t451 _ _ t454 t457 _ _ t434 _ _ t437 t440 true _ ?side1 ?side2 ?side3 ?side4 ?side5 ?side6 ?side7 ?side8 A42.out).mono ?_); (case side1 => refine (Kd.R_reads' (e := 34) (base := w.heap.size) (ok := fun k_ => ((((((some k_ ≠ (.slice Ao41 t454.length co41 : Value).ownBlock ∧ some k_ ≠ (.slice Ao18 t427.length co18 : Value).ownBlock) ∧ some k_ ≠ (.slice Ao19 t430.length co19 : Value).ownBlock) ∧ some k_ ≠ (.slice Ao22 t434.length co22 : Value).ownBlock) ∧ some k_ ≠ (.slice Ao25 t437.length co25 : Value).ownBlock) ∧ some k_ ≠ (.slice Ao29 t443.length co29 : Value).ownBlock) ∧ some k_ ≠ (.slice Ao33 t446.length co33 : Value).ownBlock)) (n := t451.length) (c := co36) ?_).2.2; exact (by (with_reducible repeat (first | apply Kd.R_alloc | apply Kd.R_drewN | apply Kd.R_drew)); exact (Kd.R_mono (Kd.R_far (p := ⟨gb459, 2, none⟩) (Kd.R_far (p := ⟨gb459, 1, none⟩) (Kd.R_far (p := ⟨gb459, 0, none⟩) (Kd.R_types HO453.out BK459.out (by decide)) (fun _ hk => hk.2) (.slice Ao36 t451.length co36)) (fun _ hk => hk.2) (.slice Ao41 t454.length co41)) (fun _ hk => hk.2) (.int .i64 t457)) (fun _ h_ => h_.1)))); (case side2 => exact (Kd.R_reads' HO453.out).2.1); (case side3 => refine (Kd.R_reads' (e := 34) (base := w.heap.size) (ok := fun k_ => ((((((some k_ ≠ (.slice Ao36 t451.length co36 : Value).ownBlock ∧ some k_ ≠ (.slice Ao18 t427.length co18 : Value).ownBlock) ∧ some k_ ≠ (.slice Ao19 t430.length co19 : Value).ownBlock) ∧ some k_ ≠ (.slice Ao22 t434.length co22 : Value).ownBlock) ∧ some k_ ≠ (.slice Ao25 t437.length co25 : Value).ownBlock) ∧ some k_ ≠ (.slice Ao29 t443.length co29 : Value).ownBlock) ∧ some k_ ≠ (.slice Ao33 t446.length co33 : Value).ownBlock)) (n := t454.length) (c := co41) ?_).2.2; exact (by (with_reducible repeat (first | apply Kd.R_alloc | apply Kd.R_drewN | apply Kd.R_drew)); exact (Kd.R_mono (Kd.R_far (p := ⟨gb459, 2, none⟩) (Kd.R_far (p := ⟨gb459, 1, none⟩) (Kd.R_far (p := ⟨gb459, 0, none⟩) (Kd.R_types HO456.out BK459.out (by decide)) (fun _ hk => hk.2) (.slice Ao36 t451.length co36)) (fun _ hk => hk.2) (.slice Ao41 t454.length co41)) (fun _ hk => hk.2) (.int .i64 t457)) (fun _ h_ => h_.1)))); (case side4 => exact (Kd.R_reads' HO456.out).2.1); (case side5 => refine (Kd.R_reads' (e := 34) (base := w.heap.size) (ok := fun k_ => ((((((some k_ ≠ (.slice Ao25 t437.length co25 : Value).ownBlock ∧ some k_ ≠ (.slice Ao18 t427.length co18 : Value).ownBlock) ∧ some k_ ≠ (.slice Ao19 t430.length co19 : Value).ownBlock) ∧ some k_ ≠ (.slice Ao29 t443.length co29 : Value).ownBlock) ∧ some k_ ≠ (.slice Ao33 t446.length co33 : Value).ownBlock) ∧ some k_ ≠ (.slice Ao36 t451.length co36 : Value).ownBlock) ∧ some k_ ≠ (.slice Ao41 t454.length co41 : Value).ownBlock)) (n := t434.length) (c := co22) ?_).2.2; exact (by (with_reducible repeat (first | apply Kd.R_alloc | apply Kd.R_drewN | apply Kd.R_drew)); exact (Kd.R_mono (Kd.R_far (p := ⟨gb459, 2, none⟩) (Kd.R_far (p := ⟨gb459, 1, none⟩) (Kd.R_far (p := ⟨gb459, 0, none⟩) (Kd.R_types HO436.out BK459.out (by decide)) (fun _ hk => hk.2) (.slice Ao36 t451.length co36)) (fun _ hk => hk.2) (.slice Ao41 t454.length co41)) (fun _ hk => hk.2) (.int .i64 t457)) (fun _ h_ => h_.1)))); (case side6 => exact (Kd.R_reads' HO436.out).2.1); (case side7 => refine (Kd.R_reads' (e := 34) (base := w.heap.size) (ok := fun k_ => ((((((some k_ ≠ (.slice Ao22 t434.length co22 : Value).ownBlock ∧ some k_ ≠ (.slice Ao18 t427.length co18 : Value).ownBlock) ∧ some k_ ≠ (.slice Ao19 t430.length co19 : Value).ownBlock) ∧ some k_ ≠ (.slice Ao29 t443.length co29 : Value).ownBlock) ∧ some k_ ≠ (.slice Ao33 t446.length co33 : Value).ownBlock) ∧ some k_ ≠ (.slice Ao36 t451.length co36 : Value).ownBlock) ∧ some k_ ≠ (.slice Ao41 t454.length co41 : Value).ownBlock)) (n := t437.length) (c := co25) ?_).2.2; exact (by (with_reducible repeat (first | apply Kd.R_alloc | apply Kd.R_drewN | apply Kd.R_drew)); exact (Kd.R_mono (Kd.R_far (p := ⟨gb459, 2, none⟩) (Kd.R_far (p := ⟨gb459, 1, none⟩) (Kd.R_far (p := ⟨gb459, 0, none⟩) (Kd.R_types HO439.out BK459.out (by decide)) (fun _ hk => hk.2) (.slice Ao36 t451.length co36)) (fun _ hk => hk.2) (.slice Ao41 t454.length co41)) (fun _ hk => hk.2) (.int .i64 t457)) (fun _ h_ => h_.1)))); (case side8 => exact (Kd.R_reads' HO439.out).2.1); rintro e w51 ⟨rfl, hb⟩; refine ⟨_, rfl, ?_⟩; have n0_ := Aside0.mk (Kd.R_below (by (with_reducible repeat (first | apply Kd.R_alloc | apply Kd.R_drewN | apply Kd.R_drew)); exact (Kd.R_mono (Kd.R_far (p := ⟨gb459, 2, none⟩) (Kd.R_far (p := ⟨gb459, 1, none⟩) (Kd.R_far (p := ⟨gb459, 0, none⟩) (Kd.R_types HO429.out BK459.out (by decide)) (fun _ hk => hk.2) (.slice Ao36 t451.length co36)) (fun _ hk => hk.2) (.slice Ao41 t454.length co41)) (fun _ hk => hk.2) (.int .i64 t457)) (fun _ h_ => h_.1))) hb); have n1_ := Aside0.mk (Kd.R_below (by (with_reducible repeat (first | apply Kd.R_alloc | apply Kd.R_drewN | apply Kd.R_drew)); exact (Kd.R_mono (Kd.R_far (p := ⟨gb459, 2, none⟩) (Kd.R_far (p := ⟨gb459, 1, none⟩) (Kd.R_far (p := ⟨gb459, 0, none⟩) (Kd.R_types HO432.out BK459.out (by decide)) (fun _ hk => hk.2) (.slice Ao36 t451.length co36)) (fun _ hk => hk.2) (.slice Ao41 t454.length co41)) (fun _ hk => hk.2) (.int .i64 t457)) (fun _ h_ => h_.1))) hb); have n2_ := Aside0.mk (Kd.R_below (by (with_reducible repeat (first | apply Kd.R_alloc | apply Kd.R_drewN | apply Kd.R_drew)); exact (Kd.R_mono (Kd.R_far (p := ⟨gb459, 2, none⟩) (Kd.R_far (p := ⟨gb459, 1, none⟩) (Kd.R_far (p := ⟨gb459, 0, none⟩) (Kd.R_types HO436.out BK459.out (by decide)) (fun _ hk => hk.2) (.slice Ao36 t451.length co36)) (fun _ hk => hk.2) (.slice Ao41 t454.length co41)) (fun _ hk => hk.2) (.int .i64 t457)) (fun _ h_ => h_.1))) hb); have n3_ := Aside0.mk (Kd.R_below (by (with_reducible repeat (first | apply Kd.R_alloc | apply Kd.R_drewN | apply Kd.R_drew)); exact (Kd.R_mono (Kd.R_far (p := ⟨gb459, 2, none⟩) (Kd.R_far (p := ⟨gb459, 1, none⟩) (Kd.R_far (p := ⟨gb459, 0, none⟩) (Kd.R_types HO439.out BK459.out (by decide)) (fun _ hk => hk.2) (.slice Ao36 t451.length co36)) (fun _ hk => hk.2) (.slice Ao41 t454.length co41)) (fun _ hk => hk.2) (.int .i64 t457)) (fun _ h_ => h_.1))) hb); have n4_ := Aside0.mk (Kd.R_below (by (with_reducible repeat (first | apply Kd.R_alloc | apply Kd.R_drewN | apply Kd.R_drew)); exact (Kd.R_mono (Kd.R_far (p := ⟨gb459, 2, none⟩) (Kd.R_far (p := ⟨gb459, 1, none⟩) (Kd.R_far (p := ⟨gb459, 0, none⟩) (Kd.R_types HO445.out BK459.out (by decide)) (fun _ hk => hk.2) (.slice Ao36 t451.length co36)) (fun _ hk => hk.2) (.slice Ao41 t454.length co41)) (fun _ hk => hk.2) (.int .i64 t457)) (fun _ h_ => h_.1))) hb); have n5_ := Aside0.mk (Kd.R_below (by (with_reducible repeat (first | apply Kd.R_alloc | apply Kd.R_drewN | apply Kd.R_drew)); exact (Kd.R_mono (Kd.R_far (p := ⟨gb459, 2, none⟩) (Kd.R_far (p := ⟨gb459, 1, none⟩) (Kd.R_far (p := ⟨gb459, 0, none⟩) (Kd.R_types HO448.out BK459.out (by decide)) (fun _ hk => hk.2) (.slice Ao36 t451.length co36)) (fun _ hk => hk.2) (.slice Ao41 t454.length co41)) (fun _ hk => hk.2) (.int .i64 t457)) (fun _ h_ => h_.1))) hb); have n6_ := Aside0.mk (Kd.R_below (by (with_reducible repeat (first | apply Kd.R_alloc | apply Kd.R_drewN | apply Kd.R_drew)); exact (Kd.R_mono (Kd.R_far (p := ⟨gb459, 2, none⟩) (Kd.R_far (p := ⟨gb459, 1, none⟩) (Kd.R_far (p := ⟨gb459, 0, none⟩) (Kd.R_types HO453.out BK459.out (by decide)) (fun _ hk => hk.2) (.slice Ao36 t451.length co36)) (fun _ hk => hk.2) (.slice Ao41 t454.length co41)) (fun _ hk => hk.2) (.int .i64 t457)) (fun _ h_ => h_.1))) hb); have n7_ := Aside0.mk (Kd.R_below (by (with_reducible repeat (first | apply Kd.R_alloc | apply Kd.R_drewN | apply Kd.R_drew)); exact (Kd.R_mono (Kd.R_far (p := ⟨gb459, 2, none⟩) (Kd.R_far (p := ⟨gb459, 1, none⟩) (Kd.R_far (p := ⟨gb459, 0, none⟩) (Kd.R_types HO456.out BK459.out (by decide)) (fun _ hk => hk.2) (.slice Ao36 t451.length co36)) (fun _ hk => hk.2) (.slice Ao41 t454.length co41)) (fun _ hk => hk.2) (.int .i64 t457)) (fun _ h_ => h_.1))) hb); have n8_ := Aside0.mk (blk_below (g := gb425) (o := .cells #[.slice A0_0 l0_0.length c0_0, .slice A0_1 l0_1.length c0_1, .int .i64 a0_2] 24 (0, 0)) KK hb); have n9_ := Aside0.mk (blk_below (g := gb442) (o := .cells #[.slice Ao22 t434.length co22, .slice Ao25 t437.length co25, .int .i64 t440] 29 (0, 0)) KK hb); have n10_ := Aside0.mk (blk_below (g := gb450) (o := .cells #[.slice Ao29 t443.length co29, .slice Ao33 t446.length co33, .int .i64 t449] 29 (0, 0)) KK hb); have n11_ := Aside0.mk (blk_below (g := gb459) (o := .cells #[.slice Ao36 t451.length co36, .slice Ao41 t454.length co41, .int .i64 t457] 29 (0, 0)) (by (with_reducible repeat (first | refine blk_drewN ?_ _ | refine blk_drew ?_ | refine blk_alloc ?_ _)); refine blk_put (cs := #[.slice Ao36 t451.length co36, .slice Ao41 t454.length co41, .int .i64 0]) ?_ 2 _ rfl; (with_reducible repeat (first | refine blk_drewN ?_ _ | refine blk_drew ?_ | refine blk_alloc ?_ _)); refine blk_put (cs := #[.slice Ao36 t451.length co36, .slice none 0 0, .int .i64 0]) ?_ 1 _ rfl; (with_reducible repeat (first | refine blk_drewN ?_ _ | refine blk_drew ?_ | refine blk_alloc ?_ _)); refine blk_put (cs := #[.slice none 0 0, .slice none 0 0, .int .i64 0]) ?_ 0 _ rfl; (with_reducible repeat (first | refine blk_drewN ?_ _ | refine blk_drew ?_ | refine blk_alloc ?_ _)); exact BK459.out) hb); have n12_ := Aside0.mk (below_step KB hb); clear HO429; clear HO432; clear HO436; clear HO439; clear HO445; clear HO448; clear HO453; clear HO456; clear BK425; clear BK442; clear BK450; clear BK459; clear HB; have HO429 := n0_; have HO432 := n1_; have HO436 := n2_; have HO439 := n3_; have HO445 := n4_; have HO448 := n5_; have HO453 := n6_; have HO456 := n7_; have BK425 := n8_; have BK442 := n9_; have BK450 := n10_; have BK459 := n11_; have HB := n12_; clear n0_ n1_ n2_ n3_ n4_ n5_ n6_ n7_ n8_ n9_ n10_ n11_ n12_; (try clear hb); (try clear hb2); (try clear hk); (try clear hi)))
    go_meet
    case rel => exact ⟨_, ((t458 != t441)), (by first | rfl | (simp; done) | (simp [*]; done)), H', ⟨by first | omega | exact Nat.le_refl _⟩, ⟨by (with_reducible repeat (first | apply Kd.R_alloc | apply Kd.R_drewN | apply Kd.R_drew)); exact Kd.R_mono HO436.out (fun _ hk => ⟨hk.1.1.1.1.1.1, ⟨hk.1.1.1.2, ⟨hk.1.1.2, ⟨hk.1.2, hk.2⟩⟩⟩⟩)⟩, ⟨by (with_reducible repeat (first | apply Kd.R_alloc | apply Kd.R_drewN | apply Kd.R_drew)); exact Kd.R_mono HO439.out (fun _ hk => ⟨hk.1.1.1.1.1.1, ⟨hk.1.1.1.2, ⟨hk.1.1.2, ⟨hk.1.2, hk.2⟩⟩⟩⟩)⟩, ⟨by (with_reducible repeat (first | apply Kd.R_alloc | apply Kd.R_drewN | apply Kd.R_drew)); exact Kd.R_mono HO445.out (fun _ hk => ⟨hk.1.1.1.2, ⟨hk.1.1.2, ⟨hk.1.1.1.1.1.1, ⟨hk.1.2, hk.2⟩⟩⟩⟩)⟩, ⟨by (with_reducible repeat (first | apply Kd.R_alloc | apply Kd.R_drewN | apply Kd.R_drew)); exact Kd.R_mono HO448.out (fun _ hk => ⟨hk.1.1.1.2, ⟨hk.1.1.2, ⟨hk.1.1.1.1.1.1, ⟨hk.1.2, hk.2⟩⟩⟩⟩)⟩, ⟨by (with_reducible repeat (first | apply Kd.R_alloc | apply Kd.R_drewN | apply Kd.R_drew)); exact Kd.R_mono HO453.out (fun _ hk => ⟨hk.1.1.1.2, ⟨hk.1.1.2, ⟨hk.1.2, ⟨hk.2, hk.1.1.1.1.1.1⟩⟩⟩⟩)⟩, ⟨by (with_reducible repeat (first | apply Kd.R_alloc | apply Kd.R_drewN | apply Kd.R_drew)); exact Kd.R_mono HO456.out (fun _ hk => ⟨hk.1.1.1.2, ⟨hk.1.1.2, ⟨hk.1.2, ⟨hk.2, hk.1.1.1.1.1.1⟩⟩⟩⟩)⟩, ⟨KK⟩, ⟨KK⟩, ⟨KK⟩, ⟨KK⟩, ⟨KB⟩⟩
   ·replace c43 := Bool.eq_false_iff.mpr c43
    subst c43
    have H1 : (laws_FnExactStoreSeal.j0 k a1 t441 t458 true l0_0 l0_1 a0_2 t434 t437 t440 t443 t446 t449 t451 t454 t457) = some r := by rw [if_neg (show ¬ (false = true) by decide)] at H; exact H
    clear H
    have H := H1
    clear H1
    have H' := Aside0.mk H
    clear H
    have hnb52 := NB459_425.out
    have hnc52 := NB425_459.out
    have hnb53 := NB459_442.out
    have hnc53 := NB442_459.out
    have hnb54 := NB459_450.out
    have hnc54 := NB450_459.out
    have hcz55_0 : w35.cell? ⟨gb459, 0, none⟩ = some (.slice none 0 0) := (blk_cell BK459.out 0).trans rfl
    have hcz55_1 : w35.cell? ⟨gb459, 1, none⟩ = some (.slice none 0 0) := (blk_cell BK459.out 1).trans rfl
    have hcz55_2 : w35.cell? ⟨gb459, 2, none⟩ = some (.int .i64 0) := (blk_cell BK459.out 2).trans rfl
    have hfz55_0 := blk_frozen BK459.out 0
    have hfz55_1 := blk_frozen BK459.out 1
    have hfz55_2 := blk_frozen BK459.out 2
    have hnb56 := NB442_425.out
    have hnc56 := NB425_442.out
    have hnb57 := NB442_450.out
    have hnc57 := NB450_442.out
    have hcz58_0 : w35.cell? ⟨gb442, 0, none⟩ = some (.slice Ao22 t434.length co22) := (blk_cell BK442.out 0).trans rfl
    have hcz58_1 : w35.cell? ⟨gb442, 1, none⟩ = some (.slice Ao25 t437.length co25) := (blk_cell BK442.out 1).trans rfl
    have hcz58_2 : w35.cell? ⟨gb442, 2, none⟩ = some (.int .i64 t440) := (blk_cell BK442.out 2).trans rfl
    have hfz58_0 := blk_frozen BK442.out 0
    have hfz58_1 := blk_frozen BK442.out 1
    have hfz58_2 := blk_frozen BK442.out 2
    go_wp2_with (first | ((with_reducible refine gate_callee (f := 19) rfl ?_); refine goesL_ (some 38) rfl rfl Try.func19 (by kernel_rfl) rfl #[.agg #[.slice Ao36 t451.length co36, .slice Ao41 t454.length co41, .int .i64 t457], .agg #[.slice Ao22 t434.length co22, .slice Ao25 t437.length co25, .int .i64 t440]] rfl KL ?_; (with_reducible refine (laws_eqStore.calls k _ _ t451 _ _ t454 t457 _ _ t434 _ _ t437 t440 false _ ?side1 ?side2 ?side3 ?side4 ?side5 ?side6 ?side7 ?side8 A42.out).mono ?_); (case side1 => refine (Kd.R_reads' (e := 34) (base := w.heap.size) (ok := fun k_ => ((((((some k_ ≠ (.slice Ao41 t454.length co41 : Value).ownBlock ∧ some k_ ≠ (.slice Ao18 t427.length co18 : Value).ownBlock) ∧ some k_ ≠ (.slice Ao19 t430.length co19 : Value).ownBlock) ∧ some k_ ≠ (.slice Ao22 t434.length co22 : Value).ownBlock) ∧ some k_ ≠ (.slice Ao25 t437.length co25 : Value).ownBlock) ∧ some k_ ≠ (.slice Ao29 t443.length co29 : Value).ownBlock) ∧ some k_ ≠ (.slice Ao33 t446.length co33 : Value).ownBlock)) (n := t451.length) (c := co36) ?_).2.2; exact (by (with_reducible repeat (first | apply Kd.R_alloc | apply Kd.R_drewN | apply Kd.R_drew)); exact (Kd.R_mono (Kd.R_far (p := ⟨gb459, 2, none⟩) (Kd.R_far (p := ⟨gb459, 1, none⟩) (Kd.R_far (p := ⟨gb459, 0, none⟩) (Kd.R_types HO453.out BK459.out (by decide)) (fun _ hk => hk.2) (.slice Ao36 t451.length co36)) (fun _ hk => hk.2) (.slice Ao41 t454.length co41)) (fun _ hk => hk.2) (.int .i64 t457)) (fun _ h_ => h_.1)))); (case side2 => exact (Kd.R_reads' HO453.out).2.1); (case side3 => refine (Kd.R_reads' (e := 34) (base := w.heap.size) (ok := fun k_ => ((((((some k_ ≠ (.slice Ao36 t451.length co36 : Value).ownBlock ∧ some k_ ≠ (.slice Ao18 t427.length co18 : Value).ownBlock) ∧ some k_ ≠ (.slice Ao19 t430.length co19 : Value).ownBlock) ∧ some k_ ≠ (.slice Ao22 t434.length co22 : Value).ownBlock) ∧ some k_ ≠ (.slice Ao25 t437.length co25 : Value).ownBlock) ∧ some k_ ≠ (.slice Ao29 t443.length co29 : Value).ownBlock) ∧ some k_ ≠ (.slice Ao33 t446.length co33 : Value).ownBlock)) (n := t454.length) (c := co41) ?_).2.2; exact (by (with_reducible repeat (first | apply Kd.R_alloc | apply Kd.R_drewN | apply Kd.R_drew)); exact (Kd.R_mono (Kd.R_far (p := ⟨gb459, 2, none⟩) (Kd.R_far (p := ⟨gb459, 1, none⟩) (Kd.R_far (p := ⟨gb459, 0, none⟩) (Kd.R_types HO456.out BK459.out (by decide)) (fun _ hk => hk.2) (.slice Ao36 t451.length co36)) (fun _ hk => hk.2) (.slice Ao41 t454.length co41)) (fun _ hk => hk.2) (.int .i64 t457)) (fun _ h_ => h_.1)))); (case side4 => exact (Kd.R_reads' HO456.out).2.1); (case side5 => refine (Kd.R_reads' (e := 34) (base := w.heap.size) (ok := fun k_ => ((((((some k_ ≠ (.slice Ao25 t437.length co25 : Value).ownBlock ∧ some k_ ≠ (.slice Ao18 t427.length co18 : Value).ownBlock) ∧ some k_ ≠ (.slice Ao19 t430.length co19 : Value).ownBlock) ∧ some k_ ≠ (.slice Ao29 t443.length co29 : Value).ownBlock) ∧ some k_ ≠ (.slice Ao33 t446.length co33 : Value).ownBlock) ∧ some k_ ≠ (.slice Ao36 t451.length co36 : Value).ownBlock) ∧ some k_ ≠ (.slice Ao41 t454.length co41 : Value).ownBlock)) (n := t434.length) (c := co22) ?_).2.2; exact (by (with_reducible repeat (first | apply Kd.R_alloc | apply Kd.R_drewN | apply Kd.R_drew)); exact (Kd.R_mono (Kd.R_far (p := ⟨gb459, 2, none⟩) (Kd.R_far (p := ⟨gb459, 1, none⟩) (Kd.R_far (p := ⟨gb459, 0, none⟩) (Kd.R_types HO436.out BK459.out (by decide)) (fun _ hk => hk.2) (.slice Ao36 t451.length co36)) (fun _ hk => hk.2) (.slice Ao41 t454.length co41)) (fun _ hk => hk.2) (.int .i64 t457)) (fun _ h_ => h_.1)))); (case side6 => exact (Kd.R_reads' HO436.out).2.1); (case side7 => refine (Kd.R_reads' (e := 34) (base := w.heap.size) (ok := fun k_ => ((((((some k_ ≠ (.slice Ao22 t434.length co22 : Value).ownBlock ∧ some k_ ≠ (.slice Ao18 t427.length co18 : Value).ownBlock) ∧ some k_ ≠ (.slice Ao19 t430.length co19 : Value).ownBlock) ∧ some k_ ≠ (.slice Ao29 t443.length co29 : Value).ownBlock) ∧ some k_ ≠ (.slice Ao33 t446.length co33 : Value).ownBlock) ∧ some k_ ≠ (.slice Ao36 t451.length co36 : Value).ownBlock) ∧ some k_ ≠ (.slice Ao41 t454.length co41 : Value).ownBlock)) (n := t437.length) (c := co25) ?_).2.2; exact (by (with_reducible repeat (first | apply Kd.R_alloc | apply Kd.R_drewN | apply Kd.R_drew)); exact (Kd.R_mono (Kd.R_far (p := ⟨gb459, 2, none⟩) (Kd.R_far (p := ⟨gb459, 1, none⟩) (Kd.R_far (p := ⟨gb459, 0, none⟩) (Kd.R_types HO439.out BK459.out (by decide)) (fun _ hk => hk.2) (.slice Ao36 t451.length co36)) (fun _ hk => hk.2) (.slice Ao41 t454.length co41)) (fun _ hk => hk.2) (.int .i64 t457)) (fun _ h_ => h_.1)))); (case side8 => exact (Kd.R_reads' HO439.out).2.1); rintro e w59 ⟨rfl, hb⟩; refine ⟨_, rfl, ?_⟩; have n0_ := Aside0.mk (Kd.R_below (by (with_reducible repeat (first | apply Kd.R_alloc | apply Kd.R_drewN | apply Kd.R_drew)); exact (Kd.R_mono (Kd.R_far (p := ⟨gb459, 2, none⟩) (Kd.R_far (p := ⟨gb459, 1, none⟩) (Kd.R_far (p := ⟨gb459, 0, none⟩) (Kd.R_types HO429.out BK459.out (by decide)) (fun _ hk => hk.2) (.slice Ao36 t451.length co36)) (fun _ hk => hk.2) (.slice Ao41 t454.length co41)) (fun _ hk => hk.2) (.int .i64 t457)) (fun _ h_ => h_.1))) hb); have n1_ := Aside0.mk (Kd.R_below (by (with_reducible repeat (first | apply Kd.R_alloc | apply Kd.R_drewN | apply Kd.R_drew)); exact (Kd.R_mono (Kd.R_far (p := ⟨gb459, 2, none⟩) (Kd.R_far (p := ⟨gb459, 1, none⟩) (Kd.R_far (p := ⟨gb459, 0, none⟩) (Kd.R_types HO432.out BK459.out (by decide)) (fun _ hk => hk.2) (.slice Ao36 t451.length co36)) (fun _ hk => hk.2) (.slice Ao41 t454.length co41)) (fun _ hk => hk.2) (.int .i64 t457)) (fun _ h_ => h_.1))) hb); have n2_ := Aside0.mk (Kd.R_below (by (with_reducible repeat (first | apply Kd.R_alloc | apply Kd.R_drewN | apply Kd.R_drew)); exact (Kd.R_mono (Kd.R_far (p := ⟨gb459, 2, none⟩) (Kd.R_far (p := ⟨gb459, 1, none⟩) (Kd.R_far (p := ⟨gb459, 0, none⟩) (Kd.R_types HO436.out BK459.out (by decide)) (fun _ hk => hk.2) (.slice Ao36 t451.length co36)) (fun _ hk => hk.2) (.slice Ao41 t454.length co41)) (fun _ hk => hk.2) (.int .i64 t457)) (fun _ h_ => h_.1))) hb); have n3_ := Aside0.mk (Kd.R_below (by (with_reducible repeat (first | apply Kd.R_alloc | apply Kd.R_drewN | apply Kd.R_drew)); exact (Kd.R_mono (Kd.R_far (p := ⟨gb459, 2, none⟩) (Kd.R_far (p := ⟨gb459, 1, none⟩) (Kd.R_far (p := ⟨gb459, 0, none⟩) (Kd.R_types HO439.out BK459.out (by decide)) (fun _ hk => hk.2) (.slice Ao36 t451.length co36)) (fun _ hk => hk.2) (.slice Ao41 t454.length co41)) (fun _ hk => hk.2) (.int .i64 t457)) (fun _ h_ => h_.1))) hb); have n4_ := Aside0.mk (Kd.R_below (by (with_reducible repeat (first | apply Kd.R_alloc | apply Kd.R_drewN | apply Kd.R_drew)); exact (Kd.R_mono (Kd.R_far (p := ⟨gb459, 2, none⟩) (Kd.R_far (p := ⟨gb459, 1, none⟩) (Kd.R_far (p := ⟨gb459, 0, none⟩) (Kd.R_types HO445.out BK459.out (by decide)) (fun _ hk => hk.2) (.slice Ao36 t451.length co36)) (fun _ hk => hk.2) (.slice Ao41 t454.length co41)) (fun _ hk => hk.2) (.int .i64 t457)) (fun _ h_ => h_.1))) hb); have n5_ := Aside0.mk (Kd.R_below (by (with_reducible repeat (first | apply Kd.R_alloc | apply Kd.R_drewN | apply Kd.R_drew)); exact (Kd.R_mono (Kd.R_far (p := ⟨gb459, 2, none⟩) (Kd.R_far (p := ⟨gb459, 1, none⟩) (Kd.R_far (p := ⟨gb459, 0, none⟩) (Kd.R_types HO448.out BK459.out (by decide)) (fun _ hk => hk.2) (.slice Ao36 t451.length co36)) (fun _ hk => hk.2) (.slice Ao41 t454.length co41)) (fun _ hk => hk.2) (.int .i64 t457)) (fun _ h_ => h_.1))) hb); have n6_ := Aside0.mk (Kd.R_below (by (with_reducible repeat (first | apply Kd.R_alloc | apply Kd.R_drewN | apply Kd.R_drew)); exact (Kd.R_mono (Kd.R_far (p := ⟨gb459, 2, none⟩) (Kd.R_far (p := ⟨gb459, 1, none⟩) (Kd.R_far (p := ⟨gb459, 0, none⟩) (Kd.R_types HO453.out BK459.out (by decide)) (fun _ hk => hk.2) (.slice Ao36 t451.length co36)) (fun _ hk => hk.2) (.slice Ao41 t454.length co41)) (fun _ hk => hk.2) (.int .i64 t457)) (fun _ h_ => h_.1))) hb); have n7_ := Aside0.mk (Kd.R_below (by (with_reducible repeat (first | apply Kd.R_alloc | apply Kd.R_drewN | apply Kd.R_drew)); exact (Kd.R_mono (Kd.R_far (p := ⟨gb459, 2, none⟩) (Kd.R_far (p := ⟨gb459, 1, none⟩) (Kd.R_far (p := ⟨gb459, 0, none⟩) (Kd.R_types HO456.out BK459.out (by decide)) (fun _ hk => hk.2) (.slice Ao36 t451.length co36)) (fun _ hk => hk.2) (.slice Ao41 t454.length co41)) (fun _ hk => hk.2) (.int .i64 t457)) (fun _ h_ => h_.1))) hb); have n8_ := Aside0.mk (blk_below (g := gb425) (o := .cells #[.slice A0_0 l0_0.length c0_0, .slice A0_1 l0_1.length c0_1, .int .i64 a0_2] 24 (0, 0)) KK hb); have n9_ := Aside0.mk (blk_below (g := gb442) (o := .cells #[.slice Ao22 t434.length co22, .slice Ao25 t437.length co25, .int .i64 t440] 29 (0, 0)) KK hb); have n10_ := Aside0.mk (blk_below (g := gb450) (o := .cells #[.slice Ao29 t443.length co29, .slice Ao33 t446.length co33, .int .i64 t449] 29 (0, 0)) KK hb); have n11_ := Aside0.mk (blk_below (g := gb459) (o := .cells #[.slice Ao36 t451.length co36, .slice Ao41 t454.length co41, .int .i64 t457] 29 (0, 0)) (by (with_reducible repeat (first | refine blk_drewN ?_ _ | refine blk_drew ?_ | refine blk_alloc ?_ _)); refine blk_put (cs := #[.slice Ao36 t451.length co36, .slice Ao41 t454.length co41, .int .i64 0]) ?_ 2 _ rfl; (with_reducible repeat (first | refine blk_drewN ?_ _ | refine blk_drew ?_ | refine blk_alloc ?_ _)); refine blk_put (cs := #[.slice Ao36 t451.length co36, .slice none 0 0, .int .i64 0]) ?_ 1 _ rfl; (with_reducible repeat (first | refine blk_drewN ?_ _ | refine blk_drew ?_ | refine blk_alloc ?_ _)); refine blk_put (cs := #[.slice none 0 0, .slice none 0 0, .int .i64 0]) ?_ 0 _ rfl; (with_reducible repeat (first | refine blk_drewN ?_ _ | refine blk_drew ?_ | refine blk_alloc ?_ _)); exact BK459.out) hb); have n12_ := Aside0.mk (below_step KB hb); clear HO429; clear HO432; clear HO436; clear HO439; clear HO445; clear HO448; clear HO453; clear HO456; clear BK425; clear BK442; clear BK450; clear BK459; clear HB; have HO429 := n0_; have HO432 := n1_; have HO436 := n2_; have HO439 := n3_; have HO445 := n4_; have HO448 := n5_; have HO453 := n6_; have HO456 := n7_; have BK425 := n8_; have BK442 := n9_; have BK450 := n10_; have BK459 := n11_; have HB := n12_; clear n0_ n1_ n2_ n3_ n4_ n5_ n6_ n7_ n8_ n9_ n10_ n11_ n12_; (try clear hb); (try clear hb2); (try clear hk); (try clear hi)))
    go_meet
    case rel => exact ⟨_, (true), (by first | rfl | (simp; done) | (simp [*]; done)), H', ⟨by first | omega | exact Nat.le_refl _⟩, ⟨by (with_reducible repeat (first | apply Kd.R_alloc | apply Kd.R_drewN | apply Kd.R_drew)); exact Kd.R_mono HO436.out (fun _ hk => ⟨hk.1.1.1.1.1.1, ⟨hk.1.1.1.2, ⟨hk.1.1.2, ⟨hk.1.2, hk.2⟩⟩⟩⟩)⟩, ⟨by (with_reducible repeat (first | apply Kd.R_alloc | apply Kd.R_drewN | apply Kd.R_drew)); exact Kd.R_mono HO439.out (fun _ hk => ⟨hk.1.1.1.1.1.1, ⟨hk.1.1.1.2, ⟨hk.1.1.2, ⟨hk.1.2, hk.2⟩⟩⟩⟩)⟩, ⟨by (with_reducible repeat (first | apply Kd.R_alloc | apply Kd.R_drewN | apply Kd.R_drew)); exact Kd.R_mono HO445.out (fun _ hk => ⟨hk.1.1.1.2, ⟨hk.1.1.2, ⟨hk.1.1.1.1.1.1, ⟨hk.1.2, hk.2⟩⟩⟩⟩)⟩, ⟨by (with_reducible repeat (first | apply Kd.R_alloc | apply Kd.R_drewN | apply Kd.R_drew)); exact Kd.R_mono HO448.out (fun _ hk => ⟨hk.1.1.1.2, ⟨hk.1.1.2, ⟨hk.1.1.1.1.1.1, ⟨hk.1.2, hk.2⟩⟩⟩⟩)⟩, ⟨by (with_reducible repeat (first | apply Kd.R_alloc | apply Kd.R_drewN | apply Kd.R_drew)); exact Kd.R_mono HO453.out (fun _ hk => ⟨hk.1.1.1.2, ⟨hk.1.1.2, ⟨hk.1.2, ⟨hk.2, hk.1.1.1.1.1.1⟩⟩⟩⟩)⟩, ⟨by (with_reducible repeat (first | apply Kd.R_alloc | apply Kd.R_drewN | apply Kd.R_drew)); exact Kd.R_mono HO456.out (fun _ hk => ⟨hk.1.1.1.2, ⟨hk.1.1.2, ⟨hk.1.2, ⟨hk.2, hk.1.1.1.1.1.1⟩⟩⟩⟩)⟩, ⟨KK⟩, ⟨KK⟩, ⟨KK⟩, ⟨KK⟩, ⟨KB⟩⟩
  case rest =>
   clear HC12
   try clear c1
   try clear c2
   try clear p2
   try clear c3
   try clear c4
   try clear c4b0
   try clear c5
   try clear c11
   try clear c15
   try clear c17
   try clear c19
   try clear c23
   try clear c30
   try clear c31
   try clear c37
   try clear c38
   try clear c39
   try clear c43
   try clear c44
   try clear c45
   try clear c46
   try clear c48
   try clear c49
   try clear c52
   try clear c53
   try clear c54
   try clear c56
   try clear c57
   try clear hcz14_0
   try clear hcz14_1
   try clear hcz14_2
   try clear hcz16_0
   try clear hcz16_1
   try clear hcz16_2
   try clear hcz24_0
   try clear hcz24_1
   try clear hcz24_2
   try clear hcz26_0
   try clear hcz26_1
   try clear hcz26_2
   try clear hcz32_0
   try clear hcz32_1
   try clear hcz32_2
   try clear hcz40_0
   try clear hcz40_1
   try clear hcz40_2
   try clear hcz47_0
   try clear hcz47_1
   try clear hcz47_2
   try clear hcz50_0
   try clear hcz50_1
   try clear hcz50_2
   try clear hcz55_0
   try clear hcz55_1
   try clear hcz55_2
   try clear hcz58_0
   try clear hcz58_1
   try clear hcz58_2
   try clear hcz6_0
   try clear hcz6_1
   try clear hcz6_2
   try clear hfz14_0
   try clear hfz14_1
   try clear hfz14_2
   try clear hfz16_0
   try clear hfz16_1
   try clear hfz16_2
   try clear hfz24_0
   try clear hfz24_1
   try clear hfz24_2
   try clear hfz26_0
   try clear hfz26_1
   try clear hfz26_2
   try clear hfz32_0
   try clear hfz32_1
   try clear hfz32_2
   try clear hfz40_0
   try clear hfz40_1
   try clear hfz40_2
   try clear hfz47_0
   try clear hfz47_1
   try clear hfz47_2
   try clear hfz50_0
   try clear hfz50_1
   try clear hfz50_2
   try clear hfz55_0
   try clear hfz55_1
   try clear hfz55_2
   try clear hfz58_0
   try clear hfz58_1
   try clear hfz58_2
   try clear hfz6_0
   try clear hfz6_1
   try clear hfz6_2
   obtain ⟨kq, x44_11, rfl, HA, HJ11, HO_443000, HO_443001, HO_451000, HO_451001, HO_460000, HO_460001, BK425, BK442, BK450, BK459, HB⟩ := hcut
   cases kq with
   | zero => exact absurd HA.out (by simp [laws_FnExactStoreSeal.j0])
   | succ kj11 =>
    have H := HA.out
    clear HA
    simp only [laws_FnExactStoreSeal.j0] at H
    by_cases c60 : x44_11 = true
    ·subst c60
     have H1 : (none) = some r := by rw [if_pos rfl] at H; exact H
     clear H
     have H := H1
     clear H1
     exact absurd H (by simp)
    ·replace c60 := Bool.eq_false_iff.mpr c60
     subst c60
     have H1 : ((laws_toStore.f kj11 l0_0 l0_1 a0_2).bind fun bt461 => ((laws_eqStore.f kj11 t443 t446 t449 bt461.1 bt461.2.1 bt461.2.2).bind fun t468 => (if t468 = true then ((laws_markStore.f kj11 t443 t446 t449 1).bind fun bt469 => (if bt469.1 < 0 then (laws_FnExactStoreSeal.j1 kj11 a1 t441 true l0_0 l0_1 a0_2 t434 t437 t440 t451 t454 t457) else ((laws_eqStore.f kj11 t451 t454 t457 t434 t437 t440).bind fun t472 => (if t472 = true then (laws_FnExactStoreSeal.j1 kj11 a1 t441 (t458 != t441) l0_0 l0_1 a0_2 t434 t437 t440 t451 t454 t457) else (laws_FnExactStoreSeal.j1 kj11 a1 t441 true l0_0 l0_1 a0_2 t434 t437 t440 t451 t454 t457))))) else (none)))) = some r := by rw [if_neg (show ¬ (false = true) by decide)] at H; exact H
     clear H
     have H := H1
     clear H1
     replace H := Option.bind_eq_some_iff.mp H
     obtain ⟨⟨t461, t464, t467⟩, A610, H⟩ := H
     replace H : ((laws_eqStore.f kj11 t443 t446 t449 t461 t464 t467).bind fun t468 => (if t468 = true then ((laws_markStore.f kj11 t443 t446 t449 1).bind fun bt469 => (if bt469.1 < 0 then (laws_FnExactStoreSeal.j1 kj11 a1 t441 true l0_0 l0_1 a0_2 t434 t437 t440 t451 t454 t457) else ((laws_eqStore.f kj11 t451 t454 t457 t434 t437 t440).bind fun t472 => (if t472 = true then (laws_FnExactStoreSeal.j1 kj11 a1 t441 (t458 != t441) l0_0 l0_1 a0_2 t434 t437 t440 t451 t454 t457) else (laws_FnExactStoreSeal.j1 kj11 a1 t441 true l0_0 l0_1 a0_2 t434 t437 t440 t451 t454 t457))))) else (none))) = some r := H
     have A61 := Aside0.mk A610
     clear A610
     replace H := Option.bind_eq_some_iff.mp H
     obtain ⟨t468, A620, H⟩ := H
     replace H : (if t468 = true then ((laws_markStore.f kj11 t443 t446 t449 1).bind fun bt469 => (if bt469.1 < 0 then (laws_FnExactStoreSeal.j1 kj11 a1 t441 true l0_0 l0_1 a0_2 t434 t437 t440 t451 t454 t457) else ((laws_eqStore.f kj11 t451 t454 t457 t434 t437 t440).bind fun t472 => (if t472 = true then (laws_FnExactStoreSeal.j1 kj11 a1 t441 (t458 != t441) l0_0 l0_1 a0_2 t434 t437 t440 t451 t454 t457) else (laws_FnExactStoreSeal.j1 kj11 a1 t441 true l0_0 l0_1 a0_2 t434 t437 t440 t451 t454 t457))))) else (none)) = some r := H
     have A62 := Aside0.mk A620
     clear A620
     by_cases c63 : t468 = true
     ·subst c63
      have H1 : ((laws_markStore.f kj11 t443 t446 t449 1).bind fun bt469 => (if bt469.1 < 0 then (laws_FnExactStoreSeal.j1 kj11 a1 t441 true l0_0 l0_1 a0_2 t434 t437 t440 t451 t454 t457) else ((laws_eqStore.f kj11 t451 t454 t457 t434 t437 t440).bind fun t472 => (if t472 = true then (laws_FnExactStoreSeal.j1 kj11 a1 t441 (t458 != t441) l0_0 l0_1 a0_2 t434 t437 t440 t451 t454 t457) else (laws_FnExactStoreSeal.j1 kj11 a1 t441 true l0_0 l0_1 a0_2 t434 t437 t440 t451 t454 t457))))) = some r := by rw [if_pos rfl] at H; exact H
      clear H
      have H := H1
      clear H1
      replace H := Option.bind_eq_some_iff.mp H
      obtain ⟨⟨t469, t470, t471⟩, A640, H⟩ := H
      replace H : (if t469 < 0 then (laws_FnExactStoreSeal.j1 kj11 a1 t441 true l0_0 l0_1 a0_2 t434 t437 t440 t451 t454 t457) else ((laws_eqStore.f kj11 t451 t454 t457 t434 t437 t440).bind fun t472 => (if t472 = true then (laws_FnExactStoreSeal.j1 kj11 a1 t441 (t458 != t441) l0_0 l0_1 a0_2 t434 t437 t440 t451 t454 t457) else (laws_FnExactStoreSeal.j1 kj11 a1 t441 true l0_0 l0_1 a0_2 t434 t437 t440 t451 t454 t457)))) = some r := H
      have A64 := Aside0.mk A640
      clear A640
      have HC65 := Aside0.mk H
      clear H
      try go_wp2
      have n0_ := Aside0.mk (Kd.R_drew HO_443000.out)
      have n1_ := Aside0.mk (Kd.R_drew HO_443001.out)
      have n2_ := Aside0.mk (Kd.R_drew HO_451000.out)
      have n3_ := Aside0.mk (Kd.R_drew HO_451001.out)
      have n4_ := Aside0.mk (Kd.R_drew HO_460000.out)
      have n5_ := Aside0.mk (Kd.R_drew HO_460001.out)
      have n6_ := Aside0.mk (blk_drew BK425.out)
      have n7_ := Aside0.mk (blk_drew BK442.out)
      have n8_ := Aside0.mk (blk_drew BK450.out)
      have n9_ := Aside0.mk (blk_drew BK459.out)
      have n10_ := Aside0.mk (below_drew1 HB.out)
      clear HO_443000
      clear HO_443001
      clear HO_451000
      clear HO_451001
      clear HO_460000
      clear HO_460001
      clear BK425
      clear BK442
      clear BK450
      clear BK459
      clear HB
      have HO_443000 := n0_
      have HO_443001 := n1_
      have HO_451000 := n2_
      have HO_451001 := n3_
      have HO_460000 := n4_
      have HO_460001 := n5_
      have BK425 := n6_
      have BK442 := n7_
      have BK450 := n8_
      have BK459 := n9_
      have HB := n10_
      clear n0_ n1_ n2_ n3_ n4_ n5_ n6_ n7_ n8_ n9_ n10_
      refine start_ (n := 5) (S := fun w' => w'.cell? ⟨gb450, 0, none⟩ = some (.slice Ao29 t443.length co29) ∧ w'.cell? ⟨gb450, 1, none⟩ = some (.slice Ao33 t446.length co33) ∧ w'.cell? ⟨gb450, 2, none⟩ = some (.int .i64 t449) ∧ w'.cell? ⟨gb425, 0, none⟩ = some (.slice A0_0 l0_0.length c0_0) ∧ w'.cell? ⟨gb425, 1, none⟩ = some (.slice A0_1 l0_1.length c0_1) ∧ w'.cell? ⟨gb425, 2, none⟩ = some (.int .i64 a0_2)) (ds := []) #[false, false, false, false, false] (by kernel_rfl) rfl rfl ⟨(blk_cell BK450.out 0).trans rfl, (blk_cell BK450.out 1).trans rfl, (blk_cell BK450.out 2).trans rfl, (blk_cell BK425.out 0).trans rfl, (blk_cell BK425.out 1).trans rfl, (blk_cell BK425.out 2).trans rfl⟩ (fun hHeld => ?_)
      generalize wc.drew = w66 at HO_443000 HO_443001 HO_451000 HO_451001 HO_460000 HO_460001 BK425 BK442 BK450 BK459 HB hHeld ⊢
      refine take_ (i := 0) (N := some 45) (v := ?_) (a' := ?_) #[true, false, false, false, false] rfl rfl (by kernel_rfl) (fun _ _ _ h => h) (Or.inl ⟨by rfl, ?_⟩) hHeld ?_ ?_
      rotate_left
      ·rintro w' ⟨s0, s1, s2, s3, s4, s5⟩
       go_simp
       with_reducible rfl
      rotate_left
      ·simp only [Act.put, List.setIfInBounds_toArray, List.set_cons_zero, List.set_cons_succ, i64_w, i32_w]
       rfl
      refine take_ (i := 1) (N := some 46) (v := ?_) (a' := ?_) #[true, true, false, false, false] rfl rfl (by kernel_rfl) (fun _ _ _ h => h) (Or.inl ⟨by rfl, ?_⟩) hHeld ?_ ?_
      rotate_left
      ·rintro w' ⟨s0, s1, s2, s3, s4, s5⟩
       go_simp
       with_reducible rfl
      rotate_left
      ·simp only [Act.put, List.setIfInBounds_toArray, List.set_cons_zero, List.set_cons_succ, i64_w, i32_w]
       rfl
      refine one_ (i := 2) (N := some 47) #[true, true, true, false, false] rfl rfl (by kernel_rfl) (by decide) (fun K hK => ?_)
      refine goes_ Try.func17 (by kernel_rfl) rfl #[.agg #[.slice A0_0 l0_0.length c0_0, .slice A0_1 l0_1.length c0_1, .int .i64 a0_2]] (by rfl) rfl rfl KL ?_
      with_reducible refine (laws_toStore.calls kj11 _ _ l0_0 _ _ l0_1 a0_2 t461 t464 t467 _ ?side1 ?side2 ?side3 ?side4 A61.out).mono ?_
      (case side1 => exact KD (Kd.C_below HR0_0.out HB.out))
      (case side2 => exact HC0_0.out)
      (case side3 => exact KD (Kd.C_below HR0_1.out HB.out))
      (case side4 => exact HC0_1.out)
      rintro e w67 ⟨v462, v465, rfl, ho0, ho1, hb⟩
      refine ⟨_, rfl, ?_⟩
      have n0_ := Aside0.mk (Kd.R_mono (Kd.R_told (Kd.R_told (Kd.R_old (KR HO_443000.out) hb) (Kd.R_base ho0)) (Kd.R_base ho1)) (fun _ h_ => h_.1))
      have n1_ := Aside0.mk (Kd.R_mono (Kd.R_told (Kd.R_told (Kd.R_old (KR HO_443001.out) hb) (Kd.R_base ho0)) (Kd.R_base ho1)) (fun _ h_ => h_.1))
      have n2_ := Aside0.mk (Kd.R_mono (Kd.R_told (Kd.R_told (Kd.R_old (KR HO_451000.out) hb) (Kd.R_base ho0)) (Kd.R_base ho1)) (fun _ h_ => h_.1))
      have n3_ := Aside0.mk (Kd.R_mono (Kd.R_told (Kd.R_told (Kd.R_old (KR HO_451001.out) hb) (Kd.R_base ho0)) (Kd.R_base ho1)) (fun _ h_ => h_.1))
      have n4_ := Aside0.mk (Kd.R_mono (Kd.R_told (Kd.R_told (Kd.R_old (KR HO_460000.out) hb) (Kd.R_base ho0)) (Kd.R_base ho1)) (fun _ h_ => h_.1))
      have n5_ := Aside0.mk (Kd.R_mono (Kd.R_told (Kd.R_told (Kd.R_old (KR HO_460001.out) hb) (Kd.R_base ho0)) (Kd.R_base ho1)) (fun _ h_ => h_.1))
      have n6_ := Aside0.mk (Kd.R_lower (Kd.R_new' (Kd.R_new' (Kd.R_new' (Kd.R_new' (Kd.R_new' (Kd.R_new' ho0 (Kd.R_lt (KR HO_443000.out))) (Kd.R_lt (KR HO_443001.out))) (Kd.R_lt (KR HO_451000.out))) (Kd.R_lt (KR HO_451001.out))) (Kd.R_lt (KR HO_460000.out))) (Kd.R_lt (KR HO_460001.out))) (below_size KB))
      have n7_ := Aside0.mk (Kd.R_lower (Kd.R_new' (Kd.R_new' (Kd.R_new' (Kd.R_new' (Kd.R_new' (Kd.R_new' ho1 (Kd.R_lt (KR HO_443000.out))) (Kd.R_lt (KR HO_443001.out))) (Kd.R_lt (KR HO_451000.out))) (Kd.R_lt (KR HO_451001.out))) (Kd.R_lt (KR HO_460000.out))) (Kd.R_lt (KR HO_460001.out))) (below_size KB))
      have n8_ := Aside0.mk (blk_below (g := gb425) (o := .cells #[.slice A0_0 l0_0.length c0_0, .slice A0_1 l0_1.length c0_1, .int .i64 a0_2] 24 (0, 0)) KK hb)
      have n9_ := Aside0.mk (blk_below (g := gb442) (o := .cells #[.slice Ao22 t434.length co22, .slice Ao25 t437.length co25, .int .i64 t440] 29 (0, 0)) KK hb)
      have n10_ := Aside0.mk (blk_below (g := gb450) (o := .cells #[.slice Ao29 t443.length co29, .slice Ao33 t446.length co33, .int .i64 t449] 29 (0, 0)) KK hb)
      have n11_ := Aside0.mk (blk_below (g := gb459) (o := .cells #[.slice Ao36 t451.length co36, .slice Ao41 t454.length co41, .int .i64 t457] 29 (0, 0)) KK hb)
      have n12_ := Aside0.mk (below_step KB hb)
      clear HO_443000
      clear HO_443001
      clear HO_451000
      clear HO_451001
      clear HO_460000
      clear HO_460001
      clear BK425
      clear BK442
      clear BK450
      clear BK459
      clear HB
      have HO_443000 := n0_
      have HO_443001 := n1_
      have HO_451000 := n2_
      have HO_451001 := n3_
      have HO_460000 := n4_
      have HO_460001 := n5_
      have HO463 := n6_
      have HO466 := n7_
      have BK425 := n8_
      have BK442 := n9_
      have BK450 := n10_
      have BK459 := n11_
      have HB := n12_
      clear n0_ n1_ n2_ n3_ n4_ n5_ n6_ n7_ n8_ n9_ n10_ n11_ n12_
      (try clear hb)
      (try clear hb2)
      (try clear hk)
      (try clear hi)
      (try clear ho0)
      (try clear ho1)
      obtain ⟨Ao68, co68, eo68⟩ := Kd.R_slice HO463.out
      (first | subst eo68 | (injection eo68 with f1_ f2_ f3_; have f4_ := f1_.symm; have f5_ := f3_.symm; clear f1_ f2_ f3_; subst f4_; subst f5_))
      obtain ⟨Ao69, co69, eo69⟩ := Kd.R_slice HO466.out
      (first | subst eo69 | (injection eo69 with f1_ f2_ f3_; have f4_ := f1_.symm; have f5_ := f3_.symm; clear f1_ f2_ f3_; subst f4_; subst f5_))
      refine hK.out _ _ ⟨(blk_cell BK450.out 0).trans rfl, (blk_cell BK450.out 1).trans rfl, (blk_cell BK450.out 2).trans rfl, (blk_cell BK425.out 0).trans rfl, (blk_cell BK425.out 1).trans rfl, (blk_cell BK425.out 2).trans rfl⟩ (fun hHeld => ?_)
      clear hK K
      refine norm_ (a' := ?_) ?_ ?_
      rotate_left
      ·show Act.put _ (some 47) _ = _
       simp only [Act.put, List.setIfInBounds_toArray, List.set_cons_zero, List.set_cons_succ, i64_w, i32_w]
       rfl
      refine one_ (i := 3) (N := some 48) #[true, true, true, true, false] rfl rfl (by kernel_rfl) (by decide) (fun K hK => ?_)
      refine goes_ Try.func19 (by kernel_rfl) rfl #[.agg #[.slice Ao29 t443.length co29, .slice Ao33 t446.length co33, .int .i64 t449], .agg #[.slice Ao68 t461.length co68, .slice Ao69 t464.length co69, .int .i64 t467]] (by rfl) rfl rfl KL ?_
      with_reducible refine (laws_eqStore.calls kj11 _ _ t443 _ _ t446 t449 _ _ t461 _ _ t464 t467 true _ ?side1 ?side2 ?side3 ?side4 ?side5 ?side6 ?side7 ?side8 A62.out).mono ?_
      (case side1 => repeat (first | exact (Kd.R_reads' HO_451000.out).2.2 | (with_reducible refine Kd.C_alloc ?_ _) | (with_reducible refine Kd.C_drewN ?_ _) | (with_reducible refine Kd.C_drew ?_)))
      (case side2 => exact (Kd.R_reads' HO_451000.out).2.1)
      (case side3 => repeat (first | exact (Kd.R_reads' HO_451001.out).2.2 | (with_reducible refine Kd.C_alloc ?_ _) | (with_reducible refine Kd.C_drewN ?_ _) | (with_reducible refine Kd.C_drew ?_)))
      (case side4 => exact (Kd.R_reads' HO_451001.out).2.1)
      (case side5 => repeat (first | exact (Kd.R_reads' HO463.out).2.2 | (with_reducible refine Kd.C_alloc ?_ _) | (with_reducible refine Kd.C_drewN ?_ _) | (with_reducible refine Kd.C_drew ?_)))
      (case side6 => exact (Kd.R_reads' HO463.out).2.1)
      (case side7 => repeat (first | exact (Kd.R_reads' HO466.out).2.2 | (with_reducible refine Kd.C_alloc ?_ _) | (with_reducible refine Kd.C_drewN ?_ _) | (with_reducible refine Kd.C_drew ?_)))
      (case side8 => exact (Kd.R_reads' HO466.out).2.1)
      rintro e w70 ⟨rfl, hb⟩
      refine ⟨_, rfl, ?_⟩
      have n0_ := Aside0.mk (Kd.R_below (KR HO_443000.out) hb)
      have n1_ := Aside0.mk (Kd.R_below (KR HO_443001.out) hb)
      have n2_ := Aside0.mk (Kd.R_below (KR HO_451000.out) hb)
      have n3_ := Aside0.mk (Kd.R_below (KR HO_451001.out) hb)
      have n4_ := Aside0.mk (Kd.R_below (KR HO_460000.out) hb)
      have n5_ := Aside0.mk (Kd.R_below (KR HO_460001.out) hb)
      have n6_ := Aside0.mk (Kd.R_below (KR HO463.out) hb)
      have n7_ := Aside0.mk (Kd.R_below (KR HO466.out) hb)
      have n8_ := Aside0.mk (blk_below (g := gb425) (o := .cells #[.slice A0_0 l0_0.length c0_0, .slice A0_1 l0_1.length c0_1, .int .i64 a0_2] 24 (0, 0)) KK hb)
      have n9_ := Aside0.mk (blk_below (g := gb442) (o := .cells #[.slice Ao22 t434.length co22, .slice Ao25 t437.length co25, .int .i64 t440] 29 (0, 0)) KK hb)
      have n10_ := Aside0.mk (blk_below (g := gb450) (o := .cells #[.slice Ao29 t443.length co29, .slice Ao33 t446.length co33, .int .i64 t449] 29 (0, 0)) KK hb)
      have n11_ := Aside0.mk (blk_below (g := gb459) (o := .cells #[.slice Ao36 t451.length co36, .slice Ao41 t454.length co41, .int .i64 t457] 29 (0, 0)) KK hb)
      have n12_ := Aside0.mk (below_step KB hb)
      clear HO_443000
      clear HO_443001
      clear HO_451000
      clear HO_451001
      clear HO_460000
      clear HO_460001
      clear HO463
      clear HO466
      clear BK425
      clear BK442
      clear BK450
      clear BK459
      clear HB
      have HO_443000 := n0_
      have HO_443001 := n1_
      have HO_451000 := n2_
      have HO_451001 := n3_
      have HO_460000 := n4_
      have HO_460001 := n5_
      have HO463 := n6_
      have HO466 := n7_
      have BK425 := n8_
      have BK442 := n9_
      have BK450 := n10_
      have BK459 := n11_
      have HB := n12_
      clear n0_ n1_ n2_ n3_ n4_ n5_ n6_ n7_ n8_ n9_ n10_ n11_ n12_
      (try clear hb)
      (try clear hb2)
      (try clear hk)
      (try clear hi)
      refine hK.out _ _ ⟨(blk_cell BK450.out 0).trans rfl, (blk_cell BK450.out 1).trans rfl, (blk_cell BK450.out 2).trans rfl, (blk_cell BK425.out 0).trans rfl, (blk_cell BK425.out 1).trans rfl, (blk_cell BK425.out 2).trans rfl⟩ (fun hHeld => ?_)
      clear hK K
      refine norm_ (a' := ?_) ?_ ?_
      rotate_left
      ·show Act.put _ (some 48) _ = _
       simp only [Act.put, List.setIfInBounds_toArray, List.set_cons_zero, List.set_cons_succ, i64_w, i32_w]
       rfl
      refine pure_ (i := 4) (N := some 49) (v := ?_) (a' := ?_) #[true, true, true, true, true] rfl rfl (by kernel_rfl) (fun _ _ _ h => h) (Or.inl ⟨by rfl, ?_⟩) ?_ ?_
      rotate_left
      ·intro w'
       go_simp
       with_reducible rfl
      rotate_left
      ·simp only [Act.put, List.setIfInBounds_toArray, List.set_cons_zero, List.set_cons_succ, i64_w, i32_w]
       rfl
      refine done_ (by kernel_rfl) ?_
      have hnb71 := NB450_425.out
      have hnc71 := NB425_450.out
      have hnb72 := NB450_442.out
      have hnc72 := NB442_450.out
      have hnb73 := NB450_459.out
      have hnc73 := NB459_450.out
      have hcz74_0 : w70.cell? ⟨gb450, 0, none⟩ = some (.slice Ao29 t443.length co29) := (blk_cell BK450.out 0).trans rfl
      have hcz74_1 : w70.cell? ⟨gb450, 1, none⟩ = some (.slice Ao33 t446.length co33) := (blk_cell BK450.out 1).trans rfl
      have hcz74_2 : w70.cell? ⟨gb450, 2, none⟩ = some (.int .i64 t449) := (blk_cell BK450.out 2).trans rfl
      have hfz74_0 := blk_frozen BK450.out 0
      have hfz74_1 := blk_frozen BK450.out 1
      have hfz74_2 := blk_frozen BK450.out 2
      go_upto_region 14 with (first | ((with_reducible refine gate_callee (f := 26) rfl ?_); refine goesL_ (some 52) rfl rfl Try.func26 (by kernel_rfl) rfl #[.agg #[.slice Ao29 t443.length co29, .slice Ao33 t446.length co33, .int .i64 t449], .int .i64 1] rfl KL ?_; (with_reducible refine (laws_markStore.calls kj11 (fun k_ => some k_ = (.slice Ao29 t443.length co29 : Value).ownBlock) (.slice Ao29 t443.length co29) t443 (fun k_ => some k_ = (.slice Ao33 t446.length co33 : Value).ownBlock) (.slice Ao33 t446.length co33) t446 t449 1 t469 t470 t471 w _ ?side1 ?side2 ?side3 ?side4 ?side5 A64.out).mono ?_); (case side1 => exact KB); (case side2 => exact Kd.R_tight rfl HO_451000.out); (case side3 => exact fun k_ e_ => (HO_451000.out.1 k_ e_.symm).1.1.2.2.1); (case side4 => exact Kd.R_tight rfl HO_451001.out); (case side5 => exact fun k_ e_ => (HO_451001.out.1 k_ e_.symm).1.1.2.2.1); rintro e w75 ⟨rfl, hy0, hy1, hb, hkp⟩; refine ⟨_, rfl, ?_⟩; have n0_ := Aside0.mk (Kd.R_mono (ok' := fun k_ => some k_ ≠ (.slice Ao25 t437.length co25 : Value).ownBlock ∧ some k_ ≠ (.slice Ao29 t443.length co29 : Value).ownBlock ∧ some k_ ≠ (.slice Ao33 t446.length co33 : Value).ownBlock ∧ some k_ ≠ (.slice Ao36 t451.length co36 : Value).ownBlock ∧ some k_ ≠ (.slice Ao41 t454.length co41 : Value).ownBlock ∧ some k_ ≠ (.slice Ao68 t461.length co68 : Value).ownBlock ∧ some k_ ≠ (.slice Ao69 t464.length co69 : Value).ownBlock) (Kd.R_keptB (HO_443000.out) hkp (fun k_ hk_ hs_ => Or.elim hs_ (fun e_ => (hk_.1.1.2.1) e_) (fun e_ => (hk_.1.1.2.2.1) e_))) (fun k_ hk_ => ⟨hk_.1.1.1.1, hk_.1.1.1.2.1, hk_.1.1.1.2.2.1, hk_.1.1.1.2.2.2.1, hk_.1.1.1.2.2.2.2, hk_.1.1.2, hk_.1.2⟩)); have n1_ := Aside0.mk (Kd.R_mono (ok' := fun k_ => some k_ ≠ (.slice Ao22 t434.length co22 : Value).ownBlock ∧ some k_ ≠ (.slice Ao29 t443.length co29 : Value).ownBlock ∧ some k_ ≠ (.slice Ao33 t446.length co33 : Value).ownBlock ∧ some k_ ≠ (.slice Ao36 t451.length co36 : Value).ownBlock ∧ some k_ ≠ (.slice Ao41 t454.length co41 : Value).ownBlock ∧ some k_ ≠ (.slice Ao68 t461.length co68 : Value).ownBlock ∧ some k_ ≠ (.slice Ao69 t464.length co69 : Value).ownBlock) (Kd.R_keptB (HO_443001.out) hkp (fun k_ hk_ hs_ => Or.elim hs_ (fun e_ => (hk_.1.1.2.1) e_) (fun e_ => (hk_.1.1.2.2.1) e_))) (fun k_ hk_ => ⟨hk_.1.1.1.1, hk_.1.1.1.2.1, hk_.1.1.1.2.2.1, hk_.1.1.1.2.2.2.1, hk_.1.1.1.2.2.2.2, hk_.1.1.2, hk_.1.2⟩)); have n2_ := Aside0.mk (Kd.R_reok rfl hy0 (fun k_ e_ => HO_451000.out.1 k_ e_)); have n3_ := Aside0.mk (Kd.R_reok rfl hy1 (fun k_ e_ => HO_451001.out.1 k_ e_)); have n4_ := Aside0.mk (Kd.R_mono (ok' := fun k_ => some k_ ≠ (.slice Ao22 t434.length co22 : Value).ownBlock ∧ some k_ ≠ (.slice Ao25 t437.length co25 : Value).ownBlock ∧ some k_ ≠ (.slice Ao29 t443.length co29 : Value).ownBlock ∧ some k_ ≠ (.slice Ao33 t446.length co33 : Value).ownBlock ∧ some k_ ≠ (.slice Ao41 t454.length co41 : Value).ownBlock ∧ some k_ ≠ (.slice Ao68 t461.length co68 : Value).ownBlock ∧ some k_ ≠ (.slice Ao69 t464.length co69 : Value).ownBlock) (Kd.R_keptB (HO_460000.out) hkp (fun k_ hk_ hs_ => Or.elim hs_ (fun e_ => (hk_.1.1.2.2.1) e_) (fun e_ => (hk_.1.1.2.2.2.1) e_))) (fun k_ hk_ => ⟨hk_.1.1.1.1, hk_.1.1.1.2.1, hk_.1.1.1.2.2.1, hk_.1.1.1.2.2.2.1, hk_.1.1.1.2.2.2.2, hk_.1.1.2, hk_.1.2⟩)); have n5_ := Aside0.mk (Kd.R_mono (ok' := fun k_ => some k_ ≠ (.slice Ao22 t434.length co22 : Value).ownBlock ∧ some k_ ≠ (.slice Ao25 t437.length co25 : Value).ownBlock ∧ some k_ ≠ (.slice Ao29 t443.length co29 : Value).ownBlock ∧ some k_ ≠ (.slice Ao33 t446.length co33 : Value).ownBlock ∧ some k_ ≠ (.slice Ao36 t451.length co36 : Value).ownBlock ∧ some k_ ≠ (.slice Ao68 t461.length co68 : Value).ownBlock ∧ some k_ ≠ (.slice Ao69 t464.length co69 : Value).ownBlock) (Kd.R_keptB (HO_460001.out) hkp (fun k_ hk_ hs_ => Or.elim hs_ (fun e_ => (hk_.1.1.2.2.1) e_) (fun e_ => (hk_.1.1.2.2.2.1) e_))) (fun k_ hk_ => ⟨hk_.1.1.1.1, hk_.1.1.1.2.1, hk_.1.1.1.2.2.1, hk_.1.1.1.2.2.2.1, hk_.1.1.1.2.2.2.2, hk_.1.1.2, hk_.1.2⟩)); have n6_ := Aside0.mk (blk_kept KK hkp (fun hs_ => Or.elim hs_ (fun e_ => (fun e_ => (Kd.R_ne HO_451000.out BK425.out (by decide)) e_) e_) (fun e_ => (fun e_ => (Kd.R_ne HO_451001.out BK425.out (by decide)) e_) e_))); have n7_ := Aside0.mk (blk_kept KK hkp (fun hs_ => Or.elim hs_ (fun e_ => (fun e_ => (Kd.R_ne HO_451000.out BK442.out (by decide)) e_) e_) (fun e_ => (fun e_ => (Kd.R_ne HO_451001.out BK442.out (by decide)) e_) e_))); have n8_ := Aside0.mk (blk_kept KK hkp (fun hs_ => Or.elim hs_ (fun e_ => (fun e_ => (Kd.R_ne HO_451000.out BK450.out (by decide)) e_) e_) (fun e_ => (fun e_ => (Kd.R_ne HO_451001.out BK450.out (by decide)) e_) e_))); have n9_ := Aside0.mk (blk_kept KK hkp (fun hs_ => Or.elim hs_ (fun e_ => (fun e_ => (Kd.R_ne HO_451000.out BK459.out (by decide)) e_) e_) (fun e_ => (fun e_ => (Kd.R_ne HO_451001.out BK459.out (by decide)) e_) e_))); have n10_ := Aside0.mk (Kd.R_mono (ok' := fun k_ => some k_ ≠ (.slice Ao22 t434.length co22 : Value).ownBlock ∧ some k_ ≠ (.slice Ao25 t437.length co25 : Value).ownBlock ∧ some k_ ≠ (.slice Ao29 t443.length co29 : Value).ownBlock ∧ some k_ ≠ (.slice Ao33 t446.length co33 : Value).ownBlock ∧ some k_ ≠ (.slice Ao36 t451.length co36 : Value).ownBlock ∧ some k_ ≠ (.slice Ao41 t454.length co41 : Value).ownBlock ∧ some k_ ≠ (.slice Ao69 t464.length co69 : Value).ownBlock) (Kd.R_keptB (HO463.out) hkp (fun k_ hk_ hs_ => Or.elim hs_ (fun e_ => (hk_.1.1.1.2) e_) (fun e_ => (hk_.1.1.2) e_))) (fun k_ hk_ => ⟨hk_.1.1.1.1.1.1.2, hk_.1.1.1.1.1.2, hk_.1.1.1.1.2, hk_.1.1.1.2, hk_.1.1.2, hk_.1.2, hk_.1.1.1.1.1.1.1⟩)); have n11_ := Aside0.mk (Kd.R_mono (ok' := fun k_ => some k_ ≠ (.slice Ao22 t434.length co22 : Value).ownBlock ∧ some k_ ≠ (.slice Ao25 t437.length co25 : Value).ownBlock ∧ some k_ ≠ (.slice Ao29 t443.length co29 : Value).ownBlock ∧ some k_ ≠ (.slice Ao33 t446.length co33 : Value).ownBlock ∧ some k_ ≠ (.slice Ao36 t451.length co36 : Value).ownBlock ∧ some k_ ≠ (.slice Ao41 t454.length co41 : Value).ownBlock ∧ some k_ ≠ (.slice Ao68 t461.length co68 : Value).ownBlock) (Kd.R_keptB (HO466.out) hkp (fun k_ hk_ hs_ => Or.elim hs_ (fun e_ => (hk_.1.1.1.2) e_) (fun e_ => (hk_.1.1.2) e_))) (fun k_ hk_ => ⟨hk_.1.1.1.1.1.1.2, hk_.1.1.1.1.1.2, hk_.1.1.1.1.2, hk_.1.1.1.2, hk_.1.1.2, hk_.1.2, hk_.1.1.1.1.1.1.1⟩)); have n12_ := Aside0.mk (hb); clear HO_443000; clear HO_443001; clear HO_451000; clear HO_451001; clear HO_460000; clear HO_460001; clear BK425; clear BK442; clear BK450; clear BK459; clear HO463; clear HO466; clear HB; have HO_443000 := n0_; have HO_443001 := n1_; have HO_451000 := n2_; have HO_451001 := n3_; have HO_460000 := n4_; have HO_460001 := n5_; have BK425 := n6_; have BK442 := n7_; have BK450 := n8_; have BK459 := n9_; have HO463 := n10_; have HO466 := n11_; have HB := n12_; clear n0_ n1_ n2_ n3_ n4_ n5_ n6_ n7_ n8_ n9_ n10_ n11_ n12_; (try clear hb); (try clear hkp); (try clear hy0); (try clear hy1)))
      (try simp only [Act.put, List.setIfInBounds_toArray, List.set_cons_zero, List.set_cons_succ])
      go_cut [65] (fun v65 wc => ∃ (kq : Nat) (x65_64 : Bool), v65 = .bool x65_64 ∧ Aside0 (laws_FnExactStoreSeal.j1 kq a1 t441 x65_64 l0_0 l0_1 a0_2 t434 t437 t440 t451 t454 t457 = some r) ∧ Aside0 (kq ≤ kj11) ∧ Aside0 (Kd.R k34 34 wc w.heap.size (fun k_ => some k_ ≠ ((.slice Ao25 t437.length co25) : Value).ownBlock ∧ some k_ ≠ ((.slice Ao29 t443.length co29) : Value).ownBlock ∧ some k_ ≠ ((.slice Ao33 t446.length co33) : Value).ownBlock ∧ some k_ ≠ ((.slice Ao36 t451.length co36) : Value).ownBlock ∧ some k_ ≠ ((.slice Ao41 t454.length co41) : Value).ownBlock) (.slice Ao22 t434.length co22) t434) ∧ Aside0 (Kd.R k34 34 wc w.heap.size (fun k_ => some k_ ≠ ((.slice Ao22 t434.length co22) : Value).ownBlock ∧ some k_ ≠ ((.slice Ao29 t443.length co29) : Value).ownBlock ∧ some k_ ≠ ((.slice Ao33 t446.length co33) : Value).ownBlock ∧ some k_ ≠ ((.slice Ao36 t451.length co36) : Value).ownBlock ∧ some k_ ≠ ((.slice Ao41 t454.length co41) : Value).ownBlock) (.slice Ao25 t437.length co25) t437) ∧ Aside0 (Kd.R k34 34 wc w.heap.size (fun k_ => some k_ ≠ ((.slice Ao22 t434.length co22) : Value).ownBlock ∧ some k_ ≠ ((.slice Ao25 t437.length co25) : Value).ownBlock ∧ some k_ ≠ ((.slice Ao33 t446.length co33) : Value).ownBlock ∧ some k_ ≠ ((.slice Ao36 t451.length co36) : Value).ownBlock ∧ some k_ ≠ ((.slice Ao41 t454.length co41) : Value).ownBlock) (.slice Ao29 t443.length co29) t470) ∧ Aside0 (Kd.R k34 34 wc w.heap.size (fun k_ => some k_ ≠ ((.slice Ao22 t434.length co22) : Value).ownBlock ∧ some k_ ≠ ((.slice Ao25 t437.length co25) : Value).ownBlock ∧ some k_ ≠ ((.slice Ao29 t443.length co29) : Value).ownBlock ∧ some k_ ≠ ((.slice Ao36 t451.length co36) : Value).ownBlock ∧ some k_ ≠ ((.slice Ao41 t454.length co41) : Value).ownBlock) (.slice Ao33 t446.length co33) t471) ∧ Aside0 (Kd.R k34 34 wc w.heap.size (fun k_ => some k_ ≠ ((.slice Ao22 t434.length co22) : Value).ownBlock ∧ some k_ ≠ ((.slice Ao25 t437.length co25) : Value).ownBlock ∧ some k_ ≠ ((.slice Ao29 t443.length co29) : Value).ownBlock ∧ some k_ ≠ ((.slice Ao33 t446.length co33) : Value).ownBlock ∧ some k_ ≠ ((.slice Ao41 t454.length co41) : Value).ownBlock) (.slice Ao36 t451.length co36) t451) ∧ Aside0 (Kd.R k34 34 wc w.heap.size (fun k_ => some k_ ≠ ((.slice Ao22 t434.length co22) : Value).ownBlock ∧ some k_ ≠ ((.slice Ao25 t437.length co25) : Value).ownBlock ∧ some k_ ≠ ((.slice Ao29 t443.length co29) : Value).ownBlock ∧ some k_ ≠ ((.slice Ao33 t446.length co33) : Value).ownBlock ∧ some k_ ≠ ((.slice Ao36 t451.length co36) : Value).ownBlock) (.slice Ao41 t454.length co41) t454) ∧ Aside0 (wc.heap[gb425]? = some (.cells #[(.slice A0_0 l0_0.length c0_0), (.slice A0_1 l0_1.length c0_1), .int .i64 a0_2] 24 (0, 0))) ∧ Aside0 (wc.heap[gb442]? = some (.cells #[(.slice Ao22 t434.length co22), (.slice Ao25 t437.length co25), .int .i64 t440] 29 (0, 0))) ∧ Aside0 (wc.heap[gb450]? = some (.cells #[(.slice Ao29 t443.length co29), (.slice Ao33 t446.length co33), .int .i64 t449] 29 (0, 0))) ∧ Aside0 (wc.heap[gb459]? = some (.cells #[(.slice Ao36 t451.length co36), (.slice Ao41 t454.length co41), .int .i64 t457] 29 (0, 0))) ∧ Aside0 (Below w.heap.size w wc))
      case first =>
       have H := HC65.out
       clear HC65
       by_cases c76 : t469 < 0
       ·rw [if_pos c76] at H
        have c76b0 : decide (t469 < 0) = true := decide_eq_true c76
        clear c76
        (first | rw [c76b0] | (simp only [i64_w, i32_w]; rw [c76b0]) | skip)
        have H' := Aside0.mk H
        clear H
        go_wp2
        go_meet
        case rel => exact ⟨_, (true), (by first | rfl | (simp; done) | (simp [*]; done)), H', ⟨by have := HJ11.out; first | omega | exact Nat.le_refl _⟩, ⟨by (with_reducible repeat (first | apply Kd.R_alloc | apply Kd.R_drewN | apply Kd.R_drew)); exact Kd.R_mono HO_443000.out (fun _ hk => ⟨hk.1, ⟨hk.2.1, ⟨hk.2.2.1, ⟨hk.2.2.2.1, hk.2.2.2.2.1⟩⟩⟩⟩)⟩, ⟨by (with_reducible repeat (first | apply Kd.R_alloc | apply Kd.R_drewN | apply Kd.R_drew)); exact Kd.R_mono HO_443001.out (fun _ hk => ⟨hk.1, ⟨hk.2.1, ⟨hk.2.2.1, ⟨hk.2.2.2.1, hk.2.2.2.2.1⟩⟩⟩⟩)⟩, ⟨by (with_reducible repeat (first | apply Kd.R_alloc | apply Kd.R_drewN | apply Kd.R_drew)); exact Kd.R_mono HO_451000.out (fun _ hk => ⟨hk.1.1.1, ⟨hk.1.1.2.1, ⟨hk.1.1.2.2.1, ⟨hk.1.1.2.2.2.1, hk.1.1.2.2.2.2⟩⟩⟩⟩)⟩, ⟨by (with_reducible repeat (first | apply Kd.R_alloc | apply Kd.R_drewN | apply Kd.R_drew)); exact Kd.R_mono HO_451001.out (fun _ hk => ⟨hk.1.1.1, ⟨hk.1.1.2.1, ⟨hk.1.1.2.2.1, ⟨hk.1.1.2.2.2.1, hk.1.1.2.2.2.2⟩⟩⟩⟩)⟩, ⟨by (with_reducible repeat (first | apply Kd.R_alloc | apply Kd.R_drewN | apply Kd.R_drew)); exact Kd.R_mono HO_460000.out (fun _ hk => ⟨hk.1, ⟨hk.2.1, ⟨hk.2.2.1, ⟨hk.2.2.2.1, hk.2.2.2.2.1⟩⟩⟩⟩)⟩, ⟨by (with_reducible repeat (first | apply Kd.R_alloc | apply Kd.R_drewN | apply Kd.R_drew)); exact Kd.R_mono HO_460001.out (fun _ hk => ⟨hk.1, ⟨hk.2.1, ⟨hk.2.2.1, ⟨hk.2.2.2.1, hk.2.2.2.2.1⟩⟩⟩⟩)⟩, ⟨KK⟩, ⟨KK⟩, ⟨KK⟩, ⟨KK⟩, ⟨KB⟩⟩
       ·rw [if_neg c76] at H
        have c76b0 : decide (t469 < 0) = false := decide_eq_false c76
        clear c76
        (first | rw [c76b0] | (simp only [i64_w, i32_w]; rw [c76b0]) | skip)
        replace H := Option.bind_eq_some_iff.mp H
        obtain ⟨t472, A770, H⟩ := H
        replace H : (if t472 = true then (laws_FnExactStoreSeal.j1 kj11 a1 t441 (t458 != t441) l0_0 l0_1 a0_2 t434 t437 t440 t451 t454 t457) else (laws_FnExactStoreSeal.j1 kj11 a1 t441 true l0_0 l0_1 a0_2 t434 t437 t440 t451 t454 t457)) = some r := H
        have A77 := Aside0.mk A770
        clear A770
        by_cases c78 : t472 = true
        ·subst c78
         have H1 : (laws_FnExactStoreSeal.j1 kj11 a1 t441 (t458 != t441) l0_0 l0_1 a0_2 t434 t437 t440 t451 t454 t457) = some r := by rw [if_pos rfl] at H; exact H
         clear H
         have H := H1
         clear H1
         have H' := Aside0.mk H
         clear H
         have hnb79 := NB459_425.out
         have hnc79 := NB425_459.out
         have hnb80 := NB459_442.out
         have hnc80 := NB442_459.out
         have hnb81 := NB459_450.out
         have hnc81 := NB450_459.out
         have hcz82_0 : w75.cell? ⟨gb459, 0, none⟩ = some (.slice Ao36 t451.length co36) := (blk_cell BK459.out 0).trans rfl
         have hcz82_1 : w75.cell? ⟨gb459, 1, none⟩ = some (.slice Ao41 t454.length co41) := (blk_cell BK459.out 1).trans rfl
         have hcz82_2 : w75.cell? ⟨gb459, 2, none⟩ = some (.int .i64 t457) := (blk_cell BK459.out 2).trans rfl
         have hfz82_0 := blk_frozen BK459.out 0
         have hfz82_1 := blk_frozen BK459.out 1
         have hfz82_2 := blk_frozen BK459.out 2
         have hnb83 := NB442_425.out
         have hnc83 := NB425_442.out
         have hnb84 := NB442_450.out
         have hnc84 := NB450_442.out
         have hcz85_0 : w75.cell? ⟨gb442, 0, none⟩ = some (.slice Ao22 t434.length co22) := (blk_cell BK442.out 0).trans rfl
         have hcz85_1 : w75.cell? ⟨gb442, 1, none⟩ = some (.slice Ao25 t437.length co25) := (blk_cell BK442.out 1).trans rfl
         have hcz85_2 : w75.cell? ⟨gb442, 2, none⟩ = some (.int .i64 t440) := (blk_cell BK442.out 2).trans rfl
         have hfz85_0 := blk_frozen BK442.out 0
         have hfz85_1 := blk_frozen BK442.out 1
         have hfz85_2 := blk_frozen BK442.out 2
         go_wp2_with (first | (go_at_call 19; (with_reducible refine (laws_eqStore.calls kj11 _ _ t451 _ _ t454 t457 _ _ t434 _ _ t437 t440 true _ ?side1 ?side2 ?side3 ?side4 ?side5 ?side6 ?side7 ?side8 A77.out).mono ?_); (case side1 => repeat (first | exact (Kd.R_reads' HO_460000.out).2.2 | (with_reducible refine Kd.C_alloc ?_ _) | (with_reducible refine Kd.C_drewN ?_ _) | (with_reducible refine Kd.C_drew ?_))); (case side2 => exact (Kd.R_reads' HO_460000.out).2.1); (case side3 => repeat (first | exact (Kd.R_reads' HO_460001.out).2.2 | (with_reducible refine Kd.C_alloc ?_ _) | (with_reducible refine Kd.C_drewN ?_ _) | (with_reducible refine Kd.C_drew ?_))); (case side4 => exact (Kd.R_reads' HO_460001.out).2.1); (case side5 => repeat (first | exact (Kd.R_reads' HO_443000.out).2.2 | (with_reducible refine Kd.C_alloc ?_ _) | (with_reducible refine Kd.C_drewN ?_ _) | (with_reducible refine Kd.C_drew ?_))); (case side6 => exact (Kd.R_reads' HO_443000.out).2.1); (case side7 => repeat (first | exact (Kd.R_reads' HO_443001.out).2.2 | (with_reducible refine Kd.C_alloc ?_ _) | (with_reducible refine Kd.C_drewN ?_ _) | (with_reducible refine Kd.C_drew ?_))); (case side8 => exact (Kd.R_reads' HO_443001.out).2.1); rintro e w86 ⟨rfl, hb⟩; have n0_ := Aside0.mk (Kd.R_below (KR HO_443000.out) hb); have n1_ := Aside0.mk (Kd.R_below (KR HO_443001.out) hb); have n2_ := Aside0.mk (Kd.R_below (KR HO_451000.out) hb); have n3_ := Aside0.mk (Kd.R_below (KR HO_451001.out) hb); have n4_ := Aside0.mk (Kd.R_below (KR HO_460000.out) hb); have n5_ := Aside0.mk (Kd.R_below (KR HO_460001.out) hb); have n6_ := Aside0.mk (Kd.R_below (KR HO463.out) hb); have n7_ := Aside0.mk (Kd.R_below (KR HO466.out) hb); have n8_ := Aside0.mk (blk_below (g := gb425) (o := .cells #[.slice A0_0 l0_0.length c0_0, .slice A0_1 l0_1.length c0_1, .int .i64 a0_2] 24 (0, 0)) KK hb); have n9_ := Aside0.mk (blk_below (g := gb442) (o := .cells #[.slice Ao22 t434.length co22, .slice Ao25 t437.length co25, .int .i64 t440] 29 (0, 0)) KK hb); have n10_ := Aside0.mk (blk_below (g := gb450) (o := .cells #[.slice Ao29 t443.length co29, .slice Ao33 t446.length co33, .int .i64 t449] 29 (0, 0)) KK hb); have n11_ := Aside0.mk (blk_below (g := gb459) (o := .cells #[.slice Ao36 t451.length co36, .slice Ao41 t454.length co41, .int .i64 t457] 29 (0, 0)) KK hb); have n12_ := Aside0.mk (below_step KB hb); clear HO_443000; clear HO_443001; clear HO_451000; clear HO_451001; clear HO_460000; clear HO_460001; clear HO463; clear HO466; clear BK425; clear BK442; clear BK450; clear BK459; clear HB; have HO_443000 := n0_; have HO_443001 := n1_; have HO_451000 := n2_; have HO_451001 := n3_; have HO_460000 := n4_; have HO_460001 := n5_; have HO463 := n6_; have HO466 := n7_; have BK425 := n8_; have BK442 := n9_; have BK450 := n10_; have BK459 := n11_; have HB := n12_; clear n0_ n1_ n2_ n3_ n4_ n5_ n6_ n7_ n8_ n9_ n10_ n11_ n12_; (try clear hb); (try clear hb2); (try clear hk); (try clear hi)))
         go_meet
         case rel => exact ⟨_, ((t458 != t441)), (by first | rfl | (simp; done) | (simp [*]; done)), H', ⟨by have := HJ11.out; first | omega | exact Nat.le_refl _⟩, ⟨by (with_reducible repeat (first | apply Kd.R_alloc | apply Kd.R_drewN | apply Kd.R_drew)); exact Kd.R_mono HO_443000.out (fun _ hk => ⟨hk.1, ⟨hk.2.1, ⟨hk.2.2.1, ⟨hk.2.2.2.1, hk.2.2.2.2.1⟩⟩⟩⟩)⟩, ⟨by (with_reducible repeat (first | apply Kd.R_alloc | apply Kd.R_drewN | apply Kd.R_drew)); exact Kd.R_mono HO_443001.out (fun _ hk => ⟨hk.1, ⟨hk.2.1, ⟨hk.2.2.1, ⟨hk.2.2.2.1, hk.2.2.2.2.1⟩⟩⟩⟩)⟩, ⟨by (with_reducible repeat (first | apply Kd.R_alloc | apply Kd.R_drewN | apply Kd.R_drew)); exact Kd.R_mono HO_451000.out (fun _ hk => ⟨hk.1.1.1, ⟨hk.1.1.2.1, ⟨hk.1.1.2.2.1, ⟨hk.1.1.2.2.2.1, hk.1.1.2.2.2.2⟩⟩⟩⟩)⟩, ⟨by (with_reducible repeat (first | apply Kd.R_alloc | apply Kd.R_drewN | apply Kd.R_drew)); exact Kd.R_mono HO_451001.out (fun _ hk => ⟨hk.1.1.1, ⟨hk.1.1.2.1, ⟨hk.1.1.2.2.1, ⟨hk.1.1.2.2.2.1, hk.1.1.2.2.2.2⟩⟩⟩⟩)⟩, ⟨by (with_reducible repeat (first | apply Kd.R_alloc | apply Kd.R_drewN | apply Kd.R_drew)); exact Kd.R_mono HO_460000.out (fun _ hk => ⟨hk.1, ⟨hk.2.1, ⟨hk.2.2.1, ⟨hk.2.2.2.1, hk.2.2.2.2.1⟩⟩⟩⟩)⟩, ⟨by (with_reducible repeat (first | apply Kd.R_alloc | apply Kd.R_drewN | apply Kd.R_drew)); exact Kd.R_mono HO_460001.out (fun _ hk => ⟨hk.1, ⟨hk.2.1, ⟨hk.2.2.1, ⟨hk.2.2.2.1, hk.2.2.2.2.1⟩⟩⟩⟩)⟩, ⟨KK⟩, ⟨KK⟩, ⟨KK⟩, ⟨KK⟩, ⟨KB⟩⟩
        ·replace c78 := Bool.eq_false_iff.mpr c78
         subst c78
         have H1 : (laws_FnExactStoreSeal.j1 kj11 a1 t441 true l0_0 l0_1 a0_2 t434 t437 t440 t451 t454 t457) = some r := by rw [if_neg (show ¬ (false = true) by decide)] at H; exact H
         clear H
         have H := H1
         clear H1
         have H' := Aside0.mk H
         clear H
         have hnb87 := NB459_425.out
         have hnc87 := NB425_459.out
         have hnb88 := NB459_442.out
         have hnc88 := NB442_459.out
         have hnb89 := NB459_450.out
         have hnc89 := NB450_459.out
         have hcz90_0 : w75.cell? ⟨gb459, 0, none⟩ = some (.slice Ao36 t451.length co36) := (blk_cell BK459.out 0).trans rfl
         have hcz90_1 : w75.cell? ⟨gb459, 1, none⟩ = some (.slice Ao41 t454.length co41) := (blk_cell BK459.out 1).trans rfl
         have hcz90_2 : w75.cell? ⟨gb459, 2, none⟩ = some (.int .i64 t457) := (blk_cell BK459.out 2).trans rfl
         have hfz90_0 := blk_frozen BK459.out 0
         have hfz90_1 := blk_frozen BK459.out 1
         have hfz90_2 := blk_frozen BK459.out 2
         have hnb91 := NB442_425.out
         have hnc91 := NB425_442.out
         have hnb92 := NB442_450.out
         have hnc92 := NB450_442.out
         have hcz93_0 : w75.cell? ⟨gb442, 0, none⟩ = some (.slice Ao22 t434.length co22) := (blk_cell BK442.out 0).trans rfl
         have hcz93_1 : w75.cell? ⟨gb442, 1, none⟩ = some (.slice Ao25 t437.length co25) := (blk_cell BK442.out 1).trans rfl
         have hcz93_2 : w75.cell? ⟨gb442, 2, none⟩ = some (.int .i64 t440) := (blk_cell BK442.out 2).trans rfl
         have hfz93_0 := blk_frozen BK442.out 0
         have hfz93_1 := blk_frozen BK442.out 1
         have hfz93_2 := blk_frozen BK442.out 2
         go_wp2_with (first | (go_at_call 19; (with_reducible refine (laws_eqStore.calls kj11 _ _ t451 _ _ t454 t457 _ _ t434 _ _ t437 t440 false _ ?side1 ?side2 ?side3 ?side4 ?side5 ?side6 ?side7 ?side8 A77.out).mono ?_); (case side1 => repeat (first | exact (Kd.R_reads' HO_460000.out).2.2 | (with_reducible refine Kd.C_alloc ?_ _) | (with_reducible refine Kd.C_drewN ?_ _) | (with_reducible refine Kd.C_drew ?_))); (case side2 => exact (Kd.R_reads' HO_460000.out).2.1); (case side3 => repeat (first | exact (Kd.R_reads' HO_460001.out).2.2 | (with_reducible refine Kd.C_alloc ?_ _) | (with_reducible refine Kd.C_drewN ?_ _) | (with_reducible refine Kd.C_drew ?_))); (case side4 => exact (Kd.R_reads' HO_460001.out).2.1); (case side5 => repeat (first | exact (Kd.R_reads' HO_443000.out).2.2 | (with_reducible refine Kd.C_alloc ?_ _) | (with_reducible refine Kd.C_drewN ?_ _) | (with_reducible refine Kd.C_drew ?_))); (case side6 => exact (Kd.R_reads' HO_443000.out).2.1); (case side7 => repeat (first | exact (Kd.R_reads' HO_443001.out).2.2 | (with_reducible refine Kd.C_alloc ?_ _) | (with_reducible refine Kd.C_drewN ?_ _) | (with_reducible refine Kd.C_drew ?_))); (case side8 => exact (Kd.R_reads' HO_443001.out).2.1); rintro e w94 ⟨rfl, hb⟩; have n0_ := Aside0.mk (Kd.R_below (KR HO_443000.out) hb); have n1_ := Aside0.mk (Kd.R_below (KR HO_443001.out) hb); have n2_ := Aside0.mk (Kd.R_below (KR HO_451000.out) hb); have n3_ := Aside0.mk (Kd.R_below (KR HO_451001.out) hb); have n4_ := Aside0.mk (Kd.R_below (KR HO_460000.out) hb); have n5_ := Aside0.mk (Kd.R_below (KR HO_460001.out) hb); have n6_ := Aside0.mk (Kd.R_below (KR HO463.out) hb); have n7_ := Aside0.mk (Kd.R_below (KR HO466.out) hb); have n8_ := Aside0.mk (blk_below (g := gb425) (o := .cells #[.slice A0_0 l0_0.length c0_0, .slice A0_1 l0_1.length c0_1, .int .i64 a0_2] 24 (0, 0)) KK hb); have n9_ := Aside0.mk (blk_below (g := gb442) (o := .cells #[.slice Ao22 t434.length co22, .slice Ao25 t437.length co25, .int .i64 t440] 29 (0, 0)) KK hb); have n10_ := Aside0.mk (blk_below (g := gb450) (o := .cells #[.slice Ao29 t443.length co29, .slice Ao33 t446.length co33, .int .i64 t449] 29 (0, 0)) KK hb); have n11_ := Aside0.mk (blk_below (g := gb459) (o := .cells #[.slice Ao36 t451.length co36, .slice Ao41 t454.length co41, .int .i64 t457] 29 (0, 0)) KK hb); have n12_ := Aside0.mk (below_step KB hb); clear HO_443000; clear HO_443001; clear HO_451000; clear HO_451001; clear HO_460000; clear HO_460001; clear HO463; clear HO466; clear BK425; clear BK442; clear BK450; clear BK459; clear HB; have HO_443000 := n0_; have HO_443001 := n1_; have HO_451000 := n2_; have HO_451001 := n3_; have HO_460000 := n4_; have HO_460001 := n5_; have HO463 := n6_; have HO466 := n7_; have BK425 := n8_; have BK442 := n9_; have BK450 := n10_; have BK459 := n11_; have HB := n12_; clear n0_ n1_ n2_ n3_ n4_ n5_ n6_ n7_ n8_ n9_ n10_ n11_ n12_; (try clear hb); (try clear hb2); (try clear hk); (try clear hi)))
         go_meet
         case rel => exact ⟨_, (true), (by first | rfl | (simp; done) | (simp [*]; done)), H', ⟨by have := HJ11.out; first | omega | exact Nat.le_refl _⟩, ⟨by (with_reducible repeat (first | apply Kd.R_alloc | apply Kd.R_drewN | apply Kd.R_drew)); exact Kd.R_mono HO_443000.out (fun _ hk => ⟨hk.1, ⟨hk.2.1, ⟨hk.2.2.1, ⟨hk.2.2.2.1, hk.2.2.2.2.1⟩⟩⟩⟩)⟩, ⟨by (with_reducible repeat (first | apply Kd.R_alloc | apply Kd.R_drewN | apply Kd.R_drew)); exact Kd.R_mono HO_443001.out (fun _ hk => ⟨hk.1, ⟨hk.2.1, ⟨hk.2.2.1, ⟨hk.2.2.2.1, hk.2.2.2.2.1⟩⟩⟩⟩)⟩, ⟨by (with_reducible repeat (first | apply Kd.R_alloc | apply Kd.R_drewN | apply Kd.R_drew)); exact Kd.R_mono HO_451000.out (fun _ hk => ⟨hk.1.1.1, ⟨hk.1.1.2.1, ⟨hk.1.1.2.2.1, ⟨hk.1.1.2.2.2.1, hk.1.1.2.2.2.2⟩⟩⟩⟩)⟩, ⟨by (with_reducible repeat (first | apply Kd.R_alloc | apply Kd.R_drewN | apply Kd.R_drew)); exact Kd.R_mono HO_451001.out (fun _ hk => ⟨hk.1.1.1, ⟨hk.1.1.2.1, ⟨hk.1.1.2.2.1, ⟨hk.1.1.2.2.2.1, hk.1.1.2.2.2.2⟩⟩⟩⟩)⟩, ⟨by (with_reducible repeat (first | apply Kd.R_alloc | apply Kd.R_drewN | apply Kd.R_drew)); exact Kd.R_mono HO_460000.out (fun _ hk => ⟨hk.1, ⟨hk.2.1, ⟨hk.2.2.1, ⟨hk.2.2.2.1, hk.2.2.2.2.1⟩⟩⟩⟩)⟩, ⟨by (with_reducible repeat (first | apply Kd.R_alloc | apply Kd.R_drewN | apply Kd.R_drew)); exact Kd.R_mono HO_460001.out (fun _ hk => ⟨hk.1, ⟨hk.2.1, ⟨hk.2.2.1, ⟨hk.2.2.2.1, hk.2.2.2.2.1⟩⟩⟩⟩)⟩, ⟨KK⟩, ⟨KK⟩, ⟨KK⟩, ⟨KK⟩, ⟨KB⟩⟩
      case rest =>
       clear HC65
       try clear c1
       try clear c2
       try clear p2
       try clear c3
       try clear c4
       try clear c4b0
       try clear c5
       try clear c6
       try clear c7
       try clear c8
       try clear c9
       try clear c11
       try clear c15
       try clear c17
       try clear c19
       try clear c23
       try clear c26
       try clear c30
       try clear c31
       try clear c37
       try clear c38
       try clear c39
       try clear c43
       try clear c44
       try clear c45
       try clear c46
       try clear c48
       try clear c49
       try clear c52
       try clear c53
       try clear c54
       try clear c56
       try clear c57
       try clear c60
       try clear c63
       try clear c71
       try clear c72
       try clear c73
       try clear c76
       try clear c76b0
       try clear c78
       try clear c79
       try clear c80
       try clear c81
       try clear c83
       try clear c84
       try clear c87
       try clear c88
       try clear c89
       try clear c91
       try clear c92
       try clear hcz14_0
       try clear hcz14_1
       try clear hcz14_2
       try clear hcz16_0
       try clear hcz16_1
       try clear hcz16_2
       try clear hcz24_0
       try clear hcz24_1
       try clear hcz24_2
       try clear hcz26_0
       try clear hcz26_1
       try clear hcz26_2
       try clear hcz32_0
       try clear hcz32_1
       try clear hcz32_2
       try clear hcz40_0
       try clear hcz40_1
       try clear hcz40_2
       try clear hcz47_0
       try clear hcz47_1
       try clear hcz47_2
       try clear hcz50_0
       try clear hcz50_1
       try clear hcz50_2
       try clear hcz55_0
       try clear hcz55_1
       try clear hcz55_2
       try clear hcz58_0
       try clear hcz58_1
       try clear hcz58_2
       try clear hcz6_0
       try clear hcz6_1
       try clear hcz6_2
       try clear hcz74_0
       try clear hcz74_1
       try clear hcz74_2
       try clear hcz82_0
       try clear hcz82_1
       try clear hcz82_2
       try clear hcz85_0
       try clear hcz85_1
       try clear hcz85_2
       try clear hcz90_0
       try clear hcz90_1
       try clear hcz90_2
       try clear hcz93_0
       try clear hcz93_1
       try clear hcz93_2
       try clear hfz14_0
       try clear hfz14_1
       try clear hfz14_2
       try clear hfz16_0
       try clear hfz16_1
       try clear hfz16_2
       try clear hfz24_0
       try clear hfz24_1
       try clear hfz24_2
       try clear hfz26_0
       try clear hfz26_1
       try clear hfz26_2
       try clear hfz32_0
       try clear hfz32_1
       try clear hfz32_2
       try clear hfz40_0
       try clear hfz40_1
       try clear hfz40_2
       try clear hfz47_0
       try clear hfz47_1
       try clear hfz47_2
       try clear hfz50_0
       try clear hfz50_1
       try clear hfz50_2
       try clear hfz55_0
       try clear hfz55_1
       try clear hfz55_2
       try clear hfz58_0
       try clear hfz58_1
       try clear hfz58_2
       try clear hfz6_0
       try clear hfz6_1
       try clear hfz6_2
       try clear hfz74_0
       try clear hfz74_1
       try clear hfz74_2
       try clear hfz82_0
       try clear hfz82_1
       try clear hfz82_2
       try clear hfz85_0
       try clear hfz85_1
       try clear hfz85_2
       try clear hfz90_0
       try clear hfz90_1
       try clear hfz90_2
       try clear hfz93_0
       try clear hfz93_1
       try clear hfz93_2
       try clear p2
       obtain ⟨kq, x65_64, rfl, HA, HJ64, HO_443000, HO_443001, HO_451000, HO_451001, HO_460000, HO_460001, BK425, BK442, BK450, BK459, HB⟩ := hcut
       have hl451000_64 := (Kd.R_reads' HO_451000.out).1
       rw [hl451000_64] at HO_451000
       (try simp only [hl451000_64])
       (try simp only [hl451000_64] at BK425)
       (try simp only [hl451000_64] at BK442)
       (try simp only [hl451000_64] at BK450)
       (try simp only [hl451000_64] at BK459)
       (try simp only [hl451000_64] at HO_443000)
       (try simp only [hl451000_64] at HO_443001)
       (try simp only [hl451000_64] at HO_451001)
       (try simp only [hl451000_64] at HO_460000)
       (try simp only [hl451000_64] at HO_460001)
       have hl451001_64 := (Kd.R_reads' HO_451001.out).1
       rw [hl451001_64] at HO_451001
       (try simp only [hl451001_64])
       (try simp only [hl451001_64] at BK425)
       (try simp only [hl451001_64] at BK442)
       (try simp only [hl451001_64] at BK450)
       (try simp only [hl451001_64] at BK459)
       (try simp only [hl451001_64] at HO_443000)
       (try simp only [hl451001_64] at HO_443001)
       (try simp only [hl451001_64] at HO_451000)
       (try simp only [hl451001_64] at HO_460000)
       (try simp only [hl451001_64] at HO_460001)
       cases kq with
       | zero => exact absurd HA.out (by simp [laws_FnExactStoreSeal.j1])
       | succ kj64 =>
        have H := HA.out
        clear HA
        simp only [laws_FnExactStoreSeal.j1] at H
        by_cases c95 : x65_64 = true
        ·subst c95
         have H1 : (none) = some r := by rw [if_pos rfl] at H; exact H
         clear H
         have H := H1
         clear H1
         exact absurd H (by simp)
        ·replace c95 := Bool.eq_false_iff.mpr c95
         subst c95
         have H1 : ((laws_markStore.f kj64 t451 t454 t457 1).bind fun bt473 => ((laws_heldStore.f kj64 bt473.2.1 bt473.2.2 t457 1).bind fun t476 => (if t476 < 0 then (none) else (if t476 = bt473.1 then ((laws_toStore.f kj64 l0_0 l0_1 a0_2).bind fun bt477 => ((impl_StoreSeal.f kj64 bt477.1 bt477.2.1 bt477.2.2 a1).bind fun bt484 => ((laws_eqStore.f kj64 bt484.1 bt484.2.1 bt484.2.2.1 t434 t437 t440).bind fun t493 => (if t493 = true then (laws_FnExactStoreSeal.j2 kj64 bt473.1 (bt484.2.2.2 != t441) bt473.2.1 bt473.2.2 t457) else (laws_FnExactStoreSeal.j2 kj64 bt473.1 true bt473.2.1 bt473.2.2 t457))))) else (none))))) = some r := by rw [if_neg (show ¬ (false = true) by decide)] at H; exact H
         clear H
         have H := H1
         clear H1
         replace H := Option.bind_eq_some_iff.mp H
         obtain ⟨⟨t473, t474, t475⟩, A960, H⟩ := H
         replace H : ((laws_heldStore.f kj64 t474 t475 t457 1).bind fun t476 => (if t476 < 0 then (none) else (if t476 = t473 then ((laws_toStore.f kj64 l0_0 l0_1 a0_2).bind fun bt477 => ((impl_StoreSeal.f kj64 bt477.1 bt477.2.1 bt477.2.2 a1).bind fun bt484 => ((laws_eqStore.f kj64 bt484.1 bt484.2.1 bt484.2.2.1 t434 t437 t440).bind fun t493 => (if t493 = true then (laws_FnExactStoreSeal.j2 kj64 t473 (bt484.2.2.2 != t441) t474 t475 t457) else (laws_FnExactStoreSeal.j2 kj64 t473 true t474 t475 t457))))) else (none)))) = some r := H
         have A96 := Aside0.mk A960
         clear A960
         replace H := Option.bind_eq_some_iff.mp H
         obtain ⟨t476, A970, H⟩ := H
         replace H : (if t476 < 0 then (none) else (if t476 = t473 then ((laws_toStore.f kj64 l0_0 l0_1 a0_2).bind fun bt477 => ((impl_StoreSeal.f kj64 bt477.1 bt477.2.1 bt477.2.2 a1).bind fun bt484 => ((laws_eqStore.f kj64 bt484.1 bt484.2.1 bt484.2.2.1 t434 t437 t440).bind fun t493 => (if t493 = true then (laws_FnExactStoreSeal.j2 kj64 t473 (bt484.2.2.2 != t441) t474 t475 t457) else (laws_FnExactStoreSeal.j2 kj64 t473 true t474 t475 t457))))) else (none))) = some r := H
         have A97 := Aside0.mk A970
         clear A970
         by_cases c98 : t476 < 0
         ·rw [if_pos c98] at H
          exact absurd H (by simp)
         ·rw [if_neg c98] at H
          have c98b0 : decide (t476 < 0) = false := decide_eq_false c98
          clear c98
          by_cases c99 : t476 = t473
          ·rw [if_pos c99] at H
           have c99b0 : (t476 == t473) = true := beq_iff_eq.mpr c99
           have c99b1 : (t476 != t473) = false := bne_eq_false_iff_eq.mpr c99
           clear c99
           replace H := Option.bind_eq_some_iff.mp H
           obtain ⟨⟨t477, t480, t483⟩, A1000, H⟩ := H
           replace H : ((impl_StoreSeal.f kj64 t477 t480 t483 a1).bind fun bt484 => ((laws_eqStore.f kj64 bt484.1 bt484.2.1 bt484.2.2.1 t434 t437 t440).bind fun t493 => (if t493 = true then (laws_FnExactStoreSeal.j2 kj64 t473 (bt484.2.2.2 != t441) t474 t475 t457) else (laws_FnExactStoreSeal.j2 kj64 t473 true t474 t475 t457)))) = some r := H
           have A100 := Aside0.mk A1000
           clear A1000
           replace H := Option.bind_eq_some_iff.mp H
           obtain ⟨⟨t484, t487, t490, t491⟩, A1010, H⟩ := H
           replace H : ((laws_eqStore.f kj64 t484 t487 t490 t434 t437 t440).bind fun t493 => (if t493 = true then (laws_FnExactStoreSeal.j2 kj64 t473 (t491 != t441) t474 t475 t457) else (laws_FnExactStoreSeal.j2 kj64 t473 true t474 t475 t457))) = some r := H
           have A101 := Aside0.mk A1010
           clear A1010
           have HC102 := Aside0.mk H
           clear H
           have hnb103 := NB459_425.out
           have hnc103 := NB425_459.out
           have hnb104 := NB459_442.out
           have hnc104 := NB442_459.out
           have hnb105 := NB459_450.out
           have hnc105 := NB450_459.out
           have hcz106_0 : wc.cell? ⟨gb459, 0, none⟩ = some (.slice Ao36 t451.length co36) := (blk_cell BK459.out 0).trans rfl
           have hcz106_1 : wc.cell? ⟨gb459, 1, none⟩ = some (.slice Ao41 t454.length co41) := (blk_cell BK459.out 1).trans rfl
           have hcz106_2 : wc.cell? ⟨gb459, 2, none⟩ = some (.int .i64 t457) := (blk_cell BK459.out 2).trans rfl
           have hfz106_0 := blk_frozen BK459.out 0
           have hfz106_1 := blk_frozen BK459.out 1
           have hfz106_2 := blk_frozen BK459.out 2
           go_upto_region 25 with (first | ((with_reducible refine gate_callee (f := 26) rfl ?_); refine goesL_ (some 68) rfl rfl Try.func26 (by kernel_rfl) rfl #[.agg #[.slice Ao36 t451.length co36, .slice Ao41 t454.length co41, .int .i64 t457], .int .i64 1] rfl KL ?_; (with_reducible refine (laws_markStore.calls kj64 (fun k_ => some k_ = (.slice Ao36 t451.length co36 : Value).ownBlock) (.slice Ao36 t451.length co36) t451 (fun k_ => some k_ = (.slice Ao41 t454.length co41 : Value).ownBlock) (.slice Ao41 t454.length co41) t454 t457 1 t473 t474 t475 w _ ?side1 ?side2 ?side3 ?side4 ?side5 A96.out).mono ?_); (case side1 => exact KB); (case side2 => exact Kd.R_tight rfl HO_460000.out); (case side3 => exact fun k_ e_ => (HO_460000.out.1 k_ e_.symm).2.2.2.2); (case side4 => exact Kd.R_tight rfl HO_460001.out); (case side5 => exact fun k_ e_ => (HO_460001.out.1 k_ e_.symm).2.2.2.2); rintro e w107 ⟨rfl, hy0, hy1, hb, hkp⟩; refine ⟨_, rfl, ?_⟩; have n0_ := Aside0.mk (Kd.R_mono (ok' := fun k_ => some k_ ≠ (.slice Ao25 t437.length co25 : Value).ownBlock ∧ some k_ ≠ (.slice Ao29 t470.length co29 : Value).ownBlock ∧ some k_ ≠ (.slice Ao33 t471.length co33 : Value).ownBlock ∧ some k_ ≠ (.slice Ao36 t451.length co36 : Value).ownBlock ∧ some k_ ≠ (.slice Ao41 t454.length co41 : Value).ownBlock) (Kd.R_keptB (HO_443000.out) hkp (fun k_ hk_ hs_ => Or.elim hs_ (fun e_ => (hk_.2.2.2.1) e_) (fun e_ => (hk_.2.2.2.2) e_))) (fun k_ hk_ => ⟨hk_.1.1, hk_.1.2.1, hk_.1.2.2.1, hk_.1.2.2.2.1, hk_.1.2.2.2.2⟩)); have n1_ := Aside0.mk (Kd.R_mono (ok' := fun k_ => some k_ ≠ (.slice Ao22 t434.length co22 : Value).ownBlock ∧ some k_ ≠ (.slice Ao29 t470.length co29 : Value).ownBlock ∧ some k_ ≠ (.slice Ao33 t471.length co33 : Value).ownBlock ∧ some k_ ≠ (.slice Ao36 t451.length co36 : Value).ownBlock ∧ some k_ ≠ (.slice Ao41 t454.length co41 : Value).ownBlock) (Kd.R_keptB (HO_443001.out) hkp (fun k_ hk_ hs_ => Or.elim hs_ (fun e_ => (hk_.2.2.2.1) e_) (fun e_ => (hk_.2.2.2.2) e_))) (fun k_ hk_ => ⟨hk_.1.1, hk_.1.2.1, hk_.1.2.2.1, hk_.1.2.2.2.1, hk_.1.2.2.2.2⟩)); have n2_ := Aside0.mk (Kd.R_mono (ok' := fun k_ => some k_ ≠ (.slice Ao22 t434.length co22 : Value).ownBlock ∧ some k_ ≠ (.slice Ao25 t437.length co25 : Value).ownBlock ∧ some k_ ≠ (.slice Ao33 t471.length co33 : Value).ownBlock ∧ some k_ ≠ (.slice Ao36 t451.length co36 : Value).ownBlock ∧ some k_ ≠ (.slice Ao41 t454.length co41 : Value).ownBlock) (Kd.R_keptB (HO_451000.out) hkp (fun k_ hk_ hs_ => Or.elim hs_ (fun e_ => (hk_.2.2.2.1) e_) (fun e_ => (hk_.2.2.2.2) e_))) (fun k_ hk_ => ⟨hk_.1.1, hk_.1.2.1, hk_.1.2.2.1, hk_.1.2.2.2.1, hk_.1.2.2.2.2⟩)); have n3_ := Aside0.mk (Kd.R_mono (ok' := fun k_ => some k_ ≠ (.slice Ao22 t434.length co22 : Value).ownBlock ∧ some k_ ≠ (.slice Ao25 t437.length co25 : Value).ownBlock ∧ some k_ ≠ (.slice Ao29 t470.length co29 : Value).ownBlock ∧ some k_ ≠ (.slice Ao36 t451.length co36 : Value).ownBlock ∧ some k_ ≠ (.slice Ao41 t454.length co41 : Value).ownBlock) (Kd.R_keptB (HO_451001.out) hkp (fun k_ hk_ hs_ => Or.elim hs_ (fun e_ => (hk_.2.2.2.1) e_) (fun e_ => (hk_.2.2.2.2) e_))) (fun k_ hk_ => ⟨hk_.1.1, hk_.1.2.1, hk_.1.2.2.1, hk_.1.2.2.2.1, hk_.1.2.2.2.2⟩)); have n4_ := Aside0.mk (Kd.R_reok rfl hy0 (fun k_ e_ => HO_460000.out.1 k_ e_)); have n5_ := Aside0.mk (Kd.R_reok rfl hy1 (fun k_ e_ => HO_460001.out.1 k_ e_)); have n6_ := Aside0.mk (blk_kept KK hkp (fun hs_ => Or.elim hs_ (fun e_ => (fun e_ => (Kd.R_ne HO_460000.out BK425.out (by decide)) e_) e_) (fun e_ => (fun e_ => (Kd.R_ne HO_460001.out BK425.out (by decide)) e_) e_))); have n7_ := Aside0.mk (blk_kept KK hkp (fun hs_ => Or.elim hs_ (fun e_ => (fun e_ => (Kd.R_ne HO_460000.out BK442.out (by decide)) e_) e_) (fun e_ => (fun e_ => (Kd.R_ne HO_460001.out BK442.out (by decide)) e_) e_))); have n8_ := Aside0.mk (blk_kept KK hkp (fun hs_ => Or.elim hs_ (fun e_ => (fun e_ => (Kd.R_ne HO_460000.out BK450.out (by decide)) e_) e_) (fun e_ => (fun e_ => (Kd.R_ne HO_460001.out BK450.out (by decide)) e_) e_))); have n9_ := Aside0.mk (blk_kept KK hkp (fun hs_ => Or.elim hs_ (fun e_ => (fun e_ => (Kd.R_ne HO_460000.out BK459.out (by decide)) e_) e_) (fun e_ => (fun e_ => (Kd.R_ne HO_460001.out BK459.out (by decide)) e_) e_))); have n10_ := Aside0.mk (hb); clear HO_443000; clear HO_443001; clear HO_451000; clear HO_451001; clear HO_460000; clear HO_460001; clear BK425; clear BK442; clear BK450; clear BK459; clear HB; have HO_443000 := n0_; have HO_443001 := n1_; have HO_451000 := n2_; have HO_451001 := n3_; have HO_460000 := n4_; have HO_460001 := n5_; have BK425 := n6_; have BK442 := n7_; have BK450 := n8_; have BK459 := n9_; have HB := n10_; clear n0_ n1_ n2_ n3_ n4_ n5_ n6_ n7_ n8_ n9_ n10_; (try clear hb); (try clear hkp); (try clear hy0); (try clear hy1); have hcz108_0 : w107.cell? ⟨gb459, 0, none⟩ = some (.slice Ao36 t451.length co36) := (blk_cell BK459.out 0).trans rfl; have hcz108_1 : w107.cell? ⟨gb459, 1, none⟩ = some (.slice Ao41 t454.length co41) := (blk_cell BK459.out 1).trans rfl; have hcz108_2 : w107.cell? ⟨gb459, 2, none⟩ = some (.int .i64 t457) := (blk_cell BK459.out 2).trans rfl; have hfz108_0 := blk_frozen BK459.out 0; have hfz108_1 := blk_frozen BK459.out 1; have hfz108_2 := blk_frozen BK459.out 2) | ((with_reducible refine gate_callee (f := 33) rfl ?_); refine goesL_ (some 71) rfl rfl Try.func33 (by kernel_rfl) rfl #[.agg #[.slice Ao36 t474.length co36, .slice Ao41 t475.length co41, .int .i64 t457], .int .i64 1] rfl (by (try simp only [List.map_toArray, List.map_cons, List.map_nil]); first | done | (rw [show t474.length = t451.length from (Kd.R_reads' HO_460000.out).1.symm, show t475.length = t454.length from (Kd.R_reads' HO_460001.out).1.symm] <;> rfl) | rfl | (simp only [List.length_drop, List.length_take]; rfl)) ?_; (with_reducible refine (laws_heldStore.calls kj64 _ _ t474 _ _ t475 t457 1 t476 _ ?side1 ?side2 ?side3 ?side4 A97.out).mono ?_); (case side1 => repeat (first | exact (Kd.R_reads' HO_460000.out).2.2 | (with_reducible refine Kd.C_alloc ?_ _) | (with_reducible refine Kd.C_drewN ?_ _) | (with_reducible refine Kd.C_drew ?_))); (case side2 => rw [show t474.length = t451.length from (Kd.R_reads' HO_460000.out).1.symm]; exact (Kd.R_reads' HO_460000.out).2.1); (case side3 => repeat (first | exact (Kd.R_reads' HO_460001.out).2.2 | (with_reducible refine Kd.C_alloc ?_ _) | (with_reducible refine Kd.C_drewN ?_ _) | (with_reducible refine Kd.C_drew ?_))); (case side4 => rw [show t475.length = t454.length from (Kd.R_reads' HO_460001.out).1.symm]; exact (Kd.R_reads' HO_460001.out).2.1); rintro e w109 ⟨rfl, hb⟩; refine ⟨_, rfl, ?_⟩; have n0_ := Aside0.mk (Kd.R_below (KR HO_443000.out) hb); have n1_ := Aside0.mk (Kd.R_below (KR HO_443001.out) hb); have n2_ := Aside0.mk (Kd.R_below (KR HO_451000.out) hb); have n3_ := Aside0.mk (Kd.R_below (KR HO_451001.out) hb); have n4_ := Aside0.mk (Kd.R_below (KR HO_460000.out) hb); have n5_ := Aside0.mk (Kd.R_below (KR HO_460001.out) hb); have n6_ := Aside0.mk (blk_below (g := gb425) (o := .cells #[.slice A0_0 l0_0.length c0_0, .slice A0_1 l0_1.length c0_1, .int .i64 a0_2] 24 (0, 0)) KK hb); have n7_ := Aside0.mk (blk_below (g := gb442) (o := .cells #[.slice Ao22 t434.length co22, .slice Ao25 t437.length co25, .int .i64 t440] 29 (0, 0)) KK hb); have n8_ := Aside0.mk (blk_below (g := gb450) (o := .cells #[.slice Ao29 t470.length co29, .slice Ao33 t471.length co33, .int .i64 t449] 29 (0, 0)) KK hb); have n9_ := Aside0.mk (blk_below (g := gb459) (o := .cells #[.slice Ao36 t451.length co36, .slice Ao41 t454.length co41, .int .i64 t457] 29 (0, 0)) KK hb); have n10_ := Aside0.mk (below_step KB hb); clear HO_443000; clear HO_443001; clear HO_451000; clear HO_451001; clear HO_460000; clear HO_460001; clear BK425; clear BK442; clear BK450; clear BK459; clear HB; have HO_443000 := n0_; have HO_443001 := n1_; have HO_451000 := n2_; have HO_451001 := n3_; have HO_460000 := n4_; have HO_460001 := n5_; have BK425 := n6_; have BK442 := n7_; have BK450 := n8_; have BK459 := n9_; have HB := n10_; clear n0_ n1_ n2_ n3_ n4_ n5_ n6_ n7_ n8_ n9_ n10_; (try clear hb); (try clear hb2); (try clear hk); (try clear hi); have hnb110 := NB425_442.out; have hnc110 := NB442_425.out; have hnb111 := NB425_450.out; have hnc111 := NB450_425.out; have hcz112_0 : w109.cell? ⟨gb425, 0, none⟩ = some (.slice A0_0 l0_0.length c0_0) := (blk_cell BK425.out 0).trans rfl; have hcz112_1 : w109.cell? ⟨gb425, 1, none⟩ = some (.slice A0_1 l0_1.length c0_1) := (blk_cell BK425.out 1).trans rfl; have hcz112_2 : w109.cell? ⟨gb425, 2, none⟩ = some (.int .i64 a0_2) := (blk_cell BK425.out 2).trans rfl; have hfz112_0 := blk_frozen BK425.out 0; have hfz112_1 := blk_frozen BK425.out 1; have hfz112_2 := blk_frozen BK425.out 2) | ((with_reducible refine gate_callee (f := 17) rfl ?_); refine goesL_ (some 79) rfl rfl Try.func17 (by kernel_rfl) rfl #[.agg #[.slice A0_0 l0_0.length c0_0, .slice A0_1 l0_1.length c0_1, .int .i64 a0_2]] rfl KL ?_; (with_reducible refine (laws_toStore.calls kj64 _ _ l0_0 _ _ l0_1 a0_2 t477 t480 t483 _ ?side1 ?side2 ?side3 ?side4 A100.out).mono ?_); (case side1 => exact KD (Kd.C_below HR0_0.out HB.out)); (case side2 => exact HC0_0.out); (case side3 => exact KD (Kd.C_below HR0_1.out HB.out)); (case side4 => exact HC0_1.out); rintro e w113 ⟨v478, v481, rfl, ho0, ho1, hb⟩; refine ⟨_, rfl, ?_⟩; have n0_ := Aside0.mk (Kd.R_mono (Kd.R_told (Kd.R_told (Kd.R_old (KR HO_443000.out) hb) (Kd.R_base ho0)) (Kd.R_base ho1)) (fun _ h_ => h_.1)); have n1_ := Aside0.mk (Kd.R_mono (Kd.R_told (Kd.R_told (Kd.R_old (KR HO_443001.out) hb) (Kd.R_base ho0)) (Kd.R_base ho1)) (fun _ h_ => h_.1)); have n2_ := Aside0.mk (Kd.R_mono (Kd.R_told (Kd.R_told (Kd.R_old (KR HO_451000.out) hb) (Kd.R_base ho0)) (Kd.R_base ho1)) (fun _ h_ => h_.1)); have n3_ := Aside0.mk (Kd.R_mono (Kd.R_told (Kd.R_told (Kd.R_old (KR HO_451001.out) hb) (Kd.R_base ho0)) (Kd.R_base ho1)) (fun _ h_ => h_.1)); have n4_ := Aside0.mk (Kd.R_mono (Kd.R_told (Kd.R_told (Kd.R_old (KR HO_460000.out) hb) (Kd.R_base ho0)) (Kd.R_base ho1)) (fun _ h_ => h_.1)); have n5_ := Aside0.mk (Kd.R_mono (Kd.R_told (Kd.R_told (Kd.R_old (KR HO_460001.out) hb) (Kd.R_base ho0)) (Kd.R_base ho1)) (fun _ h_ => h_.1)); have n6_ := Aside0.mk (Kd.R_lower (Kd.R_new' (Kd.R_new' (Kd.R_new' (Kd.R_new' (Kd.R_new' (Kd.R_new' ho0 (Kd.R_lt (KR HO_443000.out))) (Kd.R_lt (KR HO_443001.out))) (Kd.R_lt (KR HO_451000.out))) (Kd.R_lt (KR HO_451001.out))) (Kd.R_lt (KR HO_460000.out))) (Kd.R_lt (KR HO_460001.out))) (below_size KB)); have n7_ := Aside0.mk (Kd.R_lower (Kd.R_new' (Kd.R_new' (Kd.R_new' (Kd.R_new' (Kd.R_new' (Kd.R_new' ho1 (Kd.R_lt (KR HO_443000.out))) (Kd.R_lt (KR HO_443001.out))) (Kd.R_lt (KR HO_451000.out))) (Kd.R_lt (KR HO_451001.out))) (Kd.R_lt (KR HO_460000.out))) (Kd.R_lt (KR HO_460001.out))) (below_size KB)); have n8_ := Aside0.mk (blk_below (g := gb425) (o := .cells #[.slice A0_0 l0_0.length c0_0, .slice A0_1 l0_1.length c0_1, .int .i64 a0_2] 24 (0, 0)) KK hb); have n9_ := Aside0.mk (blk_below (g := gb442) (o := .cells #[.slice Ao22 t434.length co22, .slice Ao25 t437.length co25, .int .i64 t440] 29 (0, 0)) KK hb); have n10_ := Aside0.mk (blk_below (g := gb450) (o := .cells #[.slice Ao29 t470.length co29, .slice Ao33 t471.length co33, .int .i64 t449] 29 (0, 0)) KK hb); have n11_ := Aside0.mk (blk_below (g := gb459) (o := .cells #[.slice Ao36 t451.length co36, .slice Ao41 t454.length co41, .int .i64 t457] 29 (0, 0)) KK hb); have n12_ := Aside0.mk (below_step KB hb); clear HO_443000; clear HO_443001; clear HO_451000; clear HO_451001; clear HO_460000; clear HO_460001; clear BK425; clear BK442; clear BK450; clear BK459; clear HB; have HO_443000 := n0_; have HO_443001 := n1_; have HO_451000 := n2_; have HO_451001 := n3_; have HO_460000 := n4_; have HO_460001 := n5_; have HO479 := n6_; have HO482 := n7_; have BK425 := n8_; have BK442 := n9_; have BK450 := n10_; have BK459 := n11_; have HB := n12_; clear n0_ n1_ n2_ n3_ n4_ n5_ n6_ n7_ n8_ n9_ n10_ n11_ n12_; (try clear hb); (try clear hb2); (try clear hk); (try clear hi); (try clear ho0); (try clear ho1); obtain ⟨Ao114, co114, eo114⟩ := Kd.R_slice HO479.out; subst eo114; obtain ⟨Ao115, co115, eo115⟩ := Kd.R_slice HO482.out; subst eo115) | ((with_reducible refine gate_callee (f := 46) rfl ?_); refine goesL_ (some 81) rfl rfl Try.func46 (by kernel_rfl) rfl #[.agg #[.slice Ao114 t477.length co114, .slice Ao115 t480.length co115, .int .i64 t483], .int .i64 a1] rfl KL ?_; (with_reducible refine (impl_StoreSeal.calls kj64 _ _ t477 _ _ t480 t483 a1 t484 t487 t490 t491 _ ?side1 ?side2 ?side3 ?side4 A101.out).mono ?_); (case side1 => repeat (first | exact (Kd.R_reads' HO479.out).2.2 | (with_reducible refine Kd.C_alloc ?_ _) | (with_reducible refine Kd.C_drewN ?_ _) | (with_reducible refine Kd.C_drew ?_))); (case side2 => exact (Kd.R_reads' HO479.out).2.1); (case side3 => repeat (first | exact (Kd.R_reads' HO482.out).2.2 | (with_reducible refine Kd.C_alloc ?_ _) | (with_reducible refine Kd.C_drewN ?_ _) | (with_reducible refine Kd.C_drew ?_))); (case side4 => exact (Kd.R_reads' HO482.out).2.1); rintro e w116 ⟨v485, v488, rfl, ho0, ho1, hb⟩; refine ⟨_, rfl, ?_⟩; have n0_ := Aside0.mk (Kd.R_mono (Kd.R_told (Kd.R_told (Kd.R_old (KR HO_443000.out) hb) (Kd.R_base ho0)) (Kd.R_base ho1)) (fun _ h_ => h_.1)); have n1_ := Aside0.mk (Kd.R_mono (Kd.R_told (Kd.R_told (Kd.R_old (KR HO_443001.out) hb) (Kd.R_base ho0)) (Kd.R_base ho1)) (fun _ h_ => h_.1)); have n2_ := Aside0.mk (Kd.R_mono (Kd.R_told (Kd.R_told (Kd.R_old (KR HO_451000.out) hb) (Kd.R_base ho0)) (Kd.R_base ho1)) (fun _ h_ => h_.1)); have n3_ := Aside0.mk (Kd.R_mono (Kd.R_told (Kd.R_told (Kd.R_old (KR HO_451001.out) hb) (Kd.R_base ho0)) (Kd.R_base ho1)) (fun _ h_ => h_.1)); have n4_ := Aside0.mk (Kd.R_mono (Kd.R_told (Kd.R_told (Kd.R_old (KR HO_460000.out) hb) (Kd.R_base ho0)) (Kd.R_base ho1)) (fun _ h_ => h_.1)); have n5_ := Aside0.mk (Kd.R_mono (Kd.R_told (Kd.R_told (Kd.R_old (KR HO_460001.out) hb) (Kd.R_base ho0)) (Kd.R_base ho1)) (fun _ h_ => h_.1)); have n6_ := Aside0.mk (Kd.R_mono (Kd.R_told (Kd.R_told (Kd.R_old (KR HO479.out) hb) (Kd.R_base ho0)) (Kd.R_base ho1)) (fun _ h_ => h_.1)); have n7_ := Aside0.mk (Kd.R_mono (Kd.R_told (Kd.R_told (Kd.R_old (KR HO482.out) hb) (Kd.R_base ho0)) (Kd.R_base ho1)) (fun _ h_ => h_.1)); have n8_ := Aside0.mk (Kd.R_lower (Kd.R_new' (Kd.R_new' (Kd.R_new' (Kd.R_new' (Kd.R_new' (Kd.R_new' (Kd.R_new' (Kd.R_new' ho0 (Kd.R_lt (KR HO_443000.out))) (Kd.R_lt (KR HO_443001.out))) (Kd.R_lt (KR HO_451000.out))) (Kd.R_lt (KR HO_451001.out))) (Kd.R_lt (KR HO_460000.out))) (Kd.R_lt (KR HO_460001.out))) (Kd.R_lt (KR HO479.out))) (Kd.R_lt (KR HO482.out))) (below_size KB)); have n9_ := Aside0.mk (Kd.R_lower (Kd.R_new' (Kd.R_new' (Kd.R_new' (Kd.R_new' (Kd.R_new' (Kd.R_new' (Kd.R_new' (Kd.R_new' ho1 (Kd.R_lt (KR HO_443000.out))) (Kd.R_lt (KR HO_443001.out))) (Kd.R_lt (KR HO_451000.out))) (Kd.R_lt (KR HO_451001.out))) (Kd.R_lt (KR HO_460000.out))) (Kd.R_lt (KR HO_460001.out))) (Kd.R_lt (KR HO479.out))) (Kd.R_lt (KR HO482.out))) (below_size KB)); have n10_ := Aside0.mk (blk_below (g := gb425) (o := .cells #[.slice A0_0 l0_0.length c0_0, .slice A0_1 l0_1.length c0_1, .int .i64 a0_2] 24 (0, 0)) KK hb); have n11_ := Aside0.mk (blk_below (g := gb442) (o := .cells #[.slice Ao22 t434.length co22, .slice Ao25 t437.length co25, .int .i64 t440] 29 (0, 0)) KK hb); have n12_ := Aside0.mk (blk_below (g := gb450) (o := .cells #[.slice Ao29 t470.length co29, .slice Ao33 t471.length co33, .int .i64 t449] 29 (0, 0)) KK hb); have n13_ := Aside0.mk (blk_below (g := gb459) (o := .cells #[.slice Ao36 t451.length co36, .slice Ao41 t454.length co41, .int .i64 t457] 29 (0, 0)) KK hb); have n14_ := Aside0.mk (below_step KB hb); clear HO_443000; clear HO_443001; clear HO_451000; clear HO_451001; clear HO_460000; clear HO_460001; clear HO479; clear HO482; clear BK425; clear BK442; clear BK450; clear BK459; clear HB; have HO_443000 := n0_; have HO_443001 := n1_; have HO_451000 := n2_; have HO_451001 := n3_; have HO_460000 := n4_; have HO_460001 := n5_; have HO479 := n6_; have HO482 := n7_; have HO486 := n8_; have HO489 := n9_; have BK425 := n10_; have BK442 := n11_; have BK450 := n12_; have BK459 := n13_; have HB := n14_; clear n0_ n1_ n2_ n3_ n4_ n5_ n6_ n7_ n8_ n9_ n10_ n11_ n12_ n13_ n14_; (try clear hb); (try clear hb2); (try clear hk); (try clear hi); (try clear ho0); (try clear ho1)) | ((with_reducible refine gate_dst (N := 14) rfl ?_); refine box_event ?hg (N := 14) ?hd (cs := #[.slice none 0 0, .slice none 0 0, .int .i64 0]) (t := 29) ?hr ?_; (case hd => rfl); (case hg => rfl); (case hr => first | (go_simp; done) | (go_simp; rfl)); intro gb492 hg w117 hbox hb; have n0_ := Aside0.mk (Kd.R_below (KR HO_443000.out) hb); have n1_ := Aside0.mk (Kd.R_below (KR HO_443001.out) hb); have n2_ := Aside0.mk (Kd.R_below (KR HO_451000.out) hb); have n3_ := Aside0.mk (Kd.R_below (KR HO_451001.out) hb); have n4_ := Aside0.mk (Kd.R_below (KR HO_460000.out) hb); have n5_ := Aside0.mk (Kd.R_below (KR HO_460001.out) hb); have n6_ := Aside0.mk (Kd.R_below (KR HO479.out) hb); have n7_ := Aside0.mk (Kd.R_below (KR HO482.out) hb); have n8_ := Aside0.mk (Kd.R_below (KR HO486.out) hb); have n9_ := Aside0.mk (Kd.R_below (KR HO489.out) hb); have n10_ := Aside0.mk (blk_below (g := gb425) (o := .cells #[.slice A0_0 l0_0.length c0_0, .slice A0_1 l0_1.length c0_1, .int .i64 a0_2] 24 (0, 0)) KK hb); have n11_ := Aside0.mk (blk_below (g := gb442) (o := .cells #[.slice Ao22 t434.length co22, .slice Ao25 t437.length co25, .int .i64 t440] 29 (0, 0)) KK hb); have n12_ := Aside0.mk (blk_below (g := gb450) (o := .cells #[.slice Ao29 t470.length co29, .slice Ao33 t471.length co33, .int .i64 t449] 29 (0, 0)) KK hb); have n13_ := Aside0.mk (blk_below (g := gb459) (o := .cells #[.slice Ao36 t451.length co36, .slice Ao41 t454.length co41, .int .i64 t457] 29 (0, 0)) KK hb); have n14_ := Aside0.mk (below_step KB hb); have n15_ := Aside0.mk (hbox); have n16_ := Aside0.mk ((KG hg : w.heap.size ≤ gb492)); have n17_ := Aside0.mk ((KG hg : w.heap.size ≤ gb492)); have n18_ := Aside0.mk ((by rw [hg]; exact Nat.ne_of_lt (blk_lt (g := gb425) (o := .cells #[.slice A0_0 l0_0.length c0_0, .slice A0_1 l0_1.length c0_1, .int .i64 a0_2] 24 (0, 0)) KK) : gb425 ≠ gb492)); have n19_ := Aside0.mk ((by rw [hg]; exact Nat.ne_of_gt (blk_lt (g := gb425) (o := .cells #[.slice A0_0 l0_0.length c0_0, .slice A0_1 l0_1.length c0_1, .int .i64 a0_2] 24 (0, 0)) KK) : gb492 ≠ gb425)); have n20_ := Aside0.mk ((by rw [hg]; exact Nat.ne_of_lt (blk_lt (g := gb442) (o := .cells #[.slice Ao22 t434.length co22, .slice Ao25 t437.length co25, .int .i64 t440] 29 (0, 0)) KK) : gb442 ≠ gb492)); have n21_ := Aside0.mk ((by rw [hg]; exact Nat.ne_of_gt (blk_lt (g := gb442) (o := .cells #[.slice Ao22 t434.length co22, .slice Ao25 t437.length co25, .int .i64 t440] 29 (0, 0)) KK) : gb492 ≠ gb442)); have n22_ := Aside0.mk ((by rw [hg]; exact Nat.ne_of_lt (blk_lt (g := gb450) (o := .cells #[.slice Ao29 t470.length co29, .slice Ao33 t471.length co33, .int .i64 t449] 29 (0, 0)) KK) : gb450 ≠ gb492)); have n23_ := Aside0.mk ((by rw [hg]; exact Nat.ne_of_gt (blk_lt (g := gb450) (o := .cells #[.slice Ao29 t470.length co29, .slice Ao33 t471.length co33, .int .i64 t449] 29 (0, 0)) KK) : gb492 ≠ gb450)); have n24_ := Aside0.mk ((by rw [hg]; exact Nat.ne_of_lt (blk_lt (g := gb459) (o := .cells #[.slice Ao36 t451.length co36, .slice Ao41 t454.length co41, .int .i64 t457] 29 (0, 0)) KK) : gb459 ≠ gb492)); have n25_ := Aside0.mk ((by rw [hg]; exact Nat.ne_of_gt (blk_lt (g := gb459) (o := .cells #[.slice Ao36 t451.length co36, .slice Ao41 t454.length co41, .int .i64 t457] 29 (0, 0)) KK) : gb492 ≠ gb459)); clear HO_443000; clear HO_443001; clear HO_451000; clear HO_451001; clear HO_460000; clear HO_460001; clear HO479; clear HO482; clear HO486; clear HO489; clear BK425; clear BK442; clear BK450; clear BK459; clear HB; have HO_443000 := n0_; have HO_443001 := n1_; have HO_451000 := n2_; have HO_451001 := n3_; have HO_460000 := n4_; have HO_460001 := n5_; have HO479 := n6_; have HO482 := n7_; have HO486 := n8_; have HO489 := n9_; have BK425 := n10_; have BK442 := n11_; have BK450 := n12_; have BK459 := n13_; have HB := n14_; have BK492 := n15_; have GW492 := n16_; have GE492 := n17_; have NB425_492 := n18_; have NB492_425 := n19_; have NB442_492 := n20_; have NB492_442 := n21_; have NB450_492 := n22_; have NB492_450 := n23_; have NB459_492 := n24_; have NB492_459 := n25_; clear n0_ n1_ n2_ n3_ n4_ n5_ n6_ n7_ n8_ n9_ n10_ n11_ n12_ n13_ n14_ n15_ n16_ n17_ n18_ n19_ n20_ n21_ n22_ n23_ n24_ n25_; clear hb hbox hg; obtain ⟨Ao118, co118, eo118⟩ := Kd.R_slice HO486.out; subst eo118; have hnb119 := NB492_425.out; have hnc119 := NB425_492.out; have hnb120 := NB492_442.out; have hnc120 := NB442_492.out; have hnb121 := NB492_450.out; have hnc121 := NB450_492.out; have hnb122 := NB492_459.out; have hnc122 := NB459_492.out; have hcz123_0 : w117.cell? ⟨gb492, 0, none⟩ = some (.slice none 0 0) := (blk_cell BK492.out 0).trans rfl; have hcz123_1 : w117.cell? ⟨gb492, 1, none⟩ = some (.slice none 0 0) := (blk_cell BK492.out 1).trans rfl; have hcz123_2 : w117.cell? ⟨gb492, 2, none⟩ = some (.int .i64 0) := (blk_cell BK492.out 2).trans rfl; have hfz123_0 := blk_frozen BK492.out 0; have hfz123_1 := blk_frozen BK492.out 1; have hfz123_2 := blk_frozen BK492.out 2; obtain ⟨Ao124, co124, eo124⟩ := Kd.R_slice HO489.out; subst eo124))
           (try simp only [Act.put, List.setIfInBounds_toArray, List.set_cons_zero, List.set_cons_succ])
           go_cut [92] (fun v92 wc => ∃ (kq : Nat) (x92_101 : Bool), v92 = .bool x92_101 ∧ Aside0 (laws_FnExactStoreSeal.j2 kq t473 x92_101 t474 t475 t457 = some r) ∧ Aside0 (kq ≤ kj64) ∧ Aside0 (Kd.R k34 34 wc w.heap.size (fun k_ => some k_ ≠ ((.slice Ao25 t437.length co25) : Value).ownBlock ∧ some k_ ≠ ((.slice Ao29 t470.length co29) : Value).ownBlock ∧ some k_ ≠ ((.slice Ao33 t471.length co33) : Value).ownBlock ∧ some k_ ≠ ((.slice Ao36 t451.length co36) : Value).ownBlock ∧ some k_ ≠ ((.slice Ao41 t454.length co41) : Value).ownBlock ∧ some k_ ≠ ((.slice Ao118 t484.length co118) : Value).ownBlock ∧ some k_ ≠ ((.slice Ao124 t487.length co124) : Value).ownBlock) (.slice Ao22 t434.length co22) t434) ∧ Aside0 (Kd.R k34 34 wc w.heap.size (fun k_ => some k_ ≠ ((.slice Ao22 t434.length co22) : Value).ownBlock ∧ some k_ ≠ ((.slice Ao29 t470.length co29) : Value).ownBlock ∧ some k_ ≠ ((.slice Ao33 t471.length co33) : Value).ownBlock ∧ some k_ ≠ ((.slice Ao36 t451.length co36) : Value).ownBlock ∧ some k_ ≠ ((.slice Ao41 t454.length co41) : Value).ownBlock ∧ some k_ ≠ ((.slice Ao118 t484.length co118) : Value).ownBlock ∧ some k_ ≠ ((.slice Ao124 t487.length co124) : Value).ownBlock) (.slice Ao25 t437.length co25) t437) ∧ Aside0 (Kd.R k34 34 wc w.heap.size (fun k_ => some k_ ≠ ((.slice Ao22 t434.length co22) : Value).ownBlock ∧ some k_ ≠ ((.slice Ao25 t437.length co25) : Value).ownBlock ∧ some k_ ≠ ((.slice Ao33 t471.length co33) : Value).ownBlock ∧ some k_ ≠ ((.slice Ao36 t451.length co36) : Value).ownBlock ∧ some k_ ≠ ((.slice Ao41 t454.length co41) : Value).ownBlock ∧ some k_ ≠ ((.slice Ao118 t484.length co118) : Value).ownBlock ∧ some k_ ≠ ((.slice Ao124 t487.length co124) : Value).ownBlock) (.slice Ao29 t470.length co29) t470) ∧ Aside0 (Kd.R k34 34 wc w.heap.size (fun k_ => some k_ ≠ ((.slice Ao22 t434.length co22) : Value).ownBlock ∧ some k_ ≠ ((.slice Ao25 t437.length co25) : Value).ownBlock ∧ some k_ ≠ ((.slice Ao29 t470.length co29) : Value).ownBlock ∧ some k_ ≠ ((.slice Ao36 t451.length co36) : Value).ownBlock ∧ some k_ ≠ ((.slice Ao41 t454.length co41) : Value).ownBlock ∧ some k_ ≠ ((.slice Ao118 t484.length co118) : Value).ownBlock ∧ some k_ ≠ ((.slice Ao124 t487.length co124) : Value).ownBlock) (.slice Ao33 t471.length co33) t471) ∧ Aside0 (Kd.R k34 34 wc w.heap.size (fun k_ => some k_ ≠ ((.slice Ao22 t434.length co22) : Value).ownBlock ∧ some k_ ≠ ((.slice Ao25 t437.length co25) : Value).ownBlock ∧ some k_ ≠ ((.slice Ao29 t470.length co29) : Value).ownBlock ∧ some k_ ≠ ((.slice Ao33 t471.length co33) : Value).ownBlock ∧ some k_ ≠ ((.slice Ao41 t454.length co41) : Value).ownBlock ∧ some k_ ≠ ((.slice Ao118 t484.length co118) : Value).ownBlock ∧ some k_ ≠ ((.slice Ao124 t487.length co124) : Value).ownBlock) (.slice Ao36 t451.length co36) t474) ∧ Aside0 (Kd.R k34 34 wc w.heap.size (fun k_ => some k_ ≠ ((.slice Ao22 t434.length co22) : Value).ownBlock ∧ some k_ ≠ ((.slice Ao25 t437.length co25) : Value).ownBlock ∧ some k_ ≠ ((.slice Ao29 t470.length co29) : Value).ownBlock ∧ some k_ ≠ ((.slice Ao33 t471.length co33) : Value).ownBlock ∧ some k_ ≠ ((.slice Ao36 t451.length co36) : Value).ownBlock ∧ some k_ ≠ ((.slice Ao118 t484.length co118) : Value).ownBlock ∧ some k_ ≠ ((.slice Ao124 t487.length co124) : Value).ownBlock) (.slice Ao41 t454.length co41) t475) ∧ Aside0 (Kd.R k34 34 wc w.heap.size (fun k_ => some k_ ≠ ((.slice Ao22 t434.length co22) : Value).ownBlock ∧ some k_ ≠ ((.slice Ao25 t437.length co25) : Value).ownBlock ∧ some k_ ≠ ((.slice Ao29 t470.length co29) : Value).ownBlock ∧ some k_ ≠ ((.slice Ao33 t471.length co33) : Value).ownBlock ∧ some k_ ≠ ((.slice Ao36 t451.length co36) : Value).ownBlock ∧ some k_ ≠ ((.slice Ao41 t454.length co41) : Value).ownBlock ∧ some k_ ≠ ((.slice Ao124 t487.length co124) : Value).ownBlock) (.slice Ao118 t484.length co118) t484) ∧ Aside0 (Kd.R k34 34 wc w.heap.size (fun k_ => some k_ ≠ ((.slice Ao22 t434.length co22) : Value).ownBlock ∧ some k_ ≠ ((.slice Ao25 t437.length co25) : Value).ownBlock ∧ some k_ ≠ ((.slice Ao29 t470.length co29) : Value).ownBlock ∧ some k_ ≠ ((.slice Ao33 t471.length co33) : Value).ownBlock ∧ some k_ ≠ ((.slice Ao36 t451.length co36) : Value).ownBlock ∧ some k_ ≠ ((.slice Ao41 t454.length co41) : Value).ownBlock ∧ some k_ ≠ ((.slice Ao118 t484.length co118) : Value).ownBlock) (.slice Ao124 t487.length co124) t487) ∧ Aside0 (wc.heap[gb425]? = some (.cells #[(.slice A0_0 l0_0.length c0_0), (.slice A0_1 l0_1.length c0_1), .int .i64 a0_2] 24 (0, 0))) ∧ Aside0 (wc.heap[gb442]? = some (.cells #[(.slice Ao22 t434.length co22), (.slice Ao25 t437.length co25), .int .i64 t440] 29 (0, 0))) ∧ Aside0 (wc.heap[gb450]? = some (.cells #[(.slice Ao29 t470.length co29), (.slice Ao33 t471.length co33), .int .i64 t449] 29 (0, 0))) ∧ Aside0 (wc.heap[gb459]? = some (.cells #[(.slice Ao36 t451.length co36), (.slice Ao41 t454.length co41), .int .i64 t457] 29 (0, 0))) ∧ Aside0 (wc.heap[gb492]? = some (.cells #[(.slice Ao118 t484.length co118), (.slice Ao124 t487.length co124), .int .i64 t490] 29 (0, 0))) ∧ Aside0 (Below w.heap.size w wc))
           case first =>
            have H := HC102.out
            clear HC102
            replace H := Option.bind_eq_some_iff.mp H
            obtain ⟨t493, A1250, H⟩ := H
            replace H : (if t493 = true then (laws_FnExactStoreSeal.j2 kj64 t473 (t491 != t441) t474 t475 t457) else (laws_FnExactStoreSeal.j2 kj64 t473 true t474 t475 t457)) = some r := H
            have A125 := Aside0.mk A1250
            clear A1250
            by_cases c126 : t493 = true
            ·subst c126
             have H1 : (laws_FnExactStoreSeal.j2 kj64 t473 (t491 != t441) t474 t475 t457) = some r := by rw [if_pos rfl] at H; exact H
             clear H
             have H := H1
             clear H1
             have H' := Aside0.mk H
             clear H
             have hnb127 := NB492_425.out
             have hnc127 := NB425_492.out
             have hnb128 := NB492_442.out
             have hnc128 := NB442_492.out
             have hnb129 := NB492_450.out
             have hnc129 := NB450_492.out
             have hnb130 := NB492_459.out
             have hnc130 := NB459_492.out
             have hcz131_0 : w117.cell? ⟨gb492, 0, none⟩ = some (.slice none 0 0) := (blk_cell BK492.out 0).trans rfl
             have hcz131_1 : w117.cell? ⟨gb492, 1, none⟩ = some (.slice none 0 0) := (blk_cell BK492.out 1).trans rfl
             have hcz131_2 : w117.cell? ⟨gb492, 2, none⟩ = some (.int .i64 0) := (blk_cell BK492.out 2).trans rfl
             have hfz131_0 := blk_frozen BK492.out 0
             have hfz131_1 := blk_frozen BK492.out 1
             have hfz131_2 := blk_frozen BK492.out 2
             have hnb132 := NB442_425.out
             have hnc132 := NB425_442.out
             have hnb133 := NB442_450.out
             have hnc133 := NB450_442.out
             have hnb134 := NB442_459.out
             have hnc134 := NB459_442.out
             have hcz135_0 : w117.cell? ⟨gb442, 0, none⟩ = some (.slice Ao22 t434.length co22) := (blk_cell BK442.out 0).trans rfl
             have hcz135_1 : w117.cell? ⟨gb442, 1, none⟩ = some (.slice Ao25 t437.length co25) := (blk_cell BK442.out 1).trans rfl
             have hcz135_2 : w117.cell? ⟨gb442, 2, none⟩ = some (.int .i64 t440) := (blk_cell BK442.out 2).trans rfl
             have hfz135_0 := blk_frozen BK442.out 0
             have hfz135_1 := blk_frozen BK442.out 1
             have hfz135_2 := blk_frozen BK442.out 2
             go_wp2_with (first | ((with_reducible refine gate_callee (f := 19) rfl ?_); refine goesL_ (some 86) rfl rfl Try.func19 (by kernel_rfl) rfl #[.agg #[.slice Ao118 t484.length co118, .slice Ao124 t487.length co124, .int .i64 t490], .agg #[.slice Ao22 t434.length co22, .slice Ao25 t437.length co25, .int .i64 t440]] rfl KL ?_; (with_reducible refine (laws_eqStore.calls kj64 _ _ t484 _ _ t487 t490 _ _ t434 _ _ t437 t440 true _ ?side1 ?side2 ?side3 ?side4 ?side5 ?side6 ?side7 ?side8 A125.out).mono ?_); (case side1 => refine (Kd.R_reads' (e := 34) (base := w.heap.size) (ok := fun k_ => ((((((((some k_ ≠ (.slice Ao124 t487.length co124 : Value).ownBlock ∧ some k_ ≠ (.slice Ao22 t434.length co22 : Value).ownBlock) ∧ some k_ ≠ (.slice Ao25 t437.length co25 : Value).ownBlock) ∧ some k_ ≠ (.slice Ao29 t470.length co29 : Value).ownBlock) ∧ some k_ ≠ (.slice Ao33 t471.length co33 : Value).ownBlock) ∧ some k_ ≠ (.slice Ao36 t451.length co36 : Value).ownBlock) ∧ some k_ ≠ (.slice Ao41 t454.length co41 : Value).ownBlock) ∧ some k_ ≠ (.slice Ao114 t477.length co114 : Value).ownBlock) ∧ some k_ ≠ (.slice Ao115 t480.length co115 : Value).ownBlock)) (n := t484.length) (c := co118) ?_).2.2; exact (by (with_reducible repeat (first | apply Kd.R_alloc | apply Kd.R_drewN | apply Kd.R_drew)); exact (Kd.R_mono (Kd.R_far (p := ⟨gb492, 2, none⟩) (Kd.R_far (p := ⟨gb492, 1, none⟩) (Kd.R_far (p := ⟨gb492, 0, none⟩) (Kd.R_types HO486.out BK492.out (by decide)) (fun _ hk => hk.2) (.slice Ao118 t484.length co118)) (fun _ hk => hk.2) (.slice Ao124 t487.length co124)) (fun _ hk => hk.2) (.int .i64 t490)) (fun _ h_ => h_.1)))); (case side2 => exact (Kd.R_reads' HO486.out).2.1); (case side3 => refine (Kd.R_reads' (e := 34) (base := w.heap.size) (ok := fun k_ => ((((((((some k_ ≠ (.slice Ao118 t484.length co118 : Value).ownBlock ∧ some k_ ≠ (.slice Ao22 t434.length co22 : Value).ownBlock) ∧ some k_ ≠ (.slice Ao25 t437.length co25 : Value).ownBlock) ∧ some k_ ≠ (.slice Ao29 t470.length co29 : Value).ownBlock) ∧ some k_ ≠ (.slice Ao33 t471.length co33 : Value).ownBlock) ∧ some k_ ≠ (.slice Ao36 t451.length co36 : Value).ownBlock) ∧ some k_ ≠ (.slice Ao41 t454.length co41 : Value).ownBlock) ∧ some k_ ≠ (.slice Ao114 t477.length co114 : Value).ownBlock) ∧ some k_ ≠ (.slice Ao115 t480.length co115 : Value).ownBlock)) (n := t487.length) (c := co124) ?_).2.2; exact (by (with_reducible repeat (first | apply Kd.R_alloc | apply Kd.R_drewN | apply Kd.R_drew)); exact (Kd.R_mono (Kd.R_far (p := ⟨gb492, 2, none⟩) (Kd.R_far (p := ⟨gb492, 1, none⟩) (Kd.R_far (p := ⟨gb492, 0, none⟩) (Kd.R_types HO489.out BK492.out (by decide)) (fun _ hk => hk.2) (.slice Ao118 t484.length co118)) (fun _ hk => hk.2) (.slice Ao124 t487.length co124)) (fun _ hk => hk.2) (.int .i64 t490)) (fun _ h_ => h_.1)))); (case side4 => exact (Kd.R_reads' HO489.out).2.1); (case side5 => refine (Kd.R_reads' (e := 34) (base := w.heap.size) (ok := fun k_ => (((((some k_ ≠ (.slice Ao25 t437.length co25 : Value).ownBlock ∧ (some k_ ≠ (.slice Ao29 t470.length co29 : Value).ownBlock ∧ (some k_ ≠ (.slice Ao33 t471.length co33 : Value).ownBlock ∧ (some k_ ≠ (.slice Ao36 t451.length co36 : Value).ownBlock ∧ some k_ ≠ (.slice Ao41 t454.length co41 : Value).ownBlock)))) ∧ some k_ ≠ (.slice Ao114 t477.length co114 : Value).ownBlock) ∧ some k_ ≠ (.slice Ao115 t480.length co115 : Value).ownBlock) ∧ some k_ ≠ (.slice Ao118 t484.length co118 : Value).ownBlock) ∧ some k_ ≠ (.slice Ao124 t487.length co124 : Value).ownBlock)) (n := t434.length) (c := co22) ?_).2.2; exact (by (with_reducible repeat (first | apply Kd.R_alloc | apply Kd.R_drewN | apply Kd.R_drew)); exact (Kd.R_mono (Kd.R_far (p := ⟨gb492, 2, none⟩) (Kd.R_far (p := ⟨gb492, 1, none⟩) (Kd.R_far (p := ⟨gb492, 0, none⟩) (Kd.R_types HO_443000.out BK492.out (by decide)) (fun _ hk => hk.2) (.slice Ao118 t484.length co118)) (fun _ hk => hk.2) (.slice Ao124 t487.length co124)) (fun _ hk => hk.2) (.int .i64 t490)) (fun _ h_ => h_.1)))); (case side6 => exact (Kd.R_reads' HO_443000.out).2.1); (case side7 => refine (Kd.R_reads' (e := 34) (base := w.heap.size) (ok := fun k_ => (((((some k_ ≠ (.slice Ao22 t434.length co22 : Value).ownBlock ∧ (some k_ ≠ (.slice Ao29 t470.length co29 : Value).ownBlock ∧ (some k_ ≠ (.slice Ao33 t471.length co33 : Value).ownBlock ∧ (some k_ ≠ (.slice Ao36 t451.length co36 : Value).ownBlock ∧ some k_ ≠ (.slice Ao41 t454.length co41 : Value).ownBlock)))) ∧ some k_ ≠ (.slice Ao114 t477.length co114 : Value).ownBlock) ∧ some k_ ≠ (.slice Ao115 t480.length co115 : Value).ownBlock) ∧ some k_ ≠ (.slice Ao118 t484.length co118 : Value).ownBlock) ∧ some k_ ≠ (.slice Ao124 t487.length co124 : Value).ownBlock)) (n := t437.length) (c := co25) ?_).2.2; exact (by (with_reducible repeat (first | apply Kd.R_alloc | apply Kd.R_drewN | apply Kd.R_drew)); exact (Kd.R_mono (Kd.R_far (p := ⟨gb492, 2, none⟩) (Kd.R_far (p := ⟨gb492, 1, none⟩) (Kd.R_far (p := ⟨gb492, 0, none⟩) (Kd.R_types HO_443001.out BK492.out (by decide)) (fun _ hk => hk.2) (.slice Ao118 t484.length co118)) (fun _ hk => hk.2) (.slice Ao124 t487.length co124)) (fun _ hk => hk.2) (.int .i64 t490)) (fun _ h_ => h_.1)))); (case side8 => exact (Kd.R_reads' HO_443001.out).2.1); rintro e w136 ⟨rfl, hb⟩; refine ⟨_, rfl, ?_⟩; have n0_ := Aside0.mk (Kd.R_below (by (with_reducible repeat (first | apply Kd.R_alloc | apply Kd.R_drewN | apply Kd.R_drew)); exact (Kd.R_mono (Kd.R_far (p := ⟨gb492, 2, none⟩) (Kd.R_far (p := ⟨gb492, 1, none⟩) (Kd.R_far (p := ⟨gb492, 0, none⟩) (Kd.R_types HO_443000.out BK492.out (by decide)) (fun _ hk => hk.2) (.slice Ao118 t484.length co118)) (fun _ hk => hk.2) (.slice Ao124 t487.length co124)) (fun _ hk => hk.2) (.int .i64 t490)) (fun _ h_ => h_.1))) hb); have n1_ := Aside0.mk (Kd.R_below (by (with_reducible repeat (first | apply Kd.R_alloc | apply Kd.R_drewN | apply Kd.R_drew)); exact (Kd.R_mono (Kd.R_far (p := ⟨gb492, 2, none⟩) (Kd.R_far (p := ⟨gb492, 1, none⟩) (Kd.R_far (p := ⟨gb492, 0, none⟩) (Kd.R_types HO_443001.out BK492.out (by decide)) (fun _ hk => hk.2) (.slice Ao118 t484.length co118)) (fun _ hk => hk.2) (.slice Ao124 t487.length co124)) (fun _ hk => hk.2) (.int .i64 t490)) (fun _ h_ => h_.1))) hb); have n2_ := Aside0.mk (Kd.R_below (by (with_reducible repeat (first | apply Kd.R_alloc | apply Kd.R_drewN | apply Kd.R_drew)); exact (Kd.R_mono (Kd.R_far (p := ⟨gb492, 2, none⟩) (Kd.R_far (p := ⟨gb492, 1, none⟩) (Kd.R_far (p := ⟨gb492, 0, none⟩) (Kd.R_types HO_451000.out BK492.out (by decide)) (fun _ hk => hk.2) (.slice Ao118 t484.length co118)) (fun _ hk => hk.2) (.slice Ao124 t487.length co124)) (fun _ hk => hk.2) (.int .i64 t490)) (fun _ h_ => h_.1))) hb); have n3_ := Aside0.mk (Kd.R_below (by (with_reducible repeat (first | apply Kd.R_alloc | apply Kd.R_drewN | apply Kd.R_drew)); exact (Kd.R_mono (Kd.R_far (p := ⟨gb492, 2, none⟩) (Kd.R_far (p := ⟨gb492, 1, none⟩) (Kd.R_far (p := ⟨gb492, 0, none⟩) (Kd.R_types HO_451001.out BK492.out (by decide)) (fun _ hk => hk.2) (.slice Ao118 t484.length co118)) (fun _ hk => hk.2) (.slice Ao124 t487.length co124)) (fun _ hk => hk.2) (.int .i64 t490)) (fun _ h_ => h_.1))) hb); have n4_ := Aside0.mk (Kd.R_below (by (with_reducible repeat (first | apply Kd.R_alloc | apply Kd.R_drewN | apply Kd.R_drew)); exact (Kd.R_mono (Kd.R_far (p := ⟨gb492, 2, none⟩) (Kd.R_far (p := ⟨gb492, 1, none⟩) (Kd.R_far (p := ⟨gb492, 0, none⟩) (Kd.R_types HO_460000.out BK492.out (by decide)) (fun _ hk => hk.2) (.slice Ao118 t484.length co118)) (fun _ hk => hk.2) (.slice Ao124 t487.length co124)) (fun _ hk => hk.2) (.int .i64 t490)) (fun _ h_ => h_.1))) hb); have n5_ := Aside0.mk (Kd.R_below (by (with_reducible repeat (first | apply Kd.R_alloc | apply Kd.R_drewN | apply Kd.R_drew)); exact (Kd.R_mono (Kd.R_far (p := ⟨gb492, 2, none⟩) (Kd.R_far (p := ⟨gb492, 1, none⟩) (Kd.R_far (p := ⟨gb492, 0, none⟩) (Kd.R_types HO_460001.out BK492.out (by decide)) (fun _ hk => hk.2) (.slice Ao118 t484.length co118)) (fun _ hk => hk.2) (.slice Ao124 t487.length co124)) (fun _ hk => hk.2) (.int .i64 t490)) (fun _ h_ => h_.1))) hb); have n6_ := Aside0.mk (Kd.R_below (by (with_reducible repeat (first | apply Kd.R_alloc | apply Kd.R_drewN | apply Kd.R_drew)); exact (Kd.R_mono (Kd.R_far (p := ⟨gb492, 2, none⟩) (Kd.R_far (p := ⟨gb492, 1, none⟩) (Kd.R_far (p := ⟨gb492, 0, none⟩) (Kd.R_types HO479.out BK492.out (by decide)) (fun _ hk => hk.2) (.slice Ao118 t484.length co118)) (fun _ hk => hk.2) (.slice Ao124 t487.length co124)) (fun _ hk => hk.2) (.int .i64 t490)) (fun _ h_ => h_.1))) hb); have n7_ := Aside0.mk (Kd.R_below (by (with_reducible repeat (first | apply Kd.R_alloc | apply Kd.R_drewN | apply Kd.R_drew)); exact (Kd.R_mono (Kd.R_far (p := ⟨gb492, 2, none⟩) (Kd.R_far (p := ⟨gb492, 1, none⟩) (Kd.R_far (p := ⟨gb492, 0, none⟩) (Kd.R_types HO482.out BK492.out (by decide)) (fun _ hk => hk.2) (.slice Ao118 t484.length co118)) (fun _ hk => hk.2) (.slice Ao124 t487.length co124)) (fun _ hk => hk.2) (.int .i64 t490)) (fun _ h_ => h_.1))) hb); have n8_ := Aside0.mk (Kd.R_below (by (with_reducible repeat (first | apply Kd.R_alloc | apply Kd.R_drewN | apply Kd.R_drew)); exact (Kd.R_mono (Kd.R_far (p := ⟨gb492, 2, none⟩) (Kd.R_far (p := ⟨gb492, 1, none⟩) (Kd.R_far (p := ⟨gb492, 0, none⟩) (Kd.R_types HO486.out BK492.out (by decide)) (fun _ hk => hk.2) (.slice Ao118 t484.length co118)) (fun _ hk => hk.2) (.slice Ao124 t487.length co124)) (fun _ hk => hk.2) (.int .i64 t490)) (fun _ h_ => h_.1))) hb); have n9_ := Aside0.mk (Kd.R_below (by (with_reducible repeat (first | apply Kd.R_alloc | apply Kd.R_drewN | apply Kd.R_drew)); exact (Kd.R_mono (Kd.R_far (p := ⟨gb492, 2, none⟩) (Kd.R_far (p := ⟨gb492, 1, none⟩) (Kd.R_far (p := ⟨gb492, 0, none⟩) (Kd.R_types HO489.out BK492.out (by decide)) (fun _ hk => hk.2) (.slice Ao118 t484.length co118)) (fun _ hk => hk.2) (.slice Ao124 t487.length co124)) (fun _ hk => hk.2) (.int .i64 t490)) (fun _ h_ => h_.1))) hb); have n10_ := Aside0.mk (blk_below (g := gb425) (o := .cells #[.slice A0_0 l0_0.length c0_0, .slice A0_1 l0_1.length c0_1, .int .i64 a0_2] 24 (0, 0)) KK hb); have n11_ := Aside0.mk (blk_below (g := gb442) (o := .cells #[.slice Ao22 t434.length co22, .slice Ao25 t437.length co25, .int .i64 t440] 29 (0, 0)) KK hb); have n12_ := Aside0.mk (blk_below (g := gb450) (o := .cells #[.slice Ao29 t470.length co29, .slice Ao33 t471.length co33, .int .i64 t449] 29 (0, 0)) KK hb); have n13_ := Aside0.mk (blk_below (g := gb459) (o := .cells #[.slice Ao36 t451.length co36, .slice Ao41 t454.length co41, .int .i64 t457] 29 (0, 0)) KK hb); have n14_ := Aside0.mk (blk_below (g := gb492) (o := .cells #[.slice Ao118 t484.length co118, .slice Ao124 t487.length co124, .int .i64 t490] 29 (0, 0)) (by (with_reducible repeat (first | refine blk_drewN ?_ _ | refine blk_drew ?_ | refine blk_alloc ?_ _)); refine blk_put (cs := #[.slice Ao118 t484.length co118, .slice Ao124 t487.length co124, .int .i64 0]) ?_ 2 _ rfl; (with_reducible repeat (first | refine blk_drewN ?_ _ | refine blk_drew ?_ | refine blk_alloc ?_ _)); refine blk_put (cs := #[.slice Ao118 t484.length co118, .slice none 0 0, .int .i64 0]) ?_ 1 _ rfl; (with_reducible repeat (first | refine blk_drewN ?_ _ | refine blk_drew ?_ | refine blk_alloc ?_ _)); refine blk_put (cs := #[.slice none 0 0, .slice none 0 0, .int .i64 0]) ?_ 0 _ rfl; (with_reducible repeat (first | refine blk_drewN ?_ _ | refine blk_drew ?_ | refine blk_alloc ?_ _)); exact BK492.out) hb); have n15_ := Aside0.mk (below_step KB hb); clear HO_443000; clear HO_443001; clear HO_451000; clear HO_451001; clear HO_460000; clear HO_460001; clear HO479; clear HO482; clear HO486; clear HO489; clear BK425; clear BK442; clear BK450; clear BK459; clear BK492; clear HB; have HO_443000 := n0_; have HO_443001 := n1_; have HO_451000 := n2_; have HO_451001 := n3_; have HO_460000 := n4_; have HO_460001 := n5_; have HO479 := n6_; have HO482 := n7_; have HO486 := n8_; have HO489 := n9_; have BK425 := n10_; have BK442 := n11_; have BK450 := n12_; have BK459 := n13_; have BK492 := n14_; have HB := n15_; clear n0_ n1_ n2_ n3_ n4_ n5_ n6_ n7_ n8_ n9_ n10_ n11_ n12_ n13_ n14_ n15_; (try clear hb); (try clear hb2); (try clear hk); (try clear hi)))
             go_meet
             case rel => exact ⟨_, ((t491 != t441)), (by first | rfl | (simp; done) | (simp [*]; done)), H', ⟨by have := HJ11.out; have := HJ64.out; first | omega | exact Nat.le_refl _⟩, ⟨by (try simp only [hl451000_64]); (try simp only [hl451001_64]); (with_reducible repeat (first | apply Kd.R_alloc | apply Kd.R_drewN | apply Kd.R_drew)); exact Kd.R_mono HO_443000.out (fun _ hk => ⟨hk.1.1.1.1.1, ⟨hk.1.1.1.1.2.1, ⟨hk.1.1.1.1.2.2.1, ⟨hk.1.1.1.1.2.2.2.1, ⟨hk.1.1.1.1.2.2.2.2, ⟨hk.1.2, hk.2⟩⟩⟩⟩⟩⟩)⟩, ⟨by (try simp only [hl451000_64]); (try simp only [hl451001_64]); (with_reducible repeat (first | apply Kd.R_alloc | apply Kd.R_drewN | apply Kd.R_drew)); exact Kd.R_mono HO_443001.out (fun _ hk => ⟨hk.1.1.1.1.1, ⟨hk.1.1.1.1.2.1, ⟨hk.1.1.1.1.2.2.1, ⟨hk.1.1.1.1.2.2.2.1, ⟨hk.1.1.1.1.2.2.2.2, ⟨hk.1.2, hk.2⟩⟩⟩⟩⟩⟩)⟩, ⟨by (try simp only [hl451000_64]); (try simp only [hl451001_64]); (with_reducible repeat (first | apply Kd.R_alloc | apply Kd.R_drewN | apply Kd.R_drew)); exact Kd.R_mono HO_451000.out (fun _ hk => ⟨hk.1.1.1.1.1, ⟨hk.1.1.1.1.2.1, ⟨hk.1.1.1.1.2.2.1, ⟨hk.1.1.1.1.2.2.2.1, ⟨hk.1.1.1.1.2.2.2.2, ⟨hk.1.2, hk.2⟩⟩⟩⟩⟩⟩)⟩, ⟨by (try simp only [hl451000_64]); (try simp only [hl451001_64]); (with_reducible repeat (first | apply Kd.R_alloc | apply Kd.R_drewN | apply Kd.R_drew)); exact Kd.R_mono HO_451001.out (fun _ hk => ⟨hk.1.1.1.1.1, ⟨hk.1.1.1.1.2.1, ⟨hk.1.1.1.1.2.2.1, ⟨hk.1.1.1.1.2.2.2.1, ⟨hk.1.1.1.1.2.2.2.2, ⟨hk.1.2, hk.2⟩⟩⟩⟩⟩⟩)⟩, ⟨by (try simp only [hl451000_64]); (try simp only [hl451001_64]); (with_reducible repeat (first | apply Kd.R_alloc | apply Kd.R_drewN | apply Kd.R_drew)); exact Kd.R_mono HO_460000.out (fun _ hk => ⟨hk.1.1.1.1.1, ⟨hk.1.1.1.1.2.1, ⟨hk.1.1.1.1.2.2.1, ⟨hk.1.1.1.1.2.2.2.1, ⟨hk.1.1.1.1.2.2.2.2, ⟨hk.1.2, hk.2⟩⟩⟩⟩⟩⟩)⟩, ⟨by (try simp only [hl451000_64]); (try simp only [hl451001_64]); (with_reducible repeat (first | apply Kd.R_alloc | apply Kd.R_drewN | apply Kd.R_drew)); exact Kd.R_mono HO_460001.out (fun _ hk => ⟨hk.1.1.1.1.1, ⟨hk.1.1.1.1.2.1, ⟨hk.1.1.1.1.2.2.1, ⟨hk.1.1.1.1.2.2.2.1, ⟨hk.1.1.1.1.2.2.2.2, ⟨hk.1.2, hk.2⟩⟩⟩⟩⟩⟩)⟩, ⟨by (try simp only [hl451000_64]); (try simp only [hl451001_64]); (with_reducible repeat (first | apply Kd.R_alloc | apply Kd.R_drewN | apply Kd.R_drew)); exact Kd.R_mono HO486.out (fun _ hk => ⟨hk.1.1.1.1.1.1.1.2, ⟨hk.1.1.1.1.1.1.2, ⟨hk.1.1.1.1.1.2, ⟨hk.1.1.1.1.2, ⟨hk.1.1.1.2, ⟨hk.1.1.2, hk.1.1.1.1.1.1.1.1⟩⟩⟩⟩⟩⟩)⟩, ⟨by (try simp only [hl451000_64]); (try simp only [hl451001_64]); (with_reducible repeat (first | apply Kd.R_alloc | apply Kd.R_drewN | apply Kd.R_drew)); exact Kd.R_mono HO489.out (fun _ hk => ⟨hk.1.1.1.1.1.1.1.2, ⟨hk.1.1.1.1.1.1.2, ⟨hk.1.1.1.1.1.2, ⟨hk.1.1.1.1.2, ⟨hk.1.1.1.2, ⟨hk.1.1.2, hk.1.1.1.1.1.1.1.1⟩⟩⟩⟩⟩⟩)⟩, ⟨by (try simp only [hl451000_64]); (try simp only [hl451001_64]); (with_reducible repeat (first | refine blk_drewN ?_ _ | refine blk_drew ?_ | refine blk_alloc ?_ _)); exact BK425.out⟩, ⟨by (try simp only [hl451000_64]); (try simp only [hl451001_64]); (with_reducible repeat (first | refine blk_drewN ?_ _ | refine blk_drew ?_ | refine blk_alloc ?_ _)); exact BK442.out⟩, ⟨by (try simp only [hl451000_64]); (try simp only [hl451001_64]); (with_reducible repeat (first | refine blk_drewN ?_ _ | refine blk_drew ?_ | refine blk_alloc ?_ _)); exact BK450.out⟩, ⟨by (try simp only [hl451000_64]); (try simp only [hl451001_64]); (with_reducible repeat (first | refine blk_drewN ?_ _ | refine blk_drew ?_ | refine blk_alloc ?_ _)); exact BK459.out⟩, ⟨by (try simp only [hl451000_64]); (try simp only [hl451001_64]); (with_reducible repeat (first | refine blk_drewN ?_ _ | refine blk_drew ?_ | refine blk_alloc ?_ _)); exact BK492.out⟩, ⟨KB⟩⟩
            ·replace c126 := Bool.eq_false_iff.mpr c126
             subst c126
             have H1 : (laws_FnExactStoreSeal.j2 kj64 t473 true t474 t475 t457) = some r := by rw [if_neg (show ¬ (false = true) by decide)] at H; exact H
             clear H
             have H := H1
             clear H1
             have H' := Aside0.mk H
             clear H
             have hnb137 := NB492_425.out
             have hnc137 := NB425_492.out
             have hnb138 := NB492_442.out
             have hnc138 := NB442_492.out
             have hnb139 := NB492_450.out
             have hnc139 := NB450_492.out
             have hnb140 := NB492_459.out
             have hnc140 := NB459_492.out
             have hcz141_0 : w117.cell? ⟨gb492, 0, none⟩ = some (.slice none 0 0) := (blk_cell BK492.out 0).trans rfl
             have hcz141_1 : w117.cell? ⟨gb492, 1, none⟩ = some (.slice none 0 0) := (blk_cell BK492.out 1).trans rfl
             have hcz141_2 : w117.cell? ⟨gb492, 2, none⟩ = some (.int .i64 0) := (blk_cell BK492.out 2).trans rfl
             have hfz141_0 := blk_frozen BK492.out 0
             have hfz141_1 := blk_frozen BK492.out 1
             have hfz141_2 := blk_frozen BK492.out 2
             have hnb142 := NB442_425.out
             have hnc142 := NB425_442.out
             have hnb143 := NB442_450.out
             have hnc143 := NB450_442.out
             have hnb144 := NB442_459.out
             have hnc144 := NB459_442.out
             have hcz145_0 : w117.cell? ⟨gb442, 0, none⟩ = some (.slice Ao22 t434.length co22) := (blk_cell BK442.out 0).trans rfl
             have hcz145_1 : w117.cell? ⟨gb442, 1, none⟩ = some (.slice Ao25 t437.length co25) := (blk_cell BK442.out 1).trans rfl
             have hcz145_2 : w117.cell? ⟨gb442, 2, none⟩ = some (.int .i64 t440) := (blk_cell BK442.out 2).trans rfl
             have hfz145_0 := blk_frozen BK442.out 0
             have hfz145_1 := blk_frozen BK442.out 1
             have hfz145_2 := blk_frozen BK442.out 2
             go_wp2_with (first | ((with_reducible refine gate_callee (f := 19) rfl ?_); refine goesL_ (some 86) rfl rfl Try.func19 (by kernel_rfl) rfl #[.agg #[.slice Ao118 t484.length co118, .slice Ao124 t487.length co124, .int .i64 t490], .agg #[.slice Ao22 t434.length co22, .slice Ao25 t437.length co25, .int .i64 t440]] rfl KL ?_; (with_reducible refine (laws_eqStore.calls kj64 _ _ t484 _ _ t487 t490 _ _ t434 _ _ t437 t440 false _ ?side1 ?side2 ?side3 ?side4 ?side5 ?side6 ?side7 ?side8 A125.out).mono ?_); (case side1 => refine (Kd.R_reads' (e := 34) (base := w.heap.size) (ok := fun k_ => ((((((((some k_ ≠ (.slice Ao124 t487.length co124 : Value).ownBlock ∧ some k_ ≠ (.slice Ao22 t434.length co22 : Value).ownBlock) ∧ some k_ ≠ (.slice Ao25 t437.length co25 : Value).ownBlock) ∧ some k_ ≠ (.slice Ao29 t470.length co29 : Value).ownBlock) ∧ some k_ ≠ (.slice Ao33 t471.length co33 : Value).ownBlock) ∧ some k_ ≠ (.slice Ao36 t451.length co36 : Value).ownBlock) ∧ some k_ ≠ (.slice Ao41 t454.length co41 : Value).ownBlock) ∧ some k_ ≠ (.slice Ao114 t477.length co114 : Value).ownBlock) ∧ some k_ ≠ (.slice Ao115 t480.length co115 : Value).ownBlock)) (n := t484.length) (c := co118) ?_).2.2; exact (by (with_reducible repeat (first | apply Kd.R_alloc | apply Kd.R_drewN | apply Kd.R_drew)); exact (Kd.R_mono (Kd.R_far (p := ⟨gb492, 2, none⟩) (Kd.R_far (p := ⟨gb492, 1, none⟩) (Kd.R_far (p := ⟨gb492, 0, none⟩) (Kd.R_types HO486.out BK492.out (by decide)) (fun _ hk => hk.2) (.slice Ao118 t484.length co118)) (fun _ hk => hk.2) (.slice Ao124 t487.length co124)) (fun _ hk => hk.2) (.int .i64 t490)) (fun _ h_ => h_.1)))); (case side2 => exact (Kd.R_reads' HO486.out).2.1); (case side3 => refine (Kd.R_reads' (e := 34) (base := w.heap.size) (ok := fun k_ => ((((((((some k_ ≠ (.slice Ao118 t484.length co118 : Value).ownBlock ∧ some k_ ≠ (.slice Ao22 t434.length co22 : Value).ownBlock) ∧ some k_ ≠ (.slice Ao25 t437.length co25 : Value).ownBlock) ∧ some k_ ≠ (.slice Ao29 t470.length co29 : Value).ownBlock) ∧ some k_ ≠ (.slice Ao33 t471.length co33 : Value).ownBlock) ∧ some k_ ≠ (.slice Ao36 t451.length co36 : Value).ownBlock) ∧ some k_ ≠ (.slice Ao41 t454.length co41 : Value).ownBlock) ∧ some k_ ≠ (.slice Ao114 t477.length co114 : Value).ownBlock) ∧ some k_ ≠ (.slice Ao115 t480.length co115 : Value).ownBlock)) (n := t487.length) (c := co124) ?_).2.2; exact (by (with_reducible repeat (first | apply Kd.R_alloc | apply Kd.R_drewN | apply Kd.R_drew)); exact (Kd.R_mono (Kd.R_far (p := ⟨gb492, 2, none⟩) (Kd.R_far (p := ⟨gb492, 1, none⟩) (Kd.R_far (p := ⟨gb492, 0, none⟩) (Kd.R_types HO489.out BK492.out (by decide)) (fun _ hk => hk.2) (.slice Ao118 t484.length co118)) (fun _ hk => hk.2) (.slice Ao124 t487.length co124)) (fun _ hk => hk.2) (.int .i64 t490)) (fun _ h_ => h_.1)))); (case side4 => exact (Kd.R_reads' HO489.out).2.1); (case side5 => refine (Kd.R_reads' (e := 34) (base := w.heap.size) (ok := fun k_ => (((((some k_ ≠ (.slice Ao25 t437.length co25 : Value).ownBlock ∧ (some k_ ≠ (.slice Ao29 t470.length co29 : Value).ownBlock ∧ (some k_ ≠ (.slice Ao33 t471.length co33 : Value).ownBlock ∧ (some k_ ≠ (.slice Ao36 t451.length co36 : Value).ownBlock ∧ some k_ ≠ (.slice Ao41 t454.length co41 : Value).ownBlock)))) ∧ some k_ ≠ (.slice Ao114 t477.length co114 : Value).ownBlock) ∧ some k_ ≠ (.slice Ao115 t480.length co115 : Value).ownBlock) ∧ some k_ ≠ (.slice Ao118 t484.length co118 : Value).ownBlock) ∧ some k_ ≠ (.slice Ao124 t487.length co124 : Value).ownBlock)) (n := t434.length) (c := co22) ?_).2.2; exact (by (with_reducible repeat (first | apply Kd.R_alloc | apply Kd.R_drewN | apply Kd.R_drew)); exact (Kd.R_mono (Kd.R_far (p := ⟨gb492, 2, none⟩) (Kd.R_far (p := ⟨gb492, 1, none⟩) (Kd.R_far (p := ⟨gb492, 0, none⟩) (Kd.R_types HO_443000.out BK492.out (by decide)) (fun _ hk => hk.2) (.slice Ao118 t484.length co118)) (fun _ hk => hk.2) (.slice Ao124 t487.length co124)) (fun _ hk => hk.2) (.int .i64 t490)) (fun _ h_ => h_.1)))); (case side6 => exact (Kd.R_reads' HO_443000.out).2.1); (case side7 => refine (Kd.R_reads' (e := 34) (base := w.heap.size) (ok := fun k_ => (((((some k_ ≠ (.slice Ao22 t434.length co22 : Value).ownBlock ∧ (some k_ ≠ (.slice Ao29 t470.length co29 : Value).ownBlock ∧ (some k_ ≠ (.slice Ao33 t471.length co33 : Value).ownBlock ∧ (some k_ ≠ (.slice Ao36 t451.length co36 : Value).ownBlock ∧ some k_ ≠ (.slice Ao41 t454.length co41 : Value).ownBlock)))) ∧ some k_ ≠ (.slice Ao114 t477.length co114 : Value).ownBlock) ∧ some k_ ≠ (.slice Ao115 t480.length co115 : Value).ownBlock) ∧ some k_ ≠ (.slice Ao118 t484.length co118 : Value).ownBlock) ∧ some k_ ≠ (.slice Ao124 t487.length co124 : Value).ownBlock)) (n := t437.length) (c := co25) ?_).2.2; exact (by (with_reducible repeat (first | apply Kd.R_alloc | apply Kd.R_drewN | apply Kd.R_drew)); exact (Kd.R_mono (Kd.R_far (p := ⟨gb492, 2, none⟩) (Kd.R_far (p := ⟨gb492, 1, none⟩) (Kd.R_far (p := ⟨gb492, 0, none⟩) (Kd.R_types HO_443001.out BK492.out (by decide)) (fun _ hk => hk.2) (.slice Ao118 t484.length co118)) (fun _ hk => hk.2) (.slice Ao124 t487.length co124)) (fun _ hk => hk.2) (.int .i64 t490)) (fun _ h_ => h_.1)))); (case side8 => exact (Kd.R_reads' HO_443001.out).2.1); rintro e w146 ⟨rfl, hb⟩; refine ⟨_, rfl, ?_⟩; have n0_ := Aside0.mk (Kd.R_below (by (with_reducible repeat (first | apply Kd.R_alloc | apply Kd.R_drewN | apply Kd.R_drew)); exact (Kd.R_mono (Kd.R_far (p := ⟨gb492, 2, none⟩) (Kd.R_far (p := ⟨gb492, 1, none⟩) (Kd.R_far (p := ⟨gb492, 0, none⟩) (Kd.R_types HO_443000.out BK492.out (by decide)) (fun _ hk => hk.2) (.slice Ao118 t484.length co118)) (fun _ hk => hk.2) (.slice Ao124 t487.length co124)) (fun _ hk => hk.2) (.int .i64 t490)) (fun _ h_ => h_.1))) hb); have n1_ := Aside0.mk (Kd.R_below (by (with_reducible repeat (first | apply Kd.R_alloc | apply Kd.R_drewN | apply Kd.R_drew)); exact (Kd.R_mono (Kd.R_far (p := ⟨gb492, 2, none⟩) (Kd.R_far (p := ⟨gb492, 1, none⟩) (Kd.R_far (p := ⟨gb492, 0, none⟩) (Kd.R_types HO_443001.out BK492.out (by decide)) (fun _ hk => hk.2) (.slice Ao118 t484.length co118)) (fun _ hk => hk.2) (.slice Ao124 t487.length co124)) (fun _ hk => hk.2) (.int .i64 t490)) (fun _ h_ => h_.1))) hb); have n2_ := Aside0.mk (Kd.R_below (by (with_reducible repeat (first | apply Kd.R_alloc | apply Kd.R_drewN | apply Kd.R_drew)); exact (Kd.R_mono (Kd.R_far (p := ⟨gb492, 2, none⟩) (Kd.R_far (p := ⟨gb492, 1, none⟩) (Kd.R_far (p := ⟨gb492, 0, none⟩) (Kd.R_types HO_451000.out BK492.out (by decide)) (fun _ hk => hk.2) (.slice Ao118 t484.length co118)) (fun _ hk => hk.2) (.slice Ao124 t487.length co124)) (fun _ hk => hk.2) (.int .i64 t490)) (fun _ h_ => h_.1))) hb); have n3_ := Aside0.mk (Kd.R_below (by (with_reducible repeat (first | apply Kd.R_alloc | apply Kd.R_drewN | apply Kd.R_drew)); exact (Kd.R_mono (Kd.R_far (p := ⟨gb492, 2, none⟩) (Kd.R_far (p := ⟨gb492, 1, none⟩) (Kd.R_far (p := ⟨gb492, 0, none⟩) (Kd.R_types HO_451001.out BK492.out (by decide)) (fun _ hk => hk.2) (.slice Ao118 t484.length co118)) (fun _ hk => hk.2) (.slice Ao124 t487.length co124)) (fun _ hk => hk.2) (.int .i64 t490)) (fun _ h_ => h_.1))) hb); have n4_ := Aside0.mk (Kd.R_below (by (with_reducible repeat (first | apply Kd.R_alloc | apply Kd.R_drewN | apply Kd.R_drew)); exact (Kd.R_mono (Kd.R_far (p := ⟨gb492, 2, none⟩) (Kd.R_far (p := ⟨gb492, 1, none⟩) (Kd.R_far (p := ⟨gb492, 0, none⟩) (Kd.R_types HO_460000.out BK492.out (by decide)) (fun _ hk => hk.2) (.slice Ao118 t484.length co118)) (fun _ hk => hk.2) (.slice Ao124 t487.length co124)) (fun _ hk => hk.2) (.int .i64 t490)) (fun _ h_ => h_.1))) hb); have n5_ := Aside0.mk (Kd.R_below (by (with_reducible repeat (first | apply Kd.R_alloc | apply Kd.R_drewN | apply Kd.R_drew)); exact (Kd.R_mono (Kd.R_far (p := ⟨gb492, 2, none⟩) (Kd.R_far (p := ⟨gb492, 1, none⟩) (Kd.R_far (p := ⟨gb492, 0, none⟩) (Kd.R_types HO_460001.out BK492.out (by decide)) (fun _ hk => hk.2) (.slice Ao118 t484.length co118)) (fun _ hk => hk.2) (.slice Ao124 t487.length co124)) (fun _ hk => hk.2) (.int .i64 t490)) (fun _ h_ => h_.1))) hb); have n6_ := Aside0.mk (Kd.R_below (by (with_reducible repeat (first | apply Kd.R_alloc | apply Kd.R_drewN | apply Kd.R_drew)); exact (Kd.R_mono (Kd.R_far (p := ⟨gb492, 2, none⟩) (Kd.R_far (p := ⟨gb492, 1, none⟩) (Kd.R_far (p := ⟨gb492, 0, none⟩) (Kd.R_types HO479.out BK492.out (by decide)) (fun _ hk => hk.2) (.slice Ao118 t484.length co118)) (fun _ hk => hk.2) (.slice Ao124 t487.length co124)) (fun _ hk => hk.2) (.int .i64 t490)) (fun _ h_ => h_.1))) hb); have n7_ := Aside0.mk (Kd.R_below (by (with_reducible repeat (first | apply Kd.R_alloc | apply Kd.R_drewN | apply Kd.R_drew)); exact (Kd.R_mono (Kd.R_far (p := ⟨gb492, 2, none⟩) (Kd.R_far (p := ⟨gb492, 1, none⟩) (Kd.R_far (p := ⟨gb492, 0, none⟩) (Kd.R_types HO482.out BK492.out (by decide)) (fun _ hk => hk.2) (.slice Ao118 t484.length co118)) (fun _ hk => hk.2) (.slice Ao124 t487.length co124)) (fun _ hk => hk.2) (.int .i64 t490)) (fun _ h_ => h_.1))) hb); have n8_ := Aside0.mk (Kd.R_below (by (with_reducible repeat (first | apply Kd.R_alloc | apply Kd.R_drewN | apply Kd.R_drew)); exact (Kd.R_mono (Kd.R_far (p := ⟨gb492, 2, none⟩) (Kd.R_far (p := ⟨gb492, 1, none⟩) (Kd.R_far (p := ⟨gb492, 0, none⟩) (Kd.R_types HO486.out BK492.out (by decide)) (fun _ hk => hk.2) (.slice Ao118 t484.length co118)) (fun _ hk => hk.2) (.slice Ao124 t487.length co124)) (fun _ hk => hk.2) (.int .i64 t490)) (fun _ h_ => h_.1))) hb); have n9_ := Aside0.mk (Kd.R_below (by (with_reducible repeat (first | apply Kd.R_alloc | apply Kd.R_drewN | apply Kd.R_drew)); exact (Kd.R_mono (Kd.R_far (p := ⟨gb492, 2, none⟩) (Kd.R_far (p := ⟨gb492, 1, none⟩) (Kd.R_far (p := ⟨gb492, 0, none⟩) (Kd.R_types HO489.out BK492.out (by decide)) (fun _ hk => hk.2) (.slice Ao118 t484.length co118)) (fun _ hk => hk.2) (.slice Ao124 t487.length co124)) (fun _ hk => hk.2) (.int .i64 t490)) (fun _ h_ => h_.1))) hb); have n10_ := Aside0.mk (blk_below (g := gb425) (o := .cells #[.slice A0_0 l0_0.length c0_0, .slice A0_1 l0_1.length c0_1, .int .i64 a0_2] 24 (0, 0)) KK hb); have n11_ := Aside0.mk (blk_below (g := gb442) (o := .cells #[.slice Ao22 t434.length co22, .slice Ao25 t437.length co25, .int .i64 t440] 29 (0, 0)) KK hb); have n12_ := Aside0.mk (blk_below (g := gb450) (o := .cells #[.slice Ao29 t470.length co29, .slice Ao33 t471.length co33, .int .i64 t449] 29 (0, 0)) KK hb); have n13_ := Aside0.mk (blk_below (g := gb459) (o := .cells #[.slice Ao36 t451.length co36, .slice Ao41 t454.length co41, .int .i64 t457] 29 (0, 0)) KK hb); have n14_ := Aside0.mk (blk_below (g := gb492) (o := .cells #[.slice Ao118 t484.length co118, .slice Ao124 t487.length co124, .int .i64 t490] 29 (0, 0)) (by (with_reducible repeat (first | refine blk_drewN ?_ _ | refine blk_drew ?_ | refine blk_alloc ?_ _)); refine blk_put (cs := #[.slice Ao118 t484.length co118, .slice Ao124 t487.length co124, .int .i64 0]) ?_ 2 _ rfl; (with_reducible repeat (first | refine blk_drewN ?_ _ | refine blk_drew ?_ | refine blk_alloc ?_ _)); refine blk_put (cs := #[.slice Ao118 t484.length co118, .slice none 0 0, .int .i64 0]) ?_ 1 _ rfl; (with_reducible repeat (first | refine blk_drewN ?_ _ | refine blk_drew ?_ | refine blk_alloc ?_ _)); refine blk_put (cs := #[.slice none 0 0, .slice none 0 0, .int .i64 0]) ?_ 0 _ rfl; (with_reducible repeat (first | refine blk_drewN ?_ _ | refine blk_drew ?_ | refine blk_alloc ?_ _)); exact BK492.out) hb); have n15_ := Aside0.mk (below_step KB hb); clear HO_443000; clear HO_443001; clear HO_451000; clear HO_451001; clear HO_460000; clear HO_460001; clear HO479; clear HO482; clear HO486; clear HO489; clear BK425; clear BK442; clear BK450; clear BK459; clear BK492; clear HB; have HO_443000 := n0_; have HO_443001 := n1_; have HO_451000 := n2_; have HO_451001 := n3_; have HO_460000 := n4_; have HO_460001 := n5_; have HO479 := n6_; have HO482 := n7_; have HO486 := n8_; have HO489 := n9_; have BK425 := n10_; have BK442 := n11_; have BK450 := n12_; have BK459 := n13_; have BK492 := n14_; have HB := n15_; clear n0_ n1_ n2_ n3_ n4_ n5_ n6_ n7_ n8_ n9_ n10_ n11_ n12_ n13_ n14_ n15_; (try clear hb); (try clear hb2); (try clear hk); (try clear hi)))
             go_meet
             case rel => exact ⟨_, (true), (by first | rfl | (simp; done) | (simp [*]; done)), H', ⟨by have := HJ11.out; have := HJ64.out; first | omega | exact Nat.le_refl _⟩, ⟨by (try simp only [hl451000_64]); (try simp only [hl451001_64]); (with_reducible repeat (first | apply Kd.R_alloc | apply Kd.R_drewN | apply Kd.R_drew)); exact Kd.R_mono HO_443000.out (fun _ hk => ⟨hk.1.1.1.1.1, ⟨hk.1.1.1.1.2.1, ⟨hk.1.1.1.1.2.2.1, ⟨hk.1.1.1.1.2.2.2.1, ⟨hk.1.1.1.1.2.2.2.2, ⟨hk.1.2, hk.2⟩⟩⟩⟩⟩⟩)⟩, ⟨by (try simp only [hl451000_64]); (try simp only [hl451001_64]); (with_reducible repeat (first | apply Kd.R_alloc | apply Kd.R_drewN | apply Kd.R_drew)); exact Kd.R_mono HO_443001.out (fun _ hk => ⟨hk.1.1.1.1.1, ⟨hk.1.1.1.1.2.1, ⟨hk.1.1.1.1.2.2.1, ⟨hk.1.1.1.1.2.2.2.1, ⟨hk.1.1.1.1.2.2.2.2, ⟨hk.1.2, hk.2⟩⟩⟩⟩⟩⟩)⟩, ⟨by (try simp only [hl451000_64]); (try simp only [hl451001_64]); (with_reducible repeat (first | apply Kd.R_alloc | apply Kd.R_drewN | apply Kd.R_drew)); exact Kd.R_mono HO_451000.out (fun _ hk => ⟨hk.1.1.1.1.1, ⟨hk.1.1.1.1.2.1, ⟨hk.1.1.1.1.2.2.1, ⟨hk.1.1.1.1.2.2.2.1, ⟨hk.1.1.1.1.2.2.2.2, ⟨hk.1.2, hk.2⟩⟩⟩⟩⟩⟩)⟩, ⟨by (try simp only [hl451000_64]); (try simp only [hl451001_64]); (with_reducible repeat (first | apply Kd.R_alloc | apply Kd.R_drewN | apply Kd.R_drew)); exact Kd.R_mono HO_451001.out (fun _ hk => ⟨hk.1.1.1.1.1, ⟨hk.1.1.1.1.2.1, ⟨hk.1.1.1.1.2.2.1, ⟨hk.1.1.1.1.2.2.2.1, ⟨hk.1.1.1.1.2.2.2.2, ⟨hk.1.2, hk.2⟩⟩⟩⟩⟩⟩)⟩, ⟨by (try simp only [hl451000_64]); (try simp only [hl451001_64]); (with_reducible repeat (first | apply Kd.R_alloc | apply Kd.R_drewN | apply Kd.R_drew)); exact Kd.R_mono HO_460000.out (fun _ hk => ⟨hk.1.1.1.1.1, ⟨hk.1.1.1.1.2.1, ⟨hk.1.1.1.1.2.2.1, ⟨hk.1.1.1.1.2.2.2.1, ⟨hk.1.1.1.1.2.2.2.2, ⟨hk.1.2, hk.2⟩⟩⟩⟩⟩⟩)⟩, ⟨by (try simp only [hl451000_64]); (try simp only [hl451001_64]); (with_reducible repeat (first | apply Kd.R_alloc | apply Kd.R_drewN | apply Kd.R_drew)); exact Kd.R_mono HO_460001.out (fun _ hk => ⟨hk.1.1.1.1.1, ⟨hk.1.1.1.1.2.1, ⟨hk.1.1.1.1.2.2.1, ⟨hk.1.1.1.1.2.2.2.1, ⟨hk.1.1.1.1.2.2.2.2, ⟨hk.1.2, hk.2⟩⟩⟩⟩⟩⟩)⟩, ⟨by (try simp only [hl451000_64]); (try simp only [hl451001_64]); (with_reducible repeat (first | apply Kd.R_alloc | apply Kd.R_drewN | apply Kd.R_drew)); exact Kd.R_mono HO486.out (fun _ hk => ⟨hk.1.1.1.1.1.1.1.2, ⟨hk.1.1.1.1.1.1.2, ⟨hk.1.1.1.1.1.2, ⟨hk.1.1.1.1.2, ⟨hk.1.1.1.2, ⟨hk.1.1.2, hk.1.1.1.1.1.1.1.1⟩⟩⟩⟩⟩⟩)⟩, ⟨by (try simp only [hl451000_64]); (try simp only [hl451001_64]); (with_reducible repeat (first | apply Kd.R_alloc | apply Kd.R_drewN | apply Kd.R_drew)); exact Kd.R_mono HO489.out (fun _ hk => ⟨hk.1.1.1.1.1.1.1.2, ⟨hk.1.1.1.1.1.1.2, ⟨hk.1.1.1.1.1.2, ⟨hk.1.1.1.1.2, ⟨hk.1.1.1.2, ⟨hk.1.1.2, hk.1.1.1.1.1.1.1.1⟩⟩⟩⟩⟩⟩)⟩, ⟨by (try simp only [hl451000_64]); (try simp only [hl451001_64]); (with_reducible repeat (first | refine blk_drewN ?_ _ | refine blk_drew ?_ | refine blk_alloc ?_ _)); exact BK425.out⟩, ⟨by (try simp only [hl451000_64]); (try simp only [hl451001_64]); (with_reducible repeat (first | refine blk_drewN ?_ _ | refine blk_drew ?_ | refine blk_alloc ?_ _)); exact BK442.out⟩, ⟨by (try simp only [hl451000_64]); (try simp only [hl451001_64]); (with_reducible repeat (first | refine blk_drewN ?_ _ | refine blk_drew ?_ | refine blk_alloc ?_ _)); exact BK450.out⟩, ⟨by (try simp only [hl451000_64]); (try simp only [hl451001_64]); (with_reducible repeat (first | refine blk_drewN ?_ _ | refine blk_drew ?_ | refine blk_alloc ?_ _)); exact BK459.out⟩, ⟨by (try simp only [hl451000_64]); (try simp only [hl451001_64]); (with_reducible repeat (first | refine blk_drewN ?_ _ | refine blk_drew ?_ | refine blk_alloc ?_ _)); exact BK492.out⟩, ⟨KB⟩⟩
           case rest =>
            clear HC102
            try clear c1
            try clear c2
            try clear p2
            try clear c3
            try clear c4
            try clear c4b0
            try clear c5
            try clear c6
            try clear c7
            try clear c8
            try clear c9
            try clear c10
            try clear c11
            try clear c12
            try clear c13
            try clear c14
            try clear c15
            try clear c17
            try clear c19
            try clear c23
            try clear c26
            try clear c30
            try clear c31
            try clear c33
            try clear c37
            try clear c38
            try clear c39
            try clear c43
            try clear c44
            try clear c45
            try clear c46
            try clear c48
            try clear c49
            try clear c52
            try clear c53
            try clear c54
            try clear c56
            try clear c57
            try clear c60
            try clear c63
            try clear c71
            try clear c72
            try clear c73
            try clear c76
            try clear c76b0
            try clear c78
            try clear c79
            try clear c80
            try clear c81
            try clear c83
            try clear c84
            try clear c87
            try clear c88
            try clear c89
            try clear c91
            try clear c92
            try clear c95
            try clear c98
            try clear c98b0
            try clear c99
            try clear c99b0
            try clear c99b1
            try clear c103
            try clear c104
            try clear c105
            try clear c110
            try clear c111
            try clear c119
            try clear c120
            try clear c121
            try clear c122
            try clear c126
            try clear c127
            try clear c128
            try clear c129
            try clear c130
            try clear c132
            try clear c133
            try clear c134
            try clear c137
            try clear c138
            try clear c139
            try clear c140
            try clear c142
            try clear c143
            try clear c144
            try clear hcz106_0
            try clear hcz106_1
            try clear hcz106_2
            try clear hcz108_0
            try clear hcz108_1
            try clear hcz108_2
            try clear hcz112_0
            try clear hcz112_1
            try clear hcz112_2
            try clear hcz123_0
            try clear hcz123_1
            try clear hcz123_2
            try clear hcz131_0
            try clear hcz131_1
            try clear hcz131_2
            try clear hcz135_0
            try clear hcz135_1
            try clear hcz135_2
            try clear hcz141_0
            try clear hcz141_1
            try clear hcz141_2
            try clear hcz145_0
            try clear hcz145_1
            try clear hcz145_2
            try clear hcz14_0
            try clear hcz14_1
            try clear hcz14_2
            try clear hcz16_0
            try clear hcz16_1
            try clear hcz16_2
            try clear hcz24_0
            try clear hcz24_1
            try clear hcz24_2
            try clear hcz26_0
            try clear hcz26_1
            try clear hcz26_2
            try clear hcz32_0
            try clear hcz32_1
            try clear hcz32_2
            try clear hcz40_0
            try clear hcz40_1
            try clear hcz40_2
            try clear hcz47_0
            try clear hcz47_1
            try clear hcz47_2
            try clear hcz50_0
            try clear hcz50_1
            try clear hcz50_2
            try clear hcz55_0
            try clear hcz55_1
            try clear hcz55_2
            try clear hcz58_0
            try clear hcz58_1
            try clear hcz58_2
            try clear hcz6_0
            try clear hcz6_1
            try clear hcz6_2
            try clear hcz74_0
            try clear hcz74_1
            try clear hcz74_2
            try clear hcz82_0
            try clear hcz82_1
            try clear hcz82_2
            try clear hcz85_0
            try clear hcz85_1
            try clear hcz85_2
            try clear hcz90_0
            try clear hcz90_1
            try clear hcz90_2
            try clear hcz93_0
            try clear hcz93_1
            try clear hcz93_2
            try clear hfz106_0
            try clear hfz106_1
            try clear hfz106_2
            try clear hfz108_0
            try clear hfz108_1
            try clear hfz108_2
            try clear hfz112_0
            try clear hfz112_1
            try clear hfz112_2
            try clear hfz123_0
            try clear hfz123_1
            try clear hfz123_2
            try clear hfz131_0
            try clear hfz131_1
            try clear hfz131_2
            try clear hfz135_0
            try clear hfz135_1
            try clear hfz135_2
            try clear hfz141_0
            try clear hfz141_1
            try clear hfz141_2
            try clear hfz145_0
            try clear hfz145_1
            try clear hfz145_2
            try clear hfz14_0
            try clear hfz14_1
            try clear hfz14_2
            try clear hfz16_0
            try clear hfz16_1
            try clear hfz16_2
            try clear hfz24_0
            try clear hfz24_1
            try clear hfz24_2
            try clear hfz26_0
            try clear hfz26_1
            try clear hfz26_2
            try clear hfz32_0
            try clear hfz32_1
            try clear hfz32_2
            try clear hfz40_0
            try clear hfz40_1
            try clear hfz40_2
            try clear hfz47_0
            try clear hfz47_1
            try clear hfz47_2
            try clear hfz50_0
            try clear hfz50_1
            try clear hfz50_2
            try clear hfz55_0
            try clear hfz55_1
            try clear hfz55_2
            try clear hfz58_0
            try clear hfz58_1
            try clear hfz58_2
            try clear hfz6_0
            try clear hfz6_1
            try clear hfz6_2
            try clear hfz74_0
            try clear hfz74_1
            try clear hfz74_2
            try clear hfz82_0
            try clear hfz82_1
            try clear hfz82_2
            try clear hfz85_0
            try clear hfz85_1
            try clear hfz85_2
            try clear hfz90_0
            try clear hfz90_1
            try clear hfz90_2
            try clear hfz93_0
            try clear hfz93_1
            try clear hfz93_2
            try clear p2
            obtain ⟨kq, x92_101, rfl, HA, HJ101, HO_443000, HO_443001, HO_451000, HO_451001, HO_460000, HO_460001, HO_493000, HO_493001, BK425, BK442, BK450, BK459, BK492, HB⟩ := hcut
            have hl460000_101 := (Kd.R_reads' HO_460000.out).1
            rw [hl460000_101] at HO_460000
            (try simp only [hl460000_101])
            (try simp only [hl460000_101] at BK425)
            (try simp only [hl460000_101] at BK442)
            (try simp only [hl460000_101] at BK450)
            (try simp only [hl460000_101] at BK459)
            (try simp only [hl460000_101] at BK492)
            (try simp only [hl460000_101] at HO_443000)
            (try simp only [hl460000_101] at HO_443001)
            (try simp only [hl460000_101] at HO_451000)
            (try simp only [hl460000_101] at HO_451001)
            (try simp only [hl460000_101] at HO_460001)
            (try simp only [hl460000_101] at HO_493000)
            (try simp only [hl460000_101] at HO_493001)
            have hl460001_101 := (Kd.R_reads' HO_460001.out).1
            rw [hl460001_101] at HO_460001
            (try simp only [hl460001_101])
            (try simp only [hl460001_101] at BK425)
            (try simp only [hl460001_101] at BK442)
            (try simp only [hl460001_101] at BK450)
            (try simp only [hl460001_101] at BK459)
            (try simp only [hl460001_101] at BK492)
            (try simp only [hl460001_101] at HO_443000)
            (try simp only [hl460001_101] at HO_443001)
            (try simp only [hl460001_101] at HO_451000)
            (try simp only [hl460001_101] at HO_451001)
            (try simp only [hl460001_101] at HO_460000)
            (try simp only [hl460001_101] at HO_493000)
            (try simp only [hl460001_101] at HO_493001)
            cases kq with
            | zero => exact absurd HA.out (by simp [laws_FnExactStoreSeal.j2])
            | succ kj101 =>
             have H := HA.out
             clear HA
             simp only [laws_FnExactStoreSeal.j2] at H
             by_cases c147 : x92_101 = true
             ·subst c147
              have H1 : (none) = some r := by rw [if_pos rfl] at H; exact H
              clear H
              have H := H1
              clear H1
              exact absurd H (by simp)
             ·replace c147 := Bool.eq_false_iff.mpr c147
              subst c147
              have H1 : ((laws_heldStore.f kj101 t474 t475 t457 1).bind fun t494 => (if t494 < 0 then (none) else (if t494 = t473 then (some true) else (none)))) = some r := by rw [if_neg (show ¬ (false = true) by decide)] at H; exact H
              clear H
              have H := H1
              clear H1
              replace H := Option.bind_eq_some_iff.mp H
              obtain ⟨t494, A1480, H⟩ := H
              replace H : (if t494 < 0 then (none) else (if t494 = t473 then (some true) else (none))) = some r := H
              have A148 := Aside0.mk A1480
              clear A1480
              by_cases c149 : t494 < 0
              ·rw [if_pos c149] at H
               exact absurd H (by simp)
              ·rw [if_neg c149] at H
               have c149b0 : decide (t494 < 0) = false := decide_eq_false c149
               clear c149
               by_cases c150 : t494 = t473
               ·rw [if_pos c150] at H
                have c150b0 : (t494 == t473) = true := beq_iff_eq.mpr c150
                have c150b1 : (t494 != t473) = false := bne_eq_false_iff_eq.mpr c150
                clear c150
                obtain rfl := Option.some.inj H
                have hnb151 := NB459_425.out
                have hnc151 := NB425_459.out
                have hnb152 := NB459_442.out
                have hnc152 := NB442_459.out
                have hnb153 := NB459_450.out
                have hnc153 := NB450_459.out
                have hnb154 := NB459_492.out
                have hnc154 := NB492_459.out
                have hcz155_0 : wc.cell? ⟨gb459, 0, none⟩ = some (.slice Ao36 t474.length co36) := (blk_cell BK459.out 0).trans rfl
                have hcz155_1 : wc.cell? ⟨gb459, 1, none⟩ = some (.slice Ao41 t475.length co41) := (blk_cell BK459.out 1).trans rfl
                have hcz155_2 : wc.cell? ⟨gb459, 2, none⟩ = some (.int .i64 t457) := (blk_cell BK459.out 2).trans rfl
                have hfz155_0 := blk_frozen BK459.out 0
                have hfz155_1 := blk_frozen BK459.out 1
                have hfz155_2 := blk_frozen BK459.out 2
                go_wp2_with (first | ((with_reducible refine gate_callee (f := 33) rfl ?_); refine goesL_ (some 95) rfl rfl Try.func33 (by kernel_rfl) rfl #[.agg #[.slice Ao36 t474.length co36, .slice Ao41 t475.length co41, .int .i64 t457], .int .i64 1] rfl KL ?_; (with_reducible refine (laws_heldStore.calls kj101 _ _ t474 _ _ t475 t457 1 t494 _ ?side1 ?side2 ?side3 ?side4 A148.out).mono ?_); (case side1 => repeat (first | exact (Kd.R_reads' HO_460000.out).2.2 | (with_reducible refine Kd.C_alloc ?_ _) | (with_reducible refine Kd.C_drewN ?_ _) | (with_reducible refine Kd.C_drew ?_))); (case side2 => exact (Kd.R_reads' HO_460000.out).2.1); (case side3 => repeat (first | exact (Kd.R_reads' HO_460001.out).2.2 | (with_reducible refine Kd.C_alloc ?_ _) | (with_reducible refine Kd.C_drewN ?_ _) | (with_reducible refine Kd.C_drew ?_))); (case side4 => exact (Kd.R_reads' HO_460001.out).2.1); rintro e w156 ⟨rfl, hb⟩; refine ⟨_, rfl, ?_⟩; have n0_ := Aside0.mk (Kd.R_below (KR HO_443000.out) hb); have n1_ := Aside0.mk (Kd.R_below (KR HO_443001.out) hb); have n2_ := Aside0.mk (Kd.R_below (KR HO_451000.out) hb); have n3_ := Aside0.mk (Kd.R_below (KR HO_451001.out) hb); have n4_ := Aside0.mk (Kd.R_below (KR HO_460000.out) hb); have n5_ := Aside0.mk (Kd.R_below (KR HO_460001.out) hb); have n6_ := Aside0.mk (Kd.R_below (KR HO_493000.out) hb); have n7_ := Aside0.mk (Kd.R_below (KR HO_493001.out) hb); have n8_ := Aside0.mk (blk_below (g := gb425) (o := .cells #[.slice A0_0 l0_0.length c0_0, .slice A0_1 l0_1.length c0_1, .int .i64 a0_2] 24 (0, 0)) KK hb); have n9_ := Aside0.mk (blk_below (g := gb442) (o := .cells #[.slice Ao22 t434.length co22, .slice Ao25 t437.length co25, .int .i64 t440] 29 (0, 0)) KK hb); have n10_ := Aside0.mk (blk_below (g := gb450) (o := .cells #[.slice Ao29 t470.length co29, .slice Ao33 t471.length co33, .int .i64 t449] 29 (0, 0)) KK hb); have n11_ := Aside0.mk (blk_below (g := gb459) (o := .cells #[.slice Ao36 t474.length co36, .slice Ao41 t475.length co41, .int .i64 t457] 29 (0, 0)) KK hb); have n12_ := Aside0.mk (blk_below (g := gb492) (o := .cells #[.slice Ao118 t484.length co118, .slice Ao124 t487.length co124, .int .i64 t490] 29 (0, 0)) KK hb); have n13_ := Aside0.mk (below_step KB hb); clear HO_443000; clear HO_443001; clear HO_451000; clear HO_451001; clear HO_460000; clear HO_460001; clear HO_493000; clear HO_493001; clear BK425; clear BK442; clear BK450; clear BK459; clear BK492; clear HB; have HO_443000 := n0_; have HO_443001 := n1_; have HO_451000 := n2_; have HO_451001 := n3_; have HO_460000 := n4_; have HO_460001 := n5_; have HO_493000 := n6_; have HO_493001 := n7_; have BK425 := n8_; have BK442 := n9_; have BK450 := n10_; have BK459 := n11_; have BK492 := n12_; have HB := n13_; clear n0_ n1_ n2_ n3_ n4_ n5_ n6_ n7_ n8_ n9_ n10_ n11_ n12_ n13_; (try clear hb); (try clear hb2); (try clear hk); (try clear hi)))
                go_ret
                exact ⟨KE, KB⟩
               ·rw [if_neg c150] at H
                exact absurd H (by simp)
          ·rw [if_neg c99] at H
           exact absurd H (by simp)
     ·replace c63 := Bool.eq_false_iff.mpr c63
      subst c63
      have H1 : (none) = some r := by rw [if_neg (show ¬ (false = true) by decide)] at H; exact H
      clear H
      have H := H1
      clear H1
      exact absurd H (by simp)

end Go.Proofs.Ythdpknoeackpfaa.PFnExactStoreSeal
