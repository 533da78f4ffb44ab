-- What each Go function that this law reaches comes to: written by a program out of the translation.
import Derived.Test.YthdpknoeackpfaaMFnExactStoreCrashx0
import Derived.Test.YthdpknoeackpfaaMFnExactStoreCrashx1
import Derived.Test.YthdpknoeackpfaaMFnExactStoreCrashx2
import Derived.Test.YthdpknoeackpfaaMFnExactStoreCrashx3
import Derived.Test.YthdpknoeackpfaaMFnExactStoreCrashx6
import Derived.Test.YthdpknoeackpfaaMFnExactStoreCrashx10
namespace Go.Proofs.Ythdpknoeackpfaa.PFnExactStoreCrash
open Go.RowKit Go.Proofs.YthdpknoeackpfaaW.PrintWords Go.Proofs.YthdpknoeackpfaaW.PrintLast Go.Proofs.YthdpknoeackpfaaW.PrintMore
attribute [local go_sem] max2_int min2_int max_two min_two max_three min_three max_four min_four   -- for this text's walks alone
set_option linter.unusedVariables false
set_option linter.unusedSimpArgs false

/-! ### laws_FnExactStoreCrash: function 9 -/
mutual
def laws_FnExactStoreCrash.j0 : Nat → Int → Bool → Bool → Bool → List (S43) → List (S43) → Int → List (S34) → List (S34) → Int → List (S34) → List (S34) → Int → List (S34) → List (S34) → Int → Option (Bool)
 | 0, _, _, _, _, _, _, _, _, _, _, _, _, _, _, _, _ => none
 | k + 1, x1, x7, x10, x44, x359000, x359001, x359002, x376000, x376001, x376002, x384000, x384001, x384002, x393000, x393001, x393002 => if x44 = true then (none) else ((laws_toStore.f k x359000 x359001 x359002).bind fun bt394 => ((laws_eqStore.f k x384000 x384001 x384002 bt394.1 bt394.2.1 bt394.2.2).bind fun t401 => (if t401 = true then ((laws_markStore.f k x384000 x384001 x384002 1).bind fun bt402 => (if bt402.1 < 0 then (laws_FnExactStoreCrash.j1 k x1 x7 true x359000 x359001 x359002 x376000 x376001 x376002 x393000 x393001 x393002) else ((laws_eqStore.f k x393000 x393001 x393002 x376000 x376001 x376002).bind fun t405 => (if t405 = true then (laws_FnExactStoreCrash.j1 k x1 x7 (x10 != x7) x359000 x359001 x359002 x376000 x376001 x376002 x393000 x393001 x393002) else (laws_FnExactStoreCrash.j1 k x1 x7 true x359000 x359001 x359002 x376000 x376001 x376002 x393000 x393001 x393002))))) else (none))))
def laws_FnExactStoreCrash.j1 : Nat → Int → Bool → Bool → List (S43) → List (S43) → Int → List (S34) → List (S34) → Int → List (S34) → List (S34) → Int → Option (Bool)
 | 0, _, _, _, _, _, _, _, _, _, _, _, _ => none
 | k + 1, x1, x7, x65, x359000, x359001, x359002, x376000, x376001, x376002, x393000, x393001, x393002 => if x65 = true then (none) else ((laws_markStore.f k x393000 x393001 x393002 1).bind fun bt406 => ((laws_heldStore.f k bt406.2.1 bt406.2.2 x393002 1).bind fun t409 => (if t409 < 0 then (none) else (if t409 = bt406.1 then ((laws_toStore.f k x359000 x359001 x359002).bind fun bt410 => ((impl_StoreCrash.f k bt410.1 bt410.2.1 bt410.2.2 x1).bind fun bt417 => ((laws_eqStore.f k bt417.1 bt417.2.1 bt417.2.2.1 x376000 x376001 x376002).bind fun t426 => (if t426 = true then (laws_FnExactStoreCrash.j2 k bt406.1 (bt417.2.2.2 != x7) bt406.2.1 bt406.2.2 x393002) else (laws_FnExactStoreCrash.j2 k bt406.1 true bt406.2.1 bt406.2.2 x393002))))) else (none)))))
def laws_FnExactStoreCrash.j2 : Nat → Int → Bool → List (S34) → List (S34) → Int → Option (Bool)
 | 0, _, _, _, _, _ => none
 | k + 1, x12, x92, x393000, x393001, x393002 => if x92 = true then (none) else ((laws_heldStore.f k x393000 x393001 x393002 1).bind fun t427 => (if t427 < 0 then (none) else (if t427 = x12 then (some true) else (none))))
end
def laws_FnExactStoreCrash.f (k : Nat) (l0_0 : List (S43)) (l0_1 : List (S43)) (a0_2 : Int) (a1 : Int) : Option (Bool) := (laws_szStore.f k l0_0 l0_1 a0_2 1048576).bind fun t359 => (if t359 < 0 then (some true) else ((laws_toStore.f k l0_0 l0_1 a0_2).bind fun bt360 => ((spec_StoreCrash.f k bt360.1 bt360.2.1 bt360.2.2 a1).bind fun bt367 => ((laws_toStore.f k l0_0 l0_1 a0_2).bind fun bt376 => ((impl_StoreCrash.f k bt376.1 bt376.2.1 bt376.2.2 a1).bind fun bt384 => ((laws_eqStore.f k bt384.1 bt384.2.1 bt384.2.2.1 bt367.1 bt367.2.1 bt367.2.2.1).bind fun t393 => (if t393 = true then (laws_FnExactStoreCrash.j0 k a1 bt367.2.2.2 bt384.2.2.2 (bt384.2.2.2 != bt367.2.2.2) l0_0 l0_1 a0_2 bt367.1 bt367.2.1 bt367.2.2.1 bt376.1 bt376.2.1 bt376.2.2 bt384.1 bt384.2.1 bt384.2.2.1) else (laws_FnExactStoreCrash.j0 k a1 bt367.2.2.2 bt384.2.2.2 true l0_0 l0_1 a0_2 bt367.1 bt367.2.1 bt367.2.2.1 bt376.1 bt376.2.1 bt376.2.2 bt384.1 bt384.2.1 bt384.2.2.1))))))))
theorem laws_FnExactStoreCrash.mono_l : ∀ k, (∀ y0 y1 y2 y3 y4 y5 y6 y7 y8 y9 y10 y11 y12 y13 y14 y15, LeO (laws_FnExactStoreCrash.j0 k y0 y1 y2 y3 y4 y5 y6 y7 y8 y9 y10 y11 y12 y13 y14 y15) (laws_FnExactStoreCrash.j0 (k + 1) y0 y1 y2 y3 y4 y5 y6 y7 y8 y9 y10 y11 y12 y13 y14 y15)) ∧ (∀ y0 y1 y2 y3 y4 y5 y6 y7 y8 y9 y10 y11, LeO (laws_FnExactStoreCrash.j1 k y0 y1 y2 y3 y4 y5 y6 y7 y8 y9 y10 y11) (laws_FnExactStoreCrash.j1 (k + 1) y0 y1 y2 y3 y4 y5 y6 y7 y8 y9 y10 y11)) ∧ (∀ y0 y1 y2 y3 y4, LeO (laws_FnExactStoreCrash.j2 k y0 y1 y2 y3 y4) (laws_FnExactStoreCrash.j2 (k + 1) y0 y1 y2 y3 y4))
 | 0 => ⟨fun _ _ _ _ _ _ _ _ _ _ _ _ _ _ _ _ r h => by simp [laws_FnExactStoreCrash.j0] at h, fun _ _ _ _ _ _ _ _ _ _ _ _ r h => by simp [laws_FnExactStoreCrash.j1] at h, fun _ _ _ _ _ r h => by simp [laws_FnExactStoreCrash.j2] at h⟩
 | k + 1 => by
  obtain ⟨ih0, ih1, ih2⟩ := laws_FnExactStoreCrash.mono_l k
  refine ⟨?_, ?_, ?_⟩
  ·intro y0 y1 y2 y3 y4 y5 y6 y7 y8 y9 y10 y11 y12 y13 y14 y15
   unfold laws_FnExactStoreCrash.j0
   repeat' first
   | (with_reducible exact ih0 _ _ _ _ _ _ _ _ _ _ _ _ _ _ _ _)
   | (with_reducible exact ih1 _ _ _ _ _ _ _ _ _ _ _ _)
   | (with_reducible exact ih2 _ _ _ _ _)
   | (with_reducible exact impl_StoreCrash.mono _ _ _ _ _)
   | (with_reducible exact laws_eqStore.mono _ _ _ _ _ _ _)
   | (with_reducible exact laws_heldStore.mono _ _ _ _ _)
   | (with_reducible exact laws_markStore.mono _ _ _ _ _)
   | (with_reducible exact laws_szStore.mono _ _ _ _ _)
   | (with_reducible exact laws_toStore.mono _ _ _ _)
   | (with_reducible exact spec_StoreCrash.mono _ _ _ _ _)
   | (with_reducible exact LeO.refl _)
   | (with_reducible exact LeO.none _)
   | (with_reducible refine LeO.ite ?_ ?_)
   | (with_reducible refine LeO.bind ?_ (fun _ => ?_))
   | exact ih0 _ _ _ _ _ _ _ _ _ _ _ _ _ _ _ _
   | exact ih1 _ _ _ _ _ _ _ _ _ _ _ _
   | exact ih2 _ _ _ _ _
   | exact impl_StoreCrash.mono _ _ _ _ _
   | exact laws_eqStore.mono _ _ _ _ _ _ _
   | exact laws_heldStore.mono _ _ _ _ _
   | exact laws_markStore.mono _ _ _ _ _
   | exact laws_szStore.mono _ _ _ _ _
   | exact laws_toStore.mono _ _ _ _
   | exact spec_StoreCrash.mono _ _ _ _ _
   | exact LeO.none _
   | refine LeO.ite ?_ ?_
   | refine LeO.bind ?_ (fun _ => ?_)
  ·intro y0 y1 y2 y3 y4 y5 y6 y7 y8 y9 y10 y11
   unfold laws_FnExactStoreCrash.j1
   repeat' first
   | (with_reducible exact ih0 _ _ _ _ _ _ _ _ _ _ _ _ _ _ _ _)
   | (with_reducible exact ih1 _ _ _ _ _ _ _ _ _ _ _ _)
   | (with_reducible exact ih2 _ _ _ _ _)
   | (with_reducible exact impl_StoreCrash.mono _ _ _ _ _)
   | (with_reducible exact laws_eqStore.mono _ _ _ _ _ _ _)
   | (with_reducible exact laws_heldStore.mono _ _ _ _ _)
   | (with_reducible exact laws_markStore.mono _ _ _ _ _)
   | (with_reducible exact laws_szStore.mono _ _ _ _ _)
   | (with_reducible exact laws_toStore.mono _ _ _ _)
   | (with_reducible exact spec_StoreCrash.mono _ _ _ _ _)
   | (with_reducible exact LeO.refl _)
   | (with_reducible exact LeO.none _)
   | (with_reducible refine LeO.ite ?_ ?_)
   | (with_reducible refine LeO.bind ?_ (fun _ => ?_))
   | exact ih0 _ _ _ _ _ _ _ _ _ _ _ _ _ _ _ _
   | exact ih1 _ _ _ _ _ _ _ _ _ _ _ _
   | exact ih2 _ _ _ _ _
   | exact impl_StoreCrash.mono _ _ _ _ _
   | exact laws_eqStore.mono _ _ _ _ _ _ _
   | exact laws_heldStore.mono _ _ _ _ _
   | exact laws_markStore.mono _ _ _ _ _
   | exact laws_szStore.mono _ _ _ _ _
   | exact laws_toStore.mono _ _ _ _
   | exact spec_StoreCrash.mono _ _ _ _ _
   | exact LeO.none _
   | refine LeO.ite ?_ ?_
   | refine LeO.bind ?_ (fun _ => ?_)
  ·intro y0 y1 y2 y3 y4
   unfold laws_FnExactStoreCrash.j2
   repeat' first
   | (with_reducible exact ih0 _ _ _ _ _ _ _ _ _ _ _ _ _ _ _ _)
   | (with_reducible exact ih1 _ _ _ _ _ _ _ _ _ _ _ _)
   | (with_reducible exact ih2 _ _ _ _ _)
   | (with_reducible exact impl_StoreCrash.mono _ _ _ _ _)
   | (with_reducible exact laws_eqStore.mono _ _ _ _ _ _ _)
   | (with_reducible exact laws_heldStore.mono _ _ _ _ _)
   | (with_reducible exact laws_markStore.mono _ _ _ _ _)
   | (with_reducible exact laws_szStore.mono _ _ _ _ _)
   | (with_reducible exact laws_toStore.mono _ _ _ _)
   | (with_reducible exact spec_StoreCrash.mono _ _ _ _ _)
   | (with_reducible exact LeO.refl _)
   | (with_reducible exact LeO.none _)
   | (with_reducible refine LeO.ite ?_ ?_)
   | (with_reducible refine LeO.bind ?_ (fun _ => ?_))
   | exact ih0 _ _ _ _ _ _ _ _ _ _ _ _ _ _ _ _
   | exact ih1 _ _ _ _ _ _ _ _ _ _ _ _
   | exact ih2 _ _ _ _ _
   | exact impl_StoreCrash.mono _ _ _ _ _
   | exact laws_eqStore.mono _ _ _ _ _ _ _
   | exact laws_heldStore.mono _ _ _ _ _
   | exact laws_markStore.mono _ _ _ _ _
   | exact laws_szStore.mono _ _ _ _ _
   | exact laws_toStore.mono _ _ _ _
   | exact spec_StoreCrash.mono _ _ _ _ _
   | exact LeO.none _
   | refine LeO.ite ?_ ?_
   | refine LeO.bind ?_ (fun _ => ?_)
theorem laws_FnExactStoreCrash.mono : ∀ a0 a1 a2 a3 k, LeO (laws_FnExactStoreCrash.f k a0 a1 a2 a3) (laws_FnExactStoreCrash.f (k + 1) a0 a1 a2 a3) := by
 intro a0 a1 a2 a3 k
 obtain ⟨ih0, ih1, ih2⟩ := laws_FnExactStoreCrash.mono_l k
 unfold laws_FnExactStoreCrash.f
 repeat' first
   | (with_reducible exact ih0 _ _ _ _ _ _ _ _ _ _ _ _ _ _ _ _)
   | (with_reducible exact ih1 _ _ _ _ _ _ _ _ _ _ _ _)
   | (with_reducible exact ih2 _ _ _ _ _)
   | (with_reducible exact impl_StoreCrash.mono _ _ _ _ _)
   | (with_reducible exact laws_eqStore.mono _ _ _ _ _ _ _)
   | (with_reducible exact laws_heldStore.mono _ _ _ _ _)
   | (with_reducible exact laws_markStore.mono _ _ _ _ _)
   | (with_reducible exact laws_szStore.mono _ _ _ _ _)
   | (with_reducible exact laws_toStore.mono _ _ _ _)
   | (with_reducible exact spec_StoreCrash.mono _ _ _ _ _)
   | (with_reducible exact LeO.refl _)
   | (with_reducible exact LeO.none _)
   | (with_reducible refine LeO.ite ?_ ?_)
   | (with_reducible refine LeO.bind ?_ (fun _ => ?_))
   | exact ih0 _ _ _ _ _ _ _ _ _ _ _ _ _ _ _ _
   | exact ih1 _ _ _ _ _ _ _ _ _ _ _ _
   | exact ih2 _ _ _ _ _
   | exact impl_StoreCrash.mono _ _ _ _ _
   | exact laws_eqStore.mono _ _ _ _ _ _ _
   | exact laws_heldStore.mono _ _ _ _ _
   | exact laws_markStore.mono _ _ _ _ _
   | exact laws_szStore.mono _ _ _ _ _
   | exact laws_toStore.mono _ _ _ _
   | exact spec_StoreCrash.mono _ _ _ _ _
   | exact LeO.none _
   | refine LeO.ite ?_ ?_
   | refine LeO.bind ?_ (fun _ => ?_)
set_option maxHeartbeats 8000000 in
set_option maxRecDepth 100000 in
theorem laws_FnExactStoreCrash.calls (k : Nat) (A0_0 : Option Addr) (c0_0 : Nat) (l0_0 : List (S43)) (A0_1 : Option Addr) (c0_1 : Nat) (l0_1 : List (S43)) (a0_2 : Int) (a1 : Int) (r : Bool) (w : World) (hr0_0 : Kd.C k43 w A0_0 l0_0.length l0_0) (hc0_0 : l0_0.length ≤ c0_0) (hr0_1 : Kd.C k43 w A0_1 l0_1.length l0_1) (hc0_1 : l0_1.length ≤ c0_1) (h : laws_FnExactStoreCrash.f k l0_0 l0_1 a0_2 a1 = some r) :
  Calls Try.prog 9 #[.agg #[.slice A0_0 l0_0.length c0_0, .slice A0_1 l0_1.length c0_1, .int .i64 a0_2], .int .i64 a1] w fun e w' => e = .returned (.bool r) ∧ Below w.heap.size w w' := by
 have hu24 := Try.underlying24
 have hu29 := Try.underlying29
 have HR0_0 := Aside0.mk hr0_0
 have HC0_0 := Aside0.mk hc0_0
 clear hr0_0 hc0_0
 have HR0_1 := Aside0.mk hr0_1
 have HC0_1 := Aside0.mk hc0_1
 clear hr0_1 hc0_1
 have HB := Aside0.mk (Below.refl w.heap.size w)
 have H : ((laws_szStore.f k l0_0 l0_1 a0_2 1048576).bind fun t359 => (if t359 < 0 then (some true) else ((laws_toStore.f k l0_0 l0_1 a0_2).bind fun bt360 => ((spec_StoreCrash.f k bt360.1 bt360.2.1 bt360.2.2 a1).bind fun bt367 => ((laws_toStore.f k l0_0 l0_1 a0_2).bind fun bt376 => ((impl_StoreCrash.f k bt376.1 bt376.2.1 bt376.2.2 a1).bind fun bt384 => ((laws_eqStore.f k bt384.1 bt384.2.1 bt384.2.2.1 bt367.1 bt367.2.1 bt367.2.2.1).bind fun t393 => (if t393 = true then (laws_FnExactStoreCrash.j0 k a1 bt367.2.2.2 bt384.2.2.2 (bt384.2.2.2 != bt367.2.2.2) l0_0 l0_1 a0_2 bt367.1 bt367.2.1 bt367.2.2.1 bt376.1 bt376.2.1 bt376.2.2 bt384.1 bt384.2.1 bt384.2.2.1) else (laws_FnExactStoreCrash.j0 k a1 bt367.2.2.2 bt384.2.2.2 true l0_0 l0_1 a0_2 bt367.1 bt367.2.1 bt367.2.2.1 bt376.1 bt376.2.1 bt376.2.2 bt384.1 bt384.2.1 bt384.2.2.1))))))))) = some r := h
 clear h
 replace H := Option.bind_eq_some_iff.mp H
 obtain ⟨t359, A30, H⟩ := H
 replace H : (if t359 < 0 then (some true) else ((laws_toStore.f k l0_0 l0_1 a0_2).bind fun bt360 => ((spec_StoreCrash.f k bt360.1 bt360.2.1 bt360.2.2 a1).bind fun bt367 => ((laws_toStore.f k l0_0 l0_1 a0_2).bind fun bt376 => ((impl_StoreCrash.f k bt376.1 bt376.2.1 bt376.2.2 a1).bind fun bt384 => ((laws_eqStore.f k bt384.1 bt384.2.1 bt384.2.2.1 bt367.1 bt367.2.1 bt367.2.2.1).bind fun t393 => (if t393 = true then (laws_FnExactStoreCrash.j0 k a1 bt367.2.2.2 bt384.2.2.2 (bt384.2.2.2 != bt367.2.2.2) l0_0 l0_1 a0_2 bt367.1 bt367.2.1 bt367.2.2.1 bt376.1 bt376.2.1 bt376.2.2 bt384.1 bt384.2.1 bt384.2.2.1) else (laws_FnExactStoreCrash.j0 k a1 bt367.2.2.2 bt384.2.2.2 true l0_0 l0_1 a0_2 bt367.1 bt367.2.1 bt367.2.2.1 bt376.1 bt376.2.1 bt376.2.2 bt384.1 bt384.2.1 bt384.2.2.1)))))))) = some r := H
 have A3 := Aside0.mk A30
 clear A30
 by_cases c4 : t359 < 0
 ·rw [if_pos c4] at H
  have c4b0 : decide (t359 < 0) = true := decide_eq_true c4
  clear c4
  obtain rfl := Option.some.inj H
  go_enter Try.func9, Try.ntmps9
  go_wp2_with (first | ((with_reducible refine gate_dst (N := 2) rfl ?_); refine box_event ?hg (N := 2) ?hd (cs := #[.slice A0_0 l0_0.length c0_0, .slice A0_1 l0_1.length c0_1, .int .i64 a0_2]) (t := 24) ?hr ?_; (case hd => rfl); (case hg => rfl); (case hr => first | (go_simp; done) | (go_simp; rfl)); intro gb358 hg w5 hbox hb; have n0_ := Aside0.mk (below_step KB hb); have n1_ := Aside0.mk (hbox); have n2_ := Aside0.mk ((by rw [hg]; exact (below_size KB) : w.heap.size ≤ gb358)); have n3_ := Aside0.mk ((by rw [hg]; exact (below_size KB) : w.heap.size ≤ gb358)); clear HB; have HB := n0_; have BK358 := n1_; have GW358 := n2_; have GE358 := n3_; clear n0_ n1_ n2_ n3_; clear hb hbox hg; have hcz6_0 : w5.cell? ⟨gb358, 0, none⟩ = some (.slice A0_0 l0_0.length c0_0) := (blk_cell BK358.out 0).trans rfl; have hcz6_1 : w5.cell? ⟨gb358, 1, none⟩ = some (.slice A0_1 l0_1.length c0_1) := (blk_cell BK358.out 1).trans rfl; have hcz6_2 : w5.cell? ⟨gb358, 2, none⟩ = some (.int .i64 a0_2) := (blk_cell BK358.out 2).trans rfl; have hfz6_0 := blk_frozen BK358.out 0; have hfz6_1 := blk_frozen BK358.out 1; have hfz6_2 := blk_frozen BK358.out 2) | ((with_reducible refine gate_callee (f := 15) rfl ?_); refine goesL_ (some 18) rfl rfl Try.func15 (by kernel_rfl) rfl #[.agg #[.slice A0_0 l0_0.length c0_0, .slice A0_1 l0_1.length c0_1, .int .i64 a0_2], .int .i64 1048576] rfl KL ?_; (with_reducible refine (laws_szStore.calls k _ _ l0_0 _ _ l0_1 a0_2 1048576 t359 _ ?side1 ?side2 ?side3 ?side4 A3.out).mono ?_); (case side1 => exact KD (Kd.C_below HR0_0.out HB.out)); (case side2 => exact HC0_0.out); (case side3 => exact KD (Kd.C_below HR0_1.out HB.out)); (case side4 => exact HC0_1.out); rintro e w7 ⟨rfl, hb⟩; refine ⟨_, rfl, ?_⟩; have n0_ := Aside0.mk (blk_below (g := gb358) (o := .cells #[.slice A0_0 l0_0.length c0_0, .slice A0_1 l0_1.length c0_1, .int .i64 a0_2] 24 (0, 0)) KK hb); have n1_ := Aside0.mk (below_step KB hb); clear BK358; clear HB; have BK358 := n0_; have HB := n1_; clear n0_ n1_; (try clear hb); (try clear hb2); (try clear hk); (try clear hi)))
  go_ret
  exact ⟨KE, KB⟩
 ·rw [if_neg c4] at H
  have c4b0 : decide (t359 < 0) = false := decide_eq_false c4
  clear c4
  replace H := Option.bind_eq_some_iff.mp H
  obtain ⟨⟨t360, t363, t366⟩, A80, H⟩ := H
  replace H : ((spec_StoreCrash.f k t360 t363 t366 a1).bind fun bt367 => ((laws_toStore.f k l0_0 l0_1 a0_2).bind fun bt376 => ((impl_StoreCrash.f k bt376.1 bt376.2.1 bt376.2.2 a1).bind fun bt384 => ((laws_eqStore.f k bt384.1 bt384.2.1 bt384.2.2.1 bt367.1 bt367.2.1 bt367.2.2.1).bind fun t393 => (if t393 = true then (laws_FnExactStoreCrash.j0 k a1 bt367.2.2.2 bt384.2.2.2 (bt384.2.2.2 != bt367.2.2.2) l0_0 l0_1 a0_2 bt367.1 bt367.2.1 bt367.2.2.1 bt376.1 bt376.2.1 bt376.2.2 bt384.1 bt384.2.1 bt384.2.2.1) else (laws_FnExactStoreCrash.j0 k a1 bt367.2.2.2 bt384.2.2.2 true l0_0 l0_1 a0_2 bt367.1 bt367.2.1 bt367.2.2.1 bt376.1 bt376.2.1 bt376.2.2 bt384.1 bt384.2.1 bt384.2.2.1)))))) = some r := H
  have A8 := Aside0.mk A80
  clear A80
  replace H := Option.bind_eq_some_iff.mp H
  obtain ⟨⟨t367, t370, t373, t374⟩, A90, H⟩ := H
  replace H : ((laws_toStore.f k l0_0 l0_1 a0_2).bind fun bt376 => ((impl_StoreCrash.f k bt376.1 bt376.2.1 bt376.2.2 a1).bind fun bt384 => ((laws_eqStore.f k bt384.1 bt384.2.1 bt384.2.2.1 t367 t370 t373).bind fun t393 => (if t393 = true then (laws_FnExactStoreCrash.j0 k a1 t374 bt384.2.2.2 (bt384.2.2.2 != t374) l0_0 l0_1 a0_2 t367 t370 t373 bt376.1 bt376.2.1 bt376.2.2 bt384.1 bt384.2.1 bt384.2.2.1) else (laws_FnExactStoreCrash.j0 k a1 t374 bt384.2.2.2 true l0_0 l0_1 a0_2 t367 t370 t373 bt376.1 bt376.2.1 bt376.2.2 bt384.1 bt384.2.1 bt384.2.2.1))))) = some r := H
  have A9 := Aside0.mk A90
  clear A90
  replace H := Option.bind_eq_some_iff.mp H
  obtain ⟨⟨t376, t379, t382⟩, A100, H⟩ := H
  replace H : ((impl_StoreCrash.f k t376 t379 t382 a1).bind fun bt384 => ((laws_eqStore.f k bt384.1 bt384.2.1 bt384.2.2.1 t367 t370 t373).bind fun t393 => (if t393 = true then (laws_FnExactStoreCrash.j0 k a1 t374 bt384.2.2.2 (bt384.2.2.2 != t374) l0_0 l0_1 a0_2 t367 t370 t373 t376 t379 t382 bt384.1 bt384.2.1 bt384.2.2.1) else (laws_FnExactStoreCrash.j0 k a1 t374 bt384.2.2.2 true l0_0 l0_1 a0_2 t367 t370 t373 t376 t379 t382 bt384.1 bt384.2.1 bt384.2.2.1)))) = some r := H
  have A10 := Aside0.mk A100
  clear A100
  replace H := Option.bind_eq_some_iff.mp H
  obtain ⟨⟨t384, t387, t390, t391⟩, A110, H⟩ := H
  replace H : ((laws_eqStore.f k t384 t387 t390 t367 t370 t373).bind fun t393 => (if t393 = true then (laws_FnExactStoreCrash.j0 k a1 t374 t391 (t391 != t374) l0_0 l0_1 a0_2 t367 t370 t373 t376 t379 t382 t384 t387 t390) else (laws_FnExactStoreCrash.j0 k a1 t374 t391 true l0_0 l0_1 a0_2 t367 t370 t373 t376 t379 t382 t384 t387 t390))) = some r := H
  have A11 := Aside0.mk A110
  clear A110
  have HC12 := Aside0.mk H
  clear H
  go_enter Try.func9, Try.ntmps9
  go_upto_region 8 with (first | ((with_reducible refine gate_dst (N := 2) rfl ?_); refine box_event ?hg (N := 2) ?hd (cs := #[.slice A0_0 l0_0.length c0_0, .slice A0_1 l0_1.length c0_1, .int .i64 a0_2]) (t := 24) ?hr ?_; (case hd => rfl); (case hg => rfl); (case hr => first | (go_simp; done) | (go_simp; rfl)); intro gb358 hg w13 hbox hb; have n0_ := Aside0.mk (below_step KB hb); have n1_ := Aside0.mk (hbox); have n2_ := Aside0.mk ((by rw [hg]; exact (below_size KB) : w.heap.size ≤ gb358)); have n3_ := Aside0.mk ((by rw [hg]; exact (below_size KB) : w.heap.size ≤ gb358)); clear HB; have HB := n0_; have BK358 := n1_; have GW358 := n2_; have GE358 := n3_; clear n0_ n1_ n2_ n3_; clear hb hbox hg; have hcz14_0 : w13.cell? ⟨gb358, 0, none⟩ = some (.slice A0_0 l0_0.length c0_0) := (blk_cell BK358.out 0).trans rfl; have hcz14_1 : w13.cell? ⟨gb358, 1, none⟩ = some (.slice A0_1 l0_1.length c0_1) := (blk_cell BK358.out 1).trans rfl; have hcz14_2 : w13.cell? ⟨gb358, 2, none⟩ = some (.int .i64 a0_2) := (blk_cell BK358.out 2).trans rfl; have hfz14_0 := blk_frozen BK358.out 0; have hfz14_1 := blk_frozen BK358.out 1; have hfz14_2 := blk_frozen BK358.out 2) | ((with_reducible refine gate_callee (f := 15) rfl ?_); refine goesL_ (some 18) rfl rfl Try.func15 (by kernel_rfl) rfl #[.agg #[.slice A0_0 l0_0.length c0_0, .slice A0_1 l0_1.length c0_1, .int .i64 a0_2], .int .i64 1048576] rfl KL ?_; (with_reducible refine (laws_szStore.calls k _ _ l0_0 _ _ l0_1 a0_2 1048576 t359 _ ?side1 ?side2 ?side3 ?side4 A3.out).mono ?_); (case side1 => exact KD (Kd.C_below HR0_0.out HB.out)); (case side2 => exact HC0_0.out); (case side3 => exact KD (Kd.C_below HR0_1.out HB.out)); (case side4 => exact HC0_1.out); rintro e w15 ⟨rfl, hb⟩; refine ⟨_, rfl, ?_⟩; have n0_ := Aside0.mk (blk_below (g := gb358) (o := .cells #[.slice A0_0 l0_0.length c0_0, .slice A0_1 l0_1.length c0_1, .int .i64 a0_2] 24 (0, 0)) KK hb); have n1_ := Aside0.mk (below_step KB hb); clear BK358; clear HB; have BK358 := n0_; have HB := n1_; clear n0_ n1_; (try clear hb); (try clear hb2); (try clear hk); (try clear hi); have hcz16_0 : w15.cell? ⟨gb358, 0, none⟩ = some (.slice A0_0 l0_0.length c0_0) := (blk_cell BK358.out 0).trans rfl; have hcz16_1 : w15.cell? ⟨gb358, 1, none⟩ = some (.slice A0_1 l0_1.length c0_1) := (blk_cell BK358.out 1).trans rfl; have hcz16_2 : w15.cell? ⟨gb358, 2, none⟩ = some (.int .i64 a0_2) := (blk_cell BK358.out 2).trans rfl; have hfz16_0 := blk_frozen BK358.out 0; have hfz16_1 := blk_frozen BK358.out 1; have hfz16_2 := blk_frozen BK358.out 2) | ((with_reducible refine gate_callee (f := 17) rfl ?_); refine goesL_ (some 23) rfl rfl Try.func17 (by kernel_rfl) rfl #[.agg #[.slice A0_0 l0_0.length c0_0, .slice A0_1 l0_1.length c0_1, .int .i64 a0_2]] rfl KL ?_; (with_reducible refine (laws_toStore.calls k _ _ l0_0 _ _ l0_1 a0_2 t360 t363 t366 _ ?side1 ?side2 ?side3 ?side4 A8.out).mono ?_); (case side1 => exact KD (Kd.C_below HR0_0.out HB.out)); (case side2 => exact HC0_0.out); (case side3 => exact KD (Kd.C_below HR0_1.out HB.out)); (case side4 => exact HC0_1.out); rintro e w17 ⟨v361, v364, rfl, ho0, ho1, hb⟩; refine ⟨_, rfl, ?_⟩; have n0_ := Aside0.mk (Kd.R_lower ho0 (below_size KB)); have n1_ := Aside0.mk (Kd.R_lower ho1 (below_size KB)); have n2_ := Aside0.mk (blk_below (g := gb358) (o := .cells #[.slice A0_0 l0_0.length c0_0, .slice A0_1 l0_1.length c0_1, .int .i64 a0_2] 24 (0, 0)) KK hb); have n3_ := Aside0.mk (below_step KB hb); clear BK358; clear HB; have HO362 := n0_; have HO365 := n1_; have BK358 := n2_; have HB := n3_; clear n0_ n1_ n2_ n3_; (try clear hb); (try clear hb2); (try clear hk); (try clear hi); (try clear ho0); (try clear ho1); obtain ⟨Ao18, co18, eo18⟩ := Kd.R_slice HO362.out; subst eo18; obtain ⟨Ao19, co19, eo19⟩ := Kd.R_slice HO365.out; subst eo19) | ((with_reducible refine gate_callee (f := 41) rfl ?_); refine goesL_ (some 25) rfl rfl Try.func41 (by kernel_rfl) rfl #[.agg #[.slice Ao18 t360.length co18, .slice Ao19 t363.length co19, .int .i64 t366], .int .i64 a1] rfl KL ?_; (with_reducible refine (spec_StoreCrash.calls k _ _ t360 _ _ t363 t366 a1 t367 t370 t373 t374 _ ?side1 ?side2 ?side3 ?side4 A9.out).mono ?_); (case side1 => repeat (first | exact (Kd.R_reads' HO362.out).2.2 | (with_reducible refine Kd.C_alloc ?_ _) | (with_reducible refine Kd.C_drewN ?_ _) | (with_reducible refine Kd.C_drew ?_))); (case side2 => exact (Kd.R_reads' HO362.out).2.1); (case side3 => repeat (first | exact (Kd.R_reads' HO365.out).2.2 | (with_reducible refine Kd.C_alloc ?_ _) | (with_reducible refine Kd.C_drewN ?_ _) | (with_reducible refine Kd.C_drew ?_))); (case side4 => exact (Kd.R_reads' HO365.out).2.1); rintro e w20 ⟨v368, v371, rfl, ho0, ho1, hb⟩; refine ⟨_, rfl, ?_⟩; have n0_ := Aside0.mk (Kd.R_mono (Kd.R_told (Kd.R_told (Kd.R_old (KR HO362.out) hb) (Kd.R_base ho0)) (Kd.R_base ho1)) (fun _ h_ => h_.1)); have n1_ := Aside0.mk (Kd.R_mono (Kd.R_told (Kd.R_told (Kd.R_old (KR HO365.out) hb) (Kd.R_base ho0)) (Kd.R_base ho1)) (fun _ h_ => h_.1)); have n2_ := Aside0.mk (Kd.R_lower (Kd.R_new' (Kd.R_new' ho0 (Kd.R_lt (KR HO362.out))) (Kd.R_lt (KR HO365.out))) (below_size KB)); have n3_ := Aside0.mk (Kd.R_lower (Kd.R_new' (Kd.R_new' ho1 (Kd.R_lt (KR HO362.out))) (Kd.R_lt (KR HO365.out))) (below_size KB)); have n4_ := Aside0.mk (blk_below (g := gb358) (o := .cells #[.slice A0_0 l0_0.length c0_0, .slice A0_1 l0_1.length c0_1, .int .i64 a0_2] 24 (0, 0)) KK hb); have n5_ := Aside0.mk (below_step KB hb); clear HO362; clear HO365; clear BK358; clear HB; have HO362 := n0_; have HO365 := n1_; have HO369 := n2_; have HO372 := n3_; have BK358 := n4_; have HB := n5_; clear n0_ n1_ n2_ n3_ n4_ n5_; (try clear hb); (try clear hb2); (try clear hk); (try clear hi); (try clear ho0); (try clear ho1)) | ((with_reducible refine gate_dst (N := 6) rfl ?_); refine box_event ?hg (N := 6) ?hd (cs := #[.slice none 0 0, .slice none 0 0, .int .i64 0]) (t := 29) ?hr ?_; (case hd => rfl); (case hg => rfl); (case hr => first | (go_simp; done) | (go_simp; rfl)); intro gb375 hg w21 hbox hb; have n0_ := Aside0.mk (Kd.R_below (KR HO362.out) hb); have n1_ := Aside0.mk (Kd.R_below (KR HO365.out) hb); have n2_ := Aside0.mk (Kd.R_below (KR HO369.out) hb); have n3_ := Aside0.mk (Kd.R_below (KR HO372.out) hb); have n4_ := Aside0.mk (blk_below (g := gb358) (o := .cells #[.slice A0_0 l0_0.length c0_0, .slice A0_1 l0_1.length c0_1, .int .i64 a0_2] 24 (0, 0)) KK hb); have n5_ := Aside0.mk (below_step KB hb); have n6_ := Aside0.mk (hbox); have n7_ := Aside0.mk ((by rw [hg]; exact (below_size KB) : w.heap.size ≤ gb375)); have n8_ := Aside0.mk ((by rw [hg]; exact (below_size KB) : w.heap.size ≤ gb375)); have n9_ := Aside0.mk ((by rw [hg]; exact Nat.ne_of_lt (blk_lt (g := gb358) (o := .cells #[.slice A0_0 l0_0.length c0_0, .slice A0_1 l0_1.length c0_1, .int .i64 a0_2] 24 (0, 0)) KK) : gb358 ≠ gb375)); have n10_ := Aside0.mk ((by rw [hg]; exact Nat.ne_of_gt (blk_lt (g := gb358) (o := .cells #[.slice A0_0 l0_0.length c0_0, .slice A0_1 l0_1.length c0_1, .int .i64 a0_2] 24 (0, 0)) KK) : gb375 ≠ gb358)); clear HO362; clear HO365; clear HO369; clear HO372; clear BK358; clear HB; have HO362 := n0_; have HO365 := n1_; have HO369 := n2_; have HO372 := n3_; have BK358 := n4_; have HB := n5_; have BK375 := n6_; have GW375 := n7_; have GE375 := n8_; have NB358_375 := n9_; have NB375_358 := n10_; clear n0_ n1_ n2_ n3_ n4_ n5_ n6_ n7_ n8_ n9_ n10_; clear hb hbox hg; obtain ⟨Ao22, co22, eo22⟩ := Kd.R_slice HO369.out; subst eo22; have hnb23 := NB375_358.out; have hnc23 := NB358_375.out; have hcz24_0 : w21.cell? ⟨gb375, 0, none⟩ = some (.slice none 0 0) := (blk_cell BK375.out 0).trans rfl; have hcz24_1 : w21.cell? ⟨gb375, 1, none⟩ = some (.slice none 0 0) := (blk_cell BK375.out 1).trans rfl; have hcz24_2 : w21.cell? ⟨gb375, 2, none⟩ = some (.int .i64 0) := (blk_cell BK375.out 2).trans rfl; have hfz24_0 := blk_frozen BK375.out 0; have hfz24_1 := blk_frozen BK375.out 1; have hfz24_2 := blk_frozen BK375.out 2; obtain ⟨Ao25, co25, eo25⟩ := Kd.R_slice HO372.out; subst eo25; have hcz26_0 : w21.cell? ⟨gb358, 0, none⟩ = some (.slice A0_0 l0_0.length c0_0) := (blk_cell BK358.out 0).trans rfl; have hcz26_1 : w21.cell? ⟨gb358, 1, none⟩ = some (.slice A0_1 l0_1.length c0_1) := (blk_cell BK358.out 1).trans rfl; have hcz26_2 : w21.cell? ⟨gb358, 2, none⟩ = some (.int .i64 a0_2) := (blk_cell BK358.out 2).trans rfl; have hfz26_0 := blk_frozen BK358.out 0; have hfz26_1 := blk_frozen BK358.out 1; have hfz26_2 := blk_frozen BK358.out 2) | ((with_reducible refine gate_callee (f := 17) rfl ?_); refine goesL_ (some 29) rfl rfl Try.func17 (by kernel_rfl) rfl #[.agg #[.slice A0_0 l0_0.length c0_0, .slice A0_1 l0_1.length c0_1, .int .i64 a0_2]] rfl KL ?_; (with_reducible refine (laws_toStore.calls k _ _ l0_0 _ _ l0_1 a0_2 t376 t379 t382 _ ?side1 ?side2 ?side3 ?side4 A10.out).mono ?_); (case side1 => exact Kd.C_below HR0_0.out KB); (case side2 => exact HC0_0.out); (case side3 => exact Kd.C_below HR0_1.out KB); (case side4 => exact HC0_1.out); rintro e w27 ⟨v377, v380, rfl, ho0, ho1, hb⟩; refine ⟨_, rfl, ?_⟩; have n0_ := Aside0.mk (Kd.R_mono (Kd.R_told (Kd.R_told (Kd.R_old (by (with_reducible repeat (first | apply Kd.R_alloc | apply Kd.R_drewN | apply Kd.R_drew)); exact (Kd.R_mono (Kd.R_far (p := ⟨gb375, 2, none⟩) (Kd.R_far (p := ⟨gb375, 1, none⟩) (Kd.R_far (p := ⟨gb375, 0, none⟩) (Kd.R_types HO362.out BK375.out (by decide)) (fun _ hk => hk.2) (.slice Ao22 t367.length co22)) (fun _ hk => hk.2) (.slice Ao25 t370.length co25)) (fun _ hk => hk.2) (.int .i64 t373)) (fun _ h_ => h_.1))) hb) (Kd.R_base ho0)) (Kd.R_base ho1)) (fun _ h_ => h_.1)); have n1_ := Aside0.mk (Kd.R_mono (Kd.R_told (Kd.R_told (Kd.R_old (by (with_reducible repeat (first | apply Kd.R_alloc | apply Kd.R_drewN | apply Kd.R_drew)); exact (Kd.R_mono (Kd.R_far (p := ⟨gb375, 2, none⟩) (Kd.R_far (p := ⟨gb375, 1, none⟩) (Kd.R_far (p := ⟨gb375, 0, none⟩) (Kd.R_types HO365.out BK375.out (by decide)) (fun _ hk => hk.2) (.slice Ao22 t367.length co22)) (fun _ hk => hk.2) (.slice Ao25 t370.length co25)) (fun _ hk => hk.2) (.int .i64 t373)) (fun _ h_ => h_.1))) hb) (Kd.R_base ho0)) (Kd.R_base ho1)) (fun _ h_ => h_.1)); have n2_ := Aside0.mk (Kd.R_mono (Kd.R_told (Kd.R_told (Kd.R_old (by (with_reducible repeat (first | apply Kd.R_alloc | apply Kd.R_drewN | apply Kd.R_drew)); exact (Kd.R_mono (Kd.R_far (p := ⟨gb375, 2, none⟩) (Kd.R_far (p := ⟨gb375, 1, none⟩) (Kd.R_far (p := ⟨gb375, 0, none⟩) (Kd.R_types HO369.out BK375.out (by decide)) (fun _ hk => hk.2) (.slice Ao22 t367.length co22)) (fun _ hk => hk.2) (.slice Ao25 t370.length co25)) (fun _ hk => hk.2) (.int .i64 t373)) (fun _ h_ => h_.1))) hb) (Kd.R_base ho0)) (Kd.R_base ho1)) (fun _ h_ => h_.1)); have n3_ := Aside0.mk (Kd.R_mono (Kd.R_told (Kd.R_told (Kd.R_old (by (with_reducible repeat (first | apply Kd.R_alloc | apply Kd.R_drewN | apply Kd.R_drew)); exact (Kd.R_mono (Kd.R_far (p := ⟨gb375, 2, none⟩) (Kd.R_far (p := ⟨gb375, 1, none⟩) (Kd.R_far (p := ⟨gb375, 0, none⟩) (Kd.R_types HO372.out BK375.out (by decide)) (fun _ hk => hk.2) (.slice Ao22 t367.length co22)) (fun _ hk => hk.2) (.slice Ao25 t370.length co25)) (fun _ hk => hk.2) (.int .i64 t373)) (fun _ h_ => h_.1))) hb) (Kd.R_base ho0)) (Kd.R_base ho1)) (fun _ h_ => h_.1)); have n4_ := Aside0.mk (Kd.R_lower (Kd.R_new' (Kd.R_new' (Kd.R_new' (Kd.R_new' ho0 (Kd.R_lt (by (with_reducible repeat (first | apply Kd.R_alloc | apply Kd.R_drewN | apply Kd.R_drew)); exact (Kd.R_mono (Kd.R_far (p := ⟨gb375, 2, none⟩) (Kd.R_far (p := ⟨gb375, 1, none⟩) (Kd.R_far (p := ⟨gb375, 0, none⟩) (Kd.R_types HO362.out BK375.out (by decide)) (fun _ hk => hk.2) (.slice Ao22 t367.length co22)) (fun _ hk => hk.2) (.slice Ao25 t370.length co25)) (fun _ hk => hk.2) (.int .i64 t373)) (fun _ h_ => h_.1))))) (Kd.R_lt (by (with_reducible repeat (first | apply Kd.R_alloc | apply Kd.R_drewN | apply Kd.R_drew)); exact (Kd.R_mono (Kd.R_far (p := ⟨gb375, 2, none⟩) (Kd.R_far (p := ⟨gb375, 1, none⟩) (Kd.R_far (p := ⟨gb375, 0, none⟩) (Kd.R_types HO365.out BK375.out (by decide)) (fun _ hk => hk.2) (.slice Ao22 t367.length co22)) (fun _ hk => hk.2) (.slice Ao25 t370.length co25)) (fun _ hk => hk.2) (.int .i64 t373)) (fun _ h_ => h_.1))))) (Kd.R_lt (by (with_reducible repeat (first | apply Kd.R_alloc | apply Kd.R_drewN | apply Kd.R_drew)); exact (Kd.R_mono (Kd.R_far (p := ⟨gb375, 2, none⟩) (Kd.R_far (p := ⟨gb375, 1, none⟩) (Kd.R_far (p := ⟨gb375, 0, none⟩) (Kd.R_types HO369.out BK375.out (by decide)) (fun _ hk => hk.2) (.slice Ao22 t367.length co22)) (fun _ hk => hk.2) (.slice Ao25 t370.length co25)) (fun _ hk => hk.2) (.int .i64 t373)) (fun _ h_ => h_.1))))) (Kd.R_lt (by (with_reducible repeat (first | apply Kd.R_alloc | apply Kd.R_drewN | apply Kd.R_drew)); exact (Kd.R_mono (Kd.R_far (p := ⟨gb375, 2, none⟩) (Kd.R_far (p := ⟨gb375, 1, none⟩) (Kd.R_far (p := ⟨gb375, 0, none⟩) (Kd.R_types HO372.out BK375.out (by decide)) (fun _ hk => hk.2) (.slice Ao22 t367.length co22)) (fun _ hk => hk.2) (.slice Ao25 t370.length co25)) (fun _ hk => hk.2) (.int .i64 t373)) (fun _ h_ => h_.1))))) (below_size KB)); have n5_ := Aside0.mk (Kd.R_lower (Kd.R_new' (Kd.R_new' (Kd.R_new' (Kd.R_new' ho1 (Kd.R_lt (by (with_reducible repeat (first | apply Kd.R_alloc | apply Kd.R_drewN | apply Kd.R_drew)); exact (Kd.R_mono (Kd.R_far (p := ⟨gb375, 2, none⟩) (Kd.R_far (p := ⟨gb375, 1, none⟩) (Kd.R_far (p := ⟨gb375, 0, none⟩) (Kd.R_types HO362.out BK375.out (by decide)) (fun _ hk => hk.2) (.slice Ao22 t367.length co22)) (fun _ hk => hk.2) (.slice Ao25 t370.length co25)) (fun _ hk => hk.2) (.int .i64 t373)) (fun _ h_ => h_.1))))) (Kd.R_lt (by (with_reducible repeat (first | apply Kd.R_alloc | apply Kd.R_drewN | apply Kd.R_drew)); exact (Kd.R_mono (Kd.R_far (p := ⟨gb375, 2, none⟩) (Kd.R_far (p := ⟨gb375, 1, none⟩) (Kd.R_far (p := ⟨gb375, 0, none⟩) (Kd.R_types HO365.out BK375.out (by decide)) (fun _ hk => hk.2) (.slice Ao22 t367.length co22)) (fun _ hk => hk.2) (.slice Ao25 t370.length co25)) (fun _ hk => hk.2) (.int .i64 t373)) (fun _ h_ => h_.1))))) (Kd.R_lt (by (with_reducible repeat (first | apply Kd.R_alloc | apply Kd.R_drewN | apply Kd.R_drew)); exact (Kd.R_mono (Kd.R_far (p := ⟨gb375, 2, none⟩) (Kd.R_far (p := ⟨gb375, 1, none⟩) (Kd.R_far (p := ⟨gb375, 0, none⟩) (Kd.R_types HO369.out BK375.out (by decide)) (fun _ hk => hk.2) (.slice Ao22 t367.length co22)) (fun _ hk => hk.2) (.slice Ao25 t370.length co25)) (fun _ hk => hk.2) (.int .i64 t373)) (fun _ h_ => h_.1))))) (Kd.R_lt (by (with_reducible repeat (first | apply Kd.R_alloc | apply Kd.R_drewN | apply Kd.R_drew)); exact (Kd.R_mono (Kd.R_far (p := ⟨gb375, 2, none⟩) (Kd.R_far (p := ⟨gb375, 1, none⟩) (Kd.R_far (p := ⟨gb375, 0, none⟩) (Kd.R_types HO372.out BK375.out (by decide)) (fun _ hk => hk.2) (.slice Ao22 t367.length co22)) (fun _ hk => hk.2) (.slice Ao25 t370.length co25)) (fun _ hk => hk.2) (.int .i64 t373)) (fun _ h_ => h_.1))))) (below_size KB)); have n6_ := Aside0.mk (blk_below (g := gb358) (o := .cells #[.slice A0_0 l0_0.length c0_0, .slice A0_1 l0_1.length c0_1, .int .i64 a0_2] 24 (0, 0)) KK hb); have n7_ := Aside0.mk (blk_below (g := gb375) (o := .cells #[.slice Ao22 t367.length co22, .slice Ao25 t370.length co25, .int .i64 t373] 29 (0, 0)) (by (with_reducible repeat (first | refine blk_drewN ?_ _ | refine blk_drew ?_ | refine blk_alloc ?_ _)); refine blk_put (cs := #[.slice Ao22 t367.length co22, .slice Ao25 t370.length co25, .int .i64 0]) ?_ 2 _ rfl; (with_reducible repeat (first | refine blk_drewN ?_ _ | refine blk_drew ?_ | refine blk_alloc ?_ _)); refine blk_put (cs := #[.slice Ao22 t367.length co22, .slice none 0 0, .int .i64 0]) ?_ 1 _ rfl; (with_reducible repeat (first | refine blk_drewN ?_ _ | refine blk_drew ?_ | refine blk_alloc ?_ _)); refine blk_put (cs := #[.slice none 0 0, .slice none 0 0, .int .i64 0]) ?_ 0 _ rfl; (with_reducible repeat (first | refine blk_drewN ?_ _ | refine blk_drew ?_ | refine blk_alloc ?_ _)); exact BK375.out) hb); have n8_ := Aside0.mk (below_step KB hb); clear HO362; clear HO365; clear HO369; clear HO372; clear BK358; clear BK375; clear HB; have HO362 := n0_; have HO365 := n1_; have HO369 := n2_; have HO372 := n3_; have HO378 := n4_; have HO381 := n5_; have BK358 := n6_; have BK375 := n7_; have HB := n8_; clear n0_ n1_ n2_ n3_ n4_ n5_ n6_ n7_ n8_; (try clear hb); (try clear hb2); (try clear hk); (try clear hi); (try clear ho0); (try clear ho1)) | ((with_reducible refine gate_dst (N := 8) rfl ?_); refine box_event ?hg (N := 8) ?hd (cs := #[.slice none 0 0, .slice none 0 0, .int .i64 0]) (t := 29) ?hr ?_; (case hd => rfl); (case hg => rfl); (case hr => first | (go_simp; done) | (go_simp; rfl)); intro gb383 hg w28 hbox hb; have n0_ := Aside0.mk (Kd.R_below (KR HO362.out) hb); have n1_ := Aside0.mk (Kd.R_below (KR HO365.out) hb); have n2_ := Aside0.mk (Kd.R_below (KR HO369.out) hb); have n3_ := Aside0.mk (Kd.R_below (KR HO372.out) hb); have n4_ := Aside0.mk (Kd.R_below (KR HO378.out) hb); have n5_ := Aside0.mk (Kd.R_below (KR HO381.out) hb); have n6_ := Aside0.mk (blk_below (g := gb358) (o := .cells #[.slice A0_0 l0_0.length c0_0, .slice A0_1 l0_1.length c0_1, .int .i64 a0_2] 24 (0, 0)) KK hb); have n7_ := Aside0.mk (blk_below (g := gb375) (o := .cells #[.slice Ao22 t367.length co22, .slice Ao25 t370.length co25, .int .i64 t373] 29 (0, 0)) KK hb); have n8_ := Aside0.mk (below_step KB hb); have n9_ := Aside0.mk (hbox); have n10_ := Aside0.mk ((by rw [hg]; exact (below_size KB) : w.heap.size ≤ gb383)); have n11_ := Aside0.mk ((by rw [hg]; exact (below_size KB) : w.heap.size ≤ gb383)); have n12_ := Aside0.mk ((by rw [hg]; exact Nat.ne_of_lt (blk_lt (g := gb358) (o := .cells #[.slice A0_0 l0_0.length c0_0, .slice A0_1 l0_1.length c0_1, .int .i64 a0_2] 24 (0, 0)) KK) : gb358 ≠ gb383)); have n13_ := Aside0.mk ((by rw [hg]; exact Nat.ne_of_gt (blk_lt (g := gb358) (o := .cells #[.slice A0_0 l0_0.length c0_0, .slice A0_1 l0_1.length c0_1, .int .i64 a0_2] 24 (0, 0)) KK) : gb383 ≠ gb358)); have n14_ := Aside0.mk ((by rw [hg]; exact Nat.ne_of_lt (blk_lt (g := gb375) (o := .cells #[.slice Ao22 t367.length co22, .slice Ao25 t370.length co25, .int .i64 t373] 29 (0, 0)) KK) : gb375 ≠ gb383)); have n15_ := Aside0.mk ((by rw [hg]; exact Nat.ne_of_gt (blk_lt (g := gb375) (o := .cells #[.slice Ao22 t367.length co22, .slice Ao25 t370.length co25, .int .i64 t373] 29 (0, 0)) KK) : gb383 ≠ gb375)); clear HO362; clear HO365; clear HO369; clear HO372; clear HO378; clear HO381; clear BK358; clear BK375; clear HB; have HO362 := n0_; have HO365 := n1_; have HO369 := n2_; have HO372 := n3_; have HO378 := n4_; have HO381 := n5_; have BK358 := n6_; have BK375 := n7_; have HB := n8_; have BK383 := n9_; have GW383 := n10_; have GE383 := n11_; have NB358_383 := n12_; have NB383_358 := n13_; have NB375_383 := n14_; have NB383_375 := n15_; clear n0_ n1_ n2_ n3_ n4_ n5_ n6_ n7_ n8_ n9_ n10_ n11_ n12_ n13_ n14_ n15_; clear hb hbox hg; obtain ⟨Ao29, co29, eo29⟩ := Kd.R_slice HO378.out; subst eo29; have hnb30 := NB383_358.out; have hnc30 := NB358_383.out; have hnb31 := NB383_375.out; have hnc31 := NB375_383.out; have hcz32_0 : w28.cell? ⟨gb383, 0, none⟩ = some (.slice none 0 0) := (blk_cell BK383.out 0).trans rfl; have hcz32_1 : w28.cell? ⟨gb383, 1, none⟩ = some (.slice none 0 0) := (blk_cell BK383.out 1).trans rfl; have hcz32_2 : w28.cell? ⟨gb383, 2, none⟩ = some (.int .i64 0) := (blk_cell BK383.out 2).trans rfl; have hfz32_0 := blk_frozen BK383.out 0; have hfz32_1 := blk_frozen BK383.out 1; have hfz32_2 := blk_frozen BK383.out 2; obtain ⟨Ao33, co33, eo33⟩ := Kd.R_slice HO381.out; subst eo33) | ((with_reducible refine gate_callee (f := 42) rfl ?_); refine goesL_ (some 33) rfl rfl Try.func42 (by kernel_rfl) rfl #[.agg #[.slice Ao29 t376.length co29, .slice Ao33 t379.length co33, .int .i64 t382], .int .i64 a1] rfl KL ?_; (with_reducible refine (impl_StoreCrash.calls k _ _ t376 _ _ t379 t382 a1 t384 t387 t390 t391 _ ?side1 ?side2 ?side3 ?side4 A11.out).mono ?_); (case side1 => refine (Kd.R_reads' (e := 34) (base := w.heap.size) (ok := fun k_ => ((((some k_ ≠ (.slice Ao33 t379.length co33 : Value).ownBlock ∧ some k_ ≠ (.slice Ao18 t360.length co18 : Value).ownBlock) ∧ some k_ ≠ (.slice Ao19 t363.length co19 : Value).ownBlock) ∧ some k_ ≠ (.slice Ao22 t367.length co22 : Value).ownBlock) ∧ some k_ ≠ (.slice Ao25 t370.length co25 : Value).ownBlock)) (n := t376.length) (c := co29) ?_).2.2; exact (by (with_reducible repeat (first | apply Kd.R_alloc | apply Kd.R_drewN | apply Kd.R_drew)); exact (Kd.R_mono (Kd.R_far (p := ⟨gb383, 2, none⟩) (Kd.R_far (p := ⟨gb383, 1, none⟩) (Kd.R_far (p := ⟨gb383, 0, none⟩) (Kd.R_types HO378.out BK383.out (by decide)) (fun _ hk => hk.2) (.slice Ao29 t376.length co29)) (fun _ hk => hk.2) (.slice Ao33 t379.length co33)) (fun _ hk => hk.2) (.int .i64 t382)) (fun _ h_ => h_.1)))); (case side2 => exact (Kd.R_reads' HO378.out).2.1); (case side3 => refine (Kd.R_reads' (e := 34) (base := w.heap.size) (ok := fun k_ => ((((some k_ ≠ (.slice Ao29 t376.length co29 : Value).ownBlock ∧ some k_ ≠ (.slice Ao18 t360.length co18 : Value).ownBlock) ∧ some k_ ≠ (.slice Ao19 t363.length co19 : Value).ownBlock) ∧ some k_ ≠ (.slice Ao22 t367.length co22 : Value).ownBlock) ∧ some k_ ≠ (.slice Ao25 t370.length co25 : Value).ownBlock)) (n := t379.length) (c := co33) ?_).2.2; exact (by (with_reducible repeat (first | apply Kd.R_alloc | apply Kd.R_drewN | apply Kd.R_drew)); exact (Kd.R_mono (Kd.R_far (p := ⟨gb383, 2, none⟩) (Kd.R_far (p := ⟨gb383, 1, none⟩) (Kd.R_far (p := ⟨gb383, 0, none⟩) (Kd.R_types HO381.out BK383.out (by decide)) (fun _ hk => hk.2) (.slice Ao29 t376.length co29)) (fun _ hk => hk.2) (.slice Ao33 t379.length co33)) (fun _ hk => hk.2) (.int .i64 t382)) (fun _ h_ => h_.1)))); (case side4 => exact (Kd.R_reads' HO381.out).2.1); rintro e w34 ⟨v385, v388, rfl, ho0, ho1, hb⟩; refine ⟨_, rfl, ?_⟩; have n0_ := Aside0.mk (Kd.R_mono (Kd.R_told (Kd.R_told (Kd.R_old (by (with_reducible repeat (first | apply Kd.R_alloc | apply Kd.R_drewN | apply Kd.R_drew)); exact (Kd.R_mono (Kd.R_far (p := ⟨gb383, 2, none⟩) (Kd.R_far (p := ⟨gb383, 1, none⟩) (Kd.R_far (p := ⟨gb383, 0, none⟩) (Kd.R_types HO362.out BK383.out (by decide)) (fun _ hk => hk.2) (.slice Ao29 t376.length co29)) (fun _ hk => hk.2) (.slice Ao33 t379.length co33)) (fun _ hk => hk.2) (.int .i64 t382)) (fun _ h_ => h_.1))) hb) (Kd.R_base ho0)) (Kd.R_base ho1)) (fun _ h_ => h_.1)); have n1_ := Aside0.mk (Kd.R_mono (Kd.R_told (Kd.R_told (Kd.R_old (by (with_reducible repeat (first | apply Kd.R_alloc | apply Kd.R_drewN | apply Kd.R_drew)); exact (Kd.R_mono (Kd.R_far (p := ⟨gb383, 2, none⟩) (Kd.R_far (p := ⟨gb383, 1, none⟩) (Kd.R_far (p := ⟨gb383, 0, none⟩) (Kd.R_types HO365.out BK383.out (by decide)) (fun _ hk => hk.2) (.slice Ao29 t376.length co29)) (fun _ hk => hk.2) (.slice Ao33 t379.length co33)) (fun _ hk => hk.2) (.int .i64 t382)) (fun _ h_ => h_.1))) hb) (Kd.R_base ho0)) (Kd.R_base ho1)) (fun _ h_ => h_.1)); have n2_ := Aside0.mk (Kd.R_mono (Kd.R_told (Kd.R_told (Kd.R_old (by (with_reducible repeat (first | apply Kd.R_alloc | apply Kd.R_drewN | apply Kd.R_drew)); exact (Kd.R_mono (Kd.R_far (p := ⟨gb383, 2, none⟩) (Kd.R_far (p := ⟨gb383, 1, none⟩) (Kd.R_far (p := ⟨gb383, 0, none⟩) (Kd.R_types HO369.out BK383.out (by decide)) (fun _ hk => hk.2) (.slice Ao29 t376.length co29)) (fun _ hk => hk.2) (.slice Ao33 t379.length co33)) (fun _ hk => hk.2) (.int .i64 t382)) (fun _ h_ => h_.1))) hb) (Kd.R_base ho0)) (Kd.R_base ho1)) (fun _ h_ => h_.1)); have n3_ := Aside0.mk (Kd.R_mono (Kd.R_told (Kd.R_told (Kd.R_old (by (with_reducible repeat (first | apply Kd.R_alloc | apply Kd.R_drewN | apply Kd.R_drew)); exact (Kd.R_mono (Kd.R_far (p := ⟨gb383, 2, none⟩) (Kd.R_far (p := ⟨gb383, 1, none⟩) (Kd.R_far (p := ⟨gb383, 0, none⟩) (Kd.R_types HO372.out BK383.out (by decide)) (fun _ hk => hk.2) (.slice Ao29 t376.length co29)) (fun _ hk => hk.2) (.slice Ao33 t379.length co33)) (fun _ hk => hk.2) (.int .i64 t382)) (fun _ h_ => h_.1))) hb) (Kd.R_base ho0)) (Kd.R_base ho1)) (fun _ h_ => h_.1)); have n4_ := Aside0.mk (Kd.R_mono (Kd.R_told (Kd.R_told (Kd.R_old (by (with_reducible repeat (first | apply Kd.R_alloc | apply Kd.R_drewN | apply Kd.R_drew)); exact (Kd.R_mono (Kd.R_far (p := ⟨gb383, 2, none⟩) (Kd.R_far (p := ⟨gb383, 1, none⟩) (Kd.R_far (p := ⟨gb383, 0, none⟩) (Kd.R_types HO378.out BK383.out (by decide)) (fun _ hk => hk.2) (.slice Ao29 t376.length co29)) (fun _ hk => hk.2) (.slice Ao33 t379.length co33)) (fun _ hk => hk.2) (.int .i64 t382)) (fun _ h_ => h_.1))) hb) (Kd.R_base ho0)) (Kd.R_base ho1)) (fun _ h_ => h_.1)); have n5_ := Aside0.mk (Kd.R_mono (Kd.R_told (Kd.R_told (Kd.R_old (by (with_reducible repeat (first | apply Kd.R_alloc | apply Kd.R_drewN | apply Kd.R_drew)); exact (Kd.R_mono (Kd.R_far (p := ⟨gb383, 2, none⟩) (Kd.R_far (p := ⟨gb383, 1, none⟩) (Kd.R_far (p := ⟨gb383, 0, none⟩) (Kd.R_types HO381.out BK383.out (by decide)) (fun _ hk => hk.2) (.slice Ao29 t376.length co29)) (fun _ hk => hk.2) (.slice Ao33 t379.length co33)) (fun _ hk => hk.2) (.int .i64 t382)) (fun _ h_ => h_.1))) hb) (Kd.R_base ho0)) (Kd.R_base ho1)) (fun _ h_ => h_.1)); have n6_ := Aside0.mk (Kd.R_lower (Kd.R_new' (Kd.R_new' (Kd.R_new' (Kd.R_new' (Kd.R_new' (Kd.R_new' ho0 (Kd.R_lt (by (with_reducible repeat (first | apply Kd.R_alloc | apply Kd.R_drewN | apply Kd.R_drew)); exact (Kd.R_mono (Kd.R_far (p := ⟨gb383, 2, none⟩) (Kd.R_far (p := ⟨gb383, 1, none⟩) (Kd.R_far (p := ⟨gb383, 0, none⟩) (Kd.R_types HO362.out BK383.out (by decide)) (fun _ hk => hk.2) (.slice Ao29 t376.length co29)) (fun _ hk => hk.2) (.slice Ao33 t379.length co33)) (fun _ hk => hk.2) (.int .i64 t382)) (fun _ h_ => h_.1))))) (Kd.R_lt (by (with_reducible repeat (first | apply Kd.R_alloc | apply Kd.R_drewN | apply Kd.R_drew)); exact (Kd.R_mono (Kd.R_far (p := ⟨gb383, 2, none⟩) (Kd.R_far (p := ⟨gb383, 1, none⟩) (Kd.R_far (p := ⟨gb383, 0, none⟩) (Kd.R_types HO365.out BK383.out (by decide)) (fun _ hk => hk.2) (.slice Ao29 t376.length co29)) (fun _ hk => hk.2) (.slice Ao33 t379.length co33)) (fun _ hk => hk.2) (.int .i64 t382)) (fun _ h_ => h_.1))))) (Kd.R_lt (by (with_reducible repeat (first | apply Kd.R_alloc | apply Kd.R_drewN | apply Kd.R_drew)); exact (Kd.R_mono (Kd.R_far (p := ⟨gb383, 2, none⟩) (Kd.R_far (p := ⟨gb383, 1, none⟩) (Kd.R_far (p := ⟨gb383, 0, none⟩) (Kd.R_types HO369.out BK383.out (by decide)) (fun _ hk => hk.2) (.slice Ao29 t376.length co29)) (fun _ hk => hk.2) (.slice Ao33 t379.length co33)) (fun _ hk => hk.2) (.int .i64 t382)) (fun _ h_ => h_.1))))) (Kd.R_lt (by (with_reducible repeat (first | apply Kd.R_alloc | apply Kd.R_drewN | apply Kd.R_drew)); exact (Kd.R_mono (Kd.R_far (p := ⟨gb383, 2, none⟩) (Kd.R_far (p := ⟨gb383, 1, none⟩) (Kd.R_far (p := ⟨gb383, 0, none⟩) (Kd.R_types HO372.out BK383.out (by decide)) (fun _ hk => hk.2) (.slice Ao29 t376.length co29)) (fun _ hk => hk.2) (.slice Ao33 t379.length co33)) (fun _ hk => hk.2) (.int .i64 t382)) (fun _ h_ => h_.1))))) (Kd.R_lt (by (with_reducible repeat (first | apply Kd.R_alloc | apply Kd.R_drewN | apply Kd.R_drew)); exact (Kd.R_mono (Kd.R_far (p := ⟨gb383, 2, none⟩) (Kd.R_far (p := ⟨gb383, 1, none⟩) (Kd.R_far (p := ⟨gb383, 0, none⟩) (Kd.R_types HO378.out BK383.out (by decide)) (fun _ hk => hk.2) (.slice Ao29 t376.length co29)) (fun _ hk => hk.2) (.slice Ao33 t379.length co33)) (fun _ hk => hk.2) (.int .i64 t382)) (fun _ h_ => h_.1))))) (Kd.R_lt (by (with_reducible repeat (first | apply Kd.R_alloc | apply Kd.R_drewN | apply Kd.R_drew)); exact (Kd.R_mono (Kd.R_far (p := ⟨gb383, 2, none⟩) (Kd.R_far (p := ⟨gb383, 1, none⟩) (Kd.R_far (p := ⟨gb383, 0, none⟩) (Kd.R_types HO381.out BK383.out (by decide)) (fun _ hk => hk.2) (.slice Ao29 t376.length co29)) (fun _ hk => hk.2) (.slice Ao33 t379.length co33)) (fun _ hk => hk.2) (.int .i64 t382)) (fun _ h_ => h_.1))))) (below_size KB)); have n7_ := Aside0.mk (Kd.R_lower (Kd.R_new' (Kd.R_new' (Kd.R_new' (Kd.R_new' (Kd.R_new' (Kd.R_new' ho1 (Kd.R_lt (by (with_reducible repeat (first | apply Kd.R_alloc | apply Kd.R_drewN | apply Kd.R_drew)); exact (Kd.R_mono (Kd.R_far (p := ⟨gb383, 2, none⟩) (Kd.R_far (p := ⟨gb383, 1, none⟩) (Kd.R_far (p := ⟨gb383, 0, none⟩) (Kd.R_types HO362.out BK383.out (by decide)) (fun _ hk => hk.2) (.slice Ao29 t376.length co29)) (fun _ hk => hk.2) (.slice Ao33 t379.length co33)) (fun _ hk => hk.2) (.int .i64 t382)) (fun _ h_ => h_.1))))) (Kd.R_lt (by (with_reducible repeat (first | apply Kd.R_alloc | apply Kd.R_drewN | apply Kd.R_drew)); exact (Kd.R_mono (Kd.R_far (p := ⟨gb383, 2, none⟩) (Kd.R_far (p := ⟨gb383, 1, none⟩) (Kd.R_far (p := ⟨gb383, 0, none⟩) (Kd.R_types HO365.out BK383.out (by decide)) (fun _ hk => hk.2) (.slice Ao29 t376.length co29)) (fun _ hk => hk.2) (.slice Ao33 t379.length co33)) (fun _ hk => hk.2) (.int .i64 t382)) (fun _ h_ => h_.1))))) (Kd.R_lt (by (with_reducible repeat (first | apply Kd.R_alloc | apply Kd.R_drewN | apply Kd.R_drew)); exact (Kd.R_mono (Kd.R_far (p := ⟨gb383, 2, none⟩) (Kd.R_far (p := ⟨gb383, 1, none⟩) (Kd.R_far (p := ⟨gb383, 0, none⟩) (Kd.R_types HO369.out BK383.out (by decide)) (fun _ hk => hk.2) (.slice Ao29 t376.length co29)) (fun _ hk => hk.2) (.slice Ao33 t379.length co33)) (fun _ hk => hk.2) (.int .i64 t382)) (fun _ h_ => h_.1))))) (Kd.R_lt (by (with_reducible repeat (first | apply Kd.R_alloc | apply Kd.R_drewN | apply Kd.R_drew)); exact (Kd.R_mono (Kd.R_far (p := ⟨gb383, 2, none⟩) (Kd.R_far (p := ⟨gb383, 1, none⟩) (Kd.R_far (p := ⟨gb383, 0, none⟩) (Kd.R_types HO372.out BK383.out (by decide)) (fun _ hk => hk.2) (.slice Ao29 t376.length co29)) (fun _ hk => hk.2) (.slice Ao33 t379.length co33)) (fun _ hk => hk.2) (.int .i64 t382)) (fun _ h_ => h_.1))))) (Kd.R_lt (by (with_reducible repeat (first | apply Kd.R_alloc | apply Kd.R_drewN | apply Kd.R_drew)); exact (Kd.R_mono (Kd.R_far (p := ⟨gb383, 2, none⟩) (Kd.R_far (p := ⟨gb383, 1, none⟩) (Kd.R_far (p := ⟨gb383, 0, none⟩) (Kd.R_types HO378.out BK383.out (by decide)) (fun _ hk => hk.2) (.slice Ao29 t376.length co29)) (fun _ hk => hk.2) (.slice Ao33 t379.length co33)) (fun _ hk => hk.2) (.int .i64 t382)) (fun _ h_ => h_.1))))) (Kd.R_lt (by (with_reducible repeat (first | apply Kd.R_alloc | apply Kd.R_drewN | apply Kd.R_drew)); exact (Kd.R_mono (Kd.R_far (p := ⟨gb383, 2, none⟩) (Kd.R_far (p := ⟨gb383, 1, none⟩) (Kd.R_far (p := ⟨gb383, 0, none⟩) (Kd.R_types HO381.out BK383.out (by decide)) (fun _ hk => hk.2) (.slice Ao29 t376.length co29)) (fun _ hk => hk.2) (.slice Ao33 t379.length co33)) (fun _ hk => hk.2) (.int .i64 t382)) (fun _ h_ => h_.1))))) (below_size KB)); have n8_ := Aside0.mk (blk_below (g := gb358) (o := .cells #[.slice A0_0 l0_0.length c0_0, .slice A0_1 l0_1.length c0_1, .int .i64 a0_2] 24 (0, 0)) KK hb); have n9_ := Aside0.mk (blk_below (g := gb375) (o := .cells #[.slice Ao22 t367.length co22, .slice Ao25 t370.length co25, .int .i64 t373] 29 (0, 0)) KK hb); have n10_ := Aside0.mk (blk_below (g := gb383) (o := .cells #[.slice Ao29 t376.length co29, .slice Ao33 t379.length co33, .int .i64 t382] 29 (0, 0)) (by (with_reducible repeat (first | refine blk_drewN ?_ _ | refine blk_drew ?_ | refine blk_alloc ?_ _)); refine blk_put (cs := #[.slice Ao29 t376.length co29, .slice Ao33 t379.length co33, .int .i64 0]) ?_ 2 _ rfl; (with_reducible repeat (first | refine blk_drewN ?_ _ | refine blk_drew ?_ | refine blk_alloc ?_ _)); refine blk_put (cs := #[.slice Ao29 t376.length co29, .slice none 0 0, .int .i64 0]) ?_ 1 _ rfl; (with_reducible repeat (first | refine blk_drewN ?_ _ | refine blk_drew ?_ | refine blk_alloc ?_ _)); refine blk_put (cs := #[.slice none 0 0, .slice none 0 0, .int .i64 0]) ?_ 0 _ rfl; (with_reducible repeat (first | refine blk_drewN ?_ _ | refine blk_drew ?_ | refine blk_alloc ?_ _)); exact BK383.out) hb); have n11_ := Aside0.mk (below_step KB hb); clear HO362; clear HO365; clear HO369; clear HO372; clear HO378; clear HO381; clear BK358; clear BK375; clear BK383; clear HB; have HO362 := n0_; have HO365 := n1_; have HO369 := n2_; have HO372 := n3_; have HO378 := n4_; have HO381 := n5_; have HO386 := n6_; have HO389 := n7_; have BK358 := n8_; have BK375 := n9_; have BK383 := n10_; have HB := n11_; clear n0_ n1_ n2_ n3_ n4_ n5_ n6_ n7_ n8_ n9_ n10_ n11_; (try clear hb); (try clear hb2); (try clear hk); (try clear hi); (try clear ho0); (try clear ho1)) | ((with_reducible refine gate_dst (N := 9) rfl ?_); refine box_event ?hg (N := 9) ?hd (cs := #[.slice none 0 0, .slice none 0 0, .int .i64 0]) (t := 29) ?hr ?_; (case hd => rfl); (case hg => rfl); (case hr => first | (go_simp; done) | (go_simp; rfl)); intro gb392 hg w35 hbox hb; have n0_ := Aside0.mk (Kd.R_below (KR HO362.out) hb); have n1_ := Aside0.mk (Kd.R_below (KR HO365.out) hb); have n2_ := Aside0.mk (Kd.R_below (KR HO369.out) hb); have n3_ := Aside0.mk (Kd.R_below (KR HO372.out) hb); have n4_ := Aside0.mk (Kd.R_below (KR HO378.out) hb); have n5_ := Aside0.mk (Kd.R_below (KR HO381.out) hb); have n6_ := Aside0.mk (Kd.R_below (KR HO386.out) hb); have n7_ := Aside0.mk (Kd.R_below (KR HO389.out) hb); have n8_ := Aside0.mk (blk_below (g := gb358) (o := .cells #[.slice A0_0 l0_0.length c0_0, .slice A0_1 l0_1.length c0_1, .int .i64 a0_2] 24 (0, 0)) KK hb); have n9_ := Aside0.mk (blk_below (g := gb375) (o := .cells #[.slice Ao22 t367.length co22, .slice Ao25 t370.length co25, .int .i64 t373] 29 (0, 0)) KK hb); have n10_ := Aside0.mk (blk_below (g := gb383) (o := .cells #[.slice Ao29 t376.length co29, .slice Ao33 t379.length co33, .int .i64 t382] 29 (0, 0)) KK hb); have n11_ := Aside0.mk (below_step KB hb); have n12_ := Aside0.mk (hbox); have n13_ := Aside0.mk ((by rw [hg]; exact (below_size KB) : w.heap.size ≤ gb392)); have n14_ := Aside0.mk ((by rw [hg]; exact (below_size KB) : w.heap.size ≤ gb392)); have n15_ := Aside0.mk ((by rw [hg]; exact Nat.ne_of_lt (blk_lt (g := gb358) (o := .cells #[.slice A0_0 l0_0.length c0_0, .slice A0_1 l0_1.length c0_1, .int .i64 a0_2] 24 (0, 0)) KK) : gb358 ≠ gb392)); have n16_ := Aside0.mk ((by rw [hg]; exact Nat.ne_of_gt (blk_lt (g := gb358) (o := .cells #[.slice A0_0 l0_0.length c0_0, .slice A0_1 l0_1.length c0_1, .int .i64 a0_2] 24 (0, 0)) KK) : gb392 ≠ gb358)); have n17_ := Aside0.mk ((by rw [hg]; exact Nat.ne_of_lt (blk_lt (g := gb375) (o := .cells #[.slice Ao22 t367.length co22, .slice Ao25 t370.length co25, .int .i64 t373] 29 (0, 0)) KK) : gb375 ≠ gb392)); have n18_ := Aside0.mk ((by rw [hg]; exact Nat.ne_of_gt (blk_lt (g := gb375) (o := .cells #[.slice Ao22 t367.length co22, .slice Ao25 t370.length co25, .int .i64 t373] 29 (0, 0)) KK) : gb392 ≠ gb375)); have n19_ := Aside0.mk ((by rw [hg]; exact Nat.ne_of_lt (blk_lt (g := gb383) (o := .cells #[.slice Ao29 t376.length co29, .slice Ao33 t379.length co33, .int .i64 t382] 29 (0, 0)) KK) : gb383 ≠ gb392)); have n20_ := Aside0.mk ((by rw [hg]; exact Nat.ne_of_gt (blk_lt (g := gb383) (o := .cells #[.slice Ao29 t376.length co29, .slice Ao33 t379.length co33, .int .i64 t382] 29 (0, 0)) KK) : gb392 ≠ gb383)); clear HO362; clear HO365; clear HO369; clear HO372; clear HO378; clear HO381; clear HO386; clear HO389; clear BK358; clear BK375; clear BK383; clear HB; have HO362 := n0_; have HO365 := n1_; have HO369 := n2_; have HO372 := n3_; have HO378 := n4_; have HO381 := n5_; have HO386 := n6_; have HO389 := n7_; have BK358 := n8_; have BK375 := n9_; have BK383 := n10_; have HB := n11_; have BK392 := n12_; have GW392 := n13_; have GE392 := n14_; have NB358_392 := n15_; have NB392_358 := n16_; have NB375_392 := n17_; have NB392_375 := n18_; have NB383_392 := n19_; have NB392_383 := n20_; clear n0_ n1_ n2_ n3_ n4_ n5_ n6_ n7_ n8_ n9_ n10_ n11_ n12_ n13_ n14_ n15_ n16_ n17_ n18_ n19_ n20_; clear hb hbox hg; obtain ⟨Ao36, co36, eo36⟩ := Kd.R_slice HO386.out; subst eo36; have hnb37 := NB392_358.out; have hnc37 := NB358_392.out; have hnb38 := NB392_375.out; have hnc38 := NB375_392.out; have hnb39 := NB392_383.out; have hnc39 := NB383_392.out; have hcz40_0 : w35.cell? ⟨gb392, 0, none⟩ = some (.slice none 0 0) := (blk_cell BK392.out 0).trans rfl; have hcz40_1 : w35.cell? ⟨gb392, 1, none⟩ = some (.slice none 0 0) := (blk_cell BK392.out 1).trans rfl; have hcz40_2 : w35.cell? ⟨gb392, 2, none⟩ = some (.int .i64 0) := (blk_cell BK392.out 2).trans rfl; have hfz40_0 := blk_frozen BK392.out 0; have hfz40_1 := blk_frozen BK392.out 1; have hfz40_2 := blk_frozen BK392.out 2; obtain ⟨Ao41, co41, eo41⟩ := Kd.R_slice HO389.out; subst eo41))
  (try simp only [Act.put, List.setIfInBounds_toArray, List.set_cons_zero, List.set_cons_succ])
  go_cut [44] (fun v44 wc => ∃ (kq : Nat) (x44_11 : Bool), v44 = .bool x44_11 ∧ Aside0 (laws_FnExactStoreCrash.j0 kq a1 t374 t391 x44_11 l0_0 l0_1 a0_2 t367 t370 t373 t376 t379 t382 t384 t387 t390 = some r) ∧ Aside0 (kq ≤ k) ∧ Aside0 (Kd.R k34 34 wc w.heap.size (fun k_ => some k_ ≠ ((.slice Ao25 t370.length co25) : Value).ownBlock ∧ some k_ ≠ ((.slice Ao29 t376.length co29) : Value).ownBlock ∧ some k_ ≠ ((.slice Ao33 t379.length co33) : Value).ownBlock ∧ some k_ ≠ ((.slice Ao36 t384.length co36) : Value).ownBlock ∧ some k_ ≠ ((.slice Ao41 t387.length co41) : Value).ownBlock) (.slice Ao22 t367.length co22) t367) ∧ Aside0 (Kd.R k34 34 wc w.heap.size (fun k_ => some k_ ≠ ((.slice Ao22 t367.length co22) : Value).ownBlock ∧ some k_ ≠ ((.slice Ao29 t376.length co29) : Value).ownBlock ∧ some k_ ≠ ((.slice Ao33 t379.length co33) : Value).ownBlock ∧ some k_ ≠ ((.slice Ao36 t384.length co36) : Value).ownBlock ∧ some k_ ≠ ((.slice Ao41 t387.length co41) : Value).ownBlock) (.slice Ao25 t370.length co25) t370) ∧ Aside0 (Kd.R k34 34 wc w.heap.size (fun k_ => some k_ ≠ ((.slice Ao22 t367.length co22) : Value).ownBlock ∧ some k_ ≠ ((.slice Ao25 t370.length co25) : Value).ownBlock ∧ some k_ ≠ ((.slice Ao33 t379.length co33) : Value).ownBlock ∧ some k_ ≠ ((.slice Ao36 t384.length co36) : Value).ownBlock ∧ some k_ ≠ ((.slice Ao41 t387.length co41) : Value).ownBlock) (.slice Ao29 t376.length co29) t376) ∧ Aside0 (Kd.R k34 34 wc w.heap.size (fun k_ => some k_ ≠ ((.slice Ao22 t367.length co22) : Value).ownBlock ∧ some k_ ≠ ((.slice Ao25 t370.length co25) : Value).ownBlock ∧ some k_ ≠ ((.slice Ao29 t376.length co29) : Value).ownBlock ∧ some k_ ≠ ((.slice Ao36 t384.length co36) : Value).ownBlock ∧ some k_ ≠ ((.slice Ao41 t387.length co41) : Value).ownBlock) (.slice Ao33 t379.length co33) t379) ∧ Aside0 (Kd.R k34 34 wc w.heap.size (fun k_ => some k_ ≠ ((.slice Ao22 t367.length co22) : Value).ownBlock ∧ some k_ ≠ ((.slice Ao25 t370.length co25) : Value).ownBlock ∧ some k_ ≠ ((.slice Ao29 t376.length co29) : Value).ownBlock ∧ some k_ ≠ ((.slice Ao33 t379.length co33) : Value).ownBlock ∧ some k_ ≠ ((.slice Ao41 t387.length co41) : Value).ownBlock) (.slice Ao36 t384.length co36) t384) ∧ Aside0 (Kd.R k34 34 wc w.heap.size (fun k_ => some k_ ≠ ((.slice Ao22 t367.length co22) : Value).ownBlock ∧ some k_ ≠ ((.slice Ao25 t370.length co25) : Value).ownBlock ∧ some k_ ≠ ((.slice Ao29 t376.length co29) : Value).ownBlock ∧ some k_ ≠ ((.slice Ao33 t379.length co33) : Value).ownBlock ∧ some k_ ≠ ((.slice Ao36 t384.length co36) : Value).ownBlock) (.slice Ao41 t387.length co41) t387) ∧ Aside0 (wc.heap[gb358]? = some (.cells #[(.slice A0_0 l0_0.length c0_0), (.slice A0_1 l0_1.length c0_1), .int .i64 a0_2] 24 (0, 0))) ∧ Aside0 (wc.heap[gb375]? = some (.cells #[(.slice Ao22 t367.length co22), (.slice Ao25 t370.length co25), .int .i64 t373] 29 (0, 0))) ∧ Aside0 (wc.heap[gb383]? = some (.cells #[(.slice Ao29 t376.length co29), (.slice Ao33 t379.length co33), .int .i64 t382] 29 (0, 0))) ∧ Aside0 (wc.heap[gb392]? = some (.cells #[(.slice Ao36 t384.length co36), (.slice Ao41 t387.length co41), .int .i64 t390] 29 (0, 0))) ∧ Aside0 (Below w.heap.size w wc))
  case first =>
   have H := HC12.out
   clear HC12
   replace H := Option.bind_eq_some_iff.mp H
   obtain ⟨t393, A420, H⟩ := H
   replace H : (if t393 = true then (laws_FnExactStoreCrash.j0 k a1 t374 t391 (t391 != t374) l0_0 l0_1 a0_2 t367 t370 t373 t376 t379 t382 t384 t387 t390) else (laws_FnExactStoreCrash.j0 k a1 t374 t391 true l0_0 l0_1 a0_2 t367 t370 t373 t376 t379 t382 t384 t387 t390)) = some r := H
   have A42 := Aside0.mk A420
   clear A420
   by_cases c43 : t393 = true
   ·subst c43
    have H1 : (laws_FnExactStoreCrash.j0 k a1 t374 t391 (t391 != t374) l0_0 l0_1 a0_2 t367 t370 t373 t376 t379 t382 t384 t387 t390) = some r := by rw [if_pos rfl] at H; exact H
    clear H
    have H := H1
    clear H1
    have H' := Aside0.mk H
    clear H
    have hnb44 := NB392_358.out
    have hnc44 := NB358_392.out
    have hnb45 := NB392_375.out
    have hnc45 := NB375_392.out
    have hnb46 := NB392_383.out
    have hnc46 := NB383_392.out
    have hcz47_0 : w35.cell? ⟨gb392, 0, none⟩ = some (.slice none 0 0) := (blk_cell BK392.out 0).trans rfl
    have hcz47_1 : w35.cell? ⟨gb392, 1, none⟩ = some (.slice none 0 0) := (blk_cell BK392.out 1).trans rfl
    have hcz47_2 : w35.cell? ⟨gb392, 2, none⟩ = some (.int .i64 0) := (blk_cell BK392.out 2).trans rfl
    have hfz47_0 := blk_frozen BK392.out 0
    have hfz47_1 := blk_frozen BK392.out 1
    have hfz47_2 := blk_frozen BK392.out 2
    have hnb48 := NB375_358.out
    have hnc48 := NB358_375.out
    have hnb49 := NB375_383.out
    have hnc49 := NB383_375.out
    have hcz50_0 : w35.cell? ⟨gb375, 0, none⟩ = some (.slice Ao22 t367.length co22) := (blk_cell BK375.out 0).trans rfl
    have hcz50_1 : w35.cell? ⟨gb375, 1, none⟩ = some (.slice Ao25 t370.length co25) := (blk_cell BK375.out 1).trans rfl
    have hcz50_2 : w35.cell? ⟨gb375, 2, none⟩ = some (.int .i64 t373) := (blk_cell BK375.out 2).trans rfl
    have hfz50_0 := blk_frozen BK375.out 0
    have hfz50_1 := blk_frozen BK375.out 1
    have hfz50_2 := blk_frozen BK375.out 2
    go_wp2_with (first | ((with_reducible refine gate_callee (f := 19) rfl ?_); refine goesL_ (some 38) rfl rfl Try.func19 (by kernel_rfl) rfl #[.agg #[.slice Ao36 t384.length co36, .slice Ao41 t387.length co41, .int .i64 t390], .agg #[.slice Ao22 t367.length co22, .slice Ao25 t370.length co25, .int .i64 t373]] rfl KL ?_; (with_reducible refine (laws_eqStore.calls k _ _ t384 _ _ t387 t390 _ _ t367 _ _ t370 t373 true _ ?side1 ?side2 ?side3 ?side4 ?side5 ?side6 ?side7 ?side8 A42.out).mono ?_); (case side1 => refine (Kd.R_reads' (e := 34) (base := w.heap.size) (ok := fun k_ => ((((((some k_ ≠ (.slice Ao41 t387.length co41 : Value).ownBlock ∧ some k_ ≠ (.slice Ao18 t360.length co18 : Value).ownBlock) ∧ some k_ ≠ (.slice Ao19 t363.length co19 : Value).ownBlock) ∧ some k_ ≠ (.slice Ao22 t367.length co22 : Value).ownBlock) ∧ some k_ ≠ (.slice Ao25 t370.length co25 : Value).ownBlock) ∧ some k_ ≠ (.slice Ao29 t376.length co29 : Value).ownBlock) ∧ some k_ ≠ (.slice Ao33 t379.length co33 : Value).ownBlock)) (n := t384.length) (c := co36) ?_).2.2; exact (by (with_reducible repeat (first | apply Kd.R_alloc | apply Kd.R_drewN | apply Kd.R_drew)); exact (Kd.R_mono (Kd.R_far (p := ⟨gb392, 2, none⟩) (Kd.R_far (p := ⟨gb392, 1, none⟩) (Kd.R_far (p := ⟨gb392, 0, none⟩) (Kd.R_types HO386.out BK392.out (by decide)) (fun _ hk => hk.2) (.slice Ao36 t384.length co36)) (fun _ hk => hk.2) (.slice Ao41 t387.length co41)) (fun _ hk => hk.2) (.int .i64 t390)) (fun _ h_ => h_.1)))); (case side2 => exact (Kd.R_reads' HO386.out).2.1); (case side3 => refine (Kd.R_reads' (e := 34) (base := w.heap.size) (ok := fun k_ => ((((((some k_ ≠ (.slice Ao36 t384.length co36 : Value).ownBlock ∧ some k_ ≠ (.slice Ao18 t360.length co18 : Value).ownBlock) ∧ some k_ ≠ (.slice Ao19 t363.length co19 : Value).ownBlock) ∧ some k_ ≠ (.slice Ao22 t367.length co22 : Value).ownBlock) ∧ some k_ ≠ (.slice Ao25 t370.length co25 : Value).ownBlock) ∧ some k_ ≠ (.slice Ao29 t376.length co29 : Value).ownBlock) ∧ some k_ ≠ (.slice Ao33 t379.length co33 : Value).ownBlock)) (n := t387.length) (c := co41) ?_).2.2; exact (by (with_reducible repeat (first | apply Kd.R_alloc | apply Kd.R_drewN | apply Kd.R_drew)); exact (Kd.R_mono (Kd.R_far (p := ⟨gb392, 2, none⟩) (Kd.R_far (p := ⟨gb392, 1, none⟩) (Kd.R_far (p := ⟨gb392, 0, none⟩) (Kd.R_types HO389.out BK392.out (by decide)) (fun _ hk => hk.2) (.slice Ao36 t384.length co36)) (fun _ hk => hk.2) (.slice Ao41 t387.length co41)) (fun _ hk => hk.2) (.int .i64 t390)) (fun _ h_ => h_.1)))); (case side4 => exact (Kd.R_reads' HO389.out).2.1); (case side5 => refine (Kd.R_reads' (e := 34) (base := w.heap.size) (ok := fun k_ => ((((((some k_ ≠ (.slice Ao25 t370.length co25 : Value).ownBlock ∧ some k_ ≠ (.slice Ao18 t360.length co18 : Value).ownBlock) ∧ some k_ ≠ (.slice Ao19 t363.length co19 : Value).ownBlock) ∧ some k_ ≠ (.slice Ao29 t376.length co29 : Value).ownBlock) ∧ some k_ ≠ (.slice Ao33 t379.length co33 : Value).ownBlock) ∧ some k_ ≠ (.slice Ao36 t384.length co36 : Value).ownBlock) ∧ some k_ ≠ (.slice Ao41 t387.length co41 : Value).ownBlock)) (n := t367.length) (c := co22) ?_).2.2; exact (by (with_reducible repeat (first | apply Kd.R_alloc | apply Kd.R_drewN | apply Kd.R_drew)); exact (Kd.R_mono (Kd.R_far (p := ⟨gb392, 2, none⟩) (Kd.R_far (p := ⟨gb392, 1, none⟩) (Kd.R_far (p := ⟨gb392, 0, none⟩) (Kd.R_types HO369.out BK392.out (by decide)) (fun _ hk => hk.2) (.slice Ao36 t384.length co36)) (fun _ hk => hk.2) (.slice Ao41 t387.length co41)) (fun _ hk => hk.2) (.int .i64 t390)) (fun _ h_ => h_.1)))); (case side6 => exact (Kd.R_reads' HO369.out).2.1); (case side7 => refine (Kd.R_reads' (e := 34) (base := w.heap.size) (ok := fun k_ => ((((((some k_ ≠ (.slice Ao22 t367.length co22 : Value).ownBlock ∧ some k_ ≠ (.slice Ao18 t360.length co18 : Value).ownBlock) ∧ some k_ ≠ (.slice Ao19 t363.length co19 : Value).ownBlock) ∧ some k_ ≠ (.slice Ao29 t376.length co29 : Value).ownBlock) ∧ some k_ ≠ (.slice Ao33 t379.length co33 : Value).ownBlock) ∧ some k_ ≠ (.slice Ao36 t384.length co36 : Value).ownBlock) ∧ some k_ ≠ (.slice Ao41 t387.length co41 : Value).ownBlock)) (n := t370.length) (c := co25) ?_).2.2; exact (by (with_reducible repeat (first | apply Kd.R_alloc | apply Kd.R_drewN | apply Kd.R_drew)); exact (Kd.R_mono (Kd.R_far (p := ⟨gb392, 2, none⟩) (Kd.R_far (p := ⟨gb392, 1, none⟩) (Kd.R_far (p := ⟨gb392, 0, none⟩) (Kd.R_types HO372.out BK392.out (by decide)) (fun _ hk => hk.2) (.slice Ao36 t384.length co36)) (fun _ hk => hk.2) (.slice Ao41 t387.length co41)) (fun _ hk => hk.2) (.int .i64 t390)) (fun _ h_ => h_.1)))); (case side8 => exact (Kd.R_reads' HO372.out).2.1); rintro e w51 ⟨rfl, hb⟩; refine ⟨_, rfl, ?_⟩; have n0_ := Aside0.mk (Kd.R_below (by (with_reducible repeat (first | apply Kd.R_alloc | apply Kd.R_drewN | apply Kd.R_drew)); exact (Kd.R_mono (Kd.R_far (p := ⟨gb392, 2, none⟩) (Kd.R_far (p := ⟨gb392, 1, none⟩) (Kd.R_far (p := ⟨gb392, 0, none⟩) (Kd.R_types HO362.out BK392.out (by decide)) (fun _ hk => hk.2) (.slice Ao36 t384.length co36)) (fun _ hk => hk.2) (.slice Ao41 t387.length co41)) (fun _ hk => hk.2) (.int .i64 t390)) (fun _ h_ => h_.1))) hb); have n1_ := Aside0.mk (Kd.R_below (by (with_reducible repeat (first | apply Kd.R_alloc | apply Kd.R_drewN | apply Kd.R_drew)); exact (Kd.R_mono (Kd.R_far (p := ⟨gb392, 2, none⟩) (Kd.R_far (p := ⟨gb392, 1, none⟩) (Kd.R_far (p := ⟨gb392, 0, none⟩) (Kd.R_types HO365.out BK392.out (by decide)) (fun _ hk => hk.2) (.slice Ao36 t384.length co36)) (fun _ hk => hk.2) (.slice Ao41 t387.length co41)) (fun _ hk => hk.2) (.int .i64 t390)) (fun _ h_ => h_.1))) hb); have n2_ := Aside0.mk (Kd.R_below (by (with_reducible repeat (first | apply Kd.R_alloc | apply Kd.R_drewN | apply Kd.R_drew)); exact (Kd.R_mono (Kd.R_far (p := ⟨gb392, 2, none⟩) (Kd.R_far (p := ⟨gb392, 1, none⟩) (Kd.R_far (p := ⟨gb392, 0, none⟩) (Kd.R_types HO369.out BK392.out (by decide)) (fun _ hk => hk.2) (.slice Ao36 t384.length co36)) (fun _ hk => hk.2) (.slice Ao41 t387.length co41)) (fun _ hk => hk.2) (.int .i64 t390)) (fun _ h_ => h_.1))) hb); have n3_ := Aside0.mk (Kd.R_below (by (with_reducible repeat (first | apply Kd.R_alloc | apply Kd.R_drewN | apply Kd.R_drew)); exact (Kd.R_mono (Kd.R_far (p := ⟨gb392, 2, none⟩) (Kd.R_far (p := ⟨gb392, 1, none⟩) (Kd.R_far (p := ⟨gb392, 0, none⟩) (Kd.R_types HO372.out BK392.out (by decide)) (fun _ hk => hk.2) (.slice Ao36 t384.length co36)) (fun _ hk => hk.2) (.slice Ao41 t387.length co41)) (fun _ hk => hk.2) (.int .i64 t390)) (fun _ h_ => h_.1))) hb); have n4_ := Aside0.mk (Kd.R_below (by (with_reducible repeat (first | apply Kd.R_alloc | apply Kd.R_drewN | apply Kd.R_drew)); exact (Kd.R_mono (Kd.R_far (p := ⟨gb392, 2, none⟩) (Kd.R_far (p := ⟨gb392, 1, none⟩) (Kd.R_far (p := ⟨gb392, 0, none⟩) (Kd.R_types HO378.out BK392.out (by decide)) (fun _ hk => hk.2) (.slice Ao36 t384.length co36)) (fun _ hk => hk.2) (.slice Ao41 t387.length co41)) (fun _ hk => hk.2) (.int .i64 t390)) (fun _ h_ => h_.1))) hb); have n5_ := Aside0.mk (Kd.R_below (by (with_reducible repeat (first | apply Kd.R_alloc | apply Kd.R_drewN | apply Kd.R_drew)); exact (Kd.R_mono (Kd.R_far (p := ⟨gb392, 2, none⟩) (Kd.R_far (p := ⟨gb392, 1, none⟩) (Kd.R_far (p := ⟨gb392, 0, none⟩) (Kd.R_types HO381.out BK392.out (by decide)) (fun _ hk => hk.2) (.slice Ao36 t384.length co36)) (fun _ hk => hk.2) (.slice Ao41 t387.length co41)) (fun _ hk => hk.2) (.int .i64 t390)) (fun _ h_ => h_.1))) hb); have n6_ := Aside0.mk (Kd.R_below (by (with_reducible repeat (first | apply Kd.R_alloc | apply Kd.R_drewN | apply Kd.R_drew)); exact (Kd.R_mono (Kd.R_far (p := ⟨gb392, 2, none⟩) (Kd.R_far (p := ⟨gb392, 1, none⟩) (Kd.R_far (p := ⟨gb392, 0, none⟩) (Kd.R_types HO386.out BK392.out (by decide)) (fun _ hk => hk.2) (.slice Ao36 t384.length co36)) (fun _ hk => hk.2) (.slice Ao41 t387.length co41)) (fun _ hk => hk.2) (.int .i64 t390)) (fun _ h_ => h_.1))) hb); have n7_ := Aside0.mk (Kd.R_below (by (with_reducible repeat (first | apply Kd.R_alloc | apply Kd.R_drewN | apply Kd.R_drew)); exact (Kd.R_mono (Kd.R_far (p := ⟨gb392, 2, none⟩) (Kd.R_far (p := ⟨gb392, 1, none⟩) (Kd.R_far (p := ⟨gb392, 0, none⟩) (Kd.R_types HO389.out BK392.out (by decide)) (fun _ hk => hk.2) (.slice Ao36 t384.length co36)) (fun _ hk => hk.2) (.slice Ao41 t387.length co41)) (fun _ hk => hk.2) (.int .i64 t390)) (fun _ h_ => h_.1))) hb); have n8_ := Aside0.mk (blk_below (g := gb358) (o := .cells #[.slice A0_0 l0_0.length c0_0, .slice A0_1 l0_1.length c0_1, .int .i64 a0_2] 24 (0, 0)) KK hb); have n9_ := Aside0.mk (blk_below (g := gb375) (o := .cells #[.slice Ao22 t367.length co22, .slice Ao25 t370.length co25, .int .i64 t373] 29 (0, 0)) KK hb); have n10_ := Aside0.mk (blk_below (g := gb383) (o := .cells #[.slice Ao29 t376.length co29, .slice Ao33 t379.length co33, .int .i64 t382] 29 (0, 0)) KK hb); have n11_ := Aside0.mk (blk_below (g := gb392) (o := .cells #[.slice Ao36 t384.length co36, .slice Ao41 t387.length co41, .int .i64 t390] 29 (0, 0)) (by (with_reducible repeat (first | refine blk_drewN ?_ _ | refine blk_drew ?_ | refine blk_alloc ?_ _)); refine blk_put (cs := #[.slice Ao36 t384.length co36, .slice Ao41 t387.length co41, .int .i64 0]) ?_ 2 _ rfl; (with_reducible repeat (first | refine blk_drewN ?_ _ | refine blk_drew ?_ | refine blk_alloc ?_ _)); refine blk_put (cs := #[.slice Ao36 t384.length co36, .slice none 0 0, .int .i64 0]) ?_ 1 _ rfl; (with_reducible repeat (first | refine blk_drewN ?_ _ | refine blk_drew ?_ | refine blk_alloc ?_ _)); refine blk_put (cs := #[.slice none 0 0, .slice none 0 0, .int .i64 0]) ?_ 0 _ rfl; (with_reducible repeat (first | refine blk_drewN ?_ _ | refine blk_drew ?_ | refine blk_alloc ?_ _)); exact BK392.out) hb); have n12_ := Aside0.mk (below_step KB hb); clear HO362; clear HO365; clear HO369; clear HO372; clear HO378; clear HO381; clear HO386; clear HO389; clear BK358; clear BK375; clear BK383; clear BK392; clear HB; have HO362 := n0_; have HO365 := n1_; have HO369 := n2_; have HO372 := n3_; have HO378 := n4_; have HO381 := n5_; have HO386 := n6_; have HO389 := n7_; have BK358 := n8_; have BK375 := n9_; have BK383 := n10_; have BK392 := n11_; have HB := n12_; clear n0_ n1_ n2_ n3_ n4_ n5_ n6_ n7_ n8_ n9_ n10_ n11_ n12_; (try clear hb); (try clear hb2); (try clear hk); (try clear hi)))
    go_meet
    case rel => exact ⟨_, ((t391 != t374)), (by first | rfl | (simp; done) | (simp [*]; done)), H', ⟨by first | omega | exact Nat.le_refl _⟩, ⟨by (with_reducible repeat (first | apply Kd.R_alloc | apply Kd.R_drewN | apply Kd.R_drew)); exact Kd.R_mono HO369.out (fun _ hk => ⟨hk.1.1.1.1.1.1, ⟨hk.1.1.1.2, ⟨hk.1.1.2, ⟨hk.1.2, hk.2⟩⟩⟩⟩)⟩, ⟨by (with_reducible repeat (first | apply Kd.R_alloc | apply Kd.R_drewN | apply Kd.R_drew)); exact Kd.R_mono HO372.out (fun _ hk => ⟨hk.1.1.1.1.1.1, ⟨hk.1.1.1.2, ⟨hk.1.1.2, ⟨hk.1.2, hk.2⟩⟩⟩⟩)⟩, ⟨by (with_reducible repeat (first | apply Kd.R_alloc | apply Kd.R_drewN | apply Kd.R_drew)); exact Kd.R_mono HO378.out (fun _ hk => ⟨hk.1.1.1.2, ⟨hk.1.1.2, ⟨hk.1.1.1.1.1.1, ⟨hk.1.2, hk.2⟩⟩⟩⟩)⟩, ⟨by (with_reducible repeat (first | apply Kd.R_alloc | apply Kd.R_drewN | apply Kd.R_drew)); exact Kd.R_mono HO381.out (fun _ hk => ⟨hk.1.1.1.2, ⟨hk.1.1.2, ⟨hk.1.1.1.1.1.1, ⟨hk.1.2, hk.2⟩⟩⟩⟩)⟩, ⟨by (with_reducible repeat (first | apply Kd.R_alloc | apply Kd.R_drewN | apply Kd.R_drew)); exact Kd.R_mono HO386.out (fun _ hk => ⟨hk.1.1.1.2, ⟨hk.1.1.2, ⟨hk.1.2, ⟨hk.2, hk.1.1.1.1.1.1⟩⟩⟩⟩)⟩, ⟨by (with_reducible repeat (first | apply Kd.R_alloc | apply Kd.R_drewN | apply Kd.R_drew)); exact Kd.R_mono HO389.out (fun _ hk => ⟨hk.1.1.1.2, ⟨hk.1.1.2, ⟨hk.1.2, ⟨hk.2, hk.1.1.1.1.1.1⟩⟩⟩⟩)⟩, ⟨KK⟩, ⟨KK⟩, ⟨KK⟩, ⟨KK⟩, ⟨KB⟩⟩
   ·replace c43 := Bool.eq_false_iff.mpr c43
    subst c43
    have H1 : (laws_FnExactStoreCrash.j0 k a1 t374 t391 true l0_0 l0_1 a0_2 t367 t370 t373 t376 t379 t382 t384 t387 t390) = some r := by rw [if_neg (show ¬ (false = true) by decide)] at H; exact H
    clear H
    have H := H1
    clear H1
    have H' := Aside0.mk H
    clear H
    have hnb52 := NB392_358.out
    have hnc52 := NB358_392.out
    have hnb53 := NB392_375.out
    have hnc53 := NB375_392.out
    have hnb54 := NB392_383.out
    have hnc54 := NB383_392.out
    have hcz55_0 : w35.cell? ⟨gb392, 0, none⟩ = some (.slice none 0 0) := (blk_cell BK392.out 0).trans rfl
    have hcz55_1 : w35.cell? ⟨gb392, 1, none⟩ = some (.slice none 0 0) := (blk_cell BK392.out 1).trans rfl
    have hcz55_2 : w35.cell? ⟨gb392, 2, none⟩ = some (.int .i64 0) := (blk_cell BK392.out 2).trans rfl
    have hfz55_0 := blk_frozen BK392.out 0
    have hfz55_1 := blk_frozen BK392.out 1
    have hfz55_2 := blk_frozen BK392.out 2
    have hnb56 := NB375_358.out
    have hnc56 := NB358_375.out
    have hnb57 := NB375_383.out
    have hnc57 := NB383_375.out
    have hcz58_0 : w35.cell? ⟨gb375, 0, none⟩ = some (.slice Ao22 t367.length co22) := (blk_cell BK375.out 0).trans rfl
    have hcz58_1 : w35.cell? ⟨gb375, 1, none⟩ = some (.slice Ao25 t370.length co25) := (blk_cell BK375.out 1).trans rfl
    have hcz58_2 : w35.cell? ⟨gb375, 2, none⟩ = some (.int .i64 t373) := (blk_cell BK375.out 2).trans rfl
    have hfz58_0 := blk_frozen BK375.out 0
    have hfz58_1 := blk_frozen BK375.out 1
    have hfz58_2 := blk_frozen BK375.out 2
    go_wp2_with (first | ((with_reducible refine gate_callee (f := 19) rfl ?_); refine goesL_ (some 38) rfl rfl Try.func19 (by kernel_rfl) rfl #[.agg #[.slice Ao36 t384.length co36, .slice Ao41 t387.length co41, .int .i64 t390], .agg #[.slice Ao22 t367.length co22, .slice Ao25 t370.length co25, .int .i64 t373]] rfl KL ?_; (with_reducible refine (laws_eqStore.calls k _ _ t384 _ _ t387 t390 _ _ t367 _ _ t370 t373 false _ ?side1 ?side2 ?side3 ?side4 ?side5 ?side6 ?side7 ?side8 A42.out).mono ?_); (case side1 => refine (Kd.R_reads' (e := 34) (base := w.heap.size) (ok := fun k_ => ((((((some k_ ≠ (.slice Ao41 t387.length co41 : Value).ownBlock ∧ some k_ ≠ (.slice Ao18 t360.length co18 : Value).ownBlock) ∧ some k_ ≠ (.slice Ao19 t363.length co19 : Value).ownBlock) ∧ some k_ ≠ (.slice Ao22 t367.length co22 : Value).ownBlock) ∧ some k_ ≠ (.slice Ao25 t370.length co25 : Value).ownBlock) ∧ some k_ ≠ (.slice Ao29 t376.length co29 : Value).ownBlock) ∧ some k_ ≠ (.slice Ao33 t379.length co33 : Value).ownBlock)) (n := t384.length) (c := co36) ?_).2.2; exact (by (with_reducible repeat (first | apply Kd.R_alloc | apply Kd.R_drewN | apply Kd.R_drew)); exact (Kd.R_mono (Kd.R_far (p := ⟨gb392, 2, none⟩) (Kd.R_far (p := ⟨gb392, 1, none⟩) (Kd.R_far (p := ⟨gb392, 0, none⟩) (Kd.R_types HO386.out BK392.out (by decide)) (fun _ hk => hk.2) (.slice Ao36 t384.length co36)) (fun _ hk => hk.2) (.slice Ao41 t387.length co41)) (fun _ hk => hk.2) (.int .i64 t390)) (fun _ h_ => h_.1)))); (case side2 => exact (Kd.R_reads' HO386.out).2.1); (case side3 => refine (Kd.R_reads' (e := 34) (base := w.heap.size) (ok := fun k_ => ((((((some k_ ≠ (.slice Ao36 t384.length co36 : Value).ownBlock ∧ some k_ ≠ (.slice Ao18 t360.length co18 : Value).ownBlock) ∧ some k_ ≠ (.slice Ao19 t363.length co19 : Value).ownBlock) ∧ some k_ ≠ (.slice Ao22 t367.length co22 : Value).ownBlock) ∧ some k_ ≠ (.slice Ao25 t370.length co25 : Value).ownBlock) ∧ some k_ ≠ (.slice Ao29 t376.length co29 : Value).ownBlock) ∧ some k_ ≠ (.slice Ao33 t379.length co33 : Value).ownBlock)) (n := t387.length) (c := co41) ?_).2.2; exact (by (with_reducible repeat (first | apply Kd.R_alloc | apply Kd.R_drewN | apply Kd.R_drew)); exact (Kd.R_mono (Kd.R_far (p := ⟨gb392, 2, none⟩) (Kd.R_far (p := ⟨gb392, 1, none⟩) (Kd.R_far (p := ⟨gb392, 0, none⟩) (Kd.R_types HO389.out BK392.out (by decide)) (fun _ hk => hk.2) (.slice Ao36 t384.length co36)) (fun _ hk => hk.2) (.slice Ao41 t387.length co41)) (fun _ hk => hk.2) (.int .i64 t390)) (fun _ h_ => h_.1)))); (case side4 => exact (Kd.R_reads' HO389.out).2.1); (case side5 => refine (Kd.R_reads' (e := 34) (base := w.heap.size) (ok := fun k_ => ((((((some k_ ≠ (.slice Ao25 t370.length co25 : Value).ownBlock ∧ some k_ ≠ (.slice Ao18 t360.length co18 : Value).ownBlock) ∧ some k_ ≠ (.slice Ao19 t363.length co19 : Value).ownBlock) ∧ some k_ ≠ (.slice Ao29 t376.length co29 : Value).ownBlock) ∧ some k_ ≠ (.slice Ao33 t379.length co33 : Value).ownBlock) ∧ some k_ ≠ (.slice Ao36 t384.length co36 : Value).ownBlock) ∧ some k_ ≠ (.slice Ao41 t387.length co41 : Value).ownBlock)) (n := t367.length) (c := co22) ?_).2.2; exact (by (with_reducible repeat (first | apply Kd.R_alloc | apply Kd.R_drewN | apply Kd.R_drew)); exact (Kd.R_mono (Kd.R_far (p := ⟨gb392, 2, none⟩) (Kd.R_far (p := ⟨gb392, 1, none⟩) (Kd.R_far (p := ⟨gb392, 0, none⟩) (Kd.R_types HO369.out BK392.out (by decide)) (fun _ hk => hk.2) (.slice Ao36 t384.length co36)) (fun _ hk => hk.2) (.slice Ao41 t387.length co41)) (fun _ hk => hk.2) (.int .i64 t390)) (fun _ h_ => h_.1)))); (case side6 => exact (Kd.R_reads' HO369.out).2.1); (case side7 => refine (Kd.R_reads' (e := 34) (base := w.heap.size) (ok := fun k_ => ((((((some k_ ≠ (.slice Ao22 t367.length co22 : Value).ownBlock ∧ some k_ ≠ (.slice Ao18 t360.length co18 : Value).ownBlock) ∧ some k_ ≠ (.slice Ao19 t363.length co19 : Value).ownBlock) ∧ some k_ ≠ (.slice Ao29 t376.length co29 : Value).ownBlock) ∧ some k_ ≠ (.slice Ao33 t379.length co33 : Value).ownBlock) ∧ some k_ ≠ (.slice Ao36 t384.length co36 : Value).ownBlock) ∧ some k_ ≠ (.slice Ao41 t387.length co41 : Value).ownBlock)) (n := t370.length) (c := co25) ?_).2.2; exact (by (with_reducible repeat (first | apply Kd.R_alloc | apply Kd.R_drewN | apply Kd.R_drew)); exact (Kd.R_mono (Kd.R_far (p := ⟨gb392, 2, none⟩) (Kd.R_far (p := ⟨gb392, 1, none⟩) (Kd.R_far (p := ⟨gb392, 0, none⟩) (Kd.R_types HO372.out BK392.out (by decide)) (fun _ hk => hk.2) (.slice Ao36 t384.length co36)) (fun _ hk => hk.2) (.slice Ao41 t387.length co41)) (fun _ hk => hk.2) (.int .i64 t390)) (fun _ h_ => h_.1)))); (case side8 => exact (Kd.R_reads' HO372.out).2.1); rintro e w59 ⟨rfl, hb⟩; refine ⟨_, rfl, ?_⟩; have n0_ := Aside0.mk (Kd.R_below (by (with_reducible repeat (first | apply Kd.R_alloc | apply Kd.R_drewN | apply Kd.R_drew)); exact (Kd.R_mono (Kd.R_far (p := ⟨gb392, 2, none⟩) (Kd.R_far (p := ⟨gb392, 1, none⟩) (Kd.R_far (p := ⟨gb392, 0, none⟩) (Kd.R_types HO362.out BK392.out (by decide)) (fun _ hk => hk.2) (.slice Ao36 t384.length co36)) (fun _ hk => hk.2) (.slice Ao41 t387.length co41)) (fun _ hk => hk.2) (.int .i64 t390)) (fun _ h_ => h_.1))) hb); have n1_ := Aside0.mk (Kd.R_below (by (with_reducible repeat (first | apply Kd.R_alloc | apply Kd.R_drewN | apply Kd.R_drew)); exact (Kd.R_mono (Kd.R_far (p := ⟨gb392, 2, none⟩) (Kd.R_far (p := ⟨gb392, 1, none⟩) (Kd.R_far (p := ⟨gb392, 0, none⟩) (Kd.R_types HO365.out BK392.out (by decide)) (fun _ hk => hk.2) (.slice Ao36 t384.length co36)) (fun _ hk => hk.2) (.slice Ao41 t387.length co41)) (fun _ hk => hk.2) (.int .i64 t390)) (fun _ h_ => h_.1))) hb); have n2_ := Aside0.mk (Kd.R_below (by (with_reducible repeat (first | apply Kd.R_alloc | apply Kd.R_drewN | apply Kd.R_drew)); exact (Kd.R_mono (Kd.R_far (p := ⟨gb392, 2, none⟩) (Kd.R_far (p := ⟨gb392, 1, none⟩) (Kd.R_far (p := ⟨gb392, 0, none⟩) (Kd.R_types HO369.out BK392.out (by decide)) (fun _ hk => hk.2) (.slice Ao36 t384.length co36)) (fun _ hk => hk.2) (.slice Ao41 t387.length co41)) (fun _ hk => hk.2) (.int .i64 t390)) (fun _ h_ => h_.1))) hb); have n3_ := Aside0.mk (Kd.R_below (by (with_reducible repeat (first | apply Kd.R_alloc | apply Kd.R_drewN | apply Kd.R_drew)); exact (Kd.R_mono (Kd.R_far (p := ⟨gb392, 2, none⟩) (Kd.R_far (p := ⟨gb392, 1, none⟩) (Kd.R_far (p := ⟨gb392, 0, none⟩) (Kd.R_types HO372.out BK392.out (by decide)) (fun _ hk => hk.2) (.slice Ao36 t384.length co36)) (fun _ hk => hk.2) (.slice Ao41 t387.length co41)) (fun _ hk => hk.2) (.int .i64 t390)) (fun _ h_ => h_.1))) hb); have n4_ := Aside0.mk (Kd.R_below (by (with_reducible repeat (first | apply Kd.R_alloc | apply Kd.R_drewN | apply Kd.R_drew)); exact (Kd.R_mono (Kd.R_far (p := ⟨gb392, 2, none⟩) (Kd.R_far (p := ⟨gb392, 1, none⟩) (Kd.R_far (p := ⟨gb392, 0, none⟩) (Kd.R_types HO378.out BK392.out (by decide)) (fun _ hk => hk.2) (.slice Ao36 t384.length co36)) (fun _ hk => hk.2) (.slice Ao41 t387.length co41)) (fun _ hk => hk.2) (.int .i64 t390)) (fun _ h_ => h_.1))) hb); have n5_ := Aside0.mk (Kd.R_below (by (with_reducible repeat (first | apply Kd.R_alloc | apply Kd.R_drewN | apply Kd.R_drew)); exact (Kd.R_mono (Kd.R_far (p := ⟨gb392, 2, none⟩) (Kd.R_far (p := ⟨gb392, 1, none⟩) (Kd.R_far (p := ⟨gb392, 0, none⟩) (Kd.R_types HO381.out BK392.out (by decide)) (fun _ hk => hk.2) (.slice Ao36 t384.length co36)) (fun _ hk => hk.2) (.slice Ao41 t387.length co41)) (fun _ hk => hk.2) (.int .i64 t390)) (fun _ h_ => h_.1))) hb); have n6_ := Aside0.mk (Kd.R_below (by (with_reducible repeat (first | apply Kd.R_alloc | apply Kd.R_drewN | apply Kd.R_drew)); exact (Kd.R_mono (Kd.R_far (p := ⟨gb392, 2, none⟩) (Kd.R_far (p := ⟨gb392, 1, none⟩) (Kd.R_far (p := ⟨gb392, 0, none⟩) (Kd.R_types HO386.out BK392.out (by decide)) (fun _ hk => hk.2) (.slice Ao36 t384.length co36)) (fun _ hk => hk.2) (.slice Ao41 t387.length co41)) (fun _ hk => hk.2) (.int .i64 t390)) (fun _ h_ => h_.1))) hb); have n7_ := Aside0.mk (Kd.R_below (by (with_reducible repeat (first | apply Kd.R_alloc | apply Kd.R_drewN | apply Kd.R_drew)); exact (Kd.R_mono (Kd.R_far (p := ⟨gb392, 2, none⟩) (Kd.R_far (p := ⟨gb392, 1, none⟩) (Kd.R_far (p := ⟨gb392, 0, none⟩) (Kd.R_types HO389.out BK392.out (by decide)) (fun _ hk => hk.2) (.slice Ao36 t384.length co36)) (fun _ hk => hk.2) (.slice Ao41 t387.length co41)) (fun _ hk => hk.2) (.int .i64 t390)) (fun _ h_ => h_.1))) hb); have n8_ := Aside0.mk (blk_below (g := gb358) (o := .cells #[.slice A0_0 l0_0.length c0_0, .slice A0_1 l0_1.length c0_1, .int .i64 a0_2] 24 (0, 0)) KK hb); have n9_ := Aside0.mk (blk_below (g := gb375) (o := .cells #[.slice Ao22 t367.length co22, .slice Ao25 t370.length co25, .int .i64 t373] 29 (0, 0)) KK hb); have n10_ := Aside0.mk (blk_below (g := gb383) (o := .cells #[.slice Ao29 t376.length co29, .slice Ao33 t379.length co33, .int .i64 t382] 29 (0, 0)) KK hb); have n11_ := Aside0.mk (blk_below (g := gb392) (o := .cells #[.slice Ao36 t384.length co36, .slice Ao41 t387.length co41, .int .i64 t390] 29 (0, 0)) (by (with_reducible repeat (first | refine blk_drewN ?_ _ | refine blk_drew ?_ | refine blk_alloc ?_ _)); refine blk_put (cs := #[.slice Ao36 t384.length co36, .slice Ao41 t387.length co41, .int .i64 0]) ?_ 2 _ rfl; (with_reducible repeat (first | refine blk_drewN ?_ _ | refine blk_drew ?_ | refine blk_alloc ?_ _)); refine blk_put (cs := #[.slice Ao36 t384.length co36, .slice none 0 0, .int .i64 0]) ?_ 1 _ rfl; (with_reducible repeat (first | refine blk_drewN ?_ _ | refine blk_drew ?_ | refine blk_alloc ?_ _)); refine blk_put (cs := #[.slice none 0 0, .slice none 0 0, .int .i64 0]) ?_ 0 _ rfl; (with_reducible repeat (first | refine blk_drewN ?_ _ | refine blk_drew ?_ | refine blk_alloc ?_ _)); exact BK392.out) hb); have n12_ := Aside0.mk (below_step KB hb); clear HO362; clear HO365; clear HO369; clear HO372; clear HO378; clear HO381; clear HO386; clear HO389; clear BK358; clear BK375; clear BK383; clear BK392; clear HB; have HO362 := n0_; have HO365 := n1_; have HO369 := n2_; have HO372 := n3_; have HO378 := n4_; have HO381 := n5_; have HO386 := n6_; have HO389 := n7_; have BK358 := n8_; have BK375 := n9_; have BK383 := n10_; have BK392 := n11_; have HB := n12_; clear n0_ n1_ n2_ n3_ n4_ n5_ n6_ n7_ n8_ n9_ n10_ n11_ n12_; (try clear hb); (try clear hb2); (try clear hk); (try clear hi)))
    go_meet
    case rel => exact ⟨_, (true), (by first | rfl | (simp; done) | (simp [*]; done)), H', ⟨by first | omega | exact Nat.le_refl _⟩, ⟨by (with_reducible repeat (first | apply Kd.R_alloc | apply Kd.R_drewN | apply Kd.R_drew)); exact Kd.R_mono HO369.out (fun _ hk => ⟨hk.1.1.1.1.1.1, ⟨hk.1.1.1.2, ⟨hk.1.1.2, ⟨hk.1.2, hk.2⟩⟩⟩⟩)⟩, ⟨by (with_reducible repeat (first | apply Kd.R_alloc | apply Kd.R_drewN | apply Kd.R_drew)); exact Kd.R_mono HO372.out (fun _ hk => ⟨hk.1.1.1.1.1.1, ⟨hk.1.1.1.2, ⟨hk.1.1.2, ⟨hk.1.2, hk.2⟩⟩⟩⟩)⟩, ⟨by (with_reducible repeat (first | apply Kd.R_alloc | apply Kd.R_drewN | apply Kd.R_drew)); exact Kd.R_mono HO378.out (fun _ hk => ⟨hk.1.1.1.2, ⟨hk.1.1.2, ⟨hk.1.1.1.1.1.1, ⟨hk.1.2, hk.2⟩⟩⟩⟩)⟩, ⟨by (with_reducible repeat (first | apply Kd.R_alloc | apply Kd.R_drewN | apply Kd.R_drew)); exact Kd.R_mono HO381.out (fun _ hk => ⟨hk.1.1.1.2, ⟨hk.1.1.2, ⟨hk.1.1.1.1.1.1, ⟨hk.1.2, hk.2⟩⟩⟩⟩)⟩, ⟨by (with_reducible repeat (first | apply Kd.R_alloc | apply Kd.R_drewN | apply Kd.R_drew)); exact Kd.R_mono HO386.out (fun _ hk => ⟨hk.1.1.1.2, ⟨hk.1.1.2, ⟨hk.1.2, ⟨hk.2, hk.1.1.1.1.1.1⟩⟩⟩⟩)⟩, ⟨by (with_reducible repeat (first | apply Kd.R_alloc | apply Kd.R_drewN | apply Kd.R_drew)); exact Kd.R_mono HO389.out (fun _ hk => ⟨hk.1.1.1.2, ⟨hk.1.1.2, ⟨hk.1.2, ⟨hk.2, hk.1.1.1.1.1.1⟩⟩⟩⟩)⟩, ⟨KK⟩, ⟨KK⟩, ⟨KK⟩, ⟨KK⟩, ⟨KB⟩⟩
  case rest =>
   clear HC12
   try clear c1
   try clear c2
   try clear p2
   try clear c3
   try clear c4
   try clear c4b0
   try clear c5
   try clear c9
   try clear c15
   try clear c17
   try clear c19
   try clear c23
   try clear c30
   try clear c31
   try clear c37
   try clear c38
   try clear c39
   try clear c41
   try clear c42
   try clear c43
   try clear c44
   try clear c45
   try clear c46
   try clear c48
   try clear c49
   try clear c52
   try clear c53
   try clear c54
   try clear c56
   try clear c57
   try clear hcz14_0
   try clear hcz14_1
   try clear hcz14_2
   try clear hcz16_0
   try clear hcz16_1
   try clear hcz16_2
   try clear hcz24_0
   try clear hcz24_1
   try clear hcz24_2
   try clear hcz26_0
   try clear hcz26_1
   try clear hcz26_2
   try clear hcz32_0
   try clear hcz32_1
   try clear hcz32_2
   try clear hcz40_0
   try clear hcz40_1
   try clear hcz40_2
   try clear hcz47_0
   try clear hcz47_1
   try clear hcz47_2
   try clear hcz50_0
   try clear hcz50_1
   try clear hcz50_2
   try clear hcz55_0
   try clear hcz55_1
   try clear hcz55_2
   try clear hcz58_0
   try clear hcz58_1
   try clear hcz58_2
   try clear hcz6_0
   try clear hcz6_1
   try clear hcz6_2
   try clear hfz14_0
   try clear hfz14_1
   try clear hfz14_2
   try clear hfz16_0
   try clear hfz16_1
   try clear hfz16_2
   try clear hfz24_0
   try clear hfz24_1
   try clear hfz24_2
   try clear hfz26_0
   try clear hfz26_1
   try clear hfz26_2
   try clear hfz32_0
   try clear hfz32_1
   try clear hfz32_2
   try clear hfz40_0
   try clear hfz40_1
   try clear hfz40_2
   try clear hfz47_0
   try clear hfz47_1
   try clear hfz47_2
   try clear hfz50_0
   try clear hfz50_1
   try clear hfz50_2
   try clear hfz55_0
   try clear hfz55_1
   try clear hfz55_2
   try clear hfz58_0
   try clear hfz58_1
   try clear hfz58_2
   try clear hfz6_0
   try clear hfz6_1
   try clear hfz6_2
   obtain ⟨kq, x44_11, rfl, HA, HJ11, HO_376000, HO_376001, HO_384000, HO_384001, HO_393000, HO_393001, BK358, BK375, BK383, BK392, HB⟩ := hcut
   cases kq with
   | zero => exact absurd HA.out (by simp [laws_FnExactStoreCrash.j0])
   | succ kj11 =>
    have H := HA.out
    clear HA
    simp only [laws_FnExactStoreCrash.j0] at H
    by_cases c60 : x44_11 = true
    ·subst c60
     have H1 : (none) = some r := by rw [if_pos rfl] at H; exact H
     clear H
     have H := H1
     clear H1
     exact absurd H (by simp)
    ·replace c60 := Bool.eq_false_iff.mpr c60
     subst c60
     have H1 : ((laws_toStore.f kj11 l0_0 l0_1 a0_2).bind fun bt394 => ((laws_eqStore.f kj11 t376 t379 t382 bt394.1 bt394.2.1 bt394.2.2).bind fun t401 => (if t401 = true then ((laws_markStore.f kj11 t376 t379 t382 1).bind fun bt402 => (if bt402.1 < 0 then (laws_FnExactStoreCrash.j1 kj11 a1 t374 true l0_0 l0_1 a0_2 t367 t370 t373 t384 t387 t390) else ((laws_eqStore.f kj11 t384 t387 t390 t367 t370 t373).bind fun t405 => (if t405 = true then (laws_FnExactStoreCrash.j1 kj11 a1 t374 (t391 != t374) l0_0 l0_1 a0_2 t367 t370 t373 t384 t387 t390) else (laws_FnExactStoreCrash.j1 kj11 a1 t374 true l0_0 l0_1 a0_2 t367 t370 t373 t384 t387 t390))))) else (none)))) = some r := by rw [if_neg (show ¬ (false = true) by decide)] at H; exact H
     clear H
     have H := H1
     clear H1
     replace H := Option.bind_eq_some_iff.mp H
     obtain ⟨⟨t394, t397, t400⟩, A610, H⟩ := H
     replace H : ((laws_eqStore.f kj11 t376 t379 t382 t394 t397 t400).bind fun t401 => (if t401 = true then ((laws_markStore.f kj11 t376 t379 t382 1).bind fun bt402 => (if bt402.1 < 0 then (laws_FnExactStoreCrash.j1 kj11 a1 t374 true l0_0 l0_1 a0_2 t367 t370 t373 t384 t387 t390) else ((laws_eqStore.f kj11 t384 t387 t390 t367 t370 t373).bind fun t405 => (if t405 = true then (laws_FnExactStoreCrash.j1 kj11 a1 t374 (t391 != t374) l0_0 l0_1 a0_2 t367 t370 t373 t384 t387 t390) else (laws_FnExactStoreCrash.j1 kj11 a1 t374 true l0_0 l0_1 a0_2 t367 t370 t373 t384 t387 t390))))) else (none))) = some r := H
     have A61 := Aside0.mk A610
     clear A610
     replace H := Option.bind_eq_some_iff.mp H
     obtain ⟨t401, A620, H⟩ := H
     replace H : (if t401 = true then ((laws_markStore.f kj11 t376 t379 t382 1).bind fun bt402 => (if bt402.1 < 0 then (laws_FnExactStoreCrash.j1 kj11 a1 t374 true l0_0 l0_1 a0_2 t367 t370 t373 t384 t387 t390) else ((laws_eqStore.f kj11 t384 t387 t390 t367 t370 t373).bind fun t405 => (if t405 = true then (laws_FnExactStoreCrash.j1 kj11 a1 t374 (t391 != t374) l0_0 l0_1 a0_2 t367 t370 t373 t384 t387 t390) else (laws_FnExactStoreCrash.j1 kj11 a1 t374 true l0_0 l0_1 a0_2 t367 t370 t373 t384 t387 t390))))) else (none)) = some r := H
     have A62 := Aside0.mk A620
     clear A620
     by_cases c63 : t401 = true
     ·subst c63
      have H1 : ((laws_markStore.f kj11 t376 t379 t382 1).bind fun bt402 => (if bt402.1 < 0 then (laws_FnExactStoreCrash.j1 kj11 a1 t374 true l0_0 l0_1 a0_2 t367 t370 t373 t384 t387 t390) else ((laws_eqStore.f kj11 t384 t387 t390 t367 t370 t373).bind fun t405 => (if t405 = true then (laws_FnExactStoreCrash.j1 kj11 a1 t374 (t391 != t374) l0_0 l0_1 a0_2 t367 t370 t373 t384 t387 t390) else (laws_FnExactStoreCrash.j1 kj11 a1 t374 true l0_0 l0_1 a0_2 t367 t370 t373 t384 t387 t390))))) = some r := by rw [if_pos rfl] at H; exact H
      clear H
      have H := H1
      clear H1
      replace H := Option.bind_eq_some_iff.mp H
      obtain ⟨⟨t402, t403, t404⟩, A640, H⟩ := H
      replace H : (if t402 < 0 then (laws_FnExactStoreCrash.j1 kj11 a1 t374 true l0_0 l0_1 a0_2 t367 t370 t373 t384 t387 t390) else ((laws_eqStore.f kj11 t384 t387 t390 t367 t370 t373).bind fun t405 => (if t405 = true then (laws_FnExactStoreCrash.j1 kj11 a1 t374 (t391 != t374) l0_0 l0_1 a0_2 t367 t370 t373 t384 t387 t390) else (laws_FnExactStoreCrash.j1 kj11 a1 t374 true l0_0 l0_1 a0_2 t367 t370 t373 t384 t387 t390)))) = some r := H
      have A64 := Aside0.mk A640
      clear A640
      have HC65 := Aside0.mk H
      clear H
      try go_wp2
      have n0_ := Aside0.mk (Kd.R_drew HO_376000.out)
      have n1_ := Aside0.mk (Kd.R_drew HO_376001.out)
      have n2_ := Aside0.mk (Kd.R_drew HO_384000.out)
      have n3_ := Aside0.mk (Kd.R_drew HO_384001.out)
      have n4_ := Aside0.mk (Kd.R_drew HO_393000.out)
      have n5_ := Aside0.mk (Kd.R_drew HO_393001.out)
      have n6_ := Aside0.mk (blk_drew BK358.out)
      have n7_ := Aside0.mk (blk_drew BK375.out)
      have n8_ := Aside0.mk (blk_drew BK383.out)
      have n9_ := Aside0.mk (blk_drew BK392.out)
      have n10_ := Aside0.mk (below_drew1 HB.out)
      clear HO_376000
      clear HO_376001
      clear HO_384000
      clear HO_384001
      clear HO_393000
      clear HO_393001
      clear BK358
      clear BK375
      clear BK383
      clear BK392
      clear HB
      have HO_376000 := n0_
      have HO_376001 := n1_
      have HO_384000 := n2_
      have HO_384001 := n3_
      have HO_393000 := n4_
      have HO_393001 := n5_
      have BK358 := n6_
      have BK375 := n7_
      have BK383 := n8_
      have BK392 := n9_
      have HB := n10_
      clear n0_ n1_ n2_ n3_ n4_ n5_ n6_ n7_ n8_ n9_ n10_
      refine start_ (n := 5) (S := fun w' => w'.cell? ⟨gb383, 0, none⟩ = some (.slice Ao29 t376.length co29) ∧ w'.cell? ⟨gb383, 1, none⟩ = some (.slice Ao33 t379.length co33) ∧ w'.cell? ⟨gb383, 2, none⟩ = some (.int .i64 t382) ∧ w'.cell? ⟨gb358, 0, none⟩ = some (.slice A0_0 l0_0.length c0_0) ∧ w'.cell? ⟨gb358, 1, none⟩ = some (.slice A0_1 l0_1.length c0_1) ∧ w'.cell? ⟨gb358, 2, none⟩ = some (.int .i64 a0_2)) (ds := []) #[false, false, false, false, false] (by kernel_rfl) rfl rfl ⟨(blk_cell BK383.out 0).trans rfl, (blk_cell BK383.out 1).trans rfl, (blk_cell BK383.out 2).trans rfl, (blk_cell BK358.out 0).trans rfl, (blk_cell BK358.out 1).trans rfl, (blk_cell BK358.out 2).trans rfl⟩ (fun hHeld => ?_)
      generalize wc.drew = w66 at HO_376000 HO_376001 HO_384000 HO_384001 HO_393000 HO_393001 BK358 BK375 BK383 BK392 HB hHeld ⊢
      refine take_ (i := 0) (N := some 45) (v := ?_) (a' := ?_) #[true, false, false, false, false] rfl rfl (by kernel_rfl) (fun _ _ _ h => h) (Or.inl ⟨by rfl, ?_⟩) hHeld ?_ ?_
      rotate_left
      ·rintro w' ⟨s0, s1, s2, s3, s4, s5⟩
       go_simp
       with_reducible rfl
      rotate_left
      ·simp only [Act.put, List.setIfInBounds_toArray, List.set_cons_zero, List.set_cons_succ, i64_w, i32_w]
       rfl
      refine take_ (i := 1) (N := some 46) (v := ?_) (a' := ?_) #[true, true, false, false, false] rfl rfl (by kernel_rfl) (fun _ _ _ h => h) (Or.inl ⟨by rfl, ?_⟩) hHeld ?_ ?_
      rotate_left
      ·rintro w' ⟨s0, s1, s2, s3, s4, s5⟩
       go_simp
       with_reducible rfl
      rotate_left
      ·simp only [Act.put, List.setIfInBounds_toArray, List.set_cons_zero, List.set_cons_succ, i64_w, i32_w]
       rfl
      refine one_ (i := 2) (N := some 47) #[true, true, true, false, false] rfl rfl (by kernel_rfl) (by decide) (fun K hK => ?_)
      refine goes_ Try.func17 (by kernel_rfl) rfl #[.agg #[.slice A0_0 l0_0.length c0_0, .slice A0_1 l0_1.length c0_1, .int .i64 a0_2]] (by rfl) rfl rfl KL ?_
      with_reducible refine (laws_toStore.calls kj11 _ _ l0_0 _ _ l0_1 a0_2 t394 t397 t400 _ ?side1 ?side2 ?side3 ?side4 A61.out).mono ?_
      (case side1 => exact KD (Kd.C_below HR0_0.out HB.out))
      (case side2 => exact HC0_0.out)
      (case side3 => exact KD (Kd.C_below HR0_1.out HB.out))
      (case side4 => exact HC0_1.out)
      rintro e w67 ⟨v395, v398, rfl, ho0, ho1, hb⟩
      refine ⟨_, rfl, ?_⟩
      have n0_ := Aside0.mk (Kd.R_mono (Kd.R_told (Kd.R_told (Kd.R_old (KR HO_376000.out) hb) (Kd.R_base ho0)) (Kd.R_base ho1)) (fun _ h_ => h_.1))
      have n1_ := Aside0.mk (Kd.R_mono (Kd.R_told (Kd.R_told (Kd.R_old (KR HO_376001.out) hb) (Kd.R_base ho0)) (Kd.R_base ho1)) (fun _ h_ => h_.1))
      have n2_ := Aside0.mk (Kd.R_mono (Kd.R_told (Kd.R_told (Kd.R_old (KR HO_384000.out) hb) (Kd.R_base ho0)) (Kd.R_base ho1)) (fun _ h_ => h_.1))
      have n3_ := Aside0.mk (Kd.R_mono (Kd.R_told (Kd.R_told (Kd.R_old (KR HO_384001.out) hb) (Kd.R_base ho0)) (Kd.R_base ho1)) (fun _ h_ => h_.1))
      have n4_ := Aside0.mk (Kd.R_mono (Kd.R_told (Kd.R_told (Kd.R_old (KR HO_393000.out) hb) (Kd.R_base ho0)) (Kd.R_base ho1)) (fun _ h_ => h_.1))
      have n5_ := Aside0.mk (Kd.R_mono (Kd.R_told (Kd.R_told (Kd.R_old (KR HO_393001.out) hb) (Kd.R_base ho0)) (Kd.R_base ho1)) (fun _ h_ => h_.1))
      have n6_ := Aside0.mk (Kd.R_lower (Kd.R_new' (Kd.R_new' (Kd.R_new' (Kd.R_new' (Kd.R_new' (Kd.R_new' ho0 (Kd.R_lt (KR HO_376000.out))) (Kd.R_lt (KR HO_376001.out))) (Kd.R_lt (KR HO_384000.out))) (Kd.R_lt (KR HO_384001.out))) (Kd.R_lt (KR HO_393000.out))) (Kd.R_lt (KR HO_393001.out))) (below_size KB))
      have n7_ := Aside0.mk (Kd.R_lower (Kd.R_new' (Kd.R_new' (Kd.R_new' (Kd.R_new' (Kd.R_new' (Kd.R_new' ho1 (Kd.R_lt (KR HO_376000.out))) (Kd.R_lt (KR HO_376001.out))) (Kd.R_lt (KR HO_384000.out))) (Kd.R_lt (KR HO_384001.out))) (Kd.R_lt (KR HO_393000.out))) (Kd.R_lt (KR HO_393001.out))) (below_size KB))
      have n8_ := Aside0.mk (blk_below (g := gb358) (o := .cells #[.slice A0_0 l0_0.length c0_0, .slice A0_1 l0_1.length c0_1, .int .i64 a0_2] 24 (0, 0)) KK hb)
      have n9_ := Aside0.mk (blk_below (g := gb375) (o := .cells #[.slice Ao22 t367.length co22, .slice Ao25 t370.length co25, .int .i64 t373] 29 (0, 0)) KK hb)
      have n10_ := Aside0.mk (blk_below (g := gb383) (o := .cells #[.slice Ao29 t376.length co29, .slice Ao33 t379.length co33, .int .i64 t382] 29 (0, 0)) KK hb)
      have n11_ := Aside0.mk (blk_below (g := gb392) (o := .cells #[.slice Ao36 t384.length co36, .slice Ao41 t387.length co41, .int .i64 t390] 29 (0, 0)) KK hb)
      have n12_ := Aside0.mk (below_step KB hb)
      clear HO_376000
      clear HO_376001
      clear HO_384000
      clear HO_384001
      clear HO_393000
      clear HO_393001
      clear BK358
      clear BK375
      clear BK383
      clear BK392
      clear HB
      have HO_376000 := n0_
      have HO_376001 := n1_
      have HO_384000 := n2_
      have HO_384001 := n3_
      have HO_393000 := n4_
      have HO_393001 := n5_
      have HO396 := n6_
      have HO399 := n7_
      have BK358 := n8_
      have BK375 := n9_
      have BK383 := n10_
      have BK392 := n11_
      have HB := n12_
      clear n0_ n1_ n2_ n3_ n4_ n5_ n6_ n7_ n8_ n9_ n10_ n11_ n12_
      (try clear hb)
      (try clear hb2)
      (try clear hk)
      (try clear hi)
      (try clear ho0)
      (try clear ho1)
      obtain ⟨Ao68, co68, eo68⟩ := Kd.R_slice HO396.out
      (first | subst eo68 | (injection eo68 with f1_ f2_ f3_; have f4_ := f1_.symm; have f5_ := f3_.symm; clear f1_ f2_ f3_; subst f4_; subst f5_))
      obtain ⟨Ao69, co69, eo69⟩ := Kd.R_slice HO399.out
      (first | subst eo69 | (injection eo69 with f1_ f2_ f3_; have f4_ := f1_.symm; have f5_ := f3_.symm; clear f1_ f2_ f3_; subst f4_; subst f5_))
      refine hK.out _ _ ⟨(blk_cell BK383.out 0).trans rfl, (blk_cell BK383.out 1).trans rfl, (blk_cell BK383.out 2).trans rfl, (blk_cell BK358.out 0).trans rfl, (blk_cell BK358.out 1).trans rfl, (blk_cell BK358.out 2).trans rfl⟩ (fun hHeld => ?_)
      clear hK K
      refine norm_ (a' := ?_) ?_ ?_
      rotate_left
      ·show Act.put _ (some 47) _ = _
       simp only [Act.put, List.setIfInBounds_toArray, List.set_cons_zero, List.set_cons_succ, i64_w, i32_w]
       rfl
      refine one_ (i := 3) (N := some 48) #[true, true, true, true, false] rfl rfl (by kernel_rfl) (by decide) (fun K hK => ?_)
      refine goes_ Try.func19 (by kernel_rfl) rfl #[.agg #[.slice Ao29 t376.length co29, .slice Ao33 t379.length co33, .int .i64 t382], .agg #[.slice Ao68 t394.length co68, .slice Ao69 t397.length co69, .int .i64 t400]] (by rfl) rfl rfl KL ?_
      with_reducible refine (laws_eqStore.calls kj11 _ _ t376 _ _ t379 t382 _ _ t394 _ _ t397 t400 true _ ?side1 ?side2 ?side3 ?side4 ?side5 ?side6 ?side7 ?side8 A62.out).mono ?_
      (case side1 => repeat (first | exact (Kd.R_reads' HO_384000.out).2.2 | (with_reducible refine Kd.C_alloc ?_ _) | (with_reducible refine Kd.C_drewN ?_ _) | (with_reducible refine Kd.C_drew ?_)))
      (case side2 => exact (Kd.R_reads' HO_384000.out).2.1)
      (case side3 => repeat (first | exact (Kd.R_reads' HO_384001.out).2.2 | (with_reducible refine Kd.C_alloc ?_ _) | (with_reducible refine Kd.C_drewN ?_ _) | (with_reducible refine Kd.C_drew ?_)))
      (case side4 => exact (Kd.R_reads' HO_384001.out).2.1)
      (case side5 => repeat (first | exact (Kd.R_reads' HO396.out).2.2 | (with_reducible refine Kd.C_alloc ?_ _) | (with_reducible refine Kd.C_drewN ?_ _) | (with_reducible refine Kd.C_drew ?_)))
      (case side6 => exact (Kd.R_reads' HO396.out).2.1)
      (case side7 => repeat (first | exact (Kd.R_reads' HO399.out).2.2 | (with_reducible refine Kd.C_alloc ?_ _) | (with_reducible refine Kd.C_drewN ?_ _) | (with_reducible refine Kd.C_drew ?_)))
      (case side8 => exact (Kd.R_reads' HO399.out).2.1)
      rintro e w70 ⟨rfl, hb⟩
      refine ⟨_, rfl, ?_⟩
      have n0_ := Aside0.mk (Kd.R_below (KR HO_376000.out) hb)
      have n1_ := Aside0.mk (Kd.R_below (KR HO_376001.out) hb)
      have n2_ := Aside0.mk (Kd.R_below (KR HO_384000.out) hb)
      have n3_ := Aside0.mk (Kd.R_below (KR HO_384001.out) hb)
      have n4_ := Aside0.mk (Kd.R_below (KR HO_393000.out) hb)
      have n5_ := Aside0.mk (Kd.R_below (KR HO_393001.out) hb)
      have n6_ := Aside0.mk (Kd.R_below (KR HO396.out) hb)
      have n7_ := Aside0.mk (Kd.R_below (KR HO399.out) hb)
      have n8_ := Aside0.mk (blk_below (g := gb358) (o := .cells #[.slice A0_0 l0_0.length c0_0, .slice A0_1 l0_1.length c0_1, .int .i64 a0_2] 24 (0, 0)) KK hb)
      have n9_ := Aside0.mk (blk_below (g := gb375) (o := .cells #[.slice Ao22 t367.length co22, .slice Ao25 t370.length co25, .int .i64 t373] 29 (0, 0)) KK hb)
      have n10_ := Aside0.mk (blk_below (g := gb383) (o := .cells #[.slice Ao29 t376.length co29, .slice Ao33 t379.length co33, .int .i64 t382] 29 (0, 0)) KK hb)
      have n11_ := Aside0.mk (blk_below (g := gb392) (o := .cells #[.slice Ao36 t384.length co36, .slice Ao41 t387.length co41, .int .i64 t390] 29 (0, 0)) KK hb)
      have n12_ := Aside0.mk (below_step KB hb)
      clear HO_376000
      clear HO_376001
      clear HO_384000
      clear HO_384001
      clear HO_393000
      clear HO_393001
      clear HO396
      clear HO399
      clear BK358
      clear BK375
      clear BK383
      clear BK392
      clear HB
      have HO_376000 := n0_
      have HO_376001 := n1_
      have HO_384000 := n2_
      have HO_384001 := n3_
      have HO_393000 := n4_
      have HO_393001 := n5_
      have HO396 := n6_
      have HO399 := n7_
      have BK358 := n8_
      have BK375 := n9_
      have BK383 := n10_
      have BK392 := n11_
      have HB := n12_
      clear n0_ n1_ n2_ n3_ n4_ n5_ n6_ n7_ n8_ n9_ n10_ n11_ n12_
      (try clear hb)
      (try clear hb2)
      (try clear hk)
      (try clear hi)
      refine hK.out _ _ ⟨(blk_cell BK383.out 0).trans rfl, (blk_cell BK383.out 1).trans rfl, (blk_cell BK383.out 2).trans rfl, (blk_cell BK358.out 0).trans rfl, (blk_cell BK358.out 1).trans rfl, (blk_cell BK358.out 2).trans rfl⟩ (fun hHeld => ?_)
      clear hK K
      refine norm_ (a' := ?_) ?_ ?_
      rotate_left
      ·show Act.put _ (some 48) _ = _
       simp only [Act.put, List.setIfInBounds_toArray, List.set_cons_zero, List.set_cons_succ, i64_w, i32_w]
       rfl
      refine pure_ (i := 4) (N := some 49) (v := ?_) (a' := ?_) #[true, true, true, true, true] rfl rfl (by kernel_rfl) (fun _ _ _ h => h) (Or.inl ⟨by rfl, ?_⟩) ?_ ?_
      rotate_left
      ·intro w'
       go_simp
       with_reducible rfl
      rotate_left
      ·simp only [Act.put, List.setIfInBounds_toArray, List.set_cons_zero, List.set_cons_succ, i64_w, i32_w]
       rfl
      refine done_ (by kernel_rfl) ?_
      have hnb71 := NB383_358.out
      have hnc71 := NB358_383.out
      have hnb72 := NB383_375.out
      have hnc72 := NB375_383.out
      have hnb73 := NB383_392.out
      have hnc73 := NB392_383.out
      have hcz74_0 : w70.cell? ⟨gb383, 0, none⟩ = some (.slice Ao29 t376.length co29) := (blk_cell BK383.out 0).trans rfl
      have hcz74_1 : w70.cell? ⟨gb383, 1, none⟩ = some (.slice Ao33 t379.length co33) := (blk_cell BK383.out 1).trans rfl
      have hcz74_2 : w70.cell? ⟨gb383, 2, none⟩ = some (.int .i64 t382) := (blk_cell BK383.out 2).trans rfl
      have hfz74_0 := blk_frozen BK383.out 0
      have hfz74_1 := blk_frozen BK383.out 1
      have hfz74_2 := blk_frozen BK383.out 2
      go_upto_region 14 with (first | ((with_reducible refine gate_callee (f := 26) rfl ?_); refine goesL_ (some 52) rfl rfl Try.func26 (by kernel_rfl) rfl #[.agg #[.slice Ao29 t376.length co29, .slice Ao33 t379.length co33, .int .i64 t382], .int .i64 1] rfl KL ?_; (with_reducible refine (laws_markStore.calls kj11 (fun k_ => some k_ = (.slice Ao29 t376.length co29 : Value).ownBlock) (.slice Ao29 t376.length co29) t376 (fun k_ => some k_ = (.slice Ao33 t379.length co33 : Value).ownBlock) (.slice Ao33 t379.length co33) t379 t382 1 t402 t403 t404 w _ ?side1 ?side2 ?side3 ?side4 ?side5 A64.out).mono ?_); (case side1 => exact KB); (case side2 => exact Kd.R_tight rfl HO_384000.out); (case side3 => exact fun k_ e_ => (HO_384000.out.1 k_ e_.symm).1.1.2.2.1); (case side4 => exact Kd.R_tight rfl HO_384001.out); (case side5 => exact fun k_ e_ => (HO_384001.out.1 k_ e_.symm).1.1.2.2.1); rintro e w75 ⟨rfl, hy0, hy1, hb, hkp⟩; refine ⟨_, rfl, ?_⟩; have n0_ := Aside0.mk (Kd.R_mono (ok' := fun k_ => some k_ ≠ (.slice Ao25 t370.length co25 : Value).ownBlock ∧ some k_ ≠ (.slice Ao29 t376.length co29 : Value).ownBlock ∧ some k_ ≠ (.slice Ao33 t379.length co33 : Value).ownBlock ∧ some k_ ≠ (.slice Ao36 t384.length co36 : Value).ownBlock ∧ some k_ ≠ (.slice Ao41 t387.length co41 : Value).ownBlock ∧ some k_ ≠ (.slice Ao68 t394.length co68 : Value).ownBlock ∧ some k_ ≠ (.slice Ao69 t397.length co69 : Value).ownBlock) (Kd.R_keptB (HO_376000.out) hkp (fun k_ hk_ hs_ => Or.elim hs_ (fun e_ => (hk_.1.1.2.1) e_) (fun e_ => (hk_.1.1.2.2.1) e_))) (fun k_ hk_ => ⟨hk_.1.1.1.1, hk_.1.1.1.2.1, hk_.1.1.1.2.2.1, hk_.1.1.1.2.2.2.1, hk_.1.1.1.2.2.2.2, hk_.1.1.2, hk_.1.2⟩)); have n1_ := Aside0.mk (Kd.R_mono (ok' := fun k_ => some k_ ≠ (.slice Ao22 t367.length co22 : Value).ownBlock ∧ some k_ ≠ (.slice Ao29 t376.length co29 : Value).ownBlock ∧ some k_ ≠ (.slice Ao33 t379.length co33 : Value).ownBlock ∧ some k_ ≠ (.slice Ao36 t384.length co36 : Value).ownBlock ∧ some k_ ≠ (.slice Ao41 t387.length co41 : Value).ownBlock ∧ some k_ ≠ (.slice Ao68 t394.length co68 : Value).ownBlock ∧ some k_ ≠ (.slice Ao69 t397.length co69 : Value).ownBlock) (Kd.R_keptB (HO_376001.out) hkp (fun k_ hk_ hs_ => Or.elim hs_ (fun e_ => (hk_.1.1.2.1) e_) (fun e_ => (hk_.1.1.2.2.1) e_))) (fun k_ hk_ => ⟨hk_.1.1.1.1, hk_.1.1.1.2.1, hk_.1.1.1.2.2.1, hk_.1.1.1.2.2.2.1, hk_.1.1.1.2.2.2.2, hk_.1.1.2, hk_.1.2⟩)); have n2_ := Aside0.mk (Kd.R_reok rfl hy0 (fun k_ e_ => HO_384000.out.1 k_ e_)); have n3_ := Aside0.mk (Kd.R_reok rfl hy1 (fun k_ e_ => HO_384001.out.1 k_ e_)); have n4_ := Aside0.mk (Kd.R_mono (ok' := fun k_ => some k_ ≠ (.slice Ao22 t367.length co22 : Value).ownBlock ∧ some k_ ≠ (.slice Ao25 t370.length co25 : Value).ownBlock ∧ some k_ ≠ (.slice Ao29 t376.length co29 : Value).ownBlock ∧ some k_ ≠ (.slice Ao33 t379.length co33 : Value).ownBlock ∧ some k_ ≠ (.slice Ao41 t387.length co41 : Value).ownBlock ∧ some k_ ≠ (.slice Ao68 t394.length co68 : Value).ownBlock ∧ some k_ ≠ (.slice Ao69 t397.length co69 : Value).ownBlock) (Kd.R_keptB (HO_393000.out) hkp (fun k_ hk_ hs_ => Or.elim hs_ (fun e_ => (hk_.1.1.2.2.1) e_) (fun e_ => (hk_.1.1.2.2.2.1) e_))) (fun k_ hk_ => ⟨hk_.1.1.1.1, hk_.1.1.1.2.1, hk_.1.1.1.2.2.1, hk_.1.1.1.2.2.2.1, hk_.1.1.1.2.2.2.2, hk_.1.1.2, hk_.1.2⟩)); have n5_ := Aside0.mk (Kd.R_mono (ok' := fun k_ => some k_ ≠ (.slice Ao22 t367.length co22 : Value).ownBlock ∧ some k_ ≠ (.slice Ao25 t370.length co25 : Value).ownBlock ∧ some k_ ≠ (.slice Ao29 t376.length co29 : Value).ownBlock ∧ some k_ ≠ (.slice Ao33 t379.length co33 : Value).ownBlock ∧ some k_ ≠ (.slice Ao36 t384.length co36 : Value).ownBlock ∧ some k_ ≠ (.slice Ao68 t394.length co68 : Value).ownBlock ∧ some k_ ≠ (.slice Ao69 t397.length co69 : Value).ownBlock) (Kd.R_keptB (HO_393001.out) hkp (fun k_ hk_ hs_ => Or.elim hs_ (fun e_ => (hk_.1.1.2.2.1) e_) (fun e_ => (hk_.1.1.2.2.2.1) e_))) (fun k_ hk_ => ⟨hk_.1.1.1.1, hk_.1.1.1.2.1, hk_.1.1.1.2.2.1, hk_.1.1.1.2.2.2.1, hk_.1.1.1.2.2.2.2, hk_.1.1.2, hk_.1.2⟩)); have n6_ := Aside0.mk (blk_kept KK hkp (fun hs_ => Or.elim hs_ (fun e_ => (fun e_ => (Kd.R_ne HO_384000.out BK358.out (by decide)) e_) e_) (fun e_ => (fun e_ => (Kd.R_ne HO_384001.out BK358.out (by decide)) e_) e_))); have n7_ := Aside0.mk (blk_kept KK hkp (fun hs_ => Or.elim hs_ (fun e_ => (fun e_ => (Kd.R_ne HO_384000.out BK375.out (by decide)) e_) e_) (fun e_ => (fun e_ => (Kd.R_ne HO_384001.out BK375.out (by decide)) e_) e_))); have n8_ := Aside0.mk (blk_kept KK hkp (fun hs_ => Or.elim hs_ (fun e_ => (fun e_ => (Kd.R_ne HO_384000.out BK383.out (by decide)) e_) e_) (fun e_ => (fun e_ => (Kd.R_ne HO_384001.out BK383.out (by decide)) e_) e_))); have n9_ := Aside0.mk (blk_kept KK hkp (fun hs_ => Or.elim hs_ (fun e_ => (fun e_ => (Kd.R_ne HO_384000.out BK392.out (by decide)) e_) e_) (fun e_ => (fun e_ => (Kd.R_ne HO_384001.out BK392.out (by decide)) e_) e_))); have n10_ := Aside0.mk (Kd.R_mono (ok' := fun k_ => some k_ ≠ (.slice Ao22 t367.length co22 : Value).ownBlock ∧ some k_ ≠ (.slice Ao25 t370.length co25 : Value).ownBlock ∧ some k_ ≠ (.slice Ao29 t376.length co29 : Value).ownBlock ∧ some k_ ≠ (.slice Ao33 t379.length co33 : Value).ownBlock ∧ some k_ ≠ (.slice Ao36 t384.length co36 : Value).ownBlock ∧ some k_ ≠ (.slice Ao41 t387.length co41 : Value).ownBlock ∧ some k_ ≠ (.slice Ao69 t397.length co69 : Value).ownBlock) (Kd.R_keptB (HO396.out) hkp (fun k_ hk_ hs_ => Or.elim hs_ (fun e_ => (hk_.1.1.1.2) e_) (fun e_ => (hk_.1.1.2) e_))) (fun k_ hk_ => ⟨hk_.1.1.1.1.1.1.2, hk_.1.1.1.1.1.2, hk_.1.1.1.1.2, hk_.1.1.1.2, hk_.1.1.2, hk_.1.2, hk_.1.1.1.1.1.1.1⟩)); have n11_ := Aside0.mk (Kd.R_mono (ok' := fun k_ => some k_ ≠ (.slice Ao22 t367.length co22 : Value).ownBlock ∧ some k_ ≠ (.slice Ao25 t370.length co25 : Value).ownBlock ∧ some k_ ≠ (.slice Ao29 t376.length co29 : Value).ownBlock ∧ some k_ ≠ (.slice Ao33 t379.length co33 : Value).ownBlock ∧ some k_ ≠ (.slice Ao36 t384.length co36 : Value).ownBlock ∧ some k_ ≠ (.slice Ao41 t387.length co41 : Value).ownBlock ∧ some k_ ≠ (.slice Ao68 t394.length co68 : Value).ownBlock) (Kd.R_keptB (HO399.out) hkp (fun k_ hk_ hs_ => Or.elim hs_ (fun e_ => (hk_.1.1.1.2) e_) (fun e_ => (hk_.1.1.2) e_))) (fun k_ hk_ => ⟨hk_.1.1.1.1.1.1.2, hk_.1.1.1.1.1.2, hk_.1.1.1.1.2, hk_.1.1.1.2, hk_.1.1.2, hk_.1.2, hk_.1.1.1.1.1.1.1⟩)); have n12_ := Aside0.mk (hb); clear HO_376000; clear HO_376001; clear HO_384000; clear HO_384001; clear HO_393000; clear HO_393001; clear BK358; clear BK375; clear BK383; clear BK392; clear HO396; clear HO399; clear HB; have HO_376000 := n0_; have HO_376001 := n1_; have HO_384000 := n2_; have HO_384001 := n3_; have HO_393000 := n4_; have HO_393001 := n5_; have BK358 := n6_; have BK375 := n7_; have BK383 := n8_; have BK392 := n9_; have HO396 := n10_; have HO399 := n11_; have HB := n12_; clear n0_ n1_ n2_ n3_ n4_ n5_ n6_ n7_ n8_ n9_ n10_ n11_ n12_; (try clear hb); (try clear hkp); (try clear hy0); (try clear hy1)))
      (try simp only [Act.put, List.setIfInBounds_toArray, List.set_cons_zero, List.set_cons_succ])
      go_cut [65] (fun v65 wc => ∃ (kq : Nat) (x65_64 : Bool), v65 = .bool x65_64 ∧ Aside0 (laws_FnExactStoreCrash.j1 kq a1 t374 x65_64 l0_0 l0_1 a0_2 t367 t370 t373 t384 t387 t390 = some r) ∧ Aside0 (kq ≤ kj11) ∧ Aside0 (Kd.R k34 34 wc w.heap.size (fun k_ => some k_ ≠ ((.slice Ao25 t370.length co25) : Value).ownBlock ∧ some k_ ≠ ((.slice Ao29 t376.length co29) : Value).ownBlock ∧ some k_ ≠ ((.slice Ao33 t379.length co33) : Value).ownBlock ∧ some k_ ≠ ((.slice Ao36 t384.length co36) : Value).ownBlock ∧ some k_ ≠ ((.slice Ao41 t387.length co41) : Value).ownBlock) (.slice Ao22 t367.length co22) t367) ∧ Aside0 (Kd.R k34 34 wc w.heap.size (fun k_ => some k_ ≠ ((.slice Ao22 t367.length co22) : Value).ownBlock ∧ some k_ ≠ ((.slice Ao29 t376.length co29) : Value).ownBlock ∧ some k_ ≠ ((.slice Ao33 t379.length co33) : Value).ownBlock ∧ some k_ ≠ ((.slice Ao36 t384.length co36) : Value).ownBlock ∧ some k_ ≠ ((.slice Ao41 t387.length co41) : Value).ownBlock) (.slice Ao25 t370.length co25) t370) ∧ Aside0 (Kd.R k34 34 wc w.heap.size (fun k_ => some k_ ≠ ((.slice Ao22 t367.length co22) : Value).ownBlock ∧ some k_ ≠ ((.slice Ao25 t370.length co25) : Value).ownBlock ∧ some k_ ≠ ((.slice Ao33 t379.length co33) : Value).ownBlock ∧ some k_ ≠ ((.slice Ao36 t384.length co36) : Value).ownBlock ∧ some k_ ≠ ((.slice Ao41 t387.length co41) : Value).ownBlock) (.slice Ao29 t376.length co29) t403) ∧ Aside0 (Kd.R k34 34 wc w.heap.size (fun k_ => some k_ ≠ ((.slice Ao22 t367.length co22) : Value).ownBlock ∧ some k_ ≠ ((.slice Ao25 t370.length co25) : Value).ownBlock ∧ some k_ ≠ ((.slice Ao29 t376.length co29) : Value).ownBlock ∧ some k_ ≠ ((.slice Ao36 t384.length co36) : Value).ownBlock ∧ some k_ ≠ ((.slice Ao41 t387.length co41) : Value).ownBlock) (.slice Ao33 t379.length co33) t404) ∧ Aside0 (Kd.R k34 34 wc w.heap.size (fun k_ => some k_ ≠ ((.slice Ao22 t367.length co22) : Value).ownBlock ∧ some k_ ≠ ((.slice Ao25 t370.length co25) : Value).ownBlock ∧ some k_ ≠ ((.slice Ao29 t376.length co29) : Value).ownBlock ∧ some k_ ≠ ((.slice Ao33 t379.length co33) : Value).ownBlock ∧ some k_ ≠ ((.slice Ao41 t387.length co41) : Value).ownBlock) (.slice Ao36 t384.length co36) t384) ∧ Aside0 (Kd.R k34 34 wc w.heap.size (fun k_ => some k_ ≠ ((.slice Ao22 t367.length co22) : Value).ownBlock ∧ some k_ ≠ ((.slice Ao25 t370.length co25) : Value).ownBlock ∧ some k_ ≠ ((.slice Ao29 t376.length co29) : Value).ownBlock ∧ some k_ ≠ ((.slice Ao33 t379.length co33) : Value).ownBlock ∧ some k_ ≠ ((.slice Ao36 t384.length co36) : Value).ownBlock) (.slice Ao41 t387.length co41) t387) ∧ Aside0 (wc.heap[gb358]? = some (.cells #[(.slice A0_0 l0_0.length c0_0), (.slice A0_1 l0_1.length c0_1), .int .i64 a0_2] 24 (0, 0))) ∧ Aside0 (wc.heap[gb375]? = some (.cells #[(.slice Ao22 t367.length co22), (.slice Ao25 t370.length co25), .int .i64 t373] 29 (0, 0))) ∧ Aside0 (wc.heap[gb383]? = some (.cells #[(.slice Ao29 t376.length co29), (.slice Ao33 t379.length co33), .int .i64 t382] 29 (0, 0))) ∧ Aside0 (wc.heap[gb392]? = some (.cells #[(.slice Ao36 t384.length co36), (.slice Ao41 t387.length co41), .int .i64 t390] 29 (0, 0))) ∧ Aside0 (Below w.heap.size w wc))
      case first =>
       have H := HC65.out
       clear HC65
       by_cases c76 : t402 < 0
       ·rw [if_pos c76] at H
        have c76b0 : decide (t402 < 0) = true := decide_eq_true c76
        clear c76
        (first | rw [c76b0] | (simp only [i64_w, i32_w]; rw [c76b0]) | skip)
        have H' := Aside0.mk H
        clear H
        go_wp2
        go_meet
        case rel => exact ⟨_, (true), (by first | rfl | (simp; done) | (simp [*]; done)), H', ⟨by have := HJ11.out; first | omega | exact Nat.le_refl _⟩, ⟨by (with_reducible repeat (first | apply Kd.R_alloc | apply Kd.R_drewN | apply Kd.R_drew)); exact Kd.R_mono HO_376000.out (fun _ hk => ⟨hk.1, ⟨hk.2.1, ⟨hk.2.2.1, ⟨hk.2.2.2.1, hk.2.2.2.2.1⟩⟩⟩⟩)⟩, ⟨by (with_reducible repeat (first | apply Kd.R_alloc | apply Kd.R_drewN | apply Kd.R_drew)); exact Kd.R_mono HO_376001.out (fun _ hk => ⟨hk.1, ⟨hk.2.1, ⟨hk.2.2.1, ⟨hk.2.2.2.1, hk.2.2.2.2.1⟩⟩⟩⟩)⟩, ⟨by (with_reducible repeat (first | apply Kd.R_alloc | apply Kd.R_drewN | apply Kd.R_drew)); exact Kd.R_mono HO_384000.out (fun _ hk => ⟨hk.1.1.1, ⟨hk.1.1.2.1, ⟨hk.1.1.2.2.1, ⟨hk.1.1.2.2.2.1, hk.1.1.2.2.2.2⟩⟩⟩⟩)⟩, ⟨by (with_reducible repeat (first | apply Kd.R_alloc | apply Kd.R_drewN | apply Kd.R_drew)); exact Kd.R_mono HO_384001.out (fun _ hk => ⟨hk.1.1.1, ⟨hk.1.1.2.1, ⟨hk.1.1.2.2.1, ⟨hk.1.1.2.2.2.1, hk.1.1.2.2.2.2⟩⟩⟩⟩)⟩, ⟨by (with_reducible repeat (first | apply Kd.R_alloc | apply Kd.R_drewN | apply Kd.R_drew)); exact Kd.R_mono HO_393000.out (fun _ hk => ⟨hk.1, ⟨hk.2.1, ⟨hk.2.2.1, ⟨hk.2.2.2.1, hk.2.2.2.2.1⟩⟩⟩⟩)⟩, ⟨by (with_reducible repeat (first | apply Kd.R_alloc | apply Kd.R_drewN | apply Kd.R_drew)); exact Kd.R_mono HO_393001.out (fun _ hk => ⟨hk.1, ⟨hk.2.1, ⟨hk.2.2.1, ⟨hk.2.2.2.1, hk.2.2.2.2.1⟩⟩⟩⟩)⟩, ⟨KK⟩, ⟨KK⟩, ⟨KK⟩, ⟨KK⟩, ⟨KB⟩⟩
       ·rw [if_neg c76] at H
        have c76b0 : decide (t402 < 0) = false := decide_eq_false c76
        clear c76
        (first | rw [c76b0] | (simp only [i64_w, i32_w]; rw [c76b0]) | skip)
        replace H := Option.bind_eq_some_iff.mp H
        obtain ⟨t405, A770, H⟩ := H
        replace H : (if t405 = true then (laws_FnExactStoreCrash.j1 kj11 a1 t374 (t391 != t374) l0_0 l0_1 a0_2 t367 t370 t373 t384 t387 t390) else (laws_FnExactStoreCrash.j1 kj11 a1 t374 true l0_0 l0_1 a0_2 t367 t370 t373 t384 t387 t390)) = some r := H
        have A77 := Aside0.mk A770
        clear A770
        by_cases c78 : t405 = true
        ·subst c78
         have H1 : (laws_FnExactStoreCrash.j1 kj11 a1 t374 (t391 != t374) l0_0 l0_1 a0_2 t367 t370 t373 t384 t387 t390) = some r := by rw [if_pos rfl] at H; exact H
         clear H
         have H := H1
         clear H1
         have H' := Aside0.mk H
         clear H
         have hnb79 := NB392_358.out
         have hnc79 := NB358_392.out
         have hnb80 := NB392_375.out
         have hnc80 := NB375_392.out
         have hnb81 := NB392_383.out
         have hnc81 := NB383_392.out
         have hcz82_0 : w75.cell? ⟨gb392, 0, none⟩ = some (.slice Ao36 t384.length co36) := (blk_cell BK392.out 0).trans rfl
         have hcz82_1 : w75.cell? ⟨gb392, 1, none⟩ = some (.slice Ao41 t387.length co41) := (blk_cell BK392.out 1).trans rfl
         have hcz82_2 : w75.cell? ⟨gb392, 2, none⟩ = some (.int .i64 t390) := (blk_cell BK392.out 2).trans rfl
         have hfz82_0 := blk_frozen BK392.out 0
         have hfz82_1 := blk_frozen BK392.out 1
         have hfz82_2 := blk_frozen BK392.out 2
         have hnb83 := NB375_358.out
         have hnc83 := NB358_375.out
         have hnb84 := NB375_383.out
         have hnc84 := NB383_375.out
         have hcz85_0 : w75.cell? ⟨gb375, 0, none⟩ = some (.slice Ao22 t367.length co22) := (blk_cell BK375.out 0).trans rfl
         have hcz85_1 : w75.cell? ⟨gb375, 1, none⟩ = some (.slice Ao25 t370.length co25) := (blk_cell BK375.out 1).trans rfl
         have hcz85_2 : w75.cell? ⟨gb375, 2, none⟩ = some (.int .i64 t373) := (blk_cell BK375.out 2).trans rfl
         have hfz85_0 := blk_frozen BK375.out 0
         have hfz85_1 := blk_frozen BK375.out 1
         have hfz85_2 := blk_frozen BK375.out 2
         go_wp2_with (first | (go_at_call 19; (with_reducible refine (laws_eqStore.calls kj11 _ _ t384 _ _ t387 t390 _ _ t367 _ _ t370 t373 true _ ?side1 ?side2 ?side3 ?side4 ?side5 ?side6 ?side7 ?side8 A77.out).mono ?_); (case side1 => repeat (first | exact (Kd.R_reads' HO_393000.out).2.2 | (with_reducible refine Kd.C_alloc ?_ _) | (with_reducible refine Kd.C_drewN ?_ _) | (with_reducible refine Kd.C_drew ?_))); (case side2 => exact (Kd.R_reads' HO_393000.out).2.1); (case side3 => repeat (first | exact (Kd.R_reads' HO_393001.out).2.2 | (with_reducible refine Kd.C_alloc ?_ _) | (with_reducible refine Kd.C_drewN ?_ _) | (with_reducible refine Kd.C_drew ?_))); (case side4 => exact (Kd.R_reads' HO_393001.out).2.1); (case side5 => repeat (first | exact (Kd.R_reads' HO_376000.out).2.2 | (with_reducible refine Kd.C_alloc ?_ _) | (with_reducible refine Kd.C_drewN ?_ _) | (with_reducible refine Kd.C_drew ?_))); (case side6 => exact (Kd.R_reads' HO_376000.out).2.1); (case side7 => repeat (first | exact (Kd.R_reads' HO_376001.out).2.2 | (with_reducible refine Kd.C_alloc ?_ _) | (with_reducible refine Kd.C_drewN ?_ _) | (with_reducible refine Kd.C_drew ?_))); (case side8 => exact (Kd.R_reads' HO_376001.out).2.1); rintro e w86 ⟨rfl, hb⟩; have n0_ := Aside0.mk (Kd.R_below (KR HO_376000.out) hb); have n1_ := Aside0.mk (Kd.R_below (KR HO_376001.out) hb); have n2_ := Aside0.mk (Kd.R_below (KR HO_384000.out) hb); have n3_ := Aside0.mk (Kd.R_below (KR HO_384001.out) hb); have n4_ := Aside0.mk (Kd.R_below (KR HO_393000.out) hb); have n5_ := Aside0.mk (Kd.R_below (KR HO_393001.out) hb); have n6_ := Aside0.mk (Kd.R_below (KR HO396.out) hb); have n7_ := Aside0.mk (Kd.R_below (KR HO399.out) hb); have n8_ := Aside0.mk (blk_below (g := gb358) (o := .cells #[.slice A0_0 l0_0.length c0_0, .slice A0_1 l0_1.length c0_1, .int .i64 a0_2] 24 (0, 0)) KK hb); have n9_ := Aside0.mk (blk_below (g := gb375) (o := .cells #[.slice Ao22 t367.length co22, .slice Ao25 t370.length co25, .int .i64 t373] 29 (0, 0)) KK hb); have n10_ := Aside0.mk (blk_below (g := gb383) (o := .cells #[.slice Ao29 t376.length co29, .slice Ao33 t379.length co33, .int .i64 t382] 29 (0, 0)) KK hb); have n11_ := Aside0.mk (blk_below (g := gb392) (o := .cells #[.slice Ao36 t384.length co36, .slice Ao41 t387.length co41, .int .i64 t390] 29 (0, 0)) KK hb); have n12_ := Aside0.mk (below_step KB hb); clear HO_376000; clear HO_376001; clear HO_384000; clear HO_384001; clear HO_393000; clear HO_393001; clear HO396; clear HO399; clear BK358; clear BK375; clear BK383; clear BK392; clear HB; have HO_376000 := n0_; have HO_376001 := n1_; have HO_384000 := n2_; have HO_384001 := n3_; have HO_393000 := n4_; have HO_393001 := n5_; have HO396 := n6_; have HO399 := n7_; have BK358 := n8_; have BK375 := n9_; have BK383 := n10_; have BK392 := n11_; have HB := n12_; clear n0_ n1_ n2_ n3_ n4_ n5_ n6_ n7_ n8_ n9_ n10_ n11_ n12_; (try clear hb); (try clear hb2); (try clear hk); (try clear hi)))
         go_meet
         case rel => exact ⟨_, ((t391 != t374)), (by first | rfl | (simp; done) | (simp [*]; done)), H', ⟨by have := HJ11.out; first | omega | exact Nat.le_refl _⟩, ⟨by (with_reducible repeat (first | apply Kd.R_alloc | apply Kd.R_drewN | apply Kd.R_drew)); exact Kd.R_mono HO_376000.out (fun _ hk => ⟨hk.1, ⟨hk.2.1, ⟨hk.2.2.1, ⟨hk.2.2.2.1, hk.2.2.2.2.1⟩⟩⟩⟩)⟩, ⟨by (with_reducible repeat (first | apply Kd.R_alloc | apply Kd.R_drewN | apply Kd.R_drew)); exact Kd.R_mono HO_376001.out (fun _ hk => ⟨hk.1, ⟨hk.2.1, ⟨hk.2.2.1, ⟨hk.2.2.2.1, hk.2.2.2.2.1⟩⟩⟩⟩)⟩, ⟨by (with_reducible repeat (first | apply Kd.R_alloc | apply Kd.R_drewN | apply Kd.R_drew)); exact Kd.R_mono HO_384000.out (fun _ hk => ⟨hk.1.1.1, ⟨hk.1.1.2.1, ⟨hk.1.1.2.2.1, ⟨hk.1.1.2.2.2.1, hk.1.1.2.2.2.2⟩⟩⟩⟩)⟩, ⟨by (with_reducible repeat (first | apply Kd.R_alloc | apply Kd.R_drewN | apply Kd.R_drew)); exact Kd.R_mono HO_384001.out (fun _ hk => ⟨hk.1.1.1, ⟨hk.1.1.2.1, ⟨hk.1.1.2.2.1, ⟨hk.1.1.2.2.2.1, hk.1.1.2.2.2.2⟩⟩⟩⟩)⟩, ⟨by (with_reducible repeat (first | apply Kd.R_alloc | apply Kd.R_drewN | apply Kd.R_drew)); exact Kd.R_mono HO_393000.out (fun _ hk => ⟨hk.1, ⟨hk.2.1, ⟨hk.2.2.1, ⟨hk.2.2.2.1, hk.2.2.2.2.1⟩⟩⟩⟩)⟩, ⟨by (with_reducible repeat (first | apply Kd.R_alloc | apply Kd.R_drewN | apply Kd.R_drew)); exact Kd.R_mono HO_393001.out (fun _ hk => ⟨hk.1, ⟨hk.2.1, ⟨hk.2.2.1, ⟨hk.2.2.2.1, hk.2.2.2.2.1⟩⟩⟩⟩)⟩, ⟨KK⟩, ⟨KK⟩, ⟨KK⟩, ⟨KK⟩, ⟨KB⟩⟩
        ·replace c78 := Bool.eq_false_iff.mpr c78
         subst c78
         have H1 : (laws_FnExactStoreCrash.j1 kj11 a1 t374 true l0_0 l0_1 a0_2 t367 t370 t373 t384 t387 t390) = some r := by rw [if_neg (show ¬ (false = true) by decide)] at H; exact H
         clear H
         have H := H1
         clear H1
         have H' := Aside0.mk H
         clear H
         have hnb87 := NB392_358.out
         have hnc87 := NB358_392.out
         have hnb88 := NB392_375.out
         have hnc88 := NB375_392.out
         have hnb89 := NB392_383.out
         have hnc89 := NB383_392.out
         have hcz90_0 : w75.cell? ⟨gb392, 0, none⟩ = some (.slice Ao36 t384.length co36) := (blk_cell BK392.out 0).trans rfl
         have hcz90_1 : w75.cell? ⟨gb392, 1, none⟩ = some (.slice Ao41 t387.length co41) := (blk_cell BK392.out 1).trans rfl
         have hcz90_2 : w75.cell? ⟨gb392, 2, none⟩ = some (.int .i64 t390) := (blk_cell BK392.out 2).trans rfl
         have hfz90_0 := blk_frozen BK392.out 0
         have hfz90_1 := blk_frozen BK392.out 1
         have hfz90_2 := blk_frozen BK392.out 2
         have hnb91 := NB375_358.out
         have hnc91 := NB358_375.out
         have hnb92 := NB375_383.out
         have hnc92 := NB383_375.out
         have hcz93_0 : w75.cell? ⟨gb375, 0, none⟩ = some (.slice Ao22 t367.length co22) := (blk_cell BK375.out 0).trans rfl
         have hcz93_1 : w75.cell? ⟨gb375, 1, none⟩ = some (.slice Ao25 t370.length co25) := (blk_cell BK375.out 1).trans rfl
         have hcz93_2 : w75.cell? ⟨gb375, 2, none⟩ = some (.int .i64 t373) := (blk_cell BK375.out 2).trans rfl
         have hfz93_0 := blk_frozen BK375.out 0
         have hfz93_1 := blk_frozen BK375.out 1
         have hfz93_2 := blk_frozen BK375.out 2
         go_wp2_with (first | (go_at_call 19; (with_reducible refine (laws_eqStore.calls kj11 _ _ t384 _ _ t387 t390 _ _ t367 _ _ t370 t373 false _ ?side1 ?side2 ?side3 ?side4 ?side5 ?side6 ?side7 ?side8 A77.out).mono ?_); (case side1 => repeat (first | exact (Kd.R_reads' HO_393000.out).2.2 | (with_reducible refine Kd.C_alloc ?_ _) | (with_reducible refine Kd.C_drewN ?_ _) | (with_reducible refine Kd.C_drew ?_))); (case side2 => exact (Kd.R_reads' HO_393000.out).2.1); (case side3 => repeat (first | exact (Kd.R_reads' HO_393001.out).2.2 | (with_reducible refine Kd.C_alloc ?_ _) | (with_reducible refine Kd.C_drewN ?_ _) | (with_reducible refine Kd.C_drew ?_))); (case side4 => exact (Kd.R_reads' HO_393001.out).2.1); (case side5 => repeat (first | exact (Kd.R_reads' HO_376000.out).2.2 | (with_reducible refine Kd.C_alloc ?_ _) | (with_reducible refine Kd.C_drewN ?_ _) | (with_reducible refine Kd.C_drew ?_))); (case side6 => exact (Kd.R_reads' HO_376000.out).2.1); (case side7 => repeat (first | exact (Kd.R_reads' HO_376001.out).2.2 | (with_reducible refine Kd.C_alloc ?_ _) | (with_reducible refine Kd.C_drewN ?_ _) | (with_reducible refine Kd.C_drew ?_))); (case side8 => exact (Kd.R_reads' HO_376001.out).2.1); rintro e w94 ⟨rfl, hb⟩; have n0_ := Aside0.mk (Kd.R_below (KR HO_376000.out) hb); have n1_ := Aside0.mk (Kd.R_below (KR HO_376001.out) hb); have n2_ := Aside0.mk (Kd.R_below (KR HO_384000.out) hb); have n3_ := Aside0.mk (Kd.R_below (KR HO_384001.out) hb); have n4_ := Aside0.mk (Kd.R_below (KR HO_393000.out) hb); have n5_ := Aside0.mk (Kd.R_below (KR HO_393001.out) hb); have n6_ := Aside0.mk (Kd.R_below (KR HO396.out) hb); have n7_ := Aside0.mk (Kd.R_below (KR HO399.out) hb); have n8_ := Aside0.mk (blk_below (g := gb358) (o := .cells #[.slice A0_0 l0_0.length c0_0, .slice A0_1 l0_1.length c0_1, .int .i64 a0_2] 24 (0, 0)) KK hb); have n9_ := Aside0.mk (blk_below (g := gb375) (o := .cells #[.slice Ao22 t367.length co22, .slice Ao25 t370.length co25, .int .i64 t373] 29 (0, 0)) KK hb); have n10_ := Aside0.mk (blk_below (g := gb383) (o := .cells #[.slice Ao29 t376.length co29, .slice Ao33 t379.length co33, .int .i64 t382] 29 (0, 0)) KK hb); have n11_ := Aside0.mk (blk_below (g := gb392) (o := .cells #[.slice Ao36 t384.length co36, .slice Ao41 t387.length co41, .int .i64 t390] 29 (0, 0)) KK hb); have n12_ := Aside0.mk (below_step KB hb); clear HO_376000; clear HO_376001; clear HO_384000; clear HO_384001; clear HO_393000; clear HO_393001; clear HO396; clear HO399; clear BK358; clear BK375; clear BK383; clear BK392; clear HB; have HO_376000 := n0_; have HO_376001 := n1_; have HO_384000 := n2_; have HO_384001 := n3_; have HO_393000 := n4_; have HO_393001 := n5_; have HO396 := n6_; have HO399 := n7_; have BK358 := n8_; have BK375 := n9_; have BK383 := n10_; have BK392 := n11_; have HB := n12_; clear n0_ n1_ n2_ n3_ n4_ n5_ n6_ n7_ n8_ n9_ n10_ n11_ n12_; (try clear hb); (try clear hb2); (try clear hk); (try clear hi)))
         go_meet
         case rel => exact ⟨_, (true), (by first | rfl | (simp; done) | (simp [*]; done)), H', ⟨by have := HJ11.out; first | omega | exact Nat.le_refl _⟩, ⟨by (with_reducible repeat (first | apply Kd.R_alloc | apply Kd.R_drewN | apply Kd.R_drew)); exact Kd.R_mono HO_376000.out (fun _ hk => ⟨hk.1, ⟨hk.2.1, ⟨hk.2.2.1, ⟨hk.2.2.2.1, hk.2.2.2.2.1⟩⟩⟩⟩)⟩, ⟨by (with_reducible repeat (first | apply Kd.R_alloc | apply Kd.R_drewN | apply Kd.R_drew)); exact Kd.R_mono HO_376001.out (fun _ hk => ⟨hk.1, ⟨hk.2.1, ⟨hk.2.2.1, ⟨hk.2.2.2.1, hk.2.2.2.2.1⟩⟩⟩⟩)⟩, ⟨by (with_reducible repeat (first | apply Kd.R_alloc | apply Kd.R_drewN | apply Kd.R_drew)); exact Kd.R_mono HO_384000.out (fun _ hk => ⟨hk.1.1.1, ⟨hk.1.1.2.1, ⟨hk.1.1.2.2.1, ⟨hk.1.1.2.2.2.1, hk.1.1.2.2.2.2⟩⟩⟩⟩)⟩, ⟨by (with_reducible repeat (first | apply Kd.R_alloc | apply Kd.R_drewN | apply Kd.R_drew)); exact Kd.R_mono HO_384001.out (fun _ hk => ⟨hk.1.1.1, ⟨hk.1.1.2.1, ⟨hk.1.1.2.2.1, ⟨hk.1.1.2.2.2.1, hk.1.1.2.2.2.2⟩⟩⟩⟩)⟩, ⟨by (with_reducible repeat (first | apply Kd.R_alloc | apply Kd.R_drewN | apply Kd.R_drew)); exact Kd.R_mono HO_393000.out (fun _ hk => ⟨hk.1, ⟨hk.2.1, ⟨hk.2.2.1, ⟨hk.2.2.2.1, hk.2.2.2.2.1⟩⟩⟩⟩)⟩, ⟨by (with_reducible repeat (first | apply Kd.R_alloc | apply Kd.R_drewN | apply Kd.R_drew)); exact Kd.R_mono HO_393001.out (fun _ hk => ⟨hk.1, ⟨hk.2.1, ⟨hk.2.2.1, ⟨hk.2.2.2.1, hk.2.2.2.2.1⟩⟩⟩⟩)⟩, ⟨KK⟩, ⟨KK⟩, ⟨KK⟩, ⟨KK⟩, ⟨KB⟩⟩
      case rest =>
       clear HC65
       try clear c1
       try clear c2
       try clear p2
       try clear c3
       try clear c4
       try clear c4b0
       try clear c5
       try clear c6
       try clear c7
       try clear c8
       try clear c9
       try clear c15
       try clear c17
       try clear c19
       try clear c23
       try clear c26
       try clear c30
       try clear c31
       try clear c37
       try clear c38
       try clear c39
       try clear c41
       try clear c42
       try clear c43
       try clear c44
       try clear c45
       try clear c46
       try clear c48
       try clear c49
       try clear c52
       try clear c53
       try clear c54
       try clear c56
       try clear c57
       try clear c60
       try clear c63
       try clear c71
       try clear c72
       try clear c73
       try clear c76
       try clear c76b0
       try clear c78
       try clear c79
       try clear c80
       try clear c81
       try clear c83
       try clear c84
       try clear c87
       try clear c88
       try clear c89
       try clear c91
       try clear c92
       try clear hcz14_0
       try clear hcz14_1
       try clear hcz14_2
       try clear hcz16_0
       try clear hcz16_1
       try clear hcz16_2
       try clear hcz24_0
       try clear hcz24_1
       try clear hcz24_2
       try clear hcz26_0
       try clear hcz26_1
       try clear hcz26_2
       try clear hcz32_0
       try clear hcz32_1
       try clear hcz32_2
       try clear hcz40_0
       try clear hcz40_1
       try clear hcz40_2
       try clear hcz47_0
       try clear hcz47_1
       try clear hcz47_2
       try clear hcz50_0
       try clear hcz50_1
       try clear hcz50_2
       try clear hcz55_0
       try clear hcz55_1
       try clear hcz55_2
       try clear hcz58_0
       try clear hcz58_1
       try clear hcz58_2
       try clear hcz6_0
       try clear hcz6_1
       try clear hcz6_2
       try clear hcz74_0
       try clear hcz74_1
       try clear hcz74_2
       try clear hcz82_0
       try clear hcz82_1
       try clear hcz82_2
       try clear hcz85_0
       try clear hcz85_1
       try clear hcz85_2
       try clear hcz90_0
       try clear hcz90_1
       try clear hcz90_2
       try clear hcz93_0
       try clear hcz93_1
       try clear hcz93_2
       try clear hfz14_0
       try clear hfz14_1
       try clear hfz14_2
       try clear hfz16_0
       try clear hfz16_1
       try clear hfz16_2
       try clear hfz24_0
       try clear hfz24_1
       try clear hfz24_2
       try clear hfz26_0
       try clear hfz26_1
       try clear hfz26_2
       try clear hfz32_0
       try clear hfz32_1
       try clear hfz32_2
       try clear hfz40_0
       try clear hfz40_1
       try clear hfz40_2
       try clear hfz47_0
       try clear hfz47_1
       try clear hfz47_2
       try clear hfz50_0
       try clear hfz50_1
       try clear hfz50_2
       try clear hfz55_0
       try clear hfz55_1
       try clear hfz55_2
       try clear hfz58_0
       try clear hfz58_1
       try clear hfz58_2
       try clear hfz6_0
       try clear hfz6_1
       try clear hfz6_2
       try clear hfz74_0
       try clear hfz74_1
       try clear hfz74_2
       try clear hfz82_0
       try clear hfz82_1
       try clear hfz82_2
       try clear hfz85_0
       try clear hfz85_1
       try clear hfz85_2
       try clear hfz90_0
       try clear hfz90_1
       try clear hfz90_2
       try clear hfz93_0
       try clear hfz93_1
       try clear hfz93_2
       try clear p2
       obtain ⟨kq, x65_64, rfl, HA, HJ64, HO_376000, HO_376001, HO_384000, HO_384001, HO_393000, HO_393001, BK358, BK375, BK383, BK392, HB⟩ := hcut
       have hl384000_64 := (Kd.R_reads' HO_384000.out).1
       rw [hl384000_64] at HO_384000
       (try simp only [hl384000_64])
       (try simp only [hl384000_64] at BK358)
       (try simp only [hl384000_64] at BK375)
       (try simp only [hl384000_64] at BK383)
       (try simp only [hl384000_64] at BK392)
       (try simp only [hl384000_64] at HO_376000)
       (try simp only [hl384000_64] at HO_376001)
       (try simp only [hl384000_64] at HO_384001)
       (try simp only [hl384000_64] at HO_393000)
       (try simp only [hl384000_64] at HO_393001)
       have hl384001_64 := (Kd.R_reads' HO_384001.out).1
       rw [hl384001_64] at HO_384001
       (try simp only [hl384001_64])
       (try simp only [hl384001_64] at BK358)
       (try simp only [hl384001_64] at BK375)
       (try simp only [hl384001_64] at BK383)
       (try simp only [hl384001_64] at BK392)
       (try simp only [hl384001_64] at HO_376000)
       (try simp only [hl384001_64] at HO_376001)
       (try simp only [hl384001_64] at HO_384000)
       (try simp only [hl384001_64] at HO_393000)
       (try simp only [hl384001_64] at HO_393001)
       cases kq with
       | zero => exact absurd HA.out (by simp [laws_FnExactStoreCrash.j1])
       | succ kj64 =>
        have H := HA.out
        clear HA
        simp only [laws_FnExactStoreCrash.j1] at H
        by_cases c95 : x65_64 = true
        ·subst c95
         have H1 : (none) = some r := by rw [if_pos rfl] at H; exact H
         clear H
         have H := H1
         clear H1
         exact absurd H (by simp)
        ·replace c95 := Bool.eq_false_iff.mpr c95
         subst c95
         have H1 : ((laws_markStore.f kj64 t384 t387 t390 1).bind fun bt406 => ((laws_heldStore.f kj64 bt406.2.1 bt406.2.2 t390 1).bind fun t409 => (if t409 < 0 then (none) else (if t409 = bt406.1 then ((laws_toStore.f kj64 l0_0 l0_1 a0_2).bind fun bt410 => ((impl_StoreCrash.f kj64 bt410.1 bt410.2.1 bt410.2.2 a1).bind fun bt417 => ((laws_eqStore.f kj64 bt417.1 bt417.2.1 bt417.2.2.1 t367 t370 t373).bind fun t426 => (if t426 = true then (laws_FnExactStoreCrash.j2 kj64 bt406.1 (bt417.2.2.2 != t374) bt406.2.1 bt406.2.2 t390) else (laws_FnExactStoreCrash.j2 kj64 bt406.1 true bt406.2.1 bt406.2.2 t390))))) else (none))))) = some r := by rw [if_neg (show ¬ (false = true) by decide)] at H; exact H
         clear H
         have H := H1
         clear H1
         replace H := Option.bind_eq_some_iff.mp H
         obtain ⟨⟨t406, t407, t408⟩, A960, H⟩ := H
         replace H : ((laws_heldStore.f kj64 t407 t408 t390 1).bind fun t409 => (if t409 < 0 then (none) else (if t409 = t406 then ((laws_toStore.f kj64 l0_0 l0_1 a0_2).bind fun bt410 => ((impl_StoreCrash.f kj64 bt410.1 bt410.2.1 bt410.2.2 a1).bind fun bt417 => ((laws_eqStore.f kj64 bt417.1 bt417.2.1 bt417.2.2.1 t367 t370 t373).bind fun t426 => (if t426 = true then (laws_FnExactStoreCrash.j2 kj64 t406 (bt417.2.2.2 != t374) t407 t408 t390) else (laws_FnExactStoreCrash.j2 kj64 t406 true t407 t408 t390))))) else (none)))) = some r := H
         have A96 := Aside0.mk A960
         clear A960
         replace H := Option.bind_eq_some_iff.mp H
         obtain ⟨t409, A970, H⟩ := H
         replace H : (if t409 < 0 then (none) else (if t409 = t406 then ((laws_toStore.f kj64 l0_0 l0_1 a0_2).bind fun bt410 => ((impl_StoreCrash.f kj64 bt410.1 bt410.2.1 bt410.2.2 a1).bind fun bt417 => ((laws_eqStore.f kj64 bt417.1 bt417.2.1 bt417.2.2.1 t367 t370 t373).bind fun t426 => (if t426 = true then (laws_FnExactStoreCrash.j2 kj64 t406 (bt417.2.2.2 != t374) t407 t408 t390) else (laws_FnExactStoreCrash.j2 kj64 t406 true t407 t408 t390))))) else (none))) = some r := H
         have A97 := Aside0.mk A970
         clear A970
         by_cases c98 : t409 < 0
         ·rw [if_pos c98] at H
          exact absurd H (by simp)
         ·rw [if_neg c98] at H
          have c98b0 : decide (t409 < 0) = false := decide_eq_false c98
          clear c98
          by_cases c99 : t409 = t406
          ·rw [if_pos c99] at H
           have c99b0 : (t409 == t406) = true := beq_iff_eq.mpr c99
           have c99b1 : (t409 != t406) = false := bne_eq_false_iff_eq.mpr c99
           clear c99
           replace H := Option.bind_eq_some_iff.mp H
           obtain ⟨⟨t410, t413, t416⟩, A1000, H⟩ := H
           replace H : ((impl_StoreCrash.f kj64 t410 t413 t416 a1).bind fun bt417 => ((laws_eqStore.f kj64 bt417.1 bt417.2.1 bt417.2.2.1 t367 t370 t373).bind fun t426 => (if t426 = true then (laws_FnExactStoreCrash.j2 kj64 t406 (bt417.2.2.2 != t374) t407 t408 t390) else (laws_FnExactStoreCrash.j2 kj64 t406 true t407 t408 t390)))) = some r := H
           have A100 := Aside0.mk A1000
           clear A1000
           replace H := Option.bind_eq_some_iff.mp H
           obtain ⟨⟨t417, t420, t423, t424⟩, A1010, H⟩ := H
           replace H : ((laws_eqStore.f kj64 t417 t420 t423 t367 t370 t373).bind fun t426 => (if t426 = true then (laws_FnExactStoreCrash.j2 kj64 t406 (t424 != t374) t407 t408 t390) else (laws_FnExactStoreCrash.j2 kj64 t406 true t407 t408 t390))) = some r := H
           have A101 := Aside0.mk A1010
           clear A1010
           have HC102 := Aside0.mk H
           clear H
           have hnb103 := NB392_358.out
           have hnc103 := NB358_392.out
           have hnb104 := NB392_375.out
           have hnc104 := NB375_392.out
           have hnb105 := NB392_383.out
           have hnc105 := NB383_392.out
           have hcz106_0 : wc.cell? ⟨gb392, 0, none⟩ = some (.slice Ao36 t384.length co36) := (blk_cell BK392.out 0).trans rfl
           have hcz106_1 : wc.cell? ⟨gb392, 1, none⟩ = some (.slice Ao41 t387.length co41) := (blk_cell BK392.out 1).trans rfl
           have hcz106_2 : wc.cell? ⟨gb392, 2, none⟩ = some (.int .i64 t390) := (blk_cell BK392.out 2).trans rfl
           have hfz106_0 := blk_frozen BK392.out 0
           have hfz106_1 := blk_frozen BK392.out 1
           have hfz106_2 := blk_frozen BK392.out 2
           go_upto_region 25 with (first | ((with_reducible refine gate_callee (f := 26) rfl ?_); refine goesL_ (some 68) rfl rfl Try.func26 (by kernel_rfl) rfl #[.agg #[.slice Ao36 t384.length co36, .slice Ao41 t387.length co41, .int .i64 t390], .int .i64 1] rfl KL ?_; (with_reducible refine (laws_markStore.calls kj64 (fun k_ => some k_ = (.slice Ao36 t384.length co36 : Value).ownBlock) (.slice Ao36 t384.length co36) t384 (fun k_ => some k_ = (.slice Ao41 t387.length co41 : Value).ownBlock) (.slice Ao41 t387.length co41) t387 t390 1 t406 t407 t408 w _ ?side1 ?side2 ?side3 ?side4 ?side5 A96.out).mono ?_); (case side1 => exact KB); (case side2 => exact Kd.R_tight rfl HO_393000.out); (case side3 => exact fun k_ e_ => (HO_393000.out.1 k_ e_.symm).2.2.2.2); (case side4 => exact Kd.R_tight rfl HO_393001.out); (case side5 => exact fun k_ e_ => (HO_393001.out.1 k_ e_.symm).2.2.2.2); rintro e w107 ⟨rfl, hy0, hy1, hb, hkp⟩; refine ⟨_, rfl, ?_⟩; have n0_ := Aside0.mk (Kd.R_mono (ok' := fun k_ => some k_ ≠ (.slice Ao25 t370.length co25 : Value).ownBlock ∧ some k_ ≠ (.slice Ao29 t403.length co29 : Value).ownBlock ∧ some k_ ≠ (.slice Ao33 t404.length co33 : Value).ownBlock ∧ some k_ ≠ (.slice Ao36 t384.length co36 : Value).ownBlock ∧ some k_ ≠ (.slice Ao41 t387.length co41 : Value).ownBlock) (Kd.R_keptB (HO_376000.out) hkp (fun k_ hk_ hs_ => Or.elim hs_ (fun e_ => (hk_.2.2.2.1) e_) (fun e_ => (hk_.2.2.2.2) e_))) (fun k_ hk_ => ⟨hk_.1.1, hk_.1.2.1, hk_.1.2.2.1, hk_.1.2.2.2.1, hk_.1.2.2.2.2⟩)); have n1_ := Aside0.mk (Kd.R_mono (ok' := fun k_ => some k_ ≠ (.slice Ao22 t367.length co22 : Value).ownBlock ∧ some k_ ≠ (.slice Ao29 t403.length co29 : Value).ownBlock ∧ some k_ ≠ (.slice Ao33 t404.length co33 : Value).ownBlock ∧ some k_ ≠ (.slice Ao36 t384.length co36 : Value).ownBlock ∧ some k_ ≠ (.slice Ao41 t387.length co41 : Value).ownBlock) (Kd.R_keptB (HO_376001.out) hkp (fun k_ hk_ hs_ => Or.elim hs_ (fun e_ => (hk_.2.2.2.1) e_) (fun e_ => (hk_.2.2.2.2) e_))) (fun k_ hk_ => ⟨hk_.1.1, hk_.1.2.1, hk_.1.2.2.1, hk_.1.2.2.2.1, hk_.1.2.2.2.2⟩)); have n2_ := Aside0.mk (Kd.R_mono (ok' := fun k_ => some k_ ≠ (.slice Ao22 t367.length co22 : Value).ownBlock ∧ some k_ ≠ (.slice Ao25 t370.length co25 : Value).ownBlock ∧ some k_ ≠ (.slice Ao33 t404.length co33 : Value).ownBlock ∧ some k_ ≠ (.slice Ao36 t384.length co36 : Value).ownBlock ∧ some k_ ≠ (.slice Ao41 t387.length co41 : Value).ownBlock) (Kd.R_keptB (HO_384000.out) hkp (fun k_ hk_ hs_ => Or.elim hs_ (fun e_ => (hk_.2.2.2.1) e_) (fun e_ => (hk_.2.2.2.2) e_))) (fun k_ hk_ => ⟨hk_.1.1, hk_.1.2.1, hk_.1.2.2.1, hk_.1.2.2.2.1, hk_.1.2.2.2.2⟩)); have n3_ := Aside0.mk (Kd.R_mono (ok' := fun k_ => some k_ ≠ (.slice Ao22 t367.length co22 : Value).ownBlock ∧ some k_ ≠ (.slice Ao25 t370.length co25 : Value).ownBlock ∧ some k_ ≠ (.slice Ao29 t403.length co29 : Value).ownBlock ∧ some k_ ≠ (.slice Ao36 t384.length co36 : Value).ownBlock ∧ some k_ ≠ (.slice Ao41 t387.length co41 : Value).ownBlock) (Kd.R_keptB (HO_384001.out) hkp (fun k_ hk_ hs_ => Or.elim hs_ (fun e_ => (hk_.2.2.2.1) e_) (fun e_ => (hk_.2.2.2.2) e_))) (fun k_ hk_ => ⟨hk_.1.1, hk_.1.2.1, hk_.1.2.2.1, hk_.1.2.2.2.1, hk_.1.2.2.2.2⟩)); have n4_ := Aside0.mk (Kd.R_reok rfl hy0 (fun k_ e_ => HO_393000.out.1 k_ e_)); have n5_ := Aside0.mk (Kd.R_reok rfl hy1 (fun k_ e_ => HO_393001.out.1 k_ e_)); have n6_ := Aside0.mk (blk_kept KK hkp (fun hs_ => Or.elim hs_ (fun e_ => (fun e_ => (Kd.R_ne HO_393000.out BK358.out (by decide)) e_) e_) (fun e_ => (fun e_ => (Kd.R_ne HO_393001.out BK358.out (by decide)) e_) e_))); have n7_ := Aside0.mk (blk_kept KK hkp (fun hs_ => Or.elim hs_ (fun e_ => (fun e_ => (Kd.R_ne HO_393000.out BK375.out (by decide)) e_) e_) (fun e_ => (fun e_ => (Kd.R_ne HO_393001.out BK375.out (by decide)) e_) e_))); have n8_ := Aside0.mk (blk_kept KK hkp (fun hs_ => Or.elim hs_ (fun e_ => (fun e_ => (Kd.R_ne HO_393000.out BK383.out (by decide)) e_) e_) (fun e_ => (fun e_ => (Kd.R_ne HO_393001.out BK383.out (by decide)) e_) e_))); have n9_ := Aside0.mk (blk_kept KK hkp (fun hs_ => Or.elim hs_ (fun e_ => (fun e_ => (Kd.R_ne HO_393000.out BK392.out (by decide)) e_) e_) (fun e_ => (fun e_ => (Kd.R_ne HO_393001.out BK392.out (by decide)) e_) e_))); have n10_ := Aside0.mk (hb); clear HO_376000; clear HO_376001; clear HO_384000; clear HO_384001; clear HO_393000; clear HO_393001; clear BK358; clear BK375; clear BK383; clear BK392; clear HB; have HO_376000 := n0_; have HO_376001 := n1_; have HO_384000 := n2_; have HO_384001 := n3_; have HO_393000 := n4_; have HO_393001 := n5_; have BK358 := n6_; have BK375 := n7_; have BK383 := n8_; have BK392 := n9_; have HB := n10_; clear n0_ n1_ n2_ n3_ n4_ n5_ n6_ n7_ n8_ n9_ n10_; (try clear hb); (try clear hkp); (try clear hy0); (try clear hy1); have hcz108_0 : w107.cell? ⟨gb392, 0, none⟩ = some (.slice Ao36 t384.length co36) := (blk_cell BK392.out 0).trans rfl; have hcz108_1 : w107.cell? ⟨gb392, 1, none⟩ = some (.slice Ao41 t387.length co41) := (blk_cell BK392.out 1).trans rfl; have hcz108_2 : w107.cell? ⟨gb392, 2, none⟩ = some (.int .i64 t390) := (blk_cell BK392.out 2).trans rfl; have hfz108_0 := blk_frozen BK392.out 0; have hfz108_1 := blk_frozen BK392.out 1; have hfz108_2 := blk_frozen BK392.out 2) | ((with_reducible refine gate_callee (f := 33) rfl ?_); refine goesL_ (some 71) rfl rfl Try.func33 (by kernel_rfl) rfl #[.agg #[.slice Ao36 t407.length co36, .slice Ao41 t408.length co41, .int .i64 t390], .int .i64 1] rfl (by (try simp only [List.map_toArray, List.map_cons, List.map_nil]); first | done | (rw [show t407.length = t384.length from (Kd.R_reads' HO_393000.out).1.symm, show t408.length = t387.length from (Kd.R_reads' HO_393001.out).1.symm] <;> rfl) | rfl | (simp only [List.length_drop, List.length_take]; rfl)) ?_; (with_reducible refine (laws_heldStore.calls kj64 _ _ t407 _ _ t408 t390 1 t409 _ ?side1 ?side2 ?side3 ?side4 A97.out).mono ?_); (case side1 => repeat (first | exact (Kd.R_reads' HO_393000.out).2.2 | (with_reducible refine Kd.C_alloc ?_ _) | (with_reducible refine Kd.C_drewN ?_ _) | (with_reducible refine Kd.C_drew ?_))); (case side2 => rw [show t407.length = t384.length from (Kd.R_reads' HO_393000.out).1.symm]; exact (Kd.R_reads' HO_393000.out).2.1); (case side3 => repeat (first | exact (Kd.R_reads' HO_393001.out).2.2 | (with_reducible refine Kd.C_alloc ?_ _) | (with_reducible refine Kd.C_drewN ?_ _) | (with_reducible refine Kd.C_drew ?_))); (case side4 => rw [show t408.length = t387.length from (Kd.R_reads' HO_393001.out).1.symm]; exact (Kd.R_reads' HO_393001.out).2.1); rintro e w109 ⟨rfl, hb⟩; refine ⟨_, rfl, ?_⟩; have n0_ := Aside0.mk (Kd.R_below (KR HO_376000.out) hb); have n1_ := Aside0.mk (Kd.R_below (KR HO_376001.out) hb); have n2_ := Aside0.mk (Kd.R_below (KR HO_384000.out) hb); have n3_ := Aside0.mk (Kd.R_below (KR HO_384001.out) hb); have n4_ := Aside0.mk (Kd.R_below (KR HO_393000.out) hb); have n5_ := Aside0.mk (Kd.R_below (KR HO_393001.out) hb); have n6_ := Aside0.mk (blk_below (g := gb358) (o := .cells #[.slice A0_0 l0_0.length c0_0, .slice A0_1 l0_1.length c0_1, .int .i64 a0_2] 24 (0, 0)) KK hb); have n7_ := Aside0.mk (blk_below (g := gb375) (o := .cells #[.slice Ao22 t367.length co22, .slice Ao25 t370.length co25, .int .i64 t373] 29 (0, 0)) KK hb); have n8_ := Aside0.mk (blk_below (g := gb383) (o := .cells #[.slice Ao29 t403.length co29, .slice Ao33 t404.length co33, .int .i64 t382] 29 (0, 0)) KK hb); have n9_ := Aside0.mk (blk_below (g := gb392) (o := .cells #[.slice Ao36 t384.length co36, .slice Ao41 t387.length co41, .int .i64 t390] 29 (0, 0)) KK hb); have n10_ := Aside0.mk (below_step KB hb); clear HO_376000; clear HO_376001; clear HO_384000; clear HO_384001; clear HO_393000; clear HO_393001; clear BK358; clear BK375; clear BK383; clear BK392; clear HB; have HO_376000 := n0_; have HO_376001 := n1_; have HO_384000 := n2_; have HO_384001 := n3_; have HO_393000 := n4_; have HO_393001 := n5_; have BK358 := n6_; have BK375 := n7_; have BK383 := n8_; have BK392 := n9_; have HB := n10_; clear n0_ n1_ n2_ n3_ n4_ n5_ n6_ n7_ n8_ n9_ n10_; (try clear hb); (try clear hb2); (try clear hk); (try clear hi); have hnb110 := NB358_375.out; have hnc110 := NB375_358.out; have hnb111 := NB358_383.out; have hnc111 := NB383_358.out; have hcz112_0 : w109.cell? ⟨gb358, 0, none⟩ = some (.slice A0_0 l0_0.length c0_0) := (blk_cell BK358.out 0).trans rfl; have hcz112_1 : w109.cell? ⟨gb358, 1, none⟩ = some (.slice A0_1 l0_1.length c0_1) := (blk_cell BK358.out 1).trans rfl; have hcz112_2 : w109.cell? ⟨gb358, 2, none⟩ = some (.int .i64 a0_2) := (blk_cell BK358.out 2).trans rfl; have hfz112_0 := blk_frozen BK358.out 0; have hfz112_1 := blk_frozen BK358.out 1; have hfz112_2 := blk_frozen BK358.out 2) | ((with_reducible refine gate_callee (f := 17) rfl ?_); refine goesL_ (some 79) rfl rfl Try.func17 (by kernel_rfl) rfl #[.agg #[.slice A0_0 l0_0.length c0_0, .slice A0_1 l0_1.length c0_1, .int .i64 a0_2]] rfl KL ?_; (with_reducible refine (laws_toStore.calls kj64 _ _ l0_0 _ _ l0_1 a0_2 t410 t413 t416 _ ?side1 ?side2 ?side3 ?side4 A100.out).mono ?_); (case side1 => exact KD (Kd.C_below HR0_0.out HB.out)); (case side2 => exact HC0_0.out); (case side3 => exact KD (Kd.C_below HR0_1.out HB.out)); (case side4 => exact HC0_1.out); rintro e w113 ⟨v411, v414, rfl, ho0, ho1, hb⟩; refine ⟨_, rfl, ?_⟩; have n0_ := Aside0.mk (Kd.R_mono (Kd.R_told (Kd.R_told (Kd.R_old (KR HO_376000.out) hb) (Kd.R_base ho0)) (Kd.R_base ho1)) (fun _ h_ => h_.1)); have n1_ := Aside0.mk (Kd.R_mono (Kd.R_told (Kd.R_told (Kd.R_old (KR HO_376001.out) hb) (Kd.R_base ho0)) (Kd.R_base ho1)) (fun _ h_ => h_.1)); have n2_ := Aside0.mk (Kd.R_mono (Kd.R_told (Kd.R_told (Kd.R_old (KR HO_384000.out) hb) (Kd.R_base ho0)) (Kd.R_base ho1)) (fun _ h_ => h_.1)); have n3_ := Aside0.mk (Kd.R_mono (Kd.R_told (Kd.R_told (Kd.R_old (KR HO_384001.out) hb) (Kd.R_base ho0)) (Kd.R_base ho1)) (fun _ h_ => h_.1)); have n4_ := Aside0.mk (Kd.R_mono (Kd.R_told (Kd.R_told (Kd.R_old (KR HO_393000.out) hb) (Kd.R_base ho0)) (Kd.R_base ho1)) (fun _ h_ => h_.1)); have n5_ := Aside0.mk (Kd.R_mono (Kd.R_told (Kd.R_told (Kd.R_old (KR HO_393001.out) hb) (Kd.R_base ho0)) (Kd.R_base ho1)) (fun _ h_ => h_.1)); have n6_ := Aside0.mk (Kd.R_lower (Kd.R_new' (Kd.R_new' (Kd.R_new' (Kd.R_new' (Kd.R_new' (Kd.R_new' ho0 (Kd.R_lt (KR HO_376000.out))) (Kd.R_lt (KR HO_376001.out))) (Kd.R_lt (KR HO_384000.out))) (Kd.R_lt (KR HO_384001.out))) (Kd.R_lt (KR HO_393000.out))) (Kd.R_lt (KR HO_393001.out))) (below_size KB)); have n7_ := Aside0.mk (Kd.R_lower (Kd.R_new' (Kd.R_new' (Kd.R_new' (Kd.R_new' (Kd.R_new' (Kd.R_new' ho1 (Kd.R_lt (KR HO_376000.out))) (Kd.R_lt (KR HO_376001.out))) (Kd.R_lt (KR HO_384000.out))) (Kd.R_lt (KR HO_384001.out))) (Kd.R_lt (KR HO_393000.out))) (Kd.R_lt (KR HO_393001.out))) (below_size KB)); have n8_ := Aside0.mk (blk_below (g := gb358) (o := .cells #[.slice A0_0 l0_0.length c0_0, .slice A0_1 l0_1.length c0_1, .int .i64 a0_2] 24 (0, 0)) KK hb); have n9_ := Aside0.mk (blk_below (g := gb375) (o := .cells #[.slice Ao22 t367.length co22, .slice Ao25 t370.length co25, .int .i64 t373] 29 (0, 0)) KK hb); have n10_ := Aside0.mk (blk_below (g := gb383) (o := .cells #[.slice Ao29 t403.length co29, .slice Ao33 t404.length co33, .int .i64 t382] 29 (0, 0)) KK hb); have n11_ := Aside0.mk (blk_below (g := gb392) (o := .cells #[.slice Ao36 t384.length co36, .slice Ao41 t387.length co41, .int .i64 t390] 29 (0, 0)) KK hb); have n12_ := Aside0.mk (below_step KB hb); clear HO_376000; clear HO_376001; clear HO_384000; clear HO_384001; clear HO_393000; clear HO_393001; clear BK358; clear BK375; clear BK383; clear BK392; clear HB; have HO_376000 := n0_; have HO_376001 := n1_; have HO_384000 := n2_; have HO_384001 := n3_; have HO_393000 := n4_; have HO_393001 := n5_; have HO412 := n6_; have HO415 := n7_; have BK358 := n8_; have BK375 := n9_; have BK383 := n10_; have BK392 := n11_; have HB := n12_; clear n0_ n1_ n2_ n3_ n4_ n5_ n6_ n7_ n8_ n9_ n10_ n11_ n12_; (try clear hb); (try clear hb2); (try clear hk); (try clear hi); (try clear ho0); (try clear ho1); obtain ⟨Ao114, co114, eo114⟩ := Kd.R_slice HO412.out; subst eo114; obtain ⟨Ao115, co115, eo115⟩ := Kd.R_slice HO415.out; subst eo115) | ((with_reducible refine gate_callee (f := 42) rfl ?_); refine goesL_ (some 81) rfl rfl Try.func42 (by kernel_rfl) rfl #[.agg #[.slice Ao114 t410.length co114, .slice Ao115 t413.length co115, .int .i64 t416], .int .i64 a1] rfl KL ?_; (with_reducible refine (impl_StoreCrash.calls kj64 _ _ t410 _ _ t413 t416 a1 t417 t420 t423 t424 _ ?side1 ?side2 ?side3 ?side4 A101.out).mono ?_); (case side1 => repeat (first | exact (Kd.R_reads' HO412.out).2.2 | (with_reducible refine Kd.C_alloc ?_ _) | (with_reducible refine Kd.C_drewN ?_ _) | (with_reducible refine Kd.C_drew ?_))); (case side2 => exact (Kd.R_reads' HO412.out).2.1); (case side3 => repeat (first | exact (Kd.R_reads' HO415.out).2.2 | (with_reducible refine Kd.C_alloc ?_ _) | (with_reducible refine Kd.C_drewN ?_ _) | (with_reducible refine Kd.C_drew ?_))); (case side4 => exact (Kd.R_reads' HO415.out).2.1); rintro e w116 ⟨v418, v421, rfl, ho0, ho1, hb⟩; refine ⟨_, rfl, ?_⟩; have n0_ := Aside0.mk (Kd.R_mono (Kd.R_told (Kd.R_told (Kd.R_old (KR HO_376000.out) hb) (Kd.R_base ho0)) (Kd.R_base ho1)) (fun _ h_ => h_.1)); have n1_ := Aside0.mk (Kd.R_mono (Kd.R_told (Kd.R_told (Kd.R_old (KR HO_376001.out) hb) (Kd.R_base ho0)) (Kd.R_base ho1)) (fun _ h_ => h_.1)); have n2_ := Aside0.mk (Kd.R_mono (Kd.R_told (Kd.R_told (Kd.R_old (KR HO_384000.out) hb) (Kd.R_base ho0)) (Kd.R_base ho1)) (fun _ h_ => h_.1)); have n3_ := Aside0.mk (Kd.R_mono (Kd.R_told (Kd.R_told (Kd.R_old (KR HO_384001.out) hb) (Kd.R_base ho0)) (Kd.R_base ho1)) (fun _ h_ => h_.1)); have n4_ := Aside0.mk (Kd.R_mono (Kd.R_told (Kd.R_told (Kd.R_old (KR HO_393000.out) hb) (Kd.R_base ho0)) (Kd.R_base ho1)) (fun _ h_ => h_.1)); have n5_ := Aside0.mk (Kd.R_mono (Kd.R_told (Kd.R_told (Kd.R_old (KR HO_393001.out) hb) (Kd.R_base ho0)) (Kd.R_base ho1)) (fun _ h_ => h_.1)); have n6_ := Aside0.mk (Kd.R_mono (Kd.R_told (Kd.R_told (Kd.R_old (KR HO412.out) hb) (Kd.R_base ho0)) (Kd.R_base ho1)) (fun _ h_ => h_.1)); have n7_ := Aside0.mk (Kd.R_mono (Kd.R_told (Kd.R_told (Kd.R_old (KR HO415.out) hb) (Kd.R_base ho0)) (Kd.R_base ho1)) (fun _ h_ => h_.1)); have n8_ := Aside0.mk (Kd.R_lower (Kd.R_new' (Kd.R_new' (Kd.R_new' (Kd.R_new' (Kd.R_new' (Kd.R_new' (Kd.R_new' (Kd.R_new' ho0 (Kd.R_lt (KR HO_376000.out))) (Kd.R_lt (KR HO_376001.out))) (Kd.R_lt (KR HO_384000.out))) (Kd.R_lt (KR HO_384001.out))) (Kd.R_lt (KR HO_393000.out))) (Kd.R_lt (KR HO_393001.out))) (Kd.R_lt (KR HO412.out))) (Kd.R_lt (KR HO415.out))) (below_size KB)); have n9_ := Aside0.mk (Kd.R_lower (Kd.R_new' (Kd.R_new' (Kd.R_new' (Kd.R_new' (Kd.R_new' (Kd.R_new' (Kd.R_new' (Kd.R_new' ho1 (Kd.R_lt (KR HO_376000.out))) (Kd.R_lt (KR HO_376001.out))) (Kd.R_lt (KR HO_384000.out))) (Kd.R_lt (KR HO_384001.out))) (Kd.R_lt (KR HO_393000.out))) (Kd.R_lt (KR HO_393001.out))) (Kd.R_lt (KR HO412.out))) (Kd.R_lt (KR HO415.out))) (below_size KB)); have n10_ := Aside0.mk (blk_below (g := gb358) (o := .cells #[.slice A0_0 l0_0.length c0_0, .slice A0_1 l0_1.length c0_1, .int .i64 a0_2] 24 (0, 0)) KK hb); have n11_ := Aside0.mk (blk_below (g := gb375) (o := .cells #[.slice Ao22 t367.length co22, .slice Ao25 t370.length co25, .int .i64 t373] 29 (0, 0)) KK hb); have n12_ := Aside0.mk (blk_below (g := gb383) (o := .cells #[.slice Ao29 t403.length co29, .slice Ao33 t404.length co33, .int .i64 t382] 29 (0, 0)) KK hb); have n13_ := Aside0.mk (blk_below (g := gb392) (o := .cells #[.slice Ao36 t384.length co36, .slice Ao41 t387.length co41, .int .i64 t390] 29 (0, 0)) KK hb); have n14_ := Aside0.mk (below_step KB hb); clear HO_376000; clear HO_376001; clear HO_384000; clear HO_384001; clear HO_393000; clear HO_393001; clear HO412; clear HO415; clear BK358; clear BK375; clear BK383; clear BK392; clear HB; have HO_376000 := n0_; have HO_376001 := n1_; have HO_384000 := n2_; have HO_384001 := n3_; have HO_393000 := n4_; have HO_393001 := n5_; have HO412 := n6_; have HO415 := n7_; have HO419 := n8_; have HO422 := n9_; have BK358 := n10_; have BK375 := n11_; have BK383 := n12_; have BK392 := n13_; have HB := n14_; clear n0_ n1_ n2_ n3_ n4_ n5_ n6_ n7_ n8_ n9_ n10_ n11_ n12_ n13_ n14_; (try clear hb); (try clear hb2); (try clear hk); (try clear hi); (try clear ho0); (try clear ho1)) | ((with_reducible refine gate_dst (N := 14) rfl ?_); refine box_event ?hg (N := 14) ?hd (cs := #[.slice none 0 0, .slice none 0 0, .int .i64 0]) (t := 29) ?hr ?_; (case hd => rfl); (case hg => rfl); (case hr => first | (go_simp; done) | (go_simp; rfl)); intro gb425 hg w117 hbox hb; have n0_ := Aside0.mk (Kd.R_below (KR HO_376000.out) hb); have n1_ := Aside0.mk (Kd.R_below (KR HO_376001.out) hb); have n2_ := Aside0.mk (Kd.R_below (KR HO_384000.out) hb); have n3_ := Aside0.mk (Kd.R_below (KR HO_384001.out) hb); have n4_ := Aside0.mk (Kd.R_below (KR HO_393000.out) hb); have n5_ := Aside0.mk (Kd.R_below (KR HO_393001.out) hb); have n6_ := Aside0.mk (Kd.R_below (KR HO412.out) hb); have n7_ := Aside0.mk (Kd.R_below (KR HO415.out) hb); have n8_ := Aside0.mk (Kd.R_below (KR HO419.out) hb); have n9_ := Aside0.mk (Kd.R_below (KR HO422.out) hb); have n10_ := Aside0.mk (blk_below (g := gb358) (o := .cells #[.slice A0_0 l0_0.length c0_0, .slice A0_1 l0_1.length c0_1, .int .i64 a0_2] 24 (0, 0)) KK hb); have n11_ := Aside0.mk (blk_below (g := gb375) (o := .cells #[.slice Ao22 t367.length co22, .slice Ao25 t370.length co25, .int .i64 t373] 29 (0, 0)) KK hb); have n12_ := Aside0.mk (blk_below (g := gb383) (o := .cells #[.slice Ao29 t403.length co29, .slice Ao33 t404.length co33, .int .i64 t382] 29 (0, 0)) KK hb); have n13_ := Aside0.mk (blk_below (g := gb392) (o := .cells #[.slice Ao36 t384.length co36, .slice Ao41 t387.length co41, .int .i64 t390] 29 (0, 0)) KK hb); have n14_ := Aside0.mk (below_step KB hb); have n15_ := Aside0.mk (hbox); have n16_ := Aside0.mk ((by rw [hg]; exact (below_size KB) : w.heap.size ≤ gb425)); have n17_ := Aside0.mk ((by rw [hg]; exact (below_size KB) : w.heap.size ≤ gb425)); have n18_ := Aside0.mk ((by rw [hg]; exact Nat.ne_of_lt (blk_lt (g := gb358) (o := .cells #[.slice A0_0 l0_0.length c0_0, .slice A0_1 l0_1.length c0_1, .int .i64 a0_2] 24 (0, 0)) KK) : gb358 ≠ gb425)); have n19_ := Aside0.mk ((by rw [hg]; exact Nat.ne_of_gt (blk_lt (g := gb358) (o := .cells #[.slice A0_0 l0_0.length c0_0, .slice A0_1 l0_1.length c0_1, .int .i64 a0_2] 24 (0, 0)) KK) : gb425 ≠ gb358)); have n20_ := Aside0.mk ((by rw [hg]; exact Nat.ne_of_lt (blk_lt (g := gb375) (o := .cells #[.slice Ao22 t367.length co22, .slice Ao25 t370.length co25, .int .i64 t373] 29 (0, 0)) KK) : gb375 ≠ gb425)); have n21_ := Aside0.mk ((by rw [hg]; exact Nat.ne_of_gt (blk_lt (g := gb375) (o := .cells #[.slice Ao22 t367.length co22, .slice Ao25 t370.length co25, .int .i64 t373] 29 (0, 0)) KK) : gb425 ≠ gb375)); have n22_ := Aside0.mk ((by rw [hg]; exact Nat.ne_of_lt (blk_lt (g := gb383) (o := .cells #[.slice Ao29 t403.length co29, .slice Ao33 t404.length co33, .int .i64 t382] 29 (0, 0)) KK) : gb383 ≠ gb425)); have n23_ := Aside0.mk ((by rw [hg]; exact Nat.ne_of_gt (blk_lt (g := gb383) (o := .cells #[.slice Ao29 t403.length co29, .slice Ao33 t404.length co33, .int .i64 t382] 29 (0, 0)) KK) : gb425 ≠ gb383)); have n24_ := Aside0.mk ((by rw [hg]; exact Nat.ne_of_lt (blk_lt (g := gb392) (o := .cells #[.slice Ao36 t384.length co36, .slice Ao41 t387.length co41, .int .i64 t390] 29 (0, 0)) KK) : gb392 ≠ gb425)); have n25_ := Aside0.mk ((by rw [hg]; exact Nat.ne_of_gt (blk_lt (g := gb392) (o := .cells #[.slice Ao36 t384.length co36, .slice Ao41 t387.length co41, .int .i64 t390] 29 (0, 0)) KK) : gb425 ≠ gb392)); clear HO_376000; clear HO_376001; clear HO_384000; clear HO_384001; clear HO_393000; clear HO_393001; clear HO412; clear HO415; clear HO419; clear HO422; clear BK358; clear BK375; clear BK383; clear BK392; clear HB; have HO_376000 := n0_; have HO_376001 := n1_; have HO_384000 := n2_; have HO_384001 := n3_; have HO_393000 := n4_; have HO_393001 := n5_; have HO412 := n6_; have HO415 := n7_; have HO419 := n8_; have HO422 := n9_; have BK358 := n10_; have BK375 := n11_; have BK383 := n12_; have BK392 := n13_; have HB := n14_; have BK425 := n15_; have GW425 := n16_; have GE425 := n17_; have NB358_425 := n18_; have NB425_358 := n19_; have NB375_425 := n20_; have NB425_375 := n21_; have NB383_425 := n22_; have NB425_383 := n23_; have NB392_425 := n24_; have NB425_392 := n25_; clear n0_ n1_ n2_ n3_ n4_ n5_ n6_ n7_ n8_ n9_ n10_ n11_ n12_ n13_ n14_ n15_ n16_ n17_ n18_ n19_ n20_ n21_ n22_ n23_ n24_ n25_; clear hb hbox hg; obtain ⟨Ao118, co118, eo118⟩ := Kd.R_slice HO419.out; subst eo118; have hnb119 := NB425_358.out; have hnc119 := NB358_425.out; have hnb120 := NB425_375.out; have hnc120 := NB375_425.out; have hnb121 := NB425_383.out; have hnc121 := NB383_425.out; have hnb122 := NB425_392.out; have hnc122 := NB392_425.out; have hcz123_0 : w117.cell? ⟨gb425, 0, none⟩ = some (.slice none 0 0) := (blk_cell BK425.out 0).trans rfl; have hcz123_1 : w117.cell? ⟨gb425, 1, none⟩ = some (.slice none 0 0) := (blk_cell BK425.out 1).trans rfl; have hcz123_2 : w117.cell? ⟨gb425, 2, none⟩ = some (.int .i64 0) := (blk_cell BK425.out 2).trans rfl; have hfz123_0 := blk_frozen BK425.out 0; have hfz123_1 := blk_frozen BK425.out 1; have hfz123_2 := blk_frozen BK425.out 2; obtain ⟨Ao124, co124, eo124⟩ := Kd.R_slice HO422.out; subst eo124))
           (try simp only [Act.put, List.setIfInBounds_toArray, List.set_cons_zero, List.set_cons_succ])
           go_cut [92] (fun v92 wc => ∃ (kq : Nat) (x92_101 : Bool), v92 = .bool x92_101 ∧ Aside0 (laws_FnExactStoreCrash.j2 kq t406 x92_101 t407 t408 t390 = some r) ∧ Aside0 (kq ≤ kj64) ∧ Aside0 (Kd.R k34 34 wc w.heap.size (fun k_ => some k_ ≠ ((.slice Ao25 t370.length co25) : Value).ownBlock ∧ some k_ ≠ ((.slice Ao29 t403.length co29) : Value).ownBlock ∧ some k_ ≠ ((.slice Ao33 t404.length co33) : Value).ownBlock ∧ some k_ ≠ ((.slice Ao36 t384.length co36) : Value).ownBlock ∧ some k_ ≠ ((.slice Ao41 t387.length co41) : Value).ownBlock ∧ some k_ ≠ ((.slice Ao118 t417.length co118) : Value).ownBlock ∧ some k_ ≠ ((.slice Ao124 t420.length co124) : Value).ownBlock) (.slice Ao22 t367.length co22) t367) ∧ Aside0 (Kd.R k34 34 wc w.heap.size (fun k_ => some k_ ≠ ((.slice Ao22 t367.length co22) : Value).ownBlock ∧ some k_ ≠ ((.slice Ao29 t403.length co29) : Value).ownBlock ∧ some k_ ≠ ((.slice Ao33 t404.length co33) : Value).ownBlock ∧ some k_ ≠ ((.slice Ao36 t384.length co36) : Value).ownBlock ∧ some k_ ≠ ((.slice Ao41 t387.length co41) : Value).ownBlock ∧ some k_ ≠ ((.slice Ao118 t417.length co118) : Value).ownBlock ∧ some k_ ≠ ((.slice Ao124 t420.length co124) : Value).ownBlock) (.slice Ao25 t370.length co25) t370) ∧ Aside0 (Kd.R k34 34 wc w.heap.size (fun k_ => some k_ ≠ ((.slice Ao22 t367.length co22) : Value).ownBlock ∧ some k_ ≠ ((.slice Ao25 t370.length co25) : Value).ownBlock ∧ some k_ ≠ ((.slice Ao33 t404.length co33) : Value).ownBlock ∧ some k_ ≠ ((.slice Ao36 t384.length co36) : Value).ownBlock ∧ some k_ ≠ ((.slice Ao41 t387.length co41) : Value).ownBlock ∧ some k_ ≠ ((.slice Ao118 t417.length co118) : Value).ownBlock ∧ some k_ ≠ ((.slice Ao124 t420.length co124) : Value).ownBlock) (.slice Ao29 t403.length co29) t403) ∧ Aside0 (Kd.R k34 34 wc w.heap.size (fun k_ => some k_ ≠ ((.slice Ao22 t367.length co22) : Value).ownBlock ∧ some k_ ≠ ((.slice Ao25 t370.length co25) : Value).ownBlock ∧ some k_ ≠ ((.slice Ao29 t403.length co29) : Value).ownBlock ∧ some k_ ≠ ((.slice Ao36 t384.length co36) : Value).ownBlock ∧ some k_ ≠ ((.slice Ao41 t387.length co41) : Value).ownBlock ∧ some k_ ≠ ((.slice Ao118 t417.length co118) : Value).ownBlock ∧ some k_ ≠ ((.slice Ao124 t420.length co124) : Value).ownBlock) (.slice Ao33 t404.length co33) t404) ∧ Aside0 (Kd.R k34 34 wc w.heap.size (fun k_ => some k_ ≠ ((.slice Ao22 t367.length co22) : Value).ownBlock ∧ some k_ ≠ ((.slice Ao25 t370.length co25) : Value).ownBlock ∧ some k_ ≠ ((.slice Ao29 t403.length co29) : Value).ownBlock ∧ some k_ ≠ ((.slice Ao33 t404.length co33) : Value).ownBlock ∧ some k_ ≠ ((.slice Ao41 t387.length co41) : Value).ownBlock ∧ some k_ ≠ ((.slice Ao118 t417.length co118) : Value).ownBlock ∧ some k_ ≠ ((.slice Ao124 t420.length co124) : Value).ownBlock) (.slice Ao36 t384.length co36) t407) ∧ Aside0 (Kd.R k34 34 wc w.heap.size (fun k_ => some k_ ≠ ((.slice Ao22 t367.length co22) : Value).ownBlock ∧ some k_ ≠ ((.slice Ao25 t370.length co25) : Value).ownBlock ∧ some k_ ≠ ((.slice Ao29 t403.length co29) : Value).ownBlock ∧ some k_ ≠ ((.slice Ao33 t404.length co33) : Value).ownBlock ∧ some k_ ≠ ((.slice Ao36 t384.length co36) : Value).ownBlock ∧ some k_ ≠ ((.slice Ao118 t417.length co118) : Value).ownBlock ∧ some k_ ≠ ((.slice Ao124 t420.length co124) : Value).ownBlock) (.slice Ao41 t387.length co41) t408) ∧ Aside0 (Kd.R k34 34 wc w.heap.size (fun k_ => some k_ ≠ ((.slice Ao22 t367.length co22) : Value).ownBlock ∧ some k_ ≠ ((.slice Ao25 t370.length co25) : Value).ownBlock ∧ some k_ ≠ ((.slice Ao29 t403.length co29) : Value).ownBlock ∧ some k_ ≠ ((.slice Ao33 t404.length co33) : Value).ownBlock ∧ some k_ ≠ ((.slice Ao36 t384.length co36) : Value).ownBlock ∧ some k_ ≠ ((.slice Ao41 t387.length co41) : Value).ownBlock ∧ some k_ ≠ ((.slice Ao124 t420.length co124) : Value).ownBlock) (.slice Ao118 t417.length co118) t417) ∧ Aside0 (Kd.R k34 34 wc w.heap.size (fun k_ => some k_ ≠ ((.slice Ao22 t367.length co22) : Value).ownBlock ∧ some k_ ≠ ((.slice Ao25 t370.length co25) : Value).ownBlock ∧ some k_ ≠ ((.slice Ao29 t403.length co29) : Value).ownBlock ∧ some k_ ≠ ((.slice Ao33 t404.length co33) : Value).ownBlock ∧ some k_ ≠ ((.slice Ao36 t384.length co36) : Value).ownBlock ∧ some k_ ≠ ((.slice Ao41 t387.length co41) : Value).ownBlock ∧ some k_ ≠ ((.slice Ao118 t417.length co118) : Value).ownBlock) (.slice Ao124 t420.length co124) t420) ∧ Aside0 (wc.heap[gb358]? = some (.cells #[(.slice A0_0 l0_0.length c0_0), (.slice A0_1 l0_1.length c0_1), .int .i64 a0_2] 24 (0, 0))) ∧ Aside0 (wc.heap[gb375]? = some (.cells #[(.slice Ao22 t367.length co22), (.slice Ao25 t370.length co25), .int .i64 t373] 29 (0, 0))) ∧ Aside0 (wc.heap[gb383]? = some (.cells #[(.slice Ao29 t403.length co29), (.slice Ao33 t404.length co33), .int .i64 t382] 29 (0, 0))) ∧ Aside0 (wc.heap[gb392]? = some (.cells #[(.slice Ao36 t384.length co36), (.slice Ao41 t387.length co41), .int .i64 t390] 29 (0, 0))) ∧ Aside0 (wc.heap[gb425]? = some (.cells #[(.slice Ao118 t417.length co118), (.slice Ao124 t420.length co124), .int .i64 t423] 29 (0, 0))) ∧ Aside0 (Below w.heap.size w wc))
           case first =>
            have H := HC102.out
            clear HC102
            replace H := Option.bind_eq_some_iff.mp H
            obtain ⟨t426, A1250, H⟩ := H
            replace H : (if t426 = true then (laws_FnExactStoreCrash.j2 kj64 t406 (t424 != t374) t407 t408 t390) else (laws_FnExactStoreCrash.j2 kj64 t406 true t407 t408 t390)) = some r := H
            have A125 := Aside0.mk A1250
            clear A1250
            by_cases c126 : t426 = true
            ·subst c126
             have H1 : (laws_FnExactStoreCrash.j2 kj64 t406 (t424 != t374) t407 t408 t390) = some r := by rw [if_pos rfl] at H; exact H
             clear H
             have H := H1
             clear H1
             have H' := Aside0.mk H
             clear H
             have hnb127 := NB425_358.out
             have hnc127 := NB358_425.out
             have hnb128 := NB425_375.out
             have hnc128 := NB375_425.out
             have hnb129 := NB425_383.out
             have hnc129 := NB383_425.out
             have hnb130 := NB425_392.out
             have hnc130 := NB392_425.out
             have hcz131_0 : w117.cell? ⟨gb425, 0, none⟩ = some (.slice none 0 0) := (blk_cell BK425.out 0).trans rfl
             have hcz131_1 : w117.cell? ⟨gb425, 1, none⟩ = some (.slice none 0 0) := (blk_cell BK425.out 1).trans rfl
             have hcz131_2 : w117.cell? ⟨gb425, 2, none⟩ = some (.int .i64 0) := (blk_cell BK425.out 2).trans rfl
             have hfz131_0 := blk_frozen BK425.out 0
             have hfz131_1 := blk_frozen BK425.out 1
             have hfz131_2 := blk_frozen BK425.out 2
             have hnb132 := NB375_358.out
             have hnc132 := NB358_375.out
             have hnb133 := NB375_383.out
             have hnc133 := NB383_375.out
             have hnb134 := NB375_392.out
             have hnc134 := NB392_375.out
             have hcz135_0 : w117.cell? ⟨gb375, 0, none⟩ = some (.slice Ao22 t367.length co22) := (blk_cell BK375.out 0).trans rfl
             have hcz135_1 : w117.cell? ⟨gb375, 1, none⟩ = some (.slice Ao25 t370.length co25) := (blk_cell BK375.out 1).trans rfl
             have hcz135_2 : w117.cell? ⟨gb375, 2, none⟩ = some (.int .i64 t373) := (blk_cell BK375.out 2).trans rfl
             have hfz135_0 := blk_frozen BK375.out 0
             have hfz135_1 := blk_frozen BK375.out 1
             have hfz135_2 := blk_frozen BK375.out 2
             go_wp2_with (first | ((with_reducible refine gate_callee (f := 19) rfl ?_); refine goesL_ (some 86) rfl rfl Try.func19 (by kernel_rfl) rfl #[.agg #[.slice Ao118 t417.length co118, .slice Ao124 t420.length co124, .int .i64 t423], .agg #[.slice Ao22 t367.length co22, .slice Ao25 t370.length co25, .int .i64 t373]] rfl KL ?_; (with_reducible refine (laws_eqStore.calls kj64 _ _ t417 _ _ t420 t423 _ _ t367 _ _ t370 t373 true _ ?side1 ?side2 ?side3 ?side4 ?side5 ?side6 ?side7 ?side8 A125.out).mono ?_); (case side1 => refine (Kd.R_reads' (e := 34) (base := w.heap.size) (ok := fun k_ => ((((((((some k_ ≠ (.slice Ao124 t420.length co124 : Value).ownBlock ∧ some k_ ≠ (.slice Ao22 t367.length co22 : Value).ownBlock) ∧ some k_ ≠ (.slice Ao25 t370.length co25 : Value).ownBlock) ∧ some k_ ≠ (.slice Ao29 t403.length co29 : Value).ownBlock) ∧ some k_ ≠ (.slice Ao33 t404.length co33 : Value).ownBlock) ∧ some k_ ≠ (.slice Ao36 t384.length co36 : Value).ownBlock) ∧ some k_ ≠ (.slice Ao41 t387.length co41 : Value).ownBlock) ∧ some k_ ≠ (.slice Ao114 t410.length co114 : Value).ownBlock) ∧ some k_ ≠ (.slice Ao115 t413.length co115 : Value).ownBlock)) (n := t417.length) (c := co118) ?_).2.2; exact (by (with_reducible repeat (first | apply Kd.R_alloc | apply Kd.R_drewN | apply Kd.R_drew)); exact (Kd.R_mono (Kd.R_far (p := ⟨gb425, 2, none⟩) (Kd.R_far (p := ⟨gb425, 1, none⟩) (Kd.R_far (p := ⟨gb425, 0, none⟩) (Kd.R_types HO419.out BK425.out (by decide)) (fun _ hk => hk.2) (.slice Ao118 t417.length co118)) (fun _ hk => hk.2) (.slice Ao124 t420.length co124)) (fun _ hk => hk.2) (.int .i64 t423)) (fun _ h_ => h_.1)))); (case side2 => exact (Kd.R_reads' HO419.out).2.1); (case side3 => refine (Kd.R_reads' (e := 34) (base := w.heap.size) (ok := fun k_ => ((((((((some k_ ≠ (.slice Ao118 t417.length co118 : Value).ownBlock ∧ some k_ ≠ (.slice Ao22 t367.length co22 : Value).ownBlock) ∧ some k_ ≠ (.slice Ao25 t370.length co25 : Value).ownBlock) ∧ some k_ ≠ (.slice Ao29 t403.length co29 : Value).ownBlock) ∧ some k_ ≠ (.slice Ao33 t404.length co33 : Value).ownBlock) ∧ some k_ ≠ (.slice Ao36 t384.length co36 : Value).ownBlock) ∧ some k_ ≠ (.slice Ao41 t387.length co41 : Value).ownBlock) ∧ some k_ ≠ (.slice Ao114 t410.length co114 : Value).ownBlock) ∧ some k_ ≠ (.slice Ao115 t413.length co115 : Value).ownBlock)) (n := t420.length) (c := co124) ?_).2.2; exact (by (with_reducible repeat (first | apply Kd.R_alloc | apply Kd.R_drewN | apply Kd.R_drew)); exact (Kd.R_mono (Kd.R_far (p := ⟨gb425, 2, none⟩) (Kd.R_far (p := ⟨gb425, 1, none⟩) (Kd.R_far (p := ⟨gb425, 0, none⟩) (Kd.R_types HO422.out BK425.out (by decide)) (fun _ hk => hk.2) (.slice Ao118 t417.length co118)) (fun _ hk => hk.2) (.slice Ao124 t420.length co124)) (fun _ hk => hk.2) (.int .i64 t423)) (fun _ h_ => h_.1)))); (case side4 => exact (Kd.R_reads' HO422.out).2.1); (case side5 => refine (Kd.R_reads' (e := 34) (base := w.heap.size) (ok := fun k_ => (((((some k_ ≠ (.slice Ao25 t370.length co25 : Value).ownBlock ∧ (some k_ ≠ (.slice Ao29 t403.length co29 : Value).ownBlock ∧ (some k_ ≠ (.slice Ao33 t404.length co33 : Value).ownBlock ∧ (some k_ ≠ (.slice Ao36 t384.length co36 : Value).ownBlock ∧ some k_ ≠ (.slice Ao41 t387.length co41 : Value).ownBlock)))) ∧ some k_ ≠ (.slice Ao114 t410.length co114 : Value).ownBlock) ∧ some k_ ≠ (.slice Ao115 t413.length co115 : Value).ownBlock) ∧ some k_ ≠ (.slice Ao118 t417.length co118 : Value).ownBlock) ∧ some k_ ≠ (.slice Ao124 t420.length co124 : Value).ownBlock)) (n := t367.length) (c := co22) ?_).2.2; exact (by (with_reducible repeat (first | apply Kd.R_alloc | apply Kd.R_drewN | apply Kd.R_drew)); exact (Kd.R_mono (Kd.R_far (p := ⟨gb425, 2, none⟩) (Kd.R_far (p := ⟨gb425, 1, none⟩) (Kd.R_far (p := ⟨gb425, 0, none⟩) (Kd.R_types HO_376000.out BK425.out (by decide)) (fun _ hk => hk.2) (.slice Ao118 t417.length co118)) (fun _ hk => hk.2) (.slice Ao124 t420.length co124)) (fun _ hk => hk.2) (.int .i64 t423)) (fun _ h_ => h_.1)))); (case side6 => exact (Kd.R_reads' HO_376000.out).2.1); (case side7 => refine (Kd.R_reads' (e := 34) (base := w.heap.size) (ok := fun k_ => (((((some k_ ≠ (.slice Ao22 t367.length co22 : Value).ownBlock ∧ (some k_ ≠ (.slice Ao29 t403.length co29 : Value).ownBlock ∧ (some k_ ≠ (.slice Ao33 t404.length co33 : Value).ownBlock ∧ (some k_ ≠ (.slice Ao36 t384.length co36 : Value).ownBlock ∧ some k_ ≠ (.slice Ao41 t387.length co41 : Value).ownBlock)))) ∧ some k_ ≠ (.slice Ao114 t410.length co114 : Value).ownBlock) ∧ some k_ ≠ (.slice Ao115 t413.length co115 : Value).ownBlock) ∧ some k_ ≠ (.slice Ao118 t417.length co118 : Value).ownBlock) ∧ some k_ ≠ (.slice Ao124 t420.length co124 : Value).ownBlock)) (n := t370.length) (c := co25) ?_).2.2; exact (by (with_reducible repeat (first | apply Kd.R_alloc | apply Kd.R_drewN | apply Kd.R_drew)); exact (Kd.R_mono (Kd.R_far (p := ⟨gb425, 2, none⟩) (Kd.R_far (p := ⟨gb425, 1, none⟩) (Kd.R_far (p := ⟨gb425, 0, none⟩) (Kd.R_types HO_376001.out BK425.out (by decide)) (fun _ hk => hk.2) (.slice Ao118 t417.length co118)) (fun _ hk => hk.2) (.slice Ao124 t420.length co124)) (fun _ hk => hk.2) (.int .i64 t423)) (fun _ h_ => h_.1)))); (case side8 => exact (Kd.R_reads' HO_376001.out).2.1); rintro e w136 ⟨rfl, hb⟩; refine ⟨_, rfl, ?_⟩; have n0_ := Aside0.mk (Kd.R_below (by (with_reducible repeat (first | apply Kd.R_alloc | apply Kd.R_drewN | apply Kd.R_drew)); exact (Kd.R_mono (Kd.R_far (p := ⟨gb425, 2, none⟩) (Kd.R_far (p := ⟨gb425, 1, none⟩) (Kd.R_far (p := ⟨gb425, 0, none⟩) (Kd.R_types HO_376000.out BK425.out (by decide)) (fun _ hk => hk.2) (.slice Ao118 t417.length co118)) (fun _ hk => hk.2) (.slice Ao124 t420.length co124)) (fun _ hk => hk.2) (.int .i64 t423)) (fun _ h_ => h_.1))) hb); have n1_ := Aside0.mk (Kd.R_below (by (with_reducible repeat (first | apply Kd.R_alloc | apply Kd.R_drewN | apply Kd.R_drew)); exact (Kd.R_mono (Kd.R_far (p := ⟨gb425, 2, none⟩) (Kd.R_far (p := ⟨gb425, 1, none⟩) (Kd.R_far (p := ⟨gb425, 0, none⟩) (Kd.R_types HO_376001.out BK425.out (by decide)) (fun _ hk => hk.2) (.slice Ao118 t417.length co118)) (fun _ hk => hk.2) (.slice Ao124 t420.length co124)) (fun _ hk => hk.2) (.int .i64 t423)) (fun _ h_ => h_.1))) hb); have n2_ := Aside0.mk (Kd.R_below (by (with_reducible repeat (first | apply Kd.R_alloc | apply Kd.R_drewN | apply Kd.R_drew)); exact (Kd.R_mono (Kd.R_far (p := ⟨gb425, 2, none⟩) (Kd.R_far (p := ⟨gb425, 1, none⟩) (Kd.R_far (p := ⟨gb425, 0, none⟩) (Kd.R_types HO_384000.out BK425.out (by decide)) (fun _ hk => hk.2) (.slice Ao118 t417.length co118)) (fun _ hk => hk.2) (.slice Ao124 t420.length co124)) (fun _ hk => hk.2) (.int .i64 t423)) (fun _ h_ => h_.1))) hb); have n3_ := Aside0.mk (Kd.R_below (by (with_reducible repeat (first | apply Kd.R_alloc | apply Kd.R_drewN | apply Kd.R_drew)); exact (Kd.R_mono (Kd.R_far (p := ⟨gb425, 2, none⟩) (Kd.R_far (p := ⟨gb425, 1, none⟩) (Kd.R_far (p := ⟨gb425, 0, none⟩) (Kd.R_types HO_384001.out BK425.out (by decide)) (fun _ hk => hk.2) (.slice Ao118 t417.length co118)) (fun _ hk => hk.2) (.slice Ao124 t420.length co124)) (fun _ hk => hk.2) (.int .i64 t423)) (fun _ h_ => h_.1))) hb); have n4_ := Aside0.mk (Kd.R_below (by (with_reducible repeat (first | apply Kd.R_alloc | apply Kd.R_drewN | apply Kd.R_drew)); exact (Kd.R_mono (Kd.R_far (p := ⟨gb425, 2, none⟩) (Kd.R_far (p := ⟨gb425, 1, none⟩) (Kd.R_far (p := ⟨gb425, 0, none⟩) (Kd.R_types HO_393000.out BK425.out (by decide)) (fun _ hk => hk.2) (.slice Ao118 t417.length co118)) (fun _ hk => hk.2) (.slice Ao124 t420.length co124)) (fun _ hk => hk.2) (.int .i64 t423)) (fun _ h_ => h_.1))) hb); have n5_ := Aside0.mk (Kd.R_below (by (with_reducible repeat (first | apply Kd.R_alloc | apply Kd.R_drewN | apply Kd.R_drew)); exact (Kd.R_mono (Kd.R_far (p := ⟨gb425, 2, none⟩) (Kd.R_far (p := ⟨gb425, 1, none⟩) (Kd.R_far (p := ⟨gb425, 0, none⟩) (Kd.R_types HO_393001.out BK425.out (by decide)) (fun _ hk => hk.2) (.slice Ao118 t417.length co118)) (fun _ hk => hk.2) (.slice Ao124 t420.length co124)) (fun _ hk => hk.2) (.int .i64 t423)) (fun _ h_ => h_.1))) hb); have n6_ := Aside0.mk (Kd.R_below (by (with_reducible repeat (first | apply Kd.R_alloc | apply Kd.R_drewN | apply Kd.R_drew)); exact (Kd.R_mono (Kd.R_far (p := ⟨gb425, 2, none⟩) (Kd.R_far (p := ⟨gb425, 1, none⟩) (Kd.R_far (p := ⟨gb425, 0, none⟩) (Kd.R_types HO412.out BK425.out (by decide)) (fun _ hk => hk.2) (.slice Ao118 t417.length co118)) (fun _ hk => hk.2) (.slice Ao124 t420.length co124)) (fun _ hk => hk.2) (.int .i64 t423)) (fun _ h_ => h_.1))) hb); have n7_ := Aside0.mk (Kd.R_below (by (with_reducible repeat (first | apply Kd.R_alloc | apply Kd.R_drewN | apply Kd.R_drew)); exact (Kd.R_mono (Kd.R_far (p := ⟨gb425, 2, none⟩) (Kd.R_far (p := ⟨gb425, 1, none⟩) (Kd.R_far (p := ⟨gb425, 0, none⟩) (Kd.R_types HO415.out BK425.out (by decide)) (fun _ hk => hk.2) (.slice Ao118 t417.length co118)) (fun _ hk => hk.2) (.slice Ao124 t420.length co124)) (fun _ hk => hk.2) (.int .i64 t423)) (fun _ h_ => h_.1))) hb); have n8_ := Aside0.mk (Kd.R_below (by (with_reducible repeat (first | apply Kd.R_alloc | apply Kd.R_drewN | apply Kd.R_drew)); exact (Kd.R_mono (Kd.R_far (p := ⟨gb425, 2, none⟩) (Kd.R_far (p := ⟨gb425, 1, none⟩) (Kd.R_far (p := ⟨gb425, 0, none⟩) (Kd.R_types HO419.out BK425.out (by decide)) (fun _ hk => hk.2) (.slice Ao118 t417.length co118)) (fun _ hk => hk.2) (.slice Ao124 t420.length co124)) (fun _ hk => hk.2) (.int .i64 t423)) (fun _ h_ => h_.1))) hb); have n9_ := Aside0.mk (Kd.R_below (by (with_reducible repeat (first | apply Kd.R_alloc | apply Kd.R_drewN | apply Kd.R_drew)); exact (Kd.R_mono (Kd.R_far (p := ⟨gb425, 2, none⟩) (Kd.R_far (p := ⟨gb425, 1, none⟩) (Kd.R_far (p := ⟨gb425, 0, none⟩) (Kd.R_types HO422.out BK425.out (by decide)) (fun _ hk => hk.2) (.slice Ao118 t417.length co118)) (fun _ hk => hk.2) (.slice Ao124 t420.length co124)) (fun _ hk => hk.2) (.int .i64 t423)) (fun _ h_ => h_.1))) hb); have n10_ := Aside0.mk (blk_below (g := gb358) (o := .cells #[.slice A0_0 l0_0.length c0_0, .slice A0_1 l0_1.length c0_1, .int .i64 a0_2] 24 (0, 0)) KK hb); have n11_ := Aside0.mk (blk_below (g := gb375) (o := .cells #[.slice Ao22 t367.length co22, .slice Ao25 t370.length co25, .int .i64 t373] 29 (0, 0)) KK hb); have n12_ := Aside0.mk (blk_below (g := gb383) (o := .cells #[.slice Ao29 t403.length co29, .slice Ao33 t404.length co33, .int .i64 t382] 29 (0, 0)) KK hb); have n13_ := Aside0.mk (blk_below (g := gb392) (o := .cells #[.slice Ao36 t384.length co36, .slice Ao41 t387.length co41, .int .i64 t390] 29 (0, 0)) KK hb); have n14_ := Aside0.mk (blk_below (g := gb425) (o := .cells #[.slice Ao118 t417.length co118, .slice Ao124 t420.length co124, .int .i64 t423] 29 (0, 0)) (by (with_reducible repeat (first | refine blk_drewN ?_ _ | refine blk_drew ?_ | refine blk_alloc ?_ _)); refine blk_put (cs := #[.slice Ao118 t417.length co118, .slice Ao124 t420.length co124, .int .i64 0]) ?_ 2 _ rfl; (with_reducible repeat (first | refine blk_drewN ?_ _ | refine blk_drew ?_ | refine blk_alloc ?_ _)); refine blk_put (cs := #[.slice Ao118 t417.length co118, .slice none 0 0, .int .i64 0]) ?_ 1 _ rfl; (with_reducible repeat (first | refine blk_drewN ?_ _ | refine blk_drew ?_ | refine blk_alloc ?_ _)); refine blk_put (cs := #[.slice none 0 0, .slice none 0 0, .int .i64 0]) ?_ 0 _ rfl; (with_reducible repeat (first | refine blk_drewN ?_ _ | refine blk_drew ?_ | refine blk_alloc ?_ _)); exact BK425.out) hb); have n15_ := Aside0.mk (below_step KB hb); clear HO_376000; clear HO_376001; clear HO_384000; clear HO_384001; clear HO_393000; clear HO_393001; clear HO412; clear HO415; clear HO419; clear HO422; clear BK358; clear BK375; clear BK383; clear BK392; clear BK425; clear HB; have HO_376000 := n0_; have HO_376001 := n1_; have HO_384000 := n2_; have HO_384001 := n3_; have HO_393000 := n4_; have HO_393001 := n5_; have HO412 := n6_; have HO415 := n7_; have HO419 := n8_; have HO422 := n9_; have BK358 := n10_; have BK375 := n11_; have BK383 := n12_; have BK392 := n13_; have BK425 := n14_; have HB := n15_; clear n0_ n1_ n2_ n3_ n4_ n5_ n6_ n7_ n8_ n9_ n10_ n11_ n12_ n13_ n14_ n15_; (try clear hb); (try clear hb2); (try clear hk); (try clear hi)))
             go_meet
             case rel => exact ⟨_, ((t424 != t374)), (by first | rfl | (simp; done) | (simp [*]; done)), H', ⟨by have := HJ11.out; have := HJ64.out; first | omega | exact Nat.le_refl _⟩, ⟨by (try simp only [hl384000_64]); (try simp only [hl384001_64]); (with_reducible repeat (first | apply Kd.R_alloc | apply Kd.R_drewN | apply Kd.R_drew)); exact Kd.R_mono HO_376000.out (fun _ hk => ⟨hk.1.1.1.1.1, ⟨hk.1.1.1.1.2.1, ⟨hk.1.1.1.1.2.2.1, ⟨hk.1.1.1.1.2.2.2.1, ⟨hk.1.1.1.1.2.2.2.2, ⟨hk.1.2, hk.2⟩⟩⟩⟩⟩⟩)⟩, ⟨by (try simp only [hl384000_64]); (try simp only [hl384001_64]); (with_reducible repeat (first | apply Kd.R_alloc | apply Kd.R_drewN | apply Kd.R_drew)); exact Kd.R_mono HO_376001.out (fun _ hk => ⟨hk.1.1.1.1.1, ⟨hk.1.1.1.1.2.1, ⟨hk.1.1.1.1.2.2.1, ⟨hk.1.1.1.1.2.2.2.1, ⟨hk.1.1.1.1.2.2.2.2, ⟨hk.1.2, hk.2⟩⟩⟩⟩⟩⟩)⟩, ⟨by (try simp only [hl384000_64]); (try simp only [hl384001_64]); (with_reducible repeat (first | apply Kd.R_alloc | apply Kd.R_drewN | apply Kd.R_drew)); exact Kd.R_mono HO_384000.out (fun _ hk => ⟨hk.1.1.1.1.1, ⟨hk.1.1.1.1.2.1, ⟨hk.1.1.1.1.2.2.1, ⟨hk.1.1.1.1.2.2.2.1, ⟨hk.1.1.1.1.2.2.2.2, ⟨hk.1.2, hk.2⟩⟩⟩⟩⟩⟩)⟩, ⟨by (try simp only [hl384000_64]); (try simp only [hl384001_64]); (with_reducible repeat (first | apply Kd.R_alloc | apply Kd.R_drewN | apply Kd.R_drew)); exact Kd.R_mono HO_384001.out (fun _ hk => ⟨hk.1.1.1.1.1, ⟨hk.1.1.1.1.2.1, ⟨hk.1.1.1.1.2.2.1, ⟨hk.1.1.1.1.2.2.2.1, ⟨hk.1.1.1.1.2.2.2.2, ⟨hk.1.2, hk.2⟩⟩⟩⟩⟩⟩)⟩, ⟨by (try simp only [hl384000_64]); (try simp only [hl384001_64]); (with_reducible repeat (first | apply Kd.R_alloc | apply Kd.R_drewN | apply Kd.R_drew)); exact Kd.R_mono HO_393000.out (fun _ hk => ⟨hk.1.1.1.1.1, ⟨hk.1.1.1.1.2.1, ⟨hk.1.1.1.1.2.2.1, ⟨hk.1.1.1.1.2.2.2.1, ⟨hk.1.1.1.1.2.2.2.2, ⟨hk.1.2, hk.2⟩⟩⟩⟩⟩⟩)⟩, ⟨by (try simp only [hl384000_64]); (try simp only [hl384001_64]); (with_reducible repeat (first | apply Kd.R_alloc | apply Kd.R_drewN | apply Kd.R_drew)); exact Kd.R_mono HO_393001.out (fun _ hk => ⟨hk.1.1.1.1.1, ⟨hk.1.1.1.1.2.1, ⟨hk.1.1.1.1.2.2.1, ⟨hk.1.1.1.1.2.2.2.1, ⟨hk.1.1.1.1.2.2.2.2, ⟨hk.1.2, hk.2⟩⟩⟩⟩⟩⟩)⟩, ⟨by (try simp only [hl384000_64]); (try simp only [hl384001_64]); (with_reducible repeat (first | apply Kd.R_alloc | apply Kd.R_drewN | apply Kd.R_drew)); exact Kd.R_mono HO419.out (fun _ hk => ⟨hk.1.1.1.1.1.1.1.2, ⟨hk.1.1.1.1.1.1.2, ⟨hk.1.1.1.1.1.2, ⟨hk.1.1.1.1.2, ⟨hk.1.1.1.2, ⟨hk.1.1.2, hk.1.1.1.1.1.1.1.1⟩⟩⟩⟩⟩⟩)⟩, ⟨by (try simp only [hl384000_64]); (try simp only [hl384001_64]); (with_reducible repeat (first | apply Kd.R_alloc | apply Kd.R_drewN | apply Kd.R_drew)); exact Kd.R_mono HO422.out (fun _ hk => ⟨hk.1.1.1.1.1.1.1.2, ⟨hk.1.1.1.1.1.1.2, ⟨hk.1.1.1.1.1.2, ⟨hk.1.1.1.1.2, ⟨hk.1.1.1.2, ⟨hk.1.1.2, hk.1.1.1.1.1.1.1.1⟩⟩⟩⟩⟩⟩)⟩, ⟨by (try simp only [hl384000_64]); (try simp only [hl384001_64]); (with_reducible repeat (first | refine blk_drewN ?_ _ | refine blk_drew ?_ | refine blk_alloc ?_ _)); exact BK358.out⟩, ⟨by (try simp only [hl384000_64]); (try simp only [hl384001_64]); (with_reducible repeat (first | refine blk_drewN ?_ _ | refine blk_drew ?_ | refine blk_alloc ?_ _)); exact BK375.out⟩, ⟨by (try simp only [hl384000_64]); (try simp only [hl384001_64]); (with_reducible repeat (first | refine blk_drewN ?_ _ | refine blk_drew ?_ | refine blk_alloc ?_ _)); exact BK383.out⟩, ⟨by (try simp only [hl384000_64]); (try simp only [hl384001_64]); (with_reducible repeat (first | refine blk_drewN ?_ _ | refine blk_drew ?_ | refine blk_alloc ?_ _)); exact BK392.out⟩, ⟨by (try simp only [hl384000_64]); (try simp only [hl384001_64]); (with_reducible repeat (first | refine blk_drewN ?_ _ | refine blk_drew ?_ | refine blk_alloc ?_ _)); exact BK425.out⟩, ⟨KB⟩⟩
            ·replace c126 := Bool.eq_false_iff.mpr c126
             subst c126
             have H1 : (laws_FnExactStoreCrash.j2 kj64 t406 true t407 t408 t390) = some r := by rw [if_neg (show ¬ (false = true) by decide)] at H; exact H
             clear H
             have H := H1
             clear H1
             have H' := Aside0.mk H
             clear H
             have hnb137 := NB425_358.out
             have hnc137 := NB358_425.out
             have hnb138 := NB425_375.out
             have hnc138 := NB375_425.out
             have hnb139 := NB425_383.out
             have hnc139 := NB383_425.out
             have hnb140 := NB425_392.out
             have hnc140 := NB392_425.out
             have hcz141_0 : w117.cell? ⟨gb425, 0, none⟩ = some (.slice none 0 0) := (blk_cell BK425.out 0).trans rfl
             have hcz141_1 : w117.cell? ⟨gb425, 1, none⟩ = some (.slice none 0 0) := (blk_cell BK425.out 1).trans rfl
             have hcz141_2 : w117.cell? ⟨gb425, 2, none⟩ = some (.int .i64 0) := (blk_cell BK425.out 2).trans rfl
             have hfz141_0 := blk_frozen BK425.out 0
             have hfz141_1 := blk_frozen BK425.out 1
             have hfz141_2 := blk_frozen BK425.out 2
             have hnb142 := NB375_358.out
             have hnc142 := NB358_375.out
             have hnb143 := NB375_383.out
             have hnc143 := NB383_375.out
             have hnb144 := NB375_392.out
             have hnc144 := NB392_375.out
             have hcz145_0 : w117.cell? ⟨gb375, 0, none⟩ = some (.slice Ao22 t367.length co22) := (blk_cell BK375.out 0).trans rfl
             have hcz145_1 : w117.cell? ⟨gb375, 1, none⟩ = some (.slice Ao25 t370.length co25) := (blk_cell BK375.out 1).trans rfl
             have hcz145_2 : w117.cell? ⟨gb375, 2, none⟩ = some (.int .i64 t373) := (blk_cell BK375.out 2).trans rfl
             have hfz145_0 := blk_frozen BK375.out 0
             have hfz145_1 := blk_frozen BK375.out 1
             have hfz145_2 := blk_frozen BK375.out 2
             go_wp2_with (first | ((with_reducible refine gate_callee (f := 19) rfl ?_); refine goesL_ (some 86) rfl rfl Try.func19 (by kernel_rfl) rfl #[.agg #[.slice Ao118 t417.length co118, .slice Ao124 t420.length co124, .int .i64 t423], .agg #[.slice Ao22 t367.length co22, .slice Ao25 t370.length co25, .int .i64 t373]] rfl KL ?_; (with_reducible refine (laws_eqStore.calls kj64 _ _ t417 _ _ t420 t423 _ _ t367 _ _ t370 t373 false _ ?side1 ?side2 ?side3 ?side4 ?side5 ?side6 ?side7 ?side8 A125.out).mono ?_); (case side1 => refine (Kd.R_reads' (e := 34) (base := w.heap.size) (ok := fun k_ => ((((((((some k_ ≠ (.slice Ao124 t420.length co124 : Value).ownBlock ∧ some k_ ≠ (.slice Ao22 t367.length co22 : Value).ownBlock) ∧ some k_ ≠ (.slice Ao25 t370.length co25 : Value).ownBlock) ∧ some k_ ≠ (.slice Ao29 t403.length co29 : Value).ownBlock) ∧ some k_ ≠ (.slice Ao33 t404.length co33 : Value).ownBlock) ∧ some k_ ≠ (.slice Ao36 t384.length co36 : Value).ownBlock) ∧ some k_ ≠ (.slice Ao41 t387.length co41 : Value).ownBlock) ∧ some k_ ≠ (.slice Ao114 t410.length co114 : Value).ownBlock) ∧ some k_ ≠ (.slice Ao115 t413.length co115 : Value).ownBlock)) (n := t417.length) (c := co118) ?_).2.2; exact (by (with_reducible repeat (first | apply Kd.R_alloc | apply Kd.R_drewN | apply Kd.R_drew)); exact (Kd.R_mono (Kd.R_far (p := ⟨gb425, 2, none⟩) (Kd.R_far (p := ⟨gb425, 1, none⟩) (Kd.R_far (p := ⟨gb425, 0, none⟩) (Kd.R_types HO419.out BK425.out (by decide)) (fun _ hk => hk.2) (.slice Ao118 t417.length co118)) (fun _ hk => hk.2) (.slice Ao124 t420.length co124)) (fun _ hk => hk.2) (.int .i64 t423)) (fun _ h_ => h_.1)))); (case side2 => exact (Kd.R_reads' HO419.out).2.1); (case side3 => refine (Kd.R_reads' (e := 34) (base := w.heap.size) (ok := fun k_ => ((((((((some k_ ≠ (.slice Ao118 t417.length co118 : Value).ownBlock ∧ some k_ ≠ (.slice Ao22 t367.length co22 : Value).ownBlock) ∧ some k_ ≠ (.slice Ao25 t370.length co25 : Value).ownBlock) ∧ some k_ ≠ (.slice Ao29 t403.length co29 : Value).ownBlock) ∧ some k_ ≠ (.slice Ao33 t404.length co33 : Value).ownBlock) ∧ some k_ ≠ (.slice Ao36 t384.length co36 : Value).ownBlock) ∧ some k_ ≠ (.slice Ao41 t387.length co41 : Value).ownBlock) ∧ some k_ ≠ (.slice Ao114 t410.length co114 : Value).ownBlock) ∧ some k_ ≠ (.slice Ao115 t413.length co115 : Value).ownBlock)) (n := t420.length) (c := co124) ?_).2.2; exact (by (with_reducible repeat (first | apply Kd.R_alloc | apply Kd.R_drewN | apply Kd.R_drew)); exact (Kd.R_mono (Kd.R_far (p := ⟨gb425, 2, none⟩) (Kd.R_far (p := ⟨gb425, 1, none⟩) (Kd.R_far (p := ⟨gb425, 0, none⟩) (Kd.R_types HO422.out BK425.out (by decide)) (fun _ hk => hk.2) (.slice Ao118 t417.length co118)) (fun _ hk => hk.2) (.slice Ao124 t420.length co124)) (fun _ hk => hk.2) (.int .i64 t423)) (fun _ h_ => h_.1)))); (case side4 => exact (Kd.R_reads' HO422.out).2.1); (case side5 => refine (Kd.R_reads' (e := 34) (base := w.heap.size) (ok := fun k_ => (((((some k_ ≠ (.slice Ao25 t370.length co25 : Value).ownBlock ∧ (some k_ ≠ (.slice Ao29 t403.length co29 : Value).ownBlock ∧ (some k_ ≠ (.slice Ao33 t404.length co33 : Value).ownBlock ∧ (some k_ ≠ (.slice Ao36 t384.length co36 : Value).ownBlock ∧ some k_ ≠ (.slice Ao41 t387.length co41 : Value).ownBlock)))) ∧ some k_ ≠ (.slice Ao114 t410.length co114 : Value).ownBlock) ∧ some k_ ≠ (.slice Ao115 t413.length co115 : Value).ownBlock) ∧ some k_ ≠ (.slice Ao118 t417.length co118 : Value).ownBlock) ∧ some k_ ≠ (.slice Ao124 t420.length co124 : Value).ownBlock)) (n := t367.length) (c := co22) ?_).2.2; exact (by (with_reducible repeat (first | apply Kd.R_alloc | apply Kd.R_drewN | apply Kd.R_drew)); exact (Kd.R_mono (Kd.R_far (p := ⟨gb425, 2, none⟩) (Kd.R_far (p := ⟨gb425, 1, none⟩) (Kd.R_far (p := ⟨gb425, 0, none⟩) (Kd.R_types HO_376000.out BK425.out (by decide)) (fun _ hk => hk.2) (.slice Ao118 t417.length co118)) (fun _ hk => hk.2) (.slice Ao124 t420.length co124)) (fun _ hk => hk.2) (.int .i64 t423)) (fun _ h_ => h_.1)))); (case side6 => exact (Kd.R_reads' HO_376000.out).2.1); (case side7 => refine (Kd.R_reads' (e := 34) (base := w.heap.size) (ok := fun k_ => (((((some k_ ≠ (.slice Ao22 t367.length co22 : Value).ownBlock ∧ (some k_ ≠ (.slice Ao29 t403.length co29 : Value).ownBlock ∧ (some k_ ≠ (.slice Ao33 t404.length co33 : Value).ownBlock ∧ (some k_ ≠ (.slice Ao36 t384.length co36 : Value).ownBlock ∧ some k_ ≠ (.slice Ao41 t387.length co41 : Value).ownBlock)))) ∧ some k_ ≠ (.slice Ao114 t410.length co114 : Value).ownBlock) ∧ some k_ ≠ (.slice Ao115 t413.length co115 : Value).ownBlock) ∧ some k_ ≠ (.slice Ao118 t417.length co118 : Value).ownBlock) ∧ some k_ ≠ (.slice Ao124 t420.length co124 : Value).ownBlock)) (n := t370.length) (c := co25) ?_).2.2; exact (by (with_reducible repeat (first | apply Kd.R_alloc | apply Kd.R_drewN | apply Kd.R_drew)); exact (Kd.R_mono (Kd.R_far (p := ⟨gb425, 2, none⟩) (Kd.R_far (p := ⟨gb425, 1, none⟩) (Kd.R_far (p := ⟨gb425, 0, none⟩) (Kd.R_types HO_376001.out BK425.out (by decide)) (fun _ hk => hk.2) (.slice Ao118 t417.length co118)) (fun _ hk => hk.2) (.slice Ao124 t420.length co124)) (fun _ hk => hk.2) (.int .i64 t423)) (fun _ h_ => h_.1)))); (case side8 => exact (Kd.R_reads' HO_376001.out).2.1); rintro e w146 ⟨rfl, hb⟩; refine ⟨_, rfl, ?_⟩; have n0_ := Aside0.mk (Kd.R_below (by (with_reducible repeat (first | apply Kd.R_alloc | apply Kd.R_drewN | apply Kd.R_drew)); exact (Kd.R_mono (Kd.R_far (p := ⟨gb425, 2, none⟩) (Kd.R_far (p := ⟨gb425, 1, none⟩) (Kd.R_far (p := ⟨gb425, 0, none⟩) (Kd.R_types HO_376000.out BK425.out (by decide)) (fun _ hk => hk.2) (.slice Ao118 t417.length co118)) (fun _ hk => hk.2) (.slice Ao124 t420.length co124)) (fun _ hk => hk.2) (.int .i64 t423)) (fun _ h_ => h_.1))) hb); have n1_ := Aside0.mk (Kd.R_below (by (with_reducible repeat (first | apply Kd.R_alloc | apply Kd.R_drewN | apply Kd.R_drew)); exact (Kd.R_mono (Kd.R_far (p := ⟨gb425, 2, none⟩) (Kd.R_far (p := ⟨gb425, 1, none⟩) (Kd.R_far (p := ⟨gb425, 0, none⟩) (Kd.R_types HO_376001.out BK425.out (by decide)) (fun _ hk => hk.2) (.slice Ao118 t417.length co118)) (fun _ hk => hk.2) (.slice Ao124 t420.length co124)) (fun _ hk => hk.2) (.int .i64 t423)) (fun _ h_ => h_.1))) hb); have n2_ := Aside0.mk (Kd.R_below (by (with_reducible repeat (first | apply Kd.R_alloc | apply Kd.R_drewN | apply Kd.R_drew)); exact (Kd.R_mono (Kd.R_far (p := ⟨gb425, 2, none⟩) (Kd.R_far (p := ⟨gb425, 1, none⟩) (Kd.R_far (p := ⟨gb425, 0, none⟩) (Kd.R_types HO_384000.out BK425.out (by decide)) (fun _ hk => hk.2) (.slice Ao118 t417.length co118)) (fun _ hk => hk.2) (.slice Ao124 t420.length co124)) (fun _ hk => hk.2) (.int .i64 t423)) (fun _ h_ => h_.1))) hb); have n3_ := Aside0.mk (Kd.R_below (by (with_reducible repeat (first | apply Kd.R_alloc | apply Kd.R_drewN | apply Kd.R_drew)); exact (Kd.R_mono (Kd.R_far (p := ⟨gb425, 2, none⟩) (Kd.R_far (p := ⟨gb425, 1, none⟩) (Kd.R_far (p := ⟨gb425, 0, none⟩) (Kd.R_types HO_384001.out BK425.out (by decide)) (fun _ hk => hk.2) (.slice Ao118 t417.length co118)) (fun _ hk => hk.2) (.slice Ao124 t420.length co124)) (fun _ hk => hk.2) (.int .i64 t423)) (fun _ h_ => h_.1))) hb); have n4_ := Aside0.mk (Kd.R_below (by (with_reducible repeat (first | apply Kd.R_alloc | apply Kd.R_drewN | apply Kd.R_drew)); exact (Kd.R_mono (Kd.R_far (p := ⟨gb425, 2, none⟩) (Kd.R_far (p := ⟨gb425, 1, none⟩) (Kd.R_far (p := ⟨gb425, 0, none⟩) (Kd.R_types HO_393000.out BK425.out (by decide)) (fun _ hk => hk.2) (.slice Ao118 t417.length co118)) (fun _ hk => hk.2) (.slice Ao124 t420.length co124)) (fun _ hk => hk.2) (.int .i64 t423)) (fun _ h_ => h_.1))) hb); have n5_ := Aside0.mk (Kd.R_below (by (with_reducible repeat (first | apply Kd.R_alloc | apply Kd.R_drewN | apply Kd.R_drew)); exact (Kd.R_mono (Kd.R_far (p := ⟨gb425, 2, none⟩) (Kd.R_far (p := ⟨gb425, 1, none⟩) (Kd.R_far (p := ⟨gb425, 0, none⟩) (Kd.R_types HO_393001.out BK425.out (by decide)) (fun _ hk => hk.2) (.slice Ao118 t417.length co118)) (fun _ hk => hk.2) (.slice Ao124 t420.length co124)) (fun _ hk => hk.2) (.int .i64 t423)) (fun _ h_ => h_.1))) hb); have n6_ := Aside0.mk (Kd.R_below (by (with_reducible repeat (first | apply Kd.R_alloc | apply Kd.R_drewN | apply Kd.R_drew)); exact (Kd.R_mono (Kd.R_far (p := ⟨gb425, 2, none⟩) (Kd.R_far (p := ⟨gb425, 1, none⟩) (Kd.R_far (p := ⟨gb425, 0, none⟩) (Kd.R_types HO412.out BK425.out (by decide)) (fun _ hk => hk.2) (.slice Ao118 t417.length co118)) (fun _ hk => hk.2) (.slice Ao124 t420.length co124)) (fun _ hk => hk.2) (.int .i64 t423)) (fun _ h_ => h_.1))) hb); have n7_ := Aside0.mk (Kd.R_below (by (with_reducible repeat (first | apply Kd.R_alloc | apply Kd.R_drewN | apply Kd.R_drew)); exact (Kd.R_mono (Kd.R_far (p := ⟨gb425, 2, none⟩) (Kd.R_far (p := ⟨gb425, 1, none⟩) (Kd.R_far (p := ⟨gb425, 0, none⟩) (Kd.R_types HO415.out BK425.out (by decide)) (fun _ hk => hk.2) (.slice Ao118 t417.length co118)) (fun _ hk => hk.2) (.slice Ao124 t420.length co124)) (fun _ hk => hk.2) (.int .i64 t423)) (fun _ h_ => h_.1))) hb); have n8_ := Aside0.mk (Kd.R_below (by (with_reducible repeat (first | apply Kd.R_alloc | apply Kd.R_drewN | apply Kd.R_drew)); exact (Kd.R_mono (Kd.R_far (p := ⟨gb425, 2, none⟩) (Kd.R_far (p := ⟨gb425, 1, none⟩) (Kd.R_far (p := ⟨gb425, 0, none⟩) (Kd.R_types HO419.out BK425.out (by decide)) (fun _ hk => hk.2) (.slice Ao118 t417.length co118)) (fun _ hk => hk.2) (.slice Ao124 t420.length co124)) (fun _ hk => hk.2) (.int .i64 t423)) (fun _ h_ => h_.1))) hb); have n9_ := Aside0.mk (Kd.R_below (by (with_reducible repeat (first | apply Kd.R_alloc | apply Kd.R_drewN | apply Kd.R_drew)); exact (Kd.R_mono (Kd.R_far (p := ⟨gb425, 2, none⟩) (Kd.R_far (p := ⟨gb425, 1, none⟩) (Kd.R_far (p := ⟨gb425, 0, none⟩) (Kd.R_types HO422.out BK425.out (by decide)) (fun _ hk => hk.2) (.slice Ao118 t417.length co118)) (fun _ hk => hk.2) (.slice Ao124 t420.length co124)) (fun _ hk => hk.2) (.int .i64 t423)) (fun _ h_ => h_.1))) hb); have n10_ := Aside0.mk (blk_below (g := gb358) (o := .cells #[.slice A0_0 l0_0.length c0_0, .slice A0_1 l0_1.length c0_1, .int .i64 a0_2] 24 (0, 0)) KK hb); have n11_ := Aside0.mk (blk_below (g := gb375) (o := .cells #[.slice Ao22 t367.length co22, .slice Ao25 t370.length co25, .int .i64 t373] 29 (0, 0)) KK hb); have n12_ := Aside0.mk (blk_below (g := gb383) (o := .cells #[.slice Ao29 t403.length co29, .slice Ao33 t404.length co33, .int .i64 t382] 29 (0, 0)) KK hb); have n13_ := Aside0.mk (blk_below (g := gb392) (o := .cells #[.slice Ao36 t384.length co36, .slice Ao41 t387.length co41, .int .i64 t390] 29 (0, 0)) KK hb); have n14_ := Aside0.mk (blk_below (g := gb425) (o := .cells #[.slice Ao118 t417.length co118, .slice Ao124 t420.length co124, .int .i64 t423] 29 (0, 0)) (by (with_reducible repeat (first | refine blk_drewN ?_ _ | refine blk_drew ?_ | refine blk_alloc ?_ _)); refine blk_put (cs := #[.slice Ao118 t417.length co118, .slice Ao124 t420.length co124, .int .i64 0]) ?_ 2 _ rfl; (with_reducible repeat (first | refine blk_drewN ?_ _ | refine blk_drew ?_ | refine blk_alloc ?_ _)); refine blk_put (cs := #[.slice Ao118 t417.length co118, .slice none 0 0, .int .i64 0]) ?_ 1 _ rfl; (with_reducible repeat (first | refine blk_drewN ?_ _ | refine blk_drew ?_ | refine blk_alloc ?_ _)); refine blk_put (cs := #[.slice none 0 0, .slice none 0 0, .int .i64 0]) ?_ 0 _ rfl; (with_reducible repeat (first | refine blk_drewN ?_ _ | refine blk_drew ?_ | refine blk_alloc ?_ _)); exact BK425.out) hb); have n15_ := Aside0.mk (below_step KB hb); clear HO_376000; clear HO_376001; clear HO_384000; clear HO_384001; clear HO_393000; clear HO_393001; clear HO412; clear HO415; clear HO419; clear HO422; clear BK358; clear BK375; clear BK383; clear BK392; clear BK425; clear HB; have HO_376000 := n0_; have HO_376001 := n1_; have HO_384000 := n2_; have HO_384001 := n3_; have HO_393000 := n4_; have HO_393001 := n5_; have HO412 := n6_; have HO415 := n7_; have HO419 := n8_; have HO422 := n9_; have BK358 := n10_; have BK375 := n11_; have BK383 := n12_; have BK392 := n13_; have BK425 := n14_; have HB := n15_; clear n0_ n1_ n2_ n3_ n4_ n5_ n6_ n7_ n8_ n9_ n10_ n11_ n12_ n13_ n14_ n15_; (try clear hb); (try clear hb2); (try clear hk); (try clear hi)))
             go_meet
             case rel => exact ⟨_, (true), (by first | rfl | (simp; done) | (simp [*]; done)), H', ⟨by have := HJ11.out; have := HJ64.out; first | omega | exact Nat.le_refl _⟩, ⟨by (try simp only [hl384000_64]); (try simp only [hl384001_64]); (with_reducible repeat (first | apply Kd.R_alloc | apply Kd.R_drewN | apply Kd.R_drew)); exact Kd.R_mono HO_376000.out (fun _ hk => ⟨hk.1.1.1.1.1, ⟨hk.1.1.1.1.2.1, ⟨hk.1.1.1.1.2.2.1, ⟨hk.1.1.1.1.2.2.2.1, ⟨hk.1.1.1.1.2.2.2.2, ⟨hk.1.2, hk.2⟩⟩⟩⟩⟩⟩)⟩, ⟨by (try simp only [hl384000_64]); (try simp only [hl384001_64]); (with_reducible repeat (first | apply Kd.R_alloc | apply Kd.R_drewN | apply Kd.R_drew)); exact Kd.R_mono HO_376001.out (fun _ hk => ⟨hk.1.1.1.1.1, ⟨hk.1.1.1.1.2.1, ⟨hk.1.1.1.1.2.2.1, ⟨hk.1.1.1.1.2.2.2.1, ⟨hk.1.1.1.1.2.2.2.2, ⟨hk.1.2, hk.2⟩⟩⟩⟩⟩⟩)⟩, ⟨by (try simp only [hl384000_64]); (try simp only [hl384001_64]); (with_reducible repeat (first | apply Kd.R_alloc | apply Kd.R_drewN | apply Kd.R_drew)); exact Kd.R_mono HO_384000.out (fun _ hk => ⟨hk.1.1.1.1.1, ⟨hk.1.1.1.1.2.1, ⟨hk.1.1.1.1.2.2.1, ⟨hk.1.1.1.1.2.2.2.1, ⟨hk.1.1.1.1.2.2.2.2, ⟨hk.1.2, hk.2⟩⟩⟩⟩⟩⟩)⟩, ⟨by (try simp only [hl384000_64]); (try simp only [hl384001_64]); (with_reducible repeat (first | apply Kd.R_alloc | apply Kd.R_drewN | apply Kd.R_drew)); exact Kd.R_mono HO_384001.out (fun _ hk => ⟨hk.1.1.1.1.1, ⟨hk.1.1.1.1.2.1, ⟨hk.1.1.1.1.2.2.1, ⟨hk.1.1.1.1.2.2.2.1, ⟨hk.1.1.1.1.2.2.2.2, ⟨hk.1.2, hk.2⟩⟩⟩⟩⟩⟩)⟩, ⟨by (try simp only [hl384000_64]); (try simp only [hl384001_64]); (with_reducible repeat (first | apply Kd.R_alloc | apply Kd.R_drewN | apply Kd.R_drew)); exact Kd.R_mono HO_393000.out (fun _ hk => ⟨hk.1.1.1.1.1, ⟨hk.1.1.1.1.2.1, ⟨hk.1.1.1.1.2.2.1, ⟨hk.1.1.1.1.2.2.2.1, ⟨hk.1.1.1.1.2.2.2.2, ⟨hk.1.2, hk.2⟩⟩⟩⟩⟩⟩)⟩, ⟨by (try simp only [hl384000_64]); (try simp only [hl384001_64]); (with_reducible repeat (first | apply Kd.R_alloc | apply Kd.R_drewN | apply Kd.R_drew)); exact Kd.R_mono HO_393001.out (fun _ hk => ⟨hk.1.1.1.1.1, ⟨hk.1.1.1.1.2.1, ⟨hk.1.1.1.1.2.2.1, ⟨hk.1.1.1.1.2.2.2.1, ⟨hk.1.1.1.1.2.2.2.2, ⟨hk.1.2, hk.2⟩⟩⟩⟩⟩⟩)⟩, ⟨by (try simp only [hl384000_64]); (try simp only [hl384001_64]); (with_reducible repeat (first | apply Kd.R_alloc | apply Kd.R_drewN | apply Kd.R_drew)); exact Kd.R_mono HO419.out (fun _ hk => ⟨hk.1.1.1.1.1.1.1.2, ⟨hk.1.1.1.1.1.1.2, ⟨hk.1.1.1.1.1.2, ⟨hk.1.1.1.1.2, ⟨hk.1.1.1.2, ⟨hk.1.1.2, hk.1.1.1.1.1.1.1.1⟩⟩⟩⟩⟩⟩)⟩, ⟨by (try simp only [hl384000_64]); (try simp only [hl384001_64]); (with_reducible repeat (first | apply Kd.R_alloc | apply Kd.R_drewN | apply Kd.R_drew)); exact Kd.R_mono HO422.out (fun _ hk => ⟨hk.1.1.1.1.1.1.1.2, ⟨hk.1.1.1.1.1.1.2, ⟨hk.1.1.1.1.1.2, ⟨hk.1.1.1.1.2, ⟨hk.1.1.1.2, ⟨hk.1.1.2, hk.1.1.1.1.1.1.1.1⟩⟩⟩⟩⟩⟩)⟩, ⟨by (try simp only [hl384000_64]); (try simp only [hl384001_64]); (with_reducible repeat (first | refine blk_drewN ?_ _ | refine blk_drew ?_ | refine blk_alloc ?_ _)); exact BK358.out⟩, ⟨by (try simp only [hl384000_64]); (try simp only [hl384001_64]); (with_reducible repeat (first | refine blk_drewN ?_ _ | refine blk_drew ?_ | refine blk_alloc ?_ _)); exact BK375.out⟩, ⟨by (try simp only [hl384000_64]); (try simp only [hl384001_64]); (with_reducible repeat (first | refine blk_drewN ?_ _ | refine blk_drew ?_ | refine blk_alloc ?_ _)); exact BK383.out⟩, ⟨by (try simp only [hl384000_64]); (try simp only [hl384001_64]); (with_reducible repeat (first | refine blk_drewN ?_ _ | refine blk_drew ?_ | refine blk_alloc ?_ _)); exact BK392.out⟩, ⟨by (try simp only [hl384000_64]); (try simp only [hl384001_64]); (with_reducible repeat (first | refine blk_drewN ?_ _ | refine blk_drew ?_ | refine blk_alloc ?_ _)); exact BK425.out⟩, ⟨KB⟩⟩
           case rest =>
            clear HC102
            try clear c1
            try clear c2
            try clear p2
            try clear c3
            try clear c4
            try clear c4b0
            try clear c5
            try clear c6
            try clear c7
            try clear c8
            try clear c9
            try clear c10
            try clear c11
            try clear c12
            try clear c13
            try clear c14
            try clear c15
            try clear c17
            try clear c19
            try clear c23
            try clear c26
            try clear c30
            try clear c31
            try clear c33
            try clear c37
            try clear c38
            try clear c39
            try clear c41
            try clear c42
            try clear c43
            try clear c44
            try clear c45
            try clear c46
            try clear c48
            try clear c49
            try clear c52
            try clear c53
            try clear c54
            try clear c56
            try clear c57
            try clear c60
            try clear c63
            try clear c71
            try clear c72
            try clear c73
            try clear c76
            try clear c76b0
            try clear c78
            try clear c79
            try clear c80
            try clear c81
            try clear c83
            try clear c84
            try clear c87
            try clear c88
            try clear c89
            try clear c91
            try clear c92
            try clear c95
            try clear c98
            try clear c98b0
            try clear c99
            try clear c99b0
            try clear c99b1
            try clear c103
            try clear c104
            try clear c105
            try clear c110
            try clear c111
            try clear c119
            try clear c120
            try clear c121
            try clear c122
            try clear c126
            try clear c127
            try clear c128
            try clear c129
            try clear c130
            try clear c132
            try clear c133
            try clear c134
            try clear c137
            try clear c138
            try clear c139
            try clear c140
            try clear c142
            try clear c143
            try clear c144
            try clear hcz106_0
            try clear hcz106_1
            try clear hcz106_2
            try clear hcz108_0
            try clear hcz108_1
            try clear hcz108_2
            try clear hcz112_0
            try clear hcz112_1
            try clear hcz112_2
            try clear hcz123_0
            try clear hcz123_1
            try clear hcz123_2
            try clear hcz131_0
            try clear hcz131_1
            try clear hcz131_2
            try clear hcz135_0
            try clear hcz135_1
            try clear hcz135_2
            try clear hcz141_0
            try clear hcz141_1
            try clear hcz141_2
            try clear hcz145_0
            try clear hcz145_1
            try clear hcz145_2
            try clear hcz14_0
            try clear hcz14_1
            try clear hcz14_2
            try clear hcz16_0
            try clear hcz16_1
            try clear hcz16_2
            try clear hcz24_0
            try clear hcz24_1
            try clear hcz24_2
            try clear hcz26_0
            try clear hcz26_1
            try clear hcz26_2
            try clear hcz32_0
            try clear hcz32_1
            try clear hcz32_2
            try clear hcz40_0
            try clear hcz40_1
            try clear hcz40_2
            try clear hcz47_0
            try clear hcz47_1
            try clear hcz47_2
            try clear hcz50_0
            try clear hcz50_1
            try clear hcz50_2
            try clear hcz55_0
            try clear hcz55_1
            try clear hcz55_2
            try clear hcz58_0
            try clear hcz58_1
            try clear hcz58_2
            try clear hcz6_0
            try clear hcz6_1
            try clear hcz6_2
            try clear hcz74_0
            try clear hcz74_1
            try clear hcz74_2
            try clear hcz82_0
            try clear hcz82_1
            try clear hcz82_2
            try clear hcz85_0
            try clear hcz85_1
            try clear hcz85_2
            try clear hcz90_0
            try clear hcz90_1
            try clear hcz90_2
            try clear hcz93_0
            try clear hcz93_1
            try clear hcz93_2
            try clear hfz106_0
            try clear hfz106_1
            try clear hfz106_2
            try clear hfz108_0
            try clear hfz108_1
            try clear hfz108_2
            try clear hfz112_0
            try clear hfz112_1
            try clear hfz112_2
            try clear hfz123_0
            try clear hfz123_1
            try clear hfz123_2
            try clear hfz131_0
            try clear hfz131_1
            try clear hfz131_2
            try clear hfz135_0
            try clear hfz135_1
            try clear hfz135_2
            try clear hfz141_0
            try clear hfz141_1
            try clear hfz141_2
            try clear hfz145_0
            try clear hfz145_1
            try clear hfz145_2
            try clear hfz14_0
            try clear hfz14_1
            try clear hfz14_2
            try clear hfz16_0
            try clear hfz16_1
            try clear hfz16_2
            try clear hfz24_0
            try clear hfz24_1
            try clear hfz24_2
            try clear hfz26_0
            try clear hfz26_1
            try clear hfz26_2
            try clear hfz32_0
            try clear hfz32_1
            try clear hfz32_2
            try clear hfz40_0
            try clear hfz40_1
            try clear hfz40_2
            try clear hfz47_0
            try clear hfz47_1
            try clear hfz47_2
            try clear hfz50_0
            try clear hfz50_1
            try clear hfz50_2
            try clear hfz55_0
            try clear hfz55_1
            try clear hfz55_2
            try clear hfz58_0
            try clear hfz58_1
            try clear hfz58_2
            try clear hfz6_0
            try clear hfz6_1
            try clear hfz6_2
            try clear hfz74_0
            try clear hfz74_1
            try clear hfz74_2
            try clear hfz82_0
            try clear hfz82_1
            try clear hfz82_2
            try clear hfz85_0
            try clear hfz85_1
            try clear hfz85_2
            try clear hfz90_0
            try clear hfz90_1
            try clear hfz90_2
            try clear hfz93_0
            try clear hfz93_1
            try clear hfz93_2
            try clear p2
            obtain ⟨kq, x92_101, rfl, HA, HJ101, HO_376000, HO_376001, HO_384000, HO_384001, HO_393000, HO_393001, HO_426000, HO_426001, BK358, BK375, BK383, BK392, BK425, HB⟩ := hcut
            have hl393000_101 := (Kd.R_reads' HO_393000.out).1
            rw [hl393000_101] at HO_393000
            (try simp only [hl393000_101])
            (try simp only [hl393000_101] at BK358)
            (try simp only [hl393000_101] at BK375)
            (try simp only [hl393000_101] at BK383)
            (try simp only [hl393000_101] at BK392)
            (try simp only [hl393000_101] at BK425)
            (try simp only [hl393000_101] at HO_376000)
            (try simp only [hl393000_101] at HO_376001)
            (try simp only [hl393000_101] at HO_384000)
            (try simp only [hl393000_101] at HO_384001)
            (try simp only [hl393000_101] at HO_393001)
            (try simp only [hl393000_101] at HO_426000)
            (try simp only [hl393000_101] at HO_426001)
            have hl393001_101 := (Kd.R_reads' HO_393001.out).1
            rw [hl393001_101] at HO_393001
            (try simp only [hl393001_101])
            (try simp only [hl393001_101] at BK358)
            (try simp only [hl393001_101] at BK375)
            (try simp only [hl393001_101] at BK383)
            (try simp only [hl393001_101] at BK392)
            (try simp only [hl393001_101] at BK425)
            (try simp only [hl393001_101] at HO_376000)
            (try simp only [hl393001_101] at HO_376001)
            (try simp only [hl393001_101] at HO_384000)
            (try simp only [hl393001_101] at HO_384001)
            (try simp only [hl393001_101] at HO_393000)
            (try simp only [hl393001_101] at HO_426000)
            (try simp only [hl393001_101] at HO_426001)
            cases kq with
            | zero => exact absurd HA.out (by simp [laws_FnExactStoreCrash.j2])
            | succ kj101 =>
             have H := HA.out
             clear HA
             simp only [laws_FnExactStoreCrash.j2] at H
             by_cases c147 : x92_101 = true
             ·subst c147
              have H1 : (none) = some r := by rw [if_pos rfl] at H; exact H
              clear H
              have H := H1
              clear H1
              exact absurd H (by simp)
             ·replace c147 := Bool.eq_false_iff.mpr c147
              subst c147
              have H1 : ((laws_heldStore.f kj101 t407 t408 t390 1).bind fun t427 => (if t427 < 0 then (none) else (if t427 = t406 then (some true) else (none)))) = some r := by rw [if_neg (show ¬ (false = true) by decide)] at H; exact H
              clear H
              have H := H1
              clear H1
              replace H := Option.bind_eq_some_iff.mp H
              obtain ⟨t427, A1480, H⟩ := H
              replace H : (if t427 < 0 then (none) else (if t427 = t406 then (some true) else (none))) = some r := H
              have A148 := Aside0.mk A1480
              clear A1480
              by_cases c149 : t427 < 0
              ·rw [if_pos c149] at H
               exact absurd H (by simp)
              ·rw [if_neg c149] at H
               have c149b0 : decide (t427 < 0) = false := decide_eq_false c149
               clear c149
               by_cases c150 : t427 = t406
               ·rw [if_pos c150] at H
                have c150b0 : (t427 == t406) = true := beq_iff_eq.mpr c150
                have c150b1 : (t427 != t406) = false := bne_eq_false_iff_eq.mpr c150
                clear c150
                obtain rfl := Option.some.inj H
                have hnb151 := NB392_358.out
                have hnc151 := NB358_392.out
                have hnb152 := NB392_375.out
                have hnc152 := NB375_392.out
                have hnb153 := NB392_383.out
                have hnc153 := NB383_392.out
                have hnb154 := NB392_425.out
                have hnc154 := NB425_392.out
                have hcz155_0 : wc.cell? ⟨gb392, 0, none⟩ = some (.slice Ao36 t407.length co36) := (blk_cell BK392.out 0).trans rfl
                have hcz155_1 : wc.cell? ⟨gb392, 1, none⟩ = some (.slice Ao41 t408.length co41) := (blk_cell BK392.out 1).trans rfl
                have hcz155_2 : wc.cell? ⟨gb392, 2, none⟩ = some (.int .i64 t390) := (blk_cell BK392.out 2).trans rfl
                have hfz155_0 := blk_frozen BK392.out 0
                have hfz155_1 := blk_frozen BK392.out 1
                have hfz155_2 := blk_frozen BK392.out 2
                go_wp2_with (first | ((with_reducible refine gate_callee (f := 33) rfl ?_); refine goesL_ (some 95) rfl rfl Try.func33 (by kernel_rfl) rfl #[.agg #[.slice Ao36 t407.length co36, .slice Ao41 t408.length co41, .int .i64 t390], .int .i64 1] rfl KL ?_; (with_reducible refine (laws_heldStore.calls kj101 _ _ t407 _ _ t408 t390 1 t427 _ ?side1 ?side2 ?side3 ?side4 A148.out).mono ?_); (case side1 => repeat (first | exact (Kd.R_reads' HO_393000.out).2.2 | (with_reducible refine Kd.C_alloc ?_ _) | (with_reducible refine Kd.C_drewN ?_ _) | (with_reducible refine Kd.C_drew ?_))); (case side2 => exact (Kd.R_reads' HO_393000.out).2.1); (case side3 => repeat (first | exact (Kd.R_reads' HO_393001.out).2.2 | (with_reducible refine Kd.C_alloc ?_ _) | (with_reducible refine Kd.C_drewN ?_ _) | (with_reducible refine Kd.C_drew ?_))); (case side4 => exact (Kd.R_reads' HO_393001.out).2.1); rintro e w156 ⟨rfl, hb⟩; refine ⟨_, rfl, ?_⟩; have n0_ := Aside0.mk (Kd.R_below (KR HO_376000.out) hb); have n1_ := Aside0.mk (Kd.R_below (KR HO_376001.out) hb); have n2_ := Aside0.mk (Kd.R_below (KR HO_384000.out) hb); have n3_ := Aside0.mk (Kd.R_below (KR HO_384001.out) hb); have n4_ := Aside0.mk (Kd.R_below (KR HO_393000.out) hb); have n5_ := Aside0.mk (Kd.R_below (KR HO_393001.out) hb); have n6_ := Aside0.mk (Kd.R_below (KR HO_426000.out) hb); have n7_ := Aside0.mk (Kd.R_below (KR HO_426001.out) hb); have n8_ := Aside0.mk (blk_below (g := gb358) (o := .cells #[.slice A0_0 l0_0.length c0_0, .slice A0_1 l0_1.length c0_1, .int .i64 a0_2] 24 (0, 0)) KK hb); have n9_ := Aside0.mk (blk_below (g := gb375) (o := .cells #[.slice Ao22 t367.length co22, .slice Ao25 t370.length co25, .int .i64 t373] 29 (0, 0)) KK hb); have n10_ := Aside0.mk (blk_below (g := gb383) (o := .cells #[.slice Ao29 t403.length co29, .slice Ao33 t404.length co33, .int .i64 t382] 29 (0, 0)) KK hb); have n11_ := Aside0.mk (blk_below (g := gb392) (o := .cells #[.slice Ao36 t407.length co36, .slice Ao41 t408.length co41, .int .i64 t390] 29 (0, 0)) KK hb); have n12_ := Aside0.mk (blk_below (g := gb425) (o := .cells #[.slice Ao118 t417.length co118, .slice Ao124 t420.length co124, .int .i64 t423] 29 (0, 0)) KK hb); have n13_ := Aside0.mk (below_step KB hb); clear HO_376000; clear HO_376001; clear HO_384000; clear HO_384001; clear HO_393000; clear HO_393001; clear HO_426000; clear HO_426001; clear BK358; clear BK375; clear BK383; clear BK392; clear BK425; clear HB; have HO_376000 := n0_; have HO_376001 := n1_; have HO_384000 := n2_; have HO_384001 := n3_; have HO_393000 := n4_; have HO_393001 := n5_; have HO_426000 := n6_; have HO_426001 := n7_; have BK358 := n8_; have BK375 := n9_; have BK383 := n10_; have BK392 := n11_; have BK425 := n12_; have HB := n13_; clear n0_ n1_ n2_ n3_ n4_ n5_ n6_ n7_ n8_ n9_ n10_ n11_ n12_ n13_; (try clear hb); (try clear hb2); (try clear hk); (try clear hi)))
                go_ret
                exact ⟨KE, KB⟩
               ·rw [if_neg c150] at H
                exact absurd H (by simp)
          ·rw [if_neg c99] at H
           exact absurd H (by simp)
     ·replace c63 := Bool.eq_false_iff.mpr c63
      subst c63
      have H1 : (none) = some r := by rw [if_neg (show ¬ (false = true) by decide)] at H; exact H
      clear H
      have H := H1
      clear H1
      exact absurd H (by simp)

end Go.Proofs.Ythdpknoeackpfaa.PFnExactStoreCrash
