-- What each Go function that this law reaches comes to: written by a program out of the translation.
import Derived.Test.YthdpknoeackpfaaMFnExactStoreSyncx0
import Derived.Test.YthdpknoeackpfaaMFnExactStoreSyncx1
import Derived.Test.YthdpknoeackpfaaMFnExactStoreSyncx2
import Derived.Test.YthdpknoeackpfaaMFnExactStoreSyncx3
import Derived.Test.YthdpknoeackpfaaMFnExactStoreSyncx6
import Derived.Test.YthdpknoeackpfaaMFnExactStoreSyncx10
namespace Go.Proofs.Ythdpknoeackpfaa.PFnExactStoreSync
open Go.RowKit Go.Proofs.YthdpknoeackpfaaW.PrintWords Go.Proofs.YthdpknoeackpfaaW.PrintLast Go.Proofs.YthdpknoeackpfaaW.PrintMore
attribute [local go_sem] max2_int min2_int max_two min_two max_three min_three max_four min_four   -- for this text's walks alone
set_option linter.unusedVariables false
set_option linter.unusedSimpArgs false

/-! ### laws_FnExactStoreSync: function 10 -/
mutual
def laws_FnExactStoreSync.j0 : Nat → Bool → Bool → Bool → List (S43) → List (S43) → Int → List (S34) → List (S34) → Int → List (S34) → List (S34) → Int → List (S34) → List (S34) → Int → Option (Bool)
 | 0, _, _, _, _, _, _, _, _, _, _, _, _, _, _, _ => none
 | k + 1, x5, x8, x40, x379000, x379001, x379002, x396000, x396001, x396002, x404000, x404001, x404002, x413000, x413001, x413002 => if x40 = true then (none) else ((laws_toStore.f k x379000 x379001 x379002).bind fun bt414 => ((laws_eqStore.f k x404000 x404001 x404002 bt414.1 bt414.2.1 bt414.2.2).bind fun t421 => (if t421 = true then ((laws_markStore.f k x404000 x404001 x404002 1).bind fun bt422 => (if bt422.1 < 0 then (laws_FnExactStoreSync.j1 k x5 true x379000 x379001 x379002 x396000 x396001 x396002 x413000 x413001 x413002) else ((laws_eqStore.f k x413000 x413001 x413002 x396000 x396001 x396002).bind fun t425 => (if t425 = true then (laws_FnExactStoreSync.j1 k x5 (x8 != x5) x379000 x379001 x379002 x396000 x396001 x396002 x413000 x413001 x413002) else (laws_FnExactStoreSync.j1 k x5 true x379000 x379001 x379002 x396000 x396001 x396002 x413000 x413001 x413002))))) else (none))))
def laws_FnExactStoreSync.j1 : Nat → Bool → Bool → List (S43) → List (S43) → Int → List (S34) → List (S34) → Int → List (S34) → List (S34) → Int → Option (Bool)
 | 0, _, _, _, _, _, _, _, _, _, _, _ => none
 | k + 1, x5, x61, x379000, x379001, x379002, x396000, x396001, x396002, x413000, x413001, x413002 => if x61 = true then (none) else ((laws_markStore.f k x413000 x413001 x413002 1).bind fun bt426 => ((laws_heldStore.f k bt426.2.1 bt426.2.2 x413002 1).bind fun t429 => (if t429 < 0 then (none) else (if t429 = bt426.1 then ((laws_toStore.f k x379000 x379001 x379002).bind fun bt430 => ((impl_StoreSync.f k bt430.1 bt430.2.1 bt430.2.2).bind fun bt437 => ((laws_eqStore.f k bt437.1 bt437.2.1 bt437.2.2.1 x396000 x396001 x396002).bind fun t446 => (if t446 = true then (laws_FnExactStoreSync.j2 k bt426.1 (bt437.2.2.2 != x5) bt426.2.1 bt426.2.2 x413002) else (laws_FnExactStoreSync.j2 k bt426.1 true bt426.2.1 bt426.2.2 x413002))))) else (none)))))
def laws_FnExactStoreSync.j2 : Nat → Int → Bool → List (S34) → List (S34) → Int → Option (Bool)
 | 0, _, _, _, _, _ => none
 | k + 1, x10, x87, x413000, x413001, x413002 => if x87 = true then (none) else ((laws_heldStore.f k x413000 x413001 x413002 1).bind fun t447 => (if t447 < 0 then (none) else (if t447 = x10 then (some true) else (none))))
end
def laws_FnExactStoreSync.f (k : Nat) (l0_0 : List (S43)) (l0_1 : List (S43)) (a0_2 : Int) : Option (Bool) := (laws_szStore.f k l0_0 l0_1 a0_2 1048576).bind fun t379 => (if t379 < 0 then (some true) else ((laws_toStore.f k l0_0 l0_1 a0_2).bind fun bt380 => ((spec_StoreSync.f k bt380.1 bt380.2.1 bt380.2.2).bind fun bt387 => ((laws_toStore.f k l0_0 l0_1 a0_2).bind fun bt396 => ((impl_StoreSync.f k bt396.1 bt396.2.1 bt396.2.2).bind fun bt404 => ((laws_eqStore.f k bt404.1 bt404.2.1 bt404.2.2.1 bt387.1 bt387.2.1 bt387.2.2.1).bind fun t413 => (if t413 = true then (laws_FnExactStoreSync.j0 k bt387.2.2.2 bt404.2.2.2 (bt404.2.2.2 != bt387.2.2.2) l0_0 l0_1 a0_2 bt387.1 bt387.2.1 bt387.2.2.1 bt396.1 bt396.2.1 bt396.2.2 bt404.1 bt404.2.1 bt404.2.2.1) else (laws_FnExactStoreSync.j0 k bt387.2.2.2 bt404.2.2.2 true l0_0 l0_1 a0_2 bt387.1 bt387.2.1 bt387.2.2.1 bt396.1 bt396.2.1 bt396.2.2 bt404.1 bt404.2.1 bt404.2.2.1))))))))
theorem laws_FnExactStoreSync.mono_l : ∀ k, (∀ y0 y1 y2 y3 y4 y5 y6 y7 y8 y9 y10 y11 y12 y13 y14, LeO (laws_FnExactStoreSync.j0 k y0 y1 y2 y3 y4 y5 y6 y7 y8 y9 y10 y11 y12 y13 y14) (laws_FnExactStoreSync.j0 (k + 1) y0 y1 y2 y3 y4 y5 y6 y7 y8 y9 y10 y11 y12 y13 y14)) ∧ (∀ y0 y1 y2 y3 y4 y5 y6 y7 y8 y9 y10, LeO (laws_FnExactStoreSync.j1 k y0 y1 y2 y3 y4 y5 y6 y7 y8 y9 y10) (laws_FnExactStoreSync.j1 (k + 1) y0 y1 y2 y3 y4 y5 y6 y7 y8 y9 y10)) ∧ (∀ y0 y1 y2 y3 y4, LeO (laws_FnExactStoreSync.j2 k y0 y1 y2 y3 y4) (laws_FnExactStoreSync.j2 (k + 1) y0 y1 y2 y3 y4))
 | 0 => ⟨fun _ _ _ _ _ _ _ _ _ _ _ _ _ _ _ r h => by simp [laws_FnExactStoreSync.j0] at h, fun _ _ _ _ _ _ _ _ _ _ _ r h => by simp [laws_FnExactStoreSync.j1] at h, fun _ _ _ _ _ r h => by simp [laws_FnExactStoreSync.j2] at h⟩
 | k + 1 => by
  obtain ⟨ih0, ih1, ih2⟩ := laws_FnExactStoreSync.mono_l k
  refine ⟨?_, ?_, ?_⟩
  ·intro y0 y1 y2 y3 y4 y5 y6 y7 y8 y9 y10 y11 y12 y13 y14
   unfold laws_FnExactStoreSync.j0
   repeat' first
   | (with_reducible exact ih0 _ _ _ _ _ _ _ _ _ _ _ _ _ _ _)
   | (with_reducible exact ih1 _ _ _ _ _ _ _ _ _ _ _)
   | (with_reducible exact ih2 _ _ _ _ _)
   | (with_reducible exact impl_StoreSync.mono _ _ _ _)
   | (with_reducible exact laws_eqStore.mono _ _ _ _ _ _ _)
   | (with_reducible exact laws_heldStore.mono _ _ _ _ _)
   | (with_reducible exact laws_markStore.mono _ _ _ _ _)
   | (with_reducible exact laws_szStore.mono _ _ _ _ _)
   | (with_reducible exact laws_toStore.mono _ _ _ _)
   | (with_reducible exact spec_StoreSync.mono _ _ _ _)
   | (with_reducible exact LeO.refl _)
   | (with_reducible exact LeO.none _)
   | (with_reducible refine LeO.ite ?_ ?_)
   | (with_reducible refine LeO.bind ?_ (fun _ => ?_))
   | exact ih0 _ _ _ _ _ _ _ _ _ _ _ _ _ _ _
   | exact ih1 _ _ _ _ _ _ _ _ _ _ _
   | exact ih2 _ _ _ _ _
   | exact impl_StoreSync.mono _ _ _ _
   | exact laws_eqStore.mono _ _ _ _ _ _ _
   | exact laws_heldStore.mono _ _ _ _ _
   | exact laws_markStore.mono _ _ _ _ _
   | exact laws_szStore.mono _ _ _ _ _
   | exact laws_toStore.mono _ _ _ _
   | exact spec_StoreSync.mono _ _ _ _
   | exact LeO.none _
   | refine LeO.ite ?_ ?_
   | refine LeO.bind ?_ (fun _ => ?_)
  ·intro y0 y1 y2 y3 y4 y5 y6 y7 y8 y9 y10
   unfold laws_FnExactStoreSync.j1
   repeat' first
   | (with_reducible exact ih0 _ _ _ _ _ _ _ _ _ _ _ _ _ _ _)
   | (with_reducible exact ih1 _ _ _ _ _ _ _ _ _ _ _)
   | (with_reducible exact ih2 _ _ _ _ _)
   | (with_reducible exact impl_StoreSync.mono _ _ _ _)
   | (with_reducible exact laws_eqStore.mono _ _ _ _ _ _ _)
   | (with_reducible exact laws_heldStore.mono _ _ _ _ _)
   | (with_reducible exact laws_markStore.mono _ _ _ _ _)
   | (with_reducible exact laws_szStore.mono _ _ _ _ _)
   | (with_reducible exact laws_toStore.mono _ _ _ _)
   | (with_reducible exact spec_StoreSync.mono _ _ _ _)
   | (with_reducible exact LeO.refl _)
   | (with_reducible exact LeO.none _)
   | (with_reducible refine LeO.ite ?_ ?_)
   | (with_reducible refine LeO.bind ?_ (fun _ => ?_))
   | exact ih0 _ _ _ _ _ _ _ _ _ _ _ _ _ _ _
   | exact ih1 _ _ _ _ _ _ _ _ _ _ _
   | exact ih2 _ _ _ _ _
   | exact impl_StoreSync.mono _ _ _ _
   | exact laws_eqStore.mono _ _ _ _ _ _ _
   | exact laws_heldStore.mono _ _ _ _ _
   | exact laws_markStore.mono _ _ _ _ _
   | exact laws_szStore.mono _ _ _ _ _
   | exact laws_toStore.mono _ _ _ _
   | exact spec_StoreSync.mono _ _ _ _
   | exact LeO.none _
   | refine LeO.ite ?_ ?_
   | refine LeO.bind ?_ (fun _ => ?_)
  ·intro y0 y1 y2 y3 y4
   unfold laws_FnExactStoreSync.j2
   repeat' first
   | (with_reducible exact ih0 _ _ _ _ _ _ _ _ _ _ _ _ _ _ _)
   | (with_reducible exact ih1 _ _ _ _ _ _ _ _ _ _ _)
   | (with_reducible exact ih2 _ _ _ _ _)
   | (with_reducible exact impl_StoreSync.mono _ _ _ _)
   | (with_reducible exact laws_eqStore.mono _ _ _ _ _ _ _)
   | (with_reducible exact laws_heldStore.mono _ _ _ _ _)
   | (with_reducible exact laws_markStore.mono _ _ _ _ _)
   | (with_reducible exact laws_szStore.mono _ _ _ _ _)
   | (with_reducible exact laws_toStore.mono _ _ _ _)
   | (with_reducible exact spec_StoreSync.mono _ _ _ _)
   | (with_reducible exact LeO.refl _)
   | (with_reducible exact LeO.none _)
   | (with_reducible refine LeO.ite ?_ ?_)
   | (with_reducible refine LeO.bind ?_ (fun _ => ?_))
   | exact ih0 _ _ _ _ _ _ _ _ _ _ _ _ _ _ _
   | exact ih1 _ _ _ _ _ _ _ _ _ _ _
   | exact ih2 _ _ _ _ _
   | exact impl_StoreSync.mono _ _ _ _
   | exact laws_eqStore.mono _ _ _ _ _ _ _
   | exact laws_heldStore.mono _ _ _ _ _
   | exact laws_markStore.mono _ _ _ _ _
   | exact laws_szStore.mono _ _ _ _ _
   | exact laws_toStore.mono _ _ _ _
   | exact spec_StoreSync.mono _ _ _ _
   | exact LeO.none _
   | refine LeO.ite ?_ ?_
   | refine LeO.bind ?_ (fun _ => ?_)
theorem laws_FnExactStoreSync.mono : ∀ a0 a1 a2 k, LeO (laws_FnExactStoreSync.f k a0 a1 a2) (laws_FnExactStoreSync.f (k + 1) a0 a1 a2) := by
 intro a0 a1 a2 k
 obtain ⟨ih0, ih1, ih2⟩ := laws_FnExactStoreSync.mono_l k
 unfold laws_FnExactStoreSync.f
 repeat' first
   | (with_reducible exact ih0 _ _ _ _ _ _ _ _ _ _ _ _ _ _ _)
   | (with_reducible exact ih1 _ _ _ _ _ _ _ _ _ _ _)
   | (with_reducible exact ih2 _ _ _ _ _)
   | (with_reducible exact impl_StoreSync.mono _ _ _ _)
   | (with_reducible exact laws_eqStore.mono _ _ _ _ _ _ _)
   | (with_reducible exact laws_heldStore.mono _ _ _ _ _)
   | (with_reducible exact laws_markStore.mono _ _ _ _ _)
   | (with_reducible exact laws_szStore.mono _ _ _ _ _)
   | (with_reducible exact laws_toStore.mono _ _ _ _)
   | (with_reducible exact spec_StoreSync.mono _ _ _ _)
   | (with_reducible exact LeO.refl _)
   | (with_reducible exact LeO.none _)
   | (with_reducible refine LeO.ite ?_ ?_)
   | (with_reducible refine LeO.bind ?_ (fun _ => ?_))
   | exact ih0 _ _ _ _ _ _ _ _ _ _ _ _ _ _ _
   | exact ih1 _ _ _ _ _ _ _ _ _ _ _
   | exact ih2 _ _ _ _ _
   | exact impl_StoreSync.mono _ _ _ _
   | exact laws_eqStore.mono _ _ _ _ _ _ _
   | exact laws_heldStore.mono _ _ _ _ _
   | exact laws_markStore.mono _ _ _ _ _
   | exact laws_szStore.mono _ _ _ _ _
   | exact laws_toStore.mono _ _ _ _
   | exact spec_StoreSync.mono _ _ _ _
   | exact LeO.none _
   | refine LeO.ite ?_ ?_
   | refine LeO.bind ?_ (fun _ => ?_)
set_option maxHeartbeats 8000000 in
set_option maxRecDepth 100000 in
theorem laws_FnExactStoreSync.calls (k : Nat) (A0_0 : Option Addr) (c0_0 : Nat) (l0_0 : List (S43)) (A0_1 : Option Addr) (c0_1 : Nat) (l0_1 : List (S43)) (a0_2 : Int) (r : Bool) (w : World) (hr0_0 : Kd.C k43 w A0_0 l0_0.length l0_0) (hc0_0 : l0_0.length ≤ c0_0) (hr0_1 : Kd.C k43 w A0_1 l0_1.length l0_1) (hc0_1 : l0_1.length ≤ c0_1) (h : laws_FnExactStoreSync.f k l0_0 l0_1 a0_2 = some r) :
  Calls Try.prog 10 #[.agg #[.slice A0_0 l0_0.length c0_0, .slice A0_1 l0_1.length c0_1, .int .i64 a0_2]] w fun e w' => e = .returned (.bool r) ∧ Below w.heap.size w w' := by
 have hu24 := Try.underlying24
 have hu29 := Try.underlying29
 have HR0_0 := Aside0.mk hr0_0
 have HC0_0 := Aside0.mk hc0_0
 clear hr0_0 hc0_0
 have HR0_1 := Aside0.mk hr0_1
 have HC0_1 := Aside0.mk hc0_1
 clear hr0_1 hc0_1
 have HB := Aside0.mk (Below.refl w.heap.size w)
 have H : ((laws_szStore.f k l0_0 l0_1 a0_2 1048576).bind fun t379 => (if t379 < 0 then (some true) else ((laws_toStore.f k l0_0 l0_1 a0_2).bind fun bt380 => ((spec_StoreSync.f k bt380.1 bt380.2.1 bt380.2.2).bind fun bt387 => ((laws_toStore.f k l0_0 l0_1 a0_2).bind fun bt396 => ((impl_StoreSync.f k bt396.1 bt396.2.1 bt396.2.2).bind fun bt404 => ((laws_eqStore.f k bt404.1 bt404.2.1 bt404.2.2.1 bt387.1 bt387.2.1 bt387.2.2.1).bind fun t413 => (if t413 = true then (laws_FnExactStoreSync.j0 k bt387.2.2.2 bt404.2.2.2 (bt404.2.2.2 != bt387.2.2.2) l0_0 l0_1 a0_2 bt387.1 bt387.2.1 bt387.2.2.1 bt396.1 bt396.2.1 bt396.2.2 bt404.1 bt404.2.1 bt404.2.2.1) else (laws_FnExactStoreSync.j0 k bt387.2.2.2 bt404.2.2.2 true l0_0 l0_1 a0_2 bt387.1 bt387.2.1 bt387.2.2.1 bt396.1 bt396.2.1 bt396.2.2 bt404.1 bt404.2.1 bt404.2.2.1))))))))) = some r := h
 clear h
 replace H := Option.bind_eq_some_iff.mp H
 obtain ⟨t379, A20, H⟩ := H
 replace H : (if t379 < 0 then (some true) else ((laws_toStore.f k l0_0 l0_1 a0_2).bind fun bt380 => ((spec_StoreSync.f k bt380.1 bt380.2.1 bt380.2.2).bind fun bt387 => ((laws_toStore.f k l0_0 l0_1 a0_2).bind fun bt396 => ((impl_StoreSync.f k bt396.1 bt396.2.1 bt396.2.2).bind fun bt404 => ((laws_eqStore.f k bt404.1 bt404.2.1 bt404.2.2.1 bt387.1 bt387.2.1 bt387.2.2.1).bind fun t413 => (if t413 = true then (laws_FnExactStoreSync.j0 k bt387.2.2.2 bt404.2.2.2 (bt404.2.2.2 != bt387.2.2.2) l0_0 l0_1 a0_2 bt387.1 bt387.2.1 bt387.2.2.1 bt396.1 bt396.2.1 bt396.2.2 bt404.1 bt404.2.1 bt404.2.2.1) else (laws_FnExactStoreSync.j0 k bt387.2.2.2 bt404.2.2.2 true l0_0 l0_1 a0_2 bt387.1 bt387.2.1 bt387.2.2.1 bt396.1 bt396.2.1 bt396.2.2 bt404.1 bt404.2.1 bt404.2.2.1)))))))) = some r := H
 have A2 := Aside0.mk A20
 clear A20
 by_cases c3 : t379 < 0
 ·rw [if_pos c3] at H
  have c3b0 : decide (t379 < 0) = true := decide_eq_true c3
  clear c3
  obtain rfl := Option.some.inj H
  go_enter Try.func10, Try.ntmps10
  go_wp2_with (first | ((with_reducible refine gate_dst (N := 1) rfl ?_); refine box_event ?hg (N := 1) ?hd (cs := #[.slice A0_0 l0_0.length c0_0, .slice A0_1 l0_1.length c0_1, .int .i64 a0_2]) (t := 24) ?hr ?_; (case hd => rfl); (case hg => rfl); (case hr => first | (go_simp; done) | (go_simp; rfl)); intro gb378 hg w4 hbox hb; have n0_ := Aside0.mk (below_step KB hb); have n1_ := Aside0.mk (hbox); have n2_ := Aside0.mk ((by rw [hg]; exact (below_size KB) : w.heap.size ≤ gb378)); have n3_ := Aside0.mk ((by rw [hg]; exact (below_size KB) : w.heap.size ≤ gb378)); clear HB; have HB := n0_; have BK378 := n1_; have GW378 := n2_; have GE378 := n3_; clear n0_ n1_ n2_ n3_; clear hb hbox hg; have hcz5_0 : w4.cell? ⟨gb378, 0, none⟩ = some (.slice A0_0 l0_0.length c0_0) := (blk_cell BK378.out 0).trans rfl; have hcz5_1 : w4.cell? ⟨gb378, 1, none⟩ = some (.slice A0_1 l0_1.length c0_1) := (blk_cell BK378.out 1).trans rfl; have hcz5_2 : w4.cell? ⟨gb378, 2, none⟩ = some (.int .i64 a0_2) := (blk_cell BK378.out 2).trans rfl; have hfz5_0 := blk_frozen BK378.out 0; have hfz5_1 := blk_frozen BK378.out 1; have hfz5_2 := blk_frozen BK378.out 2) | ((with_reducible refine gate_callee (f := 15) rfl ?_); refine goesL_ (some 16) rfl rfl Try.func15 (by kernel_rfl) rfl #[.agg #[.slice A0_0 l0_0.length c0_0, .slice A0_1 l0_1.length c0_1, .int .i64 a0_2], .int .i64 1048576] rfl KL ?_; (with_reducible refine (laws_szStore.calls k _ _ l0_0 _ _ l0_1 a0_2 1048576 t379 _ ?side1 ?side2 ?side3 ?side4 A2.out).mono ?_); (case side1 => exact KD (Kd.C_below HR0_0.out HB.out)); (case side2 => exact HC0_0.out); (case side3 => exact KD (Kd.C_below HR0_1.out HB.out)); (case side4 => exact HC0_1.out); rintro e w6 ⟨rfl, hb⟩; refine ⟨_, rfl, ?_⟩; have n0_ := Aside0.mk (blk_below (g := gb378) (o := .cells #[.slice A0_0 l0_0.length c0_0, .slice A0_1 l0_1.length c0_1, .int .i64 a0_2] 24 (0, 0)) KK hb); have n1_ := Aside0.mk (below_step KB hb); clear BK378; clear HB; have BK378 := n0_; have HB := n1_; clear n0_ n1_; (try clear hb); (try clear hb2); (try clear hk); (try clear hi)))
  go_ret
  exact ⟨KE, KB⟩
 ·rw [if_neg c3] at H
  have c3b0 : decide (t379 < 0) = false := decide_eq_false c3
  clear c3
  replace H := Option.bind_eq_some_iff.mp H
  obtain ⟨⟨t380, t383, t386⟩, A70, H⟩ := H
  replace H : ((spec_StoreSync.f k t380 t383 t386).bind fun bt387 => ((laws_toStore.f k l0_0 l0_1 a0_2).bind fun bt396 => ((impl_StoreSync.f k bt396.1 bt396.2.1 bt396.2.2).bind fun bt404 => ((laws_eqStore.f k bt404.1 bt404.2.1 bt404.2.2.1 bt387.1 bt387.2.1 bt387.2.2.1).bind fun t413 => (if t413 = true then (laws_FnExactStoreSync.j0 k bt387.2.2.2 bt404.2.2.2 (bt404.2.2.2 != bt387.2.2.2) l0_0 l0_1 a0_2 bt387.1 bt387.2.1 bt387.2.2.1 bt396.1 bt396.2.1 bt396.2.2 bt404.1 bt404.2.1 bt404.2.2.1) else (laws_FnExactStoreSync.j0 k bt387.2.2.2 bt404.2.2.2 true l0_0 l0_1 a0_2 bt387.1 bt387.2.1 bt387.2.2.1 bt396.1 bt396.2.1 bt396.2.2 bt404.1 bt404.2.1 bt404.2.2.1)))))) = some r := H
  have A7 := Aside0.mk A70
  clear A70
  replace H := Option.bind_eq_some_iff.mp H
  obtain ⟨⟨t387, t390, t393, t394⟩, A80, H⟩ := H
  replace H : ((laws_toStore.f k l0_0 l0_1 a0_2).bind fun bt396 => ((impl_StoreSync.f k bt396.1 bt396.2.1 bt396.2.2).bind fun bt404 => ((laws_eqStore.f k bt404.1 bt404.2.1 bt404.2.2.1 t387 t390 t393).bind fun t413 => (if t413 = true then (laws_FnExactStoreSync.j0 k t394 bt404.2.2.2 (bt404.2.2.2 != t394) l0_0 l0_1 a0_2 t387 t390 t393 bt396.1 bt396.2.1 bt396.2.2 bt404.1 bt404.2.1 bt404.2.2.1) else (laws_FnExactStoreSync.j0 k t394 bt404.2.2.2 true l0_0 l0_1 a0_2 t387 t390 t393 bt396.1 bt396.2.1 bt396.2.2 bt404.1 bt404.2.1 bt404.2.2.1))))) = some r := H
  have A8 := Aside0.mk A80
  clear A80
  replace H := Option.bind_eq_some_iff.mp H
  obtain ⟨⟨t396, t399, t402⟩, A90, H⟩ := H
  replace H : ((impl_StoreSync.f k t396 t399 t402).bind fun bt404 => ((laws_eqStore.f k bt404.1 bt404.2.1 bt404.2.2.1 t387 t390 t393).bind fun t413 => (if t413 = true then (laws_FnExactStoreSync.j0 k t394 bt404.2.2.2 (bt404.2.2.2 != t394) l0_0 l0_1 a0_2 t387 t390 t393 t396 t399 t402 bt404.1 bt404.2.1 bt404.2.2.1) else (laws_FnExactStoreSync.j0 k t394 bt404.2.2.2 true l0_0 l0_1 a0_2 t387 t390 t393 t396 t399 t402 bt404.1 bt404.2.1 bt404.2.2.1)))) = some r := H
  have A9 := Aside0.mk A90
  clear A90
  replace H := Option.bind_eq_some_iff.mp H
  obtain ⟨⟨t404, t407, t410, t411⟩, A100, H⟩ := H
  replace H : ((laws_eqStore.f k t404 t407 t410 t387 t390 t393).bind fun t413 => (if t413 = true then (laws_FnExactStoreSync.j0 k t394 t411 (t411 != t394) l0_0 l0_1 a0_2 t387 t390 t393 t396 t399 t402 t404 t407 t410) else (laws_FnExactStoreSync.j0 k t394 t411 true l0_0 l0_1 a0_2 t387 t390 t393 t396 t399 t402 t404 t407 t410))) = some r := H
  have A10 := Aside0.mk A100
  clear A100
  have HC11 := Aside0.mk H
  clear H
  go_enter Try.func10, Try.ntmps10
  go_upto_region 8 with (first | ((with_reducible refine gate_dst (N := 1) rfl ?_); refine box_event ?hg (N := 1) ?hd (cs := #[.slice A0_0 l0_0.length c0_0, .slice A0_1 l0_1.length c0_1, .int .i64 a0_2]) (t := 24) ?hr ?_; (case hd => rfl); (case hg => rfl); (case hr => first | (go_simp; done) | (go_simp; rfl)); intro gb378 hg w12 hbox hb; have n0_ := Aside0.mk (below_step KB hb); have n1_ := Aside0.mk (hbox); have n2_ := Aside0.mk ((by rw [hg]; exact (below_size KB) : w.heap.size ≤ gb378)); have n3_ := Aside0.mk ((by rw [hg]; exact (below_size KB) : w.heap.size ≤ gb378)); clear HB; have HB := n0_; have BK378 := n1_; have GW378 := n2_; have GE378 := n3_; clear n0_ n1_ n2_ n3_; clear hb hbox hg; have hcz13_0 : w12.cell? ⟨gb378, 0, none⟩ = some (.slice A0_0 l0_0.length c0_0) := (blk_cell BK378.out 0).trans rfl; have hcz13_1 : w12.cell? ⟨gb378, 1, none⟩ = some (.slice A0_1 l0_1.length c0_1) := (blk_cell BK378.out 1).trans rfl; have hcz13_2 : w12.cell? ⟨gb378, 2, none⟩ = some (.int .i64 a0_2) := (blk_cell BK378.out 2).trans rfl; have hfz13_0 := blk_frozen BK378.out 0; have hfz13_1 := blk_frozen BK378.out 1; have hfz13_2 := blk_frozen BK378.out 2) | ((with_reducible refine gate_callee (f := 15) rfl ?_); refine goesL_ (some 16) rfl rfl Try.func15 (by kernel_rfl) rfl #[.agg #[.slice A0_0 l0_0.length c0_0, .slice A0_1 l0_1.length c0_1, .int .i64 a0_2], .int .i64 1048576] rfl KL ?_; (with_reducible refine (laws_szStore.calls k _ _ l0_0 _ _ l0_1 a0_2 1048576 t379 _ ?side1 ?side2 ?side3 ?side4 A2.out).mono ?_); (case side1 => exact KD (Kd.C_below HR0_0.out HB.out)); (case side2 => exact HC0_0.out); (case side3 => exact KD (Kd.C_below HR0_1.out HB.out)); (case side4 => exact HC0_1.out); rintro e w14 ⟨rfl, hb⟩; refine ⟨_, rfl, ?_⟩; have n0_ := Aside0.mk (blk_below (g := gb378) (o := .cells #[.slice A0_0 l0_0.length c0_0, .slice A0_1 l0_1.length c0_1, .int .i64 a0_2] 24 (0, 0)) KK hb); have n1_ := Aside0.mk (below_step KB hb); clear BK378; clear HB; have BK378 := n0_; have HB := n1_; clear n0_ n1_; (try clear hb); (try clear hb2); (try clear hk); (try clear hi); have hcz15_0 : w14.cell? ⟨gb378, 0, none⟩ = some (.slice A0_0 l0_0.length c0_0) := (blk_cell BK378.out 0).trans rfl; have hcz15_1 : w14.cell? ⟨gb378, 1, none⟩ = some (.slice A0_1 l0_1.length c0_1) := (blk_cell BK378.out 1).trans rfl; have hcz15_2 : w14.cell? ⟨gb378, 2, none⟩ = some (.int .i64 a0_2) := (blk_cell BK378.out 2).trans rfl; have hfz15_0 := blk_frozen BK378.out 0; have hfz15_1 := blk_frozen BK378.out 1; have hfz15_2 := blk_frozen BK378.out 2) | ((with_reducible refine gate_callee (f := 17) rfl ?_); refine goesL_ (some 21) rfl rfl Try.func17 (by kernel_rfl) rfl #[.agg #[.slice A0_0 l0_0.length c0_0, .slice A0_1 l0_1.length c0_1, .int .i64 a0_2]] rfl KL ?_; (with_reducible refine (laws_toStore.calls k _ _ l0_0 _ _ l0_1 a0_2 t380 t383 t386 _ ?side1 ?side2 ?side3 ?side4 A7.out).mono ?_); (case side1 => exact KD (Kd.C_below HR0_0.out HB.out)); (case side2 => exact HC0_0.out); (case side3 => exact KD (Kd.C_below HR0_1.out HB.out)); (case side4 => exact HC0_1.out); rintro e w16 ⟨v381, v384, rfl, ho0, ho1, hb⟩; refine ⟨_, rfl, ?_⟩; have n0_ := Aside0.mk (Kd.R_lower ho0 (below_size KB)); have n1_ := Aside0.mk (Kd.R_lower ho1 (below_size KB)); have n2_ := Aside0.mk (blk_below (g := gb378) (o := .cells #[.slice A0_0 l0_0.length c0_0, .slice A0_1 l0_1.length c0_1, .int .i64 a0_2] 24 (0, 0)) KK hb); have n3_ := Aside0.mk (below_step KB hb); clear BK378; clear HB; have HO382 := n0_; have HO385 := n1_; have BK378 := n2_; have HB := n3_; clear n0_ n1_ n2_ n3_; (try clear hb); (try clear hb2); (try clear hk); (try clear hi); (try clear ho0); (try clear ho1); obtain ⟨Ao17, co17, eo17⟩ := Kd.R_slice HO382.out; subst eo17; obtain ⟨Ao18, co18, eo18⟩ := Kd.R_slice HO385.out; subst eo18) | ((with_reducible refine gate_callee (f := 43) rfl ?_); refine goesL_ (some 22) rfl rfl Try.func43 (by kernel_rfl) rfl #[.agg #[.slice Ao17 t380.length co17, .slice Ao18 t383.length co18, .int .i64 t386]] rfl KL ?_; (with_reducible refine (spec_StoreSync.calls k _ _ t380 _ _ t383 t386 t387 t390 t393 t394 _ ?side1 ?side2 ?side3 ?side4 A8.out).mono ?_); (case side1 => repeat (first | exact (Kd.R_reads' HO382.out).2.2 | (with_reducible refine Kd.C_alloc ?_ _) | (with_reducible refine Kd.C_drewN ?_ _) | (with_reducible refine Kd.C_drew ?_))); (case side2 => exact (Kd.R_reads' HO382.out).2.1); (case side3 => repeat (first | exact (Kd.R_reads' HO385.out).2.2 | (with_reducible refine Kd.C_alloc ?_ _) | (with_reducible refine Kd.C_drewN ?_ _) | (with_reducible refine Kd.C_drew ?_))); (case side4 => exact (Kd.R_reads' HO385.out).2.1); rintro e w19 ⟨v388, v391, rfl, ho0, ho1, hb⟩; refine ⟨_, rfl, ?_⟩; have n0_ := Aside0.mk (Kd.R_mono (Kd.R_told (Kd.R_told (Kd.R_old (KR HO382.out) hb) (Kd.R_base ho0)) (Kd.R_base ho1)) (fun _ h_ => h_.1)); have n1_ := Aside0.mk (Kd.R_mono (Kd.R_told (Kd.R_told (Kd.R_old (KR HO385.out) hb) (Kd.R_base ho0)) (Kd.R_base ho1)) (fun _ h_ => h_.1)); have n2_ := Aside0.mk (Kd.R_lower (Kd.R_new' (Kd.R_new' ho0 (Kd.R_lt (KR HO382.out))) (Kd.R_lt (KR HO385.out))) (below_size KB)); have n3_ := Aside0.mk (Kd.R_lower (Kd.R_new' (Kd.R_new' ho1 (Kd.R_lt (KR HO382.out))) (Kd.R_lt (KR HO385.out))) (below_size KB)); have n4_ := Aside0.mk (blk_below (g := gb378) (o := .cells #[.slice A0_0 l0_0.length c0_0, .slice A0_1 l0_1.length c0_1, .int .i64 a0_2] 24 (0, 0)) KK hb); have n5_ := Aside0.mk (below_step KB hb); clear HO382; clear HO385; clear BK378; clear HB; have HO382 := n0_; have HO385 := n1_; have HO389 := n2_; have HO392 := n3_; have BK378 := n4_; have HB := n5_; clear n0_ n1_ n2_ n3_ n4_ n5_; (try clear hb); (try clear hb2); (try clear hk); (try clear hi); (try clear ho0); (try clear ho1)) | ((with_reducible refine gate_dst (N := 4) rfl ?_); refine box_event ?hg (N := 4) ?hd (cs := #[.slice none 0 0, .slice none 0 0, .int .i64 0]) (t := 29) ?hr ?_; (case hd => rfl); (case hg => rfl); (case hr => first | (go_simp; done) | (go_simp; rfl)); intro gb395 hg w20 hbox hb; have n0_ := Aside0.mk (Kd.R_below (KR HO382.out) hb); have n1_ := Aside0.mk (Kd.R_below (KR HO385.out) hb); have n2_ := Aside0.mk (Kd.R_below (KR HO389.out) hb); have n3_ := Aside0.mk (Kd.R_below (KR HO392.out) hb); have n4_ := Aside0.mk (blk_below (g := gb378) (o := .cells #[.slice A0_0 l0_0.length c0_0, .slice A0_1 l0_1.length c0_1, .int .i64 a0_2] 24 (0, 0)) KK hb); have n5_ := Aside0.mk (below_step KB hb); have n6_ := Aside0.mk (hbox); have n7_ := Aside0.mk ((by rw [hg]; exact (below_size KB) : w.heap.size ≤ gb395)); have n8_ := Aside0.mk ((by rw [hg]; exact (below_size KB) : w.heap.size ≤ gb395)); have n9_ := Aside0.mk ((by rw [hg]; exact Nat.ne_of_lt (blk_lt (g := gb378) (o := .cells #[.slice A0_0 l0_0.length c0_0, .slice A0_1 l0_1.length c0_1, .int .i64 a0_2] 24 (0, 0)) KK) : gb378 ≠ gb395)); have n10_ := Aside0.mk ((by rw [hg]; exact Nat.ne_of_gt (blk_lt (g := gb378) (o := .cells #[.slice A0_0 l0_0.length c0_0, .slice A0_1 l0_1.length c0_1, .int .i64 a0_2] 24 (0, 0)) KK) : gb395 ≠ gb378)); clear HO382; clear HO385; clear HO389; clear HO392; clear BK378; clear HB; have HO382 := n0_; have HO385 := n1_; have HO389 := n2_; have HO392 := n3_; have BK378 := n4_; have HB := n5_; have BK395 := n6_; have GW395 := n7_; have GE395 := n8_; have NB378_395 := n9_; have NB395_378 := n10_; clear n0_ n1_ n2_ n3_ n4_ n5_ n6_ n7_ n8_ n9_ n10_; clear hb hbox hg; obtain ⟨Ao21, co21, eo21⟩ := Kd.R_slice HO389.out; subst eo21; have hnb22 := NB395_378.out; have hnc22 := NB378_395.out; have hcz23_0 : w20.cell? ⟨gb395, 0, none⟩ = some (.slice none 0 0) := (blk_cell BK395.out 0).trans rfl; have hcz23_1 : w20.cell? ⟨gb395, 1, none⟩ = some (.slice none 0 0) := (blk_cell BK395.out 1).trans rfl; have hcz23_2 : w20.cell? ⟨gb395, 2, none⟩ = some (.int .i64 0) := (blk_cell BK395.out 2).trans rfl; have hfz23_0 := blk_frozen BK395.out 0; have hfz23_1 := blk_frozen BK395.out 1; have hfz23_2 := blk_frozen BK395.out 2; obtain ⟨Ao24, co24, eo24⟩ := Kd.R_slice HO392.out; subst eo24; have hcz25_0 : w20.cell? ⟨gb378, 0, none⟩ = some (.slice A0_0 l0_0.length c0_0) := (blk_cell BK378.out 0).trans rfl; have hcz25_1 : w20.cell? ⟨gb378, 1, none⟩ = some (.slice A0_1 l0_1.length c0_1) := (blk_cell BK378.out 1).trans rfl; have hcz25_2 : w20.cell? ⟨gb378, 2, none⟩ = some (.int .i64 a0_2) := (blk_cell BK378.out 2).trans rfl; have hfz25_0 := blk_frozen BK378.out 0; have hfz25_1 := blk_frozen BK378.out 1; have hfz25_2 := blk_frozen BK378.out 2) | ((with_reducible refine gate_callee (f := 17) rfl ?_); refine goesL_ (some 26) rfl rfl Try.func17 (by kernel_rfl) rfl #[.agg #[.slice A0_0 l0_0.length c0_0, .slice A0_1 l0_1.length c0_1, .int .i64 a0_2]] rfl KL ?_; (with_reducible refine (laws_toStore.calls k _ _ l0_0 _ _ l0_1 a0_2 t396 t399 t402 _ ?side1 ?side2 ?side3 ?side4 A9.out).mono ?_); (case side1 => exact Kd.C_below HR0_0.out KB); (case side2 => exact HC0_0.out); (case side3 => exact Kd.C_below HR0_1.out KB); (case side4 => exact HC0_1.out); rintro e w26 ⟨v397, v400, rfl, ho0, ho1, hb⟩; refine ⟨_, rfl, ?_⟩; have n0_ := Aside0.mk (Kd.R_mono (Kd.R_told (Kd.R_told (Kd.R_old (by (with_reducible repeat (first | apply Kd.R_alloc | apply Kd.R_drewN | apply Kd.R_drew)); exact (Kd.R_mono (Kd.R_far (p := ⟨gb395, 2, none⟩) (Kd.R_far (p := ⟨gb395, 1, none⟩) (Kd.R_far (p := ⟨gb395, 0, none⟩) (Kd.R_types HO382.out BK395.out (by decide)) (fun _ hk => hk.2) (.slice Ao21 t387.length co21)) (fun _ hk => hk.2) (.slice Ao24 t390.length co24)) (fun _ hk => hk.2) (.int .i64 t393)) (fun _ h_ => h_.1))) hb) (Kd.R_base ho0)) (Kd.R_base ho1)) (fun _ h_ => h_.1)); have n1_ := Aside0.mk (Kd.R_mono (Kd.R_told (Kd.R_told (Kd.R_old (by (with_reducible repeat (first | apply Kd.R_alloc | apply Kd.R_drewN | apply Kd.R_drew)); exact (Kd.R_mono (Kd.R_far (p := ⟨gb395, 2, none⟩) (Kd.R_far (p := ⟨gb395, 1, none⟩) (Kd.R_far (p := ⟨gb395, 0, none⟩) (Kd.R_types HO385.out BK395.out (by decide)) (fun _ hk => hk.2) (.slice Ao21 t387.length co21)) (fun _ hk => hk.2) (.slice Ao24 t390.length co24)) (fun _ hk => hk.2) (.int .i64 t393)) (fun _ h_ => h_.1))) hb) (Kd.R_base ho0)) (Kd.R_base ho1)) (fun _ h_ => h_.1)); have n2_ := Aside0.mk (Kd.R_mono (Kd.R_told (Kd.R_told (Kd.R_old (by (with_reducible repeat (first | apply Kd.R_alloc | apply Kd.R_drewN | apply Kd.R_drew)); exact (Kd.R_mono (Kd.R_far (p := ⟨gb395, 2, none⟩) (Kd.R_far (p := ⟨gb395, 1, none⟩) (Kd.R_far (p := ⟨gb395, 0, none⟩) (Kd.R_types HO389.out BK395.out (by decide)) (fun _ hk => hk.2) (.slice Ao21 t387.length co21)) (fun _ hk => hk.2) (.slice Ao24 t390.length co24)) (fun _ hk => hk.2) (.int .i64 t393)) (fun _ h_ => h_.1))) hb) (Kd.R_base ho0)) (Kd.R_base ho1)) (fun _ h_ => h_.1)); have n3_ := Aside0.mk (Kd.R_mono (Kd.R_told (Kd.R_told (Kd.R_old (by (with_reducible repeat (first | apply Kd.R_alloc | apply Kd.R_drewN | apply Kd.R_drew)); exact (Kd.R_mono (Kd.R_far (p := ⟨gb395, 2, none⟩) (Kd.R_far (p := ⟨gb395, 1, none⟩) (Kd.R_far (p := ⟨gb395, 0, none⟩) (Kd.R_types HO392.out BK395.out (by decide)) (fun _ hk => hk.2) (.slice Ao21 t387.length co21)) (fun _ hk => hk.2) (.slice Ao24 t390.length co24)) (fun _ hk => hk.2) (.int .i64 t393)) (fun _ h_ => h_.1))) hb) (Kd.R_base ho0)) (Kd.R_base ho1)) (fun _ h_ => h_.1)); have n4_ := Aside0.mk (Kd.R_lower (Kd.R_new' (Kd.R_new' (Kd.R_new' (Kd.R_new' ho0 (Kd.R_lt (by (with_reducible repeat (first | apply Kd.R_alloc | apply Kd.R_drewN | apply Kd.R_drew)); exact (Kd.R_mono (Kd.R_far (p := ⟨gb395, 2, none⟩) (Kd.R_far (p := ⟨gb395, 1, none⟩) (Kd.R_far (p := ⟨gb395, 0, none⟩) (Kd.R_types HO382.out BK395.out (by decide)) (fun _ hk => hk.2) (.slice Ao21 t387.length co21)) (fun _ hk => hk.2) (.slice Ao24 t390.length co24)) (fun _ hk => hk.2) (.int .i64 t393)) (fun _ h_ => h_.1))))) (Kd.R_lt (by (with_reducible repeat (first | apply Kd.R_alloc | apply Kd.R_drewN | apply Kd.R_drew)); exact (Kd.R_mono (Kd.R_far (p := ⟨gb395, 2, none⟩) (Kd.R_far (p := ⟨gb395, 1, none⟩) (Kd.R_far (p := ⟨gb395, 0, none⟩) (Kd.R_types HO385.out BK395.out (by decide)) (fun _ hk => hk.2) (.slice Ao21 t387.length co21)) (fun _ hk => hk.2) (.slice Ao24 t390.length co24)) (fun _ hk => hk.2) (.int .i64 t393)) (fun _ h_ => h_.1))))) (Kd.R_lt (by (with_reducible repeat (first | apply Kd.R_alloc | apply Kd.R_drewN | apply Kd.R_drew)); exact (Kd.R_mono (Kd.R_far (p := ⟨gb395, 2, none⟩) (Kd.R_far (p := ⟨gb395, 1, none⟩) (Kd.R_far (p := ⟨gb395, 0, none⟩) (Kd.R_types HO389.out BK395.out (by decide)) (fun _ hk => hk.2) (.slice Ao21 t387.length co21)) (fun _ hk => hk.2) (.slice Ao24 t390.length co24)) (fun _ hk => hk.2) (.int .i64 t393)) (fun _ h_ => h_.1))))) (Kd.R_lt (by (with_reducible repeat (first | apply Kd.R_alloc | apply Kd.R_drewN | apply Kd.R_drew)); exact (Kd.R_mono (Kd.R_far (p := ⟨gb395, 2, none⟩) (Kd.R_far (p := ⟨gb395, 1, none⟩) (Kd.R_far (p := ⟨gb395, 0, none⟩) (Kd.R_types HO392.out BK395.out (by decide)) (fun _ hk => hk.2) (.slice Ao21 t387.length co21)) (fun _ hk => hk.2) (.slice Ao24 t390.length co24)) (fun _ hk => hk.2) (.int .i64 t393)) (fun _ h_ => h_.1))))) (below_size KB)); have n5_ := Aside0.mk (Kd.R_lower (Kd.R_new' (Kd.R_new' (Kd.R_new' (Kd.R_new' ho1 (Kd.R_lt (by (with_reducible repeat (first | apply Kd.R_alloc | apply Kd.R_drewN | apply Kd.R_drew)); exact (Kd.R_mono (Kd.R_far (p := ⟨gb395, 2, none⟩) (Kd.R_far (p := ⟨gb395, 1, none⟩) (Kd.R_far (p := ⟨gb395, 0, none⟩) (Kd.R_types HO382.out BK395.out (by decide)) (fun _ hk => hk.2) (.slice Ao21 t387.length co21)) (fun _ hk => hk.2) (.slice Ao24 t390.length co24)) (fun _ hk => hk.2) (.int .i64 t393)) (fun _ h_ => h_.1))))) (Kd.R_lt (by (with_reducible repeat (first | apply Kd.R_alloc | apply Kd.R_drewN | apply Kd.R_drew)); exact (Kd.R_mono (Kd.R_far (p := ⟨gb395, 2, none⟩) (Kd.R_far (p := ⟨gb395, 1, none⟩) (Kd.R_far (p := ⟨gb395, 0, none⟩) (Kd.R_types HO385.out BK395.out (by decide)) (fun _ hk => hk.2) (.slice Ao21 t387.length co21)) (fun _ hk => hk.2) (.slice Ao24 t390.length co24)) (fun _ hk => hk.2) (.int .i64 t393)) (fun _ h_ => h_.1))))) (Kd.R_lt (by (with_reducible repeat (first | apply Kd.R_alloc | apply Kd.R_drewN | apply Kd.R_drew)); exact (Kd.R_mono (Kd.R_far (p := ⟨gb395, 2, none⟩) (Kd.R_far (p := ⟨gb395, 1, none⟩) (Kd.R_far (p := ⟨gb395, 0, none⟩) (Kd.R_types HO389.out BK395.out (by decide)) (fun _ hk => hk.2) (.slice Ao21 t387.length co21)) (fun _ hk => hk.2) (.slice Ao24 t390.length co24)) (fun _ hk => hk.2) (.int .i64 t393)) (fun _ h_ => h_.1))))) (Kd.R_lt (by (with_reducible repeat (first | apply Kd.R_alloc | apply Kd.R_drewN | apply Kd.R_drew)); exact (Kd.R_mono (Kd.R_far (p := ⟨gb395, 2, none⟩) (Kd.R_far (p := ⟨gb395, 1, none⟩) (Kd.R_far (p := ⟨gb395, 0, none⟩) (Kd.R_types HO392.out BK395.out (by decide)) (fun _ hk => hk.2) (.slice Ao21 t387.length co21)) (fun _ hk => hk.2) (.slice Ao24 t390.length co24)) (fun _ hk => hk.2) (.int .i64 t393)) (fun _ h_ => h_.1))))) (below_size KB)); have n6_ := Aside0.mk (blk_below (g := gb378) (o := .cells #[.slice A0_0 l0_0.length c0_0, .slice A0_1 l0_1.length c0_1, .int .i64 a0_2] 24 (0, 0)) KK hb); have n7_ := Aside0.mk (blk_below (g := gb395) (o := .cells #[.slice Ao21 t387.length co21, .slice Ao24 t390.length co24, .int .i64 t393] 29 (0, 0)) (by (with_reducible repeat (first | refine blk_drewN ?_ _ | refine blk_drew ?_ | refine blk_alloc ?_ _)); refine blk_put (cs := #[.slice Ao21 t387.length co21, .slice Ao24 t390.length co24, .int .i64 0]) ?_ 2 _ rfl; (with_reducible repeat (first | refine blk_drewN ?_ _ | refine blk_drew ?_ | refine blk_alloc ?_ _)); refine blk_put (cs := #[.slice Ao21 t387.length co21, .slice none 0 0, .int .i64 0]) ?_ 1 _ rfl; (with_reducible repeat (first | refine blk_drewN ?_ _ | refine blk_drew ?_ | refine blk_alloc ?_ _)); refine blk_put (cs := #[.slice none 0 0, .slice none 0 0, .int .i64 0]) ?_ 0 _ rfl; (with_reducible repeat (first | refine blk_drewN ?_ _ | refine blk_drew ?_ | refine blk_alloc ?_ _)); exact BK395.out) hb); have n8_ := Aside0.mk (below_step KB hb); clear HO382; clear HO385; clear HO389; clear HO392; clear BK378; clear BK395; clear HB; have HO382 := n0_; have HO385 := n1_; have HO389 := n2_; have HO392 := n3_; have HO398 := n4_; have HO401 := n5_; have BK378 := n6_; have BK395 := n7_; have HB := n8_; clear n0_ n1_ n2_ n3_ n4_ n5_ n6_ n7_ n8_; (try clear hb); (try clear hb2); (try clear hk); (try clear hi); (try clear ho0); (try clear ho1)) | ((with_reducible refine gate_dst (N := 6) rfl ?_); refine box_event ?hg (N := 6) ?hd (cs := #[.slice none 0 0, .slice none 0 0, .int .i64 0]) (t := 29) ?hr ?_; (case hd => rfl); (case hg => rfl); (case hr => first | (go_simp; done) | (go_simp; rfl)); intro gb403 hg w27 hbox hb; have n0_ := Aside0.mk (Kd.R_below (KR HO382.out) hb); have n1_ := Aside0.mk (Kd.R_below (KR HO385.out) hb); have n2_ := Aside0.mk (Kd.R_below (KR HO389.out) hb); have n3_ := Aside0.mk (Kd.R_below (KR HO392.out) hb); have n4_ := Aside0.mk (Kd.R_below (KR HO398.out) hb); have n5_ := Aside0.mk (Kd.R_below (KR HO401.out) hb); have n6_ := Aside0.mk (blk_below (g := gb378) (o := .cells #[.slice A0_0 l0_0.length c0_0, .slice A0_1 l0_1.length c0_1, .int .i64 a0_2] 24 (0, 0)) KK hb); have n7_ := Aside0.mk (blk_below (g := gb395) (o := .cells #[.slice Ao21 t387.length co21, .slice Ao24 t390.length co24, .int .i64 t393] 29 (0, 0)) KK hb); have n8_ := Aside0.mk (below_step KB hb); have n9_ := Aside0.mk (hbox); have n10_ := Aside0.mk ((by rw [hg]; exact (below_size KB) : w.heap.size ≤ gb403)); have n11_ := Aside0.mk ((by rw [hg]; exact (below_size KB) : w.heap.size ≤ gb403)); have n12_ := Aside0.mk ((by rw [hg]; exact Nat.ne_of_lt (blk_lt (g := gb378) (o := .cells #[.slice A0_0 l0_0.length c0_0, .slice A0_1 l0_1.length c0_1, .int .i64 a0_2] 24 (0, 0)) KK) : gb378 ≠ gb403)); have n13_ := Aside0.mk ((by rw [hg]; exact Nat.ne_of_gt (blk_lt (g := gb378) (o := .cells #[.slice A0_0 l0_0.length c0_0, .slice A0_1 l0_1.length c0_1, .int .i64 a0_2] 24 (0, 0)) KK) : gb403 ≠ gb378)); have n14_ := Aside0.mk ((by rw [hg]; exact Nat.ne_of_lt (blk_lt (g := gb395) (o := .cells #[.slice Ao21 t387.length co21, .slice Ao24 t390.length co24, .int .i64 t393] 29 (0, 0)) KK) : gb395 ≠ gb403)); have n15_ := Aside0.mk ((by rw [hg]; exact Nat.ne_of_gt (blk_lt (g := gb395) (o := .cells #[.slice Ao21 t387.length co21, .slice Ao24 t390.length co24, .int .i64 t393] 29 (0, 0)) KK) : gb403 ≠ gb395)); clear HO382; clear HO385; clear HO389; clear HO392; clear HO398; clear HO401; clear BK378; clear BK395; clear HB; have HO382 := n0_; have HO385 := n1_; have HO389 := n2_; have HO392 := n3_; have HO398 := n4_; have HO401 := n5_; have BK378 := n6_; have BK395 := n7_; have HB := n8_; have BK403 := n9_; have GW403 := n10_; have GE403 := n11_; have NB378_403 := n12_; have NB403_378 := n13_; have NB395_403 := n14_; have NB403_395 := n15_; clear n0_ n1_ n2_ n3_ n4_ n5_ n6_ n7_ n8_ n9_ n10_ n11_ n12_ n13_ n14_ n15_; clear hb hbox hg; obtain ⟨Ao28, co28, eo28⟩ := Kd.R_slice HO398.out; subst eo28; have hnb29 := NB403_378.out; have hnc29 := NB378_403.out; have hnb30 := NB403_395.out; have hnc30 := NB395_403.out; have hcz31_0 : w27.cell? ⟨gb403, 0, none⟩ = some (.slice none 0 0) := (blk_cell BK403.out 0).trans rfl; have hcz31_1 : w27.cell? ⟨gb403, 1, none⟩ = some (.slice none 0 0) := (blk_cell BK403.out 1).trans rfl; have hcz31_2 : w27.cell? ⟨gb403, 2, none⟩ = some (.int .i64 0) := (blk_cell BK403.out 2).trans rfl; have hfz31_0 := blk_frozen BK403.out 0; have hfz31_1 := blk_frozen BK403.out 1; have hfz31_2 := blk_frozen BK403.out 2; obtain ⟨Ao32, co32, eo32⟩ := Kd.R_slice HO401.out; subst eo32) | ((with_reducible refine gate_callee (f := 44) rfl ?_); refine goesL_ (some 29) rfl rfl Try.func44 (by kernel_rfl) rfl #[.agg #[.slice Ao28 t396.length co28, .slice Ao32 t399.length co32, .int .i64 t402]] rfl KL ?_; (with_reducible refine (impl_StoreSync.calls k _ _ t396 _ _ t399 t402 t404 t407 t410 t411 _ ?side1 ?side2 ?side3 ?side4 A10.out).mono ?_); (case side1 => refine (Kd.R_reads' (e := 34) (base := w.heap.size) (ok := fun k_ => ((((some k_ ≠ (.slice Ao32 t399.length co32 : Value).ownBlock ∧ some k_ ≠ (.slice Ao17 t380.length co17 : Value).ownBlock) ∧ some k_ ≠ (.slice Ao18 t383.length co18 : Value).ownBlock) ∧ some k_ ≠ (.slice Ao21 t387.length co21 : Value).ownBlock) ∧ some k_ ≠ (.slice Ao24 t390.length co24 : Value).ownBlock)) (n := t396.length) (c := co28) ?_).2.2; exact (by (with_reducible repeat (first | apply Kd.R_alloc | apply Kd.R_drewN | apply Kd.R_drew)); exact (Kd.R_mono (Kd.R_far (p := ⟨gb403, 2, none⟩) (Kd.R_far (p := ⟨gb403, 1, none⟩) (Kd.R_far (p := ⟨gb403, 0, none⟩) (Kd.R_types HO398.out BK403.out (by decide)) (fun _ hk => hk.2) (.slice Ao28 t396.length co28)) (fun _ hk => hk.2) (.slice Ao32 t399.length co32)) (fun _ hk => hk.2) (.int .i64 t402)) (fun _ h_ => h_.1)))); (case side2 => exact (Kd.R_reads' HO398.out).2.1); (case side3 => refine (Kd.R_reads' (e := 34) (base := w.heap.size) (ok := fun k_ => ((((some k_ ≠ (.slice Ao28 t396.length co28 : Value).ownBlock ∧ some k_ ≠ (.slice Ao17 t380.length co17 : Value).ownBlock) ∧ some k_ ≠ (.slice Ao18 t383.length co18 : Value).ownBlock) ∧ some k_ ≠ (.slice Ao21 t387.length co21 : Value).ownBlock) ∧ some k_ ≠ (.slice Ao24 t390.length co24 : Value).ownBlock)) (n := t399.length) (c := co32) ?_).2.2; exact (by (with_reducible repeat (first | apply Kd.R_alloc | apply Kd.R_drewN | apply Kd.R_drew)); exact (Kd.R_mono (Kd.R_far (p := ⟨gb403, 2, none⟩) (Kd.R_far (p := ⟨gb403, 1, none⟩) (Kd.R_far (p := ⟨gb403, 0, none⟩) (Kd.R_types HO401.out BK403.out (by decide)) (fun _ hk => hk.2) (.slice Ao28 t396.length co28)) (fun _ hk => hk.2) (.slice Ao32 t399.length co32)) (fun _ hk => hk.2) (.int .i64 t402)) (fun _ h_ => h_.1)))); (case side4 => exact (Kd.R_reads' HO401.out).2.1); rintro e w33 ⟨v405, v408, rfl, ho0, ho1, hb⟩; refine ⟨_, rfl, ?_⟩; have n0_ := Aside0.mk (Kd.R_mono (Kd.R_told (Kd.R_told (Kd.R_old (by (with_reducible repeat (first | apply Kd.R_alloc | apply Kd.R_drewN | apply Kd.R_drew)); exact (Kd.R_mono (Kd.R_far (p := ⟨gb403, 2, none⟩) (Kd.R_far (p := ⟨gb403, 1, none⟩) (Kd.R_far (p := ⟨gb403, 0, none⟩) (Kd.R_types HO382.out BK403.out (by decide)) (fun _ hk => hk.2) (.slice Ao28 t396.length co28)) (fun _ hk => hk.2) (.slice Ao32 t399.length co32)) (fun _ hk => hk.2) (.int .i64 t402)) (fun _ h_ => h_.1))) hb) (Kd.R_base ho0)) (Kd.R_base ho1)) (fun _ h_ => h_.1)); have n1_ := Aside0.mk (Kd.R_mono (Kd.R_told (Kd.R_told (Kd.R_old (by (with_reducible repeat (first | apply Kd.R_alloc | apply Kd.R_drewN | apply Kd.R_drew)); exact (Kd.R_mono (Kd.R_far (p := ⟨gb403, 2, none⟩) (Kd.R_far (p := ⟨gb403, 1, none⟩) (Kd.R_far (p := ⟨gb403, 0, none⟩) (Kd.R_types HO385.out BK403.out (by decide)) (fun _ hk => hk.2) (.slice Ao28 t396.length co28)) (fun _ hk => hk.2) (.slice Ao32 t399.length co32)) (fun _ hk => hk.2) (.int .i64 t402)) (fun _ h_ => h_.1))) hb) (Kd.R_base ho0)) (Kd.R_base ho1)) (fun _ h_ => h_.1)); have n2_ := Aside0.mk (Kd.R_mono (Kd.R_told (Kd.R_told (Kd.R_old (by (with_reducible repeat (first | apply Kd.R_alloc | apply Kd.R_drewN | apply Kd.R_drew)); exact (Kd.R_mono (Kd.R_far (p := ⟨gb403, 2, none⟩) (Kd.R_far (p := ⟨gb403, 1, none⟩) (Kd.R_far (p := ⟨gb403, 0, none⟩) (Kd.R_types HO389.out BK403.out (by decide)) (fun _ hk => hk.2) (.slice Ao28 t396.length co28)) (fun _ hk => hk.2) (.slice Ao32 t399.length co32)) (fun _ hk => hk.2) (.int .i64 t402)) (fun _ h_ => h_.1))) hb) (Kd.R_base ho0)) (Kd.R_base ho1)) (fun _ h_ => h_.1)); have n3_ := Aside0.mk (Kd.R_mono (Kd.R_told (Kd.R_told (Kd.R_old (by (with_reducible repeat (first | apply Kd.R_alloc | apply Kd.R_drewN | apply Kd.R_drew)); exact (Kd.R_mono (Kd.R_far (p := ⟨gb403, 2, none⟩) (Kd.R_far (p := ⟨gb403, 1, none⟩) (Kd.R_far (p := ⟨gb403, 0, none⟩) (Kd.R_types HO392.out BK403.out (by decide)) (fun _ hk => hk.2) (.slice Ao28 t396.length co28)) (fun _ hk => hk.2) (.slice Ao32 t399.length co32)) (fun _ hk => hk.2) (.int .i64 t402)) (fun _ h_ => h_.1))) hb) (Kd.R_base ho0)) (Kd.R_base ho1)) (fun _ h_ => h_.1)); have n4_ := Aside0.mk (Kd.R_mono (Kd.R_told (Kd.R_told (Kd.R_old (by (with_reducible repeat (first | apply Kd.R_alloc | apply Kd.R_drewN | apply Kd.R_drew)); exact (Kd.R_mono (Kd.R_far (p := ⟨gb403, 2, none⟩) (Kd.R_far (p := ⟨gb403, 1, none⟩) (Kd.R_far (p := ⟨gb403, 0, none⟩) (Kd.R_types HO398.out BK403.out (by decide)) (fun _ hk => hk.2) (.slice Ao28 t396.length co28)) (fun _ hk => hk.2) (.slice Ao32 t399.length co32)) (fun _ hk => hk.2) (.int .i64 t402)) (fun _ h_ => h_.1))) hb) (Kd.R_base ho0)) (Kd.R_base ho1)) (fun _ h_ => h_.1)); have n5_ := Aside0.mk (Kd.R_mono (Kd.R_told (Kd.R_told (Kd.R_old (by (with_reducible repeat (first | apply Kd.R_alloc | apply Kd.R_drewN | apply Kd.R_drew)); exact (Kd.R_mono (Kd.R_far (p := ⟨gb403, 2, none⟩) (Kd.R_far (p := ⟨gb403, 1, none⟩) (Kd.R_far (p := ⟨gb403, 0, none⟩) (Kd.R_types HO401.out BK403.out (by decide)) (fun _ hk => hk.2) (.slice Ao28 t396.length co28)) (fun _ hk => hk.2) (.slice Ao32 t399.length co32)) (fun _ hk => hk.2) (.int .i64 t402)) (fun _ h_ => h_.1))) hb) (Kd.R_base ho0)) (Kd.R_base ho1)) (fun _ h_ => h_.1)); have n6_ := Aside0.mk (Kd.R_lower (Kd.R_new' (Kd.R_new' (Kd.R_new' (Kd.R_new' (Kd.R_new' (Kd.R_new' ho0 (Kd.R_lt (by (with_reducible repeat (first | apply Kd.R_alloc | apply Kd.R_drewN | apply Kd.R_drew)); exact (Kd.R_mono (Kd.R_far (p := ⟨gb403, 2, none⟩) (Kd.R_far (p := ⟨gb403, 1, none⟩) (Kd.R_far (p := ⟨gb403, 0, none⟩) (Kd.R_types HO382.out BK403.out (by decide)) (fun _ hk => hk.2) (.slice Ao28 t396.length co28)) (fun _ hk => hk.2) (.slice Ao32 t399.length co32)) (fun _ hk => hk.2) (.int .i64 t402)) (fun _ h_ => h_.1))))) (Kd.R_lt (by (with_reducible repeat (first | apply Kd.R_alloc | apply Kd.R_drewN | apply Kd.R_drew)); exact (Kd.R_mono (Kd.R_far (p := ⟨gb403, 2, none⟩) (Kd.R_far (p := ⟨gb403, 1, none⟩) (Kd.R_far (p := ⟨gb403, 0, none⟩) (Kd.R_types HO385.out BK403.out (by decide)) (fun _ hk => hk.2) (.slice Ao28 t396.length co28)) (fun _ hk => hk.2) (.slice Ao32 t399.length co32)) (fun _ hk => hk.2) (.int .i64 t402)) (fun _ h_ => h_.1))))) (Kd.R_lt (by (with_reducible repeat (first | apply Kd.R_alloc | apply Kd.R_drewN | apply Kd.R_drew)); exact (Kd.R_mono (Kd.R_far (p := ⟨gb403, 2, none⟩) (Kd.R_far (p := ⟨gb403, 1, none⟩) (Kd.R_far (p := ⟨gb403, 0, none⟩) (Kd.R_types HO389.out BK403.out (by decide)) (fun _ hk => hk.2) (.slice Ao28 t396.length co28)) (fun _ hk => hk.2) (.slice Ao32 t399.length co32)) (fun _ hk => hk.2) (.int .i64 t402)) (fun _ h_ => h_.1))))) (Kd.R_lt (by (with_reducible repeat (first | apply Kd.R_alloc | apply Kd.R_drewN | apply Kd.R_drew)); exact (Kd.R_mono (Kd.R_far (p := ⟨gb403, 2, none⟩) (Kd.R_far (p := ⟨gb403, 1, none⟩) (Kd.R_far (p := ⟨gb403, 0, none⟩) (Kd.R_types HO392.out BK403.out (by decide)) (fun _ hk => hk.2) (.slice Ao28 t396.length co28)) (fun _ hk => hk.2) (.slice Ao32 t399.length co32)) (fun _ hk => hk.2) (.int .i64 t402)) (fun _ h_ => h_.1))))) (Kd.R_lt (by (with_reducible repeat (first | apply Kd.R_alloc | apply Kd.R_drewN | apply Kd.R_drew)); exact (Kd.R_mono (Kd.R_far (p := ⟨gb403, 2, none⟩) (Kd.R_far (p := ⟨gb403, 1, none⟩) (Kd.R_far (p := ⟨gb403, 0, none⟩) (Kd.R_types HO398.out BK403.out (by decide)) (fun _ hk => hk.2) (.slice Ao28 t396.length co28)) (fun _ hk => hk.2) (.slice Ao32 t399.length co32)) (fun _ hk => hk.2) (.int .i64 t402)) (fun _ h_ => h_.1))))) (Kd.R_lt (by (with_reducible repeat (first | apply Kd.R_alloc | apply Kd.R_drewN | apply Kd.R_drew)); exact (Kd.R_mono (Kd.R_far (p := ⟨gb403, 2, none⟩) (Kd.R_far (p := ⟨gb403, 1, none⟩) (Kd.R_far (p := ⟨gb403, 0, none⟩) (Kd.R_types HO401.out BK403.out (by decide)) (fun _ hk => hk.2) (.slice Ao28 t396.length co28)) (fun _ hk => hk.2) (.slice Ao32 t399.length co32)) (fun _ hk => hk.2) (.int .i64 t402)) (fun _ h_ => h_.1))))) (below_size KB)); have n7_ := Aside0.mk (Kd.R_lower (Kd.R_new' (Kd.R_new' (Kd.R_new' (Kd.R_new' (Kd.R_new' (Kd.R_new' ho1 (Kd.R_lt (by (with_reducible repeat (first | apply Kd.R_alloc | apply Kd.R_drewN | apply Kd.R_drew)); exact (Kd.R_mono (Kd.R_far (p := ⟨gb403, 2, none⟩) (Kd.R_far (p := ⟨gb403, 1, none⟩) (Kd.R_far (p := ⟨gb403, 0, none⟩) (Kd.R_types HO382.out BK403.out (by decide)) (fun _ hk => hk.2) (.slice Ao28 t396.length co28)) (fun _ hk => hk.2) (.slice Ao32 t399.length co32)) (fun _ hk => hk.2) (.int .i64 t402)) (fun _ h_ => h_.1))))) (Kd.R_lt (by (with_reducible repeat (first | apply Kd.R_alloc | apply Kd.R_drewN | apply Kd.R_drew)); exact (Kd.R_mono (Kd.R_far (p := ⟨gb403, 2, none⟩) (Kd.R_far (p := ⟨gb403, 1, none⟩) (Kd.R_far (p := ⟨gb403, 0, none⟩) (Kd.R_types HO385.out BK403.out (by decide)) (fun _ hk => hk.2) (.slice Ao28 t396.length co28)) (fun _ hk => hk.2) (.slice Ao32 t399.length co32)) (fun _ hk => hk.2) (.int .i64 t402)) (fun _ h_ => h_.1))))) (Kd.R_lt (by (with_reducible repeat (first | apply Kd.R_alloc | apply Kd.R_drewN | apply Kd.R_drew)); exact (Kd.R_mono (Kd.R_far (p := ⟨gb403, 2, none⟩) (Kd.R_far (p := ⟨gb403, 1, none⟩) (Kd.R_far (p := ⟨gb403, 0, none⟩) (Kd.R_types HO389.out BK403.out (by decide)) (fun _ hk => hk.2) (.slice Ao28 t396.length co28)) (fun _ hk => hk.2) (.slice Ao32 t399.length co32)) (fun _ hk => hk.2) (.int .i64 t402)) (fun _ h_ => h_.1))))) (Kd.R_lt (by (with_reducible repeat (first | apply Kd.R_alloc | apply Kd.R_drewN | apply Kd.R_drew)); exact (Kd.R_mono (Kd.R_far (p := ⟨gb403, 2, none⟩) (Kd.R_far (p := ⟨gb403, 1, none⟩) (Kd.R_far (p := ⟨gb403, 0, none⟩) (Kd.R_types HO392.out BK403.out (by decide)) (fun _ hk => hk.2) (.slice Ao28 t396.length co28)) (fun _ hk => hk.2) (.slice Ao32 t399.length co32)) (fun _ hk => hk.2) (.int .i64 t402)) (fun _ h_ => h_.1))))) (Kd.R_lt (by (with_reducible repeat (first | apply Kd.R_alloc | apply Kd.R_drewN | apply Kd.R_drew)); exact (Kd.R_mono (Kd.R_far (p := ⟨gb403, 2, none⟩) (Kd.R_far (p := ⟨gb403, 1, none⟩) (Kd.R_far (p := ⟨gb403, 0, none⟩) (Kd.R_types HO398.out BK403.out (by decide)) (fun _ hk => hk.2) (.slice Ao28 t396.length co28)) (fun _ hk => hk.2) (.slice Ao32 t399.length co32)) (fun _ hk => hk.2) (.int .i64 t402)) (fun _ h_ => h_.1))))) (Kd.R_lt (by (with_reducible repeat (first | apply Kd.R_alloc | apply Kd.R_drewN | apply Kd.R_drew)); exact (Kd.R_mono (Kd.R_far (p := ⟨gb403, 2, none⟩) (Kd.R_far (p := ⟨gb403, 1, none⟩) (Kd.R_far (p := ⟨gb403, 0, none⟩) (Kd.R_types HO401.out BK403.out (by decide)) (fun _ hk => hk.2) (.slice Ao28 t396.length co28)) (fun _ hk => hk.2) (.slice Ao32 t399.length co32)) (fun _ hk => hk.2) (.int .i64 t402)) (fun _ h_ => h_.1))))) (below_size KB)); have n8_ := Aside0.mk (blk_below (g := gb378) (o := .cells #[.slice A0_0 l0_0.length c0_0, .slice A0_1 l0_1.length c0_1, .int .i64 a0_2] 24 (0, 0)) KK hb); have n9_ := Aside0.mk (blk_below (g := gb395) (o := .cells #[.slice Ao21 t387.length co21, .slice Ao24 t390.length co24, .int .i64 t393] 29 (0, 0)) KK hb); have n10_ := Aside0.mk (blk_below (g := gb403) (o := .cells #[.slice Ao28 t396.length co28, .slice Ao32 t399.length co32, .int .i64 t402] 29 (0, 0)) (by (with_reducible repeat (first | refine blk_drewN ?_ _ | refine blk_drew ?_ | refine blk_alloc ?_ _)); refine blk_put (cs := #[.slice Ao28 t396.length co28, .slice Ao32 t399.length co32, .int .i64 0]) ?_ 2 _ rfl; (with_reducible repeat (first | refine blk_drewN ?_ _ | refine blk_drew ?_ | refine blk_alloc ?_ _)); refine blk_put (cs := #[.slice Ao28 t396.length co28, .slice none 0 0, .int .i64 0]) ?_ 1 _ rfl; (with_reducible repeat (first | refine blk_drewN ?_ _ | refine blk_drew ?_ | refine blk_alloc ?_ _)); refine blk_put (cs := #[.slice none 0 0, .slice none 0 0, .int .i64 0]) ?_ 0 _ rfl; (with_reducible repeat (first | refine blk_drewN ?_ _ | refine blk_drew ?_ | refine blk_alloc ?_ _)); exact BK403.out) hb); have n11_ := Aside0.mk (below_step KB hb); clear HO382; clear HO385; clear HO389; clear HO392; clear HO398; clear HO401; clear BK378; clear BK395; clear BK403; clear HB; have HO382 := n0_; have HO385 := n1_; have HO389 := n2_; have HO392 := n3_; have HO398 := n4_; have HO401 := n5_; have HO406 := n6_; have HO409 := n7_; have BK378 := n8_; have BK395 := n9_; have BK403 := n10_; have HB := n11_; clear n0_ n1_ n2_ n3_ n4_ n5_ n6_ n7_ n8_ n9_ n10_ n11_; (try clear hb); (try clear hb2); (try clear hk); (try clear hi); (try clear ho0); (try clear ho1)) | ((with_reducible refine gate_dst (N := 7) rfl ?_); refine box_event ?hg (N := 7) ?hd (cs := #[.slice none 0 0, .slice none 0 0, .int .i64 0]) (t := 29) ?hr ?_; (case hd => rfl); (case hg => rfl); (case hr => first | (go_simp; done) | (go_simp; rfl)); intro gb412 hg w34 hbox hb; have n0_ := Aside0.mk (Kd.R_below (KR HO382.out) hb); have n1_ := Aside0.mk (Kd.R_below (KR HO385.out) hb); have n2_ := Aside0.mk (Kd.R_below (KR HO389.out) hb); have n3_ := Aside0.mk (Kd.R_below (KR HO392.out) hb); have n4_ := Aside0.mk (Kd.R_below (KR HO398.out) hb); have n5_ := Aside0.mk (Kd.R_below (KR HO401.out) hb); have n6_ := Aside0.mk (Kd.R_below (KR HO406.out) hb); have n7_ := Aside0.mk (Kd.R_below (KR HO409.out) hb); have n8_ := Aside0.mk (blk_below (g := gb378) (o := .cells #[.slice A0_0 l0_0.length c0_0, .slice A0_1 l0_1.length c0_1, .int .i64 a0_2] 24 (0, 0)) KK hb); have n9_ := Aside0.mk (blk_below (g := gb395) (o := .cells #[.slice Ao21 t387.length co21, .slice Ao24 t390.length co24, .int .i64 t393] 29 (0, 0)) KK hb); have n10_ := Aside0.mk (blk_below (g := gb403) (o := .cells #[.slice Ao28 t396.length co28, .slice Ao32 t399.length co32, .int .i64 t402] 29 (0, 0)) KK hb); have n11_ := Aside0.mk (below_step KB hb); have n12_ := Aside0.mk (hbox); have n13_ := Aside0.mk ((by rw [hg]; exact (below_size KB) : w.heap.size ≤ gb412)); have n14_ := Aside0.mk ((by rw [hg]; exact (below_size KB) : w.heap.size ≤ gb412)); have n15_ := Aside0.mk ((by rw [hg]; exact Nat.ne_of_lt (blk_lt (g := gb378) (o := .cells #[.slice A0_0 l0_0.length c0_0, .slice A0_1 l0_1.length c0_1, .int .i64 a0_2] 24 (0, 0)) KK) : gb378 ≠ gb412)); have n16_ := Aside0.mk ((by rw [hg]; exact Nat.ne_of_gt (blk_lt (g := gb378) (o := .cells #[.slice A0_0 l0_0.length c0_0, .slice A0_1 l0_1.length c0_1, .int .i64 a0_2] 24 (0, 0)) KK) : gb412 ≠ gb378)); have n17_ := Aside0.mk ((by rw [hg]; exact Nat.ne_of_lt (blk_lt (g := gb395) (o := .cells #[.slice Ao21 t387.length co21, .slice Ao24 t390.length co24, .int .i64 t393] 29 (0, 0)) KK) : gb395 ≠ gb412)); have n18_ := Aside0.mk ((by rw [hg]; exact Nat.ne_of_gt (blk_lt (g := gb395) (o := .cells #[.slice Ao21 t387.length co21, .slice Ao24 t390.length co24, .int .i64 t393] 29 (0, 0)) KK) : gb412 ≠ gb395)); have n19_ := Aside0.mk ((by rw [hg]; exact Nat.ne_of_lt (blk_lt (g := gb403) (o := .cells #[.slice Ao28 t396.length co28, .slice Ao32 t399.length co32, .int .i64 t402] 29 (0, 0)) KK) : gb403 ≠ gb412)); have n20_ := Aside0.mk ((by rw [hg]; exact Nat.ne_of_gt (blk_lt (g := gb403) (o := .cells #[.slice Ao28 t396.length co28, .slice Ao32 t399.length co32, .int .i64 t402] 29 (0, 0)) KK) : gb412 ≠ gb403)); clear HO382; clear HO385; clear HO389; clear HO392; clear HO398; clear HO401; clear HO406; clear HO409; clear BK378; clear BK395; clear BK403; clear HB; have HO382 := n0_; have HO385 := n1_; have HO389 := n2_; have HO392 := n3_; have HO398 := n4_; have HO401 := n5_; have HO406 := n6_; have HO409 := n7_; have BK378 := n8_; have BK395 := n9_; have BK403 := n10_; have HB := n11_; have BK412 := n12_; have GW412 := n13_; have GE412 := n14_; have NB378_412 := n15_; have NB412_378 := n16_; have NB395_412 := n17_; have NB412_395 := n18_; have NB403_412 := n19_; have NB412_403 := n20_; clear n0_ n1_ n2_ n3_ n4_ n5_ n6_ n7_ n8_ n9_ n10_ n11_ n12_ n13_ n14_ n15_ n16_ n17_ n18_ n19_ n20_; clear hb hbox hg; obtain ⟨Ao35, co35, eo35⟩ := Kd.R_slice HO406.out; subst eo35; have hnb36 := NB412_378.out; have hnc36 := NB378_412.out; have hnb37 := NB412_395.out; have hnc37 := NB395_412.out; have hnb38 := NB412_403.out; have hnc38 := NB403_412.out; have hcz39_0 : w34.cell? ⟨gb412, 0, none⟩ = some (.slice none 0 0) := (blk_cell BK412.out 0).trans rfl; have hcz39_1 : w34.cell? ⟨gb412, 1, none⟩ = some (.slice none 0 0) := (blk_cell BK412.out 1).trans rfl; have hcz39_2 : w34.cell? ⟨gb412, 2, none⟩ = some (.int .i64 0) := (blk_cell BK412.out 2).trans rfl; have hfz39_0 := blk_frozen BK412.out 0; have hfz39_1 := blk_frozen BK412.out 1; have hfz39_2 := blk_frozen BK412.out 2; obtain ⟨Ao40, co40, eo40⟩ := Kd.R_slice HO409.out; subst eo40))
  (try simp only [Act.put, List.setIfInBounds_toArray, List.set_cons_zero, List.set_cons_succ])
  go_cut [40] (fun v40 wc => ∃ (kq : Nat) (x40_10 : Bool), v40 = .bool x40_10 ∧ Aside0 (laws_FnExactStoreSync.j0 kq t394 t411 x40_10 l0_0 l0_1 a0_2 t387 t390 t393 t396 t399 t402 t404 t407 t410 = some r) ∧ Aside0 (kq ≤ k) ∧ Aside0 (Kd.R k34 34 wc w.heap.size (fun k_ => some k_ ≠ ((.slice Ao24 t390.length co24) : Value).ownBlock ∧ some k_ ≠ ((.slice Ao28 t396.length co28) : Value).ownBlock ∧ some k_ ≠ ((.slice Ao32 t399.length co32) : Value).ownBlock ∧ some k_ ≠ ((.slice Ao35 t404.length co35) : Value).ownBlock ∧ some k_ ≠ ((.slice Ao40 t407.length co40) : Value).ownBlock) (.slice Ao21 t387.length co21) t387) ∧ Aside0 (Kd.R k34 34 wc w.heap.size (fun k_ => some k_ ≠ ((.slice Ao21 t387.length co21) : Value).ownBlock ∧ some k_ ≠ ((.slice Ao28 t396.length co28) : Value).ownBlock ∧ some k_ ≠ ((.slice Ao32 t399.length co32) : Value).ownBlock ∧ some k_ ≠ ((.slice Ao35 t404.length co35) : Value).ownBlock ∧ some k_ ≠ ((.slice Ao40 t407.length co40) : Value).ownBlock) (.slice Ao24 t390.length co24) t390) ∧ Aside0 (Kd.R k34 34 wc w.heap.size (fun k_ => some k_ ≠ ((.slice Ao21 t387.length co21) : Value).ownBlock ∧ some k_ ≠ ((.slice Ao24 t390.length co24) : Value).ownBlock ∧ some k_ ≠ ((.slice Ao32 t399.length co32) : Value).ownBlock ∧ some k_ ≠ ((.slice Ao35 t404.length co35) : Value).ownBlock ∧ some k_ ≠ ((.slice Ao40 t407.length co40) : Value).ownBlock) (.slice Ao28 t396.length co28) t396) ∧ Aside0 (Kd.R k34 34 wc w.heap.size (fun k_ => some k_ ≠ ((.slice Ao21 t387.length co21) : Value).ownBlock ∧ some k_ ≠ ((.slice Ao24 t390.length co24) : Value).ownBlock ∧ some k_ ≠ ((.slice Ao28 t396.length co28) : Value).ownBlock ∧ some k_ ≠ ((.slice Ao35 t404.length co35) : Value).ownBlock ∧ some k_ ≠ ((.slice Ao40 t407.length co40) : Value).ownBlock) (.slice Ao32 t399.length co32) t399) ∧ Aside0 (Kd.R k34 34 wc w.heap.size (fun k_ => some k_ ≠ ((.slice Ao21 t387.length co21) : Value).ownBlock ∧ some k_ ≠ ((.slice Ao24 t390.length co24) : Value).ownBlock ∧ some k_ ≠ ((.slice Ao28 t396.length co28) : Value).ownBlock ∧ some k_ ≠ ((.slice Ao32 t399.length co32) : Value).ownBlock ∧ some k_ ≠ ((.slice Ao40 t407.length co40) : Value).ownBlock) (.slice Ao35 t404.length co35) t404) ∧ Aside0 (Kd.R k34 34 wc w.heap.size (fun k_ => some k_ ≠ ((.slice Ao21 t387.length co21) : Value).ownBlock ∧ some k_ ≠ ((.slice Ao24 t390.length co24) : Value).ownBlock ∧ some k_ ≠ ((.slice Ao28 t396.length co28) : Value).ownBlock ∧ some k_ ≠ ((.slice Ao32 t399.length co32) : Value).ownBlock ∧ some k_ ≠ ((.slice Ao35 t404.length co35) : Value).ownBlock) (.slice Ao40 t407.length co40) t407) ∧ Aside0 (wc.heap[gb378]? = some (.cells #[(.slice A0_0 l0_0.length c0_0), (.slice A0_1 l0_1.length c0_1), .int .i64 a0_2] 24 (0, 0))) ∧ Aside0 (wc.heap[gb395]? = some (.cells #[(.slice Ao21 t387.length co21), (.slice Ao24 t390.length co24), .int .i64 t393] 29 (0, 0))) ∧ Aside0 (wc.heap[gb403]? = some (.cells #[(.slice Ao28 t396.length co28), (.slice Ao32 t399.length co32), .int .i64 t402] 29 (0, 0))) ∧ Aside0 (wc.heap[gb412]? = some (.cells #[(.slice Ao35 t404.length co35), (.slice Ao40 t407.length co40), .int .i64 t410] 29 (0, 0))) ∧ Aside0 (Below w.heap.size w wc))
  case first =>
   have H := HC11.out
   clear HC11
   replace H := Option.bind_eq_some_iff.mp H
   obtain ⟨t413, A410, H⟩ := H
   replace H : (if t413 = true then (laws_FnExactStoreSync.j0 k t394 t411 (t411 != t394) l0_0 l0_1 a0_2 t387 t390 t393 t396 t399 t402 t404 t407 t410) else (laws_FnExactStoreSync.j0 k t394 t411 true l0_0 l0_1 a0_2 t387 t390 t393 t396 t399 t402 t404 t407 t410)) = some r := H
   have A41 := Aside0.mk A410
   clear A410
   by_cases c42 : t413 = true
   ·subst c42
    have H1 : (laws_FnExactStoreSync.j0 k t394 t411 (t411 != t394) l0_0 l0_1 a0_2 t387 t390 t393 t396 t399 t402 t404 t407 t410) = some r := by rw [if_pos rfl] at H; exact H
    clear H
    have H := H1
    clear H1
    have H' := Aside0.mk H
    clear H
    have hnb43 := NB412_378.out
    have hnc43 := NB378_412.out
    have hnb44 := NB412_395.out
    have hnc44 := NB395_412.out
    have hnb45 := NB412_403.out
    have hnc45 := NB403_412.out
    have hcz46_0 : w34.cell? ⟨gb412, 0, none⟩ = some (.slice none 0 0) := (blk_cell BK412.out 0).trans rfl
    have hcz46_1 : w34.cell? ⟨gb412, 1, none⟩ = some (.slice none 0 0) := (blk_cell BK412.out 1).trans rfl
    have hcz46_2 : w34.cell? ⟨gb412, 2, none⟩ = some (.int .i64 0) := (blk_cell BK412.out 2).trans rfl
    have hfz46_0 := blk_frozen BK412.out 0
    have hfz46_1 := blk_frozen BK412.out 1
    have hfz46_2 := blk_frozen BK412.out 2
    have hnb47 := NB395_378.out
    have hnc47 := NB378_395.out
    have hnb48 := NB395_403.out
    have hnc48 := NB403_395.out
    have hcz49_0 : w34.cell? ⟨gb395, 0, none⟩ = some (.slice Ao21 t387.length co21) := (blk_cell BK395.out 0).trans rfl
    have hcz49_1 : w34.cell? ⟨gb395, 1, none⟩ = some (.slice Ao24 t390.length co24) := (blk_cell BK395.out 1).trans rfl
    have hcz49_2 : w34.cell? ⟨gb395, 2, none⟩ = some (.int .i64 t393) := (blk_cell BK395.out 2).trans rfl
    have hfz49_0 := blk_frozen BK395.out 0
    have hfz49_1 := blk_frozen BK395.out 1
    have hfz49_2 := blk_frozen BK395.out 2
    go_wp2_with (first | ((with_reducible refine gate_callee (f := 19) rfl ?_); refine goesL_ (some 34) rfl rfl Try.func19 (by kernel_rfl) rfl #[.agg #[.slice Ao35 t404.length co35, .slice Ao40 t407.length co40, .int .i64 t410], .agg #[.slice Ao21 t387.length co21, .slice Ao24 t390.length co24, .int .i64 t393]] rfl KL ?_; (with_reducible refine (laws_eqStore.calls k _ _ t404 _ _ t407 t410 _ _ t387 _ _ t390 t393 true _ ?side1 ?side2 ?side3 ?side4 ?side5 ?side6 ?side7 ?side8 A41.out).mono ?_); (case side1 => refine (Kd.R_reads' (e := 34) (base := w.heap.size) (ok := fun k_ => ((((((some k_ ≠ (.slice Ao40 t407.length co40 : Value).ownBlock ∧ some k_ ≠ (.slice Ao17 t380.length co17 : Value).ownBlock) ∧ some k_ ≠ (.slice Ao18 t383.length co18 : Value).ownBlock) ∧ some k_ ≠ (.slice Ao21 t387.length co21 : Value).ownBlock) ∧ some k_ ≠ (.slice Ao24 t390.length co24 : Value).ownBlock) ∧ some k_ ≠ (.slice Ao28 t396.length co28 : Value).ownBlock) ∧ some k_ ≠ (.slice Ao32 t399.length co32 : Value).ownBlock)) (n := t404.length) (c := co35) ?_).2.2; exact (by (with_reducible repeat (first | apply Kd.R_alloc | apply Kd.R_drewN | apply Kd.R_drew)); exact (Kd.R_mono (Kd.R_far (p := ⟨gb412, 2, none⟩) (Kd.R_far (p := ⟨gb412, 1, none⟩) (Kd.R_far (p := ⟨gb412, 0, none⟩) (Kd.R_types HO406.out BK412.out (by decide)) (fun _ hk => hk.2) (.slice Ao35 t404.length co35)) (fun _ hk => hk.2) (.slice Ao40 t407.length co40)) (fun _ hk => hk.2) (.int .i64 t410)) (fun _ h_ => h_.1)))); (case side2 => exact (Kd.R_reads' HO406.out).2.1); (case side3 => refine (Kd.R_reads' (e := 34) (base := w.heap.size) (ok := fun k_ => ((((((some k_ ≠ (.slice Ao35 t404.length co35 : Value).ownBlock ∧ some k_ ≠ (.slice Ao17 t380.length co17 : Value).ownBlock) ∧ some k_ ≠ (.slice Ao18 t383.length co18 : Value).ownBlock) ∧ some k_ ≠ (.slice Ao21 t387.length co21 : Value).ownBlock) ∧ some k_ ≠ (.slice Ao24 t390.length co24 : Value).ownBlock) ∧ some k_ ≠ (.slice Ao28 t396.length co28 : Value).ownBlock) ∧ some k_ ≠ (.slice Ao32 t399.length co32 : Value).ownBlock)) (n := t407.length) (c := co40) ?_).2.2; exact (by (with_reducible repeat (first | apply Kd.R_alloc | apply Kd.R_drewN | apply Kd.R_drew)); exact (Kd.R_mono (Kd.R_far (p := ⟨gb412, 2, none⟩) (Kd.R_far (p := ⟨gb412, 1, none⟩) (Kd.R_far (p := ⟨gb412, 0, none⟩) (Kd.R_types HO409.out BK412.out (by decide)) (fun _ hk => hk.2) (.slice Ao35 t404.length co35)) (fun _ hk => hk.2) (.slice Ao40 t407.length co40)) (fun _ hk => hk.2) (.int .i64 t410)) (fun _ h_ => h_.1)))); (case side4 => exact (Kd.R_reads' HO409.out).2.1); (case side5 => refine (Kd.R_reads' (e := 34) (base := w.heap.size) (ok := fun k_ => ((((((some k_ ≠ (.slice Ao24 t390.length co24 : Value).ownBlock ∧ some k_ ≠ (.slice Ao17 t380.length co17 : Value).ownBlock) ∧ some k_ ≠ (.slice Ao18 t383.length co18 : Value).ownBlock) ∧ some k_ ≠ (.slice Ao28 t396.length co28 : Value).ownBlock) ∧ some k_ ≠ (.slice Ao32 t399.length co32 : Value).ownBlock) ∧ some k_ ≠ (.slice Ao35 t404.length co35 : Value).ownBlock) ∧ some k_ ≠ (.slice Ao40 t407.length co40 : Value).ownBlock)) (n := t387.length) (c := co21) ?_).2.2; exact (by (with_reducible repeat (first | apply Kd.R_alloc | apply Kd.R_drewN | apply Kd.R_drew)); exact (Kd.R_mono (Kd.R_far (p := ⟨gb412, 2, none⟩) (Kd.R_far (p := ⟨gb412, 1, none⟩) (Kd.R_far (p := ⟨gb412, 0, none⟩) (Kd.R_types HO389.out BK412.out (by decide)) (fun _ hk => hk.2) (.slice Ao35 t404.length co35)) (fun _ hk => hk.2) (.slice Ao40 t407.length co40)) (fun _ hk => hk.2) (.int .i64 t410)) (fun _ h_ => h_.1)))); (case side6 => exact (Kd.R_reads' HO389.out).2.1); (case side7 => refine (Kd.R_reads' (e := 34) (base := w.heap.size) (ok := fun k_ => ((((((some k_ ≠ (.slice Ao21 t387.length co21 : Value).ownBlock ∧ some k_ ≠ (.slice Ao17 t380.length co17 : Value).ownBlock) ∧ some k_ ≠ (.slice Ao18 t383.length co18 : Value).ownBlock) ∧ some k_ ≠ (.slice Ao28 t396.length co28 : Value).ownBlock) ∧ some k_ ≠ (.slice Ao32 t399.length co32 : Value).ownBlock) ∧ some k_ ≠ (.slice Ao35 t404.length co35 : Value).ownBlock) ∧ some k_ ≠ (.slice Ao40 t407.length co40 : Value).ownBlock)) (n := t390.length) (c := co24) ?_).2.2; exact (by (with_reducible repeat (first | apply Kd.R_alloc | apply Kd.R_drewN | apply Kd.R_drew)); exact (Kd.R_mono (Kd.R_far (p := ⟨gb412, 2, none⟩) (Kd.R_far (p := ⟨gb412, 1, none⟩) (Kd.R_far (p := ⟨gb412, 0, none⟩) (Kd.R_types HO392.out BK412.out (by decide)) (fun _ hk => hk.2) (.slice Ao35 t404.length co35)) (fun _ hk => hk.2) (.slice Ao40 t407.length co40)) (fun _ hk => hk.2) (.int .i64 t410)) (fun _ h_ => h_.1)))); (case side8 => exact (Kd.R_reads' HO392.out).2.1); rintro e w50 ⟨rfl, hb⟩; refine ⟨_, rfl, ?_⟩; have n0_ := Aside0.mk (Kd.R_below (by (with_reducible repeat (first | apply Kd.R_alloc | apply Kd.R_drewN | apply Kd.R_drew)); exact (Kd.R_mono (Kd.R_far (p := ⟨gb412, 2, none⟩) (Kd.R_far (p := ⟨gb412, 1, none⟩) (Kd.R_far (p := ⟨gb412, 0, none⟩) (Kd.R_types HO382.out BK412.out (by decide)) (fun _ hk => hk.2) (.slice Ao35 t404.length co35)) (fun _ hk => hk.2) (.slice Ao40 t407.length co40)) (fun _ hk => hk.2) (.int .i64 t410)) (fun _ h_ => h_.1))) hb); have n1_ := Aside0.mk (Kd.R_below (by (with_reducible repeat (first | apply Kd.R_alloc | apply Kd.R_drewN | apply Kd.R_drew)); exact (Kd.R_mono (Kd.R_far (p := ⟨gb412, 2, none⟩) (Kd.R_far (p := ⟨gb412, 1, none⟩) (Kd.R_far (p := ⟨gb412, 0, none⟩) (Kd.R_types HO385.out BK412.out (by decide)) (fun _ hk => hk.2) (.slice Ao35 t404.length co35)) (fun _ hk => hk.2) (.slice Ao40 t407.length co40)) (fun _ hk => hk.2) (.int .i64 t410)) (fun _ h_ => h_.1))) hb); have n2_ := Aside0.mk (Kd.R_below (by (with_reducible repeat (first | apply Kd.R_alloc | apply Kd.R_drewN | apply Kd.R_drew)); exact (Kd.R_mono (Kd.R_far (p := ⟨gb412, 2, none⟩) (Kd.R_far (p := ⟨gb412, 1, none⟩) (Kd.R_far (p := ⟨gb412, 0, none⟩) (Kd.R_types HO389.out BK412.out (by decide)) (fun _ hk => hk.2) (.slice Ao35 t404.length co35)) (fun _ hk => hk.2) (.slice Ao40 t407.length co40)) (fun _ hk => hk.2) (.int .i64 t410)) (fun _ h_ => h_.1))) hb); have n3_ := Aside0.mk (Kd.R_below (by (with_reducible repeat (first | apply Kd.R_alloc | apply Kd.R_drewN | apply Kd.R_drew)); exact (Kd.R_mono (Kd.R_far (p := ⟨gb412, 2, none⟩) (Kd.R_far (p := ⟨gb412, 1, none⟩) (Kd.R_far (p := ⟨gb412, 0, none⟩) (Kd.R_types HO392.out BK412.out (by decide)) (fun _ hk => hk.2) (.slice Ao35 t404.length co35)) (fun _ hk => hk.2) (.slice Ao40 t407.length co40)) (fun _ hk => hk.2) (.int .i64 t410)) (fun _ h_ => h_.1))) hb); have n4_ := Aside0.mk (Kd.R_below (by (with_reducible repeat (first | apply Kd.R_alloc | apply Kd.R_drewN | apply Kd.R_drew)); exact (Kd.R_mono (Kd.R_far (p := ⟨gb412, 2, none⟩) (Kd.R_far (p := ⟨gb412, 1, none⟩) (Kd.R_far (p := ⟨gb412, 0, none⟩) (Kd.R_types HO398.out BK412.out (by decide)) (fun _ hk => hk.2) (.slice Ao35 t404.length co35)) (fun _ hk => hk.2) (.slice Ao40 t407.length co40)) (fun _ hk => hk.2) (.int .i64 t410)) (fun _ h_ => h_.1))) hb); have n5_ := Aside0.mk (Kd.R_below (by (with_reducible repeat (first | apply Kd.R_alloc | apply Kd.R_drewN | apply Kd.R_drew)); exact (Kd.R_mono (Kd.R_far (p := ⟨gb412, 2, none⟩) (Kd.R_far (p := ⟨gb412, 1, none⟩) (Kd.R_far (p := ⟨gb412, 0, none⟩) (Kd.R_types HO401.out BK412.out (by decide)) (fun _ hk => hk.2) (.slice Ao35 t404.length co35)) (fun _ hk => hk.2) (.slice Ao40 t407.length co40)) (fun _ hk => hk.2) (.int .i64 t410)) (fun _ h_ => h_.1))) hb); have n6_ := Aside0.mk (Kd.R_below (by (with_reducible repeat (first | apply Kd.R_alloc | apply Kd.R_drewN | apply Kd.R_drew)); exact (Kd.R_mono (Kd.R_far (p := ⟨gb412, 2, none⟩) (Kd.R_far (p := ⟨gb412, 1, none⟩) (Kd.R_far (p := ⟨gb412, 0, none⟩) (Kd.R_types HO406.out BK412.out (by decide)) (fun _ hk => hk.2) (.slice Ao35 t404.length co35)) (fun _ hk => hk.2) (.slice Ao40 t407.length co40)) (fun _ hk => hk.2) (.int .i64 t410)) (fun _ h_ => h_.1))) hb); have n7_ := Aside0.mk (Kd.R_below (by (with_reducible repeat (first | apply Kd.R_alloc | apply Kd.R_drewN | apply Kd.R_drew)); exact (Kd.R_mono (Kd.R_far (p := ⟨gb412, 2, none⟩) (Kd.R_far (p := ⟨gb412, 1, none⟩) (Kd.R_far (p := ⟨gb412, 0, none⟩) (Kd.R_types HO409.out BK412.out (by decide)) (fun _ hk => hk.2) (.slice Ao35 t404.length co35)) (fun _ hk => hk.2) (.slice Ao40 t407.length co40)) (fun _ hk => hk.2) (.int .i64 t410)) (fun _ h_ => h_.1))) hb); have n8_ := Aside0.mk (blk_below (g := gb378) (o := .cells #[.slice A0_0 l0_0.length c0_0, .slice A0_1 l0_1.length c0_1, .int .i64 a0_2] 24 (0, 0)) KK hb); have n9_ := Aside0.mk (blk_below (g := gb395) (o := .cells #[.slice Ao21 t387.length co21, .slice Ao24 t390.length co24, .int .i64 t393] 29 (0, 0)) KK hb); have n10_ := Aside0.mk (blk_below (g := gb403) (o := .cells #[.slice Ao28 t396.length co28, .slice Ao32 t399.length co32, .int .i64 t402] 29 (0, 0)) KK hb); have n11_ := Aside0.mk (blk_below (g := gb412) (o := .cells #[.slice Ao35 t404.length co35, .slice Ao40 t407.length co40, .int .i64 t410] 29 (0, 0)) (by (with_reducible repeat (first | refine blk_drewN ?_ _ | refine blk_drew ?_ | refine blk_alloc ?_ _)); refine blk_put (cs := #[.slice Ao35 t404.length co35, .slice Ao40 t407.length co40, .int .i64 0]) ?_ 2 _ rfl; (with_reducible repeat (first | refine blk_drewN ?_ _ | refine blk_drew ?_ | refine blk_alloc ?_ _)); refine blk_put (cs := #[.slice Ao35 t404.length co35, .slice none 0 0, .int .i64 0]) ?_ 1 _ rfl; (with_reducible repeat (first | refine blk_drewN ?_ _ | refine blk_drew ?_ | refine blk_alloc ?_ _)); refine blk_put (cs := #[.slice none 0 0, .slice none 0 0, .int .i64 0]) ?_ 0 _ rfl; (with_reducible repeat (first | refine blk_drewN ?_ _ | refine blk_drew ?_ | refine blk_alloc ?_ _)); exact BK412.out) hb); have n12_ := Aside0.mk (below_step KB hb); clear HO382; clear HO385; clear HO389; clear HO392; clear HO398; clear HO401; clear HO406; clear HO409; clear BK378; clear BK395; clear BK403; clear BK412; clear HB; have HO382 := n0_; have HO385 := n1_; have HO389 := n2_; have HO392 := n3_; have HO398 := n4_; have HO401 := n5_; have HO406 := n6_; have HO409 := n7_; have BK378 := n8_; have BK395 := n9_; have BK403 := n10_; have BK412 := n11_; have HB := n12_; clear n0_ n1_ n2_ n3_ n4_ n5_ n6_ n7_ n8_ n9_ n10_ n11_ n12_; (try clear hb); (try clear hb2); (try clear hk); (try clear hi)))
    go_meet
    case rel => exact ⟨_, ((t411 != t394)), (by first | rfl | (simp; done) | (simp [*]; done)), H', ⟨by first | omega | exact Nat.le_refl _⟩, ⟨by (with_reducible repeat (first | apply Kd.R_alloc | apply Kd.R_drewN | apply Kd.R_drew)); exact Kd.R_mono HO389.out (fun _ hk => ⟨hk.1.1.1.1.1.1, ⟨hk.1.1.1.2, ⟨hk.1.1.2, ⟨hk.1.2, hk.2⟩⟩⟩⟩)⟩, ⟨by (with_reducible repeat (first | apply Kd.R_alloc | apply Kd.R_drewN | apply Kd.R_drew)); exact Kd.R_mono HO392.out (fun _ hk => ⟨hk.1.1.1.1.1.1, ⟨hk.1.1.1.2, ⟨hk.1.1.2, ⟨hk.1.2, hk.2⟩⟩⟩⟩)⟩, ⟨by (with_reducible repeat (first | apply Kd.R_alloc | apply Kd.R_drewN | apply Kd.R_drew)); exact Kd.R_mono HO398.out (fun _ hk => ⟨hk.1.1.1.2, ⟨hk.1.1.2, ⟨hk.1.1.1.1.1.1, ⟨hk.1.2, hk.2⟩⟩⟩⟩)⟩, ⟨by (with_reducible repeat (first | apply Kd.R_alloc | apply Kd.R_drewN | apply Kd.R_drew)); exact Kd.R_mono HO401.out (fun _ hk => ⟨hk.1.1.1.2, ⟨hk.1.1.2, ⟨hk.1.1.1.1.1.1, ⟨hk.1.2, hk.2⟩⟩⟩⟩)⟩, ⟨by (with_reducible repeat (first | apply Kd.R_alloc | apply Kd.R_drewN | apply Kd.R_drew)); exact Kd.R_mono HO406.out (fun _ hk => ⟨hk.1.1.1.2, ⟨hk.1.1.2, ⟨hk.1.2, ⟨hk.2, hk.1.1.1.1.1.1⟩⟩⟩⟩)⟩, ⟨by (with_reducible repeat (first | apply Kd.R_alloc | apply Kd.R_drewN | apply Kd.R_drew)); exact Kd.R_mono HO409.out (fun _ hk => ⟨hk.1.1.1.2, ⟨hk.1.1.2, ⟨hk.1.2, ⟨hk.2, hk.1.1.1.1.1.1⟩⟩⟩⟩)⟩, ⟨KK⟩, ⟨KK⟩, ⟨KK⟩, ⟨KK⟩, ⟨KB⟩⟩
   ·replace c42 := Bool.eq_false_iff.mpr c42
    subst c42
    have H1 : (laws_FnExactStoreSync.j0 k t394 t411 true l0_0 l0_1 a0_2 t387 t390 t393 t396 t399 t402 t404 t407 t410) = some r := by rw [if_neg (show ¬ (false = true) by decide)] at H; exact H
    clear H
    have H := H1
    clear H1
    have H' := Aside0.mk H
    clear H
    have hnb51 := NB412_378.out
    have hnc51 := NB378_412.out
    have hnb52 := NB412_395.out
    have hnc52 := NB395_412.out
    have hnb53 := NB412_403.out
    have hnc53 := NB403_412.out
    have hcz54_0 : w34.cell? ⟨gb412, 0, none⟩ = some (.slice none 0 0) := (blk_cell BK412.out 0).trans rfl
    have hcz54_1 : w34.cell? ⟨gb412, 1, none⟩ = some (.slice none 0 0) := (blk_cell BK412.out 1).trans rfl
    have hcz54_2 : w34.cell? ⟨gb412, 2, none⟩ = some (.int .i64 0) := (blk_cell BK412.out 2).trans rfl
    have hfz54_0 := blk_frozen BK412.out 0
    have hfz54_1 := blk_frozen BK412.out 1
    have hfz54_2 := blk_frozen BK412.out 2
    have hnb55 := NB395_378.out
    have hnc55 := NB378_395.out
    have hnb56 := NB395_403.out
    have hnc56 := NB403_395.out
    have hcz57_0 : w34.cell? ⟨gb395, 0, none⟩ = some (.slice Ao21 t387.length co21) := (blk_cell BK395.out 0).trans rfl
    have hcz57_1 : w34.cell? ⟨gb395, 1, none⟩ = some (.slice Ao24 t390.length co24) := (blk_cell BK395.out 1).trans rfl
    have hcz57_2 : w34.cell? ⟨gb395, 2, none⟩ = some (.int .i64 t393) := (blk_cell BK395.out 2).trans rfl
    have hfz57_0 := blk_frozen BK395.out 0
    have hfz57_1 := blk_frozen BK395.out 1
    have hfz57_2 := blk_frozen BK395.out 2
    go_wp2_with (first | ((with_reducible refine gate_callee (f := 19) rfl ?_); refine goesL_ (some 34) rfl rfl Try.func19 (by kernel_rfl) rfl #[.agg #[.slice Ao35 t404.length co35, .slice Ao40 t407.length co40, .int .i64 t410], .agg #[.slice Ao21 t387.length co21, .slice Ao24 t390.length co24, .int .i64 t393]] rfl KL ?_; (with_reducible refine (laws_eqStore.calls k _ _ t404 _ _ t407 t410 _ _ t387 _ _ t390 t393 false _ ?side1 ?side2 ?side3 ?side4 ?side5 ?side6 ?side7 ?side8 A41.out).mono ?_); (case side1 => refine (Kd.R_reads' (e := 34) (base := w.heap.size) (ok := fun k_ => ((((((some k_ ≠ (.slice Ao40 t407.length co40 : Value).ownBlock ∧ some k_ ≠ (.slice Ao17 t380.length co17 : Value).ownBlock) ∧ some k_ ≠ (.slice Ao18 t383.length co18 : Value).ownBlock) ∧ some k_ ≠ (.slice Ao21 t387.length co21 : Value).ownBlock) ∧ some k_ ≠ (.slice Ao24 t390.length co24 : Value).ownBlock) ∧ some k_ ≠ (.slice Ao28 t396.length co28 : Value).ownBlock) ∧ some k_ ≠ (.slice Ao32 t399.length co32 : Value).ownBlock)) (n := t404.length) (c := co35) ?_).2.2; exact (by (with_reducible repeat (first | apply Kd.R_alloc | apply Kd.R_drewN | apply Kd.R_drew)); exact (Kd.R_mono (Kd.R_far (p := ⟨gb412, 2, none⟩) (Kd.R_far (p := ⟨gb412, 1, none⟩) (Kd.R_far (p := ⟨gb412, 0, none⟩) (Kd.R_types HO406.out BK412.out (by decide)) (fun _ hk => hk.2) (.slice Ao35 t404.length co35)) (fun _ hk => hk.2) (.slice Ao40 t407.length co40)) (fun _ hk => hk.2) (.int .i64 t410)) (fun _ h_ => h_.1)))); (case side2 => exact (Kd.R_reads' HO406.out).2.1); (case side3 => refine (Kd.R_reads' (e := 34) (base := w.heap.size) (ok := fun k_ => ((((((some k_ ≠ (.slice Ao35 t404.length co35 : Value).ownBlock ∧ some k_ ≠ (.slice Ao17 t380.length co17 : Value).ownBlock) ∧ some k_ ≠ (.slice Ao18 t383.length co18 : Value).ownBlock) ∧ some k_ ≠ (.slice Ao21 t387.length co21 : Value).ownBlock) ∧ some k_ ≠ (.slice Ao24 t390.length co24 : Value).ownBlock) ∧ some k_ ≠ (.slice Ao28 t396.length co28 : Value).ownBlock) ∧ some k_ ≠ (.slice Ao32 t399.length co32 : Value).ownBlock)) (n := t407.length) (c := co40) ?_).2.2; exact (by (with_reducible repeat (first | apply Kd.R_alloc | apply Kd.R_drewN | apply Kd.R_drew)); exact (Kd.R_mono (Kd.R_far (p := ⟨gb412, 2, none⟩) (Kd.R_far (p := ⟨gb412, 1, none⟩) (Kd.R_far (p := ⟨gb412, 0, none⟩) (Kd.R_types HO409.out BK412.out (by decide)) (fun _ hk => hk.2) (.slice Ao35 t404.length co35)) (fun _ hk => hk.2) (.slice Ao40 t407.length co40)) (fun _ hk => hk.2) (.int .i64 t410)) (fun _ h_ => h_.1)))); (case side4 => exact (Kd.R_reads' HO409.out).2.1); (case side5 => refine (Kd.R_reads' (e := 34) (base := w.heap.size) (ok := fun k_ => ((((((some k_ ≠ (.slice Ao24 t390.length co24 : Value).ownBlock ∧ some k_ ≠ (.slice Ao17 t380.length co17 : Value).ownBlock) ∧ some k_ ≠ (.slice Ao18 t383.length co18 : Value).ownBlock) ∧ some k_ ≠ (.slice Ao28 t396.length co28 : Value).ownBlock) ∧ some k_ ≠ (.slice Ao32 t399.length co32 : Value).ownBlock) ∧ some k_ ≠ (.slice Ao35 t404.length co35 : Value).ownBlock) ∧ some k_ ≠ (.slice Ao40 t407.length co40 : Value).ownBlock)) (n := t387.length) (c := co21) ?_).2.2; exact (by (with_reducible repeat (first | apply Kd.R_alloc | apply Kd.R_drewN | apply Kd.R_drew)); exact (Kd.R_mono (Kd.R_far (p := ⟨gb412, 2, none⟩) (Kd.R_far (p := ⟨gb412, 1, none⟩) (Kd.R_far (p := ⟨gb412, 0, none⟩) (Kd.R_types HO389.out BK412.out (by decide)) (fun _ hk => hk.2) (.slice Ao35 t404.length co35)) (fun _ hk => hk.2) (.slice Ao40 t407.length co40)) (fun _ hk => hk.2) (.int .i64 t410)) (fun _ h_ => h_.1)))); (case side6 => exact (Kd.R_reads' HO389.out).2.1); (case side7 => refine (Kd.R_reads' (e := 34) (base := w.heap.size) (ok := fun k_ => ((((((some k_ ≠ (.slice Ao21 t387.length co21 : Value).ownBlock ∧ some k_ ≠ (.slice Ao17 t380.length co17 : Value).ownBlock) ∧ some k_ ≠ (.slice Ao18 t383.length co18 : Value).ownBlock) ∧ some k_ ≠ (.slice Ao28 t396.length co28 : Value).ownBlock) ∧ some k_ ≠ (.slice Ao32 t399.length co32 : Value).ownBlock) ∧ some k_ ≠ (.slice Ao35 t404.length co35 : Value).ownBlock) ∧ some k_ ≠ (.slice Ao40 t407.length co40 : Value).ownBlock)) (n := t390.length) (c := co24) ?_).2.2; exact (by (with_reducible repeat (first | apply Kd.R_alloc | apply Kd.R_drewN | apply Kd.R_drew)); exact (Kd.R_mono (Kd.R_far (p := ⟨gb412, 2, none⟩) (Kd.R_far (p := ⟨gb412, 1, none⟩) (Kd.R_far (p := ⟨gb412, 0, none⟩) (Kd.R_types HO392.out BK412.out (by decide)) (fun _ hk => hk.2) (.slice Ao35 t404.length co35)) (fun _ hk => hk.2) (.slice Ao40 t407.length co40)) (fun _ hk => hk.2) (.int .i64 t410)) (fun _ h_ => h_.1)))); (case side8 => exact (Kd.R_reads' HO392.out).2.1); rintro e w58 ⟨rfl, hb⟩; refine ⟨_, rfl, ?_⟩; have n0_ := Aside0.mk (Kd.R_below (by (with_reducible repeat (first | apply Kd.R_alloc | apply Kd.R_drewN | apply Kd.R_drew)); exact (Kd.R_mono (Kd.R_far (p := ⟨gb412, 2, none⟩) (Kd.R_far (p := ⟨gb412, 1, none⟩) (Kd.R_far (p := ⟨gb412, 0, none⟩) (Kd.R_types HO382.out BK412.out (by decide)) (fun _ hk => hk.2) (.slice Ao35 t404.length co35)) (fun _ hk => hk.2) (.slice Ao40 t407.length co40)) (fun _ hk => hk.2) (.int .i64 t410)) (fun _ h_ => h_.1))) hb); have n1_ := Aside0.mk (Kd.R_below (by (with_reducible repeat (first | apply Kd.R_alloc | apply Kd.R_drewN | apply Kd.R_drew)); exact (Kd.R_mono (Kd.R_far (p := ⟨gb412, 2, none⟩) (Kd.R_far (p := ⟨gb412, 1, none⟩) (Kd.R_far (p := ⟨gb412, 0, none⟩) (Kd.R_types HO385.out BK412.out (by decide)) (fun _ hk => hk.2) (.slice Ao35 t404.length co35)) (fun _ hk => hk.2) (.slice Ao40 t407.length co40)) (fun _ hk => hk.2) (.int .i64 t410)) (fun _ h_ => h_.1))) hb); have n2_ := Aside0.mk (Kd.R_below (by (with_reducible repeat (first | apply Kd.R_alloc | apply Kd.R_drewN | apply Kd.R_drew)); exact (Kd.R_mono (Kd.R_far (p := ⟨gb412, 2, none⟩) (Kd.R_far (p := ⟨gb412, 1, none⟩) (Kd.R_far (p := ⟨gb412, 0, none⟩) (Kd.R_types HO389.out BK412.out (by decide)) (fun _ hk => hk.2) (.slice Ao35 t404.length co35)) (fun _ hk => hk.2) (.slice Ao40 t407.length co40)) (fun _ hk => hk.2) (.int .i64 t410)) (fun _ h_ => h_.1))) hb); have n3_ := Aside0.mk (Kd.R_below (by (with_reducible repeat (first | apply Kd.R_alloc | apply Kd.R_drewN | apply Kd.R_drew)); exact (Kd.R_mono (Kd.R_far (p := ⟨gb412, 2, none⟩) (Kd.R_far (p := ⟨gb412, 1, none⟩) (Kd.R_far (p := ⟨gb412, 0, none⟩) (Kd.R_types HO392.out BK412.out (by decide)) (fun _ hk => hk.2) (.slice Ao35 t404.length co35)) (fun _ hk => hk.2) (.slice Ao40 t407.length co40)) (fun _ hk => hk.2) (.int .i64 t410)) (fun _ h_ => h_.1))) hb); have n4_ := Aside0.mk (Kd.R_below (by (with_reducible repeat (first | apply Kd.R_alloc | apply Kd.R_drewN | apply Kd.R_drew)); exact (Kd.R_mono (Kd.R_far (p := ⟨gb412, 2, none⟩) (Kd.R_far (p := ⟨gb412, 1, none⟩) (Kd.R_far (p := ⟨gb412, 0, none⟩) (Kd.R_types HO398.out BK412.out (by decide)) (fun _ hk => hk.2) (.slice Ao35 t404.length co35)) (fun _ hk => hk.2) (.slice Ao40 t407.length co40)) (fun _ hk => hk.2) (.int .i64 t410)) (fun _ h_ => h_.1))) hb); have n5_ := Aside0.mk (Kd.R_below (by (with_reducible repeat (first | apply Kd.R_alloc | apply Kd.R_drewN | apply Kd.R_drew)); exact (Kd.R_mono (Kd.R_far (p := ⟨gb412, 2, none⟩) (Kd.R_far (p := ⟨gb412, 1, none⟩) (Kd.R_far (p := ⟨gb412, 0, none⟩) (Kd.R_types HO401.out BK412.out (by decide)) (fun _ hk => hk.2) (.slice Ao35 t404.length co35)) (fun _ hk => hk.2) (.slice Ao40 t407.length co40)) (fun _ hk => hk.2) (.int .i64 t410)) (fun _ h_ => h_.1))) hb); have n6_ := Aside0.mk (Kd.R_below (by (with_reducible repeat (first | apply Kd.R_alloc | apply Kd.R_drewN | apply Kd.R_drew)); exact (Kd.R_mono (Kd.R_far (p := ⟨gb412, 2, none⟩) (Kd.R_far (p := ⟨gb412, 1, none⟩) (Kd.R_far (p := ⟨gb412, 0, none⟩) (Kd.R_types HO406.out BK412.out (by decide)) (fun _ hk => hk.2) (.slice Ao35 t404.length co35)) (fun _ hk => hk.2) (.slice Ao40 t407.length co40)) (fun _ hk => hk.2) (.int .i64 t410)) (fun _ h_ => h_.1))) hb); have n7_ := Aside0.mk (Kd.R_below (by (with_reducible repeat (first | apply Kd.R_alloc | apply Kd.R_drewN | apply Kd.R_drew)); exact (Kd.R_mono (Kd.R_far (p := ⟨gb412, 2, none⟩) (Kd.R_far (p := ⟨gb412, 1, none⟩) (Kd.R_far (p := ⟨gb412, 0, none⟩) (Kd.R_types HO409.out BK412.out (by decide)) (fun _ hk => hk.2) (.slice Ao35 t404.length co35)) (fun _ hk => hk.2) (.slice Ao40 t407.length co40)) (fun _ hk => hk.2) (.int .i64 t410)) (fun _ h_ => h_.1))) hb); have n8_ := Aside0.mk (blk_below (g := gb378) (o := .cells #[.slice A0_0 l0_0.length c0_0, .slice A0_1 l0_1.length c0_1, .int .i64 a0_2] 24 (0, 0)) KK hb); have n9_ := Aside0.mk (blk_below (g := gb395) (o := .cells #[.slice Ao21 t387.length co21, .slice Ao24 t390.length co24, .int .i64 t393] 29 (0, 0)) KK hb); have n10_ := Aside0.mk (blk_below (g := gb403) (o := .cells #[.slice Ao28 t396.length co28, .slice Ao32 t399.length co32, .int .i64 t402] 29 (0, 0)) KK hb); have n11_ := Aside0.mk (blk_below (g := gb412) (o := .cells #[.slice Ao35 t404.length co35, .slice Ao40 t407.length co40, .int .i64 t410] 29 (0, 0)) (by (with_reducible repeat (first | refine blk_drewN ?_ _ | refine blk_drew ?_ | refine blk_alloc ?_ _)); refine blk_put (cs := #[.slice Ao35 t404.length co35, .slice Ao40 t407.length co40, .int .i64 0]) ?_ 2 _ rfl; (with_reducible repeat (first | refine blk_drewN ?_ _ | refine blk_drew ?_ | refine blk_alloc ?_ _)); refine blk_put (cs := #[.slice Ao35 t404.length co35, .slice none 0 0, .int .i64 0]) ?_ 1 _ rfl; (with_reducible repeat (first | refine blk_drewN ?_ _ | refine blk_drew ?_ | refine blk_alloc ?_ _)); refine blk_put (cs := #[.slice none 0 0, .slice none 0 0, .int .i64 0]) ?_ 0 _ rfl; (with_reducible repeat (first | refine blk_drewN ?_ _ | refine blk_drew ?_ | refine blk_alloc ?_ _)); exact BK412.out) hb); have n12_ := Aside0.mk (below_step KB hb); clear HO382; clear HO385; clear HO389; clear HO392; clear HO398; clear HO401; clear HO406; clear HO409; clear BK378; clear BK395; clear BK403; clear BK412; clear HB; have HO382 := n0_; have HO385 := n1_; have HO389 := n2_; have HO392 := n3_; have HO398 := n4_; have HO401 := n5_; have HO406 := n6_; have HO409 := n7_; have BK378 := n8_; have BK395 := n9_; have BK403 := n10_; have BK412 := n11_; have HB := n12_; clear n0_ n1_ n2_ n3_ n4_ n5_ n6_ n7_ n8_ n9_ n10_ n11_ n12_; (try clear hb); (try clear hb2); (try clear hk); (try clear hi)))
    go_meet
    case rel => exact ⟨_, (true), (by first | rfl | (simp; done) | (simp [*]; done)), H', ⟨by first | omega | exact Nat.le_refl _⟩, ⟨by (with_reducible repeat (first | apply Kd.R_alloc | apply Kd.R_drewN | apply Kd.R_drew)); exact Kd.R_mono HO389.out (fun _ hk => ⟨hk.1.1.1.1.1.1, ⟨hk.1.1.1.2, ⟨hk.1.1.2, ⟨hk.1.2, hk.2⟩⟩⟩⟩)⟩, ⟨by (with_reducible repeat (first | apply Kd.R_alloc | apply Kd.R_drewN | apply Kd.R_drew)); exact Kd.R_mono HO392.out (fun _ hk => ⟨hk.1.1.1.1.1.1, ⟨hk.1.1.1.2, ⟨hk.1.1.2, ⟨hk.1.2, hk.2⟩⟩⟩⟩)⟩, ⟨by (with_reducible repeat (first | apply Kd.R_alloc | apply Kd.R_drewN | apply Kd.R_drew)); exact Kd.R_mono HO398.out (fun _ hk => ⟨hk.1.1.1.2, ⟨hk.1.1.2, ⟨hk.1.1.1.1.1.1, ⟨hk.1.2, hk.2⟩⟩⟩⟩)⟩, ⟨by (with_reducible repeat (first | apply Kd.R_alloc | apply Kd.R_drewN | apply Kd.R_drew)); exact Kd.R_mono HO401.out (fun _ hk => ⟨hk.1.1.1.2, ⟨hk.1.1.2, ⟨hk.1.1.1.1.1.1, ⟨hk.1.2, hk.2⟩⟩⟩⟩)⟩, ⟨by (with_reducible repeat (first | apply Kd.R_alloc | apply Kd.R_drewN | apply Kd.R_drew)); exact Kd.R_mono HO406.out (fun _ hk => ⟨hk.1.1.1.2, ⟨hk.1.1.2, ⟨hk.1.2, ⟨hk.2, hk.1.1.1.1.1.1⟩⟩⟩⟩)⟩, ⟨by (with_reducible repeat (first | apply Kd.R_alloc | apply Kd.R_drewN | apply Kd.R_drew)); exact Kd.R_mono HO409.out (fun _ hk => ⟨hk.1.1.1.2, ⟨hk.1.1.2, ⟨hk.1.2, ⟨hk.2, hk.1.1.1.1.1.1⟩⟩⟩⟩)⟩, ⟨KK⟩, ⟨KK⟩, ⟨KK⟩, ⟨KK⟩, ⟨KB⟩⟩
  case rest =>
   clear HC11
   try clear c1
   try clear c2
   try clear p2
   try clear c3
   try clear c3b0
   try clear c4
   try clear c5
   try clear c10
   try clear c15
   try clear c17
   try clear c19
   try clear c22
   try clear c29
   try clear c30
   try clear c36
   try clear c37
   try clear c38
   try clear c42
   try clear c43
   try clear c44
   try clear c45
   try clear c47
   try clear c48
   try clear c51
   try clear c52
   try clear c53
   try clear c55
   try clear c56
   try clear hcz13_0
   try clear hcz13_1
   try clear hcz13_2
   try clear hcz15_0
   try clear hcz15_1
   try clear hcz15_2
   try clear hcz23_0
   try clear hcz23_1
   try clear hcz23_2
   try clear hcz25_0
   try clear hcz25_1
   try clear hcz25_2
   try clear hcz31_0
   try clear hcz31_1
   try clear hcz31_2
   try clear hcz39_0
   try clear hcz39_1
   try clear hcz39_2
   try clear hcz46_0
   try clear hcz46_1
   try clear hcz46_2
   try clear hcz49_0
   try clear hcz49_1
   try clear hcz49_2
   try clear hcz54_0
   try clear hcz54_1
   try clear hcz54_2
   try clear hcz57_0
   try clear hcz57_1
   try clear hcz57_2
   try clear hcz5_0
   try clear hcz5_1
   try clear hcz5_2
   try clear hfz13_0
   try clear hfz13_1
   try clear hfz13_2
   try clear hfz15_0
   try clear hfz15_1
   try clear hfz15_2
   try clear hfz23_0
   try clear hfz23_1
   try clear hfz23_2
   try clear hfz25_0
   try clear hfz25_1
   try clear hfz25_2
   try clear hfz31_0
   try clear hfz31_1
   try clear hfz31_2
   try clear hfz39_0
   try clear hfz39_1
   try clear hfz39_2
   try clear hfz46_0
   try clear hfz46_1
   try clear hfz46_2
   try clear hfz49_0
   try clear hfz49_1
   try clear hfz49_2
   try clear hfz54_0
   try clear hfz54_1
   try clear hfz54_2
   try clear hfz57_0
   try clear hfz57_1
   try clear hfz57_2
   try clear hfz5_0
   try clear hfz5_1
   try clear hfz5_2
   obtain ⟨kq, x40_10, rfl, HA, HJ10, HO_396000, HO_396001, HO_404000, HO_404001, HO_413000, HO_413001, BK378, BK395, BK403, BK412, HB⟩ := hcut
   cases kq with
   | zero => exact absurd HA.out (by simp [laws_FnExactStoreSync.j0])
   | succ kj10 =>
    have H := HA.out
    clear HA
    simp only [laws_FnExactStoreSync.j0] at H
    by_cases c59 : x40_10 = true
    ·subst c59
     have H1 : (none) = some r := by rw [if_pos rfl] at H; exact H
     clear H
     have H := H1
     clear H1
     exact absurd H (by simp)
    ·replace c59 := Bool.eq_false_iff.mpr c59
     subst c59
     have H1 : ((laws_toStore.f kj10 l0_0 l0_1 a0_2).bind fun bt414 => ((laws_eqStore.f kj10 t396 t399 t402 bt414.1 bt414.2.1 bt414.2.2).bind fun t421 => (if t421 = true then ((laws_markStore.f kj10 t396 t399 t402 1).bind fun bt422 => (if bt422.1 < 0 then (laws_FnExactStoreSync.j1 kj10 t394 true l0_0 l0_1 a0_2 t387 t390 t393 t404 t407 t410) else ((laws_eqStore.f kj10 t404 t407 t410 t387 t390 t393).bind fun t425 => (if t425 = true then (laws_FnExactStoreSync.j1 kj10 t394 (t411 != t394) l0_0 l0_1 a0_2 t387 t390 t393 t404 t407 t410) else (laws_FnExactStoreSync.j1 kj10 t394 true l0_0 l0_1 a0_2 t387 t390 t393 t404 t407 t410))))) else (none)))) = some r := by rw [if_neg (show ¬ (false = true) by decide)] at H; exact H
     clear H
     have H := H1
     clear H1
     replace H := Option.bind_eq_some_iff.mp H
     obtain ⟨⟨t414, t417, t420⟩, A600, H⟩ := H
     replace H : ((laws_eqStore.f kj10 t396 t399 t402 t414 t417 t420).bind fun t421 => (if t421 = true then ((laws_markStore.f kj10 t396 t399 t402 1).bind fun bt422 => (if bt422.1 < 0 then (laws_FnExactStoreSync.j1 kj10 t394 true l0_0 l0_1 a0_2 t387 t390 t393 t404 t407 t410) else ((laws_eqStore.f kj10 t404 t407 t410 t387 t390 t393).bind fun t425 => (if t425 = true then (laws_FnExactStoreSync.j1 kj10 t394 (t411 != t394) l0_0 l0_1 a0_2 t387 t390 t393 t404 t407 t410) else (laws_FnExactStoreSync.j1 kj10 t394 true l0_0 l0_1 a0_2 t387 t390 t393 t404 t407 t410))))) else (none))) = some r := H
     have A60 := Aside0.mk A600
     clear A600
     replace H := Option.bind_eq_some_iff.mp H
     obtain ⟨t421, A610, H⟩ := H
     replace H : (if t421 = true then ((laws_markStore.f kj10 t396 t399 t402 1).bind fun bt422 => (if bt422.1 < 0 then (laws_FnExactStoreSync.j1 kj10 t394 true l0_0 l0_1 a0_2 t387 t390 t393 t404 t407 t410) else ((laws_eqStore.f kj10 t404 t407 t410 t387 t390 t393).bind fun t425 => (if t425 = true then (laws_FnExactStoreSync.j1 kj10 t394 (t411 != t394) l0_0 l0_1 a0_2 t387 t390 t393 t404 t407 t410) else (laws_FnExactStoreSync.j1 kj10 t394 true l0_0 l0_1 a0_2 t387 t390 t393 t404 t407 t410))))) else (none)) = some r := H
     have A61 := Aside0.mk A610
     clear A610
     by_cases c62 : t421 = true
     ·subst c62
      have H1 : ((laws_markStore.f kj10 t396 t399 t402 1).bind fun bt422 => (if bt422.1 < 0 then (laws_FnExactStoreSync.j1 kj10 t394 true l0_0 l0_1 a0_2 t387 t390 t393 t404 t407 t410) else ((laws_eqStore.f kj10 t404 t407 t410 t387 t390 t393).bind fun t425 => (if t425 = true then (laws_FnExactStoreSync.j1 kj10 t394 (t411 != t394) l0_0 l0_1 a0_2 t387 t390 t393 t404 t407 t410) else (laws_FnExactStoreSync.j1 kj10 t394 true l0_0 l0_1 a0_2 t387 t390 t393 t404 t407 t410))))) = some r := by rw [if_pos rfl] at H; exact H
      clear H
      have H := H1
      clear H1
      replace H := Option.bind_eq_some_iff.mp H
      obtain ⟨⟨t422, t423, t424⟩, A630, H⟩ := H
      replace H : (if t422 < 0 then (laws_FnExactStoreSync.j1 kj10 t394 true l0_0 l0_1 a0_2 t387 t390 t393 t404 t407 t410) else ((laws_eqStore.f kj10 t404 t407 t410 t387 t390 t393).bind fun t425 => (if t425 = true then (laws_FnExactStoreSync.j1 kj10 t394 (t411 != t394) l0_0 l0_1 a0_2 t387 t390 t393 t404 t407 t410) else (laws_FnExactStoreSync.j1 kj10 t394 true l0_0 l0_1 a0_2 t387 t390 t393 t404 t407 t410)))) = some r := H
      have A63 := Aside0.mk A630
      clear A630
      have HC64 := Aside0.mk H
      clear H
      try go_wp2
      have n0_ := Aside0.mk (Kd.R_drew HO_396000.out)
      have n1_ := Aside0.mk (Kd.R_drew HO_396001.out)
      have n2_ := Aside0.mk (Kd.R_drew HO_404000.out)
      have n3_ := Aside0.mk (Kd.R_drew HO_404001.out)
      have n4_ := Aside0.mk (Kd.R_drew HO_413000.out)
      have n5_ := Aside0.mk (Kd.R_drew HO_413001.out)
      have n6_ := Aside0.mk (blk_drew BK378.out)
      have n7_ := Aside0.mk (blk_drew BK395.out)
      have n8_ := Aside0.mk (blk_drew BK403.out)
      have n9_ := Aside0.mk (blk_drew BK412.out)
      have n10_ := Aside0.mk (below_drew1 HB.out)
      clear HO_396000
      clear HO_396001
      clear HO_404000
      clear HO_404001
      clear HO_413000
      clear HO_413001
      clear BK378
      clear BK395
      clear BK403
      clear BK412
      clear HB
      have HO_396000 := n0_
      have HO_396001 := n1_
      have HO_404000 := n2_
      have HO_404001 := n3_
      have HO_413000 := n4_
      have HO_413001 := n5_
      have BK378 := n6_
      have BK395 := n7_
      have BK403 := n8_
      have BK412 := n9_
      have HB := n10_
      clear n0_ n1_ n2_ n3_ n4_ n5_ n6_ n7_ n8_ n9_ n10_
      refine start_ (n := 5) (S := fun w' => w'.cell? ⟨gb403, 0, none⟩ = some (.slice Ao28 t396.length co28) ∧ w'.cell? ⟨gb403, 1, none⟩ = some (.slice Ao32 t399.length co32) ∧ w'.cell? ⟨gb403, 2, none⟩ = some (.int .i64 t402) ∧ w'.cell? ⟨gb378, 0, none⟩ = some (.slice A0_0 l0_0.length c0_0) ∧ w'.cell? ⟨gb378, 1, none⟩ = some (.slice A0_1 l0_1.length c0_1) ∧ w'.cell? ⟨gb378, 2, none⟩ = some (.int .i64 a0_2)) (ds := []) #[false, false, false, false, false] (by kernel_rfl) rfl rfl ⟨(blk_cell BK403.out 0).trans rfl, (blk_cell BK403.out 1).trans rfl, (blk_cell BK403.out 2).trans rfl, (blk_cell BK378.out 0).trans rfl, (blk_cell BK378.out 1).trans rfl, (blk_cell BK378.out 2).trans rfl⟩ (fun hHeld => ?_)
      generalize wc.drew = w65 at HO_396000 HO_396001 HO_404000 HO_404001 HO_413000 HO_413001 BK378 BK395 BK403 BK412 HB hHeld ⊢
      refine take_ (i := 0) (N := some 41) (v := ?_) (a' := ?_) #[true, false, false, false, false] rfl rfl (by kernel_rfl) (fun _ _ _ h => h) (Or.inl ⟨by rfl, ?_⟩) hHeld ?_ ?_
      rotate_left
      ·rintro w' ⟨s0, s1, s2, s3, s4, s5⟩
       go_simp
       with_reducible rfl
      rotate_left
      ·simp only [Act.put, List.setIfInBounds_toArray, List.set_cons_zero, List.set_cons_succ, i64_w, i32_w]
       rfl
      refine take_ (i := 1) (N := some 42) (v := ?_) (a' := ?_) #[true, true, false, false, false] rfl rfl (by kernel_rfl) (fun _ _ _ h => h) (Or.inl ⟨by rfl, ?_⟩) hHeld ?_ ?_
      rotate_left
      ·rintro w' ⟨s0, s1, s2, s3, s4, s5⟩
       go_simp
       with_reducible rfl
      rotate_left
      ·simp only [Act.put, List.setIfInBounds_toArray, List.set_cons_zero, List.set_cons_succ, i64_w, i32_w]
       rfl
      refine one_ (i := 2) (N := some 43) #[true, true, true, false, false] rfl rfl (by kernel_rfl) (by decide) (fun K hK => ?_)
      refine goes_ Try.func17 (by kernel_rfl) rfl #[.agg #[.slice A0_0 l0_0.length c0_0, .slice A0_1 l0_1.length c0_1, .int .i64 a0_2]] (by rfl) rfl rfl KL ?_
      with_reducible refine (laws_toStore.calls kj10 _ _ l0_0 _ _ l0_1 a0_2 t414 t417 t420 _ ?side1 ?side2 ?side3 ?side4 A60.out).mono ?_
      (case side1 => exact KD (Kd.C_below HR0_0.out HB.out))
      (case side2 => exact HC0_0.out)
      (case side3 => exact KD (Kd.C_below HR0_1.out HB.out))
      (case side4 => exact HC0_1.out)
      rintro e w66 ⟨v415, v418, rfl, ho0, ho1, hb⟩
      refine ⟨_, rfl, ?_⟩
      have n0_ := Aside0.mk (Kd.R_mono (Kd.R_told (Kd.R_told (Kd.R_old (KR HO_396000.out) hb) (Kd.R_base ho0)) (Kd.R_base ho1)) (fun _ h_ => h_.1))
      have n1_ := Aside0.mk (Kd.R_mono (Kd.R_told (Kd.R_told (Kd.R_old (KR HO_396001.out) hb) (Kd.R_base ho0)) (Kd.R_base ho1)) (fun _ h_ => h_.1))
      have n2_ := Aside0.mk (Kd.R_mono (Kd.R_told (Kd.R_told (Kd.R_old (KR HO_404000.out) hb) (Kd.R_base ho0)) (Kd.R_base ho1)) (fun _ h_ => h_.1))
      have n3_ := Aside0.mk (Kd.R_mono (Kd.R_told (Kd.R_told (Kd.R_old (KR HO_404001.out) hb) (Kd.R_base ho0)) (Kd.R_base ho1)) (fun _ h_ => h_.1))
      have n4_ := Aside0.mk (Kd.R_mono (Kd.R_told (Kd.R_told (Kd.R_old (KR HO_413000.out) hb) (Kd.R_base ho0)) (Kd.R_base ho1)) (fun _ h_ => h_.1))
      have n5_ := Aside0.mk (Kd.R_mono (Kd.R_told (Kd.R_told (Kd.R_old (KR HO_413001.out) hb) (Kd.R_base ho0)) (Kd.R_base ho1)) (fun _ h_ => h_.1))
      have n6_ := Aside0.mk (Kd.R_lower (Kd.R_new' (Kd.R_new' (Kd.R_new' (Kd.R_new' (Kd.R_new' (Kd.R_new' ho0 (Kd.R_lt (KR HO_396000.out))) (Kd.R_lt (KR HO_396001.out))) (Kd.R_lt (KR HO_404000.out))) (Kd.R_lt (KR HO_404001.out))) (Kd.R_lt (KR HO_413000.out))) (Kd.R_lt (KR HO_413001.out))) (below_size KB))
      have n7_ := Aside0.mk (Kd.R_lower (Kd.R_new' (Kd.R_new' (Kd.R_new' (Kd.R_new' (Kd.R_new' (Kd.R_new' ho1 (Kd.R_lt (KR HO_396000.out))) (Kd.R_lt (KR HO_396001.out))) (Kd.R_lt (KR HO_404000.out))) (Kd.R_lt (KR HO_404001.out))) (Kd.R_lt (KR HO_413000.out))) (Kd.R_lt (KR HO_413001.out))) (below_size KB))
      have n8_ := Aside0.mk (blk_below (g := gb378) (o := .cells #[.slice A0_0 l0_0.length c0_0, .slice A0_1 l0_1.length c0_1, .int .i64 a0_2] 24 (0, 0)) KK hb)
      have n9_ := Aside0.mk (blk_below (g := gb395) (o := .cells #[.slice Ao21 t387.length co21, .slice Ao24 t390.length co24, .int .i64 t393] 29 (0, 0)) KK hb)
      have n10_ := Aside0.mk (blk_below (g := gb403) (o := .cells #[.slice Ao28 t396.length co28, .slice Ao32 t399.length co32, .int .i64 t402] 29 (0, 0)) KK hb)
      have n11_ := Aside0.mk (blk_below (g := gb412) (o := .cells #[.slice Ao35 t404.length co35, .slice Ao40 t407.length co40, .int .i64 t410] 29 (0, 0)) KK hb)
      have n12_ := Aside0.mk (below_step KB hb)
      clear HO_396000
      clear HO_396001
      clear HO_404000
      clear HO_404001
      clear HO_413000
      clear HO_413001
      clear BK378
      clear BK395
      clear BK403
      clear BK412
      clear HB
      have HO_396000 := n0_
      have HO_396001 := n1_
      have HO_404000 := n2_
      have HO_404001 := n3_
      have HO_413000 := n4_
      have HO_413001 := n5_
      have HO416 := n6_
      have HO419 := n7_
      have BK378 := n8_
      have BK395 := n9_
      have BK403 := n10_
      have BK412 := n11_
      have HB := n12_
      clear n0_ n1_ n2_ n3_ n4_ n5_ n6_ n7_ n8_ n9_ n10_ n11_ n12_
      (try clear hb)
      (try clear hb2)
      (try clear hk)
      (try clear hi)
      (try clear ho0)
      (try clear ho1)
      obtain ⟨Ao67, co67, eo67⟩ := Kd.R_slice HO416.out
      (first | subst eo67 | (injection eo67 with f1_ f2_ f3_; have f4_ := f1_.symm; have f5_ := f3_.symm; clear f1_ f2_ f3_; subst f4_; subst f5_))
      obtain ⟨Ao68, co68, eo68⟩ := Kd.R_slice HO419.out
      (first | subst eo68 | (injection eo68 with f1_ f2_ f3_; have f4_ := f1_.symm; have f5_ := f3_.symm; clear f1_ f2_ f3_; subst f4_; subst f5_))
      refine hK.out _ _ ⟨(blk_cell BK403.out 0).trans rfl, (blk_cell BK403.out 1).trans rfl, (blk_cell BK403.out 2).trans rfl, (blk_cell BK378.out 0).trans rfl, (blk_cell BK378.out 1).trans rfl, (blk_cell BK378.out 2).trans rfl⟩ (fun hHeld => ?_)
      clear hK K
      refine norm_ (a' := ?_) ?_ ?_
      rotate_left
      ·show Act.put _ (some 43) _ = _
       simp only [Act.put, List.setIfInBounds_toArray, List.set_cons_zero, List.set_cons_succ, i64_w, i32_w]
       rfl
      refine one_ (i := 3) (N := some 44) #[true, true, true, true, false] rfl rfl (by kernel_rfl) (by decide) (fun K hK => ?_)
      refine goes_ Try.func19 (by kernel_rfl) rfl #[.agg #[.slice Ao28 t396.length co28, .slice Ao32 t399.length co32, .int .i64 t402], .agg #[.slice Ao67 t414.length co67, .slice Ao68 t417.length co68, .int .i64 t420]] (by rfl) rfl rfl KL ?_
      with_reducible refine (laws_eqStore.calls kj10 _ _ t396 _ _ t399 t402 _ _ t414 _ _ t417 t420 true _ ?side1 ?side2 ?side3 ?side4 ?side5 ?side6 ?side7 ?side8 A61.out).mono ?_
      (case side1 => repeat (first | exact (Kd.R_reads' HO_404000.out).2.2 | (with_reducible refine Kd.C_alloc ?_ _) | (with_reducible refine Kd.C_drewN ?_ _) | (with_reducible refine Kd.C_drew ?_)))
      (case side2 => exact (Kd.R_reads' HO_404000.out).2.1)
      (case side3 => repeat (first | exact (Kd.R_reads' HO_404001.out).2.2 | (with_reducible refine Kd.C_alloc ?_ _) | (with_reducible refine Kd.C_drewN ?_ _) | (with_reducible refine Kd.C_drew ?_)))
      (case side4 => exact (Kd.R_reads' HO_404001.out).2.1)
      (case side5 => repeat (first | exact (Kd.R_reads' HO416.out).2.2 | (with_reducible refine Kd.C_alloc ?_ _) | (with_reducible refine Kd.C_drewN ?_ _) | (with_reducible refine Kd.C_drew ?_)))
      (case side6 => exact (Kd.R_reads' HO416.out).2.1)
      (case side7 => repeat (first | exact (Kd.R_reads' HO419.out).2.2 | (with_reducible refine Kd.C_alloc ?_ _) | (with_reducible refine Kd.C_drewN ?_ _) | (with_reducible refine Kd.C_drew ?_)))
      (case side8 => exact (Kd.R_reads' HO419.out).2.1)
      rintro e w69 ⟨rfl, hb⟩
      refine ⟨_, rfl, ?_⟩
      have n0_ := Aside0.mk (Kd.R_below (KR HO_396000.out) hb)
      have n1_ := Aside0.mk (Kd.R_below (KR HO_396001.out) hb)
      have n2_ := Aside0.mk (Kd.R_below (KR HO_404000.out) hb)
      have n3_ := Aside0.mk (Kd.R_below (KR HO_404001.out) hb)
      have n4_ := Aside0.mk (Kd.R_below (KR HO_413000.out) hb)
      have n5_ := Aside0.mk (Kd.R_below (KR HO_413001.out) hb)
      have n6_ := Aside0.mk (Kd.R_below (KR HO416.out) hb)
      have n7_ := Aside0.mk (Kd.R_below (KR HO419.out) hb)
      have n8_ := Aside0.mk (blk_below (g := gb378) (o := .cells #[.slice A0_0 l0_0.length c0_0, .slice A0_1 l0_1.length c0_1, .int .i64 a0_2] 24 (0, 0)) KK hb)
      have n9_ := Aside0.mk (blk_below (g := gb395) (o := .cells #[.slice Ao21 t387.length co21, .slice Ao24 t390.length co24, .int .i64 t393] 29 (0, 0)) KK hb)
      have n10_ := Aside0.mk (blk_below (g := gb403) (o := .cells #[.slice Ao28 t396.length co28, .slice Ao32 t399.length co32, .int .i64 t402] 29 (0, 0)) KK hb)
      have n11_ := Aside0.mk (blk_below (g := gb412) (o := .cells #[.slice Ao35 t404.length co35, .slice Ao40 t407.length co40, .int .i64 t410] 29 (0, 0)) KK hb)
      have n12_ := Aside0.mk (below_step KB hb)
      clear HO_396000
      clear HO_396001
      clear HO_404000
      clear HO_404001
      clear HO_413000
      clear HO_413001
      clear HO416
      clear HO419
      clear BK378
      clear BK395
      clear BK403
      clear BK412
      clear HB
      have HO_396000 := n0_
      have HO_396001 := n1_
      have HO_404000 := n2_
      have HO_404001 := n3_
      have HO_413000 := n4_
      have HO_413001 := n5_
      have HO416 := n6_
      have HO419 := n7_
      have BK378 := n8_
      have BK395 := n9_
      have BK403 := n10_
      have BK412 := n11_
      have HB := n12_
      clear n0_ n1_ n2_ n3_ n4_ n5_ n6_ n7_ n8_ n9_ n10_ n11_ n12_
      (try clear hb)
      (try clear hb2)
      (try clear hk)
      (try clear hi)
      refine hK.out _ _ ⟨(blk_cell BK403.out 0).trans rfl, (blk_cell BK403.out 1).trans rfl, (blk_cell BK403.out 2).trans rfl, (blk_cell BK378.out 0).trans rfl, (blk_cell BK378.out 1).trans rfl, (blk_cell BK378.out 2).trans rfl⟩ (fun hHeld => ?_)
      clear hK K
      refine norm_ (a' := ?_) ?_ ?_
      rotate_left
      ·show Act.put _ (some 44) _ = _
       simp only [Act.put, List.setIfInBounds_toArray, List.set_cons_zero, List.set_cons_succ, i64_w, i32_w]
       rfl
      refine pure_ (i := 4) (N := some 45) (v := ?_) (a' := ?_) #[true, true, true, true, true] rfl rfl (by kernel_rfl) (fun _ _ _ h => h) (Or.inl ⟨by rfl, ?_⟩) ?_ ?_
      rotate_left
      ·intro w'
       go_simp
       with_reducible rfl
      rotate_left
      ·simp only [Act.put, List.setIfInBounds_toArray, List.set_cons_zero, List.set_cons_succ, i64_w, i32_w]
       rfl
      refine done_ (by kernel_rfl) ?_
      have hnb70 := NB403_378.out
      have hnc70 := NB378_403.out
      have hnb71 := NB403_395.out
      have hnc71 := NB395_403.out
      have hnb72 := NB403_412.out
      have hnc72 := NB412_403.out
      have hcz73_0 : w69.cell? ⟨gb403, 0, none⟩ = some (.slice Ao28 t396.length co28) := (blk_cell BK403.out 0).trans rfl
      have hcz73_1 : w69.cell? ⟨gb403, 1, none⟩ = some (.slice Ao32 t399.length co32) := (blk_cell BK403.out 1).trans rfl
      have hcz73_2 : w69.cell? ⟨gb403, 2, none⟩ = some (.int .i64 t402) := (blk_cell BK403.out 2).trans rfl
      have hfz73_0 := blk_frozen BK403.out 0
      have hfz73_1 := blk_frozen BK403.out 1
      have hfz73_2 := blk_frozen BK403.out 2
      go_upto_region 14 with (first | ((with_reducible refine gate_callee (f := 26) rfl ?_); refine goesL_ (some 48) rfl rfl Try.func26 (by kernel_rfl) rfl #[.agg #[.slice Ao28 t396.length co28, .slice Ao32 t399.length co32, .int .i64 t402], .int .i64 1] rfl KL ?_; (with_reducible refine (laws_markStore.calls kj10 (fun k_ => some k_ = (.slice Ao28 t396.length co28 : Value).ownBlock) (.slice Ao28 t396.length co28) t396 (fun k_ => some k_ = (.slice Ao32 t399.length co32 : Value).ownBlock) (.slice Ao32 t399.length co32) t399 t402 1 t422 t423 t424 w _ ?side1 ?side2 ?side3 ?side4 ?side5 A63.out).mono ?_); (case side1 => exact KB); (case side2 => exact Kd.R_tight rfl HO_404000.out); (case side3 => exact fun k_ e_ => (HO_404000.out.1 k_ e_.symm).1.1.2.2.1); (case side4 => exact Kd.R_tight rfl HO_404001.out); (case side5 => exact fun k_ e_ => (HO_404001.out.1 k_ e_.symm).1.1.2.2.1); rintro e w74 ⟨rfl, hy0, hy1, hb, hkp⟩; refine ⟨_, rfl, ?_⟩; have n0_ := Aside0.mk (Kd.R_mono (ok' := fun k_ => some k_ ≠ (.slice Ao24 t390.length co24 : Value).ownBlock ∧ some k_ ≠ (.slice Ao28 t396.length co28 : Value).ownBlock ∧ some k_ ≠ (.slice Ao32 t399.length co32 : Value).ownBlock ∧ some k_ ≠ (.slice Ao35 t404.length co35 : Value).ownBlock ∧ some k_ ≠ (.slice Ao40 t407.length co40 : Value).ownBlock ∧ some k_ ≠ (.slice Ao67 t414.length co67 : Value).ownBlock ∧ some k_ ≠ (.slice Ao68 t417.length co68 : Value).ownBlock) (Kd.R_keptB (HO_396000.out) hkp (fun k_ hk_ hs_ => Or.elim hs_ (fun e_ => (hk_.1.1.2.1) e_) (fun e_ => (hk_.1.1.2.2.1) e_))) (fun k_ hk_ => ⟨hk_.1.1.1.1, hk_.1.1.1.2.1, hk_.1.1.1.2.2.1, hk_.1.1.1.2.2.2.1, hk_.1.1.1.2.2.2.2, hk_.1.1.2, hk_.1.2⟩)); have n1_ := Aside0.mk (Kd.R_mono (ok' := fun k_ => some k_ ≠ (.slice Ao21 t387.length co21 : Value).ownBlock ∧ some k_ ≠ (.slice Ao28 t396.length co28 : Value).ownBlock ∧ some k_ ≠ (.slice Ao32 t399.length co32 : Value).ownBlock ∧ some k_ ≠ (.slice Ao35 t404.length co35 : Value).ownBlock ∧ some k_ ≠ (.slice Ao40 t407.length co40 : Value).ownBlock ∧ some k_ ≠ (.slice Ao67 t414.length co67 : Value).ownBlock ∧ some k_ ≠ (.slice Ao68 t417.length co68 : Value).ownBlock) (Kd.R_keptB (HO_396001.out) hkp (fun k_ hk_ hs_ => Or.elim hs_ (fun e_ => (hk_.1.1.2.1) e_) (fun e_ => (hk_.1.1.2.2.1) e_))) (fun k_ hk_ => ⟨hk_.1.1.1.1, hk_.1.1.1.2.1, hk_.1.1.1.2.2.1, hk_.1.1.1.2.2.2.1, hk_.1.1.1.2.2.2.2, hk_.1.1.2, hk_.1.2⟩)); have n2_ := Aside0.mk (Kd.R_reok rfl hy0 (fun k_ e_ => HO_404000.out.1 k_ e_)); have n3_ := Aside0.mk (Kd.R_reok rfl hy1 (fun k_ e_ => HO_404001.out.1 k_ e_)); have n4_ := Aside0.mk (Kd.R_mono (ok' := fun k_ => some k_ ≠ (.slice Ao21 t387.length co21 : Value).ownBlock ∧ some k_ ≠ (.slice Ao24 t390.length co24 : Value).ownBlock ∧ some k_ ≠ (.slice Ao28 t396.length co28 : Value).ownBlock ∧ some k_ ≠ (.slice Ao32 t399.length co32 : Value).ownBlock ∧ some k_ ≠ (.slice Ao40 t407.length co40 : Value).ownBlock ∧ some k_ ≠ (.slice Ao67 t414.length co67 : Value).ownBlock ∧ some k_ ≠ (.slice Ao68 t417.length co68 : Value).ownBlock) (Kd.R_keptB (HO_413000.out) hkp (fun k_ hk_ hs_ => Or.elim hs_ (fun e_ => (hk_.1.1.2.2.1) e_) (fun e_ => (hk_.1.1.2.2.2.1) e_))) (fun k_ hk_ => ⟨hk_.1.1.1.1, hk_.1.1.1.2.1, hk_.1.1.1.2.2.1, hk_.1.1.1.2.2.2.1, hk_.1.1.1.2.2.2.2, hk_.1.1.2, hk_.1.2⟩)); have n5_ := Aside0.mk (Kd.R_mono (ok' := fun k_ => some k_ ≠ (.slice Ao21 t387.length co21 : Value).ownBlock ∧ some k_ ≠ (.slice Ao24 t390.length co24 : Value).ownBlock ∧ some k_ ≠ (.slice Ao28 t396.length co28 : Value).ownBlock ∧ some k_ ≠ (.slice Ao32 t399.length co32 : Value).ownBlock ∧ some k_ ≠ (.slice Ao35 t404.length co35 : Value).ownBlock ∧ some k_ ≠ (.slice Ao67 t414.length co67 : Value).ownBlock ∧ some k_ ≠ (.slice Ao68 t417.length co68 : Value).ownBlock) (Kd.R_keptB (HO_413001.out) hkp (fun k_ hk_ hs_ => Or.elim hs_ (fun e_ => (hk_.1.1.2.2.1) e_) (fun e_ => (hk_.1.1.2.2.2.1) e_))) (fun k_ hk_ => ⟨hk_.1.1.1.1, hk_.1.1.1.2.1, hk_.1.1.1.2.2.1, hk_.1.1.1.2.2.2.1, hk_.1.1.1.2.2.2.2, hk_.1.1.2, hk_.1.2⟩)); have n6_ := Aside0.mk (blk_kept KK hkp (fun hs_ => Or.elim hs_ (fun e_ => (fun e_ => (Kd.R_ne HO_404000.out BK378.out (by decide)) e_) e_) (fun e_ => (fun e_ => (Kd.R_ne HO_404001.out BK378.out (by decide)) e_) e_))); have n7_ := Aside0.mk (blk_kept KK hkp (fun hs_ => Or.elim hs_ (fun e_ => (fun e_ => (Kd.R_ne HO_404000.out BK395.out (by decide)) e_) e_) (fun e_ => (fun e_ => (Kd.R_ne HO_404001.out BK395.out (by decide)) e_) e_))); have n8_ := Aside0.mk (blk_kept KK hkp (fun hs_ => Or.elim hs_ (fun e_ => (fun e_ => (Kd.R_ne HO_404000.out BK403.out (by decide)) e_) e_) (fun e_ => (fun e_ => (Kd.R_ne HO_404001.out BK403.out (by decide)) e_) e_))); have n9_ := Aside0.mk (blk_kept KK hkp (fun hs_ => Or.elim hs_ (fun e_ => (fun e_ => (Kd.R_ne HO_404000.out BK412.out (by decide)) e_) e_) (fun e_ => (fun e_ => (Kd.R_ne HO_404001.out BK412.out (by decide)) e_) e_))); have n10_ := Aside0.mk (Kd.R_mono (ok' := fun k_ => some k_ ≠ (.slice Ao21 t387.length co21 : Value).ownBlock ∧ some k_ ≠ (.slice Ao24 t390.length co24 : Value).ownBlock ∧ some k_ ≠ (.slice Ao28 t396.length co28 : Value).ownBlock ∧ some k_ ≠ (.slice Ao32 t399.length co32 : Value).ownBlock ∧ some k_ ≠ (.slice Ao35 t404.length co35 : Value).ownBlock ∧ some k_ ≠ (.slice Ao40 t407.length co40 : Value).ownBlock ∧ some k_ ≠ (.slice Ao68 t417.length co68 : Value).ownBlock) (Kd.R_keptB (HO416.out) hkp (fun k_ hk_ hs_ => Or.elim hs_ (fun e_ => (hk_.1.1.1.2) e_) (fun e_ => (hk_.1.1.2) e_))) (fun k_ hk_ => ⟨hk_.1.1.1.1.1.1.2, hk_.1.1.1.1.1.2, hk_.1.1.1.1.2, hk_.1.1.1.2, hk_.1.1.2, hk_.1.2, hk_.1.1.1.1.1.1.1⟩)); have n11_ := Aside0.mk (Kd.R_mono (ok' := fun k_ => some k_ ≠ (.slice Ao21 t387.length co21 : Value).ownBlock ∧ some k_ ≠ (.slice Ao24 t390.length co24 : Value).ownBlock ∧ some k_ ≠ (.slice Ao28 t396.length co28 : Value).ownBlock ∧ some k_ ≠ (.slice Ao32 t399.length co32 : Value).ownBlock ∧ some k_ ≠ (.slice Ao35 t404.length co35 : Value).ownBlock ∧ some k_ ≠ (.slice Ao40 t407.length co40 : Value).ownBlock ∧ some k_ ≠ (.slice Ao67 t414.length co67 : Value).ownBlock) (Kd.R_keptB (HO419.out) hkp (fun k_ hk_ hs_ => Or.elim hs_ (fun e_ => (hk_.1.1.1.2) e_) (fun e_ => (hk_.1.1.2) e_))) (fun k_ hk_ => ⟨hk_.1.1.1.1.1.1.2, hk_.1.1.1.1.1.2, hk_.1.1.1.1.2, hk_.1.1.1.2, hk_.1.1.2, hk_.1.2, hk_.1.1.1.1.1.1.1⟩)); have n12_ := Aside0.mk (hb); clear HO_396000; clear HO_396001; clear HO_404000; clear HO_404001; clear HO_413000; clear HO_413001; clear BK378; clear BK395; clear BK403; clear BK412; clear HO416; clear HO419; clear HB; have HO_396000 := n0_; have HO_396001 := n1_; have HO_404000 := n2_; have HO_404001 := n3_; have HO_413000 := n4_; have HO_413001 := n5_; have BK378 := n6_; have BK395 := n7_; have BK403 := n8_; have BK412 := n9_; have HO416 := n10_; have HO419 := n11_; have HB := n12_; clear n0_ n1_ n2_ n3_ n4_ n5_ n6_ n7_ n8_ n9_ n10_ n11_ n12_; (try clear hb); (try clear hkp); (try clear hy0); (try clear hy1)))
      (try simp only [Act.put, List.setIfInBounds_toArray, List.set_cons_zero, List.set_cons_succ])
      go_cut [61] (fun v61 wc => ∃ (kq : Nat) (x61_63 : Bool), v61 = .bool x61_63 ∧ Aside0 (laws_FnExactStoreSync.j1 kq t394 x61_63 l0_0 l0_1 a0_2 t387 t390 t393 t404 t407 t410 = some r) ∧ Aside0 (kq ≤ kj10) ∧ Aside0 (Kd.R k34 34 wc w.heap.size (fun k_ => some k_ ≠ ((.slice Ao24 t390.length co24) : Value).ownBlock ∧ some k_ ≠ ((.slice Ao28 t396.length co28) : Value).ownBlock ∧ some k_ ≠ ((.slice Ao32 t399.length co32) : Value).ownBlock ∧ some k_ ≠ ((.slice Ao35 t404.length co35) : Value).ownBlock ∧ some k_ ≠ ((.slice Ao40 t407.length co40) : Value).ownBlock) (.slice Ao21 t387.length co21) t387) ∧ Aside0 (Kd.R k34 34 wc w.heap.size (fun k_ => some k_ ≠ ((.slice Ao21 t387.length co21) : Value).ownBlock ∧ some k_ ≠ ((.slice Ao28 t396.length co28) : Value).ownBlock ∧ some k_ ≠ ((.slice Ao32 t399.length co32) : Value).ownBlock ∧ some k_ ≠ ((.slice Ao35 t404.length co35) : Value).ownBlock ∧ some k_ ≠ ((.slice Ao40 t407.length co40) : Value).ownBlock) (.slice Ao24 t390.length co24) t390) ∧ Aside0 (Kd.R k34 34 wc w.heap.size (fun k_ => some k_ ≠ ((.slice Ao21 t387.length co21) : Value).ownBlock ∧ some k_ ≠ ((.slice Ao24 t390.length co24) : Value).ownBlock ∧ some k_ ≠ ((.slice Ao32 t399.length co32) : Value).ownBlock ∧ some k_ ≠ ((.slice Ao35 t404.length co35) : Value).ownBlock ∧ some k_ ≠ ((.slice Ao40 t407.length co40) : Value).ownBlock) (.slice Ao28 t396.length co28) t423) ∧ Aside0 (Kd.R k34 34 wc w.heap.size (fun k_ => some k_ ≠ ((.slice Ao21 t387.length co21) : Value).ownBlock ∧ some k_ ≠ ((.slice Ao24 t390.length co24) : Value).ownBlock ∧ some k_ ≠ ((.slice Ao28 t396.length co28) : Value).ownBlock ∧ some k_ ≠ ((.slice Ao35 t404.length co35) : Value).ownBlock ∧ some k_ ≠ ((.slice Ao40 t407.length co40) : Value).ownBlock) (.slice Ao32 t399.length co32) t424) ∧ Aside0 (Kd.R k34 34 wc w.heap.size (fun k_ => some k_ ≠ ((.slice Ao21 t387.length co21) : Value).ownBlock ∧ some k_ ≠ ((.slice Ao24 t390.length co24) : Value).ownBlock ∧ some k_ ≠ ((.slice Ao28 t396.length co28) : Value).ownBlock ∧ some k_ ≠ ((.slice Ao32 t399.length co32) : Value).ownBlock ∧ some k_ ≠ ((.slice Ao40 t407.length co40) : Value).ownBlock) (.slice Ao35 t404.length co35) t404) ∧ Aside0 (Kd.R k34 34 wc w.heap.size (fun k_ => some k_ ≠ ((.slice Ao21 t387.length co21) : Value).ownBlock ∧ some k_ ≠ ((.slice Ao24 t390.length co24) : Value).ownBlock ∧ some k_ ≠ ((.slice Ao28 t396.length co28) : Value).ownBlock ∧ some k_ ≠ ((.slice Ao32 t399.length co32) : Value).ownBlock ∧ some k_ ≠ ((.slice Ao35 t404.length co35) : Value).ownBlock) (.slice Ao40 t407.length co40) t407) ∧ Aside0 (wc.heap[gb378]? = some (.cells #[(.slice A0_0 l0_0.length c0_0), (.slice A0_1 l0_1.length c0_1), .int .i64 a0_2] 24 (0, 0))) ∧ Aside0 (wc.heap[gb395]? = some (.cells #[(.slice Ao21 t387.length co21), (.slice Ao24 t390.length co24), .int .i64 t393] 29 (0, 0))) ∧ Aside0 (wc.heap[gb403]? = some (.cells #[(.slice Ao28 t396.length co28), (.slice Ao32 t399.length co32), .int .i64 t402] 29 (0, 0))) ∧ Aside0 (wc.heap[gb412]? = some (.cells #[(.slice Ao35 t404.length co35), (.slice Ao40 t407.length co40), .int .i64 t410] 29 (0, 0))) ∧ Aside0 (Below w.heap.size w wc))
      case first =>
       have H := HC64.out
       clear HC64
       by_cases c75 : t422 < 0
       ·rw [if_pos c75] at H
        have c75b0 : decide (t422 < 0) = true := decide_eq_true c75
        clear c75
        (first | rw [c75b0] | (simp only [i64_w, i32_w]; rw [c75b0]) | skip)
        have H' := Aside0.mk H
        clear H
        go_wp2
        go_meet
        case rel => exact ⟨_, (true), (by first | rfl | (simp; done) | (simp [*]; done)), H', ⟨by have := HJ10.out; first | omega | exact Nat.le_refl _⟩, ⟨by (with_reducible repeat (first | apply Kd.R_alloc | apply Kd.R_drewN | apply Kd.R_drew)); exact Kd.R_mono HO_396000.out (fun _ hk => ⟨hk.1, ⟨hk.2.1, ⟨hk.2.2.1, ⟨hk.2.2.2.1, hk.2.2.2.2.1⟩⟩⟩⟩)⟩, ⟨by (with_reducible repeat (first | apply Kd.R_alloc | apply Kd.R_drewN | apply Kd.R_drew)); exact Kd.R_mono HO_396001.out (fun _ hk => ⟨hk.1, ⟨hk.2.1, ⟨hk.2.2.1, ⟨hk.2.2.2.1, hk.2.2.2.2.1⟩⟩⟩⟩)⟩, ⟨by (with_reducible repeat (first | apply Kd.R_alloc | apply Kd.R_drewN | apply Kd.R_drew)); exact Kd.R_mono HO_404000.out (fun _ hk => ⟨hk.1.1.1, ⟨hk.1.1.2.1, ⟨hk.1.1.2.2.1, ⟨hk.1.1.2.2.2.1, hk.1.1.2.2.2.2⟩⟩⟩⟩)⟩, ⟨by (with_reducible repeat (first | apply Kd.R_alloc | apply Kd.R_drewN | apply Kd.R_drew)); exact Kd.R_mono HO_404001.out (fun _ hk => ⟨hk.1.1.1, ⟨hk.1.1.2.1, ⟨hk.1.1.2.2.1, ⟨hk.1.1.2.2.2.1, hk.1.1.2.2.2.2⟩⟩⟩⟩)⟩, ⟨by (with_reducible repeat (first | apply Kd.R_alloc | apply Kd.R_drewN | apply Kd.R_drew)); exact Kd.R_mono HO_413000.out (fun _ hk => ⟨hk.1, ⟨hk.2.1, ⟨hk.2.2.1, ⟨hk.2.2.2.1, hk.2.2.2.2.1⟩⟩⟩⟩)⟩, ⟨by (with_reducible repeat (first | apply Kd.R_alloc | apply Kd.R_drewN | apply Kd.R_drew)); exact Kd.R_mono HO_413001.out (fun _ hk => ⟨hk.1, ⟨hk.2.1, ⟨hk.2.2.1, ⟨hk.2.2.2.1, hk.2.2.2.2.1⟩⟩⟩⟩)⟩, ⟨KK⟩, ⟨KK⟩, ⟨KK⟩, ⟨KK⟩, ⟨KB⟩⟩
       ·rw [if_neg c75] at H
        have c75b0 : decide (t422 < 0) = false := decide_eq_false c75
        clear c75
        (first | rw [c75b0] | (simp only [i64_w, i32_w]; rw [c75b0]) | skip)
        replace H := Option.bind_eq_some_iff.mp H
        obtain ⟨t425, A760, H⟩ := H
        replace H : (if t425 = true then (laws_FnExactStoreSync.j1 kj10 t394 (t411 != t394) l0_0 l0_1 a0_2 t387 t390 t393 t404 t407 t410) else (laws_FnExactStoreSync.j1 kj10 t394 true l0_0 l0_1 a0_2 t387 t390 t393 t404 t407 t410)) = some r := H
        have A76 := Aside0.mk A760
        clear A760
        by_cases c77 : t425 = true
        ·subst c77
         have H1 : (laws_FnExactStoreSync.j1 kj10 t394 (t411 != t394) l0_0 l0_1 a0_2 t387 t390 t393 t404 t407 t410) = some r := by rw [if_pos rfl] at H; exact H
         clear H
         have H := H1
         clear H1
         have H' := Aside0.mk H
         clear H
         have hnb78 := NB412_378.out
         have hnc78 := NB378_412.out
         have hnb79 := NB412_395.out
         have hnc79 := NB395_412.out
         have hnb80 := NB412_403.out
         have hnc80 := NB403_412.out
         have hcz81_0 : w74.cell? ⟨gb412, 0, none⟩ = some (.slice Ao35 t404.length co35) := (blk_cell BK412.out 0).trans rfl
         have hcz81_1 : w74.cell? ⟨gb412, 1, none⟩ = some (.slice Ao40 t407.length co40) := (blk_cell BK412.out 1).trans rfl
         have hcz81_2 : w74.cell? ⟨gb412, 2, none⟩ = some (.int .i64 t410) := (blk_cell BK412.out 2).trans rfl
         have hfz81_0 := blk_frozen BK412.out 0
         have hfz81_1 := blk_frozen BK412.out 1
         have hfz81_2 := blk_frozen BK412.out 2
         have hnb82 := NB395_378.out
         have hnc82 := NB378_395.out
         have hnb83 := NB395_403.out
         have hnc83 := NB403_395.out
         have hcz84_0 : w74.cell? ⟨gb395, 0, none⟩ = some (.slice Ao21 t387.length co21) := (blk_cell BK395.out 0).trans rfl
         have hcz84_1 : w74.cell? ⟨gb395, 1, none⟩ = some (.slice Ao24 t390.length co24) := (blk_cell BK395.out 1).trans rfl
         have hcz84_2 : w74.cell? ⟨gb395, 2, none⟩ = some (.int .i64 t393) := (blk_cell BK395.out 2).trans rfl
         have hfz84_0 := blk_frozen BK395.out 0
         have hfz84_1 := blk_frozen BK395.out 1
         have hfz84_2 := blk_frozen BK395.out 2
         go_wp2_with (first | (go_at_call 19; (with_reducible refine (laws_eqStore.calls kj10 _ _ t404 _ _ t407 t410 _ _ t387 _ _ t390 t393 true _ ?side1 ?side2 ?side3 ?side4 ?side5 ?side6 ?side7 ?side8 A76.out).mono ?_); (case side1 => repeat (first | exact (Kd.R_reads' HO_413000.out).2.2 | (with_reducible refine Kd.C_alloc ?_ _) | (with_reducible refine Kd.C_drewN ?_ _) | (with_reducible refine Kd.C_drew ?_))); (case side2 => exact (Kd.R_reads' HO_413000.out).2.1); (case side3 => repeat (first | exact (Kd.R_reads' HO_413001.out).2.2 | (with_reducible refine Kd.C_alloc ?_ _) | (with_reducible refine Kd.C_drewN ?_ _) | (with_reducible refine Kd.C_drew ?_))); (case side4 => exact (Kd.R_reads' HO_413001.out).2.1); (case side5 => repeat (first | exact (Kd.R_reads' HO_396000.out).2.2 | (with_reducible refine Kd.C_alloc ?_ _) | (with_reducible refine Kd.C_drewN ?_ _) | (with_reducible refine Kd.C_drew ?_))); (case side6 => exact (Kd.R_reads' HO_396000.out).2.1); (case side7 => repeat (first | exact (Kd.R_reads' HO_396001.out).2.2 | (with_reducible refine Kd.C_alloc ?_ _) | (with_reducible refine Kd.C_drewN ?_ _) | (with_reducible refine Kd.C_drew ?_))); (case side8 => exact (Kd.R_reads' HO_396001.out).2.1); rintro e w85 ⟨rfl, hb⟩; have n0_ := Aside0.mk (Kd.R_below (KR HO_396000.out) hb); have n1_ := Aside0.mk (Kd.R_below (KR HO_396001.out) hb); have n2_ := Aside0.mk (Kd.R_below (KR HO_404000.out) hb); have n3_ := Aside0.mk (Kd.R_below (KR HO_404001.out) hb); have n4_ := Aside0.mk (Kd.R_below (KR HO_413000.out) hb); have n5_ := Aside0.mk (Kd.R_below (KR HO_413001.out) hb); have n6_ := Aside0.mk (Kd.R_below (KR HO416.out) hb); have n7_ := Aside0.mk (Kd.R_below (KR HO419.out) hb); have n8_ := Aside0.mk (blk_below (g := gb378) (o := .cells #[.slice A0_0 l0_0.length c0_0, .slice A0_1 l0_1.length c0_1, .int .i64 a0_2] 24 (0, 0)) KK hb); have n9_ := Aside0.mk (blk_below (g := gb395) (o := .cells #[.slice Ao21 t387.length co21, .slice Ao24 t390.length co24, .int .i64 t393] 29 (0, 0)) KK hb); have n10_ := Aside0.mk (blk_below (g := gb403) (o := .cells #[.slice Ao28 t396.length co28, .slice Ao32 t399.length co32, .int .i64 t402] 29 (0, 0)) KK hb); have n11_ := Aside0.mk (blk_below (g := gb412) (o := .cells #[.slice Ao35 t404.length co35, .slice Ao40 t407.length co40, .int .i64 t410] 29 (0, 0)) KK hb); have n12_ := Aside0.mk (below_step KB hb); clear HO_396000; clear HO_396001; clear HO_404000; clear HO_404001; clear HO_413000; clear HO_413001; clear HO416; clear HO419; clear BK378; clear BK395; clear BK403; clear BK412; clear HB; have HO_396000 := n0_; have HO_396001 := n1_; have HO_404000 := n2_; have HO_404001 := n3_; have HO_413000 := n4_; have HO_413001 := n5_; have HO416 := n6_; have HO419 := n7_; have BK378 := n8_; have BK395 := n9_; have BK403 := n10_; have BK412 := n11_; have HB := n12_; clear n0_ n1_ n2_ n3_ n4_ n5_ n6_ n7_ n8_ n9_ n10_ n11_ n12_; (try clear hb); (try clear hb2); (try clear hk); (try clear hi)))
         go_meet
         case rel => exact ⟨_, ((t411 != t394)), (by first | rfl | (simp; done) | (simp [*]; done)), H', ⟨by have := HJ10.out; first | omega | exact Nat.le_refl _⟩, ⟨by (with_reducible repeat (first | apply Kd.R_alloc | apply Kd.R_drewN | apply Kd.R_drew)); exact Kd.R_mono HO_396000.out (fun _ hk => ⟨hk.1, ⟨hk.2.1, ⟨hk.2.2.1, ⟨hk.2.2.2.1, hk.2.2.2.2.1⟩⟩⟩⟩)⟩, ⟨by (with_reducible repeat (first | apply Kd.R_alloc | apply Kd.R_drewN | apply Kd.R_drew)); exact Kd.R_mono HO_396001.out (fun _ hk => ⟨hk.1, ⟨hk.2.1, ⟨hk.2.2.1, ⟨hk.2.2.2.1, hk.2.2.2.2.1⟩⟩⟩⟩)⟩, ⟨by (with_reducible repeat (first | apply Kd.R_alloc | apply Kd.R_drewN | apply Kd.R_drew)); exact Kd.R_mono HO_404000.out (fun _ hk => ⟨hk.1.1.1, ⟨hk.1.1.2.1, ⟨hk.1.1.2.2.1, ⟨hk.1.1.2.2.2.1, hk.1.1.2.2.2.2⟩⟩⟩⟩)⟩, ⟨by (with_reducible repeat (first | apply Kd.R_alloc | apply Kd.R_drewN | apply Kd.R_drew)); exact Kd.R_mono HO_404001.out (fun _ hk => ⟨hk.1.1.1, ⟨hk.1.1.2.1, ⟨hk.1.1.2.2.1, ⟨hk.1.1.2.2.2.1, hk.1.1.2.2.2.2⟩⟩⟩⟩)⟩, ⟨by (with_reducible repeat (first | apply Kd.R_alloc | apply Kd.R_drewN | apply Kd.R_drew)); exact Kd.R_mono HO_413000.out (fun _ hk => ⟨hk.1, ⟨hk.2.1, ⟨hk.2.2.1, ⟨hk.2.2.2.1, hk.2.2.2.2.1⟩⟩⟩⟩)⟩, ⟨by (with_reducible repeat (first | apply Kd.R_alloc | apply Kd.R_drewN | apply Kd.R_drew)); exact Kd.R_mono HO_413001.out (fun _ hk => ⟨hk.1, ⟨hk.2.1, ⟨hk.2.2.1, ⟨hk.2.2.2.1, hk.2.2.2.2.1⟩⟩⟩⟩)⟩, ⟨KK⟩, ⟨KK⟩, ⟨KK⟩, ⟨KK⟩, ⟨KB⟩⟩
        ·replace c77 := Bool.eq_false_iff.mpr c77
         subst c77
         have H1 : (laws_FnExactStoreSync.j1 kj10 t394 true l0_0 l0_1 a0_2 t387 t390 t393 t404 t407 t410) = some r := by rw [if_neg (show ¬ (false = true) by decide)] at H; exact H
         clear H
         have H := H1
         clear H1
         have H' := Aside0.mk H
         clear H
         have hnb86 := NB412_378.out
         have hnc86 := NB378_412.out
         have hnb87 := NB412_395.out
         have hnc87 := NB395_412.out
         have hnb88 := NB412_403.out
         have hnc88 := NB403_412.out
         have hcz89_0 : w74.cell? ⟨gb412, 0, none⟩ = some (.slice Ao35 t404.length co35) := (blk_cell BK412.out 0).trans rfl
         have hcz89_1 : w74.cell? ⟨gb412, 1, none⟩ = some (.slice Ao40 t407.length co40) := (blk_cell BK412.out 1).trans rfl
         have hcz89_2 : w74.cell? ⟨gb412, 2, none⟩ = some (.int .i64 t410) := (blk_cell BK412.out 2).trans rfl
         have hfz89_0 := blk_frozen BK412.out 0
         have hfz89_1 := blk_frozen BK412.out 1
         have hfz89_2 := blk_frozen BK412.out 2
         have hnb90 := NB395_378.out
         have hnc90 := NB378_395.out
         have hnb91 := NB395_403.out
         have hnc91 := NB403_395.out
         have hcz92_0 : w74.cell? ⟨gb395, 0, none⟩ = some (.slice Ao21 t387.length co21) := (blk_cell BK395.out 0).trans rfl
         have hcz92_1 : w74.cell? ⟨gb395, 1, none⟩ = some (.slice Ao24 t390.length co24) := (blk_cell BK395.out 1).trans rfl
         have hcz92_2 : w74.cell? ⟨gb395, 2, none⟩ = some (.int .i64 t393) := (blk_cell BK395.out 2).trans rfl
         have hfz92_0 := blk_frozen BK395.out 0
         have hfz92_1 := blk_frozen BK395.out 1
         have hfz92_2 := blk_frozen BK395.out 2
         go_wp2_with (first | (go_at_call 19; (with_reducible refine (laws_eqStore.calls kj10 _ _ t404 _ _ t407 t410 _ _ t387 _ _ t390 t393 false _ ?side1 ?side2 ?side3 ?side4 ?side5 ?side6 ?side7 ?side8 A76.out).mono ?_); (case side1 => repeat (first | exact (Kd.R_reads' HO_413000.out).2.2 | (with_reducible refine Kd.C_alloc ?_ _) | (with_reducible refine Kd.C_drewN ?_ _) | (with_reducible refine Kd.C_drew ?_))); (case side2 => exact (Kd.R_reads' HO_413000.out).2.1); (case side3 => repeat (first | exact (Kd.R_reads' HO_413001.out).2.2 | (with_reducible refine Kd.C_alloc ?_ _) | (with_reducible refine Kd.C_drewN ?_ _) | (with_reducible refine Kd.C_drew ?_))); (case side4 => exact (Kd.R_reads' HO_413001.out).2.1); (case side5 => repeat (first | exact (Kd.R_reads' HO_396000.out).2.2 | (with_reducible refine Kd.C_alloc ?_ _) | (with_reducible refine Kd.C_drewN ?_ _) | (with_reducible refine Kd.C_drew ?_))); (case side6 => exact (Kd.R_reads' HO_396000.out).2.1); (case side7 => repeat (first | exact (Kd.R_reads' HO_396001.out).2.2 | (with_reducible refine Kd.C_alloc ?_ _) | (with_reducible refine Kd.C_drewN ?_ _) | (with_reducible refine Kd.C_drew ?_))); (case side8 => exact (Kd.R_reads' HO_396001.out).2.1); rintro e w93 ⟨rfl, hb⟩; have n0_ := Aside0.mk (Kd.R_below (KR HO_396000.out) hb); have n1_ := Aside0.mk (Kd.R_below (KR HO_396001.out) hb); have n2_ := Aside0.mk (Kd.R_below (KR HO_404000.out) hb); have n3_ := Aside0.mk (Kd.R_below (KR HO_404001.out) hb); have n4_ := Aside0.mk (Kd.R_below (KR HO_413000.out) hb); have n5_ := Aside0.mk (Kd.R_below (KR HO_413001.out) hb); have n6_ := Aside0.mk (Kd.R_below (KR HO416.out) hb); have n7_ := Aside0.mk (Kd.R_below (KR HO419.out) hb); have n8_ := Aside0.mk (blk_below (g := gb378) (o := .cells #[.slice A0_0 l0_0.length c0_0, .slice A0_1 l0_1.length c0_1, .int .i64 a0_2] 24 (0, 0)) KK hb); have n9_ := Aside0.mk (blk_below (g := gb395) (o := .cells #[.slice Ao21 t387.length co21, .slice Ao24 t390.length co24, .int .i64 t393] 29 (0, 0)) KK hb); have n10_ := Aside0.mk (blk_below (g := gb403) (o := .cells #[.slice Ao28 t396.length co28, .slice Ao32 t399.length co32, .int .i64 t402] 29 (0, 0)) KK hb); have n11_ := Aside0.mk (blk_below (g := gb412) (o := .cells #[.slice Ao35 t404.length co35, .slice Ao40 t407.length co40, .int .i64 t410] 29 (0, 0)) KK hb); have n12_ := Aside0.mk (below_step KB hb); clear HO_396000; clear HO_396001; clear HO_404000; clear HO_404001; clear HO_413000; clear HO_413001; clear HO416; clear HO419; clear BK378; clear BK395; clear BK403; clear BK412; clear HB; have HO_396000 := n0_; have HO_396001 := n1_; have HO_404000 := n2_; have HO_404001 := n3_; have HO_413000 := n4_; have HO_413001 := n5_; have HO416 := n6_; have HO419 := n7_; have BK378 := n8_; have BK395 := n9_; have BK403 := n10_; have BK412 := n11_; have HB := n12_; clear n0_ n1_ n2_ n3_ n4_ n5_ n6_ n7_ n8_ n9_ n10_ n11_ n12_; (try clear hb); (try clear hb2); (try clear hk); (try clear hi)))
         go_meet
         case rel => exact ⟨_, (true), (by first | rfl | (simp; done) | (simp [*]; done)), H', ⟨by have := HJ10.out; first | omega | exact Nat.le_refl _⟩, ⟨by (with_reducible repeat (first | apply Kd.R_alloc | apply Kd.R_drewN | apply Kd.R_drew)); exact Kd.R_mono HO_396000.out (fun _ hk => ⟨hk.1, ⟨hk.2.1, ⟨hk.2.2.1, ⟨hk.2.2.2.1, hk.2.2.2.2.1⟩⟩⟩⟩)⟩, ⟨by (with_reducible repeat (first | apply Kd.R_alloc | apply Kd.R_drewN | apply Kd.R_drew)); exact Kd.R_mono HO_396001.out (fun _ hk => ⟨hk.1, ⟨hk.2.1, ⟨hk.2.2.1, ⟨hk.2.2.2.1, hk.2.2.2.2.1⟩⟩⟩⟩)⟩, ⟨by (with_reducible repeat (first | apply Kd.R_alloc | apply Kd.R_drewN | apply Kd.R_drew)); exact Kd.R_mono HO_404000.out (fun _ hk => ⟨hk.1.1.1, ⟨hk.1.1.2.1, ⟨hk.1.1.2.2.1, ⟨hk.1.1.2.2.2.1, hk.1.1.2.2.2.2⟩⟩⟩⟩)⟩, ⟨by (with_reducible repeat (first | apply Kd.R_alloc | apply Kd.R_drewN | apply Kd.R_drew)); exact Kd.R_mono HO_404001.out (fun _ hk => ⟨hk.1.1.1, ⟨hk.1.1.2.1, ⟨hk.1.1.2.2.1, ⟨hk.1.1.2.2.2.1, hk.1.1.2.2.2.2⟩⟩⟩⟩)⟩, ⟨by (with_reducible repeat (first | apply Kd.R_alloc | apply Kd.R_drewN | apply Kd.R_drew)); exact Kd.R_mono HO_413000.out (fun _ hk => ⟨hk.1, ⟨hk.2.1, ⟨hk.2.2.1, ⟨hk.2.2.2.1, hk.2.2.2.2.1⟩⟩⟩⟩)⟩, ⟨by (with_reducible repeat (first | apply Kd.R_alloc | apply Kd.R_drewN | apply Kd.R_drew)); exact Kd.R_mono HO_413001.out (fun _ hk => ⟨hk.1, ⟨hk.2.1, ⟨hk.2.2.1, ⟨hk.2.2.2.1, hk.2.2.2.2.1⟩⟩⟩⟩)⟩, ⟨KK⟩, ⟨KK⟩, ⟨KK⟩, ⟨KK⟩, ⟨KB⟩⟩
      case rest =>
       clear HC64
       try clear c1
       try clear c2
       try clear p2
       try clear c3
       try clear c3b0
       try clear c4
       try clear c5
       try clear c6
       try clear c7
       try clear c8
       try clear c9
       try clear c10
       try clear c15
       try clear c17
       try clear c19
       try clear c22
       try clear c26
       try clear c29
       try clear c30
       try clear c36
       try clear c37
       try clear c38
       try clear c42
       try clear c43
       try clear c44
       try clear c45
       try clear c47
       try clear c48
       try clear c51
       try clear c52
       try clear c53
       try clear c55
       try clear c56
       try clear c59
       try clear c62
       try clear c70
       try clear c71
       try clear c72
       try clear c75
       try clear c75b0
       try clear c77
       try clear c78
       try clear c79
       try clear c80
       try clear c82
       try clear c83
       try clear c86
       try clear c87
       try clear c88
       try clear c90
       try clear c91
       try clear hcz13_0
       try clear hcz13_1
       try clear hcz13_2
       try clear hcz15_0
       try clear hcz15_1
       try clear hcz15_2
       try clear hcz23_0
       try clear hcz23_1
       try clear hcz23_2
       try clear hcz25_0
       try clear hcz25_1
       try clear hcz25_2
       try clear hcz31_0
       try clear hcz31_1
       try clear hcz31_2
       try clear hcz39_0
       try clear hcz39_1
       try clear hcz39_2
       try clear hcz46_0
       try clear hcz46_1
       try clear hcz46_2
       try clear hcz49_0
       try clear hcz49_1
       try clear hcz49_2
       try clear hcz54_0
       try clear hcz54_1
       try clear hcz54_2
       try clear hcz57_0
       try clear hcz57_1
       try clear hcz57_2
       try clear hcz5_0
       try clear hcz5_1
       try clear hcz5_2
       try clear hcz73_0
       try clear hcz73_1
       try clear hcz73_2
       try clear hcz81_0
       try clear hcz81_1
       try clear hcz81_2
       try clear hcz84_0
       try clear hcz84_1
       try clear hcz84_2
       try clear hcz89_0
       try clear hcz89_1
       try clear hcz89_2
       try clear hcz92_0
       try clear hcz92_1
       try clear hcz92_2
       try clear hfz13_0
       try clear hfz13_1
       try clear hfz13_2
       try clear hfz15_0
       try clear hfz15_1
       try clear hfz15_2
       try clear hfz23_0
       try clear hfz23_1
       try clear hfz23_2
       try clear hfz25_0
       try clear hfz25_1
       try clear hfz25_2
       try clear hfz31_0
       try clear hfz31_1
       try clear hfz31_2
       try clear hfz39_0
       try clear hfz39_1
       try clear hfz39_2
       try clear hfz46_0
       try clear hfz46_1
       try clear hfz46_2
       try clear hfz49_0
       try clear hfz49_1
       try clear hfz49_2
       try clear hfz54_0
       try clear hfz54_1
       try clear hfz54_2
       try clear hfz57_0
       try clear hfz57_1
       try clear hfz57_2
       try clear hfz5_0
       try clear hfz5_1
       try clear hfz5_2
       try clear hfz73_0
       try clear hfz73_1
       try clear hfz73_2
       try clear hfz81_0
       try clear hfz81_1
       try clear hfz81_2
       try clear hfz84_0
       try clear hfz84_1
       try clear hfz84_2
       try clear hfz89_0
       try clear hfz89_1
       try clear hfz89_2
       try clear hfz92_0
       try clear hfz92_1
       try clear hfz92_2
       try clear p2
       obtain ⟨kq, x61_63, rfl, HA, HJ63, HO_396000, HO_396001, HO_404000, HO_404001, HO_413000, HO_413001, BK378, BK395, BK403, BK412, HB⟩ := hcut
       have hl404000_63 := (Kd.R_reads' HO_404000.out).1
       rw [hl404000_63] at HO_404000
       (try simp only [hl404000_63])
       (try simp only [hl404000_63] at BK378)
       (try simp only [hl404000_63] at BK395)
       (try simp only [hl404000_63] at BK403)
       (try simp only [hl404000_63] at BK412)
       (try simp only [hl404000_63] at HO_396000)
       (try simp only [hl404000_63] at HO_396001)
       (try simp only [hl404000_63] at HO_404001)
       (try simp only [hl404000_63] at HO_413000)
       (try simp only [hl404000_63] at HO_413001)
       have hl404001_63 := (Kd.R_reads' HO_404001.out).1
       rw [hl404001_63] at HO_404001
       (try simp only [hl404001_63])
       (try simp only [hl404001_63] at BK378)
       (try simp only [hl404001_63] at BK395)
       (try simp only [hl404001_63] at BK403)
       (try simp only [hl404001_63] at BK412)
       (try simp only [hl404001_63] at HO_396000)
       (try simp only [hl404001_63] at HO_396001)
       (try simp only [hl404001_63] at HO_404000)
       (try simp only [hl404001_63] at HO_413000)
       (try simp only [hl404001_63] at HO_413001)
       cases kq with
       | zero => exact absurd HA.out (by simp [laws_FnExactStoreSync.j1])
       | succ kj63 =>
        have H := HA.out
        clear HA
        simp only [laws_FnExactStoreSync.j1] at H
        by_cases c94 : x61_63 = true
        ·subst c94
         have H1 : (none) = some r := by rw [if_pos rfl] at H; exact H
         clear H
         have H := H1
         clear H1
         exact absurd H (by simp)
        ·replace c94 := Bool.eq_false_iff.mpr c94
         subst c94
         have H1 : ((laws_markStore.f kj63 t404 t407 t410 1).bind fun bt426 => ((laws_heldStore.f kj63 bt426.2.1 bt426.2.2 t410 1).bind fun t429 => (if t429 < 0 then (none) else (if t429 = bt426.1 then ((laws_toStore.f kj63 l0_0 l0_1 a0_2).bind fun bt430 => ((impl_StoreSync.f kj63 bt430.1 bt430.2.1 bt430.2.2).bind fun bt437 => ((laws_eqStore.f kj63 bt437.1 bt437.2.1 bt437.2.2.1 t387 t390 t393).bind fun t446 => (if t446 = true then (laws_FnExactStoreSync.j2 kj63 bt426.1 (bt437.2.2.2 != t394) bt426.2.1 bt426.2.2 t410) else (laws_FnExactStoreSync.j2 kj63 bt426.1 true bt426.2.1 bt426.2.2 t410))))) else (none))))) = some r := by rw [if_neg (show ¬ (false = true) by decide)] at H; exact H
         clear H
         have H := H1
         clear H1
         replace H := Option.bind_eq_some_iff.mp H
         obtain ⟨⟨t426, t427, t428⟩, A950, H⟩ := H
         replace H : ((laws_heldStore.f kj63 t427 t428 t410 1).bind fun t429 => (if t429 < 0 then (none) else (if t429 = t426 then ((laws_toStore.f kj63 l0_0 l0_1 a0_2).bind fun bt430 => ((impl_StoreSync.f kj63 bt430.1 bt430.2.1 bt430.2.2).bind fun bt437 => ((laws_eqStore.f kj63 bt437.1 bt437.2.1 bt437.2.2.1 t387 t390 t393).bind fun t446 => (if t446 = true then (laws_FnExactStoreSync.j2 kj63 t426 (bt437.2.2.2 != t394) t427 t428 t410) else (laws_FnExactStoreSync.j2 kj63 t426 true t427 t428 t410))))) else (none)))) = some r := H
         have A95 := Aside0.mk A950
         clear A950
         replace H := Option.bind_eq_some_iff.mp H
         obtain ⟨t429, A960, H⟩ := H
         replace H : (if t429 < 0 then (none) else (if t429 = t426 then ((laws_toStore.f kj63 l0_0 l0_1 a0_2).bind fun bt430 => ((impl_StoreSync.f kj63 bt430.1 bt430.2.1 bt430.2.2).bind fun bt437 => ((laws_eqStore.f kj63 bt437.1 bt437.2.1 bt437.2.2.1 t387 t390 t393).bind fun t446 => (if t446 = true then (laws_FnExactStoreSync.j2 kj63 t426 (bt437.2.2.2 != t394) t427 t428 t410) else (laws_FnExactStoreSync.j2 kj63 t426 true t427 t428 t410))))) else (none))) = some r := H
         have A96 := Aside0.mk A960
         clear A960
         by_cases c97 : t429 < 0
         ·rw [if_pos c97] at H
          exact absurd H (by simp)
         ·rw [if_neg c97] at H
          have c97b0 : decide (t429 < 0) = false := decide_eq_false c97
          clear c97
          by_cases c98 : t429 = t426
          ·rw [if_pos c98] at H
           have c98b0 : (t429 == t426) = true := beq_iff_eq.mpr c98
           have c98b1 : (t429 != t426) = false := bne_eq_false_iff_eq.mpr c98
           clear c98
           replace H := Option.bind_eq_some_iff.mp H
           obtain ⟨⟨t430, t433, t436⟩, A990, H⟩ := H
           replace H : ((impl_StoreSync.f kj63 t430 t433 t436).bind fun bt437 => ((laws_eqStore.f kj63 bt437.1 bt437.2.1 bt437.2.2.1 t387 t390 t393).bind fun t446 => (if t446 = true then (laws_FnExactStoreSync.j2 kj63 t426 (bt437.2.2.2 != t394) t427 t428 t410) else (laws_FnExactStoreSync.j2 kj63 t426 true t427 t428 t410)))) = some r := H
           have A99 := Aside0.mk A990
           clear A990
           replace H := Option.bind_eq_some_iff.mp H
           obtain ⟨⟨t437, t440, t443, t444⟩, A1000, H⟩ := H
           replace H : ((laws_eqStore.f kj63 t437 t440 t443 t387 t390 t393).bind fun t446 => (if t446 = true then (laws_FnExactStoreSync.j2 kj63 t426 (t444 != t394) t427 t428 t410) else (laws_FnExactStoreSync.j2 kj63 t426 true t427 t428 t410))) = some r := H
           have A100 := Aside0.mk A1000
           clear A1000
           have HC101 := Aside0.mk H
           clear H
           have hnb102 := NB412_378.out
           have hnc102 := NB378_412.out
           have hnb103 := NB412_395.out
           have hnc103 := NB395_412.out
           have hnb104 := NB412_403.out
           have hnc104 := NB403_412.out
           have hcz105_0 : wc.cell? ⟨gb412, 0, none⟩ = some (.slice Ao35 t404.length co35) := (blk_cell BK412.out 0).trans rfl
           have hcz105_1 : wc.cell? ⟨gb412, 1, none⟩ = some (.slice Ao40 t407.length co40) := (blk_cell BK412.out 1).trans rfl
           have hcz105_2 : wc.cell? ⟨gb412, 2, none⟩ = some (.int .i64 t410) := (blk_cell BK412.out 2).trans rfl
           have hfz105_0 := blk_frozen BK412.out 0
           have hfz105_1 := blk_frozen BK412.out 1
           have hfz105_2 := blk_frozen BK412.out 2
           go_upto_region 25 with (first | ((with_reducible refine gate_callee (f := 26) rfl ?_); refine goesL_ (some 64) rfl rfl Try.func26 (by kernel_rfl) rfl #[.agg #[.slice Ao35 t404.length co35, .slice Ao40 t407.length co40, .int .i64 t410], .int .i64 1] rfl KL ?_; (with_reducible refine (laws_markStore.calls kj63 (fun k_ => some k_ = (.slice Ao35 t404.length co35 : Value).ownBlock) (.slice Ao35 t404.length co35) t404 (fun k_ => some k_ = (.slice Ao40 t407.length co40 : Value).ownBlock) (.slice Ao40 t407.length co40) t407 t410 1 t426 t427 t428 w _ ?side1 ?side2 ?side3 ?side4 ?side5 A95.out).mono ?_); (case side1 => exact KB); (case side2 => exact Kd.R_tight rfl HO_413000.out); (case side3 => exact fun k_ e_ => (HO_413000.out.1 k_ e_.symm).2.2.2.2); (case side4 => exact Kd.R_tight rfl HO_413001.out); (case side5 => exact fun k_ e_ => (HO_413001.out.1 k_ e_.symm).2.2.2.2); rintro e w106 ⟨rfl, hy0, hy1, hb, hkp⟩; refine ⟨_, rfl, ?_⟩; have n0_ := Aside0.mk (Kd.R_mono (ok' := fun k_ => some k_ ≠ (.slice Ao24 t390.length co24 : Value).ownBlock ∧ some k_ ≠ (.slice Ao28 t423.length co28 : Value).ownBlock ∧ some k_ ≠ (.slice Ao32 t424.length co32 : Value).ownBlock ∧ some k_ ≠ (.slice Ao35 t404.length co35 : Value).ownBlock ∧ some k_ ≠ (.slice Ao40 t407.length co40 : Value).ownBlock) (Kd.R_keptB (HO_396000.out) hkp (fun k_ hk_ hs_ => Or.elim hs_ (fun e_ => (hk_.2.2.2.1) e_) (fun e_ => (hk_.2.2.2.2) e_))) (fun k_ hk_ => ⟨hk_.1.1, hk_.1.2.1, hk_.1.2.2.1, hk_.1.2.2.2.1, hk_.1.2.2.2.2⟩)); have n1_ := Aside0.mk (Kd.R_mono (ok' := fun k_ => some k_ ≠ (.slice Ao21 t387.length co21 : Value).ownBlock ∧ some k_ ≠ (.slice Ao28 t423.length co28 : Value).ownBlock ∧ some k_ ≠ (.slice Ao32 t424.length co32 : Value).ownBlock ∧ some k_ ≠ (.slice Ao35 t404.length co35 : Value).ownBlock ∧ some k_ ≠ (.slice Ao40 t407.length co40 : Value).ownBlock) (Kd.R_keptB (HO_396001.out) hkp (fun k_ hk_ hs_ => Or.elim hs_ (fun e_ => (hk_.2.2.2.1) e_) (fun e_ => (hk_.2.2.2.2) e_))) (fun k_ hk_ => ⟨hk_.1.1, hk_.1.2.1, hk_.1.2.2.1, hk_.1.2.2.2.1, hk_.1.2.2.2.2⟩)); have n2_ := Aside0.mk (Kd.R_mono (ok' := fun k_ => some k_ ≠ (.slice Ao21 t387.length co21 : Value).ownBlock ∧ some k_ ≠ (.slice Ao24 t390.length co24 : Value).ownBlock ∧ some k_ ≠ (.slice Ao32 t424.length co32 : Value).ownBlock ∧ some k_ ≠ (.slice Ao35 t404.length co35 : Value).ownBlock ∧ some k_ ≠ (.slice Ao40 t407.length co40 : Value).ownBlock) (Kd.R_keptB (HO_404000.out) hkp (fun k_ hk_ hs_ => Or.elim hs_ (fun e_ => (hk_.2.2.2.1) e_) (fun e_ => (hk_.2.2.2.2) e_))) (fun k_ hk_ => ⟨hk_.1.1, hk_.1.2.1, hk_.1.2.2.1, hk_.1.2.2.2.1, hk_.1.2.2.2.2⟩)); have n3_ := Aside0.mk (Kd.R_mono (ok' := fun k_ => some k_ ≠ (.slice Ao21 t387.length co21 : Value).ownBlock ∧ some k_ ≠ (.slice Ao24 t390.length co24 : Value).ownBlock ∧ some k_ ≠ (.slice Ao28 t423.length co28 : Value).ownBlock ∧ some k_ ≠ (.slice Ao35 t404.length co35 : Value).ownBlock ∧ some k_ ≠ (.slice Ao40 t407.length co40 : Value).ownBlock) (Kd.R_keptB (HO_404001.out) hkp (fun k_ hk_ hs_ => Or.elim hs_ (fun e_ => (hk_.2.2.2.1) e_) (fun e_ => (hk_.2.2.2.2) e_))) (fun k_ hk_ => ⟨hk_.1.1, hk_.1.2.1, hk_.1.2.2.1, hk_.1.2.2.2.1, hk_.1.2.2.2.2⟩)); have n4_ := Aside0.mk (Kd.R_reok rfl hy0 (fun k_ e_ => HO_413000.out.1 k_ e_)); have n5_ := Aside0.mk (Kd.R_reok rfl hy1 (fun k_ e_ => HO_413001.out.1 k_ e_)); have n6_ := Aside0.mk (blk_kept KK hkp (fun hs_ => Or.elim hs_ (fun e_ => (fun e_ => (Kd.R_ne HO_413000.out BK378.out (by decide)) e_) e_) (fun e_ => (fun e_ => (Kd.R_ne HO_413001.out BK378.out (by decide)) e_) e_))); have n7_ := Aside0.mk (blk_kept KK hkp (fun hs_ => Or.elim hs_ (fun e_ => (fun e_ => (Kd.R_ne HO_413000.out BK395.out (by decide)) e_) e_) (fun e_ => (fun e_ => (Kd.R_ne HO_413001.out BK395.out (by decide)) e_) e_))); have n8_ := Aside0.mk (blk_kept KK hkp (fun hs_ => Or.elim hs_ (fun e_ => (fun e_ => (Kd.R_ne HO_413000.out BK403.out (by decide)) e_) e_) (fun e_ => (fun e_ => (Kd.R_ne HO_413001.out BK403.out (by decide)) e_) e_))); have n9_ := Aside0.mk (blk_kept KK hkp (fun hs_ => Or.elim hs_ (fun e_ => (fun e_ => (Kd.R_ne HO_413000.out BK412.out (by decide)) e_) e_) (fun e_ => (fun e_ => (Kd.R_ne HO_413001.out BK412.out (by decide)) e_) e_))); have n10_ := Aside0.mk (hb); clear HO_396000; clear HO_396001; clear HO_404000; clear HO_404001; clear HO_413000; clear HO_413001; clear BK378; clear BK395; clear BK403; clear BK412; clear HB; have HO_396000 := n0_; have HO_396001 := n1_; have HO_404000 := n2_; have HO_404001 := n3_; have HO_413000 := n4_; have HO_413001 := n5_; have BK378 := n6_; have BK395 := n7_; have BK403 := n8_; have BK412 := n9_; have HB := n10_; clear n0_ n1_ n2_ n3_ n4_ n5_ n6_ n7_ n8_ n9_ n10_; (try clear hb); (try clear hkp); (try clear hy0); (try clear hy1); have hcz107_0 : w106.cell? ⟨gb412, 0, none⟩ = some (.slice Ao35 t404.length co35) := (blk_cell BK412.out 0).trans rfl; have hcz107_1 : w106.cell? ⟨gb412, 1, none⟩ = some (.slice Ao40 t407.length co40) := (blk_cell BK412.out 1).trans rfl; have hcz107_2 : w106.cell? ⟨gb412, 2, none⟩ = some (.int .i64 t410) := (blk_cell BK412.out 2).trans rfl; have hfz107_0 := blk_frozen BK412.out 0; have hfz107_1 := blk_frozen BK412.out 1; have hfz107_2 := blk_frozen BK412.out 2) | ((with_reducible refine gate_callee (f := 33) rfl ?_); refine goesL_ (some 67) rfl rfl Try.func33 (by kernel_rfl) rfl #[.agg #[.slice Ao35 t427.length co35, .slice Ao40 t428.length co40, .int .i64 t410], .int .i64 1] rfl (by (try simp only [List.map_toArray, List.map_cons, List.map_nil]); first | done | (rw [show t427.length = t404.length from (Kd.R_reads' HO_413000.out).1.symm, show t428.length = t407.length from (Kd.R_reads' HO_413001.out).1.symm] <;> rfl) | rfl | (simp only [List.length_drop, List.length_take]; rfl)) ?_; (with_reducible refine (laws_heldStore.calls kj63 _ _ t427 _ _ t428 t410 1 t429 _ ?side1 ?side2 ?side3 ?side4 A96.out).mono ?_); (case side1 => repeat (first | exact (Kd.R_reads' HO_413000.out).2.2 | (with_reducible refine Kd.C_alloc ?_ _) | (with_reducible refine Kd.C_drewN ?_ _) | (with_reducible refine Kd.C_drew ?_))); (case side2 => rw [show t427.length = t404.length from (Kd.R_reads' HO_413000.out).1.symm]; exact (Kd.R_reads' HO_413000.out).2.1); (case side3 => repeat (first | exact (Kd.R_reads' HO_413001.out).2.2 | (with_reducible refine Kd.C_alloc ?_ _) | (with_reducible refine Kd.C_drewN ?_ _) | (with_reducible refine Kd.C_drew ?_))); (case side4 => rw [show t428.length = t407.length from (Kd.R_reads' HO_413001.out).1.symm]; exact (Kd.R_reads' HO_413001.out).2.1); rintro e w108 ⟨rfl, hb⟩; refine ⟨_, rfl, ?_⟩; have n0_ := Aside0.mk (Kd.R_below (KR HO_396000.out) hb); have n1_ := Aside0.mk (Kd.R_below (KR HO_396001.out) hb); have n2_ := Aside0.mk (Kd.R_below (KR HO_404000.out) hb); have n3_ := Aside0.mk (Kd.R_below (KR HO_404001.out) hb); have n4_ := Aside0.mk (Kd.R_below (KR HO_413000.out) hb); have n5_ := Aside0.mk (Kd.R_below (KR HO_413001.out) hb); have n6_ := Aside0.mk (blk_below (g := gb378) (o := .cells #[.slice A0_0 l0_0.length c0_0, .slice A0_1 l0_1.length c0_1, .int .i64 a0_2] 24 (0, 0)) KK hb); have n7_ := Aside0.mk (blk_below (g := gb395) (o := .cells #[.slice Ao21 t387.length co21, .slice Ao24 t390.length co24, .int .i64 t393] 29 (0, 0)) KK hb); have n8_ := Aside0.mk (blk_below (g := gb403) (o := .cells #[.slice Ao28 t423.length co28, .slice Ao32 t424.length co32, .int .i64 t402] 29 (0, 0)) KK hb); have n9_ := Aside0.mk (blk_below (g := gb412) (o := .cells #[.slice Ao35 t404.length co35, .slice Ao40 t407.length co40, .int .i64 t410] 29 (0, 0)) KK hb); have n10_ := Aside0.mk (below_step KB hb); clear HO_396000; clear HO_396001; clear HO_404000; clear HO_404001; clear HO_413000; clear HO_413001; clear BK378; clear BK395; clear BK403; clear BK412; clear HB; have HO_396000 := n0_; have HO_396001 := n1_; have HO_404000 := n2_; have HO_404001 := n3_; have HO_413000 := n4_; have HO_413001 := n5_; have BK378 := n6_; have BK395 := n7_; have BK403 := n8_; have BK412 := n9_; have HB := n10_; clear n0_ n1_ n2_ n3_ n4_ n5_ n6_ n7_ n8_ n9_ n10_; (try clear hb); (try clear hb2); (try clear hk); (try clear hi); have hnb109 := NB378_395.out; have hnc109 := NB395_378.out; have hnb110 := NB378_403.out; have hnc110 := NB403_378.out; have hcz111_0 : w108.cell? ⟨gb378, 0, none⟩ = some (.slice A0_0 l0_0.length c0_0) := (blk_cell BK378.out 0).trans rfl; have hcz111_1 : w108.cell? ⟨gb378, 1, none⟩ = some (.slice A0_1 l0_1.length c0_1) := (blk_cell BK378.out 1).trans rfl; have hcz111_2 : w108.cell? ⟨gb378, 2, none⟩ = some (.int .i64 a0_2) := (blk_cell BK378.out 2).trans rfl; have hfz111_0 := blk_frozen BK378.out 0; have hfz111_1 := blk_frozen BK378.out 1; have hfz111_2 := blk_frozen BK378.out 2) | ((with_reducible refine gate_callee (f := 17) rfl ?_); refine goesL_ (some 75) rfl rfl Try.func17 (by kernel_rfl) rfl #[.agg #[.slice A0_0 l0_0.length c0_0, .slice A0_1 l0_1.length c0_1, .int .i64 a0_2]] rfl KL ?_; (with_reducible refine (laws_toStore.calls kj63 _ _ l0_0 _ _ l0_1 a0_2 t430 t433 t436 _ ?side1 ?side2 ?side3 ?side4 A99.out).mono ?_); (case side1 => exact KD (Kd.C_below HR0_0.out HB.out)); (case side2 => exact HC0_0.out); (case side3 => exact KD (Kd.C_below HR0_1.out HB.out)); (case side4 => exact HC0_1.out); rintro e w112 ⟨v431, v434, rfl, ho0, ho1, hb⟩; refine ⟨_, rfl, ?_⟩; have n0_ := Aside0.mk (Kd.R_mono (Kd.R_told (Kd.R_told (Kd.R_old (KR HO_396000.out) hb) (Kd.R_base ho0)) (Kd.R_base ho1)) (fun _ h_ => h_.1)); have n1_ := Aside0.mk (Kd.R_mono (Kd.R_told (Kd.R_told (Kd.R_old (KR HO_396001.out) hb) (Kd.R_base ho0)) (Kd.R_base ho1)) (fun _ h_ => h_.1)); have n2_ := Aside0.mk (Kd.R_mono (Kd.R_told (Kd.R_told (Kd.R_old (KR HO_404000.out) hb) (Kd.R_base ho0)) (Kd.R_base ho1)) (fun _ h_ => h_.1)); have n3_ := Aside0.mk (Kd.R_mono (Kd.R_told (Kd.R_told (Kd.R_old (KR HO_404001.out) hb) (Kd.R_base ho0)) (Kd.R_base ho1)) (fun _ h_ => h_.1)); have n4_ := Aside0.mk (Kd.R_mono (Kd.R_told (Kd.R_told (Kd.R_old (KR HO_413000.out) hb) (Kd.R_base ho0)) (Kd.R_base ho1)) (fun _ h_ => h_.1)); have n5_ := Aside0.mk (Kd.R_mono (Kd.R_told (Kd.R_told (Kd.R_old (KR HO_413001.out) hb) (Kd.R_base ho0)) (Kd.R_base ho1)) (fun _ h_ => h_.1)); have n6_ := Aside0.mk (Kd.R_lower (Kd.R_new' (Kd.R_new' (Kd.R_new' (Kd.R_new' (Kd.R_new' (Kd.R_new' ho0 (Kd.R_lt (KR HO_396000.out))) (Kd.R_lt (KR HO_396001.out))) (Kd.R_lt (KR HO_404000.out))) (Kd.R_lt (KR HO_404001.out))) (Kd.R_lt (KR HO_413000.out))) (Kd.R_lt (KR HO_413001.out))) (below_size KB)); have n7_ := Aside0.mk (Kd.R_lower (Kd.R_new' (Kd.R_new' (Kd.R_new' (Kd.R_new' (Kd.R_new' (Kd.R_new' ho1 (Kd.R_lt (KR HO_396000.out))) (Kd.R_lt (KR HO_396001.out))) (Kd.R_lt (KR HO_404000.out))) (Kd.R_lt (KR HO_404001.out))) (Kd.R_lt (KR HO_413000.out))) (Kd.R_lt (KR HO_413001.out))) (below_size KB)); have n8_ := Aside0.mk (blk_below (g := gb378) (o := .cells #[.slice A0_0 l0_0.length c0_0, .slice A0_1 l0_1.length c0_1, .int .i64 a0_2] 24 (0, 0)) KK hb); have n9_ := Aside0.mk (blk_below (g := gb395) (o := .cells #[.slice Ao21 t387.length co21, .slice Ao24 t390.length co24, .int .i64 t393] 29 (0, 0)) KK hb); have n10_ := Aside0.mk (blk_below (g := gb403) (o := .cells #[.slice Ao28 t423.length co28, .slice Ao32 t424.length co32, .int .i64 t402] 29 (0, 0)) KK hb); have n11_ := Aside0.mk (blk_below (g := gb412) (o := .cells #[.slice Ao35 t404.length co35, .slice Ao40 t407.length co40, .int .i64 t410] 29 (0, 0)) KK hb); have n12_ := Aside0.mk (below_step KB hb); clear HO_396000; clear HO_396001; clear HO_404000; clear HO_404001; clear HO_413000; clear HO_413001; clear BK378; clear BK395; clear BK403; clear BK412; clear HB; have HO_396000 := n0_; have HO_396001 := n1_; have HO_404000 := n2_; have HO_404001 := n3_; have HO_413000 := n4_; have HO_413001 := n5_; have HO432 := n6_; have HO435 := n7_; have BK378 := n8_; have BK395 := n9_; have BK403 := n10_; have BK412 := n11_; have HB := n12_; clear n0_ n1_ n2_ n3_ n4_ n5_ n6_ n7_ n8_ n9_ n10_ n11_ n12_; (try clear hb); (try clear hb2); (try clear hk); (try clear hi); (try clear ho0); (try clear ho1); obtain ⟨Ao113, co113, eo113⟩ := Kd.R_slice HO432.out; subst eo113; obtain ⟨Ao114, co114, eo114⟩ := Kd.R_slice HO435.out; subst eo114) | ((with_reducible refine gate_callee (f := 44) rfl ?_); refine goesL_ (some 76) rfl rfl Try.func44 (by kernel_rfl) rfl #[.agg #[.slice Ao113 t430.length co113, .slice Ao114 t433.length co114, .int .i64 t436]] rfl KL ?_; (with_reducible refine (impl_StoreSync.calls kj63 _ _ t430 _ _ t433 t436 t437 t440 t443 t444 _ ?side1 ?side2 ?side3 ?side4 A100.out).mono ?_); (case side1 => repeat (first | exact (Kd.R_reads' HO432.out).2.2 | (with_reducible refine Kd.C_alloc ?_ _) | (with_reducible refine Kd.C_drewN ?_ _) | (with_reducible refine Kd.C_drew ?_))); (case side2 => exact (Kd.R_reads' HO432.out).2.1); (case side3 => repeat (first | exact (Kd.R_reads' HO435.out).2.2 | (with_reducible refine Kd.C_alloc ?_ _) | (with_reducible refine Kd.C_drewN ?_ _) | (with_reducible refine Kd.C_drew ?_))); (case side4 => exact (Kd.R_reads' HO435.out).2.1); rintro e w115 ⟨v438, v441, rfl, ho0, ho1, hb⟩; refine ⟨_, rfl, ?_⟩; have n0_ := Aside0.mk (Kd.R_mono (Kd.R_told (Kd.R_told (Kd.R_old (KR HO_396000.out) hb) (Kd.R_base ho0)) (Kd.R_base ho1)) (fun _ h_ => h_.1)); have n1_ := Aside0.mk (Kd.R_mono (Kd.R_told (Kd.R_told (Kd.R_old (KR HO_396001.out) hb) (Kd.R_base ho0)) (Kd.R_base ho1)) (fun _ h_ => h_.1)); have n2_ := Aside0.mk (Kd.R_mono (Kd.R_told (Kd.R_told (Kd.R_old (KR HO_404000.out) hb) (Kd.R_base ho0)) (Kd.R_base ho1)) (fun _ h_ => h_.1)); have n3_ := Aside0.mk (Kd.R_mono (Kd.R_told (Kd.R_told (Kd.R_old (KR HO_404001.out) hb) (Kd.R_base ho0)) (Kd.R_base ho1)) (fun _ h_ => h_.1)); have n4_ := Aside0.mk (Kd.R_mono (Kd.R_told (Kd.R_told (Kd.R_old (KR HO_413000.out) hb) (Kd.R_base ho0)) (Kd.R_base ho1)) (fun _ h_ => h_.1)); have n5_ := Aside0.mk (Kd.R_mono (Kd.R_told (Kd.R_told (Kd.R_old (KR HO_413001.out) hb) (Kd.R_base ho0)) (Kd.R_base ho1)) (fun _ h_ => h_.1)); have n6_ := Aside0.mk (Kd.R_mono (Kd.R_told (Kd.R_told (Kd.R_old (KR HO432.out) hb) (Kd.R_base ho0)) (Kd.R_base ho1)) (fun _ h_ => h_.1)); have n7_ := Aside0.mk (Kd.R_mono (Kd.R_told (Kd.R_told (Kd.R_old (KR HO435.out) hb) (Kd.R_base ho0)) (Kd.R_base ho1)) (fun _ h_ => h_.1)); have n8_ := Aside0.mk (Kd.R_lower (Kd.R_new' (Kd.R_new' (Kd.R_new' (Kd.R_new' (Kd.R_new' (Kd.R_new' (Kd.R_new' (Kd.R_new' ho0 (Kd.R_lt (KR HO_396000.out))) (Kd.R_lt (KR HO_396001.out))) (Kd.R_lt (KR HO_404000.out))) (Kd.R_lt (KR HO_404001.out))) (Kd.R_lt (KR HO_413000.out))) (Kd.R_lt (KR HO_413001.out))) (Kd.R_lt (KR HO432.out))) (Kd.R_lt (KR HO435.out))) (below_size KB)); have n9_ := Aside0.mk (Kd.R_lower (Kd.R_new' (Kd.R_new' (Kd.R_new' (Kd.R_new' (Kd.R_new' (Kd.R_new' (Kd.R_new' (Kd.R_new' ho1 (Kd.R_lt (KR HO_396000.out))) (Kd.R_lt (KR HO_396001.out))) (Kd.R_lt (KR HO_404000.out))) (Kd.R_lt (KR HO_404001.out))) (Kd.R_lt (KR HO_413000.out))) (Kd.R_lt (KR HO_413001.out))) (Kd.R_lt (KR HO432.out))) (Kd.R_lt (KR HO435.out))) (below_size KB)); have n10_ := Aside0.mk (blk_below (g := gb378) (o := .cells #[.slice A0_0 l0_0.length c0_0, .slice A0_1 l0_1.length c0_1, .int .i64 a0_2] 24 (0, 0)) KK hb); have n11_ := Aside0.mk (blk_below (g := gb395) (o := .cells #[.slice Ao21 t387.length co21, .slice Ao24 t390.length co24, .int .i64 t393] 29 (0, 0)) KK hb); have n12_ := Aside0.mk (blk_below (g := gb403) (o := .cells #[.slice Ao28 t423.length co28, .slice Ao32 t424.length co32, .int .i64 t402] 29 (0, 0)) KK hb); have n13_ := Aside0.mk (blk_below (g := gb412) (o := .cells #[.slice Ao35 t404.length co35, .slice Ao40 t407.length co40, .int .i64 t410] 29 (0, 0)) KK hb); have n14_ := Aside0.mk (below_step KB hb); clear HO_396000; clear HO_396001; clear HO_404000; clear HO_404001; clear HO_413000; clear HO_413001; clear HO432; clear HO435; clear BK378; clear BK395; clear BK403; clear BK412; clear HB; have HO_396000 := n0_; have HO_396001 := n1_; have HO_404000 := n2_; have HO_404001 := n3_; have HO_413000 := n4_; have HO_413001 := n5_; have HO432 := n6_; have HO435 := n7_; have HO439 := n8_; have HO442 := n9_; have BK378 := n10_; have BK395 := n11_; have BK403 := n12_; have BK412 := n13_; have HB := n14_; clear n0_ n1_ n2_ n3_ n4_ n5_ n6_ n7_ n8_ n9_ n10_ n11_ n12_ n13_ n14_; (try clear hb); (try clear hb2); (try clear hk); (try clear hi); (try clear ho0); (try clear ho1)) | ((with_reducible refine gate_dst (N := 12) rfl ?_); refine box_event ?hg (N := 12) ?hd (cs := #[.slice none 0 0, .slice none 0 0, .int .i64 0]) (t := 29) ?hr ?_; (case hd => rfl); (case hg => rfl); (case hr => first | (go_simp; done) | (go_simp; rfl)); intro gb445 hg w116 hbox hb; have n0_ := Aside0.mk (Kd.R_below (KR HO_396000.out) hb); have n1_ := Aside0.mk (Kd.R_below (KR HO_396001.out) hb); have n2_ := Aside0.mk (Kd.R_below (KR HO_404000.out) hb); have n3_ := Aside0.mk (Kd.R_below (KR HO_404001.out) hb); have n4_ := Aside0.mk (Kd.R_below (KR HO_413000.out) hb); have n5_ := Aside0.mk (Kd.R_below (KR HO_413001.out) hb); have n6_ := Aside0.mk (Kd.R_below (KR HO432.out) hb); have n7_ := Aside0.mk (Kd.R_below (KR HO435.out) hb); have n8_ := Aside0.mk (Kd.R_below (KR HO439.out) hb); have n9_ := Aside0.mk (Kd.R_below (KR HO442.out) hb); have n10_ := Aside0.mk (blk_below (g := gb378) (o := .cells #[.slice A0_0 l0_0.length c0_0, .slice A0_1 l0_1.length c0_1, .int .i64 a0_2] 24 (0, 0)) KK hb); have n11_ := Aside0.mk (blk_below (g := gb395) (o := .cells #[.slice Ao21 t387.length co21, .slice Ao24 t390.length co24, .int .i64 t393] 29 (0, 0)) KK hb); have n12_ := Aside0.mk (blk_below (g := gb403) (o := .cells #[.slice Ao28 t423.length co28, .slice Ao32 t424.length co32, .int .i64 t402] 29 (0, 0)) KK hb); have n13_ := Aside0.mk (blk_below (g := gb412) (o := .cells #[.slice Ao35 t404.length co35, .slice Ao40 t407.length co40, .int .i64 t410] 29 (0, 0)) KK hb); have n14_ := Aside0.mk (below_step KB hb); have n15_ := Aside0.mk (hbox); have n16_ := Aside0.mk ((by rw [hg]; exact (below_size KB) : w.heap.size ≤ gb445)); have n17_ := Aside0.mk ((by rw [hg]; exact (below_size KB) : w.heap.size ≤ gb445)); have n18_ := Aside0.mk ((by rw [hg]; exact Nat.ne_of_lt (blk_lt (g := gb378) (o := .cells #[.slice A0_0 l0_0.length c0_0, .slice A0_1 l0_1.length c0_1, .int .i64 a0_2] 24 (0, 0)) KK) : gb378 ≠ gb445)); have n19_ := Aside0.mk ((by rw [hg]; exact Nat.ne_of_gt (blk_lt (g := gb378) (o := .cells #[.slice A0_0 l0_0.length c0_0, .slice A0_1 l0_1.length c0_1, .int .i64 a0_2] 24 (0, 0)) KK) : gb445 ≠ gb378)); have n20_ := Aside0.mk ((by rw [hg]; exact Nat.ne_of_lt (blk_lt (g := gb395) (o := .cells #[.slice Ao21 t387.length co21, .slice Ao24 t390.length co24, .int .i64 t393] 29 (0, 0)) KK) : gb395 ≠ gb445)); have n21_ := Aside0.mk ((by rw [hg]; exact Nat.ne_of_gt (blk_lt (g := gb395) (o := .cells #[.slice Ao21 t387.length co21, .slice Ao24 t390.length co24, .int .i64 t393] 29 (0, 0)) KK) : gb445 ≠ gb395)); have n22_ := Aside0.mk ((by rw [hg]; exact Nat.ne_of_lt (blk_lt (g := gb403) (o := .cells #[.slice Ao28 t423.length co28, .slice Ao32 t424.length co32, .int .i64 t402] 29 (0, 0)) KK) : gb403 ≠ gb445)); have n23_ := Aside0.mk ((by rw [hg]; exact Nat.ne_of_gt (blk_lt (g := gb403) (o := .cells #[.slice Ao28 t423.length co28, .slice Ao32 t424.length co32, .int .i64 t402] 29 (0, 0)) KK) : gb445 ≠ gb403)); have n24_ := Aside0.mk ((by rw [hg]; exact Nat.ne_of_lt (blk_lt (g := gb412) (o := .cells #[.slice Ao35 t404.length co35, .slice Ao40 t407.length co40, .int .i64 t410] 29 (0, 0)) KK) : gb412 ≠ gb445)); have n25_ := Aside0.mk ((by rw [hg]; exact Nat.ne_of_gt (blk_lt (g := gb412) (o := .cells #[.slice Ao35 t404.length co35, .slice Ao40 t407.length co40, .int .i64 t410] 29 (0, 0)) KK) : gb445 ≠ gb412)); clear HO_396000; clear HO_396001; clear HO_404000; clear HO_404001; clear HO_413000; clear HO_413001; clear HO432; clear HO435; clear HO439; clear HO442; clear BK378; clear BK395; clear BK403; clear BK412; clear HB; have HO_396000 := n0_; have HO_396001 := n1_; have HO_404000 := n2_; have HO_404001 := n3_; have HO_413000 := n4_; have HO_413001 := n5_; have HO432 := n6_; have HO435 := n7_; have HO439 := n8_; have HO442 := n9_; have BK378 := n10_; have BK395 := n11_; have BK403 := n12_; have BK412 := n13_; have HB := n14_; have BK445 := n15_; have GW445 := n16_; have GE445 := n17_; have NB378_445 := n18_; have NB445_378 := n19_; have NB395_445 := n20_; have NB445_395 := n21_; have NB403_445 := n22_; have NB445_403 := n23_; have NB412_445 := n24_; have NB445_412 := n25_; clear n0_ n1_ n2_ n3_ n4_ n5_ n6_ n7_ n8_ n9_ n10_ n11_ n12_ n13_ n14_ n15_ n16_ n17_ n18_ n19_ n20_ n21_ n22_ n23_ n24_ n25_; clear hb hbox hg; obtain ⟨Ao117, co117, eo117⟩ := Kd.R_slice HO439.out; subst eo117; have hnb118 := NB445_378.out; have hnc118 := NB378_445.out; have hnb119 := NB445_395.out; have hnc119 := NB395_445.out; have hnb120 := NB445_403.out; have hnc120 := NB403_445.out; have hnb121 := NB445_412.out; have hnc121 := NB412_445.out; have hcz122_0 : w116.cell? ⟨gb445, 0, none⟩ = some (.slice none 0 0) := (blk_cell BK445.out 0).trans rfl; have hcz122_1 : w116.cell? ⟨gb445, 1, none⟩ = some (.slice none 0 0) := (blk_cell BK445.out 1).trans rfl; have hcz122_2 : w116.cell? ⟨gb445, 2, none⟩ = some (.int .i64 0) := (blk_cell BK445.out 2).trans rfl; have hfz122_0 := blk_frozen BK445.out 0; have hfz122_1 := blk_frozen BK445.out 1; have hfz122_2 := blk_frozen BK445.out 2; obtain ⟨Ao123, co123, eo123⟩ := Kd.R_slice HO442.out; subst eo123))
           (try simp only [Act.put, List.setIfInBounds_toArray, List.set_cons_zero, List.set_cons_succ])
           go_cut [87] (fun v87 wc => ∃ (kq : Nat) (x87_100 : Bool), v87 = .bool x87_100 ∧ Aside0 (laws_FnExactStoreSync.j2 kq t426 x87_100 t427 t428 t410 = some r) ∧ Aside0 (kq ≤ kj63) ∧ Aside0 (Kd.R k34 34 wc w.heap.size (fun k_ => some k_ ≠ ((.slice Ao24 t390.length co24) : Value).ownBlock ∧ some k_ ≠ ((.slice Ao28 t423.length co28) : Value).ownBlock ∧ some k_ ≠ ((.slice Ao32 t424.length co32) : Value).ownBlock ∧ some k_ ≠ ((.slice Ao35 t404.length co35) : Value).ownBlock ∧ some k_ ≠ ((.slice Ao40 t407.length co40) : Value).ownBlock ∧ some k_ ≠ ((.slice Ao117 t437.length co117) : Value).ownBlock ∧ some k_ ≠ ((.slice Ao123 t440.length co123) : Value).ownBlock) (.slice Ao21 t387.length co21) t387) ∧ Aside0 (Kd.R k34 34 wc w.heap.size (fun k_ => some k_ ≠ ((.slice Ao21 t387.length co21) : Value).ownBlock ∧ some k_ ≠ ((.slice Ao28 t423.length co28) : Value).ownBlock ∧ some k_ ≠ ((.slice Ao32 t424.length co32) : Value).ownBlock ∧ some k_ ≠ ((.slice Ao35 t404.length co35) : Value).ownBlock ∧ some k_ ≠ ((.slice Ao40 t407.length co40) : Value).ownBlock ∧ some k_ ≠ ((.slice Ao117 t437.length co117) : Value).ownBlock ∧ some k_ ≠ ((.slice Ao123 t440.length co123) : Value).ownBlock) (.slice Ao24 t390.length co24) t390) ∧ Aside0 (Kd.R k34 34 wc w.heap.size (fun k_ => some k_ ≠ ((.slice Ao21 t387.length co21) : Value).ownBlock ∧ some k_ ≠ ((.slice Ao24 t390.length co24) : Value).ownBlock ∧ some k_ ≠ ((.slice Ao32 t424.length co32) : Value).ownBlock ∧ some k_ ≠ ((.slice Ao35 t404.length co35) : Value).ownBlock ∧ some k_ ≠ ((.slice Ao40 t407.length co40) : Value).ownBlock ∧ some k_ ≠ ((.slice Ao117 t437.length co117) : Value).ownBlock ∧ some k_ ≠ ((.slice Ao123 t440.length co123) : Value).ownBlock) (.slice Ao28 t423.length co28) t423) ∧ Aside0 (Kd.R k34 34 wc w.heap.size (fun k_ => some k_ ≠ ((.slice Ao21 t387.length co21) : Value).ownBlock ∧ some k_ ≠ ((.slice Ao24 t390.length co24) : Value).ownBlock ∧ some k_ ≠ ((.slice Ao28 t423.length co28) : Value).ownBlock ∧ some k_ ≠ ((.slice Ao35 t404.length co35) : Value).ownBlock ∧ some k_ ≠ ((.slice Ao40 t407.length co40) : Value).ownBlock ∧ some k_ ≠ ((.slice Ao117 t437.length co117) : Value).ownBlock ∧ some k_ ≠ ((.slice Ao123 t440.length co123) : Value).ownBlock) (.slice Ao32 t424.length co32) t424) ∧ Aside0 (Kd.R k34 34 wc w.heap.size (fun k_ => some k_ ≠ ((.slice Ao21 t387.length co21) : Value).ownBlock ∧ some k_ ≠ ((.slice Ao24 t390.length co24) : Value).ownBlock ∧ some k_ ≠ ((.slice Ao28 t423.length co28) : Value).ownBlock ∧ some k_ ≠ ((.slice Ao32 t424.length co32) : Value).ownBlock ∧ some k_ ≠ ((.slice Ao40 t407.length co40) : Value).ownBlock ∧ some k_ ≠ ((.slice Ao117 t437.length co117) : Value).ownBlock ∧ some k_ ≠ ((.slice Ao123 t440.length co123) : Value).ownBlock) (.slice Ao35 t404.length co35) t427) ∧ Aside0 (Kd.R k34 34 wc w.heap.size (fun k_ => some k_ ≠ ((.slice Ao21 t387.length co21) : Value).ownBlock ∧ some k_ ≠ ((.slice Ao24 t390.length co24) : Value).ownBlock ∧ some k_ ≠ ((.slice Ao28 t423.length co28) : Value).ownBlock ∧ some k_ ≠ ((.slice Ao32 t424.length co32) : Value).ownBlock ∧ some k_ ≠ ((.slice Ao35 t404.length co35) : Value).ownBlock ∧ some k_ ≠ ((.slice Ao117 t437.length co117) : Value).ownBlock ∧ some k_ ≠ ((.slice Ao123 t440.length co123) : Value).ownBlock) (.slice Ao40 t407.length co40) t428) ∧ Aside0 (Kd.R k34 34 wc w.heap.size (fun k_ => some k_ ≠ ((.slice Ao21 t387.length co21) : Value).ownBlock ∧ some k_ ≠ ((.slice Ao24 t390.length co24) : Value).ownBlock ∧ some k_ ≠ ((.slice Ao28 t423.length co28) : Value).ownBlock ∧ some k_ ≠ ((.slice Ao32 t424.length co32) : Value).ownBlock ∧ some k_ ≠ ((.slice Ao35 t404.length co35) : Value).ownBlock ∧ some k_ ≠ ((.slice Ao40 t407.length co40) : Value).ownBlock ∧ some k_ ≠ ((.slice Ao123 t440.length co123) : Value).ownBlock) (.slice Ao117 t437.length co117) t437) ∧ Aside0 (Kd.R k34 34 wc w.heap.size (fun k_ => some k_ ≠ ((.slice Ao21 t387.length co21) : Value).ownBlock ∧ some k_ ≠ ((.slice Ao24 t390.length co24) : Value).ownBlock ∧ some k_ ≠ ((.slice Ao28 t423.length co28) : Value).ownBlock ∧ some k_ ≠ ((.slice Ao32 t424.length co32) : Value).ownBlock ∧ some k_ ≠ ((.slice Ao35 t404.length co35) : Value).ownBlock ∧ some k_ ≠ ((.slice Ao40 t407.length co40) : Value).ownBlock ∧ some k_ ≠ ((.slice Ao117 t437.length co117) : Value).ownBlock) (.slice Ao123 t440.length co123) t440) ∧ Aside0 (wc.heap[gb378]? = some (.cells #[(.slice A0_0 l0_0.length c0_0), (.slice A0_1 l0_1.length c0_1), .int .i64 a0_2] 24 (0, 0))) ∧ Aside0 (wc.heap[gb395]? = some (.cells #[(.slice Ao21 t387.length co21), (.slice Ao24 t390.length co24), .int .i64 t393] 29 (0, 0))) ∧ Aside0 (wc.heap[gb403]? = some (.cells #[(.slice Ao28 t423.length co28), (.slice Ao32 t424.length co32), .int .i64 t402] 29 (0, 0))) ∧ Aside0 (wc.heap[gb412]? = some (.cells #[(.slice Ao35 t404.length co35), (.slice Ao40 t407.length co40), .int .i64 t410] 29 (0, 0))) ∧ Aside0 (wc.heap[gb445]? = some (.cells #[(.slice Ao117 t437.length co117), (.slice Ao123 t440.length co123), .int .i64 t443] 29 (0, 0))) ∧ Aside0 (Below w.heap.size w wc))
           case first =>
            have H := HC101.out
            clear HC101
            replace H := Option.bind_eq_some_iff.mp H
            obtain ⟨t446, A1240, H⟩ := H
            replace H : (if t446 = true then (laws_FnExactStoreSync.j2 kj63 t426 (t444 != t394) t427 t428 t410) else (laws_FnExactStoreSync.j2 kj63 t426 true t427 t428 t410)) = some r := H
            have A124 := Aside0.mk A1240
            clear A1240
            by_cases c125 : t446 = true
            ·subst c125
             have H1 : (laws_FnExactStoreSync.j2 kj63 t426 (t444 != t394) t427 t428 t410) = some r := by rw [if_pos rfl] at H; exact H
             clear H
             have H := H1
             clear H1
             have H' := Aside0.mk H
             clear H
             have hnb126 := NB445_378.out
             have hnc126 := NB378_445.out
             have hnb127 := NB445_395.out
             have hnc127 := NB395_445.out
             have hnb128 := NB445_403.out
             have hnc128 := NB403_445.out
             have hnb129 := NB445_412.out
             have hnc129 := NB412_445.out
             have hcz130_0 : w116.cell? ⟨gb445, 0, none⟩ = some (.slice none 0 0) := (blk_cell BK445.out 0).trans rfl
             have hcz130_1 : w116.cell? ⟨gb445, 1, none⟩ = some (.slice none 0 0) := (blk_cell BK445.out 1).trans rfl
             have hcz130_2 : w116.cell? ⟨gb445, 2, none⟩ = some (.int .i64 0) := (blk_cell BK445.out 2).trans rfl
             have hfz130_0 := blk_frozen BK445.out 0
             have hfz130_1 := blk_frozen BK445.out 1
             have hfz130_2 := blk_frozen BK445.out 2
             have hnb131 := NB395_378.out
             have hnc131 := NB378_395.out
             have hnb132 := NB395_403.out
             have hnc132 := NB403_395.out
             have hnb133 := NB395_412.out
             have hnc133 := NB412_395.out
             have hcz134_0 : w116.cell? ⟨gb395, 0, none⟩ = some (.slice Ao21 t387.length co21) := (blk_cell BK395.out 0).trans rfl
             have hcz134_1 : w116.cell? ⟨gb395, 1, none⟩ = some (.slice Ao24 t390.length co24) := (blk_cell BK395.out 1).trans rfl
             have hcz134_2 : w116.cell? ⟨gb395, 2, none⟩ = some (.int .i64 t393) := (blk_cell BK395.out 2).trans rfl
             have hfz134_0 := blk_frozen BK395.out 0
             have hfz134_1 := blk_frozen BK395.out 1
             have hfz134_2 := blk_frozen BK395.out 2
             go_wp2_with (first | ((with_reducible refine gate_callee (f := 19) rfl ?_); refine goesL_ (some 81) rfl rfl Try.func19 (by kernel_rfl) rfl #[.agg #[.slice Ao117 t437.length co117, .slice Ao123 t440.length co123, .int .i64 t443], .agg #[.slice Ao21 t387.length co21, .slice Ao24 t390.length co24, .int .i64 t393]] rfl KL ?_; (with_reducible refine (laws_eqStore.calls kj63 _ _ t437 _ _ t440 t443 _ _ t387 _ _ t390 t393 true _ ?side1 ?side2 ?side3 ?side4 ?side5 ?side6 ?side7 ?side8 A124.out).mono ?_); (case side1 => refine (Kd.R_reads' (e := 34) (base := w.heap.size) (ok := fun k_ => ((((((((some k_ ≠ (.slice Ao123 t440.length co123 : Value).ownBlock ∧ some k_ ≠ (.slice Ao21 t387.length co21 : Value).ownBlock) ∧ some k_ ≠ (.slice Ao24 t390.length co24 : Value).ownBlock) ∧ some k_ ≠ (.slice Ao28 t423.length co28 : Value).ownBlock) ∧ some k_ ≠ (.slice Ao32 t424.length co32 : Value).ownBlock) ∧ some k_ ≠ (.slice Ao35 t404.length co35 : Value).ownBlock) ∧ some k_ ≠ (.slice Ao40 t407.length co40 : Value).ownBlock) ∧ some k_ ≠ (.slice Ao113 t430.length co113 : Value).ownBlock) ∧ some k_ ≠ (.slice Ao114 t433.length co114 : Value).ownBlock)) (n := t437.length) (c := co117) ?_).2.2; exact (by (with_reducible repeat (first | apply Kd.R_alloc | apply Kd.R_drewN | apply Kd.R_drew)); exact (Kd.R_mono (Kd.R_far (p := ⟨gb445, 2, none⟩) (Kd.R_far (p := ⟨gb445, 1, none⟩) (Kd.R_far (p := ⟨gb445, 0, none⟩) (Kd.R_types HO439.out BK445.out (by decide)) (fun _ hk => hk.2) (.slice Ao117 t437.length co117)) (fun _ hk => hk.2) (.slice Ao123 t440.length co123)) (fun _ hk => hk.2) (.int .i64 t443)) (fun _ h_ => h_.1)))); (case side2 => exact (Kd.R_reads' HO439.out).2.1); (case side3 => refine (Kd.R_reads' (e := 34) (base := w.heap.size) (ok := fun k_ => ((((((((some k_ ≠ (.slice Ao117 t437.length co117 : Value).ownBlock ∧ some k_ ≠ (.slice Ao21 t387.length co21 : Value).ownBlock) ∧ some k_ ≠ (.slice Ao24 t390.length co24 : Value).ownBlock) ∧ some k_ ≠ (.slice Ao28 t423.length co28 : Value).ownBlock) ∧ some k_ ≠ (.slice Ao32 t424.length co32 : Value).ownBlock) ∧ some k_ ≠ (.slice Ao35 t404.length co35 : Value).ownBlock) ∧ some k_ ≠ (.slice Ao40 t407.length co40 : Value).ownBlock) ∧ some k_ ≠ (.slice Ao113 t430.length co113 : Value).ownBlock) ∧ some k_ ≠ (.slice Ao114 t433.length co114 : Value).ownBlock)) (n := t440.length) (c := co123) ?_).2.2; exact (by (with_reducible repeat (first | apply Kd.R_alloc | apply Kd.R_drewN | apply Kd.R_drew)); exact (Kd.R_mono (Kd.R_far (p := ⟨gb445, 2, none⟩) (Kd.R_far (p := ⟨gb445, 1, none⟩) (Kd.R_far (p := ⟨gb445, 0, none⟩) (Kd.R_types HO442.out BK445.out (by decide)) (fun _ hk => hk.2) (.slice Ao117 t437.length co117)) (fun _ hk => hk.2) (.slice Ao123 t440.length co123)) (fun _ hk => hk.2) (.int .i64 t443)) (fun _ h_ => h_.1)))); (case side4 => exact (Kd.R_reads' HO442.out).2.1); (case side5 => refine (Kd.R_reads' (e := 34) (base := w.heap.size) (ok := fun k_ => (((((some k_ ≠ (.slice Ao24 t390.length co24 : Value).ownBlock ∧ (some k_ ≠ (.slice Ao28 t423.length co28 : Value).ownBlock ∧ (some k_ ≠ (.slice Ao32 t424.length co32 : Value).ownBlock ∧ (some k_ ≠ (.slice Ao35 t404.length co35 : Value).ownBlock ∧ some k_ ≠ (.slice Ao40 t407.length co40 : Value).ownBlock)))) ∧ some k_ ≠ (.slice Ao113 t430.length co113 : Value).ownBlock) ∧ some k_ ≠ (.slice Ao114 t433.length co114 : Value).ownBlock) ∧ some k_ ≠ (.slice Ao117 t437.length co117 : Value).ownBlock) ∧ some k_ ≠ (.slice Ao123 t440.length co123 : Value).ownBlock)) (n := t387.length) (c := co21) ?_).2.2; exact (by (with_reducible repeat (first | apply Kd.R_alloc | apply Kd.R_drewN | apply Kd.R_drew)); exact (Kd.R_mono (Kd.R_far (p := ⟨gb445, 2, none⟩) (Kd.R_far (p := ⟨gb445, 1, none⟩) (Kd.R_far (p := ⟨gb445, 0, none⟩) (Kd.R_types HO_396000.out BK445.out (by decide)) (fun _ hk => hk.2) (.slice Ao117 t437.length co117)) (fun _ hk => hk.2) (.slice Ao123 t440.length co123)) (fun _ hk => hk.2) (.int .i64 t443)) (fun _ h_ => h_.1)))); (case side6 => exact (Kd.R_reads' HO_396000.out).2.1); (case side7 => refine (Kd.R_reads' (e := 34) (base := w.heap.size) (ok := fun k_ => (((((some k_ ≠ (.slice Ao21 t387.length co21 : Value).ownBlock ∧ (some k_ ≠ (.slice Ao28 t423.length co28 : Value).ownBlock ∧ (some k_ ≠ (.slice Ao32 t424.length co32 : Value).ownBlock ∧ (some k_ ≠ (.slice Ao35 t404.length co35 : Value).ownBlock ∧ some k_ ≠ (.slice Ao40 t407.length co40 : Value).ownBlock)))) ∧ some k_ ≠ (.slice Ao113 t430.length co113 : Value).ownBlock) ∧ some k_ ≠ (.slice Ao114 t433.length co114 : Value).ownBlock) ∧ some k_ ≠ (.slice Ao117 t437.length co117 : Value).ownBlock) ∧ some k_ ≠ (.slice Ao123 t440.length co123 : Value).ownBlock)) (n := t390.length) (c := co24) ?_).2.2; exact (by (with_reducible repeat (first | apply Kd.R_alloc | apply Kd.R_drewN | apply Kd.R_drew)); exact (Kd.R_mono (Kd.R_far (p := ⟨gb445, 2, none⟩) (Kd.R_far (p := ⟨gb445, 1, none⟩) (Kd.R_far (p := ⟨gb445, 0, none⟩) (Kd.R_types HO_396001.out BK445.out (by decide)) (fun _ hk => hk.2) (.slice Ao117 t437.length co117)) (fun _ hk => hk.2) (.slice Ao123 t440.length co123)) (fun _ hk => hk.2) (.int .i64 t443)) (fun _ h_ => h_.1)))); (case side8 => exact (Kd.R_reads' HO_396001.out).2.1); rintro e w135 ⟨rfl, hb⟩; refine ⟨_, rfl, ?_⟩; have n0_ := Aside0.mk (Kd.R_below (by (with_reducible repeat (first | apply Kd.R_alloc | apply Kd.R_drewN | apply Kd.R_drew)); exact (Kd.R_mono (Kd.R_far (p := ⟨gb445, 2, none⟩) (Kd.R_far (p := ⟨gb445, 1, none⟩) (Kd.R_far (p := ⟨gb445, 0, none⟩) (Kd.R_types HO_396000.out BK445.out (by decide)) (fun _ hk => hk.2) (.slice Ao117 t437.length co117)) (fun _ hk => hk.2) (.slice Ao123 t440.length co123)) (fun _ hk => hk.2) (.int .i64 t443)) (fun _ h_ => h_.1))) hb); have n1_ := Aside0.mk (Kd.R_below (by (with_reducible repeat (first | apply Kd.R_alloc | apply Kd.R_drewN | apply Kd.R_drew)); exact (Kd.R_mono (Kd.R_far (p := ⟨gb445, 2, none⟩) (Kd.R_far (p := ⟨gb445, 1, none⟩) (Kd.R_far (p := ⟨gb445, 0, none⟩) (Kd.R_types HO_396001.out BK445.out (by decide)) (fun _ hk => hk.2) (.slice Ao117 t437.length co117)) (fun _ hk => hk.2) (.slice Ao123 t440.length co123)) (fun _ hk => hk.2) (.int .i64 t443)) (fun _ h_ => h_.1))) hb); have n2_ := Aside0.mk (Kd.R_below (by (with_reducible repeat (first | apply Kd.R_alloc | apply Kd.R_drewN | apply Kd.R_drew)); exact (Kd.R_mono (Kd.R_far (p := ⟨gb445, 2, none⟩) (Kd.R_far (p := ⟨gb445, 1, none⟩) (Kd.R_far (p := ⟨gb445, 0, none⟩) (Kd.R_types HO_404000.out BK445.out (by decide)) (fun _ hk => hk.2) (.slice Ao117 t437.length co117)) (fun _ hk => hk.2) (.slice Ao123 t440.length co123)) (fun _ hk => hk.2) (.int .i64 t443)) (fun _ h_ => h_.1))) hb); have n3_ := Aside0.mk (Kd.R_below (by (with_reducible repeat (first | apply Kd.R_alloc | apply Kd.R_drewN | apply Kd.R_drew)); exact (Kd.R_mono (Kd.R_far (p := ⟨gb445, 2, none⟩) (Kd.R_far (p := ⟨gb445, 1, none⟩) (Kd.R_far (p := ⟨gb445, 0, none⟩) (Kd.R_types HO_404001.out BK445.out (by decide)) (fun _ hk => hk.2) (.slice Ao117 t437.length co117)) (fun _ hk => hk.2) (.slice Ao123 t440.length co123)) (fun _ hk => hk.2) (.int .i64 t443)) (fun _ h_ => h_.1))) hb); have n4_ := Aside0.mk (Kd.R_below (by (with_reducible repeat (first | apply Kd.R_alloc | apply Kd.R_drewN | apply Kd.R_drew)); exact (Kd.R_mono (Kd.R_far (p := ⟨gb445, 2, none⟩) (Kd.R_far (p := ⟨gb445, 1, none⟩) (Kd.R_far (p := ⟨gb445, 0, none⟩) (Kd.R_types HO_413000.out BK445.out (by decide)) (fun _ hk => hk.2) (.slice Ao117 t437.length co117)) (fun _ hk => hk.2) (.slice Ao123 t440.length co123)) (fun _ hk => hk.2) (.int .i64 t443)) (fun _ h_ => h_.1))) hb); have n5_ := Aside0.mk (Kd.R_below (by (with_reducible repeat (first | apply Kd.R_alloc | apply Kd.R_drewN | apply Kd.R_drew)); exact (Kd.R_mono (Kd.R_far (p := ⟨gb445, 2, none⟩) (Kd.R_far (p := ⟨gb445, 1, none⟩) (Kd.R_far (p := ⟨gb445, 0, none⟩) (Kd.R_types HO_413001.out BK445.out (by decide)) (fun _ hk => hk.2) (.slice Ao117 t437.length co117)) (fun _ hk => hk.2) (.slice Ao123 t440.length co123)) (fun _ hk => hk.2) (.int .i64 t443)) (fun _ h_ => h_.1))) hb); have n6_ := Aside0.mk (Kd.R_below (by (with_reducible repeat (first | apply Kd.R_alloc | apply Kd.R_drewN | apply Kd.R_drew)); exact (Kd.R_mono (Kd.R_far (p := ⟨gb445, 2, none⟩) (Kd.R_far (p := ⟨gb445, 1, none⟩) (Kd.R_far (p := ⟨gb445, 0, none⟩) (Kd.R_types HO432.out BK445.out (by decide)) (fun _ hk => hk.2) (.slice Ao117 t437.length co117)) (fun _ hk => hk.2) (.slice Ao123 t440.length co123)) (fun _ hk => hk.2) (.int .i64 t443)) (fun _ h_ => h_.1))) hb); have n7_ := Aside0.mk (Kd.R_below (by (with_reducible repeat (first | apply Kd.R_alloc | apply Kd.R_drewN | apply Kd.R_drew)); exact (Kd.R_mono (Kd.R_far (p := ⟨gb445, 2, none⟩) (Kd.R_far (p := ⟨gb445, 1, none⟩) (Kd.R_far (p := ⟨gb445, 0, none⟩) (Kd.R_types HO435.out BK445.out (by decide)) (fun _ hk => hk.2) (.slice Ao117 t437.length co117)) (fun _ hk => hk.2) (.slice Ao123 t440.length co123)) (fun _ hk => hk.2) (.int .i64 t443)) (fun _ h_ => h_.1))) hb); have n8_ := Aside0.mk (Kd.R_below (by (with_reducible repeat (first | apply Kd.R_alloc | apply Kd.R_drewN | apply Kd.R_drew)); exact (Kd.R_mono (Kd.R_far (p := ⟨gb445, 2, none⟩) (Kd.R_far (p := ⟨gb445, 1, none⟩) (Kd.R_far (p := ⟨gb445, 0, none⟩) (Kd.R_types HO439.out BK445.out (by decide)) (fun _ hk => hk.2) (.slice Ao117 t437.length co117)) (fun _ hk => hk.2) (.slice Ao123 t440.length co123)) (fun _ hk => hk.2) (.int .i64 t443)) (fun _ h_ => h_.1))) hb); have n9_ := Aside0.mk (Kd.R_below (by (with_reducible repeat (first | apply Kd.R_alloc | apply Kd.R_drewN | apply Kd.R_drew)); exact (Kd.R_mono (Kd.R_far (p := ⟨gb445, 2, none⟩) (Kd.R_far (p := ⟨gb445, 1, none⟩) (Kd.R_far (p := ⟨gb445, 0, none⟩) (Kd.R_types HO442.out BK445.out (by decide)) (fun _ hk => hk.2) (.slice Ao117 t437.length co117)) (fun _ hk => hk.2) (.slice Ao123 t440.length co123)) (fun _ hk => hk.2) (.int .i64 t443)) (fun _ h_ => h_.1))) hb); have n10_ := Aside0.mk (blk_below (g := gb378) (o := .cells #[.slice A0_0 l0_0.length c0_0, .slice A0_1 l0_1.length c0_1, .int .i64 a0_2] 24 (0, 0)) KK hb); have n11_ := Aside0.mk (blk_below (g := gb395) (o := .cells #[.slice Ao21 t387.length co21, .slice Ao24 t390.length co24, .int .i64 t393] 29 (0, 0)) KK hb); have n12_ := Aside0.mk (blk_below (g := gb403) (o := .cells #[.slice Ao28 t423.length co28, .slice Ao32 t424.length co32, .int .i64 t402] 29 (0, 0)) KK hb); have n13_ := Aside0.mk (blk_below (g := gb412) (o := .cells #[.slice Ao35 t404.length co35, .slice Ao40 t407.length co40, .int .i64 t410] 29 (0, 0)) KK hb); have n14_ := Aside0.mk (blk_below (g := gb445) (o := .cells #[.slice Ao117 t437.length co117, .slice Ao123 t440.length co123, .int .i64 t443] 29 (0, 0)) (by (with_reducible repeat (first | refine blk_drewN ?_ _ | refine blk_drew ?_ | refine blk_alloc ?_ _)); refine blk_put (cs := #[.slice Ao117 t437.length co117, .slice Ao123 t440.length co123, .int .i64 0]) ?_ 2 _ rfl; (with_reducible repeat (first | refine blk_drewN ?_ _ | refine blk_drew ?_ | refine blk_alloc ?_ _)); refine blk_put (cs := #[.slice Ao117 t437.length co117, .slice none 0 0, .int .i64 0]) ?_ 1 _ rfl; (with_reducible repeat (first | refine blk_drewN ?_ _ | refine blk_drew ?_ | refine blk_alloc ?_ _)); refine blk_put (cs := #[.slice none 0 0, .slice none 0 0, .int .i64 0]) ?_ 0 _ rfl; (with_reducible repeat (first | refine blk_drewN ?_ _ | refine blk_drew ?_ | refine blk_alloc ?_ _)); exact BK445.out) hb); have n15_ := Aside0.mk (below_step KB hb); clear HO_396000; clear HO_396001; clear HO_404000; clear HO_404001; clear HO_413000; clear HO_413001; clear HO432; clear HO435; clear HO439; clear HO442; clear BK378; clear BK395; clear BK403; clear BK412; clear BK445; clear HB; have HO_396000 := n0_; have HO_396001 := n1_; have HO_404000 := n2_; have HO_404001 := n3_; have HO_413000 := n4_; have HO_413001 := n5_; have HO432 := n6_; have HO435 := n7_; have HO439 := n8_; have HO442 := n9_; have BK378 := n10_; have BK395 := n11_; have BK403 := n12_; have BK412 := n13_; have BK445 := n14_; have HB := n15_; clear n0_ n1_ n2_ n3_ n4_ n5_ n6_ n7_ n8_ n9_ n10_ n11_ n12_ n13_ n14_ n15_; (try clear hb); (try clear hb2); (try clear hk); (try clear hi)))
             go_meet
             case rel => exact ⟨_, ((t444 != t394)), (by first | rfl | (simp; done) | (simp [*]; done)), H', ⟨by have := HJ10.out; have := HJ63.out; first | omega | exact Nat.le_refl _⟩, ⟨by (try simp only [hl404000_63]); (try simp only [hl404001_63]); (with_reducible repeat (first | apply Kd.R_alloc | apply Kd.R_drewN | apply Kd.R_drew)); exact Kd.R_mono HO_396000.out (fun _ hk => ⟨hk.1.1.1.1.1, ⟨hk.1.1.1.1.2.1, ⟨hk.1.1.1.1.2.2.1, ⟨hk.1.1.1.1.2.2.2.1, ⟨hk.1.1.1.1.2.2.2.2, ⟨hk.1.2, hk.2⟩⟩⟩⟩⟩⟩)⟩, ⟨by (try simp only [hl404000_63]); (try simp only [hl404001_63]); (with_reducible repeat (first | apply Kd.R_alloc | apply Kd.R_drewN | apply Kd.R_drew)); exact Kd.R_mono HO_396001.out (fun _ hk => ⟨hk.1.1.1.1.1, ⟨hk.1.1.1.1.2.1, ⟨hk.1.1.1.1.2.2.1, ⟨hk.1.1.1.1.2.2.2.1, ⟨hk.1.1.1.1.2.2.2.2, ⟨hk.1.2, hk.2⟩⟩⟩⟩⟩⟩)⟩, ⟨by (try simp only [hl404000_63]); (try simp only [hl404001_63]); (with_reducible repeat (first | apply Kd.R_alloc | apply Kd.R_drewN | apply Kd.R_drew)); exact Kd.R_mono HO_404000.out (fun _ hk => ⟨hk.1.1.1.1.1, ⟨hk.1.1.1.1.2.1, ⟨hk.1.1.1.1.2.2.1, ⟨hk.1.1.1.1.2.2.2.1, ⟨hk.1.1.1.1.2.2.2.2, ⟨hk.1.2, hk.2⟩⟩⟩⟩⟩⟩)⟩, ⟨by (try simp only [hl404000_63]); (try simp only [hl404001_63]); (with_reducible repeat (first | apply Kd.R_alloc | apply Kd.R_drewN | apply Kd.R_drew)); exact Kd.R_mono HO_404001.out (fun _ hk => ⟨hk.1.1.1.1.1, ⟨hk.1.1.1.1.2.1, ⟨hk.1.1.1.1.2.2.1, ⟨hk.1.1.1.1.2.2.2.1, ⟨hk.1.1.1.1.2.2.2.2, ⟨hk.1.2, hk.2⟩⟩⟩⟩⟩⟩)⟩, ⟨by (try simp only [hl404000_63]); (try simp only [hl404001_63]); (with_reducible repeat (first | apply Kd.R_alloc | apply Kd.R_drewN | apply Kd.R_drew)); exact Kd.R_mono HO_413000.out (fun _ hk => ⟨hk.1.1.1.1.1, ⟨hk.1.1.1.1.2.1, ⟨hk.1.1.1.1.2.2.1, ⟨hk.1.1.1.1.2.2.2.1, ⟨hk.1.1.1.1.2.2.2.2, ⟨hk.1.2, hk.2⟩⟩⟩⟩⟩⟩)⟩, ⟨by (try simp only [hl404000_63]); (try simp only [hl404001_63]); (with_reducible repeat (first | apply Kd.R_alloc | apply Kd.R_drewN | apply Kd.R_drew)); exact Kd.R_mono HO_413001.out (fun _ hk => ⟨hk.1.1.1.1.1, ⟨hk.1.1.1.1.2.1, ⟨hk.1.1.1.1.2.2.1, ⟨hk.1.1.1.1.2.2.2.1, ⟨hk.1.1.1.1.2.2.2.2, ⟨hk.1.2, hk.2⟩⟩⟩⟩⟩⟩)⟩, ⟨by (try simp only [hl404000_63]); (try simp only [hl404001_63]); (with_reducible repeat (first | apply Kd.R_alloc | apply Kd.R_drewN | apply Kd.R_drew)); exact Kd.R_mono HO439.out (fun _ hk => ⟨hk.1.1.1.1.1.1.1.2, ⟨hk.1.1.1.1.1.1.2, ⟨hk.1.1.1.1.1.2, ⟨hk.1.1.1.1.2, ⟨hk.1.1.1.2, ⟨hk.1.1.2, hk.1.1.1.1.1.1.1.1⟩⟩⟩⟩⟩⟩)⟩, ⟨by (try simp only [hl404000_63]); (try simp only [hl404001_63]); (with_reducible repeat (first | apply Kd.R_alloc | apply Kd.R_drewN | apply Kd.R_drew)); exact Kd.R_mono HO442.out (fun _ hk => ⟨hk.1.1.1.1.1.1.1.2, ⟨hk.1.1.1.1.1.1.2, ⟨hk.1.1.1.1.1.2, ⟨hk.1.1.1.1.2, ⟨hk.1.1.1.2, ⟨hk.1.1.2, hk.1.1.1.1.1.1.1.1⟩⟩⟩⟩⟩⟩)⟩, ⟨by (try simp only [hl404000_63]); (try simp only [hl404001_63]); (with_reducible repeat (first | refine blk_drewN ?_ _ | refine blk_drew ?_ | refine blk_alloc ?_ _)); exact BK378.out⟩, ⟨by (try simp only [hl404000_63]); (try simp only [hl404001_63]); (with_reducible repeat (first | refine blk_drewN ?_ _ | refine blk_drew ?_ | refine blk_alloc ?_ _)); exact BK395.out⟩, ⟨by (try simp only [hl404000_63]); (try simp only [hl404001_63]); (with_reducible repeat (first | refine blk_drewN ?_ _ | refine blk_drew ?_ | refine blk_alloc ?_ _)); exact BK403.out⟩, ⟨by (try simp only [hl404000_63]); (try simp only [hl404001_63]); (with_reducible repeat (first | refine blk_drewN ?_ _ | refine blk_drew ?_ | refine blk_alloc ?_ _)); exact BK412.out⟩, ⟨by (try simp only [hl404000_63]); (try simp only [hl404001_63]); (with_reducible repeat (first | refine blk_drewN ?_ _ | refine blk_drew ?_ | refine blk_alloc ?_ _)); exact BK445.out⟩, ⟨KB⟩⟩
            ·replace c125 := Bool.eq_false_iff.mpr c125
             subst c125
             have H1 : (laws_FnExactStoreSync.j2 kj63 t426 true t427 t428 t410) = some r := by rw [if_neg (show ¬ (false = true) by decide)] at H; exact H
             clear H
             have H := H1
             clear H1
             have H' := Aside0.mk H
             clear H
             have hnb136 := NB445_378.out
             have hnc136 := NB378_445.out
             have hnb137 := NB445_395.out
             have hnc137 := NB395_445.out
             have hnb138 := NB445_403.out
             have hnc138 := NB403_445.out
             have hnb139 := NB445_412.out
             have hnc139 := NB412_445.out
             have hcz140_0 : w116.cell? ⟨gb445, 0, none⟩ = some (.slice none 0 0) := (blk_cell BK445.out 0).trans rfl
             have hcz140_1 : w116.cell? ⟨gb445, 1, none⟩ = some (.slice none 0 0) := (blk_cell BK445.out 1).trans rfl
             have hcz140_2 : w116.cell? ⟨gb445, 2, none⟩ = some (.int .i64 0) := (blk_cell BK445.out 2).trans rfl
             have hfz140_0 := blk_frozen BK445.out 0
             have hfz140_1 := blk_frozen BK445.out 1
             have hfz140_2 := blk_frozen BK445.out 2
             have hnb141 := NB395_378.out
             have hnc141 := NB378_395.out
             have hnb142 := NB395_403.out
             have hnc142 := NB403_395.out
             have hnb143 := NB395_412.out
             have hnc143 := NB412_395.out
             have hcz144_0 : w116.cell? ⟨gb395, 0, none⟩ = some (.slice Ao21 t387.length co21) := (blk_cell BK395.out 0).trans rfl
             have hcz144_1 : w116.cell? ⟨gb395, 1, none⟩ = some (.slice Ao24 t390.length co24) := (blk_cell BK395.out 1).trans rfl
             have hcz144_2 : w116.cell? ⟨gb395, 2, none⟩ = some (.int .i64 t393) := (blk_cell BK395.out 2).trans rfl
             have hfz144_0 := blk_frozen BK395.out 0
             have hfz144_1 := blk_frozen BK395.out 1
             have hfz144_2 := blk_frozen BK395.out 2
             go_wp2_with (first | ((with_reducible refine gate_callee (f := 19) rfl ?_); refine goesL_ (some 81) rfl rfl Try.func19 (by kernel_rfl) rfl #[.agg #[.slice Ao117 t437.length co117, .slice Ao123 t440.length co123, .int .i64 t443], .agg #[.slice Ao21 t387.length co21, .slice Ao24 t390.length co24, .int .i64 t393]] rfl KL ?_; (with_reducible refine (laws_eqStore.calls kj63 _ _ t437 _ _ t440 t443 _ _ t387 _ _ t390 t393 false _ ?side1 ?side2 ?side3 ?side4 ?side5 ?side6 ?side7 ?side8 A124.out).mono ?_); (case side1 => refine (Kd.R_reads' (e := 34) (base := w.heap.size) (ok := fun k_ => ((((((((some k_ ≠ (.slice Ao123 t440.length co123 : Value).ownBlock ∧ some k_ ≠ (.slice Ao21 t387.length co21 : Value).ownBlock) ∧ some k_ ≠ (.slice Ao24 t390.length co24 : Value).ownBlock) ∧ some k_ ≠ (.slice Ao28 t423.length co28 : Value).ownBlock) ∧ some k_ ≠ (.slice Ao32 t424.length co32 : Value).ownBlock) ∧ some k_ ≠ (.slice Ao35 t404.length co35 : Value).ownBlock) ∧ some k_ ≠ (.slice Ao40 t407.length co40 : Value).ownBlock) ∧ some k_ ≠ (.slice Ao113 t430.length co113 : Value).ownBlock) ∧ some k_ ≠ (.slice Ao114 t433.length co114 : Value).ownBlock)) (n := t437.length) (c := co117) ?_).2.2; exact (by (with_reducible repeat (first | apply Kd.R_alloc | apply Kd.R_drewN | apply Kd.R_drew)); exact (Kd.R_mono (Kd.R_far (p := ⟨gb445, 2, none⟩) (Kd.R_far (p := ⟨gb445, 1, none⟩) (Kd.R_far (p := ⟨gb445, 0, none⟩) (Kd.R_types HO439.out BK445.out (by decide)) (fun _ hk => hk.2) (.slice Ao117 t437.length co117)) (fun _ hk => hk.2) (.slice Ao123 t440.length co123)) (fun _ hk => hk.2) (.int .i64 t443)) (fun _ h_ => h_.1)))); (case side2 => exact (Kd.R_reads' HO439.out).2.1); (case side3 => refine (Kd.R_reads' (e := 34) (base := w.heap.size) (ok := fun k_ => ((((((((some k_ ≠ (.slice Ao117 t437.length co117 : Value).ownBlock ∧ some k_ ≠ (.slice Ao21 t387.length co21 : Value).ownBlock) ∧ some k_ ≠ (.slice Ao24 t390.length co24 : Value).ownBlock) ∧ some k_ ≠ (.slice Ao28 t423.length co28 : Value).ownBlock) ∧ some k_ ≠ (.slice Ao32 t424.length co32 : Value).ownBlock) ∧ some k_ ≠ (.slice Ao35 t404.length co35 : Value).ownBlock) ∧ some k_ ≠ (.slice Ao40 t407.length co40 : Value).ownBlock) ∧ some k_ ≠ (.slice Ao113 t430.length co113 : Value).ownBlock) ∧ some k_ ≠ (.slice Ao114 t433.length co114 : Value).ownBlock)) (n := t440.length) (c := co123) ?_).2.2; exact (by (with_reducible repeat (first | apply Kd.R_alloc | apply Kd.R_drewN | apply Kd.R_drew)); exact (Kd.R_mono (Kd.R_far (p := ⟨gb445, 2, none⟩) (Kd.R_far (p := ⟨gb445, 1, none⟩) (Kd.R_far (p := ⟨gb445, 0, none⟩) (Kd.R_types HO442.out BK445.out (by decide)) (fun _ hk => hk.2) (.slice Ao117 t437.length co117)) (fun _ hk => hk.2) (.slice Ao123 t440.length co123)) (fun _ hk => hk.2) (.int .i64 t443)) (fun _ h_ => h_.1)))); (case side4 => exact (Kd.R_reads' HO442.out).2.1); (case side5 => refine (Kd.R_reads' (e := 34) (base := w.heap.size) (ok := fun k_ => (((((some k_ ≠ (.slice Ao24 t390.length co24 : Value).ownBlock ∧ (some k_ ≠ (.slice Ao28 t423.length co28 : Value).ownBlock ∧ (some k_ ≠ (.slice Ao32 t424.length co32 : Value).ownBlock ∧ (some k_ ≠ (.slice Ao35 t404.length co35 : Value).ownBlock ∧ some k_ ≠ (.slice Ao40 t407.length co40 : Value).ownBlock)))) ∧ some k_ ≠ (.slice Ao113 t430.length co113 : Value).ownBlock) ∧ some k_ ≠ (.slice Ao114 t433.length co114 : Value).ownBlock) ∧ some k_ ≠ (.slice Ao117 t437.length co117 : Value).ownBlock) ∧ some k_ ≠ (.slice Ao123 t440.length co123 : Value).ownBlock)) (n := t387.length) (c := co21) ?_).2.2; exact (by (with_reducible repeat (first | apply Kd.R_alloc | apply Kd.R_drewN | apply Kd.R_drew)); exact (Kd.R_mono (Kd.R_far (p := ⟨gb445, 2, none⟩) (Kd.R_far (p := ⟨gb445, 1, none⟩) (Kd.R_far (p := ⟨gb445, 0, none⟩) (Kd.R_types HO_396000.out BK445.out (by decide)) (fun _ hk => hk.2) (.slice Ao117 t437.length co117)) (fun _ hk => hk.2) (.slice Ao123 t440.length co123)) (fun _ hk => hk.2) (.int .i64 t443)) (fun _ h_ => h_.1)))); (case side6 => exact (Kd.R_reads' HO_396000.out).2.1); (case side7 => refine (Kd.R_reads' (e := 34) (base := w.heap.size) (ok := fun k_ => (((((some k_ ≠ (.slice Ao21 t387.length co21 : Value).ownBlock ∧ (some k_ ≠ (.slice Ao28 t423.length co28 : Value).ownBlock ∧ (some k_ ≠ (.slice Ao32 t424.length co32 : Value).ownBlock ∧ (some k_ ≠ (.slice Ao35 t404.length co35 : Value).ownBlock ∧ some k_ ≠ (.slice Ao40 t407.length co40 : Value).ownBlock)))) ∧ some k_ ≠ (.slice Ao113 t430.length co113 : Value).ownBlock) ∧ some k_ ≠ (.slice Ao114 t433.length co114 : Value).ownBlock) ∧ some k_ ≠ (.slice Ao117 t437.length co117 : Value).ownBlock) ∧ some k_ ≠ (.slice Ao123 t440.length co123 : Value).ownBlock)) (n := t390.length) (c := co24) ?_).2.2; exact (by (with_reducible repeat (first | apply Kd.R_alloc | apply Kd.R_drewN | apply Kd.R_drew)); exact (Kd.R_mono (Kd.R_far (p := ⟨gb445, 2, none⟩) (Kd.R_far (p := ⟨gb445, 1, none⟩) (Kd.R_far (p := ⟨gb445, 0, none⟩) (Kd.R_types HO_396001.out BK445.out (by decide)) (fun _ hk => hk.2) (.slice Ao117 t437.length co117)) (fun _ hk => hk.2) (.slice Ao123 t440.length co123)) (fun _ hk => hk.2) (.int .i64 t443)) (fun _ h_ => h_.1)))); (case side8 => exact (Kd.R_reads' HO_396001.out).2.1); rintro e w145 ⟨rfl, hb⟩; refine ⟨_, rfl, ?_⟩; have n0_ := Aside0.mk (Kd.R_below (by (with_reducible repeat (first | apply Kd.R_alloc | apply Kd.R_drewN | apply Kd.R_drew)); exact (Kd.R_mono (Kd.R_far (p := ⟨gb445, 2, none⟩) (Kd.R_far (p := ⟨gb445, 1, none⟩) (Kd.R_far (p := ⟨gb445, 0, none⟩) (Kd.R_types HO_396000.out BK445.out (by decide)) (fun _ hk => hk.2) (.slice Ao117 t437.length co117)) (fun _ hk => hk.2) (.slice Ao123 t440.length co123)) (fun _ hk => hk.2) (.int .i64 t443)) (fun _ h_ => h_.1))) hb); have n1_ := Aside0.mk (Kd.R_below (by (with_reducible repeat (first | apply Kd.R_alloc | apply Kd.R_drewN | apply Kd.R_drew)); exact (Kd.R_mono (Kd.R_far (p := ⟨gb445, 2, none⟩) (Kd.R_far (p := ⟨gb445, 1, none⟩) (Kd.R_far (p := ⟨gb445, 0, none⟩) (Kd.R_types HO_396001.out BK445.out (by decide)) (fun _ hk => hk.2) (.slice Ao117 t437.length co117)) (fun _ hk => hk.2) (.slice Ao123 t440.length co123)) (fun _ hk => hk.2) (.int .i64 t443)) (fun _ h_ => h_.1))) hb); have n2_ := Aside0.mk (Kd.R_below (by (with_reducible repeat (first | apply Kd.R_alloc | apply Kd.R_drewN | apply Kd.R_drew)); exact (Kd.R_mono (Kd.R_far (p := ⟨gb445, 2, none⟩) (Kd.R_far (p := ⟨gb445, 1, none⟩) (Kd.R_far (p := ⟨gb445, 0, none⟩) (Kd.R_types HO_404000.out BK445.out (by decide)) (fun _ hk => hk.2) (.slice Ao117 t437.length co117)) (fun _ hk => hk.2) (.slice Ao123 t440.length co123)) (fun _ hk => hk.2) (.int .i64 t443)) (fun _ h_ => h_.1))) hb); have n3_ := Aside0.mk (Kd.R_below (by (with_reducible repeat (first | apply Kd.R_alloc | apply Kd.R_drewN | apply Kd.R_drew)); exact (Kd.R_mono (Kd.R_far (p := ⟨gb445, 2, none⟩) (Kd.R_far (p := ⟨gb445, 1, none⟩) (Kd.R_far (p := ⟨gb445, 0, none⟩) (Kd.R_types HO_404001.out BK445.out (by decide)) (fun _ hk => hk.2) (.slice Ao117 t437.length co117)) (fun _ hk => hk.2) (.slice Ao123 t440.length co123)) (fun _ hk => hk.2) (.int .i64 t443)) (fun _ h_ => h_.1))) hb); have n4_ := Aside0.mk (Kd.R_below (by (with_reducible repeat (first | apply Kd.R_alloc | apply Kd.R_drewN | apply Kd.R_drew)); exact (Kd.R_mono (Kd.R_far (p := ⟨gb445, 2, none⟩) (Kd.R_far (p := ⟨gb445, 1, none⟩) (Kd.R_far (p := ⟨gb445, 0, none⟩) (Kd.R_types HO_413000.out BK445.out (by decide)) (fun _ hk => hk.2) (.slice Ao117 t437.length co117)) (fun _ hk => hk.2) (.slice Ao123 t440.length co123)) (fun _ hk => hk.2) (.int .i64 t443)) (fun _ h_ => h_.1))) hb); have n5_ := Aside0.mk (Kd.R_below (by (with_reducible repeat (first | apply Kd.R_alloc | apply Kd.R_drewN | apply Kd.R_drew)); exact (Kd.R_mono (Kd.R_far (p := ⟨gb445, 2, none⟩) (Kd.R_far (p := ⟨gb445, 1, none⟩) (Kd.R_far (p := ⟨gb445, 0, none⟩) (Kd.R_types HO_413001.out BK445.out (by decide)) (fun _ hk => hk.2) (.slice Ao117 t437.length co117)) (fun _ hk => hk.2) (.slice Ao123 t440.length co123)) (fun _ hk => hk.2) (.int .i64 t443)) (fun _ h_ => h_.1))) hb); have n6_ := Aside0.mk (Kd.R_below (by (with_reducible repeat (first | apply Kd.R_alloc | apply Kd.R_drewN | apply Kd.R_drew)); exact (Kd.R_mono (Kd.R_far (p := ⟨gb445, 2, none⟩) (Kd.R_far (p := ⟨gb445, 1, none⟩) (Kd.R_far (p := ⟨gb445, 0, none⟩) (Kd.R_types HO432.out BK445.out (by decide)) (fun _ hk => hk.2) (.slice Ao117 t437.length co117)) (fun _ hk => hk.2) (.slice Ao123 t440.length co123)) (fun _ hk => hk.2) (.int .i64 t443)) (fun _ h_ => h_.1))) hb); have n7_ := Aside0.mk (Kd.R_below (by (with_reducible repeat (first | apply Kd.R_alloc | apply Kd.R_drewN | apply Kd.R_drew)); exact (Kd.R_mono (Kd.R_far (p := ⟨gb445, 2, none⟩) (Kd.R_far (p := ⟨gb445, 1, none⟩) (Kd.R_far (p := ⟨gb445, 0, none⟩) (Kd.R_types HO435.out BK445.out (by decide)) (fun _ hk => hk.2) (.slice Ao117 t437.length co117)) (fun _ hk => hk.2) (.slice Ao123 t440.length co123)) (fun _ hk => hk.2) (.int .i64 t443)) (fun _ h_ => h_.1))) hb); have n8_ := Aside0.mk (Kd.R_below (by (with_reducible repeat (first | apply Kd.R_alloc | apply Kd.R_drewN | apply Kd.R_drew)); exact (Kd.R_mono (Kd.R_far (p := ⟨gb445, 2, none⟩) (Kd.R_far (p := ⟨gb445, 1, none⟩) (Kd.R_far (p := ⟨gb445, 0, none⟩) (Kd.R_types HO439.out BK445.out (by decide)) (fun _ hk => hk.2) (.slice Ao117 t437.length co117)) (fun _ hk => hk.2) (.slice Ao123 t440.length co123)) (fun _ hk => hk.2) (.int .i64 t443)) (fun _ h_ => h_.1))) hb); have n9_ := Aside0.mk (Kd.R_below (by (with_reducible repeat (first | apply Kd.R_alloc | apply Kd.R_drewN | apply Kd.R_drew)); exact (Kd.R_mono (Kd.R_far (p := ⟨gb445, 2, none⟩) (Kd.R_far (p := ⟨gb445, 1, none⟩) (Kd.R_far (p := ⟨gb445, 0, none⟩) (Kd.R_types HO442.out BK445.out (by decide)) (fun _ hk => hk.2) (.slice Ao117 t437.length co117)) (fun _ hk => hk.2) (.slice Ao123 t440.length co123)) (fun _ hk => hk.2) (.int .i64 t443)) (fun _ h_ => h_.1))) hb); have n10_ := Aside0.mk (blk_below (g := gb378) (o := .cells #[.slice A0_0 l0_0.length c0_0, .slice A0_1 l0_1.length c0_1, .int .i64 a0_2] 24 (0, 0)) KK hb); have n11_ := Aside0.mk (blk_below (g := gb395) (o := .cells #[.slice Ao21 t387.length co21, .slice Ao24 t390.length co24, .int .i64 t393] 29 (0, 0)) KK hb); have n12_ := Aside0.mk (blk_below (g := gb403) (o := .cells #[.slice Ao28 t423.length co28, .slice Ao32 t424.length co32, .int .i64 t402] 29 (0, 0)) KK hb); have n13_ := Aside0.mk (blk_below (g := gb412) (o := .cells #[.slice Ao35 t404.length co35, .slice Ao40 t407.length co40, .int .i64 t410] 29 (0, 0)) KK hb); have n14_ := Aside0.mk (blk_below (g := gb445) (o := .cells #[.slice Ao117 t437.length co117, .slice Ao123 t440.length co123, .int .i64 t443] 29 (0, 0)) (by (with_reducible repeat (first | refine blk_drewN ?_ _ | refine blk_drew ?_ | refine blk_alloc ?_ _)); refine blk_put (cs := #[.slice Ao117 t437.length co117, .slice Ao123 t440.length co123, .int .i64 0]) ?_ 2 _ rfl; (with_reducible repeat (first | refine blk_drewN ?_ _ | refine blk_drew ?_ | refine blk_alloc ?_ _)); refine blk_put (cs := #[.slice Ao117 t437.length co117, .slice none 0 0, .int .i64 0]) ?_ 1 _ rfl; (with_reducible repeat (first | refine blk_drewN ?_ _ | refine blk_drew ?_ | refine blk_alloc ?_ _)); refine blk_put (cs := #[.slice none 0 0, .slice none 0 0, .int .i64 0]) ?_ 0 _ rfl; (with_reducible repeat (first | refine blk_drewN ?_ _ | refine blk_drew ?_ | refine blk_alloc ?_ _)); exact BK445.out) hb); have n15_ := Aside0.mk (below_step KB hb); clear HO_396000; clear HO_396001; clear HO_404000; clear HO_404001; clear HO_413000; clear HO_413001; clear HO432; clear HO435; clear HO439; clear HO442; clear BK378; clear BK395; clear BK403; clear BK412; clear BK445; clear HB; have HO_396000 := n0_; have HO_396001 := n1_; have HO_404000 := n2_; have HO_404001 := n3_; have HO_413000 := n4_; have HO_413001 := n5_; have HO432 := n6_; have HO435 := n7_; have HO439 := n8_; have HO442 := n9_; have BK378 := n10_; have BK395 := n11_; have BK403 := n12_; have BK412 := n13_; have BK445 := n14_; have HB := n15_; clear n0_ n1_ n2_ n3_ n4_ n5_ n6_ n7_ n8_ n9_ n10_ n11_ n12_ n13_ n14_ n15_; (try clear hb); (try clear hb2); (try clear hk); (try clear hi)))
             go_meet
             case rel => exact ⟨_, (true), (by first | rfl | (simp; done) | (simp [*]; done)), H', ⟨by have := HJ10.out; have := HJ63.out; first | omega | exact Nat.le_refl _⟩, ⟨by (try simp only [hl404000_63]); (try simp only [hl404001_63]); (with_reducible repeat (first | apply Kd.R_alloc | apply Kd.R_drewN | apply Kd.R_drew)); exact Kd.R_mono HO_396000.out (fun _ hk => ⟨hk.1.1.1.1.1, ⟨hk.1.1.1.1.2.1, ⟨hk.1.1.1.1.2.2.1, ⟨hk.1.1.1.1.2.2.2.1, ⟨hk.1.1.1.1.2.2.2.2, ⟨hk.1.2, hk.2⟩⟩⟩⟩⟩⟩)⟩, ⟨by (try simp only [hl404000_63]); (try simp only [hl404001_63]); (with_reducible repeat (first | apply Kd.R_alloc | apply Kd.R_drewN | apply Kd.R_drew)); exact Kd.R_mono HO_396001.out (fun _ hk => ⟨hk.1.1.1.1.1, ⟨hk.1.1.1.1.2.1, ⟨hk.1.1.1.1.2.2.1, ⟨hk.1.1.1.1.2.2.2.1, ⟨hk.1.1.1.1.2.2.2.2, ⟨hk.1.2, hk.2⟩⟩⟩⟩⟩⟩)⟩, ⟨by (try simp only [hl404000_63]); (try simp only [hl404001_63]); (with_reducible repeat (first | apply Kd.R_alloc | apply Kd.R_drewN | apply Kd.R_drew)); exact Kd.R_mono HO_404000.out (fun _ hk => ⟨hk.1.1.1.1.1, ⟨hk.1.1.1.1.2.1, ⟨hk.1.1.1.1.2.2.1, ⟨hk.1.1.1.1.2.2.2.1, ⟨hk.1.1.1.1.2.2.2.2, ⟨hk.1.2, hk.2⟩⟩⟩⟩⟩⟩)⟩, ⟨by (try simp only [hl404000_63]); (try simp only [hl404001_63]); (with_reducible repeat (first | apply Kd.R_alloc | apply Kd.R_drewN | apply Kd.R_drew)); exact Kd.R_mono HO_404001.out (fun _ hk => ⟨hk.1.1.1.1.1, ⟨hk.1.1.1.1.2.1, ⟨hk.1.1.1.1.2.2.1, ⟨hk.1.1.1.1.2.2.2.1, ⟨hk.1.1.1.1.2.2.2.2, ⟨hk.1.2, hk.2⟩⟩⟩⟩⟩⟩)⟩, ⟨by (try simp only [hl404000_63]); (try simp only [hl404001_63]); (with_reducible repeat (first | apply Kd.R_alloc | apply Kd.R_drewN | apply Kd.R_drew)); exact Kd.R_mono HO_413000.out (fun _ hk => ⟨hk.1.1.1.1.1, ⟨hk.1.1.1.1.2.1, ⟨hk.1.1.1.1.2.2.1, ⟨hk.1.1.1.1.2.2.2.1, ⟨hk.1.1.1.1.2.2.2.2, ⟨hk.1.2, hk.2⟩⟩⟩⟩⟩⟩)⟩, ⟨by (try simp only [hl404000_63]); (try simp only [hl404001_63]); (with_reducible repeat (first | apply Kd.R_alloc | apply Kd.R_drewN | apply Kd.R_drew)); exact Kd.R_mono HO_413001.out (fun _ hk => ⟨hk.1.1.1.1.1, ⟨hk.1.1.1.1.2.1, ⟨hk.1.1.1.1.2.2.1, ⟨hk.1.1.1.1.2.2.2.1, ⟨hk.1.1.1.1.2.2.2.2, ⟨hk.1.2, hk.2⟩⟩⟩⟩⟩⟩)⟩, ⟨by (try simp only [hl404000_63]); (try simp only [hl404001_63]); (with_reducible repeat (first | apply Kd.R_alloc | apply Kd.R_drewN | apply Kd.R_drew)); exact Kd.R_mono HO439.out (fun _ hk => ⟨hk.1.1.1.1.1.1.1.2, ⟨hk.1.1.1.1.1.1.2, ⟨hk.1.1.1.1.1.2, ⟨hk.1.1.1.1.2, ⟨hk.1.1.1.2, ⟨hk.1.1.2, hk.1.1.1.1.1.1.1.1⟩⟩⟩⟩⟩⟩)⟩, ⟨by (try simp only [hl404000_63]); (try simp only [hl404001_63]); (with_reducible repeat (first | apply Kd.R_alloc | apply Kd.R_drewN | apply Kd.R_drew)); exact Kd.R_mono HO442.out (fun _ hk => ⟨hk.1.1.1.1.1.1.1.2, ⟨hk.1.1.1.1.1.1.2, ⟨hk.1.1.1.1.1.2, ⟨hk.1.1.1.1.2, ⟨hk.1.1.1.2, ⟨hk.1.1.2, hk.1.1.1.1.1.1.1.1⟩⟩⟩⟩⟩⟩)⟩, ⟨by (try simp only [hl404000_63]); (try simp only [hl404001_63]); (with_reducible repeat (first | refine blk_drewN ?_ _ | refine blk_drew ?_ | refine blk_alloc ?_ _)); exact BK378.out⟩, ⟨by (try simp only [hl404000_63]); (try simp only [hl404001_63]); (with_reducible repeat (first | refine blk_drewN ?_ _ | refine blk_drew ?_ | refine blk_alloc ?_ _)); exact BK395.out⟩, ⟨by (try simp only [hl404000_63]); (try simp only [hl404001_63]); (with_reducible repeat (first | refine blk_drewN ?_ _ | refine blk_drew ?_ | refine blk_alloc ?_ _)); exact BK403.out⟩, ⟨by (try simp only [hl404000_63]); (try simp only [hl404001_63]); (with_reducible repeat (first | refine blk_drewN ?_ _ | refine blk_drew ?_ | refine blk_alloc ?_ _)); exact BK412.out⟩, ⟨by (try simp only [hl404000_63]); (try simp only [hl404001_63]); (with_reducible repeat (first | refine blk_drewN ?_ _ | refine blk_drew ?_ | refine blk_alloc ?_ _)); exact BK445.out⟩, ⟨KB⟩⟩
           case rest =>
            clear HC101
            try clear c1
            try clear c2
            try clear p2
            try clear c3
            try clear c3b0
            try clear c4
            try clear c5
            try clear c6
            try clear c7
            try clear c8
            try clear c9
            try clear c10
            try clear c11
            try clear c12
            try clear c13
            try clear c14
            try clear c15
            try clear c17
            try clear c19
            try clear c22
            try clear c26
            try clear c29
            try clear c30
            try clear c33
            try clear c36
            try clear c37
            try clear c38
            try clear c42
            try clear c43
            try clear c44
            try clear c45
            try clear c47
            try clear c48
            try clear c51
            try clear c52
            try clear c53
            try clear c55
            try clear c56
            try clear c59
            try clear c62
            try clear c70
            try clear c71
            try clear c72
            try clear c75
            try clear c75b0
            try clear c77
            try clear c78
            try clear c79
            try clear c80
            try clear c82
            try clear c83
            try clear c86
            try clear c87
            try clear c88
            try clear c90
            try clear c91
            try clear c94
            try clear c97
            try clear c97b0
            try clear c98
            try clear c98b0
            try clear c98b1
            try clear c102
            try clear c103
            try clear c104
            try clear c109
            try clear c110
            try clear c118
            try clear c119
            try clear c120
            try clear c121
            try clear c125
            try clear c126
            try clear c127
            try clear c128
            try clear c129
            try clear c131
            try clear c132
            try clear c133
            try clear c136
            try clear c137
            try clear c138
            try clear c139
            try clear c141
            try clear c142
            try clear c143
            try clear hcz105_0
            try clear hcz105_1
            try clear hcz105_2
            try clear hcz107_0
            try clear hcz107_1
            try clear hcz107_2
            try clear hcz111_0
            try clear hcz111_1
            try clear hcz111_2
            try clear hcz122_0
            try clear hcz122_1
            try clear hcz122_2
            try clear hcz130_0
            try clear hcz130_1
            try clear hcz130_2
            try clear hcz134_0
            try clear hcz134_1
            try clear hcz134_2
            try clear hcz13_0
            try clear hcz13_1
            try clear hcz13_2
            try clear hcz140_0
            try clear hcz140_1
            try clear hcz140_2
            try clear hcz144_0
            try clear hcz144_1
            try clear hcz144_2
            try clear hcz15_0
            try clear hcz15_1
            try clear hcz15_2
            try clear hcz23_0
            try clear hcz23_1
            try clear hcz23_2
            try clear hcz25_0
            try clear hcz25_1
            try clear hcz25_2
            try clear hcz31_0
            try clear hcz31_1
            try clear hcz31_2
            try clear hcz39_0
            try clear hcz39_1
            try clear hcz39_2
            try clear hcz46_0
            try clear hcz46_1
            try clear hcz46_2
            try clear hcz49_0
            try clear hcz49_1
            try clear hcz49_2
            try clear hcz54_0
            try clear hcz54_1
            try clear hcz54_2
            try clear hcz57_0
            try clear hcz57_1
            try clear hcz57_2
            try clear hcz5_0
            try clear hcz5_1
            try clear hcz5_2
            try clear hcz73_0
            try clear hcz73_1
            try clear hcz73_2
            try clear hcz81_0
            try clear hcz81_1
            try clear hcz81_2
            try clear hcz84_0
            try clear hcz84_1
            try clear hcz84_2
            try clear hcz89_0
            try clear hcz89_1
            try clear hcz89_2
            try clear hcz92_0
            try clear hcz92_1
            try clear hcz92_2
            try clear hfz105_0
            try clear hfz105_1
            try clear hfz105_2
            try clear hfz107_0
            try clear hfz107_1
            try clear hfz107_2
            try clear hfz111_0
            try clear hfz111_1
            try clear hfz111_2
            try clear hfz122_0
            try clear hfz122_1
            try clear hfz122_2
            try clear hfz130_0
            try clear hfz130_1
            try clear hfz130_2
            try clear hfz134_0
            try clear hfz134_1
            try clear hfz134_2
            try clear hfz13_0
            try clear hfz13_1
            try clear hfz13_2
            try clear hfz140_0
            try clear hfz140_1
            try clear hfz140_2
            try clear hfz144_0
            try clear hfz144_1
            try clear hfz144_2
            try clear hfz15_0
            try clear hfz15_1
            try clear hfz15_2
            try clear hfz23_0
            try clear hfz23_1
            try clear hfz23_2
            try clear hfz25_0
            try clear hfz25_1
            try clear hfz25_2
            try clear hfz31_0
            try clear hfz31_1
            try clear hfz31_2
            try clear hfz39_0
            try clear hfz39_1
            try clear hfz39_2
            try clear hfz46_0
            try clear hfz46_1
            try clear hfz46_2
            try clear hfz49_0
            try clear hfz49_1
            try clear hfz49_2
            try clear hfz54_0
            try clear hfz54_1
            try clear hfz54_2
            try clear hfz57_0
            try clear hfz57_1
            try clear hfz57_2
            try clear hfz5_0
            try clear hfz5_1
            try clear hfz5_2
            try clear hfz73_0
            try clear hfz73_1
            try clear hfz73_2
            try clear hfz81_0
            try clear hfz81_1
            try clear hfz81_2
            try clear hfz84_0
            try clear hfz84_1
            try clear hfz84_2
            try clear hfz89_0
            try clear hfz89_1
            try clear hfz89_2
            try clear hfz92_0
            try clear hfz92_1
            try clear hfz92_2
            try clear p2
            obtain ⟨kq, x87_100, rfl, HA, HJ100, HO_396000, HO_396001, HO_404000, HO_404001, HO_413000, HO_413001, HO_446000, HO_446001, BK378, BK395, BK403, BK412, BK445, HB⟩ := hcut
            have hl413000_100 := (Kd.R_reads' HO_413000.out).1
            rw [hl413000_100] at HO_413000
            (try simp only [hl413000_100])
            (try simp only [hl413000_100] at BK378)
            (try simp only [hl413000_100] at BK395)
            (try simp only [hl413000_100] at BK403)
            (try simp only [hl413000_100] at BK412)
            (try simp only [hl413000_100] at BK445)
            (try simp only [hl413000_100] at HO_396000)
            (try simp only [hl413000_100] at HO_396001)
            (try simp only [hl413000_100] at HO_404000)
            (try simp only [hl413000_100] at HO_404001)
            (try simp only [hl413000_100] at HO_413001)
            (try simp only [hl413000_100] at HO_446000)
            (try simp only [hl413000_100] at HO_446001)
            have hl413001_100 := (Kd.R_reads' HO_413001.out).1
            rw [hl413001_100] at HO_413001
            (try simp only [hl413001_100])
            (try simp only [hl413001_100] at BK378)
            (try simp only [hl413001_100] at BK395)
            (try simp only [hl413001_100] at BK403)
            (try simp only [hl413001_100] at BK412)
            (try simp only [hl413001_100] at BK445)
            (try simp only [hl413001_100] at HO_396000)
            (try simp only [hl413001_100] at HO_396001)
            (try simp only [hl413001_100] at HO_404000)
            (try simp only [hl413001_100] at HO_404001)
            (try simp only [hl413001_100] at HO_413000)
            (try simp only [hl413001_100] at HO_446000)
            (try simp only [hl413001_100] at HO_446001)
            cases kq with
            | zero => exact absurd HA.out (by simp [laws_FnExactStoreSync.j2])
            | succ kj100 =>
             have H := HA.out
             clear HA
             simp only [laws_FnExactStoreSync.j2] at H
             by_cases c146 : x87_100 = true
             ·subst c146
              have H1 : (none) = some r := by rw [if_pos rfl] at H; exact H
              clear H
              have H := H1
              clear H1
              exact absurd H (by simp)
             ·replace c146 := Bool.eq_false_iff.mpr c146
              subst c146
              have H1 : ((laws_heldStore.f kj100 t427 t428 t410 1).bind fun t447 => (if t447 < 0 then (none) else (if t447 = t426 then (some true) else (none)))) = some r := by rw [if_neg (show ¬ (false = true) by decide)] at H; exact H
              clear H
              have H := H1
              clear H1
              replace H := Option.bind_eq_some_iff.mp H
              obtain ⟨t447, A1470, H⟩ := H
              replace H : (if t447 < 0 then (none) else (if t447 = t426 then (some true) else (none))) = some r := H
              have A147 := Aside0.mk A1470
              clear A1470
              by_cases c148 : t447 < 0
              ·rw [if_pos c148] at H
               exact absurd H (by simp)
              ·rw [if_neg c148] at H
               have c148b0 : decide (t447 < 0) = false := decide_eq_false c148
               clear c148
               by_cases c149 : t447 = t426
               ·rw [if_pos c149] at H
                have c149b0 : (t447 == t426) = true := beq_iff_eq.mpr c149
                have c149b1 : (t447 != t426) = false := bne_eq_false_iff_eq.mpr c149
                clear c149
                obtain rfl := Option.some.inj H
                have hnb150 := NB412_378.out
                have hnc150 := NB378_412.out
                have hnb151 := NB412_395.out
                have hnc151 := NB395_412.out
                have hnb152 := NB412_403.out
                have hnc152 := NB403_412.out
                have hnb153 := NB412_445.out
                have hnc153 := NB445_412.out
                have hcz154_0 : wc.cell? ⟨gb412, 0, none⟩ = some (.slice Ao35 t427.length co35) := (blk_cell BK412.out 0).trans rfl
                have hcz154_1 : wc.cell? ⟨gb412, 1, none⟩ = some (.slice Ao40 t428.length co40) := (blk_cell BK412.out 1).trans rfl
                have hcz154_2 : wc.cell? ⟨gb412, 2, none⟩ = some (.int .i64 t410) := (blk_cell BK412.out 2).trans rfl
                have hfz154_0 := blk_frozen BK412.out 0
                have hfz154_1 := blk_frozen BK412.out 1
                have hfz154_2 := blk_frozen BK412.out 2
                go_wp2_with (first | ((with_reducible refine gate_callee (f := 33) rfl ?_); refine goesL_ (some 90) rfl rfl Try.func33 (by kernel_rfl) rfl #[.agg #[.slice Ao35 t427.length co35, .slice Ao40 t428.length co40, .int .i64 t410], .int .i64 1] rfl KL ?_; (with_reducible refine (laws_heldStore.calls kj100 _ _ t427 _ _ t428 t410 1 t447 _ ?side1 ?side2 ?side3 ?side4 A147.out).mono ?_); (case side1 => repeat (first | exact (Kd.R_reads' HO_413000.out).2.2 | (with_reducible refine Kd.C_alloc ?_ _) | (with_reducible refine Kd.C_drewN ?_ _) | (with_reducible refine Kd.C_drew ?_))); (case side2 => exact (Kd.R_reads' HO_413000.out).2.1); (case side3 => repeat (first | exact (Kd.R_reads' HO_413001.out).2.2 | (with_reducible refine Kd.C_alloc ?_ _) | (with_reducible refine Kd.C_drewN ?_ _) | (with_reducible refine Kd.C_drew ?_))); (case side4 => exact (Kd.R_reads' HO_413001.out).2.1); rintro e w155 ⟨rfl, hb⟩; refine ⟨_, rfl, ?_⟩; have n0_ := Aside0.mk (Kd.R_below (KR HO_396000.out) hb); have n1_ := Aside0.mk (Kd.R_below (KR HO_396001.out) hb); have n2_ := Aside0.mk (Kd.R_below (KR HO_404000.out) hb); have n3_ := Aside0.mk (Kd.R_below (KR HO_404001.out) hb); have n4_ := Aside0.mk (Kd.R_below (KR HO_413000.out) hb); have n5_ := Aside0.mk (Kd.R_below (KR HO_413001.out) hb); have n6_ := Aside0.mk (Kd.R_below (KR HO_446000.out) hb); have n7_ := Aside0.mk (Kd.R_below (KR HO_446001.out) hb); have n8_ := Aside0.mk (blk_below (g := gb378) (o := .cells #[.slice A0_0 l0_0.length c0_0, .slice A0_1 l0_1.length c0_1, .int .i64 a0_2] 24 (0, 0)) KK hb); have n9_ := Aside0.mk (blk_below (g := gb395) (o := .cells #[.slice Ao21 t387.length co21, .slice Ao24 t390.length co24, .int .i64 t393] 29 (0, 0)) KK hb); have n10_ := Aside0.mk (blk_below (g := gb403) (o := .cells #[.slice Ao28 t423.length co28, .slice Ao32 t424.length co32, .int .i64 t402] 29 (0, 0)) KK hb); have n11_ := Aside0.mk (blk_below (g := gb412) (o := .cells #[.slice Ao35 t427.length co35, .slice Ao40 t428.length co40, .int .i64 t410] 29 (0, 0)) KK hb); have n12_ := Aside0.mk (blk_below (g := gb445) (o := .cells #[.slice Ao117 t437.length co117, .slice Ao123 t440.length co123, .int .i64 t443] 29 (0, 0)) KK hb); have n13_ := Aside0.mk (below_step KB hb); clear HO_396000; clear HO_396001; clear HO_404000; clear HO_404001; clear HO_413000; clear HO_413001; clear HO_446000; clear HO_446001; clear BK378; clear BK395; clear BK403; clear BK412; clear BK445; clear HB; have HO_396000 := n0_; have HO_396001 := n1_; have HO_404000 := n2_; have HO_404001 := n3_; have HO_413000 := n4_; have HO_413001 := n5_; have HO_446000 := n6_; have HO_446001 := n7_; have BK378 := n8_; have BK395 := n9_; have BK403 := n10_; have BK412 := n11_; have BK445 := n12_; have HB := n13_; clear n0_ n1_ n2_ n3_ n4_ n5_ n6_ n7_ n8_ n9_ n10_ n11_ n12_ n13_; (try clear hb); (try clear hb2); (try clear hk); (try clear hi)))
                go_ret
                exact ⟨KE, KB⟩
               ·rw [if_neg c149] at H
                exact absurd H (by simp)
          ·rw [if_neg c98] at H
           exact absurd H (by simp)
     ·replace c62 := Bool.eq_false_iff.mpr c62
      subst c62
      have H1 : (none) = some r := by rw [if_neg (show ¬ (false = true) by decide)] at H; exact H
      clear H
      have H := H1
      clear H1
      exact absurd H (by simp)

end Go.Proofs.Ythdpknoeackpfaa.PFnExactStoreSync
