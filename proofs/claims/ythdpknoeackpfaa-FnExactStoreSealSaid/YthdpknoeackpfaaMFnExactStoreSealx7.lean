-- What each Go function that this law reaches comes to: written by a program out of the translation.
import Derived.Test.YthdpknoeackpfaaMFnExactStoreSealx0
import Derived.Test.YthdpknoeackpfaaMFnExactStoreSealx3
import Derived.Test.YthdpknoeackpfaaMFnExactStoreSealx4
import Derived.Test.YthdpknoeackpfaaMFnExactStoreSealx6
namespace Go.Proofs.Ythdpknoeackpfaa.PFnExactStoreSeal
open Go.RowKit Go.Proofs.YthdpknoeackpfaaW.PrintWords Go.Proofs.YthdpknoeackpfaaW.PrintLast Go.Proofs.YthdpknoeackpfaaW.PrintMore
attribute [local go_sem] max2_int min2_int max_two min_two max_three min_three max_four min_four   -- for this text's walks alone
set_option linter.unusedVariables false
set_option linter.unusedSimpArgs false

/-! ### spec_StoreSeal: function 45 -/
def spec_StoreSeal.j0 : Nat → Int → Bool → List (S34) → List (S34) → Int → List (S34) → List (S34) → Int → Option ((List (S34)) × (List (S34)) × Int × Bool)
 | 0, _, _, _, _, _, _, _, _ => none
 | k + 1, x1, x23, x263000, x263001, x263002, x274000, x274001, x274002 => if x23 = true then ((spec_l6Copy.f x263000 x263001 x263002).bind fun bt275 => (some (bt275.1, bt275.2.1, bt275.2.2, false))) else ((spec_l1Max.f x274002 x1).bind fun t282 => (some (x274000, x274001, t282, true)))
def spec_StoreSeal.f (k : Nat) (l0_0 : List (S34)) (l0_1 : List (S34)) (a0_2 : Int) (a1 : Int) : Option ((List (S34)) × (List (S34)) × Int × Bool) := (spec_StoreOk.f k l0_0 l0_1 a0_2).bind fun t264 => (if t264 = true then ((spec_StoreSync.f k l0_0 l0_1 a0_2).bind fun bt265 => (if bt265.2.2.2 = true then ((spec_l1In.f a1 0 30).bind fun t274 => (spec_StoreSeal.j0 k a1 (!t274) l0_0 l0_1 a0_2 bt265.1 bt265.2.1 bt265.2.2.1)) else (spec_StoreSeal.j0 k a1 true l0_0 l0_1 a0_2 bt265.1 bt265.2.1 bt265.2.2.1))) else (some (([] : List (S34)), ([] : List (S34)), 0, false)))
theorem spec_StoreSeal.mono_l : ∀ k, (∀ y0 y1 y2 y3 y4 y5 y6 y7, LeO (spec_StoreSeal.j0 k y0 y1 y2 y3 y4 y5 y6 y7) (spec_StoreSeal.j0 (k + 1) y0 y1 y2 y3 y4 y5 y6 y7))
 | 0 => fun _ _ _ _ _ _ _ _ r h => by simp [spec_StoreSeal.j0] at h
 | k + 1 => by
  have ih0 := spec_StoreSeal.mono_l k
  ·intro y0 y1 y2 y3 y4 y5 y6 y7
   unfold spec_StoreSeal.j0
   repeat' first
   | (with_reducible exact ih0 _ _ _ _ _ _ _ _)
   | (with_reducible exact spec_StoreOk.mono _ _ _ _)
   | (with_reducible exact spec_StoreSync.mono _ _ _ _)
   | (with_reducible exact LeO.refl _)
   | (with_reducible exact LeO.none _)
   | (with_reducible refine LeO.ite ?_ ?_)
   | (with_reducible refine LeO.bind ?_ (fun _ => ?_))
   | exact ih0 _ _ _ _ _ _ _ _
   | exact spec_StoreOk.mono _ _ _ _
   | exact spec_StoreSync.mono _ _ _ _
   | exact LeO.none _
   | refine LeO.ite ?_ ?_
   | refine LeO.bind ?_ (fun _ => ?_)
theorem spec_StoreSeal.mono : ∀ a0 a1 a2 a3 k, LeO (spec_StoreSeal.f k a0 a1 a2 a3) (spec_StoreSeal.f (k + 1) a0 a1 a2 a3) := by
 intro a0 a1 a2 a3 k
 have ih0 := spec_StoreSeal.mono_l k
 unfold spec_StoreSeal.f
 repeat' first
   | (with_reducible exact ih0 _ _ _ _ _ _ _ _)
   | (with_reducible exact spec_StoreOk.mono _ _ _ _)
   | (with_reducible exact spec_StoreSync.mono _ _ _ _)
   | (with_reducible exact LeO.refl _)
   | (with_reducible exact LeO.none _)
   | (with_reducible refine LeO.ite ?_ ?_)
   | (with_reducible refine LeO.bind ?_ (fun _ => ?_))
   | exact ih0 _ _ _ _ _ _ _ _
   | exact spec_StoreOk.mono _ _ _ _
   | exact spec_StoreSync.mono _ _ _ _
   | exact LeO.none _
   | refine LeO.ite ?_ ?_
   | refine LeO.bind ?_ (fun _ => ?_)
set_option maxHeartbeats 8000000 in
set_option maxRecDepth 100000 in
theorem spec_StoreSeal.calls (k : Nat) (A0_0 : Option Addr) (c0_0 : Nat) (l0_0 : List (S34)) (A0_1 : Option Addr) (c0_1 : Nat) (l0_1 : List (S34)) (a0_2 : Int) (a1 : Int) (r1 : List (S34)) (r2 : List (S34)) (r3 : Int) (r4 : Bool) (w : World) (hr0_0 : Kd.C k34 w A0_0 l0_0.length l0_0) (hc0_0 : l0_0.length ≤ c0_0) (hr0_1 : Kd.C k34 w A0_1 l0_1.length l0_1) (hc0_1 : l0_1.length ≤ c0_1) (h : spec_StoreSeal.f k l0_0 l0_1 a0_2 a1 = some (r1, r2, r3, r4)) :
  Calls Try.prog 45 #[.agg #[.slice A0_0 l0_0.length c0_0, .slice A0_1 l0_1.length c0_1, .int .i64 a0_2], .int .i64 a1] w fun e w' => ∃ v0_ v1_ : Value, e = .returned (.tuple #[.agg #[v0_, v1_, .int .i64 r3], .bool r4]) ∧ Kd.R k34 34 w' w.heap.size (fun k_ => some k_ ≠ (v1_ : Value).ownBlock) v0_ r1 ∧ Kd.R k34 34 w' w.heap.size (fun k_ => some k_ ≠ (v0_ : Value).ownBlock) v1_ r2 ∧ Below w.heap.size w w' := by
 have hu29 := Try.underlying29
 have HR0_0 := Aside0.mk hr0_0
 have HC0_0 := Aside0.mk hc0_0
 clear hr0_0 hc0_0
 have HR0_1 := Aside0.mk hr0_1
 have HC0_1 := Aside0.mk hc0_1
 clear hr0_1 hc0_1
 have HB := Aside0.mk (Below.refl w.heap.size w)
 have H : ((spec_StoreOk.f k l0_0 l0_1 a0_2).bind fun t264 => (if t264 = true then ((spec_StoreSync.f k l0_0 l0_1 a0_2).bind fun bt265 => (if bt265.2.2.2 = true then ((spec_l1In.f a1 0 30).bind fun t274 => (spec_StoreSeal.j0 k a1 (!t274) l0_0 l0_1 a0_2 bt265.1 bt265.2.1 bt265.2.2.1)) else (spec_StoreSeal.j0 k a1 true l0_0 l0_1 a0_2 bt265.1 bt265.2.1 bt265.2.2.1))) else (some (([] : List (S34)), ([] : List (S34)), 0, false)))) = some (r1, r2, r3, r4) := h
 clear h
 replace H := Option.bind_eq_some_iff.mp H
 obtain ⟨t264, A30, H⟩ := H
 replace H : (if t264 = true then ((spec_StoreSync.f k l0_0 l0_1 a0_2).bind fun bt265 => (if bt265.2.2.2 = true then ((spec_l1In.f a1 0 30).bind fun t274 => (spec_StoreSeal.j0 k a1 (!t274) l0_0 l0_1 a0_2 bt265.1 bt265.2.1 bt265.2.2.1)) else (spec_StoreSeal.j0 k a1 true l0_0 l0_1 a0_2 bt265.1 bt265.2.1 bt265.2.2.1))) else (some (([] : List (S34)), ([] : List (S34)), 0, false))) = some (r1, r2, r3, r4) := H
 have A3 := Aside0.mk A30
 clear A30
 by_cases c4 : t264 = true
 ·subst c4
  have H1 : ((spec_StoreSync.f k l0_0 l0_1 a0_2).bind fun bt265 => (if bt265.2.2.2 = true then ((spec_l1In.f a1 0 30).bind fun t274 => (spec_StoreSeal.j0 k a1 (!t274) l0_0 l0_1 a0_2 bt265.1 bt265.2.1 bt265.2.2.1)) else (spec_StoreSeal.j0 k a1 true l0_0 l0_1 a0_2 bt265.1 bt265.2.1 bt265.2.2.1))) = some (r1, r2, r3, r4) := by rw [if_pos rfl] at H; exact H
  clear H
  have H := H1
  clear H1
  replace H := Option.bind_eq_some_iff.mp H
  obtain ⟨⟨t265, t268, t271, t272⟩, A50, H⟩ := H
  replace H : (if t272 = true then ((spec_l1In.f a1 0 30).bind fun t274 => (spec_StoreSeal.j0 k a1 (!t274) l0_0 l0_1 a0_2 t265 t268 t271)) else (spec_StoreSeal.j0 k a1 true l0_0 l0_1 a0_2 t265 t268 t271)) = some (r1, r2, r3, r4) := H
  have A5 := Aside0.mk A50
  clear A50
  have HC6 := Aside0.mk H
  clear H
  go_enter Try.func45, Try.ntmps45
  go_upto_region 4 with (first | ((with_reducible refine gate_dst (N := 2) rfl ?_); refine box_event ?hg (N := 2) ?hd (cs := #[.slice A0_0 l0_0.length c0_0, .slice A0_1 l0_1.length c0_1, .int .i64 a0_2]) (t := 29) ?hr ?_; (case hd => rfl); (case hg => rfl); (case hr => first | (go_simp; done) | (go_simp; rfl)); intro gb262 hg w7 hbox hb; have n0_ := Aside0.mk (below_step KB hb); have n1_ := Aside0.mk (hbox); have n2_ := Aside0.mk ((KG hg : w.heap.size ≤ gb262)); have n3_ := Aside0.mk ((KG hg : w.heap.size ≤ gb262)); clear HB; have HB := n0_; have BK262 := n1_; have GW262 := n2_; have GE262 := n3_; clear n0_ n1_ n2_ n3_; clear hb hbox hg) | ((with_reducible refine gate_dst (N := 4) rfl ?_); refine box_event ?hg (N := 4) ?hd (cs := #[.slice none 0 0, .slice none 0 0, .int .i64 0]) (t := 29) ?hr ?_; (case hd => rfl); (case hg => rfl); (case hr => first | (go_simp; done) | (go_simp; rfl)); intro gb263 hg w8 hbox hb; have n0_ := Aside0.mk (blk_below (g := gb262) (o := .cells #[.slice A0_0 l0_0.length c0_0, .slice A0_1 l0_1.length c0_1, .int .i64 a0_2] 29 (0, 0)) KK hb); have n1_ := Aside0.mk (below_step KB hb); have n2_ := Aside0.mk (hbox); have n3_ := Aside0.mk ((KG hg : w.heap.size ≤ gb263)); have n4_ := Aside0.mk ((KG hg : w.heap.size ≤ gb263)); have n5_ := Aside0.mk ((by rw [hg]; exact Nat.ne_of_lt (blk_lt (g := gb262) (o := .cells #[.slice A0_0 l0_0.length c0_0, .slice A0_1 l0_1.length c0_1, .int .i64 a0_2] 29 (0, 0)) KK) : gb262 ≠ gb263)); have n6_ := Aside0.mk ((by rw [hg]; exact Nat.ne_of_gt (blk_lt (g := gb262) (o := .cells #[.slice A0_0 l0_0.length c0_0, .slice A0_1 l0_1.length c0_1, .int .i64 a0_2] 29 (0, 0)) KK) : gb263 ≠ gb262)); clear BK262; clear HB; have BK262 := n0_; have HB := n1_; have BK263 := n2_; have GW263 := n3_; have GE263 := n4_; have NB262_263 := n5_; have NB263_262 := n6_; clear n0_ n1_ n2_ n3_ n4_ n5_ n6_; clear hb hbox hg; have hnb9 := NB262_263.out; have hnc9 := NB263_262.out; have hcz10_0 : w8.cell? ⟨gb262, 0, none⟩ = some (.slice A0_0 l0_0.length c0_0) := (blk_cell BK262.out 0).trans rfl; have hcz10_1 : w8.cell? ⟨gb262, 1, none⟩ = some (.slice A0_1 l0_1.length c0_1) := (blk_cell BK262.out 1).trans rfl; have hcz10_2 : w8.cell? ⟨gb262, 2, none⟩ = some (.int .i64 a0_2) := (blk_cell BK262.out 2).trans rfl; have hfz10_0 := blk_frozen BK262.out 0; have hfz10_1 := blk_frozen BK262.out 1; have hfz10_2 := blk_frozen BK262.out 2) | ((with_reducible refine gate_callee (f := 16) rfl ?_); refine goesL_ (some 9) rfl rfl Try.func16 (by kernel_rfl) rfl #[.agg #[.slice A0_0 l0_0.length c0_0, .slice A0_1 l0_1.length c0_1, .int .i64 a0_2]] rfl KL ?_; (with_reducible refine (spec_StoreOk.calls k _ _ l0_0 _ _ l0_1 a0_2 true _ ?side1 ?side2 ?side3 ?side4 A3.out).mono ?_); (case side1 => exact KD (Kd.C_below HR0_0.out HB.out)); (case side2 => exact HC0_0.out); (case side3 => exact KD (Kd.C_below HR0_1.out HB.out)); (case side4 => exact HC0_1.out); rintro e w11 ⟨rfl, hb⟩; refine ⟨_, rfl, ?_⟩; have n0_ := Aside0.mk (blk_below (g := gb262) (o := .cells #[.slice A0_0 l0_0.length c0_0, .slice A0_1 l0_1.length c0_1, .int .i64 a0_2] 29 (0, 0)) KK hb); have n1_ := Aside0.mk (blk_below (g := gb263) (o := .cells #[.slice none 0 0, .slice none 0 0, .int .i64 0] 29 (0, 0)) KK hb); have n2_ := Aside0.mk (below_step KB hb); clear BK262; clear BK263; clear HB; have BK262 := n0_; have BK263 := n1_; have HB := n2_; clear n0_ n1_ n2_; (try clear hb); (try clear hb2); (try clear hk); (try clear hi); have hcz12_0 : w11.cell? ⟨gb262, 0, none⟩ = some (.slice A0_0 l0_0.length c0_0) := (blk_cell BK262.out 0).trans rfl; have hcz12_1 : w11.cell? ⟨gb262, 1, none⟩ = some (.slice A0_1 l0_1.length c0_1) := (blk_cell BK262.out 1).trans rfl; have hcz12_2 : w11.cell? ⟨gb262, 2, none⟩ = some (.int .i64 a0_2) := (blk_cell BK262.out 2).trans rfl; have hfz12_0 := blk_frozen BK262.out 0; have hfz12_1 := blk_frozen BK262.out 1; have hfz12_2 := blk_frozen BK262.out 2) | ((with_reducible refine gate_callee (f := 43) rfl ?_); refine goesL_ (some 14) rfl rfl Try.func43 (by kernel_rfl) rfl #[.agg #[.slice A0_0 l0_0.length c0_0, .slice A0_1 l0_1.length c0_1, .int .i64 a0_2]] rfl KL ?_; (with_reducible refine (spec_StoreSync.calls k _ _ l0_0 _ _ l0_1 a0_2 t265 t268 t271 t272 _ ?side1 ?side2 ?side3 ?side4 A5.out).mono ?_); (case side1 => exact KD (Kd.C_below HR0_0.out HB.out)); (case side2 => exact HC0_0.out); (case side3 => exact KD (Kd.C_below HR0_1.out HB.out)); (case side4 => exact HC0_1.out); rintro e w13 ⟨v266, v269, rfl, ho0, ho1, hb⟩; refine ⟨_, rfl, ?_⟩; have n0_ := Aside0.mk (Kd.R_lower ho0 (below_size KB)); have n1_ := Aside0.mk (Kd.R_lower ho1 (below_size KB)); have n2_ := Aside0.mk (blk_below (g := gb262) (o := .cells #[.slice A0_0 l0_0.length c0_0, .slice A0_1 l0_1.length c0_1, .int .i64 a0_2] 29 (0, 0)) KK hb); have n3_ := Aside0.mk (blk_below (g := gb263) (o := .cells #[.slice none 0 0, .slice none 0 0, .int .i64 0] 29 (0, 0)) KK hb); have n4_ := Aside0.mk (below_step KB hb); clear BK262; clear BK263; clear HB; have HO267 := n0_; have HO270 := n1_; have BK262 := n2_; have BK263 := n3_; have HB := n4_; clear n0_ n1_ n2_ n3_ n4_; (try clear hb); (try clear hb2); (try clear hk); (try clear hi); (try clear ho0); (try clear ho1)) | ((with_reducible refine gate_dst (N := 6) rfl ?_); refine box_event ?hg (N := 6) ?hd (cs := #[.slice none 0 0, .slice none 0 0, .int .i64 0]) (t := 29) ?hr ?_; (case hd => rfl); (case hg => rfl); (case hr => first | (go_simp; done) | (go_simp; rfl)); intro gb273 hg w14 hbox hb; have n0_ := Aside0.mk (Kd.R_below (KR HO267.out) hb); have n1_ := Aside0.mk (Kd.R_below (KR HO270.out) hb); have n2_ := Aside0.mk (blk_below (g := gb262) (o := .cells #[.slice A0_0 l0_0.length c0_0, .slice A0_1 l0_1.length c0_1, .int .i64 a0_2] 29 (0, 0)) KK hb); have n3_ := Aside0.mk (blk_below (g := gb263) (o := .cells #[.slice none 0 0, .slice none 0 0, .int .i64 0] 29 (0, 0)) KK hb); have n4_ := Aside0.mk (below_step KB hb); have n5_ := Aside0.mk (hbox); have n6_ := Aside0.mk ((KG hg : w.heap.size ≤ gb273)); have n7_ := Aside0.mk ((KG hg : w.heap.size ≤ gb273)); have n8_ := Aside0.mk ((by rw [hg]; exact Nat.ne_of_lt (blk_lt (g := gb262) (o := .cells #[.slice A0_0 l0_0.length c0_0, .slice A0_1 l0_1.length c0_1, .int .i64 a0_2] 29 (0, 0)) KK) : gb262 ≠ gb273)); have n9_ := Aside0.mk ((by rw [hg]; exact Nat.ne_of_gt (blk_lt (g := gb262) (o := .cells #[.slice A0_0 l0_0.length c0_0, .slice A0_1 l0_1.length c0_1, .int .i64 a0_2] 29 (0, 0)) KK) : gb273 ≠ gb262)); have n10_ := Aside0.mk ((by rw [hg]; exact Nat.ne_of_lt (blk_lt (g := gb263) (o := .cells #[.slice none 0 0, .slice none 0 0, .int .i64 0] 29 (0, 0)) KK) : gb263 ≠ gb273)); have n11_ := Aside0.mk ((by rw [hg]; exact Nat.ne_of_gt (blk_lt (g := gb263) (o := .cells #[.slice none 0 0, .slice none 0 0, .int .i64 0] 29 (0, 0)) KK) : gb273 ≠ gb263)); clear HO267; clear HO270; clear BK262; clear BK263; clear HB; have HO267 := n0_; have HO270 := n1_; have BK262 := n2_; have BK263 := n3_; have HB := n4_; have BK273 := n5_; have GW273 := n6_; have GE273 := n7_; have NB262_273 := n8_; have NB273_262 := n9_; have NB263_273 := n10_; have NB273_263 := n11_; clear n0_ n1_ n2_ n3_ n4_ n5_ n6_ n7_ n8_ n9_ n10_ n11_; clear hb hbox hg; obtain ⟨Ao15, co15, eo15⟩ := Kd.R_slice HO267.out; subst eo15; have hnb16 := NB273_262.out; have hnc16 := NB262_273.out; have hnb17 := NB273_263.out; have hnc17 := NB263_273.out; have hcz18_0 : w14.cell? ⟨gb273, 0, none⟩ = some (.slice none 0 0) := (blk_cell BK273.out 0).trans rfl; have hcz18_1 : w14.cell? ⟨gb273, 1, none⟩ = some (.slice none 0 0) := (blk_cell BK273.out 1).trans rfl; have hcz18_2 : w14.cell? ⟨gb273, 2, none⟩ = some (.int .i64 0) := (blk_cell BK273.out 2).trans rfl; have hfz18_0 := blk_frozen BK273.out 0; have hfz18_1 := blk_frozen BK273.out 1; have hfz18_2 := blk_frozen BK273.out 2; obtain ⟨Ao19, co19, eo19⟩ := Kd.R_slice HO270.out; subst eo19))
  (try simp only [Act.put, List.setIfInBounds_toArray, List.set_cons_zero, List.set_cons_succ])
  go_cut [23] (fun v23 wc => ∃ (kq : Nat) (x23_5 : Bool), v23 = .bool x23_5 ∧ Aside0 (spec_StoreSeal.j0 kq a1 x23_5 l0_0 l0_1 a0_2 t265 t268 t271 = some (r1, r2, r3, r4)) ∧ Aside0 (kq ≤ k) ∧ Aside0 (Kd.R k34 34 wc w.heap.size (fun k_ => some k_ ≠ ((.slice Ao19 t268.length co19) : Value).ownBlock) (.slice Ao15 t265.length co15) t265) ∧ Aside0 (Kd.R k34 34 wc w.heap.size (fun k_ => some k_ ≠ ((.slice Ao15 t265.length co15) : Value).ownBlock) (.slice Ao19 t268.length co19) t268) ∧ Aside0 (wc.heap[gb262]? = some (.cells #[(.slice A0_0 l0_0.length c0_0), (.slice A0_1 l0_1.length c0_1), .int .i64 a0_2] 29 (0, 0))) ∧ Aside0 (wc.heap[gb263]? = some (.cells #[(.slice none 0 0), (.slice none 0 0), .int .i64 0] 29 (0, 0))) ∧ Aside0 (wc.heap[gb273]? = some (.cells #[(.slice Ao15 t265.length co15), (.slice Ao19 t268.length co19), .int .i64 t271] 29 (0, 0))) ∧ Aside0 (Below w.heap.size w wc))
  case first =>
   have H := HC6.out
   clear HC6
   by_cases c20 : t272 = true
   ·subst c20
    have H1 : ((spec_l1In.f a1 0 30).bind fun t274 => (spec_StoreSeal.j0 k a1 (!t274) l0_0 l0_1 a0_2 t265 t268 t271)) = some (r1, r2, r3, r4) := by rw [if_pos rfl] at H; exact H
    clear H
    have H := H1
    clear H1
    replace H := Option.bind_eq_some_iff.mp H
    obtain ⟨t274, A210, H⟩ := H
    replace H : (spec_StoreSeal.j0 k a1 (!t274) l0_0 l0_1 a0_2 t265 t268 t271) = some (r1, r2, r3, r4) := H
    have A21 := Aside0.mk A210
    clear A210
    have H' := Aside0.mk H
    clear H
    go_wp2_with (first | (go_at_call 64; (with_reducible refine (spec_l1In.calls a1 0 30 t274 _ A21.out).mono ?_); rintro e w' ⟨rfl, ⟨nd, rfl⟩⟩))
    go_meet
    case rel => exact ⟨_, (!t274), (by first | rfl | (simp; done) | (simp [*]; done)), H', ⟨by first | omega | exact Nat.le_refl _⟩, ⟨by (with_reducible repeat (first | apply Kd.R_alloc | apply Kd.R_drewN | apply Kd.R_drew)); exact Kd.R_mono (Kd.R_far (p := ⟨gb273, 2, none⟩) (Kd.R_far (p := ⟨gb273, 1, none⟩) (Kd.R_far (p := ⟨gb273, 0, none⟩) (Kd.R_types HO267.out BK273.out (by decide)) (fun _ hk => hk.2) (.slice Ao15 t265.length co15)) (fun _ hk => hk.2) (.slice Ao19 t268.length co19)) (fun _ hk => hk.2) (.int .i64 t271)) (fun _ hk => hk.1)⟩, ⟨by (with_reducible repeat (first | apply Kd.R_alloc | apply Kd.R_drewN | apply Kd.R_drew)); exact Kd.R_mono (Kd.R_far (p := ⟨gb273, 2, none⟩) (Kd.R_far (p := ⟨gb273, 1, none⟩) (Kd.R_far (p := ⟨gb273, 0, none⟩) (Kd.R_types HO270.out BK273.out (by decide)) (fun _ hk => hk.2) (.slice Ao15 t265.length co15)) (fun _ hk => hk.2) (.slice Ao19 t268.length co19)) (fun _ hk => hk.2) (.int .i64 t271)) (fun _ hk => hk.1)⟩, ⟨KK⟩, ⟨KK⟩, ⟨by (with_reducible repeat (first | refine blk_drewN ?_ _ | refine blk_drew ?_ | refine blk_alloc ?_ _)); refine blk_put (cs := #[.slice Ao15 t265.length co15, .slice Ao19 t268.length co19, .int .i64 0]) ?_ 2 _ rfl; (with_reducible repeat (first | refine blk_drewN ?_ _ | refine blk_drew ?_ | refine blk_alloc ?_ _)); refine blk_put (cs := #[.slice Ao15 t265.length co15, .slice none 0 0, .int .i64 0]) ?_ 1 _ rfl; (with_reducible repeat (first | refine blk_drewN ?_ _ | refine blk_drew ?_ | refine blk_alloc ?_ _)); refine blk_put (cs := #[.slice none 0 0, .slice none 0 0, .int .i64 0]) ?_ 0 _ rfl; (with_reducible repeat (first | refine blk_drewN ?_ _ | refine blk_drew ?_ | refine blk_alloc ?_ _)); exact BK273.out⟩, ⟨KB⟩⟩
   ·replace c20 := Bool.eq_false_iff.mpr c20
    subst c20
    have H1 : (spec_StoreSeal.j0 k a1 true l0_0 l0_1 a0_2 t265 t268 t271) = some (r1, r2, r3, r4) := by rw [if_neg (show ¬ (false = true) by decide)] at H; exact H
    clear H
    have H := H1
    clear H1
    have H' := Aside0.mk H
    clear H
    go_wp2
    go_meet
    case rel => exact ⟨_, (true), (by first | rfl | (simp; done) | (simp [*]; done)), H', ⟨by first | omega | exact Nat.le_refl _⟩, ⟨by (with_reducible repeat (first | apply Kd.R_alloc | apply Kd.R_drewN | apply Kd.R_drew)); exact Kd.R_mono (Kd.R_far (p := ⟨gb273, 2, none⟩) (Kd.R_far (p := ⟨gb273, 1, none⟩) (Kd.R_far (p := ⟨gb273, 0, none⟩) (Kd.R_types HO267.out BK273.out (by decide)) (fun _ hk => hk.2) (.slice Ao15 t265.length co15)) (fun _ hk => hk.2) (.slice Ao19 t268.length co19)) (fun _ hk => hk.2) (.int .i64 t271)) (fun _ hk => hk.1)⟩, ⟨by (with_reducible repeat (first | apply Kd.R_alloc | apply Kd.R_drewN | apply Kd.R_drew)); exact Kd.R_mono (Kd.R_far (p := ⟨gb273, 2, none⟩) (Kd.R_far (p := ⟨gb273, 1, none⟩) (Kd.R_far (p := ⟨gb273, 0, none⟩) (Kd.R_types HO270.out BK273.out (by decide)) (fun _ hk => hk.2) (.slice Ao15 t265.length co15)) (fun _ hk => hk.2) (.slice Ao19 t268.length co19)) (fun _ hk => hk.2) (.int .i64 t271)) (fun _ hk => hk.1)⟩, ⟨KK⟩, ⟨KK⟩, ⟨by (with_reducible repeat (first | refine blk_drewN ?_ _ | refine blk_drew ?_ | refine blk_alloc ?_ _)); refine blk_put (cs := #[.slice Ao15 t265.length co15, .slice Ao19 t268.length co19, .int .i64 0]) ?_ 2 _ rfl; (with_reducible repeat (first | refine blk_drewN ?_ _ | refine blk_drew ?_ | refine blk_alloc ?_ _)); refine blk_put (cs := #[.slice Ao15 t265.length co15, .slice none 0 0, .int .i64 0]) ?_ 1 _ rfl; (with_reducible repeat (first | refine blk_drewN ?_ _ | refine blk_drew ?_ | refine blk_alloc ?_ _)); refine blk_put (cs := #[.slice none 0 0, .slice none 0 0, .int .i64 0]) ?_ 0 _ rfl; (with_reducible repeat (first | refine blk_drewN ?_ _ | refine blk_drew ?_ | refine blk_alloc ?_ _)); exact BK273.out⟩, ⟨KB⟩⟩
  case rest =>
   clear HC6
   try clear c1
   try clear c2
   try clear p2
   try clear c4
   try clear c9
   try clear c16
   try clear c17
   try clear c20
   try clear hcz10_0
   try clear hcz10_1
   try clear hcz10_2
   try clear hcz12_0
   try clear hcz12_1
   try clear hcz12_2
   try clear hcz18_0
   try clear hcz18_1
   try clear hcz18_2
   try clear hfz10_0
   try clear hfz10_1
   try clear hfz10_2
   try clear hfz12_0
   try clear hfz12_1
   try clear hfz12_2
   try clear hfz18_0
   try clear hfz18_1
   try clear hfz18_2
   obtain ⟨kq, x23_5, rfl, HA, HJ5, HO_274000, HO_274001, BK262, BK263, BK273, HB⟩ := hcut
   cases kq with
   | zero => exact absurd HA.out (by simp [spec_StoreSeal.j0])
   | succ kj5 =>
    have H := HA.out
    clear HA
    simp only [spec_StoreSeal.j0] at H
    by_cases c22 : x23_5 = true
    ·subst c22
     have H1 : ((spec_l6Copy.f l0_0 l0_1 a0_2).bind fun bt275 => (some (bt275.1, bt275.2.1, bt275.2.2, false))) = some (r1, r2, r3, r4) := by rw [if_pos rfl] at H; exact H
     clear H
     have H := H1
     clear H1
     replace H := Option.bind_eq_some_iff.mp H
     obtain ⟨⟨t275, t278, t281⟩, A230, H⟩ := H
     replace H : (some (t275, t278, t281, false)) = some (r1, r2, r3, r4) := H
     have A23 := Aside0.mk A230
     clear A230
     simp only [Option.some.injEq, Prod.mk.injEq] at H
     obtain ⟨rfl, rfl, rfl, rfl⟩ := H
     have hnb24 := NB262_263.out
     have hnc24 := NB263_262.out
     have hnb25 := NB262_273.out
     have hnc25 := NB273_262.out
     have hcz26_0 : wc.cell? ⟨gb262, 0, none⟩ = some (.slice A0_0 l0_0.length c0_0) := (blk_cell BK262.out 0).trans rfl
     have hcz26_1 : wc.cell? ⟨gb262, 1, none⟩ = some (.slice A0_1 l0_1.length c0_1) := (blk_cell BK262.out 1).trans rfl
     have hcz26_2 : wc.cell? ⟨gb262, 2, none⟩ = some (.int .i64 a0_2) := (blk_cell BK262.out 2).trans rfl
     have hfz26_0 := blk_frozen BK262.out 0
     have hfz26_1 := blk_frozen BK262.out 1
     have hfz26_2 := blk_frozen BK262.out 2
     go_wp2_with (first | ((with_reducible refine gate_callee (f := 73) rfl ?_); refine goesL_ (some 25) rfl rfl Try.func73 (by kernel_rfl) rfl #[.agg #[.slice A0_0 l0_0.length c0_0, .slice A0_1 l0_1.length c0_1, .int .i64 a0_2]] rfl KL ?_; (with_reducible refine (spec_l6Copy.calls _ _ l0_0 _ _ l0_1 a0_2 t275 t278 t281 _ ?side1 ?side2 ?side3 ?side4 A23.out).mono ?_); (case side1 => exact KD (Kd.C_below HR0_0.out HB.out)); (case side2 => exact HC0_0.out); (case side3 => exact KD (Kd.C_below HR0_1.out HB.out)); (case side4 => exact HC0_1.out); rintro e w27 ⟨v276, v279, rfl, ho0, ho1, hb⟩; refine ⟨_, rfl, ?_⟩; have n0_ := Aside0.mk (Kd.R_mono (Kd.R_told (Kd.R_told (Kd.R_old (KR HO_274000.out) hb) (Kd.R_base ho0)) (Kd.R_base ho1)) (fun _ h_ => h_.1)); have n1_ := Aside0.mk (Kd.R_mono (Kd.R_told (Kd.R_told (Kd.R_old (KR HO_274001.out) hb) (Kd.R_base ho0)) (Kd.R_base ho1)) (fun _ h_ => h_.1)); have n2_ := Aside0.mk (Kd.R_lower (Kd.R_new' (Kd.R_new' ho0 (Kd.R_lt (KR HO_274000.out))) (Kd.R_lt (KR HO_274001.out))) (below_size KB)); have n3_ := Aside0.mk (Kd.R_lower (Kd.R_new' (Kd.R_new' ho1 (Kd.R_lt (KR HO_274000.out))) (Kd.R_lt (KR HO_274001.out))) (below_size KB)); have n4_ := Aside0.mk (blk_below (g := gb262) (o := .cells #[.slice A0_0 l0_0.length c0_0, .slice A0_1 l0_1.length c0_1, .int .i64 a0_2] 29 (0, 0)) KK hb); have n5_ := Aside0.mk (blk_below (g := gb263) (o := .cells #[.slice none 0 0, .slice none 0 0, .int .i64 0] 29 (0, 0)) KK hb); have n6_ := Aside0.mk (blk_below (g := gb273) (o := .cells #[.slice Ao15 t265.length co15, .slice Ao19 t268.length co19, .int .i64 t271] 29 (0, 0)) KK hb); have n7_ := Aside0.mk (below_step KB hb); clear HO_274000; clear HO_274001; clear BK262; clear BK263; clear BK273; clear HB; have HO_274000 := n0_; have HO_274001 := n1_; have HO277 := n2_; have HO280 := n3_; have BK262 := n4_; have BK263 := n5_; have BK273 := n6_; have HB := n7_; clear n0_ n1_ n2_ n3_ n4_ n5_ n6_ n7_; (try clear hb); (try clear hb2); (try clear hk); (try clear hi); (try clear ho0); (try clear ho1); obtain ⟨Ao28, co28, eo28⟩ := Kd.R_slice HO277.out; subst eo28; have hnb29 := NB263_273.out; have hnc29 := NB273_263.out; have hcz30_0 : w27.cell? ⟨gb263, 0, none⟩ = some (.slice none 0 0) := (blk_cell BK263.out 0).trans rfl; have hcz30_1 : w27.cell? ⟨gb263, 1, none⟩ = some (.slice none 0 0) := (blk_cell BK263.out 1).trans rfl; have hcz30_2 : w27.cell? ⟨gb263, 2, none⟩ = some (.int .i64 0) := (blk_cell BK263.out 2).trans rfl; have hfz30_0 := blk_frozen BK263.out 0; have hfz30_1 := blk_frozen BK263.out 1; have hfz30_2 := blk_frozen BK263.out 2; obtain ⟨Ao31, co31, eo31⟩ := Kd.R_slice HO280.out; subst eo31))
     refine bodyPost_ret (results_ct rfl _ _ gb263 29 #[.slice Ao28 t275.length co28, .slice Ao31 t278.length co31, .int .i64 t281] (0, 0) _ rfl (by (with_reducible repeat (first | refine blk_drewN ?_ _ | refine blk_drew ?_ | refine blk_alloc ?_ _)); refine blk_put (cs := #[.slice Ao28 t275.length co28, .slice Ao31 t278.length co31, .int .i64 0]) ?_ 2 _ rfl; (with_reducible repeat (first | refine blk_drewN ?_ _ | refine blk_drew ?_ | refine blk_alloc ?_ _)); refine blk_put (cs := #[.slice Ao28 t275.length co28, .slice none 0 0, .int .i64 0]) ?_ 1 _ rfl; (with_reducible repeat (first | refine blk_drewN ?_ _ | refine blk_drew ?_ | refine blk_alloc ?_ _)); refine blk_put (cs := #[.slice none 0 0, .slice none 0 0, .int .i64 0]) ?_ 0 _ rfl; (with_reducible repeat (first | refine blk_drewN ?_ _ | refine blk_drew ?_ | refine blk_alloc ?_ _)); exact BK263.out) Try.underlying29 rfl (by kernel_rfl)) rfl ?_
     exact ⟨_, _, KE, by (with_reducible repeat (first | apply Kd.R_alloc | apply Kd.R_drewN | apply Kd.R_drew)); exact Kd.R_mono (Kd.R_far (p := ⟨gb263, 2, none⟩) (Kd.R_far (p := ⟨gb263, 1, none⟩) (Kd.R_far (p := ⟨gb263, 0, none⟩) (Kd.R_types HO277.out BK263.out (by decide)) (fun _ hk => hk.2) (.slice Ao28 t275.length co28)) (fun _ hk => hk.2) (.slice Ao31 t278.length co31)) (fun _ hk => hk.2) (.int .i64 t281)) (fun _ hk => hk.1.1.1), by (with_reducible repeat (first | apply Kd.R_alloc | apply Kd.R_drewN | apply Kd.R_drew)); exact Kd.R_mono (Kd.R_far (p := ⟨gb263, 2, none⟩) (Kd.R_far (p := ⟨gb263, 1, none⟩) (Kd.R_far (p := ⟨gb263, 0, none⟩) (Kd.R_types HO280.out BK263.out (by decide)) (fun _ hk => hk.2) (.slice Ao28 t275.length co28)) (fun _ hk => hk.2) (.slice Ao31 t278.length co31)) (fun _ hk => hk.2) (.int .i64 t281)) (fun _ hk => hk.1.1.1), KB⟩
    ·replace c22 := Bool.eq_false_iff.mpr c22
     subst c22
     have H1 : ((spec_l1Max.f t271 a1).bind fun t282 => (some (t265, t268, t282, true))) = some (r1, r2, r3, r4) := by rw [if_neg (show ¬ (false = true) by decide)] at H; exact H
     clear H
     have H := H1
     clear H1
     replace H := Option.bind_eq_some_iff.mp H
     obtain ⟨t282, A320, H⟩ := H
     replace H : (some (t265, t268, t282, true)) = some (r1, r2, r3, r4) := H
     have A32 := Aside0.mk A320
     clear A320
     simp only [Option.some.injEq, Prod.mk.injEq] at H
     obtain ⟨rfl, rfl, rfl, rfl⟩ := H
     have hnb33 := NB273_262.out
     have hnc33 := NB262_273.out
     have hnb34 := NB273_263.out
     have hnc34 := NB263_273.out
     have hcz35_0 : wc.cell? ⟨gb273, 0, none⟩ = some (.slice Ao15 t265.length co15) := (blk_cell BK273.out 0).trans rfl
     have hcz35_1 : wc.cell? ⟨gb273, 1, none⟩ = some (.slice Ao19 t268.length co19) := (blk_cell BK273.out 1).trans rfl
     have hcz35_2 : wc.cell? ⟨gb273, 2, none⟩ = some (.int .i64 t271) := (blk_cell BK273.out 2).trans rfl
     have hfz35_0 := blk_frozen BK273.out 0
     have hfz35_1 := blk_frozen BK273.out 1
     have hfz35_2 := blk_frozen BK273.out 2
     go_wp2_with (first | ((with_reducible refine gate_callee (f := 89) rfl ?_); refine goesL_ (some 29) rfl rfl Try.func89 (by kernel_rfl) rfl #[.int .i64 t271, .int .i64 a1] rfl KL ?_; (with_reducible refine (spec_l1Max.calls t271 a1 t282 _ A32.out).mono ?_); rintro e w' ⟨rfl, ⟨nd, rfl⟩⟩; refine ⟨_, rfl, ?_⟩; (try (rw [drewN_self wc]; generalize hq_ : World.drewN wc _ = wc; have n0_ : Aside0 (Kd.R k34 34 wc w.heap.size (fun k_ => some k_ ≠ (.slice Ao19 t268.length co19 : Value).ownBlock) (.slice Ao15 t265.length co15) t265) := ⟨by rw [← hq_]; exact (KR HO_274000.out)⟩; have n1_ : Aside0 (Kd.R k34 34 wc w.heap.size (fun k_ => some k_ ≠ (.slice Ao15 t265.length co15 : Value).ownBlock) (.slice Ao19 t268.length co19) t268) := ⟨by rw [← hq_]; exact (KR HO_274001.out)⟩; have n2_ : Aside0 (wc.heap[gb262]? = some (.cells #[.slice A0_0 l0_0.length c0_0, .slice A0_1 l0_1.length c0_1, .int .i64 a0_2] 29 (0, 0))) := ⟨by rw [← hq_]; exact KK⟩; have n3_ : Aside0 (wc.heap[gb263]? = some (.cells #[.slice none 0 0, .slice none 0 0, .int .i64 0] 29 (0, 0))) := ⟨by rw [← hq_]; exact KK⟩; have n4_ : Aside0 (wc.heap[gb273]? = some (.cells #[.slice Ao15 t265.length co15, .slice Ao19 t268.length co19, .int .i64 t271] 29 (0, 0))) := ⟨by rw [← hq_]; exact KK⟩; have n5_ : Aside0 (Below w.heap.size w wc) := ⟨by rw [← hq_]; exact KB⟩; clear HO_274000 HO_274001 BK262 BK263 BK273 HB hq_; have HO_274000 := n0_; have HO_274001 := n1_; have BK262 := n2_; have BK263 := n3_; have BK273 := n4_; have HB := n5_; clear n0_ n1_ n2_ n3_ n4_ n5_)); (try (have hcy262_0 : wc.cell? ⟨gb262, 0, none⟩ = some (.slice A0_0 l0_0.length c0_0) := (blk_cell BK262.out 0).trans rfl)); (try (have hfy262_0 := blk_frozen BK262.out 0)); (try (have hcy262_1 : wc.cell? ⟨gb262, 1, none⟩ = some (.slice A0_1 l0_1.length c0_1) := (blk_cell BK262.out 1).trans rfl)); (try (have hfy262_1 := blk_frozen BK262.out 1)); (try (have hcy262_2 : wc.cell? ⟨gb262, 2, none⟩ = some (.int .i64 a0_2) := (blk_cell BK262.out 2).trans rfl)); (try (have hfy262_2 := blk_frozen BK262.out 2)); (try (have hny262_263 := NB262_263.out)); (try (have hnz263_262 := NB263_262.out)); (try (have hcy273_0 : wc.cell? ⟨gb273, 0, none⟩ = some (.slice Ao15 t265.length co15) := (blk_cell BK273.out 0).trans rfl)); (try (have hfy273_0 := blk_frozen BK273.out 0)); (try (have hcy273_1 : wc.cell? ⟨gb273, 1, none⟩ = some (.slice Ao19 t268.length co19) := (blk_cell BK273.out 1).trans rfl)); (try (have hfy273_1 := blk_frozen BK273.out 1)); (try (have hcy273_2 : wc.cell? ⟨gb273, 2, none⟩ = some (.int .i64 t271) := (blk_cell BK273.out 2).trans rfl)); (try (have hfy273_2 := blk_frozen BK273.out 2)); (try (have hny273_263 := NB273_263.out)); (try (have hnz263_273 := NB263_273.out)); have hnb36 := NB263_262.out; have hnc36 := NB262_263.out; have hcz37_0 : wc.cell? ⟨gb263, 0, none⟩ = some (.slice none 0 0) := (blk_cell BK263.out 0).trans rfl; have hcz37_1 : wc.cell? ⟨gb263, 1, none⟩ = some (.slice none 0 0) := (blk_cell BK263.out 1).trans rfl; have hcz37_2 : wc.cell? ⟨gb263, 2, none⟩ = some (.int .i64 0) := (blk_cell BK263.out 2).trans rfl; have hfz37_0 := blk_frozen BK263.out 0; have hfz37_1 := blk_frozen BK263.out 1; have hfz37_2 := blk_frozen BK263.out 2))
     refine bodyPost_ret (results_ct rfl _ _ gb263 29 #[.slice Ao15 t265.length co15, .slice Ao19 t268.length co19, .int .i64 t282] (0, 0) _ rfl (by (with_reducible repeat (first | refine blk_drewN ?_ _ | refine blk_drew ?_ | refine blk_alloc ?_ _)); refine blk_put (cs := #[.slice Ao15 t265.length co15, .slice Ao19 t268.length co19, .int .i64 0]) ?_ 2 _ rfl; (with_reducible repeat (first | refine blk_drewN ?_ _ | refine blk_drew ?_ | refine blk_alloc ?_ _)); refine blk_put (cs := #[.slice Ao15 t265.length co15, .slice none 0 0, .int .i64 0]) ?_ 1 _ rfl; (with_reducible repeat (first | refine blk_drewN ?_ _ | refine blk_drew ?_ | refine blk_alloc ?_ _)); refine blk_put (cs := #[.slice none 0 0, .slice none 0 0, .int .i64 0]) ?_ 0 _ rfl; (with_reducible repeat (first | refine blk_drewN ?_ _ | refine blk_drew ?_ | refine blk_alloc ?_ _)); refine blk_far ?_ NB263_273.out _; (with_reducible repeat (first | refine blk_drewN ?_ _ | refine blk_drew ?_ | refine blk_alloc ?_ _)); exact BK263.out) Try.underlying29 rfl (by kernel_rfl)) rfl ?_
     exact ⟨_, _, KE, by (with_reducible repeat (first | apply Kd.R_alloc | apply Kd.R_drewN | apply Kd.R_drew)); exact Kd.R_mono (Kd.R_far (p := ⟨gb263, 2, none⟩) (Kd.R_far (p := ⟨gb263, 1, none⟩) (Kd.R_far (p := ⟨gb263, 0, none⟩) (Kd.R_far (p := ⟨gb273, 2, none⟩) (Kd.R_types (Kd.R_types HO_274000.out BK273.out (by decide)) BK263.out (by decide)) (fun _ hk => hk.1.2) (.int .i64 t282)) (fun _ hk => hk.2) (.slice Ao15 t265.length co15)) (fun _ hk => hk.2) (.slice Ao19 t268.length co19)) (fun _ hk => hk.2) (.int .i64 t282)) (fun _ hk => hk.1.1), by (with_reducible repeat (first | apply Kd.R_alloc | apply Kd.R_drewN | apply Kd.R_drew)); exact Kd.R_mono (Kd.R_far (p := ⟨gb263, 2, none⟩) (Kd.R_far (p := ⟨gb263, 1, none⟩) (Kd.R_far (p := ⟨gb263, 0, none⟩) (Kd.R_far (p := ⟨gb273, 2, none⟩) (Kd.R_types (Kd.R_types HO_274001.out BK273.out (by decide)) BK263.out (by decide)) (fun _ hk => hk.1.2) (.int .i64 t282)) (fun _ hk => hk.2) (.slice Ao15 t265.length co15)) (fun _ hk => hk.2) (.slice Ao19 t268.length co19)) (fun _ hk => hk.2) (.int .i64 t282)) (fun _ hk => hk.1.1), KB⟩
 ·replace c4 := Bool.eq_false_iff.mpr c4
  subst c4
  have H1 : (some (([] : List (S34)), ([] : List (S34)), 0, false)) = some (r1, r2, r3, r4) := by rw [if_neg (show ¬ (false = true) by decide)] at H; exact H
  clear H
  have H := H1
  clear H1
  simp only [Option.some.injEq, Prod.mk.injEq] at H
  obtain ⟨rfl, rfl, rfl, rfl⟩ := H
  go_enter Try.func45, Try.ntmps45
  go_wp2_with (first | ((with_reducible refine gate_dst (N := 2) rfl ?_); refine box_event ?hg (N := 2) ?hd (cs := #[.slice A0_0 l0_0.length c0_0, .slice A0_1 l0_1.length c0_1, .int .i64 a0_2]) (t := 29) ?hr ?_; (case hd => rfl); (case hg => rfl); (case hr => first | (go_simp; done) | (go_simp; rfl)); intro gb262 hg w38 hbox hb; have n0_ := Aside0.mk (below_step KB hb); have n1_ := Aside0.mk (hbox); have n2_ := Aside0.mk ((KG hg : w.heap.size ≤ gb262)); have n3_ := Aside0.mk ((KG hg : w.heap.size ≤ gb262)); clear HB; have HB := n0_; have BK262 := n1_; have GW262 := n2_; have GE262 := n3_; clear n0_ n1_ n2_ n3_; clear hb hbox hg) | ((with_reducible refine gate_dst (N := 4) rfl ?_); refine box_event ?hg (N := 4) ?hd (cs := #[.slice none 0 0, .slice none 0 0, .int .i64 0]) (t := 29) ?hr ?_; (case hd => rfl); (case hg => rfl); (case hr => first | (go_simp; done) | (go_simp; rfl)); intro gb263 hg w39 hbox hb; have n0_ := Aside0.mk (blk_below (g := gb262) (o := .cells #[.slice A0_0 l0_0.length c0_0, .slice A0_1 l0_1.length c0_1, .int .i64 a0_2] 29 (0, 0)) KK hb); have n1_ := Aside0.mk (below_step KB hb); have n2_ := Aside0.mk (hbox); have n3_ := Aside0.mk ((KG hg : w.heap.size ≤ gb263)); have n4_ := Aside0.mk ((KG hg : w.heap.size ≤ gb263)); have n5_ := Aside0.mk ((by rw [hg]; exact Nat.ne_of_lt (blk_lt (g := gb262) (o := .cells #[.slice A0_0 l0_0.length c0_0, .slice A0_1 l0_1.length c0_1, .int .i64 a0_2] 29 (0, 0)) KK) : gb262 ≠ gb263)); have n6_ := Aside0.mk ((by rw [hg]; exact Nat.ne_of_gt (blk_lt (g := gb262) (o := .cells #[.slice A0_0 l0_0.length c0_0, .slice A0_1 l0_1.length c0_1, .int .i64 a0_2] 29 (0, 0)) KK) : gb263 ≠ gb262)); clear BK262; clear HB; have BK262 := n0_; have HB := n1_; have BK263 := n2_; have GW263 := n3_; have GE263 := n4_; have NB262_263 := n5_; have NB263_262 := n6_; clear n0_ n1_ n2_ n3_ n4_ n5_ n6_; clear hb hbox hg; have hnb40 := NB262_263.out; have hnc40 := NB263_262.out; have hcz41_0 : w39.cell? ⟨gb262, 0, none⟩ = some (.slice A0_0 l0_0.length c0_0) := (blk_cell BK262.out 0).trans rfl; have hcz41_1 : w39.cell? ⟨gb262, 1, none⟩ = some (.slice A0_1 l0_1.length c0_1) := (blk_cell BK262.out 1).trans rfl; have hcz41_2 : w39.cell? ⟨gb262, 2, none⟩ = some (.int .i64 a0_2) := (blk_cell BK262.out 2).trans rfl; have hfz41_0 := blk_frozen BK262.out 0; have hfz41_1 := blk_frozen BK262.out 1; have hfz41_2 := blk_frozen BK262.out 2) | ((with_reducible refine gate_callee (f := 16) rfl ?_); refine goesL_ (some 9) rfl rfl Try.func16 (by kernel_rfl) rfl #[.agg #[.slice A0_0 l0_0.length c0_0, .slice A0_1 l0_1.length c0_1, .int .i64 a0_2]] rfl KL ?_; (with_reducible refine (spec_StoreOk.calls k _ _ l0_0 _ _ l0_1 a0_2 false _ ?side1 ?side2 ?side3 ?side4 A3.out).mono ?_); (case side1 => exact KD (Kd.C_below HR0_0.out HB.out)); (case side2 => exact HC0_0.out); (case side3 => exact KD (Kd.C_below HR0_1.out HB.out)); (case side4 => exact HC0_1.out); rintro e w42 ⟨rfl, hb⟩; refine ⟨_, rfl, ?_⟩; have n0_ := Aside0.mk (blk_below (g := gb262) (o := .cells #[.slice A0_0 l0_0.length c0_0, .slice A0_1 l0_1.length c0_1, .int .i64 a0_2] 29 (0, 0)) KK hb); have n1_ := Aside0.mk (blk_below (g := gb263) (o := .cells #[.slice none 0 0, .slice none 0 0, .int .i64 0] 29 (0, 0)) KK hb); have n2_ := Aside0.mk (below_step KB hb); clear BK262; clear BK263; clear HB; have BK262 := n0_; have BK263 := n1_; have HB := n2_; clear n0_ n1_ n2_; (try clear hb); (try clear hb2); (try clear hk); (try clear hi); have hcz43_0 : w42.cell? ⟨gb263, 0, none⟩ = some (.slice none 0 0) := (blk_cell BK263.out 0).trans rfl; have hcz43_1 : w42.cell? ⟨gb263, 1, none⟩ = some (.slice none 0 0) := (blk_cell BK263.out 1).trans rfl; have hcz43_2 : w42.cell? ⟨gb263, 2, none⟩ = some (.int .i64 0) := (blk_cell BK263.out 2).trans rfl; have hfz43_0 := blk_frozen BK263.out 0; have hfz43_1 := blk_frozen BK263.out 1; have hfz43_2 := blk_frozen BK263.out 2))
  refine bodyPost_ret (results_ct rfl _ _ gb263 29 #[.slice none 0 0, .slice none 0 0, .int .i64 0] (0, 0) _ rfl (by (with_reducible repeat (first | refine blk_drewN ?_ _ | refine blk_drew ?_ | refine blk_alloc ?_ _)); refine blk_put (cs := #[.slice none 0 0, .slice none 0 0, .int .i64 0]) ?_ 2 _ rfl; (with_reducible repeat (first | refine blk_drewN ?_ _ | refine blk_drew ?_ | refine blk_alloc ?_ _)); refine blk_put (cs := #[.slice none 0 0, .slice none 0 0, .int .i64 0]) ?_ 1 _ rfl; (with_reducible repeat (first | refine blk_drewN ?_ _ | refine blk_drew ?_ | refine blk_alloc ?_ _)); refine blk_put (cs := #[.slice none 0 0, .slice none 0 0, .int .i64 0]) ?_ 0 _ rfl; (with_reducible repeat (first | refine blk_drewN ?_ _ | refine blk_drew ?_ | refine blk_alloc ?_ _)); exact BK263.out) Try.underlying29 rfl (by kernel_rfl)) rfl ?_
  exact ⟨_, _, KE, by first | exact Kd.R_nil _ _ _ _ _ | exact Kd.N_nil _ _ _ _ _ | exact Kd.V_nil _ _ _ _ _ | exact Kd.Q_nil _ _ _ _ _ | exact Kd.S_nil _ _ _ _ _, by first | exact Kd.R_nil _ _ _ _ _ | exact Kd.N_nil _ _ _ _ _ | exact Kd.V_nil _ _ _ _ _ | exact Kd.Q_nil _ _ _ _ _ | exact Kd.S_nil _ _ _ _ _, KB⟩

/-! ### impl_within: function 68 -/
def impl_within.f (a0 : Int) (a1 : Int) (a2 : Int) : Option (Bool) := if a0 ≥ a1 then (some (decide (a0 ≤ a2))) else (some false)
set_option maxHeartbeats 8000000 in
set_option maxRecDepth 100000 in
theorem impl_within.calls (a0 : Int) (a1 : Int) (a2 : Int) (r : Bool) (w : World) (h : impl_within.f a0 a1 a2 = some r) :
  Calls Try.prog 68 #[.int .i64 a0, .int .i64 a1, .int .i64 a2] w fun e w' => e = .returned (.bool r) ∧ Drawn0 w w' := by
 have H : (if a0 ≥ a1 then (some (decide (a0 ≤ a2))) else (some false)) = some r := h
 clear h
 by_cases c4 : a0 ≥ a1
 ·rw [if_pos c4] at H
  have c4b0 : decide (a1 ≤ a0) = true := decide_eq_true c4
  clear c4
  obtain rfl := Option.some.inj H
  go_enter Try.func68, Try.ntmps68
  go_wp2
  go_ret
  exact ⟨by first | rfl | (simp; done) | (simp [*]; done), by repeat (first | exact Drawn0.refl _ | apply Drawn0.step)⟩
 ·rw [if_neg c4] at H
  have c4b0 : decide (a1 ≤ a0) = false := decide_eq_false c4
  clear c4
  obtain rfl := Option.some.inj H
  go_enter Try.func68, Try.ntmps68
  go_wp2
  go_ret
  exact ⟨by first | rfl | (simp; done) | (simp [*]; done), by repeat (first | exact Drawn0.refl _ | apply Drawn0.step)⟩

/-! ### impl_isEpoch: function 102 -/
def impl_isEpoch.f (a0 : Int) : Option (Bool) := (impl_within.f a0 1 30).bind fun t283 => (some t283)
set_option maxHeartbeats 8000000 in
set_option maxRecDepth 100000 in
theorem impl_isEpoch.calls (a0 : Int) (r : Bool) (w : World) (h : impl_isEpoch.f a0 = some r) :
  Calls Try.prog 102 #[.int .i64 a0] w fun e w' => e = .returned (.bool r) ∧ Drawn0 w w' := by
 have H : ((impl_within.f a0 1 30).bind fun t283 => (some t283)) = some r := h
 clear h
 replace H := Option.bind_eq_some_iff.mp H
 obtain ⟨t283, A20, H⟩ := H
 replace H : (some t283) = some r := H
 have A2 := Aside0.mk A20
 clear A20
 obtain rfl := Option.some.inj H
 go_enter Try.func102, Try.ntmps102
 go_wp2_with (first | ((with_reducible refine gate_callee (f := 68) rfl ?_); refine goesL_ (some 4) rfl rfl Try.func68 (by kernel_rfl) rfl #[.int .i64 a0, .int .i64 1, .int .i64 30] rfl KL ?_; (with_reducible refine (impl_within.calls a0 1 30 t283 _ A2.out).mono ?_); rintro e w' ⟨rfl, ⟨nd, rfl⟩⟩; refine ⟨_, rfl, ?_⟩))
 go_ret
 exact ⟨by first | rfl | (simp; done) | (simp [*]; done), by repeat (first | exact Drawn0.refl _ | apply Drawn0.step)⟩

/-! ### impl_isOff: function 103 -/
def impl_isOff.f (a0 : Int) : Option (Bool) := (impl_within.f a0 1 60).bind fun t284 => (some t284)
set_option maxHeartbeats 8000000 in
set_option maxRecDepth 100000 in
theorem impl_isOff.calls (a0 : Int) (r : Bool) (w : World) (h : impl_isOff.f a0 = some r) :
  Calls Try.prog 103 #[.int .i64 a0] w fun e w' => e = .returned (.bool r) ∧ Drawn0 w w' := by
 have H : ((impl_within.f a0 1 60).bind fun t284 => (some t284)) = some r := h
 clear h
 replace H := Option.bind_eq_some_iff.mp H
 obtain ⟨t284, A20, H⟩ := H
 replace H : (some t284) = some r := H
 have A2 := Aside0.mk A20
 clear A20
 obtain rfl := Option.some.inj H
 go_enter Try.func103, Try.ntmps103
 go_wp2_with (first | ((with_reducible refine gate_callee (f := 68) rfl ?_); refine goesL_ (some 4) rfl rfl Try.func68 (by kernel_rfl) rfl #[.int .i64 a0, .int .i64 1, .int .i64 60] rfl KL ?_; (with_reducible refine (impl_within.calls a0 1 60 t284 _ A2.out).mono ?_); rintro e w' ⟨rfl, ⟨nd, rfl⟩⟩; refine ⟨_, rfl, ?_⟩))
 go_ret
 exact ⟨by first | rfl | (simp; done) | (simp [*]; done), by repeat (first | exact Drawn0.refl _ | apply Drawn0.step)⟩

/-! ### impl_PlaceOk: function 80 -/
def impl_PlaceOk.f (a0 : Int) : Option (Bool) := (impl_isEpoch.f (wrap64 (Int.tdiv a0 4294967296))).bind fun t285 => (if t285 = true then ((impl_isOff.f (Int.tmod a0 4294967296)).bind fun t286 => (some t286)) else (some false))
set_option maxHeartbeats 8000000 in
set_option maxRecDepth 100000 in
theorem impl_PlaceOk.calls (a0 : Int) (r : Bool) (w : World) (h : impl_PlaceOk.f a0 = some r) :
  Calls Try.prog 80 #[.int .i64 a0] w fun e w' => e = .returned (.bool r) ∧ Drawn0 w w' := by
 have H : ((impl_isEpoch.f (wrap64 (Int.tdiv a0 4294967296))).bind fun t285 => (if t285 = true then ((impl_isOff.f (Int.tmod a0 4294967296)).bind fun t286 => (some t286)) else (some false))) = some r := h
 clear h
 replace H := Option.bind_eq_some_iff.mp H
 obtain ⟨t285, A20, H⟩ := H
 replace H : (if t285 = true then ((impl_isOff.f (Int.tmod a0 4294967296)).bind fun t286 => (some t286)) else (some false)) = some r := H
 have A2 := Aside0.mk A20
 clear A20
 by_cases c3 : t285 = true
 ·subst c3
  have H1 : ((impl_isOff.f (Int.tmod a0 4294967296)).bind fun t286 => (some t286)) = some r := by rw [if_pos rfl] at H; exact H
  clear H
  have H := H1
  clear H1
  replace H := Option.bind_eq_some_iff.mp H
  obtain ⟨t286, A40, H⟩ := H
  replace H : (some t286) = some r := H
  have A4 := Aside0.mk A40
  clear A40
  obtain rfl := Option.some.inj H
  go_enter Try.func80, Try.ntmps80
  go_wp2_with (first | ((with_reducible refine gate_callee (f := 102) rfl ?_); refine goesL_ (some 5) rfl rfl Try.func102 (by kernel_rfl) rfl #[.int .i64 (wrap64 (Int.tdiv a0 4294967296))] rfl KL ?_; (with_reducible refine (impl_isEpoch.calls (wrap64 (Int.tdiv a0 4294967296)) true _ A2.out).mono ?_); rintro e w' ⟨rfl, ⟨nd, rfl⟩⟩; refine ⟨_, rfl, ?_⟩) | (go_at_call 103; (with_reducible refine (impl_isOff.calls (Int.tmod a0 4294967296) t286 _ A4.out).mono ?_); rintro e w' ⟨rfl, ⟨nd, rfl⟩⟩))
  go_ret
  exact ⟨by first | rfl | (simp; done) | (simp [*]; done), by repeat (first | exact Drawn0.refl _ | apply Drawn0.step)⟩
 ·replace c3 := Bool.eq_false_iff.mpr c3
  subst c3
  have H1 : (some false) = some r := by rw [if_neg (show ¬ (false = true) by decide)] at H; exact H
  clear H
  have H := H1
  clear H1
  obtain rfl := Option.some.inj H
  go_enter Try.func80, Try.ntmps80
  go_wp2_with (first | ((with_reducible refine gate_callee (f := 102) rfl ?_); refine goesL_ (some 5) rfl rfl Try.func102 (by kernel_rfl) rfl #[.int .i64 (wrap64 (Int.tdiv a0 4294967296))] rfl KL ?_; (with_reducible refine (impl_isEpoch.calls (wrap64 (Int.tdiv a0 4294967296)) false _ A2.out).mono ?_); rintro e w' ⟨rfl, ⟨nd, rfl⟩⟩; refine ⟨_, rfl, ?_⟩))
  go_ret
  exact ⟨by first | rfl | (simp; done) | (simp [*]; done), by repeat (first | exact Drawn0.refl _ | apply Drawn0.step)⟩

/-! ### impl_EpochOf: function 59 -/
def impl_EpochOf.f (a0 : Int) : Option (Int) := (impl_PlaceOk.f a0).bind fun t287 => (if t287 = true then (some (wrap64 (Int.tdiv a0 4294967296))) else (some 0))
set_option maxHeartbeats 8000000 in
set_option maxRecDepth 100000 in
theorem impl_EpochOf.calls (a0 : Int) (r : Int) (w : World) (h : impl_EpochOf.f a0 = some r) :
  Calls Try.prog 59 #[.int .i64 a0] w fun e w' => e = .returned (.int .i64 r) ∧ Drawn0 w w' := by
 have H : ((impl_PlaceOk.f a0).bind fun t287 => (if t287 = true then (some (wrap64 (Int.tdiv a0 4294967296))) else (some 0))) = some r := h
 clear h
 replace H := Option.bind_eq_some_iff.mp H
 obtain ⟨t287, A20, H⟩ := H
 replace H : (if t287 = true then (some (wrap64 (Int.tdiv a0 4294967296))) else (some 0)) = some r := H
 have A2 := Aside0.mk A20
 clear A20
 by_cases c3 : t287 = true
 ·subst c3
  have H1 : (some (wrap64 (Int.tdiv a0 4294967296))) = some r := by rw [if_pos rfl] at H; exact H
  clear H
  have H := H1
  clear H1
  obtain rfl := Option.some.inj H
  go_enter Try.func59, Try.ntmps59
  go_wp2_with (first | ((with_reducible refine gate_callee (f := 80) rfl ?_); refine goesL_ (some 4) rfl rfl Try.func80 (by kernel_rfl) rfl #[.int .i64 a0] rfl KL ?_; (with_reducible refine (impl_PlaceOk.calls a0 true _ A2.out).mono ?_); rintro e w' ⟨rfl, ⟨nd, rfl⟩⟩; refine ⟨_, rfl, ?_⟩))
  go_ret
  exact ⟨by first | rfl | (simp; done) | (simp [*]; done), by repeat (first | exact Drawn0.refl _ | apply Drawn0.step)⟩
 ·replace c3 := Bool.eq_false_iff.mpr c3
  subst c3
  have H1 : (some 0) = some r := by rw [if_neg (show ¬ (false = true) by decide)] at H; exact H
  clear H
  have H := H1
  clear H1
  obtain rfl := Option.some.inj H
  go_enter Try.func59, Try.ntmps59
  go_wp2_with (first | ((with_reducible refine gate_callee (f := 80) rfl ?_); refine goesL_ (some 4) rfl rfl Try.func80 (by kernel_rfl) rfl #[.int .i64 a0] rfl KL ?_; (with_reducible refine (impl_PlaceOk.calls a0 false _ A2.out).mono ?_); rintro e w' ⟨rfl, ⟨nd, rfl⟩⟩; refine ⟨_, rfl, ?_⟩))
  go_ret
  exact ⟨by first | rfl | (simp; done) | (simp [*]; done), by repeat (first | exact Drawn0.refl _ | apply Drawn0.step)⟩

/-! ### impl_dataOk: function 100 -/
def impl_dataOk.f (a0 : ByteArray) : Option (Bool) := some (decide ((a0.size : Int) ≤ 40))
set_option maxHeartbeats 8000000 in
set_option maxRecDepth 100000 in
theorem impl_dataOk.calls (a0 : ByteArray) (r : Bool) (w : World) (h : impl_dataOk.f a0 = some r) :
  Calls Try.prog 100 #[.string a0] w fun e w' => e = .returned (.bool r) ∧ Drawn0 w w' := by
 have H : (some (decide ((a0.size : Int) ≤ 40))) = some r := h
 clear h
 obtain rfl := Option.some.inj H
 go_enter Try.func100, Try.ntmps100
 go_wp2
 go_ret
 exact ⟨by first | rfl | (simp; done) | (simp [*]; done), by repeat (first | exact Drawn0.refl _ | apply Drawn0.step)⟩

/-! ### impl_EntryOk: function 76 -/
def impl_EntryOk.f (a0_0 : Int) (a0_1 : Int) (a0_2 : Bool) (a0_3 : ByteArray) : Option (Bool) := (impl_within.f a0_1 0 30).bind fun t289 => (if t289 = true then (if a0_1 = 0 then (if a0_2 = true then (if a0_1 > 0 then ((impl_PlaceOk.f a0_0).bind fun t290 => (if t290 = true then (if a0_3.toList = ([] : List UInt8) then ((impl_dataOk.f a0_3).bind fun t291 => (some t291)) else (some false)) else (some false))) else ((impl_PlaceOk.f a0_0).bind fun t292 => (if t292 = true then (some false) else (some false)))) else ((impl_PlaceOk.f a0_0).bind fun t293 => (if t293 = true then ((impl_dataOk.f a0_3).bind fun t294 => (some t294)) else (some false)))) else ((impl_EpochOf.f a0_0).bind fun t295 => (if a0_2 = true then (if a0_1 > 0 then ((impl_PlaceOk.f a0_0).bind fun t296 => (if t296 = true then (if a0_1 > t295 then (if a0_3.toList = ([] : List UInt8) then ((impl_dataOk.f a0_3).bind fun t297 => (some t297)) else (some false)) else (some false)) else (some false))) else ((impl_PlaceOk.f a0_0).bind fun t298 => (if t298 = true then (if a0_1 > t295 then (some false) else (some false)) else (some false)))) else ((impl_PlaceOk.f a0_0).bind fun t299 => (if t299 = true then (if a0_1 > t295 then ((impl_dataOk.f a0_3).bind fun t300 => (some t300)) else (some false)) else (some false)))))) else (if a0_2 = true then (if a0_1 > 0 then ((impl_PlaceOk.f a0_0).bind fun t301 => (if t301 = true then (some false) else (some false))) else ((impl_PlaceOk.f a0_0).bind fun t302 => (if t302 = true then (some false) else (some false)))) else ((impl_PlaceOk.f a0_0).bind fun t303 => (if t303 = true then (some false) else (some false)))))
set_option maxHeartbeats 8000000 in
set_option maxRecDepth 100000 in
theorem impl_EntryOk.calls (a0_0 : Int) (a0_1 : Int) (a0_2 : Bool) (a0_3 : ByteArray) (r : Bool) (w : World) (h : impl_EntryOk.f a0_0 a0_1 a0_2 a0_3 = some r) :
  Calls Try.prog 76 #[.agg #[.int .i64 a0_0, .int .i64 a0_1, .bool a0_2, .string a0_3]] w fun e w' => e = .returned (.bool r) ∧ Below w.heap.size w w' := by
 have hu34 := Try.underlying34
 have HB := Aside0.mk (Below.refl w.heap.size w)
 have H : ((impl_within.f a0_1 0 30).bind fun t289 => (if t289 = true then (if a0_1 = 0 then (if a0_2 = true then (if a0_1 > 0 then ((impl_PlaceOk.f a0_0).bind fun t290 => (if t290 = true then (if a0_3.toList = ([] : List UInt8) then ((impl_dataOk.f a0_3).bind fun t291 => (some t291)) else (some false)) else (some false))) else ((impl_PlaceOk.f a0_0).bind fun t292 => (if t292 = true then (some false) else (some false)))) else ((impl_PlaceOk.f a0_0).bind fun t293 => (if t293 = true then ((impl_dataOk.f a0_3).bind fun t294 => (some t294)) else (some false)))) else ((impl_EpochOf.f a0_0).bind fun t295 => (if a0_2 = true then (if a0_1 > 0 then ((impl_PlaceOk.f a0_0).bind fun t296 => (if t296 = true then (if a0_1 > t295 then (if a0_3.toList = ([] : List UInt8) then ((impl_dataOk.f a0_3).bind fun t297 => (some t297)) else (some false)) else (some false)) else (some false))) else ((impl_PlaceOk.f a0_0).bind fun t298 => (if t298 = true then (if a0_1 > t295 then (some false) else (some false)) else (some false)))) else ((impl_PlaceOk.f a0_0).bind fun t299 => (if t299 = true then (if a0_1 > t295 then ((impl_dataOk.f a0_3).bind fun t300 => (some t300)) else (some false)) else (some false)))))) else (if a0_2 = true then (if a0_1 > 0 then ((impl_PlaceOk.f a0_0).bind fun t301 => (if t301 = true then (some false) else (some false))) else ((impl_PlaceOk.f a0_0).bind fun t302 => (if t302 = true then (some false) else (some false)))) else ((impl_PlaceOk.f a0_0).bind fun t303 => (if t303 = true then (some false) else (some false)))))) = some r := h
 clear h
 replace H := Option.bind_eq_some_iff.mp H
 obtain ⟨t289, A20, H⟩ := H
 replace H : (if t289 = true then (if a0_1 = 0 then (if a0_2 = true then (if a0_1 > 0 then ((impl_PlaceOk.f a0_0).bind fun t290 => (if t290 = true then (if a0_3.toList = ([] : List UInt8) then ((impl_dataOk.f a0_3).bind fun t291 => (some t291)) else (some false)) else (some false))) else ((impl_PlaceOk.f a0_0).bind fun t292 => (if t292 = true then (some false) else (some false)))) else ((impl_PlaceOk.f a0_0).bind fun t293 => (if t293 = true then ((impl_dataOk.f a0_3).bind fun t294 => (some t294)) else (some false)))) else ((impl_EpochOf.f a0_0).bind fun t295 => (if a0_2 = true then (if a0_1 > 0 then ((impl_PlaceOk.f a0_0).bind fun t296 => (if t296 = true then (if a0_1 > t295 then (if a0_3.toList = ([] : List UInt8) then ((impl_dataOk.f a0_3).bind fun t297 => (some t297)) else (some false)) else (some false)) else (some false))) else ((impl_PlaceOk.f a0_0).bind fun t298 => (if t298 = true then (if a0_1 > t295 then (some false) else (some false)) else (some false)))) else ((impl_PlaceOk.f a0_0).bind fun t299 => (if t299 = true then (if a0_1 > t295 then ((impl_dataOk.f a0_3).bind fun t300 => (some t300)) else (some false)) else (some false)))))) else (if a0_2 = true then (if a0_1 > 0 then ((impl_PlaceOk.f a0_0).bind fun t301 => (if t301 = true then (some false) else (some false))) else ((impl_PlaceOk.f a0_0).bind fun t302 => (if t302 = true then (some false) else (some false)))) else ((impl_PlaceOk.f a0_0).bind fun t303 => (if t303 = true then (some false) else (some false))))) = some r := H
 have A2 := Aside0.mk A20
 clear A20
 by_cases c3 : t289 = true
 ·subst c3
  have H1 : (if a0_1 = 0 then (if a0_2 = true then (if a0_1 > 0 then ((impl_PlaceOk.f a0_0).bind fun t290 => (if t290 = true then (if a0_3.toList = ([] : List UInt8) then ((impl_dataOk.f a0_3).bind fun t291 => (some t291)) else (some false)) else (some false))) else ((impl_PlaceOk.f a0_0).bind fun t292 => (if t292 = true then (some false) else (some false)))) else ((impl_PlaceOk.f a0_0).bind fun t293 => (if t293 = true then ((impl_dataOk.f a0_3).bind fun t294 => (some t294)) else (some false)))) else ((impl_EpochOf.f a0_0).bind fun t295 => (if a0_2 = true then (if a0_1 > 0 then ((impl_PlaceOk.f a0_0).bind fun t296 => (if t296 = true then (if a0_1 > t295 then (if a0_3.toList = ([] : List UInt8) then ((impl_dataOk.f a0_3).bind fun t297 => (some t297)) else (some false)) else (some false)) else (some false))) else ((impl_PlaceOk.f a0_0).bind fun t298 => (if t298 = true then (if a0_1 > t295 then (some false) else (some false)) else (some false)))) else ((impl_PlaceOk.f a0_0).bind fun t299 => (if t299 = true then (if a0_1 > t295 then ((impl_dataOk.f a0_3).bind fun t300 => (some t300)) else (some false)) else (some false)))))) = some r := by rw [if_pos rfl] at H; exact H
  clear H
  have H := H1
  clear H1
  by_cases c4 : a0_1 = 0
  ·rw [if_pos c4] at H
   have c4b0 : (a0_1 == 0) = true := beq_iff_eq.mpr c4
   have c4b1 : (a0_1 != 0) = false := bne_eq_false_iff_eq.mpr c4
   clear c4
   by_cases c5 : a0_2 = true
   ·subst c5
    have H1 : (if a0_1 > 0 then ((impl_PlaceOk.f a0_0).bind fun t290 => (if t290 = true then (if a0_3.toList = ([] : List UInt8) then ((impl_dataOk.f a0_3).bind fun t291 => (some t291)) else (some false)) else (some false))) else ((impl_PlaceOk.f a0_0).bind fun t292 => (if t292 = true then (some false) else (some false)))) = some r := by rw [if_pos rfl] at H; exact H
    clear H
    have H := H1
    clear H1
    by_cases c6 : a0_1 > 0
    ·rw [if_pos c6] at H
     have c6b0 : decide (0 < a0_1) = true := decide_eq_true c6
     clear c6
     replace H := Option.bind_eq_some_iff.mp H
     obtain ⟨t290, A70, H⟩ := H
     replace H : (if t290 = true then (if a0_3.toList = ([] : List UInt8) then ((impl_dataOk.f a0_3).bind fun t291 => (some t291)) else (some false)) else (some false)) = some r := H
     have A7 := Aside0.mk A70
     clear A70
     by_cases c8 : t290 = true
     ·subst c8
      have H1 : (if a0_3.toList = ([] : List UInt8) then ((impl_dataOk.f a0_3).bind fun t291 => (some t291)) else (some false)) = some r := by rw [if_pos rfl] at H; exact H
      clear H
      have H := H1
      clear H1
      by_cases c9 : a0_3.toList = ([] : List UInt8)
      ·rw [if_pos c9] at H
       have c9b0 : (a0_3.toList == ([] : List UInt8)) = true := beq_iff_eq.mpr c9
       have c9b1 : (a0_3.toList != ([] : List UInt8)) = false := bne_eq_false_iff_eq.mpr c9
       clear c9
       replace H := Option.bind_eq_some_iff.mp H
       obtain ⟨t291, A100, H⟩ := H
       replace H : (some t291) = some r := H
       have A10 := Aside0.mk A100
       clear A100
       obtain rfl := Option.some.inj H
       go_enter Try.func76, Try.ntmps76
       go_wp2_with (first | ((with_reducible refine gate_dst (N := 1) rfl ?_); refine box_event ?hg (N := 1) ?hd (cs := #[.int .i64 a0_0, .int .i64 a0_1, .bool true, .string a0_3]) (t := 34) ?hr ?_; (case hd => rfl); (case hg => rfl); (case hr => first | (go_simp; done) | (go_simp; rfl)); intro gb288 hg w11 hbox hb; have n0_ := Aside0.mk (below_step KB hb); have n1_ := Aside0.mk (hbox); have n2_ := Aside0.mk ((KG hg : w.heap.size ≤ gb288)); have n3_ := Aside0.mk ((KG hg : w.heap.size ≤ gb288)); clear HB; have HB := n0_; have BK288 := n1_; have GW288 := n2_; have GE288 := n3_; clear n0_ n1_ n2_ n3_; clear hb hbox hg; have hcz12_0 : w11.cell? ⟨gb288, 0, none⟩ = some (.int .i64 a0_0) := (blk_cell BK288.out 0).trans rfl; have hcz12_1 : w11.cell? ⟨gb288, 1, none⟩ = some (.int .i64 a0_1) := (blk_cell BK288.out 1).trans rfl; have hcz12_2 : w11.cell? ⟨gb288, 2, none⟩ = some (.bool true) := (blk_cell BK288.out 2).trans rfl; have hcz12_3 : w11.cell? ⟨gb288, 3, none⟩ = some (.string a0_3) := (blk_cell BK288.out 3).trans rfl; have hfz12_0 := blk_frozen BK288.out 0; have hfz12_1 := blk_frozen BK288.out 1; have hfz12_2 := blk_frozen BK288.out 2; have hfz12_3 := blk_frozen BK288.out 3) | (go_at_call 68; (with_reducible refine (impl_within.calls a0_1 0 30 true _ A2.out).mono ?_); rintro e w' ⟨rfl, ⟨nd, rfl⟩⟩; (try exact KT)) | (go_at_call 80; (with_reducible refine (impl_PlaceOk.calls a0_0 true _ A7.out).mono ?_); rintro e w' ⟨rfl, ⟨nd, rfl⟩⟩; (try exact KT)) | (go_at_call 100; (with_reducible refine (impl_dataOk.calls a0_3 t291 _ A10.out).mono ?_); rintro e w' ⟨rfl, ⟨nd, rfl⟩⟩; (try exact KT)))
       repeat (go_quiet (first | (go_at_call 68; (with_reducible refine (impl_within.calls a0_1 0 30 true _ A2.out).mono ?_); rintro e w' ⟨rfl, ⟨nd, rfl⟩⟩; (try exact KT)) | (go_at_call 80; (with_reducible refine (impl_PlaceOk.calls a0_0 true _ A7.out).mono ?_); rintro e w' ⟨rfl, ⟨nd, rfl⟩⟩; (try exact KT)) | (go_at_call 100; (with_reducible refine (impl_dataOk.calls a0_3 t291 _ A10.out).mono ?_); rintro e w' ⟨rfl, ⟨nd, rfl⟩⟩; (try exact KT))); try go_wp2_with (first | ((with_reducible refine gate_dst (N := 1) rfl ?_); refine box_event ?hg (N := 1) ?hd (cs := #[.int .i64 a0_0, .int .i64 a0_1, .bool true, .string a0_3]) (t := 34) ?hr ?_; (case hd => rfl); (case hg => rfl); (case hr => first | (go_simp; done) | (go_simp; rfl)); intro gb288 hg w11 hbox hb; have n0_ := Aside0.mk (below_step KB hb); have n1_ := Aside0.mk (hbox); have n2_ := Aside0.mk ((KG hg : w.heap.size ≤ gb288)); have n3_ := Aside0.mk ((KG hg : w.heap.size ≤ gb288)); clear HB; have HB := n0_; have BK288 := n1_; have GW288 := n2_; have GE288 := n3_; clear n0_ n1_ n2_ n3_; clear hb hbox hg; have hcz12_0 : w11.cell? ⟨gb288, 0, none⟩ = some (.int .i64 a0_0) := (blk_cell BK288.out 0).trans rfl; have hcz12_1 : w11.cell? ⟨gb288, 1, none⟩ = some (.int .i64 a0_1) := (blk_cell BK288.out 1).trans rfl; have hcz12_2 : w11.cell? ⟨gb288, 2, none⟩ = some (.bool true) := (blk_cell BK288.out 2).trans rfl; have hcz12_3 : w11.cell? ⟨gb288, 3, none⟩ = some (.string a0_3) := (blk_cell BK288.out 3).trans rfl; have hfz12_0 := blk_frozen BK288.out 0; have hfz12_1 := blk_frozen BK288.out 1; have hfz12_2 := blk_frozen BK288.out 2; have hfz12_3 := blk_frozen BK288.out 3) | (go_at_call 68; (with_reducible refine (impl_within.calls a0_1 0 30 true _ A2.out).mono ?_); rintro e w' ⟨rfl, ⟨nd, rfl⟩⟩; (try exact KT)) | (go_at_call 80; (with_reducible refine (impl_PlaceOk.calls a0_0 true _ A7.out).mono ?_); rintro e w' ⟨rfl, ⟨nd, rfl⟩⟩; (try exact KT)) | (go_at_call 100; (with_reducible refine (impl_dataOk.calls a0_3 t291 _ A10.out).mono ?_); rintro e w' ⟨rfl, ⟨nd, rfl⟩⟩; (try exact KT))))
       go_ret
       exact ⟨KE, KB⟩
      ·rw [if_neg c9] at H
       have c9b0 : (a0_3.toList == ([] : List UInt8)) = false := beq_eq_false_iff_ne.mpr c9
       have c9b1 : (a0_3.toList != ([] : List UInt8)) = true := bne_iff_ne.mpr c9
       obtain rfl := Option.some.inj H
       go_enter Try.func76, Try.ntmps76
       go_wp2_with (first | ((with_reducible refine gate_dst (N := 1) rfl ?_); refine box_event ?hg (N := 1) ?hd (cs := #[.int .i64 a0_0, .int .i64 a0_1, .bool true, .string a0_3]) (t := 34) ?hr ?_; (case hd => rfl); (case hg => rfl); (case hr => first | (go_simp; done) | (go_simp; rfl)); intro gb288 hg w13 hbox hb; have n0_ := Aside0.mk (below_step KB hb); have n1_ := Aside0.mk (hbox); have n2_ := Aside0.mk ((KG hg : w.heap.size ≤ gb288)); have n3_ := Aside0.mk ((KG hg : w.heap.size ≤ gb288)); clear HB; have HB := n0_; have BK288 := n1_; have GW288 := n2_; have GE288 := n3_; clear n0_ n1_ n2_ n3_; clear hb hbox hg; have hcz14_0 : w13.cell? ⟨gb288, 0, none⟩ = some (.int .i64 a0_0) := (blk_cell BK288.out 0).trans rfl; have hcz14_1 : w13.cell? ⟨gb288, 1, none⟩ = some (.int .i64 a0_1) := (blk_cell BK288.out 1).trans rfl; have hcz14_2 : w13.cell? ⟨gb288, 2, none⟩ = some (.bool true) := (blk_cell BK288.out 2).trans rfl; have hcz14_3 : w13.cell? ⟨gb288, 3, none⟩ = some (.string a0_3) := (blk_cell BK288.out 3).trans rfl; have hfz14_0 := blk_frozen BK288.out 0; have hfz14_1 := blk_frozen BK288.out 1; have hfz14_2 := blk_frozen BK288.out 2; have hfz14_3 := blk_frozen BK288.out 3) | (go_at_call 68; (with_reducible refine (impl_within.calls a0_1 0 30 true _ A2.out).mono ?_); rintro e w' ⟨rfl, ⟨nd, rfl⟩⟩; (try exact KT)) | (go_at_call 80; (with_reducible refine (impl_PlaceOk.calls a0_0 true _ A7.out).mono ?_); rintro e w' ⟨rfl, ⟨nd, rfl⟩⟩; (try exact KT)))
       repeat (go_quiet (first | (go_at_call 68; (with_reducible refine (impl_within.calls a0_1 0 30 true _ A2.out).mono ?_); rintro e w' ⟨rfl, ⟨nd, rfl⟩⟩; (try exact KT)) | (go_at_call 80; (with_reducible refine (impl_PlaceOk.calls a0_0 true _ A7.out).mono ?_); rintro e w' ⟨rfl, ⟨nd, rfl⟩⟩; (try exact KT))); try go_wp2_with (first | ((with_reducible refine gate_dst (N := 1) rfl ?_); refine box_event ?hg (N := 1) ?hd (cs := #[.int .i64 a0_0, .int .i64 a0_1, .bool true, .string a0_3]) (t := 34) ?hr ?_; (case hd => rfl); (case hg => rfl); (case hr => first | (go_simp; done) | (go_simp; rfl)); intro gb288 hg w13 hbox hb; have n0_ := Aside0.mk (below_step KB hb); have n1_ := Aside0.mk (hbox); have n2_ := Aside0.mk ((KG hg : w.heap.size ≤ gb288)); have n3_ := Aside0.mk ((KG hg : w.heap.size ≤ gb288)); clear HB; have HB := n0_; have BK288 := n1_; have GW288 := n2_; have GE288 := n3_; clear n0_ n1_ n2_ n3_; clear hb hbox hg; have hcz14_0 : w13.cell? ⟨gb288, 0, none⟩ = some (.int .i64 a0_0) := (blk_cell BK288.out 0).trans rfl; have hcz14_1 : w13.cell? ⟨gb288, 1, none⟩ = some (.int .i64 a0_1) := (blk_cell BK288.out 1).trans rfl; have hcz14_2 : w13.cell? ⟨gb288, 2, none⟩ = some (.bool true) := (blk_cell BK288.out 2).trans rfl; have hcz14_3 : w13.cell? ⟨gb288, 3, none⟩ = some (.string a0_3) := (blk_cell BK288.out 3).trans rfl; have hfz14_0 := blk_frozen BK288.out 0; have hfz14_1 := blk_frozen BK288.out 1; have hfz14_2 := blk_frozen BK288.out 2; have hfz14_3 := blk_frozen BK288.out 3) | (go_at_call 68; (with_reducible refine (impl_within.calls a0_1 0 30 true _ A2.out).mono ?_); rintro e w' ⟨rfl, ⟨nd, rfl⟩⟩; (try exact KT)) | (go_at_call 80; (with_reducible refine (impl_PlaceOk.calls a0_0 true _ A7.out).mono ?_); rintro e w' ⟨rfl, ⟨nd, rfl⟩⟩; (try exact KT))))
       go_ret
       exact ⟨KE, KB⟩
     ·replace c8 := Bool.eq_false_iff.mpr c8
      subst c8
      have H1 : (some false) = some r := by rw [if_neg (show ¬ (false = true) by decide)] at H; exact H
      clear H
      have H := H1
      clear H1
      obtain rfl := Option.some.inj H
      go_enter Try.func76, Try.ntmps76
      go_wp2_with (first | ((with_reducible refine gate_dst (N := 1) rfl ?_); refine box_event ?hg (N := 1) ?hd (cs := #[.int .i64 a0_0, .int .i64 a0_1, .bool true, .string a0_3]) (t := 34) ?hr ?_; (case hd => rfl); (case hg => rfl); (case hr => first | (go_simp; done) | (go_simp; rfl)); intro gb288 hg w15 hbox hb; have n0_ := Aside0.mk (below_step KB hb); have n1_ := Aside0.mk (hbox); have n2_ := Aside0.mk ((KG hg : w.heap.size ≤ gb288)); have n3_ := Aside0.mk ((KG hg : w.heap.size ≤ gb288)); clear HB; have HB := n0_; have BK288 := n1_; have GW288 := n2_; have GE288 := n3_; clear n0_ n1_ n2_ n3_; clear hb hbox hg; have hcz16_0 : w15.cell? ⟨gb288, 0, none⟩ = some (.int .i64 a0_0) := (blk_cell BK288.out 0).trans rfl; have hcz16_1 : w15.cell? ⟨gb288, 1, none⟩ = some (.int .i64 a0_1) := (blk_cell BK288.out 1).trans rfl; have hcz16_2 : w15.cell? ⟨gb288, 2, none⟩ = some (.bool true) := (blk_cell BK288.out 2).trans rfl; have hcz16_3 : w15.cell? ⟨gb288, 3, none⟩ = some (.string a0_3) := (blk_cell BK288.out 3).trans rfl; have hfz16_0 := blk_frozen BK288.out 0; have hfz16_1 := blk_frozen BK288.out 1; have hfz16_2 := blk_frozen BK288.out 2; have hfz16_3 := blk_frozen BK288.out 3) | (go_at_call 68; (with_reducible refine (impl_within.calls a0_1 0 30 true _ A2.out).mono ?_); rintro e w' ⟨rfl, ⟨nd, rfl⟩⟩; (try exact KT)) | (go_at_call 80; (with_reducible refine (impl_PlaceOk.calls a0_0 false _ A7.out).mono ?_); rintro e w' ⟨rfl, ⟨nd, rfl⟩⟩; (try exact KT)))
      repeat (go_quiet (first | (go_at_call 68; (with_reducible refine (impl_within.calls a0_1 0 30 true _ A2.out).mono ?_); rintro e w' ⟨rfl, ⟨nd, rfl⟩⟩; (try exact KT)) | (go_at_call 80; (with_reducible refine (impl_PlaceOk.calls a0_0 false _ A7.out).mono ?_); rintro e w' ⟨rfl, ⟨nd, rfl⟩⟩; (try exact KT))); try go_wp2_with (first | ((with_reducible refine gate_dst (N := 1) rfl ?_); refine box_event ?hg (N := 1) ?hd (cs := #[.int .i64 a0_0, .int .i64 a0_1, .bool true, .string a0_3]) (t := 34) ?hr ?_; (case hd => rfl); (case hg => rfl); (case hr => first | (go_simp; done) | (go_simp; rfl)); intro gb288 hg w15 hbox hb; have n0_ := Aside0.mk (below_step KB hb); have n1_ := Aside0.mk (hbox); have n2_ := Aside0.mk ((KG hg : w.heap.size ≤ gb288)); have n3_ := Aside0.mk ((KG hg : w.heap.size ≤ gb288)); clear HB; have HB := n0_; have BK288 := n1_; have GW288 := n2_; have GE288 := n3_; clear n0_ n1_ n2_ n3_; clear hb hbox hg; have hcz16_0 : w15.cell? ⟨gb288, 0, none⟩ = some (.int .i64 a0_0) := (blk_cell BK288.out 0).trans rfl; have hcz16_1 : w15.cell? ⟨gb288, 1, none⟩ = some (.int .i64 a0_1) := (blk_cell BK288.out 1).trans rfl; have hcz16_2 : w15.cell? ⟨gb288, 2, none⟩ = some (.bool true) := (blk_cell BK288.out 2).trans rfl; have hcz16_3 : w15.cell? ⟨gb288, 3, none⟩ = some (.string a0_3) := (blk_cell BK288.out 3).trans rfl; have hfz16_0 := blk_frozen BK288.out 0; have hfz16_1 := blk_frozen BK288.out 1; have hfz16_2 := blk_frozen BK288.out 2; have hfz16_3 := blk_frozen BK288.out 3) | (go_at_call 68; (with_reducible refine (impl_within.calls a0_1 0 30 true _ A2.out).mono ?_); rintro e w' ⟨rfl, ⟨nd, rfl⟩⟩; (try exact KT)) | (go_at_call 80; (with_reducible refine (impl_PlaceOk.calls a0_0 false _ A7.out).mono ?_); rintro e w' ⟨rfl, ⟨nd, rfl⟩⟩; (try exact KT))))
      go_ret
      exact ⟨KE, KB⟩
    ·rw [if_neg c6] at H
     have c6b0 : decide (0 < a0_1) = false := decide_eq_false c6
     clear c6
     replace H := Option.bind_eq_some_iff.mp H
     obtain ⟨t292, A170, H⟩ := H
     replace H : (if t292 = true then (some false) else (some false)) = some r := H
     have A17 := Aside0.mk A170
     clear A170
     by_cases c18 : t292 = true
     ·subst c18
      have H1 : (some false) = some r := by rw [if_pos rfl] at H; exact H
      clear H
      have H := H1
      clear H1
      obtain rfl := Option.some.inj H
      go_enter Try.func76, Try.ntmps76
      go_wp2_with (first | ((with_reducible refine gate_dst (N := 1) rfl ?_); refine box_event ?hg (N := 1) ?hd (cs := #[.int .i64 a0_0, .int .i64 a0_1, .bool true, .string a0_3]) (t := 34) ?hr ?_; (case hd => rfl); (case hg => rfl); (case hr => first | (go_simp; done) | (go_simp; rfl)); intro gb288 hg w19 hbox hb; have n0_ := Aside0.mk (below_step KB hb); have n1_ := Aside0.mk (hbox); have n2_ := Aside0.mk ((KG hg : w.heap.size ≤ gb288)); have n3_ := Aside0.mk ((KG hg : w.heap.size ≤ gb288)); clear HB; have HB := n0_; have BK288 := n1_; have GW288 := n2_; have GE288 := n3_; clear n0_ n1_ n2_ n3_; clear hb hbox hg; have hcz20_0 : w19.cell? ⟨gb288, 0, none⟩ = some (.int .i64 a0_0) := (blk_cell BK288.out 0).trans rfl; have hcz20_1 : w19.cell? ⟨gb288, 1, none⟩ = some (.int .i64 a0_1) := (blk_cell BK288.out 1).trans rfl; have hcz20_2 : w19.cell? ⟨gb288, 2, none⟩ = some (.bool true) := (blk_cell BK288.out 2).trans rfl; have hcz20_3 : w19.cell? ⟨gb288, 3, none⟩ = some (.string a0_3) := (blk_cell BK288.out 3).trans rfl; have hfz20_0 := blk_frozen BK288.out 0; have hfz20_1 := blk_frozen BK288.out 1; have hfz20_2 := blk_frozen BK288.out 2; have hfz20_3 := blk_frozen BK288.out 3) | (go_at_call 68; (with_reducible refine (impl_within.calls a0_1 0 30 true _ A2.out).mono ?_); rintro e w' ⟨rfl, ⟨nd, rfl⟩⟩; (try exact KT)) | (go_at_call 80; (with_reducible refine (impl_PlaceOk.calls a0_0 true _ A17.out).mono ?_); rintro e w' ⟨rfl, ⟨nd, rfl⟩⟩; (try exact KT)))
      repeat (go_quiet (first | (go_at_call 68; (with_reducible refine (impl_within.calls a0_1 0 30 true _ A2.out).mono ?_); rintro e w' ⟨rfl, ⟨nd, rfl⟩⟩; (try exact KT)) | (go_at_call 80; (with_reducible refine (impl_PlaceOk.calls a0_0 true _ A17.out).mono ?_); rintro e w' ⟨rfl, ⟨nd, rfl⟩⟩; (try exact KT))); try go_wp2_with (first | ((with_reducible refine gate_dst (N := 1) rfl ?_); refine box_event ?hg (N := 1) ?hd (cs := #[.int .i64 a0_0, .int .i64 a0_1, .bool true, .string a0_3]) (t := 34) ?hr ?_; (case hd => rfl); (case hg => rfl); (case hr => first | (go_simp; done) | (go_simp; rfl)); intro gb288 hg w19 hbox hb; have n0_ := Aside0.mk (below_step KB hb); have n1_ := Aside0.mk (hbox); have n2_ := Aside0.mk ((KG hg : w.heap.size ≤ gb288)); have n3_ := Aside0.mk ((KG hg : w.heap.size ≤ gb288)); clear HB; have HB := n0_; have BK288 := n1_; have GW288 := n2_; have GE288 := n3_; clear n0_ n1_ n2_ n3_; clear hb hbox hg; have hcz20_0 : w19.cell? ⟨gb288, 0, none⟩ = some (.int .i64 a0_0) := (blk_cell BK288.out 0).trans rfl; have hcz20_1 : w19.cell? ⟨gb288, 1, none⟩ = some (.int .i64 a0_1) := (blk_cell BK288.out 1).trans rfl; have hcz20_2 : w19.cell? ⟨gb288, 2, none⟩ = some (.bool true) := (blk_cell BK288.out 2).trans rfl; have hcz20_3 : w19.cell? ⟨gb288, 3, none⟩ = some (.string a0_3) := (blk_cell BK288.out 3).trans rfl; have hfz20_0 := blk_frozen BK288.out 0; have hfz20_1 := blk_frozen BK288.out 1; have hfz20_2 := blk_frozen BK288.out 2; have hfz20_3 := blk_frozen BK288.out 3) | (go_at_call 68; (with_reducible refine (impl_within.calls a0_1 0 30 true _ A2.out).mono ?_); rintro e w' ⟨rfl, ⟨nd, rfl⟩⟩; (try exact KT)) | (go_at_call 80; (with_reducible refine (impl_PlaceOk.calls a0_0 true _ A17.out).mono ?_); rintro e w' ⟨rfl, ⟨nd, rfl⟩⟩; (try exact KT))))
      go_ret
      exact ⟨KE, KB⟩
     ·replace c18 := Bool.eq_false_iff.mpr c18
      subst c18
      have H1 : (some false) = some r := by rw [if_neg (show ¬ (false = true) by decide)] at H; exact H
      clear H
      have H := H1
      clear H1
      obtain rfl := Option.some.inj H
      go_enter Try.func76, Try.ntmps76
      go_wp2_with (first | ((with_reducible refine gate_dst (N := 1) rfl ?_); refine box_event ?hg (N := 1) ?hd (cs := #[.int .i64 a0_0, .int .i64 a0_1, .bool true, .string a0_3]) (t := 34) ?hr ?_; (case hd => rfl); (case hg => rfl); (case hr => first | (go_simp; done) | (go_simp; rfl)); intro gb288 hg w21 hbox hb; have n0_ := Aside0.mk (below_step KB hb); have n1_ := Aside0.mk (hbox); have n2_ := Aside0.mk ((KG hg : w.heap.size ≤ gb288)); have n3_ := Aside0.mk ((KG hg : w.heap.size ≤ gb288)); clear HB; have HB := n0_; have BK288 := n1_; have GW288 := n2_; have GE288 := n3_; clear n0_ n1_ n2_ n3_; clear hb hbox hg; have hcz22_0 : w21.cell? ⟨gb288, 0, none⟩ = some (.int .i64 a0_0) := (blk_cell BK288.out 0).trans rfl; have hcz22_1 : w21.cell? ⟨gb288, 1, none⟩ = some (.int .i64 a0_1) := (blk_cell BK288.out 1).trans rfl; have hcz22_2 : w21.cell? ⟨gb288, 2, none⟩ = some (.bool true) := (blk_cell BK288.out 2).trans rfl; have hcz22_3 : w21.cell? ⟨gb288, 3, none⟩ = some (.string a0_3) := (blk_cell BK288.out 3).trans rfl; have hfz22_0 := blk_frozen BK288.out 0; have hfz22_1 := blk_frozen BK288.out 1; have hfz22_2 := blk_frozen BK288.out 2; have hfz22_3 := blk_frozen BK288.out 3) | (go_at_call 68; (with_reducible refine (impl_within.calls a0_1 0 30 true _ A2.out).mono ?_); rintro e w' ⟨rfl, ⟨nd, rfl⟩⟩; (try exact KT)) | (go_at_call 80; (with_reducible refine (impl_PlaceOk.calls a0_0 false _ A17.out).mono ?_); rintro e w' ⟨rfl, ⟨nd, rfl⟩⟩; (try exact KT)))
      repeat (go_quiet (first | (go_at_call 68; (with_reducible refine (impl_within.calls a0_1 0 30 true _ A2.out).mono ?_); rintro e w' ⟨rfl, ⟨nd, rfl⟩⟩; (try exact KT)) | (go_at_call 80; (with_reducible refine (impl_PlaceOk.calls a0_0 false _ A17.out).mono ?_); rintro e w' ⟨rfl, ⟨nd, rfl⟩⟩; (try exact KT))); try go_wp2_with (first | ((with_reducible refine gate_dst (N := 1) rfl ?_); refine box_event ?hg (N := 1) ?hd (cs := #[.int .i64 a0_0, .int .i64 a0_1, .bool true, .string a0_3]) (t := 34) ?hr ?_; (case hd => rfl); (case hg => rfl); (case hr => first | (go_simp; done) | (go_simp; rfl)); intro gb288 hg w21 hbox hb; have n0_ := Aside0.mk (below_step KB hb); have n1_ := Aside0.mk (hbox); have n2_ := Aside0.mk ((KG hg : w.heap.size ≤ gb288)); have n3_ := Aside0.mk ((KG hg : w.heap.size ≤ gb288)); clear HB; have HB := n0_; have BK288 := n1_; have GW288 := n2_; have GE288 := n3_; clear n0_ n1_ n2_ n3_; clear hb hbox hg; have hcz22_0 : w21.cell? ⟨gb288, 0, none⟩ = some (.int .i64 a0_0) := (blk_cell BK288.out 0).trans rfl; have hcz22_1 : w21.cell? ⟨gb288, 1, none⟩ = some (.int .i64 a0_1) := (blk_cell BK288.out 1).trans rfl; have hcz22_2 : w21.cell? ⟨gb288, 2, none⟩ = some (.bool true) := (blk_cell BK288.out 2).trans rfl; have hcz22_3 : w21.cell? ⟨gb288, 3, none⟩ = some (.string a0_3) := (blk_cell BK288.out 3).trans rfl; have hfz22_0 := blk_frozen BK288.out 0; have hfz22_1 := blk_frozen BK288.out 1; have hfz22_2 := blk_frozen BK288.out 2; have hfz22_3 := blk_frozen BK288.out 3) | (go_at_call 68; (with_reducible refine (impl_within.calls a0_1 0 30 true _ A2.out).mono ?_); rintro e w' ⟨rfl, ⟨nd, rfl⟩⟩; (try exact KT)) | (go_at_call 80; (with_reducible refine (impl_PlaceOk.calls a0_0 false _ A17.out).mono ?_); rintro e w' ⟨rfl, ⟨nd, rfl⟩⟩; (try exact KT))))
      go_ret
      exact ⟨KE, KB⟩
   ·replace c5 := Bool.eq_false_iff.mpr c5
    subst c5
    have H1 : ((impl_PlaceOk.f a0_0).bind fun t293 => (if t293 = true then ((impl_dataOk.f a0_3).bind fun t294 => (some t294)) else (some false))) = some r := by rw [if_neg (show ¬ (false = true) by decide)] at H; exact H
    clear H
    have H := H1
    clear H1
    replace H := Option.bind_eq_some_iff.mp H
    obtain ⟨t293, A230, H⟩ := H
    replace H : (if t293 = true then ((impl_dataOk.f a0_3).bind fun t294 => (some t294)) else (some false)) = some r := H
    have A23 := Aside0.mk A230
    clear A230
    by_cases c24 : t293 = true
    ·subst c24
     have H1 : ((impl_dataOk.f a0_3).bind fun t294 => (some t294)) = some r := by rw [if_pos rfl] at H; exact H
     clear H
     have H := H1
     clear H1
     replace H := Option.bind_eq_some_iff.mp H
     obtain ⟨t294, A250, H⟩ := H
     replace H : (some t294) = some r := H
     have A25 := Aside0.mk A250
     clear A250
     obtain rfl := Option.some.inj H
     go_enter Try.func76, Try.ntmps76
     go_wp2_with (first | ((with_reducible refine gate_dst (N := 1) rfl ?_); refine box_event ?hg (N := 1) ?hd (cs := #[.int .i64 a0_0, .int .i64 a0_1, .bool false, .string a0_3]) (t := 34) ?hr ?_; (case hd => rfl); (case hg => rfl); (case hr => first | (go_simp; done) | (go_simp; rfl)); intro gb288 hg w26 hbox hb; have n0_ := Aside0.mk (below_step KB hb); have n1_ := Aside0.mk (hbox); have n2_ := Aside0.mk ((KG hg : w.heap.size ≤ gb288)); have n3_ := Aside0.mk ((KG hg : w.heap.size ≤ gb288)); clear HB; have HB := n0_; have BK288 := n1_; have GW288 := n2_; have GE288 := n3_; clear n0_ n1_ n2_ n3_; clear hb hbox hg; have hcz27_0 : w26.cell? ⟨gb288, 0, none⟩ = some (.int .i64 a0_0) := (blk_cell BK288.out 0).trans rfl; have hcz27_1 : w26.cell? ⟨gb288, 1, none⟩ = some (.int .i64 a0_1) := (blk_cell BK288.out 1).trans rfl; have hcz27_2 : w26.cell? ⟨gb288, 2, none⟩ = some (.bool false) := (blk_cell BK288.out 2).trans rfl; have hcz27_3 : w26.cell? ⟨gb288, 3, none⟩ = some (.string a0_3) := (blk_cell BK288.out 3).trans rfl; have hfz27_0 := blk_frozen BK288.out 0; have hfz27_1 := blk_frozen BK288.out 1; have hfz27_2 := blk_frozen BK288.out 2; have hfz27_3 := blk_frozen BK288.out 3) | (go_at_call 68; (with_reducible refine (impl_within.calls a0_1 0 30 true _ A2.out).mono ?_); rintro e w' ⟨rfl, ⟨nd, rfl⟩⟩; (try exact KT)) | (go_at_call 80; (with_reducible refine (impl_PlaceOk.calls a0_0 true _ A23.out).mono ?_); rintro e w' ⟨rfl, ⟨nd, rfl⟩⟩; (try exact KT)) | (go_at_call 100; (with_reducible refine (impl_dataOk.calls a0_3 t294 _ A25.out).mono ?_); rintro e w' ⟨rfl, ⟨nd, rfl⟩⟩; (try exact KT)))
     repeat (go_quiet (first | (go_at_call 68; (with_reducible refine (impl_within.calls a0_1 0 30 true _ A2.out).mono ?_); rintro e w' ⟨rfl, ⟨nd, rfl⟩⟩; (try exact KT)) | (go_at_call 80; (with_reducible refine (impl_PlaceOk.calls a0_0 true _ A23.out).mono ?_); rintro e w' ⟨rfl, ⟨nd, rfl⟩⟩; (try exact KT)) | (go_at_call 100; (with_reducible refine (impl_dataOk.calls a0_3 t294 _ A25.out).mono ?_); rintro e w' ⟨rfl, ⟨nd, rfl⟩⟩; (try exact KT))); try go_wp2_with (first | ((with_reducible refine gate_dst (N := 1) rfl ?_); refine box_event ?hg (N := 1) ?hd (cs := #[.int .i64 a0_0, .int .i64 a0_1, .bool false, .string a0_3]) (t := 34) ?hr ?_; (case hd => rfl); (case hg => rfl); (case hr => first | (go_simp; done) | (go_simp; rfl)); intro gb288 hg w26 hbox hb; have n0_ := Aside0.mk (below_step KB hb); have n1_ := Aside0.mk (hbox); have n2_ := Aside0.mk ((KG hg : w.heap.size ≤ gb288)); have n3_ := Aside0.mk ((KG hg : w.heap.size ≤ gb288)); clear HB; have HB := n0_; have BK288 := n1_; have GW288 := n2_; have GE288 := n3_; clear n0_ n1_ n2_ n3_; clear hb hbox hg; have hcz27_0 : w26.cell? ⟨gb288, 0, none⟩ = some (.int .i64 a0_0) := (blk_cell BK288.out 0).trans rfl; have hcz27_1 : w26.cell? ⟨gb288, 1, none⟩ = some (.int .i64 a0_1) := (blk_cell BK288.out 1).trans rfl; have hcz27_2 : w26.cell? ⟨gb288, 2, none⟩ = some (.bool false) := (blk_cell BK288.out 2).trans rfl; have hcz27_3 : w26.cell? ⟨gb288, 3, none⟩ = some (.string a0_3) := (blk_cell BK288.out 3).trans rfl; have hfz27_0 := blk_frozen BK288.out 0; have hfz27_1 := blk_frozen BK288.out 1; have hfz27_2 := blk_frozen BK288.out 2; have hfz27_3 := blk_frozen BK288.out 3) | (go_at_call 68; (with_reducible refine (impl_within.calls a0_1 0 30 true _ A2.out).mono ?_); rintro e w' ⟨rfl, ⟨nd, rfl⟩⟩; (try exact KT)) | (go_at_call 80; (with_reducible refine (impl_PlaceOk.calls a0_0 true _ A23.out).mono ?_); rintro e w' ⟨rfl, ⟨nd, rfl⟩⟩; (try exact KT)) | (go_at_call 100; (with_reducible refine (impl_dataOk.calls a0_3 t294 _ A25.out).mono ?_); rintro e w' ⟨rfl, ⟨nd, rfl⟩⟩; (try exact KT))))
     go_ret
     exact ⟨KE, KB⟩
    ·replace c24 := Bool.eq_false_iff.mpr c24
     subst c24
     have H1 : (some false) = some r := by rw [if_neg (show ¬ (false = true) by decide)] at H; exact H
     clear H
     have H := H1
     clear H1
     obtain rfl := Option.some.inj H
     go_enter Try.func76, Try.ntmps76
     go_wp2_with (first | ((with_reducible refine gate_dst (N := 1) rfl ?_); refine box_event ?hg (N := 1) ?hd (cs := #[.int .i64 a0_0, .int .i64 a0_1, .bool false, .string a0_3]) (t := 34) ?hr ?_; (case hd => rfl); (case hg => rfl); (case hr => first | (go_simp; done) | (go_simp; rfl)); intro gb288 hg w28 hbox hb; have n0_ := Aside0.mk (below_step KB hb); have n1_ := Aside0.mk (hbox); have n2_ := Aside0.mk ((KG hg : w.heap.size ≤ gb288)); have n3_ := Aside0.mk ((KG hg : w.heap.size ≤ gb288)); clear HB; have HB := n0_; have BK288 := n1_; have GW288 := n2_; have GE288 := n3_; clear n0_ n1_ n2_ n3_; clear hb hbox hg; have hcz29_0 : w28.cell? ⟨gb288, 0, none⟩ = some (.int .i64 a0_0) := (blk_cell BK288.out 0).trans rfl; have hcz29_1 : w28.cell? ⟨gb288, 1, none⟩ = some (.int .i64 a0_1) := (blk_cell BK288.out 1).trans rfl; have hcz29_2 : w28.cell? ⟨gb288, 2, none⟩ = some (.bool false) := (blk_cell BK288.out 2).trans rfl; have hcz29_3 : w28.cell? ⟨gb288, 3, none⟩ = some (.string a0_3) := (blk_cell BK288.out 3).trans rfl; have hfz29_0 := blk_frozen BK288.out 0; have hfz29_1 := blk_frozen BK288.out 1; have hfz29_2 := blk_frozen BK288.out 2; have hfz29_3 := blk_frozen BK288.out 3) | (go_at_call 68; (with_reducible refine (impl_within.calls a0_1 0 30 true _ A2.out).mono ?_); rintro e w' ⟨rfl, ⟨nd, rfl⟩⟩; (try exact KT)) | (go_at_call 80; (with_reducible refine (impl_PlaceOk.calls a0_0 false _ A23.out).mono ?_); rintro e w' ⟨rfl, ⟨nd, rfl⟩⟩; (try exact KT)))
     repeat (go_quiet (first | (go_at_call 68; (with_reducible refine (impl_within.calls a0_1 0 30 true _ A2.out).mono ?_); rintro e w' ⟨rfl, ⟨nd, rfl⟩⟩; (try exact KT)) | (go_at_call 80; (with_reducible refine (impl_PlaceOk.calls a0_0 false _ A23.out).mono ?_); rintro e w' ⟨rfl, ⟨nd, rfl⟩⟩; (try exact KT))); try go_wp2_with (first | ((with_reducible refine gate_dst (N := 1) rfl ?_); refine box_event ?hg (N := 1) ?hd (cs := #[.int .i64 a0_0, .int .i64 a0_1, .bool false, .string a0_3]) (t := 34) ?hr ?_; (case hd => rfl); (case hg => rfl); (case hr => first | (go_simp; done) | (go_simp; rfl)); intro gb288 hg w28 hbox hb; have n0_ := Aside0.mk (below_step KB hb); have n1_ := Aside0.mk (hbox); have n2_ := Aside0.mk ((KG hg : w.heap.size ≤ gb288)); have n3_ := Aside0.mk ((KG hg : w.heap.size ≤ gb288)); clear HB; have HB := n0_; have BK288 := n1_; have GW288 := n2_; have GE288 := n3_; clear n0_ n1_ n2_ n3_; clear hb hbox hg; have hcz29_0 : w28.cell? ⟨gb288, 0, none⟩ = some (.int .i64 a0_0) := (blk_cell BK288.out 0).trans rfl; have hcz29_1 : w28.cell? ⟨gb288, 1, none⟩ = some (.int .i64 a0_1) := (blk_cell BK288.out 1).trans rfl; have hcz29_2 : w28.cell? ⟨gb288, 2, none⟩ = some (.bool false) := (blk_cell BK288.out 2).trans rfl; have hcz29_3 : w28.cell? ⟨gb288, 3, none⟩ = some (.string a0_3) := (blk_cell BK288.out 3).trans rfl; have hfz29_0 := blk_frozen BK288.out 0; have hfz29_1 := blk_frozen BK288.out 1; have hfz29_2 := blk_frozen BK288.out 2; have hfz29_3 := blk_frozen BK288.out 3) | (go_at_call 68; (with_reducible refine (impl_within.calls a0_1 0 30 true _ A2.out).mono ?_); rintro e w' ⟨rfl, ⟨nd, rfl⟩⟩; (try exact KT)) | (go_at_call 80; (with_reducible refine (impl_PlaceOk.calls a0_0 false _ A23.out).mono ?_); rintro e w' ⟨rfl, ⟨nd, rfl⟩⟩; (try exact KT))))
     go_ret
     exact ⟨KE, KB⟩
  ·rw [if_neg c4] at H
   have c4b0 : (a0_1 == 0) = false := beq_eq_false_iff_ne.mpr c4
   have c4b1 : (a0_1 != 0) = true := bne_iff_ne.mpr c4
   replace H := Option.bind_eq_some_iff.mp H
   obtain ⟨t295, A300, H⟩ := H
   replace H : (if a0_2 = true then (if a0_1 > 0 then ((impl_PlaceOk.f a0_0).bind fun t296 => (if t296 = true then (if a0_1 > t295 then (if a0_3.toList = ([] : List UInt8) then ((impl_dataOk.f a0_3).bind fun t297 => (some t297)) else (some false)) else (some false)) else (some false))) else ((impl_PlaceOk.f a0_0).bind fun t298 => (if t298 = true then (if a0_1 > t295 then (some false) else (some false)) else (some false)))) else ((impl_PlaceOk.f a0_0).bind fun t299 => (if t299 = true then (if a0_1 > t295 then ((impl_dataOk.f a0_3).bind fun t300 => (some t300)) else (some false)) else (some false)))) = some r := H
   have A30 := Aside0.mk A300
   clear A300
   by_cases c31 : a0_2 = true
   ·subst c31
    have H1 : (if a0_1 > 0 then ((impl_PlaceOk.f a0_0).bind fun t296 => (if t296 = true then (if a0_1 > t295 then (if a0_3.toList = ([] : List UInt8) then ((impl_dataOk.f a0_3).bind fun t297 => (some t297)) else (some false)) else (some false)) else (some false))) else ((impl_PlaceOk.f a0_0).bind fun t298 => (if t298 = true then (if a0_1 > t295 then (some false) else (some false)) else (some false)))) = some r := by rw [if_pos rfl] at H; exact H
    clear H
    have H := H1
    clear H1
    by_cases c32 : a0_1 > 0
    ·rw [if_pos c32] at H
     have c32b0 : decide (0 < a0_1) = true := decide_eq_true c32
     clear c32
     replace H := Option.bind_eq_some_iff.mp H
     obtain ⟨t296, A330, H⟩ := H
     replace H : (if t296 = true then (if a0_1 > t295 then (if a0_3.toList = ([] : List UInt8) then ((impl_dataOk.f a0_3).bind fun t297 => (some t297)) else (some false)) else (some false)) else (some false)) = some r := H
     have A33 := Aside0.mk A330
     clear A330
     by_cases c34 : t296 = true
     ·subst c34
      have H1 : (if a0_1 > t295 then (if a0_3.toList = ([] : List UInt8) then ((impl_dataOk.f a0_3).bind fun t297 => (some t297)) else (some false)) else (some false)) = some r := by rw [if_pos rfl] at H; exact H
      clear H
      have H := H1
      clear H1
      by_cases c35 : a0_1 > t295
      ·rw [if_pos c35] at H
       have c35b0 : decide (t295 < a0_1) = true := decide_eq_true c35
       clear c35
       by_cases c36 : a0_3.toList = ([] : List UInt8)
       ·rw [if_pos c36] at H
        have c36b0 : (a0_3.toList == ([] : List UInt8)) = true := beq_iff_eq.mpr c36
        have c36b1 : (a0_3.toList != ([] : List UInt8)) = false := bne_eq_false_iff_eq.mpr c36
        clear c36
        replace H := Option.bind_eq_some_iff.mp H
        obtain ⟨t297, A370, H⟩ := H
        replace H : (some t297) = some r := H
        have A37 := Aside0.mk A370
        clear A370
        obtain rfl := Option.some.inj H
        go_enter Try.func76, Try.ntmps76
        go_wp2_with (first | ((with_reducible refine gate_dst (N := 1) rfl ?_); refine box_event ?hg (N := 1) ?hd (cs := #[.int .i64 a0_0, .int .i64 a0_1, .bool true, .string a0_3]) (t := 34) ?hr ?_; (case hd => rfl); (case hg => rfl); (case hr => first | (go_simp; done) | (go_simp; rfl)); intro gb288 hg w38 hbox hb; have n0_ := Aside0.mk (below_step KB hb); have n1_ := Aside0.mk (hbox); have n2_ := Aside0.mk ((KG hg : w.heap.size ≤ gb288)); have n3_ := Aside0.mk ((KG hg : w.heap.size ≤ gb288)); clear HB; have HB := n0_; have BK288 := n1_; have GW288 := n2_; have GE288 := n3_; clear n0_ n1_ n2_ n3_; clear hb hbox hg; have hcz39_0 : w38.cell? ⟨gb288, 0, none⟩ = some (.int .i64 a0_0) := (blk_cell BK288.out 0).trans rfl; have hcz39_1 : w38.cell? ⟨gb288, 1, none⟩ = some (.int .i64 a0_1) := (blk_cell BK288.out 1).trans rfl; have hcz39_2 : w38.cell? ⟨gb288, 2, none⟩ = some (.bool true) := (blk_cell BK288.out 2).trans rfl; have hcz39_3 : w38.cell? ⟨gb288, 3, none⟩ = some (.string a0_3) := (blk_cell BK288.out 3).trans rfl; have hfz39_0 := blk_frozen BK288.out 0; have hfz39_1 := blk_frozen BK288.out 1; have hfz39_2 := blk_frozen BK288.out 2; have hfz39_3 := blk_frozen BK288.out 3) | (go_at_call 68; (with_reducible refine (impl_within.calls a0_1 0 30 true _ A2.out).mono ?_); rintro e w' ⟨rfl, ⟨nd, rfl⟩⟩; (try exact KT)) | (go_at_call 59; (with_reducible refine (impl_EpochOf.calls a0_0 t295 _ A30.out).mono ?_); rintro e w' ⟨rfl, ⟨nd, rfl⟩⟩; (try exact KT)) | (go_at_call 80; (with_reducible refine (impl_PlaceOk.calls a0_0 true _ A33.out).mono ?_); rintro e w' ⟨rfl, ⟨nd, rfl⟩⟩; (try exact KT)) | (go_at_call 100; (with_reducible refine (impl_dataOk.calls a0_3 t297 _ A37.out).mono ?_); rintro e w' ⟨rfl, ⟨nd, rfl⟩⟩; (try exact KT)))
        repeat (go_quiet (first | (go_at_call 68; (with_reducible refine (impl_within.calls a0_1 0 30 true _ A2.out).mono ?_); rintro e w' ⟨rfl, ⟨nd, rfl⟩⟩; (try exact KT)) | (go_at_call 59; (with_reducible refine (impl_EpochOf.calls a0_0 t295 _ A30.out).mono ?_); rintro e w' ⟨rfl, ⟨nd, rfl⟩⟩; (try exact KT)) | (go_at_call 80; (with_reducible refine (impl_PlaceOk.calls a0_0 true _ A33.out).mono ?_); rintro e w' ⟨rfl, ⟨nd, rfl⟩⟩; (try exact KT)) | (go_at_call 100; (with_reducible refine (impl_dataOk.calls a0_3 t297 _ A37.out).mono ?_); rintro e w' ⟨rfl, ⟨nd, rfl⟩⟩; (try exact KT))); try go_wp2_with (first | ((with_reducible refine gate_dst (N := 1) rfl ?_); refine box_event ?hg (N := 1) ?hd (cs := #[.int .i64 a0_0, .int .i64 a0_1, .bool true, .string a0_3]) (t := 34) ?hr ?_; (case hd => rfl); (case hg => rfl); (case hr => first | (go_simp; done) | (go_simp; rfl)); intro gb288 hg w38 hbox hb; have n0_ := Aside0.mk (below_step KB hb); have n1_ := Aside0.mk (hbox); have n2_ := Aside0.mk ((KG hg : w.heap.size ≤ gb288)); have n3_ := Aside0.mk ((KG hg : w.heap.size ≤ gb288)); clear HB; have HB := n0_; have BK288 := n1_; have GW288 := n2_; have GE288 := n3_; clear n0_ n1_ n2_ n3_; clear hb hbox hg; have hcz39_0 : w38.cell? ⟨gb288, 0, none⟩ = some (.int .i64 a0_0) := (blk_cell BK288.out 0).trans rfl; have hcz39_1 : w38.cell? ⟨gb288, 1, none⟩ = some (.int .i64 a0_1) := (blk_cell BK288.out 1).trans rfl; have hcz39_2 : w38.cell? ⟨gb288, 2, none⟩ = some (.bool true) := (blk_cell BK288.out 2).trans rfl; have hcz39_3 : w38.cell? ⟨gb288, 3, none⟩ = some (.string a0_3) := (blk_cell BK288.out 3).trans rfl; have hfz39_0 := blk_frozen BK288.out 0; have hfz39_1 := blk_frozen BK288.out 1; have hfz39_2 := blk_frozen BK288.out 2; have hfz39_3 := blk_frozen BK288.out 3) | (go_at_call 68; (with_reducible refine (impl_within.calls a0_1 0 30 true _ A2.out).mono ?_); rintro e w' ⟨rfl, ⟨nd, rfl⟩⟩; (try exact KT)) | (go_at_call 59; (with_reducible refine (impl_EpochOf.calls a0_0 t295 _ A30.out).mono ?_); rintro e w' ⟨rfl, ⟨nd, rfl⟩⟩; (try exact KT)) | (go_at_call 80; (with_reducible refine (impl_PlaceOk.calls a0_0 true _ A33.out).mono ?_); rintro e w' ⟨rfl, ⟨nd, rfl⟩⟩; (try exact KT)) | (go_at_call 100; (with_reducible refine (impl_dataOk.calls a0_3 t297 _ A37.out).mono ?_); rintro e w' ⟨rfl, ⟨nd, rfl⟩⟩; (try exact KT))))
        go_ret
        exact ⟨KE, KB⟩
       ·rw [if_neg c36] at H
        have c36b0 : (a0_3.toList == ([] : List UInt8)) = false := beq_eq_false_iff_ne.mpr c36
        have c36b1 : (a0_3.toList != ([] : List UInt8)) = true := bne_iff_ne.mpr c36
        obtain rfl := Option.some.inj H
        go_enter Try.func76, Try.ntmps76
        go_wp2_with (first | ((with_reducible refine gate_dst (N := 1) rfl ?_); refine box_event ?hg (N := 1) ?hd (cs := #[.int .i64 a0_0, .int .i64 a0_1, .bool true, .string a0_3]) (t := 34) ?hr ?_; (case hd => rfl); (case hg => rfl); (case hr => first | (go_simp; done) | (go_simp; rfl)); intro gb288 hg w40 hbox hb; have n0_ := Aside0.mk (below_step KB hb); have n1_ := Aside0.mk (hbox); have n2_ := Aside0.mk ((KG hg : w.heap.size ≤ gb288)); have n3_ := Aside0.mk ((KG hg : w.heap.size ≤ gb288)); clear HB; have HB := n0_; have BK288 := n1_; have GW288 := n2_; have GE288 := n3_; clear n0_ n1_ n2_ n3_; clear hb hbox hg; have hcz41_0 : w40.cell? ⟨gb288, 0, none⟩ = some (.int .i64 a0_0) := (blk_cell BK288.out 0).trans rfl; have hcz41_1 : w40.cell? ⟨gb288, 1, none⟩ = some (.int .i64 a0_1) := (blk_cell BK288.out 1).trans rfl; have hcz41_2 : w40.cell? ⟨gb288, 2, none⟩ = some (.bool true) := (blk_cell BK288.out 2).trans rfl; have hcz41_3 : w40.cell? ⟨gb288, 3, none⟩ = some (.string a0_3) := (blk_cell BK288.out 3).trans rfl; have hfz41_0 := blk_frozen BK288.out 0; have hfz41_1 := blk_frozen BK288.out 1; have hfz41_2 := blk_frozen BK288.out 2; have hfz41_3 := blk_frozen BK288.out 3) | (go_at_call 68; (with_reducible refine (impl_within.calls a0_1 0 30 true _ A2.out).mono ?_); rintro e w' ⟨rfl, ⟨nd, rfl⟩⟩; (try exact KT)) | (go_at_call 59; (with_reducible refine (impl_EpochOf.calls a0_0 t295 _ A30.out).mono ?_); rintro e w' ⟨rfl, ⟨nd, rfl⟩⟩; (try exact KT)) | (go_at_call 80; (with_reducible refine (impl_PlaceOk.calls a0_0 true _ A33.out).mono ?_); rintro e w' ⟨rfl, ⟨nd, rfl⟩⟩; (try exact KT)))
        repeat (go_quiet (first | (go_at_call 68; (with_reducible refine (impl_within.calls a0_1 0 30 true _ A2.out).mono ?_); rintro e w' ⟨rfl, ⟨nd, rfl⟩⟩; (try exact KT)) | (go_at_call 59; (with_reducible refine (impl_EpochOf.calls a0_0 t295 _ A30.out).mono ?_); rintro e w' ⟨rfl, ⟨nd, rfl⟩⟩; (try exact KT)) | (go_at_call 80; (with_reducible refine (impl_PlaceOk.calls a0_0 true _ A33.out).mono ?_); rintro e w' ⟨rfl, ⟨nd, rfl⟩⟩; (try exact KT))); try go_wp2_with (first | ((with_reducible refine gate_dst (N := 1) rfl ?_); refine box_event ?hg (N := 1) ?hd (cs := #[.int .i64 a0_0, .int .i64 a0_1, .bool true, .string a0_3]) (t := 34) ?hr ?_; (case hd => rfl); (case hg => rfl); (case hr => first | (go_simp; done) | (go_simp; rfl)); intro gb288 hg w40 hbox hb; have n0_ := Aside0.mk (below_step KB hb); have n1_ := Aside0.mk (hbox); have n2_ := Aside0.mk ((KG hg : w.heap.size ≤ gb288)); have n3_ := Aside0.mk ((KG hg : w.heap.size ≤ gb288)); clear HB; have HB := n0_; have BK288 := n1_; have GW288 := n2_; have GE288 := n3_; clear n0_ n1_ n2_ n3_; clear hb hbox hg; have hcz41_0 : w40.cell? ⟨gb288, 0, none⟩ = some (.int .i64 a0_0) := (blk_cell BK288.out 0).trans rfl; have hcz41_1 : w40.cell? ⟨gb288, 1, none⟩ = some (.int .i64 a0_1) := (blk_cell BK288.out 1).trans rfl; have hcz41_2 : w40.cell? ⟨gb288, 2, none⟩ = some (.bool true) := (blk_cell BK288.out 2).trans rfl; have hcz41_3 : w40.cell? ⟨gb288, 3, none⟩ = some (.string a0_3) := (blk_cell BK288.out 3).trans rfl; have hfz41_0 := blk_frozen BK288.out 0; have hfz41_1 := blk_frozen BK288.out 1; have hfz41_2 := blk_frozen BK288.out 2; have hfz41_3 := blk_frozen BK288.out 3) | (go_at_call 68; (with_reducible refine (impl_within.calls a0_1 0 30 true _ A2.out).mono ?_); rintro e w' ⟨rfl, ⟨nd, rfl⟩⟩; (try exact KT)) | (go_at_call 59; (with_reducible refine (impl_EpochOf.calls a0_0 t295 _ A30.out).mono ?_); rintro e w' ⟨rfl, ⟨nd, rfl⟩⟩; (try exact KT)) | (go_at_call 80; (with_reducible refine (impl_PlaceOk.calls a0_0 true _ A33.out).mono ?_); rintro e w' ⟨rfl, ⟨nd, rfl⟩⟩; (try exact KT))))
        go_ret
        exact ⟨KE, KB⟩
      ·rw [if_neg c35] at H
       have c35b0 : decide (t295 < a0_1) = false := decide_eq_false c35
       clear c35
       obtain rfl := Option.some.inj H
       go_enter Try.func76, Try.ntmps76
       go_wp2_with (first | ((with_reducible refine gate_dst (N := 1) rfl ?_); refine box_event ?hg (N := 1) ?hd (cs := #[.int .i64 a0_0, .int .i64 a0_1, .bool true, .string a0_3]) (t := 34) ?hr ?_; (case hd => rfl); (case hg => rfl); (case hr => first | (go_simp; done) | (go_simp; rfl)); intro gb288 hg w42 hbox hb; have n0_ := Aside0.mk (below_step KB hb); have n1_ := Aside0.mk (hbox); have n2_ := Aside0.mk ((KG hg : w.heap.size ≤ gb288)); have n3_ := Aside0.mk ((KG hg : w.heap.size ≤ gb288)); clear HB; have HB := n0_; have BK288 := n1_; have GW288 := n2_; have GE288 := n3_; clear n0_ n1_ n2_ n3_; clear hb hbox hg; have hcz43_0 : w42.cell? ⟨gb288, 0, none⟩ = some (.int .i64 a0_0) := (blk_cell BK288.out 0).trans rfl; have hcz43_1 : w42.cell? ⟨gb288, 1, none⟩ = some (.int .i64 a0_1) := (blk_cell BK288.out 1).trans rfl; have hcz43_2 : w42.cell? ⟨gb288, 2, none⟩ = some (.bool true) := (blk_cell BK288.out 2).trans rfl; have hcz43_3 : w42.cell? ⟨gb288, 3, none⟩ = some (.string a0_3) := (blk_cell BK288.out 3).trans rfl; have hfz43_0 := blk_frozen BK288.out 0; have hfz43_1 := blk_frozen BK288.out 1; have hfz43_2 := blk_frozen BK288.out 2; have hfz43_3 := blk_frozen BK288.out 3) | (go_at_call 68; (with_reducible refine (impl_within.calls a0_1 0 30 true _ A2.out).mono ?_); rintro e w' ⟨rfl, ⟨nd, rfl⟩⟩; (try exact KT)) | (go_at_call 59; (with_reducible refine (impl_EpochOf.calls a0_0 t295 _ A30.out).mono ?_); rintro e w' ⟨rfl, ⟨nd, rfl⟩⟩; (try exact KT)) | (go_at_call 80; (with_reducible refine (impl_PlaceOk.calls a0_0 true _ A33.out).mono ?_); rintro e w' ⟨rfl, ⟨nd, rfl⟩⟩; (try exact KT)))
       repeat (go_quiet (first | (go_at_call 68; (with_reducible refine (impl_within.calls a0_1 0 30 true _ A2.out).mono ?_); rintro e w' ⟨rfl, ⟨nd, rfl⟩⟩; (try exact KT)) | (go_at_call 59; (with_reducible refine (impl_EpochOf.calls a0_0 t295 _ A30.out).mono ?_); rintro e w' ⟨rfl, ⟨nd, rfl⟩⟩; (try exact KT)) | (go_at_call 80; (with_reducible refine (impl_PlaceOk.calls a0_0 true _ A33.out).mono ?_); rintro e w' ⟨rfl, ⟨nd, rfl⟩⟩; (try exact KT))); try go_wp2_with (first | ((with_reducible refine gate_dst (N := 1) rfl ?_); refine box_event ?hg (N := 1) ?hd (cs := #[.int .i64 a0_0, .int .i64 a0_1, .bool true, .string a0_3]) (t := 34) ?hr ?_; (case hd => rfl); (case hg => rfl); (case hr => first | (go_simp; done) | (go_simp; rfl)); intro gb288 hg w42 hbox hb; have n0_ := Aside0.mk (below_step KB hb); have n1_ := Aside0.mk (hbox); have n2_ := Aside0.mk ((KG hg : w.heap.size ≤ gb288)); have n3_ := Aside0.mk ((KG hg : w.heap.size ≤ gb288)); clear HB; have HB := n0_; have BK288 := n1_; have GW288 := n2_; have GE288 := n3_; clear n0_ n1_ n2_ n3_; clear hb hbox hg; have hcz43_0 : w42.cell? ⟨gb288, 0, none⟩ = some (.int .i64 a0_0) := (blk_cell BK288.out 0).trans rfl; have hcz43_1 : w42.cell? ⟨gb288, 1, none⟩ = some (.int .i64 a0_1) := (blk_cell BK288.out 1).trans rfl; have hcz43_2 : w42.cell? ⟨gb288, 2, none⟩ = some (.bool true) := (blk_cell BK288.out 2).trans rfl; have hcz43_3 : w42.cell? ⟨gb288, 3, none⟩ = some (.string a0_3) := (blk_cell BK288.out 3).trans rfl; have hfz43_0 := blk_frozen BK288.out 0; have hfz43_1 := blk_frozen BK288.out 1; have hfz43_2 := blk_frozen BK288.out 2; have hfz43_3 := blk_frozen BK288.out 3) | (go_at_call 68; (with_reducible refine (impl_within.calls a0_1 0 30 true _ A2.out).mono ?_); rintro e w' ⟨rfl, ⟨nd, rfl⟩⟩; (try exact KT)) | (go_at_call 59; (with_reducible refine (impl_EpochOf.calls a0_0 t295 _ A30.out).mono ?_); rintro e w' ⟨rfl, ⟨nd, rfl⟩⟩; (try exact KT)) | (go_at_call 80; (with_reducible refine (impl_PlaceOk.calls a0_0 true _ A33.out).mono ?_); rintro e w' ⟨rfl, ⟨nd, rfl⟩⟩; (try exact KT))))
       go_ret
       exact ⟨KE, KB⟩
     ·replace c34 := Bool.eq_false_iff.mpr c34
      subst c34
      have H1 : (some false) = some r := by rw [if_neg (show ¬ (false = true) by decide)] at H; exact H
      clear H
      have H := H1
      clear H1
      obtain rfl := Option.some.inj H
      go_enter Try.func76, Try.ntmps76
      go_wp2_with (first | ((with_reducible refine gate_dst (N := 1) rfl ?_); refine box_event ?hg (N := 1) ?hd (cs := #[.int .i64 a0_0, .int .i64 a0_1, .bool true, .string a0_3]) (t := 34) ?hr ?_; (case hd => rfl); (case hg => rfl); (case hr => first | (go_simp; done) | (go_simp; rfl)); intro gb288 hg w44 hbox hb; have n0_ := Aside0.mk (below_step KB hb); have n1_ := Aside0.mk (hbox); have n2_ := Aside0.mk ((KG hg : w.heap.size ≤ gb288)); have n3_ := Aside0.mk ((KG hg : w.heap.size ≤ gb288)); clear HB; have HB := n0_; have BK288 := n1_; have GW288 := n2_; have GE288 := n3_; clear n0_ n1_ n2_ n3_; clear hb hbox hg; have hcz45_0 : w44.cell? ⟨gb288, 0, none⟩ = some (.int .i64 a0_0) := (blk_cell BK288.out 0).trans rfl; have hcz45_1 : w44.cell? ⟨gb288, 1, none⟩ = some (.int .i64 a0_1) := (blk_cell BK288.out 1).trans rfl; have hcz45_2 : w44.cell? ⟨gb288, 2, none⟩ = some (.bool true) := (blk_cell BK288.out 2).trans rfl; have hcz45_3 : w44.cell? ⟨gb288, 3, none⟩ = some (.string a0_3) := (blk_cell BK288.out 3).trans rfl; have hfz45_0 := blk_frozen BK288.out 0; have hfz45_1 := blk_frozen BK288.out 1; have hfz45_2 := blk_frozen BK288.out 2; have hfz45_3 := blk_frozen BK288.out 3) | (go_at_call 68; (with_reducible refine (impl_within.calls a0_1 0 30 true _ A2.out).mono ?_); rintro e w' ⟨rfl, ⟨nd, rfl⟩⟩; (try exact KT)) | (go_at_call 59; (with_reducible refine (impl_EpochOf.calls a0_0 t295 _ A30.out).mono ?_); rintro e w' ⟨rfl, ⟨nd, rfl⟩⟩; (try exact KT)) | (go_at_call 80; (with_reducible refine (impl_PlaceOk.calls a0_0 false _ A33.out).mono ?_); rintro e w' ⟨rfl, ⟨nd, rfl⟩⟩; (try exact KT)))
      repeat (go_quiet (first | (go_at_call 68; (with_reducible refine (impl_within.calls a0_1 0 30 true _ A2.out).mono ?_); rintro e w' ⟨rfl, ⟨nd, rfl⟩⟩; (try exact KT)) | (go_at_call 59; (with_reducible refine (impl_EpochOf.calls a0_0 t295 _ A30.out).mono ?_); rintro e w' ⟨rfl, ⟨nd, rfl⟩⟩; (try exact KT)) | (go_at_call 80; (with_reducible refine (impl_PlaceOk.calls a0_0 false _ A33.out).mono ?_); rintro e w' ⟨rfl, ⟨nd, rfl⟩⟩; (try exact KT))); try go_wp2_with (first | ((with_reducible refine gate_dst (N := 1) rfl ?_); refine box_event ?hg (N := 1) ?hd (cs := #[.int .i64 a0_0, .int .i64 a0_1, .bool true, .string a0_3]) (t := 34) ?hr ?_; (case hd => rfl); (case hg => rfl); (case hr => first | (go_simp; done) | (go_simp; rfl)); intro gb288 hg w44 hbox hb; have n0_ := Aside0.mk (below_step KB hb); have n1_ := Aside0.mk (hbox); have n2_ := Aside0.mk ((KG hg : w.heap.size ≤ gb288)); have n3_ := Aside0.mk ((KG hg : w.heap.size ≤ gb288)); clear HB; have HB := n0_; have BK288 := n1_; have GW288 := n2_; have GE288 := n3_; clear n0_ n1_ n2_ n3_; clear hb hbox hg; have hcz45_0 : w44.cell? ⟨gb288, 0, none⟩ = some (.int .i64 a0_0) := (blk_cell BK288.out 0).trans rfl; have hcz45_1 : w44.cell? ⟨gb288, 1, none⟩ = some (.int .i64 a0_1) := (blk_cell BK288.out 1).trans rfl; have hcz45_2 : w44.cell? ⟨gb288, 2, none⟩ = some (.bool true) := (blk_cell BK288.out 2).trans rfl; have hcz45_3 : w44.cell? ⟨gb288, 3, none⟩ = some (.string a0_3) := (blk_cell BK288.out 3).trans rfl; have hfz45_0 := blk_frozen BK288.out 0; have hfz45_1 := blk_frozen BK288.out 1; have hfz45_2 := blk_frozen BK288.out 2; have hfz45_3 := blk_frozen BK288.out 3) | (go_at_call 68; (with_reducible refine (impl_within.calls a0_1 0 30 true _ A2.out).mono ?_); rintro e w' ⟨rfl, ⟨nd, rfl⟩⟩; (try exact KT)) | (go_at_call 59; (with_reducible refine (impl_EpochOf.calls a0_0 t295 _ A30.out).mono ?_); rintro e w' ⟨rfl, ⟨nd, rfl⟩⟩; (try exact KT)) | (go_at_call 80; (with_reducible refine (impl_PlaceOk.calls a0_0 false _ A33.out).mono ?_); rintro e w' ⟨rfl, ⟨nd, rfl⟩⟩; (try exact KT))))
      go_ret
      exact ⟨KE, KB⟩
    ·rw [if_neg c32] at H
     have c32b0 : decide (0 < a0_1) = false := decide_eq_false c32
     clear c32
     replace H := Option.bind_eq_some_iff.mp H
     obtain ⟨t298, A460, H⟩ := H
     replace H : (if t298 = true then (if a0_1 > t295 then (some false) else (some false)) else (some false)) = some r := H
     have A46 := Aside0.mk A460
     clear A460
     by_cases c47 : t298 = true
     ·subst c47
      have H1 : (if a0_1 > t295 then (some false) else (some false)) = some r := by rw [if_pos rfl] at H; exact H
      clear H
      have H := H1
      clear H1
      by_cases c48 : a0_1 > t295
      ·rw [if_pos c48] at H
       have c48b0 : decide (t295 < a0_1) = true := decide_eq_true c48
       clear c48
       obtain rfl := Option.some.inj H
       go_enter Try.func76, Try.ntmps76
       go_wp2_with (first | ((with_reducible refine gate_dst (N := 1) rfl ?_); refine box_event ?hg (N := 1) ?hd (cs := #[.int .i64 a0_0, .int .i64 a0_1, .bool true, .string a0_3]) (t := 34) ?hr ?_; (case hd => rfl); (case hg => rfl); (case hr => first | (go_simp; done) | (go_simp; rfl)); intro gb288 hg w49 hbox hb; have n0_ := Aside0.mk (below_step KB hb); have n1_ := Aside0.mk (hbox); have n2_ := Aside0.mk ((KG hg : w.heap.size ≤ gb288)); have n3_ := Aside0.mk ((KG hg : w.heap.size ≤ gb288)); clear HB; have HB := n0_; have BK288 := n1_; have GW288 := n2_; have GE288 := n3_; clear n0_ n1_ n2_ n3_; clear hb hbox hg; have hcz50_0 : w49.cell? ⟨gb288, 0, none⟩ = some (.int .i64 a0_0) := (blk_cell BK288.out 0).trans rfl; have hcz50_1 : w49.cell? ⟨gb288, 1, none⟩ = some (.int .i64 a0_1) := (blk_cell BK288.out 1).trans rfl; have hcz50_2 : w49.cell? ⟨gb288, 2, none⟩ = some (.bool true) := (blk_cell BK288.out 2).trans rfl; have hcz50_3 : w49.cell? ⟨gb288, 3, none⟩ = some (.string a0_3) := (blk_cell BK288.out 3).trans rfl; have hfz50_0 := blk_frozen BK288.out 0; have hfz50_1 := blk_frozen BK288.out 1; have hfz50_2 := blk_frozen BK288.out 2; have hfz50_3 := blk_frozen BK288.out 3) | (go_at_call 68; (with_reducible refine (impl_within.calls a0_1 0 30 true _ A2.out).mono ?_); rintro e w' ⟨rfl, ⟨nd, rfl⟩⟩; (try exact KT)) | (go_at_call 59; (with_reducible refine (impl_EpochOf.calls a0_0 t295 _ A30.out).mono ?_); rintro e w' ⟨rfl, ⟨nd, rfl⟩⟩; (try exact KT)) | (go_at_call 80; (with_reducible refine (impl_PlaceOk.calls a0_0 true _ A46.out).mono ?_); rintro e w' ⟨rfl, ⟨nd, rfl⟩⟩; (try exact KT)))
       repeat (go_quiet (first | (go_at_call 68; (with_reducible refine (impl_within.calls a0_1 0 30 true _ A2.out).mono ?_); rintro e w' ⟨rfl, ⟨nd, rfl⟩⟩; (try exact KT)) | (go_at_call 59; (with_reducible refine (impl_EpochOf.calls a0_0 t295 _ A30.out).mono ?_); rintro e w' ⟨rfl, ⟨nd, rfl⟩⟩; (try exact KT)) | (go_at_call 80; (with_reducible refine (impl_PlaceOk.calls a0_0 true _ A46.out).mono ?_); rintro e w' ⟨rfl, ⟨nd, rfl⟩⟩; (try exact KT))); try go_wp2_with (first | ((with_reducible refine gate_dst (N := 1) rfl ?_); refine box_event ?hg (N := 1) ?hd (cs := #[.int .i64 a0_0, .int .i64 a0_1, .bool true, .string a0_3]) (t := 34) ?hr ?_; (case hd => rfl); (case hg => rfl); (case hr => first | (go_simp; done) | (go_simp; rfl)); intro gb288 hg w49 hbox hb; have n0_ := Aside0.mk (below_step KB hb); have n1_ := Aside0.mk (hbox); have n2_ := Aside0.mk ((KG hg : w.heap.size ≤ gb288)); have n3_ := Aside0.mk ((KG hg : w.heap.size ≤ gb288)); clear HB; have HB := n0_; have BK288 := n1_; have GW288 := n2_; have GE288 := n3_; clear n0_ n1_ n2_ n3_; clear hb hbox hg; have hcz50_0 : w49.cell? ⟨gb288, 0, none⟩ = some (.int .i64 a0_0) := (blk_cell BK288.out 0).trans rfl; have hcz50_1 : w49.cell? ⟨gb288, 1, none⟩ = some (.int .i64 a0_1) := (blk_cell BK288.out 1).trans rfl; have hcz50_2 : w49.cell? ⟨gb288, 2, none⟩ = some (.bool true) := (blk_cell BK288.out 2).trans rfl; have hcz50_3 : w49.cell? ⟨gb288, 3, none⟩ = some (.string a0_3) := (blk_cell BK288.out 3).trans rfl; have hfz50_0 := blk_frozen BK288.out 0; have hfz50_1 := blk_frozen BK288.out 1; have hfz50_2 := blk_frozen BK288.out 2; have hfz50_3 := blk_frozen BK288.out 3) | (go_at_call 68; (with_reducible refine (impl_within.calls a0_1 0 30 true _ A2.out).mono ?_); rintro e w' ⟨rfl, ⟨nd, rfl⟩⟩; (try exact KT)) | (go_at_call 59; (with_reducible refine (impl_EpochOf.calls a0_0 t295 _ A30.out).mono ?_); rintro e w' ⟨rfl, ⟨nd, rfl⟩⟩; (try exact KT)) | (go_at_call 80; (with_reducible refine (impl_PlaceOk.calls a0_0 true _ A46.out).mono ?_); rintro e w' ⟨rfl, ⟨nd, rfl⟩⟩; (try exact KT))))
       go_ret
       exact ⟨KE, KB⟩
      ·rw [if_neg c48] at H
       have c48b0 : decide (t295 < a0_1) = false := decide_eq_false c48
       clear c48
       obtain rfl := Option.some.inj H
       go_enter Try.func76, Try.ntmps76
       go_wp2_with (first | ((with_reducible refine gate_dst (N := 1) rfl ?_); refine box_event ?hg (N := 1) ?hd (cs := #[.int .i64 a0_0, .int .i64 a0_1, .bool true, .string a0_3]) (t := 34) ?hr ?_; (case hd => rfl); (case hg => rfl); (case hr => first | (go_simp; done) | (go_simp; rfl)); intro gb288 hg w51 hbox hb; have n0_ := Aside0.mk (below_step KB hb); have n1_ := Aside0.mk (hbox); have n2_ := Aside0.mk ((KG hg : w.heap.size ≤ gb288)); have n3_ := Aside0.mk ((KG hg : w.heap.size ≤ gb288)); clear HB; have HB := n0_; have BK288 := n1_; have GW288 := n2_; have GE288 := n3_; clear n0_ n1_ n2_ n3_; clear hb hbox hg; have hcz52_0 : w51.cell? ⟨gb288, 0, none⟩ = some (.int .i64 a0_0) := (blk_cell BK288.out 0).trans rfl; have hcz52_1 : w51.cell? ⟨gb288, 1, none⟩ = some (.int .i64 a0_1) := (blk_cell BK288.out 1).trans rfl; have hcz52_2 : w51.cell? ⟨gb288, 2, none⟩ = some (.bool true) := (blk_cell BK288.out 2).trans rfl; have hcz52_3 : w51.cell? ⟨gb288, 3, none⟩ = some (.string a0_3) := (blk_cell BK288.out 3).trans rfl; have hfz52_0 := blk_frozen BK288.out 0; have hfz52_1 := blk_frozen BK288.out 1; have hfz52_2 := blk_frozen BK288.out 2; have hfz52_3 := blk_frozen BK288.out 3) | (go_at_call 68; (with_reducible refine (impl_within.calls a0_1 0 30 true _ A2.out).mono ?_); rintro e w' ⟨rfl, ⟨nd, rfl⟩⟩; (try exact KT)) | (go_at_call 59; (with_reducible refine (impl_EpochOf.calls a0_0 t295 _ A30.out).mono ?_); rintro e w' ⟨rfl, ⟨nd, rfl⟩⟩; (try exact KT)) | (go_at_call 80; (with_reducible refine (impl_PlaceOk.calls a0_0 true _ A46.out).mono ?_); rintro e w' ⟨rfl, ⟨nd, rfl⟩⟩; (try exact KT)))
       repeat (go_quiet (first | (go_at_call 68; (with_reducible refine (impl_within.calls a0_1 0 30 true _ A2.out).mono ?_); rintro e w' ⟨rfl, ⟨nd, rfl⟩⟩; (try exact KT)) | (go_at_call 59; (with_reducible refine (impl_EpochOf.calls a0_0 t295 _ A30.out).mono ?_); rintro e w' ⟨rfl, ⟨nd, rfl⟩⟩; (try exact KT)) | (go_at_call 80; (with_reducible refine (impl_PlaceOk.calls a0_0 true _ A46.out).mono ?_); rintro e w' ⟨rfl, ⟨nd, rfl⟩⟩; (try exact KT))); try go_wp2_with (first | ((with_reducible refine gate_dst (N := 1) rfl ?_); refine box_event ?hg (N := 1) ?hd (cs := #[.int .i64 a0_0, .int .i64 a0_1, .bool true, .string a0_3]) (t := 34) ?hr ?_; (case hd => rfl); (case hg => rfl); (case hr => first | (go_simp; done) | (go_simp; rfl)); intro gb288 hg w51 hbox hb; have n0_ := Aside0.mk (below_step KB hb); have n1_ := Aside0.mk (hbox); have n2_ := Aside0.mk ((KG hg : w.heap.size ≤ gb288)); have n3_ := Aside0.mk ((KG hg : w.heap.size ≤ gb288)); clear HB; have HB := n0_; have BK288 := n1_; have GW288 := n2_; have GE288 := n3_; clear n0_ n1_ n2_ n3_; clear hb hbox hg; have hcz52_0 : w51.cell? ⟨gb288, 0, none⟩ = some (.int .i64 a0_0) := (blk_cell BK288.out 0).trans rfl; have hcz52_1 : w51.cell? ⟨gb288, 1, none⟩ = some (.int .i64 a0_1) := (blk_cell BK288.out 1).trans rfl; have hcz52_2 : w51.cell? ⟨gb288, 2, none⟩ = some (.bool true) := (blk_cell BK288.out 2).trans rfl; have hcz52_3 : w51.cell? ⟨gb288, 3, none⟩ = some (.string a0_3) := (blk_cell BK288.out 3).trans rfl; have hfz52_0 := blk_frozen BK288.out 0; have hfz52_1 := blk_frozen BK288.out 1; have hfz52_2 := blk_frozen BK288.out 2; have hfz52_3 := blk_frozen BK288.out 3) | (go_at_call 68; (with_reducible refine (impl_within.calls a0_1 0 30 true _ A2.out).mono ?_); rintro e w' ⟨rfl, ⟨nd, rfl⟩⟩; (try exact KT)) | (go_at_call 59; (with_reducible refine (impl_EpochOf.calls a0_0 t295 _ A30.out).mono ?_); rintro e w' ⟨rfl, ⟨nd, rfl⟩⟩; (try exact KT)) | (go_at_call 80; (with_reducible refine (impl_PlaceOk.calls a0_0 true _ A46.out).mono ?_); rintro e w' ⟨rfl, ⟨nd, rfl⟩⟩; (try exact KT))))
       go_ret
       exact ⟨KE, KB⟩
     ·replace c47 := Bool.eq_false_iff.mpr c47
      subst c47
      have H1 : (some false) = some r := by rw [if_neg (show ¬ (false = true) by decide)] at H; exact H
      clear H
      have H := H1
      clear H1
      obtain rfl := Option.some.inj H
      go_enter Try.func76, Try.ntmps76
      go_wp2_with (first | ((with_reducible refine gate_dst (N := 1) rfl ?_); refine box_event ?hg (N := 1) ?hd (cs := #[.int .i64 a0_0, .int .i64 a0_1, .bool true, .string a0_3]) (t := 34) ?hr ?_; (case hd => rfl); (case hg => rfl); (case hr => first | (go_simp; done) | (go_simp; rfl)); intro gb288 hg w53 hbox hb; have n0_ := Aside0.mk (below_step KB hb); have n1_ := Aside0.mk (hbox); have n2_ := Aside0.mk ((KG hg : w.heap.size ≤ gb288)); have n3_ := Aside0.mk ((KG hg : w.heap.size ≤ gb288)); clear HB; have HB := n0_; have BK288 := n1_; have GW288 := n2_; have GE288 := n3_; clear n0_ n1_ n2_ n3_; clear hb hbox hg; have hcz54_0 : w53.cell? ⟨gb288, 0, none⟩ = some (.int .i64 a0_0) := (blk_cell BK288.out 0).trans rfl; have hcz54_1 : w53.cell? ⟨gb288, 1, none⟩ = some (.int .i64 a0_1) := (blk_cell BK288.out 1).trans rfl; have hcz54_2 : w53.cell? ⟨gb288, 2, none⟩ = some (.bool true) := (blk_cell BK288.out 2).trans rfl; have hcz54_3 : w53.cell? ⟨gb288, 3, none⟩ = some (.string a0_3) := (blk_cell BK288.out 3).trans rfl; have hfz54_0 := blk_frozen BK288.out 0; have hfz54_1 := blk_frozen BK288.out 1; have hfz54_2 := blk_frozen BK288.out 2; have hfz54_3 := blk_frozen BK288.out 3) | (go_at_call 68; (with_reducible refine (impl_within.calls a0_1 0 30 true _ A2.out).mono ?_); rintro e w' ⟨rfl, ⟨nd, rfl⟩⟩; (try exact KT)) | (go_at_call 59; (with_reducible refine (impl_EpochOf.calls a0_0 t295 _ A30.out).mono ?_); rintro e w' ⟨rfl, ⟨nd, rfl⟩⟩; (try exact KT)) | (go_at_call 80; (with_reducible refine (impl_PlaceOk.calls a0_0 false _ A46.out).mono ?_); rintro e w' ⟨rfl, ⟨nd, rfl⟩⟩; (try exact KT)))
      repeat (go_quiet (first | (go_at_call 68; (with_reducible refine (impl_within.calls a0_1 0 30 true _ A2.out).mono ?_); rintro e w' ⟨rfl, ⟨nd, rfl⟩⟩; (try exact KT)) | (go_at_call 59; (with_reducible refine (impl_EpochOf.calls a0_0 t295 _ A30.out).mono ?_); rintro e w' ⟨rfl, ⟨nd, rfl⟩⟩; (try exact KT)) | (go_at_call 80; (with_reducible refine (impl_PlaceOk.calls a0_0 false _ A46.out).mono ?_); rintro e w' ⟨rfl, ⟨nd, rfl⟩⟩; (try exact KT))); try go_wp2_with (first | ((with_reducible refine gate_dst (N := 1) rfl ?_); refine box_event ?hg (N := 1) ?hd (cs := #[.int .i64 a0_0, .int .i64 a0_1, .bool true, .string a0_3]) (t := 34) ?hr ?_; (case hd => rfl); (case hg => rfl); (case hr => first | (go_simp; done) | (go_simp; rfl)); intro gb288 hg w53 hbox hb; have n0_ := Aside0.mk (below_step KB hb); have n1_ := Aside0.mk (hbox); have n2_ := Aside0.mk ((KG hg : w.heap.size ≤ gb288)); have n3_ := Aside0.mk ((KG hg : w.heap.size ≤ gb288)); clear HB; have HB := n0_; have BK288 := n1_; have GW288 := n2_; have GE288 := n3_; clear n0_ n1_ n2_ n3_; clear hb hbox hg; have hcz54_0 : w53.cell? ⟨gb288, 0, none⟩ = some (.int .i64 a0_0) := (blk_cell BK288.out 0).trans rfl; have hcz54_1 : w53.cell? ⟨gb288, 1, none⟩ = some (.int .i64 a0_1) := (blk_cell BK288.out 1).trans rfl; have hcz54_2 : w53.cell? ⟨gb288, 2, none⟩ = some (.bool true) := (blk_cell BK288.out 2).trans rfl; have hcz54_3 : w53.cell? ⟨gb288, 3, none⟩ = some (.string a0_3) := (blk_cell BK288.out 3).trans rfl; have hfz54_0 := blk_frozen BK288.out 0; have hfz54_1 := blk_frozen BK288.out 1; have hfz54_2 := blk_frozen BK288.out 2; have hfz54_3 := blk_frozen BK288.out 3) | (go_at_call 68; (with_reducible refine (impl_within.calls a0_1 0 30 true _ A2.out).mono ?_); rintro e w' ⟨rfl, ⟨nd, rfl⟩⟩; (try exact KT)) | (go_at_call 59; (with_reducible refine (impl_EpochOf.calls a0_0 t295 _ A30.out).mono ?_); rintro e w' ⟨rfl, ⟨nd, rfl⟩⟩; (try exact KT)) | (go_at_call 80; (with_reducible refine (impl_PlaceOk.calls a0_0 false _ A46.out).mono ?_); rintro e w' ⟨rfl, ⟨nd, rfl⟩⟩; (try exact KT))))
      go_ret
      exact ⟨KE, KB⟩
   ·replace c31 := Bool.eq_false_iff.mpr c31
    subst c31
    have H1 : ((impl_PlaceOk.f a0_0).bind fun t299 => (if t299 = true then (if a0_1 > t295 then ((impl_dataOk.f a0_3).bind fun t300 => (some t300)) else (some false)) else (some false))) = some r := by rw [if_neg (show ¬ (false = true) by decide)] at H; exact H
    clear H
    have H := H1
    clear H1
    replace H := Option.bind_eq_some_iff.mp H
    obtain ⟨t299, A550, H⟩ := H
    replace H : (if t299 = true then (if a0_1 > t295 then ((impl_dataOk.f a0_3).bind fun t300 => (some t300)) else (some false)) else (some false)) = some r := H
    have A55 := Aside0.mk A550
    clear A550
    by_cases c56 : t299 = true
    ·subst c56
     have H1 : (if a0_1 > t295 then ((impl_dataOk.f a0_3).bind fun t300 => (some t300)) else (some false)) = some r := by rw [if_pos rfl] at H; exact H
     clear H
     have H := H1
     clear H1
     by_cases c57 : a0_1 > t295
     ·rw [if_pos c57] at H
      have c57b0 : decide (t295 < a0_1) = true := decide_eq_true c57
      clear c57
      replace H := Option.bind_eq_some_iff.mp H
      obtain ⟨t300, A580, H⟩ := H
      replace H : (some t300) = some r := H
      have A58 := Aside0.mk A580
      clear A580
      obtain rfl := Option.some.inj H
      go_enter Try.func76, Try.ntmps76
      go_wp2_with (first | ((with_reducible refine gate_dst (N := 1) rfl ?_); refine box_event ?hg (N := 1) ?hd (cs := #[.int .i64 a0_0, .int .i64 a0_1, .bool false, .string a0_3]) (t := 34) ?hr ?_; (case hd => rfl); (case hg => rfl); (case hr => first | (go_simp; done) | (go_simp; rfl)); intro gb288 hg w59 hbox hb; have n0_ := Aside0.mk (below_step KB hb); have n1_ := Aside0.mk (hbox); have n2_ := Aside0.mk ((KG hg : w.heap.size ≤ gb288)); have n3_ := Aside0.mk ((KG hg : w.heap.size ≤ gb288)); clear HB; have HB := n0_; have BK288 := n1_; have GW288 := n2_; have GE288 := n3_; clear n0_ n1_ n2_ n3_; clear hb hbox hg; have hcz60_0 : w59.cell? ⟨gb288, 0, none⟩ = some (.int .i64 a0_0) := (blk_cell BK288.out 0).trans rfl; have hcz60_1 : w59.cell? ⟨gb288, 1, none⟩ = some (.int .i64 a0_1) := (blk_cell BK288.out 1).trans rfl; have hcz60_2 : w59.cell? ⟨gb288, 2, none⟩ = some (.bool false) := (blk_cell BK288.out 2).trans rfl; have hcz60_3 : w59.cell? ⟨gb288, 3, none⟩ = some (.string a0_3) := (blk_cell BK288.out 3).trans rfl; have hfz60_0 := blk_frozen BK288.out 0; have hfz60_1 := blk_frozen BK288.out 1; have hfz60_2 := blk_frozen BK288.out 2; have hfz60_3 := blk_frozen BK288.out 3) | (go_at_call 68; (with_reducible refine (impl_within.calls a0_1 0 30 true _ A2.out).mono ?_); rintro e w' ⟨rfl, ⟨nd, rfl⟩⟩; (try exact KT)) | (go_at_call 59; (with_reducible refine (impl_EpochOf.calls a0_0 t295 _ A30.out).mono ?_); rintro e w' ⟨rfl, ⟨nd, rfl⟩⟩; (try exact KT)) | (go_at_call 80; (with_reducible refine (impl_PlaceOk.calls a0_0 true _ A55.out).mono ?_); rintro e w' ⟨rfl, ⟨nd, rfl⟩⟩; (try exact KT)) | (go_at_call 100; (with_reducible refine (impl_dataOk.calls a0_3 t300 _ A58.out).mono ?_); rintro e w' ⟨rfl, ⟨nd, rfl⟩⟩; (try exact KT)))
      repeat (go_quiet (first | (go_at_call 68; (with_reducible refine (impl_within.calls a0_1 0 30 true _ A2.out).mono ?_); rintro e w' ⟨rfl, ⟨nd, rfl⟩⟩; (try exact KT)) | (go_at_call 59; (with_reducible refine (impl_EpochOf.calls a0_0 t295 _ A30.out).mono ?_); rintro e w' ⟨rfl, ⟨nd, rfl⟩⟩; (try exact KT)) | (go_at_call 80; (with_reducible refine (impl_PlaceOk.calls a0_0 true _ A55.out).mono ?_); rintro e w' ⟨rfl, ⟨nd, rfl⟩⟩; (try exact KT)) | (go_at_call 100; (with_reducible refine (impl_dataOk.calls a0_3 t300 _ A58.out).mono ?_); rintro e w' ⟨rfl, ⟨nd, rfl⟩⟩; (try exact KT))); try go_wp2_with (first | ((with_reducible refine gate_dst (N := 1) rfl ?_); refine box_event ?hg (N := 1) ?hd (cs := #[.int .i64 a0_0, .int .i64 a0_1, .bool false, .string a0_3]) (t := 34) ?hr ?_; (case hd => rfl); (case hg => rfl); (case hr => first | (go_simp; done) | (go_simp; rfl)); intro gb288 hg w59 hbox hb; have n0_ := Aside0.mk (below_step KB hb); have n1_ := Aside0.mk (hbox); have n2_ := Aside0.mk ((KG hg : w.heap.size ≤ gb288)); have n3_ := Aside0.mk ((KG hg : w.heap.size ≤ gb288)); clear HB; have HB := n0_; have BK288 := n1_; have GW288 := n2_; have GE288 := n3_; clear n0_ n1_ n2_ n3_; clear hb hbox hg; have hcz60_0 : w59.cell? ⟨gb288, 0, none⟩ = some (.int .i64 a0_0) := (blk_cell BK288.out 0).trans rfl; have hcz60_1 : w59.cell? ⟨gb288, 1, none⟩ = some (.int .i64 a0_1) := (blk_cell BK288.out 1).trans rfl; have hcz60_2 : w59.cell? ⟨gb288, 2, none⟩ = some (.bool false) := (blk_cell BK288.out 2).trans rfl; have hcz60_3 : w59.cell? ⟨gb288, 3, none⟩ = some (.string a0_3) := (blk_cell BK288.out 3).trans rfl; have hfz60_0 := blk_frozen BK288.out 0; have hfz60_1 := blk_frozen BK288.out 1; have hfz60_2 := blk_frozen BK288.out 2; have hfz60_3 := blk_frozen BK288.out 3) | (go_at_call 68; (with_reducible refine (impl_within.calls a0_1 0 30 true _ A2.out).mono ?_); rintro e w' ⟨rfl, ⟨nd, rfl⟩⟩; (try exact KT)) | (go_at_call 59; (with_reducible refine (impl_EpochOf.calls a0_0 t295 _ A30.out).mono ?_); rintro e w' ⟨rfl, ⟨nd, rfl⟩⟩; (try exact KT)) | (go_at_call 80; (with_reducible refine (impl_PlaceOk.calls a0_0 true _ A55.out).mono ?_); rintro e w' ⟨rfl, ⟨nd, rfl⟩⟩; (try exact KT)) | (go_at_call 100; (with_reducible refine (impl_dataOk.calls a0_3 t300 _ A58.out).mono ?_); rintro e w' ⟨rfl, ⟨nd, rfl⟩⟩; (try exact KT))))
      go_ret
      exact ⟨KE, KB⟩
     ·rw [if_neg c57] at H
      have c57b0 : decide (t295 < a0_1) = false := decide_eq_false c57
      clear c57
      obtain rfl := Option.some.inj H
      go_enter Try.func76, Try.ntmps76
      go_wp2_with (first | ((with_reducible refine gate_dst (N := 1) rfl ?_); refine box_event ?hg (N := 1) ?hd (cs := #[.int .i64 a0_0, .int .i64 a0_1, .bool false, .string a0_3]) (t := 34) ?hr ?_; (case hd => rfl); (case hg => rfl); (case hr => first | (go_simp; done) | (go_simp; rfl)); intro gb288 hg w61 hbox hb; have n0_ := Aside0.mk (below_step KB hb); have n1_ := Aside0.mk (hbox); have n2_ := Aside0.mk ((KG hg : w.heap.size ≤ gb288)); have n3_ := Aside0.mk ((KG hg : w.heap.size ≤ gb288)); clear HB; have HB := n0_; have BK288 := n1_; have GW288 := n2_; have GE288 := n3_; clear n0_ n1_ n2_ n3_; clear hb hbox hg; have hcz62_0 : w61.cell? ⟨gb288, 0, none⟩ = some (.int .i64 a0_0) := (blk_cell BK288.out 0).trans rfl; have hcz62_1 : w61.cell? ⟨gb288, 1, none⟩ = some (.int .i64 a0_1) := (blk_cell BK288.out 1).trans rfl; have hcz62_2 : w61.cell? ⟨gb288, 2, none⟩ = some (.bool false) := (blk_cell BK288.out 2).trans rfl; have hcz62_3 : w61.cell? ⟨gb288, 3, none⟩ = some (.string a0_3) := (blk_cell BK288.out 3).trans rfl; have hfz62_0 := blk_frozen BK288.out 0; have hfz62_1 := blk_frozen BK288.out 1; have hfz62_2 := blk_frozen BK288.out 2; have hfz62_3 := blk_frozen BK288.out 3) | (go_at_call 68; (with_reducible refine (impl_within.calls a0_1 0 30 true _ A2.out).mono ?_); rintro e w' ⟨rfl, ⟨nd, rfl⟩⟩; (try exact KT)) | (go_at_call 59; (with_reducible refine (impl_EpochOf.calls a0_0 t295 _ A30.out).mono ?_); rintro e w' ⟨rfl, ⟨nd, rfl⟩⟩; (try exact KT)) | (go_at_call 80; (with_reducible refine (impl_PlaceOk.calls a0_0 true _ A55.out).mono ?_); rintro e w' ⟨rfl, ⟨nd, rfl⟩⟩; (try exact KT)))
      repeat (go_quiet (first | (go_at_call 68; (with_reducible refine (impl_within.calls a0_1 0 30 true _ A2.out).mono ?_); rintro e w' ⟨rfl, ⟨nd, rfl⟩⟩; (try exact KT)) | (go_at_call 59; (with_reducible refine (impl_EpochOf.calls a0_0 t295 _ A30.out).mono ?_); rintro e w' ⟨rfl, ⟨nd, rfl⟩⟩; (try exact KT)) | (go_at_call 80; (with_reducible refine (impl_PlaceOk.calls a0_0 true _ A55.out).mono ?_); rintro e w' ⟨rfl, ⟨nd, rfl⟩⟩; (try exact KT))); try go_wp2_with (first | ((with_reducible refine gate_dst (N := 1) rfl ?_); refine box_event ?hg (N := 1) ?hd (cs := #[.int .i64 a0_0, .int .i64 a0_1, .bool false, .string a0_3]) (t := 34) ?hr ?_; (case hd => rfl); (case hg => rfl); (case hr => first | (go_simp; done) | (go_simp; rfl)); intro gb288 hg w61 hbox hb; have n0_ := Aside0.mk (below_step KB hb); have n1_ := Aside0.mk (hbox); have n2_ := Aside0.mk ((KG hg : w.heap.size ≤ gb288)); have n3_ := Aside0.mk ((KG hg : w.heap.size ≤ gb288)); clear HB; have HB := n0_; have BK288 := n1_; have GW288 := n2_; have GE288 := n3_; clear n0_ n1_ n2_ n3_; clear hb hbox hg; have hcz62_0 : w61.cell? ⟨gb288, 0, none⟩ = some (.int .i64 a0_0) := (blk_cell BK288.out 0).trans rfl; have hcz62_1 : w61.cell? ⟨gb288, 1, none⟩ = some (.int .i64 a0_1) := (blk_cell BK288.out 1).trans rfl; have hcz62_2 : w61.cell? ⟨gb288, 2, none⟩ = some (.bool false) := (blk_cell BK288.out 2).trans rfl; have hcz62_3 : w61.cell? ⟨gb288, 3, none⟩ = some (.string a0_3) := (blk_cell BK288.out 3).trans rfl; have hfz62_0 := blk_frozen BK288.out 0; have hfz62_1 := blk_frozen BK288.out 1; have hfz62_2 := blk_frozen BK288.out 2; have hfz62_3 := blk_frozen BK288.out 3) | (go_at_call 68; (with_reducible refine (impl_within.calls a0_1 0 30 true _ A2.out).mono ?_); rintro e w' ⟨rfl, ⟨nd, rfl⟩⟩; (try exact KT)) | (go_at_call 59; (with_reducible refine (impl_EpochOf.calls a0_0 t295 _ A30.out).mono ?_); rintro e w' ⟨rfl, ⟨nd, rfl⟩⟩; (try exact KT)) | (go_at_call 80; (with_reducible refine (impl_PlaceOk.calls a0_0 true _ A55.out).mono ?_); rintro e w' ⟨rfl, ⟨nd, rfl⟩⟩; (try exact KT))))
      go_ret
      exact ⟨KE, KB⟩
    ·replace c56 := Bool.eq_false_iff.mpr c56
     subst c56
     have H1 : (some false) = some r := by rw [if_neg (show ¬ (false = true) by decide)] at H; exact H
     clear H
     have H := H1
     clear H1
     obtain rfl := Option.some.inj H
     go_enter Try.func76, Try.ntmps76
     go_wp2_with (first | ((with_reducible refine gate_dst (N := 1) rfl ?_); refine box_event ?hg (N := 1) ?hd (cs := #[.int .i64 a0_0, .int .i64 a0_1, .bool false, .string a0_3]) (t := 34) ?hr ?_; (case hd => rfl); (case hg => rfl); (case hr => first | (go_simp; done) | (go_simp; rfl)); intro gb288 hg w63 hbox hb; have n0_ := Aside0.mk (below_step KB hb); have n1_ := Aside0.mk (hbox); have n2_ := Aside0.mk ((KG hg : w.heap.size ≤ gb288)); have n3_ := Aside0.mk ((KG hg : w.heap.size ≤ gb288)); clear HB; have HB := n0_; have BK288 := n1_; have GW288 := n2_; have GE288 := n3_; clear n0_ n1_ n2_ n3_; clear hb hbox hg; have hcz64_0 : w63.cell? ⟨gb288, 0, none⟩ = some (.int .i64 a0_0) := (blk_cell BK288.out 0).trans rfl; have hcz64_1 : w63.cell? ⟨gb288, 1, none⟩ = some (.int .i64 a0_1) := (blk_cell BK288.out 1).trans rfl; have hcz64_2 : w63.cell? ⟨gb288, 2, none⟩ = some (.bool false) := (blk_cell BK288.out 2).trans rfl; have hcz64_3 : w63.cell? ⟨gb288, 3, none⟩ = some (.string a0_3) := (blk_cell BK288.out 3).trans rfl; have hfz64_0 := blk_frozen BK288.out 0; have hfz64_1 := blk_frozen BK288.out 1; have hfz64_2 := blk_frozen BK288.out 2; have hfz64_3 := blk_frozen BK288.out 3) | (go_at_call 68; (with_reducible refine (impl_within.calls a0_1 0 30 true _ A2.out).mono ?_); rintro e w' ⟨rfl, ⟨nd, rfl⟩⟩; (try exact KT)) | (go_at_call 59; (with_reducible refine (impl_EpochOf.calls a0_0 t295 _ A30.out).mono ?_); rintro e w' ⟨rfl, ⟨nd, rfl⟩⟩; (try exact KT)) | (go_at_call 80; (with_reducible refine (impl_PlaceOk.calls a0_0 false _ A55.out).mono ?_); rintro e w' ⟨rfl, ⟨nd, rfl⟩⟩; (try exact KT)))
     repeat (go_quiet (first | (go_at_call 68; (with_reducible refine (impl_within.calls a0_1 0 30 true _ A2.out).mono ?_); rintro e w' ⟨rfl, ⟨nd, rfl⟩⟩; (try exact KT)) | (go_at_call 59; (with_reducible refine (impl_EpochOf.calls a0_0 t295 _ A30.out).mono ?_); rintro e w' ⟨rfl, ⟨nd, rfl⟩⟩; (try exact KT)) | (go_at_call 80; (with_reducible refine (impl_PlaceOk.calls a0_0 false _ A55.out).mono ?_); rintro e w' ⟨rfl, ⟨nd, rfl⟩⟩; (try exact KT))); try go_wp2_with (first | ((with_reducible refine gate_dst (N := 1) rfl ?_); refine box_event ?hg (N := 1) ?hd (cs := #[.int .i64 a0_0, .int .i64 a0_1, .bool false, .string a0_3]) (t := 34) ?hr ?_; (case hd => rfl); (case hg => rfl); (case hr => first | (go_simp; done) | (go_simp; rfl)); intro gb288 hg w63 hbox hb; have n0_ := Aside0.mk (below_step KB hb); have n1_ := Aside0.mk (hbox); have n2_ := Aside0.mk ((KG hg : w.heap.size ≤ gb288)); have n3_ := Aside0.mk ((KG hg : w.heap.size ≤ gb288)); clear HB; have HB := n0_; have BK288 := n1_; have GW288 := n2_; have GE288 := n3_; clear n0_ n1_ n2_ n3_; clear hb hbox hg; have hcz64_0 : w63.cell? ⟨gb288, 0, none⟩ = some (.int .i64 a0_0) := (blk_cell BK288.out 0).trans rfl; have hcz64_1 : w63.cell? ⟨gb288, 1, none⟩ = some (.int .i64 a0_1) := (blk_cell BK288.out 1).trans rfl; have hcz64_2 : w63.cell? ⟨gb288, 2, none⟩ = some (.bool false) := (blk_cell BK288.out 2).trans rfl; have hcz64_3 : w63.cell? ⟨gb288, 3, none⟩ = some (.string a0_3) := (blk_cell BK288.out 3).trans rfl; have hfz64_0 := blk_frozen BK288.out 0; have hfz64_1 := blk_frozen BK288.out 1; have hfz64_2 := blk_frozen BK288.out 2; have hfz64_3 := blk_frozen BK288.out 3) | (go_at_call 68; (with_reducible refine (impl_within.calls a0_1 0 30 true _ A2.out).mono ?_); rintro e w' ⟨rfl, ⟨nd, rfl⟩⟩; (try exact KT)) | (go_at_call 59; (with_reducible refine (impl_EpochOf.calls a0_0 t295 _ A30.out).mono ?_); rintro e w' ⟨rfl, ⟨nd, rfl⟩⟩; (try exact KT)) | (go_at_call 80; (with_reducible refine (impl_PlaceOk.calls a0_0 false _ A55.out).mono ?_); rintro e w' ⟨rfl, ⟨nd, rfl⟩⟩; (try exact KT))))
     go_ret
     exact ⟨KE, KB⟩
 ·replace c3 := Bool.eq_false_iff.mpr c3
  subst c3
  have H1 : (if a0_2 = true then (if a0_1 > 0 then ((impl_PlaceOk.f a0_0).bind fun t301 => (if t301 = true then (some false) else (some false))) else ((impl_PlaceOk.f a0_0).bind fun t302 => (if t302 = true then (some false) else (some false)))) else ((impl_PlaceOk.f a0_0).bind fun t303 => (if t303 = true then (some false) else (some false)))) = some r := by rw [if_neg (show ¬ (false = true) by decide)] at H; exact H
  clear H
  have H := H1
  clear H1
  by_cases c65 : a0_2 = true
  ·subst c65
   have H1 : (if a0_1 > 0 then ((impl_PlaceOk.f a0_0).bind fun t301 => (if t301 = true then (some false) else (some false))) else ((impl_PlaceOk.f a0_0).bind fun t302 => (if t302 = true then (some false) else (some false)))) = some r := by rw [if_pos rfl] at H; exact H
   clear H
   have H := H1
   clear H1
   by_cases c66 : a0_1 > 0
   ·rw [if_pos c66] at H
    have c66b0 : decide (0 < a0_1) = true := decide_eq_true c66
    clear c66
    replace H := Option.bind_eq_some_iff.mp H
    obtain ⟨t301, A670, H⟩ := H
    replace H : (if t301 = true then (some false) else (some false)) = some r := H
    have A67 := Aside0.mk A670
    clear A670
    by_cases c68 : t301 = true
    ·subst c68
     have H1 : (some false) = some r := by rw [if_pos rfl] at H; exact H
     clear H
     have H := H1
     clear H1
     obtain rfl := Option.some.inj H
     go_enter Try.func76, Try.ntmps76
     go_wp2_with (first | ((with_reducible refine gate_dst (N := 1) rfl ?_); refine box_event ?hg (N := 1) ?hd (cs := #[.int .i64 a0_0, .int .i64 a0_1, .bool true, .string a0_3]) (t := 34) ?hr ?_; (case hd => rfl); (case hg => rfl); (case hr => first | (go_simp; done) | (go_simp; rfl)); intro gb288 hg w69 hbox hb; have n0_ := Aside0.mk (below_step KB hb); have n1_ := Aside0.mk (hbox); have n2_ := Aside0.mk ((KG hg : w.heap.size ≤ gb288)); have n3_ := Aside0.mk ((KG hg : w.heap.size ≤ gb288)); clear HB; have HB := n0_; have BK288 := n1_; have GW288 := n2_; have GE288 := n3_; clear n0_ n1_ n2_ n3_; clear hb hbox hg; have hcz70_0 : w69.cell? ⟨gb288, 0, none⟩ = some (.int .i64 a0_0) := (blk_cell BK288.out 0).trans rfl; have hcz70_1 : w69.cell? ⟨gb288, 1, none⟩ = some (.int .i64 a0_1) := (blk_cell BK288.out 1).trans rfl; have hcz70_2 : w69.cell? ⟨gb288, 2, none⟩ = some (.bool true) := (blk_cell BK288.out 2).trans rfl; have hcz70_3 : w69.cell? ⟨gb288, 3, none⟩ = some (.string a0_3) := (blk_cell BK288.out 3).trans rfl; have hfz70_0 := blk_frozen BK288.out 0; have hfz70_1 := blk_frozen BK288.out 1; have hfz70_2 := blk_frozen BK288.out 2; have hfz70_3 := blk_frozen BK288.out 3) | (go_at_call 68; (with_reducible refine (impl_within.calls a0_1 0 30 false _ A2.out).mono ?_); rintro e w' ⟨rfl, ⟨nd, rfl⟩⟩; (try exact KT)) | (go_at_call 80; (with_reducible refine (impl_PlaceOk.calls a0_0 true _ A67.out).mono ?_); rintro e w' ⟨rfl, ⟨nd, rfl⟩⟩; (try exact KT)))
     repeat (go_quiet (first | (go_at_call 68; (with_reducible refine (impl_within.calls a0_1 0 30 false _ A2.out).mono ?_); rintro e w' ⟨rfl, ⟨nd, rfl⟩⟩; (try exact KT)) | (go_at_call 80; (with_reducible refine (impl_PlaceOk.calls a0_0 true _ A67.out).mono ?_); rintro e w' ⟨rfl, ⟨nd, rfl⟩⟩; (try exact KT))); try go_wp2_with (first | ((with_reducible refine gate_dst (N := 1) rfl ?_); refine box_event ?hg (N := 1) ?hd (cs := #[.int .i64 a0_0, .int .i64 a0_1, .bool true, .string a0_3]) (t := 34) ?hr ?_; (case hd => rfl); (case hg => rfl); (case hr => first | (go_simp; done) | (go_simp; rfl)); intro gb288 hg w69 hbox hb; have n0_ := Aside0.mk (below_step KB hb); have n1_ := Aside0.mk (hbox); have n2_ := Aside0.mk ((KG hg : w.heap.size ≤ gb288)); have n3_ := Aside0.mk ((KG hg : w.heap.size ≤ gb288)); clear HB; have HB := n0_; have BK288 := n1_; have GW288 := n2_; have GE288 := n3_; clear n0_ n1_ n2_ n3_; clear hb hbox hg; have hcz70_0 : w69.cell? ⟨gb288, 0, none⟩ = some (.int .i64 a0_0) := (blk_cell BK288.out 0).trans rfl; have hcz70_1 : w69.cell? ⟨gb288, 1, none⟩ = some (.int .i64 a0_1) := (blk_cell BK288.out 1).trans rfl; have hcz70_2 : w69.cell? ⟨gb288, 2, none⟩ = some (.bool true) := (blk_cell BK288.out 2).trans rfl; have hcz70_3 : w69.cell? ⟨gb288, 3, none⟩ = some (.string a0_3) := (blk_cell BK288.out 3).trans rfl; have hfz70_0 := blk_frozen BK288.out 0; have hfz70_1 := blk_frozen BK288.out 1; have hfz70_2 := blk_frozen BK288.out 2; have hfz70_3 := blk_frozen BK288.out 3) | (go_at_call 68; (with_reducible refine (impl_within.calls a0_1 0 30 false _ A2.out).mono ?_); rintro e w' ⟨rfl, ⟨nd, rfl⟩⟩; (try exact KT)) | (go_at_call 80; (with_reducible refine (impl_PlaceOk.calls a0_0 true _ A67.out).mono ?_); rintro e w' ⟨rfl, ⟨nd, rfl⟩⟩; (try exact KT))))
     go_ret
     exact ⟨KE, KB⟩
    ·replace c68 := Bool.eq_false_iff.mpr c68
     subst c68
     have H1 : (some false) = some r := by rw [if_neg (show ¬ (false = true) by decide)] at H; exact H
     clear H
     have H := H1
     clear H1
     obtain rfl := Option.some.inj H
     go_enter Try.func76, Try.ntmps76
     go_wp2_with (first | ((with_reducible refine gate_dst (N := 1) rfl ?_); refine box_event ?hg (N := 1) ?hd (cs := #[.int .i64 a0_0, .int .i64 a0_1, .bool true, .string a0_3]) (t := 34) ?hr ?_; (case hd => rfl); (case hg => rfl); (case hr => first | (go_simp; done) | (go_simp; rfl)); intro gb288 hg w71 hbox hb; have n0_ := Aside0.mk (below_step KB hb); have n1_ := Aside0.mk (hbox); have n2_ := Aside0.mk ((KG hg : w.heap.size ≤ gb288)); have n3_ := Aside0.mk ((KG hg : w.heap.size ≤ gb288)); clear HB; have HB := n0_; have BK288 := n1_; have GW288 := n2_; have GE288 := n3_; clear n0_ n1_ n2_ n3_; clear hb hbox hg; have hcz72_0 : w71.cell? ⟨gb288, 0, none⟩ = some (.int .i64 a0_0) := (blk_cell BK288.out 0).trans rfl; have hcz72_1 : w71.cell? ⟨gb288, 1, none⟩ = some (.int .i64 a0_1) := (blk_cell BK288.out 1).trans rfl; have hcz72_2 : w71.cell? ⟨gb288, 2, none⟩ = some (.bool true) := (blk_cell BK288.out 2).trans rfl; have hcz72_3 : w71.cell? ⟨gb288, 3, none⟩ = some (.string a0_3) := (blk_cell BK288.out 3).trans rfl; have hfz72_0 := blk_frozen BK288.out 0; have hfz72_1 := blk_frozen BK288.out 1; have hfz72_2 := blk_frozen BK288.out 2; have hfz72_3 := blk_frozen BK288.out 3) | (go_at_call 68; (with_reducible refine (impl_within.calls a0_1 0 30 false _ A2.out).mono ?_); rintro e w' ⟨rfl, ⟨nd, rfl⟩⟩; (try exact KT)) | (go_at_call 80; (with_reducible refine (impl_PlaceOk.calls a0_0 false _ A67.out).mono ?_); rintro e w' ⟨rfl, ⟨nd, rfl⟩⟩; (try exact KT)))
     repeat (go_quiet (first | (go_at_call 68; (with_reducible refine (impl_within.calls a0_1 0 30 false _ A2.out).mono ?_); rintro e w' ⟨rfl, ⟨nd, rfl⟩⟩; (try exact KT)) | (go_at_call 80; (with_reducible refine (impl_PlaceOk.calls a0_0 false _ A67.out).mono ?_); rintro e w' ⟨rfl, ⟨nd, rfl⟩⟩; (try exact KT))); try go_wp2_with (first | ((with_reducible refine gate_dst (N := 1) rfl ?_); refine box_event ?hg (N := 1) ?hd (cs := #[.int .i64 a0_0, .int .i64 a0_1, .bool true, .string a0_3]) (t := 34) ?hr ?_; (case hd => rfl); (case hg => rfl); (case hr => first | (go_simp; done) | (go_simp; rfl)); intro gb288 hg w71 hbox hb; have n0_ := Aside0.mk (below_step KB hb); have n1_ := Aside0.mk (hbox); have n2_ := Aside0.mk ((KG hg : w.heap.size ≤ gb288)); have n3_ := Aside0.mk ((KG hg : w.heap.size ≤ gb288)); clear HB; have HB := n0_; have BK288 := n1_; have GW288 := n2_; have GE288 := n3_; clear n0_ n1_ n2_ n3_; clear hb hbox hg; have hcz72_0 : w71.cell? ⟨gb288, 0, none⟩ = some (.int .i64 a0_0) := (blk_cell BK288.out 0).trans rfl; have hcz72_1 : w71.cell? ⟨gb288, 1, none⟩ = some (.int .i64 a0_1) := (blk_cell BK288.out 1).trans rfl; have hcz72_2 : w71.cell? ⟨gb288, 2, none⟩ = some (.bool true) := (blk_cell BK288.out 2).trans rfl; have hcz72_3 : w71.cell? ⟨gb288, 3, none⟩ = some (.string a0_3) := (blk_cell BK288.out 3).trans rfl; have hfz72_0 := blk_frozen BK288.out 0; have hfz72_1 := blk_frozen BK288.out 1; have hfz72_2 := blk_frozen BK288.out 2; have hfz72_3 := blk_frozen BK288.out 3) | (go_at_call 68; (with_reducible refine (impl_within.calls a0_1 0 30 false _ A2.out).mono ?_); rintro e w' ⟨rfl, ⟨nd, rfl⟩⟩; (try exact KT)) | (go_at_call 80; (with_reducible refine (impl_PlaceOk.calls a0_0 false _ A67.out).mono ?_); rintro e w' ⟨rfl, ⟨nd, rfl⟩⟩; (try exact KT))))
     go_ret
     exact ⟨KE, KB⟩
   ·rw [if_neg c66] at H
    have c66b0 : decide (0 < a0_1) = false := decide_eq_false c66
    clear c66
    replace H := Option.bind_eq_some_iff.mp H
    obtain ⟨t302, A730, H⟩ := H
    replace H : (if t302 = true then (some false) else (some false)) = some r := H
    have A73 := Aside0.mk A730
    clear A730
    by_cases c74 : t302 = true
    ·subst c74
     have H1 : (some false) = some r := by rw [if_pos rfl] at H; exact H
     clear H
     have H := H1
     clear H1
     obtain rfl := Option.some.inj H
     go_enter Try.func76, Try.ntmps76
     go_wp2_with (first | ((with_reducible refine gate_dst (N := 1) rfl ?_); refine box_event ?hg (N := 1) ?hd (cs := #[.int .i64 a0_0, .int .i64 a0_1, .bool true, .string a0_3]) (t := 34) ?hr ?_; (case hd => rfl); (case hg => rfl); (case hr => first | (go_simp; done) | (go_simp; rfl)); intro gb288 hg w75 hbox hb; have n0_ := Aside0.mk (below_step KB hb); have n1_ := Aside0.mk (hbox); have n2_ := Aside0.mk ((KG hg : w.heap.size ≤ gb288)); have n3_ := Aside0.mk ((KG hg : w.heap.size ≤ gb288)); clear HB; have HB := n0_; have BK288 := n1_; have GW288 := n2_; have GE288 := n3_; clear n0_ n1_ n2_ n3_; clear hb hbox hg; have hcz76_0 : w75.cell? ⟨gb288, 0, none⟩ = some (.int .i64 a0_0) := (blk_cell BK288.out 0).trans rfl; have hcz76_1 : w75.cell? ⟨gb288, 1, none⟩ = some (.int .i64 a0_1) := (blk_cell BK288.out 1).trans rfl; have hcz76_2 : w75.cell? ⟨gb288, 2, none⟩ = some (.bool true) := (blk_cell BK288.out 2).trans rfl; have hcz76_3 : w75.cell? ⟨gb288, 3, none⟩ = some (.string a0_3) := (blk_cell BK288.out 3).trans rfl; have hfz76_0 := blk_frozen BK288.out 0; have hfz76_1 := blk_frozen BK288.out 1; have hfz76_2 := blk_frozen BK288.out 2; have hfz76_3 := blk_frozen BK288.out 3) | (go_at_call 68; (with_reducible refine (impl_within.calls a0_1 0 30 false _ A2.out).mono ?_); rintro e w' ⟨rfl, ⟨nd, rfl⟩⟩; (try exact KT)) | (go_at_call 80; (with_reducible refine (impl_PlaceOk.calls a0_0 true _ A73.out).mono ?_); rintro e w' ⟨rfl, ⟨nd, rfl⟩⟩; (try exact KT)))
     repeat (go_quiet (first | (go_at_call 68; (with_reducible refine (impl_within.calls a0_1 0 30 false _ A2.out).mono ?_); rintro e w' ⟨rfl, ⟨nd, rfl⟩⟩; (try exact KT)) | (go_at_call 80; (with_reducible refine (impl_PlaceOk.calls a0_0 true _ A73.out).mono ?_); rintro e w' ⟨rfl, ⟨nd, rfl⟩⟩; (try exact KT))); try go_wp2_with (first | ((with_reducible refine gate_dst (N := 1) rfl ?_); refine box_event ?hg (N := 1) ?hd (cs := #[.int .i64 a0_0, .int .i64 a0_1, .bool true, .string a0_3]) (t := 34) ?hr ?_; (case hd => rfl); (case hg => rfl); (case hr => first | (go_simp; done) | (go_simp; rfl)); intro gb288 hg w75 hbox hb; have n0_ := Aside0.mk (below_step KB hb); have n1_ := Aside0.mk (hbox); have n2_ := Aside0.mk ((KG hg : w.heap.size ≤ gb288)); have n3_ := Aside0.mk ((KG hg : w.heap.size ≤ gb288)); clear HB; have HB := n0_; have BK288 := n1_; have GW288 := n2_; have GE288 := n3_; clear n0_ n1_ n2_ n3_; clear hb hbox hg; have hcz76_0 : w75.cell? ⟨gb288, 0, none⟩ = some (.int .i64 a0_0) := (blk_cell BK288.out 0).trans rfl; have hcz76_1 : w75.cell? ⟨gb288, 1, none⟩ = some (.int .i64 a0_1) := (blk_cell BK288.out 1).trans rfl; have hcz76_2 : w75.cell? ⟨gb288, 2, none⟩ = some (.bool true) := (blk_cell BK288.out 2).trans rfl; have hcz76_3 : w75.cell? ⟨gb288, 3, none⟩ = some (.string a0_3) := (blk_cell BK288.out 3).trans rfl; have hfz76_0 := blk_frozen BK288.out 0; have hfz76_1 := blk_frozen BK288.out 1; have hfz76_2 := blk_frozen BK288.out 2; have hfz76_3 := blk_frozen BK288.out 3) | (go_at_call 68; (with_reducible refine (impl_within.calls a0_1 0 30 false _ A2.out).mono ?_); rintro e w' ⟨rfl, ⟨nd, rfl⟩⟩; (try exact KT)) | (go_at_call 80; (with_reducible refine (impl_PlaceOk.calls a0_0 true _ A73.out).mono ?_); rintro e w' ⟨rfl, ⟨nd, rfl⟩⟩; (try exact KT))))
     go_ret
     exact ⟨KE, KB⟩
    ·replace c74 := Bool.eq_false_iff.mpr c74
     subst c74
     have H1 : (some false) = some r := by rw [if_neg (show ¬ (false = true) by decide)] at H; exact H
     clear H
     have H := H1
     clear H1
     obtain rfl := Option.some.inj H
     go_enter Try.func76, Try.ntmps76
     go_wp2_with (first | ((with_reducible refine gate_dst (N := 1) rfl ?_); refine box_event ?hg (N := 1) ?hd (cs := #[.int .i64 a0_0, .int .i64 a0_1, .bool true, .string a0_3]) (t := 34) ?hr ?_; (case hd => rfl); (case hg => rfl); (case hr => first | (go_simp; done) | (go_simp; rfl)); intro gb288 hg w77 hbox hb; have n0_ := Aside0.mk (below_step KB hb); have n1_ := Aside0.mk (hbox); have n2_ := Aside0.mk ((KG hg : w.heap.size ≤ gb288)); have n3_ := Aside0.mk ((KG hg : w.heap.size ≤ gb288)); clear HB; have HB := n0_; have BK288 := n1_; have GW288 := n2_; have GE288 := n3_; clear n0_ n1_ n2_ n3_; clear hb hbox hg; have hcz78_0 : w77.cell? ⟨gb288, 0, none⟩ = some (.int .i64 a0_0) := (blk_cell BK288.out 0).trans rfl; have hcz78_1 : w77.cell? ⟨gb288, 1, none⟩ = some (.int .i64 a0_1) := (blk_cell BK288.out 1).trans rfl; have hcz78_2 : w77.cell? ⟨gb288, 2, none⟩ = some (.bool true) := (blk_cell BK288.out 2).trans rfl; have hcz78_3 : w77.cell? ⟨gb288, 3, none⟩ = some (.string a0_3) := (blk_cell BK288.out 3).trans rfl; have hfz78_0 := blk_frozen BK288.out 0; have hfz78_1 := blk_frozen BK288.out 1; have hfz78_2 := blk_frozen BK288.out 2; have hfz78_3 := blk_frozen BK288.out 3) | (go_at_call 68; (with_reducible refine (impl_within.calls a0_1 0 30 false _ A2.out).mono ?_); rintro e w' ⟨rfl, ⟨nd, rfl⟩⟩; (try exact KT)) | (go_at_call 80; (with_reducible refine (impl_PlaceOk.calls a0_0 false _ A73.out).mono ?_); rintro e w' ⟨rfl, ⟨nd, rfl⟩⟩; (try exact KT)))
     repeat (go_quiet (first | (go_at_call 68; (with_reducible refine (impl_within.calls a0_1 0 30 false _ A2.out).mono ?_); rintro e w' ⟨rfl, ⟨nd, rfl⟩⟩; (try exact KT)) | (go_at_call 80; (with_reducible refine (impl_PlaceOk.calls a0_0 false _ A73.out).mono ?_); rintro e w' ⟨rfl, ⟨nd, rfl⟩⟩; (try exact KT))); try go_wp2_with (first | ((with_reducible refine gate_dst (N := 1) rfl ?_); refine box_event ?hg (N := 1) ?hd (cs := #[.int .i64 a0_0, .int .i64 a0_1, .bool true, .string a0_3]) (t := 34) ?hr ?_; (case hd => rfl); (case hg => rfl); (case hr => first | (go_simp; done) | (go_simp; rfl)); intro gb288 hg w77 hbox hb; have n0_ := Aside0.mk (below_step KB hb); have n1_ := Aside0.mk (hbox); have n2_ := Aside0.mk ((KG hg : w.heap.size ≤ gb288)); have n3_ := Aside0.mk ((KG hg : w.heap.size ≤ gb288)); clear HB; have HB := n0_; have BK288 := n1_; have GW288 := n2_; have GE288 := n3_; clear n0_ n1_ n2_ n3_; clear hb hbox hg; have hcz78_0 : w77.cell? ⟨gb288, 0, none⟩ = some (.int .i64 a0_0) := (blk_cell BK288.out 0).trans rfl; have hcz78_1 : w77.cell? ⟨gb288, 1, none⟩ = some (.int .i64 a0_1) := (blk_cell BK288.out 1).trans rfl; have hcz78_2 : w77.cell? ⟨gb288, 2, none⟩ = some (.bool true) := (blk_cell BK288.out 2).trans rfl; have hcz78_3 : w77.cell? ⟨gb288, 3, none⟩ = some (.string a0_3) := (blk_cell BK288.out 3).trans rfl; have hfz78_0 := blk_frozen BK288.out 0; have hfz78_1 := blk_frozen BK288.out 1; have hfz78_2 := blk_frozen BK288.out 2; have hfz78_3 := blk_frozen BK288.out 3) | (go_at_call 68; (with_reducible refine (impl_within.calls a0_1 0 30 false _ A2.out).mono ?_); rintro e w' ⟨rfl, ⟨nd, rfl⟩⟩; (try exact KT)) | (go_at_call 80; (with_reducible refine (impl_PlaceOk.calls a0_0 false _ A73.out).mono ?_); rintro e w' ⟨rfl, ⟨nd, rfl⟩⟩; (try exact KT))))
     go_ret
     exact ⟨KE, KB⟩
  ·replace c65 := Bool.eq_false_iff.mpr c65
   subst c65
   have H1 : ((impl_PlaceOk.f a0_0).bind fun t303 => (if t303 = true then (some false) else (some false))) = some r := by rw [if_neg (show ¬ (false = true) by decide)] at H; exact H
   clear H
   have H := H1
   clear H1
   replace H := Option.bind_eq_some_iff.mp H
   obtain ⟨t303, A790, H⟩ := H
   replace H : (if t303 = true then (some false) else (some false)) = some r := H
   have A79 := Aside0.mk A790
   clear A790
   by_cases c80 : t303 = true
   ·subst c80
    have H1 : (some false) = some r := by rw [if_pos rfl] at H; exact H
    clear H
    have H := H1
    clear H1
    obtain rfl := Option.some.inj H
    go_enter Try.func76, Try.ntmps76
    go_wp2_with (first | ((with_reducible refine gate_dst (N := 1) rfl ?_); refine box_event ?hg (N := 1) ?hd (cs := #[.int .i64 a0_0, .int .i64 a0_1, .bool false, .string a0_3]) (t := 34) ?hr ?_; (case hd => rfl); (case hg => rfl); (case hr => first | (go_simp; done) | (go_simp; rfl)); intro gb288 hg w81 hbox hb; have n0_ := Aside0.mk (below_step KB hb); have n1_ := Aside0.mk (hbox); have n2_ := Aside0.mk ((KG hg : w.heap.size ≤ gb288)); have n3_ := Aside0.mk ((KG hg : w.heap.size ≤ gb288)); clear HB; have HB := n0_; have BK288 := n1_; have GW288 := n2_; have GE288 := n3_; clear n0_ n1_ n2_ n3_; clear hb hbox hg; have hcz82_0 : w81.cell? ⟨gb288, 0, none⟩ = some (.int .i64 a0_0) := (blk_cell BK288.out 0).trans rfl; have hcz82_1 : w81.cell? ⟨gb288, 1, none⟩ = some (.int .i64 a0_1) := (blk_cell BK288.out 1).trans rfl; have hcz82_2 : w81.cell? ⟨gb288, 2, none⟩ = some (.bool false) := (blk_cell BK288.out 2).trans rfl; have hcz82_3 : w81.cell? ⟨gb288, 3, none⟩ = some (.string a0_3) := (blk_cell BK288.out 3).trans rfl; have hfz82_0 := blk_frozen BK288.out 0; have hfz82_1 := blk_frozen BK288.out 1; have hfz82_2 := blk_frozen BK288.out 2; have hfz82_3 := blk_frozen BK288.out 3) | (go_at_call 68; (with_reducible refine (impl_within.calls a0_1 0 30 false _ A2.out).mono ?_); rintro e w' ⟨rfl, ⟨nd, rfl⟩⟩; (try exact KT)) | (go_at_call 80; (with_reducible refine (impl_PlaceOk.calls a0_0 true _ A79.out).mono ?_); rintro e w' ⟨rfl, ⟨nd, rfl⟩⟩; (try exact KT)))
    repeat (go_quiet (first | (go_at_call 68; (with_reducible refine (impl_within.calls a0_1 0 30 false _ A2.out).mono ?_); rintro e w' ⟨rfl, ⟨nd, rfl⟩⟩; (try exact KT)) | (go_at_call 80; (with_reducible refine (impl_PlaceOk.calls a0_0 true _ A79.out).mono ?_); rintro e w' ⟨rfl, ⟨nd, rfl⟩⟩; (try exact KT))); try go_wp2_with (first | ((with_reducible refine gate_dst (N := 1) rfl ?_); refine box_event ?hg (N := 1) ?hd (cs := #[.int .i64 a0_0, .int .i64 a0_1, .bool false, .string a0_3]) (t := 34) ?hr ?_; (case hd => rfl); (case hg => rfl); (case hr => first | (go_simp; done) | (go_simp; rfl)); intro gb288 hg w81 hbox hb; have n0_ := Aside0.mk (below_step KB hb); have n1_ := Aside0.mk (hbox); have n2_ := Aside0.mk ((KG hg : w.heap.size ≤ gb288)); have n3_ := Aside0.mk ((KG hg : w.heap.size ≤ gb288)); clear HB; have HB := n0_; have BK288 := n1_; have GW288 := n2_; have GE288 := n3_; clear n0_ n1_ n2_ n3_; clear hb hbox hg; have hcz82_0 : w81.cell? ⟨gb288, 0, none⟩ = some (.int .i64 a0_0) := (blk_cell BK288.out 0).trans rfl; have hcz82_1 : w81.cell? ⟨gb288, 1, none⟩ = some (.int .i64 a0_1) := (blk_cell BK288.out 1).trans rfl; have hcz82_2 : w81.cell? ⟨gb288, 2, none⟩ = some (.bool false) := (blk_cell BK288.out 2).trans rfl; have hcz82_3 : w81.cell? ⟨gb288, 3, none⟩ = some (.string a0_3) := (blk_cell BK288.out 3).trans rfl; have hfz82_0 := blk_frozen BK288.out 0; have hfz82_1 := blk_frozen BK288.out 1; have hfz82_2 := blk_frozen BK288.out 2; have hfz82_3 := blk_frozen BK288.out 3) | (go_at_call 68; (with_reducible refine (impl_within.calls a0_1 0 30 false _ A2.out).mono ?_); rintro e w' ⟨rfl, ⟨nd, rfl⟩⟩; (try exact KT)) | (go_at_call 80; (with_reducible refine (impl_PlaceOk.calls a0_0 true _ A79.out).mono ?_); rintro e w' ⟨rfl, ⟨nd, rfl⟩⟩; (try exact KT))))
    go_ret
    exact ⟨KE, KB⟩
   ·replace c80 := Bool.eq_false_iff.mpr c80
    subst c80
    have H1 : (some false) = some r := by rw [if_neg (show ¬ (false = true) by decide)] at H; exact H
    clear H
    have H := H1
    clear H1
    obtain rfl := Option.some.inj H
    go_enter Try.func76, Try.ntmps76
    go_wp2_with (first | ((with_reducible refine gate_dst (N := 1) rfl ?_); refine box_event ?hg (N := 1) ?hd (cs := #[.int .i64 a0_0, .int .i64 a0_1, .bool false, .string a0_3]) (t := 34) ?hr ?_; (case hd => rfl); (case hg => rfl); (case hr => first | (go_simp; done) | (go_simp; rfl)); intro gb288 hg w83 hbox hb; have n0_ := Aside0.mk (below_step KB hb); have n1_ := Aside0.mk (hbox); have n2_ := Aside0.mk ((KG hg : w.heap.size ≤ gb288)); have n3_ := Aside0.mk ((KG hg : w.heap.size ≤ gb288)); clear HB; have HB := n0_; have BK288 := n1_; have GW288 := n2_; have GE288 := n3_; clear n0_ n1_ n2_ n3_; clear hb hbox hg; have hcz84_0 : w83.cell? ⟨gb288, 0, none⟩ = some (.int .i64 a0_0) := (blk_cell BK288.out 0).trans rfl; have hcz84_1 : w83.cell? ⟨gb288, 1, none⟩ = some (.int .i64 a0_1) := (blk_cell BK288.out 1).trans rfl; have hcz84_2 : w83.cell? ⟨gb288, 2, none⟩ = some (.bool false) := (blk_cell BK288.out 2).trans rfl; have hcz84_3 : w83.cell? ⟨gb288, 3, none⟩ = some (.string a0_3) := (blk_cell BK288.out 3).trans rfl; have hfz84_0 := blk_frozen BK288.out 0; have hfz84_1 := blk_frozen BK288.out 1; have hfz84_2 := blk_frozen BK288.out 2; have hfz84_3 := blk_frozen BK288.out 3) | (go_at_call 68; (with_reducible refine (impl_within.calls a0_1 0 30 false _ A2.out).mono ?_); rintro e w' ⟨rfl, ⟨nd, rfl⟩⟩; (try exact KT)) | (go_at_call 80; (with_reducible refine (impl_PlaceOk.calls a0_0 false _ A79.out).mono ?_); rintro e w' ⟨rfl, ⟨nd, rfl⟩⟩; (try exact KT)))
    repeat (go_quiet (first | (go_at_call 68; (with_reducible refine (impl_within.calls a0_1 0 30 false _ A2.out).mono ?_); rintro e w' ⟨rfl, ⟨nd, rfl⟩⟩; (try exact KT)) | (go_at_call 80; (with_reducible refine (impl_PlaceOk.calls a0_0 false _ A79.out).mono ?_); rintro e w' ⟨rfl, ⟨nd, rfl⟩⟩; (try exact KT))); try go_wp2_with (first | ((with_reducible refine gate_dst (N := 1) rfl ?_); refine box_event ?hg (N := 1) ?hd (cs := #[.int .i64 a0_0, .int .i64 a0_1, .bool false, .string a0_3]) (t := 34) ?hr ?_; (case hd => rfl); (case hg => rfl); (case hr => first | (go_simp; done) | (go_simp; rfl)); intro gb288 hg w83 hbox hb; have n0_ := Aside0.mk (below_step KB hb); have n1_ := Aside0.mk (hbox); have n2_ := Aside0.mk ((KG hg : w.heap.size ≤ gb288)); have n3_ := Aside0.mk ((KG hg : w.heap.size ≤ gb288)); clear HB; have HB := n0_; have BK288 := n1_; have GW288 := n2_; have GE288 := n3_; clear n0_ n1_ n2_ n3_; clear hb hbox hg; have hcz84_0 : w83.cell? ⟨gb288, 0, none⟩ = some (.int .i64 a0_0) := (blk_cell BK288.out 0).trans rfl; have hcz84_1 : w83.cell? ⟨gb288, 1, none⟩ = some (.int .i64 a0_1) := (blk_cell BK288.out 1).trans rfl; have hcz84_2 : w83.cell? ⟨gb288, 2, none⟩ = some (.bool false) := (blk_cell BK288.out 2).trans rfl; have hcz84_3 : w83.cell? ⟨gb288, 3, none⟩ = some (.string a0_3) := (blk_cell BK288.out 3).trans rfl; have hfz84_0 := blk_frozen BK288.out 0; have hfz84_1 := blk_frozen BK288.out 1; have hfz84_2 := blk_frozen BK288.out 2; have hfz84_3 := blk_frozen BK288.out 3) | (go_at_call 68; (with_reducible refine (impl_within.calls a0_1 0 30 false _ A2.out).mono ?_); rintro e w' ⟨rfl, ⟨nd, rfl⟩⟩; (try exact KT)) | (go_at_call 80; (with_reducible refine (impl_PlaceOk.calls a0_0 false _ A79.out).mono ?_); rintro e w' ⟨rfl, ⟨nd, rfl⟩⟩; (try exact KT))))
    go_ret
    exact ⟨KE, KB⟩

end Go.Proofs.Ythdpknoeackpfaa.PFnExactStoreSeal
