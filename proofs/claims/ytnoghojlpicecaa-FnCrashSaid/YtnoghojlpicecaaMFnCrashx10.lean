-- What each Go function that this law reaches comes to: written by a program out of the translation.
import Derived.Test.YtnoghojlpicecaaMFnCrashx0
import Derived.Test.YtnoghojlpicecaaMFnCrashx2
import Derived.Test.YtnoghojlpicecaaMFnCrashx9
namespace Go.Proofs.Ytnoghojlpicecaa.PFnCrash
open Go.RowKit Go.Proofs.YtnoghojlpicecaaW.PrintWords Go.Proofs.YtnoghojlpicecaaW.PrintLast Go.Proofs.YtnoghojlpicecaaW.PrintMore
attribute [local go_sem] max2_int min2_int max_two min_two max_three min_three max_four min_four   -- for this text's walks alone
set_option linter.unusedVariables false
set_option linter.unusedSimpArgs false

/-! ### spec_DrawStoreCrash: function 28 -/
def spec_DrawStoreCrash.f (k : Nat) (l0 : List Int) : Option ((List (S35)) × (List (S35)) × Int × Int) := (spec_l1New.f k l0).bind fun bt462 => ((spec_l6Draw.f k bt462.1 bt462.2.1 bt462.2.2).bind fun bt466 => ((spec_l1Once.f bt462.1 bt466.2.2.2.1 bt466.2.2.2.2 12).bind fun bt476 => (if bt476.1 = true then ((spec_l1PickInt.f bt462.1 bt476.2.1 bt476.2.2 (([(-1), 0, 1048575, 1048576] : List Int))).bind fun bt482 => (some (bt466.1, bt466.2.1, bt466.2.2.1, bt482.1))) else ((spec_l1Below.f bt462.1 bt476.2.1 bt476.2.2 64).bind fun bt485 => (some (bt466.1, bt466.2.1, bt466.2.2.1, bt485.1))))))
theorem spec_DrawStoreCrash.mono : ∀ a0 k, LeO (spec_DrawStoreCrash.f k a0) (spec_DrawStoreCrash.f (k + 1) a0) := by
 intro a0 k
 unfold spec_DrawStoreCrash.f
 repeat' first
   | (with_reducible exact spec_l1New.mono _ _)
   | (with_reducible exact spec_l6Draw.mono _ _ _ _)
   | (with_reducible exact LeO.refl _)
   | (with_reducible exact LeO.none _)
   | (with_reducible refine LeO.ite ?_ ?_)
   | (with_reducible refine LeO.bind ?_ (fun _ => ?_))
   | exact spec_l1New.mono _ _
   | exact spec_l6Draw.mono _ _ _ _
   | exact LeO.none _
   | refine LeO.ite ?_ ?_
   | refine LeO.bind ?_ (fun _ => ?_)
set_option maxHeartbeats 8000000 in
set_option maxRecDepth 100000 in
theorem spec_DrawStoreCrash.calls (k : Nat) (A0 : Option Addr) (c0 : Nat) (l0 : List Int) (r1 : List (S35)) (r2 : List (S35)) (r3 : Int) (r4 : Int) (w : World) (hr0 : Kd.C (Kd.int .u8) w A0 l0.length l0) (hc0 : l0.length ≤ c0) (h : spec_DrawStoreCrash.f k l0 = some (r1, r2, r3, r4)) :
  Calls Try.prog 28 #[.slice A0 l0.length c0] w fun e w' => ∃ v0_ v1_ : Value, e = .returned (.tuple #[.agg #[v0_, v1_, .int .i64 r3], .int .i64 r4]) ∧ Kd.R k35 35 w' w.heap.size (fun k_ => some k_ ≠ (v1_ : Value).ownBlock) v0_ r1 ∧ Kd.R k35 35 w' w.heap.size (fun k_ => some k_ ≠ (v0_ : Value).ownBlock) v1_ r2 ∧ Below w.heap.size w w' := by
 have hu31 := Try.underlying31
 have HR0 := Aside0.mk hr0
 have HC0 := Aside0.mk hc0
 clear hr0 hc0
 have HB := Aside0.mk (Below.refl w.heap.size w)
 have H : ((spec_l1New.f k l0).bind fun bt462 => ((spec_l6Draw.f k bt462.1 bt462.2.1 bt462.2.2).bind fun bt466 => ((spec_l1Once.f bt462.1 bt466.2.2.2.1 bt466.2.2.2.2 12).bind fun bt476 => (if bt476.1 = true then ((spec_l1PickInt.f bt462.1 bt476.2.1 bt476.2.2 (([(-1), 0, 1048575, 1048576] : List Int))).bind fun bt482 => (some (bt466.1, bt466.2.1, bt466.2.2.1, bt482.1))) else ((spec_l1Below.f bt462.1 bt476.2.1 bt476.2.2 64).bind fun bt485 => (some (bt466.1, bt466.2.1, bt466.2.2.1, bt485.1))))))) = some (r1, r2, r3, r4) := h
 clear h
 replace H := Option.bind_eq_some_iff.mp H
 obtain ⟨⟨t462, t463, t464⟩, A20, H⟩ := H
 replace H : ((spec_l6Draw.f k t462 t463 t464).bind fun bt466 => ((spec_l1Once.f t462 bt466.2.2.2.1 bt466.2.2.2.2 12).bind fun bt476 => (if bt476.1 = true then ((spec_l1PickInt.f t462 bt476.2.1 bt476.2.2 (([(-1), 0, 1048575, 1048576] : List Int))).bind fun bt482 => (some (bt466.1, bt466.2.1, bt466.2.2.1, bt482.1))) else ((spec_l1Below.f t462 bt476.2.1 bt476.2.2 64).bind fun bt485 => (some (bt466.1, bt466.2.1, bt466.2.2.1, bt485.1)))))) = some (r1, r2, r3, r4) := H
 have A2 := Aside0.mk A20
 clear A20
 replace H := Option.bind_eq_some_iff.mp H
 obtain ⟨⟨t466, t469, t472, t473, t474⟩, A30, H⟩ := H
 replace H : ((spec_l1Once.f t462 t473 t474 12).bind fun bt476 => (if bt476.1 = true then ((spec_l1PickInt.f t462 bt476.2.1 bt476.2.2 (([(-1), 0, 1048575, 1048576] : List Int))).bind fun bt482 => (some (t466, t469, t472, bt482.1))) else ((spec_l1Below.f t462 bt476.2.1 bt476.2.2 64).bind fun bt485 => (some (t466, t469, t472, bt485.1))))) = some (r1, r2, r3, r4) := H
 have A3 := Aside0.mk A30
 clear A30
 replace H := Option.bind_eq_some_iff.mp H
 obtain ⟨⟨t476, t477, t478⟩, A40, H⟩ := H
 replace H : (if t476 = true then ((spec_l1PickInt.f t462 t477 t478 (([(-1), 0, 1048575, 1048576] : List Int))).bind fun bt482 => (some (t466, t469, t472, bt482.1))) else ((spec_l1Below.f t462 t477 t478 64).bind fun bt485 => (some (t466, t469, t472, bt485.1)))) = some (r1, r2, r3, r4) := H
 have A4 := Aside0.mk A40
 clear A40
 by_cases c5 : t476 = true
 ·subst c5
  have H1 : ((spec_l1PickInt.f t462 t477 t478 (([(-1), 0, 1048575, 1048576] : List Int))).bind fun bt482 => (some (t466, t469, t472, bt482.1))) = some (r1, r2, r3, r4) := by rw [if_pos rfl] at H; exact H
  clear H
  have H := H1
  clear H1
  obtain ⟨y479, hy479⟩ : ∃ y_ : List Int, y_ = (([(-1), 0, 1048575, 1048576] : List Int)) := ⟨_, rfl⟩
  replace H : ((spec_l1PickInt.f t462 t477 t478 y479).bind fun bt482 => (some (t466, t469, t472, bt482.1))) = some (r1, r2, r3, r4) := by first | (rw [hy479]; with_reducible exact H) | (have H2_ := (Option.bind_some _ _).symm.trans H; rw [hy479]; with_reducible exact H2_) | (have H2_ := (Option.bind_some _ _).symm.trans H; with_reducible exact H2_) | with_reducible exact H | (rw [hy479]; exact H) | exact H
  have Ny479 := Aside0.mk hy479
  clear hy479
  replace H := Option.bind_eq_some_iff.mp H
  obtain ⟨⟨t482, t483, t484⟩, A60, H⟩ := H
  replace H : (some (t466, t469, t472, t482)) = some (r1, r2, r3, r4) := H
  have A6 := Aside0.mk A60
  clear A60
  simp only [Option.some.injEq, Prod.mk.injEq] at H
  obtain ⟨rfl, rfl, rfl, rfl⟩ := H
  go_enter Try.func28, Try.ntmps28
  try go_wp2_with (first | ((with_reducible refine gate_dst (N := 2) rfl ?_); refine BE 2 #[.slice none 0 0, .slice none 0 0, .int .i64 0] 31 ?_; intro gb461 hg w7 hbox hb; have h_ := P4 (below_step KB hb) hbox (KG hg : w.heap.size ≤ gb461) (KG hg : w.heap.size ≤ gb461); clear HB; obtain ⟨HB, BK461, GW461, GE461⟩ := h_; clear hb hbox hg) | ((with_reducible refine gate_callee (f := 55) rfl ?_); refine goesL_ (some 7) rfl rfl Try.func55 (by kernel_rfl) rfl #[.slice A0 l0.length c0] rfl KL ?_; (with_reducible refine (spec_l1New.calls k _ _ l0 t462 t463 t464 w _ ?side1 ?side2 ?side3 A2.out).mono ?_); (case side1 => exact KB); (case side2 => exact HR0.out); (case side3 => exact HC0.out); rintro e w8 ⟨g465, rfl, hi, hb, hb2⟩; refine ⟨_, rfl, ?_⟩; have h_ := P5 (BL BK461.out hb2) hb hi (IsS87.ne_blk hi (BL BK461.out hb2) (by decide)) (Ne.symm (IsS87.ne_blk hi (BL BK461.out hb2) (by decide))); clear BK461 HB; obtain ⟨BK461, HB, HI465, NB465_461, NB461_465⟩ := h_; (try clear hb); (try clear hk); (try clear hi)) | ((with_reducible refine gate_callee (f := 56) rfl ?_); refine goesL_ (some 9) rfl rfl Try.func56 (by kernel_rfl) rfl #[.pointer (some ⟨g465, 0, none⟩)] rfl KL ?_; (with_reducible refine (spec_l6Draw.calls k g465 t462 t463 t464 t466 t469 t472 t473 t474 w _ ?side1 ?side2 A3.out).mono ?_); (case side1 => exact KI87); (case side2 => exact KB87); rintro e w9 ⟨v467, v470, rfl, ho0, ho1, hi, hb, hk⟩; refine ⟨_, rfl, ?_⟩; have h_ := P5 (KW BK461.out hk NB461_465.out) (Kd.R_lower ho0 (below_size KB87)) (Kd.R_lower ho1 (below_size KB87)) hb hi; clear BK461 HB HI465; obtain ⟨BK461, HO468, HO471, HB, HI465⟩ := h_; (try clear hb); (try clear hk); (try clear hi); (try clear ho0); (try clear ho1)) | ((with_reducible refine gate_dst (N := 5) rfl ?_); refine BE 5 #[.slice none 0 0, .slice none 0 0, .int .i64 0] 31 ?_; intro gb475 hg w10 hbox hb; have h_ := P12 (Kd.R_below (KR HO468.out) hb) (Kd.R_below (KR HO471.out) hb) (BL BK461.out hb) (IsS87.below (KI87) hb) (below_step KB87 hb) hbox (by rw [hg]; exact (below_size KB87) : w.heap.size ≤ gb475) (by rw [hg]; exact (below_size KB87) : w.heap.size ≤ gb475) (NX hg BK461.out) (Ne.symm (NX hg BK461.out)) (by rw [hg]; exact Nat.ne_of_lt (IsS87.lt (show IsS87 w _ g465 t462 t473 t474 from KI87)) : g465 ≠ gb475) (by rw [hg]; exact Nat.ne_of_gt (IsS87.lt (show IsS87 w _ g465 t462 t473 t474 from KI87)) : gb475 ≠ g465); clear HO468 HO471 BK461 HI465 HB; obtain ⟨HO468, HO471, BK461, HI465, HB, BK475, GW475, GE475, NB461_475, NB475_461, NB465_475, NB475_465⟩ := h_; clear hb hbox hg; obtain ⟨Ao11, co11, eo11⟩ := Kd.R_slice HO468.out; subst eo11; have hnb12 := NB475_461.out; have hnc12 := NB461_475.out; have hnb13 := NB475_465.out; have hnc13 := NB465_475.out; obtain ⟨hcz14_0, hcz14_1, hcz14_2, hfz14_0, hfz14_1, hfz14_2⟩ := C3 BK475.out; obtain ⟨Ao15, co15, eo15⟩ := Kd.R_slice HO471.out; subst eo15) | ((with_reducible refine gate_callee (f := 61) rfl ?_); refine goesL_ (some 11) rfl rfl Try.func61 (by kernel_rfl) rfl #[.pointer (some ⟨g465, 0, none⟩), .int .i64 12] rfl KL ?_; (with_reducible refine (spec_l1Once.calls g465 t462 t473 t474 12 true t477 t478 w _ ?side1 ?side2 A4.out).mono ?_); (case side1 => exact KI87); (case side2 => exact KB87); rintro e w16 ⟨rfl, hi, hb, hk⟩; refine ⟨_, rfl, ?_⟩; have h_ := P6 (KW BK461.out hk NB461_465.out) (Kd.R_mono (Kd.R_keep (IsS87.apart (show IsS87 w _ g465 t462 t473 t474 from KI87) (RQ (RT HO468.out BK475.out)) (by decide)) hk (fun _ h => h.2)) (fun _ h => h.1)) (Kd.R_mono (Kd.R_keep (IsS87.apart (show IsS87 w _ g465 t462 t473 t474 from KI87) (RQ (RT HO471.out BK475.out)) (by decide)) hk (fun _ h => h.2)) (fun _ h => h.1)) (KeepBut.blk hk (g' := gb475) (o := .cells #[.slice Ao11 t466.length co11, .slice Ao15 t469.length co15, .int .i64 t472] 31 (0, 0)) (by refine SK ?_; refine blk_put (cs := #[.slice Ao11 t466.length co11, .slice Ao15 t469.length co15, .int .i64 0]) ?_ 2 _ rfl; refine SK ?_; refine blk_put (cs := #[.slice Ao11 t466.length co11, .slice none 0 0, .int .i64 0]) ?_ 1 _ rfl; refine SK ?_; refine blk_put (cs := #[.slice none 0 0, .slice none 0 0, .int .i64 0]) ?_ 0 _ rfl; exact SK BK475.out) NB475_465.out (by simp)) hb hi; clear BK461 HO468 HO471 BK475 HB HI465; obtain ⟨BK461, HO468, HO471, BK475, HB, HI465⟩ := h_; (try clear hb); (try clear hk); (try clear hi)))
  have h_ := P6 (Kd.R_drew HO468.out) (Kd.R_drew HO471.out) (blk_drew BK461.out) (blk_drew BK475.out) (IsS87.drew HI465.out) (below_drew1 HB.out)
  clear HO468 HO471 BK461 BK475 HI465 HB
  obtain ⟨HO468, HO471, BK461, BK475, HI465, HB⟩ := h_
  refine start_ (n := 6) (S := fun w' => w'.cell? ⟨gb475, 0, none⟩ = some (.slice Ao11 t466.length co11) ∧ w'.cell? ⟨gb475, 1, none⟩ = some (.slice Ao15 t469.length co15) ∧ w'.cell? ⟨gb475, 2, none⟩ = some (.int .i64 t472)) (ds := []) #[false, false, false, false, false, false] (by kernel_rfl) rfl rfl ⟨(blk_cell BK475.out 0).trans rfl, (blk_cell BK475.out 1).trans rfl, (blk_cell BK475.out 2).trans rfl⟩ (fun hHeld => ?_)
  generalize w16.drew = w17 at HO468 HO471 BK461 BK475 HI465 HB hHeld ⊢
  refine pure_ (i := 1) (N := some 13) (v := ?_) (a' := ?_) #[false, true, false, false, false, false] rfl rfl (by kernel_rfl) (fun _ _ _ h => h) (Or.inl ⟨by rfl, ?_⟩) ?_ ?_
  rotate_left
  ·intro w'
   go_simp
   with_reducible rfl
  rotate_left
  ·exact KA
  refine take_ (i := 0) (N := some 12) (v := ?_) (a' := ?_) #[true, true, false, false, false, false] rfl rfl (by kernel_rfl) (fun _ _ _ h => h) (Or.inl ⟨by rfl, ?_⟩) hHeld ?_ ?_
  rotate_left
  ·rintro w' ⟨s0, s1, s2⟩
   go_simp
   with_reducible rfl
  rotate_left
  ·exact KA
  refine one_ (i := 2) (N := some 14) #[true, true, true, false, false, false] rfl rfl (by kernel_rfl) (by decide) (fun K hK => ?_)
  refine Kd.R_lit_step (Kd.int .i64) _ 3 ?hg (N := 14) ?hd (xs := ([(-1), 0, 1048575, 1048576] : List Int)) (inner := [.int .i64 (-1), .int .i64 0, .int .i64 1048575, .int .i64 1048576]) (ok := fun _ => True) (okp := fun _ => True) ?hr ?hp (fun _ hk => hk) trivial (Below.refl _ _) (Nat.le_refl _) (by simp) ?_; (case hd => rfl); (case hg => rfl); (case hr => first | (go_simp; done) | (go_simp; rfl)); (case hp => exact (Reps.one (show Kd.M (Kd.int .i64) _ _ _ (-1) [.int .i64 (-1)] from rfl) (Reps.one (show Kd.M (Kd.int .i64) _ _ _ 0 [.int .i64 0] from rfl) (Reps.one (show Kd.M (Kd.int .i64) _ _ _ 1048575 [.int .i64 1048575] from rfl) (Reps.one (show Kd.M (Kd.int .i64) _ _ _ 1048576 [.int .i64 1048576] from rfl) (Reps.none _ _))))))
  intro v480 w18 ho19 hb hg_ hnew_
  clear hg_ hnew_
  (first | rw [← Ny479.out] at ho19 | (simp only [Int.reduceToNat] at ho19; rw [← Ny479.out] at ho19))
  have h_ := P7 (Kd.R_below (KR HO468.out) hb) (Kd.R_below (KR HO471.out) hb) (Kd.R_lower ho19 (below_size KB87)) (BL BK461.out hb) (IsS87.below (KI87) hb) (BL BK475.out hb) (below_step KB87 hb)
  clear HO468 HO471 BK461 HI465 BK475 HB
  obtain ⟨HO468, HO471, HO481, BK461, HI465, BK475, HB⟩ := h_
  clear hb ho19
  obtain ⟨Ao20, co20, eo20⟩ := Kd.R_slice HO481.out
  (first | subst eo20 | (injection eo20 with f1_ f2_ f3_; have f4_ := f1_.symm; have f5_ := f3_.symm; clear f1_ f2_ f3_; subst f4_; subst f5_))
  refine hK.out _ _ ⟨(blk_cell BK475.out 0).trans rfl, (blk_cell BK475.out 1).trans rfl, (blk_cell BK475.out 2).trans rfl⟩ (fun hHeld => ?_)
  clear hK K
  refine norm_ (a' := ?_) ?_ ?_
  rotate_left
  ·show Act.put _ (some 14) _ = _; exact KA
  refine one_ (i := 3) (N := some 15) #[true, true, true, true, false, false] rfl rfl (by kernel_rfl) (by decide) (fun K hK => ?_)
  refine goes_ Try.func62 (by kernel_rfl) rfl #[.pointer (some ⟨g465, 0, none⟩), .slice Ao20 y479.length co20] (by rfl) rfl rfl KL ?_
  with_reducible refine (spec_l1PickInt.calls g465 t462 t477 t478 _ _ y479 t482 t483 t484 w _ ?side1 ?side2 ?side3 ?side4 ?side5 A6.out).mono ?_
  (case side1 => exact KI87)
  (case side2 => exact KB87)
  (case side3 => repeat (first | exact (Kd.R_reads' HO481.out).2.2 | (with_reducible refine Kd.C_alloc ?_ _) | (with_reducible refine Kd.C_drewN ?_ _) | (with_reducible refine Kd.C_drew ?_)))
  (case side4 => exact (Kd.R_reads' HO481.out).2.1)
  (case side5 => exact far_slice (IsS87.own_ne HI465.out HO481.out (by decide)))
  rintro e w21 ⟨rfl, hi, hb, hk⟩
  refine ⟨_, rfl, ?_⟩
  have h_ := P7 (KW BK461.out hk NB461_465.out) (Kd.R_mono (Kd.R_keep (IsS87.apart (show IsS87 w _ g465 t462 t477 t478 from KI87) (KR HO468.out) (by decide)) hk (fun _ h => h.2)) (fun _ h => h.1)) (Kd.R_mono (Kd.R_keep (IsS87.apart (show IsS87 w _ g465 t462 t477 t478 from KI87) (KR HO471.out) (by decide)) hk (fun _ h => h.2)) (fun _ h => h.1)) (KW BK475.out hk NB475_465.out) (Kd.R_mono (Kd.R_keep (IsS87.apart (show IsS87 w _ g465 t462 t477 t478 from KI87) (KR HO481.out) (by decide)) hk (fun _ h => h.2)) (fun _ h => h.1)) hb hi
  clear BK461 HO468 HO471 BK475 HO481 HB HI465
  obtain ⟨BK461, HO468, HO471, BK475, HO481, HB, HI465⟩ := h_
  (try clear hb); (try clear hk); (try clear hi)
  refine hK.out _ _ ⟨(blk_cell BK475.out 0).trans rfl, (blk_cell BK475.out 1).trans rfl, (blk_cell BK475.out 2).trans rfl⟩ (fun hHeld => ?_)
  clear hK K
  refine norm_ (a' := ?_) ?_ ?_
  rotate_left
  ·show Act.put _ (some 15) _ = _; exact KA
  refine one_ (i := 4) (N := none) #[true, true, true, true, true, false] rfl rfl (by kernel_rfl) (by decide) (fun K hK => ?_)
  have hs22 : w21.cell? ⟨gb461, 0, none⟩ = some (.slice none 0 0) := (blk_cell BK461.out 0).trans rfl
  have hfs22 := blk_frozen BK461.out 0
  have hns22_1 := NB475_461.out
  have hms22_1 := NB461_475.out
  have hs23 : w21.cell? ⟨gb461, 1, none⟩ = some (.slice none 0 0) := (blk_cell BK461.out 1).trans rfl
  have hfs23 := blk_frozen BK461.out 1
  have hns23_1 := NB475_461.out
  have hms23_1 := NB461_475.out
  have hs24 : w21.cell? ⟨gb461, 2, none⟩ = some (.int .i64 0) := (blk_cell BK461.out 2).trans rfl
  have hfs24 := blk_frozen BK461.out 2
  have hns24_1 := NB475_461.out
  have hms24_1 := NB461_475.out
  refine skip_ (w1 := ?_) (by rfl) rfl ?_ ?_
  rotate_left
  ·go_simp
   rfl
  refine hK.out _ _ ⟨((cell_far (p := ⟨gb461, _, none⟩) NB475_461.out _).trans (((cell_far (p := ⟨gb461, _, none⟩) NB475_461.out _).trans (((cell_far (p := ⟨gb461, _, none⟩) NB475_461.out _).trans (hHeld.1)))))), ((cell_far (p := ⟨gb461, _, none⟩) NB475_461.out _).trans (((cell_far (p := ⟨gb461, _, none⟩) NB475_461.out _).trans (((cell_far (p := ⟨gb461, _, none⟩) NB475_461.out _).trans (hHeld.2.1)))))), ((cell_far (p := ⟨gb461, _, none⟩) NB475_461.out _).trans (((cell_far (p := ⟨gb461, _, none⟩) NB475_461.out _).trans (((cell_far (p := ⟨gb461, _, none⟩) NB475_461.out _).trans (hHeld.2.2))))))⟩ (fun hHeld => ?_)
  clear hK K
  refine pure_ (i := 5) (N := some 3) (v := ?_) (a' := ?_) #[true, true, true, true, true, true] rfl rfl (by kernel_rfl) (fun _ _ _ h => h) (Or.inl ⟨by rfl, ?_⟩) ?_ ?_
  rotate_left
  ·intro w'
   go_simp
   with_reducible rfl
  rotate_left
  ·exact KA
  refine done_ (by kernel_rfl) ?_
  try go_wp2
  refine bodyPost_ret (results_ct rfl _ _ gb461 31 #[.slice Ao11 t466.length co11, .slice Ao15 t469.length co15, .int .i64 t472] (0, 0) _ rfl (by refine SK ?_; refine blk_put (cs := #[.slice Ao11 t466.length co11, .slice Ao15 t469.length co15, .int .i64 0]) ?_ 2 _ rfl; refine SK ?_; refine blk_put (cs := #[.slice Ao11 t466.length co11, .slice none 0 0, .int .i64 0]) ?_ 1 _ rfl; refine SK ?_; refine blk_put (cs := #[.slice none 0 0, .slice none 0 0, .int .i64 0]) ?_ 0 _ rfl; exact SK BK461.out) Try.underlying31 rfl (by kernel_rfl)) rfl ?_
  exact ⟨_, _, KE, RQ (RT HO468.out BK461.out), RQ (RT HO471.out BK461.out), KB87⟩
 ·replace c5 := Bool.eq_false_iff.mpr c5
  subst c5
  have H1 : ((spec_l1Below.f t462 t477 t478 64).bind fun bt485 => (some (t466, t469, t472, bt485.1))) = some (r1, r2, r3, r4) := by rw [if_neg (show ¬ (false = true) by decide)] at H; exact H
  clear H
  have H := H1
  clear H1
  replace H := Option.bind_eq_some_iff.mp H
  obtain ⟨⟨t485, t486, t487⟩, A250, H⟩ := H
  replace H : (some (t466, t469, t472, t485)) = some (r1, r2, r3, r4) := H
  have A25 := Aside0.mk A250
  clear A250
  simp only [Option.some.injEq, Prod.mk.injEq] at H
  obtain ⟨rfl, rfl, rfl, rfl⟩ := H
  go_enter Try.func28, Try.ntmps28
  try go_wp2_with (first | ((with_reducible refine gate_dst (N := 2) rfl ?_); refine BE 2 #[.slice none 0 0, .slice none 0 0, .int .i64 0] 31 ?_; intro gb461 hg w26 hbox hb; have h_ := P4 (below_step KB hb) hbox (KG hg : w.heap.size ≤ gb461) (KG hg : w.heap.size ≤ gb461); clear HB; obtain ⟨HB, BK461, GW461, GE461⟩ := h_; clear hb hbox hg) | ((with_reducible refine gate_callee (f := 55) rfl ?_); refine goesL_ (some 7) rfl rfl Try.func55 (by kernel_rfl) rfl #[.slice A0 l0.length c0] rfl KL ?_; (with_reducible refine (spec_l1New.calls k _ _ l0 t462 t463 t464 w _ ?side1 ?side2 ?side3 A2.out).mono ?_); (case side1 => exact KB); (case side2 => exact HR0.out); (case side3 => exact HC0.out); rintro e w27 ⟨g465, rfl, hi, hb, hb2⟩; refine ⟨_, rfl, ?_⟩; have h_ := P5 (BL BK461.out hb2) hb hi (IsS87.ne_blk hi (BL BK461.out hb2) (by decide)) (Ne.symm (IsS87.ne_blk hi (BL BK461.out hb2) (by decide))); clear BK461 HB; obtain ⟨BK461, HB, HI465, NB465_461, NB461_465⟩ := h_; (try clear hb); (try clear hk); (try clear hi)) | ((with_reducible refine gate_callee (f := 56) rfl ?_); refine goesL_ (some 9) rfl rfl Try.func56 (by kernel_rfl) rfl #[.pointer (some ⟨g465, 0, none⟩)] rfl KL ?_; (with_reducible refine (spec_l6Draw.calls k g465 t462 t463 t464 t466 t469 t472 t473 t474 w _ ?side1 ?side2 A3.out).mono ?_); (case side1 => exact KI87); (case side2 => exact KB87); rintro e w28 ⟨v467, v470, rfl, ho0, ho1, hi, hb, hk⟩; refine ⟨_, rfl, ?_⟩; have h_ := P5 (KW BK461.out hk NB461_465.out) (Kd.R_lower ho0 (below_size KB87)) (Kd.R_lower ho1 (below_size KB87)) hb hi; clear BK461 HB HI465; obtain ⟨BK461, HO468, HO471, HB, HI465⟩ := h_; (try clear hb); (try clear hk); (try clear hi); (try clear ho0); (try clear ho1)) | ((with_reducible refine gate_dst (N := 5) rfl ?_); refine BE 5 #[.slice none 0 0, .slice none 0 0, .int .i64 0] 31 ?_; intro gb475 hg w29 hbox hb; have h_ := P12 (Kd.R_below (KR HO468.out) hb) (Kd.R_below (KR HO471.out) hb) (BL BK461.out hb) (IsS87.below (KI87) hb) (below_step KB87 hb) hbox (by rw [hg]; exact (below_size KB87) : w.heap.size ≤ gb475) (by rw [hg]; exact (below_size KB87) : w.heap.size ≤ gb475) (NX hg BK461.out) (Ne.symm (NX hg BK461.out)) (by rw [hg]; exact Nat.ne_of_lt (IsS87.lt (show IsS87 w _ g465 t462 t473 t474 from KI87)) : g465 ≠ gb475) (by rw [hg]; exact Nat.ne_of_gt (IsS87.lt (show IsS87 w _ g465 t462 t473 t474 from KI87)) : gb475 ≠ g465); clear HO468 HO471 BK461 HI465 HB; obtain ⟨HO468, HO471, BK461, HI465, HB, BK475, GW475, GE475, NB461_475, NB475_461, NB465_475, NB475_465⟩ := h_; clear hb hbox hg; obtain ⟨Ao30, co30, eo30⟩ := Kd.R_slice HO468.out; subst eo30; have hnb31 := NB475_461.out; have hnc31 := NB461_475.out; have hnb32 := NB475_465.out; have hnc32 := NB465_475.out; obtain ⟨hcz33_0, hcz33_1, hcz33_2, hfz33_0, hfz33_1, hfz33_2⟩ := C3 BK475.out; obtain ⟨Ao34, co34, eo34⟩ := Kd.R_slice HO471.out; subst eo34) | ((with_reducible refine gate_callee (f := 61) rfl ?_); refine goesL_ (some 11) rfl rfl Try.func61 (by kernel_rfl) rfl #[.pointer (some ⟨g465, 0, none⟩), .int .i64 12] rfl KL ?_; (with_reducible refine (spec_l1Once.calls g465 t462 t473 t474 12 false t477 t478 w _ ?side1 ?side2 A4.out).mono ?_); (case side1 => exact KI87); (case side2 => exact KB87); rintro e w35 ⟨rfl, hi, hb, hk⟩; refine ⟨_, rfl, ?_⟩; have h_ := P6 (KW BK461.out hk NB461_465.out) (Kd.R_mono (Kd.R_keep (IsS87.apart (show IsS87 w _ g465 t462 t473 t474 from KI87) (RQ (RT HO468.out BK475.out)) (by decide)) hk (fun _ h => h.2)) (fun _ h => h.1)) (Kd.R_mono (Kd.R_keep (IsS87.apart (show IsS87 w _ g465 t462 t473 t474 from KI87) (RQ (RT HO471.out BK475.out)) (by decide)) hk (fun _ h => h.2)) (fun _ h => h.1)) (KeepBut.blk hk (g' := gb475) (o := .cells #[.slice Ao30 t466.length co30, .slice Ao34 t469.length co34, .int .i64 t472] 31 (0, 0)) (by refine SK ?_; refine blk_put (cs := #[.slice Ao30 t466.length co30, .slice Ao34 t469.length co34, .int .i64 0]) ?_ 2 _ rfl; refine SK ?_; refine blk_put (cs := #[.slice Ao30 t466.length co30, .slice none 0 0, .int .i64 0]) ?_ 1 _ rfl; refine SK ?_; refine blk_put (cs := #[.slice none 0 0, .slice none 0 0, .int .i64 0]) ?_ 0 _ rfl; exact SK BK475.out) NB475_465.out (by simp)) hb hi; clear BK461 HO468 HO471 BK475 HB HI465; obtain ⟨BK461, HO468, HO471, BK475, HB, HI465⟩ := h_; (try clear hb); (try clear hk); (try clear hi)))
  have h_ := P6 (Kd.R_drew HO468.out) (Kd.R_drew HO471.out) (blk_drew BK461.out) (blk_drew BK475.out) (IsS87.drew HI465.out) (below_drew1 HB.out)
  clear HO468 HO471 BK461 BK475 HI465 HB
  obtain ⟨HO468, HO471, BK461, BK475, HI465, HB⟩ := h_
  refine start_ (n := 5) (S := fun w' => w'.cell? ⟨gb475, 0, none⟩ = some (.slice Ao30 t466.length co30) ∧ w'.cell? ⟨gb475, 1, none⟩ = some (.slice Ao34 t469.length co34) ∧ w'.cell? ⟨gb475, 2, none⟩ = some (.int .i64 t472)) (ds := []) #[false, false, false, false, false] (by kernel_rfl) rfl rfl ⟨(blk_cell BK475.out 0).trans rfl, (blk_cell BK475.out 1).trans rfl, (blk_cell BK475.out 2).trans rfl⟩ (fun hHeld => ?_)
  generalize w35.drew = w36 at HO468 HO471 BK461 BK475 HI465 HB hHeld ⊢
  refine pure_ (i := 1) (N := some 17) (v := ?_) (a' := ?_) #[false, true, false, false, false] rfl rfl (by kernel_rfl) (fun _ _ _ h => h) (Or.inl ⟨by rfl, ?_⟩) ?_ ?_
  rotate_left
  ·intro w'
   go_simp
   with_reducible rfl
  rotate_left
  ·exact KA
  refine take_ (i := 0) (N := some 16) (v := ?_) (a' := ?_) #[true, true, false, false, false] rfl rfl (by kernel_rfl) (fun _ _ _ h => h) (Or.inl ⟨by rfl, ?_⟩) hHeld ?_ ?_
  rotate_left
  ·rintro w' ⟨s0, s1, s2⟩
   go_simp
   with_reducible rfl
  rotate_left
  ·exact KA
  refine one_ (i := 2) (N := some 18) #[true, true, true, false, false] rfl rfl (by kernel_rfl) (by decide) (fun K hK => ?_)
  refine goes_ Try.func57 (by kernel_rfl) rfl #[.pointer (some ⟨g465, 0, none⟩), .int .i64 64] (by rfl) rfl rfl KL ?_
  with_reducible refine (spec_l1Below.calls g465 t462 t477 t478 64 t485 t486 t487 w _ ?side1 ?side2 A25.out).mono ?_
  (case side1 => exact KI87)
  (case side2 => exact KB87)
  rintro e w37 ⟨rfl, hi, hb, hk⟩
  refine ⟨_, rfl, ?_⟩
  have h_ := P6 (KW BK461.out hk NB461_465.out) (Kd.R_mono (Kd.R_keep (IsS87.apart (show IsS87 w _ g465 t462 t477 t478 from KI87) (KR HO468.out) (by decide)) hk (fun _ h => h.2)) (fun _ h => h.1)) (Kd.R_mono (Kd.R_keep (IsS87.apart (show IsS87 w _ g465 t462 t477 t478 from KI87) (KR HO471.out) (by decide)) hk (fun _ h => h.2)) (fun _ h => h.1)) (KW BK475.out hk NB475_465.out) hb hi
  clear BK461 HO468 HO471 BK475 HB HI465
  obtain ⟨BK461, HO468, HO471, BK475, HB, HI465⟩ := h_
  (try clear hb); (try clear hk); (try clear hi)
  refine hK.out _ _ ⟨(blk_cell BK475.out 0).trans rfl, (blk_cell BK475.out 1).trans rfl, (blk_cell BK475.out 2).trans rfl⟩ (fun hHeld => ?_)
  clear hK K
  refine norm_ (a' := ?_) ?_ ?_
  rotate_left
  ·show Act.put _ (some 18) _ = _; exact KA
  refine one_ (i := 3) (N := none) #[true, true, true, true, false] rfl rfl (by kernel_rfl) (by decide) (fun K hK => ?_)
  have hs38 : w37.cell? ⟨gb461, 0, none⟩ = some (.slice none 0 0) := (blk_cell BK461.out 0).trans rfl
  have hfs38 := blk_frozen BK461.out 0
  have hns38_1 := NB475_461.out
  have hms38_1 := NB461_475.out
  have hs39 : w37.cell? ⟨gb461, 1, none⟩ = some (.slice none 0 0) := (blk_cell BK461.out 1).trans rfl
  have hfs39 := blk_frozen BK461.out 1
  have hns39_1 := NB475_461.out
  have hms39_1 := NB461_475.out
  have hs40 : w37.cell? ⟨gb461, 2, none⟩ = some (.int .i64 0) := (blk_cell BK461.out 2).trans rfl
  have hfs40 := blk_frozen BK461.out 2
  have hns40_1 := NB475_461.out
  have hms40_1 := NB461_475.out
  refine skip_ (w1 := ?_) (by rfl) rfl ?_ ?_
  rotate_left
  ·go_simp
   rfl
  refine hK.out _ _ ⟨((cell_far (p := ⟨gb461, _, none⟩) NB475_461.out _).trans (((cell_far (p := ⟨gb461, _, none⟩) NB475_461.out _).trans (((cell_far (p := ⟨gb461, _, none⟩) NB475_461.out _).trans (hHeld.1)))))), ((cell_far (p := ⟨gb461, _, none⟩) NB475_461.out _).trans (((cell_far (p := ⟨gb461, _, none⟩) NB475_461.out _).trans (((cell_far (p := ⟨gb461, _, none⟩) NB475_461.out _).trans (hHeld.2.1)))))), ((cell_far (p := ⟨gb461, _, none⟩) NB475_461.out _).trans (((cell_far (p := ⟨gb461, _, none⟩) NB475_461.out _).trans (((cell_far (p := ⟨gb461, _, none⟩) NB475_461.out _).trans (hHeld.2.2))))))⟩ (fun hHeld => ?_)
  clear hK K
  refine pure_ (i := 4) (N := some 3) (v := ?_) (a' := ?_) #[true, true, true, true, true] rfl rfl (by kernel_rfl) (fun _ _ _ h => h) (Or.inl ⟨by rfl, ?_⟩) ?_ ?_
  rotate_left
  ·intro w'
   go_simp
   with_reducible rfl
  rotate_left
  ·exact KA
  refine done_ (by kernel_rfl) ?_
  try go_wp2
  refine bodyPost_ret (results_ct rfl _ _ gb461 31 #[.slice Ao30 t466.length co30, .slice Ao34 t469.length co34, .int .i64 t472] (0, 0) _ rfl (by refine SK ?_; refine blk_put (cs := #[.slice Ao30 t466.length co30, .slice Ao34 t469.length co34, .int .i64 0]) ?_ 2 _ rfl; refine SK ?_; refine blk_put (cs := #[.slice Ao30 t466.length co30, .slice none 0 0, .int .i64 0]) ?_ 1 _ rfl; refine SK ?_; refine blk_put (cs := #[.slice none 0 0, .slice none 0 0, .int .i64 0]) ?_ 0 _ rfl; exact SK BK461.out) Try.underlying31 rfl (by kernel_rfl)) rfl ?_
  exact ⟨_, _, KE, RQ (RT HO468.out BK461.out), RQ (RT HO471.out BK461.out), KB87⟩

/-! ### impl_within: function 63 -/
def impl_within.f (a0 : Int) (a1 : Int) (a2 : Int) : Option (Bool) := if a0 ≥ a1 then (some (decide (a0 ≤ a2))) else (some false)
set_option maxHeartbeats 8000000 in
set_option maxRecDepth 100000 in
theorem impl_within.calls (a0 : Int) (a1 : Int) (a2 : Int) (r : Bool) (w : World) (h : impl_within.f a0 a1 a2 = some r) :
  Calls Try.prog 63 #[.int .i64 a0, .int .i64 a1, .int .i64 a2] w fun e w' => e = .returned (.bool r) ∧ Drawn0 w w' := by
 have H : (if a0 ≥ a1 then (some (decide (a0 ≤ a2))) else (some false)) = some r := h
 clear h
 by_cases c4 : a0 ≥ a1
 ·rw [if_pos c4] at H
  have c4b0 : decide (a1 ≤ a0) = true := decide_eq_true c4
  clear c4
  obtain rfl := Option.some.inj H
  go_enter Try.func63, Try.ntmps63
  go_wp2
  go_ret
  exact ⟨by first | rfl | (simp; done) | (simp [*]; done), by repeat (first | exact Drawn0.refl _ | apply Drawn0.step)⟩
 ·rw [if_neg c4] at H
  have c4b0 : decide (a1 ≤ a0) = false := decide_eq_false c4
  clear c4
  obtain rfl := Option.some.inj H
  go_enter Try.func63, Try.ntmps63
  go_wp2
  go_ret
  exact ⟨by first | rfl | (simp; done) | (simp [*]; done), by repeat (first | exact Drawn0.refl _ | apply Drawn0.step)⟩

/-! ### impl_isEpoch: function 75 -/
def impl_isEpoch.f (a0 : Int) : Option (Bool) := (impl_within.f a0 1 30).bind fun t488 => (some t488)
set_option maxHeartbeats 8000000 in
set_option maxRecDepth 100000 in
theorem impl_isEpoch.calls (a0 : Int) (r : Bool) (w : World) (h : impl_isEpoch.f a0 = some r) :
  Calls Try.prog 75 #[.int .i64 a0] w fun e w' => e = .returned (.bool r) ∧ Drawn0 w w' := by
 have H : ((impl_within.f a0 1 30).bind fun t488 => (some t488)) = some r := h
 clear h
 replace H := Option.bind_eq_some_iff.mp H
 obtain ⟨t488, A20, H⟩ := H
 replace H : (some t488) = some r := H
 have A2 := Aside0.mk A20
 clear A20
 obtain rfl := Option.some.inj H
 go_enter Try.func75, Try.ntmps75
 go_wp2_with (first | ((with_reducible refine gate_callee (f := 63) rfl ?_); refine goesL_ (some 4) rfl rfl Try.func63 (by kernel_rfl) rfl #[.int .i64 a0, .int .i64 1, .int .i64 30] rfl KL ?_; (with_reducible refine (impl_within.calls a0 1 30 t488 _ A2.out).mono ?_); rintro e w' ⟨rfl, ⟨nd, rfl⟩⟩; refine ⟨_, rfl, ?_⟩))
 go_ret
 exact ⟨by first | rfl | (simp; done) | (simp [*]; done), by repeat (first | exact Drawn0.refl _ | apply Drawn0.step)⟩

/-! ### impl_isOff: function 76 -/
def impl_isOff.f (a0 : Int) : Option (Bool) := (impl_within.f a0 1 60).bind fun t489 => (some t489)
set_option maxHeartbeats 8000000 in
set_option maxRecDepth 100000 in
theorem impl_isOff.calls (a0 : Int) (r : Bool) (w : World) (h : impl_isOff.f a0 = some r) :
  Calls Try.prog 76 #[.int .i64 a0] w fun e w' => e = .returned (.bool r) ∧ Drawn0 w w' := by
 have H : ((impl_within.f a0 1 60).bind fun t489 => (some t489)) = some r := h
 clear h
 replace H := Option.bind_eq_some_iff.mp H
 obtain ⟨t489, A20, H⟩ := H
 replace H : (some t489) = some r := H
 have A2 := Aside0.mk A20
 clear A20
 obtain rfl := Option.some.inj H
 go_enter Try.func76, Try.ntmps76
 go_wp2_with (first | ((with_reducible refine gate_callee (f := 63) rfl ?_); refine goesL_ (some 4) rfl rfl Try.func63 (by kernel_rfl) rfl #[.int .i64 a0, .int .i64 1, .int .i64 60] rfl KL ?_; (with_reducible refine (impl_within.calls a0 1 60 t489 _ A2.out).mono ?_); rintro e w' ⟨rfl, ⟨nd, rfl⟩⟩; refine ⟨_, rfl, ?_⟩))
 go_ret
 exact ⟨by first | rfl | (simp; done) | (simp [*]; done), by repeat (first | exact Drawn0.refl _ | apply Drawn0.step)⟩

/-! ### impl_PlaceOk: function 52 -/
def impl_PlaceOk.f (a0 : Int) : Option (Bool) := (impl_isEpoch.f (wrap64 (Int.tdiv a0 4294967296))).bind fun t490 => (if t490 = true then ((impl_isOff.f (Int.tmod a0 4294967296)).bind fun t491 => (some t491)) else (some false))
set_option maxHeartbeats 8000000 in
set_option maxRecDepth 100000 in
theorem impl_PlaceOk.calls (a0 : Int) (r : Bool) (w : World) (h : impl_PlaceOk.f a0 = some r) :
  Calls Try.prog 52 #[.int .i64 a0] w fun e w' => e = .returned (.bool r) ∧ Drawn0 w w' := by
 have H : ((impl_isEpoch.f (wrap64 (Int.tdiv a0 4294967296))).bind fun t490 => (if t490 = true then ((impl_isOff.f (Int.tmod a0 4294967296)).bind fun t491 => (some t491)) else (some false))) = some r := h
 clear h
 replace H := Option.bind_eq_some_iff.mp H
 obtain ⟨t490, A20, H⟩ := H
 replace H : (if t490 = true then ((impl_isOff.f (Int.tmod a0 4294967296)).bind fun t491 => (some t491)) else (some false)) = some r := H
 have A2 := Aside0.mk A20
 clear A20
 by_cases c3 : t490 = true
 ·subst c3
  have H1 : ((impl_isOff.f (Int.tmod a0 4294967296)).bind fun t491 => (some t491)) = some r := by rw [if_pos rfl] at H; exact H
  clear H
  have H := H1
  clear H1
  replace H := Option.bind_eq_some_iff.mp H
  obtain ⟨t491, A40, H⟩ := H
  replace H : (some t491) = some r := H
  have A4 := Aside0.mk A40
  clear A40
  obtain rfl := Option.some.inj H
  go_enter Try.func52, Try.ntmps52
  go_wp2_with (first | ((with_reducible refine gate_callee (f := 75) rfl ?_); refine goesL_ (some 5) rfl rfl Try.func75 (by kernel_rfl) rfl #[.int .i64 (wrap64 (Int.tdiv a0 4294967296))] rfl KL ?_; (with_reducible refine (impl_isEpoch.calls (wrap64 (Int.tdiv a0 4294967296)) true _ A2.out).mono ?_); rintro e w' ⟨rfl, ⟨nd, rfl⟩⟩; refine ⟨_, rfl, ?_⟩) | (go_at_call 76; (with_reducible refine (impl_isOff.calls (Int.tmod a0 4294967296) t491 _ A4.out).mono ?_); rintro e w' ⟨rfl, ⟨nd, rfl⟩⟩))
  go_ret
  exact ⟨by first | rfl | (simp; done) | (simp [*]; done), by repeat (first | exact Drawn0.refl _ | apply Drawn0.step)⟩
 ·replace c3 := Bool.eq_false_iff.mpr c3
  subst c3
  have H1 : (some false) = some r := by rw [if_neg (show ¬ (false = true) by decide)] at H; exact H
  clear H
  have H := H1
  clear H1
  obtain rfl := Option.some.inj H
  go_enter Try.func52, Try.ntmps52
  go_wp2_with (first | ((with_reducible refine gate_callee (f := 75) rfl ?_); refine goesL_ (some 5) rfl rfl Try.func75 (by kernel_rfl) rfl #[.int .i64 (wrap64 (Int.tdiv a0 4294967296))] rfl KL ?_; (with_reducible refine (impl_isEpoch.calls (wrap64 (Int.tdiv a0 4294967296)) false _ A2.out).mono ?_); rintro e w' ⟨rfl, ⟨nd, rfl⟩⟩; refine ⟨_, rfl, ?_⟩))
  go_ret
  exact ⟨by first | rfl | (simp; done) | (simp [*]; done), by repeat (first | exact Drawn0.refl _ | apply Drawn0.step)⟩

/-! ### impl_EpochOf: function 26 -/
def impl_EpochOf.f (a0 : Int) : Option (Int) := (impl_PlaceOk.f a0).bind fun t492 => (if t492 = true then (some (wrap64 (Int.tdiv a0 4294967296))) else (some 0))
set_option maxHeartbeats 8000000 in
set_option maxRecDepth 100000 in
theorem impl_EpochOf.calls (a0 : Int) (r : Int) (w : World) (h : impl_EpochOf.f a0 = some r) :
  Calls Try.prog 26 #[.int .i64 a0] w fun e w' => e = .returned (.int .i64 r) ∧ Drawn0 w w' := by
 have H : ((impl_PlaceOk.f a0).bind fun t492 => (if t492 = true then (some (wrap64 (Int.tdiv a0 4294967296))) else (some 0))) = some r := h
 clear h
 replace H := Option.bind_eq_some_iff.mp H
 obtain ⟨t492, A20, H⟩ := H
 replace H : (if t492 = true then (some (wrap64 (Int.tdiv a0 4294967296))) else (some 0)) = some r := H
 have A2 := Aside0.mk A20
 clear A20
 by_cases c3 : t492 = true
 ·subst c3
  have H1 : (some (wrap64 (Int.tdiv a0 4294967296))) = some r := by rw [if_pos rfl] at H; exact H
  clear H
  have H := H1
  clear H1
  obtain rfl := Option.some.inj H
  go_enter Try.func26, Try.ntmps26
  go_wp2_with (first | ((with_reducible refine gate_callee (f := 52) rfl ?_); refine goesL_ (some 4) rfl rfl Try.func52 (by kernel_rfl) rfl #[.int .i64 a0] rfl KL ?_; (with_reducible refine (impl_PlaceOk.calls a0 true _ A2.out).mono ?_); rintro e w' ⟨rfl, ⟨nd, rfl⟩⟩; refine ⟨_, rfl, ?_⟩))
  go_ret
  exact ⟨by first | rfl | (simp; done) | (simp [*]; done), by repeat (first | exact Drawn0.refl _ | apply Drawn0.step)⟩
 ·replace c3 := Bool.eq_false_iff.mpr c3
  subst c3
  have H1 : (some 0) = some r := by rw [if_neg (show ¬ (false = true) by decide)] at H; exact H
  clear H
  have H := H1
  clear H1
  obtain rfl := Option.some.inj H
  go_enter Try.func26, Try.ntmps26
  go_wp2_with (first | ((with_reducible refine gate_callee (f := 52) rfl ?_); refine goesL_ (some 4) rfl rfl Try.func52 (by kernel_rfl) rfl #[.int .i64 a0] rfl KL ?_; (with_reducible refine (impl_PlaceOk.calls a0 false _ A2.out).mono ?_); rintro e w' ⟨rfl, ⟨nd, rfl⟩⟩; refine ⟨_, rfl, ?_⟩))
  go_ret
  exact ⟨by first | rfl | (simp; done) | (simp [*]; done), by repeat (first | exact Drawn0.refl _ | apply Drawn0.step)⟩

/-! ### impl_dataOk: function 77 -/
def impl_dataOk.f (a0 : ByteArray) : Option (Bool) := some (decide ((a0.size : Int) ≤ 40))
set_option maxHeartbeats 8000000 in
set_option maxRecDepth 100000 in
theorem impl_dataOk.calls (a0 : ByteArray) (r : Bool) (w : World) (h : impl_dataOk.f a0 = some r) :
  Calls Try.prog 77 #[.string a0] w fun e w' => e = .returned (.bool r) ∧ Drawn0 w w' := by
 have H : (some (decide ((a0.size : Int) ≤ 40))) = some r := h
 clear h
 obtain rfl := Option.some.inj H
 go_enter Try.func77, Try.ntmps77
 go_wp2
 go_ret
 exact ⟨by first | rfl | (simp; done) | (simp [*]; done), by repeat (first | exact Drawn0.refl _ | apply Drawn0.step)⟩

end Go.Proofs.Ytnoghojlpicecaa.PFnCrash
