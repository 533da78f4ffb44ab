-- What each Go function that this law reaches comes to: written by a program out of the translation.
import Derived.Test.YtnoghojlpicecaaMFnSealedx0
import Derived.Test.YtnoghojlpicecaaMFnSealedx4
import Derived.Test.YtnoghojlpicecaaMFnSealedx5
import Derived.Test.YtnoghojlpicecaaMFnSealedx8
namespace Go.Proofs.Ytnoghojlpicecaa.PFnSealed
open Go.RowKit Go.Proofs.YtnoghojlpicecaaW.PrintWords Go.Proofs.YtnoghojlpicecaaW.PrintLast Go.Proofs.YtnoghojlpicecaaW.PrintMore
attribute [local go_sem] max2_int min2_int max_two min_two max_three min_three max_four min_four   -- for this text's walks alone
set_option linter.unusedVariables false
set_option linter.unusedSimpArgs false

/-! ### spec_StoreSeal: function 38 -/
def spec_StoreSeal.j0 : Nat → Int → Bool → List (S35) → List (S35) → Int → List (S35) → List (S35) → Int → Option ((List (S35)) × (List (S35)) × Int × Bool)
 | 0, _, _, _, _, _, _, _, _ => none
 | k + 1, x1, x23, x423000, x423001, x423002, x434000, x434001, x434002 => if x23 = true then ((spec_l6Copy.f x423000 x423001 x423002).bind fun bt435 => (some (bt435.1, bt435.2.1, bt435.2.2, false))) else ((spec_l1Max.f x434002 x1).bind fun t442 => (some (x434000, x434001, t442, true)))
def spec_StoreSeal.f (k : Nat) (l0_0 : List (S35)) (l0_1 : List (S35)) (a0_2 : Int) (a1 : Int) : Option ((List (S35)) × (List (S35)) × Int × Bool) := (spec_StoreOk.f k l0_0 l0_1 a0_2).bind fun t424 => (if t424 = true then ((spec_StoreSync.f k l0_0 l0_1 a0_2).bind fun bt425 => (if bt425.2.2.2 = true then ((spec_l1In.f a1 0 30).bind fun t434 => (spec_StoreSeal.j0 k a1 (!t434) l0_0 l0_1 a0_2 bt425.1 bt425.2.1 bt425.2.2.1)) else (spec_StoreSeal.j0 k a1 true l0_0 l0_1 a0_2 bt425.1 bt425.2.1 bt425.2.2.1))) else (some (([] : List (S35)), ([] : List (S35)), 0, false)))
theorem spec_StoreSeal.mono_l : ∀ k, (∀ y0 y1 y2 y3 y4 y5 y6 y7, LeO (spec_StoreSeal.j0 k y0 y1 y2 y3 y4 y5 y6 y7) (spec_StoreSeal.j0 (k + 1) y0 y1 y2 y3 y4 y5 y6 y7))
 | 0 => fun _ _ _ _ _ _ _ _ r h => by simp [spec_StoreSeal.j0] at h
 | k + 1 => by
  have ih0 := spec_StoreSeal.mono_l k
  ·intro y0 y1 y2 y3 y4 y5 y6 y7
   unfold spec_StoreSeal.j0
   repeat' first
   | (with_reducible exact ih0 _ _ _ _ _ _ _ _)
   | (with_reducible exact spec_StoreOk.mono _ _ _ _)
   | (with_reducible exact spec_StoreSync.mono _ _ _ _)
   | (with_reducible exact LeO.refl _)
   | (with_reducible exact LeO.none _)
   | (with_reducible refine LeO.ite ?_ ?_)
   | (with_reducible refine LeO.bind ?_ (fun _ => ?_))
   | exact ih0 _ _ _ _ _ _ _ _
   | exact spec_StoreOk.mono _ _ _ _
   | exact spec_StoreSync.mono _ _ _ _
   | exact LeO.none _
   | refine LeO.ite ?_ ?_
   | refine LeO.bind ?_ (fun _ => ?_)
theorem spec_StoreSeal.mono : ∀ a0 a1 a2 a3 k, LeO (spec_StoreSeal.f k a0 a1 a2 a3) (spec_StoreSeal.f (k + 1) a0 a1 a2 a3) := by
 intro a0 a1 a2 a3 k
 have ih0 := spec_StoreSeal.mono_l k
 unfold spec_StoreSeal.f
 repeat' first
   | (with_reducible exact ih0 _ _ _ _ _ _ _ _)
   | (with_reducible exact spec_StoreOk.mono _ _ _ _)
   | (with_reducible exact spec_StoreSync.mono _ _ _ _)
   | (with_reducible exact LeO.refl _)
   | (with_reducible exact LeO.none _)
   | (with_reducible refine LeO.ite ?_ ?_)
   | (with_reducible refine LeO.bind ?_ (fun _ => ?_))
   | exact ih0 _ _ _ _ _ _ _ _
   | exact spec_StoreOk.mono _ _ _ _
   | exact spec_StoreSync.mono _ _ _ _
   | exact LeO.none _
   | refine LeO.ite ?_ ?_
   | refine LeO.bind ?_ (fun _ => ?_)
set_option maxHeartbeats 8000000 in
set_option maxRecDepth 100000 in
theorem spec_StoreSeal.calls (k : Nat) (A0_0 : Option Addr) (c0_0 : Nat) (l0_0 : List (S35)) (A0_1 : Option Addr) (c0_1 : Nat) (l0_1 : List (S35)) (a0_2 : Int) (a1 : Int) (r1 : List (S35)) (r2 : List (S35)) (r3 : Int) (r4 : Bool) (w : World) (hr0_0 : Kd.C k35 w A0_0 l0_0.length l0_0) (hc0_0 : l0_0.length ≤ c0_0) (hr0_1 : Kd.C k35 w A0_1 l0_1.length l0_1) (hc0_1 : l0_1.length ≤ c0_1) (h : spec_StoreSeal.f k l0_0 l0_1 a0_2 a1 = some (r1, r2, r3, r4)) :
  Calls Try.prog 38 #[.agg #[.slice A0_0 l0_0.length c0_0, .slice A0_1 l0_1.length c0_1, .int .i64 a0_2], .int .i64 a1] w fun e w' => ∃ v0_ v1_ : Value, e = .returned (.tuple #[.agg #[v0_, v1_, .int .i64 r3], .bool r4]) ∧ Kd.R k35 35 w' w.heap.size (fun k_ => some k_ ≠ (v1_ : Value).ownBlock) v0_ r1 ∧ Kd.R k35 35 w' w.heap.size (fun k_ => some k_ ≠ (v0_ : Value).ownBlock) v1_ r2 ∧ Below w.heap.size w w' := by
 have hu31 := Try.underlying31
 have HR0_0 := Aside0.mk hr0_0
 have HC0_0 := Aside0.mk hc0_0
 clear hr0_0 hc0_0
 have HR0_1 := Aside0.mk hr0_1
 have HC0_1 := Aside0.mk hc0_1
 clear hr0_1 hc0_1
 have HB := Aside0.mk (Below.refl w.heap.size w)
 have H : ((spec_StoreOk.f k l0_0 l0_1 a0_2).bind fun t424 => (if t424 = true then ((spec_StoreSync.f k l0_0 l0_1 a0_2).bind fun bt425 => (if bt425.2.2.2 = true then ((spec_l1In.f a1 0 30).bind fun t434 => (spec_StoreSeal.j0 k a1 (!t434) l0_0 l0_1 a0_2 bt425.1 bt425.2.1 bt425.2.2.1)) else (spec_StoreSeal.j0 k a1 true l0_0 l0_1 a0_2 bt425.1 bt425.2.1 bt425.2.2.1))) else (some (([] : List (S35)), ([] : List (S35)), 0, false)))) = some (r1, r2, r3, r4) := h
 clear h
 replace H := Option.bind_eq_some_iff.mp H
 obtain ⟨t424, A30, H⟩ := H
 replace H : (if t424 = true then ((spec_StoreSync.f k l0_0 l0_1 a0_2).bind fun bt425 => (if bt425.2.2.2 = true then ((spec_l1In.f a1 0 30).bind fun t434 => (spec_StoreSeal.j0 k a1 (!t434) l0_0 l0_1 a0_2 bt425.1 bt425.2.1 bt425.2.2.1)) else (spec_StoreSeal.j0 k a1 true l0_0 l0_1 a0_2 bt425.1 bt425.2.1 bt425.2.2.1))) else (some (([] : List (S35)), ([] : List (S35)), 0, false))) = some (r1, r2, r3, r4) := H
 have A3 := Aside0.mk A30
 clear A30
 by_cases c4 : t424 = true
 ·subst c4
  have H1 : ((spec_StoreSync.f k l0_0 l0_1 a0_2).bind fun bt425 => (if bt425.2.2.2 = true then ((spec_l1In.f a1 0 30).bind fun t434 => (spec_StoreSeal.j0 k a1 (!t434) l0_0 l0_1 a0_2 bt425.1 bt425.2.1 bt425.2.2.1)) else (spec_StoreSeal.j0 k a1 true l0_0 l0_1 a0_2 bt425.1 bt425.2.1 bt425.2.2.1))) = some (r1, r2, r3, r4) := by rw [if_pos rfl] at H; exact H
  clear H
  have H := H1
  clear H1
  replace H := Option.bind_eq_some_iff.mp H
  obtain ⟨⟨t425, t428, t431, t432⟩, A50, H⟩ := H
  replace H : (if t432 = true then ((spec_l1In.f a1 0 30).bind fun t434 => (spec_StoreSeal.j0 k a1 (!t434) l0_0 l0_1 a0_2 t425 t428 t431)) else (spec_StoreSeal.j0 k a1 true l0_0 l0_1 a0_2 t425 t428 t431)) = some (r1, r2, r3, r4) := H
  have A5 := Aside0.mk A50
  clear A50
  have HC6 := Aside0.mk H
  clear H
  go_enter Try.func38, Try.ntmps38
  go_upto_region 4 with (first | ((with_reducible refine gate_dst (N := 2) rfl ?_); refine BE 2 #[.slice A0_0 l0_0.length c0_0, .slice A0_1 l0_1.length c0_1, .int .i64 a0_2] 31 ?_; intro gb422 hg w7 hbox hb; have h_ := P4 (below_step KB hb) hbox (KG hg : w.heap.size ≤ gb422) (KG hg : w.heap.size ≤ gb422); clear HB; obtain ⟨HB, BK422, GW422, GE422⟩ := h_; clear hb hbox hg) | ((with_reducible refine gate_dst (N := 4) rfl ?_); refine BE 4 #[.slice none 0 0, .slice none 0 0, .int .i64 0] 31 ?_; intro gb423 hg w8 hbox hb; have h_ := P7 (BL BK422.out hb) (below_step KB hb) hbox (KG hg : w.heap.size ≤ gb423) (KG hg : w.heap.size ≤ gb423) (NX hg BK422.out) (Ne.symm (NX hg BK422.out)); clear BK422 HB; obtain ⟨BK422, HB, BK423, GW423, GE423, NB422_423, NB423_422⟩ := h_; clear hb hbox hg; have hnb9 := NB422_423.out; have hnc9 := NB423_422.out; obtain ⟨hcz10_0, hcz10_1, hcz10_2, hfz10_0, hfz10_1, hfz10_2⟩ := C3 BK422.out) | ((with_reducible refine gate_callee (f := 34) rfl ?_); refine goesL_ (some 9) rfl rfl Try.func34 (by kernel_rfl) rfl #[.agg #[.slice A0_0 l0_0.length c0_0, .slice A0_1 l0_1.length c0_1, .int .i64 a0_2]] rfl KL ?_; (with_reducible refine (spec_StoreOk.calls k _ _ l0_0 _ _ l0_1 a0_2 true _ ?side1 ?side2 ?side3 ?side4 A3.out).mono ?_); (case side1 => exact KD (Kd.C_below HR0_0.out HB.out)); (case side2 => exact HC0_0.out); (case side3 => exact KD (Kd.C_below HR0_1.out HB.out)); (case side4 => exact HC0_1.out); rintro e w11 ⟨rfl, hb⟩; refine ⟨_, rfl, ?_⟩; have h_ := P3 (BL BK422.out hb) (BL BK423.out hb) (below_step KB hb); clear BK422 BK423 HB; obtain ⟨BK422, BK423, HB⟩ := h_; (try clear hb); (try clear hk); (try clear hi); obtain ⟨hcz12_0, hcz12_1, hcz12_2, hfz12_0, hfz12_1, hfz12_2⟩ := C3 BK422.out) | ((with_reducible refine gate_callee (f := 73) rfl ?_); refine goesL_ (some 14) rfl rfl Try.func73 (by kernel_rfl) rfl #[.agg #[.slice A0_0 l0_0.length c0_0, .slice A0_1 l0_1.length c0_1, .int .i64 a0_2]] rfl KL ?_; (with_reducible refine (spec_StoreSync.calls k _ _ l0_0 _ _ l0_1 a0_2 t425 t428 t431 t432 _ ?side1 ?side2 ?side3 ?side4 A5.out).mono ?_); (case side1 => exact KD (Kd.C_below HR0_0.out HB.out)); (case side2 => exact HC0_0.out); (case side3 => exact KD (Kd.C_below HR0_1.out HB.out)); (case side4 => exact HC0_1.out); rintro e w13 ⟨v426, v429, rfl, ho0, ho1, hb⟩; refine ⟨_, rfl, ?_⟩; have h_ := P5 (Kd.R_lower ho0 (below_size KB)) (Kd.R_lower ho1 (below_size KB)) (BL BK422.out hb) (BL BK423.out hb) (below_step KB hb); clear BK422 BK423 HB; obtain ⟨HO427, HO430, BK422, BK423, HB⟩ := h_; (try clear hb); (try clear hk); (try clear hi); (try clear ho0); (try clear ho1)) | ((with_reducible refine gate_dst (N := 6) rfl ?_); refine BE 6 #[.slice none 0 0, .slice none 0 0, .int .i64 0] 31 ?_; intro gb433 hg w14 hbox hb; have h_ := P12 (Kd.R_below (KR HO427.out) hb) (Kd.R_below (KR HO430.out) hb) (BL BK422.out hb) (BL BK423.out hb) (below_step KB hb) hbox (KG hg : w.heap.size ≤ gb433) (KG hg : w.heap.size ≤ gb433) (NX hg BK422.out) (Ne.symm (NX hg BK422.out)) (NX hg BK423.out) (Ne.symm (NX hg BK423.out)); clear HO427 HO430 BK422 BK423 HB; obtain ⟨HO427, HO430, BK422, BK423, HB, BK433, GW433, GE433, NB422_433, NB433_422, NB423_433, NB433_423⟩ := h_; clear hb hbox hg; obtain ⟨Ao15, co15, eo15⟩ := Kd.R_slice HO427.out; subst eo15; have hnb16 := NB433_422.out; have hnc16 := NB422_433.out; have hnb17 := NB433_423.out; have hnc17 := NB423_433.out; obtain ⟨hcz18_0, hcz18_1, hcz18_2, hfz18_0, hfz18_1, hfz18_2⟩ := C3 BK433.out; obtain ⟨Ao19, co19, eo19⟩ := Kd.R_slice HO430.out; subst eo19))
  (try simp only [Act.put, List.setIfInBounds_toArray, List.set_cons_zero, List.set_cons_succ])
  go_cut [23] (fun v23 wc => ∃ (kq : Nat) (x23_5 : Bool), v23 = .bool x23_5 ∧ Aside0 (spec_StoreSeal.j0 kq a1 x23_5 l0_0 l0_1 a0_2 t425 t428 t431 = some (r1, r2, r3, r4)) ∧ Aside0 (kq ≤ k) ∧ Aside0 (Kd.R k35 35 wc w.heap.size (fun k_ => some k_ ≠ ((.slice Ao19 t428.length co19) : Value).ownBlock) (.slice Ao15 t425.length co15) t425) ∧ Aside0 (Kd.R k35 35 wc w.heap.size (fun k_ => some k_ ≠ ((.slice Ao15 t425.length co15) : Value).ownBlock) (.slice Ao19 t428.length co19) t428) ∧ Aside0 (wc.heap[gb422]? = some (.cells #[(.slice A0_0 l0_0.length c0_0), (.slice A0_1 l0_1.length c0_1), .int .i64 a0_2] 31 (0, 0))) ∧ Aside0 (wc.heap[gb423]? = some (.cells #[(.slice none 0 0), (.slice none 0 0), .int .i64 0] 31 (0, 0))) ∧ Aside0 (wc.heap[gb433]? = some (.cells #[(.slice Ao15 t425.length co15), (.slice Ao19 t428.length co19), .int .i64 t431] 31 (0, 0))) ∧ Aside0 (Below w.heap.size w wc))
  case first =>
   have H := HC6.out
   clear HC6
   by_cases c20 : t432 = true
   ·subst c20
    have H1 : ((spec_l1In.f a1 0 30).bind fun t434 => (spec_StoreSeal.j0 k a1 (!t434) l0_0 l0_1 a0_2 t425 t428 t431)) = some (r1, r2, r3, r4) := by rw [if_pos rfl] at H; exact H
    clear H
    have H := H1
    clear H1
    replace H := Option.bind_eq_some_iff.mp H
    obtain ⟨t434, A210, H⟩ := H
    replace H : (spec_StoreSeal.j0 k a1 (!t434) l0_0 l0_1 a0_2 t425 t428 t431) = some (r1, r2, r3, r4) := H
    have A21 := Aside0.mk A210
    clear A210
    have H' := Aside0.mk H
    clear H
    go_wp2_with (first | (go_at_call 66; (with_reducible refine (spec_l1In.calls a1 0 30 t434 _ A21.out).mono ?_); rintro e w' ⟨rfl, ⟨nd, rfl⟩⟩))
    go_meet
    case rel => exact ⟨_, (!t434), (by first | rfl | (simp; done) | (simp [*]; done)), H', ⟨by first | omega | exact Nat.le_refl _⟩, ⟨RQ (RT HO427.out BK433.out)⟩, ⟨RQ (RT HO430.out BK433.out)⟩, ⟨KK⟩, ⟨KK⟩, ⟨by refine SK ?_; refine blk_put (cs := #[.slice Ao15 t425.length co15, .slice Ao19 t428.length co19, .int .i64 0]) ?_ 2 _ rfl; refine SK ?_; refine blk_put (cs := #[.slice Ao15 t425.length co15, .slice none 0 0, .int .i64 0]) ?_ 1 _ rfl; refine SK ?_; refine blk_put (cs := #[.slice none 0 0, .slice none 0 0, .int .i64 0]) ?_ 0 _ rfl; exact SK BK433.out⟩, ⟨KB⟩⟩
   ·replace c20 := Bool.eq_false_iff.mpr c20
    subst c20
    have H1 : (spec_StoreSeal.j0 k a1 true l0_0 l0_1 a0_2 t425 t428 t431) = some (r1, r2, r3, r4) := by rw [if_neg (show ¬ (false = true) by decide)] at H; exact H
    clear H
    have H := H1
    clear H1
    have H' := Aside0.mk H
    clear H
    go_wp2
    go_meet
    case rel => exact ⟨_, (true), (by first | rfl | (simp; done) | (simp [*]; done)), H', ⟨by first | omega | exact Nat.le_refl _⟩, ⟨RQ (RT HO427.out BK433.out)⟩, ⟨RQ (RT HO430.out BK433.out)⟩, ⟨KK⟩, ⟨KK⟩, ⟨by refine SK ?_; refine blk_put (cs := #[.slice Ao15 t425.length co15, .slice Ao19 t428.length co19, .int .i64 0]) ?_ 2 _ rfl; refine SK ?_; refine blk_put (cs := #[.slice Ao15 t425.length co15, .slice none 0 0, .int .i64 0]) ?_ 1 _ rfl; refine SK ?_; refine blk_put (cs := #[.slice none 0 0, .slice none 0 0, .int .i64 0]) ?_ 0 _ rfl; exact SK BK433.out⟩, ⟨KB⟩⟩
  case rest =>
   clear HC6
   try clear c1
   try clear c2
   try clear p2
   try clear c3
   try clear c4
   try clear c7
   try clear c9
   try clear c16
   try clear c17
   try clear c20
   try clear hcz10_0
   try clear hcz10_1
   try clear hcz10_2
   try clear hcz12_0
   try clear hcz12_1
   try clear hcz12_2
   try clear hcz18_0
   try clear hcz18_1
   try clear hcz18_2
   try clear hfz10_0
   try clear hfz10_1
   try clear hfz10_2
   try clear hfz12_0
   try clear hfz12_1
   try clear hfz12_2
   try clear hfz18_0
   try clear hfz18_1
   try clear hfz18_2
   obtain ⟨kq, x23_5, rfl, HA, HJ5, HO_434000, HO_434001, BK422, BK423, BK433, HB⟩ := hcut
   cases kq with
   | zero => exact absurd HA.out (by simp [spec_StoreSeal.j0])
   | succ kj5 =>
    have H := HA.out
    clear HA
    simp only [spec_StoreSeal.j0] at H
    by_cases c22 : x23_5 = true
    ·subst c22
     have H1 : ((spec_l6Copy.f l0_0 l0_1 a0_2).bind fun bt435 => (some (bt435.1, bt435.2.1, bt435.2.2, false))) = some (r1, r2, r3, r4) := by rw [if_pos rfl] at H; exact H
     clear H
     have H := H1
     clear H1
     replace H := Option.bind_eq_some_iff.mp H
     obtain ⟨⟨t435, t438, t441⟩, A230, H⟩ := H
     replace H : (some (t435, t438, t441, false)) = some (r1, r2, r3, r4) := H
     have A23 := Aside0.mk A230
     clear A230
     simp only [Option.some.injEq, Prod.mk.injEq] at H
     obtain ⟨rfl, rfl, rfl, rfl⟩ := H
     have hnb24 := NB422_423.out
     have hnc24 := NB423_422.out
     have hnb25 := NB422_433.out
     have hnc25 := NB433_422.out
     obtain ⟨hcz26_0, hcz26_1, hcz26_2, hfz26_0, hfz26_1, hfz26_2⟩ := C3 BK422.out
     go_wp2_with (first | ((with_reducible refine gate_callee (f := 41) rfl ?_); refine goesL_ (some 25) rfl rfl Try.func41 (by kernel_rfl) rfl #[.agg #[.slice A0_0 l0_0.length c0_0, .slice A0_1 l0_1.length c0_1, .int .i64 a0_2]] rfl KL ?_; (with_reducible refine (spec_l6Copy.calls _ _ l0_0 _ _ l0_1 a0_2 t435 t438 t441 _ ?side1 ?side2 ?side3 ?side4 A23.out).mono ?_); (case side1 => exact KD (Kd.C_below HR0_0.out HB.out)); (case side2 => exact HC0_0.out); (case side3 => exact KD (Kd.C_below HR0_1.out HB.out)); (case side4 => exact HC0_1.out); rintro e w27 ⟨v436, v439, rfl, ho0, ho1, hb⟩; refine ⟨_, rfl, ?_⟩; have h_ := P8 (Kd.R_mono (Kd.R_told (Kd.R_told (Kd.R_old (KR HO_434000.out) hb) (Kd.R_base ho0)) (Kd.R_base ho1)) (fun _ h_ => h_.1)) (Kd.R_mono (Kd.R_told (Kd.R_told (Kd.R_old (KR HO_434001.out) hb) (Kd.R_base ho0)) (Kd.R_base ho1)) (fun _ h_ => h_.1)) (Kd.R_lower (Kd.R_new' (Kd.R_new' ho0 (Kd.R_lt (KR HO_434000.out))) (Kd.R_lt (KR HO_434001.out))) (below_size KB)) (Kd.R_lower (Kd.R_new' (Kd.R_new' ho1 (Kd.R_lt (KR HO_434000.out))) (Kd.R_lt (KR HO_434001.out))) (below_size KB)) (BL BK422.out hb) (BL BK423.out hb) (BL BK433.out hb) (below_step KB hb); clear HO_434000 HO_434001 BK422 BK423 BK433 HB; obtain ⟨HO_434000, HO_434001, HO437, HO440, BK422, BK423, BK433, HB⟩ := h_; (try clear hb); (try clear hk); (try clear hi); (try clear ho0); (try clear ho1); obtain ⟨Ao28, co28, eo28⟩ := Kd.R_slice HO437.out; subst eo28; have hnb29 := NB423_433.out; have hnc29 := NB433_423.out; obtain ⟨hcz30_0, hcz30_1, hcz30_2, hfz30_0, hfz30_1, hfz30_2⟩ := C3 BK423.out; obtain ⟨Ao31, co31, eo31⟩ := Kd.R_slice HO440.out; subst eo31))
     refine bodyPost_ret (results_ct rfl _ _ gb423 31 #[.slice Ao28 t435.length co28, .slice Ao31 t438.length co31, .int .i64 t441] (0, 0) _ rfl (by refine SK ?_; refine blk_put (cs := #[.slice Ao28 t435.length co28, .slice Ao31 t438.length co31, .int .i64 0]) ?_ 2 _ rfl; refine SK ?_; refine blk_put (cs := #[.slice Ao28 t435.length co28, .slice none 0 0, .int .i64 0]) ?_ 1 _ rfl; refine SK ?_; refine blk_put (cs := #[.slice none 0 0, .slice none 0 0, .int .i64 0]) ?_ 0 _ rfl; exact SK BK423.out) Try.underlying31 rfl (by kernel_rfl)) rfl ?_
     exact ⟨_, _, KE, RQ (RT HO437.out BK423.out) (hm := fun _ h => h.1.1.1), RQ (RT HO440.out BK423.out) (hm := fun _ h => h.1.1.1), KB⟩
    ·replace c22 := Bool.eq_false_iff.mpr c22
     subst c22
     have H1 : ((spec_l1Max.f t431 a1).bind fun t442 => (some (t425, t428, t442, true))) = some (r1, r2, r3, r4) := by rw [if_neg (show ¬ (false = true) by decide)] at H; exact H
     clear H
     have H := H1
     clear H1
     replace H := Option.bind_eq_some_iff.mp H
     obtain ⟨t442, A320, H⟩ := H
     replace H : (some (t425, t428, t442, true)) = some (r1, r2, r3, r4) := H
     have A32 := Aside0.mk A320
     clear A320
     simp only [Option.some.injEq, Prod.mk.injEq] at H
     obtain ⟨rfl, rfl, rfl, rfl⟩ := H
     have hnb33 := NB433_422.out
     have hnc33 := NB422_433.out
     have hnb34 := NB433_423.out
     have hnc34 := NB423_433.out
     obtain ⟨hcz35_0, hcz35_1, hcz35_2, hfz35_0, hfz35_1, hfz35_2⟩ := C3 BK433.out
     go_wp2_with (first | ((with_reducible refine gate_callee (f := 74) rfl ?_); refine goesL_ (some 29) rfl rfl Try.func74 (by kernel_rfl) rfl #[.int .i64 t431, .int .i64 a1] rfl KL ?_; (with_reducible refine (spec_l1Max.calls t431 a1 t442 _ A32.out).mono ?_); rintro e w' ⟨rfl, ⟨nd, rfl⟩⟩; refine ⟨_, rfl, ?_⟩; (try (rw [drewN_self wc]; generalize hq_ : World.drewN wc _ = wc; have n0_ : Aside0 (Kd.R k35 35 wc w.heap.size (fun k_ => some k_ ≠ (.slice Ao19 t428.length co19 : Value).ownBlock) (.slice Ao15 t425.length co15) t425) := ⟨by rw [← hq_]; exact (KR HO_434000.out)⟩; have n1_ : Aside0 (Kd.R k35 35 wc w.heap.size (fun k_ => some k_ ≠ (.slice Ao15 t425.length co15 : Value).ownBlock) (.slice Ao19 t428.length co19) t428) := ⟨by rw [← hq_]; exact (KR HO_434001.out)⟩; have n2_ : Aside0 (wc.heap[gb422]? = some (.cells #[.slice A0_0 l0_0.length c0_0, .slice A0_1 l0_1.length c0_1, .int .i64 a0_2] 31 (0, 0))) := ⟨by rw [← hq_]; exact KK⟩; have n3_ : Aside0 (wc.heap[gb423]? = some (.cells #[.slice none 0 0, .slice none 0 0, .int .i64 0] 31 (0, 0))) := ⟨by rw [← hq_]; exact KK⟩; have n4_ : Aside0 (wc.heap[gb433]? = some (.cells #[.slice Ao15 t425.length co15, .slice Ao19 t428.length co19, .int .i64 t431] 31 (0, 0))) := ⟨by rw [← hq_]; exact KK⟩; have n5_ : Aside0 (Below w.heap.size w wc) := ⟨by rw [← hq_]; exact KB⟩; clear HO_434000 HO_434001 BK422 BK423 BK433 HB hq_; have HO_434000 := n0_; have HO_434001 := n1_; have BK422 := n2_; have BK423 := n3_; have BK433 := n4_; have HB := n5_; clear n0_ n1_ n2_ n3_ n4_ n5_)); (try (have hcy422_0 : wc.cell? ⟨gb422, 0, none⟩ = some (.slice A0_0 l0_0.length c0_0) := (blk_cell BK422.out 0).trans rfl)); (try (have hfy422_0 := blk_frozen BK422.out 0)); (try (have hcy422_1 : wc.cell? ⟨gb422, 1, none⟩ = some (.slice A0_1 l0_1.length c0_1) := (blk_cell BK422.out 1).trans rfl)); (try (have hfy422_1 := blk_frozen BK422.out 1)); (try (have hcy422_2 : wc.cell? ⟨gb422, 2, none⟩ = some (.int .i64 a0_2) := (blk_cell BK422.out 2).trans rfl)); (try (have hfy422_2 := blk_frozen BK422.out 2)); (try (have hny422_423 := NB422_423.out)); (try (have hnz423_422 := NB423_422.out)); (try (have hcy433_0 : wc.cell? ⟨gb433, 0, none⟩ = some (.slice Ao15 t425.length co15) := (blk_cell BK433.out 0).trans rfl)); (try (have hfy433_0 := blk_frozen BK433.out 0)); (try (have hcy433_1 : wc.cell? ⟨gb433, 1, none⟩ = some (.slice Ao19 t428.length co19) := (blk_cell BK433.out 1).trans rfl)); (try (have hfy433_1 := blk_frozen BK433.out 1)); (try (have hcy433_2 : wc.cell? ⟨gb433, 2, none⟩ = some (.int .i64 t431) := (blk_cell BK433.out 2).trans rfl)); (try (have hfy433_2 := blk_frozen BK433.out 2)); (try (have hny433_423 := NB433_423.out)); (try (have hnz423_433 := NB423_433.out)); have hnb36 := NB423_422.out; have hnc36 := NB422_423.out; obtain ⟨hcz37_0, hcz37_1, hcz37_2, hfz37_0, hfz37_1, hfz37_2⟩ := C3 BK423.out))
     refine bodyPost_ret (results_ct rfl _ _ gb423 31 #[.slice Ao15 t425.length co15, .slice Ao19 t428.length co19, .int .i64 t442] (0, 0) _ rfl (by refine SK ?_; refine blk_put (cs := #[.slice Ao15 t425.length co15, .slice Ao19 t428.length co19, .int .i64 0]) ?_ 2 _ rfl; refine SK ?_; refine blk_put (cs := #[.slice Ao15 t425.length co15, .slice none 0 0, .int .i64 0]) ?_ 1 _ rfl; refine SK ?_; refine blk_put (cs := #[.slice none 0 0, .slice none 0 0, .int .i64 0]) ?_ 0 _ rfl; refine SK ?_; refine blk_far ?_ NB423_433.out _; exact SK BK423.out) Try.underlying31 rfl (by kernel_rfl)) rfl ?_
     exact ⟨_, _, KE, RQ (RT (RT HO_434000.out BK433.out) BK423.out) (hm := fun _ h => h.1.1), RQ (RT (RT HO_434001.out BK433.out) BK423.out) (hm := fun _ h => h.1.1), KB⟩
 ·replace c4 := Bool.eq_false_iff.mpr c4
  subst c4
  have H1 : (some (([] : List (S35)), ([] : List (S35)), 0, false)) = some (r1, r2, r3, r4) := by rw [if_neg (show ¬ (false = true) by decide)] at H; exact H
  clear H
  have H := H1
  clear H1
  simp only [Option.some.injEq, Prod.mk.injEq] at H
  obtain ⟨rfl, rfl, rfl, rfl⟩ := H
  go_enter Try.func38, Try.ntmps38
  go_wp2_with (first | ((with_reducible refine gate_dst (N := 2) rfl ?_); refine BE 2 #[.slice A0_0 l0_0.length c0_0, .slice A0_1 l0_1.length c0_1, .int .i64 a0_2] 31 ?_; intro gb422 hg w38 hbox hb; have h_ := P4 (below_step KB hb) hbox (KG hg : w.heap.size ≤ gb422) (KG hg : w.heap.size ≤ gb422); clear HB; obtain ⟨HB, BK422, GW422, GE422⟩ := h_; clear hb hbox hg) | ((with_reducible refine gate_dst (N := 4) rfl ?_); refine BE 4 #[.slice none 0 0, .slice none 0 0, .int .i64 0] 31 ?_; intro gb423 hg w39 hbox hb; have h_ := P7 (BL BK422.out hb) (below_step KB hb) hbox (KG hg : w.heap.size ≤ gb423) (KG hg : w.heap.size ≤ gb423) (NX hg BK422.out) (Ne.symm (NX hg BK422.out)); clear BK422 HB; obtain ⟨BK422, HB, BK423, GW423, GE423, NB422_423, NB423_422⟩ := h_; clear hb hbox hg; have hnb40 := NB422_423.out; have hnc40 := NB423_422.out; obtain ⟨hcz41_0, hcz41_1, hcz41_2, hfz41_0, hfz41_1, hfz41_2⟩ := C3 BK422.out) | ((with_reducible refine gate_callee (f := 34) rfl ?_); refine goesL_ (some 9) rfl rfl Try.func34 (by kernel_rfl) rfl #[.agg #[.slice A0_0 l0_0.length c0_0, .slice A0_1 l0_1.length c0_1, .int .i64 a0_2]] rfl KL ?_; (with_reducible refine (spec_StoreOk.calls k _ _ l0_0 _ _ l0_1 a0_2 false _ ?side1 ?side2 ?side3 ?side4 A3.out).mono ?_); (case side1 => exact KD (Kd.C_below HR0_0.out HB.out)); (case side2 => exact HC0_0.out); (case side3 => exact KD (Kd.C_below HR0_1.out HB.out)); (case side4 => exact HC0_1.out); rintro e w42 ⟨rfl, hb⟩; refine ⟨_, rfl, ?_⟩; have h_ := P3 (BL BK422.out hb) (BL BK423.out hb) (below_step KB hb); clear BK422 BK423 HB; obtain ⟨BK422, BK423, HB⟩ := h_; (try clear hb); (try clear hk); (try clear hi); obtain ⟨hcz43_0, hcz43_1, hcz43_2, hfz43_0, hfz43_1, hfz43_2⟩ := C3 BK423.out))
  refine bodyPost_ret (results_ct rfl _ _ gb423 31 #[.slice none 0 0, .slice none 0 0, .int .i64 0] (0, 0) _ rfl (by refine SK ?_; refine blk_put (cs := #[.slice none 0 0, .slice none 0 0, .int .i64 0]) ?_ 2 _ rfl; refine SK ?_; refine blk_put (cs := #[.slice none 0 0, .slice none 0 0, .int .i64 0]) ?_ 1 _ rfl; refine SK ?_; refine blk_put (cs := #[.slice none 0 0, .slice none 0 0, .int .i64 0]) ?_ 0 _ rfl; exact SK BK423.out) Try.underlying31 rfl (by kernel_rfl)) rfl ?_
  exact ⟨_, _, KE, by first | exact Kd.R_nil _ _ _ _ _ | exact Kd.N_nil _ _ _ _ _ | exact Kd.V_nil _ _ _ _ _ | exact Kd.Q_nil _ _ _ _ _ | exact Kd.S_nil _ _ _ _ _, by first | exact Kd.R_nil _ _ _ _ _ | exact Kd.N_nil _ _ _ _ _ | exact Kd.V_nil _ _ _ _ _ | exact Kd.Q_nil _ _ _ _ _ | exact Kd.S_nil _ _ _ _ _, KB⟩

end Go.Proofs.Ytnoghojlpicecaa.PFnSealed
