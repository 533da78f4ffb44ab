-- What each Go function that this law reaches comes to: written by a program out of the translation.
import Derived.Test.YtnoghojlpicecaaMFnStoredx0
import Derived.Test.YtnoghojlpicecaaMFnStoredx1
import Derived.Test.YtnoghojlpicecaaMFnStoredx2
import Derived.Test.YtnoghojlpicecaaMFnStoredx8
namespace Go.Proofs.Ytnoghojlpicecaa.PFnStored
open Go.RowKit Go.Proofs.YtnoghojlpicecaaW.PrintWords Go.Proofs.YtnoghojlpicecaaW.PrintLast Go.Proofs.YtnoghojlpicecaaW.PrintMore
attribute [local go_sem] max2_int min2_int max_two min_two max_three min_three max_four min_four   -- for this text's walks alone
set_option linter.unusedVariables false
set_option linter.unusedSimpArgs false

/-! ### spec_StoreSeal: function 38 -/
def spec_StoreSeal.j0 : Nat → Int → Bool → List (S35) → List (S35) → Int → List (S35) → List (S35) → Int → Option ((List (S35)) × (List (S35)) × Int × Bool)
 | 0, _, _, _, _, _, _, _, _ => none
 | k + 1, x1, x23, x429000, x429001, x429002, x440000, x440001, x440002 => if x23 = true then ((spec_l6Copy.f x429000 x429001 x429002).bind fun bt441 => (some (bt441.1, bt441.2.1, bt441.2.2, false))) else ((spec_l1Max.f x440002 x1).bind fun t448 => (some (x440000, x440001, t448, true)))
def spec_StoreSeal.f (k : Nat) (l0_0 : List (S35)) (l0_1 : List (S35)) (a0_2 : Int) (a1 : Int) : Option ((List (S35)) × (List (S35)) × Int × Bool) := (spec_StoreOk.f k l0_0 l0_1 a0_2).bind fun t430 => (if t430 = true then ((spec_StoreSync.f k l0_0 l0_1 a0_2).bind fun bt431 => (if bt431.2.2.2 = true then ((spec_l1In.f a1 0 30).bind fun t440 => (spec_StoreSeal.j0 k a1 (!t440) l0_0 l0_1 a0_2 bt431.1 bt431.2.1 bt431.2.2.1)) else (spec_StoreSeal.j0 k a1 true l0_0 l0_1 a0_2 bt431.1 bt431.2.1 bt431.2.2.1))) else (some (([] : List (S35)), ([] : List (S35)), 0, false)))
theorem spec_StoreSeal.mono_l : ∀ k, (∀ y0 y1 y2 y3 y4 y5 y6 y7, LeO (spec_StoreSeal.j0 k y0 y1 y2 y3 y4 y5 y6 y7) (spec_StoreSeal.j0 (k + 1) y0 y1 y2 y3 y4 y5 y6 y7))
 | 0 => fun _ _ _ _ _ _ _ _ r h => by simp [spec_StoreSeal.j0] at h
 | k + 1 => by
  have ih0 := spec_StoreSeal.mono_l k
  ·intro y0 y1 y2 y3 y4 y5 y6 y7
   unfold spec_StoreSeal.j0
   repeat' first
   | (with_reducible exact ih0 _ _ _ _ _ _ _ _)
   | (with_reducible exact spec_StoreOk.mono _ _ _ _)
   | (with_reducible exact spec_StoreSync.mono _ _ _ _)
   | (with_reducible exact LeO.refl _)
   | (with_reducible exact LeO.none _)
   | (with_reducible refine LeO.ite ?_ ?_)
   | (with_reducible refine LeO.bind ?_ (fun _ => ?_))
   | exact ih0 _ _ _ _ _ _ _ _
   | exact spec_StoreOk.mono _ _ _ _
   | exact spec_StoreSync.mono _ _ _ _
   | exact LeO.none _
   | refine LeO.ite ?_ ?_
   | refine LeO.bind ?_ (fun _ => ?_)
theorem spec_StoreSeal.mono : ∀ a0 a1 a2 a3 k, LeO (spec_StoreSeal.f k a0 a1 a2 a3) (spec_StoreSeal.f (k + 1) a0 a1 a2 a3) := by
 intro a0 a1 a2 a3 k; have ih0 := spec_StoreSeal.mono_l k
 unfold spec_StoreSeal.f
 repeat' first
   | (with_reducible exact ih0 _ _ _ _ _ _ _ _)
   | (with_reducible exact spec_StoreOk.mono _ _ _ _)
   | (with_reducible exact spec_StoreSync.mono _ _ _ _)
   | (with_reducible exact LeO.refl _)
   | (with_reducible exact LeO.none _)
   | (with_reducible refine LeO.ite ?_ ?_)
   | (with_reducible refine LeO.bind ?_ (fun _ => ?_))
   | exact ih0 _ _ _ _ _ _ _ _
   | exact spec_StoreOk.mono _ _ _ _
   | exact spec_StoreSync.mono _ _ _ _
   | exact LeO.none _
   | refine LeO.ite ?_ ?_
   | refine LeO.bind ?_ (fun _ => ?_)
set_option maxHeartbeats 8000000 in
set_option maxRecDepth 100000 in
theorem spec_StoreSeal.calls (k : Nat) (A0_0 : Option Addr) (c0_0 : Nat) (l0_0 : List (S35)) (A0_1 : Option Addr) (c0_1 : Nat) (l0_1 : List (S35)) (a0_2 : Int) (a1 : Int) (r1 : List (S35)) (r2 : List (S35)) (r3 : Int) (r4 : Bool) (w : World) (hr0_0 : Kd.C k35 w A0_0 l0_0.length l0_0) (hc0_0 : l0_0.length ≤ c0_0) (hr0_1 : Kd.C k35 w A0_1 l0_1.length l0_1) (hc0_1 : l0_1.length ≤ c0_1) (h : spec_StoreSeal.f k l0_0 l0_1 a0_2 a1 = some (r1, r2, r3, r4)) :
  Calls Try.prog 38 #[.agg #[.slice A0_0 l0_0.length c0_0, .slice A0_1 l0_1.length c0_1, .int .i64 a0_2], .int .i64 a1] w fun e w' => ∃ v0_ v1_ : Value, e = .returned (.tuple #[.agg #[v0_, v1_, .int .i64 r3], .bool r4]) ∧ Kd.R k35 35 w' w.heap.size (fun k_ => some k_ ≠ (v1_ : Value).ownBlock) v0_ r1 ∧ Kd.R k35 35 w' w.heap.size (fun k_ => some k_ ≠ (v0_ : Value).ownBlock) v1_ r2 ∧ Below w.heap.size w w' := by
 have hu31 := Try.underlying31; have HR0_0 := Aside0.mk hr0_0; have HC0_0 := Aside0.mk hc0_0; clear hr0_0 hc0_0; have HR0_1 := Aside0.mk hr0_1; have HC0_1 := Aside0.mk hc0_1; clear hr0_1 hc0_1; have HB := Aside0.mk (Below.refl w.heap.size w); have H : ((spec_StoreOk.f k l0_0 l0_1 a0_2).bind fun t430 => (if t430 = true then ((spec_StoreSync.f k l0_0 l0_1 a0_2).bind fun bt431 => (if bt431.2.2.2 = true then ((spec_l1In.f a1 0 30).bind fun t440 => (spec_StoreSeal.j0 k a1 (!t440) l0_0 l0_1 a0_2 bt431.1 bt431.2.1 bt431.2.2.1)) else (spec_StoreSeal.j0 k a1 true l0_0 l0_1 a0_2 bt431.1 bt431.2.1 bt431.2.2.1))) else (some (([] : List (S35)), ([] : List (S35)), 0, false)))) = some (r1, r2, r3, r4) := h; clear h; replace H := Option.bind_eq_some_iff.mp H; obtain ⟨t430, A30, H⟩ := H
 try dsimp only at H
 have A3 := Aside0.mk A30; clear A30
 by_cases c4 : t430 = true
 ·subst c4
  have H1 : ((spec_StoreSync.f k l0_0 l0_1 a0_2).bind fun bt431 => (if bt431.2.2.2 = true then ((spec_l1In.f a1 0 30).bind fun t440 => (spec_StoreSeal.j0 k a1 (!t440) l0_0 l0_1 a0_2 bt431.1 bt431.2.1 bt431.2.2.1)) else (spec_StoreSeal.j0 k a1 true l0_0 l0_1 a0_2 bt431.1 bt431.2.1 bt431.2.2.1))) = some (r1, r2, r3, r4) := by rw [if_pos rfl] at H; exact H
  clear H; have H := H1; clear H1; replace H := Option.bind_eq_some_iff.mp H; obtain ⟨⟨t431, t434, t437, t438⟩, A50, H⟩ := H
  try dsimp only at H
  have A5 := Aside0.mk A50; clear A50; have HC6 := Aside0.mk H; clear H
  go_enter Try.func38, Try.ntmps38
  go_upto_region 4 with (first | ((with_reducible refine GD 2 ?_); refine BE 2 #[.slice A0_0 l0_0.length c0_0, .slice A0_1 l0_1.length c0_1, .int .i64 a0_2] 31 ?_; intro gb428 hg w7 hbox hb; have h_ := P4 (below_step KB hb) hbox (Kg w hg) (Kg w hg); clear HB; obtain ⟨HB, BK428, GW428, GE428⟩ := h_; clear hb hbox hg) | ((with_reducible refine GD 4 ?_); refine BE 4 #[.slice none 0 0, .slice none 0 0, .int .i64 0] 31 ?_; intro gb429 hg w8 hbox hb; have h_ := P7 (BL BK428.out hb) (below_step KB hb) hbox (Kg w hg) (Kg w hg) (NX hg BK428.out) (NY hg BK428.out); clear BK428 HB; obtain ⟨BK428, HB, BK429, GW429, GE429, NB428_429, NB429_428⟩ := h_; clear hb hbox hg; have hnb9 := NB428_429.out; have hnc9 := NB429_428.out; obtain ⟨hcz10_0, hcz10_1, hcz10_2, hfz10_0, hfz10_1, hfz10_2⟩ := C3 BK428.out) | ((with_reducible refine GC 34 ?_); refine goesL_ (some 9) rfl rfl Try.func34 (by kernel_rfl) rfl #[.agg #[.slice A0_0 l0_0.length c0_0, .slice A0_1 l0_1.length c0_1, .int .i64 a0_2]] rfl KL ?_; (with_reducible refine (spec_StoreOk.calls k _ _ l0_0 _ _ l0_1 a0_2 true _ ?side1 ?side2 ?side3 ?side4 A3.out).mono ?_); (case side1 => exact KD (Kd.C_below HR0_0.out HB.out)); (case side2 => exact HC0_0.out); (case side3 => exact KD (Kd.C_below HR0_1.out HB.out)); (case side4 => exact HC0_1.out); rintro e w11 ⟨rfl, hb⟩; refine ⟨_, rfl, ?_⟩; have h_ := P3 (BL BK428.out hb) (BL BK429.out hb) (below_step KB hb); clear BK428 BK429 HB; obtain ⟨BK428, BK429, HB⟩ := h_; (try clear hb); (try clear hk); (try clear hi); obtain ⟨hcz12_0, hcz12_1, hcz12_2, hfz12_0, hfz12_1, hfz12_2⟩ := C3 BK428.out) | ((with_reducible refine GC 73 ?_); refine goesL_ (some 14) rfl rfl Try.func73 (by kernel_rfl) rfl #[.agg #[.slice A0_0 l0_0.length c0_0, .slice A0_1 l0_1.length c0_1, .int .i64 a0_2]] rfl KL ?_; (with_reducible refine (spec_StoreSync.calls k _ _ l0_0 _ _ l0_1 a0_2 t431 t434 t437 t438 _ ?side1 ?side2 ?side3 ?side4 A5.out).mono ?_); (case side1 => exact KD (Kd.C_below HR0_0.out HB.out)); (case side2 => exact HC0_0.out); (case side3 => exact KD (Kd.C_below HR0_1.out HB.out)); (case side4 => exact HC0_1.out); rintro e w13 ⟨v432, v435, rfl, ho0, ho1, hb⟩; refine ⟨_, rfl, ?_⟩; have h_ := P5 (Kd.R_lower ho0 (below_size KB)) (Kd.R_lower ho1 (below_size KB)) (BL BK428.out hb) (BL BK429.out hb) (below_step KB hb); clear BK428 BK429 HB; obtain ⟨HO433, HO436, BK428, BK429, HB⟩ := h_; (try clear hb); (try clear hk); (try clear hi); (try clear ho0); (try clear ho1)) | ((with_reducible refine GD 6 ?_); refine BE 6 #[.slice none 0 0, .slice none 0 0, .int .i64 0] 31 ?_; intro gb439 hg w14 hbox hb; have h_ := P12 (Kd.R_below (KR HO433.out) hb) (Kd.R_below (KR HO436.out) hb) (BL BK428.out hb) (BL BK429.out hb) (below_step KB hb) hbox (Kg w hg) (Kg w hg) (NX hg BK428.out) (NY hg BK428.out) (NX hg BK429.out) (NY hg BK429.out); clear HO433 HO436 BK428 BK429 HB; obtain ⟨HO433, HO436, BK428, BK429, HB, BK439, GW439, GE439, NB428_439, NB439_428, NB429_439, NB439_429⟩ := h_; clear hb hbox hg; obtain ⟨Ao15, co15, eo15⟩ := Kd.R_slice HO433.out; subst eo15; have hnb16 := NB439_428.out; have hnc16 := NB428_439.out; have hnb17 := NB439_429.out; have hnc17 := NB429_439.out; obtain ⟨hcz18_0, hcz18_1, hcz18_2, hfz18_0, hfz18_1, hfz18_2⟩ := C3 BK439.out; obtain ⟨Ao19, co19, eo19⟩ := Kd.R_slice HO436.out; subst eo19))
  (try simp only [Act.put, List.setIfInBounds_toArray, List.set_cons_zero, List.set_cons_succ])
  go_cut [23] (fun v23 wc => ∃ (kq : Nat) (x23_5 : Bool), v23 = .bool x23_5 ∧ Aside0 (spec_StoreSeal.j0 kq a1 x23_5 l0_0 l0_1 a0_2 t431 t434 t437 = some (r1, r2, r3, r4)) ∧ Aside0 (kq ≤ k) ∧ Aside0 (Kd.R k35 35 wc w.heap.size (fun k_ => some k_ ≠ ((.slice Ao19 t434.length co19) : Value).ownBlock) (.slice Ao15 t431.length co15) t431) ∧ Aside0 (Kd.R k35 35 wc w.heap.size (fun k_ => some k_ ≠ ((.slice Ao15 t431.length co15) : Value).ownBlock) (.slice Ao19 t434.length co19) t434) ∧ Aside0 (wc.heap[gb428]? = some (.cells #[(.slice A0_0 l0_0.length c0_0), (.slice A0_1 l0_1.length c0_1), .int .i64 a0_2] 31 (0, 0))) ∧ Aside0 (wc.heap[gb429]? = some (.cells #[(.slice none 0 0), (.slice none 0 0), .int .i64 0] 31 (0, 0))) ∧ Aside0 (wc.heap[gb439]? = some (.cells #[(.slice Ao15 t431.length co15), (.slice Ao19 t434.length co19), .int .i64 t437] 31 (0, 0))) ∧ Aside0 (Below w.heap.size w wc))
  case first =>
   have H := HC6.out; clear HC6
   by_cases c20 : t438 = true
   ·subst c20
    have H1 : ((spec_l1In.f a1 0 30).bind fun t440 => (spec_StoreSeal.j0 k a1 (!t440) l0_0 l0_1 a0_2 t431 t434 t437)) = some (r1, r2, r3, r4) := by rw [if_pos rfl] at H; exact H
    clear H; have H := H1; clear H1; replace H := Option.bind_eq_some_iff.mp H; obtain ⟨t440, A210, H⟩ := H
    try dsimp only at H
    have A21 := Aside0.mk A210; clear A210; have H' := Aside0.mk H; clear H
    go_wp2_with (first | (go_at_call 66; (with_reducible refine (spec_l1In.calls a1 0 30 t440 _ A21.out).mono ?_); rintro e w' ⟨rfl, ⟨nd, rfl⟩⟩))
    go_meet
    case rel => exact ⟨_, (!t440), (by first | rfl | (simp; done) | (simp [*]; done)), H', ⟨by first | omega | exact Nat.le_refl _⟩, ⟨RQ (RT HO433.out BK439.out)⟩, ⟨RQ (RT HO436.out BK439.out)⟩, ⟨KK⟩, ⟨KK⟩, ⟨by refine SK ?_; refine BP #[.slice Ao15 t431.length co15, .slice Ao19 t434.length co19, .int .i64 0] ?_ 2; refine SK ?_; refine BP #[.slice Ao15 t431.length co15, .slice none 0 0, .int .i64 0] ?_ 1; refine SK ?_; refine BP #[.slice none 0 0, .slice none 0 0, .int .i64 0] ?_ 0; exact SK BK439.out⟩, ⟨KB⟩⟩
   ·replace c20 := Bool.eq_false_iff.mpr c20
    subst c20; have H1 : (spec_StoreSeal.j0 k a1 true l0_0 l0_1 a0_2 t431 t434 t437) = some (r1, r2, r3, r4) := by rw [if_neg (show ¬ (false = true) by decide)] at H; exact H
    clear H; have H := H1; clear H1; have H' := Aside0.mk H; clear H
    go_wp2
    go_meet
    case rel => exact ⟨_, (true), (by first | rfl | (simp; done) | (simp [*]; done)), H', ⟨by first | omega | exact Nat.le_refl _⟩, ⟨RQ (RT HO433.out BK439.out)⟩, ⟨RQ (RT HO436.out BK439.out)⟩, ⟨KK⟩, ⟨KK⟩, ⟨by refine SK ?_; refine BP #[.slice Ao15 t431.length co15, .slice Ao19 t434.length co19, .int .i64 0] ?_ 2; refine SK ?_; refine BP #[.slice Ao15 t431.length co15, .slice none 0 0, .int .i64 0] ?_ 1; refine SK ?_; refine BP #[.slice none 0 0, .slice none 0 0, .int .i64 0] ?_ 0; exact SK BK439.out⟩, ⟨KB⟩⟩
  case rest =>
   clear HC6
   try clear c1
   try clear c2
   try clear p2
   try clear c3
   try clear c4
   try clear c7
   try clear c9
   try clear c16
   try clear c17
   try clear c20
   try clear hcz10_0
   try clear hcz10_1
   try clear hcz10_2
   try clear hcz12_0
   try clear hcz12_1
   try clear hcz12_2
   try clear hcz18_0
   try clear hcz18_1
   try clear hcz18_2
   try clear hfz10_0
   try clear hfz10_1
   try clear hfz10_2
   try clear hfz12_0
   try clear hfz12_1
   try clear hfz12_2
   try clear hfz18_0
   try clear hfz18_1
   try clear hfz18_2
   obtain ⟨kq, x23_5, rfl, HA, HJ5, HO_440000, HO_440001, BK428, BK429, BK439, HB⟩ := hcut
   cases kq with
   | zero => exact absurd HA.out (by simp [spec_StoreSeal.j0])
   | succ kj5 =>
    have H := HA.out; clear HA; simp only [spec_StoreSeal.j0] at H
    by_cases c22 : x23_5 = true
    ·subst c22
     have H1 : ((spec_l6Copy.f l0_0 l0_1 a0_2).bind fun bt441 => (some (bt441.1, bt441.2.1, bt441.2.2, false))) = some (r1, r2, r3, r4) := by rw [if_pos rfl] at H; exact H
     clear H; have H := H1; clear H1; replace H := Option.bind_eq_some_iff.mp H; obtain ⟨⟨t441, t444, t447⟩, A230, H⟩ := H
     try dsimp only at H
     have A23 := Aside0.mk A230; clear A230; simp only [Option.some.injEq, Prod.mk.injEq] at H; obtain ⟨rfl, rfl, rfl, rfl⟩ := H; have hnb24 := NB428_429.out; have hnc24 := NB429_428.out; have hnb25 := NB428_439.out; have hnc25 := NB439_428.out; obtain ⟨hcz26_0, hcz26_1, hcz26_2, hfz26_0, hfz26_1, hfz26_2⟩ := C3 BK428.out
     go_wp2_with (first | ((with_reducible refine GC 41 ?_); refine goesL_ (some 25) rfl rfl Try.func41 (by kernel_rfl) rfl #[.agg #[.slice A0_0 l0_0.length c0_0, .slice A0_1 l0_1.length c0_1, .int .i64 a0_2]] rfl KL ?_; (with_reducible refine (spec_l6Copy.calls _ _ l0_0 _ _ l0_1 a0_2 t441 t444 t447 _ ?side1 ?side2 ?side3 ?side4 A23.out).mono ?_); (case side1 => exact KD (Kd.C_below HR0_0.out HB.out)); (case side2 => exact HC0_0.out); (case side3 => exact KD (Kd.C_below HR0_1.out HB.out)); (case side4 => exact HC0_1.out); rintro e w27 ⟨v442, v445, rfl, ho0, ho1, hb⟩; refine ⟨_, rfl, ?_⟩; have h_ := P8 (Kd.R_mono (Kd.R_told (Kd.R_told (Kd.R_old (KR HO_440000.out) hb) (Kd.R_base ho0)) (Kd.R_base ho1)) (fun _ h_ => h_.1)) (Kd.R_mono (Kd.R_told (Kd.R_told (Kd.R_old (KR HO_440001.out) hb) (Kd.R_base ho0)) (Kd.R_base ho1)) (fun _ h_ => h_.1)) (Kd.R_lower (Kd.R_new' (Kd.R_new' ho0 (Kd.R_lt (KR HO_440000.out))) (Kd.R_lt (KR HO_440001.out))) (below_size KB)) (Kd.R_lower (Kd.R_new' (Kd.R_new' ho1 (Kd.R_lt (KR HO_440000.out))) (Kd.R_lt (KR HO_440001.out))) (below_size KB)) (BL BK428.out hb) (BL BK429.out hb) (BL BK439.out hb) (below_step KB hb); clear HO_440000 HO_440001 BK428 BK429 BK439 HB; obtain ⟨HO_440000, HO_440001, HO443, HO446, BK428, BK429, BK439, HB⟩ := h_; (try clear hb); (try clear hk); (try clear hi); (try clear ho0); (try clear ho1); obtain ⟨Ao28, co28, eo28⟩ := Kd.R_slice HO443.out; subst eo28; have hnb29 := NB429_439.out; have hnc29 := NB439_429.out; obtain ⟨hcz30_0, hcz30_1, hcz30_2, hfz30_0, hfz30_1, hfz30_2⟩ := C3 BK429.out; obtain ⟨Ao31, co31, eo31⟩ := Kd.R_slice HO446.out; subst eo31))
     refine bodyPost_ret (results_ct rfl _ _ gb429 31 #[.slice Ao28 t441.length co28, .slice Ao31 t444.length co31, .int .i64 t447] (0, 0) _ rfl (by refine SK ?_; refine BP #[.slice Ao28 t441.length co28, .slice Ao31 t444.length co31, .int .i64 0] ?_ 2; refine SK ?_; refine BP #[.slice Ao28 t441.length co28, .slice none 0 0, .int .i64 0] ?_ 1; refine SK ?_; refine BP #[.slice none 0 0, .slice none 0 0, .int .i64 0] ?_ 0; exact SK BK429.out) Try.underlying31 rfl (by kernel_rfl)) rfl ?_; exact ⟨_, _, KE, RQ (RT HO443.out BK429.out) (hm := fun _ h => h.1.1.1), RQ (RT HO446.out BK429.out) (hm := fun _ h => h.1.1.1), KB⟩
    ·replace c22 := Bool.eq_false_iff.mpr c22
     subst c22; have H1 : ((spec_l1Max.f t437 a1).bind fun t448 => (some (t431, t434, t448, true))) = some (r1, r2, r3, r4) := by rw [if_neg (show ¬ (false = true) by decide)] at H; exact H
     clear H; have H := H1; clear H1; replace H := Option.bind_eq_some_iff.mp H; obtain ⟨t448, A320, H⟩ := H
     try dsimp only at H
     have A32 := Aside0.mk A320; clear A320; simp only [Option.some.injEq, Prod.mk.injEq] at H; obtain ⟨rfl, rfl, rfl, rfl⟩ := H; have hnb33 := NB439_428.out; have hnc33 := NB428_439.out; have hnb34 := NB439_429.out; have hnc34 := NB429_439.out; obtain ⟨hcz35_0, hcz35_1, hcz35_2, hfz35_0, hfz35_1, hfz35_2⟩ := C3 BK439.out
     go_wp2_with (first | ((with_reducible refine GC 74 ?_); refine goesL_ (some 29) rfl rfl Try.func74 (by kernel_rfl) rfl #[.int .i64 t437, .int .i64 a1] rfl KL ?_; (with_reducible refine (spec_l1Max.calls t437 a1 t448 _ A32.out).mono ?_); rintro e w' ⟨rfl, ⟨nd, rfl⟩⟩; refine ⟨_, rfl, ?_⟩; (try (rw [drewN_self wc]; generalize hq_ : World.drewN wc _ = wc; have n0_ : Aside0 (Kd.R k35 35 wc w.heap.size (fun k_ => some k_ ≠ (.slice Ao19 t434.length co19 : Value).ownBlock) (.slice Ao15 t431.length co15) t431) := ⟨by rw [← hq_]; exact (KR HO_440000.out)⟩; have n1_ : Aside0 (Kd.R k35 35 wc w.heap.size (fun k_ => some k_ ≠ (.slice Ao15 t431.length co15 : Value).ownBlock) (.slice Ao19 t434.length co19) t434) := ⟨by rw [← hq_]; exact (KR HO_440001.out)⟩; have n2_ : Aside0 (wc.heap[gb428]? = some (.cells #[.slice A0_0 l0_0.length c0_0, .slice A0_1 l0_1.length c0_1, .int .i64 a0_2] 31 (0, 0))) := ⟨by rw [← hq_]; exact KK⟩; have n3_ : Aside0 (wc.heap[gb429]? = some (.cells #[.slice none 0 0, .slice none 0 0, .int .i64 0] 31 (0, 0))) := ⟨by rw [← hq_]; exact KK⟩; have n4_ : Aside0 (wc.heap[gb439]? = some (.cells #[.slice Ao15 t431.length co15, .slice Ao19 t434.length co19, .int .i64 t437] 31 (0, 0))) := ⟨by rw [← hq_]; exact KK⟩; have n5_ : Aside0 (Below w.heap.size w wc) := ⟨by rw [← hq_]; exact KB⟩; clear HO_440000 HO_440001 BK428 BK429 BK439 HB hq_; have HO_440000 := n0_; have HO_440001 := n1_; have BK428 := n2_; have BK429 := n3_; have BK439 := n4_; have HB := n5_; clear n0_ n1_ n2_ n3_ n4_ n5_)); (try (have hcy428_0 : wc.cell? ⟨gb428, 0, none⟩ = some (.slice A0_0 l0_0.length c0_0) := (blk_cell BK428.out 0).trans rfl)); (try (have hfy428_0 := blk_frozen BK428.out 0)); (try (have hcy428_1 : wc.cell? ⟨gb428, 1, none⟩ = some (.slice A0_1 l0_1.length c0_1) := (blk_cell BK428.out 1).trans rfl)); (try (have hfy428_1 := blk_frozen BK428.out 1)); (try (have hcy428_2 : wc.cell? ⟨gb428, 2, none⟩ = some (.int .i64 a0_2) := (blk_cell BK428.out 2).trans rfl)); (try (have hfy428_2 := blk_frozen BK428.out 2)); (try (have hny428_429 := NB428_429.out)); (try (have hnz429_428 := NB429_428.out)); (try (have hcy439_0 : wc.cell? ⟨gb439, 0, none⟩ = some (.slice Ao15 t431.length co15) := (blk_cell BK439.out 0).trans rfl)); (try (have hfy439_0 := blk_frozen BK439.out 0)); (try (have hcy439_1 : wc.cell? ⟨gb439, 1, none⟩ = some (.slice Ao19 t434.length co19) := (blk_cell BK439.out 1).trans rfl)); (try (have hfy439_1 := blk_frozen BK439.out 1)); (try (have hcy439_2 : wc.cell? ⟨gb439, 2, none⟩ = some (.int .i64 t437) := (blk_cell BK439.out 2).trans rfl)); (try (have hfy439_2 := blk_frozen BK439.out 2)); (try (have hny439_429 := NB439_429.out)); (try (have hnz429_439 := NB429_439.out)); have hnb36 := NB429_428.out; have hnc36 := NB428_429.out; obtain ⟨hcz37_0, hcz37_1, hcz37_2, hfz37_0, hfz37_1, hfz37_2⟩ := C3 BK429.out))
     refine bodyPost_ret (results_ct rfl _ _ gb429 31 #[.slice Ao15 t431.length co15, .slice Ao19 t434.length co19, .int .i64 t448] (0, 0) _ rfl (by refine SK ?_; refine BP #[.slice Ao15 t431.length co15, .slice Ao19 t434.length co19, .int .i64 0] ?_ 2; refine SK ?_; refine BP #[.slice Ao15 t431.length co15, .slice none 0 0, .int .i64 0] ?_ 1; refine SK ?_; refine BP #[.slice none 0 0, .slice none 0 0, .int .i64 0] ?_ 0; refine SK ?_; refine blk_far ?_ NB429_439.out _; exact SK BK429.out) Try.underlying31 rfl (by kernel_rfl)) rfl ?_; exact ⟨_, _, KE, RQ (RT (RT HO_440000.out BK439.out) BK429.out) (hm := fun _ h => h.1.1), RQ (RT (RT HO_440001.out BK439.out) BK429.out) (hm := fun _ h => h.1.1), KB⟩
 ·replace c4 := Bool.eq_false_iff.mpr c4
  subst c4; have H1 : (some (([] : List (S35)), ([] : List (S35)), 0, false)) = some (r1, r2, r3, r4) := by rw [if_neg (show ¬ (false = true) by decide)] at H; exact H
  clear H; have H := H1; clear H1; simp only [Option.some.injEq, Prod.mk.injEq] at H; obtain ⟨rfl, rfl, rfl, rfl⟩ := H
  go_enter Try.func38, Try.ntmps38
  go_wp2_with (first | ((with_reducible refine GD 2 ?_); refine BE 2 #[.slice A0_0 l0_0.length c0_0, .slice A0_1 l0_1.length c0_1, .int .i64 a0_2] 31 ?_; intro gb428 hg w38 hbox hb; have h_ := P4 (below_step KB hb) hbox (Kg w hg) (Kg w hg); clear HB; obtain ⟨HB, BK428, GW428, GE428⟩ := h_; clear hb hbox hg) | ((with_reducible refine GD 4 ?_); refine BE 4 #[.slice none 0 0, .slice none 0 0, .int .i64 0] 31 ?_; intro gb429 hg w39 hbox hb; have h_ := P7 (BL BK428.out hb) (below_step KB hb) hbox (Kg w hg) (Kg w hg) (NX hg BK428.out) (NY hg BK428.out); clear BK428 HB; obtain ⟨BK428, HB, BK429, GW429, GE429, NB428_429, NB429_428⟩ := h_; clear hb hbox hg; have hnb40 := NB428_429.out; have hnc40 := NB429_428.out; obtain ⟨hcz41_0, hcz41_1, hcz41_2, hfz41_0, hfz41_1, hfz41_2⟩ := C3 BK428.out) | ((with_reducible refine GC 34 ?_); refine goesL_ (some 9) rfl rfl Try.func34 (by kernel_rfl) rfl #[.agg #[.slice A0_0 l0_0.length c0_0, .slice A0_1 l0_1.length c0_1, .int .i64 a0_2]] rfl KL ?_; (with_reducible refine (spec_StoreOk.calls k _ _ l0_0 _ _ l0_1 a0_2 false _ ?side1 ?side2 ?side3 ?side4 A3.out).mono ?_); (case side1 => exact KD (Kd.C_below HR0_0.out HB.out)); (case side2 => exact HC0_0.out); (case side3 => exact KD (Kd.C_below HR0_1.out HB.out)); (case side4 => exact HC0_1.out); rintro e w42 ⟨rfl, hb⟩; refine ⟨_, rfl, ?_⟩; have h_ := P3 (BL BK428.out hb) (BL BK429.out hb) (below_step KB hb); clear BK428 BK429 HB; obtain ⟨BK428, BK429, HB⟩ := h_; (try clear hb); (try clear hk); (try clear hi); obtain ⟨hcz43_0, hcz43_1, hcz43_2, hfz43_0, hfz43_1, hfz43_2⟩ := C3 BK429.out))
  refine bodyPost_ret (results_ct rfl _ _ gb429 31 #[.slice none 0 0, .slice none 0 0, .int .i64 0] (0, 0) _ rfl (by refine SK ?_; refine BP #[.slice none 0 0, .slice none 0 0, .int .i64 0] ?_ 2; refine SK ?_; refine BP #[.slice none 0 0, .slice none 0 0, .int .i64 0] ?_ 1; refine SK ?_; refine BP #[.slice none 0 0, .slice none 0 0, .int .i64 0] ?_ 0; exact SK BK429.out) Try.underlying31 rfl (by kernel_rfl)) rfl ?_; exact ⟨_, _, KE, by first | exact Kd.R_nil _ _ _ _ _ | exact Kd.N_nil _ _ _ _ _ | exact Kd.V_nil _ _ _ _ _ | exact Kd.Q_nil _ _ _ _ _ | exact Kd.S_nil _ _ _ _ _, by first | exact Kd.R_nil _ _ _ _ _ | exact Kd.N_nil _ _ _ _ _ | exact Kd.V_nil _ _ _ _ _ | exact Kd.Q_nil _ _ _ _ _ | exact Kd.S_nil _ _ _ _ _, KB⟩

end Go.Proofs.Ytnoghojlpicecaa.PFnStored
