-- What each Go function that this law reaches comes to: written by a program out of the translation.
import Derived.Test.YtnoghojlpicecaaMFnErasx0
import Derived.Test.YtnoghojlpicecaaMFnErasx2
import Derived.Test.YtnoghojlpicecaaMFnErasx3
import Derived.Test.YtnoghojlpicecaaMFnErasx9
namespace Go.Proofs.Ytnoghojlpicecaa.PFnEras
open Go.RowKit Go.Proofs.YtnoghojlpicecaaW.PrintWords Go.Proofs.YtnoghojlpicecaaW.PrintLast Go.Proofs.YtnoghojlpicecaaW.PrintMore
attribute [local go_sem] max2_int min2_int max_two min_two max_three min_three max_four min_four   -- for this text's walks alone
set_option linter.unusedVariables false
set_option linter.unusedSimpArgs false

/-! ### spec_StoreSeal: function 38 -/
def spec_StoreSeal.j0 : Nat → Int → Bool → List (S35) → List (S35) → Int → List (S35) → List (S35) → Int → Option ((List (S35)) × (List (S35)) × Int × Bool)
 | 0, _, _, _, _, _, _, _, _ => none
 | k + 1, x1, x23, x409000, x409001, x409002, x420000, x420001, x420002 => if x23 = true then ((spec_l6Copy.f x409000 x409001 x409002).bind fun bt421 => (some (bt421.1, bt421.2.1, bt421.2.2, false))) else ((spec_l1Max.f x420002 x1).bind fun t428 => (some (x420000, x420001, t428, true)))
def spec_StoreSeal.f (k : Nat) (l0_0 : List (S35)) (l0_1 : List (S35)) (a0_2 : Int) (a1 : Int) : Option ((List (S35)) × (List (S35)) × Int × Bool) := (spec_StoreOk.f k l0_0 l0_1 a0_2).bind fun t410 => (if t410 = true then ((spec_StoreSync.f k l0_0 l0_1 a0_2).bind fun bt411 => (if bt411.2.2.2 = true then ((spec_l1In.f a1 0 30).bind fun t420 => (spec_StoreSeal.j0 k a1 (!t420) l0_0 l0_1 a0_2 bt411.1 bt411.2.1 bt411.2.2.1)) else (spec_StoreSeal.j0 k a1 true l0_0 l0_1 a0_2 bt411.1 bt411.2.1 bt411.2.2.1))) else (some (([] : List (S35)), ([] : List (S35)), 0, false)))
theorem spec_StoreSeal.mono_l : ∀ k, (∀ y0 y1 y2 y3 y4 y5 y6 y7, LeO (spec_StoreSeal.j0 k y0 y1 y2 y3 y4 y5 y6 y7) (spec_StoreSeal.j0 (k + 1) y0 y1 y2 y3 y4 y5 y6 y7))
 | 0 => fun _ _ _ _ _ _ _ _ r h => by simp [spec_StoreSeal.j0] at h
 | k + 1 => by
  have ih0 := spec_StoreSeal.mono_l k
  ·intro y0 y1 y2 y3 y4 y5 y6 y7
   unfold spec_StoreSeal.j0
   repeat' first
   | (with_reducible exact ih0 _ _ _ _ _ _ _ _)
   | (with_reducible exact spec_StoreOk.mono _ _ _ _)
   | (with_reducible exact spec_StoreSync.mono _ _ _ _)
   | (with_reducible exact LeO.refl _)
   | (with_reducible exact LeO.none _)
   | (with_reducible refine LeO.ite ?_ ?_)
   | (with_reducible refine LeO.bind ?_ (fun _ => ?_))
   | exact ih0 _ _ _ _ _ _ _ _
   | exact spec_StoreOk.mono _ _ _ _
   | exact spec_StoreSync.mono _ _ _ _
   | exact LeO.none _
   | refine LeO.ite ?_ ?_
   | refine LeO.bind ?_ (fun _ => ?_)
theorem spec_StoreSeal.mono : ∀ a0 a1 a2 a3 k, LeO (spec_StoreSeal.f k a0 a1 a2 a3) (spec_StoreSeal.f (k + 1) a0 a1 a2 a3) := by
 intro a0 a1 a2 a3 k; have ih0 := spec_StoreSeal.mono_l k
 unfold spec_StoreSeal.f
 repeat' first
   | (with_reducible exact ih0 _ _ _ _ _ _ _ _)
   | (with_reducible exact spec_StoreOk.mono _ _ _ _)
   | (with_reducible exact spec_StoreSync.mono _ _ _ _)
   | (with_reducible exact LeO.refl _)
   | (with_reducible exact LeO.none _)
   | (with_reducible refine LeO.ite ?_ ?_)
   | (with_reducible refine LeO.bind ?_ (fun _ => ?_))
   | exact ih0 _ _ _ _ _ _ _ _
   | exact spec_StoreOk.mono _ _ _ _
   | exact spec_StoreSync.mono _ _ _ _
   | exact LeO.none _
   | refine LeO.ite ?_ ?_
   | refine LeO.bind ?_ (fun _ => ?_)
set_option maxHeartbeats 8000000 in
set_option maxRecDepth 100000 in
theorem spec_StoreSeal.calls (k : Nat) (A0_0 : Option Addr) (c0_0 : Nat) (l0_0 : List (S35)) (A0_1 : Option Addr) (c0_1 : Nat) (l0_1 : List (S35)) (a0_2 : Int) (a1 : Int) (r1 : List (S35)) (r2 : List (S35)) (r3 : Int) (r4 : Bool) (w : World) (hr0_0 : Kd.C k35 w A0_0 l0_0.length l0_0) (hc0_0 : l0_0.length ≤ c0_0) (hr0_1 : Kd.C k35 w A0_1 l0_1.length l0_1) (hc0_1 : l0_1.length ≤ c0_1) (h : spec_StoreSeal.f k l0_0 l0_1 a0_2 a1 = some (r1, r2, r3, r4)) :
  Calls Try.prog 38 #[.agg #[.slice A0_0 l0_0.length c0_0, .slice A0_1 l0_1.length c0_1, .int .i64 a0_2], .int .i64 a1] w fun e w' => ∃ v0_ v1_ : Value, e = .returned (.tuple #[.agg #[v0_, v1_, .int .i64 r3], .bool r4]) ∧ Kd.R k35 35 w' w.heap.size (fun k_ => some k_ ≠ (v1_ : Value).ownBlock) v0_ r1 ∧ Kd.R k35 35 w' w.heap.size (fun k_ => some k_ ≠ (v0_ : Value).ownBlock) v1_ r2 ∧ Below w.heap.size w w' := by
 have hu31 := Try.underlying31; have HR0_0 := Aside0.mk hr0_0; have HC0_0 := Aside0.mk hc0_0; clear hr0_0 hc0_0; have HR0_1 := Aside0.mk hr0_1; have HC0_1 := Aside0.mk hc0_1; clear hr0_1 hc0_1; have HB := Aside0.mk (Below.refl w.heap.size w); have H : ((spec_StoreOk.f k l0_0 l0_1 a0_2).bind fun t410 => (if t410 = true then ((spec_StoreSync.f k l0_0 l0_1 a0_2).bind fun bt411 => (if bt411.2.2.2 = true then ((spec_l1In.f a1 0 30).bind fun t420 => (spec_StoreSeal.j0 k a1 (!t420) l0_0 l0_1 a0_2 bt411.1 bt411.2.1 bt411.2.2.1)) else (spec_StoreSeal.j0 k a1 true l0_0 l0_1 a0_2 bt411.1 bt411.2.1 bt411.2.2.1))) else (some (([] : List (S35)), ([] : List (S35)), 0, false)))) = some (r1, r2, r3, r4) := h; clear h; replace H := Option.bind_eq_some_iff.mp H; obtain ⟨t410, A30, H⟩ := H
 try dsimp only at H
 have A3 := Aside0.mk A30; clear A30
 by_cases c4 : t410 = true
 ·subst c4
  have H1 : ((spec_StoreSync.f k l0_0 l0_1 a0_2).bind fun bt411 => (if bt411.2.2.2 = true then ((spec_l1In.f a1 0 30).bind fun t420 => (spec_StoreSeal.j0 k a1 (!t420) l0_0 l0_1 a0_2 bt411.1 bt411.2.1 bt411.2.2.1)) else (spec_StoreSeal.j0 k a1 true l0_0 l0_1 a0_2 bt411.1 bt411.2.1 bt411.2.2.1))) = some (r1, r2, r3, r4) := by rw [if_pos rfl] at H; exact H
  clear H; have H := H1; clear H1; replace H := Option.bind_eq_some_iff.mp H; obtain ⟨⟨t411, t414, t417, t418⟩, A50, H⟩ := H
  try dsimp only at H
  have A5 := Aside0.mk A50; clear A50; have HC6 := Aside0.mk H; clear H
  go_enter Try.func38, Try.ntmps38
  go_upto_region 4 with (first | ((with_reducible refine GD 2 ?_); refine BE 2 #[.slice A0_0 l0_0.length c0_0, .slice A0_1 l0_1.length c0_1, .int .i64 a0_2] 31 ?_; intro gb408 hg w7 hbox hb; have h_ := PB w hb hbox hg; clear HB; obtain ⟨HB, BK408, GW408, GE408⟩ := h_; clear hb hbox hg) | ((with_reducible refine GD 4 ?_); refine BE 4 #[.slice none 0 0, .slice none 0 0, .int .i64 0] 31 ?_; intro gb409 hg w8 hbox hb; have h_ := P7 (BL BK408.out hb) (below_step KB hb) hbox (Kg w hg) (Kg w hg) (NX hg BK408.out) (NY hg BK408.out); clear BK408 HB; obtain ⟨BK408, HB, BK409, GW409, GE409, NB408_409, NB409_408⟩ := h_; clear hb hbox hg; have hnb9 := NB408_409.out; have hnc9 := NB409_408.out; obtain ⟨hcz10_0, hcz10_1, hcz10_2, hfz10_0, hfz10_1, hfz10_2⟩ := C3 BK408.out) | ((with_reducible refine GC 34 ?_); refine goesL_ (some 9) rfl rfl Try.func34 (by kernel_rfl) rfl #[.agg #[.slice A0_0 l0_0.length c0_0, .slice A0_1 l0_1.length c0_1, .int .i64 a0_2]] rfl KL ?_; (with_reducible refine (spec_StoreOk.calls k _ _ l0_0 _ _ l0_1 a0_2 true _ ?side1 ?side2 ?side3 ?side4 A3.out).mono ?_); (case side1 => exact KD (Kd.C_below HR0_0.out HB.out)); (case side2 => exact HC0_0.out); (case side3 => exact KD (Kd.C_below HR0_1.out HB.out)); (case side4 => exact HC0_1.out); rintro e w11 ⟨rfl, hb⟩; refine ⟨_, rfl, ?_⟩; have h_ := P3 (BL BK408.out hb) (BL BK409.out hb) (below_step KB hb); clear BK408 BK409 HB; obtain ⟨BK408, BK409, HB⟩ := h_; (try clear hb); (try clear hk); (try clear hi); obtain ⟨hcz12_0, hcz12_1, hcz12_2, hfz12_0, hfz12_1, hfz12_2⟩ := C3 BK408.out) | ((with_reducible refine GC 73 ?_); refine goesL_ (some 14) rfl rfl Try.func73 (by kernel_rfl) rfl #[.agg #[.slice A0_0 l0_0.length c0_0, .slice A0_1 l0_1.length c0_1, .int .i64 a0_2]] rfl KL ?_; (with_reducible refine (spec_StoreSync.calls k _ _ l0_0 _ _ l0_1 a0_2 t411 t414 t417 t418 _ ?side1 ?side2 ?side3 ?side4 A5.out).mono ?_); (case side1 => exact KD (Kd.C_below HR0_0.out HB.out)); (case side2 => exact HC0_0.out); (case side3 => exact KD (Kd.C_below HR0_1.out HB.out)); (case side4 => exact HC0_1.out); rintro e w13 ⟨v412, v415, rfl, ho0, ho1, hb⟩; refine ⟨_, rfl, ?_⟩; have h_ := P5 (Kd.R_lower ho0 (below_size KB)) (Kd.R_lower ho1 (below_size KB)) (BL BK408.out hb) (BL BK409.out hb) (below_step KB hb); clear BK408 BK409 HB; obtain ⟨HO413, HO416, BK408, BK409, HB⟩ := h_; (try clear hb); (try clear hk); (try clear hi); (try clear ho0); (try clear ho1)) | ((with_reducible refine GD 6 ?_); refine BE 6 #[.slice none 0 0, .slice none 0 0, .int .i64 0] 31 ?_; intro gb419 hg w14 hbox hb; have h_ := P12 (Kd.R_below (KR HO413.out) hb) (Kd.R_below (KR HO416.out) hb) (BL BK408.out hb) (BL BK409.out hb) (below_step KB hb) hbox (Kg w hg) (Kg w hg) (NX hg BK408.out) (NY hg BK408.out) (NX hg BK409.out) (NY hg BK409.out); clear HO413 HO416 BK408 BK409 HB; obtain ⟨HO413, HO416, BK408, BK409, HB, BK419, GW419, GE419, NB408_419, NB419_408, NB409_419, NB419_409⟩ := h_; clear hb hbox hg; obtain ⟨Ao15, co15, eo15⟩ := Kd.R_slice HO413.out; subst eo15; have hnb16 := NB419_408.out; have hnc16 := NB408_419.out; have hnb17 := NB419_409.out; have hnc17 := NB409_419.out; obtain ⟨hcz18_0, hcz18_1, hcz18_2, hfz18_0, hfz18_1, hfz18_2⟩ := C3 BK419.out; obtain ⟨Ao19, co19, eo19⟩ := Kd.R_slice HO416.out; subst eo19))
  (try simp only [Act.put, List.setIfInBounds_toArray, List.set_cons_zero, List.set_cons_succ])
  go_cut [23] (fun v23 wc => ∃ (kq : Nat) (x23_5 : Bool), v23 = .bool x23_5 ∧ Aside0 (spec_StoreSeal.j0 kq a1 x23_5 l0_0 l0_1 a0_2 t411 t414 t417 = some (r1, r2, r3, r4)) ∧ Aside0 (kq ≤ k) ∧ Aside0 (Kd.R k35 35 wc w.heap.size (fun k_ => some k_ ≠ ((.slice Ao19 t414.length co19) : Value).ownBlock) (.slice Ao15 t411.length co15) t411) ∧ Aside0 (Kd.R k35 35 wc w.heap.size (fun k_ => some k_ ≠ ((.slice Ao15 t411.length co15) : Value).ownBlock) (.slice Ao19 t414.length co19) t414) ∧ Aside0 (wc.heap[gb408]? = some (.cells #[(.slice A0_0 l0_0.length c0_0), (.slice A0_1 l0_1.length c0_1), .int .i64 a0_2] 31 (0, 0))) ∧ Aside0 (wc.heap[gb409]? = some (.cells #[(.slice none 0 0), (.slice none 0 0), .int .i64 0] 31 (0, 0))) ∧ Aside0 (wc.heap[gb419]? = some (.cells #[(.slice Ao15 t411.length co15), (.slice Ao19 t414.length co19), .int .i64 t417] 31 (0, 0))) ∧ Aside0 (Below w.heap.size w wc))
  case first =>
   have H := HC6.out; clear HC6
   by_cases c20 : t418 = true
   ·subst c20
    have H1 : ((spec_l1In.f a1 0 30).bind fun t420 => (spec_StoreSeal.j0 k a1 (!t420) l0_0 l0_1 a0_2 t411 t414 t417)) = some (r1, r2, r3, r4) := by rw [if_pos rfl] at H; exact H
    clear H; have H := H1; clear H1; replace H := Option.bind_eq_some_iff.mp H; obtain ⟨t420, A210, H⟩ := H
    try dsimp only at H
    have A21 := Aside0.mk A210; clear A210; have H' := Aside0.mk H; clear H
    go_wp2_with (first | (go_at_call 66; (with_reducible refine (spec_l1In.calls a1 0 30 t420 _ A21.out).mono ?_); rintro e w' ⟨rfl, ⟨nd, rfl⟩⟩))
    go_meet
    case rel => exact ⟨_, (!t420), (by first | rfl | (simp; done) | (simp [*]; done)), H', ⟨by first | omega | exact Nat.le_refl _⟩, ⟨RQ (RT HO413.out BK419.out)⟩, ⟨RQ (RT HO416.out BK419.out)⟩, ⟨KK⟩, ⟨KK⟩, ⟨by refine SK ?_; refine BP #[.slice Ao15 t411.length co15, .slice Ao19 t414.length co19, .int .i64 0] ?_ 2; refine SK ?_; refine BP #[.slice Ao15 t411.length co15, .slice none 0 0, .int .i64 0] ?_ 1; refine SK ?_; refine BP #[.slice none 0 0, .slice none 0 0, .int .i64 0] ?_ 0; exact SK BK419.out⟩, ⟨KB⟩⟩
   ·replace c20 := Bool.eq_false_iff.mpr c20
    subst c20; have H1 : (spec_StoreSeal.j0 k a1 true l0_0 l0_1 a0_2 t411 t414 t417) = some (r1, r2, r3, r4) := by rw [if_neg (show ¬ (false = true) by decide)] at H; exact H
    clear H; have H := H1; clear H1; have H' := Aside0.mk H; clear H
    go_wp2
    go_meet
    case rel => exact ⟨_, (true), (by first | rfl | (simp; done) | (simp [*]; done)), H', ⟨by first | omega | exact Nat.le_refl _⟩, ⟨RQ (RT HO413.out BK419.out)⟩, ⟨RQ (RT HO416.out BK419.out)⟩, ⟨KK⟩, ⟨KK⟩, ⟨by refine SK ?_; refine BP #[.slice Ao15 t411.length co15, .slice Ao19 t414.length co19, .int .i64 0] ?_ 2; refine SK ?_; refine BP #[.slice Ao15 t411.length co15, .slice none 0 0, .int .i64 0] ?_ 1; refine SK ?_; refine BP #[.slice none 0 0, .slice none 0 0, .int .i64 0] ?_ 0; exact SK BK419.out⟩, ⟨KB⟩⟩
  case rest =>
   clear HC6
   try clear c1
   try clear c2
   try clear p2
   try clear c3
   try clear c4
   try clear c7
   try clear c9
   try clear c16
   try clear c17
   try clear c20
   try clear hcz10_0
   try clear hcz10_1
   try clear hcz10_2
   try clear hcz12_0
   try clear hcz12_1
   try clear hcz12_2
   try clear hcz18_0
   try clear hcz18_1
   try clear hcz18_2
   try clear hfz10_0
   try clear hfz10_1
   try clear hfz10_2
   try clear hfz12_0
   try clear hfz12_1
   try clear hfz12_2
   try clear hfz18_0
   try clear hfz18_1
   try clear hfz18_2
   obtain ⟨kq, x23_5, rfl, HA, HJ5, HO_420000, HO_420001, BK408, BK409, BK419, HB⟩ := hcut
   cases kq with
   | zero => exact absurd HA.out (by simp [spec_StoreSeal.j0])
   | succ kj5 =>
    have H := HA.out; clear HA; simp only [spec_StoreSeal.j0] at H
    by_cases c22 : x23_5 = true
    ·subst c22
     have H1 : ((spec_l6Copy.f l0_0 l0_1 a0_2).bind fun bt421 => (some (bt421.1, bt421.2.1, bt421.2.2, false))) = some (r1, r2, r3, r4) := by rw [if_pos rfl] at H; exact H
     clear H; have H := H1; clear H1; replace H := Option.bind_eq_some_iff.mp H; obtain ⟨⟨t421, t424, t427⟩, A230, H⟩ := H
     try dsimp only at H
     have A23 := Aside0.mk A230; clear A230; simp only [Option.some.injEq, Prod.mk.injEq] at H; obtain ⟨rfl, rfl, rfl, rfl⟩ := H; have hnb24 := NB408_409.out; have hnc24 := NB409_408.out; have hnb25 := NB408_419.out; have hnc25 := NB419_408.out; obtain ⟨hcz26_0, hcz26_1, hcz26_2, hfz26_0, hfz26_1, hfz26_2⟩ := C3 BK408.out
     go_wp2_with (first | ((with_reducible refine GC 41 ?_); refine goesL_ (some 25) rfl rfl Try.func41 (by kernel_rfl) rfl #[.agg #[.slice A0_0 l0_0.length c0_0, .slice A0_1 l0_1.length c0_1, .int .i64 a0_2]] rfl KL ?_; (with_reducible refine (spec_l6Copy.calls _ _ l0_0 _ _ l0_1 a0_2 t421 t424 t427 _ ?side1 ?side2 ?side3 ?side4 A23.out).mono ?_); (case side1 => exact KD (Kd.C_below HR0_0.out HB.out)); (case side2 => exact HC0_0.out); (case side3 => exact KD (Kd.C_below HR0_1.out HB.out)); (case side4 => exact HC0_1.out); rintro e w27 ⟨v422, v425, rfl, ho0, ho1, hb⟩; refine ⟨_, rfl, ?_⟩; have h_ := P8 (Kd.R_mono (Kd.R_told (Kd.R_told (Kd.R_old (KR HO_420000.out) hb) (Kd.R_base ho0)) (Kd.R_base ho1)) (fun _ h_ => h_.1)) (Kd.R_mono (Kd.R_told (Kd.R_told (Kd.R_old (KR HO_420001.out) hb) (Kd.R_base ho0)) (Kd.R_base ho1)) (fun _ h_ => h_.1)) (Kd.R_lower (Kd.R_new' (Kd.R_new' ho0 (Kd.R_lt (KR HO_420000.out))) (Kd.R_lt (KR HO_420001.out))) (below_size KB)) (Kd.R_lower (Kd.R_new' (Kd.R_new' ho1 (Kd.R_lt (KR HO_420000.out))) (Kd.R_lt (KR HO_420001.out))) (below_size KB)) (BL BK408.out hb) (BL BK409.out hb) (BL BK419.out hb) (below_step KB hb); clear HO_420000 HO_420001 BK408 BK409 BK419 HB; obtain ⟨HO_420000, HO_420001, HO423, HO426, BK408, BK409, BK419, HB⟩ := h_; (try clear hb); (try clear hk); (try clear hi); (try clear ho0); (try clear ho1); obtain ⟨Ao28, co28, eo28⟩ := Kd.R_slice HO423.out; subst eo28; have hnb29 := NB409_419.out; have hnc29 := NB419_409.out; obtain ⟨hcz30_0, hcz30_1, hcz30_2, hfz30_0, hfz30_1, hfz30_2⟩ := C3 BK409.out; obtain ⟨Ao31, co31, eo31⟩ := Kd.R_slice HO426.out; subst eo31))
     refine bodyPost_ret (results_ct rfl _ _ gb409 31 #[.slice Ao28 t421.length co28, .slice Ao31 t424.length co31, .int .i64 t427] (0, 0) _ rfl (by refine SK ?_; refine BP #[.slice Ao28 t421.length co28, .slice Ao31 t424.length co31, .int .i64 0] ?_ 2; refine SK ?_; refine BP #[.slice Ao28 t421.length co28, .slice none 0 0, .int .i64 0] ?_ 1; refine SK ?_; refine BP #[.slice none 0 0, .slice none 0 0, .int .i64 0] ?_ 0; exact SK BK409.out) Try.underlying31 rfl (by kernel_rfl)) rfl ?_; exact ⟨_, _, KE, RQ (RT HO423.out BK409.out) (hm := fun _ h => h.1.1.1), RQ (RT HO426.out BK409.out) (hm := fun _ h => h.1.1.1), KB⟩
    ·replace c22 := Bool.eq_false_iff.mpr c22
     subst c22; have H1 : ((spec_l1Max.f t417 a1).bind fun t428 => (some (t411, t414, t428, true))) = some (r1, r2, r3, r4) := by rw [if_neg (show ¬ (false = true) by decide)] at H; exact H
     clear H; have H := H1; clear H1; replace H := Option.bind_eq_some_iff.mp H; obtain ⟨t428, A320, H⟩ := H
     try dsimp only at H
     have A32 := Aside0.mk A320; clear A320; simp only [Option.some.injEq, Prod.mk.injEq] at H; obtain ⟨rfl, rfl, rfl, rfl⟩ := H; have hnb33 := NB419_408.out; have hnc33 := NB408_419.out; have hnb34 := NB419_409.out; have hnc34 := NB409_419.out; obtain ⟨hcz35_0, hcz35_1, hcz35_2, hfz35_0, hfz35_1, hfz35_2⟩ := C3 BK419.out
     go_wp2_with (first | ((with_reducible refine GC 74 ?_); refine goesL_ (some 29) rfl rfl Try.func74 (by kernel_rfl) rfl #[.int .i64 t417, .int .i64 a1] rfl KL ?_; (with_reducible refine MN (spec_l1Max.calls t417 a1 t428 _ A32.out) ?_); intro nd; refine ⟨_, rfl, ?_⟩; (try (rw [drewN_self wc]; generalize hq_ : World.drewN wc _ = wc; have n0_ : Aside0 (Kd.R k35 35 wc w.heap.size (fun k_ => some k_ ≠ (.slice Ao19 t414.length co19 : Value).ownBlock) (.slice Ao15 t411.length co15) t411) := ⟨by rw [← hq_]; exact (KR HO_420000.out)⟩; have n1_ : Aside0 (Kd.R k35 35 wc w.heap.size (fun k_ => some k_ ≠ (.slice Ao15 t411.length co15 : Value).ownBlock) (.slice Ao19 t414.length co19) t414) := ⟨by rw [← hq_]; exact (KR HO_420001.out)⟩; have n2_ : Aside0 (wc.heap[gb408]? = some (.cells #[.slice A0_0 l0_0.length c0_0, .slice A0_1 l0_1.length c0_1, .int .i64 a0_2] 31 (0, 0))) := ⟨by rw [← hq_]; exact KK⟩; have n3_ : Aside0 (wc.heap[gb409]? = some (.cells #[.slice none 0 0, .slice none 0 0, .int .i64 0] 31 (0, 0))) := ⟨by rw [← hq_]; exact KK⟩; have n4_ : Aside0 (wc.heap[gb419]? = some (.cells #[.slice Ao15 t411.length co15, .slice Ao19 t414.length co19, .int .i64 t417] 31 (0, 0))) := ⟨by rw [← hq_]; exact KK⟩; have n5_ : Aside0 (Below w.heap.size w wc) := ⟨by rw [← hq_]; exact KB⟩; clear HO_420000 HO_420001 BK408 BK409 BK419 HB hq_; have HO_420000 := n0_; have HO_420001 := n1_; have BK408 := n2_; have BK409 := n3_; have BK419 := n4_; have HB := n5_; clear n0_ n1_ n2_ n3_ n4_ n5_)); (try (have hcy408_0 : wc.cell? ⟨gb408, 0, none⟩ = some (.slice A0_0 l0_0.length c0_0) := (blk_cell BK408.out 0).trans rfl)); (try (have hfy408_0 := blk_frozen BK408.out 0)); (try (have hcy408_1 : wc.cell? ⟨gb408, 1, none⟩ = some (.slice A0_1 l0_1.length c0_1) := (blk_cell BK408.out 1).trans rfl)); (try (have hfy408_1 := blk_frozen BK408.out 1)); (try (have hcy408_2 : wc.cell? ⟨gb408, 2, none⟩ = some (.int .i64 a0_2) := (blk_cell BK408.out 2).trans rfl)); (try (have hfy408_2 := blk_frozen BK408.out 2)); (try (have hny408_409 := NB408_409.out)); (try (have hnz409_408 := NB409_408.out)); (try (have hcy419_0 : wc.cell? ⟨gb419, 0, none⟩ = some (.slice Ao15 t411.length co15) := (blk_cell BK419.out 0).trans rfl)); (try (have hfy419_0 := blk_frozen BK419.out 0)); (try (have hcy419_1 : wc.cell? ⟨gb419, 1, none⟩ = some (.slice Ao19 t414.length co19) := (blk_cell BK419.out 1).trans rfl)); (try (have hfy419_1 := blk_frozen BK419.out 1)); (try (have hcy419_2 : wc.cell? ⟨gb419, 2, none⟩ = some (.int .i64 t417) := (blk_cell BK419.out 2).trans rfl)); (try (have hfy419_2 := blk_frozen BK419.out 2)); (try (have hny419_409 := NB419_409.out)); (try (have hnz409_419 := NB409_419.out)); have hnb36 := NB409_408.out; have hnc36 := NB408_409.out; obtain ⟨hcz37_0, hcz37_1, hcz37_2, hfz37_0, hfz37_1, hfz37_2⟩ := C3 BK409.out))
     refine bodyPost_ret (results_ct rfl _ _ gb409 31 #[.slice Ao15 t411.length co15, .slice Ao19 t414.length co19, .int .i64 t428] (0, 0) _ rfl (by refine SK ?_; refine BP #[.slice Ao15 t411.length co15, .slice Ao19 t414.length co19, .int .i64 0] ?_ 2; refine SK ?_; refine BP #[.slice Ao15 t411.length co15, .slice none 0 0, .int .i64 0] ?_ 1; refine SK ?_; refine BP #[.slice none 0 0, .slice none 0 0, .int .i64 0] ?_ 0; refine SK ?_; refine blk_far ?_ NB409_419.out _; exact SK BK409.out) Try.underlying31 rfl (by kernel_rfl)) rfl ?_; exact ⟨_, _, KE, RQ (RT (RT HO_420000.out BK419.out) BK409.out) (hm := fun _ h => h.1.1), RQ (RT (RT HO_420001.out BK419.out) BK409.out) (hm := fun _ h => h.1.1), KB⟩
 ·replace c4 := Bool.eq_false_iff.mpr c4
  subst c4; have H1 : (some (([] : List (S35)), ([] : List (S35)), 0, false)) = some (r1, r2, r3, r4) := by rw [if_neg (show ¬ (false = true) by decide)] at H; exact H
  clear H; have H := H1; clear H1; simp only [Option.some.injEq, Prod.mk.injEq] at H; obtain ⟨rfl, rfl, rfl, rfl⟩ := H
  go_enter Try.func38, Try.ntmps38
  go_wp2_with (first | ((with_reducible refine GD 2 ?_); refine BE 2 #[.slice A0_0 l0_0.length c0_0, .slice A0_1 l0_1.length c0_1, .int .i64 a0_2] 31 ?_; intro gb408 hg w38 hbox hb; have h_ := PB w hb hbox hg; clear HB; obtain ⟨HB, BK408, GW408, GE408⟩ := h_; clear hb hbox hg) | ((with_reducible refine GD 4 ?_); refine BE 4 #[.slice none 0 0, .slice none 0 0, .int .i64 0] 31 ?_; intro gb409 hg w39 hbox hb; have h_ := P7 (BL BK408.out hb) (below_step KB hb) hbox (Kg w hg) (Kg w hg) (NX hg BK408.out) (NY hg BK408.out); clear BK408 HB; obtain ⟨BK408, HB, BK409, GW409, GE409, NB408_409, NB409_408⟩ := h_; clear hb hbox hg; have hnb40 := NB408_409.out; have hnc40 := NB409_408.out; obtain ⟨hcz41_0, hcz41_1, hcz41_2, hfz41_0, hfz41_1, hfz41_2⟩ := C3 BK408.out) | ((with_reducible refine GC 34 ?_); refine goesL_ (some 9) rfl rfl Try.func34 (by kernel_rfl) rfl #[.agg #[.slice A0_0 l0_0.length c0_0, .slice A0_1 l0_1.length c0_1, .int .i64 a0_2]] rfl KL ?_; (with_reducible refine (spec_StoreOk.calls k _ _ l0_0 _ _ l0_1 a0_2 false _ ?side1 ?side2 ?side3 ?side4 A3.out).mono ?_); (case side1 => exact KD (Kd.C_below HR0_0.out HB.out)); (case side2 => exact HC0_0.out); (case side3 => exact KD (Kd.C_below HR0_1.out HB.out)); (case side4 => exact HC0_1.out); rintro e w42 ⟨rfl, hb⟩; refine ⟨_, rfl, ?_⟩; have h_ := P3 (BL BK408.out hb) (BL BK409.out hb) (below_step KB hb); clear BK408 BK409 HB; obtain ⟨BK408, BK409, HB⟩ := h_; (try clear hb); (try clear hk); (try clear hi); obtain ⟨hcz43_0, hcz43_1, hcz43_2, hfz43_0, hfz43_1, hfz43_2⟩ := C3 BK409.out))
  refine bodyPost_ret (results_ct rfl _ _ gb409 31 #[.slice none 0 0, .slice none 0 0, .int .i64 0] (0, 0) _ rfl (by refine SK ?_; refine BP #[.slice none 0 0, .slice none 0 0, .int .i64 0] ?_ 2; refine SK ?_; refine BP #[.slice none 0 0, .slice none 0 0, .int .i64 0] ?_ 1; refine SK ?_; refine BP #[.slice none 0 0, .slice none 0 0, .int .i64 0] ?_ 0; exact SK BK409.out) Try.underlying31 rfl (by kernel_rfl)) rfl ?_; exact ⟨_, _, KE, by first | exact Kd.R_nil _ _ _ _ _ | exact Kd.N_nil _ _ _ _ _ | exact Kd.V_nil _ _ _ _ _ | exact Kd.Q_nil _ _ _ _ _ | exact Kd.S_nil _ _ _ _ _, by first | exact Kd.R_nil _ _ _ _ _ | exact Kd.N_nil _ _ _ _ _ | exact Kd.V_nil _ _ _ _ _ | exact Kd.Q_nil _ _ _ _ _ | exact Kd.S_nil _ _ _ _ _, KB⟩

end Go.Proofs.Ytnoghojlpicecaa.PFnEras
