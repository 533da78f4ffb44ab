-- What each Go function that this law reaches comes to: written by a program out of the translation.
import Derived.Test.YtnoghojlpicecaaMFnStoredx0
import Derived.Test.YtnoghojlpicecaaMFnStoredx2
import Derived.Test.YtnoghojlpicecaaMFnStoredx4
import Derived.Test.YtnoghojlpicecaaMFnStoredx12
namespace Go.Proofs.Ytnoghojlpicecaa.PFnStored
open Go.RowKit Go.Proofs.YtnoghojlpicecaaW.PrintWords Go.Proofs.YtnoghojlpicecaaW.PrintLast Go.Proofs.YtnoghojlpicecaaW.PrintMore
attribute [local go_sem] max2_int min2_int max_two min_two max_three min_three max_four min_four   -- for this text's walks alone
set_option linter.unusedVariables false
set_option linter.unusedSimpArgs false

/-! ### impl_StoreCrash: function 29 -/
mutual
def impl_StoreCrash.j0 : Nat → Int → Bool → List (S35) → List (S35) → Int → Option ((List (S35)) × (List (S35)) × Int × Bool)
 | 0, _, _, _, _, _ => none
 | k + 1, x1, x16, x596000, x596001, x596002 => if x16 = true then ((impl_storeAsWas.f k x596000 x596001 x596002).bind fun bt599 => (some (bt599.1, bt599.2.1, bt599.2.2, false))) else ((impl_copyStore.f x596000 x596001 x596002).bind fun bt606 => (impl_StoreCrash.l0 k x1 x596001 (x596001.length : Int) 0 x596000 x596001 x596002 bt606.1 bt606.2.2))
def impl_StoreCrash.l0 : Nat → Int → List (S35) → Int → Int → List (S35) → List (S35) → Int → List (S35) → Int → Option ((List (S35)) × (List (S35)) × Int × Bool)
 | 0, _, _, _, _, _, _, _, _, _ => none
 | k + 1, x1, x23, x24, x25, x596000, x596001, x596002, x614000, x614002 => if x25 < x24 then (if 0 ≤ x25 then (if x25 < (x23.length : Int) then (if (Go.bits .and .i64 (shr .i64 x1 x25) 1) = 1 then ((impl_kept.f x614000 ((rd_T35 x23 x25).f0) ((rd_T35 x23 x25).f1) ((rd_T35 x23 x25).f2) ((rd_T35 x23 x25).f3)).bind fun t616 => (impl_StoreCrash.l0 k x1 x23 x24 (wrap64 (x25 + 1)) x596000 x596001 x596002 t616 x614002)) else (impl_StoreCrash.l0 k x1 x23 x24 (wrap64 (x25 + 1)) x596000 x596001 x596002 x614000 x614002)) else (none)) else (none)) else (if (x614000.length : Int) > 200 then ((impl_copyStore.f x596000 x596001 x596002).bind fun bt619 => (some (bt619.1, bt619.2.1, bt619.2.2, false))) else (some (x614000, ([] : List (S35)), x614002, true)))
end
def impl_StoreCrash.f (k : Nat) (l0_0 : List (S35)) (l0_1 : List (S35)) (a0_2 : Int) (a1 : Int) : Option ((List (S35)) × (List (S35)) × Int × Bool) := (impl_StoreOk.f k l0_0 l0_1 a0_2).bind fun t597 => (if t597 = true then ((impl_within.f a1 0 1048575).bind fun t598 => (impl_StoreCrash.j0 k a1 (!t598) l0_0 l0_1 a0_2)) else (impl_StoreCrash.j0 k a1 true l0_0 l0_1 a0_2))
theorem impl_StoreCrash.mono_l : ∀ k, (∀ y0 y1 y2 y3 y4, LeO (impl_StoreCrash.j0 k y0 y1 y2 y3 y4) (impl_StoreCrash.j0 (k + 1) y0 y1 y2 y3 y4)) ∧ (∀ y0 y1 y2 y3 y4 y5 y6 y7 y8, LeO (impl_StoreCrash.l0 k y0 y1 y2 y3 y4 y5 y6 y7 y8) (impl_StoreCrash.l0 (k + 1) y0 y1 y2 y3 y4 y5 y6 y7 y8))
 | 0 => ⟨fun _ _ _ _ _ r h => by simp [impl_StoreCrash.j0] at h, fun _ _ _ _ _ _ _ _ _ r h => by simp [impl_StoreCrash.l0] at h⟩
 | k + 1 => by
  obtain ⟨ih0, ih1⟩ := impl_StoreCrash.mono_l k; refine ⟨?_, ?_⟩
  ·intro y0 y1 y2 y3 y4
   unfold impl_StoreCrash.j0
   repeat' first
   | (with_reducible exact ih0 _ _ _ _ _)
   | (with_reducible exact ih1 _ _ _ _ _ _ _ _ _)
   | (with_reducible exact impl_StoreOk.mono _ _ _ _)
   | (with_reducible exact impl_storeAsWas.mono _ _ _ _)
   | (with_reducible exact LeO.refl _)
   | (with_reducible exact LeO.none _)
   | (with_reducible refine LeO.ite ?_ ?_)
   | (with_reducible refine LeO.bind ?_ (fun _ => ?_))
   | exact ih0 _ _ _ _ _
   | exact ih1 _ _ _ _ _ _ _ _ _
   | exact impl_StoreOk.mono _ _ _ _
   | exact impl_storeAsWas.mono _ _ _ _
   | exact LeO.none _
   | refine LeO.ite ?_ ?_
   | refine LeO.bind ?_ (fun _ => ?_)
  ·intro y0 y1 y2 y3 y4 y5 y6 y7 y8
   unfold impl_StoreCrash.l0
   repeat' first
   | (with_reducible exact ih0 _ _ _ _ _)
   | (with_reducible exact ih1 _ _ _ _ _ _ _ _ _)
   | (with_reducible exact impl_StoreOk.mono _ _ _ _)
   | (with_reducible exact impl_storeAsWas.mono _ _ _ _)
   | (with_reducible exact LeO.refl _)
   | (with_reducible exact LeO.none _)
   | (with_reducible refine LeO.ite ?_ ?_)
   | (with_reducible refine LeO.bind ?_ (fun _ => ?_))
   | exact ih0 _ _ _ _ _
   | exact ih1 _ _ _ _ _ _ _ _ _
   | exact impl_StoreOk.mono _ _ _ _
   | exact impl_storeAsWas.mono _ _ _ _
   | exact LeO.none _
   | refine LeO.ite ?_ ?_
   | refine LeO.bind ?_ (fun _ => ?_)
theorem impl_StoreCrash.mono : ∀ a0 a1 a2 a3 k, LeO (impl_StoreCrash.f k a0 a1 a2 a3) (impl_StoreCrash.f (k + 1) a0 a1 a2 a3) := by
 intro a0 a1 a2 a3 k; obtain ⟨ih0, ih1⟩ := impl_StoreCrash.mono_l k
 unfold impl_StoreCrash.f
 repeat' first
   | (with_reducible exact ih0 _ _ _ _ _)
   | (with_reducible exact ih1 _ _ _ _ _ _ _ _ _)
   | (with_reducible exact impl_StoreOk.mono _ _ _ _)
   | (with_reducible exact impl_storeAsWas.mono _ _ _ _)
   | (with_reducible exact LeO.refl _)
   | (with_reducible exact LeO.none _)
   | (with_reducible refine LeO.ite ?_ ?_)
   | (with_reducible refine LeO.bind ?_ (fun _ => ?_))
   | exact ih0 _ _ _ _ _
   | exact ih1 _ _ _ _ _ _ _ _ _
   | exact impl_StoreOk.mono _ _ _ _
   | exact impl_storeAsWas.mono _ _ _ _
   | exact LeO.none _
   | refine LeO.ite ?_ ?_
   | refine LeO.bind ?_ (fun _ => ?_)
set_option maxHeartbeats 8000000 in
set_option maxRecDepth 100000 in
theorem impl_StoreCrash.calls (k : Nat) (A0_0 : Option Addr) (c0_0 : Nat) (l0_0 : List (S35)) (A0_1 : Option Addr) (c0_1 : Nat) (l0_1 : List (S35)) (a0_2 : Int) (a1 : Int) (r1 : List (S35)) (r2 : List (S35)) (r3 : Int) (r4 : Bool) (w : World) (hr0_0 : Kd.C k35 w A0_0 l0_0.length l0_0) (hc0_0 : l0_0.length ≤ c0_0) (hr0_1 : Kd.C k35 w A0_1 l0_1.length l0_1) (hc0_1 : l0_1.length ≤ c0_1) (h : impl_StoreCrash.f k l0_0 l0_1 a0_2 a1 = some (r1, r2, r3, r4)) :
  Calls Try.prog 29 #[.agg #[.slice A0_0 l0_0.length c0_0, .slice A0_1 l0_1.length c0_1, .int .i64 a0_2], .int .i64 a1] w fun e w' => ∃ v0_ v1_ : Value, e = .returned (.tuple #[.agg #[v0_, v1_, .int .i64 r3], .bool r4]) ∧ Kd.R k35 35 w' w.heap.size (fun k_ => some k_ ≠ (v1_ : Value).ownBlock) v0_ r1 ∧ Kd.R k35 35 w' w.heap.size (fun k_ => some k_ ≠ (v0_ : Value).ownBlock) v1_ r2 ∧ Below w.heap.size w w' := by
 have hu31 := Try.underlying31; have hu35 := Try.underlying35; have HR0_0 := Aside0.mk hr0_0; have HC0_0 := Aside0.mk hc0_0; clear hr0_0 hc0_0; have HR0_1 := Aside0.mk hr0_1; have HC0_1 := Aside0.mk hc0_1; clear hr0_1 hc0_1; have HB := Aside0.mk (Below.refl w.heap.size w); have H : ((impl_StoreOk.f k l0_0 l0_1 a0_2).bind fun t597 => (if t597 = true then ((impl_within.f a1 0 1048575).bind fun t598 => (impl_StoreCrash.j0 k a1 (!t598) l0_0 l0_1 a0_2)) else (impl_StoreCrash.j0 k a1 true l0_0 l0_1 a0_2))) = some (r1, r2, r3, r4) := h; clear h; have HC3 := Aside0.mk H; clear H
 go_enter Try.func29, Try.ntmps29
 go_upto_region 1 with (first | ((with_reducible refine GD 2 ?_); refine BE 2 #[.slice A0_0 l0_0.length c0_0, .slice A0_1 l0_1.length c0_1, .int .i64 a0_2] 31 ?_; intro gb595 hg w4 hbox hb; have h_ := P4 (below_step KB hb) hbox (Kg w hg) (Kg w hg); clear HB; obtain ⟨HB, BK595, GW595, GE595⟩ := h_; clear hb hbox hg) | ((with_reducible refine GD 4 ?_); refine BE 4 #[.slice none 0 0, .slice none 0 0, .int .i64 0] 31 ?_; intro gb596 hg w5 hbox hb; have h_ := P7 (BL BK595.out hb) (below_step KB hb) hbox (Kg w hg) (Kg w hg) (NX hg BK595.out) (NY hg BK595.out); clear BK595 HB; obtain ⟨BK595, HB, BK596, GW596, GE596, NB595_596, NB596_595⟩ := h_; clear hb hbox hg))
 (try simp only [Act.put, List.setIfInBounds_toArray, List.set_cons_zero, List.set_cons_succ])
 go_cut [16] (fun v16 wc => ∃ (kq : Nat) (x16_2 : Bool), v16 = .bool x16_2 ∧ Aside0 (impl_StoreCrash.j0 kq a1 x16_2 l0_0 l0_1 a0_2 = some (r1, r2, r3, r4)) ∧ Aside0 (kq ≤ k) ∧ Aside0 (wc.heap[gb595]? = some (.cells #[(.slice A0_0 l0_0.length c0_0), (.slice A0_1 l0_1.length c0_1), .int .i64 a0_2] 31 (0, 0))) ∧ Aside0 (wc.heap[gb596]? = some (.cells #[(.slice none 0 0), (.slice none 0 0), .int .i64 0] 31 (0, 0))) ∧ Aside0 (Below w.heap.size w wc))
 case first =>
  have H := HC3.out; clear HC3; replace H := Option.bind_eq_some_iff.mp H; obtain ⟨t597, A60, H⟩ := H
  try dsimp only at H
  have A6 := Aside0.mk A60; clear A60
  by_cases c7 : t597 = true
  ·subst c7
   have H1 : ((impl_within.f a1 0 1048575).bind fun t598 => (impl_StoreCrash.j0 k a1 (!t598) l0_0 l0_1 a0_2)) = some (r1, r2, r3, r4) := by rw [if_pos rfl] at H; exact H
   clear H; have H := H1; clear H1; replace H := Option.bind_eq_some_iff.mp H; obtain ⟨t598, A80, H⟩ := H
   try dsimp only at H
   have A8 := Aside0.mk A80; clear A80; have H' := Aside0.mk H; clear H; have hnb9 := NB595_596.out; have hnc9 := NB596_595.out; obtain ⟨hcz10_0, hcz10_1, hcz10_2, hfz10_0, hfz10_1, hfz10_2⟩ := C3 BK595.out
   go_wp2_with (first | ((with_reducible refine GC 32 ?_); refine goesL_ (some 10) rfl rfl Try.func32 (by kernel_rfl) rfl #[.agg #[.slice A0_0 l0_0.length c0_0, .slice A0_1 l0_1.length c0_1, .int .i64 a0_2]] rfl KL ?_; (with_reducible refine (impl_StoreOk.calls k _ _ l0_0 _ _ l0_1 a0_2 true _ ?side1 ?side2 ?side3 ?side4 A6.out).mono ?_); (case side1 => exact KD (Kd.C_below HR0_0.out HB.out)); (case side2 => exact HC0_0.out); (case side3 => exact KD (Kd.C_below HR0_1.out HB.out)); (case side4 => exact HC0_1.out); rintro e w11 ⟨rfl, hb⟩; refine ⟨_, rfl, ?_⟩; have h_ := P3 (BL BK595.out hb) (BL BK596.out hb) (below_step KB hb); clear BK595 BK596 HB; obtain ⟨BK595, BK596, HB⟩ := h_; (try clear hb); (try clear hk); (try clear hi)) | (go_at_call 63; (with_reducible refine (impl_within.calls a1 0 1048575 t598 _ A8.out).mono ?_); rintro e w' ⟨rfl, ⟨nd, rfl⟩⟩))
   go_meet
   case rel => exact ⟨_, (!t598), (by first | rfl | (simp; done) | (simp [*]; done)), H', ⟨by first | omega | exact Nat.le_refl _⟩, ⟨KK⟩, ⟨KK⟩, ⟨KB⟩⟩
  ·replace c7 := Bool.eq_false_iff.mpr c7
   subst c7; have H1 : (impl_StoreCrash.j0 k a1 true l0_0 l0_1 a0_2) = some (r1, r2, r3, r4) := by rw [if_neg (show ¬ (false = true) by decide)] at H; exact H
   clear H; have H := H1; clear H1; have H' := Aside0.mk H; clear H; have hnb12 := NB595_596.out; have hnc12 := NB596_595.out; obtain ⟨hcz13_0, hcz13_1, hcz13_2, hfz13_0, hfz13_1, hfz13_2⟩ := C3 BK595.out
   go_wp2_with (first | ((with_reducible refine GC 32 ?_); refine goesL_ (some 10) rfl rfl Try.func32 (by kernel_rfl) rfl #[.agg #[.slice A0_0 l0_0.length c0_0, .slice A0_1 l0_1.length c0_1, .int .i64 a0_2]] rfl KL ?_; (with_reducible refine (impl_StoreOk.calls k _ _ l0_0 _ _ l0_1 a0_2 false _ ?side1 ?side2 ?side3 ?side4 A6.out).mono ?_); (case side1 => exact KD (Kd.C_below HR0_0.out HB.out)); (case side2 => exact HC0_0.out); (case side3 => exact KD (Kd.C_below HR0_1.out HB.out)); (case side4 => exact HC0_1.out); rintro e w14 ⟨rfl, hb⟩; refine ⟨_, rfl, ?_⟩; have h_ := P3 (BL BK595.out hb) (BL BK596.out hb) (below_step KB hb); clear BK595 BK596 HB; obtain ⟨BK595, BK596, HB⟩ := h_; (try clear hb); (try clear hk); (try clear hi)))
   go_meet
   case rel => exact ⟨_, (true), (by first | rfl | (simp; done) | (simp [*]; done)), H', ⟨by first | omega | exact Nat.le_refl _⟩, ⟨KK⟩, ⟨KK⟩, ⟨KB⟩⟩
 case rest =>
  clear HC3
  try clear c1
  try clear c2
  try clear p2
  try clear c3
  try clear c7
  try clear c9
  try clear c12
  try clear hcz10_0
  try clear hcz10_1
  try clear hcz10_2
  try clear hcz13_0
  try clear hcz13_1
  try clear hcz13_2
  try clear hfz10_0
  try clear hfz10_1
  try clear hfz10_2
  try clear hfz13_0
  try clear hfz13_1
  try clear hfz13_2
  obtain ⟨kq, x16_2, rfl, HA, HJ2, BK595, BK596, HB⟩ := hcut
  cases kq with
  | zero => exact absurd HA.out (by simp [impl_StoreCrash.j0])
  | succ kj2 =>
   have H := HA.out; clear HA; simp only [impl_StoreCrash.j0] at H
   by_cases c15 : x16_2 = true
   ·subst c15
    have H1 : ((impl_storeAsWas.f kj2 l0_0 l0_1 a0_2).bind fun bt599 => (some (bt599.1, bt599.2.1, bt599.2.2, false))) = some (r1, r2, r3, r4) := by rw [if_pos rfl] at H; exact H
    clear H; have H := H1; clear H1; replace H := Option.bind_eq_some_iff.mp H; obtain ⟨⟨t599, t602, t605⟩, A160, H⟩ := H
    try dsimp only at H
    have A16 := Aside0.mk A160; clear A160; simp only [Option.some.injEq, Prod.mk.injEq] at H; obtain ⟨rfl, rfl, rfl, rfl⟩ := H; have hnb17 := NB595_596.out; have hnc17 := NB596_595.out; obtain ⟨hcz18_0, hcz18_1, hcz18_2, hfz18_0, hfz18_1, hfz18_2⟩ := C3 BK595.out
    go_wp2_with (first | ((with_reducible refine GC 46 ?_); refine goesL_ (some 18) rfl rfl Try.func46 (by kernel_rfl) rfl #[.agg #[.slice A0_0 l0_0.length c0_0, .slice A0_1 l0_1.length c0_1, .int .i64 a0_2]] rfl KL ?_; (with_reducible refine (impl_storeAsWas.calls kj2 _ _ l0_0 _ _ l0_1 a0_2 t599 t602 t605 _ ?side1 ?side2 ?side3 ?side4 A16.out).mono ?_); (case side1 => exact KD (Kd.C_below HR0_0.out HB.out)); (case side2 => exact HC0_0.out); (case side3 => exact KD (Kd.C_below HR0_1.out HB.out)); (case side4 => exact HC0_1.out); rintro e w19 ⟨v600, v603, rfl, ho0, ho1, hb⟩; refine ⟨_, rfl, ?_⟩; have h_ := P5 (Kd.R_lower ho0 (below_size KB)) (Kd.R_lower ho1 (below_size KB)) (BL BK595.out hb) (BL BK596.out hb) (below_step KB hb); clear BK595 BK596 HB; obtain ⟨HO601, HO604, BK595, BK596, HB⟩ := h_; (try clear hb); (try clear hk); (try clear hi); (try clear ho0); (try clear ho1); obtain ⟨Ao20, co20, eo20⟩ := Kd.R_slice HO601.out; subst eo20; obtain ⟨hcz21_0, hcz21_1, hcz21_2, hfz21_0, hfz21_1, hfz21_2⟩ := C3 BK596.out; obtain ⟨Ao22, co22, eo22⟩ := Kd.R_slice HO604.out; subst eo22))
    refine bodyPost_ret (results_ct rfl _ _ gb596 31 #[.slice Ao20 t599.length co20, .slice Ao22 t602.length co22, .int .i64 t605] (0, 0) _ rfl (by refine SK ?_; refine BP #[.slice Ao20 t599.length co20, .slice Ao22 t602.length co22, .int .i64 0] ?_ 2; refine SK ?_; refine BP #[.slice Ao20 t599.length co20, .slice none 0 0, .int .i64 0] ?_ 1; refine SK ?_; refine BP #[.slice none 0 0, .slice none 0 0, .int .i64 0] ?_ 0; exact SK BK596.out) Try.underlying31 rfl (by kernel_rfl)) rfl ?_; exact ⟨_, _, KE, RQ (RT HO601.out BK596.out), RQ (RT HO604.out BK596.out), KB⟩
   ·replace c15 := Bool.eq_false_iff.mpr c15
    subst c15; have H1 : ((impl_copyStore.f l0_0 l0_1 a0_2).bind fun bt606 => (impl_StoreCrash.l0 kj2 a1 l0_1 (l0_1.length : Int) 0 l0_0 l0_1 a0_2 bt606.1 bt606.2.2)) = some (r1, r2, r3, r4) := by rw [if_neg (show ¬ (false = true) by decide)] at H; exact H
    clear H; have H := H1; clear H1; replace H := Option.bind_eq_some_iff.mp H; obtain ⟨⟨t606, t609, t612⟩, A230, H⟩ := H
    try dsimp only at H
    have A23 := Aside0.mk A230; clear A230; have H' := Aside0.mk H; clear H; have hnb24 := NB595_596.out; have hnc24 := NB596_595.out; obtain ⟨hcz25_0, hcz25_1, hcz25_2, hfz25_0, hfz25_1, hfz25_2⟩ := C3 BK595.out
    go_wp2_with (first | ((with_reducible refine GC 47 ?_); refine goesL_ (some 20) rfl rfl Try.func47 (by kernel_rfl) rfl #[.agg #[.slice A0_0 l0_0.length c0_0, .slice A0_1 l0_1.length c0_1, .int .i64 a0_2]] rfl KL ?_; (with_reducible refine (impl_copyStore.calls _ _ l0_0 _ _ l0_1 a0_2 t606 t609 t612 _ ?side1 ?side2 ?side3 ?side4 A23.out).mono ?_); (case side1 => exact KD (Kd.C_below HR0_0.out HB.out)); (case side2 => exact HC0_0.out); (case side3 => exact KD (Kd.C_below HR0_1.out HB.out)); (case side4 => exact HC0_1.out); rintro e w26 ⟨v607, v610, rfl, ho0, ho1, hb⟩; refine ⟨_, rfl, ?_⟩; have h_ := P5 (Kd.R_lower ho0 (below_size KB)) (Kd.R_lower ho1 (below_size KB)) (BL BK595.out hb) (BL BK596.out hb) (below_step KB hb); clear BK595 BK596 HB; obtain ⟨HO608, HO611, BK595, BK596, HB⟩ := h_; (try clear hb); (try clear hk); (try clear hi); (try clear ho0); (try clear ho1)) | ((with_reducible refine GD 6 ?_); refine BE 6 #[.slice none 0 0, .slice none 0 0, .int .i64 0] 31 ?_; intro gb613 hg w27 hbox hb; have h_ := P12 (Kd.R_below (KR HO608.out) hb) (Kd.R_below (KR HO611.out) hb) (BL BK595.out hb) (BL BK596.out hb) (below_step KB hb) hbox (Kg w hg) (Kg w hg) (NX hg BK595.out) (NY hg BK595.out) (NX hg BK596.out) (NY hg BK596.out); clear HO608 HO611 BK595 BK596 HB; obtain ⟨HO608, HO611, BK595, BK596, HB, BK613, GW613, GE613, NB595_613, NB613_595, NB596_613, NB613_596⟩ := h_; clear hb hbox hg; obtain ⟨Ao28, co28, eo28⟩ := Kd.R_slice HO608.out; subst eo28; have hnb29 := NB613_595.out; have hnc29 := NB595_613.out; have hnb30 := NB613_596.out; have hnc30 := NB596_613.out; obtain ⟨hcz31_0, hcz31_1, hcz31_2, hfz31_0, hfz31_1, hfz31_2⟩ := C3 BK613.out; obtain ⟨Ao32, co32, eo32⟩ := Kd.R_slice HO611.out; subst eo32; obtain ⟨hcz33_0, hcz33_1, hcz33_2, hfz33_0, hfz33_1, hfz33_2⟩ := C3 BK595.out))
    go_loopg [25] kj2 (fun kq v25 w' => ∃ (x25_2 : Int) (x614000_2 : List (S35)) (u614000 : Value), v25 = .int .i64 x25_2 ∧ Aside0 (impl_StoreCrash.l0 kq a1 l0_1 (l0_1.length : Int) x25_2 l0_0 l0_1 a0_2 x614000_2 t612 = some (r1, r2, r3, r4)) ∧ Aside0 (kq ≤ kj2) ∧ Aside0 (Kd.R k35 35 w' w.heap.size (fun _ => True) u614000 x614000_2) ∧ Aside0 (w'.heap[gb595]? = some (.cells #[(.slice A0_0 l0_0.length c0_0), (.slice A0_1 l0_1.length c0_1), .int .i64 a0_2] 31 (0, 0))) ∧ Aside0 (w'.heap[gb596]? = some (.cells #[(.slice none 0 0), (.slice none 0 0), .int .i64 0] 31 (0, 0))) ∧ Aside0 (w'.heap[gb613]? = some (.cells #[u614000, (.slice none 0 0), .int .i64 t612] 31 (0, 0))) ∧ Aside0 (Below w.heap.size w w'))
    case atStart => exact ⟨(0), (t606), (.slice Ao28 t606.length co28), (by first | rfl | (simp; done) | (simp [*]; done)), H', ⟨Nat.le_refl _⟩, ⟨Kd.R_mono (RF (RT HO608.out BK613.out)) (fun _ hk => trivial)⟩, ⟨KK⟩, ⟨KK⟩, ⟨by refine SK ?_; refine BP #[.slice Ao28 t606.length co28, .slice Ao32 t609.length co32, .int .i64 t612] ?_ 1; refine SK ?_; refine BP #[.slice Ao28 t606.length co28, .slice Ao32 t609.length co32, .int .i64 0] ?_ 2; refine SK ?_; refine BP #[.slice Ao28 t606.length co28, .slice none 0 0, .int .i64 0] ?_ 1; refine SK ?_; refine BP #[.slice none 0 0, .slice none 0 0, .int .i64 0] ?_ 0; exact SK BK613.out⟩, ⟨KB⟩⟩
    case round =>
     clear H'
     try clear c1
     try clear c2
     try clear p2
     try clear c3
     try clear c4
     try clear c7
     try clear c9
     try clear c12
     try clear c15
     try clear c17
     try clear c24
     try clear c29
     try clear c30
     try clear c32
     try clear hcz10_0
     try clear hcz10_1
     try clear hcz10_2
     try clear hcz13_0
     try clear hcz13_1
     try clear hcz13_2
     try clear hcz18_0
     try clear hcz18_1
     try clear hcz18_2
     try clear hcz21_0
     try clear hcz21_1
     try clear hcz21_2
     try clear hcz25_0
     try clear hcz25_1
     try clear hcz25_2
     try clear hcz31_0
     try clear hcz31_1
     try clear hcz31_2
     try clear hcz33_0
     try clear hcz33_1
     try clear hcz33_2
     try clear hfz10_0
     try clear hfz10_1
     try clear hfz10_2
     try clear hfz13_0
     try clear hfz13_1
     try clear hfz13_2
     try clear hfz18_0
     try clear hfz18_1
     try clear hfz18_2
     try clear hfz21_0
     try clear hfz21_1
     try clear hfz21_2
     try clear hfz25_0
     try clear hfz25_1
     try clear hfz25_2
     try clear hfz31_0
     try clear hfz31_1
     try clear hfz31_2
     try clear hfz33_0
     try clear hfz33_1
     try clear hfz33_2
     try clear p2
     obtain ⟨x25_2, x614000_2, u614000, rfl, HA, HK2, HO_614000, BK595, BK596, BK613, HB⟩ := hrel
     cases gk with
     | zero => exact absurd HA.out (by simp [impl_StoreCrash.l0])
     | succ k2 =>
      have H := HA.out; clear HA; simp only [impl_StoreCrash.l0] at H
      by_cases c34 : x25_2 < (l0_1.length : Int)
      ·rw [if_pos c34] at H
       have c34b0 : decide (x25_2 < (l0_1.length : Int)) = true := decide_eq_true c34; clear c34
       by_cases c35 : 0 ≤ x25_2
       ·rw [if_pos c35] at H
        have c35b0 : decide (0 ≤ x25_2) = true := decide_eq_true c35; clear c35
        by_cases c36 : x25_2 < (l0_1.length : Int)
        ·rw [if_pos c36] at H
         have c36b0 : decide (x25_2 < (l0_1.length : Int)) = true := decide_eq_true c36; clear c36; have c37b0 := eq_true (of_decide_eq_true (by first | (with_reducible assumption) | assumption) : 0 ≤ x25_2); obtain ⟨ji38, hji38⟩ : ∃ j_ : Int, (shr .i64 a1 x25_2) = j_ := ⟨_, rfl⟩; replace H : (if (Go.bits .and .i64 (ji38) 1) = 1 then ((impl_kept.f x614000_2 ((rd_T35 l0_1 x25_2).f0) ((rd_T35 l0_1 x25_2).f1) ((rd_T35 l0_1 x25_2).f2) ((rd_T35 l0_1 x25_2).f3)).bind fun t616 => (impl_StoreCrash.l0 k2 a1 l0_1 (l0_1.length : Int) (wrap64 (x25_2 + 1)) l0_0 l0_1 a0_2 t616 t612)) else (impl_StoreCrash.l0 k2 a1 l0_1 (l0_1.length : Int) (wrap64 (x25_2 + 1)) l0_0 l0_1 a0_2 x614000_2 t612)) = some (r1, r2, r3, r4) := by first | (rw [hji38] at H; exact H) | (simp only [hji38] at H ⊢; exact H)
         have hji38_ : (a1 / 2 ^ min x25_2.toNat 64) = ji38 := hji38; have hji38z : x25_2 ≤ 64 → (a1 / 2 ^ x25_2.toNat) = ji38 := shr_small hji38
         by_cases c39 : (Go.bits .and .i64 (ji38) 1) = 1
         ·rw [if_pos c39] at H
          have c39b0 : ((Go.bits .and .i64 (ji38) 1) == 1) = true := beq_iff_eq.mpr c39; have c39b1 : ((Go.bits .and .i64 (ji38) 1) != 1) = false := bne_eq_false_iff_eq.mpr c39; clear c39; replace H := Option.bind_eq_some_iff.mp H; obtain ⟨t616, A400, H⟩ := H
          try dsimp only at H
          have A40 := Aside0.mk A400; clear A400; have H' := Aside0.mk H; clear H; have p614 : 0 ≤ (x25_2 : Int) := of_decide_eq_true (by first | (with_reducible assumption) | assumption); have q614 : x25_2 < (l0_1.length : Int) := of_decide_eq_true (by first | (with_reducible assumption) | assumption); obtain ⟨ad614, e614, hx614_0, hx614_1, hx614_2, hx614_3⟩ := at_T35 HR0_1.out x25_2 p614 q614
          cases e614
          replace hx614_0 := (HB.out.cell (World.block_lt_of_cell? w _ hx614_0)).trans hx614_0; replace hx614_1 := (HB.out.cell (World.block_lt_of_cell? w _ hx614_1)).trans hx614_1; replace hx614_2 := (HB.out.cell (World.block_lt_of_cell? w _ hx614_2)).trans hx614_2; replace hx614_3 := (HB.out.cell (World.block_lt_of_cell? w _ hx614_3)).trans hx614_3; replace p614 := eq_true p614; replace q614 := eq_true q614
          go_wp2_with (first | ((with_reducible refine GD 8 ?_); refine BE 8 #[.int .i64 0, .int .i64 0, .bool false, .string (⟨#[]⟩ : ByteArray)] 35 ?_; intro gb615 hg w41 hbox hb; have h_ := P14 (Kd.R_below (Kd.R_elderB (KR HO_614000.out) gb615 (Nat.le_of_eq hg.symm)) hb) (BL BK595.out hb) (BL BK596.out hb) (BL BK613.out hb) (below_step KB hb) hbox (Kg w hg) (Kg w hg) (NX hg BK595.out) (NY hg BK595.out) (NX hg BK596.out) (NY hg BK596.out) (NX hg BK613.out) (NY hg BK613.out); clear HO_614000 BK595 BK596 BK613 HB; obtain ⟨HO_614000, BK595, BK596, BK613, HB, BK615, GW615, GE615, NB595_615, NB615_595, NB596_615, NB615_596, NB613_615, NB615_613⟩ := h_; clear hb hbox hg; have hnb42 := NB615_595.out; have hnc42 := NB595_615.out; have hnb43 := NB615_596.out; have hnc43 := NB596_615.out; have hnb44 := NB615_613.out; have hnc44 := NB613_615.out; obtain ⟨hcz45_0, hcz45_1, hcz45_2, hcz45_3, hfz45_0, hfz45_1, hfz45_2, hfz45_3⟩ := C4 BK615.out) | ((with_reducible refine gate_store (t := 35) (p := 8) rfl ?_); refine store_event (t := 35) (p := 8) (v := ?vo_w46) (w1 := ((((w41.setCell ⟨gb615, 0, none⟩ (.int .i64 ((rd_T35 l0_1 x25_2).f0))).setCell ⟨gb615, 1, none⟩ (.int .i64 ((rd_T35 l0_1 x25_2).f1))).setCell ⟨gb615, 2, none⟩ (.bool ((rd_T35 l0_1 x25_2).f2))).setCell ⟨gb615, 3, none⟩ (.string ((rd_T35 l0_1 x25_2).f3)))) ?hg ?ho ?hn ?hr ?_; (case ho => rfl); (case hg => rfl); (case hn => rfl); (case hr => first | (go_simp; done) | (go_simp; rfl)); intro w46 hw; have n0_ : Aside0 (Kd.R k35 35 w46 w.heap.size (fun k_ => k_ ≠ gb615) u614000 x614000_2) := ⟨(by rw [hw]; exact (RQ (Kd.R_mono HO_614000.out (fun k_ hk => (⟨hk, hk.2⟩ : _ ∧ k_ ≠ gb615))) (hm := fun _ h => h.1.2)))⟩; have n1_ : Aside0 (w46.heap[gb595]? = some (.cells #[.slice A0_0 l0_0.length c0_0, .slice (some ad614) l0_1.length c0_1, .int .i64 a0_2] 31 (0, 0))) := ⟨(by rw [hw]; exact KK)⟩; have n2_ : Aside0 (w46.heap[gb596]? = some (.cells #[.slice none 0 0, .slice none 0 0, .int .i64 0] 31 (0, 0))) := ⟨(by rw [hw]; exact KK)⟩; have n3_ : Aside0 (w46.heap[gb613]? = some (.cells #[u614000, .slice none 0 0, .int .i64 t612] 31 (0, 0))) := ⟨(by rw [hw]; exact KK)⟩; have n4_ : Aside0 (w46.heap[gb615]? = some (.cells #[.int .i64 ((rd_T35 l0_1 x25_2).f0), .int .i64 ((rd_T35 l0_1 x25_2).f1), .bool ((rd_T35 l0_1 x25_2).f2), .string ((rd_T35 l0_1 x25_2).f3)] 35 (0, 0))) := ⟨(by rw [hw]; exact (by refine SK ?_; refine BP #[.int .i64 ((rd_T35 l0_1 x25_2).f0), .int .i64 ((rd_T35 l0_1 x25_2).f1), .bool ((rd_T35 l0_1 x25_2).f2), .string (⟨#[]⟩ : ByteArray)] ?_ 3; refine SK ?_; refine BP #[.int .i64 ((rd_T35 l0_1 x25_2).f0), .int .i64 ((rd_T35 l0_1 x25_2).f1), .bool false, .string (⟨#[]⟩ : ByteArray)] ?_ 2; refine SK ?_; refine BP #[.int .i64 ((rd_T35 l0_1 x25_2).f0), .int .i64 0, .bool false, .string (⟨#[]⟩ : ByteArray)] ?_ 1; refine SK ?_; refine BP #[.int .i64 0, .int .i64 0, .bool false, .string (⟨#[]⟩ : ByteArray)] ?_ 0; exact SK BK615.out))⟩; have n5_ : Aside0 (Below w.heap.size w w46) := ⟨(by rw [hw]; exact KB)⟩; clear hw; clear HO_614000; clear BK595; clear BK596; clear BK613; clear BK615; clear HB; have HO_614000 := n0_; have BK595 := n1_; have BK596 := n2_; have BK613 := n3_; have BK615 := n4_; have HB := n5_; clear n0_ n1_ n2_ n3_ n4_ n5_; have hnb47 := NB613_595.out; have hnc47 := NB595_613.out; have hnb48 := NB613_596.out; have hnc48 := NB596_613.out; obtain ⟨hcz49_0, hcz49_1, hcz49_2, hfz49_0, hfz49_1, hfz49_2⟩ := C3 BK613.out; obtain ⟨hcz50_0, hcz50_1, hcz50_2, hcz50_3, hfz50_0, hfz50_1, hfz50_2, hfz50_3⟩ := C4 BK615.out; obtain ⟨Ao51, co51, eo51⟩ := Kd.R_slice HO_614000.out; subst eo51) | ((with_reducible refine GC 64 ?_); refine goesL_ (some 38) rfl rfl Try.func64 (by kernel_rfl) rfl #[.slice Ao51 x614000_2.length co51, .agg #[.int .i64 ((rd_T35 l0_1 x25_2).f0), .int .i64 ((rd_T35 l0_1 x25_2).f1), .bool ((rd_T35 l0_1 x25_2).f2), .string ((rd_T35 l0_1 x25_2).f3)]] rfl KL ?_; (with_reducible refine (impl_kept.calls (fun k_ => some k_ = (.slice Ao51 x614000_2.length co51 : Value).ownBlock) (.slice Ao51 x614000_2.length co51) x614000_2 ((rd_T35 l0_1 x25_2).f0) ((rd_T35 l0_1 x25_2).f1) ((rd_T35 l0_1 x25_2).f2) ((rd_T35 l0_1 x25_2).f3) t616 w _ ?side1 ?side2 A40.out).mono ?_); (case side1 => exact KB); (case side2 => exact Kd.R_tight rfl HO_614000.out); rintro e w52 ⟨v617, rfl, ho0, hb, hkp⟩; refine ⟨_, rfl, ?_⟩; have h_ := P6 (blk_kept KK hkp (fun hs_ => (fun e_ => (Kd.R_ne HO_614000.out BK595.out (by decide)) e_) hs_)) (blk_kept KK hkp (fun hs_ => (fun e_ => (Kd.R_ne HO_614000.out BK596.out (by decide)) e_) hs_)) (blk_kept KK hkp (fun hs_ => (fun e_ => (Kd.R_ne HO_614000.out BK613.out (by decide)) e_) hs_)) (blk_kept KK hkp (fun hs_ => (fun e_ => (Kd.R_away HO_614000.out (fun _ hk => hk)) e_) hs_)) (Kd.R_mono (ok' := fun k_ => k_ ≠ gb615) ho0 (fun k_ hk_ => Or.elim hk_ (fun hs_ => fun e_ => (Kd.R_away HO_614000.out (fun _ hk => hk)) (by rw [← e_]; exact hs_)) (fun hn_ => (Kd.freshB (g := gb615) (o := .cells #[.int .i64 ((rd_T35 l0_1 x25_2).f0), .int .i64 ((rd_T35 l0_1 x25_2).f1), .bool ((rd_T35 l0_1 x25_2).f2), .string ((rd_T35 l0_1 x25_2).f3)] 35 (0, 0)) KK k_ hn_)))) hb; clear BK595 BK596 BK613 BK615 HB HO_614000; obtain ⟨BK595, BK596, BK613, BK615, HO618, HB⟩ := h_; (try clear hb); (try clear hkp); (try clear ho0); obtain ⟨Ao53, co53, eo53⟩ := Kd.R_slice HO618.out; subst eo53; obtain ⟨hcz54_0, hcz54_1, hcz54_2, hfz54_0, hfz54_1, hfz54_2⟩ := C3 BK613.out))
          go_roundg k2
          case measure => have := HJ2.out; have := HK2.out; omega
          case rel => exact ⟨(wrap64 (x25_2 + 1)), (t616), (.slice Ao53 t616.length co53), (by first | rfl | (simp; done) | (simp [*]; done)), H', ⟨by have := HJ2.out; have := HK2.out; omega⟩, ⟨Kd.R_mono (RF (RT HO618.out BK613.out)) (fun _ hk => trivial)⟩, ⟨KK⟩, ⟨KK⟩, ⟨by refine SK ?_; refine BP #[.slice Ao51 x614000_2.length co51, .slice none 0 0, .int .i64 t612] ?_ 0; exact SK BK613.out⟩, ⟨KB⟩⟩
         ·rw [if_neg c39] at H
          have c39b0 : ((Go.bits .and .i64 (ji38) 1) == 1) = false := beq_eq_false_iff_ne.mpr c39; have c39b1 : ((Go.bits .and .i64 (ji38) 1) != 1) = true := bne_iff_ne.mpr c39; have H' := Aside0.mk H; clear H; have p614 : 0 ≤ (x25_2 : Int) := of_decide_eq_true (by first | (with_reducible assumption) | assumption); have q614 : x25_2 < (l0_1.length : Int) := of_decide_eq_true (by first | (with_reducible assumption) | assumption); obtain ⟨ad614, e614, hx614_0, hx614_1, hx614_2, hx614_3⟩ := at_T35 HR0_1.out x25_2 p614 q614
          cases e614
          replace hx614_0 := (HB.out.cell (World.block_lt_of_cell? w _ hx614_0)).trans hx614_0; replace hx614_1 := (HB.out.cell (World.block_lt_of_cell? w _ hx614_1)).trans hx614_1; replace hx614_2 := (HB.out.cell (World.block_lt_of_cell? w _ hx614_2)).trans hx614_2; replace hx614_3 := (HB.out.cell (World.block_lt_of_cell? w _ hx614_3)).trans hx614_3; replace p614 := eq_true p614; replace q614 := eq_true q614
          go_wp2_with (first | ((with_reducible refine GD 8 ?_); refine BE 8 #[.int .i64 0, .int .i64 0, .bool false, .string (⟨#[]⟩ : ByteArray)] 35 ?_; intro gb615 hg w55 hbox hb; have h_ := P14 (Kd.R_below (Kd.R_elderB (KR HO_614000.out) gb615 (Nat.le_of_eq hg.symm)) hb) (BL BK595.out hb) (BL BK596.out hb) (BL BK613.out hb) (below_step KB hb) hbox (Kg w hg) (Kg w hg) (NX hg BK595.out) (NY hg BK595.out) (NX hg BK596.out) (NY hg BK596.out) (NX hg BK613.out) (NY hg BK613.out); clear HO_614000 BK595 BK596 BK613 HB; obtain ⟨HO_614000, BK595, BK596, BK613, HB, BK615, GW615, GE615, NB595_615, NB615_595, NB596_615, NB615_596, NB613_615, NB615_613⟩ := h_; clear hb hbox hg; have hnb56 := NB615_595.out; have hnc56 := NB595_615.out; have hnb57 := NB615_596.out; have hnc57 := NB596_615.out; have hnb58 := NB615_613.out; have hnc58 := NB613_615.out; obtain ⟨hcz59_0, hcz59_1, hcz59_2, hcz59_3, hfz59_0, hfz59_1, hfz59_2, hfz59_3⟩ := C4 BK615.out))
          go_roundg k2
          case measure => have := HJ2.out; have := HK2.out; omega
          case rel => exact ⟨(wrap64 (x25_2 + 1)), (x614000_2), (u614000), (by first | rfl | (simp; done) | (simp [*]; done)), H', ⟨by have := HJ2.out; have := HK2.out; omega⟩, ⟨Kd.R_mono (RF (Kd.R_mono HO_614000.out (fun k_ hk => (⟨hk, hk.2⟩ : _ ∧ k_ ≠ gb615)))) (fun _ hk => trivial)⟩, ⟨KK⟩, ⟨KK⟩, ⟨KK⟩, ⟨KB⟩⟩
        ·rw [if_neg c36] at H
         exact absurd H (by simp)
       ·rw [if_neg c35] at H
        exact absurd H (by simp)
      ·rw [if_neg c34] at H
       have c34b0 : decide (x25_2 < (l0_1.length : Int)) = false := decide_eq_false c34; clear c34
       by_cases c60 : (x614000_2.length : Int) > 200
       ·rw [if_pos c60] at H
        have c60b0 : decide (200 < (x614000_2.length : Int)) = true := decide_eq_true c60; have c60b1 : decide (200 < x614000_2.length) = true := decide_eq_true (by omega); clear c60; replace H := Option.bind_eq_some_iff.mp H; obtain ⟨⟨t619, t622, t625⟩, A610, H⟩ := H
        try dsimp only at H
        have A61 := Aside0.mk A610; clear A610; simp only [Option.some.injEq, Prod.mk.injEq] at H; obtain ⟨rfl, rfl, rfl, rfl⟩ := H; have hnb62 := NB613_595.out; have hnc62 := NB595_613.out; have hnb63 := NB613_596.out; have hnc63 := NB596_613.out; obtain ⟨hcz64_0, hcz64_1, hcz64_2, hfz64_0, hfz64_1, hfz64_2⟩ := C3 BK613.out; obtain ⟨Ao65, co65, eo65⟩ := Kd.R_slice HO_614000.out; subst eo65; have hnb66 := NB595_596.out; have hnc66 := NB596_595.out; obtain ⟨hcz67_0, hcz67_1, hcz67_2, hfz67_0, hfz67_1, hfz67_2⟩ := C3 BK595.out
        go_wp2_with (first | ((with_reducible refine GC 47 ?_); refine goesL_ (some 46) rfl rfl Try.func47 (by kernel_rfl) rfl #[.agg #[.slice A0_0 l0_0.length c0_0, .slice A0_1 l0_1.length c0_1, .int .i64 a0_2]] rfl KL ?_; (with_reducible refine (impl_copyStore.calls _ _ l0_0 _ _ l0_1 a0_2 t619 t622 t625 _ ?side1 ?side2 ?side3 ?side4 A61.out).mono ?_); (case side1 => exact KD (Kd.C_below HR0_0.out HB.out)); (case side2 => exact HC0_0.out); (case side3 => exact KD (Kd.C_below HR0_1.out HB.out)); (case side4 => exact HC0_1.out); rintro e w68 ⟨v620, v623, rfl, ho0, ho1, hb⟩; refine ⟨_, rfl, ?_⟩; have h_ := P7 (Kd.R_mono (Kd.R_told (Kd.R_told (Kd.R_old (KR HO_614000.out) hb) (Kd.R_base ho0)) (Kd.R_base ho1)) (fun _ h_ => h_.1)) (Kd.R_lower (Kd.R_new' ho0 (Kd.R_lt (KR HO_614000.out))) (below_size KB)) (Kd.R_lower (Kd.R_new' ho1 (Kd.R_lt (KR HO_614000.out))) (below_size KB)) (BL BK595.out hb) (BL BK596.out hb) (BL BK613.out hb) (below_step KB hb); clear HO_614000 BK595 BK596 BK613 HB; obtain ⟨HO_614000, HO621, HO624, BK595, BK596, BK613, HB⟩ := h_; (try clear hb); (try clear hk); (try clear hi); (try clear ho0); (try clear ho1); obtain ⟨Ao69, co69, eo69⟩ := Kd.R_slice HO621.out; subst eo69; obtain ⟨hcz70_0, hcz70_1, hcz70_2, hfz70_0, hfz70_1, hfz70_2⟩ := C3 BK596.out; obtain ⟨Ao71, co71, eo71⟩ := Kd.R_slice HO624.out; subst eo71))
        refine bodyPost_ret (results_ct rfl _ _ gb596 31 #[.slice Ao69 t619.length co69, .slice Ao71 t622.length co71, .int .i64 t625] (0, 0) _ rfl (by refine SK ?_; refine BP #[.slice Ao69 t619.length co69, .slice Ao71 t622.length co71, .int .i64 0] ?_ 2; refine SK ?_; refine BP #[.slice Ao69 t619.length co69, .slice none 0 0, .int .i64 0] ?_ 1; refine SK ?_; refine BP #[.slice none 0 0, .slice none 0 0, .int .i64 0] ?_ 0; exact SK BK596.out) Try.underlying31 rfl (by kernel_rfl)) rfl ?_; exact ⟨_, _, KE, RQ (RT HO621.out BK596.out) (hm := fun _ h => h.1.1), RQ (RT HO624.out BK596.out) (hm := fun _ h => h.1.1), KB⟩
       ·rw [if_neg c60] at H
        have c60b0 : decide (200 < (x614000_2.length : Int)) = false := decide_eq_false c60; have c60b1 : decide (200 < x614000_2.length) = false := decide_eq_false (by omega); clear c60; simp only [Option.some.injEq, Prod.mk.injEq] at H; obtain ⟨rfl, rfl, rfl, rfl⟩ := H; have hnb72 := NB613_595.out; have hnc72 := NB595_613.out; have hnb73 := NB613_596.out; have hnc73 := NB596_613.out; obtain ⟨hcz74_0, hcz74_1, hcz74_2, hfz74_0, hfz74_1, hfz74_2⟩ := C3 BK613.out; obtain ⟨Ao75, co75, eo75⟩ := Kd.R_slice HO_614000.out; subst eo75; have hnb76 := NB596_595.out; have hnc76 := NB595_596.out; obtain ⟨hcz77_0, hcz77_1, hcz77_2, hfz77_0, hfz77_1, hfz77_2⟩ := C3 BK596.out
        go_wp2
        refine bodyPost_ret (results_ct rfl _ _ gb596 31 #[.slice Ao75 x614000_2.length co75, .slice none 0 0, .int .i64 t612] (0, 0) _ rfl (by refine SK ?_; refine BP #[.slice Ao75 x614000_2.length co75, .slice none 0 0, .int .i64 0] ?_ 2; refine SK ?_; refine BP #[.slice Ao75 x614000_2.length co75, .slice none 0 0, .int .i64 0] ?_ 1; refine SK ?_; refine BP #[.slice none 0 0, .slice none 0 0, .int .i64 0] ?_ 0; exact SK BK596.out) Try.underlying31 rfl (by kernel_rfl)) rfl ?_; exact ⟨_, _, KE, Kd.R_mono (RF (RT HO_614000.out BK596.out)) (fun _ hk => (by simp [Value.ownBlock])), by first | exact Kd.R_nil _ _ _ _ _ | exact Kd.N_nil _ _ _ _ _ | exact Kd.V_nil _ _ _ _ _ | exact Kd.Q_nil _ _ _ _ _ | exact Kd.S_nil _ _ _ _ _, KB⟩

/-! ### impl_StoreSync: function 35 -/
def impl_StoreSync.f (k : Nat) (l0_0 : List (S35)) (l0_1 : List (S35)) (a0_2 : Int) : Option ((List (S35)) × (List (S35)) × Int × Bool) := (impl_StoreCrash.f k l0_0 l0_1 a0_2 1048575).bind fun bt628 => (some (bt628.1, bt628.2.1, bt628.2.2.1, bt628.2.2.2))
theorem impl_StoreSync.mono : ∀ a0 a1 a2 k, LeO (impl_StoreSync.f k a0 a1 a2) (impl_StoreSync.f (k + 1) a0 a1 a2) := by
 intro a0 a1 a2 k
 unfold impl_StoreSync.f
 repeat' first
   | (with_reducible exact impl_StoreCrash.mono _ _ _ _ _)
   | (with_reducible exact LeO.refl _)
   | (with_reducible exact LeO.none _)
   | (with_reducible refine LeO.ite ?_ ?_)
   | (with_reducible refine LeO.bind ?_ (fun _ => ?_))
   | exact impl_StoreCrash.mono _ _ _ _ _
   | exact LeO.none _
   | refine LeO.ite ?_ ?_
   | refine LeO.bind ?_ (fun _ => ?_)
set_option maxHeartbeats 8000000 in
set_option maxRecDepth 100000 in
theorem impl_StoreSync.calls (k : Nat) (A0_0 : Option Addr) (c0_0 : Nat) (l0_0 : List (S35)) (A0_1 : Option Addr) (c0_1 : Nat) (l0_1 : List (S35)) (a0_2 : Int) (r1 : List (S35)) (r2 : List (S35)) (r3 : Int) (r4 : Bool) (w : World) (hr0_0 : Kd.C k35 w A0_0 l0_0.length l0_0) (hc0_0 : l0_0.length ≤ c0_0) (hr0_1 : Kd.C k35 w A0_1 l0_1.length l0_1) (hc0_1 : l0_1.length ≤ c0_1) (h : impl_StoreSync.f k l0_0 l0_1 a0_2 = some (r1, r2, r3, r4)) :
  Calls Try.prog 35 #[.agg #[.slice A0_0 l0_0.length c0_0, .slice A0_1 l0_1.length c0_1, .int .i64 a0_2]] w fun e w' => ∃ v0_ v1_ : Value, e = .returned (.tuple #[.agg #[v0_, v1_, .int .i64 r3], .bool r4]) ∧ Kd.R k35 35 w' w.heap.size (fun k_ => some k_ ≠ (v1_ : Value).ownBlock) v0_ r1 ∧ Kd.R k35 35 w' w.heap.size (fun k_ => some k_ ≠ (v0_ : Value).ownBlock) v1_ r2 ∧ Below w.heap.size w w' := by
 have hu31 := Try.underlying31; have HR0_0 := Aside0.mk hr0_0; have HC0_0 := Aside0.mk hc0_0; clear hr0_0 hc0_0; have HR0_1 := Aside0.mk hr0_1; have HC0_1 := Aside0.mk hc0_1; clear hr0_1 hc0_1; have HB := Aside0.mk (Below.refl w.heap.size w); have H : ((impl_StoreCrash.f k l0_0 l0_1 a0_2 1048575).bind fun bt628 => (some (bt628.1, bt628.2.1, bt628.2.2.1, bt628.2.2.2))) = some (r1, r2, r3, r4) := h; clear h; replace H := Option.bind_eq_some_iff.mp H; obtain ⟨⟨t628, t631, t634, t635⟩, A20, H⟩ := H
 try dsimp only at H
 have A2 := Aside0.mk A20; clear A20; simp only [Option.some.injEq, Prod.mk.injEq] at H; obtain ⟨rfl, rfl, rfl, rfl⟩ := H
 go_enter Try.func35, Try.ntmps35
 go_wp2_with (first | ((with_reducible refine GD 1 ?_); refine BE 1 #[.slice A0_0 l0_0.length c0_0, .slice A0_1 l0_1.length c0_1, .int .i64 a0_2] 31 ?_; intro gb626 hg w3 hbox hb; have h_ := P4 (below_step KB hb) hbox (Kg w hg) (Kg w hg); clear HB; obtain ⟨HB, BK626, GW626, GE626⟩ := h_; clear hb hbox hg) | ((with_reducible refine GD 2 ?_); refine BE 2 #[.slice none 0 0, .slice none 0 0, .int .i64 0] 31 ?_; intro gb627 hg w4 hbox hb; have h_ := P7 (BL BK626.out hb) (below_step KB hb) hbox (Kg w hg) (Kg w hg) (NX hg BK626.out) (NY hg BK626.out); clear BK626 HB; obtain ⟨BK626, HB, BK627, GW627, GE627, NB626_627, NB627_626⟩ := h_; clear hb hbox hg; have hnb5 := NB626_627.out; have hnc5 := NB627_626.out; obtain ⟨hcz6_0, hcz6_1, hcz6_2, hfz6_0, hfz6_1, hfz6_2⟩ := C3 BK626.out) | ((with_reducible refine GC 29 ?_); refine goesL_ (some 5) rfl rfl Try.func29 (by kernel_rfl) rfl #[.agg #[.slice A0_0 l0_0.length c0_0, .slice A0_1 l0_1.length c0_1, .int .i64 a0_2], .int .i64 1048575] rfl KL ?_; (with_reducible refine (impl_StoreCrash.calls k _ _ l0_0 _ _ l0_1 a0_2 1048575 t628 t631 t634 t635 _ ?side1 ?side2 ?side3 ?side4 A2.out).mono ?_); (case side1 => exact KD (Kd.C_below HR0_0.out HB.out)); (case side2 => exact HC0_0.out); (case side3 => exact KD (Kd.C_below HR0_1.out HB.out)); (case side4 => exact HC0_1.out); rintro e w7 ⟨v629, v632, rfl, ho0, ho1, hb⟩; refine ⟨_, rfl, ?_⟩; have h_ := P5 (Kd.R_lower ho0 (below_size KB)) (Kd.R_lower ho1 (below_size KB)) (BL BK626.out hb) (BL BK627.out hb) (below_step KB hb); clear BK626 BK627 HB; obtain ⟨HO630, HO633, BK626, BK627, HB⟩ := h_; (try clear hb); (try clear hk); (try clear hi); (try clear ho0); (try clear ho1); obtain ⟨Ao8, co8, eo8⟩ := Kd.R_slice HO630.out; subst eo8; obtain ⟨hcz9_0, hcz9_1, hcz9_2, hfz9_0, hfz9_1, hfz9_2⟩ := C3 BK627.out; obtain ⟨Ao10, co10, eo10⟩ := Kd.R_slice HO633.out; subst eo10))
 refine bodyPost_ret (results_ct rfl _ _ gb627 31 #[.slice Ao8 t628.length co8, .slice Ao10 t631.length co10, .int .i64 t634] (0, 0) _ rfl (by refine SK ?_; refine BP #[.slice Ao8 t628.length co8, .slice Ao10 t631.length co10, .int .i64 0] ?_ 2; refine SK ?_; refine BP #[.slice Ao8 t628.length co8, .slice none 0 0, .int .i64 0] ?_ 1; refine SK ?_; refine BP #[.slice none 0 0, .slice none 0 0, .int .i64 0] ?_ 0; exact SK BK627.out) Try.underlying31 rfl (by kernel_rfl)) rfl ?_; exact ⟨_, _, KE, RQ (RT HO630.out BK627.out), RQ (RT HO633.out BK627.out), KB⟩

end Go.Proofs.Ytnoghojlpicecaa.PFnStored
