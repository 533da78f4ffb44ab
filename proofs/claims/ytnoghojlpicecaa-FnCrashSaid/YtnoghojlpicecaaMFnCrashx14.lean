-- What each Go function that this law reaches comes to: written by a program out of the translation.
import Derived.Test.YtnoghojlpicecaaMFnCrashx0
import Derived.Test.YtnoghojlpicecaaMFnCrashx3
import Derived.Test.YtnoghojlpicecaaMFnCrashx10
import Derived.Test.YtnoghojlpicecaaMFnCrashx12
import Derived.Test.YtnoghojlpicecaaMFnCrashx13
namespace Go.Proofs.Ytnoghojlpicecaa.PFnCrash
open Go.RowKit Go.Proofs.YtnoghojlpicecaaW.PrintWords Go.Proofs.YtnoghojlpicecaaW.PrintLast Go.Proofs.YtnoghojlpicecaaW.PrintMore
attribute [local go_sem] max2_int min2_int max_two min_two max_three min_three max_four min_four   -- for this text's walks alone
set_option linter.unusedVariables false
set_option linter.unusedSimpArgs false

/-! ### impl_StoreCrash: function 29 -/
mutual
def impl_StoreCrash.j0 : Nat → Int → Bool → List (S35) → List (S35) → Int → Option ((List (S35)) × (List (S35)) × Int × Bool)
 | 0, _, _, _, _, _ => none
 | k + 1, x1, x16, x564000, x564001, x564002 => if x16 = true then ((impl_storeAsWas.f k x564000 x564001 x564002).bind fun bt567 => (some (bt567.1, bt567.2.1, bt567.2.2, false))) else ((impl_copyStore.f x564000 x564001 x564002).bind fun bt574 => (impl_StoreCrash.l0 k x1 x564001 (x564001.length : Int) 0 x564000 x564001 x564002 bt574.1 bt574.2.2))
def impl_StoreCrash.l0 : Nat → Int → List (S35) → Int → Int → List (S35) → List (S35) → Int → List (S35) → Int → Option ((List (S35)) × (List (S35)) × Int × Bool)
 | 0, _, _, _, _, _, _, _, _, _ => none
 | k + 1, x1, x23, x24, x25, x564000, x564001, x564002, x582000, x582002 => if x25 < x24 then (if 0 ≤ x25 then (if x25 < (x23.length : Int) then (if (Go.bits .and .i64 (shr .i64 x1 x25) 1) = 1 then ((impl_kept.f x582000 ((rd_T35 x23 x25).f0) ((rd_T35 x23 x25).f1) ((rd_T35 x23 x25).f2) ((rd_T35 x23 x25).f3)).bind fun t584 => (impl_StoreCrash.l0 k x1 x23 x24 (wrap64 (x25 + 1)) x564000 x564001 x564002 t584 x582002)) else (impl_StoreCrash.l0 k x1 x23 x24 (wrap64 (x25 + 1)) x564000 x564001 x564002 x582000 x582002)) else (none)) else (none)) else (if (x582000.length : Int) > 200 then ((impl_copyStore.f x564000 x564001 x564002).bind fun bt587 => (some (bt587.1, bt587.2.1, bt587.2.2, false))) else (some (x582000, ([] : List (S35)), x582002, true)))
end
def impl_StoreCrash.f (k : Nat) (l0_0 : List (S35)) (l0_1 : List (S35)) (a0_2 : Int) (a1 : Int) : Option ((List (S35)) × (List (S35)) × Int × Bool) := (impl_StoreOk.f k l0_0 l0_1 a0_2).bind fun t565 => (if t565 = true then ((impl_within.f a1 0 1048575).bind fun t566 => (impl_StoreCrash.j0 k a1 (!t566) l0_0 l0_1 a0_2)) else (impl_StoreCrash.j0 k a1 true l0_0 l0_1 a0_2))
theorem impl_StoreCrash.mono_l : ∀ k, (∀ y0 y1 y2 y3 y4, LeO (impl_StoreCrash.j0 k y0 y1 y2 y3 y4) (impl_StoreCrash.j0 (k + 1) y0 y1 y2 y3 y4)) ∧ (∀ y0 y1 y2 y3 y4 y5 y6 y7 y8, LeO (impl_StoreCrash.l0 k y0 y1 y2 y3 y4 y5 y6 y7 y8) (impl_StoreCrash.l0 (k + 1) y0 y1 y2 y3 y4 y5 y6 y7 y8))
 | 0 => ⟨fun _ _ _ _ _ r h => by simp [impl_StoreCrash.j0] at h, fun _ _ _ _ _ _ _ _ _ r h => by simp [impl_StoreCrash.l0] at h⟩
 | k + 1 => by
  obtain ⟨ih0, ih1⟩ := impl_StoreCrash.mono_l k
  refine ⟨?_, ?_⟩
  ·intro y0 y1 y2 y3 y4
   unfold impl_StoreCrash.j0
   repeat' first
   | (with_reducible exact ih0 _ _ _ _ _)
   | (with_reducible exact ih1 _ _ _ _ _ _ _ _ _)
   | (with_reducible exact impl_StoreOk.mono _ _ _ _)
   | (with_reducible exact impl_storeAsWas.mono _ _ _ _)
   | (with_reducible exact LeO.refl _)
   | (with_reducible exact LeO.none _)
   | (with_reducible refine LeO.ite ?_ ?_)
   | (with_reducible refine LeO.bind ?_ (fun _ => ?_))
   | exact ih0 _ _ _ _ _
   | exact ih1 _ _ _ _ _ _ _ _ _
   | exact impl_StoreOk.mono _ _ _ _
   | exact impl_storeAsWas.mono _ _ _ _
   | exact LeO.none _
   | refine LeO.ite ?_ ?_
   | refine LeO.bind ?_ (fun _ => ?_)
  ·intro y0 y1 y2 y3 y4 y5 y6 y7 y8
   unfold impl_StoreCrash.l0
   repeat' first
   | (with_reducible exact ih0 _ _ _ _ _)
   | (with_reducible exact ih1 _ _ _ _ _ _ _ _ _)
   | (with_reducible exact impl_StoreOk.mono _ _ _ _)
   | (with_reducible exact impl_storeAsWas.mono _ _ _ _)
   | (with_reducible exact LeO.refl _)
   | (with_reducible exact LeO.none _)
   | (with_reducible refine LeO.ite ?_ ?_)
   | (with_reducible refine LeO.bind ?_ (fun _ => ?_))
   | exact ih0 _ _ _ _ _
   | exact ih1 _ _ _ _ _ _ _ _ _
   | exact impl_StoreOk.mono _ _ _ _
   | exact impl_storeAsWas.mono _ _ _ _
   | exact LeO.none _
   | refine LeO.ite ?_ ?_
   | refine LeO.bind ?_ (fun _ => ?_)
theorem impl_StoreCrash.mono : ∀ a0 a1 a2 a3 k, LeO (impl_StoreCrash.f k a0 a1 a2 a3) (impl_StoreCrash.f (k + 1) a0 a1 a2 a3) := by
 intro a0 a1 a2 a3 k
 obtain ⟨ih0, ih1⟩ := impl_StoreCrash.mono_l k
 unfold impl_StoreCrash.f
 repeat' first
   | (with_reducible exact ih0 _ _ _ _ _)
   | (with_reducible exact ih1 _ _ _ _ _ _ _ _ _)
   | (with_reducible exact impl_StoreOk.mono _ _ _ _)
   | (with_reducible exact impl_storeAsWas.mono _ _ _ _)
   | (with_reducible exact LeO.refl _)
   | (with_reducible exact LeO.none _)
   | (with_reducible refine LeO.ite ?_ ?_)
   | (with_reducible refine LeO.bind ?_ (fun _ => ?_))
   | exact ih0 _ _ _ _ _
   | exact ih1 _ _ _ _ _ _ _ _ _
   | exact impl_StoreOk.mono _ _ _ _
   | exact impl_storeAsWas.mono _ _ _ _
   | exact LeO.none _
   | refine LeO.ite ?_ ?_
   | refine LeO.bind ?_ (fun _ => ?_)
set_option maxHeartbeats 8000000 in
set_option maxRecDepth 100000 in
theorem impl_StoreCrash.calls (k : Nat) (A0_0 : Option Addr) (c0_0 : Nat) (l0_0 : List (S35)) (A0_1 : Option Addr) (c0_1 : Nat) (l0_1 : List (S35)) (a0_2 : Int) (a1 : Int) (r1 : List (S35)) (r2 : List (S35)) (r3 : Int) (r4 : Bool) (w : World) (hr0_0 : Kd.C k35 w A0_0 l0_0.length l0_0) (hc0_0 : l0_0.length ≤ c0_0) (hr0_1 : Kd.C k35 w A0_1 l0_1.length l0_1) (hc0_1 : l0_1.length ≤ c0_1) (h : impl_StoreCrash.f k l0_0 l0_1 a0_2 a1 = some (r1, r2, r3, r4)) :
  Calls Try.prog 29 #[.agg #[.slice A0_0 l0_0.length c0_0, .slice A0_1 l0_1.length c0_1, .int .i64 a0_2], .int .i64 a1] w fun e w' => ∃ v0_ v1_ : Value, e = .returned (.tuple #[.agg #[v0_, v1_, .int .i64 r3], .bool r4]) ∧ Kd.R k35 35 w' w.heap.size (fun k_ => some k_ ≠ (v1_ : Value).ownBlock) v0_ r1 ∧ Kd.R k35 35 w' w.heap.size (fun k_ => some k_ ≠ (v0_ : Value).ownBlock) v1_ r2 ∧ Below w.heap.size w w' := by
 have hu31 := Try.underlying31
 have hu35 := Try.underlying35
 have HR0_0 := Aside0.mk hr0_0
 have HC0_0 := Aside0.mk hc0_0
 clear hr0_0 hc0_0
 have HR0_1 := Aside0.mk hr0_1
 have HC0_1 := Aside0.mk hc0_1
 clear hr0_1 hc0_1
 have HB := Aside0.mk (Below.refl w.heap.size w)
 have H : ((impl_StoreOk.f k l0_0 l0_1 a0_2).bind fun t565 => (if t565 = true then ((impl_within.f a1 0 1048575).bind fun t566 => (impl_StoreCrash.j0 k a1 (!t566) l0_0 l0_1 a0_2)) else (impl_StoreCrash.j0 k a1 true l0_0 l0_1 a0_2))) = some (r1, r2, r3, r4) := h
 clear h
 have HC3 := Aside0.mk H
 clear H
 go_enter Try.func29, Try.ntmps29
 go_upto_region 1 with (first | ((with_reducible refine gate_dst (N := 2) rfl ?_); refine BE 2 #[.slice A0_0 l0_0.length c0_0, .slice A0_1 l0_1.length c0_1, .int .i64 a0_2] 31 ?_; intro gb563 hg w4 hbox hb; have h_ := P4 (below_step KB hb) hbox (KG hg : w.heap.size ≤ gb563) (KG hg : w.heap.size ≤ gb563); clear HB; obtain ⟨HB, BK563, GW563, GE563⟩ := h_; clear hb hbox hg) | ((with_reducible refine gate_dst (N := 4) rfl ?_); refine BE 4 #[.slice none 0 0, .slice none 0 0, .int .i64 0] 31 ?_; intro gb564 hg w5 hbox hb; have h_ := P7 (BL BK563.out hb) (below_step KB hb) hbox (KG hg : w.heap.size ≤ gb564) (KG hg : w.heap.size ≤ gb564) (NX hg BK563.out) (Ne.symm (NX hg BK563.out)); clear BK563 HB; obtain ⟨BK563, HB, BK564, GW564, GE564, NB563_564, NB564_563⟩ := h_; clear hb hbox hg))
 (try simp only [Act.put, List.setIfInBounds_toArray, List.set_cons_zero, List.set_cons_succ])
 go_cut [16] (fun v16 wc => ∃ (kq : Nat) (x16_2 : Bool), v16 = .bool x16_2 ∧ Aside0 (impl_StoreCrash.j0 kq a1 x16_2 l0_0 l0_1 a0_2 = some (r1, r2, r3, r4)) ∧ Aside0 (kq ≤ k) ∧ Aside0 (wc.heap[gb563]? = some (.cells #[(.slice A0_0 l0_0.length c0_0), (.slice A0_1 l0_1.length c0_1), .int .i64 a0_2] 31 (0, 0))) ∧ Aside0 (wc.heap[gb564]? = some (.cells #[(.slice none 0 0), (.slice none 0 0), .int .i64 0] 31 (0, 0))) ∧ Aside0 (Below w.heap.size w wc))
 case first =>
  have H := HC3.out
  clear HC3
  replace H := Option.bind_eq_some_iff.mp H
  obtain ⟨t565, A60, H⟩ := H
  replace H : (if t565 = true then ((impl_within.f a1 0 1048575).bind fun t566 => (impl_StoreCrash.j0 k a1 (!t566) l0_0 l0_1 a0_2)) else (impl_StoreCrash.j0 k a1 true l0_0 l0_1 a0_2)) = some (r1, r2, r3, r4) := H
  have A6 := Aside0.mk A60
  clear A60
  by_cases c7 : t565 = true
  ·subst c7
   have H1 : ((impl_within.f a1 0 1048575).bind fun t566 => (impl_StoreCrash.j0 k a1 (!t566) l0_0 l0_1 a0_2)) = some (r1, r2, r3, r4) := by rw [if_pos rfl] at H; exact H
   clear H
   have H := H1
   clear H1
   replace H := Option.bind_eq_some_iff.mp H
   obtain ⟨t566, A80, H⟩ := H
   replace H : (impl_StoreCrash.j0 k a1 (!t566) l0_0 l0_1 a0_2) = some (r1, r2, r3, r4) := H
   have A8 := Aside0.mk A80
   clear A80
   have H' := Aside0.mk H
   clear H
   have hnb9 := NB563_564.out
   have hnc9 := NB564_563.out
   obtain ⟨hcz10_0, hcz10_1, hcz10_2, hfz10_0, hfz10_1, hfz10_2⟩ := C3 BK563.out
   go_wp2_with (first | ((with_reducible refine gate_callee (f := 32) rfl ?_); refine goesL_ (some 10) rfl rfl Try.func32 (by kernel_rfl) rfl #[.agg #[.slice A0_0 l0_0.length c0_0, .slice A0_1 l0_1.length c0_1, .int .i64 a0_2]] rfl KL ?_; (with_reducible refine (impl_StoreOk.calls k _ _ l0_0 _ _ l0_1 a0_2 true _ ?side1 ?side2 ?side3 ?side4 A6.out).mono ?_); (case side1 => exact KD (Kd.C_below HR0_0.out HB.out)); (case side2 => exact HC0_0.out); (case side3 => exact KD (Kd.C_below HR0_1.out HB.out)); (case side4 => exact HC0_1.out); rintro e w11 ⟨rfl, hb⟩; refine ⟨_, rfl, ?_⟩; have h_ := P3 (BL BK563.out hb) (BL BK564.out hb) (below_step KB hb); clear BK563 BK564 HB; obtain ⟨BK563, BK564, HB⟩ := h_; (try clear hb); (try clear hk); (try clear hi)) | (go_at_call 63; (with_reducible refine (impl_within.calls a1 0 1048575 t566 _ A8.out).mono ?_); rintro e w' ⟨rfl, ⟨nd, rfl⟩⟩))
   go_meet
   case rel => exact ⟨_, (!t566), (by first | rfl | (simp; done) | (simp [*]; done)), H', ⟨by first | omega | exact Nat.le_refl _⟩, ⟨KK⟩, ⟨KK⟩, ⟨KB⟩⟩
  ·replace c7 := Bool.eq_false_iff.mpr c7
   subst c7
   have H1 : (impl_StoreCrash.j0 k a1 true l0_0 l0_1 a0_2) = some (r1, r2, r3, r4) := by rw [if_neg (show ¬ (false = true) by decide)] at H; exact H
   clear H
   have H := H1
   clear H1
   have H' := Aside0.mk H
   clear H
   have hnb12 := NB563_564.out
   have hnc12 := NB564_563.out
   obtain ⟨hcz13_0, hcz13_1, hcz13_2, hfz13_0, hfz13_1, hfz13_2⟩ := C3 BK563.out
   go_wp2_with (first | ((with_reducible refine gate_callee (f := 32) rfl ?_); refine goesL_ (some 10) rfl rfl Try.func32 (by kernel_rfl) rfl #[.agg #[.slice A0_0 l0_0.length c0_0, .slice A0_1 l0_1.length c0_1, .int .i64 a0_2]] rfl KL ?_; (with_reducible refine (impl_StoreOk.calls k _ _ l0_0 _ _ l0_1 a0_2 false _ ?side1 ?side2 ?side3 ?side4 A6.out).mono ?_); (case side1 => exact KD (Kd.C_below HR0_0.out HB.out)); (case side2 => exact HC0_0.out); (case side3 => exact KD (Kd.C_below HR0_1.out HB.out)); (case side4 => exact HC0_1.out); rintro e w14 ⟨rfl, hb⟩; refine ⟨_, rfl, ?_⟩; have h_ := P3 (BL BK563.out hb) (BL BK564.out hb) (below_step KB hb); clear BK563 BK564 HB; obtain ⟨BK563, BK564, HB⟩ := h_; (try clear hb); (try clear hk); (try clear hi)))
   go_meet
   case rel => exact ⟨_, (true), (by first | rfl | (simp; done) | (simp [*]; done)), H', ⟨by first | omega | exact Nat.le_refl _⟩, ⟨KK⟩, ⟨KK⟩, ⟨KB⟩⟩
 case rest =>
  clear HC3
  try clear c1
  try clear c2
  try clear p2
  try clear c3
  try clear c7
  try clear c9
  try clear c12
  try clear hcz10_0
  try clear hcz10_1
  try clear hcz10_2
  try clear hcz13_0
  try clear hcz13_1
  try clear hcz13_2
  try clear hfz10_0
  try clear hfz10_1
  try clear hfz10_2
  try clear hfz13_0
  try clear hfz13_1
  try clear hfz13_2
  obtain ⟨kq, x16_2, rfl, HA, HJ2, BK563, BK564, HB⟩ := hcut
  cases kq with
  | zero => exact absurd HA.out (by simp [impl_StoreCrash.j0])
  | succ kj2 =>
   have H := HA.out
   clear HA
   simp only [impl_StoreCrash.j0] at H
   by_cases c15 : x16_2 = true
   ·subst c15
    have H1 : ((impl_storeAsWas.f kj2 l0_0 l0_1 a0_2).bind fun bt567 => (some (bt567.1, bt567.2.1, bt567.2.2, false))) = some (r1, r2, r3, r4) := by rw [if_pos rfl] at H; exact H
    clear H
    have H := H1
    clear H1
    replace H := Option.bind_eq_some_iff.mp H
    obtain ⟨⟨t567, t570, t573⟩, A160, H⟩ := H
    replace H : (some (t567, t570, t573, false)) = some (r1, r2, r3, r4) := H
    have A16 := Aside0.mk A160
    clear A160
    simp only [Option.some.injEq, Prod.mk.injEq] at H
    obtain ⟨rfl, rfl, rfl, rfl⟩ := H
    have hnb17 := NB563_564.out
    have hnc17 := NB564_563.out
    obtain ⟨hcz18_0, hcz18_1, hcz18_2, hfz18_0, hfz18_1, hfz18_2⟩ := C3 BK563.out
    go_wp2_with (first | ((with_reducible refine gate_callee (f := 46) rfl ?_); refine goesL_ (some 18) rfl rfl Try.func46 (by kernel_rfl) rfl #[.agg #[.slice A0_0 l0_0.length c0_0, .slice A0_1 l0_1.length c0_1, .int .i64 a0_2]] rfl KL ?_; (with_reducible refine (impl_storeAsWas.calls kj2 _ _ l0_0 _ _ l0_1 a0_2 t567 t570 t573 _ ?side1 ?side2 ?side3 ?side4 A16.out).mono ?_); (case side1 => exact KD (Kd.C_below HR0_0.out HB.out)); (case side2 => exact HC0_0.out); (case side3 => exact KD (Kd.C_below HR0_1.out HB.out)); (case side4 => exact HC0_1.out); rintro e w19 ⟨v568, v571, rfl, ho0, ho1, hb⟩; refine ⟨_, rfl, ?_⟩; have h_ := P5 (Kd.R_lower ho0 (below_size KB)) (Kd.R_lower ho1 (below_size KB)) (BL BK563.out hb) (BL BK564.out hb) (below_step KB hb); clear BK563 BK564 HB; obtain ⟨HO569, HO572, BK563, BK564, HB⟩ := h_; (try clear hb); (try clear hk); (try clear hi); (try clear ho0); (try clear ho1); obtain ⟨Ao20, co20, eo20⟩ := Kd.R_slice HO569.out; subst eo20; obtain ⟨hcz21_0, hcz21_1, hcz21_2, hfz21_0, hfz21_1, hfz21_2⟩ := C3 BK564.out; obtain ⟨Ao22, co22, eo22⟩ := Kd.R_slice HO572.out; subst eo22))
    refine bodyPost_ret (results_ct rfl _ _ gb564 31 #[.slice Ao20 t567.length co20, .slice Ao22 t570.length co22, .int .i64 t573] (0, 0) _ rfl (by refine SK ?_; refine blk_put (cs := #[.slice Ao20 t567.length co20, .slice Ao22 t570.length co22, .int .i64 0]) ?_ 2 _ rfl; refine SK ?_; refine blk_put (cs := #[.slice Ao20 t567.length co20, .slice none 0 0, .int .i64 0]) ?_ 1 _ rfl; refine SK ?_; refine blk_put (cs := #[.slice none 0 0, .slice none 0 0, .int .i64 0]) ?_ 0 _ rfl; exact SK BK564.out) Try.underlying31 rfl (by kernel_rfl)) rfl ?_
    exact ⟨_, _, KE, RQ (RT HO569.out BK564.out), RQ (RT HO572.out BK564.out), KB⟩
   ·replace c15 := Bool.eq_false_iff.mpr c15
    subst c15
    have H1 : ((impl_copyStore.f l0_0 l0_1 a0_2).bind fun bt574 => (impl_StoreCrash.l0 kj2 a1 l0_1 (l0_1.length : Int) 0 l0_0 l0_1 a0_2 bt574.1 bt574.2.2)) = some (r1, r2, r3, r4) := by rw [if_neg (show ¬ (false = true) by decide)] at H; exact H
    clear H
    have H := H1
    clear H1
    replace H := Option.bind_eq_some_iff.mp H
    obtain ⟨⟨t574, t577, t580⟩, A230, H⟩ := H
    replace H : (impl_StoreCrash.l0 kj2 a1 l0_1 (l0_1.length : Int) 0 l0_0 l0_1 a0_2 t574 t580) = some (r1, r2, r3, r4) := H
    have A23 := Aside0.mk A230
    clear A230
    have H' := Aside0.mk H
    clear H
    have hnb24 := NB563_564.out
    have hnc24 := NB564_563.out
    obtain ⟨hcz25_0, hcz25_1, hcz25_2, hfz25_0, hfz25_1, hfz25_2⟩ := C3 BK563.out
    go_wp2_with (first | ((with_reducible refine gate_callee (f := 47) rfl ?_); refine goesL_ (some 20) rfl rfl Try.func47 (by kernel_rfl) rfl #[.agg #[.slice A0_0 l0_0.length c0_0, .slice A0_1 l0_1.length c0_1, .int .i64 a0_2]] rfl KL ?_; (with_reducible refine (impl_copyStore.calls _ _ l0_0 _ _ l0_1 a0_2 t574 t577 t580 _ ?side1 ?side2 ?side3 ?side4 A23.out).mono ?_); (case side1 => exact KD (Kd.C_below HR0_0.out HB.out)); (case side2 => exact HC0_0.out); (case side3 => exact KD (Kd.C_below HR0_1.out HB.out)); (case side4 => exact HC0_1.out); rintro e w26 ⟨v575, v578, rfl, ho0, ho1, hb⟩; refine ⟨_, rfl, ?_⟩; have h_ := P5 (Kd.R_lower ho0 (below_size KB)) (Kd.R_lower ho1 (below_size KB)) (BL BK563.out hb) (BL BK564.out hb) (below_step KB hb); clear BK563 BK564 HB; obtain ⟨HO576, HO579, BK563, BK564, HB⟩ := h_; (try clear hb); (try clear hk); (try clear hi); (try clear ho0); (try clear ho1)) | ((with_reducible refine gate_dst (N := 6) rfl ?_); refine BE 6 #[.slice none 0 0, .slice none 0 0, .int .i64 0] 31 ?_; intro gb581 hg w27 hbox hb; have h_ := P12 (Kd.R_below (KR HO576.out) hb) (Kd.R_below (KR HO579.out) hb) (BL BK563.out hb) (BL BK564.out hb) (below_step KB hb) hbox (KG hg : w.heap.size ≤ gb581) (KG hg : w.heap.size ≤ gb581) (NX hg BK563.out) (Ne.symm (NX hg BK563.out)) (NX hg BK564.out) (Ne.symm (NX hg BK564.out)); clear HO576 HO579 BK563 BK564 HB; obtain ⟨HO576, HO579, BK563, BK564, HB, BK581, GW581, GE581, NB563_581, NB581_563, NB564_581, NB581_564⟩ := h_; clear hb hbox hg; obtain ⟨Ao28, co28, eo28⟩ := Kd.R_slice HO576.out; subst eo28; have hnb29 := NB581_563.out; have hnc29 := NB563_581.out; have hnb30 := NB581_564.out; have hnc30 := NB564_581.out; obtain ⟨hcz31_0, hcz31_1, hcz31_2, hfz31_0, hfz31_1, hfz31_2⟩ := C3 BK581.out; obtain ⟨Ao32, co32, eo32⟩ := Kd.R_slice HO579.out; subst eo32; obtain ⟨hcz33_0, hcz33_1, hcz33_2, hfz33_0, hfz33_1, hfz33_2⟩ := C3 BK563.out))
    go_loopg [25] kj2 (fun kq v25 w' => ∃ (x25_2 : Int) (x582000_2 : List (S35)) (u582000 : Value), v25 = .int .i64 x25_2 ∧ Aside0 (impl_StoreCrash.l0 kq a1 l0_1 (l0_1.length : Int) x25_2 l0_0 l0_1 a0_2 x582000_2 t580 = some (r1, r2, r3, r4)) ∧ Aside0 (kq ≤ kj2) ∧ Aside0 (Kd.R k35 35 w' w.heap.size (fun _ => True) u582000 x582000_2) ∧ Aside0 (w'.heap[gb563]? = some (.cells #[(.slice A0_0 l0_0.length c0_0), (.slice A0_1 l0_1.length c0_1), .int .i64 a0_2] 31 (0, 0))) ∧ Aside0 (w'.heap[gb564]? = some (.cells #[(.slice none 0 0), (.slice none 0 0), .int .i64 0] 31 (0, 0))) ∧ Aside0 (w'.heap[gb581]? = some (.cells #[u582000, (.slice none 0 0), .int .i64 t580] 31 (0, 0))) ∧ Aside0 (Below w.heap.size w w'))
    case atStart => exact ⟨(0), (t574), (.slice Ao28 t574.length co28), (by first | rfl | (simp; done) | (simp [*]; done)), H', ⟨Nat.le_refl _⟩, ⟨by (with_reducible repeat (first | apply Kd.R_alloc | apply Kd.R_drewN | apply Kd.R_drew)); exact Kd.R_mono (Kd.R_far (p := ⟨gb581, 1, none⟩) (Kd.R_far (p := ⟨gb581, 2, none⟩) (Kd.R_far (p := ⟨gb581, 1, none⟩) (Kd.R_far (p := ⟨gb581, 0, none⟩) (RT HO576.out BK581.out) (fun _ hk => hk.2) (.slice Ao28 t574.length co28)) (fun _ hk => hk.2) (.slice Ao32 t577.length co32)) (fun _ hk => hk.2) (.int .i64 t580)) (fun _ hk => hk.2) (.slice none 0 0)) (fun _ hk => trivial)⟩, ⟨KK⟩, ⟨KK⟩, ⟨by refine SK ?_; refine blk_put (cs := #[.slice Ao28 t574.length co28, .slice Ao32 t577.length co32, .int .i64 t580]) ?_ 1 _ rfl; refine SK ?_; refine blk_put (cs := #[.slice Ao28 t574.length co28, .slice Ao32 t577.length co32, .int .i64 0]) ?_ 2 _ rfl; refine SK ?_; refine blk_put (cs := #[.slice Ao28 t574.length co28, .slice none 0 0, .int .i64 0]) ?_ 1 _ rfl; refine SK ?_; refine blk_put (cs := #[.slice none 0 0, .slice none 0 0, .int .i64 0]) ?_ 0 _ rfl; exact SK BK581.out⟩, ⟨KB⟩⟩
    case round =>
     clear H'
     try clear c1
     try clear c2
     try clear p2
     try clear c3
     try clear c4
     try clear c7
     try clear c9
     try clear c12
     try clear c15
     try clear c17
     try clear c24
     try clear c29
     try clear c30
     try clear c32
     try clear hcz10_0
     try clear hcz10_1
     try clear hcz10_2
     try clear hcz13_0
     try clear hcz13_1
     try clear hcz13_2
     try clear hcz18_0
     try clear hcz18_1
     try clear hcz18_2
     try clear hcz21_0
     try clear hcz21_1
     try clear hcz21_2
     try clear hcz25_0
     try clear hcz25_1
     try clear hcz25_2
     try clear hcz31_0
     try clear hcz31_1
     try clear hcz31_2
     try clear hcz33_0
     try clear hcz33_1
     try clear hcz33_2
     try clear hfz10_0
     try clear hfz10_1
     try clear hfz10_2
     try clear hfz13_0
     try clear hfz13_1
     try clear hfz13_2
     try clear hfz18_0
     try clear hfz18_1
     try clear hfz18_2
     try clear hfz21_0
     try clear hfz21_1
     try clear hfz21_2
     try clear hfz25_0
     try clear hfz25_1
     try clear hfz25_2
     try clear hfz31_0
     try clear hfz31_1
     try clear hfz31_2
     try clear hfz33_0
     try clear hfz33_1
     try clear hfz33_2
     try clear p2
     obtain ⟨x25_2, x582000_2, u582000, rfl, HA, HK2, HO_582000, BK563, BK564, BK581, HB⟩ := hrel
     cases gk with
     | zero => exact absurd HA.out (by simp [impl_StoreCrash.l0])
     | succ k2 =>
      have H := HA.out
      clear HA
      simp only [impl_StoreCrash.l0] at H
      by_cases c34 : x25_2 < (l0_1.length : Int)
      ·rw [if_pos c34] at H
       have c34b0 : decide (x25_2 < (l0_1.length : Int)) = true := decide_eq_true c34
       clear c34
       by_cases c35 : 0 ≤ x25_2
       ·rw [if_pos c35] at H
        have c35b0 : decide (0 ≤ x25_2) = true := decide_eq_true c35
        clear c35
        by_cases c36 : x25_2 < (l0_1.length : Int)
        ·rw [if_pos c36] at H
         have c36b0 : decide (x25_2 < (l0_1.length : Int)) = true := decide_eq_true c36
         clear c36
         have c37b0 := eq_true (of_decide_eq_true (by first | (with_reducible assumption) | assumption) : 0 ≤ x25_2)
         obtain ⟨ji38, hji38⟩ : ∃ j_ : Int, (shr .i64 a1 x25_2) = j_ := ⟨_, rfl⟩
         replace H : (if (Go.bits .and .i64 (ji38) 1) = 1 then ((impl_kept.f x582000_2 ((rd_T35 l0_1 x25_2).f0) ((rd_T35 l0_1 x25_2).f1) ((rd_T35 l0_1 x25_2).f2) ((rd_T35 l0_1 x25_2).f3)).bind fun t584 => (impl_StoreCrash.l0 k2 a1 l0_1 (l0_1.length : Int) (wrap64 (x25_2 + 1)) l0_0 l0_1 a0_2 t584 t580)) else (impl_StoreCrash.l0 k2 a1 l0_1 (l0_1.length : Int) (wrap64 (x25_2 + 1)) l0_0 l0_1 a0_2 x582000_2 t580)) = some (r1, r2, r3, r4) := by first | (rw [hji38] at H; exact H) | (simp only [hji38] at H ⊢; exact H)
         have hji38_ : (a1 / 2 ^ min x25_2.toNat 64) = ji38 := hji38
         have hji38z : x25_2 ≤ 64 → (a1 / 2 ^ x25_2.toNat) = ji38 := shr_small hji38
         by_cases c39 : (Go.bits .and .i64 (ji38) 1) = 1
         ·rw [if_pos c39] at H
          have c39b0 : ((Go.bits .and .i64 (ji38) 1) == 1) = true := beq_iff_eq.mpr c39
          have c39b1 : ((Go.bits .and .i64 (ji38) 1) != 1) = false := bne_eq_false_iff_eq.mpr c39
          clear c39
          replace H := Option.bind_eq_some_iff.mp H
          obtain ⟨t584, A400, H⟩ := H
          replace H : (impl_StoreCrash.l0 k2 a1 l0_1 (l0_1.length : Int) (wrap64 (x25_2 + 1)) l0_0 l0_1 a0_2 t584 t580) = some (r1, r2, r3, r4) := H
          have A40 := Aside0.mk A400
          clear A400
          have H' := Aside0.mk H
          clear H
          have p582 : 0 ≤ (x25_2 : Int) := of_decide_eq_true (by first | (with_reducible assumption) | assumption)
          have q582 : x25_2 < (l0_1.length : Int) := of_decide_eq_true (by first | (with_reducible assumption) | assumption)
          obtain ⟨ad582, e582, hx582_0, hx582_1, hx582_2, hx582_3⟩ := at_T35 HR0_1.out x25_2 p582 q582
          cases e582
          replace hx582_0 := (HB.out.cell (World.block_lt_of_cell? w _ hx582_0)).trans hx582_0
          replace hx582_1 := (HB.out.cell (World.block_lt_of_cell? w _ hx582_1)).trans hx582_1
          replace hx582_2 := (HB.out.cell (World.block_lt_of_cell? w _ hx582_2)).trans hx582_2
          replace hx582_3 := (HB.out.cell (World.block_lt_of_cell? w _ hx582_3)).trans hx582_3
          replace p582 := eq_true p582
          replace q582 := eq_true q582
          go_wp2_with (first | ((with_reducible refine gate_dst (N := 8) rfl ?_); refine BE 8 #[.int .i64 0, .int .i64 0, .bool false, .string (⟨#[]⟩ : ByteArray)] 35 ?_; intro gb583 hg w41 hbox hb; have h_ := P14 (Kd.R_below (Kd.R_elderB (KR HO_582000.out) gb583 (Nat.le_of_eq hg.symm)) hb) (BL BK563.out hb) (BL BK564.out hb) (BL BK581.out hb) (below_step KB hb) hbox (KG hg : w.heap.size ≤ gb583) (KG hg : w.heap.size ≤ gb583) (NX hg BK563.out) (Ne.symm (NX hg BK563.out)) (NX hg BK564.out) (Ne.symm (NX hg BK564.out)) (NX hg BK581.out) (Ne.symm (NX hg BK581.out)); clear HO_582000 BK563 BK564 BK581 HB; obtain ⟨HO_582000, BK563, BK564, BK581, HB, BK583, GW583, GE583, NB563_583, NB583_563, NB564_583, NB583_564, NB581_583, NB583_581⟩ := h_; clear hb hbox hg; have hnb42 := NB583_563.out; have hnc42 := NB563_583.out; have hnb43 := NB583_564.out; have hnc43 := NB564_583.out; have hnb44 := NB583_581.out; have hnc44 := NB581_583.out; obtain ⟨hcz45_0, hcz45_1, hcz45_2, hcz45_3, hfz45_0, hfz45_1, hfz45_2, hfz45_3⟩ := C4 BK583.out) | ((with_reducible refine gate_store (t := 35) (p := 8) rfl ?_); refine store_event (t := 35) (p := 8) (v := ?vo_w46) (w1 := ((((w41.setCell ⟨gb583, 0, none⟩ (.int .i64 ((rd_T35 l0_1 x25_2).f0))).setCell ⟨gb583, 1, none⟩ (.int .i64 ((rd_T35 l0_1 x25_2).f1))).setCell ⟨gb583, 2, none⟩ (.bool ((rd_T35 l0_1 x25_2).f2))).setCell ⟨gb583, 3, none⟩ (.string ((rd_T35 l0_1 x25_2).f3)))) ?hg ?ho ?hn ?hr ?_; (case ho => rfl); (case hg => rfl); (case hn => rfl); (case hr => first | (go_simp; done) | (go_simp; rfl)); intro w46 hw; have n0_ : Aside0 (Kd.R k35 35 w46 w.heap.size (fun k_ => k_ ≠ gb583) u582000 x582000_2) := ⟨(by rw [hw]; exact (RQ (Kd.R_mono HO_582000.out (fun k_ hk => (⟨hk, hk.2⟩ : _ ∧ k_ ≠ gb583))) (hm := fun _ h => h.1.2)))⟩; have n1_ : Aside0 (w46.heap[gb563]? = some (.cells #[.slice A0_0 l0_0.length c0_0, .slice (some ad582) l0_1.length c0_1, .int .i64 a0_2] 31 (0, 0))) := ⟨(by rw [hw]; exact KK)⟩; have n2_ : Aside0 (w46.heap[gb564]? = some (.cells #[.slice none 0 0, .slice none 0 0, .int .i64 0] 31 (0, 0))) := ⟨(by rw [hw]; exact KK)⟩; have n3_ : Aside0 (w46.heap[gb581]? = some (.cells #[u582000, .slice none 0 0, .int .i64 t580] 31 (0, 0))) := ⟨(by rw [hw]; exact KK)⟩; have n4_ : Aside0 (w46.heap[gb583]? = some (.cells #[.int .i64 ((rd_T35 l0_1 x25_2).f0), .int .i64 ((rd_T35 l0_1 x25_2).f1), .bool ((rd_T35 l0_1 x25_2).f2), .string ((rd_T35 l0_1 x25_2).f3)] 35 (0, 0))) := ⟨(by rw [hw]; exact (by refine SK ?_; refine blk_put (cs := #[.int .i64 ((rd_T35 l0_1 x25_2).f0), .int .i64 ((rd_T35 l0_1 x25_2).f1), .bool ((rd_T35 l0_1 x25_2).f2), .string (⟨#[]⟩ : ByteArray)]) ?_ 3 _ rfl; refine SK ?_; refine blk_put (cs := #[.int .i64 ((rd_T35 l0_1 x25_2).f0), .int .i64 ((rd_T35 l0_1 x25_2).f1), .bool false, .string (⟨#[]⟩ : ByteArray)]) ?_ 2 _ rfl; refine SK ?_; refine blk_put (cs := #[.int .i64 ((rd_T35 l0_1 x25_2).f0), .int .i64 0, .bool false, .string (⟨#[]⟩ : ByteArray)]) ?_ 1 _ rfl; refine SK ?_; refine blk_put (cs := #[.int .i64 0, .int .i64 0, .bool false, .string (⟨#[]⟩ : ByteArray)]) ?_ 0 _ rfl; exact SK BK583.out))⟩; have n5_ : Aside0 (Below w.heap.size w w46) := ⟨(by rw [hw]; exact KB)⟩; clear hw; clear HO_582000; clear BK563; clear BK564; clear BK581; clear BK583; clear HB; have HO_582000 := n0_; have BK563 := n1_; have BK564 := n2_; have BK581 := n3_; have BK583 := n4_; have HB := n5_; clear n0_ n1_ n2_ n3_ n4_ n5_; have hnb47 := NB581_563.out; have hnc47 := NB563_581.out; have hnb48 := NB581_564.out; have hnc48 := NB564_581.out; obtain ⟨hcz49_0, hcz49_1, hcz49_2, hfz49_0, hfz49_1, hfz49_2⟩ := C3 BK581.out; obtain ⟨hcz50_0, hcz50_1, hcz50_2, hcz50_3, hfz50_0, hfz50_1, hfz50_2, hfz50_3⟩ := C4 BK583.out; obtain ⟨Ao51, co51, eo51⟩ := Kd.R_slice HO_582000.out; subst eo51) | ((with_reducible refine gate_callee (f := 64) rfl ?_); refine goesL_ (some 38) rfl rfl Try.func64 (by kernel_rfl) rfl #[.slice Ao51 x582000_2.length co51, .agg #[.int .i64 ((rd_T35 l0_1 x25_2).f0), .int .i64 ((rd_T35 l0_1 x25_2).f1), .bool ((rd_T35 l0_1 x25_2).f2), .string ((rd_T35 l0_1 x25_2).f3)]] rfl KL ?_; (with_reducible refine (impl_kept.calls (fun k_ => some k_ = (.slice Ao51 x582000_2.length co51 : Value).ownBlock) (.slice Ao51 x582000_2.length co51) x582000_2 ((rd_T35 l0_1 x25_2).f0) ((rd_T35 l0_1 x25_2).f1) ((rd_T35 l0_1 x25_2).f2) ((rd_T35 l0_1 x25_2).f3) t584 w _ ?side1 ?side2 A40.out).mono ?_); (case side1 => exact KB); (case side2 => exact Kd.R_tight rfl HO_582000.out); rintro e w52 ⟨v585, rfl, ho0, hb, hkp⟩; refine ⟨_, rfl, ?_⟩; have h_ := P6 (blk_kept KK hkp (fun hs_ => (fun e_ => (Kd.R_ne HO_582000.out BK563.out (by decide)) e_) hs_)) (blk_kept KK hkp (fun hs_ => (fun e_ => (Kd.R_ne HO_582000.out BK564.out (by decide)) e_) hs_)) (blk_kept KK hkp (fun hs_ => (fun e_ => (Kd.R_ne HO_582000.out BK581.out (by decide)) e_) hs_)) (blk_kept KK hkp (fun hs_ => (fun e_ => (Kd.R_away HO_582000.out (fun _ hk => hk)) e_) hs_)) (Kd.R_mono (ok' := fun k_ => k_ ≠ gb583) ho0 (fun k_ hk_ => Or.elim hk_ (fun hs_ => fun e_ => (Kd.R_away HO_582000.out (fun _ hk => hk)) (by rw [← e_]; exact hs_)) (fun hn_ => (Kd.freshB (g := gb583) (o := .cells #[.int .i64 ((rd_T35 l0_1 x25_2).f0), .int .i64 ((rd_T35 l0_1 x25_2).f1), .bool ((rd_T35 l0_1 x25_2).f2), .string ((rd_T35 l0_1 x25_2).f3)] 35 (0, 0)) KK k_ hn_)))) hb; clear BK563 BK564 BK581 BK583 HB HO_582000; obtain ⟨BK563, BK564, BK581, BK583, HO586, HB⟩ := h_; (try clear hb); (try clear hkp); (try clear ho0); obtain ⟨Ao53, co53, eo53⟩ := Kd.R_slice HO586.out; subst eo53; obtain ⟨hcz54_0, hcz54_1, hcz54_2, hfz54_0, hfz54_1, hfz54_2⟩ := C3 BK581.out))
          go_roundg k2
          case measure => have := HJ2.out; have := HK2.out; omega
          case rel => exact ⟨(wrap64 (x25_2 + 1)), (t584), (.slice Ao53 t584.length co53), (by first | rfl | (simp; done) | (simp [*]; done)), H', ⟨by have := HJ2.out; have := HK2.out; omega⟩, ⟨by (with_reducible repeat (first | apply Kd.R_alloc | apply Kd.R_drewN | apply Kd.R_drew)); exact Kd.R_mono (Kd.R_far (p := ⟨gb581, 0, none⟩) (RT HO586.out BK581.out) (fun _ hk => hk.2) (.slice Ao53 t584.length co53)) (fun _ hk => trivial)⟩, ⟨KK⟩, ⟨KK⟩, ⟨by refine SK ?_; refine blk_put (cs := #[.slice Ao51 x582000_2.length co51, .slice none 0 0, .int .i64 t580]) ?_ 0 _ rfl; exact SK BK581.out⟩, ⟨KB⟩⟩
         ·rw [if_neg c39] at H
          have c39b0 : ((Go.bits .and .i64 (ji38) 1) == 1) = false := beq_eq_false_iff_ne.mpr c39
          have c39b1 : ((Go.bits .and .i64 (ji38) 1) != 1) = true := bne_iff_ne.mpr c39
          have H' := Aside0.mk H
          clear H
          have p582 : 0 ≤ (x25_2 : Int) := of_decide_eq_true (by first | (with_reducible assumption) | assumption)
          have q582 : x25_2 < (l0_1.length : Int) := of_decide_eq_true (by first | (with_reducible assumption) | assumption)
          obtain ⟨ad582, e582, hx582_0, hx582_1, hx582_2, hx582_3⟩ := at_T35 HR0_1.out x25_2 p582 q582
          cases e582
          replace hx582_0 := (HB.out.cell (World.block_lt_of_cell? w _ hx582_0)).trans hx582_0
          replace hx582_1 := (HB.out.cell (World.block_lt_of_cell? w _ hx582_1)).trans hx582_1
          replace hx582_2 := (HB.out.cell (World.block_lt_of_cell? w _ hx582_2)).trans hx582_2
          replace hx582_3 := (HB.out.cell (World.block_lt_of_cell? w _ hx582_3)).trans hx582_3
          replace p582 := eq_true p582
          replace q582 := eq_true q582
          go_wp2_with (first | ((with_reducible refine gate_dst (N := 8) rfl ?_); refine BE 8 #[.int .i64 0, .int .i64 0, .bool false, .string (⟨#[]⟩ : ByteArray)] 35 ?_; intro gb583 hg w55 hbox hb; have h_ := P14 (Kd.R_below (Kd.R_elderB (KR HO_582000.out) gb583 (Nat.le_of_eq hg.symm)) hb) (BL BK563.out hb) (BL BK564.out hb) (BL BK581.out hb) (below_step KB hb) hbox (KG hg : w.heap.size ≤ gb583) (KG hg : w.heap.size ≤ gb583) (NX hg BK563.out) (Ne.symm (NX hg BK563.out)) (NX hg BK564.out) (Ne.symm (NX hg BK564.out)) (NX hg BK581.out) (Ne.symm (NX hg BK581.out)); clear HO_582000 BK563 BK564 BK581 HB; obtain ⟨HO_582000, BK563, BK564, BK581, HB, BK583, GW583, GE583, NB563_583, NB583_563, NB564_583, NB583_564, NB581_583, NB583_581⟩ := h_; clear hb hbox hg; have hnb56 := NB583_563.out; have hnc56 := NB563_583.out; have hnb57 := NB583_564.out; have hnc57 := NB564_583.out; have hnb58 := NB583_581.out; have hnc58 := NB581_583.out; obtain ⟨hcz59_0, hcz59_1, hcz59_2, hcz59_3, hfz59_0, hfz59_1, hfz59_2, hfz59_3⟩ := C4 BK583.out))
          go_roundg k2
          case measure => have := HJ2.out; have := HK2.out; omega
          case rel => exact ⟨(wrap64 (x25_2 + 1)), (x582000_2), (u582000), (by first | rfl | (simp; done) | (simp [*]; done)), H', ⟨by have := HJ2.out; have := HK2.out; omega⟩, ⟨by (with_reducible repeat (first | apply Kd.R_alloc | apply Kd.R_drewN | apply Kd.R_drew)); exact Kd.R_mono (Kd.R_far (p := ⟨gb583, 3, none⟩) (Kd.R_far (p := ⟨gb583, 2, none⟩) (Kd.R_far (p := ⟨gb583, 1, none⟩) (Kd.R_far (p := ⟨gb583, 0, none⟩) (Kd.R_mono HO_582000.out (fun k_ hk => (⟨hk, hk.2⟩ : _ ∧ k_ ≠ gb583))) (fun _ hk => hk.2) (.int .i64 ((rd_T35 l0_1 x25_2).f0))) (fun _ hk => hk.2) (.int .i64 ((rd_T35 l0_1 x25_2).f1))) (fun _ hk => hk.2) (.bool ((rd_T35 l0_1 x25_2).f2))) (fun _ hk => hk.2) (.string ((rd_T35 l0_1 x25_2).f3))) (fun _ hk => trivial)⟩, ⟨KK⟩, ⟨KK⟩, ⟨KK⟩, ⟨KB⟩⟩
        ·rw [if_neg c36] at H
         exact absurd H (by simp)
       ·rw [if_neg c35] at H
        exact absurd H (by simp)
      ·rw [if_neg c34] at H
       have c34b0 : decide (x25_2 < (l0_1.length : Int)) = false := decide_eq_false c34
       clear c34
       by_cases c60 : (x582000_2.length : Int) > 200
       ·rw [if_pos c60] at H
        have c60b0 : decide (200 < (x582000_2.length : Int)) = true := decide_eq_true c60
        have c60b1 : decide (200 < x582000_2.length) = true := decide_eq_true (by omega)
        clear c60
        replace H := Option.bind_eq_some_iff.mp H
        obtain ⟨⟨t587, t590, t593⟩, A610, H⟩ := H
        replace H : (some (t587, t590, t593, false)) = some (r1, r2, r3, r4) := H
        have A61 := Aside0.mk A610
        clear A610
        simp only [Option.some.injEq, Prod.mk.injEq] at H
        obtain ⟨rfl, rfl, rfl, rfl⟩ := H
        have hnb62 := NB581_563.out
        have hnc62 := NB563_581.out
        have hnb63 := NB581_564.out
        have hnc63 := NB564_581.out
        obtain ⟨hcz64_0, hcz64_1, hcz64_2, hfz64_0, hfz64_1, hfz64_2⟩ := C3 BK581.out
        obtain ⟨Ao65, co65, eo65⟩ := Kd.R_slice HO_582000.out
        subst eo65
        have hnb66 := NB563_564.out
        have hnc66 := NB564_563.out
        obtain ⟨hcz67_0, hcz67_1, hcz67_2, hfz67_0, hfz67_1, hfz67_2⟩ := C3 BK563.out
        go_wp2_with (first | ((with_reducible refine gate_callee (f := 47) rfl ?_); refine goesL_ (some 46) rfl rfl Try.func47 (by kernel_rfl) rfl #[.agg #[.slice A0_0 l0_0.length c0_0, .slice A0_1 l0_1.length c0_1, .int .i64 a0_2]] rfl KL ?_; (with_reducible refine (impl_copyStore.calls _ _ l0_0 _ _ l0_1 a0_2 t587 t590 t593 _ ?side1 ?side2 ?side3 ?side4 A61.out).mono ?_); (case side1 => exact KD (Kd.C_below HR0_0.out HB.out)); (case side2 => exact HC0_0.out); (case side3 => exact KD (Kd.C_below HR0_1.out HB.out)); (case side4 => exact HC0_1.out); rintro e w68 ⟨v588, v591, rfl, ho0, ho1, hb⟩; refine ⟨_, rfl, ?_⟩; have h_ := P7 (Kd.R_mono (Kd.R_told (Kd.R_told (Kd.R_old (KR HO_582000.out) hb) (Kd.R_base ho0)) (Kd.R_base ho1)) (fun _ h_ => h_.1)) (Kd.R_lower (Kd.R_new' ho0 (Kd.R_lt (KR HO_582000.out))) (below_size KB)) (Kd.R_lower (Kd.R_new' ho1 (Kd.R_lt (KR HO_582000.out))) (below_size KB)) (BL BK563.out hb) (BL BK564.out hb) (BL BK581.out hb) (below_step KB hb); clear HO_582000 BK563 BK564 BK581 HB; obtain ⟨HO_582000, HO589, HO592, BK563, BK564, BK581, HB⟩ := h_; (try clear hb); (try clear hk); (try clear hi); (try clear ho0); (try clear ho1); obtain ⟨Ao69, co69, eo69⟩ := Kd.R_slice HO589.out; subst eo69; obtain ⟨hcz70_0, hcz70_1, hcz70_2, hfz70_0, hfz70_1, hfz70_2⟩ := C3 BK564.out; obtain ⟨Ao71, co71, eo71⟩ := Kd.R_slice HO592.out; subst eo71))
        refine bodyPost_ret (results_ct rfl _ _ gb564 31 #[.slice Ao69 t587.length co69, .slice Ao71 t590.length co71, .int .i64 t593] (0, 0) _ rfl (by refine SK ?_; refine blk_put (cs := #[.slice Ao69 t587.length co69, .slice Ao71 t590.length co71, .int .i64 0]) ?_ 2 _ rfl; refine SK ?_; refine blk_put (cs := #[.slice Ao69 t587.length co69, .slice none 0 0, .int .i64 0]) ?_ 1 _ rfl; refine SK ?_; refine blk_put (cs := #[.slice none 0 0, .slice none 0 0, .int .i64 0]) ?_ 0 _ rfl; exact SK BK564.out) Try.underlying31 rfl (by kernel_rfl)) rfl ?_
        exact ⟨_, _, KE, RQ (RT HO589.out BK564.out) (hm := fun _ h => h.1.1), RQ (RT HO592.out BK564.out) (hm := fun _ h => h.1.1), KB⟩
       ·rw [if_neg c60] at H
        have c60b0 : decide (200 < (x582000_2.length : Int)) = false := decide_eq_false c60
        have c60b1 : decide (200 < x582000_2.length) = false := decide_eq_false (by omega)
        clear c60
        simp only [Option.some.injEq, Prod.mk.injEq] at H
        obtain ⟨rfl, rfl, rfl, rfl⟩ := H
        have hnb72 := NB581_563.out
        have hnc72 := NB563_581.out
        have hnb73 := NB581_564.out
        have hnc73 := NB564_581.out
        obtain ⟨hcz74_0, hcz74_1, hcz74_2, hfz74_0, hfz74_1, hfz74_2⟩ := C3 BK581.out
        obtain ⟨Ao75, co75, eo75⟩ := Kd.R_slice HO_582000.out
        subst eo75
        have hnb76 := NB564_563.out
        have hnc76 := NB563_564.out
        obtain ⟨hcz77_0, hcz77_1, hcz77_2, hfz77_0, hfz77_1, hfz77_2⟩ := C3 BK564.out
        go_wp2
        refine bodyPost_ret (results_ct rfl _ _ gb564 31 #[.slice Ao75 x582000_2.length co75, .slice none 0 0, .int .i64 t580] (0, 0) _ rfl (by refine SK ?_; refine blk_put (cs := #[.slice Ao75 x582000_2.length co75, .slice none 0 0, .int .i64 0]) ?_ 2 _ rfl; refine SK ?_; refine blk_put (cs := #[.slice Ao75 x582000_2.length co75, .slice none 0 0, .int .i64 0]) ?_ 1 _ rfl; refine SK ?_; refine blk_put (cs := #[.slice none 0 0, .slice none 0 0, .int .i64 0]) ?_ 0 _ rfl; exact SK BK564.out) Try.underlying31 rfl (by kernel_rfl)) rfl ?_
        exact ⟨_, _, KE, by (with_reducible repeat (first | apply Kd.R_alloc | apply Kd.R_drewN | apply Kd.R_drew)); exact Kd.R_mono (Kd.R_far (p := ⟨gb564, 2, none⟩) (Kd.R_far (p := ⟨gb564, 1, none⟩) (Kd.R_far (p := ⟨gb564, 0, none⟩) (RT HO_582000.out BK564.out) (fun _ hk => hk.2) (.slice Ao75 x582000_2.length co75)) (fun _ hk => hk.2) (.slice none 0 0)) (fun _ hk => hk.2) (.int .i64 t580)) (fun _ hk => (by simp [Value.ownBlock])), by first | exact Kd.R_nil _ _ _ _ _ | exact Kd.N_nil _ _ _ _ _ | exact Kd.V_nil _ _ _ _ _ | exact Kd.Q_nil _ _ _ _ _ | exact Kd.S_nil _ _ _ _ _, KB⟩

/-! ### spec_l6Get: function 67 -/
def spec_l6Get.l0 : Nat → List (S35) → Int → Int → Option (Int × Int × Bool × ByteArray × Bool)
 | 0, _, _, _ => none
 | k + 1, x0, x1, x6 => if x6 < (x0.length : Int) then (if 0 ≤ x6 then (if ((rd_T35 x0 x6).f0) = x1 then (some ((rd_T35 x0 x6).f0, (rd_T35 x0 x6).f1, (rd_T35 x0 x6).f2, (rd_T35 x0 x6).f3, true)) else (spec_l6Get.l0 k x0 x1 (wrap64 (x6 + 1)))) else (none)) else (some (0, 0, false, (⟨#[]⟩ : ByteArray), false))
def spec_l6Get.f (k : Nat) (l0 : List (S35)) (a1 : Int) : Option (Int × Int × Bool × ByteArray × Bool) := spec_l6Get.l0 k l0 a1 0
theorem spec_l6Get.mono_l : ∀ k, (∀ y0 y1 y2, LeO (spec_l6Get.l0 k y0 y1 y2) (spec_l6Get.l0 (k + 1) y0 y1 y2))
 | 0 => fun _ _ _ r h => by simp [spec_l6Get.l0] at h
 | k + 1 => by
  have ih0 := spec_l6Get.mono_l k
  ·intro y0 y1 y2
   unfold spec_l6Get.l0
   repeat' first
   | (with_reducible exact ih0 _ _ _)
   | (with_reducible exact LeO.refl _)
   | (with_reducible exact LeO.none _)
   | (with_reducible refine LeO.ite ?_ ?_)
   | (with_reducible refine LeO.bind ?_ (fun _ => ?_))
   | exact ih0 _ _ _
   | exact LeO.none _
   | refine LeO.ite ?_ ?_
   | refine LeO.bind ?_ (fun _ => ?_)
theorem spec_l6Get.mono : ∀ a0 a1 k, LeO (spec_l6Get.f k a0 a1) (spec_l6Get.f (k + 1) a0 a1) := by
 intro a0 a1 k
 have ih0 := spec_l6Get.mono_l k
 unfold spec_l6Get.f
 repeat' first
   | (with_reducible exact ih0 _ _ _)
   | (with_reducible exact LeO.refl _)
   | (with_reducible exact LeO.none _)
   | (with_reducible refine LeO.ite ?_ ?_)
   | (with_reducible refine LeO.bind ?_ (fun _ => ?_))
   | exact ih0 _ _ _
   | exact LeO.none _
   | refine LeO.ite ?_ ?_
   | refine LeO.bind ?_ (fun _ => ?_)
set_option maxHeartbeats 8000000 in
set_option maxRecDepth 100000 in
theorem spec_l6Get.calls (k : Nat) (A0 : Option Addr) (c0 : Nat) (l0 : List (S35)) (a1 : Int) (r1 : Int) (r2 : Int) (r3 : Bool) (r4 : ByteArray) (r5 : Bool) (w : World) (hr0 : Kd.C k35 w A0 l0.length l0) (hc0 : l0.length ≤ c0) (h : spec_l6Get.f k l0 a1 = some (r1, r2, r3, r4, r5)) :
  Calls Try.prog 67 #[.slice A0 l0.length c0, .int .i64 a1] w fun e w' => e = .returned (.tuple #[.agg #[.int .i64 r1, .int .i64 r2, .bool r3, .string r4], .bool r5]) ∧ Below w.heap.size w w' := by
 have hu35 := Try.underlying35
 have HR0 := Aside0.mk hr0
 have HC0 := Aside0.mk hc0
 clear hr0 hc0
 have HB := Aside0.mk (Below.refl w.heap.size w)
 have H : (spec_l6Get.l0 k l0 a1 0) = some (r1, r2, r3, r4, r5) := h
 clear h
 have H' := Aside0.mk H
 clear H
 go_enter Try.func67, Try.ntmps67
 go_wp2_with (first | ((with_reducible refine gate_dst (N := 4) rfl ?_); refine BE 4 #[.int .i64 0, .int .i64 0, .bool false, .string (⟨#[]⟩ : ByteArray)] 35 ?_; intro gb594 hg w3 hbox hb; have h_ := P4 (below_step KB hb) hbox (KG hg : w.heap.size ≤ gb594) (KG hg : w.heap.size ≤ gb594); clear HB; obtain ⟨HB, BK594, GW594, GE594⟩ := h_; clear hb hbox hg))
 go_loopg [6] k (fun kq v6 w' => ∃ (x6_1 : Int) (x595000_1 : Int) (x595001_1 : Int) (x595002_1 : Bool) (x595003_1 : ByteArray), v6 = .int .i64 x6_1 ∧ Aside0 (spec_l6Get.l0 kq l0 a1 x6_1 = some (r1, r2, r3, r4, r5)) ∧ Aside0 (kq ≤ k) ∧ Aside0 (w'.heap[gb594]? = some (.cells #[.int .i64 x595000_1, .int .i64 x595001_1, .bool x595002_1, .string x595003_1] 35 (0, 0))) ∧ Aside0 (Below w.heap.size w w'))
 case atStart => exact ⟨(0), (0), (0), (false), ((⟨#[]⟩ : ByteArray)), (by first | rfl | (simp; done) | (simp [*]; done)), H', ⟨Nat.le_refl _⟩, ⟨KK⟩, ⟨KB⟩⟩
 case round =>
  clear H'
  try clear p2
  obtain ⟨x6_1, x595000_1, x595001_1, x595002_1, x595003_1, rfl, HA, HK1, BK594, HB⟩ := hrel
  cases gk with
  | zero => exact absurd HA.out (by simp [spec_l6Get.l0])
  | succ k1 =>
   have H := HA.out
   clear HA
   simp only [spec_l6Get.l0] at H
   by_cases c4 : x6_1 < (l0.length : Int)
   ·rw [if_pos c4] at H
    have c4b0 : decide (x6_1 < (l0.length : Int)) = true := decide_eq_true c4
    clear c4
    by_cases c5 : 0 ≤ x6_1
    ·rw [if_pos c5] at H
     have c5b0 : decide (0 ≤ x6_1) = true := decide_eq_true c5
     clear c5
     by_cases c6 : ((rd_T35 l0 x6_1).f0) = a1
     ·rw [if_pos c6] at H
      have c6b0 : (((rd_T35 l0 x6_1).f0) == a1) = true := beq_iff_eq.mpr c6
      have c6b1 : (((rd_T35 l0 x6_1).f0) != a1) = false := bne_eq_false_iff_eq.mpr c6
      clear c6
      simp only [Option.some.injEq, Prod.mk.injEq] at H
      obtain ⟨rfl, rfl, rfl, rfl, rfl⟩ := H
      have p595 : 0 ≤ (x6_1 : Int) := of_decide_eq_true (by first | (with_reducible assumption) | assumption)
      have q595 : x6_1 < (l0.length : Int) := of_decide_eq_true (by first | (with_reducible assumption) | assumption)
      obtain ⟨ad595, e595, hx595_0, hx595_1, hx595_2, hx595_3⟩ := at_T35 HR0.out x6_1 p595 q595
      cases e595
      replace hx595_0 := (HB.out.cell (World.block_lt_of_cell? w _ hx595_0)).trans hx595_0
      replace hx595_1 := (HB.out.cell (World.block_lt_of_cell? w _ hx595_1)).trans hx595_1
      replace hx595_2 := (HB.out.cell (World.block_lt_of_cell? w _ hx595_2)).trans hx595_2
      replace hx595_3 := (HB.out.cell (World.block_lt_of_cell? w _ hx595_3)).trans hx595_3
      replace p595 := eq_true p595
      replace q595 := eq_true q595
      have p596 : 0 ≤ (x6_1 : Int) := of_decide_eq_true (by first | (with_reducible assumption) | assumption)
      have q596 : x6_1 < (l0.length : Int) := of_decide_eq_true (by first | (with_reducible assumption) | assumption)
      obtain ⟨ad596, e596, hx596_0, hx596_1, hx596_2, hx596_3⟩ := at_T35 HR0.out x6_1 p596 q596
      obtain rfl : ad595 = ad596 := (by injection e596)
      replace hx596_0 := (HB.out.cell (World.block_lt_of_cell? w _ hx596_0)).trans hx596_0
      replace hx596_1 := (HB.out.cell (World.block_lt_of_cell? w _ hx596_1)).trans hx596_1
      replace hx596_2 := (HB.out.cell (World.block_lt_of_cell? w _ hx596_2)).trans hx596_2
      replace hx596_3 := (HB.out.cell (World.block_lt_of_cell? w _ hx596_3)).trans hx596_3
      replace p596 := eq_true p596
      replace q596 := eq_true q596
      obtain ⟨hcz7_0, hcz7_1, hcz7_2, hcz7_3, hfz7_0, hfz7_1, hfz7_2, hfz7_3⟩ := C4 BK594.out
      go_wp2
      refine bodyPost_ret (results_ct rfl _ _ gb594 35 #[.int .i64 ((rd_T35 l0 x6_1).f0), .int .i64 ((rd_T35 l0 x6_1).f1), .bool ((rd_T35 l0 x6_1).f2), .string ((rd_T35 l0 x6_1).f3)] (0, 0) _ rfl (by refine SK ?_; refine blk_put (cs := #[.int .i64 ((rd_T35 l0 x6_1).f0), .int .i64 ((rd_T35 l0 x6_1).f1), .bool ((rd_T35 l0 x6_1).f2), .string x595003_1]) ?_ 3 _ rfl; refine SK ?_; refine blk_put (cs := #[.int .i64 ((rd_T35 l0 x6_1).f0), .int .i64 ((rd_T35 l0 x6_1).f1), .bool x595002_1, .string x595003_1]) ?_ 2 _ rfl; refine SK ?_; refine blk_put (cs := #[.int .i64 ((rd_T35 l0 x6_1).f0), .int .i64 x595001_1, .bool x595002_1, .string x595003_1]) ?_ 1 _ rfl; refine SK ?_; refine blk_put (cs := #[.int .i64 x595000_1, .int .i64 x595001_1, .bool x595002_1, .string x595003_1]) ?_ 0 _ rfl; exact SK BK594.out) Try.underlying35 rfl (by kernel_rfl)) rfl ?_
      exact ⟨KE, KB⟩
     ·rw [if_neg c6] at H
      have c6b0 : (((rd_T35 l0 x6_1).f0) == a1) = false := beq_eq_false_iff_ne.mpr c6
      have c6b1 : (((rd_T35 l0 x6_1).f0) != a1) = true := bne_iff_ne.mpr c6
      have H' := Aside0.mk H
      clear H
      have p595 : 0 ≤ (x6_1 : Int) := of_decide_eq_true (by first | (with_reducible assumption) | assumption)
      have q595 : x6_1 < (l0.length : Int) := of_decide_eq_true (by first | (with_reducible assumption) | assumption)
      obtain ⟨ad595, e595, hx595_0, hx595_1, hx595_2, hx595_3⟩ := at_T35 HR0.out x6_1 p595 q595
      cases e595
      replace hx595_0 := (HB.out.cell (World.block_lt_of_cell? w _ hx595_0)).trans hx595_0
      replace hx595_1 := (HB.out.cell (World.block_lt_of_cell? w _ hx595_1)).trans hx595_1
      replace hx595_2 := (HB.out.cell (World.block_lt_of_cell? w _ hx595_2)).trans hx595_2
      replace hx595_3 := (HB.out.cell (World.block_lt_of_cell? w _ hx595_3)).trans hx595_3
      replace p595 := eq_true p595
      replace q595 := eq_true q595
      go_wp2
      go_roundg k1
      case measure => have := HK1.out; omega
      case rel => exact ⟨(wrap64 (x6_1 + 1)), (x595000_1), (x595001_1), (x595002_1), (x595003_1), (by first | rfl | (simp; done) | (simp [*]; done)), H', ⟨by have := HK1.out; omega⟩, ⟨KK⟩, ⟨KB⟩⟩
    ·rw [if_neg c5] at H
     exact absurd H (by simp)
   ·rw [if_neg c4] at H
    have c4b0 : decide (x6_1 < (l0.length : Int)) = false := decide_eq_false c4
    clear c4
    simp only [Option.some.injEq, Prod.mk.injEq] at H
    obtain ⟨rfl, rfl, rfl, rfl, rfl⟩ := H
    obtain ⟨hcz8_0, hcz8_1, hcz8_2, hcz8_3, hfz8_0, hfz8_1, hfz8_2, hfz8_3⟩ := C4 BK594.out
    go_wp2
    refine bodyPost_ret (results_ct rfl _ _ gb594 35 #[.int .i64 0, .int .i64 0, .bool false, .string (⟨#[]⟩ : ByteArray)] (0, 0) _ rfl (by refine SK ?_; refine blk_put (cs := #[.int .i64 0, .int .i64 0, .bool false, .string x595003_1]) ?_ 3 _ rfl; refine SK ?_; refine blk_put (cs := #[.int .i64 0, .int .i64 0, .bool x595002_1, .string x595003_1]) ?_ 2 _ rfl; refine SK ?_; refine blk_put (cs := #[.int .i64 0, .int .i64 x595001_1, .bool x595002_1, .string x595003_1]) ?_ 1 _ rfl; refine SK ?_; refine blk_put (cs := #[.int .i64 x595000_1, .int .i64 x595001_1, .bool x595002_1, .string x595003_1]) ?_ 0 _ rfl; exact SK BK594.out) Try.underlying35 rfl (by kernel_rfl)) rfl ?_
    exact ⟨KE, KB⟩

/-! ### spec_StoreGet: function 31 -/
def spec_StoreGet.f (k : Nat) (l0_0 : List (S35)) (l0_1 : List (S35)) (a0_2 : Int) (a1 : Int) : Option (Int × Int × Bool × ByteArray × Bool) := (spec_StoreOk.f k l0_0 l0_1 a0_2).bind fun t599 => (if t599 = true then ((spec_l6Get.f k l0_0 a1).bind fun bt600 => (some (bt600.1, bt600.2.1, bt600.2.2.1, bt600.2.2.2.1, bt600.2.2.2.2))) else (some (0, 0, false, (⟨#[]⟩ : ByteArray), false)))
theorem spec_StoreGet.mono : ∀ a0 a1 a2 a3 k, LeO (spec_StoreGet.f k a0 a1 a2 a3) (spec_StoreGet.f (k + 1) a0 a1 a2 a3) := by
 intro a0 a1 a2 a3 k
 unfold spec_StoreGet.f
 repeat' first
   | (with_reducible exact spec_StoreOk.mono _ _ _ _)
   | (with_reducible exact spec_l6Get.mono _ _ _)
   | (with_reducible exact LeO.refl _)
   | (with_reducible exact LeO.none _)
   | (with_reducible refine LeO.ite ?_ ?_)
   | (with_reducible refine LeO.bind ?_ (fun _ => ?_))
   | exact spec_StoreOk.mono _ _ _ _
   | exact spec_l6Get.mono _ _ _
   | exact LeO.none _
   | refine LeO.ite ?_ ?_
   | refine LeO.bind ?_ (fun _ => ?_)
set_option maxHeartbeats 8000000 in
set_option maxRecDepth 100000 in
theorem spec_StoreGet.calls (k : Nat) (A0_0 : Option Addr) (c0_0 : Nat) (l0_0 : List (S35)) (A0_1 : Option Addr) (c0_1 : Nat) (l0_1 : List (S35)) (a0_2 : Int) (a1 : Int) (r1 : Int) (r2 : Int) (r3 : Bool) (r4 : ByteArray) (r5 : Bool) (w : World) (hr0_0 : Kd.C k35 w A0_0 l0_0.length l0_0) (hc0_0 : l0_0.length ≤ c0_0) (hr0_1 : Kd.C k35 w A0_1 l0_1.length l0_1) (hc0_1 : l0_1.length ≤ c0_1) (h : spec_StoreGet.f k l0_0 l0_1 a0_2 a1 = some (r1, r2, r3, r4, r5)) :
  Calls Try.prog 31 #[.agg #[.slice A0_0 l0_0.length c0_0, .slice A0_1 l0_1.length c0_1, .int .i64 a0_2], .int .i64 a1] w fun e w' => e = .returned (.tuple #[.agg #[.int .i64 r1, .int .i64 r2, .bool r3, .string r4], .bool r5]) ∧ Below w.heap.size w w' := by
 have hu31 := Try.underlying31
 have hu35 := Try.underlying35
 have HR0_0 := Aside0.mk hr0_0
 have HC0_0 := Aside0.mk hc0_0
 clear hr0_0 hc0_0
 have HR0_1 := Aside0.mk hr0_1
 have HC0_1 := Aside0.mk hc0_1
 clear hr0_1 hc0_1
 have HB := Aside0.mk (Below.refl w.heap.size w)
 have H : ((spec_StoreOk.f k l0_0 l0_1 a0_2).bind fun t599 => (if t599 = true then ((spec_l6Get.f k l0_0 a1).bind fun bt600 => (some (bt600.1, bt600.2.1, bt600.2.2.1, bt600.2.2.2.1, bt600.2.2.2.2))) else (some (0, 0, false, (⟨#[]⟩ : ByteArray), false)))) = some (r1, r2, r3, r4, r5) := h
 clear h
 replace H := Option.bind_eq_some_iff.mp H
 obtain ⟨t599, A30, H⟩ := H
 replace H : (if t599 = true then ((spec_l6Get.f k l0_0 a1).bind fun bt600 => (some (bt600.1, bt600.2.1, bt600.2.2.1, bt600.2.2.2.1, bt600.2.2.2.2))) else (some (0, 0, false, (⟨#[]⟩ : ByteArray), false))) = some (r1, r2, r3, r4, r5) := H
 have A3 := Aside0.mk A30
 clear A30
 by_cases c4 : t599 = true
 ·subst c4
  have H1 : ((spec_l6Get.f k l0_0 a1).bind fun bt600 => (some (bt600.1, bt600.2.1, bt600.2.2.1, bt600.2.2.2.1, bt600.2.2.2.2))) = some (r1, r2, r3, r4, r5) := by rw [if_pos rfl] at H; exact H
  clear H
  have H := H1
  clear H1
  replace H := Option.bind_eq_some_iff.mp H
  obtain ⟨⟨t600, t601, t602, t603, t604⟩, A50, H⟩ := H
  replace H : (some (t600, t601, t602, t603, t604)) = some (r1, r2, r3, r4, r5) := H
  have A5 := Aside0.mk A50
  clear A50
  simp only [Option.some.injEq, Prod.mk.injEq] at H
  obtain ⟨rfl, rfl, rfl, rfl, rfl⟩ := H
  go_enter Try.func31, Try.ntmps31
  go_wp2_with (first | ((with_reducible refine gate_dst (N := 2) rfl ?_); refine BE 2 #[.slice A0_0 l0_0.length c0_0, .slice A0_1 l0_1.length c0_1, .int .i64 a0_2] 31 ?_; intro gb597 hg w6 hbox hb; have h_ := P4 (below_step KB hb) hbox (KG hg : w.heap.size ≤ gb597) (KG hg : w.heap.size ≤ gb597); clear HB; obtain ⟨HB, BK597, GW597, GE597⟩ := h_; clear hb hbox hg) | ((with_reducible refine gate_dst (N := 4) rfl ?_); refine BE 4 #[.int .i64 0, .int .i64 0, .bool false, .string (⟨#[]⟩ : ByteArray)] 35 ?_; intro gb598 hg w7 hbox hb; have h_ := P7 (BL BK597.out hb) (below_step KB hb) hbox (KG hg : w.heap.size ≤ gb598) (KG hg : w.heap.size ≤ gb598) (NX hg BK597.out) (Ne.symm (NX hg BK597.out)); clear BK597 HB; obtain ⟨BK597, HB, BK598, GW598, GE598, NB597_598, NB598_597⟩ := h_; clear hb hbox hg; have hnb8 := NB597_598.out; have hnc8 := NB598_597.out; obtain ⟨hcz9_0, hcz9_1, hcz9_2, hfz9_0, hfz9_1, hfz9_2⟩ := C3 BK597.out) | ((with_reducible refine gate_callee (f := 34) rfl ?_); refine goesL_ (some 7) rfl rfl Try.func34 (by kernel_rfl) rfl #[.agg #[.slice A0_0 l0_0.length c0_0, .slice A0_1 l0_1.length c0_1, .int .i64 a0_2]] rfl KL ?_; (with_reducible refine (spec_StoreOk.calls k _ _ l0_0 _ _ l0_1 a0_2 true _ ?side1 ?side2 ?side3 ?side4 A3.out).mono ?_); (case side1 => exact KD (Kd.C_below HR0_0.out HB.out)); (case side2 => exact HC0_0.out); (case side3 => exact KD (Kd.C_below HR0_1.out HB.out)); (case side4 => exact HC0_1.out); rintro e w10 ⟨rfl, hb⟩; refine ⟨_, rfl, ?_⟩; have h_ := P3 (BL BK597.out hb) (BL BK598.out hb) (below_step KB hb); clear BK597 BK598 HB; obtain ⟨BK597, BK598, HB⟩ := h_; (try clear hb); (try clear hk); (try clear hi); obtain ⟨hcz11_0, hcz11_1, hcz11_2, hfz11_0, hfz11_1, hfz11_2⟩ := C3 BK597.out) | ((with_reducible refine gate_callee (f := 67) rfl ?_); refine goesL_ (some 13) rfl rfl Try.func67 (by kernel_rfl) rfl #[.slice A0_0 l0_0.length c0_0, .int .i64 a1] rfl KL ?_; (with_reducible refine (spec_l6Get.calls k _ _ l0_0 a1 t600 t601 t602 t603 t604 _ ?side1 ?side2 A5.out).mono ?_); (case side1 => exact KD (Kd.C_below HR0_0.out HB.out)); (case side2 => exact HC0_0.out); rintro e w12 ⟨rfl, hb⟩; refine ⟨_, rfl, ?_⟩; have h_ := P3 (BL BK597.out hb) (BL BK598.out hb) (below_step KB hb); clear BK597 BK598 HB; obtain ⟨BK597, BK598, HB⟩ := h_; (try clear hb); (try clear hk); (try clear hi); obtain ⟨hcz13_0, hcz13_1, hcz13_2, hcz13_3, hfz13_0, hfz13_1, hfz13_2, hfz13_3⟩ := C4 BK598.out))
  refine bodyPost_ret (results_ct rfl _ _ gb598 35 #[.int .i64 t600, .int .i64 t601, .bool t602, .string t603] (0, 0) _ rfl (by refine SK ?_; refine blk_put (cs := #[.int .i64 t600, .int .i64 t601, .bool t602, .string (⟨#[]⟩ : ByteArray)]) ?_ 3 _ rfl; refine SK ?_; refine blk_put (cs := #[.int .i64 t600, .int .i64 t601, .bool false, .string (⟨#[]⟩ : ByteArray)]) ?_ 2 _ rfl; refine SK ?_; refine blk_put (cs := #[.int .i64 t600, .int .i64 0, .bool false, .string (⟨#[]⟩ : ByteArray)]) ?_ 1 _ rfl; refine SK ?_; refine blk_put (cs := #[.int .i64 0, .int .i64 0, .bool false, .string (⟨#[]⟩ : ByteArray)]) ?_ 0 _ rfl; exact SK BK598.out) Try.underlying35 rfl (by kernel_rfl)) rfl ?_
  exact ⟨KE, KB⟩
 ·replace c4 := Bool.eq_false_iff.mpr c4
  subst c4
  have H1 : (some (0, 0, false, (⟨#[]⟩ : ByteArray), false)) = some (r1, r2, r3, r4, r5) := by rw [if_neg (show ¬ (false = true) by decide)] at H; exact H
  clear H
  have H := H1
  clear H1
  simp only [Option.some.injEq, Prod.mk.injEq] at H
  obtain ⟨rfl, rfl, rfl, rfl, rfl⟩ := H
  go_enter Try.func31, Try.ntmps31
  go_wp2_with (first | ((with_reducible refine gate_dst (N := 2) rfl ?_); refine BE 2 #[.slice A0_0 l0_0.length c0_0, .slice A0_1 l0_1.length c0_1, .int .i64 a0_2] 31 ?_; intro gb597 hg w14 hbox hb; have h_ := P4 (below_step KB hb) hbox (KG hg : w.heap.size ≤ gb597) (KG hg : w.heap.size ≤ gb597); clear HB; obtain ⟨HB, BK597, GW597, GE597⟩ := h_; clear hb hbox hg) | ((with_reducible refine gate_dst (N := 4) rfl ?_); refine BE 4 #[.int .i64 0, .int .i64 0, .bool false, .string (⟨#[]⟩ : ByteArray)] 35 ?_; intro gb598 hg w15 hbox hb; have h_ := P7 (BL BK597.out hb) (below_step KB hb) hbox (KG hg : w.heap.size ≤ gb598) (KG hg : w.heap.size ≤ gb598) (NX hg BK597.out) (Ne.symm (NX hg BK597.out)); clear BK597 HB; obtain ⟨BK597, HB, BK598, GW598, GE598, NB597_598, NB598_597⟩ := h_; clear hb hbox hg; have hnb16 := NB597_598.out; have hnc16 := NB598_597.out; obtain ⟨hcz17_0, hcz17_1, hcz17_2, hfz17_0, hfz17_1, hfz17_2⟩ := C3 BK597.out) | ((with_reducible refine gate_callee (f := 34) rfl ?_); refine goesL_ (some 7) rfl rfl Try.func34 (by kernel_rfl) rfl #[.agg #[.slice A0_0 l0_0.length c0_0, .slice A0_1 l0_1.length c0_1, .int .i64 a0_2]] rfl KL ?_; (with_reducible refine (spec_StoreOk.calls k _ _ l0_0 _ _ l0_1 a0_2 false _ ?side1 ?side2 ?side3 ?side4 A3.out).mono ?_); (case side1 => exact KD (Kd.C_below HR0_0.out HB.out)); (case side2 => exact HC0_0.out); (case side3 => exact KD (Kd.C_below HR0_1.out HB.out)); (case side4 => exact HC0_1.out); rintro e w18 ⟨rfl, hb⟩; refine ⟨_, rfl, ?_⟩; have h_ := P3 (BL BK597.out hb) (BL BK598.out hb) (below_step KB hb); clear BK597 BK598 HB; obtain ⟨BK597, BK598, HB⟩ := h_; (try clear hb); (try clear hk); (try clear hi); obtain ⟨hcz19_0, hcz19_1, hcz19_2, hcz19_3, hfz19_0, hfz19_1, hfz19_2, hfz19_3⟩ := C4 BK598.out))
  refine bodyPost_ret (results_ct rfl _ _ gb598 35 #[.int .i64 0, .int .i64 0, .bool false, .string (⟨#[]⟩ : ByteArray)] (0, 0) _ rfl (by refine SK ?_; refine blk_put (cs := #[.int .i64 0, .int .i64 0, .bool false, .string (⟨#[]⟩ : ByteArray)]) ?_ 3 _ rfl; refine SK ?_; refine blk_put (cs := #[.int .i64 0, .int .i64 0, .bool false, .string (⟨#[]⟩ : ByteArray)]) ?_ 2 _ rfl; refine SK ?_; refine blk_put (cs := #[.int .i64 0, .int .i64 0, .bool false, .string (⟨#[]⟩ : ByteArray)]) ?_ 1 _ rfl; refine SK ?_; refine blk_put (cs := #[.int .i64 0, .int .i64 0, .bool false, .string (⟨#[]⟩ : ByteArray)]) ?_ 0 _ rfl; exact SK BK598.out) Try.underlying35 rfl (by kernel_rfl)) rfl ?_
  exact ⟨KE, KB⟩

end Go.Proofs.Ytnoghojlpicecaa.PFnCrash
