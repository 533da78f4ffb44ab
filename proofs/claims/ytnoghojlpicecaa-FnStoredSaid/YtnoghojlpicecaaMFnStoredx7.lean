-- What each Go function that this law reaches comes to: written by a program out of the translation.
import Derived.Test.YtnoghojlpicecaaMFnStoredx0
import Derived.Test.YtnoghojlpicecaaMFnStoredx6
namespace Go.Proofs.Ytnoghojlpicecaa.PFnStored
open Go.RowKit Go.Proofs.YtnoghojlpicecaaW.PrintWords Go.Proofs.YtnoghojlpicecaaW.PrintLast Go.Proofs.YtnoghojlpicecaaW.PrintMore
attribute [local go_sem] max2_int min2_int max_two min_two max_three min_three max_four min_four   -- for this text's walks alone
set_option linter.unusedVariables false
set_option linter.unusedSimpArgs false

/-! ### spec_l6Keep: function 65 -/
mutual
def spec_l6Keep.l0 : Nat → List (S35) → List (S35) → Bool → Int → Int → Int → Bool → ByteArray → Option ((List (S35)))
 | 0, _, _, _, _, _, _, _, _ => none
 | k + 1, x0, x5, x6, x7, x358000, x358001, x358002, x358003 => if x7 < (x0.length : Int) then (if x6 = true then (spec_l6Keep.j1 k x0 x5 x6 x7 false x358000 x358001 x358002 x358003) else (if 0 ≤ x7 then (spec_l6Keep.j1 k x0 x5 x6 x7 (((rd_T35 x0 x7).f0) == x358000) x358000 x358001 x358002 x358003) else (none))) else (if x6 = true then (some x5) else (if x5.length < 3518437208883 then (some (x5 ++ [(⟨x358000, x358001, x358002, x358003⟩ : S35)])) else (none)))
def spec_l6Keep.j1 : Nat → List (S35) → List (S35) → Bool → Int → Bool → Int → Int → Bool → ByteArray → Option ((List (S35)))
 | 0, _, _, _, _, _, _, _, _, _ => none
 | k + 1, x0, x5, x6, x7, x26, x358000, x358001, x358002, x358003 => if x26 = true then (if 0 ≤ x7 then (if x7 < (x0.length : Int) then ((spec_Better.f ((rd_T35 x0 x7).f0) ((rd_T35 x0 x7).f1) ((rd_T35 x0 x7).f2) ((rd_T35 x0 x7).f3) x358000 x358001 x358002 x358003).bind fun bt366 => (if x5.length < 3518437208883 then (spec_l6Keep.l0 k x0 (x5 ++ [(⟨bt366.1, bt366.2.1, bt366.2.2.1, bt366.2.2.2⟩ : S35)]) true (wrap64 (x7 + 1)) x358000 x358001 x358002 x358003) else (none))) else (none)) else (none)) else (if x6 = true then (if 0 ≤ x7 then (if x7 < (x0.length : Int) then (if x5.length < 3518437208883 then (spec_l6Keep.l0 k x0 (x5 ++ [(⟨(rd_T35 x0 x7).f0, (rd_T35 x0 x7).f1, (rd_T35 x0 x7).f2, (rd_T35 x0 x7).f3⟩ : S35)]) x6 (wrap64 (x7 + 1)) x358000 x358001 x358002 x358003) else (none)) else (none)) else (none)) else (if 0 ≤ x7 then (if x7 < (x0.length : Int) then (if ((rd_T35 x0 x7).f0) > x358000 then (if x5.length < 3518437208883 then ((some (x5 ++ [(⟨x358000, x358001, x358002, x358003⟩ : S35)] : List (S35))).bind fun y378 => (if y378.length < 3518437208883 then (spec_l6Keep.l0 k x0 (y378 ++ [(⟨(rd_T35 x0 x7).f0, (rd_T35 x0 x7).f1, (rd_T35 x0 x7).f2, (rd_T35 x0 x7).f3⟩ : S35)]) true (wrap64 (x7 + 1)) x358000 x358001 x358002 x358003) else (none))) else (none)) else (if x5.length < 3518437208883 then (spec_l6Keep.l0 k x0 (x5 ++ [(⟨(rd_T35 x0 x7).f0, (rd_T35 x0 x7).f1, (rd_T35 x0 x7).f2, (rd_T35 x0 x7).f3⟩ : S35)]) x6 (wrap64 (x7 + 1)) x358000 x358001 x358002 x358003) else (none))) else (none)) else (none)))
end
def spec_l6Keep.f (k : Nat) (l0 : List (S35)) (a1_0 : Int) (a1_1 : Int) (a1_2 : Bool) (a1_3 : ByteArray) : Option ((List (S35))) := spec_l6Keep.l0 k l0 (([] : List (S35))) false 0 a1_0 a1_1 a1_2 a1_3
theorem spec_l6Keep.mono_l : ∀ k, (∀ y0 y1 y2 y3 y4 y5 y6 y7, LeO (spec_l6Keep.l0 k y0 y1 y2 y3 y4 y5 y6 y7) (spec_l6Keep.l0 (k + 1) y0 y1 y2 y3 y4 y5 y6 y7)) ∧ (∀ y0 y1 y2 y3 y4 y5 y6 y7 y8, LeO (spec_l6Keep.j1 k y0 y1 y2 y3 y4 y5 y6 y7 y8) (spec_l6Keep.j1 (k + 1) y0 y1 y2 y3 y4 y5 y6 y7 y8))
 | 0 => ⟨fun _ _ _ _ _ _ _ _ r h => by simp [spec_l6Keep.l0] at h, fun _ _ _ _ _ _ _ _ _ r h => by simp [spec_l6Keep.j1] at h⟩
 | k + 1 => by
  obtain ⟨ih0, ih1⟩ := spec_l6Keep.mono_l k; refine ⟨?_, ?_⟩
  ·intro y0 y1 y2 y3 y4 y5 y6 y7
   unfold spec_l6Keep.l0
   repeat' first
   | (with_reducible exact ih0 _ _ _ _ _ _ _ _)
   | (with_reducible exact ih1 _ _ _ _ _ _ _ _ _)
   | (with_reducible exact LeO.refl _)
   | (with_reducible exact LeO.none _)
   | (with_reducible refine LeO.ite ?_ ?_)
   | (with_reducible refine LeO.bind ?_ (fun _ => ?_))
   | exact ih0 _ _ _ _ _ _ _ _
   | exact ih1 _ _ _ _ _ _ _ _ _
   | exact LeO.none _
   | refine LeO.ite ?_ ?_
   | refine LeO.bind ?_ (fun _ => ?_)
  ·intro y0 y1 y2 y3 y4 y5 y6 y7 y8
   unfold spec_l6Keep.j1
   repeat' first
   | (with_reducible exact ih0 _ _ _ _ _ _ _ _)
   | (with_reducible exact ih1 _ _ _ _ _ _ _ _ _)
   | (with_reducible exact LeO.refl _)
   | (with_reducible exact LeO.none _)
   | (with_reducible refine LeO.ite ?_ ?_)
   | (with_reducible refine LeO.bind ?_ (fun _ => ?_))
   | exact ih0 _ _ _ _ _ _ _ _
   | exact ih1 _ _ _ _ _ _ _ _ _
   | exact LeO.none _
   | refine LeO.ite ?_ ?_
   | refine LeO.bind ?_ (fun _ => ?_)
theorem spec_l6Keep.mono : ∀ a0 a1 a2 a3 a4 k, LeO (spec_l6Keep.f k a0 a1 a2 a3 a4) (spec_l6Keep.f (k + 1) a0 a1 a2 a3 a4) := by
 intro a0 a1 a2 a3 a4 k; obtain ⟨ih0, ih1⟩ := spec_l6Keep.mono_l k
 unfold spec_l6Keep.f
 repeat' first
   | (with_reducible exact ih0 _ _ _ _ _ _ _ _)
   | (with_reducible exact ih1 _ _ _ _ _ _ _ _ _)
   | (with_reducible exact LeO.refl _)
   | (with_reducible exact LeO.none _)
   | (with_reducible refine LeO.ite ?_ ?_)
   | (with_reducible refine LeO.bind ?_ (fun _ => ?_))
   | exact ih0 _ _ _ _ _ _ _ _
   | exact ih1 _ _ _ _ _ _ _ _ _
   | exact LeO.none _
   | refine LeO.ite ?_ ?_
   | refine LeO.bind ?_ (fun _ => ?_)
def spec_l6Keep.T6 : Bool × List (List Nat × List Nat) := (true, [([], []), ([0], [0]), ([1], [1]), ([2], [2]), ([2], [2]), ([3, 4, 2], [2, 3, 4]), ([5, 2], [2, 5]), ([6, 2], [2, 6]), ([2], [2]), ([8, 2], [2, 8]), ([7, 9, 2], [2, 7, 9]), ([2, 10], [2, 10])])
def spec_l6Keep.B6 : List Nat := [0, 1, 3, 7, 7, 31, 63, 127, 7, 263, 1023, 2047]
theorem spec_l6Keep.tab6 : rtab .any (opsOf Try.f65 6) = spec_l6Keep.T6 := by kernel_rfl
theorem spec_l6Keep.bits6 : waitsOk spec_l6Keep.T6.2 spec_l6Keep.B6 = true := by kernel_rfl
def spec_l6Keep.T7 : Bool × List (List Nat × List Nat) := (true, [([], []), ([], []), ([], []), ([1, 2], [1, 2]), ([3], [3]), ([], []), ([4, 5], [4, 5]), ([6], [6]), ([0, 7, 6], [0, 7]), ([8, 8, 0, 1, 2, 3, 4, 5, 6, 7, 8], [0, 8])])
def spec_l6Keep.B7 : List Nat := [0, 0, 0, 6, 14, 0, 62, 126, 255, 511]
theorem spec_l6Keep.tab7 : rtab .any (opsOf Try.f65 7) = spec_l6Keep.T7 := by kernel_rfl
theorem spec_l6Keep.bits7 : waitsOk spec_l6Keep.T7.2 spec_l6Keep.B7 = true := by kernel_rfl
def spec_l6Keep.T9 : Bool × List (List Nat × List Nat) := (true, [([], []), ([0], [0]), ([1], [1]), ([2], [2]), ([2], [2]), ([3, 4, 2], [2, 3, 4]), ([5, 2], [2, 5]), ([6, 2], [2, 6]), ([2], [2]), ([8, 2], [2, 8]), ([7, 9, 2], [2, 7, 9]), ([2, 10], [2, 10])])
def spec_l6Keep.B9 : List Nat := [0, 1, 3, 7, 7, 31, 63, 127, 7, 263, 1023, 2047]
theorem spec_l6Keep.tab9 : rtab .any (opsOf Try.f65 9) = spec_l6Keep.T9 := by kernel_rfl
theorem spec_l6Keep.bits9 : waitsOk spec_l6Keep.T9.2 spec_l6Keep.B9 = true := by kernel_rfl
set_option maxHeartbeats 8000000 in
set_option maxRecDepth 100000 in
theorem spec_l6Keep.calls (k : Nat) (A0 : Option Addr) (c0 : Nat) (l0 : List (S35)) (a1_0 : Int) (a1_1 : Int) (a1_2 : Bool) (a1_3 : ByteArray) (r : List (S35)) (w : World) (hr0 : Kd.C k35 w A0 l0.length l0) (hc0 : l0.length ≤ c0) (h : spec_l6Keep.f k l0 a1_0 a1_1 a1_2 a1_3 = some r) :
  Calls Try.prog 65 #[.slice A0 l0.length c0, .agg #[.int .i64 a1_0, .int .i64 a1_1, .bool a1_2, .string a1_3]] w fun e w' => ∃ v0_ : Value, e = .returned (v0_) ∧ Kd.R k35 35 w' w.heap.size (fun _ => True) v0_ r ∧ Below w.heap.size w w' := by
 have hu35 := Try.underlying35; have HR0 := Aside0.mk hr0; have HC0 := Aside0.mk hc0; clear hr0 hc0; have HB := Aside0.mk (Below.refl w.heap.size w); have H : (spec_l6Keep.l0 k l0 (([] : List (S35))) false 0 a1_0 a1_1 a1_2 a1_3) = some r := h; clear h; obtain ⟨y358, hy358⟩ : ∃ y_ : List (S35), y_ = (([] : List (S35))) := ⟨_, rfl⟩; replace H : (spec_l6Keep.l0 k l0 y358 false 0 a1_0 a1_1 a1_2 a1_3) = some r := by first | (rw [hy358]; with_reducible exact H) | (have H2_ := (Option.bind_some _ _).symm.trans H; rw [hy358]; with_reducible exact H2_) | (have H2_ := (Option.bind_some _ _).symm.trans H; with_reducible exact H2_) | with_reducible exact H | (rw [hy358]; exact H) | exact H
 have Ny358 := Aside0.mk hy358; clear hy358; have H' := Aside0.mk H; clear H
 go_enter Try.func65, Try.ntmps65
 go_wp2_with (first | ((with_reducible refine GD 3 ?_); refine BE 3 #[.int .i64 a1_0, .int .i64 a1_1, .bool a1_2, .string a1_3] 35 ?_; intro gb357 hg w3 hbox hb; have h_ := P4 (below_step KB hb) hbox (Kg w hg) (Kg w hg); clear HB; obtain ⟨HB, BK357, GW357, GE357⟩ := h_; clear hb hbox hg) | ((with_reducible refine GD 8 ?_); refine Kd.R_lit k35 _ 35 ?hg (N := 8) ?hd (xs := ([] : List (S35))) (inner := []) (ok := fun _ => True) (okp := fun _ => True) ?hr ?hp (fun _ hk => hk) trivial (Below.refl _ _) (Nat.le_refl _) (by simp) ?_; (case hd => rfl); (case hg => rfl); (case hr => first | (go_simp; done) | (go_simp; rfl)); (case hp => exact (Reps.none _ _)); intro v359 w4 ho5 hb hg_ hnew_; clear hg_ hnew_; (first | rw [← Ny358.out] at ho5 | (simp only [Int.reduceToNat] at ho5; rw [← Ny358.out] at ho5)); have h_ := P3 (Kd.R_lower (Kd.R_newB ho5 (g := gb357) (o := .cells #[.int .i64 a1_0, .int .i64 a1_1, .bool a1_2, .string a1_3] 35 (0, 0)) KK) (below_size KB)) (BL BK357.out hb) (below_step KB hb); clear BK357 HB; obtain ⟨HO360, BK357, HB⟩ := h_; clear hb ho5))
 go_loopg [5, 6, 7] k (fun kq v5 v6 v7 w' => ∃ (x5_1 : List (S35)) (x6_1 : Bool) (x7_1 : Int), v6 = .bool x6_1 ∧ v7 = .int .i64 x7_1 ∧ Aside0 (spec_l6Keep.l0 kq l0 x5_1 x6_1 x7_1 a1_0 a1_1 a1_2 a1_3 = some r) ∧ Aside0 (kq ≤ k) ∧ Aside0 (Kd.R k35 35 w' w.heap.size (fun k_ => k_ ≠ gb357) v5 x5_1) ∧ Aside0 (w'.heap[gb357]? = some (.cells #[.int .i64 a1_0, .int .i64 a1_1, .bool a1_2, .string a1_3] 35 (0, 0))) ∧ Aside0 (Below w.heap.size w w'))
 case atStart => exact ⟨(y358), (false), (0), (by first | rfl | (simp; done) | (simp [*]; done)), (by first | rfl | (simp; done) | (simp [*]; done)), H', ⟨Nat.le_refl _⟩, ⟨by (with_reducible repeat (first | apply Kd.R_alloc | apply Kd.R_drewN | apply Kd.R_drew)); exact Kd.R_mono HO360.out (fun _ hk => hk.2)⟩, ⟨KK⟩, ⟨KB⟩⟩
 case round =>
  clear H'
  try clear p2
  obtain ⟨x5_1, x6_1, x7_1, rfl, rfl, HA, HK1, HO_5, BK357, HB⟩ := hrel
  cases gk with
  | zero => exact absurd HA.out (by simp [spec_l6Keep.l0])
  | succ k1 =>
   have H := HA.out; clear HA; simp only [spec_l6Keep.l0] at H
   by_cases c6 : x7_1 < (l0.length : Int)
   ·rw [if_pos c6] at H
    have c6b0 : decide (x7_1 < (l0.length : Int)) = true := decide_eq_true c6; clear c6; have HC7 := Aside0.mk H; clear H
    go_upto_region 6 with (fail)
    go_cut [26] (fun v26 wc => ∃ (kq : Nat) (x26_6 : Bool), v26 = .bool x26_6 ∧ Aside0 (spec_l6Keep.j1 kq l0 x5_1 x6_1 x7_1 x26_6 a1_0 a1_1 a1_2 a1_3 = some r) ∧ Aside0 (kq ≤ k1) ∧ Aside0 (Kd.R k35 35 wc w.heap.size (fun k_ => k_ ≠ gb357) u5 x5_1) ∧ Aside0 (wc.heap[gb357]? = some (.cells #[.int .i64 a1_0, .int .i64 a1_1, .bool a1_2, .string a1_3] 35 (0, 0))) ∧ Aside0 (Below w.heap.size w wc))
    case first =>
     have H := HC7.out; clear HC7
     by_cases c8 : x6_1 = true
     ·subst c8
      have H1 : (spec_l6Keep.j1 k1 l0 x5_1 true x7_1 false a1_0 a1_1 a1_2 a1_3) = some r := by rw [if_pos rfl] at H; exact H
      clear H; have H := H1; clear H1; have H' := Aside0.mk H; clear H
      try go_wp2
      have h_ := P3 (Kd.R_drew HO_5.out) (blk_drew BK357.out) (below_drew1 HB.out); clear HO_5 BK357 HB; obtain ⟨HO_5, BK357, HB⟩ := h_; refine start_ (n := 12) (S := fun w' => True) (ds := []) #[false, false, false, false, false, false, false, false, false, false, false, false] (by kernel_rfl) rfl rfl trivial (fun hHeld => ?_); refine with_tabW spec_l6Keep.tab6 spec_l6Keep.bits6 (fun HT_ HW_ => ?_); generalize wr.drew = w9 at HO_5 BK357 HB hHeld ⊢; refine pure_ (i := 0) (N := some 15) (v := ?_) (a' := ?_) #[true, false, false, false, false, false, false, false, false, false, false, false] rfl rfl (any_of HT_.out (by kernel_rfl)) (fun _ _ _ h => h) (Or.inl ⟨by rfl, ?_⟩) ?_ ?_; rotate_left
      ·intro w'
       go_simp; with_reducible rfl
      rotate_left
      ·exact KA
      refine pure_ (i := 1) (N := some 16) (v := ?_) (a' := ?_) #[true, true, false, false, false, false, false, false, false, false, false, false] rfl rfl (any_of HT_.out (by kernel_rfl)) (fun _ _ _ h => h) (Or.inl ⟨by rfl, ?_⟩) ?_ ?_; rotate_left
      ·intro w'
       go_simp; with_reducible rfl
      rotate_left
      ·exact KA
      refine pure_ (i := 2) (N := some 17) (v := ?_) (a' := ?_) #[true, true, true, false, false, false, false, false, false, false, false, false] rfl rfl (any_of HT_.out (by kernel_rfl)) (fun _ _ _ h => h) (Or.inl ⟨by rfl, ?_⟩) ?_ ?_; rotate_left
      ·intro w'
       go_simp; with_reducible rfl
      rotate_left
      ·exact KA
      refine pure_ (i := 3) (N := some 18) (v := undef) (a' := ?_) #[true, true, true, true, false, false, false, false, false, false, false, false] rfl rfl (any_of HT_.out (by kernel_rfl)) (fun _ _ _ h => h) (Or.inr ⟨by rfl, rfl⟩) ?_ ?_; rotate_left
      ·exact KA
      refine pure_ (i := 4) (N := some 19) (v := undef) (a' := ?_) #[true, true, true, true, true, false, false, false, false, false, false, false] rfl rfl (any_of HT_.out (by kernel_rfl)) (fun _ _ _ h => h) (Or.inr ⟨by rfl, rfl⟩) ?_ ?_; rotate_left
      ·exact KA
      refine pure_ (i := 5) (N := some 20) (v := undef) (a' := ?_) #[true, true, true, true, true, true, false, false, false, false, false, false] rfl rfl (any_of HT_.out (by kernel_rfl)) (fun _ _ _ h => h) (Or.inr ⟨by rfl, rfl⟩) ?_ ?_; rotate_left
      ·exact KA
      refine pure_ (i := 6) (N := some 21) (v := undef) (a' := ?_) #[true, true, true, true, true, true, true, false, false, false, false, false] rfl rfl (any_of HT_.out (by kernel_rfl)) (fun _ _ _ h => h) (Or.inr ⟨by rfl, rfl⟩) ?_ ?_; rotate_left
      ·exact KA
      refine pure_ (i := 7) (N := some 22) (v := undef) (a' := ?_) #[true, true, true, true, true, true, true, true, false, false, false, false] rfl rfl (any_of HT_.out (by kernel_rfl)) (fun _ _ _ h => h) (Or.inr ⟨by rfl, rfl⟩) ?_ ?_; rotate_left
      ·exact KA
      refine pure_ (i := 8) (N := some 23) (v := undef) (a' := ?_) #[true, true, true, true, true, true, true, true, true, false, false, false] rfl rfl (any_of HT_.out (by kernel_rfl)) (fun _ _ _ h => h) (Or.inr ⟨by rfl, rfl⟩) ?_ ?_; rotate_left
      ·exact KA
      refine pure_ (i := 9) (N := some 24) (v := undef) (a' := ?_) #[true, true, true, true, true, true, true, true, true, true, false, false] rfl rfl (any_of HT_.out (by kernel_rfl)) (fun _ _ _ h => h) (Or.inr ⟨by rfl, rfl⟩) ?_ ?_; rotate_left
      ·exact KA
      refine pure_ (i := 10) (N := some 25) (v := undef) (a' := ?_) #[true, true, true, true, true, true, true, true, true, true, true, false] rfl rfl (any_of HT_.out (by kernel_rfl)) (fun _ _ _ h => h) (Or.inr ⟨by rfl, rfl⟩) ?_ ?_; rotate_left
      ·exact KA
      refine pure_ (i := 11) (N := some 26) (v := ?_) (a' := ?_) #[true, true, true, true, true, true, true, true, true, true, true, true] rfl rfl (any_of HT_.out (by kernel_rfl)) (fun _ _ _ h => h) (Or.inl ⟨by rfl, ?_⟩) ?_ ?_; rotate_left
      ·intro w'
       go_simp; with_reducible rfl
      rotate_left
      ·exact KA
      refine done_ (done_of HT_.out (by kernel_rfl)) ?_
      try go_wp2
      go_meet
      case rel => exact ⟨_, (false), (by first | rfl | (simp; done) | (simp [*]; done)), H', ⟨by have := HK1.out; first | omega | exact Nat.le_refl _⟩, ⟨by (with_reducible repeat (first | apply Kd.R_alloc | apply Kd.R_drewN | apply Kd.R_drew)); exact HO_5.out⟩, ⟨KK⟩, ⟨KB⟩⟩
     ·replace c8 := Bool.eq_false_iff.mpr c8
      subst c8; have H1 : (if 0 ≤ x7_1 then (spec_l6Keep.j1 k1 l0 x5_1 false x7_1 (((rd_T35 l0 x7_1).f0) == a1_0) a1_0 a1_1 a1_2 a1_3) else (none)) = some r := by rw [if_neg (show ¬ (false = true) by decide)] at H; exact H
      clear H; have H := H1; clear H1
      by_cases c10 : 0 ≤ x7_1
      ·rw [if_pos c10] at H
       have c10b0 : decide (0 ≤ x7_1) = true := decide_eq_true c10; clear c10; (first | rw [c10b0] | (simp only [i64_w, i32_w]; rw [c10b0]) | skip); have H' := Aside0.mk H; clear H
       try go_wp2
       have h_ := P3 (Kd.R_drew HO_5.out) (blk_drew BK357.out) (below_drew1 HB.out); clear HO_5 BK357 HB; obtain ⟨HO_5, BK357, HB⟩ := h_; have p364 : 0 ≤ (x7_1 : Int) := of_decide_eq_true (by first | (with_reducible assumption) | assumption); have q364 : x7_1 < (l0.length : Int) := of_decide_eq_true (by first | (with_reducible assumption) | assumption); obtain ⟨ad364, e364, hx364_0, hx364_1, hx364_2, hx364_3⟩ := at_T35 HR0.out x7_1 p364 q364; have hw364_3 := hx364_3; have hw364_2 := hx364_2; have hw364_1 := hx364_1; have hw364_0 := hx364_0
       cases e364
       replace hx364_0 := (HB.out.cell (World.block_lt_of_cell? w _ hx364_0)).trans hx364_0; replace hx364_1 := (HB.out.cell (World.block_lt_of_cell? w _ hx364_1)).trans hx364_1; replace hx364_2 := (HB.out.cell (World.block_lt_of_cell? w _ hx364_2)).trans hx364_2; replace hx364_3 := (HB.out.cell (World.block_lt_of_cell? w _ hx364_3)).trans hx364_3; replace p364 := eq_true p364; replace q364 := eq_true q364; refine start_ (n := 12) (S := fun w' => w'.cell? ⟨gb357, 0, none⟩ = some (.int .i64 a1_0) ∧ w'.cell? ⟨gb357, 1, none⟩ = some (.int .i64 a1_1) ∧ w'.cell? ⟨gb357, 2, none⟩ = some (.bool a1_2) ∧ w'.cell? ⟨gb357, 3, none⟩ = some (.string a1_3) ∧ w'.cell? (ad364.add ((x7_1).toNat * 4)) = some (.int .i64 ((rd_T35 l0 x7_1).f0)) ∧ w'.cell? ⟨(ad364.add ((x7_1).toNat * 4)).block, (ad364.add ((x7_1).toNat * 4)).off + 1, none⟩ = some (.int .i64 ((rd_T35 l0 x7_1).f1)) ∧ w'.cell? ⟨(ad364.add ((x7_1).toNat * 4)).block, (ad364.add ((x7_1).toNat * 4)).off + 2, none⟩ = some (.bool ((rd_T35 l0 x7_1).f2)) ∧ w'.cell? ⟨(ad364.add ((x7_1).toNat * 4)).block, (ad364.add ((x7_1).toNat * 4)).off + 3, none⟩ = some (.string ((rd_T35 l0 x7_1).f3))) (ds := []) #[false, false, false, false, false, false, false, false, false, false, false, false] (by kernel_rfl) rfl rfl ⟨(blk_cell BK357.out 0).trans rfl, (blk_cell BK357.out 1).trans rfl, (blk_cell BK357.out 2).trans rfl, (blk_cell BK357.out 3).trans rfl, ((HB.out.cell (World.block_lt_of_cell? w _ hw364_0)).trans hw364_0), ((HB.out.cell (World.block_lt_of_cell? w _ hw364_1)).trans hw364_1), ((HB.out.cell (World.block_lt_of_cell? w _ hw364_2)).trans hw364_2), ((HB.out.cell (World.block_lt_of_cell? w _ hw364_3)).trans hw364_3)⟩ (fun hHeld => ?_); refine with_tabW spec_l6Keep.tab6 spec_l6Keep.bits6 (fun HT_ HW_ => ?_); generalize wr.drew = w11 at HO_5 BK357 HB hx364_0 hx364_1 hx364_2 hx364_3 hHeld ⊢; refine pure_ (i := 0) (N := some 15) (v := ?_) (a' := ?_) #[true, false, false, false, false, false, false, false, false, false, false, false] rfl rfl (any_of HT_.out (by kernel_rfl)) (fun _ _ _ h => h) (Or.inl ⟨by rfl, ?_⟩) ?_ ?_; rotate_left
       ·intro w'
        go_simp; with_reducible rfl
       rotate_left
       ·exact KA
       refine pure_ (i := 1) (N := some 16) (v := ?_) (a' := ?_) #[true, true, false, false, false, false, false, false, false, false, false, false] rfl rfl (any_of HT_.out (by kernel_rfl)) (fun _ _ _ h => h) (Or.inl ⟨by rfl, ?_⟩) ?_ ?_; rotate_left
       ·intro w'
        go_simp; with_reducible rfl
       rotate_left
       ·exact KA
       refine pure_ (i := 2) (N := some 17) (v := ?_) (a' := ?_) #[true, true, true, false, false, false, false, false, false, false, false, false] rfl rfl (any_of HT_.out (by kernel_rfl)) (fun _ _ _ h => h) (Or.inl ⟨by rfl, ?_⟩) ?_ ?_; rotate_left
       ·intro w'
        go_simp; with_reducible rfl
       rotate_left
       ·exact KA
       refine pure_ (i := 3) (N := some 18) (v := ?_) (a' := ?_) #[true, true, true, true, false, false, false, false, false, false, false, false] rfl rfl (any_of HT_.out (by kernel_rfl)) (fun _ _ _ h => h) (Or.inl ⟨by rfl, ?_⟩) ?_ ?_; rotate_left
       ·intro w'
        go_simp; with_reducible rfl
       rotate_left
       ·exact KA
       refine pure_ (i := 4) (N := some 19) (v := ?_) (a' := ?_) #[true, true, true, true, true, false, false, false, false, false, false, false] rfl rfl (any_of HT_.out (by kernel_rfl)) (fun _ _ _ h => h) (Or.inl ⟨by rfl, ?_⟩) ?_ ?_; rotate_left
       ·intro w'
        go_simp; with_reducible rfl
       rotate_left
       ·exact KA
       refine pure_ (i := 5) (N := some 20) (v := ?_) (a' := ?_) #[true, true, true, true, true, true, false, false, false, false, false, false] rfl rfl (any_of HT_.out (by kernel_rfl)) (fun _ _ _ h => h) (Or.inl ⟨by rfl, ?_⟩) ?_ ?_; rotate_left
       ·intro w'
        go_simp; with_reducible rfl
       rotate_left
       ·exact KA
       refine pure_ (i := 6) (N := some 21) (v := ?_) (a' := ?_) #[true, true, true, true, true, true, true, false, false, false, false, false] rfl rfl (any_of HT_.out (by kernel_rfl)) (fun _ _ _ h => h) (Or.inl ⟨by rfl, ?_⟩) ?_ ?_; rotate_left
       ·intro w'
        go_simp; with_reducible rfl
       rotate_left
       ·exact KA
       refine pure_ (i := 8) (N := some 23) (v := ?_) (a' := ?_) #[true, true, true, true, true, true, true, false, true, false, false, false] rfl rfl (any_of HT_.out (by kernel_rfl)) (fun _ _ _ h => h) (Or.inl ⟨by rfl, ?_⟩) ?_ ?_; rotate_left
       ·intro w'
        go_simp; with_reducible rfl
       rotate_left
       ·exact KA
       refine take_ (i := 7) (N := some 22) (v := ?_) (a' := ?_) #[true, true, true, true, true, true, true, true, true, false, false, false] rfl rfl (take_ofW HT_.out HW_.out (by kernel_rfl)) (fun _ _ _ h => h) (Or.inl ⟨by rfl, ?_⟩) hHeld ?_ ?_; rotate_left
       ·rintro w' ⟨s0, s1, s2, s3, s4, s5, s6, s7⟩
        go_simp; with_reducible rfl
       rotate_left
       ·exact KA
       refine take_ (i := 9) (N := some 24) (v := ?_) (a' := ?_) #[true, true, true, true, true, true, true, true, true, true, false, false] rfl rfl (take_ofW HT_.out HW_.out (by kernel_rfl)) (fun _ _ _ h => h) (Or.inl ⟨by rfl, ?_⟩) hHeld ?_ ?_; rotate_left
       ·rintro w' ⟨s0, s1, s2, s3, s4, s5, s6, s7⟩
        go_simp; with_reducible rfl
       rotate_left
       ·exact KA
       refine pure_ (i := 10) (N := some 25) (v := ?_) (a' := ?_) #[true, true, true, true, true, true, true, true, true, true, true, false] rfl rfl (any_of HT_.out (by kernel_rfl)) (fun _ _ _ h => h) (Or.inl ⟨by rfl, ?_⟩) ?_ ?_; rotate_left
       ·intro w'
        go_simp; with_reducible rfl
       rotate_left
       ·exact KA
       refine pure_ (i := 11) (N := some 26) (v := ?_) (a' := ?_) #[true, true, true, true, true, true, true, true, true, true, true, true] rfl rfl (any_of HT_.out (by kernel_rfl)) (fun _ _ _ h => h) (Or.inl ⟨by rfl, ?_⟩) ?_ ?_; rotate_left
       ·intro w'
        go_simp; with_reducible rfl
       rotate_left
       ·exact KA
       refine done_ (done_of HT_.out (by kernel_rfl)) ?_
       try go_wp2
       go_meet
       case rel => exact ⟨_, ((((rd_T35 l0 x7_1).f0) == a1_0)), (by first | rfl | (simp; done) | (simp [*]; done)), H', ⟨by have := HK1.out; first | omega | exact Nat.le_refl _⟩, ⟨by (with_reducible repeat (first | apply Kd.R_alloc | apply Kd.R_drewN | apply Kd.R_drew)); exact HO_5.out⟩, ⟨KK⟩, ⟨KB⟩⟩
      ·rw [if_neg c10] at H
       exact absurd H (by simp)
    case rest =>
     clear HC7
     try clear c1
     try clear p2
     try clear p3
     try clear q3
     try clear hx3
     try clear c6
     try clear c6b0
     try clear c8
     try clear c10
     try clear c10b0
     try clear hx364_0
     try clear hx364_1
     try clear hx364_2
     try clear hx364_3
     try clear p2
     try clear p364
     try clear q364
     obtain ⟨kq, x26_6, rfl, HA, HJ6, HO_5, BK357, HB⟩ := hcut
     cases kq with
     | zero => exact absurd HA.out (by simp [spec_l6Keep.j1])
     | succ kj6 =>
      have H := HA.out; clear HA; simp only [spec_l6Keep.j1] at H
      by_cases c12 : x26_6 = true
      ·subst c12
       have H1 : (if 0 ≤ x7_1 then (if x7_1 < (l0.length : Int) then ((spec_Better.f ((rd_T35 l0 x7_1).f0) ((rd_T35 l0 x7_1).f1) ((rd_T35 l0 x7_1).f2) ((rd_T35 l0 x7_1).f3) a1_0 a1_1 a1_2 a1_3).bind fun bt366 => (if x5_1.length < 3518437208883 then (spec_l6Keep.l0 kj6 l0 (x5_1 ++ [(⟨bt366.1, bt366.2.1, bt366.2.2.1, bt366.2.2.2⟩ : S35)]) true (wrap64 (x7_1 + 1)) a1_0 a1_1 a1_2 a1_3) else (none))) else (none)) else (none)) = some r := by rw [if_pos rfl] at H; exact H
       clear H; have H := H1; clear H1
       by_cases c13 : 0 ≤ x7_1
       ·rw [if_pos c13] at H
        have c13b0 : decide (0 ≤ x7_1) = true := decide_eq_true c13; clear c13
        by_cases c14 : x7_1 < (l0.length : Int)
        ·rw [if_pos c14] at H
         have c14b0 : decide (x7_1 < (l0.length : Int)) = true := decide_eq_true c14; clear c14; replace H := Option.bind_eq_some_iff.mp H; obtain ⟨⟨t366, t367, t368, t369⟩, A150, H⟩ := H
         try dsimp only at H
         have A15 := Aside0.mk A150; clear A150
         by_cases c16 : x5_1.length < 3518437208883
         ·rw [if_pos c16] at H
          have LMc16 := Aside0.mk c16; clear c16; obtain ⟨y370, hy370⟩ : ∃ y_ : List (S35), y_ = (x5_1 ++ [(⟨t366, t367, t368, t369⟩ : S35)]) := ⟨_, rfl⟩; replace H : (spec_l6Keep.l0 kj6 l0 y370 true (wrap64 (x7_1 + 1)) a1_0 a1_1 a1_2 a1_3) = some r := by first | (rw [hy370]; with_reducible exact H) | (have H2_ := (Option.bind_some _ _).symm.trans H; rw [hy370]; with_reducible exact H2_) | (have H2_ := (Option.bind_some _ _).symm.trans H; with_reducible exact H2_) | with_reducible exact H | (rw [hy370]; exact H) | exact H
          have Ny370 := Aside0.mk hy370; clear hy370; have H' := Aside0.mk H; clear H
          try go_wp2
          have h_ := P3 (Kd.R_drew HO_5.out) (blk_drew BK357.out) (below_drew1 HB.out); clear HO_5 BK357 HB; obtain ⟨HO_5, BK357, HB⟩ := h_; have p365 : 0 ≤ (x7_1 : Int) := of_decide_eq_true (by first | (with_reducible assumption) | assumption); have q365 : x7_1 < (l0.length : Int) := of_decide_eq_true (by first | (with_reducible assumption) | assumption); obtain ⟨ad365, e365, hx365_0, hx365_1, hx365_2, hx365_3⟩ := at_T35 HR0.out x7_1 p365 q365; have hw365_3 := hx365_3; have hw365_2 := hx365_2; have hw365_1 := hx365_1; have hw365_0 := hx365_0
          cases e365
          replace hx365_0 := (HB.out.cell (World.block_lt_of_cell? w _ hx365_0)).trans hx365_0; replace hx365_1 := (HB.out.cell (World.block_lt_of_cell? w _ hx365_1)).trans hx365_1; replace hx365_2 := (HB.out.cell (World.block_lt_of_cell? w _ hx365_2)).trans hx365_2; replace hx365_3 := (HB.out.cell (World.block_lt_of_cell? w _ hx365_3)).trans hx365_3; replace p365 := eq_true p365; replace q365 := eq_true q365; refine start_ (n := 10) (S := fun w' => w'.cell? ⟨gb357, 0, none⟩ = some (.int .i64 a1_0) ∧ w'.cell? ⟨gb357, 1, none⟩ = some (.int .i64 a1_1) ∧ w'.cell? ⟨gb357, 2, none⟩ = some (.bool a1_2) ∧ w'.cell? ⟨gb357, 3, none⟩ = some (.string a1_3) ∧ w'.cell? (ad365.add ((x7_1).toNat * 4)) = some (.int .i64 ((rd_T35 l0 x7_1).f0)) ∧ w'.cell? ⟨(ad365.add ((x7_1).toNat * 4)).block, (ad365.add ((x7_1).toNat * 4)).off + 1, none⟩ = some (.int .i64 ((rd_T35 l0 x7_1).f1)) ∧ w'.cell? ⟨(ad365.add ((x7_1).toNat * 4)).block, (ad365.add ((x7_1).toNat * 4)).off + 2, none⟩ = some (.bool ((rd_T35 l0 x7_1).f2)) ∧ w'.cell? ⟨(ad365.add ((x7_1).toNat * 4)).block, (ad365.add ((x7_1).toNat * 4)).off + 3, none⟩ = some (.string ((rd_T35 l0 x7_1).f3))) (ds := []) #[false, false, false, false, false, false, false, false, false, false] (by kernel_rfl) rfl rfl ⟨(blk_cell BK357.out 0).trans rfl, (blk_cell BK357.out 1).trans rfl, (blk_cell BK357.out 2).trans rfl, (blk_cell BK357.out 3).trans rfl, ((HB.out.cell (World.block_lt_of_cell? w _ hw365_0)).trans hw365_0), ((HB.out.cell (World.block_lt_of_cell? w _ hw365_1)).trans hw365_1), ((HB.out.cell (World.block_lt_of_cell? w _ hw365_2)).trans hw365_2), ((HB.out.cell (World.block_lt_of_cell? w _ hw365_3)).trans hw365_3)⟩ (fun hHeld => ?_); refine with_tabW spec_l6Keep.tab7 spec_l6Keep.bits7 (fun HT_ HW_ => ?_); generalize wc.drew = w17 at HO_5 BK357 HB hx365_0 hx365_1 hx365_2 hx365_3 hHeld ⊢; refine pure_ (i := 0) (N := some 27) (v := ?_) (a' := ?_) #[true, false, false, false, false, false, false, false, false, false] rfl rfl (any_of HT_.out (by kernel_rfl)) (fun _ _ _ h => h) (Or.inl ⟨by rfl, ?_⟩) ?_ ?_; rotate_left
          ·intro w'
           go_simp; with_reducible rfl
          rotate_left
          ·exact KA
          refine pure_ (i := 1) (N := some 28) (v := ?_) (a' := ?_) #[true, true, false, false, false, false, false, false, false, false] rfl rfl (any_of HT_.out (by kernel_rfl)) (fun _ _ _ h => h) (Or.inl ⟨by rfl, ?_⟩) ?_ ?_; rotate_left
          ·intro w'
           go_simp; with_reducible rfl
          rotate_left
          ·exact KA
          refine pure_ (i := 2) (N := some 29) (v := ?_) (a' := ?_) #[true, true, true, false, false, false, false, false, false, false] rfl rfl (any_of HT_.out (by kernel_rfl)) (fun _ _ _ h => h) (Or.inl ⟨by rfl, ?_⟩) ?_ ?_; rotate_left
          ·intro w'
           go_simp; with_reducible rfl
          rotate_left
          ·exact KA
          refine pure_ (i := 3) (N := some 30) (v := ?_) (a' := ?_) #[true, true, true, true, false, false, false, false, false, false] rfl rfl (any_of HT_.out (by kernel_rfl)) (fun _ _ _ h => h) (Or.inl ⟨by rfl, ?_⟩) ?_ ?_; rotate_left
          ·intro w'
           go_simp; with_reducible rfl
          rotate_left
          ·exact KA
          refine take_ (i := 4) (N := some 31) (v := ?_) (a' := ?_) #[true, true, true, true, true, false, false, false, false, false] rfl rfl (take_ofW HT_.out HW_.out (by kernel_rfl)) (fun _ _ _ h => h) (Or.inl ⟨by rfl, ?_⟩) hHeld ?_ ?_; rotate_left
          ·rintro w' ⟨s0, s1, s2, s3, s4, s5, s6, s7⟩
           go_simp; with_reducible rfl
          rotate_left
          ·exact KA
          refine take_ (i := 5) (N := some 32) (v := ?_) (a' := ?_) #[true, true, true, true, true, true, false, false, false, false] rfl rfl (take_ofW HT_.out HW_.out (by kernel_rfl)) (fun _ _ _ h => h) (Or.inl ⟨by rfl, ?_⟩) hHeld ?_ ?_; rotate_left
          ·rintro w' ⟨s0, s1, s2, s3, s4, s5, s6, s7⟩
           go_simp; with_reducible rfl
          rotate_left
          ·exact KA
          refine one_ (i := 6) (N := some 33) #[true, true, true, true, true, true, true, false, false, false] rfl rfl (one_of HT_.out (by kernel_rfl)) (by decide) (fun K hK => ?_); refine goes_ Try.func90 (by kernel_rfl) rfl #[.agg #[.int .i64 ((rd_T35 l0 x7_1).f0), .int .i64 ((rd_T35 l0 x7_1).f1), .bool ((rd_T35 l0 x7_1).f2), .string ((rd_T35 l0 x7_1).f3)], .agg #[.int .i64 a1_0, .int .i64 a1_1, .bool a1_2, .string a1_3]] (by rfl) rfl rfl KL ?_; (with_reducible refine (spec_Better.calls ((rd_T35 l0 x7_1).f0) ((rd_T35 l0 x7_1).f1) ((rd_T35 l0 x7_1).f2) ((rd_T35 l0 x7_1).f3) a1_0 a1_1 a1_2 a1_3 t366 t367 t368 t369 _ A15.out).mono ?_); rintro e w18 ⟨rfl, hb⟩; refine ⟨_, rfl, ?_⟩; have h_ := P3 (Kd.R_below (KR HO_5.out) hb) (BL BK357.out hb) (below_step KB hb); clear HO_5 BK357 HB; obtain ⟨HO_5, BK357, HB⟩ := h_; (try clear hb); (try clear hk); (try clear hi); refine hK.out _ _ ⟨(blk_cell BK357.out 0).trans rfl, (blk_cell BK357.out 1).trans rfl, (blk_cell BK357.out 2).trans rfl, (blk_cell BK357.out 3).trans rfl, ((HB.out.cell (World.block_lt_of_cell? w _ hw365_0)).trans hw365_0), ((HB.out.cell (World.block_lt_of_cell? w _ hw365_1)).trans hw365_1), ((HB.out.cell (World.block_lt_of_cell? w _ hw365_2)).trans hw365_2), ((HB.out.cell (World.block_lt_of_cell? w _ hw365_3)).trans hw365_3)⟩ (fun hHeld => ?_); clear hK K; refine norm_ (a' := ?_) ?_ ?_; rotate_left
          ·show Act.put _ (some 33) _ = _; exact KA
          refine one_ (i := 7) (N := some 34) #[true, true, true, true, true, true, true, true, false, false] rfl rfl (one_of HT_.out (by kernel_rfl)) (by decide) (fun K hK => ?_); refine value_ (w1 := ?_) (v := ?_) (by rfl) rfl ?_ ?_; rotate_left 2
          ·go_simp
           constructor
           ·rfl
           ·rfl
          refine hK.out _ _ ⟨(blk_cell (blk_alloc BK357.out _) 0).trans rfl, (blk_cell (blk_alloc BK357.out _) 1).trans rfl, (blk_cell (blk_alloc BK357.out _) 2).trans rfl, (blk_cell (blk_alloc BK357.out _) 3).trans rfl, (World.cell?_alloc_lt _ _ _ (World.block_lt_of_cell? _ _ (((HB.out.cell (World.block_lt_of_cell? w _ hw365_0)).trans hw365_0)))).trans (((HB.out.cell (World.block_lt_of_cell? w _ hw365_0)).trans hw365_0)), (World.cell?_alloc_lt _ _ _ (World.block_lt_of_cell? _ _ (((HB.out.cell (World.block_lt_of_cell? w _ hw365_1)).trans hw365_1)))).trans (((HB.out.cell (World.block_lt_of_cell? w _ hw365_1)).trans hw365_1)), (World.cell?_alloc_lt _ _ _ (World.block_lt_of_cell? _ _ (((HB.out.cell (World.block_lt_of_cell? w _ hw365_2)).trans hw365_2)))).trans (((HB.out.cell (World.block_lt_of_cell? w _ hw365_2)).trans hw365_2)), (World.cell?_alloc_lt _ _ _ (World.block_lt_of_cell? _ _ (((HB.out.cell (World.block_lt_of_cell? w _ hw365_3)).trans hw365_3)))).trans (((HB.out.cell (World.block_lt_of_cell? w _ hw365_3)).trans hw365_3))⟩ (fun hHeld => ?_); clear hK K; refine norm_ (a' := ?_) ?_ ?_; rotate_left
          ·show Act.put _ (some 34) _ = _; exact KA
          refine one_ (i := 8) (N := some 35) #[true, true, true, true, true, true, true, true, true, false] rfl rfl (one_of HT_.out (by kernel_rfl)) (by decide) (fun K hK => ?_); refine Kd.R_append_step k35 (w0 := w) w.heap.size (by rfl) (.tmp 27) (.tmp 34) 29 35 (.agg #[(.int .i64 0), (.int .i64 0), (.bool false), (.string ⟨#[]⟩)]) 40 rfl Try.underlying29 info35 rfl (by decide) (by omega) u5 x5_1 (⟨t366, t367, t368, t369⟩ : S35) [.int .i64 t366, .int .i64 t367, .bool t368, .string t369] (fun k_ => k_ ≠ gb357) (fun _ => False) rfl rfl ?aP (fun _ hk => hk.elim) ?aF ?aO ?aB ?aS ?aL ?_; (case aP => exact k35_mkM _ _ _ (⟨t366, t367, t368, t369⟩ : S35)); (case aB => exact KB); (case aF => exact (fun k_ hk => Kd.freshB (g := gb357) (o := .cells #[.int .i64 a1_0, .int .i64 a1_1, .bool a1_2, .string a1_3] 35 (0, 0)) KK k_ hk)); (case aO => exact (KR HO_5.out)); (case aS => exact (below_size KB)); (case aL => have := LMc16.out; omega); intro v371 w19 ho hb hg hat; rw [← Ny370.out] at ho; have h_ := P3 (BW BK357.out hg (Kd.R_away HO_5.out (fun _ hk => hk))) hb ho; clear BK357 HB HO_5; obtain ⟨BK357, HB, HO372⟩ := h_; clear ho hb hg hat; refine hK.out _ _ ⟨(blk_cell BK357.out 0).trans rfl, (blk_cell BK357.out 1).trans rfl, (blk_cell BK357.out 2).trans rfl, (blk_cell BK357.out 3).trans rfl, ((HB.out.cell (World.block_lt_of_cell? w _ hw365_0)).trans hw365_0), ((HB.out.cell (World.block_lt_of_cell? w _ hw365_1)).trans hw365_1), ((HB.out.cell (World.block_lt_of_cell? w _ hw365_2)).trans hw365_2), ((HB.out.cell (World.block_lt_of_cell? w _ hw365_3)).trans hw365_3)⟩ (fun hHeld => ?_); clear hK K; refine norm_ (a' := ?_) ?_ ?_; rotate_left
          ·show Act.put _ (some 35) _ = _; exact KA
          refine pure_ (i := 9) (N := some 5) (v := ?_) (a' := ?_) #[true, true, true, true, true, true, true, true, true, true] rfl rfl (any_of HT_.out (by kernel_rfl)) (fun _ _ _ h => h) (Or.inl ⟨by rfl, ?_⟩) ?_ ?_; rotate_left
          ·intro w'
           go_simp; with_reducible rfl
          rotate_left
          ·exact KA
          refine done_ (done_of HT_.out (by kernel_rfl)) ?_
          try go_wp2
          go_roundg kj6
          case measure => have := HK1.out; have := HJ6.out; omega
          case rel => exact ⟨(y370), (true), (wrap64 (x7_1 + 1)), (by first | rfl | (simp; done) | (simp [*]; done)), (by first | rfl | (simp; done) | (simp [*]; done)), H', ⟨by have := HK1.out; have := HJ6.out; omega⟩, ⟨by (with_reducible repeat (first | apply Kd.R_alloc | apply Kd.R_drewN | apply Kd.R_drew)); exact HO372.out⟩, ⟨KK⟩, ⟨KB⟩⟩
         ·rw [if_neg c16] at H
          exact absurd H (by simp)
        ·rw [if_neg c14] at H
         exact absurd H (by simp)
       ·rw [if_neg c13] at H
        exact absurd H (by simp)
      ·replace c12 := Bool.eq_false_iff.mpr c12
       subst c12; have H1 : (if x6_1 = true then (if 0 ≤ x7_1 then (if x7_1 < (l0.length : Int) then (if x5_1.length < 3518437208883 then (spec_l6Keep.l0 kj6 l0 (x5_1 ++ [(⟨(rd_T35 l0 x7_1).f0, (rd_T35 l0 x7_1).f1, (rd_T35 l0 x7_1).f2, (rd_T35 l0 x7_1).f3⟩ : S35)]) x6_1 (wrap64 (x7_1 + 1)) a1_0 a1_1 a1_2 a1_3) else (none)) else (none)) else (none)) else (if 0 ≤ x7_1 then (if x7_1 < (l0.length : Int) then (if ((rd_T35 l0 x7_1).f0) > a1_0 then (if x5_1.length < 3518437208883 then ((some (x5_1 ++ [(⟨a1_0, a1_1, a1_2, a1_3⟩ : S35)] : List (S35))).bind fun y378 => (if y378.length < 3518437208883 then (spec_l6Keep.l0 kj6 l0 (y378 ++ [(⟨(rd_T35 l0 x7_1).f0, (rd_T35 l0 x7_1).f1, (rd_T35 l0 x7_1).f2, (rd_T35 l0 x7_1).f3⟩ : S35)]) true (wrap64 (x7_1 + 1)) a1_0 a1_1 a1_2 a1_3) else (none))) else (none)) else (if x5_1.length < 3518437208883 then (spec_l6Keep.l0 kj6 l0 (x5_1 ++ [(⟨(rd_T35 l0 x7_1).f0, (rd_T35 l0 x7_1).f1, (rd_T35 l0 x7_1).f2, (rd_T35 l0 x7_1).f3⟩ : S35)]) x6_1 (wrap64 (x7_1 + 1)) a1_0 a1_1 a1_2 a1_3) else (none))) else (none)) else (none))) = some r := by rw [if_neg (show ¬ (false = true) by decide)] at H; exact H
       clear H; have H := H1; clear H1
       by_cases c20 : x6_1 = true
       ·subst c20
        have H1 : (if 0 ≤ x7_1 then (if x7_1 < (l0.length : Int) then (if x5_1.length < 3518437208883 then (spec_l6Keep.l0 kj6 l0 (x5_1 ++ [(⟨(rd_T35 l0 x7_1).f0, (rd_T35 l0 x7_1).f1, (rd_T35 l0 x7_1).f2, (rd_T35 l0 x7_1).f3⟩ : S35)]) true (wrap64 (x7_1 + 1)) a1_0 a1_1 a1_2 a1_3) else (none)) else (none)) else (none)) = some r := by rw [if_pos rfl] at H; exact H
        clear H; have H := H1; clear H1
        by_cases c21 : 0 ≤ x7_1
        ·rw [if_pos c21] at H
         have c21b0 : decide (0 ≤ x7_1) = true := decide_eq_true c21; clear c21
         by_cases c22 : x7_1 < (l0.length : Int)
         ·rw [if_pos c22] at H
          have c22b0 : decide (x7_1 < (l0.length : Int)) = true := decide_eq_true c22; clear c22
          by_cases c23 : x5_1.length < 3518437208883
          ·rw [if_pos c23] at H
           have LMc23 := Aside0.mk c23; clear c23; obtain ⟨y374, hy374⟩ : ∃ y_ : List (S35), y_ = (x5_1 ++ [(⟨(rd_T35 l0 x7_1).f0, (rd_T35 l0 x7_1).f1, (rd_T35 l0 x7_1).f2, (rd_T35 l0 x7_1).f3⟩ : S35)]) := ⟨_, rfl⟩; replace H : (spec_l6Keep.l0 kj6 l0 y374 true (wrap64 (x7_1 + 1)) a1_0 a1_1 a1_2 a1_3) = some r := by first | (rw [hy374]; with_reducible exact H) | (have H2_ := (Option.bind_some _ _).symm.trans H; rw [hy374]; with_reducible exact H2_) | (have H2_ := (Option.bind_some _ _).symm.trans H; with_reducible exact H2_) | with_reducible exact H | (rw [hy374]; exact H) | exact H
           have Ny374 := Aside0.mk hy374; clear hy374; have H' := Aside0.mk H; clear H
           try go_wp2
           have h_ := P3 (Kd.R_drew HO_5.out) (blk_drew BK357.out) (below_drew1 HB.out); clear HO_5 BK357 HB; obtain ⟨HO_5, BK357, HB⟩ := h_; refine start_ (n := 12) (S := fun w' => True) (ds := []) #[false, false, false, false, false, false, false, false, false, false, false, false] (by kernel_rfl) rfl rfl trivial (fun hHeld => ?_); refine with_tabW spec_l6Keep.tab9 spec_l6Keep.bits9 (fun HT_ HW_ => ?_); generalize wc.drew = w24 at HO_5 BK357 HB hHeld ⊢; refine pure_ (i := 0) (N := some 36) (v := ?_) (a' := ?_) #[true, false, false, false, false, false, false, false, false, false, false, false] rfl rfl (any_of HT_.out (by kernel_rfl)) (fun _ _ _ h => h) (Or.inl ⟨by rfl, ?_⟩) ?_ ?_; rotate_left
           ·intro w'
            go_simp; with_reducible rfl
           rotate_left
           ·exact KA
           refine pure_ (i := 1) (N := some 37) (v := ?_) (a' := ?_) #[true, true, false, false, false, false, false, false, false, false, false, false] rfl rfl (any_of HT_.out (by kernel_rfl)) (fun _ _ _ h => h) (Or.inl ⟨by rfl, ?_⟩) ?_ ?_; rotate_left
           ·intro w'
            go_simp; with_reducible rfl
           rotate_left
           ·exact KA
           refine pure_ (i := 2) (N := some 38) (v := ?_) (a' := ?_) #[true, true, true, false, false, false, false, false, false, false, false, false] rfl rfl (any_of HT_.out (by kernel_rfl)) (fun _ _ _ h => h) (Or.inl ⟨by rfl, ?_⟩) ?_ ?_; rotate_left
           ·intro w'
            go_simp; with_reducible rfl
           rotate_left
           ·exact KA
           refine pure_ (i := 3) (N := some 39) (v := undef) (a' := ?_) #[true, true, true, true, false, false, false, false, false, false, false, false] rfl rfl (any_of HT_.out (by kernel_rfl)) (fun _ _ _ h => h) (Or.inr ⟨by rfl, rfl⟩) ?_ ?_; rotate_left
           ·exact KA
           refine pure_ (i := 4) (N := some 40) (v := undef) (a' := ?_) #[true, true, true, true, true, false, false, false, false, false, false, false] rfl rfl (any_of HT_.out (by kernel_rfl)) (fun _ _ _ h => h) (Or.inr ⟨by rfl, rfl⟩) ?_ ?_; rotate_left
           ·exact KA
           refine pure_ (i := 5) (N := some 41) (v := undef) (a' := ?_) #[true, true, true, true, true, true, false, false, false, false, false, false] rfl rfl (any_of HT_.out (by kernel_rfl)) (fun _ _ _ h => h) (Or.inr ⟨by rfl, rfl⟩) ?_ ?_; rotate_left
           ·exact KA
           refine pure_ (i := 6) (N := some 42) (v := undef) (a' := ?_) #[true, true, true, true, true, true, true, false, false, false, false, false] rfl rfl (any_of HT_.out (by kernel_rfl)) (fun _ _ _ h => h) (Or.inr ⟨by rfl, rfl⟩) ?_ ?_; rotate_left
           ·exact KA
           refine pure_ (i := 7) (N := some 43) (v := undef) (a' := ?_) #[true, true, true, true, true, true, true, true, false, false, false, false] rfl rfl (any_of HT_.out (by kernel_rfl)) (fun _ _ _ h => h) (Or.inr ⟨by rfl, rfl⟩) ?_ ?_; rotate_left
           ·exact KA
           refine pure_ (i := 8) (N := some 44) (v := undef) (a' := ?_) #[true, true, true, true, true, true, true, true, true, false, false, false] rfl rfl (any_of HT_.out (by kernel_rfl)) (fun _ _ _ h => h) (Or.inr ⟨by rfl, rfl⟩) ?_ ?_; rotate_left
           ·exact KA
           refine pure_ (i := 9) (N := some 45) (v := undef) (a' := ?_) #[true, true, true, true, true, true, true, true, true, true, false, false] rfl rfl (any_of HT_.out (by kernel_rfl)) (fun _ _ _ h => h) (Or.inr ⟨by rfl, rfl⟩) ?_ ?_; rotate_left
           ·exact KA
           refine pure_ (i := 10) (N := some 46) (v := undef) (a' := ?_) #[true, true, true, true, true, true, true, true, true, true, true, false] rfl rfl (any_of HT_.out (by kernel_rfl)) (fun _ _ _ h => h) (Or.inr ⟨by rfl, rfl⟩) ?_ ?_; rotate_left
           ·exact KA
           refine pure_ (i := 11) (N := some 47) (v := ?_) (a' := ?_) #[true, true, true, true, true, true, true, true, true, true, true, true] rfl rfl (any_of HT_.out (by kernel_rfl)) (fun _ _ _ h => h) (Or.inl ⟨by rfl, ?_⟩) ?_ ?_; rotate_left
           ·intro w'
            go_simp; with_reducible rfl
           rotate_left
           ·exact KA
           refine done_ (done_of HT_.out (by kernel_rfl)) ?_; have p373 : 0 ≤ (x7_1 : Int) := of_decide_eq_true (by first | (with_reducible assumption) | assumption); have q373 : x7_1 < (l0.length : Int) := of_decide_eq_true (by first | (with_reducible assumption) | assumption); obtain ⟨ad373, e373, hx373_0, hx373_1, hx373_2, hx373_3⟩ := at_T35 HR0.out x7_1 p373 q373
           cases e373
           replace hx373_0 := (HB.out.cell (World.block_lt_of_cell? w _ hx373_0)).trans hx373_0; replace hx373_1 := (HB.out.cell (World.block_lt_of_cell? w _ hx373_1)).trans hx373_1; replace hx373_2 := (HB.out.cell (World.block_lt_of_cell? w _ hx373_2)).trans hx373_2; replace hx373_3 := (HB.out.cell (World.block_lt_of_cell? w _ hx373_3)).trans hx373_3; replace p373 := eq_true p373; replace q373 := eq_true q373
           try go_wp2_with (first | ((with_reducible refine gate_builtin (b := .append) (xs := #[.tmp 52, .tmp 57]) rfl ?_); at_builtin; refine Kd.R_append k35 (w0 := w) w.heap.size rfl (.tmp 52) (.tmp 57) 29 35 (.agg #[(.int .i64 0), (.int .i64 0), (.bool false), (.string ⟨#[]⟩)]) 40 rfl Try.underlying29 info35 rfl (by decide) (by omega) u5 x5_1 (⟨(rd_T35 l0 x7_1).f0, (rd_T35 l0 x7_1).f1, (rd_T35 l0 x7_1).f2, (rd_T35 l0 x7_1).f3⟩ : S35) [.int .i64 ((rd_T35 l0 x7_1).f0), .int .i64 ((rd_T35 l0 x7_1).f1), .bool ((rd_T35 l0 x7_1).f2), .string ((rd_T35 l0 x7_1).f3)] (fun k_ => k_ ≠ gb357) (fun _ => False) rfl rfl ?aP (fun _ hk => hk.elim) ?aF ?aO ?aB ?aS ?aL ?_; (case aP => exact k35_mkM _ _ _ (⟨(rd_T35 l0 x7_1).f0, (rd_T35 l0 x7_1).f1, (rd_T35 l0 x7_1).f2, (rd_T35 l0 x7_1).f3⟩ : S35)); (case aB => exact KB); (case aF => exact (fun k_ hk => Kd.freshB (g := gb357) (o := .cells #[.int .i64 a1_0, .int .i64 a1_1, .bool a1_2, .string a1_3] 35 (0, 0)) KK k_ hk)); (case aO => exact (KR HO_5.out)); (case aS => exact (below_size KB)); (case aL => have := LMc23.out; omega); intro v375 w25 ho hb hg hat; rw [← Ny374.out] at ho; have h_ := P3 (BW BK357.out hg (Kd.R_away HO_5.out (fun _ hk => hk))) hb ho; clear BK357 HB HO_5; obtain ⟨BK357, HB, HO376⟩ := h_; clear ho hb hg hat))
           go_roundg kj6
           case measure => have := HK1.out; have := HJ6.out; omega
           case rel => exact ⟨(y374), (true), (wrap64 (x7_1 + 1)), (by first | rfl | (simp; done) | (simp [*]; done)), (by first | rfl | (simp; done) | (simp [*]; done)), H', ⟨by have := HK1.out; have := HJ6.out; omega⟩, ⟨by (with_reducible repeat (first | apply Kd.R_alloc | apply Kd.R_drewN | apply Kd.R_drew)); exact HO376.out⟩, ⟨KK⟩, ⟨KB⟩⟩
          ·rw [if_neg c23] at H
           exact absurd H (by simp)
         ·rw [if_neg c22] at H
          exact absurd H (by simp)
        ·rw [if_neg c21] at H
         exact absurd H (by simp)
       ·replace c20 := Bool.eq_false_iff.mpr c20
        subst c20; have H1 : (if 0 ≤ x7_1 then (if x7_1 < (l0.length : Int) then (if ((rd_T35 l0 x7_1).f0) > a1_0 then (if x5_1.length < 3518437208883 then ((some (x5_1 ++ [(⟨a1_0, a1_1, a1_2, a1_3⟩ : S35)] : List (S35))).bind fun y378 => (if y378.length < 3518437208883 then (spec_l6Keep.l0 kj6 l0 (y378 ++ [(⟨(rd_T35 l0 x7_1).f0, (rd_T35 l0 x7_1).f1, (rd_T35 l0 x7_1).f2, (rd_T35 l0 x7_1).f3⟩ : S35)]) true (wrap64 (x7_1 + 1)) a1_0 a1_1 a1_2 a1_3) else (none))) else (none)) else (if x5_1.length < 3518437208883 then (spec_l6Keep.l0 kj6 l0 (x5_1 ++ [(⟨(rd_T35 l0 x7_1).f0, (rd_T35 l0 x7_1).f1, (rd_T35 l0 x7_1).f2, (rd_T35 l0 x7_1).f3⟩ : S35)]) false (wrap64 (x7_1 + 1)) a1_0 a1_1 a1_2 a1_3) else (none))) else (none)) else (none)) = some r := by rw [if_neg (show ¬ (false = true) by decide)] at H; exact H
        clear H; have H := H1; clear H1
        by_cases c26 : 0 ≤ x7_1
        ·rw [if_pos c26] at H
         have c26b0 : decide (0 ≤ x7_1) = true := decide_eq_true c26; clear c26
         by_cases c27 : x7_1 < (l0.length : Int)
         ·rw [if_pos c27] at H
          have c27b0 : decide (x7_1 < (l0.length : Int)) = true := decide_eq_true c27; clear c27
          by_cases c28 : ((rd_T35 l0 x7_1).f0) > a1_0
          ·rw [if_pos c28] at H
           have c28b0 : decide (a1_0 < ((rd_T35 l0 x7_1).f0)) = true := decide_eq_true c28; clear c28
           by_cases c29 : x5_1.length < 3518437208883
           ·rw [if_pos c29] at H
            have LMc29 := Aside0.mk c29; clear c29; obtain ⟨y378, hy378⟩ : ∃ y_ : List (S35), y_ = (x5_1 ++ [(⟨a1_0, a1_1, a1_2, a1_3⟩ : S35)]) := ⟨_, rfl⟩; replace H : (if y378.length < 3518437208883 then (spec_l6Keep.l0 kj6 l0 (y378 ++ [(⟨(rd_T35 l0 x7_1).f0, (rd_T35 l0 x7_1).f1, (rd_T35 l0 x7_1).f2, (rd_T35 l0 x7_1).f3⟩ : S35)]) true (wrap64 (x7_1 + 1)) a1_0 a1_1 a1_2 a1_3) else (none)) = some r := by first | (rw [hy378]; with_reducible exact H) | (have H2_ := (Option.bind_some _ _).symm.trans H; rw [hy378]; with_reducible exact H2_) | (have H2_ := (Option.bind_some _ _).symm.trans H; with_reducible exact H2_) | with_reducible exact H | (rw [hy378]; exact H) | exact H
            have Ny378 := Aside0.mk hy378; clear hy378
            by_cases c30 : y378.length < 3518437208883
            ·rw [if_pos c30] at H
             have LMc30 := Aside0.mk c30; clear c30; obtain ⟨y382, hy382⟩ : ∃ y_ : List (S35), y_ = (y378 ++ [(⟨(rd_T35 l0 x7_1).f0, (rd_T35 l0 x7_1).f1, (rd_T35 l0 x7_1).f2, (rd_T35 l0 x7_1).f3⟩ : S35)]) := ⟨_, rfl⟩; replace H : (spec_l6Keep.l0 kj6 l0 y382 true (wrap64 (x7_1 + 1)) a1_0 a1_1 a1_2 a1_3) = some r := by first | (rw [hy382]; with_reducible exact H) | (have H2_ := (Option.bind_some _ _).symm.trans H; rw [hy382]; with_reducible exact H2_) | (have H2_ := (Option.bind_some _ _).symm.trans H; with_reducible exact H2_) | with_reducible exact H | (rw [hy382]; exact H) | exact H
             have Ny382 := Aside0.mk hy382; clear hy382; have H' := Aside0.mk H; clear H
             try go_wp2
             have h_ := P3 (Kd.R_drew HO_5.out) (blk_drew BK357.out) (below_drew1 HB.out); clear HO_5 BK357 HB; obtain ⟨HO_5, BK357, HB⟩ := h_; have p377 : 0 ≤ (x7_1 : Int) := of_decide_eq_true (by first | (with_reducible assumption) | assumption); have q377 : x7_1 < (l0.length : Int) := of_decide_eq_true (by first | (with_reducible assumption) | assumption); obtain ⟨ad377, e377, hx377_0, hx377_1, hx377_2, hx377_3⟩ := at_T35 HR0.out x7_1 p377 q377; have hw377_3 := hx377_3; have hw377_2 := hx377_2; have hw377_1 := hx377_1; have hw377_0 := hx377_0
             cases e377
             replace hx377_0 := (HB.out.cell (World.block_lt_of_cell? w _ hx377_0)).trans hx377_0; replace hx377_1 := (HB.out.cell (World.block_lt_of_cell? w _ hx377_1)).trans hx377_1; replace hx377_2 := (HB.out.cell (World.block_lt_of_cell? w _ hx377_2)).trans hx377_2; replace hx377_3 := (HB.out.cell (World.block_lt_of_cell? w _ hx377_3)).trans hx377_3; replace p377 := eq_true p377; replace q377 := eq_true q377; refine start_ (n := 12) (S := fun w' => w'.cell? ⟨gb357, 0, none⟩ = some (.int .i64 a1_0) ∧ w'.cell? ⟨gb357, 1, none⟩ = some (.int .i64 a1_1) ∧ w'.cell? ⟨gb357, 2, none⟩ = some (.bool a1_2) ∧ w'.cell? ⟨gb357, 3, none⟩ = some (.string a1_3) ∧ w'.cell? (ad377.add ((x7_1).toNat * 4)) = some (.int .i64 ((rd_T35 l0 x7_1).f0)) ∧ w'.cell? ⟨(ad377.add ((x7_1).toNat * 4)).block, (ad377.add ((x7_1).toNat * 4)).off + 1, none⟩ = some (.int .i64 ((rd_T35 l0 x7_1).f1)) ∧ w'.cell? ⟨(ad377.add ((x7_1).toNat * 4)).block, (ad377.add ((x7_1).toNat * 4)).off + 2, none⟩ = some (.bool ((rd_T35 l0 x7_1).f2)) ∧ w'.cell? ⟨(ad377.add ((x7_1).toNat * 4)).block, (ad377.add ((x7_1).toNat * 4)).off + 3, none⟩ = some (.string ((rd_T35 l0 x7_1).f3))) (ds := []) #[false, false, false, false, false, false, false, false, false, false, false, false] (by kernel_rfl) rfl rfl ⟨(blk_cell BK357.out 0).trans rfl, (blk_cell BK357.out 1).trans rfl, (blk_cell BK357.out 2).trans rfl, (blk_cell BK357.out 3).trans rfl, ((HB.out.cell (World.block_lt_of_cell? w _ hw377_0)).trans hw377_0), ((HB.out.cell (World.block_lt_of_cell? w _ hw377_1)).trans hw377_1), ((HB.out.cell (World.block_lt_of_cell? w _ hw377_2)).trans hw377_2), ((HB.out.cell (World.block_lt_of_cell? w _ hw377_3)).trans hw377_3)⟩ (fun hHeld => ?_); refine with_tabW spec_l6Keep.tab9 spec_l6Keep.bits9 (fun HT_ HW_ => ?_); generalize wc.drew = w31 at HO_5 BK357 HB hx377_0 hx377_1 hx377_2 hx377_3 hHeld ⊢; refine pure_ (i := 0) (N := some 36) (v := ?_) (a' := ?_) #[true, false, false, false, false, false, false, false, false, false, false, false] rfl rfl (any_of HT_.out (by kernel_rfl)) (fun _ _ _ h => h) (Or.inl ⟨by rfl, ?_⟩) ?_ ?_; rotate_left
             ·intro w'
              go_simp; with_reducible rfl
             rotate_left
             ·exact KA
             refine pure_ (i := 1) (N := some 37) (v := ?_) (a' := ?_) #[true, true, false, false, false, false, false, false, false, false, false, false] rfl rfl (any_of HT_.out (by kernel_rfl)) (fun _ _ _ h => h) (Or.inl ⟨by rfl, ?_⟩) ?_ ?_; rotate_left
             ·intro w'
              go_simp; with_reducible rfl
             rotate_left
             ·exact KA
             refine pure_ (i := 2) (N := some 38) (v := ?_) (a' := ?_) #[true, true, true, false, false, false, false, false, false, false, false, false] rfl rfl (any_of HT_.out (by kernel_rfl)) (fun _ _ _ h => h) (Or.inl ⟨by rfl, ?_⟩) ?_ ?_; rotate_left
             ·intro w'
              go_simp; with_reducible rfl
             rotate_left
             ·exact KA
             refine pure_ (i := 3) (N := some 39) (v := ?_) (a' := ?_) #[true, true, true, true, false, false, false, false, false, false, false, false] rfl rfl (any_of HT_.out (by kernel_rfl)) (fun _ _ _ h => h) (Or.inl ⟨by rfl, ?_⟩) ?_ ?_; rotate_left
             ·intro w'
              go_simp; with_reducible rfl
             rotate_left
             ·exact KA
             refine pure_ (i := 4) (N := some 40) (v := ?_) (a' := ?_) #[true, true, true, true, true, false, false, false, false, false, false, false] rfl rfl (any_of HT_.out (by kernel_rfl)) (fun _ _ _ h => h) (Or.inl ⟨by rfl, ?_⟩) ?_ ?_; rotate_left
             ·intro w'
              go_simp; with_reducible rfl
             rotate_left
             ·exact KA
             refine pure_ (i := 5) (N := some 41) (v := ?_) (a' := ?_) #[true, true, true, true, true, true, false, false, false, false, false, false] rfl rfl (any_of HT_.out (by kernel_rfl)) (fun _ _ _ h => h) (Or.inl ⟨by rfl, ?_⟩) ?_ ?_; rotate_left
             ·intro w'
              go_simp; with_reducible rfl
             rotate_left
             ·exact KA
             refine pure_ (i := 6) (N := some 42) (v := ?_) (a' := ?_) #[true, true, true, true, true, true, true, false, false, false, false, false] rfl rfl (any_of HT_.out (by kernel_rfl)) (fun _ _ _ h => h) (Or.inl ⟨by rfl, ?_⟩) ?_ ?_; rotate_left
             ·intro w'
              go_simp; with_reducible rfl
             rotate_left
             ·exact KA
             refine pure_ (i := 8) (N := some 44) (v := ?_) (a' := ?_) #[true, true, true, true, true, true, true, false, true, false, false, false] rfl rfl (any_of HT_.out (by kernel_rfl)) (fun _ _ _ h => h) (Or.inl ⟨by rfl, ?_⟩) ?_ ?_; rotate_left
             ·intro w'
              go_simp; with_reducible rfl
             rotate_left
             ·exact KA
             refine take_ (i := 7) (N := some 43) (v := ?_) (a' := ?_) #[true, true, true, true, true, true, true, true, true, false, false, false] rfl rfl (take_ofW HT_.out HW_.out (by kernel_rfl)) (fun _ _ _ h => h) (Or.inl ⟨by rfl, ?_⟩) hHeld ?_ ?_; rotate_left
             ·rintro w' ⟨s0, s1, s2, s3, s4, s5, s6, s7⟩
              go_simp; with_reducible rfl
             rotate_left
             ·exact KA
             refine take_ (i := 9) (N := some 45) (v := ?_) (a' := ?_) #[true, true, true, true, true, true, true, true, true, true, false, false] rfl rfl (take_ofW HT_.out HW_.out (by kernel_rfl)) (fun _ _ _ h => h) (Or.inl ⟨by rfl, ?_⟩) hHeld ?_ ?_; rotate_left
             ·rintro w' ⟨s0, s1, s2, s3, s4, s5, s6, s7⟩
              go_simp; with_reducible rfl
             rotate_left
             ·exact KA
             refine pure_ (i := 10) (N := some 46) (v := ?_) (a' := ?_) #[true, true, true, true, true, true, true, true, true, true, true, false] rfl rfl (any_of HT_.out (by kernel_rfl)) (fun _ _ _ h => h) (Or.inl ⟨by rfl, ?_⟩) ?_ ?_; rotate_left
             ·intro w'
              go_simp; with_reducible rfl
             rotate_left
             ·exact KA
             refine pure_ (i := 11) (N := some 47) (v := ?_) (a' := ?_) #[true, true, true, true, true, true, true, true, true, true, true, true] rfl rfl (any_of HT_.out (by kernel_rfl)) (fun _ _ _ h => h) (Or.inl ⟨by rfl, ?_⟩) ?_ ?_; rotate_left
             ·intro w'
              go_simp; with_reducible rfl
             rotate_left
             ·exact KA
             refine done_ (done_of HT_.out (by kernel_rfl)) ?_; obtain ⟨hcz32_0, hcz32_1, hcz32_2, hcz32_3, hfz32_0, hfz32_1, hfz32_2, hfz32_3⟩ := C4 BK357.out
             try go_wp2_with (first | ((with_reducible refine gate_builtin (b := .append) (xs := #[.tmp 48, .tmp 50]) rfl ?_); at_builtin; refine Kd.R_append k35 (w0 := w) w.heap.size rfl (.tmp 48) (.tmp 50) 29 35 (.agg #[(.int .i64 0), (.int .i64 0), (.bool false), (.string ⟨#[]⟩)]) 40 rfl Try.underlying29 info35 rfl (by decide) (by omega) u5 x5_1 (⟨a1_0, a1_1, a1_2, a1_3⟩ : S35) [.int .i64 a1_0, .int .i64 a1_1, .bool a1_2, .string a1_3] (fun k_ => k_ ≠ gb357) (fun _ => False) rfl rfl ?aP (fun _ hk => hk.elim) ?aF ?aO ?aB ?aS ?aL ?_; (case aP => exact k35_mkM _ _ _ (⟨a1_0, a1_1, a1_2, a1_3⟩ : S35)); (case aB => exact KB); (case aF => exact (fun k_ hk => Kd.freshB (g := gb357) (o := .cells #[.int .i64 a1_0, .int .i64 a1_1, .bool a1_2, .string a1_3] 35 (0, 0)) KK k_ hk)); (case aO => exact (KR HO_5.out)); (case aS => exact (below_size KB)); (case aL => have := LMc29.out; omega); intro v379 w33 ho hb hg hat; rw [← Ny378.out] at ho; have h_ := P3 (BW BK357.out hg (Kd.R_away HO_5.out (fun _ hk => hk))) hb ho; clear BK357 HB HO_5; obtain ⟨BK357, HB, HO380⟩ := h_; clear ho hb hg hat; have p381 : 0 ≤ (x7_1 : Int) := of_decide_eq_true (by first | (with_reducible assumption) | assumption); have q381 : x7_1 < (l0.length : Int) := of_decide_eq_true (by first | (with_reducible assumption) | assumption); obtain ⟨ad381, e381, hx381_0, hx381_1, hx381_2, hx381_3⟩ := at_T35 HR0.out x7_1 p381 q381; obtain rfl : ad377 = ad381 := (by injection e381); replace hx381_0 := (HB.out.cell (World.block_lt_of_cell? w _ hx381_0)).trans hx381_0; replace hx381_1 := (HB.out.cell (World.block_lt_of_cell? w _ hx381_1)).trans hx381_1; replace hx381_2 := (HB.out.cell (World.block_lt_of_cell? w _ hx381_2)).trans hx381_2; replace hx381_3 := (HB.out.cell (World.block_lt_of_cell? w _ hx381_3)).trans hx381_3; replace p381 := eq_true p381; replace q381 := eq_true q381) | ((with_reducible refine gate_builtin (b := .append) (xs := #[.tmp 52, .tmp 57]) rfl ?_); at_builtin; refine Kd.R_append k35 (w0 := w) w.heap.size rfl (.tmp 52) (.tmp 57) 29 35 (.agg #[(.int .i64 0), (.int .i64 0), (.bool false), (.string ⟨#[]⟩)]) 40 rfl Try.underlying29 info35 rfl (by decide) (by omega) v379 y378 (⟨(rd_T35 l0 x7_1).f0, (rd_T35 l0 x7_1).f1, (rd_T35 l0 x7_1).f2, (rd_T35 l0 x7_1).f3⟩ : S35) [.int .i64 ((rd_T35 l0 x7_1).f0), .int .i64 ((rd_T35 l0 x7_1).f1), .bool ((rd_T35 l0 x7_1).f2), .string ((rd_T35 l0 x7_1).f3)] (fun k_ => k_ ≠ gb357) (fun _ => False) rfl rfl ?aP (fun _ hk => hk.elim) ?aF ?aO ?aB ?aS ?aL ?_; (case aP => exact k35_mkM _ _ _ (⟨(rd_T35 l0 x7_1).f0, (rd_T35 l0 x7_1).f1, (rd_T35 l0 x7_1).f2, (rd_T35 l0 x7_1).f3⟩ : S35)); (case aB => exact KB); (case aF => exact (fun k_ hk => Kd.freshB (g := gb357) (o := .cells #[.int .i64 a1_0, .int .i64 a1_1, .bool a1_2, .string a1_3] 35 (0, 0)) KK k_ hk)); (case aO => exact (KR HO380.out)); (case aS => exact (below_size KB)); (case aL => have := LMc30.out; omega); intro v383 w34 ho hb hg hat; rw [← Ny382.out] at ho; have h_ := P3 (BW BK357.out hg (Kd.R_away HO380.out (fun _ hk => hk))) hb ho; clear BK357 HB HO380; obtain ⟨BK357, HB, HO384⟩ := h_; clear ho hb hg hat))
             go_roundg kj6
             case measure => have := HK1.out; have := HJ6.out; omega
             case rel => exact ⟨(y382), (true), (wrap64 (x7_1 + 1)), (by first | rfl | (simp; done) | (simp [*]; done)), (by first | rfl | (simp; done) | (simp [*]; done)), H', ⟨by have := HK1.out; have := HJ6.out; omega⟩, ⟨by (with_reducible repeat (first | apply Kd.R_alloc | apply Kd.R_drewN | apply Kd.R_drew)); exact HO384.out⟩, ⟨KK⟩, ⟨KB⟩⟩
            ·rw [if_neg c30] at H
             exact absurd H (by simp)
           ·rw [if_neg c29] at H
            exact absurd H (by simp)
          ·rw [if_neg c28] at H
           have c28b0 : decide (a1_0 < ((rd_T35 l0 x7_1).f0)) = false := decide_eq_false c28; clear c28
           by_cases c35 : x5_1.length < 3518437208883
           ·rw [if_pos c35] at H
            have LMc35 := Aside0.mk c35; clear c35; obtain ⟨y386, hy386⟩ : ∃ y_ : List (S35), y_ = (x5_1 ++ [(⟨(rd_T35 l0 x7_1).f0, (rd_T35 l0 x7_1).f1, (rd_T35 l0 x7_1).f2, (rd_T35 l0 x7_1).f3⟩ : S35)]) := ⟨_, rfl⟩; replace H : (spec_l6Keep.l0 kj6 l0 y386 false (wrap64 (x7_1 + 1)) a1_0 a1_1 a1_2 a1_3) = some r := by first | (rw [hy386]; with_reducible exact H) | (have H2_ := (Option.bind_some _ _).symm.trans H; rw [hy386]; with_reducible exact H2_) | (have H2_ := (Option.bind_some _ _).symm.trans H; with_reducible exact H2_) | with_reducible exact H | (rw [hy386]; exact H) | exact H
            have Ny386 := Aside0.mk hy386; clear hy386; have H' := Aside0.mk H; clear H
            try go_wp2
            have h_ := P3 (Kd.R_drew HO_5.out) (blk_drew BK357.out) (below_drew1 HB.out); clear HO_5 BK357 HB; obtain ⟨HO_5, BK357, HB⟩ := h_; have p377 : 0 ≤ (x7_1 : Int) := of_decide_eq_true (by first | (with_reducible assumption) | assumption); have q377 : x7_1 < (l0.length : Int) := of_decide_eq_true (by first | (with_reducible assumption) | assumption); obtain ⟨ad377, e377, hx377_0, hx377_1, hx377_2, hx377_3⟩ := at_T35 HR0.out x7_1 p377 q377; have hw377_3 := hx377_3; have hw377_2 := hx377_2; have hw377_1 := hx377_1; have hw377_0 := hx377_0
            cases e377
            replace hx377_0 := (HB.out.cell (World.block_lt_of_cell? w _ hx377_0)).trans hx377_0; replace hx377_1 := (HB.out.cell (World.block_lt_of_cell? w _ hx377_1)).trans hx377_1; replace hx377_2 := (HB.out.cell (World.block_lt_of_cell? w _ hx377_2)).trans hx377_2; replace hx377_3 := (HB.out.cell (World.block_lt_of_cell? w _ hx377_3)).trans hx377_3; replace p377 := eq_true p377; replace q377 := eq_true q377; refine start_ (n := 12) (S := fun w' => w'.cell? ⟨gb357, 0, none⟩ = some (.int .i64 a1_0) ∧ w'.cell? ⟨gb357, 1, none⟩ = some (.int .i64 a1_1) ∧ w'.cell? ⟨gb357, 2, none⟩ = some (.bool a1_2) ∧ w'.cell? ⟨gb357, 3, none⟩ = some (.string a1_3) ∧ w'.cell? (ad377.add ((x7_1).toNat * 4)) = some (.int .i64 ((rd_T35 l0 x7_1).f0)) ∧ w'.cell? ⟨(ad377.add ((x7_1).toNat * 4)).block, (ad377.add ((x7_1).toNat * 4)).off + 1, none⟩ = some (.int .i64 ((rd_T35 l0 x7_1).f1)) ∧ w'.cell? ⟨(ad377.add ((x7_1).toNat * 4)).block, (ad377.add ((x7_1).toNat * 4)).off + 2, none⟩ = some (.bool ((rd_T35 l0 x7_1).f2)) ∧ w'.cell? ⟨(ad377.add ((x7_1).toNat * 4)).block, (ad377.add ((x7_1).toNat * 4)).off + 3, none⟩ = some (.string ((rd_T35 l0 x7_1).f3))) (ds := []) #[false, false, false, false, false, false, false, false, false, false, false, false] (by kernel_rfl) rfl rfl ⟨(blk_cell BK357.out 0).trans rfl, (blk_cell BK357.out 1).trans rfl, (blk_cell BK357.out 2).trans rfl, (blk_cell BK357.out 3).trans rfl, ((HB.out.cell (World.block_lt_of_cell? w _ hw377_0)).trans hw377_0), ((HB.out.cell (World.block_lt_of_cell? w _ hw377_1)).trans hw377_1), ((HB.out.cell (World.block_lt_of_cell? w _ hw377_2)).trans hw377_2), ((HB.out.cell (World.block_lt_of_cell? w _ hw377_3)).trans hw377_3)⟩ (fun hHeld => ?_); refine with_tabW spec_l6Keep.tab9 spec_l6Keep.bits9 (fun HT_ HW_ => ?_); generalize wc.drew = w36 at HO_5 BK357 HB hx377_0 hx377_1 hx377_2 hx377_3 hHeld ⊢; refine pure_ (i := 0) (N := some 36) (v := ?_) (a' := ?_) #[true, false, false, false, false, false, false, false, false, false, false, false] rfl rfl (any_of HT_.out (by kernel_rfl)) (fun _ _ _ h => h) (Or.inl ⟨by rfl, ?_⟩) ?_ ?_; rotate_left
            ·intro w'
             go_simp; with_reducible rfl
            rotate_left
            ·exact KA
            refine pure_ (i := 1) (N := some 37) (v := ?_) (a' := ?_) #[true, true, false, false, false, false, false, false, false, false, false, false] rfl rfl (any_of HT_.out (by kernel_rfl)) (fun _ _ _ h => h) (Or.inl ⟨by rfl, ?_⟩) ?_ ?_; rotate_left
            ·intro w'
             go_simp; with_reducible rfl
            rotate_left
            ·exact KA
            refine pure_ (i := 2) (N := some 38) (v := ?_) (a' := ?_) #[true, true, true, false, false, false, false, false, false, false, false, false] rfl rfl (any_of HT_.out (by kernel_rfl)) (fun _ _ _ h => h) (Or.inl ⟨by rfl, ?_⟩) ?_ ?_; rotate_left
            ·intro w'
             go_simp; with_reducible rfl
            rotate_left
            ·exact KA
            refine pure_ (i := 3) (N := some 39) (v := ?_) (a' := ?_) #[true, true, true, true, false, false, false, false, false, false, false, false] rfl rfl (any_of HT_.out (by kernel_rfl)) (fun _ _ _ h => h) (Or.inl ⟨by rfl, ?_⟩) ?_ ?_; rotate_left
            ·intro w'
             go_simp; with_reducible rfl
            rotate_left
            ·exact KA
            refine pure_ (i := 4) (N := some 40) (v := ?_) (a' := ?_) #[true, true, true, true, true, false, false, false, false, false, false, false] rfl rfl (any_of HT_.out (by kernel_rfl)) (fun _ _ _ h => h) (Or.inl ⟨by rfl, ?_⟩) ?_ ?_; rotate_left
            ·intro w'
             go_simp; with_reducible rfl
            rotate_left
            ·exact KA
            refine pure_ (i := 5) (N := some 41) (v := ?_) (a' := ?_) #[true, true, true, true, true, true, false, false, false, false, false, false] rfl rfl (any_of HT_.out (by kernel_rfl)) (fun _ _ _ h => h) (Or.inl ⟨by rfl, ?_⟩) ?_ ?_; rotate_left
            ·intro w'
             go_simp; with_reducible rfl
            rotate_left
            ·exact KA
            refine pure_ (i := 6) (N := some 42) (v := ?_) (a' := ?_) #[true, true, true, true, true, true, true, false, false, false, false, false] rfl rfl (any_of HT_.out (by kernel_rfl)) (fun _ _ _ h => h) (Or.inl ⟨by rfl, ?_⟩) ?_ ?_; rotate_left
            ·intro w'
             go_simp; with_reducible rfl
            rotate_left
            ·exact KA
            refine pure_ (i := 8) (N := some 44) (v := ?_) (a' := ?_) #[true, true, true, true, true, true, true, false, true, false, false, false] rfl rfl (any_of HT_.out (by kernel_rfl)) (fun _ _ _ h => h) (Or.inl ⟨by rfl, ?_⟩) ?_ ?_; rotate_left
            ·intro w'
             go_simp; with_reducible rfl
            rotate_left
            ·exact KA
            refine take_ (i := 7) (N := some 43) (v := ?_) (a' := ?_) #[true, true, true, true, true, true, true, true, true, false, false, false] rfl rfl (take_ofW HT_.out HW_.out (by kernel_rfl)) (fun _ _ _ h => h) (Or.inl ⟨by rfl, ?_⟩) hHeld ?_ ?_; rotate_left
            ·rintro w' ⟨s0, s1, s2, s3, s4, s5, s6, s7⟩
             go_simp; with_reducible rfl
            rotate_left
            ·exact KA
            refine take_ (i := 9) (N := some 45) (v := ?_) (a' := ?_) #[true, true, true, true, true, true, true, true, true, true, false, false] rfl rfl (take_ofW HT_.out HW_.out (by kernel_rfl)) (fun _ _ _ h => h) (Or.inl ⟨by rfl, ?_⟩) hHeld ?_ ?_; rotate_left
            ·rintro w' ⟨s0, s1, s2, s3, s4, s5, s6, s7⟩
             go_simp; with_reducible rfl
            rotate_left
            ·exact KA
            refine pure_ (i := 10) (N := some 46) (v := ?_) (a' := ?_) #[true, true, true, true, true, true, true, true, true, true, true, false] rfl rfl (any_of HT_.out (by kernel_rfl)) (fun _ _ _ h => h) (Or.inl ⟨by rfl, ?_⟩) ?_ ?_; rotate_left
            ·intro w'
             go_simp; with_reducible rfl
            rotate_left
            ·exact KA
            refine pure_ (i := 11) (N := some 47) (v := ?_) (a' := ?_) #[true, true, true, true, true, true, true, true, true, true, true, true] rfl rfl (any_of HT_.out (by kernel_rfl)) (fun _ _ _ h => h) (Or.inl ⟨by rfl, ?_⟩) ?_ ?_; rotate_left
            ·intro w'
             go_simp; with_reducible rfl
            rotate_left
            ·exact KA
            refine done_ (done_of HT_.out (by kernel_rfl)) ?_; have p385 : 0 ≤ (x7_1 : Int) := of_decide_eq_true (by first | (with_reducible assumption) | assumption); have q385 : x7_1 < (l0.length : Int) := of_decide_eq_true (by first | (with_reducible assumption) | assumption); obtain ⟨ad385, e385, hx385_0, hx385_1, hx385_2, hx385_3⟩ := at_T35 HR0.out x7_1 p385 q385; obtain rfl : ad377 = ad385 := (by injection e385); replace hx385_0 := (HB.out.cell (World.block_lt_of_cell? w _ hx385_0)).trans hx385_0; replace hx385_1 := (HB.out.cell (World.block_lt_of_cell? w _ hx385_1)).trans hx385_1; replace hx385_2 := (HB.out.cell (World.block_lt_of_cell? w _ hx385_2)).trans hx385_2; replace hx385_3 := (HB.out.cell (World.block_lt_of_cell? w _ hx385_3)).trans hx385_3; replace p385 := eq_true p385; replace q385 := eq_true q385
            try go_wp2_with (first | ((with_reducible refine gate_builtin (b := .append) (xs := #[.tmp 52, .tmp 57]) rfl ?_); at_builtin; refine Kd.R_append k35 (w0 := w) w.heap.size rfl (.tmp 52) (.tmp 57) 29 35 (.agg #[(.int .i64 0), (.int .i64 0), (.bool false), (.string ⟨#[]⟩)]) 40 rfl Try.underlying29 info35 rfl (by decide) (by omega) u5 x5_1 (⟨(rd_T35 l0 x7_1).f0, (rd_T35 l0 x7_1).f1, (rd_T35 l0 x7_1).f2, (rd_T35 l0 x7_1).f3⟩ : S35) [.int .i64 ((rd_T35 l0 x7_1).f0), .int .i64 ((rd_T35 l0 x7_1).f1), .bool ((rd_T35 l0 x7_1).f2), .string ((rd_T35 l0 x7_1).f3)] (fun k_ => k_ ≠ gb357) (fun _ => False) rfl rfl ?aP (fun _ hk => hk.elim) ?aF ?aO ?aB ?aS ?aL ?_; (case aP => exact k35_mkM _ _ _ (⟨(rd_T35 l0 x7_1).f0, (rd_T35 l0 x7_1).f1, (rd_T35 l0 x7_1).f2, (rd_T35 l0 x7_1).f3⟩ : S35)); (case aB => exact KB); (case aF => exact (fun k_ hk => Kd.freshB (g := gb357) (o := .cells #[.int .i64 a1_0, .int .i64 a1_1, .bool a1_2, .string a1_3] 35 (0, 0)) KK k_ hk)); (case aO => exact (KR HO_5.out)); (case aS => exact (below_size KB)); (case aL => have := LMc35.out; omega); intro v387 w37 ho hb hg hat; rw [← Ny386.out] at ho; have h_ := P3 (BW BK357.out hg (Kd.R_away HO_5.out (fun _ hk => hk))) hb ho; clear BK357 HB HO_5; obtain ⟨BK357, HB, HO388⟩ := h_; clear ho hb hg hat))
            go_roundg kj6
            case measure => have := HK1.out; have := HJ6.out; omega
            case rel => exact ⟨(y386), (false), (wrap64 (x7_1 + 1)), (by first | rfl | (simp; done) | (simp [*]; done)), (by first | rfl | (simp; done) | (simp [*]; done)), H', ⟨by have := HK1.out; have := HJ6.out; omega⟩, ⟨by (with_reducible repeat (first | apply Kd.R_alloc | apply Kd.R_drewN | apply Kd.R_drew)); exact HO388.out⟩, ⟨KK⟩, ⟨KB⟩⟩
           ·rw [if_neg c35] at H
            exact absurd H (by simp)
         ·rw [if_neg c27] at H
          exact absurd H (by simp)
        ·rw [if_neg c26] at H
         exact absurd H (by simp)
   ·rw [if_neg c6] at H
    have c6b0 : decide (x7_1 < (l0.length : Int)) = false := decide_eq_false c6; clear c6
    by_cases c38 : x6_1 = true
    ·subst c38
     have H1 : (some x5_1) = some r := by rw [if_pos rfl] at H; exact H
     clear H; have H := H1; clear H1; obtain rfl := Option.some.inj H
     go_wp2
     go_ret
     exact ⟨_, KE, by (with_reducible repeat (first | apply Kd.R_alloc | apply Kd.R_drewN | apply Kd.R_drew)); exact Kd.R_mono HO_5.out (fun _ hk => trivial), KB⟩
    ·replace c38 := Bool.eq_false_iff.mpr c38
     subst c38; have H1 : (if x5_1.length < 3518437208883 then (some (x5_1 ++ [(⟨a1_0, a1_1, a1_2, a1_3⟩ : S35)])) else (none)) = some r := by rw [if_neg (show ¬ (false = true) by decide)] at H; exact H
     clear H; have H := H1; clear H1
     by_cases c39 : x5_1.length < 3518437208883
     ·rw [if_pos c39] at H
      have LMc39 := Aside0.mk c39; clear c39; obtain ⟨y361, hy361⟩ : ∃ y_ : List (S35), y_ = (x5_1 ++ [(⟨a1_0, a1_1, a1_2, a1_3⟩ : S35)]) := ⟨_, rfl⟩; replace H : (some y361) = some r := by first | (rw [hy361]; with_reducible exact H) | (have H2_ := (Option.bind_some _ _).symm.trans H; rw [hy361]; with_reducible exact H2_) | (have H2_ := (Option.bind_some _ _).symm.trans H; with_reducible exact H2_) | with_reducible exact H | (rw [hy361]; exact H) | exact H
      have Ny361 := Aside0.mk hy361; clear hy361; obtain rfl := Option.some.inj H; obtain ⟨hcz40_0, hcz40_1, hcz40_2, hcz40_3, hfz40_0, hfz40_1, hfz40_2, hfz40_3⟩ := C4 BK357.out
      go_wp2_with (first | ((with_reducible refine gate_builtin (b := .append) (xs := #[.tmp 61, .tmp 63]) rfl ?_); at_builtin; refine Kd.R_append k35 (w0 := w) w.heap.size rfl (.tmp 61) (.tmp 63) 29 35 (.agg #[(.int .i64 0), (.int .i64 0), (.bool false), (.string ⟨#[]⟩)]) 40 rfl Try.underlying29 info35 rfl (by decide) (by omega) u5 x5_1 (⟨a1_0, a1_1, a1_2, a1_3⟩ : S35) [.int .i64 a1_0, .int .i64 a1_1, .bool a1_2, .string a1_3] (fun k_ => k_ ≠ gb357) (fun _ => False) rfl rfl ?aP (fun _ hk => hk.elim) ?aF ?aO ?aB ?aS ?aL ?_; (case aP => exact k35_mkM _ _ _ (⟨a1_0, a1_1, a1_2, a1_3⟩ : S35)); (case aB => exact KB); (case aF => exact (fun k_ hk => Kd.freshB (g := gb357) (o := .cells #[.int .i64 a1_0, .int .i64 a1_1, .bool a1_2, .string a1_3] 35 (0, 0)) KK k_ hk)); (case aO => exact (KR HO_5.out)); (case aS => exact (below_size KB)); (case aL => have := LMc39.out; omega); intro v362 w41 ho hb hg hat; rw [← Ny361.out] at ho; have h_ := P3 (BW BK357.out hg (Kd.R_away HO_5.out (fun _ hk => hk))) hb ho; clear BK357 HB HO_5; obtain ⟨BK357, HB, HO363⟩ := h_; clear ho hb hg hat))
      go_ret
      exact ⟨_, KE, by (with_reducible repeat (first | apply Kd.R_alloc | apply Kd.R_drewN | apply Kd.R_drew)); exact Kd.R_mono HO363.out (fun _ hk => trivial), KB⟩
     ·rw [if_neg c39] at H
      exact absurd H (by simp)

end Go.Proofs.Ytnoghojlpicecaa.PFnStored
