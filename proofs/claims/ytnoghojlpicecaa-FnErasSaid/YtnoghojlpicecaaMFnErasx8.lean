-- What each Go function that this law reaches comes to: written by a program out of the translation.
import Derived.Test.YtnoghojlpicecaaMFnErasx0
import Derived.Test.YtnoghojlpicecaaMFnErasx7
namespace Go.Proofs.Ytnoghojlpicecaa.PFnEras
open Go.RowKit Go.Proofs.YtnoghojlpicecaaW.PrintWords Go.Proofs.YtnoghojlpicecaaW.PrintLast Go.Proofs.YtnoghojlpicecaaW.PrintMore
attribute [local go_sem] max2_int min2_int max_two min_two max_three min_three max_four min_four   -- for this text's walks alone
set_option linter.unusedVariables false
set_option linter.unusedSimpArgs false

/-! ### spec_l6Keep: function 65 -/
mutual
def spec_l6Keep.l0 : Nat → List (S35) → List (S35) → Bool → Int → Int → Int → Bool → ByteArray → Option ((List (S35)))
 | 0, _, _, _, _, _, _, _, _ => none
 | k + 1, x0, x5, x6, x7, x338000, x338001, x338002, x338003 => if x7 < (x0.length : Int) then (if x6 = true then (spec_l6Keep.j1 k x0 x5 x6 x7 false x338000 x338001 x338002 x338003) else (if 0 ≤ x7 then (spec_l6Keep.j1 k x0 x5 x6 x7 (((rd_T35 x0 x7).f0) == x338000) x338000 x338001 x338002 x338003) else (none))) else (if x6 = true then (some x5) else (if x5.length < 3518437208883 then (some (x5 ++ [(⟨x338000, x338001, x338002, x338003⟩ : S35)])) else (none)))
def spec_l6Keep.j1 : Nat → List (S35) → List (S35) → Bool → Int → Bool → Int → Int → Bool → ByteArray → Option ((List (S35)))
 | 0, _, _, _, _, _, _, _, _, _ => none
 | k + 1, x0, x5, x6, x7, x26, x338000, x338001, x338002, x338003 => if x26 = true then (if 0 ≤ x7 then (if x7 < (x0.length : Int) then ((spec_Better.f ((rd_T35 x0 x7).f0) ((rd_T35 x0 x7).f1) ((rd_T35 x0 x7).f2) ((rd_T35 x0 x7).f3) x338000 x338001 x338002 x338003).bind fun bt346 => (if x5.length < 3518437208883 then (spec_l6Keep.l0 k x0 (x5 ++ [(⟨bt346.1, bt346.2.1, bt346.2.2.1, bt346.2.2.2⟩ : S35)]) true (wrap64 (x7 + 1)) x338000 x338001 x338002 x338003) else (none))) else (none)) else (none)) else (if x6 = true then (if 0 ≤ x7 then (if x7 < (x0.length : Int) then (if x5.length < 3518437208883 then (spec_l6Keep.l0 k x0 (x5 ++ [(⟨(rd_T35 x0 x7).f0, (rd_T35 x0 x7).f1, (rd_T35 x0 x7).f2, (rd_T35 x0 x7).f3⟩ : S35)]) x6 (wrap64 (x7 + 1)) x338000 x338001 x338002 x338003) else (none)) else (none)) else (none)) else (if 0 ≤ x7 then (if x7 < (x0.length : Int) then (if ((rd_T35 x0 x7).f0) > x338000 then (if x5.length < 3518437208883 then ((some (x5 ++ [(⟨x338000, x338001, x338002, x338003⟩ : S35)] : List (S35))).bind fun y358 => (if y358.length < 3518437208883 then (spec_l6Keep.l0 k x0 (y358 ++ [(⟨(rd_T35 x0 x7).f0, (rd_T35 x0 x7).f1, (rd_T35 x0 x7).f2, (rd_T35 x0 x7).f3⟩ : S35)]) true (wrap64 (x7 + 1)) x338000 x338001 x338002 x338003) else (none))) else (none)) else (if x5.length < 3518437208883 then (spec_l6Keep.l0 k x0 (x5 ++ [(⟨(rd_T35 x0 x7).f0, (rd_T35 x0 x7).f1, (rd_T35 x0 x7).f2, (rd_T35 x0 x7).f3⟩ : S35)]) x6 (wrap64 (x7 + 1)) x338000 x338001 x338002 x338003) else (none))) else (none)) else (none)))
end
def spec_l6Keep.f (k : Nat) (l0 : List (S35)) (a1_0 : Int) (a1_1 : Int) (a1_2 : Bool) (a1_3 : ByteArray) : Option ((List (S35))) := spec_l6Keep.l0 k l0 (([] : List (S35))) false 0 a1_0 a1_1 a1_2 a1_3
theorem spec_l6Keep.mono_l : ∀ k, (∀ y0 y1 y2 y3 y4 y5 y6 y7, LeO (spec_l6Keep.l0 k y0 y1 y2 y3 y4 y5 y6 y7) (spec_l6Keep.l0 (k + 1) y0 y1 y2 y3 y4 y5 y6 y7)) ∧ (∀ y0 y1 y2 y3 y4 y5 y6 y7 y8, LeO (spec_l6Keep.j1 k y0 y1 y2 y3 y4 y5 y6 y7 y8) (spec_l6Keep.j1 (k + 1) y0 y1 y2 y3 y4 y5 y6 y7 y8))
 | 0 => ⟨fun _ _ _ _ _ _ _ _ r h => by simp [spec_l6Keep.l0] at h, fun _ _ _ _ _ _ _ _ _ r h => by simp [spec_l6Keep.j1] at h⟩
 | k + 1 => by
  obtain ⟨ih0, ih1⟩ := spec_l6Keep.mono_l k; refine ⟨?_, ?_⟩
  ·intro y0 y1 y2 y3 y4 y5 y6 y7
   unfold spec_l6Keep.l0
   repeat' first
   | (with_reducible exact ih0 _ _ _ _ _ _ _ _)
   | (with_reducible exact ih1 _ _ _ _ _ _ _ _ _)
   | (with_reducible exact LeO.refl _)
   | (with_reducible exact LeO.none _)
   | (with_reducible refine LeO.ite ?_ ?_)
   | (with_reducible refine LeO.bind ?_ (fun _ => ?_))
   | exact ih0 _ _ _ _ _ _ _ _
   | exact ih1 _ _ _ _ _ _ _ _ _
   | exact LeO.none _
   | refine LeO.ite ?_ ?_
   | refine LeO.bind ?_ (fun _ => ?_)
  ·intro y0 y1 y2 y3 y4 y5 y6 y7 y8
   unfold spec_l6Keep.j1
   repeat' first
   | (with_reducible exact ih0 _ _ _ _ _ _ _ _)
   | (with_reducible exact ih1 _ _ _ _ _ _ _ _ _)
   | (with_reducible exact LeO.refl _)
   | (with_reducible exact LeO.none _)
   | (with_reducible refine LeO.ite ?_ ?_)
   | (with_reducible refine LeO.bind ?_ (fun _ => ?_))
   | exact ih0 _ _ _ _ _ _ _ _
   | exact ih1 _ _ _ _ _ _ _ _ _
   | exact LeO.none _
   | refine LeO.ite ?_ ?_
   | refine LeO.bind ?_ (fun _ => ?_)
theorem spec_l6Keep.mono : ∀ a0 a1 a2 a3 a4 k, LeO (spec_l6Keep.f k a0 a1 a2 a3 a4) (spec_l6Keep.f (k + 1) a0 a1 a2 a3 a4) := by
 intro a0 a1 a2 a3 a4 k; obtain ⟨ih0, ih1⟩ := spec_l6Keep.mono_l k
 unfold spec_l6Keep.f
 repeat' first
   | (with_reducible exact ih0 _ _ _ _ _ _ _ _)
   | (with_reducible exact ih1 _ _ _ _ _ _ _ _ _)
   | (with_reducible exact LeO.refl _)
   | (with_reducible exact LeO.none _)
   | (with_reducible refine LeO.ite ?_ ?_)
   | (with_reducible refine LeO.bind ?_ (fun _ => ?_))
   | exact ih0 _ _ _ _ _ _ _ _
   | exact ih1 _ _ _ _ _ _ _ _ _
   | exact LeO.none _
   | refine LeO.ite ?_ ?_
   | refine LeO.bind ?_ (fun _ => ?_)
def spec_l6Keep.T6 : Bool × List (List Nat × List Nat) := (true, [([], []), ([0], [0]), ([1], [1]), ([2], [2]), ([2], [2]), ([3, 4, 2], [2, 3, 4]), ([5, 2], [2, 5]), ([6, 2], [2, 6]), ([2], [2]), ([8, 2], [2, 8]), ([7, 9, 2], [2, 7, 9]), ([2, 10], [2, 10])])
def spec_l6Keep.B6 : List Nat := [0, 1, 3, 7, 7, 31, 63, 127, 7, 263, 1023, 2047]
theorem spec_l6Keep.tab6 : rtab .any (opsOf Try.f65 6) = spec_l6Keep.T6 := by kernel_rfl
theorem spec_l6Keep.bits6 : waitsOk spec_l6Keep.T6.2 spec_l6Keep.B6 = true := by kernel_rfl
def spec_l6Keep.T7 : Bool × List (List Nat × List Nat) := (true, [([], []), ([], []), ([], []), ([1, 2], [1, 2]), ([3], [3]), ([], []), ([4, 5], [4, 5]), ([6], [6]), ([0, 7, 6], [0, 7]), ([8, 8, 0, 1, 2, 3, 4, 5, 6, 7, 8], [0, 8])])
def spec_l6Keep.B7 : List Nat := [0, 0, 0, 6, 14, 0, 62, 126, 255, 511]
theorem spec_l6Keep.tab7 : rtab .any (opsOf Try.f65 7) = spec_l6Keep.T7 := by kernel_rfl
theorem spec_l6Keep.bits7 : waitsOk spec_l6Keep.T7.2 spec_l6Keep.B7 = true := by kernel_rfl
def spec_l6Keep.T9 : Bool × List (List Nat × List Nat) := (true, [([], []), ([0], [0]), ([1], [1]), ([2], [2]), ([2], [2]), ([3, 4, 2], [2, 3, 4]), ([5, 2], [2, 5]), ([6, 2], [2, 6]), ([2], [2]), ([8, 2], [2, 8]), ([7, 9, 2], [2, 7, 9]), ([2, 10], [2, 10])])
def spec_l6Keep.B9 : List Nat := [0, 1, 3, 7, 7, 31, 63, 127, 7, 263, 1023, 2047]
theorem spec_l6Keep.tab9 : rtab .any (opsOf Try.f65 9) = spec_l6Keep.T9 := by kernel_rfl
theorem spec_l6Keep.bits9 : waitsOk spec_l6Keep.T9.2 spec_l6Keep.B9 = true := by kernel_rfl
set_option maxHeartbeats 8000000 in
set_option maxRecDepth 100000 in
theorem spec_l6Keep.calls (k : Nat) (A0 : Option Addr) (c0 : Nat) (l0 : List (S35)) (a1_0 : Int) (a1_1 : Int) (a1_2 : Bool) (a1_3 : ByteArray) (r : List (S35)) (w : World) (hr0 : Kd.C k35 w A0 l0.length l0) (hc0 : l0.length ≤ c0) (h : spec_l6Keep.f k l0 a1_0 a1_1 a1_2 a1_3 = some r) :
  Calls Try.prog 65 #[.slice A0 l0.length c0, .agg #[.int .i64 a1_0, .int .i64 a1_1, .bool a1_2, .string a1_3]] w fun e w' => ∃ v0_ : Value, e = .returned (v0_) ∧ Kd.R k35 35 w' w.heap.size (fun _ => True) v0_ r ∧ Below w.heap.size w w' := by
 have hu35 := Try.underlying35; have HR0 := Aside0.mk hr0; have HC0 := Aside0.mk hc0; clear hr0 hc0; have HB := Aside0.mk (Below.refl w.heap.size w); have H : (spec_l6Keep.l0 k l0 (([] : List (S35))) false 0 a1_0 a1_1 a1_2 a1_3) = some r := h; clear h; obtain ⟨y338, hy338⟩ : ∃ y_ : List (S35), y_ = (([] : List (S35))) := ⟨_, rfl⟩; replace H : (spec_l6Keep.l0 k l0 y338 false 0 a1_0 a1_1 a1_2 a1_3) = some r := by first | (rw [hy338]; with_reducible exact H) | (have H2_ := (Option.bind_some _ _).symm.trans H; rw [hy338]; with_reducible exact H2_) | (have H2_ := (Option.bind_some _ _).symm.trans H; with_reducible exact H2_) | with_reducible exact H | (rw [hy338]; exact H) | exact H
 have Ny338 := Aside0.mk hy338; clear hy338; have H' := Aside0.mk H; clear H
 go_enter Try.func65, Try.ntmps65
 go_wp2_with (first | ((with_reducible refine GD 3 ?_); refine BE 3 #[.int .i64 a1_0, .int .i64 a1_1, .bool a1_2, .string a1_3] 35 ?_; intro gb337 hg w3 hbox hb; have h_ := PB w hb hbox hg; clear HB; obtain ⟨HB, BK337, GW337, GE337⟩ := h_; clear hb hbox hg) | ((with_reducible refine GD 8 ?_); refine Kd.R_lit k35 _ 35 ?hg (N := 8) ?hd (xs := ([] : List (S35))) (inner := []) (ok := fun _ => True) (okp := fun _ => True) ?hr ?hp (fun _ hk => hk) trivial (Below.refl _ _) (Nat.le_refl _) (by simp) ?_; (case hd => rfl); (case hg => rfl); (case hr => first | (go_simp; done) | (go_simp; rfl)); (case hp => exact (Reps.none _ _)); intro v339 w4 ho5 hb hg_ hnew_; clear hg_ hnew_; (first | rw [← Ny338.out] at ho5 | (simp only [Int.reduceToNat] at ho5; rw [← Ny338.out] at ho5)); have h_ := P3 (Kd.R_lower (Kd.R_newB ho5 (g := gb337) (o := .cells #[.int .i64 a1_0, .int .i64 a1_1, .bool a1_2, .string a1_3] 35 (0, 0)) KK) (below_size KB)) (BL BK337.out hb) (below_step KB hb); clear BK337 HB; obtain ⟨HO340, BK337, HB⟩ := h_; clear hb ho5))
 go_loopg [5, 6, 7] k (fun kq v5 v6 v7 w' => ∃ (x5_1 : List (S35)) (x6_1 : Bool) (x7_1 : Int), v6 = .bool x6_1 ∧ v7 = .int .i64 x7_1 ∧ Aside0 (spec_l6Keep.l0 kq l0 x5_1 x6_1 x7_1 a1_0 a1_1 a1_2 a1_3 = some r) ∧ Aside0 (kq ≤ k) ∧ Aside0 (Kd.R k35 35 w' w.heap.size (fun k_ => k_ ≠ gb337) v5 x5_1) ∧ Aside0 (w'.heap[gb337]? = some (.cells #[.int .i64 a1_0, .int .i64 a1_1, .bool a1_2, .string a1_3] 35 (0, 0))) ∧ Aside0 (Below w.heap.size w w'))
 case atStart => exact ⟨(y338), (false), (0), (by first | rfl | (simp; done) | (simp [*]; done)), (by first | rfl | (simp; done) | (simp [*]; done)), H', ⟨Nat.le_refl _⟩, ⟨by (with_reducible repeat (first | apply Kd.R_alloc | apply Kd.R_drewN | apply Kd.R_drew)); exact Kd.R_mono HO340.out (fun _ hk => hk.2)⟩, ⟨KK⟩, ⟨KB⟩⟩
 case round =>
  clear H'
  try clear p2
  obtain ⟨x5_1, x6_1, x7_1, rfl, rfl, HA, HK1, HO_5, BK337, HB⟩ := hrel
  cases gk with
  | zero => exact absurd HA.out (by simp [spec_l6Keep.l0])
  | succ k1 =>
   have H := HA.out; clear HA; simp only [spec_l6Keep.l0] at H
   by_cases c6 : x7_1 < (l0.length : Int)
   ·rw [if_pos c6] at H
    have c6b0 : decide (x7_1 < (l0.length : Int)) = true := decide_eq_true c6; clear c6; have HC7 := Aside0.mk H; clear H
    go_upto_region 6 with (fail)
    go_cut [26] (fun v26 wc => ∃ (kq : Nat) (x26_6 : Bool), v26 = .bool x26_6 ∧ Aside0 (spec_l6Keep.j1 kq l0 x5_1 x6_1 x7_1 x26_6 a1_0 a1_1 a1_2 a1_3 = some r) ∧ Aside0 (kq ≤ k1) ∧ Aside0 (Kd.R k35 35 wc w.heap.size (fun k_ => k_ ≠ gb337) u5 x5_1) ∧ Aside0 (wc.heap[gb337]? = some (.cells #[.int .i64 a1_0, .int .i64 a1_1, .bool a1_2, .string a1_3] 35 (0, 0))) ∧ Aside0 (Below w.heap.size w wc))
    case first =>
     have H := HC7.out; clear HC7
     by_cases c8 : x6_1 = true
     ·subst c8
      have H1 : (spec_l6Keep.j1 k1 l0 x5_1 true x7_1 false a1_0 a1_1 a1_2 a1_3) = some r := by rw [if_pos rfl] at H; exact H
      clear H; have H := H1; clear H1; have H' := Aside0.mk H; clear H
      try go_wp2
      have h_ := P3 (Kd.R_drew HO_5.out) (blk_drew BK337.out) (below_drew1 HB.out); clear HO_5 BK337 HB; obtain ⟨HO_5, BK337, HB⟩ := h_; refine start_ (n := 12) (S := fun w' => True) (ds := []) #[F, F, F, F, F, F, F, F, F, F, F, F] (by kernel_rfl) rfl rfl trivial (fun hHeld => ?_); refine with_tabW spec_l6Keep.tab6 spec_l6Keep.bits6 (fun HT_ HW_ => ?_); generalize wr.drew = w9 at HO_5 BK337 HB hHeld ⊢; refine pure_ (i := 0) (N := some 15) (v := ?_) (a' := ?_) #[T, F, F, F, F, F, F, F, F, F, F, F] rfl rfl (any_of HT_.out (by kernel_rfl)) (fun _ _ _ h => h) (Or.inl ⟨by rfl, ?_⟩) ?_ ?_; rotate_left
      ·exact KV
      rotate_left
      ·exact KA
      refine pure_ (i := 1) (N := some 16) (v := ?_) (a' := ?_) #[T, T, F, F, F, F, F, F, F, F, F, F] rfl rfl (any_of HT_.out (by kernel_rfl)) (fun _ _ _ h => h) (Or.inl ⟨by rfl, ?_⟩) ?_ ?_; rotate_left
      ·exact KV
      rotate_left
      ·exact KA
      refine pure_ (i := 2) (N := some 17) (v := ?_) (a' := ?_) #[T, T, T, F, F, F, F, F, F, F, F, F] rfl rfl (any_of HT_.out (by kernel_rfl)) (fun _ _ _ h => h) (Or.inl ⟨by rfl, ?_⟩) ?_ ?_; rotate_left
      ·exact KV
      rotate_left
      ·exact KA
      refine pure_ (i := 3) (N := some 18) (v := undef) (a' := ?_) #[T, T, T, T, F, F, F, F, F, F, F, F] rfl rfl (any_of HT_.out (by kernel_rfl)) (fun _ _ _ h => h) (Or.inr ⟨by rfl, rfl⟩) ?_ ?_; rotate_left
      ·exact KA
      refine pure_ (i := 4) (N := some 19) (v := undef) (a' := ?_) #[T, T, T, T, T, F, F, F, F, F, F, F] rfl rfl (any_of HT_.out (by kernel_rfl)) (fun _ _ _ h => h) (Or.inr ⟨by rfl, rfl⟩) ?_ ?_; rotate_left
      ·exact KA
      refine pure_ (i := 5) (N := some 20) (v := undef) (a' := ?_) #[T, T, T, T, T, T, F, F, F, F, F, F] rfl rfl (any_of HT_.out (by kernel_rfl)) (fun _ _ _ h => h) (Or.inr ⟨by rfl, rfl⟩) ?_ ?_; rotate_left
      ·exact KA
      refine pure_ (i := 6) (N := some 21) (v := undef) (a' := ?_) #[T, T, T, T, T, T, T, F, F, F, F, F] rfl rfl (any_of HT_.out (by kernel_rfl)) (fun _ _ _ h => h) (Or.inr ⟨by rfl, rfl⟩) ?_ ?_; rotate_left
      ·exact KA
      refine pure_ (i := 7) (N := some 22) (v := undef) (a' := ?_) #[T, T, T, T, T, T, T, T, F, F, F, F] rfl rfl (any_of HT_.out (by kernel_rfl)) (fun _ _ _ h => h) (Or.inr ⟨by rfl, rfl⟩) ?_ ?_; rotate_left
      ·exact KA
      refine pure_ (i := 8) (N := some 23) (v := undef) (a' := ?_) #[T, T, T, T, T, T, T, T, T, F, F, F] rfl rfl (any_of HT_.out (by kernel_rfl)) (fun _ _ _ h => h) (Or.inr ⟨by rfl, rfl⟩) ?_ ?_; rotate_left
      ·exact KA
      refine pure_ (i := 9) (N := some 24) (v := undef) (a' := ?_) #[T, T, T, T, T, T, T, T, T, T, F, F] rfl rfl (any_of HT_.out (by kernel_rfl)) (fun _ _ _ h => h) (Or.inr ⟨by rfl, rfl⟩) ?_ ?_; rotate_left
      ·exact KA
      refine pure_ (i := 10) (N := some 25) (v := undef) (a' := ?_) #[T, T, T, T, T, T, T, T, T, T, T, F] rfl rfl (any_of HT_.out (by kernel_rfl)) (fun _ _ _ h => h) (Or.inr ⟨by rfl, rfl⟩) ?_ ?_; rotate_left
      ·exact KA
      refine pure_ (i := 11) (N := some 26) (v := ?_) (a' := ?_) #[T, T, T, T, T, T, T, T, T, T, T, T] rfl rfl (any_of HT_.out (by kernel_rfl)) (fun _ _ _ h => h) (Or.inl ⟨by rfl, ?_⟩) ?_ ?_; rotate_left
      ·exact KV
      rotate_left
      ·exact KA
      refine done_ (done_of HT_.out (by kernel_rfl)) ?_
      try go_wp2
      go_meet
      case rel => exact ⟨_, (false), (by first | rfl | (simp; done) | (simp [*]; done)), H', ⟨by have := HK1.out; first | omega | exact Nat.le_refl _⟩, ⟨by (with_reducible repeat (first | apply Kd.R_alloc | apply Kd.R_drewN | apply Kd.R_drew)); exact HO_5.out⟩, ⟨KK⟩, ⟨KB⟩⟩
     ·replace c8 := Bool.eq_false_iff.mpr c8
      subst c8; have H1 : (if 0 ≤ x7_1 then (spec_l6Keep.j1 k1 l0 x5_1 false x7_1 (((rd_T35 l0 x7_1).f0) == a1_0) a1_0 a1_1 a1_2 a1_3) else (none)) = some r := by rw [if_neg (show ¬ (false = true) by decide)] at H; exact H
      clear H; have H := H1; clear H1
      by_cases c10 : 0 ≤ x7_1
      ·rw [if_pos c10] at H
       have c10b0 : decide (0 ≤ x7_1) = true := decide_eq_true c10; clear c10; (first | rw [c10b0] | (simp only [i64_w, i32_w]; rw [c10b0]) | skip); have H' := Aside0.mk H; clear H
       try go_wp2
       have h_ := P3 (Kd.R_drew HO_5.out) (blk_drew BK337.out) (below_drew1 HB.out); clear HO_5 BK337 HB; obtain ⟨HO_5, BK337, HB⟩ := h_; have p344 : 0 ≤ (x7_1 : Int) := of_decide_eq_true (by first | (with_reducible assumption) | assumption); have q344 : x7_1 < (l0.length : Int) := of_decide_eq_true (by first | (with_reducible assumption) | assumption); obtain ⟨ad344, e344, hx344_0, hx344_1, hx344_2, hx344_3⟩ := at_T35 HR0.out x7_1 p344 q344; have hw344_3 := hx344_3; have hw344_2 := hx344_2; have hw344_1 := hx344_1; have hw344_0 := hx344_0
       cases e344
       replace hx344_0 := CB HB.out hx344_0; replace hx344_1 := CB HB.out hx344_1; replace hx344_2 := CB HB.out hx344_2; replace hx344_3 := CB HB.out hx344_3; replace p344 := eq_true p344; replace q344 := eq_true q344; refine start_ (n := 12) (S := fun w' => w'.cell? ⟨gb337, 0, none⟩ = some (.int .i64 a1_0) ∧ w'.cell? ⟨gb337, 1, none⟩ = some (.int .i64 a1_1) ∧ w'.cell? ⟨gb337, 2, none⟩ = some (.bool a1_2) ∧ w'.cell? ⟨gb337, 3, none⟩ = some (.string a1_3) ∧ w'.cell? (ad344.add ((x7_1).toNat * 4)) = some (.int .i64 ((rd_T35 l0 x7_1).f0)) ∧ w'.cell? ⟨(ad344.add ((x7_1).toNat * 4)).block, (ad344.add ((x7_1).toNat * 4)).off + 1, none⟩ = some (.int .i64 ((rd_T35 l0 x7_1).f1)) ∧ w'.cell? ⟨(ad344.add ((x7_1).toNat * 4)).block, (ad344.add ((x7_1).toNat * 4)).off + 2, none⟩ = some (.bool ((rd_T35 l0 x7_1).f2)) ∧ w'.cell? ⟨(ad344.add ((x7_1).toNat * 4)).block, (ad344.add ((x7_1).toNat * 4)).off + 3, none⟩ = some (.string ((rd_T35 l0 x7_1).f3))) (ds := []) #[F, F, F, F, F, F, F, F, F, F, F, F] (by kernel_rfl) rfl rfl ⟨(blk_cell BK337.out 0).trans rfl, (blk_cell BK337.out 1).trans rfl, (blk_cell BK337.out 2).trans rfl, (blk_cell BK337.out 3).trans rfl, ((HB.out.cell (World.block_lt_of_cell? w _ hw344_0)).trans hw344_0), ((HB.out.cell (World.block_lt_of_cell? w _ hw344_1)).trans hw344_1), ((HB.out.cell (World.block_lt_of_cell? w _ hw344_2)).trans hw344_2), ((HB.out.cell (World.block_lt_of_cell? w _ hw344_3)).trans hw344_3)⟩ (fun hHeld => ?_); refine with_tabW spec_l6Keep.tab6 spec_l6Keep.bits6 (fun HT_ HW_ => ?_); generalize wr.drew = w11 at HO_5 BK337 HB hx344_0 hx344_1 hx344_2 hx344_3 hHeld ⊢; refine pure_ (i := 0) (N := some 15) (v := ?_) (a' := ?_) #[T, F, F, F, F, F, F, F, F, F, F, F] rfl rfl (any_of HT_.out (by kernel_rfl)) (fun _ _ _ h => h) (Or.inl ⟨by rfl, ?_⟩) ?_ ?_; rotate_left
       ·exact KV
       rotate_left
       ·exact KA
       refine pure_ (i := 1) (N := some 16) (v := ?_) (a' := ?_) #[T, T, F, F, F, F, F, F, F, F, F, F] rfl rfl (any_of HT_.out (by kernel_rfl)) (fun _ _ _ h => h) (Or.inl ⟨by rfl, ?_⟩) ?_ ?_; rotate_left
       ·exact KV
       rotate_left
       ·exact KA
       refine pure_ (i := 2) (N := some 17) (v := ?_) (a' := ?_) #[T, T, T, F, F, F, F, F, F, F, F, F] rfl rfl (any_of HT_.out (by kernel_rfl)) (fun _ _ _ h => h) (Or.inl ⟨by rfl, ?_⟩) ?_ ?_; rotate_left
       ·exact KV
       rotate_left
       ·exact KA
       refine pure_ (i := 3) (N := some 18) (v := ?_) (a' := ?_) #[T, T, T, T, F, F, F, F, F, F, F, F] rfl rfl (any_of HT_.out (by kernel_rfl)) (fun _ _ _ h => h) (Or.inl ⟨by rfl, ?_⟩) ?_ ?_; rotate_left
       ·exact KV
       rotate_left
       ·exact KA
       refine pure_ (i := 4) (N := some 19) (v := ?_) (a' := ?_) #[T, T, T, T, T, F, F, F, F, F, F, F] rfl rfl (any_of HT_.out (by kernel_rfl)) (fun _ _ _ h => h) (Or.inl ⟨by rfl, ?_⟩) ?_ ?_; rotate_left
       ·exact KV
       rotate_left
       ·exact KA
       refine pure_ (i := 5) (N := some 20) (v := ?_) (a' := ?_) #[T, T, T, T, T, T, F, F, F, F, F, F] rfl rfl (any_of HT_.out (by kernel_rfl)) (fun _ _ _ h => h) (Or.inl ⟨by rfl, ?_⟩) ?_ ?_; rotate_left
       ·exact KV
       rotate_left
       ·exact KA
       refine pure_ (i := 6) (N := some 21) (v := ?_) (a' := ?_) #[T, T, T, T, T, T, T, F, F, F, F, F] rfl rfl (any_of HT_.out (by kernel_rfl)) (fun _ _ _ h => h) (Or.inl ⟨by rfl, ?_⟩) ?_ ?_; rotate_left
       ·exact KV
       rotate_left
       ·exact KA
       refine pure_ (i := 8) (N := some 23) (v := ?_) (a' := ?_) #[T, T, T, T, T, T, T, F, T, F, F, F] rfl rfl (any_of HT_.out (by kernel_rfl)) (fun _ _ _ h => h) (Or.inl ⟨by rfl, ?_⟩) ?_ ?_; rotate_left
       ·exact KV
       rotate_left
       ·exact KA
       refine take_ (i := 7) (N := some 22) (v := ?_) (a' := ?_) #[T, T, T, T, T, T, T, T, T, F, F, F] rfl rfl (take_ofW HT_.out HW_.out (by kernel_rfl)) (fun _ _ _ h => h) (Or.inl ⟨by rfl, ?_⟩) hHeld ?_ ?_; rotate_left
       ·rintro w' ⟨s0, s1, s2, s3, s4, s5, s6, s7⟩
        go_simp; with_reducible rfl
       rotate_left
       ·exact KA
       refine take_ (i := 9) (N := some 24) (v := ?_) (a' := ?_) #[T, T, T, T, T, T, T, T, T, T, F, F] rfl rfl (take_ofW HT_.out HW_.out (by kernel_rfl)) (fun _ _ _ h => h) (Or.inl ⟨by rfl, ?_⟩) hHeld ?_ ?_; rotate_left
       ·rintro w' ⟨s0, s1, s2, s3, s4, s5, s6, s7⟩
        go_simp; with_reducible rfl
       rotate_left
       ·exact KA
       refine pure_ (i := 10) (N := some 25) (v := ?_) (a' := ?_) #[T, T, T, T, T, T, T, T, T, T, T, F] rfl rfl (any_of HT_.out (by kernel_rfl)) (fun _ _ _ h => h) (Or.inl ⟨by rfl, ?_⟩) ?_ ?_; rotate_left
       ·exact KV
       rotate_left
       ·exact KA
       refine pure_ (i := 11) (N := some 26) (v := ?_) (a' := ?_) #[T, T, T, T, T, T, T, T, T, T, T, T] rfl rfl (any_of HT_.out (by kernel_rfl)) (fun _ _ _ h => h) (Or.inl ⟨by rfl, ?_⟩) ?_ ?_; rotate_left
       ·exact KV
       rotate_left
       ·exact KA
       refine done_ (done_of HT_.out (by kernel_rfl)) ?_
       try go_wp2
       go_meet
       case rel => exact ⟨_, ((((rd_T35 l0 x7_1).f0) == a1_0)), (by first | rfl | (simp; done) | (simp [*]; done)), H', ⟨by have := HK1.out; first | omega | exact Nat.le_refl _⟩, ⟨by (with_reducible repeat (first | apply Kd.R_alloc | apply Kd.R_drewN | apply Kd.R_drew)); exact HO_5.out⟩, ⟨KK⟩, ⟨KB⟩⟩
      ·rw [if_neg c10] at H
       exact absurd H (by simp)
    case rest =>
     clear HC7
     try clear c1
     try clear p2
     try clear p3
     try clear q3
     try clear hx3
     try clear c6
     try clear c6b0
     try clear c8
     try clear c10
     try clear c10b0
     try clear hx344_0
     try clear hx344_1
     try clear hx344_2
     try clear hx344_3
     try clear p2
     try clear p344
     try clear q344
     obtain ⟨kq, x26_6, rfl, HA, HJ6, HO_5, BK337, HB⟩ := hcut
     cases kq with
     | zero => exact absurd HA.out (by simp [spec_l6Keep.j1])
     | succ kj6 =>
      have H := HA.out; clear HA; simp only [spec_l6Keep.j1] at H
      by_cases c12 : x26_6 = true
      ·subst c12
       have H1 : (if 0 ≤ x7_1 then (if x7_1 < (l0.length : Int) then ((spec_Better.f ((rd_T35 l0 x7_1).f0) ((rd_T35 l0 x7_1).f1) ((rd_T35 l0 x7_1).f2) ((rd_T35 l0 x7_1).f3) a1_0 a1_1 a1_2 a1_3).bind fun bt346 => (if x5_1.length < 3518437208883 then (spec_l6Keep.l0 kj6 l0 (x5_1 ++ [(⟨bt346.1, bt346.2.1, bt346.2.2.1, bt346.2.2.2⟩ : S35)]) true (wrap64 (x7_1 + 1)) a1_0 a1_1 a1_2 a1_3) else (none))) else (none)) else (none)) = some r := by rw [if_pos rfl] at H; exact H
       clear H; have H := H1; clear H1
       by_cases c13 : 0 ≤ x7_1
       ·rw [if_pos c13] at H
        have c13b0 : decide (0 ≤ x7_1) = true := decide_eq_true c13; clear c13
        by_cases c14 : x7_1 < (l0.length : Int)
        ·rw [if_pos c14] at H
         have c14b0 : decide (x7_1 < (l0.length : Int)) = true := decide_eq_true c14; clear c14; replace H := Option.bind_eq_some_iff.mp H; obtain ⟨⟨t346, t347, t348, t349⟩, A150, H⟩ := H
         try dsimp only at H
         have A15 := Aside0.mk A150; clear A150
         by_cases c16 : x5_1.length < 3518437208883
         ·rw [if_pos c16] at H
          have LMc16 := Aside0.mk c16; clear c16; obtain ⟨y350, hy350⟩ : ∃ y_ : List (S35), y_ = (x5_1 ++ [(⟨t346, t347, t348, t349⟩ : S35)]) := ⟨_, rfl⟩; replace H : (spec_l6Keep.l0 kj6 l0 y350 true (wrap64 (x7_1 + 1)) a1_0 a1_1 a1_2 a1_3) = some r := by first | (rw [hy350]; with_reducible exact H) | (have H2_ := (Option.bind_some _ _).symm.trans H; rw [hy350]; with_reducible exact H2_) | (have H2_ := (Option.bind_some _ _).symm.trans H; with_reducible exact H2_) | with_reducible exact H | (rw [hy350]; exact H) | exact H
          have Ny350 := Aside0.mk hy350; clear hy350; have H' := Aside0.mk H; clear H
          try go_wp2
          have h_ := P3 (Kd.R_drew HO_5.out) (blk_drew BK337.out) (below_drew1 HB.out); clear HO_5 BK337 HB; obtain ⟨HO_5, BK337, HB⟩ := h_; have p345 : 0 ≤ (x7_1 : Int) := of_decide_eq_true (by first | (with_reducible assumption) | assumption); have q345 : x7_1 < (l0.length : Int) := of_decide_eq_true (by first | (with_reducible assumption) | assumption); obtain ⟨ad345, e345, hx345_0, hx345_1, hx345_2, hx345_3⟩ := at_T35 HR0.out x7_1 p345 q345; have hw345_3 := hx345_3; have hw345_2 := hx345_2; have hw345_1 := hx345_1; have hw345_0 := hx345_0
          cases e345
          replace hx345_0 := CB HB.out hx345_0; replace hx345_1 := CB HB.out hx345_1; replace hx345_2 := CB HB.out hx345_2; replace hx345_3 := CB HB.out hx345_3; replace p345 := eq_true p345; replace q345 := eq_true q345; refine start_ (n := 10) (S := fun w' => w'.cell? ⟨gb337, 0, none⟩ = some (.int .i64 a1_0) ∧ w'.cell? ⟨gb337, 1, none⟩ = some (.int .i64 a1_1) ∧ w'.cell? ⟨gb337, 2, none⟩ = some (.bool a1_2) ∧ w'.cell? ⟨gb337, 3, none⟩ = some (.string a1_3) ∧ w'.cell? (ad345.add ((x7_1).toNat * 4)) = some (.int .i64 ((rd_T35 l0 x7_1).f0)) ∧ w'.cell? ⟨(ad345.add ((x7_1).toNat * 4)).block, (ad345.add ((x7_1).toNat * 4)).off + 1, none⟩ = some (.int .i64 ((rd_T35 l0 x7_1).f1)) ∧ w'.cell? ⟨(ad345.add ((x7_1).toNat * 4)).block, (ad345.add ((x7_1).toNat * 4)).off + 2, none⟩ = some (.bool ((rd_T35 l0 x7_1).f2)) ∧ w'.cell? ⟨(ad345.add ((x7_1).toNat * 4)).block, (ad345.add ((x7_1).toNat * 4)).off + 3, none⟩ = some (.string ((rd_T35 l0 x7_1).f3))) (ds := []) #[F, F, F, F, F, F, F, F, F, F] (by kernel_rfl) rfl rfl ⟨(blk_cell BK337.out 0).trans rfl, (blk_cell BK337.out 1).trans rfl, (blk_cell BK337.out 2).trans rfl, (blk_cell BK337.out 3).trans rfl, ((HB.out.cell (World.block_lt_of_cell? w _ hw345_0)).trans hw345_0), ((HB.out.cell (World.block_lt_of_cell? w _ hw345_1)).trans hw345_1), ((HB.out.cell (World.block_lt_of_cell? w _ hw345_2)).trans hw345_2), ((HB.out.cell (World.block_lt_of_cell? w _ hw345_3)).trans hw345_3)⟩ (fun hHeld => ?_); refine with_tabW spec_l6Keep.tab7 spec_l6Keep.bits7 (fun HT_ HW_ => ?_); generalize wc.drew = w17 at HO_5 BK337 HB hx345_0 hx345_1 hx345_2 hx345_3 hHeld ⊢; refine pure_ (i := 0) (N := some 27) (v := ?_) (a' := ?_) #[T, F, F, F, F, F, F, F, F, F] rfl rfl (any_of HT_.out (by kernel_rfl)) (fun _ _ _ h => h) (Or.inl ⟨by rfl, ?_⟩) ?_ ?_; rotate_left
          ·exact KV
          rotate_left
          ·exact KA
          refine pure_ (i := 1) (N := some 28) (v := ?_) (a' := ?_) #[T, T, F, F, F, F, F, F, F, F] rfl rfl (any_of HT_.out (by kernel_rfl)) (fun _ _ _ h => h) (Or.inl ⟨by rfl, ?_⟩) ?_ ?_; rotate_left
          ·exact KV
          rotate_left
          ·exact KA
          refine pure_ (i := 2) (N := some 29) (v := ?_) (a' := ?_) #[T, T, T, F, F, F, F, F, F, F] rfl rfl (any_of HT_.out (by kernel_rfl)) (fun _ _ _ h => h) (Or.inl ⟨by rfl, ?_⟩) ?_ ?_; rotate_left
          ·exact KV
          rotate_left
          ·exact KA
          refine pure_ (i := 3) (N := some 30) (v := ?_) (a' := ?_) #[T, T, T, T, F, F, F, F, F, F] rfl rfl (any_of HT_.out (by kernel_rfl)) (fun _ _ _ h => h) (Or.inl ⟨by rfl, ?_⟩) ?_ ?_; rotate_left
          ·exact KV
          rotate_left
          ·exact KA
          refine take_ (i := 4) (N := some 31) (v := ?_) (a' := ?_) #[T, T, T, T, T, F, F, F, F, F] rfl rfl (take_ofW HT_.out HW_.out (by kernel_rfl)) (fun _ _ _ h => h) (Or.inl ⟨by rfl, ?_⟩) hHeld ?_ ?_; rotate_left
          ·rintro w' ⟨s0, s1, s2, s3, s4, s5, s6, s7⟩
           go_simp; with_reducible rfl
          rotate_left
          ·exact KA
          refine take_ (i := 5) (N := some 32) (v := ?_) (a' := ?_) #[T, T, T, T, T, T, F, F, F, F] rfl rfl (take_ofW HT_.out HW_.out (by kernel_rfl)) (fun _ _ _ h => h) (Or.inl ⟨by rfl, ?_⟩) hHeld ?_ ?_; rotate_left
          ·rintro w' ⟨s0, s1, s2, s3, s4, s5, s6, s7⟩
           go_simp; with_reducible rfl
          rotate_left
          ·exact KA
          refine one_ (i := 6) (N := some 33) #[T, T, T, T, T, T, T, F, F, F] rfl rfl (one_of HT_.out (by kernel_rfl)) (by decide) (fun K hK => ?_); refine goes_ Try.func90 (by kernel_rfl) rfl #[.agg #[.int .i64 ((rd_T35 l0 x7_1).f0), .int .i64 ((rd_T35 l0 x7_1).f1), .bool ((rd_T35 l0 x7_1).f2), .string ((rd_T35 l0 x7_1).f3)], .agg #[.int .i64 a1_0, .int .i64 a1_1, .bool a1_2, .string a1_3]] (by rfl) rfl rfl KL ?_; (with_reducible refine (spec_Better.calls ((rd_T35 l0 x7_1).f0) ((rd_T35 l0 x7_1).f1) ((rd_T35 l0 x7_1).f2) ((rd_T35 l0 x7_1).f3) a1_0 a1_1 a1_2 a1_3 t346 t347 t348 t349 _ A15.out).mono ?_); rintro e w18 ⟨rfl, hb⟩; refine ⟨_, rfl, ?_⟩; have h_ := P3 (Kd.R_below (KR HO_5.out) hb) (BL BK337.out hb) (below_step KB hb); clear HO_5 BK337 HB; obtain ⟨HO_5, BK337, HB⟩ := h_; (try clear hb); (try clear hk); (try clear hi); refine hK.out _ _ ⟨(blk_cell BK337.out 0).trans rfl, (blk_cell BK337.out 1).trans rfl, (blk_cell BK337.out 2).trans rfl, (blk_cell BK337.out 3).trans rfl, ((HB.out.cell (World.block_lt_of_cell? w _ hw345_0)).trans hw345_0), ((HB.out.cell (World.block_lt_of_cell? w _ hw345_1)).trans hw345_1), ((HB.out.cell (World.block_lt_of_cell? w _ hw345_2)).trans hw345_2), ((HB.out.cell (World.block_lt_of_cell? w _ hw345_3)).trans hw345_3)⟩ (fun hHeld => ?_); clear hK K; refine norm_ (a' := ?_) ?_ ?_; rotate_left
          ·show Act.put _ (some 33) _ = _; exact KA
          refine one_ (i := 7) (N := some 34) #[T, T, T, T, T, T, T, T, F, F] rfl rfl (one_of HT_.out (by kernel_rfl)) (by decide) (fun K hK => ?_); refine value_ (w1 := ?_) (v := ?_) (by rfl) rfl ?_ ?_; rotate_left 2
          ·go_simp
           constructor
           ·rfl
           ·rfl
          refine hK.out _ _ ⟨(blk_cell (blk_alloc BK337.out _) 0).trans rfl, (blk_cell (blk_alloc BK337.out _) 1).trans rfl, (blk_cell (blk_alloc BK337.out _) 2).trans rfl, (blk_cell (blk_alloc BK337.out _) 3).trans rfl, (World.cell?_alloc_lt _ _ _ (World.block_lt_of_cell? _ _ (((HB.out.cell (World.block_lt_of_cell? w _ hw345_0)).trans hw345_0)))).trans (((HB.out.cell (World.block_lt_of_cell? w _ hw345_0)).trans hw345_0)), (World.cell?_alloc_lt _ _ _ (World.block_lt_of_cell? _ _ (((HB.out.cell (World.block_lt_of_cell? w _ hw345_1)).trans hw345_1)))).trans (((HB.out.cell (World.block_lt_of_cell? w _ hw345_1)).trans hw345_1)), (World.cell?_alloc_lt _ _ _ (World.block_lt_of_cell? _ _ (((HB.out.cell (World.block_lt_of_cell? w _ hw345_2)).trans hw345_2)))).trans (((HB.out.cell (World.block_lt_of_cell? w _ hw345_2)).trans hw345_2)), (World.cell?_alloc_lt _ _ _ (World.block_lt_of_cell? _ _ (((HB.out.cell (World.block_lt_of_cell? w _ hw345_3)).trans hw345_3)))).trans (((HB.out.cell (World.block_lt_of_cell? w _ hw345_3)).trans hw345_3))⟩ (fun hHeld => ?_); clear hK K; refine norm_ (a' := ?_) ?_ ?_; rotate_left
          ·show Act.put _ (some 34) _ = _; exact KA
          refine one_ (i := 8) (N := some 35) #[T, T, T, T, T, T, T, T, T, F] rfl rfl (one_of HT_.out (by kernel_rfl)) (by decide) (fun K hK => ?_); refine Kd.R_append_step k35 (w0 := w) w.heap.size (by rfl) (.tmp 27) (.tmp 34) 29 35 (.agg #[(.int .i64 0), (.int .i64 0), (.bool false), (.string ⟨#[]⟩)]) 40 rfl Try.underlying29 info35 rfl (by decide) (by omega) u5 x5_1 (⟨t346, t347, t348, t349⟩ : S35) [.int .i64 t346, .int .i64 t347, .bool t348, .string t349] (fun k_ => k_ ≠ gb337) (fun _ => False) rfl rfl ?aP (fun _ hk => hk.elim) ?aF ?aO ?aB ?aS ?aL ?_; (case aP => exact k35_mkM _ _ _ (⟨t346, t347, t348, t349⟩ : S35)); (case aB => exact KB); (case aF => exact (fun k_ hk => Kd.freshB (g := gb337) (o := .cells #[.int .i64 a1_0, .int .i64 a1_1, .bool a1_2, .string a1_3] 35 (0, 0)) KK k_ hk)); (case aO => exact (KR HO_5.out)); (case aS => exact (below_size KB)); (case aL => have := LMc16.out; omega); intro v351 w19 ho hb hg hat; rw [← Ny350.out] at ho; have h_ := P3 (BW BK337.out hg (Kd.R_away HO_5.out (fun _ hk => hk))) hb ho; clear BK337 HB HO_5; obtain ⟨BK337, HB, HO352⟩ := h_; clear ho hb hg hat; refine hK.out _ _ ⟨(blk_cell BK337.out 0).trans rfl, (blk_cell BK337.out 1).trans rfl, (blk_cell BK337.out 2).trans rfl, (blk_cell BK337.out 3).trans rfl, ((HB.out.cell (World.block_lt_of_cell? w _ hw345_0)).trans hw345_0), ((HB.out.cell (World.block_lt_of_cell? w _ hw345_1)).trans hw345_1), ((HB.out.cell (World.block_lt_of_cell? w _ hw345_2)).trans hw345_2), ((HB.out.cell (World.block_lt_of_cell? w _ hw345_3)).trans hw345_3)⟩ (fun hHeld => ?_); clear hK K; refine norm_ (a' := ?_) ?_ ?_; rotate_left
          ·show Act.put _ (some 35) _ = _; exact KA
          refine pure_ (i := 9) (N := some 5) (v := ?_) (a' := ?_) #[T, T, T, T, T, T, T, T, T, T] rfl rfl (any_of HT_.out (by kernel_rfl)) (fun _ _ _ h => h) (Or.inl ⟨by rfl, ?_⟩) ?_ ?_; rotate_left
          ·exact KV
          rotate_left
          ·exact KA
          refine done_ (done_of HT_.out (by kernel_rfl)) ?_
          try go_wp2
          go_roundg kj6
          case measure => have := HK1.out; have := HJ6.out; omega
          case rel => exact ⟨(y350), (true), (wrap64 (x7_1 + 1)), (by first | rfl | (simp; done) | (simp [*]; done)), (by first | rfl | (simp; done) | (simp [*]; done)), H', ⟨by have := HK1.out; have := HJ6.out; omega⟩, ⟨by (with_reducible repeat (first | apply Kd.R_alloc | apply Kd.R_drewN | apply Kd.R_drew)); exact HO352.out⟩, ⟨KK⟩, ⟨KB⟩⟩
         ·rw [if_neg c16] at H
          exact absurd H (by simp)
        ·rw [if_neg c14] at H
         exact absurd H (by simp)
       ·rw [if_neg c13] at H
        exact absurd H (by simp)
      ·replace c12 := Bool.eq_false_iff.mpr c12
       subst c12; have H1 : (if x6_1 = true then (if 0 ≤ x7_1 then (if x7_1 < (l0.length : Int) then (if x5_1.length < 3518437208883 then (spec_l6Keep.l0 kj6 l0 (x5_1 ++ [(⟨(rd_T35 l0 x7_1).f0, (rd_T35 l0 x7_1).f1, (rd_T35 l0 x7_1).f2, (rd_T35 l0 x7_1).f3⟩ : S35)]) x6_1 (wrap64 (x7_1 + 1)) a1_0 a1_1 a1_2 a1_3) else (none)) else (none)) else (none)) else (if 0 ≤ x7_1 then (if x7_1 < (l0.length : Int) then (if ((rd_T35 l0 x7_1).f0) > a1_0 then (if x5_1.length < 3518437208883 then ((some (x5_1 ++ [(⟨a1_0, a1_1, a1_2, a1_3⟩ : S35)] : List (S35))).bind fun y358 => (if y358.length < 3518437208883 then (spec_l6Keep.l0 kj6 l0 (y358 ++ [(⟨(rd_T35 l0 x7_1).f0, (rd_T35 l0 x7_1).f1, (rd_T35 l0 x7_1).f2, (rd_T35 l0 x7_1).f3⟩ : S35)]) true (wrap64 (x7_1 + 1)) a1_0 a1_1 a1_2 a1_3) else (none))) else (none)) else (if x5_1.length < 3518437208883 then (spec_l6Keep.l0 kj6 l0 (x5_1 ++ [(⟨(rd_T35 l0 x7_1).f0, (rd_T35 l0 x7_1).f1, (rd_T35 l0 x7_1).f2, (rd_T35 l0 x7_1).f3⟩ : S35)]) x6_1 (wrap64 (x7_1 + 1)) a1_0 a1_1 a1_2 a1_3) else (none))) else (none)) else (none))) = some r := by rw [if_neg (show ¬ (false = true) by decide)] at H; exact H
       clear H; have H := H1; clear H1
       by_cases c20 : x6_1 = true
       ·subst c20
        have H1 : (if 0 ≤ x7_1 then (if x7_1 < (l0.length : Int) then (if x5_1.length < 3518437208883 then (spec_l6Keep.l0 kj6 l0 (x5_1 ++ [(⟨(rd_T35 l0 x7_1).f0, (rd_T35 l0 x7_1).f1, (rd_T35 l0 x7_1).f2, (rd_T35 l0 x7_1).f3⟩ : S35)]) true (wrap64 (x7_1 + 1)) a1_0 a1_1 a1_2 a1_3) else (none)) else (none)) else (none)) = some r := by rw [if_pos rfl] at H; exact H
        clear H; have H := H1; clear H1
        by_cases c21 : 0 ≤ x7_1
        ·rw [if_pos c21] at H
         have c21b0 : decide (0 ≤ x7_1) = true := decide_eq_true c21; clear c21
         by_cases c22 : x7_1 < (l0.length : Int)
         ·rw [if_pos c22] at H
          have c22b0 : decide (x7_1 < (l0.length : Int)) = true := decide_eq_true c22; clear c22
          by_cases c23 : x5_1.length < 3518437208883
          ·rw [if_pos c23] at H
           have LMc23 := Aside0.mk c23; clear c23; obtain ⟨y354, hy354⟩ : ∃ y_ : List (S35), y_ = (x5_1 ++ [(⟨(rd_T35 l0 x7_1).f0, (rd_T35 l0 x7_1).f1, (rd_T35 l0 x7_1).f2, (rd_T35 l0 x7_1).f3⟩ : S35)]) := ⟨_, rfl⟩; replace H : (spec_l6Keep.l0 kj6 l0 y354 true (wrap64 (x7_1 + 1)) a1_0 a1_1 a1_2 a1_3) = some r := by first | (rw [hy354]; with_reducible exact H) | (have H2_ := (Option.bind_some _ _).symm.trans H; rw [hy354]; with_reducible exact H2_) | (have H2_ := (Option.bind_some _ _).symm.trans H; with_reducible exact H2_) | with_reducible exact H | (rw [hy354]; exact H) | exact H
           have Ny354 := Aside0.mk hy354; clear hy354; have H' := Aside0.mk H; clear H
           try go_wp2
           have h_ := P3 (Kd.R_drew HO_5.out) (blk_drew BK337.out) (below_drew1 HB.out); clear HO_5 BK337 HB; obtain ⟨HO_5, BK337, HB⟩ := h_; refine start_ (n := 12) (S := fun w' => True) (ds := []) #[F, F, F, F, F, F, F, F, F, F, F, F] (by kernel_rfl) rfl rfl trivial (fun hHeld => ?_); refine with_tabW spec_l6Keep.tab9 spec_l6Keep.bits9 (fun HT_ HW_ => ?_); generalize wc.drew = w24 at HO_5 BK337 HB hHeld ⊢; refine pure_ (i := 0) (N := some 36) (v := ?_) (a' := ?_) #[T, F, F, F, F, F, F, F, F, F, F, F] rfl rfl (any_of HT_.out (by kernel_rfl)) (fun _ _ _ h => h) (Or.inl ⟨by rfl, ?_⟩) ?_ ?_; rotate_left
           ·exact KV
           rotate_left
           ·exact KA
           refine pure_ (i := 1) (N := some 37) (v := ?_) (a' := ?_) #[T, T, F, F, F, F, F, F, F, F, F, F] rfl rfl (any_of HT_.out (by kernel_rfl)) (fun _ _ _ h => h) (Or.inl ⟨by rfl, ?_⟩) ?_ ?_; rotate_left
           ·exact KV
           rotate_left
           ·exact KA
           refine pure_ (i := 2) (N := some 38) (v := ?_) (a' := ?_) #[T, T, T, F, F, F, F, F, F, F, F, F] rfl rfl (any_of HT_.out (by kernel_rfl)) (fun _ _ _ h => h) (Or.inl ⟨by rfl, ?_⟩) ?_ ?_; rotate_left
           ·exact KV
           rotate_left
           ·exact KA
           refine pure_ (i := 3) (N := some 39) (v := undef) (a' := ?_) #[T, T, T, T, F, F, F, F, F, F, F, F] rfl rfl (any_of HT_.out (by kernel_rfl)) (fun _ _ _ h => h) (Or.inr ⟨by rfl, rfl⟩) ?_ ?_; rotate_left
           ·exact KA
           refine pure_ (i := 4) (N := some 40) (v := undef) (a' := ?_) #[T, T, T, T, T, F, F, F, F, F, F, F] rfl rfl (any_of HT_.out (by kernel_rfl)) (fun _ _ _ h => h) (Or.inr ⟨by rfl, rfl⟩) ?_ ?_; rotate_left
           ·exact KA
           refine pure_ (i := 5) (N := some 41) (v := undef) (a' := ?_) #[T, T, T, T, T, T, F, F, F, F, F, F] rfl rfl (any_of HT_.out (by kernel_rfl)) (fun _ _ _ h => h) (Or.inr ⟨by rfl, rfl⟩) ?_ ?_; rotate_left
           ·exact KA
           refine pure_ (i := 6) (N := some 42) (v := undef) (a' := ?_) #[T, T, T, T, T, T, T, F, F, F, F, F] rfl rfl (any_of HT_.out (by kernel_rfl)) (fun _ _ _ h => h) (Or.inr ⟨by rfl, rfl⟩) ?_ ?_; rotate_left
           ·exact KA
           refine pure_ (i := 7) (N := some 43) (v := undef) (a' := ?_) #[T, T, T, T, T, T, T, T, F, F, F, F] rfl rfl (any_of HT_.out (by kernel_rfl)) (fun _ _ _ h => h) (Or.inr ⟨by rfl, rfl⟩) ?_ ?_; rotate_left
           ·exact KA
           refine pure_ (i := 8) (N := some 44) (v := undef) (a' := ?_) #[T, T, T, T, T, T, T, T, T, F, F, F] rfl rfl (any_of HT_.out (by kernel_rfl)) (fun _ _ _ h => h) (Or.inr ⟨by rfl, rfl⟩) ?_ ?_; rotate_left
           ·exact KA
           refine pure_ (i := 9) (N := some 45) (v := undef) (a' := ?_) #[T, T, T, T, T, T, T, T, T, T, F, F] rfl rfl (any_of HT_.out (by kernel_rfl)) (fun _ _ _ h => h) (Or.inr ⟨by rfl, rfl⟩) ?_ ?_; rotate_left
           ·exact KA
           refine pure_ (i := 10) (N := some 46) (v := undef) (a' := ?_) #[T, T, T, T, T, T, T, T, T, T, T, F] rfl rfl (any_of HT_.out (by kernel_rfl)) (fun _ _ _ h => h) (Or.inr ⟨by rfl, rfl⟩) ?_ ?_; rotate_left
           ·exact KA
           refine pure_ (i := 11) (N := some 47) (v := ?_) (a' := ?_) #[T, T, T, T, T, T, T, T, T, T, T, T] rfl rfl (any_of HT_.out (by kernel_rfl)) (fun _ _ _ h => h) (Or.inl ⟨by rfl, ?_⟩) ?_ ?_; rotate_left
           ·exact KV
           rotate_left
           ·exact KA
           refine done_ (done_of HT_.out (by kernel_rfl)) ?_; have p353 : 0 ≤ (x7_1 : Int) := of_decide_eq_true (by first | (with_reducible assumption) | assumption); have q353 : x7_1 < (l0.length : Int) := of_decide_eq_true (by first | (with_reducible assumption) | assumption); obtain ⟨ad353, e353, hx353_0, hx353_1, hx353_2, hx353_3⟩ := at_T35 HR0.out x7_1 p353 q353
           cases e353
           replace hx353_0 := CB HB.out hx353_0; replace hx353_1 := CB HB.out hx353_1; replace hx353_2 := CB HB.out hx353_2; replace hx353_3 := CB HB.out hx353_3; replace p353 := eq_true p353; replace q353 := eq_true q353
           try go_wp2_with (first | ((with_reducible refine gate_builtin (b := .append) (xs := #[.tmp 52, .tmp 57]) rfl ?_); at_builtin; refine Kd.R_append k35 (w0 := w) w.heap.size rfl (.tmp 52) (.tmp 57) 29 35 (.agg #[(.int .i64 0), (.int .i64 0), (.bool false), (.string ⟨#[]⟩)]) 40 rfl Try.underlying29 info35 rfl (by decide) (by omega) u5 x5_1 (⟨(rd_T35 l0 x7_1).f0, (rd_T35 l0 x7_1).f1, (rd_T35 l0 x7_1).f2, (rd_T35 l0 x7_1).f3⟩ : S35) [.int .i64 ((rd_T35 l0 x7_1).f0), .int .i64 ((rd_T35 l0 x7_1).f1), .bool ((rd_T35 l0 x7_1).f2), .string ((rd_T35 l0 x7_1).f3)] (fun k_ => k_ ≠ gb337) (fun _ => False) rfl rfl ?aP (fun _ hk => hk.elim) ?aF ?aO ?aB ?aS ?aL ?_; (case aP => exact k35_mkM _ _ _ (⟨(rd_T35 l0 x7_1).f0, (rd_T35 l0 x7_1).f1, (rd_T35 l0 x7_1).f2, (rd_T35 l0 x7_1).f3⟩ : S35)); (case aB => exact KB); (case aF => exact (fun k_ hk => Kd.freshB (g := gb337) (o := .cells #[.int .i64 a1_0, .int .i64 a1_1, .bool a1_2, .string a1_3] 35 (0, 0)) KK k_ hk)); (case aO => exact (KR HO_5.out)); (case aS => exact (below_size KB)); (case aL => have := LMc23.out; omega); intro v355 w25 ho hb hg hat; rw [← Ny354.out] at ho; have h_ := P3 (BW BK337.out hg (Kd.R_away HO_5.out (fun _ hk => hk))) hb ho; clear BK337 HB HO_5; obtain ⟨BK337, HB, HO356⟩ := h_; clear ho hb hg hat))
           go_roundg kj6
           case measure => have := HK1.out; have := HJ6.out; omega
           case rel => exact ⟨(y354), (true), (wrap64 (x7_1 + 1)), (by first | rfl | (simp; done) | (simp [*]; done)), (by first | rfl | (simp; done) | (simp [*]; done)), H', ⟨by have := HK1.out; have := HJ6.out; omega⟩, ⟨by (with_reducible repeat (first | apply Kd.R_alloc | apply Kd.R_drewN | apply Kd.R_drew)); exact HO356.out⟩, ⟨KK⟩, ⟨KB⟩⟩
          ·rw [if_neg c23] at H
           exact absurd H (by simp)
         ·rw [if_neg c22] at H
          exact absurd H (by simp)
        ·rw [if_neg c21] at H
         exact absurd H (by simp)
       ·replace c20 := Bool.eq_false_iff.mpr c20
        subst c20; have H1 : (if 0 ≤ x7_1 then (if x7_1 < (l0.length : Int) then (if ((rd_T35 l0 x7_1).f0) > a1_0 then (if x5_1.length < 3518437208883 then ((some (x5_1 ++ [(⟨a1_0, a1_1, a1_2, a1_3⟩ : S35)] : List (S35))).bind fun y358 => (if y358.length < 3518437208883 then (spec_l6Keep.l0 kj6 l0 (y358 ++ [(⟨(rd_T35 l0 x7_1).f0, (rd_T35 l0 x7_1).f1, (rd_T35 l0 x7_1).f2, (rd_T35 l0 x7_1).f3⟩ : S35)]) true (wrap64 (x7_1 + 1)) a1_0 a1_1 a1_2 a1_3) else (none))) else (none)) else (if x5_1.length < 3518437208883 then (spec_l6Keep.l0 kj6 l0 (x5_1 ++ [(⟨(rd_T35 l0 x7_1).f0, (rd_T35 l0 x7_1).f1, (rd_T35 l0 x7_1).f2, (rd_T35 l0 x7_1).f3⟩ : S35)]) false (wrap64 (x7_1 + 1)) a1_0 a1_1 a1_2 a1_3) else (none))) else (none)) else (none)) = some r := by rw [if_neg (show ¬ (false = true) by decide)] at H; exact H
        clear H; have H := H1; clear H1
        by_cases c26 : 0 ≤ x7_1
        ·rw [if_pos c26] at H
         have c26b0 : decide (0 ≤ x7_1) = true := decide_eq_true c26; clear c26
         by_cases c27 : x7_1 < (l0.length : Int)
         ·rw [if_pos c27] at H
          have c27b0 : decide (x7_1 < (l0.length : Int)) = true := decide_eq_true c27; clear c27
          by_cases c28 : ((rd_T35 l0 x7_1).f0) > a1_0
          ·rw [if_pos c28] at H
           have c28b0 : decide (a1_0 < ((rd_T35 l0 x7_1).f0)) = true := decide_eq_true c28; clear c28
           by_cases c29 : x5_1.length < 3518437208883
           ·rw [if_pos c29] at H
            have LMc29 := Aside0.mk c29; clear c29; obtain ⟨y358, hy358⟩ : ∃ y_ : List (S35), y_ = (x5_1 ++ [(⟨a1_0, a1_1, a1_2, a1_3⟩ : S35)]) := ⟨_, rfl⟩; replace H : (if y358.length < 3518437208883 then (spec_l6Keep.l0 kj6 l0 (y358 ++ [(⟨(rd_T35 l0 x7_1).f0, (rd_T35 l0 x7_1).f1, (rd_T35 l0 x7_1).f2, (rd_T35 l0 x7_1).f3⟩ : S35)]) true (wrap64 (x7_1 + 1)) a1_0 a1_1 a1_2 a1_3) else (none)) = some r := by first | (rw [hy358]; with_reducible exact H) | (have H2_ := (Option.bind_some _ _).symm.trans H; rw [hy358]; with_reducible exact H2_) | (have H2_ := (Option.bind_some _ _).symm.trans H; with_reducible exact H2_) | with_reducible exact H | (rw [hy358]; exact H) | exact H
            have Ny358 := Aside0.mk hy358; clear hy358
            by_cases c30 : y358.length < 3518437208883
            ·rw [if_pos c30] at H
             have LMc30 := Aside0.mk c30; clear c30; obtain ⟨y362, hy362⟩ : ∃ y_ : List (S35), y_ = (y358 ++ [(⟨(rd_T35 l0 x7_1).f0, (rd_T35 l0 x7_1).f1, (rd_T35 l0 x7_1).f2, (rd_T35 l0 x7_1).f3⟩ : S35)]) := ⟨_, rfl⟩; replace H : (spec_l6Keep.l0 kj6 l0 y362 true (wrap64 (x7_1 + 1)) a1_0 a1_1 a1_2 a1_3) = some r := by first | (rw [hy362]; with_reducible exact H) | (have H2_ := (Option.bind_some _ _).symm.trans H; rw [hy362]; with_reducible exact H2_) | (have H2_ := (Option.bind_some _ _).symm.trans H; with_reducible exact H2_) | with_reducible exact H | (rw [hy362]; exact H) | exact H
             have Ny362 := Aside0.mk hy362; clear hy362; have H' := Aside0.mk H; clear H
             try go_wp2
             have h_ := P3 (Kd.R_drew HO_5.out) (blk_drew BK337.out) (below_drew1 HB.out); clear HO_5 BK337 HB; obtain ⟨HO_5, BK337, HB⟩ := h_; have p357 : 0 ≤ (x7_1 : Int) := of_decide_eq_true (by first | (with_reducible assumption) | assumption); have q357 : x7_1 < (l0.length : Int) := of_decide_eq_true (by first | (with_reducible assumption) | assumption); obtain ⟨ad357, e357, hx357_0, hx357_1, hx357_2, hx357_3⟩ := at_T35 HR0.out x7_1 p357 q357; have hw357_3 := hx357_3; have hw357_2 := hx357_2; have hw357_1 := hx357_1; have hw357_0 := hx357_0
             cases e357
             replace hx357_0 := CB HB.out hx357_0; replace hx357_1 := CB HB.out hx357_1; replace hx357_2 := CB HB.out hx357_2; replace hx357_3 := CB HB.out hx357_3; replace p357 := eq_true p357; replace q357 := eq_true q357; refine start_ (n := 12) (S := fun w' => w'.cell? ⟨gb337, 0, none⟩ = some (.int .i64 a1_0) ∧ w'.cell? ⟨gb337, 1, none⟩ = some (.int .i64 a1_1) ∧ w'.cell? ⟨gb337, 2, none⟩ = some (.bool a1_2) ∧ w'.cell? ⟨gb337, 3, none⟩ = some (.string a1_3) ∧ w'.cell? (ad357.add ((x7_1).toNat * 4)) = some (.int .i64 ((rd_T35 l0 x7_1).f0)) ∧ w'.cell? ⟨(ad357.add ((x7_1).toNat * 4)).block, (ad357.add ((x7_1).toNat * 4)).off + 1, none⟩ = some (.int .i64 ((rd_T35 l0 x7_1).f1)) ∧ w'.cell? ⟨(ad357.add ((x7_1).toNat * 4)).block, (ad357.add ((x7_1).toNat * 4)).off + 2, none⟩ = some (.bool ((rd_T35 l0 x7_1).f2)) ∧ w'.cell? ⟨(ad357.add ((x7_1).toNat * 4)).block, (ad357.add ((x7_1).toNat * 4)).off + 3, none⟩ = some (.string ((rd_T35 l0 x7_1).f3))) (ds := []) #[F, F, F, F, F, F, F, F, F, F, F, F] (by kernel_rfl) rfl rfl ⟨(blk_cell BK337.out 0).trans rfl, (blk_cell BK337.out 1).trans rfl, (blk_cell BK337.out 2).trans rfl, (blk_cell BK337.out 3).trans rfl, ((HB.out.cell (World.block_lt_of_cell? w _ hw357_0)).trans hw357_0), ((HB.out.cell (World.block_lt_of_cell? w _ hw357_1)).trans hw357_1), ((HB.out.cell (World.block_lt_of_cell? w _ hw357_2)).trans hw357_2), ((HB.out.cell (World.block_lt_of_cell? w _ hw357_3)).trans hw357_3)⟩ (fun hHeld => ?_); refine with_tabW spec_l6Keep.tab9 spec_l6Keep.bits9 (fun HT_ HW_ => ?_); generalize wc.drew = w31 at HO_5 BK337 HB hx357_0 hx357_1 hx357_2 hx357_3 hHeld ⊢; refine pure_ (i := 0) (N := some 36) (v := ?_) (a' := ?_) #[T, F, F, F, F, F, F, F, F, F, F, F] rfl rfl (any_of HT_.out (by kernel_rfl)) (fun _ _ _ h => h) (Or.inl ⟨by rfl, ?_⟩) ?_ ?_; rotate_left
             ·exact KV
             rotate_left
             ·exact KA
             refine pure_ (i := 1) (N := some 37) (v := ?_) (a' := ?_) #[T, T, F, F, F, F, F, F, F, F, F, F] rfl rfl (any_of HT_.out (by kernel_rfl)) (fun _ _ _ h => h) (Or.inl ⟨by rfl, ?_⟩) ?_ ?_; rotate_left
             ·exact KV
             rotate_left
             ·exact KA
             refine pure_ (i := 2) (N := some 38) (v := ?_) (a' := ?_) #[T, T, T, F, F, F, F, F, F, F, F, F] rfl rfl (any_of HT_.out (by kernel_rfl)) (fun _ _ _ h => h) (Or.inl ⟨by rfl, ?_⟩) ?_ ?_; rotate_left
             ·exact KV
             rotate_left
             ·exact KA
             refine pure_ (i := 3) (N := some 39) (v := ?_) (a' := ?_) #[T, T, T, T, F, F, F, F, F, F, F, F] rfl rfl (any_of HT_.out (by kernel_rfl)) (fun _ _ _ h => h) (Or.inl ⟨by rfl, ?_⟩) ?_ ?_; rotate_left
             ·exact KV
             rotate_left
             ·exact KA
             refine pure_ (i := 4) (N := some 40) (v := ?_) (a' := ?_) #[T, T, T, T, T, F, F, F, F, F, F, F] rfl rfl (any_of HT_.out (by kernel_rfl)) (fun _ _ _ h => h) (Or.inl ⟨by rfl, ?_⟩) ?_ ?_; rotate_left
             ·exact KV
             rotate_left
             ·exact KA
             refine pure_ (i := 5) (N := some 41) (v := ?_) (a' := ?_) #[T, T, T, T, T, T, F, F, F, F, F, F] rfl rfl (any_of HT_.out (by kernel_rfl)) (fun _ _ _ h => h) (Or.inl ⟨by rfl, ?_⟩) ?_ ?_; rotate_left
             ·exact KV
             rotate_left
             ·exact KA
             refine pure_ (i := 6) (N := some 42) (v := ?_) (a' := ?_) #[T, T, T, T, T, T, T, F, F, F, F, F] rfl rfl (any_of HT_.out (by kernel_rfl)) (fun _ _ _ h => h) (Or.inl ⟨by rfl, ?_⟩) ?_ ?_; rotate_left
             ·exact KV
             rotate_left
             ·exact KA
             refine pure_ (i := 8) (N := some 44) (v := ?_) (a' := ?_) #[T, T, T, T, T, T, T, F, T, F, F, F] rfl rfl (any_of HT_.out (by kernel_rfl)) (fun _ _ _ h => h) (Or.inl ⟨by rfl, ?_⟩) ?_ ?_; rotate_left
             ·exact KV
             rotate_left
             ·exact KA
             refine take_ (i := 7) (N := some 43) (v := ?_) (a' := ?_) #[T, T, T, T, T, T, T, T, T, F, F, F] rfl rfl (take_ofW HT_.out HW_.out (by kernel_rfl)) (fun _ _ _ h => h) (Or.inl ⟨by rfl, ?_⟩) hHeld ?_ ?_; rotate_left
             ·rintro w' ⟨s0, s1, s2, s3, s4, s5, s6, s7⟩
              go_simp; with_reducible rfl
             rotate_left
             ·exact KA
             refine take_ (i := 9) (N := some 45) (v := ?_) (a' := ?_) #[T, T, T, T, T, T, T, T, T, T, F, F] rfl rfl (take_ofW HT_.out HW_.out (by kernel_rfl)) (fun _ _ _ h => h) (Or.inl ⟨by rfl, ?_⟩) hHeld ?_ ?_; rotate_left
             ·rintro w' ⟨s0, s1, s2, s3, s4, s5, s6, s7⟩
              go_simp; with_reducible rfl
             rotate_left
             ·exact KA
             refine pure_ (i := 10) (N := some 46) (v := ?_) (a' := ?_) #[T, T, T, T, T, T, T, T, T, T, T, F] rfl rfl (any_of HT_.out (by kernel_rfl)) (fun _ _ _ h => h) (Or.inl ⟨by rfl, ?_⟩) ?_ ?_; rotate_left
             ·exact KV
             rotate_left
             ·exact KA
             refine pure_ (i := 11) (N := some 47) (v := ?_) (a' := ?_) #[T, T, T, T, T, T, T, T, T, T, T, T] rfl rfl (any_of HT_.out (by kernel_rfl)) (fun _ _ _ h => h) (Or.inl ⟨by rfl, ?_⟩) ?_ ?_; rotate_left
             ·exact KV
             rotate_left
             ·exact KA
             refine done_ (done_of HT_.out (by kernel_rfl)) ?_; obtain ⟨hcz32_0, hcz32_1, hcz32_2, hcz32_3, hfz32_0, hfz32_1, hfz32_2, hfz32_3⟩ := C4 BK337.out
             try go_wp2_with (first | ((with_reducible refine gate_builtin (b := .append) (xs := #[.tmp 48, .tmp 50]) rfl ?_); at_builtin; refine Kd.R_append k35 (w0 := w) w.heap.size rfl (.tmp 48) (.tmp 50) 29 35 (.agg #[(.int .i64 0), (.int .i64 0), (.bool false), (.string ⟨#[]⟩)]) 40 rfl Try.underlying29 info35 rfl (by decide) (by omega) u5 x5_1 (⟨a1_0, a1_1, a1_2, a1_3⟩ : S35) [.int .i64 a1_0, .int .i64 a1_1, .bool a1_2, .string a1_3] (fun k_ => k_ ≠ gb337) (fun _ => False) rfl rfl ?aP (fun _ hk => hk.elim) ?aF ?aO ?aB ?aS ?aL ?_; (case aP => exact k35_mkM _ _ _ (⟨a1_0, a1_1, a1_2, a1_3⟩ : S35)); (case aB => exact KB); (case aF => exact (fun k_ hk => Kd.freshB (g := gb337) (o := .cells #[.int .i64 a1_0, .int .i64 a1_1, .bool a1_2, .string a1_3] 35 (0, 0)) KK k_ hk)); (case aO => exact (KR HO_5.out)); (case aS => exact (below_size KB)); (case aL => have := LMc29.out; omega); intro v359 w33 ho hb hg hat; rw [← Ny358.out] at ho; have h_ := P3 (BW BK337.out hg (Kd.R_away HO_5.out (fun _ hk => hk))) hb ho; clear BK337 HB HO_5; obtain ⟨BK337, HB, HO360⟩ := h_; clear ho hb hg hat; have p361 : 0 ≤ (x7_1 : Int) := of_decide_eq_true (by first | (with_reducible assumption) | assumption); have q361 : x7_1 < (l0.length : Int) := of_decide_eq_true (by first | (with_reducible assumption) | assumption); obtain ⟨ad361, e361, hx361_0, hx361_1, hx361_2, hx361_3⟩ := at_T35 HR0.out x7_1 p361 q361; obtain rfl : ad357 = ad361 := (by injection e361); replace hx361_0 := CB HB.out hx361_0; replace hx361_1 := CB HB.out hx361_1; replace hx361_2 := CB HB.out hx361_2; replace hx361_3 := CB HB.out hx361_3; replace p361 := eq_true p361; replace q361 := eq_true q361) | ((with_reducible refine gate_builtin (b := .append) (xs := #[.tmp 52, .tmp 57]) rfl ?_); at_builtin; refine Kd.R_append k35 (w0 := w) w.heap.size rfl (.tmp 52) (.tmp 57) 29 35 (.agg #[(.int .i64 0), (.int .i64 0), (.bool false), (.string ⟨#[]⟩)]) 40 rfl Try.underlying29 info35 rfl (by decide) (by omega) v359 y358 (⟨(rd_T35 l0 x7_1).f0, (rd_T35 l0 x7_1).f1, (rd_T35 l0 x7_1).f2, (rd_T35 l0 x7_1).f3⟩ : S35) [.int .i64 ((rd_T35 l0 x7_1).f0), .int .i64 ((rd_T35 l0 x7_1).f1), .bool ((rd_T35 l0 x7_1).f2), .string ((rd_T35 l0 x7_1).f3)] (fun k_ => k_ ≠ gb337) (fun _ => False) rfl rfl ?aP (fun _ hk => hk.elim) ?aF ?aO ?aB ?aS ?aL ?_; (case aP => exact k35_mkM _ _ _ (⟨(rd_T35 l0 x7_1).f0, (rd_T35 l0 x7_1).f1, (rd_T35 l0 x7_1).f2, (rd_T35 l0 x7_1).f3⟩ : S35)); (case aB => exact KB); (case aF => exact (fun k_ hk => Kd.freshB (g := gb337) (o := .cells #[.int .i64 a1_0, .int .i64 a1_1, .bool a1_2, .string a1_3] 35 (0, 0)) KK k_ hk)); (case aO => exact (KR HO360.out)); (case aS => exact (below_size KB)); (case aL => have := LMc30.out; omega); intro v363 w34 ho hb hg hat; rw [← Ny362.out] at ho; have h_ := P3 (BW BK337.out hg (Kd.R_away HO360.out (fun _ hk => hk))) hb ho; clear BK337 HB HO360; obtain ⟨BK337, HB, HO364⟩ := h_; clear ho hb hg hat))
             go_roundg kj6
             case measure => have := HK1.out; have := HJ6.out; omega
             case rel => exact ⟨(y362), (true), (wrap64 (x7_1 + 1)), (by first | rfl | (simp; done) | (simp [*]; done)), (by first | rfl | (simp; done) | (simp [*]; done)), H', ⟨by have := HK1.out; have := HJ6.out; omega⟩, ⟨by (with_reducible repeat (first | apply Kd.R_alloc | apply Kd.R_drewN | apply Kd.R_drew)); exact HO364.out⟩, ⟨KK⟩, ⟨KB⟩⟩
            ·rw [if_neg c30] at H
             exact absurd H (by simp)
           ·rw [if_neg c29] at H
            exact absurd H (by simp)
          ·rw [if_neg c28] at H
           have c28b0 : decide (a1_0 < ((rd_T35 l0 x7_1).f0)) = false := decide_eq_false c28; clear c28
           by_cases c35 : x5_1.length < 3518437208883
           ·rw [if_pos c35] at H
            have LMc35 := Aside0.mk c35; clear c35; obtain ⟨y366, hy366⟩ : ∃ y_ : List (S35), y_ = (x5_1 ++ [(⟨(rd_T35 l0 x7_1).f0, (rd_T35 l0 x7_1).f1, (rd_T35 l0 x7_1).f2, (rd_T35 l0 x7_1).f3⟩ : S35)]) := ⟨_, rfl⟩; replace H : (spec_l6Keep.l0 kj6 l0 y366 false (wrap64 (x7_1 + 1)) a1_0 a1_1 a1_2 a1_3) = some r := by first | (rw [hy366]; with_reducible exact H) | (have H2_ := (Option.bind_some _ _).symm.trans H; rw [hy366]; with_reducible exact H2_) | (have H2_ := (Option.bind_some _ _).symm.trans H; with_reducible exact H2_) | with_reducible exact H | (rw [hy366]; exact H) | exact H
            have Ny366 := Aside0.mk hy366; clear hy366; have H' := Aside0.mk H; clear H
            try go_wp2
            have h_ := P3 (Kd.R_drew HO_5.out) (blk_drew BK337.out) (below_drew1 HB.out); clear HO_5 BK337 HB; obtain ⟨HO_5, BK337, HB⟩ := h_; have p357 : 0 ≤ (x7_1 : Int) := of_decide_eq_true (by first | (with_reducible assumption) | assumption); have q357 : x7_1 < (l0.length : Int) := of_decide_eq_true (by first | (with_reducible assumption) | assumption); obtain ⟨ad357, e357, hx357_0, hx357_1, hx357_2, hx357_3⟩ := at_T35 HR0.out x7_1 p357 q357; have hw357_3 := hx357_3; have hw357_2 := hx357_2; have hw357_1 := hx357_1; have hw357_0 := hx357_0
            cases e357
            replace hx357_0 := CB HB.out hx357_0; replace hx357_1 := CB HB.out hx357_1; replace hx357_2 := CB HB.out hx357_2; replace hx357_3 := CB HB.out hx357_3; replace p357 := eq_true p357; replace q357 := eq_true q357; refine start_ (n := 12) (S := fun w' => w'.cell? ⟨gb337, 0, none⟩ = some (.int .i64 a1_0) ∧ w'.cell? ⟨gb337, 1, none⟩ = some (.int .i64 a1_1) ∧ w'.cell? ⟨gb337, 2, none⟩ = some (.bool a1_2) ∧ w'.cell? ⟨gb337, 3, none⟩ = some (.string a1_3) ∧ w'.cell? (ad357.add ((x7_1).toNat * 4)) = some (.int .i64 ((rd_T35 l0 x7_1).f0)) ∧ w'.cell? ⟨(ad357.add ((x7_1).toNat * 4)).block, (ad357.add ((x7_1).toNat * 4)).off + 1, none⟩ = some (.int .i64 ((rd_T35 l0 x7_1).f1)) ∧ w'.cell? ⟨(ad357.add ((x7_1).toNat * 4)).block, (ad357.add ((x7_1).toNat * 4)).off + 2, none⟩ = some (.bool ((rd_T35 l0 x7_1).f2)) ∧ w'.cell? ⟨(ad357.add ((x7_1).toNat * 4)).block, (ad357.add ((x7_1).toNat * 4)).off + 3, none⟩ = some (.string ((rd_T35 l0 x7_1).f3))) (ds := []) #[F, F, F, F, F, F, F, F, F, F, F, F] (by kernel_rfl) rfl rfl ⟨(blk_cell BK337.out 0).trans rfl, (blk_cell BK337.out 1).trans rfl, (blk_cell BK337.out 2).trans rfl, (blk_cell BK337.out 3).trans rfl, ((HB.out.cell (World.block_lt_of_cell? w _ hw357_0)).trans hw357_0), ((HB.out.cell (World.block_lt_of_cell? w _ hw357_1)).trans hw357_1), ((HB.out.cell (World.block_lt_of_cell? w _ hw357_2)).trans hw357_2), ((HB.out.cell (World.block_lt_of_cell? w _ hw357_3)).trans hw357_3)⟩ (fun hHeld => ?_); refine with_tabW spec_l6Keep.tab9 spec_l6Keep.bits9 (fun HT_ HW_ => ?_); generalize wc.drew = w36 at HO_5 BK337 HB hx357_0 hx357_1 hx357_2 hx357_3 hHeld ⊢; refine pure_ (i := 0) (N := some 36) (v := ?_) (a' := ?_) #[T, F, F, F, F, F, F, F, F, F, F, F] rfl rfl (any_of HT_.out (by kernel_rfl)) (fun _ _ _ h => h) (Or.inl ⟨by rfl, ?_⟩) ?_ ?_; rotate_left
            ·exact KV
            rotate_left
            ·exact KA
            refine pure_ (i := 1) (N := some 37) (v := ?_) (a' := ?_) #[T, T, F, F, F, F, F, F, F, F, F, F] rfl rfl (any_of HT_.out (by kernel_rfl)) (fun _ _ _ h => h) (Or.inl ⟨by rfl, ?_⟩) ?_ ?_; rotate_left
            ·exact KV
            rotate_left
            ·exact KA
            refine pure_ (i := 2) (N := some 38) (v := ?_) (a' := ?_) #[T, T, T, F, F, F, F, F, F, F, F, F] rfl rfl (any_of HT_.out (by kernel_rfl)) (fun _ _ _ h => h) (Or.inl ⟨by rfl, ?_⟩) ?_ ?_; rotate_left
            ·exact KV
            rotate_left
            ·exact KA
            refine pure_ (i := 3) (N := some 39) (v := ?_) (a' := ?_) #[T, T, T, T, F, F, F, F, F, F, F, F] rfl rfl (any_of HT_.out (by kernel_rfl)) (fun _ _ _ h => h) (Or.inl ⟨by rfl, ?_⟩) ?_ ?_; rotate_left
            ·exact KV
            rotate_left
            ·exact KA
            refine pure_ (i := 4) (N := some 40) (v := ?_) (a' := ?_) #[T, T, T, T, T, F, F, F, F, F, F, F] rfl rfl (any_of HT_.out (by kernel_rfl)) (fun _ _ _ h => h) (Or.inl ⟨by rfl, ?_⟩) ?_ ?_; rotate_left
            ·exact KV
            rotate_left
            ·exact KA
            refine pure_ (i := 5) (N := some 41) (v := ?_) (a' := ?_) #[T, T, T, T, T, T, F, F, F, F, F, F] rfl rfl (any_of HT_.out (by kernel_rfl)) (fun _ _ _ h => h) (Or.inl ⟨by rfl, ?_⟩) ?_ ?_; rotate_left
            ·exact KV
            rotate_left
            ·exact KA
            refine pure_ (i := 6) (N := some 42) (v := ?_) (a' := ?_) #[T, T, T, T, T, T, T, F, F, F, F, F] rfl rfl (any_of HT_.out (by kernel_rfl)) (fun _ _ _ h => h) (Or.inl ⟨by rfl, ?_⟩) ?_ ?_; rotate_left
            ·exact KV
            rotate_left
            ·exact KA
            refine pure_ (i := 8) (N := some 44) (v := ?_) (a' := ?_) #[T, T, T, T, T, T, T, F, T, F, F, F] rfl rfl (any_of HT_.out (by kernel_rfl)) (fun _ _ _ h => h) (Or.inl ⟨by rfl, ?_⟩) ?_ ?_; rotate_left
            ·exact KV
            rotate_left
            ·exact KA
            refine take_ (i := 7) (N := some 43) (v := ?_) (a' := ?_) #[T, T, T, T, T, T, T, T, T, F, F, F] rfl rfl (take_ofW HT_.out HW_.out (by kernel_rfl)) (fun _ _ _ h => h) (Or.inl ⟨by rfl, ?_⟩) hHeld ?_ ?_; rotate_left
            ·rintro w' ⟨s0, s1, s2, s3, s4, s5, s6, s7⟩
             go_simp; with_reducible rfl
            rotate_left
            ·exact KA
            refine take_ (i := 9) (N := some 45) (v := ?_) (a' := ?_) #[T, T, T, T, T, T, T, T, T, T, F, F] rfl rfl (take_ofW HT_.out HW_.out (by kernel_rfl)) (fun _ _ _ h => h) (Or.inl ⟨by rfl, ?_⟩) hHeld ?_ ?_; rotate_left
            ·rintro w' ⟨s0, s1, s2, s3, s4, s5, s6, s7⟩
             go_simp; with_reducible rfl
            rotate_left
            ·exact KA
            refine pure_ (i := 10) (N := some 46) (v := ?_) (a' := ?_) #[T, T, T, T, T, T, T, T, T, T, T, F] rfl rfl (any_of HT_.out (by kernel_rfl)) (fun _ _ _ h => h) (Or.inl ⟨by rfl, ?_⟩) ?_ ?_; rotate_left
            ·exact KV
            rotate_left
            ·exact KA
            refine pure_ (i := 11) (N := some 47) (v := ?_) (a' := ?_) #[T, T, T, T, T, T, T, T, T, T, T, T] rfl rfl (any_of HT_.out (by kernel_rfl)) (fun _ _ _ h => h) (Or.inl ⟨by rfl, ?_⟩) ?_ ?_; rotate_left
            ·exact KV
            rotate_left
            ·exact KA
            refine done_ (done_of HT_.out (by kernel_rfl)) ?_; have p365 : 0 ≤ (x7_1 : Int) := of_decide_eq_true (by first | (with_reducible assumption) | assumption); have q365 : x7_1 < (l0.length : Int) := of_decide_eq_true (by first | (with_reducible assumption) | assumption); obtain ⟨ad365, e365, hx365_0, hx365_1, hx365_2, hx365_3⟩ := at_T35 HR0.out x7_1 p365 q365; obtain rfl : ad357 = ad365 := (by injection e365); replace hx365_0 := CB HB.out hx365_0; replace hx365_1 := CB HB.out hx365_1; replace hx365_2 := CB HB.out hx365_2; replace hx365_3 := CB HB.out hx365_3; replace p365 := eq_true p365; replace q365 := eq_true q365
            try go_wp2_with (first | ((with_reducible refine gate_builtin (b := .append) (xs := #[.tmp 52, .tmp 57]) rfl ?_); at_builtin; refine Kd.R_append k35 (w0 := w) w.heap.size rfl (.tmp 52) (.tmp 57) 29 35 (.agg #[(.int .i64 0), (.int .i64 0), (.bool false), (.string ⟨#[]⟩)]) 40 rfl Try.underlying29 info35 rfl (by decide) (by omega) u5 x5_1 (⟨(rd_T35 l0 x7_1).f0, (rd_T35 l0 x7_1).f1, (rd_T35 l0 x7_1).f2, (rd_T35 l0 x7_1).f3⟩ : S35) [.int .i64 ((rd_T35 l0 x7_1).f0), .int .i64 ((rd_T35 l0 x7_1).f1), .bool ((rd_T35 l0 x7_1).f2), .string ((rd_T35 l0 x7_1).f3)] (fun k_ => k_ ≠ gb337) (fun _ => False) rfl rfl ?aP (fun _ hk => hk.elim) ?aF ?aO ?aB ?aS ?aL ?_; (case aP => exact k35_mkM _ _ _ (⟨(rd_T35 l0 x7_1).f0, (rd_T35 l0 x7_1).f1, (rd_T35 l0 x7_1).f2, (rd_T35 l0 x7_1).f3⟩ : S35)); (case aB => exact KB); (case aF => exact (fun k_ hk => Kd.freshB (g := gb337) (o := .cells #[.int .i64 a1_0, .int .i64 a1_1, .bool a1_2, .string a1_3] 35 (0, 0)) KK k_ hk)); (case aO => exact (KR HO_5.out)); (case aS => exact (below_size KB)); (case aL => have := LMc35.out; omega); intro v367 w37 ho hb hg hat; rw [← Ny366.out] at ho; have h_ := P3 (BW BK337.out hg (Kd.R_away HO_5.out (fun _ hk => hk))) hb ho; clear BK337 HB HO_5; obtain ⟨BK337, HB, HO368⟩ := h_; clear ho hb hg hat))
            go_roundg kj6
            case measure => have := HK1.out; have := HJ6.out; omega
            case rel => exact ⟨(y366), (false), (wrap64 (x7_1 + 1)), (by first | rfl | (simp; done) | (simp [*]; done)), (by first | rfl | (simp; done) | (simp [*]; done)), H', ⟨by have := HK1.out; have := HJ6.out; omega⟩, ⟨by (with_reducible repeat (first | apply Kd.R_alloc | apply Kd.R_drewN | apply Kd.R_drew)); exact HO368.out⟩, ⟨KK⟩, ⟨KB⟩⟩
           ·rw [if_neg c35] at H
            exact absurd H (by simp)
         ·rw [if_neg c27] at H
          exact absurd H (by simp)
        ·rw [if_neg c26] at H
         exact absurd H (by simp)
   ·rw [if_neg c6] at H
    have c6b0 : decide (x7_1 < (l0.length : Int)) = false := decide_eq_false c6; clear c6
    by_cases c38 : x6_1 = true
    ·subst c38
     have H1 : (some x5_1) = some r := by rw [if_pos rfl] at H; exact H
     clear H; have H := H1; clear H1; obtain rfl := Option.some.inj H
     go_wp2
     go_ret
     exact ⟨_, KE, by (with_reducible repeat (first | apply Kd.R_alloc | apply Kd.R_drewN | apply Kd.R_drew)); exact Kd.R_mono HO_5.out (fun _ hk => trivial), KB⟩
    ·replace c38 := Bool.eq_false_iff.mpr c38
     subst c38; have H1 : (if x5_1.length < 3518437208883 then (some (x5_1 ++ [(⟨a1_0, a1_1, a1_2, a1_3⟩ : S35)])) else (none)) = some r := by rw [if_neg (show ¬ (false = true) by decide)] at H; exact H
     clear H; have H := H1; clear H1
     by_cases c39 : x5_1.length < 3518437208883
     ·rw [if_pos c39] at H
      have LMc39 := Aside0.mk c39; clear c39; obtain ⟨y341, hy341⟩ : ∃ y_ : List (S35), y_ = (x5_1 ++ [(⟨a1_0, a1_1, a1_2, a1_3⟩ : S35)]) := ⟨_, rfl⟩; replace H : (some y341) = some r := by first | (rw [hy341]; with_reducible exact H) | (have H2_ := (Option.bind_some _ _).symm.trans H; rw [hy341]; with_reducible exact H2_) | (have H2_ := (Option.bind_some _ _).symm.trans H; with_reducible exact H2_) | with_reducible exact H | (rw [hy341]; exact H) | exact H
      have Ny341 := Aside0.mk hy341; clear hy341; obtain rfl := Option.some.inj H; obtain ⟨hcz40_0, hcz40_1, hcz40_2, hcz40_3, hfz40_0, hfz40_1, hfz40_2, hfz40_3⟩ := C4 BK337.out
      go_wp2_with (first | ((with_reducible refine gate_builtin (b := .append) (xs := #[.tmp 61, .tmp 63]) rfl ?_); at_builtin; refine Kd.R_append k35 (w0 := w) w.heap.size rfl (.tmp 61) (.tmp 63) 29 35 (.agg #[(.int .i64 0), (.int .i64 0), (.bool false), (.string ⟨#[]⟩)]) 40 rfl Try.underlying29 info35 rfl (by decide) (by omega) u5 x5_1 (⟨a1_0, a1_1, a1_2, a1_3⟩ : S35) [.int .i64 a1_0, .int .i64 a1_1, .bool a1_2, .string a1_3] (fun k_ => k_ ≠ gb337) (fun _ => False) rfl rfl ?aP (fun _ hk => hk.elim) ?aF ?aO ?aB ?aS ?aL ?_; (case aP => exact k35_mkM _ _ _ (⟨a1_0, a1_1, a1_2, a1_3⟩ : S35)); (case aB => exact KB); (case aF => exact (fun k_ hk => Kd.freshB (g := gb337) (o := .cells #[.int .i64 a1_0, .int .i64 a1_1, .bool a1_2, .string a1_3] 35 (0, 0)) KK k_ hk)); (case aO => exact (KR HO_5.out)); (case aS => exact (below_size KB)); (case aL => have := LMc39.out; omega); intro v342 w41 ho hb hg hat; rw [← Ny341.out] at ho; have h_ := P3 (BW BK337.out hg (Kd.R_away HO_5.out (fun _ hk => hk))) hb ho; clear BK337 HB HO_5; obtain ⟨BK337, HB, HO343⟩ := h_; clear ho hb hg hat))
      go_ret
      exact ⟨_, KE, by (with_reducible repeat (first | apply Kd.R_alloc | apply Kd.R_drewN | apply Kd.R_drew)); exact Kd.R_mono HO343.out (fun _ hk => trivial), KB⟩
     ·rw [if_neg c39] at H
      exact absurd H (by simp)

end Go.Proofs.Ytnoghojlpicecaa.PFnEras
