-- What each Go function that this law reaches comes to: written by a program out of the translation.
import Derived.Test.YtnoghojlpicecaaMFnErasx0
import Derived.Test.YtnoghojlpicecaaMFnErasx2
namespace Go.Proofs.Ytnoghojlpicecaa.PFnEras
open Go.RowKit Go.Proofs.YtnoghojlpicecaaW.PrintWords Go.Proofs.YtnoghojlpicecaaW.PrintLast Go.Proofs.YtnoghojlpicecaaW.PrintMore
attribute [local go_sem] max2_int min2_int max_two min_two max_three min_three max_four min_four   -- for this text's walks alone
set_option linter.unusedVariables false
set_option linter.unusedSimpArgs false

/-! ### spec_l6Copy: function 41 -/
def spec_l6Copy.f (l0_0 : List (S35)) (l0_1 : List (S35)) (a0_2 : Int) : Option ((List (S35)) × (List (S35)) × Int) := (some (([] : List (S35)) : List (S35))).bind fun y119 => (if y119.length + l0_0.length < 3518437208883 then ((some (([] : List (S35)) : List (S35))).bind fun y125 => (if y125.length + l0_1.length < 3518437208883 then (some ((y119 ++ l0_0), (y125 ++ l0_1), a0_2)) else (none))) else (none))
def spec_l6Copy.T1 : Bool × List (List Nat × List Nat) := (true, [([], []), ([], []), ([1], [1]), ([0, 2], [0, 2]), ([], []), ([], []), ([5], [5]), ([4, 6, 3], [4, 6]), ([], []), ([8], [8]), ([3, 7, 9], [3, 7, 9]), ([10, 7, 0, 1, 2, 3, 4, 5, 6, 7, 8, 9, 10], [10])])
def spec_l6Copy.B1 : List Nat := [0, 0, 2, 7, 0, 0, 32, 127, 0, 256, 1023, 2047]
theorem spec_l6Copy.tab1 : rtab .any (opsOf Try.f41 1) = spec_l6Copy.T1 := by kernel_rfl
theorem spec_l6Copy.bits1 : waitsOk spec_l6Copy.T1.2 spec_l6Copy.B1 = true := by kernel_rfl
set_option maxHeartbeats 8000000 in
set_option maxRecDepth 100000 in
theorem spec_l6Copy.calls (A0_0 : Option Addr) (c0_0 : Nat) (l0_0 : List (S35)) (A0_1 : Option Addr) (c0_1 : Nat) (l0_1 : List (S35)) (a0_2 : Int) (r1 : List (S35)) (r2 : List (S35)) (r3 : Int) (w : World) (hr0_0 : Kd.C k35 w A0_0 l0_0.length l0_0) (hc0_0 : l0_0.length ≤ c0_0) (hr0_1 : Kd.C k35 w A0_1 l0_1.length l0_1) (hc0_1 : l0_1.length ≤ c0_1) (h : spec_l6Copy.f l0_0 l0_1 a0_2 = some (r1, r2, r3)) :
  Calls Try.prog 41 #[.agg #[.slice A0_0 l0_0.length c0_0, .slice A0_1 l0_1.length c0_1, .int .i64 a0_2]] w fun e w' => ∃ v0_ v1_ : Value, e = .returned (.agg #[v0_, v1_, .int .i64 r3]) ∧ Kd.R k35 35 w' w.heap.size (fun k_ => some k_ ≠ (v1_ : Value).ownBlock) v0_ r1 ∧ Kd.R k35 35 w' w.heap.size (fun k_ => some k_ ≠ (v0_ : Value).ownBlock) v1_ r2 ∧ Below w.heap.size w w' := by
 have hu31 := Try.underlying31; have HR0_0 := Aside0.mk hr0_0; have HC0_0 := Aside0.mk hc0_0; clear hr0_0 hc0_0; have HR0_1 := Aside0.mk hr0_1; have HC0_1 := Aside0.mk hc0_1; clear hr0_1 hc0_1; have HB := Aside0.mk (Below.refl w.heap.size w); have H : ((some (([] : List (S35)) : List (S35))).bind fun y119 => (if y119.length + l0_0.length < 3518437208883 then ((some (([] : List (S35)) : List (S35))).bind fun y125 => (if y125.length + l0_1.length < 3518437208883 then (some ((y119 ++ l0_0), (y125 ++ l0_1), a0_2)) else (none))) else (none))) = some (r1, r2, r3) := h; clear h; obtain ⟨y119, hy119⟩ : ∃ y_ : List (S35), y_ = (([] : List (S35))) := ⟨_, rfl⟩; replace H : (if y119.length + l0_0.length < 3518437208883 then ((some (([] : List (S35)) : List (S35))).bind fun y125 => (if y125.length + l0_1.length < 3518437208883 then (some ((y119 ++ l0_0), (y125 ++ l0_1), a0_2)) else (none))) else (none)) = some (r1, r2, r3) := by first | (rw [hy119]; with_reducible exact H) | (have H2_ := (Option.bind_some _ _).symm.trans H; rw [hy119]; with_reducible exact H2_) | (have H2_ := (Option.bind_some _ _).symm.trans H; with_reducible exact H2_) | with_reducible exact H | (rw [hy119]; exact H) | exact H
 have Ny119 := Aside0.mk hy119; clear hy119
 by_cases c2 : y119.length + l0_0.length < 3518437208883
 ·rw [if_pos c2] at H
  have LMc2 := Aside0.mk c2; clear c2; obtain ⟨y122, hy122⟩ : ∃ y_ : List (S35), y_ = (y119 ++ l0_0) := ⟨_, rfl⟩; replace H : ((some (([] : List (S35)) : List (S35))).bind fun y125 => (if y125.length + l0_1.length < 3518437208883 then (some (y122, (y125 ++ l0_1), a0_2)) else (none))) = some (r1, r2, r3) := by first | (rw [hy122]; with_reducible exact H) | (have H2_ := (Option.bind_some _ _).symm.trans H; rw [hy122]; with_reducible exact H2_) | (have H2_ := (Option.bind_some _ _).symm.trans H; with_reducible exact H2_) | with_reducible exact H | (rw [hy122]; exact H) | exact H
  have Ny122 := Aside0.mk hy122; clear hy122; obtain ⟨y125, hy125⟩ : ∃ y_ : List (S35), y_ = (([] : List (S35))) := ⟨_, rfl⟩; replace H : (if y125.length + l0_1.length < 3518437208883 then (some (y122, (y125 ++ l0_1), a0_2)) else (none)) = some (r1, r2, r3) := by first | (rw [hy125]; with_reducible exact H) | (have H2_ := (Option.bind_some _ _).symm.trans H; rw [hy125]; with_reducible exact H2_) | (have H2_ := (Option.bind_some _ _).symm.trans H; with_reducible exact H2_) | with_reducible exact H | (rw [hy125]; exact H) | exact H
  have Ny125 := Aside0.mk hy125; clear hy125
  by_cases c3 : y125.length + l0_1.length < 3518437208883
  ·rw [if_pos c3] at H
   have LMc3 := Aside0.mk c3; clear c3; obtain ⟨y128, hy128⟩ : ∃ y_ : List (S35), y_ = (y125 ++ l0_1) := ⟨_, rfl⟩; replace H : (some (y122, y128, a0_2)) = some (r1, r2, r3) := by first | (rw [hy128]; with_reducible exact H) | (have H2_ := (Option.bind_some _ _).symm.trans H; rw [hy128]; with_reducible exact H2_) | (have H2_ := (Option.bind_some _ _).symm.trans H; with_reducible exact H2_) | with_reducible exact H | (rw [hy128]; exact H) | exact H
   have Ny128 := Aside0.mk hy128; clear hy128; simp only [Option.some.injEq, Prod.mk.injEq] at H; obtain ⟨rfl, rfl, rfl⟩ := H
   go_enter Try.func41, Try.ntmps41
   try go_wp2_with (first | ((with_reducible refine GD 1 ?_); refine BE 1 #[.slice A0_0 l0_0.length c0_0, .slice A0_1 l0_1.length c0_1, .int .i64 a0_2] 31 ?_; intro gb117 hg w4 hbox hb; have h_ := PB w hb hbox hg; clear HB; obtain ⟨HB, BK117, GW117, GE117⟩ := h_; clear hb hbox hg) | ((with_reducible refine GD 2 ?_); refine BE 2 #[.slice none 0 0, .slice none 0 0, .int .i64 0] 31 ?_; intro gb118 hg w5 hbox hb; have h_ := P7 (BL BK117.out hb) (below_step KB hb) hbox (Kg w hg) (Kg w hg) (NX hg BK117.out) (NY hg BK117.out); clear BK117 HB; obtain ⟨BK117, HB, BK118, GW118, GE118, NB117_118, NB118_117⟩ := h_; clear hb hbox hg))
   have h_ := P3 (blk_drew BK117.out) (blk_drew BK118.out) (below_drew1 HB.out); clear BK117 BK118 HB; obtain ⟨BK117, BK118, HB⟩ := h_; refine start_ (n := 12) (S := fun w' => w'.cell? ⟨gb117, 0, none⟩ = some (.slice A0_0 l0_0.length c0_0) ∧ w'.cell? ⟨gb117, 1, none⟩ = some (.slice A0_1 l0_1.length c0_1) ∧ w'.cell? ⟨gb117, 2, none⟩ = some (.int .i64 a0_2)) (ds := []) #[F, F, F, F, F, F, F, F, F, F, F, F] (by kernel_rfl) rfl rfl ⟨(blk_cell BK117.out 0).trans rfl, (blk_cell BK117.out 1).trans rfl, (blk_cell BK117.out 2).trans rfl⟩ (fun hHeld => ?_); refine with_tabW spec_l6Copy.tab1 spec_l6Copy.bits1 (fun HT_ HW_ => ?_); generalize w5.drew = w6 at BK117 BK118 HB hHeld ⊢; refine pure_ (i := 1) (N := some 4) (v := ?_) (a' := ?_) #[F, T, F, F, F, F, F, F, F, F, F, F] rfl rfl (any_of HT_.out (by kernel_rfl)) (fun _ _ _ h => h) (Or.inl ⟨by rfl, ?_⟩) ?_ ?_; rotate_left
   ·exact KV
   rotate_left
   ·exact KA
   refine pure_ (i := 5) (N := some 8) (v := ?_) (a' := ?_) #[F, T, F, F, F, T, F, F, F, F, F, F] rfl rfl (any_of HT_.out (by kernel_rfl)) (fun _ _ _ h => h) (Or.inl ⟨by rfl, ?_⟩) ?_ ?_; rotate_left
   ·exact KV
   rotate_left
   ·exact KA
   refine pure_ (i := 8) (N := some 11) (v := ?_) (a' := ?_) #[F, T, F, F, F, T, F, F, T, F, F, F] rfl rfl (any_of HT_.out (by kernel_rfl)) (fun _ _ _ h => h) (Or.inl ⟨by rfl, ?_⟩) ?_ ?_; rotate_left
   ·exact KV
   rotate_left
   ·exact KA
   refine take_ (i := 2) (N := some 5) (v := ?_) (a' := ?_) #[F, T, T, F, F, T, F, F, T, F, F, F] rfl rfl (take_ofW HT_.out HW_.out (by kernel_rfl)) (fun _ _ _ h => h) (Or.inl ⟨by rfl, ?_⟩) hHeld ?_ ?_; rotate_left
   ·rintro w' ⟨s0, s1, s2⟩
    go_simp; with_reducible rfl
   rotate_left
   ·exact KA
   refine take_ (i := 6) (N := some 9) (v := ?_) (a' := ?_) #[F, T, T, F, F, T, T, F, T, F, F, F] rfl rfl (take_ofW HT_.out HW_.out (by kernel_rfl)) (fun _ _ _ h => h) (Or.inl ⟨by rfl, ?_⟩) hHeld ?_ ?_; rotate_left
   ·rintro w' ⟨s0, s1, s2⟩
    go_simp; with_reducible rfl
   rotate_left
   ·exact KA
   refine take_ (i := 9) (N := some 12) (v := ?_) (a' := ?_) #[F, T, T, F, F, T, T, F, T, T, F, F] rfl rfl (take_ofW HT_.out HW_.out (by kernel_rfl)) (fun _ _ _ h => h) (Or.inl ⟨by rfl, ?_⟩) hHeld ?_ ?_; rotate_left
   ·rintro w' ⟨s0, s1, s2⟩
    go_simp; with_reducible rfl
   rotate_left
   ·exact KA
   refine join_ (σ := Value × Value × Value) 3 #[T, T, T, T, T, T, T, F, T, T, F, F] (fun s_ => [(3, s_.1), (6, s_.2.1), (7, s_.2.2)]) (fun s_ w' => (w'.cell? ⟨gb117, 0, none⟩ = some (.slice A0_0 l0_0.length c0_0) ∧ w'.cell? ⟨gb117, 1, none⟩ = some (.slice A0_1 l0_1.length c0_1) ∧ w'.cell? ⟨gb117, 2, none⟩ = some (.int .i64 a0_2)) ∧ (Kd.R k35 35 w' w.heap.size (fun k_ => some k_ ≠ (s_.2.2 : Value).ownBlock) s_.2.1 y122) ∧ (Kd.R k35 35 w' w.heap.size (fun k_ => some k_ ≠ (s_.2.1 : Value).ownBlock) s_.2.2 y125) ∧ (w'.heap[gb117]? = some (.cells #[.slice A0_0 l0_0.length c0_0, .slice A0_1 l0_1.length c0_1, .int .i64 a0_2] 31 (0, 0))) ∧ (w'.heap[gb118]? = some (.cells #[.slice none 0 0, .slice none 0 0, .int .i64 0] 31 (0, 0))) ∧ (Below w.heap.size w w')) ?_ ?_; rotate_left
   ·intro hCont
    refine two_ (i := 0) (j := 4) (Ni := some 3) (Nj := some 7) #[T, T, T, F, F, T, T, F, T, T, F, F] #[F, T, T, F, T, T, T, F, T, T, F, F] rfl rfl rfl rfl (two_of HT_.out (by kernel_rfl)) (by decide) (by decide) (fun K hK => ?_) (fun K hK => ?_)
    ·skip
     refine Kd.R_lit_step k35 _ 35 ?hg (N := 3) ?hd (xs := ([] : List (S35))) (inner := []) (ok := fun _ => True) (okp := fun _ => True) ?hr ?hp (fun _ hk => hk) trivial (Below.refl _ _) (Nat.le_refl _) (by simp) ?_; (case hd => rfl); (case hg => rfl); (case hr => first | (go_simp; done) | (go_simp; rfl)); (case hp => exact (Reps.none _ _)); intro v120 w7 ho8 hb hg_ hnew_; clear hg_ hnew_; (first | rw [← Ny119.out] at ho8 | (simp only [Int.reduceToNat] at ho8; rw [← Ny119.out] at ho8)); have h_ := P4 (Kd.R_lower ho8 (below_size KB)) (BL BK117.out hb) (BL BK118.out hb) (below_step KB hb); clear BK117 BK118 HB; obtain ⟨HO121, BK117, BK118, HB⟩ := h_; clear hb ho8; refine hK.out _ _ (D3 BK117.out) (fun hHeld => ?_); clear hK K; refine norm_ (a' := ?_) ?_ ?_; rotate_left
     ·show Act.put _ (some 3) _ = _; exact KA
     refine two_ (i := 3) (j := 4) (Ni := some 6) (Nj := some 7) #[T, T, T, T, F, T, T, F, T, T, F, F] #[T, T, T, F, T, T, T, F, T, T, F, F] rfl rfl rfl rfl (two_of HT_.out (by kernel_rfl)) (by decide) (by decide) (fun K hK => ?_) (fun K hK => ?_)
     ·skip
      refine Kd.R_append_rows_step k35 (w0 := w) w.heap.size (by rfl) (.tmp 3) (.tmp 5) 29 35 (.agg #[(.int .i64 0), (.int .i64 0), (.bool false), (.string ⟨#[]⟩)]) 40 rfl Try.underlying29 info35 rfl (by decide) (by omega) v120 y119 l0_0 _ _ _ (fun _ => True) (fun _ => False) rfl rfl ?aO ?aR (fun _ _ h => h) (fun _ h => h.elim) ?aF ?aB ?aS ?aL ?_; (case aR => repeat (first | exact (Kd.C_below HR0_0.out HB.out) | (with_reducible refine Kd.C_alloc ?_ _) | (with_reducible refine Kd.C_drewN ?_ _) | (with_reducible refine Kd.C_drew ?_))); (case aB => exact KB); (case aF => exact (fun _ _ => trivial)); (case aO => exact (KR HO121.out)); (case aS => exact (below_size KB)); (case aL => have := LMc2.out; omega); intro v123 w9 ho hb hg hat; rw [← Ny122.out] at ho; have h_ := P4 (BW BK117.out hg (Kd.R_ne HO121.out BK117.out (by decide))) (BW BK118.out hg (Kd.R_ne HO121.out BK118.out (by decide))) hb ho; clear BK117 BK118 HB HO121; obtain ⟨BK117, BK118, HB, HO124⟩ := h_; clear ho hb hg hat; refine hK.out _ _ (D3 BK117.out) (fun hHeld => ?_); clear hK K; refine norm_ (a' := ?_) ?_ ?_; rotate_left
      ·show Act.put _ (some 6) _ = _; exact KA
      refine one_ (i := 4) (N := some 7) #[T, T, T, T, T, T, T, F, T, T, F, F] rfl rfl (one_of HT_.out (by kernel_rfl)) (by decide) (fun K hK => ?_); refine Kd.R_lit_step k35 _ 35 ?hg (N := 7) ?hd (xs := ([] : List (S35))) (inner := []) (ok := fun _ => True) (okp := fun _ => True) ?hr ?hp (fun _ hk => hk) trivial (Below.refl _ _) (Nat.le_refl _) (by simp) ?_; (case hd => rfl); (case hg => rfl); (case hr => first | (go_simp; done) | (go_simp; rfl)); (case hp => exact (Reps.none _ _)); intro v126 w10 ho11 hb hg_ hnew_; clear hg_ hnew_; (first | rw [← Ny125.out] at ho11 | (simp only [Int.reduceToNat] at ho11; rw [← Ny125.out] at ho11)); have h_ := P5 (Kd.R_elder' (KR HO124.out) (Kd.R_base ho11) hb) (Kd.R_lower (Kd.R_new' ho11 (Kd.R_lt (KR HO124.out))) (below_size KB)) (BL BK117.out hb) (BL BK118.out hb) (below_step KB hb); clear HO124 BK117 BK118 HB; obtain ⟨HO124, HO127, BK117, BK118, HB⟩ := h_; clear hb ho11; refine hK.out _ _ (D3 BK117.out) (fun hHeld => ?_); clear hK K; refine norm_ (a' := ?_) ?_ ?_; rotate_left
      ·show Act.put _ (some 7) _ = _; exact KA
      exact norm_ (by simp only [putAll, Act.put, List.setIfInBounds_toArray, List.set_cons_zero, List.set_cons_succ]) (hCont (v120, v123, v126) _ ⟨hHeld, (by (with_reducible repeat (first | apply Kd.R_alloc | apply Kd.R_drewN | apply Kd.R_drew)); exact Kd.R_mono HO124.out (fun _ hk => hk.2)), (by (with_reducible repeat (first | apply Kd.R_alloc | apply Kd.R_drewN | apply Kd.R_drew)); exact Kd.R_mono HO127.out (fun _ hk => hk.2)), KK, KK, KB⟩)
     ·skip
      refine Kd.R_lit_step k35 _ 35 ?hg (N := 7) ?hd (xs := ([] : List (S35))) (inner := []) (ok := fun _ => True) (okp := fun _ => True) ?hr ?hp (fun _ hk => hk) trivial (Below.refl _ _) (Nat.le_refl _) (by simp) ?_; (case hd => rfl); (case hg => rfl); (case hr => first | (go_simp; done) | (go_simp; rfl)); (case hp => exact (Reps.none _ _)); intro v126 w9 ho10 hb hg_ hnew_; clear hg_ hnew_; (first | rw [← Ny125.out] at ho10 | (simp only [Int.reduceToNat] at ho10; rw [← Ny125.out] at ho10)); have h_ := P5 (Kd.R_elder' (KR HO121.out) (Kd.R_base ho10) hb) (Kd.R_lower (Kd.R_new' ho10 (Kd.R_lt (KR HO121.out))) (below_size KB)) (BL BK117.out hb) (BL BK118.out hb) (below_step KB hb); clear HO121 BK117 BK118 HB; obtain ⟨HO121, HO127, BK117, BK118, HB⟩ := h_; clear hb ho10; refine hK.out _ _ (D3 BK117.out) (fun hHeld => ?_); clear hK K; refine norm_ (a' := ?_) ?_ ?_; rotate_left
      ·show Act.put _ (some 7) _ = _; exact KA
      refine one_ (i := 3) (N := some 6) #[T, T, T, T, T, T, T, F, T, T, F, F] rfl rfl (one_of HT_.out (by kernel_rfl)) (by decide) (fun K hK => ?_); refine Kd.R_append_rows_step k35 (w0 := w) w.heap.size (by rfl) (.tmp 3) (.tmp 5) 29 35 (.agg #[(.int .i64 0), (.int .i64 0), (.bool false), (.string ⟨#[]⟩)]) 40 rfl Try.underlying29 info35 rfl (by decide) (by omega) v120 y119 l0_0 _ _ _ (fun k_ => some k_ ≠ (v126 : Value).ownBlock) (fun _ => False) rfl rfl ?aO ?aR (fun _ _ h => h) (fun _ h => h.elim) ?aF ?aB ?aS ?aL ?_; (case aR => repeat (first | exact (Kd.C_below HR0_0.out HB.out) | (with_reducible refine Kd.C_alloc ?_ _) | (with_reducible refine Kd.C_drewN ?_ _) | (with_reducible refine Kd.C_drew ?_))); (case aB => exact KB); (case aF => exact (fun k_ hk => Kd.fresh' (Kd.R_lt (KR HO127.out)) k_ hk)); (case aO => exact (by (with_reducible repeat (first | apply Kd.R_alloc | apply Kd.R_drewN | apply Kd.R_drew)); exact Kd.R_mono HO121.out (fun _ hk => hk.2))); (case aS => exact (below_size KB)); (case aL => have := LMc2.out; omega); intro v123 w11 ho hb hg hat; rw [← Ny122.out] at ho; have h_ := P5 (BW BK117.out hg (Kd.R_ne HO121.out BK117.out (by decide))) (BW BK118.out hg (Kd.R_ne HO121.out BK118.out (by decide))) (Kd.R_after (ok := (fun _ => True)) (KR HO127.out) hg hat) hb ho; clear BK117 BK118 HO127 HB HO121; obtain ⟨BK117, BK118, HO127, HB, HO124⟩ := h_; clear ho hb hg hat; refine hK.out _ _ (D3 BK117.out) (fun hHeld => ?_); clear hK K; refine norm_ (a' := ?_) ?_ ?_; rotate_left
      ·show Act.put _ (some 6) _ = _; exact KA
      exact norm_ (by simp only [putAll, Act.put, List.setIfInBounds_toArray, List.set_cons_zero, List.set_cons_succ]) (hCont (v120, v123, v126) _ ⟨hHeld, (KR HO124.out), (by (with_reducible repeat (first | apply Kd.R_alloc | apply Kd.R_drewN | apply Kd.R_drew)); exact Kd.R_mono HO127.out (fun _ hk => hk.2)), KK, KK, KB⟩)
    ·skip
     refine Kd.R_lit_step k35 _ 35 ?hg (N := 7) ?hd (xs := ([] : List (S35))) (inner := []) (ok := fun _ => True) (okp := fun _ => True) ?hr ?hp (fun _ hk => hk) trivial (Below.refl _ _) (Nat.le_refl _) (by simp) ?_; (case hd => rfl); (case hg => rfl); (case hr => first | (go_simp; done) | (go_simp; rfl)); (case hp => exact (Reps.none _ _)); intro v126 w7 ho8 hb hg_ hnew_; clear hg_ hnew_; (first | rw [← Ny125.out] at ho8 | (simp only [Int.reduceToNat] at ho8; rw [← Ny125.out] at ho8)); have h_ := P4 (Kd.R_lower ho8 (below_size KB)) (BL BK117.out hb) (BL BK118.out hb) (below_step KB hb); clear BK117 BK118 HB; obtain ⟨HO127, BK117, BK118, HB⟩ := h_; clear hb ho8; refine hK.out _ _ (D3 BK117.out) (fun hHeld => ?_); clear hK K; refine norm_ (a' := ?_) ?_ ?_; rotate_left
     ·show Act.put _ (some 7) _ = _; exact KA
     refine one_ (i := 0) (N := some 3) #[T, T, T, F, T, T, T, F, T, T, F, F] rfl rfl (one_of HT_.out (by kernel_rfl)) (by decide) (fun K hK => ?_); refine Kd.R_lit_step k35 _ 35 ?hg (N := 3) ?hd (xs := ([] : List (S35))) (inner := []) (ok := fun _ => True) (okp := fun _ => True) ?hr ?hp (fun _ hk => hk) trivial (Below.refl _ _) (Nat.le_refl _) (by simp) ?_; (case hd => rfl); (case hg => rfl); (case hr => first | (go_simp; done) | (go_simp; rfl)); (case hp => exact (Reps.none _ _)); intro v120 w9 ho10 hb hg_ hnew_; clear hg_ hnew_; (first | rw [← Ny119.out] at ho10 | (simp only [Int.reduceToNat] at ho10; rw [← Ny119.out] at ho10)); have h_ := P5 (Kd.R_elder' (KR HO127.out) (Kd.R_base ho10) hb) (Kd.R_lower (Kd.R_new' ho10 (Kd.R_lt (KR HO127.out))) (below_size KB)) (BL BK117.out hb) (BL BK118.out hb) (below_step KB hb); clear HO127 BK117 BK118 HB; obtain ⟨HO127, HO121, BK117, BK118, HB⟩ := h_; clear hb ho10; refine hK.out _ _ (D3 BK117.out) (fun hHeld => ?_); clear hK K; refine norm_ (a' := ?_) ?_ ?_; rotate_left
     ·show Act.put _ (some 3) _ = _; exact KA
     refine one_ (i := 3) (N := some 6) #[T, T, T, T, T, T, T, F, T, T, F, F] rfl rfl (one_of HT_.out (by kernel_rfl)) (by decide) (fun K hK => ?_); refine Kd.R_append_rows_step k35 (w0 := w) w.heap.size (by rfl) (.tmp 3) (.tmp 5) 29 35 (.agg #[(.int .i64 0), (.int .i64 0), (.bool false), (.string ⟨#[]⟩)]) 40 rfl Try.underlying29 info35 rfl (by decide) (by omega) v120 y119 l0_0 _ _ _ (fun k_ => some k_ ≠ (v126 : Value).ownBlock) (fun _ => False) rfl rfl ?aO ?aR (fun _ _ h => h) (fun _ h => h.elim) ?aF ?aB ?aS ?aL ?_; (case aR => repeat (first | exact (Kd.C_below HR0_0.out HB.out) | (with_reducible refine Kd.C_alloc ?_ _) | (with_reducible refine Kd.C_drewN ?_ _) | (with_reducible refine Kd.C_drew ?_))); (case aB => exact KB); (case aF => exact (fun k_ hk => Kd.fresh' (Kd.R_lt (KR HO127.out)) k_ hk)); (case aO => exact (by (with_reducible repeat (first | apply Kd.R_alloc | apply Kd.R_drewN | apply Kd.R_drew)); exact Kd.R_mono HO121.out (fun _ hk => hk.2))); (case aS => exact (below_size KB)); (case aL => have := LMc2.out; omega); intro v123 w11 ho hb hg hat; rw [← Ny122.out] at ho; have h_ := P5 (BW BK117.out hg (Kd.R_ne HO121.out BK117.out (by decide))) (BW BK118.out hg (Kd.R_ne HO121.out BK118.out (by decide))) (Kd.R_after (ok := (fun _ => True)) (KR HO127.out) hg hat) hb ho; clear BK117 BK118 HO127 HB HO121; obtain ⟨BK117, BK118, HO127, HB, HO124⟩ := h_; clear ho hb hg hat; refine hK.out _ _ (D3 BK117.out) (fun hHeld => ?_); clear hK K; refine norm_ (a' := ?_) ?_ ?_; rotate_left
     ·show Act.put _ (some 6) _ = _; exact KA
     exact norm_ (by simp only [putAll, Act.put, List.setIfInBounds_toArray, List.set_cons_zero, List.set_cons_succ]) (hCont (v120, v123, v126) _ ⟨hHeld, (KR HO124.out), (by (with_reducible repeat (first | apply Kd.R_alloc | apply Kd.R_drewN | apply Kd.R_drew)); exact Kd.R_mono HO127.out (fun _ hk => hk.2)), KK, KK, KB⟩)
   rintro ⟨v120, v123, v126⟩ w12 ⟨hS_, h0_, h1_, h2_, h3_, h4_⟩; have n0_ : Aside0 (Kd.R k35 35 w12 w.heap.size (fun k_ => some k_ ≠ (v126 : Value).ownBlock) v123 y122) := ⟨h0_⟩; have n1_ : Aside0 (Kd.R k35 35 w12 w.heap.size (fun k_ => some k_ ≠ (v123 : Value).ownBlock) v126 y125) := ⟨h1_⟩; have n2_ : Aside0 (w12.heap[gb117]? = some (.cells #[.slice A0_0 l0_0.length c0_0, .slice A0_1 l0_1.length c0_1, .int .i64 a0_2] 31 (0, 0))) := ⟨h2_⟩; have n3_ : Aside0 (w12.heap[gb118]? = some (.cells #[.slice none 0 0, .slice none 0 0, .int .i64 0] 31 (0, 0))) := ⟨h3_⟩; have n4_ : Aside0 (Below w.heap.size w w12) := ⟨h4_⟩; clear BK117; clear BK118; clear HB; clear h0_ h1_ h2_ h3_ h4_; have HO124 := n0_; have HO127 := n1_; have BK117 := n2_; have BK118 := n3_; have HB := n4_; clear n0_ n1_ n2_ n3_ n4_; have hHeld : w12.cell? ⟨gb117, 0, none⟩ = some (.slice A0_0 l0_0.length c0_0) ∧ w12.cell? ⟨gb117, 1, none⟩ = some (.slice A0_1 l0_1.length c0_1) ∧ w12.cell? ⟨gb117, 2, none⟩ = some (.int .i64 a0_2) := hS_; refine norm_ (a' := ?_) ?_ ?_; rotate_left
   ·simp only [putAll, Act.put, List.setIfInBounds_toArray, List.set_cons_zero, List.set_cons_succ]
    rfl
   refine one_ (i := 7) (N := some 10) #[T, T, T, T, T, T, T, T, T, T, F, F] rfl rfl (one_of HT_.out (by kernel_rfl)) (by decide) (fun K hK => ?_); refine Kd.R_append_rows_step k35 (w0 := w) w.heap.size (by rfl) (.tmp 7) (.tmp 9) 29 35 (.agg #[(.int .i64 0), (.int .i64 0), (.bool false), (.string ⟨#[]⟩)]) 40 rfl Try.underlying29 info35 rfl (by decide) (by omega) v126 y125 l0_1 _ _ _ (fun k_ => some k_ ≠ (v123 : Value).ownBlock) (fun _ => False) rfl rfl ?aO ?aR (fun _ _ h => h) (fun _ h => h.elim) ?aF ?aB ?aS ?aL ?_; (case aR => repeat (first | exact (Kd.C_below HR0_1.out HB.out) | (with_reducible refine Kd.C_alloc ?_ _) | (with_reducible refine Kd.C_drewN ?_ _) | (with_reducible refine Kd.C_drew ?_))); (case aB => exact KB); (case aF => exact (fun k_ hk => Kd.fresh' (Kd.R_lt (KR HO124.out)) k_ hk)); (case aO => exact (KR HO127.out)); (case aS => exact (below_size KB)); (case aL => have := LMc3.out; omega); intro v129 w13 ho hb hg hat; rw [← Ny128.out] at ho; have h_ := P5 (BW BK117.out hg (Kd.R_ne HO127.out BK117.out (by decide))) (BW BK118.out hg (Kd.R_ne HO127.out BK118.out (by decide))) (Kd.R_after (ok := (fun _ => True)) (by (with_reducible repeat (first | apply Kd.R_alloc | apply Kd.R_drewN | apply Kd.R_drew)); exact Kd.R_mono HO124.out (fun _ hk => ⟨trivial, hk⟩)) hg hat) hb ho; clear BK117 BK118 HO124 HB HO127; obtain ⟨BK117, BK118, HO124, HB, HO130⟩ := h_; clear ho hb hg hat; obtain ⟨Ao14, co14, eo14⟩ := Kd.R_slice HO130.out; (first | subst eo14 | (injection eo14 with f1_ f2_ f3_; have f4_ := f1_.symm; have f5_ := f3_.symm; clear f1_ f2_ f3_; subst f4_; subst f5_)); obtain ⟨Ao15, co15, eo15⟩ := Kd.R_slice HO124.out; (first | subst eo15 | (injection eo15 with f1_ f2_ f3_; have f4_ := f1_.symm; have f5_ := f3_.symm; clear f1_ f2_ f3_; subst f4_; subst f5_)); refine hK.out _ _ (D3 BK117.out) (fun hHeld => ?_); clear hK K; refine norm_ (a' := ?_) ?_ ?_; rotate_left
   ·show Act.put _ (some 10) _ = _; exact KA
   refine pure_ (i := 10) (N := some 13) (v := ?_) (a' := ?_) #[T, T, T, T, T, T, T, T, T, T, T, F] rfl rfl (any_of HT_.out (by kernel_rfl)) (fun _ _ _ h => h) (Or.inl ⟨by rfl, ?_⟩) ?_ ?_; rotate_left
   ·exact KV
   rotate_left
   ·exact KA
   refine one_ (i := 11) (N := none) #[T, T, T, T, T, T, T, T, T, T, T, T] rfl rfl (one_of HT_.out (by kernel_rfl)) (by decide) (fun K hK => ?_); have hs16 : w13.cell? ⟨gb118, 0, none⟩ = some (.slice none 0 0) := (blk_cell BK118.out 0).trans rfl; have hfs16 := blk_frozen BK118.out 0; have hns16_0 := NB117_118.out; have hms16_0 := NB118_117.out; have hs17 : w13.cell? ⟨gb118, 1, none⟩ = some (.slice none 0 0) := (blk_cell BK118.out 1).trans rfl; have hfs17 := blk_frozen BK118.out 1; have hns17_0 := NB117_118.out; have hms17_0 := NB118_117.out; have hs18 : w13.cell? ⟨gb118, 2, none⟩ = some (.int .i64 0) := (blk_cell BK118.out 2).trans rfl; have hfs18 := blk_frozen BK118.out 2; have hns18_0 := NB117_118.out; have hms18_0 := NB118_117.out; refine skip_ (w1 := ?_) (by rfl) rfl ?_ ?_; rotate_left
   ·go_simp
    rfl
   refine hK.out _ _ ⟨((cell_far (p := ⟨gb118, _, none⟩) NB117_118.out _).trans (((cell_far (p := ⟨gb118, _, none⟩) NB117_118.out _).trans (((cell_far (p := ⟨gb118, _, none⟩) NB117_118.out _).trans (hHeld.1)))))), ((cell_far (p := ⟨gb118, _, none⟩) NB117_118.out _).trans (((cell_far (p := ⟨gb118, _, none⟩) NB117_118.out _).trans (((cell_far (p := ⟨gb118, _, none⟩) NB117_118.out _).trans (hHeld.2.1)))))), ((cell_far (p := ⟨gb118, _, none⟩) NB117_118.out _).trans (((cell_far (p := ⟨gb118, _, none⟩) NB117_118.out _).trans (((cell_far (p := ⟨gb118, _, none⟩) NB117_118.out _).trans (hHeld.2.2))))))⟩ (fun hHeld => ?_); clear hK K; refine done_ (done_of HT_.out (by kernel_rfl)) ?_
   try go_wp2
   refine bodyPost_ret (results_cell_row rfl _ _ gb118 31 #[.slice Ao15 y122.length co15, .slice Ao14 y128.length co14, .int .i64 a0_2] (0, 0) _ rfl (by refine SK ?_; refine BP #[.slice Ao15 y122.length co15, .slice Ao14 y128.length co14, .int .i64 0] ?_ 2; refine SK ?_; refine BP #[.slice Ao15 y122.length co15, .slice none 0 0, .int .i64 0] ?_ 1; refine SK ?_; refine BP #[.slice none 0 0, .slice none 0 0, .int .i64 0] ?_ 0; exact SK BK118.out) Try.underlying31 rfl (by kernel_rfl)) rfl ?_; exact ⟨_, _, KE, RQ (RT HO124.out BK118.out) (hm := fun _ h => h.1.2), RQ (RT HO130.out BK118.out), KB⟩
  ·rw [if_neg c3] at H
   exact absurd H (by simp)
 ·rw [if_neg c2] at H
  exact absurd H (by simp)

/-! ### spec_StoreTrim: function 18 -/
def spec_StoreTrim.l0 : Nat → Int → Int → List (S35) → List (S35) → Int → List (S35) → List (S35) → Int → Option ((List (S35)) × (List (S35)) × Int × Bool)
 | 0, _, _, _, _, _, _, _, _ => none
 | k + 1, x1, x7, x132000, x132001, x132002, x142000, x142001, x142002 => if x7 < (x132000.length : Int) then (if 0 ≤ x7 then (if ((rd_T35 x132000 x7).f0) > x1 then (if x142000.length < 3518437208883 then (spec_StoreTrim.l0 k x1 (wrap64 (x7 + 1)) x132000 x132001 x132002 (x142000 ++ [(⟨(rd_T35 x132000 x7).f0, (rd_T35 x132000 x7).f1, (rd_T35 x132000 x7).f2, (rd_T35 x132000 x7).f3⟩ : S35)]) x142001 x142002) else (none)) else (spec_StoreTrim.l0 k x1 (wrap64 (x7 + 1)) x132000 x132001 x132002 x142000 x142001 x142002)) else (none)) else (some (x142000, x142001, x142002, true))
def spec_StoreTrim.f (k : Nat) (l0_0 : List (S35)) (l0_1 : List (S35)) (a0_2 : Int) (a1 : Int) : Option ((List (S35)) × (List (S35)) × Int × Bool) := (spec_StoreOk.f k l0_0 l0_1 a0_2).bind fun t133 => (if t133 = true then ((spec_l6Copy.f l0_0 l0_1 a0_2).bind fun bt134 => ((spec_PlaceOk.f a1).bind fun t142 => (if t142 = true then (spec_StoreTrim.l0 k a1 0 l0_0 l0_1 a0_2 ([] : List (S35)) bt134.2.1 bt134.2.2) else (some (bt134.1, bt134.2.1, bt134.2.2, false))))) else (some (([] : List (S35)), ([] : List (S35)), 0, false)))
theorem spec_StoreTrim.mono_l : ∀ k, (∀ y0 y1 y2 y3 y4 y5 y6 y7, LeO (spec_StoreTrim.l0 k y0 y1 y2 y3 y4 y5 y6 y7) (spec_StoreTrim.l0 (k + 1) y0 y1 y2 y3 y4 y5 y6 y7))
 | 0 => fun _ _ _ _ _ _ _ _ r h => by simp [spec_StoreTrim.l0] at h
 | k + 1 => by
  have ih0 := spec_StoreTrim.mono_l k
  ·intro y0 y1 y2 y3 y4 y5 y6 y7
   unfold spec_StoreTrim.l0
   repeat' first
   | (with_reducible exact ih0 _ _ _ _ _ _ _ _)
   | (with_reducible exact spec_StoreOk.mono _ _ _ _)
   | (with_reducible exact LeO.refl _)
   | (with_reducible exact LeO.none _)
   | (with_reducible refine LeO.ite ?_ ?_)
   | (with_reducible refine LeO.bind ?_ (fun _ => ?_))
   | exact ih0 _ _ _ _ _ _ _ _
   | exact spec_StoreOk.mono _ _ _ _
   | exact LeO.none _
   | refine LeO.ite ?_ ?_
   | refine LeO.bind ?_ (fun _ => ?_)
theorem spec_StoreTrim.mono : ∀ a0 a1 a2 a3 k, LeO (spec_StoreTrim.f k a0 a1 a2 a3) (spec_StoreTrim.f (k + 1) a0 a1 a2 a3) := by
 intro a0 a1 a2 a3 k; have ih0 := spec_StoreTrim.mono_l k
 unfold spec_StoreTrim.f
 repeat' first
   | (with_reducible exact ih0 _ _ _ _ _ _ _ _)
   | (with_reducible exact spec_StoreOk.mono _ _ _ _)
   | (with_reducible exact LeO.refl _)
   | (with_reducible exact LeO.none _)
   | (with_reducible refine LeO.ite ?_ ?_)
   | (with_reducible refine LeO.bind ?_ (fun _ => ?_))
   | exact ih0 _ _ _ _ _ _ _ _
   | exact spec_StoreOk.mono _ _ _ _
   | exact LeO.none _
   | refine LeO.ite ?_ ?_
   | refine LeO.bind ?_ (fun _ => ?_)
def spec_StoreTrim.T11 : Bool × List (List Nat × List Nat) := (true, [([], []), ([0], [0]), ([], []), ([2], [2]), ([], []), ([3, 4], [3, 4]), ([5], [5]), ([6], [6]), ([1, 7], [1, 7]), ([0, 1, 2, 3, 4, 5, 6, 7, 8], []), ([9, 8, 8, 0, 1, 2, 3, 4, 5, 6, 7, 8], [8, 9])])
def spec_StoreTrim.B11 : List Nat := [0, 1, 0, 4, 0, 28, 60, 124, 255, 511, 1023]
theorem spec_StoreTrim.tab11 : rtab .any (opsOf Try.f18 11) = spec_StoreTrim.T11 := by kernel_rfl
theorem spec_StoreTrim.bits11 : waitsOk spec_StoreTrim.T11.2 spec_StoreTrim.B11 = true := by kernel_rfl
set_option maxHeartbeats 8000000 in
set_option maxRecDepth 100000 in
theorem spec_StoreTrim.calls (k : Nat) (A0_0 : Option Addr) (c0_0 : Nat) (l0_0 : List (S35)) (A0_1 : Option Addr) (c0_1 : Nat) (l0_1 : List (S35)) (a0_2 : Int) (a1 : Int) (r1 : List (S35)) (r2 : List (S35)) (r3 : Int) (r4 : Bool) (w : World) (hr0_0 : Kd.C k35 w A0_0 l0_0.length l0_0) (hc0_0 : l0_0.length ≤ c0_0) (hr0_1 : Kd.C k35 w A0_1 l0_1.length l0_1) (hc0_1 : l0_1.length ≤ c0_1) (h : spec_StoreTrim.f k l0_0 l0_1 a0_2 a1 = some (r1, r2, r3, r4)) :
  Calls Try.prog 18 #[.agg #[.slice A0_0 l0_0.length c0_0, .slice A0_1 l0_1.length c0_1, .int .i64 a0_2], .int .i64 a1] w fun e w' => ∃ v0_ v1_ : Value, e = .returned (.tuple #[.agg #[v0_, v1_, .int .i64 r3], .bool r4]) ∧ Kd.R k35 35 w' w.heap.size (fun k_ => some k_ ≠ (v1_ : Value).ownBlock) v0_ r1 ∧ Kd.R k35 35 w' w.heap.size (fun k_ => some k_ ≠ (v0_ : Value).ownBlock) v1_ r2 ∧ Below w.heap.size w w' := by
 have hu31 := Try.underlying31; have hu35 := Try.underlying35; have HR0_0 := Aside0.mk hr0_0; have HC0_0 := Aside0.mk hc0_0; clear hr0_0 hc0_0; have HR0_1 := Aside0.mk hr0_1; have HC0_1 := Aside0.mk hc0_1; clear hr0_1 hc0_1; have HB := Aside0.mk (Below.refl w.heap.size w); have H : ((spec_StoreOk.f k l0_0 l0_1 a0_2).bind fun t133 => (if t133 = true then ((spec_l6Copy.f l0_0 l0_1 a0_2).bind fun bt134 => ((spec_PlaceOk.f a1).bind fun t142 => (if t142 = true then (spec_StoreTrim.l0 k a1 0 l0_0 l0_1 a0_2 ([] : List (S35)) bt134.2.1 bt134.2.2) else (some (bt134.1, bt134.2.1, bt134.2.2, false))))) else (some (([] : List (S35)), ([] : List (S35)), 0, false)))) = some (r1, r2, r3, r4) := h; clear h; replace H := Option.bind_eq_some_iff.mp H; obtain ⟨t133, A30, H⟩ := H
 try dsimp only at H
 have A3 := Aside0.mk A30; clear A30
 by_cases c4 : t133 = true
 ·subst c4
  have H1 : ((spec_l6Copy.f l0_0 l0_1 a0_2).bind fun bt134 => ((spec_PlaceOk.f a1).bind fun t142 => (if t142 = true then (spec_StoreTrim.l0 k a1 0 l0_0 l0_1 a0_2 ([] : List (S35)) bt134.2.1 bt134.2.2) else (some (bt134.1, bt134.2.1, bt134.2.2, false))))) = some (r1, r2, r3, r4) := by rw [if_pos rfl] at H; exact H
  clear H; have H := H1; clear H1; replace H := Option.bind_eq_some_iff.mp H; obtain ⟨⟨t134, t137, t140⟩, A50, H⟩ := H
  try dsimp only at H
  have A5 := Aside0.mk A50; clear A50; replace H := Option.bind_eq_some_iff.mp H; obtain ⟨t142, A60, H⟩ := H
  try dsimp only at H
  have A6 := Aside0.mk A60; clear A60
  by_cases c7 : t142 = true
  ·subst c7
   have H1 : (spec_StoreTrim.l0 k a1 0 l0_0 l0_1 a0_2 ([] : List (S35)) t137 t140) = some (r1, r2, r3, r4) := by rw [if_pos rfl] at H; exact H
   clear H; have H := H1; clear H1; have H' := Aside0.mk H; clear H
   go_enter Try.func18, Try.ntmps18
   go_wp2_with (first | ((with_reducible refine GD 2 ?_); refine BE 2 #[.slice A0_0 l0_0.length c0_0, .slice A0_1 l0_1.length c0_1, .int .i64 a0_2] 31 ?_; intro gb131 hg w8 hbox hb; have h_ := PB w hb hbox hg; clear HB; obtain ⟨HB, BK131, GW131, GE131⟩ := h_; clear hb hbox hg) | ((with_reducible refine GD 4 ?_); refine BE 4 #[.slice none 0 0, .slice none 0 0, .int .i64 0] 31 ?_; intro gb132 hg w9 hbox hb; have h_ := P7 (BL BK131.out hb) (below_step KB hb) hbox (Kg w hg) (Kg w hg) (NX hg BK131.out) (NY hg BK131.out); clear BK131 HB; obtain ⟨BK131, HB, BK132, GW132, GE132, NB131_132, NB132_131⟩ := h_; clear hb hbox hg; have hnb10 := NB131_132.out; have hnc10 := NB132_131.out; obtain ⟨hcz11_0, hcz11_1, hcz11_2, hfz11_0, hfz11_1, hfz11_2⟩ := C3 BK131.out) | ((with_reducible refine GC 34 ?_); refine goesL_ (some 9) rfl rfl Try.func34 (by kernel_rfl) rfl #[.agg #[.slice A0_0 l0_0.length c0_0, .slice A0_1 l0_1.length c0_1, .int .i64 a0_2]] rfl KL ?_; (with_reducible refine (spec_StoreOk.calls k _ _ l0_0 _ _ l0_1 a0_2 true _ ?side1 ?side2 ?side3 ?side4 A3.out).mono ?_); (case side1 => exact KD (Kd.C_below HR0_0.out HB.out)); (case side2 => exact HC0_0.out); (case side3 => exact KD (Kd.C_below HR0_1.out HB.out)); (case side4 => exact HC0_1.out); rintro e w12 ⟨rfl, hb⟩; refine ⟨_, rfl, ?_⟩; have h_ := P3 (BL BK131.out hb) (BL BK132.out hb) (below_step KB hb); clear BK131 BK132 HB; obtain ⟨BK131, BK132, HB⟩ := h_; (try clear hb); (try clear hk); (try clear hi); obtain ⟨hcz13_0, hcz13_1, hcz13_2, hfz13_0, hfz13_1, hfz13_2⟩ := C3 BK131.out) | ((with_reducible refine GC 41 ?_); refine goesL_ (some 13) rfl rfl Try.func41 (by kernel_rfl) rfl #[.agg #[.slice A0_0 l0_0.length c0_0, .slice A0_1 l0_1.length c0_1, .int .i64 a0_2]] rfl KL ?_; (with_reducible refine (spec_l6Copy.calls _ _ l0_0 _ _ l0_1 a0_2 t134 t137 t140 _ ?side1 ?side2 ?side3 ?side4 A5.out).mono ?_); (case side1 => exact KD (Kd.C_below HR0_0.out HB.out)); (case side2 => exact HC0_0.out); (case side3 => exact KD (Kd.C_below HR0_1.out HB.out)); (case side4 => exact HC0_1.out); rintro e w14 ⟨v135, v138, rfl, ho0, ho1, hb⟩; refine ⟨_, rfl, ?_⟩; have h_ := P5 (Kd.R_lower ho0 (below_size KB)) (Kd.R_lower ho1 (below_size KB)) (BL BK131.out hb) (BL BK132.out hb) (below_step KB hb); clear BK131 BK132 HB; obtain ⟨HO136, HO139, BK131, BK132, HB⟩ := h_; (try clear hb); (try clear hk); (try clear hi); (try clear ho0); (try clear ho1)) | ((with_reducible refine GD 6 ?_); refine BE 6 #[.slice none 0 0, .slice none 0 0, .int .i64 0] 31 ?_; intro gb141 hg w15 hbox hb; have h_ := P12 (Kd.R_below (KR HO136.out) hb) (Kd.R_below (KR HO139.out) hb) (BL BK131.out hb) (BL BK132.out hb) (below_step KB hb) hbox (Kg w hg) (Kg w hg) (NX hg BK131.out) (NY hg BK131.out) (NX hg BK132.out) (NY hg BK132.out); clear HO136 HO139 BK131 BK132 HB; obtain ⟨HO136, HO139, BK131, BK132, HB, BK141, GW141, GE141, NB131_141, NB141_131, NB132_141, NB141_132⟩ := h_; clear hb hbox hg; obtain ⟨Ao16, co16, eo16⟩ := Kd.R_slice HO136.out; subst eo16; have hnb17 := NB141_131.out; have hnc17 := NB131_141.out; have hnb18 := NB141_132.out; have hnc18 := NB132_141.out; obtain ⟨hcz19_0, hcz19_1, hcz19_2, hfz19_0, hfz19_1, hfz19_2⟩ := C3 BK141.out; obtain ⟨Ao20, co20, eo20⟩ := Kd.R_slice HO139.out; subst eo20) | ((with_reducible refine GC 51 ?_); refine goesL_ (some 15) rfl rfl Try.func51 (by kernel_rfl) rfl #[.int .i64 a1] rfl KL ?_; (with_reducible refine MN (spec_PlaceOk.calls a1 true _ A6.out) ?_); intro nd; refine ⟨_, rfl, ?_⟩))
   go_loopg [7] k (fun kq v7 w' => ∃ (x7_1 : Int) (x142000_1 : List (S35)) (u142000 : Value), v7 = .int .i64 x7_1 ∧ Aside0 (spec_StoreTrim.l0 kq a1 x7_1 l0_0 l0_1 a0_2 x142000_1 t137 t140 = some (r1, r2, r3, r4)) ∧ Aside0 (kq ≤ k) ∧ Aside0 (Kd.R k35 35 w' w.heap.size (fun k_ => some k_ ≠ ((.slice Ao20 t137.length co20) : Value).ownBlock) u142000 x142000_1) ∧ Aside0 (Kd.R k35 35 w' w.heap.size (fun k_ => some k_ ≠ (u142000 : Value).ownBlock) (.slice Ao20 t137.length co20) t137) ∧ Aside0 (w'.heap[gb131]? = some (.cells #[(.slice A0_0 l0_0.length c0_0), (.slice A0_1 l0_1.length c0_1), .int .i64 a0_2] 31 (0, 0))) ∧ Aside0 (w'.heap[gb132]? = some (.cells #[(.slice none 0 0), (.slice none 0 0), .int .i64 0] 31 (0, 0))) ∧ Aside0 (w'.heap[gb141]? = some (.cells #[u142000, (.slice Ao20 t137.length co20), .int .i64 t140] 31 (0, 0))) ∧ Aside0 (Below w.heap.size w w'))
   case atStart => exact ⟨(0), (([] : List (S35))), (.slice none 0 0), (by first | rfl | (simp; done) | (simp [*]; done)), H', ⟨Nat.le_refl _⟩, ⟨by first | exact Kd.R_nil _ _ _ _ _ | exact Kd.N_nil _ _ _ _ _ | exact Kd.V_nil _ _ _ _ _ | exact Kd.Q_nil _ _ _ _ _ | exact Kd.S_nil _ _ _ _ _⟩, ⟨Kd.R_mono (RF (RT HO139.out BK141.out)) (fun _ hk => (by simp [Value.ownBlock]))⟩, ⟨KK⟩, ⟨KK⟩, ⟨by refine SK ?_; refine BP #[.slice Ao16 t134.length co16, .slice Ao20 t137.length co20, .int .i64 t140] ?_ 0; refine SK ?_; refine BP #[.slice Ao16 t134.length co16, .slice Ao20 t137.length co20, .int .i64 0] ?_ 2; refine SK ?_; refine BP #[.slice Ao16 t134.length co16, .slice none 0 0, .int .i64 0] ?_ 1; refine SK ?_; refine BP #[.slice none 0 0, .slice none 0 0, .int .i64 0] ?_ 0; exact SK BK141.out⟩, ⟨KB⟩⟩
   case round =>
    clear H'
    try clear c1
    try clear p2
    try clear c3
    try clear c4
    try clear c5
    try clear c7
    try clear c10
    try clear c17
    try clear c18
    try clear hcz11_0
    try clear hcz11_1
    try clear hcz11_2
    try clear hcz13_0
    try clear hcz13_1
    try clear hcz13_2
    try clear hcz19_0
    try clear hcz19_1
    try clear hcz19_2
    try clear hfz11_0
    try clear hfz11_1
    try clear hfz11_2
    try clear hfz13_0
    try clear hfz13_1
    try clear hfz13_2
    try clear hfz19_0
    try clear hfz19_1
    try clear hfz19_2
    obtain ⟨x7_1, x142000_1, u142000, rfl, HA, HK1, HO_142000, HO_142001, BK131, BK132, BK141, HB⟩ := hrel
    cases gk with
    | zero => exact absurd HA.out (by simp [spec_StoreTrim.l0])
    | succ k1 =>
     have H := HA.out; clear HA; simp only [spec_StoreTrim.l0] at H
     by_cases c21 : x7_1 < (l0_0.length : Int)
     ·rw [if_pos c21] at H
      have c21b0 : decide (x7_1 < (l0_0.length : Int)) = true := decide_eq_true c21; clear c21
      by_cases c22 : 0 ≤ x7_1
      ·rw [if_pos c22] at H
       have c22b0 : decide (0 ≤ x7_1) = true := decide_eq_true c22; clear c22
       by_cases c23 : ((rd_T35 l0_0 x7_1).f0) > a1
       ·rw [if_pos c23] at H
        have c23b0 : decide (a1 < ((rd_T35 l0_0 x7_1).f0)) = true := decide_eq_true c23; clear c23
        by_cases c24 : x142000_1.length < 3518437208883
        ·rw [if_pos c24] at H
         have LMc24 := Aside0.mk c24; clear c24; obtain ⟨y145, hy145⟩ : ∃ y_ : List (S35), y_ = (x142000_1 ++ [(⟨(rd_T35 l0_0 x7_1).f0, (rd_T35 l0_0 x7_1).f1, (rd_T35 l0_0 x7_1).f2, (rd_T35 l0_0 x7_1).f3⟩ : S35)]) := ⟨_, rfl⟩; replace H : (spec_StoreTrim.l0 k1 a1 (wrap64 (x7_1 + 1)) l0_0 l0_1 a0_2 y145 t137 t140) = some (r1, r2, r3, r4) := by first | (rw [hy145]; with_reducible exact H) | (have H2_ := (Option.bind_some _ _).symm.trans H; rw [hy145]; with_reducible exact H2_) | (have H2_ := (Option.bind_some _ _).symm.trans H; with_reducible exact H2_) | with_reducible exact H | (rw [hy145]; exact H) | exact H
         have Ny145 := Aside0.mk hy145; clear hy145; have H' := Aside0.mk H; clear H; have hnb25 := NB131_132.out; have hnc25 := NB132_131.out; have hnb26 := NB131_141.out; have hnc26 := NB141_131.out; obtain ⟨hcz27_0, hcz27_1, hcz27_2, hfz27_0, hfz27_1, hfz27_2⟩ := C3 BK131.out; have p143 : 0 ≤ (x7_1 : Int) := of_decide_eq_true (by first | (with_reducible assumption) | assumption); have q143 : x7_1 < (l0_0.length : Int) := of_decide_eq_true (by first | (with_reducible assumption) | assumption); obtain ⟨ad143, e143, hx143_0, hx143_1, hx143_2, hx143_3⟩ := at_T35 HR0_0.out x7_1 p143 q143
         cases e143
         replace hx143_0 := CB HB.out hx143_0; replace hx143_1 := CB HB.out hx143_1; replace hx143_2 := CB HB.out hx143_2; replace hx143_3 := CB HB.out hx143_3; replace p143 := eq_true p143; replace q143 := eq_true q143
         try go_wp2
         have h_ := P6 (Kd.R_drew HO_142000.out) (Kd.R_drew HO_142001.out) (blk_drew BK131.out) (blk_drew BK132.out) (blk_drew BK141.out) (below_drew1 HB.out); clear HO_142000 HO_142001 BK131 BK132 BK141 HB; obtain ⟨HO_142000, HO_142001, BK131, BK132, BK141, HB⟩ := h_; have p144 : 0 ≤ (x7_1 : Int) := of_decide_eq_true (by first | (with_reducible assumption) | assumption); have q144 : x7_1 < (l0_0.length : Int) := of_decide_eq_true (by first | (with_reducible assumption) | assumption); obtain ⟨ad144, e144, hx144_0, hx144_1, hx144_2, hx144_3⟩ := at_T35 HR0_0.out x7_1 p144 q144; have hw144_3 := hx144_3; have hw144_2 := hx144_2; have hw144_1 := hx144_1; have hw144_0 := hx144_0; obtain rfl : ad143 = ad144 := (by injection e144); replace hx144_0 := CB HB.out hx144_0; replace hx144_1 := CB HB.out hx144_1; replace hx144_2 := CB HB.out hx144_2; replace hx144_3 := CB HB.out hx144_3; replace p144 := eq_true p144; replace q144 := eq_true q144; refine start_ (n := 11) (S := fun w' => w'.cell? ⟨gb141, 0, none⟩ = some (u142000) ∧ w'.cell? ⟨gb141, 1, none⟩ = some (.slice Ao20 t137.length co20) ∧ w'.cell? ⟨gb141, 2, none⟩ = some (.int .i64 t140) ∧ w'.cell? ⟨gb131, 0, none⟩ = some (.slice (some ad143) l0_0.length c0_0) ∧ w'.cell? ⟨gb131, 1, none⟩ = some (.slice A0_1 l0_1.length c0_1) ∧ w'.cell? ⟨gb131, 2, none⟩ = some (.int .i64 a0_2) ∧ w'.cell? (ad143.add ((x7_1).toNat * 4)) = some (.int .i64 ((rd_T35 l0_0 x7_1).f0)) ∧ w'.cell? ⟨(ad143.add ((x7_1).toNat * 4)).block, (ad143.add ((x7_1).toNat * 4)).off + 1, none⟩ = some (.int .i64 ((rd_T35 l0_0 x7_1).f1)) ∧ w'.cell? ⟨(ad143.add ((x7_1).toNat * 4)).block, (ad143.add ((x7_1).toNat * 4)).off + 2, none⟩ = some (.bool ((rd_T35 l0_0 x7_1).f2)) ∧ w'.cell? ⟨(ad143.add ((x7_1).toNat * 4)).block, (ad143.add ((x7_1).toNat * 4)).off + 3, none⟩ = some (.string ((rd_T35 l0_0 x7_1).f3))) (ds := [10]) #[F, F, F, F, F, F, F, F, F, F, F] (by kernel_rfl) rfl rfl ⟨(blk_cell BK141.out 0).trans rfl, (blk_cell BK141.out 1).trans rfl, (blk_cell BK141.out 2).trans rfl, (blk_cell BK131.out 0).trans rfl, (blk_cell BK131.out 1).trans rfl, (blk_cell BK131.out 2).trans rfl, ((HB.out.cell (World.block_lt_of_cell? w _ hw144_0)).trans hw144_0), ((HB.out.cell (World.block_lt_of_cell? w _ hw144_1)).trans hw144_1), ((HB.out.cell (World.block_lt_of_cell? w _ hw144_2)).trans hw144_2), ((HB.out.cell (World.block_lt_of_cell? w _ hw144_3)).trans hw144_3)⟩ (fun hHeld => ?_); refine with_tabW spec_StoreTrim.tab11 spec_StoreTrim.bits11 (fun HT_ HW_ => ?_); generalize wr.drew = w28 at HO_142000 HO_142001 BK131 BK132 BK141 HB hx144_0 hx144_1 hx144_2 hx144_3 hHeld ⊢; refine pure_ (i := 0) (N := some 34) (v := ?_) (a' := ?_) #[T, F, F, F, F, F, F, F, F, F, F] rfl rfl (any_of HT_.out (by kernel_rfl)) (fun _ _ _ h => h) (Or.inl ⟨by rfl, ?_⟩) ?_ ?_; rotate_left
         ·exact KV
         rotate_left
         ·exact KA
         refine pure_ (i := 2) (N := some 36) (v := ?_) (a' := ?_) #[T, F, T, F, F, F, F, F, F, F, F] rfl rfl (any_of HT_.out (by kernel_rfl)) (fun _ _ _ h => h) (Or.inl ⟨by rfl, ?_⟩) ?_ ?_; rotate_left
         ·exact KV
         rotate_left
         ·exact KA
         refine pure_ (i := 4) (N := some 38) (v := ?_) (a' := ?_) #[T, F, T, F, T, F, F, F, F, F, F] rfl rfl (any_of HT_.out (by kernel_rfl)) (fun _ _ _ h => h) (Or.inl ⟨by rfl, ?_⟩) ?_ ?_; rotate_left
         ·exact KV
         rotate_left
         ·exact KA
         refine take_ (i := 1) (N := some 35) (v := ?_) (a' := ?_) #[T, T, T, F, T, F, F, F, F, F, F] rfl rfl (take_ofW HT_.out HW_.out (by kernel_rfl)) (fun _ _ _ h => h) (Or.inl ⟨by rfl, ?_⟩) hHeld ?_ ?_; rotate_left
         ·rintro w' ⟨s0, s1, s2, s3, s4, s5, s6, s7, s8, s9⟩
          go_simp; with_reducible rfl
         rotate_left
         ·exact KA
         refine take_ (i := 3) (N := some 37) (v := ?_) (a' := ?_) #[T, T, T, T, T, F, F, F, F, F, F] rfl rfl (take_ofW HT_.out HW_.out (by kernel_rfl)) (fun _ _ _ h => h) (Or.inl ⟨by rfl, ?_⟩) hHeld ?_ ?_; rotate_left
         ·rintro w' ⟨s0, s1, s2, s3, s4, s5, s6, s7, s8, s9⟩
          go_simp; with_reducible rfl
         rotate_left
         ·exact KA
         refine pure_ (i := 5) (N := some 39) (v := ?_) (a' := ?_) #[T, T, T, T, T, T, F, F, F, F, F] rfl rfl (any_of HT_.out (by kernel_rfl)) (fun _ _ _ h => h) (Or.inl ⟨by rfl, ?_⟩) ?_ ?_; rotate_left
         ·exact KV
         rotate_left
         ·exact KA
         refine take_ (i := 6) (N := some 40) (v := ?_) (a' := ?_) #[T, T, T, T, T, T, T, F, F, F, F] rfl rfl (take_ofW HT_.out HW_.out (by kernel_rfl)) (fun _ _ _ h => h) (Or.inl ⟨by rfl, ?_⟩) hHeld ?_ ?_; rotate_left
         ·rintro w' ⟨s0, s1, s2, s3, s4, s5, s6, s7, s8, s9⟩
          go_simp; with_reducible rfl
         rotate_left
         ·exact KA
         refine one_ (i := 7) (N := some 41) #[T, T, T, T, T, T, T, T, F, F, F] rfl rfl (one_of HT_.out (by kernel_rfl)) (by decide) (fun K hK => ?_); refine value_ (w1 := ?_) (v := ?_) (by rfl) rfl ?_ ?_; rotate_left 2
         ·go_simp
          constructor
          ·rfl
          ·rfl
         refine hK.out _ _ ⟨(blk_cell (blk_alloc BK141.out _) 0).trans rfl, (blk_cell (blk_alloc BK141.out _) 1).trans rfl, (blk_cell (blk_alloc BK141.out _) 2).trans rfl, (blk_cell (blk_alloc BK131.out _) 0).trans rfl, (blk_cell (blk_alloc BK131.out _) 1).trans rfl, (blk_cell (blk_alloc BK131.out _) 2).trans rfl, (World.cell?_alloc_lt _ _ _ (World.block_lt_of_cell? _ _ (((HB.out.cell (World.block_lt_of_cell? w _ hw144_0)).trans hw144_0)))).trans (((HB.out.cell (World.block_lt_of_cell? w _ hw144_0)).trans hw144_0)), (World.cell?_alloc_lt _ _ _ (World.block_lt_of_cell? _ _ (((HB.out.cell (World.block_lt_of_cell? w _ hw144_1)).trans hw144_1)))).trans (((HB.out.cell (World.block_lt_of_cell? w _ hw144_1)).trans hw144_1)), (World.cell?_alloc_lt _ _ _ (World.block_lt_of_cell? _ _ (((HB.out.cell (World.block_lt_of_cell? w _ hw144_2)).trans hw144_2)))).trans (((HB.out.cell (World.block_lt_of_cell? w _ hw144_2)).trans hw144_2)), (World.cell?_alloc_lt _ _ _ (World.block_lt_of_cell? _ _ (((HB.out.cell (World.block_lt_of_cell? w _ hw144_3)).trans hw144_3)))).trans (((HB.out.cell (World.block_lt_of_cell? w _ hw144_3)).trans hw144_3))⟩ (fun hHeld => ?_); clear hK K; refine norm_ (a' := ?_) ?_ ?_; rotate_left
         ·show Act.put _ (some 41) _ = _; exact KA
         refine one_ (i := 8) (N := some 42) #[T, T, T, T, T, T, T, T, T, F, F] rfl rfl (one_of HT_.out (by kernel_rfl)) (by decide) (fun K hK => ?_); refine Kd.R_append_step k35 (w0 := w) w.heap.size (by rfl) (.tmp 35) (.tmp 41) 29 35 (.agg #[(.int .i64 0), (.int .i64 0), (.bool false), (.string ⟨#[]⟩)]) 40 rfl Try.underlying29 info35 rfl (by decide) (by omega) u142000 x142000_1 (⟨(rd_T35 l0_0 x7_1).f0, (rd_T35 l0_0 x7_1).f1, (rd_T35 l0_0 x7_1).f2, (rd_T35 l0_0 x7_1).f3⟩ : S35) [.int .i64 ((rd_T35 l0_0 x7_1).f0), .int .i64 ((rd_T35 l0_0 x7_1).f1), .bool ((rd_T35 l0_0 x7_1).f2), .string ((rd_T35 l0_0 x7_1).f3)] (fun k_ => some k_ ≠ (.slice Ao20 t137.length co20 : Value).ownBlock) (fun _ => False) rfl rfl ?aP (fun _ hk => hk.elim) ?aF ?aO ?aB ?aS ?aL ?_; (case aP => exact k35_mkM _ _ _ (⟨(rd_T35 l0_0 x7_1).f0, (rd_T35 l0_0 x7_1).f1, (rd_T35 l0_0 x7_1).f2, (rd_T35 l0_0 x7_1).f3⟩ : S35)); (case aB => exact KB); (case aF => exact (fun k_ hk => Kd.fresh' (Kd.R_lt (KR HO_142001.out)) k_ hk)); (case aO => exact (KR HO_142000.out)); (case aS => exact (below_size KB)); (case aL => have := LMc24.out; omega); intro v146 w29 ho hb hg hat; rw [← Ny145.out] at ho; have h_ := P6 (Kd.R_after (ok := (fun _ => True)) (by (with_reducible repeat (first | apply Kd.R_alloc | apply Kd.R_drewN | apply Kd.R_drew)); exact Kd.R_mono HO_142001.out (fun _ hk => ⟨trivial, hk⟩)) hg hat) (BW BK131.out hg (Kd.R_ne HO_142000.out BK131.out (by decide))) (BW BK132.out hg (Kd.R_ne HO_142000.out BK132.out (by decide))) (BW BK141.out hg (Kd.R_ne HO_142000.out BK141.out (by decide))) hb ho; clear HO_142001 BK131 BK132 BK141 HB HO_142000; obtain ⟨HO_142001, BK131, BK132, BK141, HB, HO147⟩ := h_; clear ho hb hg hat; obtain ⟨Ao30, co30, eo30⟩ := Kd.R_slice HO147.out; (first | subst eo30 | (injection eo30 with f1_ f2_ f3_; have f4_ := f1_.symm; have f5_ := f3_.symm; clear f1_ f2_ f3_; subst f4_; subst f5_)); refine hK.out _ _ ⟨(blk_cell BK141.out 0).trans rfl, (blk_cell BK141.out 1).trans rfl, (blk_cell BK141.out 2).trans rfl, (blk_cell BK131.out 0).trans rfl, (blk_cell BK131.out 1).trans rfl, (blk_cell BK131.out 2).trans rfl, ((HB.out.cell (World.block_lt_of_cell? w _ hw144_0)).trans hw144_0), ((HB.out.cell (World.block_lt_of_cell? w _ hw144_1)).trans hw144_1), ((HB.out.cell (World.block_lt_of_cell? w _ hw144_2)).trans hw144_2), ((HB.out.cell (World.block_lt_of_cell? w _ hw144_3)).trans hw144_3)⟩ (fun hHeld => ?_); clear hK K; refine norm_ (a' := ?_) ?_ ?_; rotate_left
         ·show Act.put _ (some 42) _ = _; exact KA
         refine pure_ (i := 9) (N := some 43) (v := ?_) (a' := ?_) #[T, T, T, T, T, T, T, T, T, T, F] rfl rfl (any_of HT_.out (by kernel_rfl)) (fun _ _ _ h => h) (Or.inl ⟨by rfl, ?_⟩) ?_ ?_; rotate_left
         ·exact KV
         rotate_left
         ·exact KA
         refine last_ (i := 10) (N := none) #[T, T, T, T, T, T, T, T, T, T, T] rfl rfl (one_of HT_.out (by kernel_rfl)) (by decide) (fun K hK => ?_); have hs31 : w29.cell? ⟨gb141, 0, none⟩ = some (u142000) := (blk_cell BK141.out 0).trans rfl; have hfs31 := blk_frozen BK141.out 0; have hns31_0 := NB131_141.out; have hns31_1 := NB132_141.out; have hms31_0 := NB141_131.out; have hms31_1 := NB141_132.out; refine skip_ (w1 := ?_) (by rfl) rfl ?_ ?_; rotate_left
         ·go_simp
          rfl
         refine hK.out _ _ ?_; clear hK K; refine done_ (done_of HT_.out (by kernel_rfl)) ?_
         try go_wp2
         go_roundg k1
         case measure => have := HK1.out; omega
         case rel => exact ⟨(wrap64 (x7_1 + 1)), (y145), (.slice Ao30 y145.length co30), (by first | rfl | (simp; done) | (simp [*]; done)), H', ⟨by have := HK1.out; omega⟩, ⟨RQ (RT HO147.out BK141.out)⟩, ⟨RQ (RT HO_142001.out BK141.out) (hm := fun _ h => h.1.2)⟩, ⟨KK⟩, ⟨KK⟩, ⟨by refine SK ?_; refine BP #[u142000, .slice Ao20 t137.length co20, .int .i64 t140] ?_ 0; exact SK BK141.out⟩, ⟨KB⟩⟩
        ·rw [if_neg c24] at H
         exact absurd H (by simp)
       ·rw [if_neg c23] at H
        have c23b0 : decide (a1 < ((rd_T35 l0_0 x7_1).f0)) = false := decide_eq_false c23; clear c23; have H' := Aside0.mk H; clear H; have hnb32 := NB131_132.out; have hnc32 := NB132_131.out; have hnb33 := NB131_141.out; have hnc33 := NB141_131.out; obtain ⟨hcz34_0, hcz34_1, hcz34_2, hfz34_0, hfz34_1, hfz34_2⟩ := C3 BK131.out; have p143 : 0 ≤ (x7_1 : Int) := of_decide_eq_true (by first | (with_reducible assumption) | assumption); have q143 : x7_1 < (l0_0.length : Int) := of_decide_eq_true (by first | (with_reducible assumption) | assumption); obtain ⟨ad143, e143, hx143_0, hx143_1, hx143_2, hx143_3⟩ := at_T35 HR0_0.out x7_1 p143 q143
        cases e143
        replace hx143_0 := CB HB.out hx143_0; replace hx143_1 := CB HB.out hx143_1; replace hx143_2 := CB HB.out hx143_2; replace hx143_3 := CB HB.out hx143_3; replace p143 := eq_true p143; replace q143 := eq_true q143
        go_wp2
        go_roundg k1
        case measure => have := HK1.out; omega
        case rel => exact ⟨(wrap64 (x7_1 + 1)), (x142000_1), (u142000), (by first | rfl | (simp; done) | (simp [*]; done)), H', ⟨by have := HK1.out; omega⟩, ⟨by (with_reducible repeat (first | apply Kd.R_alloc | apply Kd.R_drewN | apply Kd.R_drew)); exact HO_142000.out⟩, ⟨by (with_reducible repeat (first | apply Kd.R_alloc | apply Kd.R_drewN | apply Kd.R_drew)); exact HO_142001.out⟩, ⟨KK⟩, ⟨KK⟩, ⟨KK⟩, ⟨KB⟩⟩
      ·rw [if_neg c22] at H
       exact absurd H (by simp)
     ·rw [if_neg c21] at H
      have c21b0 : decide (x7_1 < (l0_0.length : Int)) = false := decide_eq_false c21; clear c21; simp only [Option.some.injEq, Prod.mk.injEq] at H; obtain ⟨rfl, rfl, rfl, rfl⟩ := H; have hnb35 := NB131_132.out; have hnc35 := NB132_131.out; have hnb36 := NB131_141.out; have hnc36 := NB141_131.out; obtain ⟨hcz37_0, hcz37_1, hcz37_2, hfz37_0, hfz37_1, hfz37_2⟩ := C3 BK131.out; have hnb38 := NB141_132.out; have hnc38 := NB132_141.out; obtain ⟨hcz39_0, hcz39_1, hcz39_2, hfz39_0, hfz39_1, hfz39_2⟩ := C3 BK141.out; obtain ⟨Ao40, co40, eo40⟩ := Kd.R_slice HO_142000.out; subst eo40; obtain ⟨hcz41_0, hcz41_1, hcz41_2, hfz41_0, hfz41_1, hfz41_2⟩ := C3 BK132.out
      go_wp2
      refine bodyPost_ret (results_ct rfl _ _ gb132 31 #[.slice Ao40 x142000_1.length co40, .slice Ao20 t137.length co20, .int .i64 t140] (0, 0) _ rfl (by refine SK ?_; refine BP #[.slice Ao40 x142000_1.length co40, .slice Ao20 t137.length co20, .int .i64 0] ?_ 2; refine SK ?_; refine BP #[.slice Ao40 x142000_1.length co40, .slice none 0 0, .int .i64 0] ?_ 1; refine SK ?_; refine BP #[.slice none 0 0, .slice none 0 0, .int .i64 0] ?_ 0; exact SK BK132.out) Try.underlying31 rfl (by kernel_rfl)) rfl ?_; exact ⟨_, _, KE, RQ (RT HO_142000.out BK132.out), RQ (RT HO_142001.out BK132.out), KB⟩
  ·replace c7 := Bool.eq_false_iff.mpr c7
   subst c7; have H1 : (some (t134, t137, t140, false)) = some (r1, r2, r3, r4) := by rw [if_neg (show ¬ (false = true) by decide)] at H; exact H
   clear H; have H := H1; clear H1; simp only [Option.some.injEq, Prod.mk.injEq] at H; obtain ⟨rfl, rfl, rfl, rfl⟩ := H
   go_enter Try.func18, Try.ntmps18
   go_wp2_with (first | ((with_reducible refine GD 2 ?_); refine BE 2 #[.slice A0_0 l0_0.length c0_0, .slice A0_1 l0_1.length c0_1, .int .i64 a0_2] 31 ?_; intro gb131 hg w42 hbox hb; have h_ := PB w hb hbox hg; clear HB; obtain ⟨HB, BK131, GW131, GE131⟩ := h_; clear hb hbox hg) | ((with_reducible refine GD 4 ?_); refine BE 4 #[.slice none 0 0, .slice none 0 0, .int .i64 0] 31 ?_; intro gb132 hg w43 hbox hb; have h_ := P7 (BL BK131.out hb) (below_step KB hb) hbox (Kg w hg) (Kg w hg) (NX hg BK131.out) (NY hg BK131.out); clear BK131 HB; obtain ⟨BK131, HB, BK132, GW132, GE132, NB131_132, NB132_131⟩ := h_; clear hb hbox hg; have hnb44 := NB131_132.out; have hnc44 := NB132_131.out; obtain ⟨hcz45_0, hcz45_1, hcz45_2, hfz45_0, hfz45_1, hfz45_2⟩ := C3 BK131.out) | ((with_reducible refine GC 34 ?_); refine goesL_ (some 9) rfl rfl Try.func34 (by kernel_rfl) rfl #[.agg #[.slice A0_0 l0_0.length c0_0, .slice A0_1 l0_1.length c0_1, .int .i64 a0_2]] rfl KL ?_; (with_reducible refine (spec_StoreOk.calls k _ _ l0_0 _ _ l0_1 a0_2 true _ ?side1 ?side2 ?side3 ?side4 A3.out).mono ?_); (case side1 => exact KD (Kd.C_below HR0_0.out HB.out)); (case side2 => exact HC0_0.out); (case side3 => exact KD (Kd.C_below HR0_1.out HB.out)); (case side4 => exact HC0_1.out); rintro e w46 ⟨rfl, hb⟩; refine ⟨_, rfl, ?_⟩; have h_ := P3 (BL BK131.out hb) (BL BK132.out hb) (below_step KB hb); clear BK131 BK132 HB; obtain ⟨BK131, BK132, HB⟩ := h_; (try clear hb); (try clear hk); (try clear hi); obtain ⟨hcz47_0, hcz47_1, hcz47_2, hfz47_0, hfz47_1, hfz47_2⟩ := C3 BK131.out) | ((with_reducible refine GC 41 ?_); refine goesL_ (some 13) rfl rfl Try.func41 (by kernel_rfl) rfl #[.agg #[.slice A0_0 l0_0.length c0_0, .slice A0_1 l0_1.length c0_1, .int .i64 a0_2]] rfl KL ?_; (with_reducible refine (spec_l6Copy.calls _ _ l0_0 _ _ l0_1 a0_2 t134 t137 t140 _ ?side1 ?side2 ?side3 ?side4 A5.out).mono ?_); (case side1 => exact KD (Kd.C_below HR0_0.out HB.out)); (case side2 => exact HC0_0.out); (case side3 => exact KD (Kd.C_below HR0_1.out HB.out)); (case side4 => exact HC0_1.out); rintro e w48 ⟨v135, v138, rfl, ho0, ho1, hb⟩; refine ⟨_, rfl, ?_⟩; have h_ := P5 (Kd.R_lower ho0 (below_size KB)) (Kd.R_lower ho1 (below_size KB)) (BL BK131.out hb) (BL BK132.out hb) (below_step KB hb); clear BK131 BK132 HB; obtain ⟨HO136, HO139, BK131, BK132, HB⟩ := h_; (try clear hb); (try clear hk); (try clear hi); (try clear ho0); (try clear ho1)) | ((with_reducible refine GD 6 ?_); refine BE 6 #[.slice none 0 0, .slice none 0 0, .int .i64 0] 31 ?_; intro gb141 hg w49 hbox hb; have h_ := P12 (Kd.R_below (KR HO136.out) hb) (Kd.R_below (KR HO139.out) hb) (BL BK131.out hb) (BL BK132.out hb) (below_step KB hb) hbox (Kg w hg) (Kg w hg) (NX hg BK131.out) (NY hg BK131.out) (NX hg BK132.out) (NY hg BK132.out); clear HO136 HO139 BK131 BK132 HB; obtain ⟨HO136, HO139, BK131, BK132, HB, BK141, GW141, GE141, NB131_141, NB141_131, NB132_141, NB141_132⟩ := h_; clear hb hbox hg; obtain ⟨Ao50, co50, eo50⟩ := Kd.R_slice HO136.out; subst eo50; have hnb51 := NB141_131.out; have hnc51 := NB131_141.out; have hnb52 := NB141_132.out; have hnc52 := NB132_141.out; obtain ⟨hcz53_0, hcz53_1, hcz53_2, hfz53_0, hfz53_1, hfz53_2⟩ := C3 BK141.out; obtain ⟨Ao54, co54, eo54⟩ := Kd.R_slice HO139.out; subst eo54) | ((with_reducible refine GC 51 ?_); refine goesL_ (some 15) rfl rfl Try.func51 (by kernel_rfl) rfl #[.int .i64 a1] rfl KL ?_; (with_reducible refine MN (spec_PlaceOk.calls a1 false _ A6.out) ?_); intro nd; refine ⟨_, rfl, ?_⟩; obtain ⟨hcz55_0, hcz55_1, hcz55_2, hfz55_0, hfz55_1, hfz55_2⟩ := C3 BK132.out))
   refine bodyPost_ret (results_ct rfl _ _ gb132 31 #[.slice Ao50 t134.length co50, .slice Ao54 t137.length co54, .int .i64 t140] (0, 0) _ rfl (by refine SK ?_; refine BP #[.slice Ao50 t134.length co50, .slice Ao54 t137.length co54, .int .i64 0] ?_ 2; refine SK ?_; refine BP #[.slice Ao50 t134.length co50, .slice none 0 0, .int .i64 0] ?_ 1; refine SK ?_; refine BP #[.slice none 0 0, .slice none 0 0, .int .i64 0] ?_ 0; refine SK ?_; refine blk_far ?_ NB132_141.out _; refine SK ?_; refine blk_far ?_ NB132_141.out _; refine SK ?_; refine blk_far ?_ NB132_141.out _; exact SK BK132.out) Try.underlying31 rfl (by kernel_rfl)) rfl ?_; exact ⟨_, _, KE, RQ (RT (RT HO136.out BK141.out) BK132.out) (hm := fun _ h => h.1.1), RQ (RT (RT HO139.out BK141.out) BK132.out) (hm := fun _ h => h.1.1), KB⟩
 ·replace c4 := Bool.eq_false_iff.mpr c4
  subst c4; have H1 : (some (([] : List (S35)), ([] : List (S35)), 0, false)) = some (r1, r2, r3, r4) := by rw [if_neg (show ¬ (false = true) by decide)] at H; exact H
  clear H; have H := H1; clear H1; simp only [Option.some.injEq, Prod.mk.injEq] at H; obtain ⟨rfl, rfl, rfl, rfl⟩ := H
  go_enter Try.func18, Try.ntmps18
  go_wp2_with (first | ((with_reducible refine GD 2 ?_); refine BE 2 #[.slice A0_0 l0_0.length c0_0, .slice A0_1 l0_1.length c0_1, .int .i64 a0_2] 31 ?_; intro gb131 hg w56 hbox hb; have h_ := PB w hb hbox hg; clear HB; obtain ⟨HB, BK131, GW131, GE131⟩ := h_; clear hb hbox hg) | ((with_reducible refine GD 4 ?_); refine BE 4 #[.slice none 0 0, .slice none 0 0, .int .i64 0] 31 ?_; intro gb132 hg w57 hbox hb; have h_ := P7 (BL BK131.out hb) (below_step KB hb) hbox (Kg w hg) (Kg w hg) (NX hg BK131.out) (NY hg BK131.out); clear BK131 HB; obtain ⟨BK131, HB, BK132, GW132, GE132, NB131_132, NB132_131⟩ := h_; clear hb hbox hg; have hnb58 := NB131_132.out; have hnc58 := NB132_131.out; obtain ⟨hcz59_0, hcz59_1, hcz59_2, hfz59_0, hfz59_1, hfz59_2⟩ := C3 BK131.out) | ((with_reducible refine GC 34 ?_); refine goesL_ (some 9) rfl rfl Try.func34 (by kernel_rfl) rfl #[.agg #[.slice A0_0 l0_0.length c0_0, .slice A0_1 l0_1.length c0_1, .int .i64 a0_2]] rfl KL ?_; (with_reducible refine (spec_StoreOk.calls k _ _ l0_0 _ _ l0_1 a0_2 false _ ?side1 ?side2 ?side3 ?side4 A3.out).mono ?_); (case side1 => exact KD (Kd.C_below HR0_0.out HB.out)); (case side2 => exact HC0_0.out); (case side3 => exact KD (Kd.C_below HR0_1.out HB.out)); (case side4 => exact HC0_1.out); rintro e w60 ⟨rfl, hb⟩; refine ⟨_, rfl, ?_⟩; have h_ := P3 (BL BK131.out hb) (BL BK132.out hb) (below_step KB hb); clear BK131 BK132 HB; obtain ⟨BK131, BK132, HB⟩ := h_; (try clear hb); (try clear hk); (try clear hi); obtain ⟨hcz61_0, hcz61_1, hcz61_2, hfz61_0, hfz61_1, hfz61_2⟩ := C3 BK132.out))
  refine bodyPost_ret (results_ct rfl _ _ gb132 31 #[.slice none 0 0, .slice none 0 0, .int .i64 0] (0, 0) _ rfl (by refine SK ?_; refine BP #[.slice none 0 0, .slice none 0 0, .int .i64 0] ?_ 2; refine SK ?_; refine BP #[.slice none 0 0, .slice none 0 0, .int .i64 0] ?_ 1; refine SK ?_; refine BP #[.slice none 0 0, .slice none 0 0, .int .i64 0] ?_ 0; exact SK BK132.out) Try.underlying31 rfl (by kernel_rfl)) rfl ?_; exact ⟨_, _, KE, by first | exact Kd.R_nil _ _ _ _ _ | exact Kd.N_nil _ _ _ _ _ | exact Kd.V_nil _ _ _ _ _ | exact Kd.Q_nil _ _ _ _ _ | exact Kd.S_nil _ _ _ _ _, by first | exact Kd.R_nil _ _ _ _ _ | exact Kd.N_nil _ _ _ _ _ | exact Kd.V_nil _ _ _ _ _ | exact Kd.Q_nil _ _ _ _ _ | exact Kd.S_nil _ _ _ _ _, KB⟩

/-! ### impl_within: function 63 -/
def impl_within.f (a0 : Int) (a1 : Int) (a2 : Int) : Option (Bool) := if a0 ≥ a1 then (some (decide (a0 ≤ a2))) else (some false)
set_option maxHeartbeats 8000000 in
set_option maxRecDepth 100000 in
theorem impl_within.calls (a0 : Int) (a1 : Int) (a2 : Int) (r : Bool) (w : World) (h : impl_within.f a0 a1 a2 = some r) :
  Calls Try.prog 63 #[.int .i64 a0, .int .i64 a1, .int .i64 a2] w fun e w' => e = .returned (.bool r) ∧ Drawn0 w w' := by
 have H : (if a0 ≥ a1 then (some (decide (a0 ≤ a2))) else (some false)) = some r := h; clear h
 by_cases c4 : a0 ≥ a1
 ·rw [if_pos c4] at H
  have c4b0 : decide (a1 ≤ a0) = true := decide_eq_true c4; clear c4; obtain rfl := Option.some.inj H
  go_enter Try.func63, Try.ntmps63
  go_wp2
  go_ret
  exact ⟨by first | rfl | (simp; done) | (simp [*]; done), by repeat (first | exact Drawn0.refl _ | apply Drawn0.step)⟩
 ·rw [if_neg c4] at H
  have c4b0 : decide (a1 ≤ a0) = false := decide_eq_false c4; clear c4; obtain rfl := Option.some.inj H
  go_enter Try.func63, Try.ntmps63
  go_wp2
  go_ret
  exact ⟨by first | rfl | (simp; done) | (simp [*]; done), by repeat (first | exact Drawn0.refl _ | apply Drawn0.step)⟩

end Go.Proofs.Ytnoghojlpicecaa.PFnEras
