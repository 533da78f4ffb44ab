-- What each Go function that this law reaches comes to: written by a program out of the translation.
import Derived.Test.YtnoghojlpicecaaMFnCrashx0
import Derived.Test.YtnoghojlpicecaaMFnCrashx2
import Derived.Test.YtnoghojlpicecaaMFnCrashx3
namespace Go.Proofs.Ytnoghojlpicecaa.PFnCrash
open Go.RowKit Go.Proofs.YtnoghojlpicecaaW.PrintWords Go.Proofs.YtnoghojlpicecaaW.PrintLast Go.Proofs.YtnoghojlpicecaaW.PrintMore
attribute [local go_sem] max2_int min2_int max_two min_two max_three min_three max_four min_four   -- for this text's walks alone
set_option linter.unusedVariables false
set_option linter.unusedSimpArgs false

/-! ### spec_l6Copy: function 41 -/
def spec_l6Copy.f (l0_0 : List (S35)) (l0_1 : List (S35)) (a0_2 : Int) : Option ((List (S35)) × (List (S35)) × Int) := (some (([] : List (S35)) : List (S35))).bind fun y229 => (if y229.length + l0_0.length < 3518437208883 then ((some (([] : List (S35)) : List (S35))).bind fun y235 => (if y235.length + l0_1.length < 3518437208883 then (some ((y229 ++ l0_0), (y235 ++ l0_1), a0_2)) else (none))) else (none))
def spec_l6Copy.T1 : Bool × List (List Nat × List Nat) := (true, [([], []), ([], []), ([1], [1]), ([0, 2], [0, 2]), ([], []), ([], []), ([5], [5]), ([4, 6, 3], [4, 6]), ([], []), ([8], [8]), ([3, 7, 9], [3, 7, 9]), ([10, 7, 0, 1, 2, 3, 4, 5, 6, 7, 8, 9, 10], [10])])
def spec_l6Copy.B1 : List Nat := [0, 0, 2, 7, 0, 0, 32, 127, 0, 256, 1023, 2047]
theorem spec_l6Copy.tab1 : rtab .any (opsOf Try.f41 1) = spec_l6Copy.T1 := by kernel_rfl
theorem spec_l6Copy.bits1 : waitsOk spec_l6Copy.T1.2 spec_l6Copy.B1 = true := by kernel_rfl
set_option maxHeartbeats 8000000 in
set_option maxRecDepth 100000 in
theorem spec_l6Copy.calls (A0_0 : Option Addr) (c0_0 : Nat) (l0_0 : List (S35)) (A0_1 : Option Addr) (c0_1 : Nat) (l0_1 : List (S35)) (a0_2 : Int) (r1 : List (S35)) (r2 : List (S35)) (r3 : Int) (w : World) (hr0_0 : Kd.C k35 w A0_0 l0_0.length l0_0) (hc0_0 : l0_0.length ≤ c0_0) (hr0_1 : Kd.C k35 w A0_1 l0_1.length l0_1) (hc0_1 : l0_1.length ≤ c0_1) (h : spec_l6Copy.f l0_0 l0_1 a0_2 = some (r1, r2, r3)) :
  Calls Try.prog 41 #[.agg #[.slice A0_0 l0_0.length c0_0, .slice A0_1 l0_1.length c0_1, .int .i64 a0_2]] w fun e w' => ∃ v0_ v1_ : Value, e = .returned (.agg #[v0_, v1_, .int .i64 r3]) ∧ Kd.R k35 35 w' w.heap.size (fun k_ => some k_ ≠ (v1_ : Value).ownBlock) v0_ r1 ∧ Kd.R k35 35 w' w.heap.size (fun k_ => some k_ ≠ (v0_ : Value).ownBlock) v1_ r2 ∧ Below w.heap.size w w' := by
 have hu31 := Try.underlying31
 have HR0_0 := Aside0.mk hr0_0
 have HC0_0 := Aside0.mk hc0_0
 clear hr0_0 hc0_0
 have HR0_1 := Aside0.mk hr0_1
 have HC0_1 := Aside0.mk hc0_1
 clear hr0_1 hc0_1
 have HB := Aside0.mk (Below.refl w.heap.size w)
 have H : ((some (([] : List (S35)) : List (S35))).bind fun y229 => (if y229.length + l0_0.length < 3518437208883 then ((some (([] : List (S35)) : List (S35))).bind fun y235 => (if y235.length + l0_1.length < 3518437208883 then (some ((y229 ++ l0_0), (y235 ++ l0_1), a0_2)) else (none))) else (none))) = some (r1, r2, r3) := h
 clear h
 obtain ⟨y229, hy229⟩ : ∃ y_ : List (S35), y_ = (([] : List (S35))) := ⟨_, rfl⟩
 replace H : (if y229.length + l0_0.length < 3518437208883 then ((some (([] : List (S35)) : List (S35))).bind fun y235 => (if y235.length + l0_1.length < 3518437208883 then (some ((y229 ++ l0_0), (y235 ++ l0_1), a0_2)) else (none))) else (none)) = some (r1, r2, r3) := by first | (rw [hy229]; with_reducible exact H) | (have H2_ := (Option.bind_some _ _).symm.trans H; rw [hy229]; with_reducible exact H2_) | (have H2_ := (Option.bind_some _ _).symm.trans H; with_reducible exact H2_) | with_reducible exact H | (rw [hy229]; exact H) | exact H
 have Ny229 := Aside0.mk hy229
 clear hy229
 by_cases c2 : y229.length + l0_0.length < 3518437208883
 ·rw [if_pos c2] at H
  have LMc2 := Aside0.mk c2
  clear c2
  obtain ⟨y232, hy232⟩ : ∃ y_ : List (S35), y_ = (y229 ++ l0_0) := ⟨_, rfl⟩
  replace H : ((some (([] : List (S35)) : List (S35))).bind fun y235 => (if y235.length + l0_1.length < 3518437208883 then (some (y232, (y235 ++ l0_1), a0_2)) else (none))) = some (r1, r2, r3) := by first | (rw [hy232]; with_reducible exact H) | (have H2_ := (Option.bind_some _ _).symm.trans H; rw [hy232]; with_reducible exact H2_) | (have H2_ := (Option.bind_some _ _).symm.trans H; with_reducible exact H2_) | with_reducible exact H | (rw [hy232]; exact H) | exact H
  have Ny232 := Aside0.mk hy232
  clear hy232
  obtain ⟨y235, hy235⟩ : ∃ y_ : List (S35), y_ = (([] : List (S35))) := ⟨_, rfl⟩
  replace H : (if y235.length + l0_1.length < 3518437208883 then (some (y232, (y235 ++ l0_1), a0_2)) else (none)) = some (r1, r2, r3) := by first | (rw [hy235]; with_reducible exact H) | (have H2_ := (Option.bind_some _ _).symm.trans H; rw [hy235]; with_reducible exact H2_) | (have H2_ := (Option.bind_some _ _).symm.trans H; with_reducible exact H2_) | with_reducible exact H | (rw [hy235]; exact H) | exact H
  have Ny235 := Aside0.mk hy235
  clear hy235
  by_cases c3 : y235.length + l0_1.length < 3518437208883
  ·rw [if_pos c3] at H
   have LMc3 := Aside0.mk c3
   clear c3
   obtain ⟨y238, hy238⟩ : ∃ y_ : List (S35), y_ = (y235 ++ l0_1) := ⟨_, rfl⟩
   replace H : (some (y232, y238, a0_2)) = some (r1, r2, r3) := by first | (rw [hy238]; with_reducible exact H) | (have H2_ := (Option.bind_some _ _).symm.trans H; rw [hy238]; with_reducible exact H2_) | (have H2_ := (Option.bind_some _ _).symm.trans H; with_reducible exact H2_) | with_reducible exact H | (rw [hy238]; exact H) | exact H
   have Ny238 := Aside0.mk hy238
   clear hy238
   simp only [Option.some.injEq, Prod.mk.injEq] at H
   obtain ⟨rfl, rfl, rfl⟩ := H
   go_enter Try.func41, Try.ntmps41
   try go_wp2_with (first | ((with_reducible refine gate_dst (N := 1) rfl ?_); refine BE 1 #[.slice A0_0 l0_0.length c0_0, .slice A0_1 l0_1.length c0_1, .int .i64 a0_2] 31 ?_; intro gb227 hg w4 hbox hb; have h_ := P4 (below_step KB hb) hbox (KG hg : w.heap.size ≤ gb227) (KG hg : w.heap.size ≤ gb227); clear HB; obtain ⟨HB, BK227, GW227, GE227⟩ := h_; clear hb hbox hg) | ((with_reducible refine gate_dst (N := 2) rfl ?_); refine BE 2 #[.slice none 0 0, .slice none 0 0, .int .i64 0] 31 ?_; intro gb228 hg w5 hbox hb; have h_ := P7 (BL BK227.out hb) (below_step KB hb) hbox (KG hg : w.heap.size ≤ gb228) (KG hg : w.heap.size ≤ gb228) (NX hg BK227.out) (Ne.symm (NX hg BK227.out)); clear BK227 HB; obtain ⟨BK227, HB, BK228, GW228, GE228, NB227_228, NB228_227⟩ := h_; clear hb hbox hg))
   have h_ := P3 (blk_drew BK227.out) (blk_drew BK228.out) (below_drew1 HB.out)
   clear BK227 BK228 HB
   obtain ⟨BK227, BK228, HB⟩ := h_
   refine start_ (n := 12) (S := fun w' => w'.cell? ⟨gb227, 0, none⟩ = some (.slice A0_0 l0_0.length c0_0) ∧ w'.cell? ⟨gb227, 1, none⟩ = some (.slice A0_1 l0_1.length c0_1) ∧ w'.cell? ⟨gb227, 2, none⟩ = some (.int .i64 a0_2)) (ds := []) #[false, false, false, false, false, false, false, false, false, false, false, false] (by kernel_rfl) rfl rfl ⟨(blk_cell BK227.out 0).trans rfl, (blk_cell BK227.out 1).trans rfl, (blk_cell BK227.out 2).trans rfl⟩ (fun hHeld => ?_); refine with_tabW spec_l6Copy.tab1 spec_l6Copy.bits1 (fun HT_ HW_ => ?_)
   generalize w5.drew = w6 at BK227 BK228 HB hHeld ⊢
   refine pure_ (i := 1) (N := some 4) (v := ?_) (a' := ?_) #[false, true, false, false, false, false, false, false, false, false, false, false] rfl rfl (any_of HT_.out (by kernel_rfl)) (fun _ _ _ h => h) (Or.inl ⟨by rfl, ?_⟩) ?_ ?_
   rotate_left
   ·intro w'
    go_simp
    with_reducible rfl
   rotate_left
   ·exact KA
   refine pure_ (i := 5) (N := some 8) (v := ?_) (a' := ?_) #[false, true, false, false, false, true, false, false, false, false, false, false] rfl rfl (any_of HT_.out (by kernel_rfl)) (fun _ _ _ h => h) (Or.inl ⟨by rfl, ?_⟩) ?_ ?_
   rotate_left
   ·intro w'
    go_simp
    with_reducible rfl
   rotate_left
   ·exact KA
   refine pure_ (i := 8) (N := some 11) (v := ?_) (a' := ?_) #[false, true, false, false, false, true, false, false, true, false, false, false] rfl rfl (any_of HT_.out (by kernel_rfl)) (fun _ _ _ h => h) (Or.inl ⟨by rfl, ?_⟩) ?_ ?_
   rotate_left
   ·intro w'
    go_simp
    with_reducible rfl
   rotate_left
   ·exact KA
   refine take_ (i := 2) (N := some 5) (v := ?_) (a' := ?_) #[false, true, true, false, false, true, false, false, true, false, false, false] rfl rfl (take_ofW HT_.out HW_.out (by kernel_rfl)) (fun _ _ _ h => h) (Or.inl ⟨by rfl, ?_⟩) hHeld ?_ ?_
   rotate_left
   ·rintro w' ⟨s0, s1, s2⟩
    go_simp
    with_reducible rfl
   rotate_left
   ·exact KA
   refine take_ (i := 6) (N := some 9) (v := ?_) (a' := ?_) #[false, true, true, false, false, true, true, false, true, false, false, false] rfl rfl (take_ofW HT_.out HW_.out (by kernel_rfl)) (fun _ _ _ h => h) (Or.inl ⟨by rfl, ?_⟩) hHeld ?_ ?_
   rotate_left
   ·rintro w' ⟨s0, s1, s2⟩
    go_simp
    with_reducible rfl
   rotate_left
   ·exact KA
   refine take_ (i := 9) (N := some 12) (v := ?_) (a' := ?_) #[false, true, true, false, false, true, true, false, true, true, false, false] rfl rfl (take_ofW HT_.out HW_.out (by kernel_rfl)) (fun _ _ _ h => h) (Or.inl ⟨by rfl, ?_⟩) hHeld ?_ ?_
   rotate_left
   ·rintro w' ⟨s0, s1, s2⟩
    go_simp
    with_reducible rfl
   rotate_left
   ·exact KA
   refine join_ (σ := Value × Value × Value) 3 #[true, true, true, true, true, true, true, false, true, true, false, false] (fun s_ => [(3, s_.1), (6, s_.2.1), (7, s_.2.2)]) (fun s_ w' => (w'.cell? ⟨gb227, 0, none⟩ = some (.slice A0_0 l0_0.length c0_0) ∧ w'.cell? ⟨gb227, 1, none⟩ = some (.slice A0_1 l0_1.length c0_1) ∧ w'.cell? ⟨gb227, 2, none⟩ = some (.int .i64 a0_2)) ∧ (Kd.R k35 35 w' w.heap.size (fun k_ => some k_ ≠ (s_.2.2 : Value).ownBlock) s_.2.1 y232) ∧ (Kd.R k35 35 w' w.heap.size (fun k_ => some k_ ≠ (s_.2.1 : Value).ownBlock) s_.2.2 y235) ∧ (w'.heap[gb227]? = some (.cells #[.slice A0_0 l0_0.length c0_0, .slice A0_1 l0_1.length c0_1, .int .i64 a0_2] 31 (0, 0))) ∧ (w'.heap[gb228]? = some (.cells #[.slice none 0 0, .slice none 0 0, .int .i64 0] 31 (0, 0))) ∧ (Below w.heap.size w w')) ?_ ?_
   rotate_left
   ·intro hCont
    refine two_ (i := 0) (j := 4) (Ni := some 3) (Nj := some 7) #[true, true, true, false, false, true, true, false, true, true, false, false] #[false, true, true, false, true, true, true, false, true, true, false, false] rfl rfl rfl rfl (two_of HT_.out (by kernel_rfl)) (by decide) (by decide) (fun K hK => ?_) (fun K hK => ?_)
    ·skip
     refine Kd.R_lit_step k35 _ 35 ?hg (N := 3) ?hd (xs := ([] : List (S35))) (inner := []) (ok := fun _ => True) (okp := fun _ => True) ?hr ?hp (fun _ hk => hk) trivial (Below.refl _ _) (Nat.le_refl _) (by simp) ?_; (case hd => rfl); (case hg => rfl); (case hr => first | (go_simp; done) | (go_simp; rfl)); (case hp => exact (Reps.none _ _))
     intro v230 w7 ho8 hb hg_ hnew_
     clear hg_ hnew_
     (first | rw [← Ny229.out] at ho8 | (simp only [Int.reduceToNat] at ho8; rw [← Ny229.out] at ho8))
     have h_ := P4 (Kd.R_lower ho8 (below_size KB)) (BL BK227.out hb) (BL BK228.out hb) (below_step KB hb)
     clear BK227 BK228 HB
     obtain ⟨HO231, BK227, BK228, HB⟩ := h_
     clear hb ho8
     refine hK.out _ _ ⟨(blk_cell BK227.out 0).trans rfl, (blk_cell BK227.out 1).trans rfl, (blk_cell BK227.out 2).trans rfl⟩ (fun hHeld => ?_)
     clear hK K
     refine norm_ (a' := ?_) ?_ ?_
     rotate_left
     ·show Act.put _ (some 3) _ = _; exact KA
     refine two_ (i := 3) (j := 4) (Ni := some 6) (Nj := some 7) #[true, true, true, true, false, true, true, false, true, true, false, false] #[true, true, true, false, true, true, true, false, true, true, false, false] rfl rfl rfl rfl (two_of HT_.out (by kernel_rfl)) (by decide) (by decide) (fun K hK => ?_) (fun K hK => ?_)
     ·skip
      refine Kd.R_append_rows_step k35 (w0 := w) w.heap.size (by rfl) (.tmp 3) (.tmp 5) 29 35 (.agg #[(.int .i64 0), (.int .i64 0), (.bool false), (.string ⟨#[]⟩)]) 40 rfl Try.underlying29 info35 rfl (by decide) (by omega) v230 y229 l0_0 _ _ _ (fun _ => True) (fun _ => False) rfl rfl ?aO ?aR (fun _ _ h => h) (fun _ h => h.elim) ?aF ?aB ?aS ?aL ?_
      (case aR => repeat (first | exact (Kd.C_below HR0_0.out HB.out) | (with_reducible refine Kd.C_alloc ?_ _) | (with_reducible refine Kd.C_drewN ?_ _) | (with_reducible refine Kd.C_drew ?_)))
      (case aB => exact KB)
      (case aF => exact (fun _ _ => trivial))
      (case aO => exact (KR HO231.out))
      (case aS => exact (below_size KB))
      (case aL => have := LMc2.out; omega)
      intro v233 w9 ho hb hg hat
      rw [← Ny232.out] at ho
      have h_ := P4 (BW BK227.out hg (Kd.R_ne HO231.out BK227.out (by decide))) (BW BK228.out hg (Kd.R_ne HO231.out BK228.out (by decide))) hb ho
      clear BK227 BK228 HB HO231
      obtain ⟨BK227, BK228, HB, HO234⟩ := h_
      clear ho hb hg hat
      refine hK.out _ _ ⟨(blk_cell BK227.out 0).trans rfl, (blk_cell BK227.out 1).trans rfl, (blk_cell BK227.out 2).trans rfl⟩ (fun hHeld => ?_)
      clear hK K
      refine norm_ (a' := ?_) ?_ ?_
      rotate_left
      ·show Act.put _ (some 6) _ = _; exact KA
      refine one_ (i := 4) (N := some 7) #[true, true, true, true, true, true, true, false, true, true, false, false] rfl rfl (one_of HT_.out (by kernel_rfl)) (by decide) (fun K hK => ?_)
      refine Kd.R_lit_step k35 _ 35 ?hg (N := 7) ?hd (xs := ([] : List (S35))) (inner := []) (ok := fun _ => True) (okp := fun _ => True) ?hr ?hp (fun _ hk => hk) trivial (Below.refl _ _) (Nat.le_refl _) (by simp) ?_; (case hd => rfl); (case hg => rfl); (case hr => first | (go_simp; done) | (go_simp; rfl)); (case hp => exact (Reps.none _ _))
      intro v236 w10 ho11 hb hg_ hnew_
      clear hg_ hnew_
      (first | rw [← Ny235.out] at ho11 | (simp only [Int.reduceToNat] at ho11; rw [← Ny235.out] at ho11))
      have h_ := P5 (Kd.R_elder' (KR HO234.out) (Kd.R_base ho11) hb) (Kd.R_lower (Kd.R_new' ho11 (Kd.R_lt (KR HO234.out))) (below_size KB)) (BL BK227.out hb) (BL BK228.out hb) (below_step KB hb)
      clear HO234 BK227 BK228 HB
      obtain ⟨HO234, HO237, BK227, BK228, HB⟩ := h_
      clear hb ho11
      refine hK.out _ _ ⟨(blk_cell BK227.out 0).trans rfl, (blk_cell BK227.out 1).trans rfl, (blk_cell BK227.out 2).trans rfl⟩ (fun hHeld => ?_)
      clear hK K
      refine norm_ (a' := ?_) ?_ ?_
      rotate_left
      ·show Act.put _ (some 7) _ = _; exact KA
      exact norm_ (by simp only [putAll, Act.put, List.setIfInBounds_toArray, List.set_cons_zero, List.set_cons_succ]) (hCont (v230, v233, v236) _ ⟨hHeld, (by (with_reducible repeat (first | apply Kd.R_alloc | apply Kd.R_drewN | apply Kd.R_drew)); exact Kd.R_mono HO234.out (fun _ hk => hk.2)), (by (with_reducible repeat (first | apply Kd.R_alloc | apply Kd.R_drewN | apply Kd.R_drew)); exact Kd.R_mono HO237.out (fun _ hk => hk.2)), KK, KK, KB⟩)
     ·skip
      refine Kd.R_lit_step k35 _ 35 ?hg (N := 7) ?hd (xs := ([] : List (S35))) (inner := []) (ok := fun _ => True) (okp := fun _ => True) ?hr ?hp (fun _ hk => hk) trivial (Below.refl _ _) (Nat.le_refl _) (by simp) ?_; (case hd => rfl); (case hg => rfl); (case hr => first | (go_simp; done) | (go_simp; rfl)); (case hp => exact (Reps.none _ _))
      intro v236 w9 ho10 hb hg_ hnew_
      clear hg_ hnew_
      (first | rw [← Ny235.out] at ho10 | (simp only [Int.reduceToNat] at ho10; rw [← Ny235.out] at ho10))
      have h_ := P5 (Kd.R_elder' (KR HO231.out) (Kd.R_base ho10) hb) (Kd.R_lower (Kd.R_new' ho10 (Kd.R_lt (KR HO231.out))) (below_size KB)) (BL BK227.out hb) (BL BK228.out hb) (below_step KB hb)
      clear HO231 BK227 BK228 HB
      obtain ⟨HO231, HO237, BK227, BK228, HB⟩ := h_
      clear hb ho10
      refine hK.out _ _ ⟨(blk_cell BK227.out 0).trans rfl, (blk_cell BK227.out 1).trans rfl, (blk_cell BK227.out 2).trans rfl⟩ (fun hHeld => ?_)
      clear hK K
      refine norm_ (a' := ?_) ?_ ?_
      rotate_left
      ·show Act.put _ (some 7) _ = _; exact KA
      refine one_ (i := 3) (N := some 6) #[true, true, true, true, true, true, true, false, true, true, false, false] rfl rfl (one_of HT_.out (by kernel_rfl)) (by decide) (fun K hK => ?_)
      refine Kd.R_append_rows_step k35 (w0 := w) w.heap.size (by rfl) (.tmp 3) (.tmp 5) 29 35 (.agg #[(.int .i64 0), (.int .i64 0), (.bool false), (.string ⟨#[]⟩)]) 40 rfl Try.underlying29 info35 rfl (by decide) (by omega) v230 y229 l0_0 _ _ _ (fun k_ => some k_ ≠ (v236 : Value).ownBlock) (fun _ => False) rfl rfl ?aO ?aR (fun _ _ h => h) (fun _ h => h.elim) ?aF ?aB ?aS ?aL ?_
      (case aR => repeat (first | exact (Kd.C_below HR0_0.out HB.out) | (with_reducible refine Kd.C_alloc ?_ _) | (with_reducible refine Kd.C_drewN ?_ _) | (with_reducible refine Kd.C_drew ?_)))
      (case aB => exact KB)
      (case aF => exact (fun k_ hk => Kd.fresh' (Kd.R_lt (KR HO237.out)) k_ hk))
      (case aO => exact (by (with_reducible repeat (first | apply Kd.R_alloc | apply Kd.R_drewN | apply Kd.R_drew)); exact Kd.R_mono HO231.out (fun _ hk => hk.2)))
      (case aS => exact (below_size KB))
      (case aL => have := LMc2.out; omega)
      intro v233 w11 ho hb hg hat
      rw [← Ny232.out] at ho
      have h_ := P5 (BW BK227.out hg (Kd.R_ne HO231.out BK227.out (by decide))) (BW BK228.out hg (Kd.R_ne HO231.out BK228.out (by decide))) (Kd.R_after (ok := (fun _ => True)) (KR HO237.out) hg hat) hb ho
      clear BK227 BK228 HO237 HB HO231
      obtain ⟨BK227, BK228, HO237, HB, HO234⟩ := h_
      clear ho hb hg hat
      refine hK.out _ _ ⟨(blk_cell BK227.out 0).trans rfl, (blk_cell BK227.out 1).trans rfl, (blk_cell BK227.out 2).trans rfl⟩ (fun hHeld => ?_)
      clear hK K
      refine norm_ (a' := ?_) ?_ ?_
      rotate_left
      ·show Act.put _ (some 6) _ = _; exact KA
      exact norm_ (by simp only [putAll, Act.put, List.setIfInBounds_toArray, List.set_cons_zero, List.set_cons_succ]) (hCont (v230, v233, v236) _ ⟨hHeld, (KR HO234.out), (by (with_reducible repeat (first | apply Kd.R_alloc | apply Kd.R_drewN | apply Kd.R_drew)); exact Kd.R_mono HO237.out (fun _ hk => hk.2)), KK, KK, KB⟩)
    ·skip
     refine Kd.R_lit_step k35 _ 35 ?hg (N := 7) ?hd (xs := ([] : List (S35))) (inner := []) (ok := fun _ => True) (okp := fun _ => True) ?hr ?hp (fun _ hk => hk) trivial (Below.refl _ _) (Nat.le_refl _) (by simp) ?_; (case hd => rfl); (case hg => rfl); (case hr => first | (go_simp; done) | (go_simp; rfl)); (case hp => exact (Reps.none _ _))
     intro v236 w7 ho8 hb hg_ hnew_
     clear hg_ hnew_
     (first | rw [← Ny235.out] at ho8 | (simp only [Int.reduceToNat] at ho8; rw [← Ny235.out] at ho8))
     have h_ := P4 (Kd.R_lower ho8 (below_size KB)) (BL BK227.out hb) (BL BK228.out hb) (below_step KB hb)
     clear BK227 BK228 HB
     obtain ⟨HO237, BK227, BK228, HB⟩ := h_
     clear hb ho8
     refine hK.out _ _ ⟨(blk_cell BK227.out 0).trans rfl, (blk_cell BK227.out 1).trans rfl, (blk_cell BK227.out 2).trans rfl⟩ (fun hHeld => ?_)
     clear hK K
     refine norm_ (a' := ?_) ?_ ?_
     rotate_left
     ·show Act.put _ (some 7) _ = _; exact KA
     refine one_ (i := 0) (N := some 3) #[true, true, true, false, true, true, true, false, true, true, false, false] rfl rfl (one_of HT_.out (by kernel_rfl)) (by decide) (fun K hK => ?_)
     refine Kd.R_lit_step k35 _ 35 ?hg (N := 3) ?hd (xs := ([] : List (S35))) (inner := []) (ok := fun _ => True) (okp := fun _ => True) ?hr ?hp (fun _ hk => hk) trivial (Below.refl _ _) (Nat.le_refl _) (by simp) ?_; (case hd => rfl); (case hg => rfl); (case hr => first | (go_simp; done) | (go_simp; rfl)); (case hp => exact (Reps.none _ _))
     intro v230 w9 ho10 hb hg_ hnew_
     clear hg_ hnew_
     (first | rw [← Ny229.out] at ho10 | (simp only [Int.reduceToNat] at ho10; rw [← Ny229.out] at ho10))
     have h_ := P5 (Kd.R_elder' (KR HO237.out) (Kd.R_base ho10) hb) (Kd.R_lower (Kd.R_new' ho10 (Kd.R_lt (KR HO237.out))) (below_size KB)) (BL BK227.out hb) (BL BK228.out hb) (below_step KB hb)
     clear HO237 BK227 BK228 HB
     obtain ⟨HO237, HO231, BK227, BK228, HB⟩ := h_
     clear hb ho10
     refine hK.out _ _ ⟨(blk_cell BK227.out 0).trans rfl, (blk_cell BK227.out 1).trans rfl, (blk_cell BK227.out 2).trans rfl⟩ (fun hHeld => ?_)
     clear hK K
     refine norm_ (a' := ?_) ?_ ?_
     rotate_left
     ·show Act.put _ (some 3) _ = _; exact KA
     refine one_ (i := 3) (N := some 6) #[true, true, true, true, true, true, true, false, true, true, false, false] rfl rfl (one_of HT_.out (by kernel_rfl)) (by decide) (fun K hK => ?_)
     refine Kd.R_append_rows_step k35 (w0 := w) w.heap.size (by rfl) (.tmp 3) (.tmp 5) 29 35 (.agg #[(.int .i64 0), (.int .i64 0), (.bool false), (.string ⟨#[]⟩)]) 40 rfl Try.underlying29 info35 rfl (by decide) (by omega) v230 y229 l0_0 _ _ _ (fun k_ => some k_ ≠ (v236 : Value).ownBlock) (fun _ => False) rfl rfl ?aO ?aR (fun _ _ h => h) (fun _ h => h.elim) ?aF ?aB ?aS ?aL ?_
     (case aR => repeat (first | exact (Kd.C_below HR0_0.out HB.out) | (with_reducible refine Kd.C_alloc ?_ _) | (with_reducible refine Kd.C_drewN ?_ _) | (with_reducible refine Kd.C_drew ?_)))
     (case aB => exact KB)
     (case aF => exact (fun k_ hk => Kd.fresh' (Kd.R_lt (KR HO237.out)) k_ hk))
     (case aO => exact (by (with_reducible repeat (first | apply Kd.R_alloc | apply Kd.R_drewN | apply Kd.R_drew)); exact Kd.R_mono HO231.out (fun _ hk => hk.2)))
     (case aS => exact (below_size KB))
     (case aL => have := LMc2.out; omega)
     intro v233 w11 ho hb hg hat
     rw [← Ny232.out] at ho
     have h_ := P5 (BW BK227.out hg (Kd.R_ne HO231.out BK227.out (by decide))) (BW BK228.out hg (Kd.R_ne HO231.out BK228.out (by decide))) (Kd.R_after (ok := (fun _ => True)) (KR HO237.out) hg hat) hb ho
     clear BK227 BK228 HO237 HB HO231
     obtain ⟨BK227, BK228, HO237, HB, HO234⟩ := h_
     clear ho hb hg hat
     refine hK.out _ _ ⟨(blk_cell BK227.out 0).trans rfl, (blk_cell BK227.out 1).trans rfl, (blk_cell BK227.out 2).trans rfl⟩ (fun hHeld => ?_)
     clear hK K
     refine norm_ (a' := ?_) ?_ ?_
     rotate_left
     ·show Act.put _ (some 6) _ = _; exact KA
     exact norm_ (by simp only [putAll, Act.put, List.setIfInBounds_toArray, List.set_cons_zero, List.set_cons_succ]) (hCont (v230, v233, v236) _ ⟨hHeld, (KR HO234.out), (by (with_reducible repeat (first | apply Kd.R_alloc | apply Kd.R_drewN | apply Kd.R_drew)); exact Kd.R_mono HO237.out (fun _ hk => hk.2)), KK, KK, KB⟩)
   rintro ⟨v230, v233, v236⟩ w12 ⟨hS_, h0_, h1_, h2_, h3_, h4_⟩
   have n0_ : Aside0 (Kd.R k35 35 w12 w.heap.size (fun k_ => some k_ ≠ (v236 : Value).ownBlock) v233 y232) := ⟨h0_⟩
   have n1_ : Aside0 (Kd.R k35 35 w12 w.heap.size (fun k_ => some k_ ≠ (v233 : Value).ownBlock) v236 y235) := ⟨h1_⟩
   have n2_ : Aside0 (w12.heap[gb227]? = some (.cells #[.slice A0_0 l0_0.length c0_0, .slice A0_1 l0_1.length c0_1, .int .i64 a0_2] 31 (0, 0))) := ⟨h2_⟩
   have n3_ : Aside0 (w12.heap[gb228]? = some (.cells #[.slice none 0 0, .slice none 0 0, .int .i64 0] 31 (0, 0))) := ⟨h3_⟩
   have n4_ : Aside0 (Below w.heap.size w w12) := ⟨h4_⟩
   clear BK227
   clear BK228
   clear HB
   clear h0_ h1_ h2_ h3_ h4_
   have HO234 := n0_
   have HO237 := n1_
   have BK227 := n2_
   have BK228 := n3_
   have HB := n4_
   clear n0_ n1_ n2_ n3_ n4_
   have hHeld : w12.cell? ⟨gb227, 0, none⟩ = some (.slice A0_0 l0_0.length c0_0) ∧ w12.cell? ⟨gb227, 1, none⟩ = some (.slice A0_1 l0_1.length c0_1) ∧ w12.cell? ⟨gb227, 2, none⟩ = some (.int .i64 a0_2) := hS_
   refine norm_ (a' := ?_) ?_ ?_
   rotate_left
   ·simp only [putAll, Act.put, List.setIfInBounds_toArray, List.set_cons_zero, List.set_cons_succ]
    rfl
   refine one_ (i := 7) (N := some 10) #[true, true, true, true, true, true, true, true, true, true, false, false] rfl rfl (one_of HT_.out (by kernel_rfl)) (by decide) (fun K hK => ?_)
   refine Kd.R_append_rows_step k35 (w0 := w) w.heap.size (by rfl) (.tmp 7) (.tmp 9) 29 35 (.agg #[(.int .i64 0), (.int .i64 0), (.bool false), (.string ⟨#[]⟩)]) 40 rfl Try.underlying29 info35 rfl (by decide) (by omega) v236 y235 l0_1 _ _ _ (fun k_ => some k_ ≠ (v233 : Value).ownBlock) (fun _ => False) rfl rfl ?aO ?aR (fun _ _ h => h) (fun _ h => h.elim) ?aF ?aB ?aS ?aL ?_
   (case aR => repeat (first | exact (Kd.C_below HR0_1.out HB.out) | (with_reducible refine Kd.C_alloc ?_ _) | (with_reducible refine Kd.C_drewN ?_ _) | (with_reducible refine Kd.C_drew ?_)))
   (case aB => exact KB)
   (case aF => exact (fun k_ hk => Kd.fresh' (Kd.R_lt (KR HO234.out)) k_ hk))
   (case aO => exact (KR HO237.out))
   (case aS => exact (below_size KB))
   (case aL => have := LMc3.out; omega)
   intro v239 w13 ho hb hg hat
   rw [← Ny238.out] at ho
   have h_ := P5 (BW BK227.out hg (Kd.R_ne HO237.out BK227.out (by decide))) (BW BK228.out hg (Kd.R_ne HO237.out BK228.out (by decide))) (Kd.R_after (ok := (fun _ => True)) (by (with_reducible repeat (first | apply Kd.R_alloc | apply Kd.R_drewN | apply Kd.R_drew)); exact Kd.R_mono HO234.out (fun _ hk => ⟨trivial, hk⟩)) hg hat) hb ho
   clear BK227 BK228 HO234 HB HO237
   obtain ⟨BK227, BK228, HO234, HB, HO240⟩ := h_
   clear ho hb hg hat
   obtain ⟨Ao14, co14, eo14⟩ := Kd.R_slice HO240.out
   (first | subst eo14 | (injection eo14 with f1_ f2_ f3_; have f4_ := f1_.symm; have f5_ := f3_.symm; clear f1_ f2_ f3_; subst f4_; subst f5_))
   obtain ⟨Ao15, co15, eo15⟩ := Kd.R_slice HO234.out
   (first | subst eo15 | (injection eo15 with f1_ f2_ f3_; have f4_ := f1_.symm; have f5_ := f3_.symm; clear f1_ f2_ f3_; subst f4_; subst f5_))
   refine hK.out _ _ ⟨(blk_cell BK227.out 0).trans rfl, (blk_cell BK227.out 1).trans rfl, (blk_cell BK227.out 2).trans rfl⟩ (fun hHeld => ?_)
   clear hK K
   refine norm_ (a' := ?_) ?_ ?_
   rotate_left
   ·show Act.put _ (some 10) _ = _; exact KA
   refine pure_ (i := 10) (N := some 13) (v := ?_) (a' := ?_) #[true, true, true, true, true, true, true, true, true, true, true, false] rfl rfl (any_of HT_.out (by kernel_rfl)) (fun _ _ _ h => h) (Or.inl ⟨by rfl, ?_⟩) ?_ ?_
   rotate_left
   ·intro w'
    go_simp
    with_reducible rfl
   rotate_left
   ·exact KA
   refine one_ (i := 11) (N := none) #[true, true, true, true, true, true, true, true, true, true, true, true] rfl rfl (one_of HT_.out (by kernel_rfl)) (by decide) (fun K hK => ?_)
   have hs16 : w13.cell? ⟨gb228, 0, none⟩ = some (.slice none 0 0) := (blk_cell BK228.out 0).trans rfl
   have hfs16 := blk_frozen BK228.out 0
   have hns16_0 := NB227_228.out
   have hms16_0 := NB228_227.out
   have hs17 : w13.cell? ⟨gb228, 1, none⟩ = some (.slice none 0 0) := (blk_cell BK228.out 1).trans rfl
   have hfs17 := blk_frozen BK228.out 1
   have hns17_0 := NB227_228.out
   have hms17_0 := NB228_227.out
   have hs18 : w13.cell? ⟨gb228, 2, none⟩ = some (.int .i64 0) := (blk_cell BK228.out 2).trans rfl
   have hfs18 := blk_frozen BK228.out 2
   have hns18_0 := NB227_228.out
   have hms18_0 := NB228_227.out
   refine skip_ (w1 := ?_) (by rfl) rfl ?_ ?_
   rotate_left
   ·go_simp
    rfl
   refine hK.out _ _ ⟨((cell_far (p := ⟨gb228, _, none⟩) NB227_228.out _).trans (((cell_far (p := ⟨gb228, _, none⟩) NB227_228.out _).trans (((cell_far (p := ⟨gb228, _, none⟩) NB227_228.out _).trans (hHeld.1)))))), ((cell_far (p := ⟨gb228, _, none⟩) NB227_228.out _).trans (((cell_far (p := ⟨gb228, _, none⟩) NB227_228.out _).trans (((cell_far (p := ⟨gb228, _, none⟩) NB227_228.out _).trans (hHeld.2.1)))))), ((cell_far (p := ⟨gb228, _, none⟩) NB227_228.out _).trans (((cell_far (p := ⟨gb228, _, none⟩) NB227_228.out _).trans (((cell_far (p := ⟨gb228, _, none⟩) NB227_228.out _).trans (hHeld.2.2))))))⟩ (fun hHeld => ?_)
   clear hK K
   refine done_ (done_of HT_.out (by kernel_rfl)) ?_
   try go_wp2
   refine bodyPost_ret (results_cell_row rfl _ _ gb228 31 #[.slice Ao15 y232.length co15, .slice Ao14 y238.length co14, .int .i64 a0_2] (0, 0) _ rfl (by refine SK ?_; refine blk_put (cs := #[.slice Ao15 y232.length co15, .slice Ao14 y238.length co14, .int .i64 0]) ?_ 2 _ rfl; refine SK ?_; refine blk_put (cs := #[.slice Ao15 y232.length co15, .slice none 0 0, .int .i64 0]) ?_ 1 _ rfl; refine SK ?_; refine blk_put (cs := #[.slice none 0 0, .slice none 0 0, .int .i64 0]) ?_ 0 _ rfl; exact SK BK228.out) Try.underlying31 rfl (by kernel_rfl)) rfl ?_
   exact ⟨_, _, KE, RQ (RT HO234.out BK228.out) (hm := fun _ h => h.1.2), RQ (RT HO240.out BK228.out), KB⟩
  ·rw [if_neg c3] at H
   exact absurd H (by simp)
 ·rw [if_neg c2] at H
  exact absurd H (by simp)

/-! ### spec_l6Takes: function 43 -/
def spec_l6Takes.f (l0_0 : List (S35)) (l0_1 : List (S35)) (a0_2 : Int) (a1_0 : Int) (a1_1 : Int) (a1_2 : Bool) (a1_3 : ByteArray) : Option (Bool) := if a1_1 = 0 then ((spec_EpochOf.f a1_0).bind fun t243 => (some (decide (t243 > a0_2)))) else (some (decide (a1_1 > a0_2)))
set_option maxHeartbeats 8000000 in
set_option maxRecDepth 100000 in
theorem spec_l6Takes.calls (A0_0 : Option Addr) (c0_0 : Nat) (l0_0 : List (S35)) (A0_1 : Option Addr) (c0_1 : Nat) (l0_1 : List (S35)) (a0_2 : Int) (a1_0 : Int) (a1_1 : Int) (a1_2 : Bool) (a1_3 : ByteArray) (r : Bool) (w : World) (hr0_0 : Kd.C k35 w A0_0 l0_0.length l0_0) (hc0_0 : l0_0.length ≤ c0_0) (hr0_1 : Kd.C k35 w A0_1 l0_1.length l0_1) (hc0_1 : l0_1.length ≤ c0_1) (h : spec_l6Takes.f l0_0 l0_1 a0_2 a1_0 a1_1 a1_2 a1_3 = some r) :
  Calls Try.prog 43 #[.agg #[.slice A0_0 l0_0.length c0_0, .slice A0_1 l0_1.length c0_1, .int .i64 a0_2], .agg #[.int .i64 a1_0, .int .i64 a1_1, .bool a1_2, .string a1_3]] w fun e w' => e = .returned (.bool r) ∧ Below w.heap.size w w' := by
 have hu31 := Try.underlying31
 have hu35 := Try.underlying35
 have HR0_0 := Aside0.mk hr0_0
 have HC0_0 := Aside0.mk hc0_0
 clear hr0_0 hc0_0
 have HR0_1 := Aside0.mk hr0_1
 have HC0_1 := Aside0.mk hc0_1
 clear hr0_1 hc0_1
 have HB := Aside0.mk (Below.refl w.heap.size w)
 have H : (if a1_1 = 0 then ((spec_EpochOf.f a1_0).bind fun t243 => (some (decide (t243 > a0_2)))) else (some (decide (a1_1 > a0_2)))) = some r := h
 clear h
 by_cases c3 : a1_1 = 0
 ·rw [if_pos c3] at H
  have c3b0 : (a1_1 == 0) = true := beq_iff_eq.mpr c3
  have c3b1 : (a1_1 != 0) = false := bne_eq_false_iff_eq.mpr c3
  clear c3
  replace H := Option.bind_eq_some_iff.mp H
  obtain ⟨t243, A40, H⟩ := H
  replace H : (some (decide (t243 > a0_2))) = some r := H
  have A4 := Aside0.mk A40
  clear A40
  obtain rfl := Option.some.inj H
  go_enter Try.func43, Try.ntmps43
  go_wp2_with (first | ((with_reducible refine gate_dst (N := 2) rfl ?_); refine BE 2 #[.slice A0_0 l0_0.length c0_0, .slice A0_1 l0_1.length c0_1, .int .i64 a0_2] 31 ?_; intro gb241 hg w5 hbox hb; have h_ := P4 (below_step KB hb) hbox (KG hg : w.heap.size ≤ gb241) (KG hg : w.heap.size ≤ gb241); clear HB; obtain ⟨HB, BK241, GW241, GE241⟩ := h_; clear hb hbox hg) | ((with_reducible refine gate_dst (N := 3) rfl ?_); refine BE 3 #[.int .i64 a1_0, .int .i64 a1_1, .bool a1_2, .string a1_3] 35 ?_; intro gb242 hg w6 hbox hb; have h_ := P7 (BL BK241.out hb) (below_step KB hb) hbox (KG hg : w.heap.size ≤ gb242) (KG hg : w.heap.size ≤ gb242) (NX hg BK241.out) (Ne.symm (NX hg BK241.out)); clear BK241 HB; obtain ⟨BK241, HB, BK242, GW242, GE242, NB241_242, NB242_241⟩ := h_; clear hb hbox hg; have hnb7 := NB242_241.out; have hnc7 := NB241_242.out; obtain ⟨hcz8_0, hcz8_1, hcz8_2, hcz8_3, hfz8_0, hfz8_1, hfz8_2, hfz8_3⟩ := C4 BK242.out) | (go_at_call 58; (with_reducible refine (spec_EpochOf.calls a1_0 t243 _ A4.out).mono ?_); rintro e w' ⟨rfl, ⟨nd, rfl⟩⟩; (try exact KT); obtain ⟨hcz9_0, hcz9_1, hcz9_2, hfz9_0, hfz9_1, hfz9_2⟩ := C3 BK241.out))
  repeat (go_quiet (first | (go_at_call 58; (with_reducible refine (spec_EpochOf.calls a1_0 t243 _ A4.out).mono ?_); rintro e w' ⟨rfl, ⟨nd, rfl⟩⟩; (try exact KT); obtain ⟨hcz9_0, hcz9_1, hcz9_2, hfz9_0, hfz9_1, hfz9_2⟩ := C3 BK241.out)); try go_wp2_with (first | ((with_reducible refine gate_dst (N := 2) rfl ?_); refine BE 2 #[.slice A0_0 l0_0.length c0_0, .slice A0_1 l0_1.length c0_1, .int .i64 a0_2] 31 ?_; intro gb241 hg w5 hbox hb; have h_ := P4 (below_step KB hb) hbox (KG hg : w.heap.size ≤ gb241) (KG hg : w.heap.size ≤ gb241); clear HB; obtain ⟨HB, BK241, GW241, GE241⟩ := h_; clear hb hbox hg) | ((with_reducible refine gate_dst (N := 3) rfl ?_); refine BE 3 #[.int .i64 a1_0, .int .i64 a1_1, .bool a1_2, .string a1_3] 35 ?_; intro gb242 hg w6 hbox hb; have h_ := P7 (BL BK241.out hb) (below_step KB hb) hbox (KG hg : w.heap.size ≤ gb242) (KG hg : w.heap.size ≤ gb242) (NX hg BK241.out) (Ne.symm (NX hg BK241.out)); clear BK241 HB; obtain ⟨BK241, HB, BK242, GW242, GE242, NB241_242, NB242_241⟩ := h_; clear hb hbox hg; have hnb7 := NB242_241.out; have hnc7 := NB241_242.out; obtain ⟨hcz8_0, hcz8_1, hcz8_2, hcz8_3, hfz8_0, hfz8_1, hfz8_2, hfz8_3⟩ := C4 BK242.out) | (go_at_call 58; (with_reducible refine (spec_EpochOf.calls a1_0 t243 _ A4.out).mono ?_); rintro e w' ⟨rfl, ⟨nd, rfl⟩⟩; (try exact KT); obtain ⟨hcz9_0, hcz9_1, hcz9_2, hfz9_0, hfz9_1, hfz9_2⟩ := C3 BK241.out)))
  go_ret
  exact ⟨KE, KB⟩
 ·rw [if_neg c3] at H
  have c3b0 : (a1_1 == 0) = false := beq_eq_false_iff_ne.mpr c3
  have c3b1 : (a1_1 != 0) = true := bne_iff_ne.mpr c3
  obtain rfl := Option.some.inj H
  go_enter Try.func43, Try.ntmps43
  go_wp2_with (first | ((with_reducible refine gate_dst (N := 2) rfl ?_); refine BE 2 #[.slice A0_0 l0_0.length c0_0, .slice A0_1 l0_1.length c0_1, .int .i64 a0_2] 31 ?_; intro gb241 hg w10 hbox hb; have h_ := P4 (below_step KB hb) hbox (KG hg : w.heap.size ≤ gb241) (KG hg : w.heap.size ≤ gb241); clear HB; obtain ⟨HB, BK241, GW241, GE241⟩ := h_; clear hb hbox hg) | ((with_reducible refine gate_dst (N := 3) rfl ?_); refine BE 3 #[.int .i64 a1_0, .int .i64 a1_1, .bool a1_2, .string a1_3] 35 ?_; intro gb242 hg w11 hbox hb; have h_ := P7 (BL BK241.out hb) (below_step KB hb) hbox (KG hg : w.heap.size ≤ gb242) (KG hg : w.heap.size ≤ gb242) (NX hg BK241.out) (Ne.symm (NX hg BK241.out)); clear BK241 HB; obtain ⟨BK241, HB, BK242, GW242, GE242, NB241_242, NB242_241⟩ := h_; clear hb hbox hg; have hnb12 := NB242_241.out; have hnc12 := NB241_242.out; obtain ⟨hcz13_0, hcz13_1, hcz13_2, hcz13_3, hfz13_0, hfz13_1, hfz13_2, hfz13_3⟩ := C4 BK242.out; obtain ⟨hcz14_0, hcz14_1, hcz14_2, hfz14_0, hfz14_1, hfz14_2⟩ := C3 BK241.out))
  repeat (go_quiet (fail); try go_wp2_with (first | ((with_reducible refine gate_dst (N := 2) rfl ?_); refine BE 2 #[.slice A0_0 l0_0.length c0_0, .slice A0_1 l0_1.length c0_1, .int .i64 a0_2] 31 ?_; intro gb241 hg w10 hbox hb; have h_ := P4 (below_step KB hb) hbox (KG hg : w.heap.size ≤ gb241) (KG hg : w.heap.size ≤ gb241); clear HB; obtain ⟨HB, BK241, GW241, GE241⟩ := h_; clear hb hbox hg) | ((with_reducible refine gate_dst (N := 3) rfl ?_); refine BE 3 #[.int .i64 a1_0, .int .i64 a1_1, .bool a1_2, .string a1_3] 35 ?_; intro gb242 hg w11 hbox hb; have h_ := P7 (BL BK241.out hb) (below_step KB hb) hbox (KG hg : w.heap.size ≤ gb242) (KG hg : w.heap.size ≤ gb242) (NX hg BK241.out) (Ne.symm (NX hg BK241.out)); clear BK241 HB; obtain ⟨BK241, HB, BK242, GW242, GE242, NB241_242, NB242_241⟩ := h_; clear hb hbox hg; have hnb12 := NB242_241.out; have hnc12 := NB241_242.out; obtain ⟨hcz13_0, hcz13_1, hcz13_2, hcz13_3, hfz13_0, hfz13_1, hfz13_2, hfz13_3⟩ := C4 BK242.out; obtain ⟨hcz14_0, hcz14_1, hcz14_2, hfz14_0, hfz14_1, hfz14_2⟩ := C3 BK241.out)))
  go_ret
  exact ⟨KE, KB⟩

/-! ### spec_StorePut: function 11 -/
def spec_StorePut.f (k : Nat) (l0_0 : List (S35)) (l0_1 : List (S35)) (a0_2 : Int) (a1_0 : Int) (a1_1 : Int) (a1_2 : Bool) (a1_3 : ByteArray) : Option ((List (S35)) × (List (S35)) × Int × Bool) := (spec_StoreOk.f k l0_0 l0_1 a0_2).bind fun t247 => (if t247 = true then ((spec_l6Copy.f l0_0 l0_1 a0_2).bind fun bt248 => ((spec_EntryOk.f a1_0 a1_1 a1_2 a1_3).bind fun t256 => (if t256 = true then ((spec_l6Takes.f l0_0 l0_1 a0_2 a1_0 a1_1 a1_2 a1_3).bind fun t257 => (if t257 = true then (if (l0_1.length : Int) = 20 then (some (bt248.1, bt248.2.1, bt248.2.2, false)) else (if bt248.2.1.length < 3518437208883 then (some (bt248.1, (bt248.2.1 ++ [(⟨a1_0, a1_1, a1_2, a1_3⟩ : S35)]), bt248.2.2, true)) else (none))) else (some (bt248.1, bt248.2.1, bt248.2.2, false)))) else (some (bt248.1, bt248.2.1, bt248.2.2, false))))) else (some (([] : List (S35)), ([] : List (S35)), 0, false)))
theorem spec_StorePut.mono : ∀ a0 a1 a2 a3 a4 a5 a6 k, LeO (spec_StorePut.f k a0 a1 a2 a3 a4 a5 a6) (spec_StorePut.f (k + 1) a0 a1 a2 a3 a4 a5 a6) := by
 intro a0 a1 a2 a3 a4 a5 a6 k
 unfold spec_StorePut.f
 repeat' first
   | (with_reducible exact spec_StoreOk.mono _ _ _ _)
   | (with_reducible exact LeO.refl _)
   | (with_reducible exact LeO.none _)
   | (with_reducible refine LeO.ite ?_ ?_)
   | (with_reducible refine LeO.bind ?_ (fun _ => ?_))
   | exact spec_StoreOk.mono _ _ _ _
   | exact LeO.none _
   | refine LeO.ite ?_ ?_
   | refine LeO.bind ?_ (fun _ => ?_)
set_option maxHeartbeats 8000000 in
set_option maxRecDepth 100000 in
theorem spec_StorePut.calls (k : Nat) (A0_0 : Option Addr) (c0_0 : Nat) (l0_0 : List (S35)) (A0_1 : Option Addr) (c0_1 : Nat) (l0_1 : List (S35)) (a0_2 : Int) (a1_0 : Int) (a1_1 : Int) (a1_2 : Bool) (a1_3 : ByteArray) (r1 : List (S35)) (r2 : List (S35)) (r3 : Int) (r4 : Bool) (w : World) (hr0_0 : Kd.C k35 w A0_0 l0_0.length l0_0) (hc0_0 : l0_0.length ≤ c0_0) (hr0_1 : Kd.C k35 w A0_1 l0_1.length l0_1) (hc0_1 : l0_1.length ≤ c0_1) (h : spec_StorePut.f k l0_0 l0_1 a0_2 a1_0 a1_1 a1_2 a1_3 = some (r1, r2, r3, r4)) :
  Calls Try.prog 11 #[.agg #[.slice A0_0 l0_0.length c0_0, .slice A0_1 l0_1.length c0_1, .int .i64 a0_2], .agg #[.int .i64 a1_0, .int .i64 a1_1, .bool a1_2, .string a1_3]] w fun e w' => ∃ v0_ v1_ : Value, e = .returned (.tuple #[.agg #[v0_, v1_, .int .i64 r3], .bool r4]) ∧ Kd.R k35 35 w' w.heap.size (fun k_ => some k_ ≠ (v1_ : Value).ownBlock) v0_ r1 ∧ Kd.R k35 35 w' w.heap.size (fun k_ => some k_ ≠ (v0_ : Value).ownBlock) v1_ r2 ∧ Below w.heap.size w w' := by
 have hu31 := Try.underlying31
 have hu35 := Try.underlying35
 have HR0_0 := Aside0.mk hr0_0
 have HC0_0 := Aside0.mk hc0_0
 clear hr0_0 hc0_0
 have HR0_1 := Aside0.mk hr0_1
 have HC0_1 := Aside0.mk hc0_1
 clear hr0_1 hc0_1
 have HB := Aside0.mk (Below.refl w.heap.size w)
 have H : ((spec_StoreOk.f k l0_0 l0_1 a0_2).bind fun t247 => (if t247 = true then ((spec_l6Copy.f l0_0 l0_1 a0_2).bind fun bt248 => ((spec_EntryOk.f a1_0 a1_1 a1_2 a1_3).bind fun t256 => (if t256 = true then ((spec_l6Takes.f l0_0 l0_1 a0_2 a1_0 a1_1 a1_2 a1_3).bind fun t257 => (if t257 = true then (if (l0_1.length : Int) = 20 then (some (bt248.1, bt248.2.1, bt248.2.2, false)) else (if bt248.2.1.length < 3518437208883 then (some (bt248.1, (bt248.2.1 ++ [(⟨a1_0, a1_1, a1_2, a1_3⟩ : S35)]), bt248.2.2, true)) else (none))) else (some (bt248.1, bt248.2.1, bt248.2.2, false)))) else (some (bt248.1, bt248.2.1, bt248.2.2, false))))) else (some (([] : List (S35)), ([] : List (S35)), 0, false)))) = some (r1, r2, r3, r4) := h
 clear h
 replace H := Option.bind_eq_some_iff.mp H
 obtain ⟨t247, A30, H⟩ := H
 replace H : (if t247 = true then ((spec_l6Copy.f l0_0 l0_1 a0_2).bind fun bt248 => ((spec_EntryOk.f a1_0 a1_1 a1_2 a1_3).bind fun t256 => (if t256 = true then ((spec_l6Takes.f l0_0 l0_1 a0_2 a1_0 a1_1 a1_2 a1_3).bind fun t257 => (if t257 = true then (if (l0_1.length : Int) = 20 then (some (bt248.1, bt248.2.1, bt248.2.2, false)) else (if bt248.2.1.length < 3518437208883 then (some (bt248.1, (bt248.2.1 ++ [(⟨a1_0, a1_1, a1_2, a1_3⟩ : S35)]), bt248.2.2, true)) else (none))) else (some (bt248.1, bt248.2.1, bt248.2.2, false)))) else (some (bt248.1, bt248.2.1, bt248.2.2, false))))) else (some (([] : List (S35)), ([] : List (S35)), 0, false))) = some (r1, r2, r3, r4) := H
 have A3 := Aside0.mk A30
 clear A30
 by_cases c4 : t247 = true
 ·subst c4
  have H1 : ((spec_l6Copy.f l0_0 l0_1 a0_2).bind fun bt248 => ((spec_EntryOk.f a1_0 a1_1 a1_2 a1_3).bind fun t256 => (if t256 = true then ((spec_l6Takes.f l0_0 l0_1 a0_2 a1_0 a1_1 a1_2 a1_3).bind fun t257 => (if t257 = true then (if (l0_1.length : Int) = 20 then (some (bt248.1, bt248.2.1, bt248.2.2, false)) else (if bt248.2.1.length < 3518437208883 then (some (bt248.1, (bt248.2.1 ++ [(⟨a1_0, a1_1, a1_2, a1_3⟩ : S35)]), bt248.2.2, true)) else (none))) else (some (bt248.1, bt248.2.1, bt248.2.2, false)))) else (some (bt248.1, bt248.2.1, bt248.2.2, false))))) = some (r1, r2, r3, r4) := by rw [if_pos rfl] at H; exact H
  clear H
  have H := H1
  clear H1
  replace H := Option.bind_eq_some_iff.mp H
  obtain ⟨⟨t248, t251, t254⟩, A50, H⟩ := H
  replace H : ((spec_EntryOk.f a1_0 a1_1 a1_2 a1_3).bind fun t256 => (if t256 = true then ((spec_l6Takes.f l0_0 l0_1 a0_2 a1_0 a1_1 a1_2 a1_3).bind fun t257 => (if t257 = true then (if (l0_1.length : Int) = 20 then (some (t248, t251, t254, false)) else (if t251.length < 3518437208883 then (some (t248, (t251 ++ [(⟨a1_0, a1_1, a1_2, a1_3⟩ : S35)]), t254, true)) else (none))) else (some (t248, t251, t254, false)))) else (some (t248, t251, t254, false)))) = some (r1, r2, r3, r4) := H
  have A5 := Aside0.mk A50
  clear A50
  replace H := Option.bind_eq_some_iff.mp H
  obtain ⟨t256, A60, H⟩ := H
  replace H : (if t256 = true then ((spec_l6Takes.f l0_0 l0_1 a0_2 a1_0 a1_1 a1_2 a1_3).bind fun t257 => (if t257 = true then (if (l0_1.length : Int) = 20 then (some (t248, t251, t254, false)) else (if t251.length < 3518437208883 then (some (t248, (t251 ++ [(⟨a1_0, a1_1, a1_2, a1_3⟩ : S35)]), t254, true)) else (none))) else (some (t248, t251, t254, false)))) else (some (t248, t251, t254, false))) = some (r1, r2, r3, r4) := H
  have A6 := Aside0.mk A60
  clear A60
  by_cases c7 : t256 = true
  ·subst c7
   have H1 : ((spec_l6Takes.f l0_0 l0_1 a0_2 a1_0 a1_1 a1_2 a1_3).bind fun t257 => (if t257 = true then (if (l0_1.length : Int) = 20 then (some (t248, t251, t254, false)) else (if t251.length < 3518437208883 then (some (t248, (t251 ++ [(⟨a1_0, a1_1, a1_2, a1_3⟩ : S35)]), t254, true)) else (none))) else (some (t248, t251, t254, false)))) = some (r1, r2, r3, r4) := by rw [if_pos rfl] at H; exact H
   clear H
   have H := H1
   clear H1
   replace H := Option.bind_eq_some_iff.mp H
   obtain ⟨t257, A80, H⟩ := H
   replace H : (if t257 = true then (if (l0_1.length : Int) = 20 then (some (t248, t251, t254, false)) else (if t251.length < 3518437208883 then (some (t248, (t251 ++ [(⟨a1_0, a1_1, a1_2, a1_3⟩ : S35)]), t254, true)) else (none))) else (some (t248, t251, t254, false))) = some (r1, r2, r3, r4) := H
   have A8 := Aside0.mk A80
   clear A80
   by_cases c9 : t257 = true
   ·subst c9
    have H1 : (if (l0_1.length : Int) = 20 then (some (t248, t251, t254, false)) else (if t251.length < 3518437208883 then (some (t248, (t251 ++ [(⟨a1_0, a1_1, a1_2, a1_3⟩ : S35)]), t254, true)) else (none))) = some (r1, r2, r3, r4) := by rw [if_pos rfl] at H; exact H
    clear H
    have H := H1
    clear H1
    by_cases c10 : (l0_1.length : Int) = 20
    ·rw [if_pos c10] at H
     have c10b0 : ((l0_1.length : Int) == 20) = true := beq_iff_eq.mpr c10
     have c10b1 : ((l0_1.length : Int) != 20) = false := bne_eq_false_iff_eq.mpr c10
     clear c10
     simp only [Option.some.injEq, Prod.mk.injEq] at H
     obtain ⟨rfl, rfl, rfl, rfl⟩ := H
     go_enter Try.func11, Try.ntmps11
     go_wp2_with (first | ((with_reducible refine gate_dst (N := 2) rfl ?_); (try (refine gate_guard (by rfl) ?_; dsimp only)); refine BE 2 #[.slice A0_0 l0_0.length c0_0, .slice A0_1 l0_1.length c0_1, .int .i64 a0_2] 31 ?_; intro gb244 hg w11 hbox hb; have h_ := P4 (below_step KB hb) hbox (KG hg : w.heap.size ≤ gb244) (KG hg : w.heap.size ≤ gb244); clear HB; obtain ⟨HB, BK244, GW244, GE244⟩ := h_; clear hb hbox hg) | ((with_reducible refine gate_dst (N := 3) rfl ?_); (try (refine gate_guard (by rfl) ?_; dsimp only)); refine BE 3 #[.int .i64 a1_0, .int .i64 a1_1, .bool a1_2, .string a1_3] 35 ?_; intro gb245 hg w12 hbox hb; have h_ := P7 (BL BK244.out hb) (below_step KB hb) hbox (KG hg : w.heap.size ≤ gb245) (KG hg : w.heap.size ≤ gb245) (NX hg BK244.out) (Ne.symm (NX hg BK244.out)); clear BK244 HB; obtain ⟨BK244, HB, BK245, GW245, GE245, NB244_245, NB245_244⟩ := h_; clear hb hbox hg) | ((with_reducible refine gate_dst (N := 4) rfl ?_); (try (refine gate_guard (by rfl) ?_; dsimp only)); refine BE 4 #[.slice none 0 0, .slice none 0 0, .int .i64 0] 31 ?_; intro gb246 hg w13 hbox hb; have h_ := P10 (BL BK244.out hb) (BL BK245.out hb) (below_step KB hb) hbox (KG hg : w.heap.size ≤ gb246) (KG hg : w.heap.size ≤ gb246) (NX hg BK244.out) (Ne.symm (NX hg BK244.out)) (NX hg BK245.out) (Ne.symm (NX hg BK245.out)); clear BK244 BK245 HB; obtain ⟨BK244, BK245, HB, BK246, GW246, GE246, NB244_246, NB246_244, NB245_246, NB246_245⟩ := h_; clear hb hbox hg; have hnb14 := NB244_245.out; have hnc14 := NB245_244.out; have hnb15 := NB244_246.out; have hnc15 := NB246_244.out; obtain ⟨hcz16_0, hcz16_1, hcz16_2, hfz16_0, hfz16_1, hfz16_2⟩ := C3 BK244.out) | ((with_reducible refine gate_callee (f := 34) rfl ?_); refine goesL_ (some 8) rfl rfl Try.func34 (by kernel_rfl) rfl #[.agg #[.slice A0_0 l0_0.length c0_0, .slice A0_1 l0_1.length c0_1, .int .i64 a0_2]] rfl KL ?_; (with_reducible refine (spec_StoreOk.calls k _ _ l0_0 _ _ l0_1 a0_2 true _ ?side1 ?side2 ?side3 ?side4 A3.out).mono ?_); (case side1 => exact KD (Kd.C_below HR0_0.out HB.out)); (case side2 => exact HC0_0.out); (case side3 => exact KD (Kd.C_below HR0_1.out HB.out)); (case side4 => exact HC0_1.out); rintro e w17 ⟨rfl, hb⟩; refine ⟨_, rfl, ?_⟩; have h_ := P4 (BL BK244.out hb) (BL BK245.out hb) (BL BK246.out hb) (below_step KB hb); clear BK244 BK245 BK246 HB; obtain ⟨BK244, BK245, BK246, HB⟩ := h_; (try clear hb); (try clear hk); (try clear hi); obtain ⟨hcz18_0, hcz18_1, hcz18_2, hfz18_0, hfz18_1, hfz18_2⟩ := C3 BK244.out) | ((with_reducible refine gate_callee (f := 41) rfl ?_); refine goesL_ (some 12) rfl rfl Try.func41 (by kernel_rfl) rfl #[.agg #[.slice A0_0 l0_0.length c0_0, .slice A0_1 l0_1.length c0_1, .int .i64 a0_2]] rfl KL ?_; (with_reducible refine (spec_l6Copy.calls _ _ l0_0 _ _ l0_1 a0_2 t248 t251 t254 _ ?side1 ?side2 ?side3 ?side4 A5.out).mono ?_); (case side1 => exact KD (Kd.C_below HR0_0.out HB.out)); (case side2 => exact HC0_0.out); (case side3 => exact KD (Kd.C_below HR0_1.out HB.out)); (case side4 => exact HC0_1.out); rintro e w19 ⟨v249, v252, rfl, ho0, ho1, hb⟩; refine ⟨_, rfl, ?_⟩; have h_ := P6 (Kd.R_lower (Kd.R_newB ho0 (g := gb245) (o := .cells #[.int .i64 a1_0, .int .i64 a1_1, .bool a1_2, .string a1_3] 35 (0, 0)) KK) (below_size KB)) (Kd.R_lower (Kd.R_newB ho1 (g := gb245) (o := .cells #[.int .i64 a1_0, .int .i64 a1_1, .bool a1_2, .string a1_3] 35 (0, 0)) KK) (below_size KB)) (BL BK244.out hb) (BL BK245.out hb) (BL BK246.out hb) (below_step KB hb); clear BK244 BK245 BK246 HB; obtain ⟨HO250, HO253, BK244, BK245, BK246, HB⟩ := h_; (try clear hb); (try clear hk); (try clear hi); (try clear ho0); (try clear ho1)) | ((with_reducible refine gate_dst (N := 6) rfl ?_); (try (refine gate_guard (by rfl) ?_; dsimp only)); refine BE 6 #[.slice none 0 0, .slice none 0 0, .int .i64 0] 31 ?_; intro gb255 hg w20 hbox hb; have h_ := P15 (Kd.R_below (KR HO250.out) hb) (Kd.R_below (KR HO253.out) hb) (BL BK244.out hb) (BL BK245.out hb) (BL BK246.out hb) (below_step KB hb) hbox (KG hg : w.heap.size ≤ gb255) (KG hg : w.heap.size ≤ gb255) (NX hg BK244.out) (Ne.symm (NX hg BK244.out)) (NX hg BK245.out) (Ne.symm (NX hg BK245.out)) (NX hg BK246.out) (Ne.symm (NX hg BK246.out)); clear HO250 HO253 BK244 BK245 BK246 HB; obtain ⟨HO250, HO253, BK244, BK245, BK246, HB, BK255, GW255, GE255, NB244_255, NB255_244, NB245_255, NB255_245, NB246_255, NB255_246⟩ := h_; clear hb hbox hg; obtain ⟨Ao21, co21, eo21⟩ := Kd.R_slice HO250.out; subst eo21; have hnb22 := NB255_244.out; have hnc22 := NB244_255.out; have hnb23 := NB255_245.out; have hnc23 := NB245_255.out; have hnb24 := NB255_246.out; have hnc24 := NB246_255.out; obtain ⟨hcz25_0, hcz25_1, hcz25_2, hfz25_0, hfz25_1, hfz25_2⟩ := C3 BK255.out; obtain ⟨Ao26, co26, eo26⟩ := Kd.R_slice HO253.out; subst eo26; have hnb27 := NB245_246.out; have hnc27 := NB246_245.out; obtain ⟨hcz28_0, hcz28_1, hcz28_2, hcz28_3, hfz28_0, hfz28_1, hfz28_2, hfz28_3⟩ := C4 BK245.out) | ((with_reducible refine gate_callee (f := 42) rfl ?_); refine goesL_ (some 14) rfl rfl Try.func42 (by kernel_rfl) rfl #[.agg #[.int .i64 a1_0, .int .i64 a1_1, .bool a1_2, .string a1_3]] rfl KL ?_; (with_reducible refine (spec_EntryOk.calls a1_0 a1_1 a1_2 a1_3 true _ A6.out).mono ?_); rintro e w29 ⟨rfl, hb⟩; refine ⟨_, rfl, ?_⟩; have h_ := P7 (Kd.R_below (RQ (RT HO250.out BK255.out)) hb) (Kd.R_below (RQ (RT HO253.out BK255.out)) hb) (BL BK244.out hb) (BL BK245.out hb) (BL BK246.out hb) (blk_below (g := gb255) (o := .cells #[.slice Ao21 t248.length co21, .slice Ao26 t251.length co26, .int .i64 t254] 31 (0, 0)) (by refine SK ?_; refine blk_put (cs := #[.slice Ao21 t248.length co21, .slice Ao26 t251.length co26, .int .i64 0]) ?_ 2 _ rfl; refine SK ?_; refine blk_put (cs := #[.slice Ao21 t248.length co21, .slice none 0 0, .int .i64 0]) ?_ 1 _ rfl; refine SK ?_; refine blk_put (cs := #[.slice none 0 0, .slice none 0 0, .int .i64 0]) ?_ 0 _ rfl; exact SK BK255.out) hb) (below_step KB hb); clear HO250 HO253 BK244 BK245 BK246 BK255 HB; obtain ⟨HO250, HO253, BK244, BK245, BK246, BK255, HB⟩ := h_; (try clear hb); (try clear hk); (try clear hi); obtain ⟨hcz30_0, hcz30_1, hcz30_2, hfz30_0, hfz30_1, hfz30_2⟩ := C3 BK244.out; obtain ⟨hcz31_0, hcz31_1, hcz31_2, hcz31_3, hfz31_0, hfz31_1, hfz31_2, hfz31_3⟩ := C4 BK245.out) | (go_at_call 43; (with_reducible refine (spec_l6Takes.calls _ _ l0_0 _ _ l0_1 a0_2 a1_0 a1_1 a1_2 a1_3 true _ ?side1 ?side2 ?side3 ?side4 A8.out).mono ?_); (case side1 => exact KD (Kd.C_below HR0_0.out HB.out)); (case side2 => exact HC0_0.out); (case side3 => exact KD (Kd.C_below HR0_1.out HB.out)); (case side4 => exact HC0_1.out); rintro e w32 ⟨rfl, hb⟩; have h_ := P7 (Kd.R_below (KR HO250.out) hb) (Kd.R_below (KR HO253.out) hb) (BL BK244.out hb) (BL BK245.out hb) (BL BK246.out hb) (BL BK255.out hb) (below_step KB hb); clear HO250 HO253 BK244 BK245 BK246 BK255 HB; obtain ⟨HO250, HO253, BK244, BK245, BK246, BK255, HB⟩ := h_; (try clear hb); (try clear hk); (try clear hi); obtain ⟨hcz33_0, hcz33_1, hcz33_2, hfz33_0, hfz33_1, hfz33_2⟩ := C3 BK244.out; obtain ⟨hcz34_0, hcz34_1, hcz34_2, hfz34_0, hfz34_1, hfz34_2⟩ := C3 BK255.out; obtain ⟨hcz35_0, hcz35_1, hcz35_2, hfz35_0, hfz35_1, hfz35_2⟩ := C3 BK246.out))
     refine bodyPost_ret (results_ct rfl _ _ gb246 31 #[.slice Ao21 t248.length co21, .slice Ao26 t251.length co26, .int .i64 t254] (0, 0) _ rfl (by refine SK ?_; refine blk_put (cs := #[.slice Ao21 t248.length co21, .slice Ao26 t251.length co26, .int .i64 0]) ?_ 2 _ rfl; refine SK ?_; refine blk_put (cs := #[.slice Ao21 t248.length co21, .slice none 0 0, .int .i64 0]) ?_ 1 _ rfl; refine SK ?_; refine blk_put (cs := #[.slice none 0 0, .slice none 0 0, .int .i64 0]) ?_ 0 _ rfl; exact SK BK246.out) Try.underlying31 rfl (by kernel_rfl)) rfl ?_
     exact ⟨_, _, KE, RQ (RT HO250.out BK246.out) (hm := fun _ h => h.1.1), RQ (RT HO253.out BK246.out) (hm := fun _ h => h.1.1), KB⟩
    ·rw [if_neg c10] at H
     have c10b0 : ((l0_1.length : Int) == 20) = false := beq_eq_false_iff_ne.mpr c10
     have c10b1 : ((l0_1.length : Int) != 20) = true := bne_iff_ne.mpr c10
     by_cases c36 : t251.length < 3518437208883
     ·rw [if_pos c36] at H
      have LMc36 := Aside0.mk c36
      clear c36
      obtain ⟨y258, hy258⟩ : ∃ y_ : List (S35), y_ = (t251 ++ [(⟨a1_0, a1_1, a1_2, a1_3⟩ : S35)]) := ⟨_, rfl⟩
      replace H : (some (t248, y258, t254, true)) = some (r1, r2, r3, r4) := by first | (rw [hy258]; with_reducible exact H) | (have H2_ := (Option.bind_some _ _).symm.trans H; rw [hy258]; with_reducible exact H2_) | (have H2_ := (Option.bind_some _ _).symm.trans H; with_reducible exact H2_) | with_reducible exact H | (rw [hy258]; exact H) | exact H
      have Ny258 := Aside0.mk hy258
      clear hy258
      simp only [Option.some.injEq, Prod.mk.injEq] at H
      obtain ⟨rfl, rfl, rfl, rfl⟩ := H
      go_enter Try.func11, Try.ntmps11
      go_wp2_with (first | ((with_reducible refine gate_dst (N := 2) rfl ?_); (try (refine gate_guard (by rfl) ?_; dsimp only)); refine BE 2 #[.slice A0_0 l0_0.length c0_0, .slice A0_1 l0_1.length c0_1, .int .i64 a0_2] 31 ?_; intro gb244 hg w37 hbox hb; have h_ := P4 (below_step KB hb) hbox (KG hg : w.heap.size ≤ gb244) (KG hg : w.heap.size ≤ gb244); clear HB; obtain ⟨HB, BK244, GW244, GE244⟩ := h_; clear hb hbox hg) | ((with_reducible refine gate_dst (N := 3) rfl ?_); (try (refine gate_guard (by rfl) ?_; dsimp only)); refine BE 3 #[.int .i64 a1_0, .int .i64 a1_1, .bool a1_2, .string a1_3] 35 ?_; intro gb245 hg w38 hbox hb; have h_ := P7 (BL BK244.out hb) (below_step KB hb) hbox (KG hg : w.heap.size ≤ gb245) (KG hg : w.heap.size ≤ gb245) (NX hg BK244.out) (Ne.symm (NX hg BK244.out)); clear BK244 HB; obtain ⟨BK244, HB, BK245, GW245, GE245, NB244_245, NB245_244⟩ := h_; clear hb hbox hg) | ((with_reducible refine gate_dst (N := 4) rfl ?_); (try (refine gate_guard (by rfl) ?_; dsimp only)); refine BE 4 #[.slice none 0 0, .slice none 0 0, .int .i64 0] 31 ?_; intro gb246 hg w39 hbox hb; have h_ := P10 (BL BK244.out hb) (BL BK245.out hb) (below_step KB hb) hbox (KG hg : w.heap.size ≤ gb246) (KG hg : w.heap.size ≤ gb246) (NX hg BK244.out) (Ne.symm (NX hg BK244.out)) (NX hg BK245.out) (Ne.symm (NX hg BK245.out)); clear BK244 BK245 HB; obtain ⟨BK244, BK245, HB, BK246, GW246, GE246, NB244_246, NB246_244, NB245_246, NB246_245⟩ := h_; clear hb hbox hg; have hnb40 := NB244_245.out; have hnc40 := NB245_244.out; have hnb41 := NB244_246.out; have hnc41 := NB246_244.out; obtain ⟨hcz42_0, hcz42_1, hcz42_2, hfz42_0, hfz42_1, hfz42_2⟩ := C3 BK244.out) | ((with_reducible refine gate_callee (f := 34) rfl ?_); refine goesL_ (some 8) rfl rfl Try.func34 (by kernel_rfl) rfl #[.agg #[.slice A0_0 l0_0.length c0_0, .slice A0_1 l0_1.length c0_1, .int .i64 a0_2]] rfl KL ?_; (with_reducible refine (spec_StoreOk.calls k _ _ l0_0 _ _ l0_1 a0_2 true _ ?side1 ?side2 ?side3 ?side4 A3.out).mono ?_); (case side1 => exact KD (Kd.C_below HR0_0.out HB.out)); (case side2 => exact HC0_0.out); (case side3 => exact KD (Kd.C_below HR0_1.out HB.out)); (case side4 => exact HC0_1.out); rintro e w43 ⟨rfl, hb⟩; refine ⟨_, rfl, ?_⟩; have h_ := P4 (BL BK244.out hb) (BL BK245.out hb) (BL BK246.out hb) (below_step KB hb); clear BK244 BK245 BK246 HB; obtain ⟨BK244, BK245, BK246, HB⟩ := h_; (try clear hb); (try clear hk); (try clear hi); obtain ⟨hcz44_0, hcz44_1, hcz44_2, hfz44_0, hfz44_1, hfz44_2⟩ := C3 BK244.out) | ((with_reducible refine gate_callee (f := 41) rfl ?_); refine goesL_ (some 12) rfl rfl Try.func41 (by kernel_rfl) rfl #[.agg #[.slice A0_0 l0_0.length c0_0, .slice A0_1 l0_1.length c0_1, .int .i64 a0_2]] rfl KL ?_; (with_reducible refine (spec_l6Copy.calls _ _ l0_0 _ _ l0_1 a0_2 t248 t251 t254 _ ?side1 ?side2 ?side3 ?side4 A5.out).mono ?_); (case side1 => exact KD (Kd.C_below HR0_0.out HB.out)); (case side2 => exact HC0_0.out); (case side3 => exact KD (Kd.C_below HR0_1.out HB.out)); (case side4 => exact HC0_1.out); rintro e w45 ⟨v249, v252, rfl, ho0, ho1, hb⟩; refine ⟨_, rfl, ?_⟩; have h_ := P6 (Kd.R_lower (Kd.R_newB ho0 (g := gb245) (o := .cells #[.int .i64 a1_0, .int .i64 a1_1, .bool a1_2, .string a1_3] 35 (0, 0)) KK) (below_size KB)) (Kd.R_lower (Kd.R_newB ho1 (g := gb245) (o := .cells #[.int .i64 a1_0, .int .i64 a1_1, .bool a1_2, .string a1_3] 35 (0, 0)) KK) (below_size KB)) (BL BK244.out hb) (BL BK245.out hb) (BL BK246.out hb) (below_step KB hb); clear BK244 BK245 BK246 HB; obtain ⟨HO250, HO253, BK244, BK245, BK246, HB⟩ := h_; (try clear hb); (try clear hk); (try clear hi); (try clear ho0); (try clear ho1)) | ((with_reducible refine gate_dst (N := 6) rfl ?_); (try (refine gate_guard (by rfl) ?_; dsimp only)); refine BE 6 #[.slice none 0 0, .slice none 0 0, .int .i64 0] 31 ?_; intro gb255 hg w46 hbox hb; have h_ := P15 (Kd.R_below (KR HO250.out) hb) (Kd.R_below (KR HO253.out) hb) (BL BK244.out hb) (BL BK245.out hb) (BL BK246.out hb) (below_step KB hb) hbox (KG hg : w.heap.size ≤ gb255) (KG hg : w.heap.size ≤ gb255) (NX hg BK244.out) (Ne.symm (NX hg BK244.out)) (NX hg BK245.out) (Ne.symm (NX hg BK245.out)) (NX hg BK246.out) (Ne.symm (NX hg BK246.out)); clear HO250 HO253 BK244 BK245 BK246 HB; obtain ⟨HO250, HO253, BK244, BK245, BK246, HB, BK255, GW255, GE255, NB244_255, NB255_244, NB245_255, NB255_245, NB246_255, NB255_246⟩ := h_; clear hb hbox hg; obtain ⟨Ao47, co47, eo47⟩ := Kd.R_slice HO250.out; subst eo47; have hnb48 := NB255_244.out; have hnc48 := NB244_255.out; have hnb49 := NB255_245.out; have hnc49 := NB245_255.out; have hnb50 := NB255_246.out; have hnc50 := NB246_255.out; obtain ⟨hcz51_0, hcz51_1, hcz51_2, hfz51_0, hfz51_1, hfz51_2⟩ := C3 BK255.out; obtain ⟨Ao52, co52, eo52⟩ := Kd.R_slice HO253.out; subst eo52; have hnb53 := NB245_246.out; have hnc53 := NB246_245.out; obtain ⟨hcz54_0, hcz54_1, hcz54_2, hcz54_3, hfz54_0, hfz54_1, hfz54_2, hfz54_3⟩ := C4 BK245.out) | ((with_reducible refine gate_callee (f := 42) rfl ?_); refine goesL_ (some 14) rfl rfl Try.func42 (by kernel_rfl) rfl #[.agg #[.int .i64 a1_0, .int .i64 a1_1, .bool a1_2, .string a1_3]] rfl KL ?_; (with_reducible refine (spec_EntryOk.calls a1_0 a1_1 a1_2 a1_3 true _ A6.out).mono ?_); rintro e w55 ⟨rfl, hb⟩; refine ⟨_, rfl, ?_⟩; have h_ := P7 (Kd.R_below (RQ (RT HO250.out BK255.out)) hb) (Kd.R_below (RQ (RT HO253.out BK255.out)) hb) (BL BK244.out hb) (BL BK245.out hb) (BL BK246.out hb) (blk_below (g := gb255) (o := .cells #[.slice Ao47 t248.length co47, .slice Ao52 t251.length co52, .int .i64 t254] 31 (0, 0)) (by refine SK ?_; refine blk_put (cs := #[.slice Ao47 t248.length co47, .slice Ao52 t251.length co52, .int .i64 0]) ?_ 2 _ rfl; refine SK ?_; refine blk_put (cs := #[.slice Ao47 t248.length co47, .slice none 0 0, .int .i64 0]) ?_ 1 _ rfl; refine SK ?_; refine blk_put (cs := #[.slice none 0 0, .slice none 0 0, .int .i64 0]) ?_ 0 _ rfl; exact SK BK255.out) hb) (below_step KB hb); clear HO250 HO253 BK244 BK245 BK246 BK255 HB; obtain ⟨HO250, HO253, BK244, BK245, BK246, BK255, HB⟩ := h_; (try clear hb); (try clear hk); (try clear hi); obtain ⟨hcz56_0, hcz56_1, hcz56_2, hfz56_0, hfz56_1, hfz56_2⟩ := C3 BK244.out; obtain ⟨hcz57_0, hcz57_1, hcz57_2, hcz57_3, hfz57_0, hfz57_1, hfz57_2, hfz57_3⟩ := C4 BK245.out) | (go_at_call 43; (with_reducible refine (spec_l6Takes.calls _ _ l0_0 _ _ l0_1 a0_2 a1_0 a1_1 a1_2 a1_3 true _ ?side1 ?side2 ?side3 ?side4 A8.out).mono ?_); (case side1 => exact KD (Kd.C_below HR0_0.out HB.out)); (case side2 => exact HC0_0.out); (case side3 => exact KD (Kd.C_below HR0_1.out HB.out)); (case side4 => exact HC0_1.out); rintro e w58 ⟨rfl, hb⟩; have h_ := P7 (Kd.R_below (KR HO250.out) hb) (Kd.R_below (KR HO253.out) hb) (BL BK244.out hb) (BL BK245.out hb) (BL BK246.out hb) (BL BK255.out hb) (below_step KB hb); clear HO250 HO253 BK244 BK245 BK246 BK255 HB; obtain ⟨HO250, HO253, BK244, BK245, BK246, BK255, HB⟩ := h_; (try clear hb); (try clear hk); (try clear hi); obtain ⟨hcz59_0, hcz59_1, hcz59_2, hfz59_0, hfz59_1, hfz59_2⟩ := C3 BK244.out; obtain ⟨hcz60_0, hcz60_1, hcz60_2, hfz60_0, hfz60_1, hfz60_2⟩ := C3 BK255.out; obtain ⟨hcz61_0, hcz61_1, hcz61_2, hcz61_3, hfz61_0, hfz61_1, hfz61_2, hfz61_3⟩ := C4 BK245.out) | ((with_reducible refine gate_builtin (b := .append) (xs := #[.tmp 30, .tmp 32]) rfl ?_); (try (refine gate_guard (by rfl) ?_; dsimp only)); at_builtin; refine Kd.R_append k35 (w0 := w) w.heap.size rfl (.tmp 30) (.tmp 32) 29 35 (.agg #[(.int .i64 0), (.int .i64 0), (.bool false), (.string ⟨#[]⟩)]) 40 rfl Try.underlying29 info35 rfl (by decide) (by omega) (.slice Ao52 t251.length co52) t251 (⟨a1_0, a1_1, a1_2, a1_3⟩ : S35) [.int .i64 a1_0, .int .i64 a1_1, .bool a1_2, .string a1_3] (fun k_ => some k_ ≠ (.slice Ao47 t248.length co47 : Value).ownBlock ∧ k_ ≠ gb245) (fun _ => False) rfl rfl ?aP (fun _ hk => hk.elim) ?aF ?aO ?aB ?aS ?aL ?_; (case aP => exact k35_mkM _ _ _ (⟨a1_0, a1_1, a1_2, a1_3⟩ : S35)); (case aB => exact KB); (case aF => exact (fun k_ hk => ⟨Kd.fresh' (Kd.R_lt (KR HO250.out)) k_ hk, Kd.freshB (g := gb245) (o := .cells #[.int .i64 a1_0, .int .i64 a1_1, .bool a1_2, .string a1_3] 35 (0, 0)) KK k_ hk⟩)); (case aO => exact (KR HO253.out)); (case aS => exact (below_size KB)); (case aL => have := LMc36.out; omega); intro v259 w62 ho hb hg hat; rw [← Ny258.out] at ho; have h_ := P7 (BW BK244.out hg (Kd.R_ne HO253.out BK244.out (by decide))) (BW BK245.out hg (Kd.R_away HO253.out (fun _ hk => hk.2))) (BW BK246.out hg (Kd.R_ne HO253.out BK246.out (by decide))) (Kd.R_after (ok := (fun k_ => k_ ≠ gb245)) (by (with_reducible repeat (first | apply Kd.R_alloc | apply Kd.R_drewN | apply Kd.R_drew)); exact Kd.R_mono HO250.out (fun _ hk => ⟨hk.2, hk.1⟩)) hg hat) (BW BK255.out hg (Kd.R_ne HO253.out BK255.out (by decide))) hb ho; clear BK244 BK245 BK246 HO250 BK255 HB HO253; obtain ⟨BK244, BK245, BK246, HO250, BK255, HB, HO260⟩ := h_; clear ho hb hg hat; obtain ⟨Ao63, co63, eo63⟩ := Kd.R_slice HO260.out; subst eo63; obtain ⟨hcz64_0, hcz64_1, hcz64_2, hfz64_0, hfz64_1, hfz64_2⟩ := C3 BK255.out; obtain ⟨hcz65_0, hcz65_1, hcz65_2, hfz65_0, hfz65_1, hfz65_2⟩ := C3 BK246.out))
      refine bodyPost_ret (results_ct rfl _ _ gb246 31 #[.slice Ao47 t248.length co47, .slice Ao63 y258.length co63, .int .i64 t254] (0, 0) _ rfl (by refine SK ?_; refine blk_put (cs := #[.slice Ao47 t248.length co47, .slice Ao63 y258.length co63, .int .i64 0]) ?_ 2 _ rfl; refine SK ?_; refine blk_put (cs := #[.slice Ao47 t248.length co47, .slice none 0 0, .int .i64 0]) ?_ 1 _ rfl; refine SK ?_; refine blk_put (cs := #[.slice none 0 0, .slice none 0 0, .int .i64 0]) ?_ 0 _ rfl; refine SK ?_; refine blk_far ?_ NB246_255.out _; exact SK BK246.out) Try.underlying31 rfl (by kernel_rfl)) rfl ?_
      exact ⟨_, _, KE, RQ (RT (RT HO250.out BK255.out) BK246.out) (hm := fun _ h => h.1.1.2), RQ (RT (RT HO260.out BK255.out) BK246.out) (hm := fun _ h => h.1.1.1), KB⟩
     ·rw [if_neg c36] at H
      exact absurd H (by simp)
   ·replace c9 := Bool.eq_false_iff.mpr c9
    subst c9
    have H1 : (some (t248, t251, t254, false)) = some (r1, r2, r3, r4) := by rw [if_neg (show ¬ (false = true) by decide)] at H; exact H
    clear H
    have H := H1
    clear H1
    simp only [Option.some.injEq, Prod.mk.injEq] at H
    obtain ⟨rfl, rfl, rfl, rfl⟩ := H
    go_enter Try.func11, Try.ntmps11
    go_wp2_with (first | ((with_reducible refine gate_dst (N := 2) rfl ?_); (try (refine gate_guard (by rfl) ?_; dsimp only)); refine BE 2 #[.slice A0_0 l0_0.length c0_0, .slice A0_1 l0_1.length c0_1, .int .i64 a0_2] 31 ?_; intro gb244 hg w66 hbox hb; have h_ := P4 (below_step KB hb) hbox (KG hg : w.heap.size ≤ gb244) (KG hg : w.heap.size ≤ gb244); clear HB; obtain ⟨HB, BK244, GW244, GE244⟩ := h_; clear hb hbox hg) | ((with_reducible refine gate_dst (N := 3) rfl ?_); (try (refine gate_guard (by rfl) ?_; dsimp only)); refine BE 3 #[.int .i64 a1_0, .int .i64 a1_1, .bool a1_2, .string a1_3] 35 ?_; intro gb245 hg w67 hbox hb; have h_ := P7 (BL BK244.out hb) (below_step KB hb) hbox (KG hg : w.heap.size ≤ gb245) (KG hg : w.heap.size ≤ gb245) (NX hg BK244.out) (Ne.symm (NX hg BK244.out)); clear BK244 HB; obtain ⟨BK244, HB, BK245, GW245, GE245, NB244_245, NB245_244⟩ := h_; clear hb hbox hg) | ((with_reducible refine gate_dst (N := 4) rfl ?_); (try (refine gate_guard (by rfl) ?_; dsimp only)); refine BE 4 #[.slice none 0 0, .slice none 0 0, .int .i64 0] 31 ?_; intro gb246 hg w68 hbox hb; have h_ := P10 (BL BK244.out hb) (BL BK245.out hb) (below_step KB hb) hbox (KG hg : w.heap.size ≤ gb246) (KG hg : w.heap.size ≤ gb246) (NX hg BK244.out) (Ne.symm (NX hg BK244.out)) (NX hg BK245.out) (Ne.symm (NX hg BK245.out)); clear BK244 BK245 HB; obtain ⟨BK244, BK245, HB, BK246, GW246, GE246, NB244_246, NB246_244, NB245_246, NB246_245⟩ := h_; clear hb hbox hg; have hnb69 := NB244_245.out; have hnc69 := NB245_244.out; have hnb70 := NB244_246.out; have hnc70 := NB246_244.out; obtain ⟨hcz71_0, hcz71_1, hcz71_2, hfz71_0, hfz71_1, hfz71_2⟩ := C3 BK244.out) | ((with_reducible refine gate_callee (f := 34) rfl ?_); refine goesL_ (some 8) rfl rfl Try.func34 (by kernel_rfl) rfl #[.agg #[.slice A0_0 l0_0.length c0_0, .slice A0_1 l0_1.length c0_1, .int .i64 a0_2]] rfl KL ?_; (with_reducible refine (spec_StoreOk.calls k _ _ l0_0 _ _ l0_1 a0_2 true _ ?side1 ?side2 ?side3 ?side4 A3.out).mono ?_); (case side1 => exact KD (Kd.C_below HR0_0.out HB.out)); (case side2 => exact HC0_0.out); (case side3 => exact KD (Kd.C_below HR0_1.out HB.out)); (case side4 => exact HC0_1.out); rintro e w72 ⟨rfl, hb⟩; refine ⟨_, rfl, ?_⟩; have h_ := P4 (BL BK244.out hb) (BL BK245.out hb) (BL BK246.out hb) (below_step KB hb); clear BK244 BK245 BK246 HB; obtain ⟨BK244, BK245, BK246, HB⟩ := h_; (try clear hb); (try clear hk); (try clear hi); obtain ⟨hcz73_0, hcz73_1, hcz73_2, hfz73_0, hfz73_1, hfz73_2⟩ := C3 BK244.out) | ((with_reducible refine gate_callee (f := 41) rfl ?_); refine goesL_ (some 12) rfl rfl Try.func41 (by kernel_rfl) rfl #[.agg #[.slice A0_0 l0_0.length c0_0, .slice A0_1 l0_1.length c0_1, .int .i64 a0_2]] rfl KL ?_; (with_reducible refine (spec_l6Copy.calls _ _ l0_0 _ _ l0_1 a0_2 t248 t251 t254 _ ?side1 ?side2 ?side3 ?side4 A5.out).mono ?_); (case side1 => exact KD (Kd.C_below HR0_0.out HB.out)); (case side2 => exact HC0_0.out); (case side3 => exact KD (Kd.C_below HR0_1.out HB.out)); (case side4 => exact HC0_1.out); rintro e w74 ⟨v249, v252, rfl, ho0, ho1, hb⟩; refine ⟨_, rfl, ?_⟩; have h_ := P6 (Kd.R_lower (Kd.R_newB ho0 (g := gb245) (o := .cells #[.int .i64 a1_0, .int .i64 a1_1, .bool a1_2, .string a1_3] 35 (0, 0)) KK) (below_size KB)) (Kd.R_lower (Kd.R_newB ho1 (g := gb245) (o := .cells #[.int .i64 a1_0, .int .i64 a1_1, .bool a1_2, .string a1_3] 35 (0, 0)) KK) (below_size KB)) (BL BK244.out hb) (BL BK245.out hb) (BL BK246.out hb) (below_step KB hb); clear BK244 BK245 BK246 HB; obtain ⟨HO250, HO253, BK244, BK245, BK246, HB⟩ := h_; (try clear hb); (try clear hk); (try clear hi); (try clear ho0); (try clear ho1)) | ((with_reducible refine gate_dst (N := 6) rfl ?_); (try (refine gate_guard (by rfl) ?_; dsimp only)); refine BE 6 #[.slice none 0 0, .slice none 0 0, .int .i64 0] 31 ?_; intro gb255 hg w75 hbox hb; have h_ := P15 (Kd.R_below (KR HO250.out) hb) (Kd.R_below (KR HO253.out) hb) (BL BK244.out hb) (BL BK245.out hb) (BL BK246.out hb) (below_step KB hb) hbox (KG hg : w.heap.size ≤ gb255) (KG hg : w.heap.size ≤ gb255) (NX hg BK244.out) (Ne.symm (NX hg BK244.out)) (NX hg BK245.out) (Ne.symm (NX hg BK245.out)) (NX hg BK246.out) (Ne.symm (NX hg BK246.out)); clear HO250 HO253 BK244 BK245 BK246 HB; obtain ⟨HO250, HO253, BK244, BK245, BK246, HB, BK255, GW255, GE255, NB244_255, NB255_244, NB245_255, NB255_245, NB246_255, NB255_246⟩ := h_; clear hb hbox hg; obtain ⟨Ao76, co76, eo76⟩ := Kd.R_slice HO250.out; subst eo76; have hnb77 := NB255_244.out; have hnc77 := NB244_255.out; have hnb78 := NB255_245.out; have hnc78 := NB245_255.out; have hnb79 := NB255_246.out; have hnc79 := NB246_255.out; obtain ⟨hcz80_0, hcz80_1, hcz80_2, hfz80_0, hfz80_1, hfz80_2⟩ := C3 BK255.out; obtain ⟨Ao81, co81, eo81⟩ := Kd.R_slice HO253.out; subst eo81; have hnb82 := NB245_246.out; have hnc82 := NB246_245.out; obtain ⟨hcz83_0, hcz83_1, hcz83_2, hcz83_3, hfz83_0, hfz83_1, hfz83_2, hfz83_3⟩ := C4 BK245.out) | ((with_reducible refine gate_callee (f := 42) rfl ?_); refine goesL_ (some 14) rfl rfl Try.func42 (by kernel_rfl) rfl #[.agg #[.int .i64 a1_0, .int .i64 a1_1, .bool a1_2, .string a1_3]] rfl KL ?_; (with_reducible refine (spec_EntryOk.calls a1_0 a1_1 a1_2 a1_3 true _ A6.out).mono ?_); rintro e w84 ⟨rfl, hb⟩; refine ⟨_, rfl, ?_⟩; have h_ := P7 (Kd.R_below (RQ (RT HO250.out BK255.out)) hb) (Kd.R_below (RQ (RT HO253.out BK255.out)) hb) (BL BK244.out hb) (BL BK245.out hb) (BL BK246.out hb) (blk_below (g := gb255) (o := .cells #[.slice Ao76 t248.length co76, .slice Ao81 t251.length co81, .int .i64 t254] 31 (0, 0)) (by refine SK ?_; refine blk_put (cs := #[.slice Ao76 t248.length co76, .slice Ao81 t251.length co81, .int .i64 0]) ?_ 2 _ rfl; refine SK ?_; refine blk_put (cs := #[.slice Ao76 t248.length co76, .slice none 0 0, .int .i64 0]) ?_ 1 _ rfl; refine SK ?_; refine blk_put (cs := #[.slice none 0 0, .slice none 0 0, .int .i64 0]) ?_ 0 _ rfl; exact SK BK255.out) hb) (below_step KB hb); clear HO250 HO253 BK244 BK245 BK246 BK255 HB; obtain ⟨HO250, HO253, BK244, BK245, BK246, BK255, HB⟩ := h_; (try clear hb); (try clear hk); (try clear hi); obtain ⟨hcz85_0, hcz85_1, hcz85_2, hfz85_0, hfz85_1, hfz85_2⟩ := C3 BK244.out; obtain ⟨hcz86_0, hcz86_1, hcz86_2, hcz86_3, hfz86_0, hfz86_1, hfz86_2, hfz86_3⟩ := C4 BK245.out) | (go_at_call 43; (with_reducible refine (spec_l6Takes.calls _ _ l0_0 _ _ l0_1 a0_2 a1_0 a1_1 a1_2 a1_3 false _ ?side1 ?side2 ?side3 ?side4 A8.out).mono ?_); (case side1 => exact KD (Kd.C_below HR0_0.out HB.out)); (case side2 => exact HC0_0.out); (case side3 => exact KD (Kd.C_below HR0_1.out HB.out)); (case side4 => exact HC0_1.out); rintro e w87 ⟨rfl, hb⟩; have h_ := P7 (Kd.R_below (KR HO250.out) hb) (Kd.R_below (KR HO253.out) hb) (BL BK244.out hb) (BL BK245.out hb) (BL BK246.out hb) (BL BK255.out hb) (below_step KB hb); clear HO250 HO253 BK244 BK245 BK246 BK255 HB; obtain ⟨HO250, HO253, BK244, BK245, BK246, BK255, HB⟩ := h_; (try clear hb); (try clear hk); (try clear hi); obtain ⟨hcz88_0, hcz88_1, hcz88_2, hfz88_0, hfz88_1, hfz88_2⟩ := C3 BK255.out; obtain ⟨hcz89_0, hcz89_1, hcz89_2, hfz89_0, hfz89_1, hfz89_2⟩ := C3 BK246.out))
    refine bodyPost_ret (results_ct rfl _ _ gb246 31 #[.slice Ao76 t248.length co76, .slice Ao81 t251.length co81, .int .i64 t254] (0, 0) _ rfl (by refine SK ?_; refine blk_put (cs := #[.slice Ao76 t248.length co76, .slice Ao81 t251.length co81, .int .i64 0]) ?_ 2 _ rfl; refine SK ?_; refine blk_put (cs := #[.slice Ao76 t248.length co76, .slice none 0 0, .int .i64 0]) ?_ 1 _ rfl; refine SK ?_; refine blk_put (cs := #[.slice none 0 0, .slice none 0 0, .int .i64 0]) ?_ 0 _ rfl; exact SK BK246.out) Try.underlying31 rfl (by kernel_rfl)) rfl ?_
    exact ⟨_, _, KE, RQ (RT HO250.out BK246.out) (hm := fun _ h => h.1.1), RQ (RT HO253.out BK246.out) (hm := fun _ h => h.1.1), KB⟩
  ·replace c7 := Bool.eq_false_iff.mpr c7
   subst c7
   have H1 : (some (t248, t251, t254, false)) = some (r1, r2, r3, r4) := by rw [if_neg (show ¬ (false = true) by decide)] at H; exact H
   clear H
   have H := H1
   clear H1
   simp only [Option.some.injEq, Prod.mk.injEq] at H
   obtain ⟨rfl, rfl, rfl, rfl⟩ := H
   go_enter Try.func11, Try.ntmps11
   go_wp2_with (first | ((with_reducible refine gate_dst (N := 2) rfl ?_); (try (refine gate_guard (by rfl) ?_; dsimp only)); refine BE 2 #[.slice A0_0 l0_0.length c0_0, .slice A0_1 l0_1.length c0_1, .int .i64 a0_2] 31 ?_; intro gb244 hg w90 hbox hb; have h_ := P4 (below_step KB hb) hbox (KG hg : w.heap.size ≤ gb244) (KG hg : w.heap.size ≤ gb244); clear HB; obtain ⟨HB, BK244, GW244, GE244⟩ := h_; clear hb hbox hg) | ((with_reducible refine gate_dst (N := 3) rfl ?_); (try (refine gate_guard (by rfl) ?_; dsimp only)); refine BE 3 #[.int .i64 a1_0, .int .i64 a1_1, .bool a1_2, .string a1_3] 35 ?_; intro gb245 hg w91 hbox hb; have h_ := P7 (BL BK244.out hb) (below_step KB hb) hbox (KG hg : w.heap.size ≤ gb245) (KG hg : w.heap.size ≤ gb245) (NX hg BK244.out) (Ne.symm (NX hg BK244.out)); clear BK244 HB; obtain ⟨BK244, HB, BK245, GW245, GE245, NB244_245, NB245_244⟩ := h_; clear hb hbox hg) | ((with_reducible refine gate_dst (N := 4) rfl ?_); (try (refine gate_guard (by rfl) ?_; dsimp only)); refine BE 4 #[.slice none 0 0, .slice none 0 0, .int .i64 0] 31 ?_; intro gb246 hg w92 hbox hb; have h_ := P10 (BL BK244.out hb) (BL BK245.out hb) (below_step KB hb) hbox (KG hg : w.heap.size ≤ gb246) (KG hg : w.heap.size ≤ gb246) (NX hg BK244.out) (Ne.symm (NX hg BK244.out)) (NX hg BK245.out) (Ne.symm (NX hg BK245.out)); clear BK244 BK245 HB; obtain ⟨BK244, BK245, HB, BK246, GW246, GE246, NB244_246, NB246_244, NB245_246, NB246_245⟩ := h_; clear hb hbox hg; have hnb93 := NB244_245.out; have hnc93 := NB245_244.out; have hnb94 := NB244_246.out; have hnc94 := NB246_244.out; obtain ⟨hcz95_0, hcz95_1, hcz95_2, hfz95_0, hfz95_1, hfz95_2⟩ := C3 BK244.out) | ((with_reducible refine gate_callee (f := 34) rfl ?_); refine goesL_ (some 8) rfl rfl Try.func34 (by kernel_rfl) rfl #[.agg #[.slice A0_0 l0_0.length c0_0, .slice A0_1 l0_1.length c0_1, .int .i64 a0_2]] rfl KL ?_; (with_reducible refine (spec_StoreOk.calls k _ _ l0_0 _ _ l0_1 a0_2 true _ ?side1 ?side2 ?side3 ?side4 A3.out).mono ?_); (case side1 => exact KD (Kd.C_below HR0_0.out HB.out)); (case side2 => exact HC0_0.out); (case side3 => exact KD (Kd.C_below HR0_1.out HB.out)); (case side4 => exact HC0_1.out); rintro e w96 ⟨rfl, hb⟩; refine ⟨_, rfl, ?_⟩; have h_ := P4 (BL BK244.out hb) (BL BK245.out hb) (BL BK246.out hb) (below_step KB hb); clear BK244 BK245 BK246 HB; obtain ⟨BK244, BK245, BK246, HB⟩ := h_; (try clear hb); (try clear hk); (try clear hi); obtain ⟨hcz97_0, hcz97_1, hcz97_2, hfz97_0, hfz97_1, hfz97_2⟩ := C3 BK244.out) | ((with_reducible refine gate_callee (f := 41) rfl ?_); refine goesL_ (some 12) rfl rfl Try.func41 (by kernel_rfl) rfl #[.agg #[.slice A0_0 l0_0.length c0_0, .slice A0_1 l0_1.length c0_1, .int .i64 a0_2]] rfl KL ?_; (with_reducible refine (spec_l6Copy.calls _ _ l0_0 _ _ l0_1 a0_2 t248 t251 t254 _ ?side1 ?side2 ?side3 ?side4 A5.out).mono ?_); (case side1 => exact KD (Kd.C_below HR0_0.out HB.out)); (case side2 => exact HC0_0.out); (case side3 => exact KD (Kd.C_below HR0_1.out HB.out)); (case side4 => exact HC0_1.out); rintro e w98 ⟨v249, v252, rfl, ho0, ho1, hb⟩; refine ⟨_, rfl, ?_⟩; have h_ := P6 (Kd.R_lower (Kd.R_newB ho0 (g := gb245) (o := .cells #[.int .i64 a1_0, .int .i64 a1_1, .bool a1_2, .string a1_3] 35 (0, 0)) KK) (below_size KB)) (Kd.R_lower (Kd.R_newB ho1 (g := gb245) (o := .cells #[.int .i64 a1_0, .int .i64 a1_1, .bool a1_2, .string a1_3] 35 (0, 0)) KK) (below_size KB)) (BL BK244.out hb) (BL BK245.out hb) (BL BK246.out hb) (below_step KB hb); clear BK244 BK245 BK246 HB; obtain ⟨HO250, HO253, BK244, BK245, BK246, HB⟩ := h_; (try clear hb); (try clear hk); (try clear hi); (try clear ho0); (try clear ho1)) | ((with_reducible refine gate_dst (N := 6) rfl ?_); (try (refine gate_guard (by rfl) ?_; dsimp only)); refine BE 6 #[.slice none 0 0, .slice none 0 0, .int .i64 0] 31 ?_; intro gb255 hg w99 hbox hb; have h_ := P15 (Kd.R_below (KR HO250.out) hb) (Kd.R_below (KR HO253.out) hb) (BL BK244.out hb) (BL BK245.out hb) (BL BK246.out hb) (below_step KB hb) hbox (KG hg : w.heap.size ≤ gb255) (KG hg : w.heap.size ≤ gb255) (NX hg BK244.out) (Ne.symm (NX hg BK244.out)) (NX hg BK245.out) (Ne.symm (NX hg BK245.out)) (NX hg BK246.out) (Ne.symm (NX hg BK246.out)); clear HO250 HO253 BK244 BK245 BK246 HB; obtain ⟨HO250, HO253, BK244, BK245, BK246, HB, BK255, GW255, GE255, NB244_255, NB255_244, NB245_255, NB255_245, NB246_255, NB255_246⟩ := h_; clear hb hbox hg; obtain ⟨Ao100, co100, eo100⟩ := Kd.R_slice HO250.out; subst eo100; have hnb101 := NB255_244.out; have hnc101 := NB244_255.out; have hnb102 := NB255_245.out; have hnc102 := NB245_255.out; have hnb103 := NB255_246.out; have hnc103 := NB246_255.out; obtain ⟨hcz104_0, hcz104_1, hcz104_2, hfz104_0, hfz104_1, hfz104_2⟩ := C3 BK255.out; obtain ⟨Ao105, co105, eo105⟩ := Kd.R_slice HO253.out; subst eo105; have hnb106 := NB245_246.out; have hnc106 := NB246_245.out; obtain ⟨hcz107_0, hcz107_1, hcz107_2, hcz107_3, hfz107_0, hfz107_1, hfz107_2, hfz107_3⟩ := C4 BK245.out) | ((with_reducible refine gate_callee (f := 42) rfl ?_); refine goesL_ (some 14) rfl rfl Try.func42 (by kernel_rfl) rfl #[.agg #[.int .i64 a1_0, .int .i64 a1_1, .bool a1_2, .string a1_3]] rfl KL ?_; (with_reducible refine (spec_EntryOk.calls a1_0 a1_1 a1_2 a1_3 false _ A6.out).mono ?_); rintro e w108 ⟨rfl, hb⟩; refine ⟨_, rfl, ?_⟩; have h_ := P7 (Kd.R_below (RQ (RT HO250.out BK255.out)) hb) (Kd.R_below (RQ (RT HO253.out BK255.out)) hb) (BL BK244.out hb) (BL BK245.out hb) (BL BK246.out hb) (blk_below (g := gb255) (o := .cells #[.slice Ao100 t248.length co100, .slice Ao105 t251.length co105, .int .i64 t254] 31 (0, 0)) (by refine SK ?_; refine blk_put (cs := #[.slice Ao100 t248.length co100, .slice Ao105 t251.length co105, .int .i64 0]) ?_ 2 _ rfl; refine SK ?_; refine blk_put (cs := #[.slice Ao100 t248.length co100, .slice none 0 0, .int .i64 0]) ?_ 1 _ rfl; refine SK ?_; refine blk_put (cs := #[.slice none 0 0, .slice none 0 0, .int .i64 0]) ?_ 0 _ rfl; exact SK BK255.out) hb) (below_step KB hb); clear HO250 HO253 BK244 BK245 BK246 BK255 HB; obtain ⟨HO250, HO253, BK244, BK245, BK246, BK255, HB⟩ := h_; (try clear hb); (try clear hk); (try clear hi); obtain ⟨hcz109_0, hcz109_1, hcz109_2, hfz109_0, hfz109_1, hfz109_2⟩ := C3 BK255.out; obtain ⟨hcz110_0, hcz110_1, hcz110_2, hfz110_0, hfz110_1, hfz110_2⟩ := C3 BK246.out))
   refine bodyPost_ret (results_ct rfl _ _ gb246 31 #[.slice Ao100 t248.length co100, .slice Ao105 t251.length co105, .int .i64 t254] (0, 0) _ rfl (by refine SK ?_; refine blk_put (cs := #[.slice Ao100 t248.length co100, .slice Ao105 t251.length co105, .int .i64 0]) ?_ 2 _ rfl; refine SK ?_; refine blk_put (cs := #[.slice Ao100 t248.length co100, .slice none 0 0, .int .i64 0]) ?_ 1 _ rfl; refine SK ?_; refine blk_put (cs := #[.slice none 0 0, .slice none 0 0, .int .i64 0]) ?_ 0 _ rfl; exact SK BK246.out) Try.underlying31 rfl (by kernel_rfl)) rfl ?_
   exact ⟨_, _, KE, RQ (RT HO250.out BK246.out) (hm := fun _ h => h.1.1), RQ (RT HO253.out BK246.out) (hm := fun _ h => h.1.1), KB⟩
 ·replace c4 := Bool.eq_false_iff.mpr c4
  subst c4
  have H1 : (some (([] : List (S35)), ([] : List (S35)), 0, false)) = some (r1, r2, r3, r4) := by rw [if_neg (show ¬ (false = true) by decide)] at H; exact H
  clear H
  have H := H1
  clear H1
  simp only [Option.some.injEq, Prod.mk.injEq] at H
  obtain ⟨rfl, rfl, rfl, rfl⟩ := H
  go_enter Try.func11, Try.ntmps11
  go_wp2_with (first | ((with_reducible refine gate_dst (N := 2) rfl ?_); (try (refine gate_guard (by rfl) ?_; dsimp only)); refine BE 2 #[.slice A0_0 l0_0.length c0_0, .slice A0_1 l0_1.length c0_1, .int .i64 a0_2] 31 ?_; intro gb244 hg w111 hbox hb; have h_ := P4 (below_step KB hb) hbox (KG hg : w.heap.size ≤ gb244) (KG hg : w.heap.size ≤ gb244); clear HB; obtain ⟨HB, BK244, GW244, GE244⟩ := h_; clear hb hbox hg) | ((with_reducible refine gate_dst (N := 3) rfl ?_); (try (refine gate_guard (by rfl) ?_; dsimp only)); refine BE 3 #[.int .i64 a1_0, .int .i64 a1_1, .bool a1_2, .string a1_3] 35 ?_; intro gb245 hg w112 hbox hb; have h_ := P7 (BL BK244.out hb) (below_step KB hb) hbox (KG hg : w.heap.size ≤ gb245) (KG hg : w.heap.size ≤ gb245) (NX hg BK244.out) (Ne.symm (NX hg BK244.out)); clear BK244 HB; obtain ⟨BK244, HB, BK245, GW245, GE245, NB244_245, NB245_244⟩ := h_; clear hb hbox hg) | ((with_reducible refine gate_dst (N := 4) rfl ?_); (try (refine gate_guard (by rfl) ?_; dsimp only)); refine BE 4 #[.slice none 0 0, .slice none 0 0, .int .i64 0] 31 ?_; intro gb246 hg w113 hbox hb; have h_ := P10 (BL BK244.out hb) (BL BK245.out hb) (below_step KB hb) hbox (KG hg : w.heap.size ≤ gb246) (KG hg : w.heap.size ≤ gb246) (NX hg BK244.out) (Ne.symm (NX hg BK244.out)) (NX hg BK245.out) (Ne.symm (NX hg BK245.out)); clear BK244 BK245 HB; obtain ⟨BK244, BK245, HB, BK246, GW246, GE246, NB244_246, NB246_244, NB245_246, NB246_245⟩ := h_; clear hb hbox hg; have hnb114 := NB244_245.out; have hnc114 := NB245_244.out; have hnb115 := NB244_246.out; have hnc115 := NB246_244.out; obtain ⟨hcz116_0, hcz116_1, hcz116_2, hfz116_0, hfz116_1, hfz116_2⟩ := C3 BK244.out) | ((with_reducible refine gate_callee (f := 34) rfl ?_); refine goesL_ (some 8) rfl rfl Try.func34 (by kernel_rfl) rfl #[.agg #[.slice A0_0 l0_0.length c0_0, .slice A0_1 l0_1.length c0_1, .int .i64 a0_2]] rfl KL ?_; (with_reducible refine (spec_StoreOk.calls k _ _ l0_0 _ _ l0_1 a0_2 false _ ?side1 ?side2 ?side3 ?side4 A3.out).mono ?_); (case side1 => exact KD (Kd.C_below HR0_0.out HB.out)); (case side2 => exact HC0_0.out); (case side3 => exact KD (Kd.C_below HR0_1.out HB.out)); (case side4 => exact HC0_1.out); rintro e w117 ⟨rfl, hb⟩; refine ⟨_, rfl, ?_⟩; have h_ := P4 (BL BK244.out hb) (BL BK245.out hb) (BL BK246.out hb) (below_step KB hb); clear BK244 BK245 BK246 HB; obtain ⟨BK244, BK245, BK246, HB⟩ := h_; (try clear hb); (try clear hk); (try clear hi); have hnb118 := NB246_245.out; have hnc118 := NB245_246.out; obtain ⟨hcz119_0, hcz119_1, hcz119_2, hfz119_0, hfz119_1, hfz119_2⟩ := C3 BK246.out))
  refine bodyPost_ret (results_ct rfl _ _ gb246 31 #[.slice none 0 0, .slice none 0 0, .int .i64 0] (0, 0) _ rfl (by refine SK ?_; refine blk_put (cs := #[.slice none 0 0, .slice none 0 0, .int .i64 0]) ?_ 2 _ rfl; refine SK ?_; refine blk_put (cs := #[.slice none 0 0, .slice none 0 0, .int .i64 0]) ?_ 1 _ rfl; refine SK ?_; refine blk_put (cs := #[.slice none 0 0, .slice none 0 0, .int .i64 0]) ?_ 0 _ rfl; exact SK BK246.out) Try.underlying31 rfl (by kernel_rfl)) rfl ?_
  exact ⟨_, _, KE, by first | exact Kd.R_nil _ _ _ _ _ | exact Kd.N_nil _ _ _ _ _ | exact Kd.V_nil _ _ _ _ _ | exact Kd.Q_nil _ _ _ _ _ | exact Kd.S_nil _ _ _ _ _, by first | exact Kd.R_nil _ _ _ _ _ | exact Kd.N_nil _ _ _ _ _ | exact Kd.V_nil _ _ _ _ _ | exact Kd.Q_nil _ _ _ _ _ | exact Kd.S_nil _ _ _ _ _, KB⟩

/-! ### spec_Better: function 90 -/
def spec_Better.f (a0_0 : Int) (a0_1 : Int) (a0_2 : Bool) (a0_3 : ByteArray) (a1_0 : Int) (a1_1 : Int) (a1_2 : Bool) (a1_3 : ByteArray) : Option (Int × Int × Bool × ByteArray) := if a1_1 > a0_1 then (some (a1_0, a1_1, a1_2, a1_3)) else (some (a0_0, a0_1, a0_2, a0_3))
set_option maxHeartbeats 8000000 in
set_option maxRecDepth 100000 in
theorem spec_Better.calls (a0_0 : Int) (a0_1 : Int) (a0_2 : Bool) (a0_3 : ByteArray) (a1_0 : Int) (a1_1 : Int) (a1_2 : Bool) (a1_3 : ByteArray) (r1 : Int) (r2 : Int) (r3 : Bool) (r4 : ByteArray) (w : World) (h : spec_Better.f a0_0 a0_1 a0_2 a0_3 a1_0 a1_1 a1_2 a1_3 = some (r1, r2, r3, r4)) :
  Calls Try.prog 90 #[.agg #[.int .i64 a0_0, .int .i64 a0_1, .bool a0_2, .string a0_3], .agg #[.int .i64 a1_0, .int .i64 a1_1, .bool a1_2, .string a1_3]] w fun e w' => e = .returned (.agg #[.int .i64 r1, .int .i64 r2, .bool r3, .string r4]) ∧ Below w.heap.size w w' := by
 have hu35 := Try.underlying35
 have HB := Aside0.mk (Below.refl w.heap.size w)
 have H : (if a1_1 > a0_1 then (some (a1_0, a1_1, a1_2, a1_3)) else (some (a0_0, a0_1, a0_2, a0_3))) = some (r1, r2, r3, r4) := h
 clear h
 by_cases c3 : a1_1 > a0_1
 ·rw [if_pos c3] at H
  have c3b0 : decide (a0_1 < a1_1) = true := decide_eq_true c3
  clear c3
  simp only [Option.some.injEq, Prod.mk.injEq] at H
  obtain ⟨rfl, rfl, rfl, rfl⟩ := H
  go_enter Try.func90, Try.ntmps90
  go_wp2_with (first | ((with_reducible refine gate_dst (N := 2) rfl ?_); refine BE 2 #[.int .i64 a0_0, .int .i64 a0_1, .bool a0_2, .string a0_3] 35 ?_; intro gb261 hg w4 hbox hb; have h_ := P4 (below_step KB hb) hbox (KG hg : w.heap.size ≤ gb261) (KG hg : w.heap.size ≤ gb261); clear HB; obtain ⟨HB, BK261, GW261, GE261⟩ := h_; clear hb hbox hg) | ((with_reducible refine gate_dst (N := 3) rfl ?_); refine BE 3 #[.int .i64 a1_0, .int .i64 a1_1, .bool a1_2, .string a1_3] 35 ?_; intro gb262 hg w5 hbox hb; have h_ := P7 (BL BK261.out hb) (below_step KB hb) hbox (KG hg : w.heap.size ≤ gb262) (KG hg : w.heap.size ≤ gb262) (NX hg BK261.out) (Ne.symm (NX hg BK261.out)); clear BK261 HB; obtain ⟨BK261, HB, BK262, GW262, GE262, NB261_262, NB262_261⟩ := h_; clear hb hbox hg) | ((with_reducible refine gate_dst (N := 4) rfl ?_); refine BE 4 #[.int .i64 0, .int .i64 0, .bool false, .string (⟨#[]⟩ : ByteArray)] 35 ?_; intro gb263 hg w6 hbox hb; have h_ := P10 (BL BK261.out hb) (BL BK262.out hb) (below_step KB hb) hbox (KG hg : w.heap.size ≤ gb263) (KG hg : w.heap.size ≤ gb263) (NX hg BK261.out) (Ne.symm (NX hg BK261.out)) (NX hg BK262.out) (Ne.symm (NX hg BK262.out)); clear BK261 BK262 HB; obtain ⟨BK261, BK262, HB, BK263, GW263, GE263, NB261_263, NB263_261, NB262_263, NB263_262⟩ := h_; clear hb hbox hg; have hnb7 := NB262_261.out; have hnc7 := NB261_262.out; have hnb8 := NB262_263.out; have hnc8 := NB263_262.out; obtain ⟨hcz9_0, hcz9_1, hcz9_2, hcz9_3, hfz9_0, hfz9_1, hfz9_2, hfz9_3⟩ := C4 BK262.out; have hnb10 := NB261_263.out; have hnc10 := NB263_261.out; obtain ⟨hcz11_0, hcz11_1, hcz11_2, hcz11_3, hfz11_0, hfz11_1, hfz11_2, hfz11_3⟩ := C4 BK261.out; obtain ⟨hcz12_0, hcz12_1, hcz12_2, hcz12_3, hfz12_0, hfz12_1, hfz12_2, hfz12_3⟩ := C4 BK263.out))
  refine bodyPost_ret (results_cell_row rfl _ _ gb263 35 #[.int .i64 a1_0, .int .i64 a1_1, .bool a1_2, .string a1_3] (0, 0) _ rfl (by refine SK ?_; refine blk_put (cs := #[.int .i64 a1_0, .int .i64 a1_1, .bool a1_2, .string (⟨#[]⟩ : ByteArray)]) ?_ 3 _ rfl; refine SK ?_; refine blk_put (cs := #[.int .i64 a1_0, .int .i64 a1_1, .bool false, .string (⟨#[]⟩ : ByteArray)]) ?_ 2 _ rfl; refine SK ?_; refine blk_put (cs := #[.int .i64 a1_0, .int .i64 0, .bool false, .string (⟨#[]⟩ : ByteArray)]) ?_ 1 _ rfl; refine SK ?_; refine blk_put (cs := #[.int .i64 0, .int .i64 0, .bool false, .string (⟨#[]⟩ : ByteArray)]) ?_ 0 _ rfl; exact SK BK263.out) Try.underlying35 rfl (by kernel_rfl)) rfl ?_
  exact ⟨KE, KB⟩
 ·rw [if_neg c3] at H
  have c3b0 : decide (a0_1 < a1_1) = false := decide_eq_false c3
  clear c3
  simp only [Option.some.injEq, Prod.mk.injEq] at H
  obtain ⟨rfl, rfl, rfl, rfl⟩ := H
  go_enter Try.func90, Try.ntmps90
  go_wp2_with (first | ((with_reducible refine gate_dst (N := 2) rfl ?_); refine BE 2 #[.int .i64 a0_0, .int .i64 a0_1, .bool a0_2, .string a0_3] 35 ?_; intro gb261 hg w13 hbox hb; have h_ := P4 (below_step KB hb) hbox (KG hg : w.heap.size ≤ gb261) (KG hg : w.heap.size ≤ gb261); clear HB; obtain ⟨HB, BK261, GW261, GE261⟩ := h_; clear hb hbox hg) | ((with_reducible refine gate_dst (N := 3) rfl ?_); refine BE 3 #[.int .i64 a1_0, .int .i64 a1_1, .bool a1_2, .string a1_3] 35 ?_; intro gb262 hg w14 hbox hb; have h_ := P7 (BL BK261.out hb) (below_step KB hb) hbox (KG hg : w.heap.size ≤ gb262) (KG hg : w.heap.size ≤ gb262) (NX hg BK261.out) (Ne.symm (NX hg BK261.out)); clear BK261 HB; obtain ⟨BK261, HB, BK262, GW262, GE262, NB261_262, NB262_261⟩ := h_; clear hb hbox hg) | ((with_reducible refine gate_dst (N := 4) rfl ?_); refine BE 4 #[.int .i64 0, .int .i64 0, .bool false, .string (⟨#[]⟩ : ByteArray)] 35 ?_; intro gb263 hg w15 hbox hb; have h_ := P10 (BL BK261.out hb) (BL BK262.out hb) (below_step KB hb) hbox (KG hg : w.heap.size ≤ gb263) (KG hg : w.heap.size ≤ gb263) (NX hg BK261.out) (Ne.symm (NX hg BK261.out)) (NX hg BK262.out) (Ne.symm (NX hg BK262.out)); clear BK261 BK262 HB; obtain ⟨BK261, BK262, HB, BK263, GW263, GE263, NB261_263, NB263_261, NB262_263, NB263_262⟩ := h_; clear hb hbox hg; have hnb16 := NB262_261.out; have hnc16 := NB261_262.out; have hnb17 := NB262_263.out; have hnc17 := NB263_262.out; obtain ⟨hcz18_0, hcz18_1, hcz18_2, hcz18_3, hfz18_0, hfz18_1, hfz18_2, hfz18_3⟩ := C4 BK262.out; have hnb19 := NB261_263.out; have hnc19 := NB263_261.out; obtain ⟨hcz20_0, hcz20_1, hcz20_2, hcz20_3, hfz20_0, hfz20_1, hfz20_2, hfz20_3⟩ := C4 BK261.out; obtain ⟨hcz21_0, hcz21_1, hcz21_2, hcz21_3, hfz21_0, hfz21_1, hfz21_2, hfz21_3⟩ := C4 BK263.out))
  refine bodyPost_ret (results_cell_row rfl _ _ gb263 35 #[.int .i64 a0_0, .int .i64 a0_1, .bool a0_2, .string a0_3] (0, 0) _ rfl (by refine SK ?_; refine blk_put (cs := #[.int .i64 a0_0, .int .i64 a0_1, .bool a0_2, .string (⟨#[]⟩ : ByteArray)]) ?_ 3 _ rfl; refine SK ?_; refine blk_put (cs := #[.int .i64 a0_0, .int .i64 a0_1, .bool false, .string (⟨#[]⟩ : ByteArray)]) ?_ 2 _ rfl; refine SK ?_; refine blk_put (cs := #[.int .i64 a0_0, .int .i64 0, .bool false, .string (⟨#[]⟩ : ByteArray)]) ?_ 1 _ rfl; refine SK ?_; refine blk_put (cs := #[.int .i64 0, .int .i64 0, .bool false, .string (⟨#[]⟩ : ByteArray)]) ?_ 0 _ rfl; exact SK BK263.out) Try.underlying35 rfl (by kernel_rfl)) rfl ?_
  exact ⟨KE, KB⟩

end Go.Proofs.Ytnoghojlpicecaa.PFnCrash
