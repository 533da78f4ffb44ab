-- What each Go function that this law reaches comes to: written by a program out of the translation.
import Derived.Test.YtgmfpfmpnlgidaaMFnEntriesx0
import Derived.Test.YtgmfpfmpnlgidaaMFnEntriesx5
import Derived.Test.YtgmfpfmpnlgidaaMFnEntriesx6
namespace Go.Proofs.Ytgmfpfmpnlgidaa.PFnEntries
open Go.RowKit Go.Proofs.YtgmfpfmpnlgidaaW.PrintWords Go.Proofs.YtgmfpfmpnlgidaaW.PrintLast Go.Proofs.YtgmfpfmpnlgidaaW.PrintMore
attribute [local go_sem] max2_int min2_int max_two min_two max_three min_three max_four min_four   -- for this text's walks alone
set_option linter.unusedVariables false
set_option linter.unusedSimpArgs false

/-! ### spec_l3Pack: function 52 -/
def spec_l3Pack.f (k : Nat) (a0_0 : Int) (a0_1 : Int) (a0_2 : Bool) (a0_3 : ByteArray) : Option (List Int) := (spec_PutNum.f k a0_0).bind fun t351 => ((spec_PutNum.f k a0_1).bind fun t354 => (if t351.length + t354.length < 140737488355328 then ((some (t351 ++ t354 : List Int)).bind fun y357 => ((spec_l3Bit.f a0_2).bind fun t360 => ((spec_PutNum.f k t360).bind fun t361 => (if y357.length + t361.length < 140737488355328 then ((some (y357 ++ t361 : List Int)).bind fun y364 => ((spec_PutText.f k a0_3).bind fun t367 => (if y364.length + t367.length < 140737488355328 then (some (y364 ++ t367)) else (none)))) else (none))))) else (none)))
theorem spec_l3Pack.mono : ∀ a0 a1 a2 a3 k, LeO (spec_l3Pack.f k a0 a1 a2 a3) (spec_l3Pack.f (k + 1) a0 a1 a2 a3) := by
 intro a0 a1 a2 a3 k
 unfold spec_l3Pack.f
 repeat' first
   | (with_reducible exact spec_PutNum.mono _ _)
   | (with_reducible exact spec_PutText.mono _ _)
   | (with_reducible exact LeO.refl _)
   | (with_reducible exact LeO.none _)
   | (with_reducible refine LeO.ite ?_ ?_)
   | (with_reducible refine LeO.bind ?_ (fun _ => ?_))
   | exact spec_PutNum.mono _ _
   | exact spec_PutText.mono _ _
   | exact LeO.none _
   | refine LeO.ite ?_ ?_
   | refine LeO.bind ?_ (fun _ => ?_)
def spec_l3Pack.T1 : Bool × List (List Nat × List Nat) := (true, [([], []), ([0], [0]), ([1], [1]), ([], []), ([3], [3]), ([4, 2], [4]), ([2, 5, 5], [2, 5]), ([], []), ([7], [7]), ([8, 6], [8]), ([9, 9], [9]), ([6, 10, 10], [6, 10]), ([11, 11, 0, 1, 2, 3, 4, 5, 6, 7, 8, 9, 10, 11], [11])])
def spec_l3Pack.B1 : List Nat := [0, 1, 3, 0, 8, 31, 63, 0, 128, 511, 1023, 2047, 4095]
theorem spec_l3Pack.tab1 : rtab .any (opsOf Try.f52 1) = spec_l3Pack.T1 := by kernel_rfl
theorem spec_l3Pack.bits1 : waitsOk spec_l3Pack.T1.2 spec_l3Pack.B1 = true := by kernel_rfl
set_option maxHeartbeats 8000000 in
set_option maxRecDepth 100000 in
theorem spec_l3Pack.calls (k : Nat) (a0_0 : Int) (a0_1 : Int) (a0_2 : Bool) (a0_3 : ByteArray) (r : List Int) (w : World) (h : spec_l3Pack.f k a0_0 a0_1 a0_2 a0_3 = some r) :
  Calls Try.prog 52 #[.agg #[.int .i64 a0_0, .int .i64 a0_1, .bool a0_2, .string a0_3]] w fun e w' => ∃ v0_ : Value, e = .returned (v0_) ∧ Kd.R (Kd.int .u8) 5 w' w.heap.size (fun _ => True) v0_ r ∧ Below w.heap.size w w' := by
 have hu33 := Try.underlying33
 have HB := Aside0.mk (Below.refl w.heap.size w)
 have H : ((spec_PutNum.f k a0_0).bind fun t351 => ((spec_PutNum.f k a0_1).bind fun t354 => (if t351.length + t354.length < 140737488355328 then ((some (t351 ++ t354 : List Int)).bind fun y357 => ((spec_l3Bit.f a0_2).bind fun t360 => ((spec_PutNum.f k t360).bind fun t361 => (if y357.length + t361.length < 140737488355328 then ((some (y357 ++ t361 : List Int)).bind fun y364 => ((spec_PutText.f k a0_3).bind fun t367 => (if y364.length + t367.length < 140737488355328 then (some (y364 ++ t367)) else (none)))) else (none))))) else (none)))) = some r := h
 clear h
 replace H := Option.bind_eq_some_iff.mp H
 obtain ⟨t351, A20, H⟩ := H
 replace H : ((spec_PutNum.f k a0_1).bind fun t354 => (if t351.length + t354.length < 140737488355328 then ((some (t351 ++ t354 : List Int)).bind fun y357 => ((spec_l3Bit.f a0_2).bind fun t360 => ((spec_PutNum.f k t360).bind fun t361 => (if y357.length + t361.length < 140737488355328 then ((some (y357 ++ t361 : List Int)).bind fun y364 => ((spec_PutText.f k a0_3).bind fun t367 => (if y364.length + t367.length < 140737488355328 then (some (y364 ++ t367)) else (none)))) else (none))))) else (none))) = some r := H
 have A2 := Aside0.mk A20
 clear A20
 replace H := Option.bind_eq_some_iff.mp H
 obtain ⟨t354, A30, H⟩ := H
 replace H : (if t351.length + t354.length < 140737488355328 then ((some (t351 ++ t354 : List Int)).bind fun y357 => ((spec_l3Bit.f a0_2).bind fun t360 => ((spec_PutNum.f k t360).bind fun t361 => (if y357.length + t361.length < 140737488355328 then ((some (y357 ++ t361 : List Int)).bind fun y364 => ((spec_PutText.f k a0_3).bind fun t367 => (if y364.length + t367.length < 140737488355328 then (some (y364 ++ t367)) else (none)))) else (none))))) else (none)) = some r := H
 have A3 := Aside0.mk A30
 clear A30
 by_cases c4 : t351.length + t354.length < 140737488355328
 ·rw [if_pos c4] at H
  have LMc4 := Aside0.mk c4
  clear c4
  obtain ⟨y357, hy357⟩ : ∃ y_ : List Int, y_ = (t351 ++ t354) := ⟨_, rfl⟩
  replace H : ((spec_l3Bit.f a0_2).bind fun t360 => ((spec_PutNum.f k t360).bind fun t361 => (if y357.length + t361.length < 140737488355328 then ((some (y357 ++ t361 : List Int)).bind fun y364 => ((spec_PutText.f k a0_3).bind fun t367 => (if y364.length + t367.length < 140737488355328 then (some (y364 ++ t367)) else (none)))) else (none)))) = some r := by first | (rw [hy357]; with_reducible exact H) | (have H2_ := (Option.bind_some _ _).symm.trans H; rw [hy357]; with_reducible exact H2_) | (have H2_ := (Option.bind_some _ _).symm.trans H; with_reducible exact H2_) | with_reducible exact H | (rw [hy357]; exact H) | exact H
  have Ny357 := Aside0.mk hy357
  clear hy357
  replace H := Option.bind_eq_some_iff.mp H
  obtain ⟨t360, A50, H⟩ := H
  replace H : ((spec_PutNum.f k t360).bind fun t361 => (if y357.length + t361.length < 140737488355328 then ((some (y357 ++ t361 : List Int)).bind fun y364 => ((spec_PutText.f k a0_3).bind fun t367 => (if y364.length + t367.length < 140737488355328 then (some (y364 ++ t367)) else (none)))) else (none))) = some r := H
  have A5 := Aside0.mk A50
  clear A50
  replace H := Option.bind_eq_some_iff.mp H
  obtain ⟨t361, A60, H⟩ := H
  replace H : (if y357.length + t361.length < 140737488355328 then ((some (y357 ++ t361 : List Int)).bind fun y364 => ((spec_PutText.f k a0_3).bind fun t367 => (if y364.length + t367.length < 140737488355328 then (some (y364 ++ t367)) else (none)))) else (none)) = some r := H
  have A6 := Aside0.mk A60
  clear A60
  by_cases c7 : y357.length + t361.length < 140737488355328
  ·rw [if_pos c7] at H
   have LMc7 := Aside0.mk c7
   clear c7
   obtain ⟨y364, hy364⟩ : ∃ y_ : List Int, y_ = (y357 ++ t361) := ⟨_, rfl⟩
   replace H : ((spec_PutText.f k a0_3).bind fun t367 => (if y364.length + t367.length < 140737488355328 then (some (y364 ++ t367)) else (none))) = some r := by first | (rw [hy364]; with_reducible exact H) | (have H2_ := (Option.bind_some _ _).symm.trans H; rw [hy364]; with_reducible exact H2_) | (have H2_ := (Option.bind_some _ _).symm.trans H; with_reducible exact H2_) | with_reducible exact H | (rw [hy364]; exact H) | exact H
   have Ny364 := Aside0.mk hy364
   clear hy364
   replace H := Option.bind_eq_some_iff.mp H
   obtain ⟨t367, A80, H⟩ := H
   replace H : (if y364.length + t367.length < 140737488355328 then (some (y364 ++ t367)) else (none)) = some r := H
   have A8 := Aside0.mk A80
   clear A80
   by_cases c9 : y364.length + t367.length < 140737488355328
   ·rw [if_pos c9] at H
    have LMc9 := Aside0.mk c9
    clear c9
    obtain ⟨y370, hy370⟩ : ∃ y_ : List Int, y_ = (y364 ++ t367) := ⟨_, rfl⟩
    replace H : (some y370) = some r := by first | (rw [hy370]; with_reducible exact H) | (have H2_ := (Option.bind_some _ _).symm.trans H; rw [hy370]; with_reducible exact H2_) | (have H2_ := (Option.bind_some _ _).symm.trans H; with_reducible exact H2_) | with_reducible exact H | (rw [hy370]; exact H) | exact H
    have Ny370 := Aside0.mk hy370
    clear hy370
    obtain rfl := Option.some.inj H
    go_enter Try.func52, Try.ntmps52
    try go_wp2_with (first | ((with_reducible refine gate_dst (N := 1) rfl ?_); refine box_event ?hg (N := 1) ?hd (cs := #[.int .i64 a0_0, .int .i64 a0_1, .bool a0_2, .string a0_3]) (t := 33) ?hr ?_; (case hd => rfl); (case hg => rfl); (case hr => first | (go_simp; done) | (go_simp; rfl)); intro gb350 hg w10 hbox hb; have n0_ := Aside0.mk (below_step KB hb); have n1_ := Aside0.mk (hbox); have n2_ := Aside0.mk ((by rw [hg]; exact (below_size KB) : w.heap.size ≤ gb350)); have n3_ := Aside0.mk ((by rw [hg]; exact (below_size KB) : w.heap.size ≤ gb350)); clear HB; have HB := n0_; have BK350 := n1_; have GW350 := n2_; have GE350 := n3_; clear n0_ n1_ n2_ n3_; clear hb hbox hg))
    have n0_ := Aside0.mk (blk_drew BK350.out)
    have n1_ := Aside0.mk (below_drew1 HB.out)
    clear BK350
    clear HB
    have BK350 := n0_
    have HB := n1_
    clear n0_ n1_
    refine start_ (n := 13) (S := fun w' => w'.cell? ⟨gb350, 0, none⟩ = some (.int .i64 a0_0) ∧ w'.cell? ⟨gb350, 1, none⟩ = some (.int .i64 a0_1) ∧ w'.cell? ⟨gb350, 2, none⟩ = some (.bool a0_2) ∧ w'.cell? ⟨gb350, 3, none⟩ = some (.string a0_3)) (ds := []) #[false, false, false, false, false, false, false, false, false, false, false, false, false] (by kernel_rfl) rfl rfl ⟨(blk_cell BK350.out 0).trans rfl, (blk_cell BK350.out 1).trans rfl, (blk_cell BK350.out 2).trans rfl, (blk_cell BK350.out 3).trans rfl⟩ (fun hHeld => ?_); refine with_tabW spec_l3Pack.tab1 spec_l3Pack.bits1 (fun HT_ HW_ => ?_)
    generalize w10.drew = w11 at BK350 HB hHeld ⊢
    refine pure_ (i := 0) (N := some 4) (v := ?_) (a' := ?_) #[true, false, false, false, false, false, false, false, false, false, false, false, false] rfl rfl (any_of HT_.out (by kernel_rfl)) (fun _ _ _ h => h) (Or.inl ⟨by rfl, ?_⟩) ?_ ?_
    rotate_left
    ·intro w'
     go_simp
     with_reducible rfl
    rotate_left
    ·simp only [Act.put, List.setIfInBounds_toArray, List.set_cons_zero, List.set_cons_succ, i64_w, i32_w]
     rfl
    refine pure_ (i := 3) (N := some 7) (v := ?_) (a' := ?_) #[true, false, false, true, false, false, false, false, false, false, false, false, false] rfl rfl (any_of HT_.out (by kernel_rfl)) (fun _ _ _ h => h) (Or.inl ⟨by rfl, ?_⟩) ?_ ?_
    rotate_left
    ·intro w'
     go_simp
     with_reducible rfl
    rotate_left
    ·simp only [Act.put, List.setIfInBounds_toArray, List.set_cons_zero, List.set_cons_succ, i64_w, i32_w]
     rfl
    refine pure_ (i := 7) (N := some 11) (v := ?_) (a' := ?_) #[true, false, false, true, false, false, false, true, false, false, false, false, false] rfl rfl (any_of HT_.out (by kernel_rfl)) (fun _ _ _ h => h) (Or.inl ⟨by rfl, ?_⟩) ?_ ?_
    rotate_left
    ·intro w'
     go_simp
     with_reducible rfl
    rotate_left
    ·simp only [Act.put, List.setIfInBounds_toArray, List.set_cons_zero, List.set_cons_succ, i64_w, i32_w]
     rfl
    refine take_ (i := 1) (N := some 5) (v := ?_) (a' := ?_) #[true, true, false, true, false, false, false, true, false, false, false, false, false] rfl rfl (take_ofW HT_.out HW_.out (by kernel_rfl)) (fun _ _ _ h => h) (Or.inl ⟨by rfl, ?_⟩) hHeld ?_ ?_
    rotate_left
    ·rintro w' ⟨s0, s1, s2, s3⟩
     go_simp
     with_reducible rfl
    rotate_left
    ·simp only [Act.put, List.setIfInBounds_toArray, List.set_cons_zero, List.set_cons_succ, i64_w, i32_w]
     rfl
    refine take_ (i := 4) (N := some 8) (v := ?_) (a' := ?_) #[true, true, false, true, true, false, false, true, false, false, false, false, false] rfl rfl (take_ofW HT_.out HW_.out (by kernel_rfl)) (fun _ _ _ h => h) (Or.inl ⟨by rfl, ?_⟩) hHeld ?_ ?_
    rotate_left
    ·rintro w' ⟨s0, s1, s2, s3⟩
     go_simp
     with_reducible rfl
    rotate_left
    ·simp only [Act.put, List.setIfInBounds_toArray, List.set_cons_zero, List.set_cons_succ, i64_w, i32_w]
     rfl
    refine take_ (i := 8) (N := some 12) (v := ?_) (a' := ?_) #[true, true, false, true, true, false, false, true, true, false, false, false, false] rfl rfl (take_ofW HT_.out HW_.out (by kernel_rfl)) (fun _ _ _ h => h) (Or.inl ⟨by rfl, ?_⟩) hHeld ?_ ?_
    rotate_left
    ·rintro w' ⟨s0, s1, s2, s3⟩
     go_simp
     with_reducible rfl
    rotate_left
    ·simp only [Act.put, List.setIfInBounds_toArray, List.set_cons_zero, List.set_cons_succ, i64_w, i32_w]
     rfl
    refine one_ (i := 2) (N := some 6) #[true, true, true, true, true, false, false, true, true, false, false, false, false] rfl rfl (one_of HT_.out (by kernel_rfl)) (by decide) (fun K hK => ?_)
    refine goes_ Try.func89 (by kernel_rfl) rfl #[.int .i64 a0_0] (by rfl) rfl rfl KL ?_
    with_reducible refine (spec_PutNum.calls k a0_0 t351 _ A2.out).mono ?_
    rintro e w12 ⟨v352, rfl, ho0, hb⟩
    refine ⟨_, rfl, ?_⟩
    have n0_ := Aside0.mk (Kd.R_lower ho0 (below_size KB))
    have n1_ := Aside0.mk (blk_below (g := gb350) (o := .cells #[.int .i64 a0_0, .int .i64 a0_1, .bool a0_2, .string a0_3] 33 (0, 0)) KK hb)
    have n2_ := Aside0.mk (below_step KB hb)
    clear BK350
    clear HB
    have HO353 := n0_
    have BK350 := n1_
    have HB := n2_
    clear n0_ n1_ n2_
    (try clear hb)
    (try clear hb2)
    (try clear hk)
    (try clear hi)
    (try clear ho0)
    refine hK.out _ _ ⟨(blk_cell BK350.out 0).trans rfl, (blk_cell BK350.out 1).trans rfl, (blk_cell BK350.out 2).trans rfl, (blk_cell BK350.out 3).trans rfl⟩ (fun hHeld => ?_)
    clear hK K
    refine norm_ (a' := ?_) ?_ ?_
    rotate_left
    ·show Act.put _ (some 6) _ = _
     simp only [Act.put, List.setIfInBounds_toArray, List.set_cons_zero, List.set_cons_succ, i64_w, i32_w]
     rfl
    refine one_ (i := 5) (N := some 9) #[true, true, true, true, true, true, false, true, true, false, false, false, false] rfl rfl (one_of HT_.out (by kernel_rfl)) (by decide) (fun K hK => ?_)
    refine goes_ Try.func89 (by kernel_rfl) rfl #[.int .i64 a0_1] (by rfl) rfl rfl KL ?_
    with_reducible refine (spec_PutNum.calls k a0_1 t354 _ A3.out).mono ?_
    rintro e w13 ⟨v355, rfl, ho0, hb⟩
    refine ⟨_, rfl, ?_⟩
    have n0_ := Aside0.mk (Kd.R_elder' (by (with_reducible repeat (first | apply Kd.R_alloc | apply Kd.R_drewN | apply Kd.R_drew)); exact HO353.out) (Kd.R_base ho0) hb)
    have n1_ := Aside0.mk (Kd.R_lower (Kd.R_new' ho0 (Kd.R_lt (by (with_reducible repeat (first | apply Kd.R_alloc | apply Kd.R_drewN | apply Kd.R_drew)); exact HO353.out))) (below_size KB))
    have n2_ := Aside0.mk (blk_below (g := gb350) (o := .cells #[.int .i64 a0_0, .int .i64 a0_1, .bool a0_2, .string a0_3] 33 (0, 0)) KK hb)
    have n3_ := Aside0.mk (below_step KB hb)
    clear HO353
    clear BK350
    clear HB
    have HO353 := n0_
    have HO356 := n1_
    have BK350 := n2_
    have HB := n3_
    clear n0_ n1_ n2_ n3_
    (try clear hb)
    (try clear hb2)
    (try clear hk)
    (try clear hi)
    (try clear ho0)
    obtain ⟨Ao15, co15, eo15⟩ := Kd.R_slice HO356.out
    (first | subst eo15 | (injection eo15 with f1_ f2_ f3_; have f4_ := f1_.symm; have f5_ := f3_.symm; clear f1_ f2_ f3_; subst f4_; subst f5_))
    refine hK.out _ _ ⟨(blk_cell BK350.out 0).trans rfl, (blk_cell BK350.out 1).trans rfl, (blk_cell BK350.out 2).trans rfl, (blk_cell BK350.out 3).trans rfl⟩ (fun hHeld => ?_)
    clear hK K
    refine norm_ (a' := ?_) ?_ ?_
    rotate_left
    ·show Act.put _ (some 9) _ = _
     simp only [Act.put, List.setIfInBounds_toArray, List.set_cons_zero, List.set_cons_succ, i64_w, i32_w]
     rfl
    refine one_ (i := 6) (N := some 10) #[true, true, true, true, true, true, true, true, true, false, false, false, false] rfl rfl (one_of HT_.out (by kernel_rfl)) (by decide) (fun K hK => ?_)
    refine Kd.R_append_rows_step (Kd.int .u8) (w0 := w) w.heap.size (by rfl) (.tmp 6) (.tmp 9) 22 5 (.int .u8 0) 1 rfl Try.underlying22 info5 rfl (by decide) (by omega) v352 t351 t354 _ _ _ (fun k_ => some k_ ≠ (.slice Ao15 t354.length co15 : Value).ownBlock) (fun _ => False) rfl rfl ?aO ?aR (fun _ _ h => h) (fun _ h => h.elim) ?aF ?aB ?aS ?aL ?_
    (case aR => repeat (first | exact (Kd.R_reads' HO356.out).2.2 | (with_reducible refine Kd.C_alloc ?_ _) | (with_reducible refine Kd.C_drewN ?_ _) | (with_reducible refine Kd.C_drew ?_)))
    (case aB => exact KB)
    (case aF => exact (fun k_ hk => Kd.fresh' (Kd.R_lt (by (with_reducible repeat (first | apply Kd.R_alloc | apply Kd.R_drewN | apply Kd.R_drew)); exact HO356.out)) k_ hk))
    (case aO => exact (by (with_reducible repeat (first | apply Kd.R_alloc | apply Kd.R_drewN | apply Kd.R_drew)); exact Kd.R_mono HO353.out (fun _ hk => hk.2)))
    (case aS => exact (below_size KB))
    (case aL => have := LMc4.out; omega)
    intro v358 w14 ho hb hg hat
    rw [← Ny357.out] at ho
    have n0_ := Aside0.mk (blk_grown (g := gb350) (o := .cells #[.int .i64 a0_0, .int .i64 a0_1, .bool a0_2, .string a0_3] 33 (0, 0)) KK hg (Kd.R_ne HO353.out BK350.out (by decide)))
    have n1_ := Aside0.mk (Kd.R_after (ok := (fun _ => True)) (by (with_reducible repeat (first | apply Kd.R_alloc | apply Kd.R_drewN | apply Kd.R_drew)); exact HO356.out) hg hat)
    have n2_ := Aside0.mk (hb)
    have n3_ := Aside0.mk (ho)
    clear BK350
    clear HO356
    clear HB
    clear HO353
    have BK350 := n0_
    have HO356 := n1_
    have HB := n2_
    have HO359 := n3_
    clear n0_ n1_ n2_ n3_
    clear ho hb hg hat
    refine hK.out _ _ ⟨(blk_cell BK350.out 0).trans rfl, (blk_cell BK350.out 1).trans rfl, (blk_cell BK350.out 2).trans rfl, (blk_cell BK350.out 3).trans rfl⟩ (fun hHeld => ?_)
    clear hK K
    refine norm_ (a' := ?_) ?_ ?_
    rotate_left
    ·show Act.put _ (some 10) _ = _
     simp only [Act.put, List.setIfInBounds_toArray, List.set_cons_zero, List.set_cons_succ, i64_w, i32_w]
     rfl
    refine one_ (i := 9) (N := some 13) #[true, true, true, true, true, true, true, true, true, true, false, false, false] rfl rfl (one_of HT_.out (by kernel_rfl)) (by decide) (fun K hK => ?_)
    refine goes_ Try.func90 (by kernel_rfl) rfl #[.bool a0_2] (by rfl) rfl rfl KL ?_
    with_reducible refine (spec_l3Bit.calls a0_2 t360 _ A5.out).mono ?_
    rintro e w' ⟨rfl, ⟨nd, rfl⟩⟩
    refine ⟨_, rfl, ?_⟩
    refine hK.out _ _ ⟨(blk_cell BK350.out 0).trans rfl, (blk_cell BK350.out 1).trans rfl, (blk_cell BK350.out 2).trans rfl, (blk_cell BK350.out 3).trans rfl⟩ (fun hHeld => ?_)
    clear hK K
    refine norm_ (a' := ?_) ?_ ?_
    rotate_left
    ·show Act.put _ (some 13) _ = _
     simp only [Act.put, List.setIfInBounds_toArray, List.set_cons_zero, List.set_cons_succ, i64_w, i32_w]
     rfl
    refine one_ (i := 10) (N := some 14) #[true, true, true, true, true, true, true, true, true, true, true, false, false] rfl rfl (one_of HT_.out (by kernel_rfl)) (by decide) (fun K hK => ?_)
    refine goes_ Try.func89 (by kernel_rfl) rfl #[.int .i64 t360] (by rfl) rfl rfl KL ?_
    with_reducible refine (spec_PutNum.calls k t360 t361 _ A6.out).mono ?_
    rintro e w16 ⟨v362, rfl, ho0, hb⟩
    refine ⟨_, rfl, ?_⟩
    have n0_ := Aside0.mk (Kd.R_elder' (by (with_reducible repeat (first | apply Kd.R_alloc | apply Kd.R_drewN | apply Kd.R_drew)); exact HO356.out) (Kd.R_base ho0) hb)
    have n1_ := Aside0.mk (Kd.R_elder' (by (with_reducible repeat (first | apply Kd.R_alloc | apply Kd.R_drewN | apply Kd.R_drew)); exact HO359.out) (Kd.R_base ho0) hb)
    have n2_ := Aside0.mk (Kd.R_lower (Kd.R_new' (Kd.R_new' ho0 (Kd.R_lt (by (with_reducible repeat (first | apply Kd.R_alloc | apply Kd.R_drewN | apply Kd.R_drew)); exact HO356.out))) (Kd.R_lt (by (with_reducible repeat (first | apply Kd.R_alloc | apply Kd.R_drewN | apply Kd.R_drew)); exact HO359.out))) (below_size KB))
    have n3_ := Aside0.mk (blk_below (g := gb350) (o := .cells #[.int .i64 a0_0, .int .i64 a0_1, .bool a0_2, .string a0_3] 33 (0, 0)) KK hb)
    have n4_ := Aside0.mk (below_step KB hb)
    clear HO356
    clear HO359
    clear BK350
    clear HB
    have HO356 := n0_
    have HO359 := n1_
    have HO363 := n2_
    have BK350 := n3_
    have HB := n4_
    clear n0_ n1_ n2_ n3_ n4_
    (try clear hb)
    (try clear hb2)
    (try clear hk)
    (try clear hi)
    (try clear ho0)
    obtain ⟨Ao18, co18, eo18⟩ := Kd.R_slice HO363.out
    (first | subst eo18 | (injection eo18 with f1_ f2_ f3_; have f4_ := f1_.symm; have f5_ := f3_.symm; clear f1_ f2_ f3_; subst f4_; subst f5_))
    refine hK.out _ _ ⟨(blk_cell BK350.out 0).trans rfl, (blk_cell BK350.out 1).trans rfl, (blk_cell BK350.out 2).trans rfl, (blk_cell BK350.out 3).trans rfl⟩ (fun hHeld => ?_)
    clear hK K
    refine norm_ (a' := ?_) ?_ ?_
    rotate_left
    ·show Act.put _ (some 14) _ = _
     simp only [Act.put, List.setIfInBounds_toArray, List.set_cons_zero, List.set_cons_succ, i64_w, i32_w]
     rfl
    refine one_ (i := 11) (N := some 15) #[true, true, true, true, true, true, true, true, true, true, true, true, false] rfl rfl (one_of HT_.out (by kernel_rfl)) (by decide) (fun K hK => ?_)
    refine Kd.R_append_rows_step (Kd.int .u8) (w0 := w) w.heap.size (by rfl) (.tmp 10) (.tmp 14) 22 5 (.int .u8 0) 1 rfl Try.underlying22 info5 rfl (by decide) (by omega) v358 y357 t361 _ _ _ (fun k_ => some k_ ≠ (.slice Ao15 t354.length co15 : Value).ownBlock ∧ some k_ ≠ (.slice Ao18 t361.length co18 : Value).ownBlock) (fun _ => False) rfl rfl ?aO ?aR (fun _ _ h => h) (fun _ h => h.elim) ?aF ?aB ?aS ?aL ?_
    (case aR => repeat (first | exact (Kd.R_reads' HO363.out).2.2 | (with_reducible refine Kd.C_alloc ?_ _) | (with_reducible refine Kd.C_drewN ?_ _) | (with_reducible refine Kd.C_drew ?_)))
    (case aB => exact KB)
    (case aF => exact (fun k_ hk => ⟨Kd.fresh' (Kd.R_lt (by (with_reducible repeat (first | apply Kd.R_alloc | apply Kd.R_drewN | apply Kd.R_drew)); exact HO356.out)) k_ hk, Kd.fresh' (Kd.R_lt (by (with_reducible repeat (first | apply Kd.R_alloc | apply Kd.R_drewN | apply Kd.R_drew)); exact HO363.out)) k_ hk⟩))
    (case aO => exact (by (with_reducible repeat (first | apply Kd.R_alloc | apply Kd.R_drewN | apply Kd.R_drew)); exact HO359.out))
    (case aS => exact (below_size KB))
    (case aL => have := LMc7.out; omega)
    intro v365 w17 ho hb hg hat
    rw [← Ny364.out] at ho
    have n0_ := Aside0.mk (blk_grown (g := gb350) (o := .cells #[.int .i64 a0_0, .int .i64 a0_1, .bool a0_2, .string a0_3] 33 (0, 0)) KK hg (Kd.R_ne HO359.out BK350.out (by decide)))
    have n1_ := Aside0.mk (Kd.R_after (ok := (fun k_ => some k_ ≠ (.slice Ao18 t361.length co18 : Value).ownBlock)) (by (with_reducible repeat (first | apply Kd.R_alloc | apply Kd.R_drewN | apply Kd.R_drew)); exact Kd.R_mono HO356.out (fun _ hk => ⟨hk.2, hk.1.2⟩)) hg hat)
    have n2_ := Aside0.mk (Kd.R_after (ok := (fun k_ => some k_ ≠ (.slice Ao15 t354.length co15 : Value).ownBlock)) (by (with_reducible repeat (first | apply Kd.R_alloc | apply Kd.R_drewN | apply Kd.R_drew)); exact Kd.R_mono HO363.out (fun _ hk => ⟨hk.1.2, hk.2⟩)) hg hat)
    have n3_ := Aside0.mk (hb)
    have n4_ := Aside0.mk (ho)
    clear BK350
    clear HO356
    clear HO363
    clear HB
    clear HO359
    have BK350 := n0_
    have HO356 := n1_
    have HO363 := n2_
    have HB := n3_
    have HO366 := n4_
    clear n0_ n1_ n2_ n3_ n4_
    clear ho hb hg hat
    refine hK.out _ _ ⟨(blk_cell BK350.out 0).trans rfl, (blk_cell BK350.out 1).trans rfl, (blk_cell BK350.out 2).trans rfl, (blk_cell BK350.out 3).trans rfl⟩ (fun hHeld => ?_)
    clear hK K
    refine norm_ (a' := ?_) ?_ ?_
    rotate_left
    ·show Act.put _ (some 15) _ = _
     simp only [Act.put, List.setIfInBounds_toArray, List.set_cons_zero, List.set_cons_succ, i64_w, i32_w]
     rfl
    refine pure_ (i := 12) (N := some 3) (v := ?_) (a' := ?_) #[true, true, true, true, true, true, true, true, true, true, true, true, true] rfl rfl (any_of HT_.out (by kernel_rfl)) (fun _ _ _ h => h) (Or.inl ⟨by rfl, ?_⟩) ?_ ?_
    rotate_left
    ·intro w'
     go_simp
     with_reducible rfl
    rotate_left
    ·simp only [Act.put, List.setIfInBounds_toArray, List.set_cons_zero, List.set_cons_succ, i64_w, i32_w]
     rfl
    refine done_ (done_of HT_.out (by kernel_rfl)) ?_
    have hcz19_0 : w17.cell? ⟨gb350, 0, none⟩ = some (.int .i64 a0_0) := (blk_cell BK350.out 0).trans rfl
    have hcz19_1 : w17.cell? ⟨gb350, 1, none⟩ = some (.int .i64 a0_1) := (blk_cell BK350.out 1).trans rfl
    have hcz19_2 : w17.cell? ⟨gb350, 2, none⟩ = some (.bool a0_2) := (blk_cell BK350.out 2).trans rfl
    have hcz19_3 : w17.cell? ⟨gb350, 3, none⟩ = some (.string a0_3) := (blk_cell BK350.out 3).trans rfl
    have hfz19_0 := blk_frozen BK350.out 0
    have hfz19_1 := blk_frozen BK350.out 1
    have hfz19_2 := blk_frozen BK350.out 2
    have hfz19_3 := blk_frozen BK350.out 3
    try go_wp2_with (first | ((with_reducible refine gate_callee (f := 91) rfl ?_); refine goesL_ (some 19) rfl rfl Try.func91 (by kernel_rfl) rfl #[.string a0_3] rfl KL ?_; (with_reducible refine (spec_PutText.calls k a0_3 t367 _ A8.out).mono ?_); rintro e w20 ⟨v368, rfl, ho0, hb⟩; refine ⟨_, rfl, ?_⟩; have n0_ := Aside0.mk (Kd.R_elder' (by (with_reducible repeat (first | apply Kd.R_alloc | apply Kd.R_drewN | apply Kd.R_drew)); exact HO356.out) (Kd.R_base ho0) hb); have n1_ := Aside0.mk (Kd.R_elder' (by (with_reducible repeat (first | apply Kd.R_alloc | apply Kd.R_drewN | apply Kd.R_drew)); exact HO363.out) (Kd.R_base ho0) hb); have n2_ := Aside0.mk (Kd.R_elder' (by (with_reducible repeat (first | apply Kd.R_alloc | apply Kd.R_drewN | apply Kd.R_drew)); exact HO366.out) (Kd.R_base ho0) hb); have n3_ := Aside0.mk (Kd.R_lower (Kd.R_new' (Kd.R_new' (Kd.R_new' ho0 (Kd.R_lt (by (with_reducible repeat (first | apply Kd.R_alloc | apply Kd.R_drewN | apply Kd.R_drew)); exact HO356.out))) (Kd.R_lt (by (with_reducible repeat (first | apply Kd.R_alloc | apply Kd.R_drewN | apply Kd.R_drew)); exact HO363.out))) (Kd.R_lt (by (with_reducible repeat (first | apply Kd.R_alloc | apply Kd.R_drewN | apply Kd.R_drew)); exact HO366.out))) (below_size KB)); have n4_ := Aside0.mk (blk_below (g := gb350) (o := .cells #[.int .i64 a0_0, .int .i64 a0_1, .bool a0_2, .string a0_3] 33 (0, 0)) KK hb); have n5_ := Aside0.mk (below_step KB hb); clear HO356; clear HO363; clear HO366; clear BK350; clear HB; have HO356 := n0_; have HO363 := n1_; have HO366 := n2_; have HO369 := n3_; have BK350 := n4_; have HB := n5_; clear n0_ n1_ n2_ n3_ n4_ n5_; (try clear hb); (try clear hb2); (try clear hk); (try clear hi); (try clear ho0); obtain ⟨Ao22, co22, eo22⟩ := Kd.R_slice HO369.out; subst eo22) | ((with_reducible refine gate_builtin (b := .append) (xs := #[.tmp 16, .tmp 19]) rfl ?_); at_builtin; refine Kd.R_append_rows (Kd.int .u8) (w0 := w) w.heap.size rfl (.tmp 16) (.tmp 19) 22 5 (.int .u8 0) 1 rfl Try.underlying22 info5 rfl (by decide) (by omega) v365 y364 t367 _ _ _ (fun k_ => some k_ ≠ (.slice Ao15 t354.length co15 : Value).ownBlock ∧ some k_ ≠ (.slice Ao18 t361.length co18 : Value).ownBlock ∧ some k_ ≠ (.slice Ao22 t367.length co22 : Value).ownBlock) (fun _ => False) rfl rfl ?aO ?aR (fun _ _ h => h) (fun _ h => h.elim) ?aF ?aB ?aS ?aL ?_; (case aR => repeat (first | exact (Kd.R_reads' HO369.out).2.2 | (with_reducible refine Kd.C_alloc ?_ _) | (with_reducible refine Kd.C_drewN ?_ _) | (with_reducible refine Kd.C_drew ?_))); (case aB => exact KB); (case aF => exact (fun k_ hk => ⟨Kd.fresh' (Kd.R_lt (by (with_reducible repeat (first | apply Kd.R_alloc | apply Kd.R_drewN | apply Kd.R_drew)); exact HO356.out)) k_ hk, Kd.fresh' (Kd.R_lt (by (with_reducible repeat (first | apply Kd.R_alloc | apply Kd.R_drewN | apply Kd.R_drew)); exact HO363.out)) k_ hk, Kd.fresh' (Kd.R_lt (by (with_reducible repeat (first | apply Kd.R_alloc | apply Kd.R_drewN | apply Kd.R_drew)); exact HO369.out)) k_ hk⟩)); (case aO => exact (by (with_reducible repeat (first | apply Kd.R_alloc | apply Kd.R_drewN | apply Kd.R_drew)); exact Kd.R_mono HO366.out (fun _ hk => ⟨hk.1.1, ⟨hk.1.2, hk.2⟩⟩))); (case aS => exact (below_size KB)); (case aL => have := LMc9.out; omega); intro v371 w21 ho hb hg hat; rw [← Ny370.out] at ho; have n0_ := Aside0.mk (blk_grown (g := gb350) (o := .cells #[.int .i64 a0_0, .int .i64 a0_1, .bool a0_2, .string a0_3] 33 (0, 0)) KK hg (Kd.R_ne HO366.out BK350.out (by decide))); have n1_ := Aside0.mk (Kd.R_after (ok := (fun k_ => some k_ ≠ (.slice Ao18 t361.length co18 : Value).ownBlock ∧ some k_ ≠ (.slice Ao22 t367.length co22 : Value).ownBlock)) (by (with_reducible repeat (first | apply Kd.R_alloc | apply Kd.R_drewN | apply Kd.R_drew)); exact Kd.R_mono HO356.out (fun _ hk => ⟨⟨hk.1.1, hk.2⟩, hk.1.2⟩)) hg hat); have n2_ := Aside0.mk (Kd.R_after (ok := (fun k_ => some k_ ≠ (.slice Ao15 t354.length co15 : Value).ownBlock ∧ some k_ ≠ (.slice Ao22 t367.length co22 : Value).ownBlock)) (by (with_reducible repeat (first | apply Kd.R_alloc | apply Kd.R_drewN | apply Kd.R_drew)); exact Kd.R_mono HO363.out (fun _ hk => ⟨⟨hk.1.1, hk.2⟩, hk.1.2⟩)) hg hat); have n3_ := Aside0.mk (Kd.R_after (ok := (fun k_ => some k_ ≠ (.slice Ao15 t354.length co15 : Value).ownBlock ∧ some k_ ≠ (.slice Ao18 t361.length co18 : Value).ownBlock)) (by (with_reducible repeat (first | apply Kd.R_alloc | apply Kd.R_drewN | apply Kd.R_drew)); exact Kd.R_mono HO369.out (fun _ hk => ⟨⟨hk.1.1.2, hk.1.2⟩, hk.2⟩)) hg hat); have n4_ := Aside0.mk (hb); have n5_ := Aside0.mk (ho); clear BK350; clear HO356; clear HO363; clear HO369; clear HB; clear HO366; have BK350 := n0_; have HO356 := n1_; have HO363 := n2_; have HO369 := n3_; have HB := n4_; have HO372 := n5_; clear n0_ n1_ n2_ n3_ n4_ n5_; clear ho hb hg hat))
    go_ret
    exact ⟨_, by first | rfl | (simp [errW_none, errW_some] <;> rfl) | (simp [*, errW_none, errW_some] <;> rfl), by (with_reducible repeat (first | apply Kd.R_alloc | apply Kd.R_drewN | apply Kd.R_drew)); exact Kd.R_mono HO372.out (fun _ hk => trivial), KB⟩
   ·rw [if_neg c9] at H
    exact absurd H (by simp)
  ·rw [if_neg c7] at H
   exact absurd H (by simp)
 ·rw [if_neg c4] at H
  exact absurd H (by simp)

/-! ### spec_DrawEntryRead: function 34 -/
def spec_DrawEntryRead.f (k : Nat) (l0 : List Int) : Option (List Int × Int) := (spec_l1New.f k l0).bind fun bt373 => ((some (([9] : List Int) : List Int)).bind fun y377 => ((spec_l3DrawRight.f bt373.1 bt373.2.1 bt373.2.2).bind fun bt380 => ((spec_l3Pack.f k bt380.1 bt380.2.1 bt380.2.2.1 bt380.2.2.2.1).bind fun t386 => (if y377.length + t386.length < 140737488355328 then ((some (y377 ++ t386 : List Int)).bind fun y389 => ((spec_l1Below.f bt373.1 bt380.2.2.2.2.1 bt380.2.2.2.2.2 6).bind fun bt392 => (if bt392.1 = 0 then ((spec_l1Below.f bt373.1 bt392.2.1 bt392.2.2 (y389.length : Int)).bind fun bt395 => ((spec_l1PickInt.f bt373.1 bt395.2.1 bt395.2.2 (([0, 1, 2, 127, 128, 255] : List Int))).bind fun bt401 => (if 0 ≤ bt395.1 then (if bt395.1 < (y389.length : Int) then (some ((y389.set (bt395.1 : Int).toNat ((bt401.1) % 256)), 1)) else (none)) else (none)))) else (if bt392.1 = 1 then ((spec_l1Below.f bt373.1 bt392.2.1 bt392.2.2 (wrap64 ((y389.length : Int) + 1))).bind fun bt405 => (if 0 ≤ bt405.1 then (if bt405.1 ≤ (y389.length : Int) then (some ((y389.take (bt405.1 : Int).toNat), 1)) else (none)) else (none))) else (if bt392.1 = 2 then ((spec_l1PickInt.f bt373.1 bt392.2.1 bt392.2.2 (([(-1), 0, (y389.length : Int)] : List Int))).bind fun bt414 => (some (y389, bt414.1))) else (some (y389, 1))))))) else (none)))))
theorem spec_DrawEntryRead.mono : ∀ a0 k, LeO (spec_DrawEntryRead.f k a0) (spec_DrawEntryRead.f (k + 1) a0) := by
 intro a0 k
 unfold spec_DrawEntryRead.f
 repeat' first
   | (with_reducible exact spec_l1New.mono _ _)
   | (with_reducible exact spec_l3Pack.mono _ _ _ _ _)
   | (with_reducible exact LeO.refl _)
   | (with_reducible exact LeO.none _)
   | (with_reducible refine LeO.ite ?_ ?_)
   | (with_reducible refine LeO.bind ?_ (fun _ => ?_))
   | exact spec_l1New.mono _ _
   | exact spec_l3Pack.mono _ _ _ _ _
   | exact LeO.none _
   | refine LeO.ite ?_ ?_
   | refine LeO.bind ?_ (fun _ => ?_)
set_option maxHeartbeats 8000000 in
set_option maxRecDepth 100000 in
theorem spec_DrawEntryRead.calls (k : Nat) (A0 : Option Addr) (c0 : Nat) (l0 : List Int) (r1 : List Int) (r2 : Int) (w : World) (hr0 : Kd.C (Kd.int .u8) w A0 l0.length l0) (hc0 : l0.length ≤ c0) (h : spec_DrawEntryRead.f k l0 = some (r1, r2)) :
  Calls Try.prog 34 #[.slice A0 l0.length c0] w fun e w' => ∃ v0_ : Value, e = .returned (.tuple #[v0_, .int .i64 r2]) ∧ Kd.R (Kd.int .u8) 5 w' w.heap.size (fun _ => True) v0_ r1 ∧ Below w.heap.size w w' := by
 have HR0 := Aside0.mk hr0
 have HC0 := Aside0.mk hc0
 clear hr0 hc0
 have HB := Aside0.mk (Below.refl w.heap.size w)
 have H : ((spec_l1New.f k l0).bind fun bt373 => ((some (([9] : List Int) : List Int)).bind fun y377 => ((spec_l3DrawRight.f bt373.1 bt373.2.1 bt373.2.2).bind fun bt380 => ((spec_l3Pack.f k bt380.1 bt380.2.1 bt380.2.2.1 bt380.2.2.2.1).bind fun t386 => (if y377.length + t386.length < 140737488355328 then ((some (y377 ++ t386 : List Int)).bind fun y389 => ((spec_l1Below.f bt373.1 bt380.2.2.2.2.1 bt380.2.2.2.2.2 6).bind fun bt392 => (if bt392.1 = 0 then ((spec_l1Below.f bt373.1 bt392.2.1 bt392.2.2 (y389.length : Int)).bind fun bt395 => ((spec_l1PickInt.f bt373.1 bt395.2.1 bt395.2.2 (([0, 1, 2, 127, 128, 255] : List Int))).bind fun bt401 => (if 0 ≤ bt395.1 then (if bt395.1 < (y389.length : Int) then (some ((y389.set (bt395.1 : Int).toNat ((bt401.1) % 256)), 1)) else (none)) else (none)))) else (if bt392.1 = 1 then ((spec_l1Below.f bt373.1 bt392.2.1 bt392.2.2 (wrap64 ((y389.length : Int) + 1))).bind fun bt405 => (if 0 ≤ bt405.1 then (if bt405.1 ≤ (y389.length : Int) then (some ((y389.take (bt405.1 : Int).toNat), 1)) else (none)) else (none))) else (if bt392.1 = 2 then ((spec_l1PickInt.f bt373.1 bt392.2.1 bt392.2.2 (([(-1), 0, (y389.length : Int)] : List Int))).bind fun bt414 => (some (y389, bt414.1))) else (some (y389, 1))))))) else (none)))))) = some (r1, r2) := h
 clear h
 replace H := Option.bind_eq_some_iff.mp H
 obtain ⟨⟨t373, t374, t375⟩, A20, H⟩ := H
 replace H : ((some (([9] : List Int) : List Int)).bind fun y377 => ((spec_l3DrawRight.f t373 t374 t375).bind fun bt380 => ((spec_l3Pack.f k bt380.1 bt380.2.1 bt380.2.2.1 bt380.2.2.2.1).bind fun t386 => (if y377.length + t386.length < 140737488355328 then ((some (y377 ++ t386 : List Int)).bind fun y389 => ((spec_l1Below.f t373 bt380.2.2.2.2.1 bt380.2.2.2.2.2 6).bind fun bt392 => (if bt392.1 = 0 then ((spec_l1Below.f t373 bt392.2.1 bt392.2.2 (y389.length : Int)).bind fun bt395 => ((spec_l1PickInt.f t373 bt395.2.1 bt395.2.2 (([0, 1, 2, 127, 128, 255] : List Int))).bind fun bt401 => (if 0 ≤ bt395.1 then (if bt395.1 < (y389.length : Int) then (some ((y389.set (bt395.1 : Int).toNat ((bt401.1) % 256)), 1)) else (none)) else (none)))) else (if bt392.1 = 1 then ((spec_l1Below.f t373 bt392.2.1 bt392.2.2 (wrap64 ((y389.length : Int) + 1))).bind fun bt405 => (if 0 ≤ bt405.1 then (if bt405.1 ≤ (y389.length : Int) then (some ((y389.take (bt405.1 : Int).toNat), 1)) else (none)) else (none))) else (if bt392.1 = 2 then ((spec_l1PickInt.f t373 bt392.2.1 bt392.2.2 (([(-1), 0, (y389.length : Int)] : List Int))).bind fun bt414 => (some (y389, bt414.1))) else (some (y389, 1))))))) else (none))))) = some (r1, r2) := H
 have A2 := Aside0.mk A20
 clear A20
 obtain ⟨y377, hy377⟩ : ∃ y_ : List Int, y_ = (([9] : List Int)) := ⟨_, rfl⟩
 replace H : ((spec_l3DrawRight.f t373 t374 t375).bind fun bt380 => ((spec_l3Pack.f k bt380.1 bt380.2.1 bt380.2.2.1 bt380.2.2.2.1).bind fun t386 => (if y377.length + t386.length < 140737488355328 then ((some (y377 ++ t386 : List Int)).bind fun y389 => ((spec_l1Below.f t373 bt380.2.2.2.2.1 bt380.2.2.2.2.2 6).bind fun bt392 => (if bt392.1 = 0 then ((spec_l1Below.f t373 bt392.2.1 bt392.2.2 (y389.length : Int)).bind fun bt395 => ((spec_l1PickInt.f t373 bt395.2.1 bt395.2.2 (([0, 1, 2, 127, 128, 255] : List Int))).bind fun bt401 => (if 0 ≤ bt395.1 then (if bt395.1 < (y389.length : Int) then (some ((y389.set (bt395.1 : Int).toNat ((bt401.1) % 256)), 1)) else (none)) else (none)))) else (if bt392.1 = 1 then ((spec_l1Below.f t373 bt392.2.1 bt392.2.2 (wrap64 ((y389.length : Int) + 1))).bind fun bt405 => (if 0 ≤ bt405.1 then (if bt405.1 ≤ (y389.length : Int) then (some ((y389.take (bt405.1 : Int).toNat), 1)) else (none)) else (none))) else (if bt392.1 = 2 then ((spec_l1PickInt.f t373 bt392.2.1 bt392.2.2 (([(-1), 0, (y389.length : Int)] : List Int))).bind fun bt414 => (some (y389, bt414.1))) else (some (y389, 1))))))) else (none)))) = some (r1, r2) := by first | (rw [hy377]; with_reducible exact H) | (have H2_ := (Option.bind_some _ _).symm.trans H; rw [hy377]; with_reducible exact H2_) | (have H2_ := (Option.bind_some _ _).symm.trans H; with_reducible exact H2_) | with_reducible exact H | (rw [hy377]; exact H) | exact H
 have Ny377 := Aside0.mk hy377
 clear hy377
 replace H := Option.bind_eq_some_iff.mp H
 obtain ⟨⟨t380, t381, t382, t383, t384, t385⟩, A30, H⟩ := H
 replace H : ((spec_l3Pack.f k t380 t381 t382 t383).bind fun t386 => (if y377.length + t386.length < 140737488355328 then ((some (y377 ++ t386 : List Int)).bind fun y389 => ((spec_l1Below.f t373 t384 t385 6).bind fun bt392 => (if bt392.1 = 0 then ((spec_l1Below.f t373 bt392.2.1 bt392.2.2 (y389.length : Int)).bind fun bt395 => ((spec_l1PickInt.f t373 bt395.2.1 bt395.2.2 (([0, 1, 2, 127, 128, 255] : List Int))).bind fun bt401 => (if 0 ≤ bt395.1 then (if bt395.1 < (y389.length : Int) then (some ((y389.set (bt395.1 : Int).toNat ((bt401.1) % 256)), 1)) else (none)) else (none)))) else (if bt392.1 = 1 then ((spec_l1Below.f t373 bt392.2.1 bt392.2.2 (wrap64 ((y389.length : Int) + 1))).bind fun bt405 => (if 0 ≤ bt405.1 then (if bt405.1 ≤ (y389.length : Int) then (some ((y389.take (bt405.1 : Int).toNat), 1)) else (none)) else (none))) else (if bt392.1 = 2 then ((spec_l1PickInt.f t373 bt392.2.1 bt392.2.2 (([(-1), 0, (y389.length : Int)] : List Int))).bind fun bt414 => (some (y389, bt414.1))) else (some (y389, 1))))))) else (none))) = some (r1, r2) := H
 have A3 := Aside0.mk A30
 clear A30
 replace H := Option.bind_eq_some_iff.mp H
 obtain ⟨t386, A40, H⟩ := H
 replace H : (if y377.length + t386.length < 140737488355328 then ((some (y377 ++ t386 : List Int)).bind fun y389 => ((spec_l1Below.f t373 t384 t385 6).bind fun bt392 => (if bt392.1 = 0 then ((spec_l1Below.f t373 bt392.2.1 bt392.2.2 (y389.length : Int)).bind fun bt395 => ((spec_l1PickInt.f t373 bt395.2.1 bt395.2.2 (([0, 1, 2, 127, 128, 255] : List Int))).bind fun bt401 => (if 0 ≤ bt395.1 then (if bt395.1 < (y389.length : Int) then (some ((y389.set (bt395.1 : Int).toNat ((bt401.1) % 256)), 1)) else (none)) else (none)))) else (if bt392.1 = 1 then ((spec_l1Below.f t373 bt392.2.1 bt392.2.2 (wrap64 ((y389.length : Int) + 1))).bind fun bt405 => (if 0 ≤ bt405.1 then (if bt405.1 ≤ (y389.length : Int) then (some ((y389.take (bt405.1 : Int).toNat), 1)) else (none)) else (none))) else (if bt392.1 = 2 then ((spec_l1PickInt.f t373 bt392.2.1 bt392.2.2 (([(-1), 0, (y389.length : Int)] : List Int))).bind fun bt414 => (some (y389, bt414.1))) else (some (y389, 1))))))) else (none)) = some (r1, r2) := H
 have A4 := Aside0.mk A40
 clear A40
 by_cases c5 : y377.length + t386.length < 140737488355328
 ·rw [if_pos c5] at H
  have LMc5 := Aside0.mk c5
  clear c5
  obtain ⟨y389, hy389⟩ : ∃ y_ : List Int, y_ = (y377 ++ t386) := ⟨_, rfl⟩
  replace H : ((spec_l1Below.f t373 t384 t385 6).bind fun bt392 => (if bt392.1 = 0 then ((spec_l1Below.f t373 bt392.2.1 bt392.2.2 (y389.length : Int)).bind fun bt395 => ((spec_l1PickInt.f t373 bt395.2.1 bt395.2.2 (([0, 1, 2, 127, 128, 255] : List Int))).bind fun bt401 => (if 0 ≤ bt395.1 then (if bt395.1 < (y389.length : Int) then (some ((y389.set (bt395.1 : Int).toNat ((bt401.1) % 256)), 1)) else (none)) else (none)))) else (if bt392.1 = 1 then ((spec_l1Below.f t373 bt392.2.1 bt392.2.2 (wrap64 ((y389.length : Int) + 1))).bind fun bt405 => (if 0 ≤ bt405.1 then (if bt405.1 ≤ (y389.length : Int) then (some ((y389.take (bt405.1 : Int).toNat), 1)) else (none)) else (none))) else (if bt392.1 = 2 then ((spec_l1PickInt.f t373 bt392.2.1 bt392.2.2 (([(-1), 0, (y389.length : Int)] : List Int))).bind fun bt414 => (some (y389, bt414.1))) else (some (y389, 1)))))) = some (r1, r2) := by first | (rw [hy389]; with_reducible exact H) | (have H2_ := (Option.bind_some _ _).symm.trans H; rw [hy389]; with_reducible exact H2_) | (have H2_ := (Option.bind_some _ _).symm.trans H; with_reducible exact H2_) | with_reducible exact H | (rw [hy389]; exact H) | exact H
  have Ny389 := Aside0.mk hy389
  clear hy389
  replace H := Option.bind_eq_some_iff.mp H
  obtain ⟨⟨t392, t393, t394⟩, A60, H⟩ := H
  replace H : (if t392 = 0 then ((spec_l1Below.f t373 t393 t394 (y389.length : Int)).bind fun bt395 => ((spec_l1PickInt.f t373 bt395.2.1 bt395.2.2 (([0, 1, 2, 127, 128, 255] : List Int))).bind fun bt401 => (if 0 ≤ bt395.1 then (if bt395.1 < (y389.length : Int) then (some ((y389.set (bt395.1 : Int).toNat ((bt401.1) % 256)), 1)) else (none)) else (none)))) else (if t392 = 1 then ((spec_l1Below.f t373 t393 t394 (wrap64 ((y389.length : Int) + 1))).bind fun bt405 => (if 0 ≤ bt405.1 then (if bt405.1 ≤ (y389.length : Int) then (some ((y389.take (bt405.1 : Int).toNat), 1)) else (none)) else (none))) else (if t392 = 2 then ((spec_l1PickInt.f t373 t393 t394 (([(-1), 0, (y389.length : Int)] : List Int))).bind fun bt414 => (some (y389, bt414.1))) else (some (y389, 1))))) = some (r1, r2) := H
  have A6 := Aside0.mk A60
  clear A60
  by_cases c7 : t392 = 0
  ·rw [if_pos c7] at H
   have c7b0 : (t392 == 0) = true := beq_iff_eq.mpr c7
   have c7b1 : (t392 != 0) = false := bne_eq_false_iff_eq.mpr c7
   clear c7
   replace H := Option.bind_eq_some_iff.mp H
   obtain ⟨⟨t395, t396, t397⟩, A80, H⟩ := H
   replace H : ((spec_l1PickInt.f t373 t396 t397 (([0, 1, 2, 127, 128, 255] : List Int))).bind fun bt401 => (if 0 ≤ t395 then (if t395 < (y389.length : Int) then (some ((y389.set (t395 : Int).toNat ((bt401.1) % 256)), 1)) else (none)) else (none))) = some (r1, r2) := H
   have A8 := Aside0.mk A80
   clear A80
   obtain ⟨y398, hy398⟩ : ∃ y_ : List Int, y_ = (([0, 1, 2, 127, 128, 255] : List Int)) := ⟨_, rfl⟩
   replace H : ((spec_l1PickInt.f t373 t396 t397 y398).bind fun bt401 => (if 0 ≤ t395 then (if t395 < (y389.length : Int) then (some ((y389.set (t395 : Int).toNat ((bt401.1) % 256)), 1)) else (none)) else (none))) = some (r1, r2) := by first | (rw [hy398]; with_reducible exact H) | (have H2_ := (Option.bind_some _ _).symm.trans H; rw [hy398]; with_reducible exact H2_) | (have H2_ := (Option.bind_some _ _).symm.trans H; with_reducible exact H2_) | with_reducible exact H | (rw [hy398]; exact H) | exact H
   have Ny398 := Aside0.mk hy398
   clear hy398
   replace H := Option.bind_eq_some_iff.mp H
   obtain ⟨⟨t401, t402, t403⟩, A90, H⟩ := H
   replace H : (if 0 ≤ t395 then (if t395 < (y389.length : Int) then (some ((y389.set (t395 : Int).toNat ((t401) % 256)), 1)) else (none)) else (none)) = some (r1, r2) := H
   have A9 := Aside0.mk A90
   clear A90
   by_cases c10 : 0 ≤ t395
   ·rw [if_pos c10] at H
    have c10b0 : decide (0 ≤ t395) = true := decide_eq_true c10
    clear c10
    by_cases c11 : t395 < (y389.length : Int)
    ·rw [if_pos c11] at H
     have c11b0 : decide (t395 < (y389.length : Int)) = true := decide_eq_true c11
     clear c11
     obtain ⟨y404, hy404⟩ : ∃ y_ : List Int, y_ = (y389.set (t395 : Int).toNat ((t401) % 256)) := ⟨_, rfl⟩
     replace H : (some (y404, 1)) = some (r1, r2) := by first | (rw [hy404]; with_reducible exact H) | (have H2_ := (Option.bind_some _ _).symm.trans H; rw [hy404]; with_reducible exact H2_) | (have H2_ := (Option.bind_some _ _).symm.trans H; with_reducible exact H2_) | with_reducible exact H | (rw [hy404]; exact H) | exact H
     have Ny404 := Aside0.mk hy404
     clear hy404
     simp only [Option.some.injEq, Prod.mk.injEq] at H
     obtain ⟨rfl, rfl⟩ := H
     go_enter Try.func34, Try.ntmps34
     go_wp2_with (first | ((with_reducible refine gate_callee (f := 56) rfl ?_); refine goesL_ (some 7) rfl rfl Try.func56 (by kernel_rfl) rfl #[.slice A0 l0.length c0] rfl KL ?_; (with_reducible refine (spec_l1New.calls k _ _ l0 t373 t374 t375 w _ ?side1 ?side2 ?side3 A2.out).mono ?_); (case side1 => exact KB); (case side2 => exact HR0.out); (case side3 => exact HC0.out); rintro e w13 ⟨g376, rfl, hi, hb, hb2⟩; refine ⟨_, rfl, ?_⟩; have n0_ := Aside0.mk (hb); have n1_ := Aside0.mk (hi); clear HB; have HB := n0_; have HI376 := n1_; clear n0_ n1_; (try clear hb); (try clear hb2); (try clear hk); (try clear hi)) | ((with_reducible refine gate_dst (N := 8) rfl ?_); refine Kd.R_lit (Kd.int .u8) _ 5 ?hg (N := 8) ?hd (xs := ([9] : List Int)) (inner := [.int .u8 9]) (ok := fun _ => True) (okp := fun _ => True) ?hr ?hp (fun _ hk => hk) trivial (Below.refl _ _) (Nat.le_refl _) (by simp) ?_; (case hd => rfl); (case hg => rfl); (case hr => first | (go_simp; done) | (go_simp; rfl)); (case hp => exact (Reps.one (show Kd.M (Kd.int .u8) _ _ _ 9 [.int .u8 9] from rfl) (Reps.none _ _))); intro v378 w14 ho15 hb hg_ hnew_; clear hg_ hnew_; (first | rw [← Ny377.out] at ho15 | (simp only [Int.reduceToNat] at ho15; rw [← Ny377.out] at ho15)); have n0_ := Aside0.mk (Kd.R_lower ho15 (below_size KB100)); have n1_ := Aside0.mk (IsS100.below (KI100) hb); have n2_ := Aside0.mk (below_step KB100 hb); clear HI376; clear HB; have HO379 := n0_; have HI376 := n1_; have HB := n2_; clear n0_ n1_ n2_; clear hb ho15) | ((with_reducible refine gate_callee (f := 69) rfl ?_); refine goesL_ (some 10) rfl rfl Try.func69 (by kernel_rfl) rfl #[.pointer (some ⟨g376, 0, none⟩)] rfl KL ?_; (with_reducible refine (spec_l3DrawRight.calls g376 t373 t374 t375 t380 t381 t382 t383 t384 t385 w _ ?side1 ?side2 A3.out).mono ?_); (case side1 => exact KI100); (case side2 => exact KB100); rintro e w16 ⟨rfl, hi, hb, hk⟩; refine ⟨_, rfl, ?_⟩; have n0_ := Aside0.mk (Kd.R_mono (Kd.R_keep (IsS100.apart (show IsS100 w _ g376 t373 t374 t375 from KI100) (by (with_reducible repeat (first | apply Kd.R_alloc | apply Kd.R_drewN | apply Kd.R_drew)); exact HO379.out) (by decide)) hk (fun _ h => h.2)) (fun _ h => h.1)); have n1_ := Aside0.mk (hb); have n2_ := Aside0.mk (hi); clear HO379; clear HB; clear HI376; have HO379 := n0_; have HB := n1_; have HI376 := n2_; clear n0_ n1_ n2_; (try clear hb); (try clear hb2); (try clear hk); (try clear hi)) | ((with_reducible refine gate_callee (f := 52) rfl ?_); refine goesL_ (some 11) rfl rfl Try.func52 (by kernel_rfl) rfl #[.agg #[.int .i64 t380, .int .i64 t381, .bool t382, .string t383]] rfl KL ?_; (with_reducible refine (spec_l3Pack.calls k t380 t381 t382 t383 t386 _ A4.out).mono ?_); rintro e w17 ⟨v387, rfl, ho0, hb⟩; refine ⟨_, rfl, ?_⟩; have n0_ := Aside0.mk (Kd.R_elder' (by (with_reducible repeat (first | apply Kd.R_alloc | apply Kd.R_drewN | apply Kd.R_drew)); exact HO379.out) (Kd.R_base ho0) hb); have n1_ := Aside0.mk (Kd.R_lower (Kd.R_new' ho0 (Kd.R_lt (by (with_reducible repeat (first | apply Kd.R_alloc | apply Kd.R_drewN | apply Kd.R_drew)); exact HO379.out))) (below_size KB100)); have n2_ := Aside0.mk (IsS100.below (KI100) hb); have n3_ := Aside0.mk (below_step KB100 hb); clear HO379; clear HI376; clear HB; have HO379 := n0_; have HO388 := n1_; have HI376 := n2_; have HB := n3_; clear n0_ n1_ n2_ n3_; (try clear hb); (try clear hb2); (try clear hk); (try clear hi); (try clear ho0); obtain ⟨Ao19, co19, eo19⟩ := Kd.R_slice HO388.out; subst eo19) | ((with_reducible refine gate_builtin (b := .append) (xs := #[.tmp 8, .tmp 11]) rfl ?_); at_builtin; refine Kd.R_append_rows (Kd.int .u8) (w0 := w) w.heap.size rfl (.tmp 8) (.tmp 11) 22 5 (.int .u8 0) 1 rfl Try.underlying22 info5 rfl (by decide) (by omega) v378 y377 t386 _ _ _ (fun k_ => some k_ ≠ (.slice Ao19 t386.length co19 : Value).ownBlock) (fun _ => False) rfl rfl ?aO ?aR (fun _ _ h => h) (fun _ h => h.elim) ?aF ?aB ?aS ?aL ?_; (case aR => repeat (first | exact (Kd.R_reads' HO388.out).2.2 | (with_reducible refine Kd.C_alloc ?_ _) | (with_reducible refine Kd.C_drewN ?_ _) | (with_reducible refine Kd.C_drew ?_))); (case aB => exact KB100); (case aF => exact (fun k_ hk => Kd.fresh' (Kd.R_lt (by (with_reducible repeat (first | apply Kd.R_alloc | apply Kd.R_drewN | apply Kd.R_drew)); exact HO388.out)) k_ hk)); (case aO => exact (by (with_reducible repeat (first | apply Kd.R_alloc | apply Kd.R_drewN | apply Kd.R_drew)); exact Kd.R_mono HO379.out (fun _ hk => hk.2))); (case aS => exact (below_size KB100)); (case aL => have := LMc5.out; omega); intro v390 w18 ho hb hg hat; rw [← Ny389.out] at ho; have n0_ := Aside0.mk (IsS100.grown (KI100) hg (IsS100.own_ne HI376.out HO379.out (by decide))); have n1_ := Aside0.mk (Kd.R_after (ok := (fun _ => True)) (by (with_reducible repeat (first | apply Kd.R_alloc | apply Kd.R_drewN | apply Kd.R_drew)); exact HO388.out) hg hat); have n2_ := Aside0.mk (hb); have n3_ := Aside0.mk (ho); clear HI376; clear HO388; clear HB; clear HO379; have HI376 := n0_; have HO388 := n1_; have HB := n2_; have HO391 := n3_; clear n0_ n1_ n2_ n3_; clear ho hb hg hat) | ((with_reducible refine gate_callee (f := 58) rfl ?_); refine goesL_ (some 14) rfl rfl Try.func58 (by kernel_rfl) rfl #[.pointer (some ⟨g376, 0, none⟩), .int .i64 6] rfl KL ?_; (with_reducible refine (spec_l1Below.calls g376 t373 t384 t385 6 t392 t393 t394 w _ ?side1 ?side2 A6.out).mono ?_); (case side1 => exact KI100); (case side2 => exact KB100); rintro e w20 ⟨rfl, hi, hb, hk⟩; refine ⟨_, rfl, ?_⟩; have n0_ := Aside0.mk (Kd.R_mono (Kd.R_keep (IsS100.apart (show IsS100 w _ g376 t373 t384 t385 from KI100) (by (with_reducible repeat (first | apply Kd.R_alloc | apply Kd.R_drewN | apply Kd.R_drew)); exact HO388.out) (by decide)) hk (fun _ h => h.2)) (fun _ h => h.1)); have n1_ := Aside0.mk (Kd.R_mono (Kd.R_keep (IsS100.apart (show IsS100 w _ g376 t373 t384 t385 from KI100) (by (with_reducible repeat (first | apply Kd.R_alloc | apply Kd.R_drewN | apply Kd.R_drew)); exact HO391.out) (by decide)) hk (fun _ h => h.2)) (fun _ h => h.1)); have n2_ := Aside0.mk (hb); have n3_ := Aside0.mk (hi); clear HO388; clear HO391; clear HB; clear HI376; have HO388 := n0_; have HO391 := n1_; have HB := n2_; have HI376 := n3_; clear n0_ n1_ n2_ n3_; (try clear hb); (try clear hb2); (try clear hk); (try clear hi); obtain ⟨Ao21, co21, eo21⟩ := Kd.R_slice HO391.out; subst eo21) | ((with_reducible refine gate_callee (f := 58) rfl ?_); refine goesL_ (some 21) rfl rfl Try.func58 (by kernel_rfl) rfl #[.pointer (some ⟨g376, 0, none⟩), .int .i64 (y389.length : Int)] rfl KL ?_; (with_reducible refine (spec_l1Below.calls g376 t373 t393 t394 (y389.length : Int) t395 t396 t397 w _ ?side1 ?side2 A8.out).mono ?_); (case side1 => exact KI100); (case side2 => exact KB100); rintro e w22 ⟨rfl, hi, hb, hk⟩; refine ⟨_, rfl, ?_⟩; have n0_ := Aside0.mk (Kd.R_mono (Kd.R_keep (IsS100.apart (show IsS100 w _ g376 t373 t393 t394 from KI100) (by (with_reducible repeat (first | apply Kd.R_alloc | apply Kd.R_drewN | apply Kd.R_drew)); exact HO388.out) (by decide)) hk (fun _ h => h.2)) (fun _ h => h.1)); have n1_ := Aside0.mk (Kd.R_mono (Kd.R_keep (IsS100.apart (show IsS100 w _ g376 t373 t393 t394 from KI100) (by (with_reducible repeat (first | apply Kd.R_alloc | apply Kd.R_drewN | apply Kd.R_drew)); exact HO391.out) (by decide)) hk (fun _ h => h.2)) (fun _ h => h.1)); have n2_ := Aside0.mk (hb); have n3_ := Aside0.mk (hi); clear HO388; clear HO391; clear HB; clear HI376; have HO388 := n0_; have HO391 := n1_; have HB := n2_; have HI376 := n3_; clear n0_ n1_ n2_ n3_; (try clear hb); (try clear hb2); (try clear hk); (try clear hi)) | ((with_reducible refine gate_dst (N := 23) rfl ?_); refine Kd.R_lit (Kd.int .i64) _ 3 ?hg (N := 23) ?hd (xs := ([0, 1, 2, 127, 128, 255] : List Int)) (inner := [.int .i64 0, .int .i64 1, .int .i64 2, .int .i64 127, .int .i64 128, .int .i64 255]) (ok := fun _ => True) (okp := fun _ => True) ?hr ?hp (fun _ hk => hk) trivial (Below.refl _ _) (Nat.le_refl _) (by simp) ?_; (case hd => rfl); (case hg => rfl); (case hr => first | (go_simp; done) | (go_simp; rfl)); (case hp => exact (Reps.one (show Kd.M (Kd.int .i64) _ _ _ 0 [.int .i64 0] from rfl) (Reps.one (show Kd.M (Kd.int .i64) _ _ _ 1 [.int .i64 1] from rfl) (Reps.one (show Kd.M (Kd.int .i64) _ _ _ 2 [.int .i64 2] from rfl) (Reps.one (show Kd.M (Kd.int .i64) _ _ _ 127 [.int .i64 127] from rfl) (Reps.one (show Kd.M (Kd.int .i64) _ _ _ 128 [.int .i64 128] from rfl) (Reps.one (show Kd.M (Kd.int .i64) _ _ _ 255 [.int .i64 255] from rfl) (Reps.none _ _)))))))); intro v399 w23 ho24 hb hg_ hnew_; clear hg_ hnew_; (first | rw [← Ny398.out] at ho24 | (simp only [Int.reduceToNat] at ho24; rw [← Ny398.out] at ho24)); have n0_ := Aside0.mk (Kd.R_below (by (with_reducible repeat (first | apply Kd.R_alloc | apply Kd.R_drewN | apply Kd.R_drew)); exact HO388.out) hb); have n1_ := Aside0.mk (Kd.R_below (by (with_reducible repeat (first | apply Kd.R_alloc | apply Kd.R_drewN | apply Kd.R_drew)); exact HO391.out) hb); have n2_ := Aside0.mk (Kd.R_lower ho24 (below_size KB100)); have n3_ := Aside0.mk (IsS100.below (KI100) hb); have n4_ := Aside0.mk (below_step KB100 hb); clear HO388; clear HO391; clear HI376; clear HB; have HO388 := n0_; have HO391 := n1_; have HO400 := n2_; have HI376 := n3_; have HB := n4_; clear n0_ n1_ n2_ n3_ n4_; clear hb ho24; obtain ⟨Ao25, co25, eo25⟩ := Kd.R_slice HO400.out; subst eo25) | ((with_reducible refine gate_callee (f := 57) rfl ?_); refine goesL_ (some 24) rfl rfl Try.func57 (by kernel_rfl) rfl #[.pointer (some ⟨g376, 0, none⟩), .slice Ao25 y398.length co25] rfl KL ?_; (with_reducible refine (spec_l1PickInt.calls g376 t373 t396 t397 _ _ y398 t401 t402 t403 w _ ?side1 ?side2 ?side3 ?side4 ?side5 A9.out).mono ?_); (case side1 => exact KI100); (case side2 => exact KB100); (case side3 => repeat (first | exact (Kd.R_reads' HO400.out).2.2 | (with_reducible refine Kd.C_alloc ?_ _) | (with_reducible refine Kd.C_drewN ?_ _) | (with_reducible refine Kd.C_drew ?_))); (case side4 => exact (Kd.R_reads' HO400.out).2.1); (case side5 => exact far_slice (IsS100.own_ne HI376.out HO400.out (by decide))); rintro e w26 ⟨rfl, hi, hb, hk⟩; refine ⟨_, rfl, ?_⟩; have n0_ := Aside0.mk (Kd.R_mono (Kd.R_keep (IsS100.apart (show IsS100 w _ g376 t373 t396 t397 from KI100) (by (with_reducible repeat (first | apply Kd.R_alloc | apply Kd.R_drewN | apply Kd.R_drew)); exact HO388.out) (by decide)) hk (fun _ h => h.2)) (fun _ h => h.1)); have n1_ := Aside0.mk (Kd.R_mono (Kd.R_keep (IsS100.apart (show IsS100 w _ g376 t373 t396 t397 from KI100) (by (with_reducible repeat (first | apply Kd.R_alloc | apply Kd.R_drewN | apply Kd.R_drew)); exact HO391.out) (by decide)) hk (fun _ h => h.2)) (fun _ h => h.1)); have n2_ := Aside0.mk (Kd.R_mono (Kd.R_keep (IsS100.apart (show IsS100 w _ g376 t373 t396 t397 from KI100) (by (with_reducible repeat (first | apply Kd.R_alloc | apply Kd.R_drewN | apply Kd.R_drew)); exact HO400.out) (by decide)) hk (fun _ h => h.2)) (fun _ h => h.1)); have n3_ := Aside0.mk (hb); have n4_ := Aside0.mk (hi); clear HO388; clear HO391; clear HO400; clear HB; clear HI376; have HO388 := n0_; have HO391 := n1_; have HO400 := n2_; have HB := n3_; have HI376 := n4_; clear n0_ n1_ n2_ n3_ n4_; (try clear hb); (try clear hb2); (try clear hk); (try clear hi); have p12 : 0 ≤ (t395 : Int) := of_decide_eq_true (by first | (with_reducible assumption) | assumption); have q12 : (t395 : Int) < ((y389.length : Int) : Int) := of_decide_eq_true (by first | (with_reducible assumption) | assumption); obtain ⟨go12, co12, eo12, gb12, gl12, cl12, HG12⟩ := Kd.R_form HO391.out (by omega); (first | cases eo12 | (injection eo12 with ea_ en_ ec_; (first | subst ea_ | (injection ea_ with ea_; subst ea_)); subst ec_; clear en_)); have GB12 := Aside0.mk gb12; have GG12 := Aside0.mk HG12; clear gb12 gl12 HG12; obtain ⟨hx12_0, hf12_0⟩ := Kd.R_celln 0 HO391.out (t395 : Int) p12 q12; replace p12 := eq_true p12; replace q12 := eq_true q12; obtain ⟨hy27_, hz27_⟩ := Kd.R_celln 0 HO391.out (t395 : Int) (of_decide_eq_true (by first | (with_reducible assumption) | assumption)) (of_decide_eq_true (by first | (with_reducible assumption) | assumption)); have HP27 := Kd.R_putg HO391.out (t395 : Int) ((t401) % 256)) | ((with_reducible refine gate_store (t := 5) (p := 26) rfl ?_); refine store_event (t := 5) (p := 26) (v := ?vo_w28) (w1 := (w26.setCell ⟨go12, (t395 : Int).toNat, none⟩ (.int .u8 ((t401) % 256)))) ?hg ?ho ?hn ?hr ?_; (case ho => rfl); (case hg => rfl); (case hn => rfl); (case hr => first | (go_simp; done) | (go_simp; rfl)); intro w28 hw; have hg : w26.grownBy w28 (some go12) := (by rw [hw]; exact HP27.2); have hp_ : Kd.R (Kd.int .u8) 5 w28 w.heap.size (fun k_ => some k_ ≠ (.slice Ao19 t386.length co19 : Value).ownBlock) (.slice (some ⟨go12, 0, none⟩) y389.length co21) y404 := (by rw [hw, Ny404.out]; exact HP27.1); clear HP27; have n0_ := Aside0.mk (IsS100.grown (KI100) hg (IsS100.own_ne HI376.out HO391.out (by decide))); have n1_ := Aside0.mk (Kd.R_after (v := (.slice (some ⟨go12, 0, none⟩) y389.length co21)) (v1 := (.slice (some ⟨go12, 0, none⟩) y389.length co21)) (ok := (fun _ => True)) (by (with_reducible repeat (first | apply Kd.R_alloc | apply Kd.R_drewN | apply Kd.R_drew)); exact HO388.out) hg (.inl rfl)); have n2_ := Aside0.mk (hp_); have n3_ := Aside0.mk (Kd.R_over' (v := (.slice (some ⟨go12, 0, none⟩) y389.length co21)) (by (with_reducible repeat (first | apply Kd.R_alloc | apply Kd.R_drewN | apply Kd.R_drew)); exact HO400.out) (Kd.R_typed HO391.out) (by decide) hg); have n4_ := Aside0.mk ((by rw [hw]; exact below_set (HB.out) GB12.out : Below w.heap.size w w28)); clear HI376; clear HO388; clear HO391; clear HO400; clear HB; have HI376 := n0_; have HO388 := n1_; have HO391 := n2_; have HO400 := n3_; have HB := n4_; clear n0_ n1_ n2_ n3_ n4_; clear hg hw hp_))
     go_ret2
     exact ⟨_, by first | rfl | (simp [errW_none, errW_some] <;> rfl) | (simp [*, errW_none, errW_some] <;> rfl), by (with_reducible repeat (first | apply Kd.R_alloc | apply Kd.R_drewN | apply Kd.R_drew)); exact Kd.R_mono HO391.out (fun _ hk => trivial), KB100⟩
    ·rw [if_neg c11] at H
     exact absurd H (by simp)
   ·rw [if_neg c10] at H
    exact absurd H (by simp)
  ·rw [if_neg c7] at H
   have c7b0 : (t392 == 0) = false := beq_eq_false_iff_ne.mpr c7
   have c7b1 : (t392 != 0) = true := bne_iff_ne.mpr c7
   by_cases c29 : t392 = 1
   ·rw [if_pos c29] at H
    have c29b0 : (t392 == 1) = true := beq_iff_eq.mpr c29
    have c29b1 : (t392 != 1) = false := bne_eq_false_iff_eq.mpr c29
    clear c29
    replace H := Option.bind_eq_some_iff.mp H
    obtain ⟨⟨t405, t406, t407⟩, A300, H⟩ := H
    replace H : (if 0 ≤ t405 then (if t405 ≤ (y389.length : Int) then (some ((y389.take (t405 : Int).toNat), 1)) else (none)) else (none)) = some (r1, r2) := H
    have A30 := Aside0.mk A300
    clear A300
    by_cases c31 : 0 ≤ t405
    ·rw [if_pos c31] at H
     have c31b0 := eq_true c31
     have c31b1 : decide (0 ≤ t405) = true := decide_eq_true c31
     clear c31
     by_cases c32 : t405 ≤ (y389.length : Int)
     ·rw [if_pos c32] at H
      have c32b0 := eq_true c32
      have c32b1 : decide (t405 ≤ (y389.length : Int)) = true := decide_eq_true c32
      clear c32
      obtain ⟨y408, hy408⟩ : ∃ y_ : List Int, y_ = (y389.take (t405 : Int).toNat) := ⟨_, rfl⟩
      replace H : (some (y408, 1)) = some (r1, r2) := by first | (rw [hy408]; with_reducible exact H) | (have H2_ := (Option.bind_some _ _).symm.trans H; rw [hy408]; with_reducible exact H2_) | (have H2_ := (Option.bind_some _ _).symm.trans H; with_reducible exact H2_) | with_reducible exact H | (rw [hy408]; exact H) | exact H
      have Ny408 := Aside0.mk hy408
      clear hy408
      simp only [Option.some.injEq, Prod.mk.injEq] at H
      obtain ⟨rfl, rfl⟩ := H
      go_enter Try.func34, Try.ntmps34
      go_wp2_with (first | ((with_reducible refine gate_callee (f := 56) rfl ?_); refine goesL_ (some 7) rfl rfl Try.func56 (by kernel_rfl) rfl #[.slice A0 l0.length c0] rfl KL ?_; (with_reducible refine (spec_l1New.calls k _ _ l0 t373 t374 t375 w _ ?side1 ?side2 ?side3 A2.out).mono ?_); (case side1 => exact KB); (case side2 => exact HR0.out); (case side3 => exact HC0.out); rintro e w33 ⟨g376, rfl, hi, hb, hb2⟩; refine ⟨_, rfl, ?_⟩; have n0_ := Aside0.mk (hb); have n1_ := Aside0.mk (hi); clear HB; have HB := n0_; have HI376 := n1_; clear n0_ n1_; (try clear hb); (try clear hb2); (try clear hk); (try clear hi)) | ((with_reducible refine gate_dst (N := 8) rfl ?_); refine Kd.R_lit (Kd.int .u8) _ 5 ?hg (N := 8) ?hd (xs := ([9] : List Int)) (inner := [.int .u8 9]) (ok := fun _ => True) (okp := fun _ => True) ?hr ?hp (fun _ hk => hk) trivial (Below.refl _ _) (Nat.le_refl _) (by simp) ?_; (case hd => rfl); (case hg => rfl); (case hr => first | (go_simp; done) | (go_simp; rfl)); (case hp => exact (Reps.one (show Kd.M (Kd.int .u8) _ _ _ 9 [.int .u8 9] from rfl) (Reps.none _ _))); intro v378 w34 ho35 hb hg_ hnew_; clear hg_ hnew_; (first | rw [← Ny377.out] at ho35 | (simp only [Int.reduceToNat] at ho35; rw [← Ny377.out] at ho35)); have n0_ := Aside0.mk (Kd.R_lower ho35 (below_size KB100)); have n1_ := Aside0.mk (IsS100.below (KI100) hb); have n2_ := Aside0.mk (below_step KB100 hb); clear HI376; clear HB; have HO379 := n0_; have HI376 := n1_; have HB := n2_; clear n0_ n1_ n2_; clear hb ho35) | ((with_reducible refine gate_callee (f := 69) rfl ?_); refine goesL_ (some 10) rfl rfl Try.func69 (by kernel_rfl) rfl #[.pointer (some ⟨g376, 0, none⟩)] rfl KL ?_; (with_reducible refine (spec_l3DrawRight.calls g376 t373 t374 t375 t380 t381 t382 t383 t384 t385 w _ ?side1 ?side2 A3.out).mono ?_); (case side1 => exact KI100); (case side2 => exact KB100); rintro e w36 ⟨rfl, hi, hb, hk⟩; refine ⟨_, rfl, ?_⟩; have n0_ := Aside0.mk (Kd.R_mono (Kd.R_keep (IsS100.apart (show IsS100 w _ g376 t373 t374 t375 from KI100) (by (with_reducible repeat (first | apply Kd.R_alloc | apply Kd.R_drewN | apply Kd.R_drew)); exact HO379.out) (by decide)) hk (fun _ h => h.2)) (fun _ h => h.1)); have n1_ := Aside0.mk (hb); have n2_ := Aside0.mk (hi); clear HO379; clear HB; clear HI376; have HO379 := n0_; have HB := n1_; have HI376 := n2_; clear n0_ n1_ n2_; (try clear hb); (try clear hb2); (try clear hk); (try clear hi)) | ((with_reducible refine gate_callee (f := 52) rfl ?_); refine goesL_ (some 11) rfl rfl Try.func52 (by kernel_rfl) rfl #[.agg #[.int .i64 t380, .int .i64 t381, .bool t382, .string t383]] rfl KL ?_; (with_reducible refine (spec_l3Pack.calls k t380 t381 t382 t383 t386 _ A4.out).mono ?_); rintro e w37 ⟨v387, rfl, ho0, hb⟩; refine ⟨_, rfl, ?_⟩; have n0_ := Aside0.mk (Kd.R_elder' (by (with_reducible repeat (first | apply Kd.R_alloc | apply Kd.R_drewN | apply Kd.R_drew)); exact HO379.out) (Kd.R_base ho0) hb); have n1_ := Aside0.mk (Kd.R_lower (Kd.R_new' ho0 (Kd.R_lt (by (with_reducible repeat (first | apply Kd.R_alloc | apply Kd.R_drewN | apply Kd.R_drew)); exact HO379.out))) (below_size KB100)); have n2_ := Aside0.mk (IsS100.below (KI100) hb); have n3_ := Aside0.mk (below_step KB100 hb); clear HO379; clear HI376; clear HB; have HO379 := n0_; have HO388 := n1_; have HI376 := n2_; have HB := n3_; clear n0_ n1_ n2_ n3_; (try clear hb); (try clear hb2); (try clear hk); (try clear hi); (try clear ho0); obtain ⟨Ao39, co39, eo39⟩ := Kd.R_slice HO388.out; subst eo39) | ((with_reducible refine gate_builtin (b := .append) (xs := #[.tmp 8, .tmp 11]) rfl ?_); at_builtin; refine Kd.R_append_rows (Kd.int .u8) (w0 := w) w.heap.size rfl (.tmp 8) (.tmp 11) 22 5 (.int .u8 0) 1 rfl Try.underlying22 info5 rfl (by decide) (by omega) v378 y377 t386 _ _ _ (fun k_ => some k_ ≠ (.slice Ao39 t386.length co39 : Value).ownBlock) (fun _ => False) rfl rfl ?aO ?aR (fun _ _ h => h) (fun _ h => h.elim) ?aF ?aB ?aS ?aL ?_; (case aR => repeat (first | exact (Kd.R_reads' HO388.out).2.2 | (with_reducible refine Kd.C_alloc ?_ _) | (with_reducible refine Kd.C_drewN ?_ _) | (with_reducible refine Kd.C_drew ?_))); (case aB => exact KB100); (case aF => exact (fun k_ hk => Kd.fresh' (Kd.R_lt (by (with_reducible repeat (first | apply Kd.R_alloc | apply Kd.R_drewN | apply Kd.R_drew)); exact HO388.out)) k_ hk)); (case aO => exact (by (with_reducible repeat (first | apply Kd.R_alloc | apply Kd.R_drewN | apply Kd.R_drew)); exact Kd.R_mono HO379.out (fun _ hk => hk.2))); (case aS => exact (below_size KB100)); (case aL => have := LMc5.out; omega); intro v390 w38 ho hb hg hat; rw [← Ny389.out] at ho; have n0_ := Aside0.mk (IsS100.grown (KI100) hg (IsS100.own_ne HI376.out HO379.out (by decide))); have n1_ := Aside0.mk (Kd.R_after (ok := (fun _ => True)) (by (with_reducible repeat (first | apply Kd.R_alloc | apply Kd.R_drewN | apply Kd.R_drew)); exact HO388.out) hg hat); have n2_ := Aside0.mk (hb); have n3_ := Aside0.mk (ho); clear HI376; clear HO388; clear HB; clear HO379; have HI376 := n0_; have HO388 := n1_; have HB := n2_; have HO391 := n3_; clear n0_ n1_ n2_ n3_; clear ho hb hg hat) | ((with_reducible refine gate_callee (f := 58) rfl ?_); refine goesL_ (some 14) rfl rfl Try.func58 (by kernel_rfl) rfl #[.pointer (some ⟨g376, 0, none⟩), .int .i64 6] rfl KL ?_; (with_reducible refine (spec_l1Below.calls g376 t373 t384 t385 6 t392 t393 t394 w _ ?side1 ?side2 A6.out).mono ?_); (case side1 => exact KI100); (case side2 => exact KB100); rintro e w40 ⟨rfl, hi, hb, hk⟩; refine ⟨_, rfl, ?_⟩; have n0_ := Aside0.mk (Kd.R_mono (Kd.R_keep (IsS100.apart (show IsS100 w _ g376 t373 t384 t385 from KI100) (by (with_reducible repeat (first | apply Kd.R_alloc | apply Kd.R_drewN | apply Kd.R_drew)); exact HO388.out) (by decide)) hk (fun _ h => h.2)) (fun _ h => h.1)); have n1_ := Aside0.mk (Kd.R_mono (Kd.R_keep (IsS100.apart (show IsS100 w _ g376 t373 t384 t385 from KI100) (by (with_reducible repeat (first | apply Kd.R_alloc | apply Kd.R_drewN | apply Kd.R_drew)); exact HO391.out) (by decide)) hk (fun _ h => h.2)) (fun _ h => h.1)); have n2_ := Aside0.mk (hb); have n3_ := Aside0.mk (hi); clear HO388; clear HO391; clear HB; clear HI376; have HO388 := n0_; have HO391 := n1_; have HB := n2_; have HI376 := n3_; clear n0_ n1_ n2_ n3_; (try clear hb); (try clear hb2); (try clear hk); (try clear hi); obtain ⟨Ao41, co41, eo41⟩ := Kd.R_slice HO391.out; subst eo41) | ((with_reducible refine gate_callee (f := 58) rfl ?_); refine goesL_ (some 34) rfl rfl Try.func58 (by kernel_rfl) rfl #[.pointer (some ⟨g376, 0, none⟩), .int .i64 (wrap64 ((y389.length : Int) + 1))] rfl KL ?_; (with_reducible refine (spec_l1Below.calls g376 t373 t393 t394 (wrap64 ((y389.length : Int) + 1)) t405 t406 t407 w _ ?side1 ?side2 A30.out).mono ?_); (case side1 => exact KI100); (case side2 => exact KB100); rintro e w42 ⟨rfl, hi, hb, hk⟩; refine ⟨_, rfl, ?_⟩; have n0_ := Aside0.mk (Kd.R_mono (Kd.R_keep (IsS100.apart (show IsS100 w _ g376 t373 t393 t394 from KI100) (by (with_reducible repeat (first | apply Kd.R_alloc | apply Kd.R_drewN | apply Kd.R_drew)); exact HO388.out) (by decide)) hk (fun _ h => h.2)) (fun _ h => h.1)); have n1_ := Aside0.mk (Kd.R_mono (Kd.R_keep (IsS100.apart (show IsS100 w _ g376 t373 t393 t394 from KI100) (by (with_reducible repeat (first | apply Kd.R_alloc | apply Kd.R_drewN | apply Kd.R_drew)); exact HO391.out) (by decide)) hk (fun _ h => h.2)) (fun _ h => h.1)); have n2_ := Aside0.mk (hb); have n3_ := Aside0.mk (hi); clear HO388; clear HO391; clear HB; clear HI376; have HO388 := n0_; have HO391 := n1_; have HB := n2_; have HI376 := n3_; clear n0_ n1_ n2_ n3_; (try clear hb); (try clear hb2); (try clear hk); (try clear hi); have q43 : (t405 : Int) ≤ ((y389.length : Int) : Int) := of_decide_eq_true (by first | (with_reducible assumption) | assumption); obtain ⟨i043, hi043, _, hsz43, _⟩ := info_parts info5; have hcut43 := cut_to (P := Try.prog) 22 5 .i64 Try.underlying22 hi043 Ao41 y389.length co41 t405 (of_decide_eq_true (by first | (with_reducible assumption) | assumption)) q43 (Kd.R_reads' HO391.out).2.1; have hr43 := Kd.R_take (m := (t405 : Int).toNat) HO391.out (by omega); have hy43 : y408.length = (t405 : Int).toNat := (by rw [Ny408.out, List.length_take]; omega); rw [← Ny408.out] at hr43; rw [← hy43] at hr43 hcut43; clear hy43 hi043 hsz43 HO391; have HO410 := Aside0.mk hr43; clear hr43; replace q43 := eq_true q43))
      go_ret2
      exact ⟨_, by first | rfl | (simp [errW_none, errW_some] <;> rfl) | (simp [*, errW_none, errW_some] <;> rfl), by (with_reducible repeat (first | apply Kd.R_alloc | apply Kd.R_drewN | apply Kd.R_drew)); exact Kd.R_mono HO410.out (fun _ hk => trivial), KB100⟩
     ·rw [if_neg c32] at H
      exact absurd H (by simp)
    ·rw [if_neg c31] at H
     exact absurd H (by simp)
   ·rw [if_neg c29] at H
    have c29b0 : (t392 == 1) = false := beq_eq_false_iff_ne.mpr c29
    have c29b1 : (t392 != 1) = true := bne_iff_ne.mpr c29
    by_cases c44 : t392 = 2
    ·rw [if_pos c44] at H
     have c44b0 : (t392 == 2) = true := beq_iff_eq.mpr c44
     have c44b1 : (t392 != 2) = false := bne_eq_false_iff_eq.mpr c44
     clear c44
     obtain ⟨y411, hy411⟩ : ∃ y_ : List Int, y_ = (([(-1), 0, (y389.length : Int)] : List Int)) := ⟨_, rfl⟩
     replace H : ((spec_l1PickInt.f t373 t393 t394 y411).bind fun bt414 => (some (y389, bt414.1))) = some (r1, r2) := by first | (rw [hy411]; with_reducible exact H) | (have H2_ := (Option.bind_some _ _).symm.trans H; rw [hy411]; with_reducible exact H2_) | (have H2_ := (Option.bind_some _ _).symm.trans H; with_reducible exact H2_) | with_reducible exact H | (rw [hy411]; exact H) | exact H
     have Ny411 := Aside0.mk hy411
     clear hy411
     replace H := Option.bind_eq_some_iff.mp H
     obtain ⟨⟨t414, t415, t416⟩, A450, H⟩ := H
     replace H : (some (y389, t414)) = some (r1, r2) := H
     have A45 := Aside0.mk A450
     clear A450
     simp only [Option.some.injEq, Prod.mk.injEq] at H
     obtain ⟨rfl, rfl⟩ := H
     go_enter Try.func34, Try.ntmps34
     go_wp2_with (first | ((with_reducible refine gate_callee (f := 56) rfl ?_); refine goesL_ (some 7) rfl rfl Try.func56 (by kernel_rfl) rfl #[.slice A0 l0.length c0] rfl KL ?_; (with_reducible refine (spec_l1New.calls k _ _ l0 t373 t374 t375 w _ ?side1 ?side2 ?side3 A2.out).mono ?_); (case side1 => exact KB); (case side2 => exact HR0.out); (case side3 => exact HC0.out); rintro e w46 ⟨g376, rfl, hi, hb, hb2⟩; refine ⟨_, rfl, ?_⟩; have n0_ := Aside0.mk (hb); have n1_ := Aside0.mk (hi); clear HB; have HB := n0_; have HI376 := n1_; clear n0_ n1_; (try clear hb); (try clear hb2); (try clear hk); (try clear hi)) | ((with_reducible refine gate_dst (N := 8) rfl ?_); refine Kd.R_lit (Kd.int .u8) _ 5 ?hg (N := 8) ?hd (xs := ([9] : List Int)) (inner := [.int .u8 9]) (ok := fun _ => True) (okp := fun _ => True) ?hr ?hp (fun _ hk => hk) trivial (Below.refl _ _) (Nat.le_refl _) (by simp) ?_; (case hd => rfl); (case hg => rfl); (case hr => first | (go_simp; done) | (go_simp; rfl)); (case hp => exact (Reps.one (show Kd.M (Kd.int .u8) _ _ _ 9 [.int .u8 9] from rfl) (Reps.none _ _))); intro v378 w47 ho48 hb hg_ hnew_; clear hg_ hnew_; (first | rw [← Ny377.out] at ho48 | (simp only [Int.reduceToNat] at ho48; rw [← Ny377.out] at ho48)); have n0_ := Aside0.mk (Kd.R_lower ho48 (below_size KB100)); have n1_ := Aside0.mk (IsS100.below (KI100) hb); have n2_ := Aside0.mk (below_step KB100 hb); clear HI376; clear HB; have HO379 := n0_; have HI376 := n1_; have HB := n2_; clear n0_ n1_ n2_; clear hb ho48) | ((with_reducible refine gate_callee (f := 69) rfl ?_); refine goesL_ (some 10) rfl rfl Try.func69 (by kernel_rfl) rfl #[.pointer (some ⟨g376, 0, none⟩)] rfl KL ?_; (with_reducible refine (spec_l3DrawRight.calls g376 t373 t374 t375 t380 t381 t382 t383 t384 t385 w _ ?side1 ?side2 A3.out).mono ?_); (case side1 => exact KI100); (case side2 => exact KB100); rintro e w49 ⟨rfl, hi, hb, hk⟩; refine ⟨_, rfl, ?_⟩; have n0_ := Aside0.mk (Kd.R_mono (Kd.R_keep (IsS100.apart (show IsS100 w _ g376 t373 t374 t375 from KI100) (by (with_reducible repeat (first | apply Kd.R_alloc | apply Kd.R_drewN | apply Kd.R_drew)); exact HO379.out) (by decide)) hk (fun _ h => h.2)) (fun _ h => h.1)); have n1_ := Aside0.mk (hb); have n2_ := Aside0.mk (hi); clear HO379; clear HB; clear HI376; have HO379 := n0_; have HB := n1_; have HI376 := n2_; clear n0_ n1_ n2_; (try clear hb); (try clear hb2); (try clear hk); (try clear hi)) | ((with_reducible refine gate_callee (f := 52) rfl ?_); refine goesL_ (some 11) rfl rfl Try.func52 (by kernel_rfl) rfl #[.agg #[.int .i64 t380, .int .i64 t381, .bool t382, .string t383]] rfl KL ?_; (with_reducible refine (spec_l3Pack.calls k t380 t381 t382 t383 t386 _ A4.out).mono ?_); rintro e w50 ⟨v387, rfl, ho0, hb⟩; refine ⟨_, rfl, ?_⟩; have n0_ := Aside0.mk (Kd.R_elder' (by (with_reducible repeat (first | apply Kd.R_alloc | apply Kd.R_drewN | apply Kd.R_drew)); exact HO379.out) (Kd.R_base ho0) hb); have n1_ := Aside0.mk (Kd.R_lower (Kd.R_new' ho0 (Kd.R_lt (by (with_reducible repeat (first | apply Kd.R_alloc | apply Kd.R_drewN | apply Kd.R_drew)); exact HO379.out))) (below_size KB100)); have n2_ := Aside0.mk (IsS100.below (KI100) hb); have n3_ := Aside0.mk (below_step KB100 hb); clear HO379; clear HI376; clear HB; have HO379 := n0_; have HO388 := n1_; have HI376 := n2_; have HB := n3_; clear n0_ n1_ n2_ n3_; (try clear hb); (try clear hb2); (try clear hk); (try clear hi); (try clear ho0); obtain ⟨Ao52, co52, eo52⟩ := Kd.R_slice HO388.out; subst eo52) | ((with_reducible refine gate_builtin (b := .append) (xs := #[.tmp 8, .tmp 11]) rfl ?_); at_builtin; refine Kd.R_append_rows (Kd.int .u8) (w0 := w) w.heap.size rfl (.tmp 8) (.tmp 11) 22 5 (.int .u8 0) 1 rfl Try.underlying22 info5 rfl (by decide) (by omega) v378 y377 t386 _ _ _ (fun k_ => some k_ ≠ (.slice Ao52 t386.length co52 : Value).ownBlock) (fun _ => False) rfl rfl ?aO ?aR (fun _ _ h => h) (fun _ h => h.elim) ?aF ?aB ?aS ?aL ?_; (case aR => repeat (first | exact (Kd.R_reads' HO388.out).2.2 | (with_reducible refine Kd.C_alloc ?_ _) | (with_reducible refine Kd.C_drewN ?_ _) | (with_reducible refine Kd.C_drew ?_))); (case aB => exact KB100); (case aF => exact (fun k_ hk => Kd.fresh' (Kd.R_lt (by (with_reducible repeat (first | apply Kd.R_alloc | apply Kd.R_drewN | apply Kd.R_drew)); exact HO388.out)) k_ hk)); (case aO => exact (by (with_reducible repeat (first | apply Kd.R_alloc | apply Kd.R_drewN | apply Kd.R_drew)); exact Kd.R_mono HO379.out (fun _ hk => hk.2))); (case aS => exact (below_size KB100)); (case aL => have := LMc5.out; omega); intro v390 w51 ho hb hg hat; rw [← Ny389.out] at ho; have n0_ := Aside0.mk (IsS100.grown (KI100) hg (IsS100.own_ne HI376.out HO379.out (by decide))); have n1_ := Aside0.mk (Kd.R_after (ok := (fun _ => True)) (by (with_reducible repeat (first | apply Kd.R_alloc | apply Kd.R_drewN | apply Kd.R_drew)); exact HO388.out) hg hat); have n2_ := Aside0.mk (hb); have n3_ := Aside0.mk (ho); clear HI376; clear HO388; clear HB; clear HO379; have HI376 := n0_; have HO388 := n1_; have HB := n2_; have HO391 := n3_; clear n0_ n1_ n2_ n3_; clear ho hb hg hat) | ((with_reducible refine gate_callee (f := 58) rfl ?_); refine goesL_ (some 14) rfl rfl Try.func58 (by kernel_rfl) rfl #[.pointer (some ⟨g376, 0, none⟩), .int .i64 6] rfl KL ?_; (with_reducible refine (spec_l1Below.calls g376 t373 t384 t385 6 t392 t393 t394 w _ ?side1 ?side2 A6.out).mono ?_); (case side1 => exact KI100); (case side2 => exact KB100); rintro e w53 ⟨rfl, hi, hb, hk⟩; refine ⟨_, rfl, ?_⟩; have n0_ := Aside0.mk (Kd.R_mono (Kd.R_keep (IsS100.apart (show IsS100 w _ g376 t373 t384 t385 from KI100) (by (with_reducible repeat (first | apply Kd.R_alloc | apply Kd.R_drewN | apply Kd.R_drew)); exact HO388.out) (by decide)) hk (fun _ h => h.2)) (fun _ h => h.1)); have n1_ := Aside0.mk (Kd.R_mono (Kd.R_keep (IsS100.apart (show IsS100 w _ g376 t373 t384 t385 from KI100) (by (with_reducible repeat (first | apply Kd.R_alloc | apply Kd.R_drewN | apply Kd.R_drew)); exact HO391.out) (by decide)) hk (fun _ h => h.2)) (fun _ h => h.1)); have n2_ := Aside0.mk (hb); have n3_ := Aside0.mk (hi); clear HO388; clear HO391; clear HB; clear HI376; have HO388 := n0_; have HO391 := n1_; have HB := n2_; have HI376 := n3_; clear n0_ n1_ n2_ n3_; (try clear hb); (try clear hb2); (try clear hk); (try clear hi); obtain ⟨Ao54, co54, eo54⟩ := Kd.R_slice HO391.out; subst eo54) | ((with_reducible refine gate_dst (N := 42) rfl ?_); refine Kd.R_lit (Kd.int .i64) _ 3 ?hg (N := 42) ?hd (xs := ([(-1), 0, (y389.length : Int)] : List Int)) (inner := [.int .i64 (-1), .int .i64 0, .int .i64 (y389.length : Int)]) (ok := fun _ => True) (okp := fun _ => True) ?hr ?hp (fun _ hk => hk) trivial (Below.refl _ _) (Nat.le_refl _) (by simp) ?_; (case hd => rfl); (case hg => rfl); (case hr => first | (go_simp; done) | (go_simp; rfl)); (case hp => exact (Reps.one (show Kd.M (Kd.int .i64) _ _ _ (-1) [.int .i64 (-1)] from rfl) (Reps.one (show Kd.M (Kd.int .i64) _ _ _ 0 [.int .i64 0] from rfl) (Reps.one (show Kd.M (Kd.int .i64) _ _ _ (y389.length : Int) [.int .i64 (y389.length : Int)] from rfl) (Reps.none _ _))))); intro v412 w55 ho56 hb hg_ hnew_; clear hg_ hnew_; (first | rw [← Ny411.out] at ho56 | (simp only [Int.reduceToNat] at ho56; rw [← Ny411.out] at ho56)); have n0_ := Aside0.mk (Kd.R_below (by (with_reducible repeat (first | apply Kd.R_alloc | apply Kd.R_drewN | apply Kd.R_drew)); exact HO388.out) hb); have n1_ := Aside0.mk (Kd.R_below (by (with_reducible repeat (first | apply Kd.R_alloc | apply Kd.R_drewN | apply Kd.R_drew)); exact HO391.out) hb); have n2_ := Aside0.mk (Kd.R_lower ho56 (below_size KB100)); have n3_ := Aside0.mk (IsS100.below (KI100) hb); have n4_ := Aside0.mk (below_step KB100 hb); clear HO388; clear HO391; clear HI376; clear HB; have HO388 := n0_; have HO391 := n1_; have HO413 := n2_; have HI376 := n3_; have HB := n4_; clear n0_ n1_ n2_ n3_ n4_; clear hb ho56; obtain ⟨Ao57, co57, eo57⟩ := Kd.R_slice HO413.out; subst eo57) | ((with_reducible refine gate_callee (f := 57) rfl ?_); refine goesL_ (some 43) rfl rfl Try.func57 (by kernel_rfl) rfl #[.pointer (some ⟨g376, 0, none⟩), .slice Ao57 y411.length co57] rfl KL ?_; (with_reducible refine (spec_l1PickInt.calls g376 t373 t393 t394 _ _ y411 t414 t415 t416 w _ ?side1 ?side2 ?side3 ?side4 ?side5 A45.out).mono ?_); (case side1 => exact KI100); (case side2 => exact KB100); (case side3 => repeat (first | exact (Kd.R_reads' HO413.out).2.2 | (with_reducible refine Kd.C_alloc ?_ _) | (with_reducible refine Kd.C_drewN ?_ _) | (with_reducible refine Kd.C_drew ?_))); (case side4 => exact (Kd.R_reads' HO413.out).2.1); (case side5 => exact far_slice (IsS100.own_ne HI376.out HO413.out (by decide))); rintro e w58 ⟨rfl, hi, hb, hk⟩; refine ⟨_, rfl, ?_⟩; have n0_ := Aside0.mk (Kd.R_mono (Kd.R_keep (IsS100.apart (show IsS100 w _ g376 t373 t393 t394 from KI100) (by (with_reducible repeat (first | apply Kd.R_alloc | apply Kd.R_drewN | apply Kd.R_drew)); exact HO388.out) (by decide)) hk (fun _ h => h.2)) (fun _ h => h.1)); have n1_ := Aside0.mk (Kd.R_mono (Kd.R_keep (IsS100.apart (show IsS100 w _ g376 t373 t393 t394 from KI100) (by (with_reducible repeat (first | apply Kd.R_alloc | apply Kd.R_drewN | apply Kd.R_drew)); exact HO391.out) (by decide)) hk (fun _ h => h.2)) (fun _ h => h.1)); have n2_ := Aside0.mk (Kd.R_mono (Kd.R_keep (IsS100.apart (show IsS100 w _ g376 t373 t393 t394 from KI100) (by (with_reducible repeat (first | apply Kd.R_alloc | apply Kd.R_drewN | apply Kd.R_drew)); exact HO413.out) (by decide)) hk (fun _ h => h.2)) (fun _ h => h.1)); have n3_ := Aside0.mk (hb); have n4_ := Aside0.mk (hi); clear HO388; clear HO391; clear HO413; clear HB; clear HI376; have HO388 := n0_; have HO391 := n1_; have HO413 := n2_; have HB := n3_; have HI376 := n4_; clear n0_ n1_ n2_ n3_ n4_; (try clear hb); (try clear hb2); (try clear hk); (try clear hi)))
     go_ret2
     exact ⟨_, by first | rfl | (simp [errW_none, errW_some] <;> rfl) | (simp [*, errW_none, errW_some] <;> rfl), by (with_reducible repeat (first | apply Kd.R_alloc | apply Kd.R_drewN | apply Kd.R_drew)); exact Kd.R_mono HO391.out (fun _ hk => trivial), KB100⟩
    ·rw [if_neg c44] at H
     have c44b0 : (t392 == 2) = false := beq_eq_false_iff_ne.mpr c44
     have c44b1 : (t392 != 2) = true := bne_iff_ne.mpr c44
     simp only [Option.some.injEq, Prod.mk.injEq] at H
     obtain ⟨rfl, rfl⟩ := H
     go_enter Try.func34, Try.ntmps34
     go_wp2_with (first | ((with_reducible refine gate_callee (f := 56) rfl ?_); refine goesL_ (some 7) rfl rfl Try.func56 (by kernel_rfl) rfl #[.slice A0 l0.length c0] rfl KL ?_; (with_reducible refine (spec_l1New.calls k _ _ l0 t373 t374 t375 w _ ?side1 ?side2 ?side3 A2.out).mono ?_); (case side1 => exact KB); (case side2 => exact HR0.out); (case side3 => exact HC0.out); rintro e w59 ⟨g376, rfl, hi, hb, hb2⟩; refine ⟨_, rfl, ?_⟩; have n0_ := Aside0.mk (hb); have n1_ := Aside0.mk (hi); clear HB; have HB := n0_; have HI376 := n1_; clear n0_ n1_; (try clear hb); (try clear hb2); (try clear hk); (try clear hi)) | ((with_reducible refine gate_dst (N := 8) rfl ?_); refine Kd.R_lit (Kd.int .u8) _ 5 ?hg (N := 8) ?hd (xs := ([9] : List Int)) (inner := [.int .u8 9]) (ok := fun _ => True) (okp := fun _ => True) ?hr ?hp (fun _ hk => hk) trivial (Below.refl _ _) (Nat.le_refl _) (by simp) ?_; (case hd => rfl); (case hg => rfl); (case hr => first | (go_simp; done) | (go_simp; rfl)); (case hp => exact (Reps.one (show Kd.M (Kd.int .u8) _ _ _ 9 [.int .u8 9] from rfl) (Reps.none _ _))); intro v378 w60 ho61 hb hg_ hnew_; clear hg_ hnew_; (first | rw [← Ny377.out] at ho61 | (simp only [Int.reduceToNat] at ho61; rw [← Ny377.out] at ho61)); have n0_ := Aside0.mk (Kd.R_lower ho61 (below_size KB100)); have n1_ := Aside0.mk (IsS100.below (KI100) hb); have n2_ := Aside0.mk (below_step KB100 hb); clear HI376; clear HB; have HO379 := n0_; have HI376 := n1_; have HB := n2_; clear n0_ n1_ n2_; clear hb ho61) | ((with_reducible refine gate_callee (f := 69) rfl ?_); refine goesL_ (some 10) rfl rfl Try.func69 (by kernel_rfl) rfl #[.pointer (some ⟨g376, 0, none⟩)] rfl KL ?_; (with_reducible refine (spec_l3DrawRight.calls g376 t373 t374 t375 t380 t381 t382 t383 t384 t385 w _ ?side1 ?side2 A3.out).mono ?_); (case side1 => exact KI100); (case side2 => exact KB100); rintro e w62 ⟨rfl, hi, hb, hk⟩; refine ⟨_, rfl, ?_⟩; have n0_ := Aside0.mk (Kd.R_mono (Kd.R_keep (IsS100.apart (show IsS100 w _ g376 t373 t374 t375 from KI100) (by (with_reducible repeat (first | apply Kd.R_alloc | apply Kd.R_drewN | apply Kd.R_drew)); exact HO379.out) (by decide)) hk (fun _ h => h.2)) (fun _ h => h.1)); have n1_ := Aside0.mk (hb); have n2_ := Aside0.mk (hi); clear HO379; clear HB; clear HI376; have HO379 := n0_; have HB := n1_; have HI376 := n2_; clear n0_ n1_ n2_; (try clear hb); (try clear hb2); (try clear hk); (try clear hi)) | ((with_reducible refine gate_callee (f := 52) rfl ?_); refine goesL_ (some 11) rfl rfl Try.func52 (by kernel_rfl) rfl #[.agg #[.int .i64 t380, .int .i64 t381, .bool t382, .string t383]] rfl KL ?_; (with_reducible refine (spec_l3Pack.calls k t380 t381 t382 t383 t386 _ A4.out).mono ?_); rintro e w63 ⟨v387, rfl, ho0, hb⟩; refine ⟨_, rfl, ?_⟩; have n0_ := Aside0.mk (Kd.R_elder' (by (with_reducible repeat (first | apply Kd.R_alloc | apply Kd.R_drewN | apply Kd.R_drew)); exact HO379.out) (Kd.R_base ho0) hb); have n1_ := Aside0.mk (Kd.R_lower (Kd.R_new' ho0 (Kd.R_lt (by (with_reducible repeat (first | apply Kd.R_alloc | apply Kd.R_drewN | apply Kd.R_drew)); exact HO379.out))) (below_size KB100)); have n2_ := Aside0.mk (IsS100.below (KI100) hb); have n3_ := Aside0.mk (below_step KB100 hb); clear HO379; clear HI376; clear HB; have HO379 := n0_; have HO388 := n1_; have HI376 := n2_; have HB := n3_; clear n0_ n1_ n2_ n3_; (try clear hb); (try clear hb2); (try clear hk); (try clear hi); (try clear ho0); obtain ⟨Ao65, co65, eo65⟩ := Kd.R_slice HO388.out; subst eo65) | ((with_reducible refine gate_builtin (b := .append) (xs := #[.tmp 8, .tmp 11]) rfl ?_); at_builtin; refine Kd.R_append_rows (Kd.int .u8) (w0 := w) w.heap.size rfl (.tmp 8) (.tmp 11) 22 5 (.int .u8 0) 1 rfl Try.underlying22 info5 rfl (by decide) (by omega) v378 y377 t386 _ _ _ (fun k_ => some k_ ≠ (.slice Ao65 t386.length co65 : Value).ownBlock) (fun _ => False) rfl rfl ?aO ?aR (fun _ _ h => h) (fun _ h => h.elim) ?aF ?aB ?aS ?aL ?_; (case aR => repeat (first | exact (Kd.R_reads' HO388.out).2.2 | (with_reducible refine Kd.C_alloc ?_ _) | (with_reducible refine Kd.C_drewN ?_ _) | (with_reducible refine Kd.C_drew ?_))); (case aB => exact KB100); (case aF => exact (fun k_ hk => Kd.fresh' (Kd.R_lt (by (with_reducible repeat (first | apply Kd.R_alloc | apply Kd.R_drewN | apply Kd.R_drew)); exact HO388.out)) k_ hk)); (case aO => exact (by (with_reducible repeat (first | apply Kd.R_alloc | apply Kd.R_drewN | apply Kd.R_drew)); exact Kd.R_mono HO379.out (fun _ hk => hk.2))); (case aS => exact (below_size KB100)); (case aL => have := LMc5.out; omega); intro v390 w64 ho hb hg hat; rw [← Ny389.out] at ho; have n0_ := Aside0.mk (IsS100.grown (KI100) hg (IsS100.own_ne HI376.out HO379.out (by decide))); have n1_ := Aside0.mk (Kd.R_after (ok := (fun _ => True)) (by (with_reducible repeat (first | apply Kd.R_alloc | apply Kd.R_drewN | apply Kd.R_drew)); exact HO388.out) hg hat); have n2_ := Aside0.mk (hb); have n3_ := Aside0.mk (ho); clear HI376; clear HO388; clear HB; clear HO379; have HI376 := n0_; have HO388 := n1_; have HB := n2_; have HO391 := n3_; clear n0_ n1_ n2_ n3_; clear ho hb hg hat) | ((with_reducible refine gate_callee (f := 58) rfl ?_); refine goesL_ (some 14) rfl rfl Try.func58 (by kernel_rfl) rfl #[.pointer (some ⟨g376, 0, none⟩), .int .i64 6] rfl KL ?_; (with_reducible refine (spec_l1Below.calls g376 t373 t384 t385 6 t392 t393 t394 w _ ?side1 ?side2 A6.out).mono ?_); (case side1 => exact KI100); (case side2 => exact KB100); rintro e w66 ⟨rfl, hi, hb, hk⟩; refine ⟨_, rfl, ?_⟩; have n0_ := Aside0.mk (Kd.R_mono (Kd.R_keep (IsS100.apart (show IsS100 w _ g376 t373 t384 t385 from KI100) (by (with_reducible repeat (first | apply Kd.R_alloc | apply Kd.R_drewN | apply Kd.R_drew)); exact HO388.out) (by decide)) hk (fun _ h => h.2)) (fun _ h => h.1)); have n1_ := Aside0.mk (Kd.R_mono (Kd.R_keep (IsS100.apart (show IsS100 w _ g376 t373 t384 t385 from KI100) (by (with_reducible repeat (first | apply Kd.R_alloc | apply Kd.R_drewN | apply Kd.R_drew)); exact HO391.out) (by decide)) hk (fun _ h => h.2)) (fun _ h => h.1)); have n2_ := Aside0.mk (hb); have n3_ := Aside0.mk (hi); clear HO388; clear HO391; clear HB; clear HI376; have HO388 := n0_; have HO391 := n1_; have HB := n2_; have HI376 := n3_; clear n0_ n1_ n2_ n3_; (try clear hb); (try clear hb2); (try clear hk); (try clear hi)))
     go_ret2
     exact ⟨_, by first | rfl | (simp [errW_none, errW_some] <;> rfl) | (simp [*, errW_none, errW_some] <;> rfl), by (with_reducible repeat (first | apply Kd.R_alloc | apply Kd.R_drewN | apply Kd.R_drew)); exact Kd.R_mono HO391.out (fun _ hk => trivial), KB100⟩
 ·rw [if_neg c5] at H
  exact absurd H (by simp)

end Go.Proofs.Ytgmfpfmpnlgidaa.PFnEntries
