-- What each Go function that this law reaches comes to: written by a program out of the translation.
import Derived.Test.YtnoghojlpicecaaMFnErasx0
import Derived.Test.YtnoghojlpicecaaMFnErasx2
import Derived.Test.YtnoghojlpicecaaMFnErasx3
import Derived.Test.YtnoghojlpicecaaMFnErasx8
namespace Go.Proofs.Ytnoghojlpicecaa.PFnEras
open Go.RowKit Go.Proofs.YtnoghojlpicecaaW.PrintWords Go.Proofs.YtnoghojlpicecaaW.PrintLast Go.Proofs.YtnoghojlpicecaaW.PrintMore
attribute [local go_sem] max2_int min2_int max_two min_two max_three min_three max_four min_four   -- for this text's walks alone
set_option linter.unusedVariables false
set_option linter.unusedSimpArgs false

/-! ### spec_StoreCrash: function 30 -/
def spec_StoreCrash.l0 : Nat → Int → Int → List (S35) → List (S35) → Int → List (S35) → Int → Option ((List (S35)) × (List (S35)) × Int × Bool)
 | 0, _, _, _, _, _, _, _ => none
 | k + 1, x1, x7, x370000, x370001, x370002, x379000, x379002 => if x7 < (x370001.length : Int) then (if 0 ≤ x7 then (if (Go.bits .and .i64 (shr .i64 x1 x7) 1) = 1 then ((spec_l6Keep.f k x379000 ((rd_T35 x370001 x7).f0) ((rd_T35 x370001 x7).f1) ((rd_T35 x370001 x7).f2) ((rd_T35 x370001 x7).f3)).bind fun t380 => (spec_StoreCrash.l0 k x1 (wrap64 (x7 + 1)) x370000 x370001 x370002 t380 x379002)) else (spec_StoreCrash.l0 k x1 (wrap64 (x7 + 1)) x370000 x370001 x370002 x379000 x379002)) else (none)) else ((spec_l1In.f x1 0 1048575).bind fun t383 => (if t383 = true then (if (x379000.length : Int) > 200 then ((spec_l6Copy.f x370000 x370001 x370002).bind fun bt384 => (some (bt384.1, bt384.2.1, bt384.2.2, false))) else (some (x379000, ([] : List (S35)), x379002, true))) else ((spec_l6Copy.f x370000 x370001 x370002).bind fun bt391 => (some (bt391.1, bt391.2.1, bt391.2.2, false)))))
def spec_StoreCrash.f (k : Nat) (l0_0 : List (S35)) (l0_1 : List (S35)) (a0_2 : Int) (a1 : Int) : Option ((List (S35)) × (List (S35)) × Int × Bool) := (spec_StoreOk.f k l0_0 l0_1 a0_2).bind fun t371 => (if t371 = true then ((some (([] : List (S35)) : List (S35))).bind fun y372 => (if y372.length + l0_0.length < 3518437208883 then (spec_StoreCrash.l0 k a1 0 l0_0 l0_1 a0_2 (y372 ++ l0_0) a0_2) else (none))) else (some (([] : List (S35)), ([] : List (S35)), 0, false)))
theorem spec_StoreCrash.mono_l : ∀ k, (∀ y0 y1 y2 y3 y4 y5 y6, LeO (spec_StoreCrash.l0 k y0 y1 y2 y3 y4 y5 y6) (spec_StoreCrash.l0 (k + 1) y0 y1 y2 y3 y4 y5 y6))
 | 0 => fun _ _ _ _ _ _ _ r h => by simp [spec_StoreCrash.l0] at h
 | k + 1 => by
  have ih0 := spec_StoreCrash.mono_l k
  ·intro y0 y1 y2 y3 y4 y5 y6
   unfold spec_StoreCrash.l0
   repeat' first
   | (with_reducible exact ih0 _ _ _ _ _ _ _)
   | (with_reducible exact spec_StoreOk.mono _ _ _ _)
   | (with_reducible exact spec_l6Keep.mono _ _ _ _ _ _)
   | (with_reducible exact LeO.refl _)
   | (with_reducible exact LeO.none _)
   | (with_reducible refine LeO.ite ?_ ?_)
   | (with_reducible refine LeO.bind ?_ (fun _ => ?_))
   | exact ih0 _ _ _ _ _ _ _
   | exact spec_StoreOk.mono _ _ _ _
   | exact spec_l6Keep.mono _ _ _ _ _ _
   | exact LeO.none _
   | refine LeO.ite ?_ ?_
   | refine LeO.bind ?_ (fun _ => ?_)
theorem spec_StoreCrash.mono : ∀ a0 a1 a2 a3 k, LeO (spec_StoreCrash.f k a0 a1 a2 a3) (spec_StoreCrash.f (k + 1) a0 a1 a2 a3) := by
 intro a0 a1 a2 a3 k; have ih0 := spec_StoreCrash.mono_l k
 unfold spec_StoreCrash.f
 repeat' first
   | (with_reducible exact ih0 _ _ _ _ _ _ _)
   | (with_reducible exact spec_StoreOk.mono _ _ _ _)
   | (with_reducible exact spec_l6Keep.mono _ _ _ _ _ _)
   | (with_reducible exact LeO.refl _)
   | (with_reducible exact LeO.none _)
   | (with_reducible refine LeO.ite ?_ ?_)
   | (with_reducible refine LeO.bind ?_ (fun _ => ?_))
   | exact ih0 _ _ _ _ _ _ _
   | exact spec_StoreOk.mono _ _ _ _
   | exact spec_l6Keep.mono _ _ _ _ _ _
   | exact LeO.none _
   | refine LeO.ite ?_ ?_
   | refine LeO.bind ?_ (fun _ => ?_)
def spec_StoreCrash.T3 : Bool × List (List Nat × List Nat) := (true, [([], []), ([], []), ([1], [1]), ([0, 2], [0, 2]), ([], []), ([4], [4]), ([3, 5], [3, 5]), ([], []), ([7, 6, 3, 0, 1, 2, 3, 4, 5, 6, 7], [6, 7])])
def spec_StoreCrash.B3 : List Nat := [0, 0, 2, 7, 0, 16, 63, 0, 255]
theorem spec_StoreCrash.tab3 : rtab .any (opsOf Try.f30 3) = spec_StoreCrash.T3 := by kernel_rfl
theorem spec_StoreCrash.bits3 : waitsOk spec_StoreCrash.T3.2 spec_StoreCrash.B3 = true := by kernel_rfl
def spec_StoreCrash.T8 : Bool × List (List Nat × List Nat) := (true, [([], []), ([0], [0]), ([], []), ([2], [2]), ([], []), ([3, 4], [3, 4]), ([5], [5]), ([1, 6], [1, 6]), ([0, 1, 2, 3, 4, 5, 6, 7], []), ([8, 7, 7, 0, 1, 2, 3, 4, 5, 6, 7], [7, 8])])
def spec_StoreCrash.B8 : List Nat := [0, 1, 0, 4, 0, 28, 60, 127, 255, 511]
theorem spec_StoreCrash.tab8 : rtab .any (opsOf Try.f30 8) = spec_StoreCrash.T8 := by kernel_rfl
theorem spec_StoreCrash.bits8 : waitsOk spec_StoreCrash.T8.2 spec_StoreCrash.B8 = true := by kernel_rfl
set_option maxHeartbeats 8000000 in
set_option maxRecDepth 100000 in
theorem spec_StoreCrash.calls (k : Nat) (A0_0 : Option Addr) (c0_0 : Nat) (l0_0 : List (S35)) (A0_1 : Option Addr) (c0_1 : Nat) (l0_1 : List (S35)) (a0_2 : Int) (a1 : Int) (r1 : List (S35)) (r2 : List (S35)) (r3 : Int) (r4 : Bool) (w : World) (hr0_0 : Kd.C k35 w A0_0 l0_0.length l0_0) (hc0_0 : l0_0.length ≤ c0_0) (hr0_1 : Kd.C k35 w A0_1 l0_1.length l0_1) (hc0_1 : l0_1.length ≤ c0_1) (h : spec_StoreCrash.f k l0_0 l0_1 a0_2 a1 = some (r1, r2, r3, r4)) :
  Calls Try.prog 30 #[.agg #[.slice A0_0 l0_0.length c0_0, .slice A0_1 l0_1.length c0_1, .int .i64 a0_2], .int .i64 a1] w fun e w' => ∃ v0_ v1_ : Value, e = .returned (.tuple #[.agg #[v0_, v1_, .int .i64 r3], .bool r4]) ∧ Kd.R k35 35 w' w.heap.size (fun k_ => some k_ ≠ (v1_ : Value).ownBlock) v0_ r1 ∧ Kd.R k35 35 w' w.heap.size (fun k_ => some k_ ≠ (v0_ : Value).ownBlock) v1_ r2 ∧ Below w.heap.size w w' := by
 have hu31 := Try.underlying31; have hu35 := Try.underlying35; have HR0_0 := Aside0.mk hr0_0; have HC0_0 := Aside0.mk hc0_0; clear hr0_0 hc0_0; have HR0_1 := Aside0.mk hr0_1; have HC0_1 := Aside0.mk hc0_1; clear hr0_1 hc0_1; have HB := Aside0.mk (Below.refl w.heap.size w); have H : ((spec_StoreOk.f k l0_0 l0_1 a0_2).bind fun t371 => (if t371 = true then ((some (([] : List (S35)) : List (S35))).bind fun y372 => (if y372.length + l0_0.length < 3518437208883 then (spec_StoreCrash.l0 k a1 0 l0_0 l0_1 a0_2 (y372 ++ l0_0) a0_2) else (none))) else (some (([] : List (S35)), ([] : List (S35)), 0, false)))) = some (r1, r2, r3, r4) := h; clear h; replace H := Option.bind_eq_some_iff.mp H; obtain ⟨t371, A30, H⟩ := H
 try dsimp only at H
 have A3 := Aside0.mk A30; clear A30
 by_cases c4 : t371 = true
 ·subst c4
  have H1 : ((some (([] : List (S35)) : List (S35))).bind fun y372 => (if y372.length + l0_0.length < 3518437208883 then (spec_StoreCrash.l0 k a1 0 l0_0 l0_1 a0_2 (y372 ++ l0_0) a0_2) else (none))) = some (r1, r2, r3, r4) := by rw [if_pos rfl] at H; exact H
  clear H; have H := H1; clear H1; obtain ⟨y372, hy372⟩ : ∃ y_ : List (S35), y_ = (([] : List (S35))) := ⟨_, rfl⟩; replace H : (if y372.length + l0_0.length < 3518437208883 then (spec_StoreCrash.l0 k a1 0 l0_0 l0_1 a0_2 (y372 ++ l0_0) a0_2) else (none)) = some (r1, r2, r3, r4) := by first | (rw [hy372]; with_reducible exact H) | (have H2_ := (Option.bind_some _ _).symm.trans H; rw [hy372]; with_reducible exact H2_) | (have H2_ := (Option.bind_some _ _).symm.trans H; with_reducible exact H2_) | with_reducible exact H | (rw [hy372]; exact H) | exact H
  have Ny372 := Aside0.mk hy372; clear hy372
  by_cases c5 : y372.length + l0_0.length < 3518437208883
  ·rw [if_pos c5] at H
   have LMc5 := Aside0.mk c5; clear c5; obtain ⟨y375, hy375⟩ : ∃ y_ : List (S35), y_ = (y372 ++ l0_0) := ⟨_, rfl⟩; replace H : (spec_StoreCrash.l0 k a1 0 l0_0 l0_1 a0_2 y375 a0_2) = some (r1, r2, r3, r4) := by first | (rw [hy375]; with_reducible exact H) | (have H2_ := (Option.bind_some _ _).symm.trans H; rw [hy375]; with_reducible exact H2_) | (have H2_ := (Option.bind_some _ _).symm.trans H; with_reducible exact H2_) | with_reducible exact H | (rw [hy375]; exact H) | exact H
   have Ny375 := Aside0.mk hy375; clear hy375; have H' := Aside0.mk H; clear H
   go_enter Try.func30, Try.ntmps30
   try go_wp2_with (first | ((with_reducible refine GD 2 ?_); (try (refine gate_guard (by rfl) ?_; dsimp only)); refine BE 2 #[.slice A0_0 l0_0.length c0_0, .slice A0_1 l0_1.length c0_1, .int .i64 a0_2] 31 ?_; intro gb369 hg w6 hbox hb; have h_ := PB w hb hbox hg; clear HB; obtain ⟨HB, BK369, GW369, GE369⟩ := h_; clear hb hbox hg) | ((with_reducible refine GD 4 ?_); (try (refine gate_guard (by rfl) ?_; dsimp only)); refine BE 4 #[.slice none 0 0, .slice none 0 0, .int .i64 0] 31 ?_; intro gb370 hg w7 hbox hb; have h_ := P7 (BL BK369.out hb) (below_step KB hb) hbox (Kg w hg) (Kg w hg) (NX hg BK369.out) (NY hg BK369.out); clear BK369 HB; obtain ⟨BK369, HB, BK370, GW370, GE370, NB369_370, NB370_369⟩ := h_; clear hb hbox hg; have hnb8 := NB369_370.out; have hnc8 := NB370_369.out; obtain ⟨hcz9_0, hcz9_1, hcz9_2, hfz9_0, hfz9_1, hfz9_2⟩ := C3 BK369.out) | ((with_reducible refine GC 34 ?_); refine goesL_ (some 9) rfl rfl Try.func34 (by kernel_rfl) rfl #[.agg #[.slice A0_0 l0_0.length c0_0, .slice A0_1 l0_1.length c0_1, .int .i64 a0_2]] rfl KL ?_; (with_reducible refine (spec_StoreOk.calls k _ _ l0_0 _ _ l0_1 a0_2 true _ ?side1 ?side2 ?side3 ?side4 A3.out).mono ?_); (case side1 => exact KD (Kd.C_below HR0_0.out HB.out)); (case side2 => exact HC0_0.out); (case side3 => exact KD (Kd.C_below HR0_1.out HB.out)); (case side4 => exact HC0_1.out); rintro e w10 ⟨rfl, hb⟩; refine ⟨_, rfl, ?_⟩; have h_ := P3 (BL BK369.out hb) (BL BK370.out hb) (below_step KB hb); clear BK369 BK370 HB; obtain ⟨BK369, BK370, HB⟩ := h_; (try clear hb); (try clear hk); (try clear hi)))
   have h_ := P3 (blk_drew BK369.out) (blk_drew BK370.out) (below_drew1 HB.out); clear BK369 BK370 HB; obtain ⟨BK369, BK370, HB⟩ := h_; refine start_ (n := 9) (S := fun w' => w'.cell? ⟨gb369, 0, none⟩ = some (.slice A0_0 l0_0.length c0_0) ∧ w'.cell? ⟨gb369, 1, none⟩ = some (.slice A0_1 l0_1.length c0_1) ∧ w'.cell? ⟨gb369, 2, none⟩ = some (.int .i64 a0_2)) (ds := []) #[F, F, F, F, F, F, F, F, F] (by kernel_rfl) rfl rfl ⟨(blk_cell BK369.out 0).trans rfl, (blk_cell BK369.out 1).trans rfl, (blk_cell BK369.out 2).trans rfl⟩ (fun hHeld => ?_); refine with_tabW spec_StoreCrash.tab3 spec_StoreCrash.bits3 (fun HT_ HW_ => ?_); generalize w10.drew = w11 at BK369 BK370 HB hHeld ⊢; refine pure_ (i := 1) (N := some 13) (v := ?_) (a' := ?_) #[F, T, F, F, F, F, F, F, F] rfl rfl (any_of HT_.out (by kernel_rfl)) (fun _ _ _ h => h) (Or.inl ⟨by rfl, ?_⟩) ?_ ?_; rotate_left
   ·exact KV
   rotate_left
   ·exact KA
   refine pure_ (i := 4) (N := some 16) (v := ?_) (a' := ?_) #[F, T, F, F, T, F, F, F, F] rfl rfl (any_of HT_.out (by kernel_rfl)) (fun _ _ _ h => h) (Or.inl ⟨by rfl, ?_⟩) ?_ ?_; rotate_left
   ·exact KV
   rotate_left
   ·exact KA
   refine take_ (i := 2) (N := some 14) (v := ?_) (a' := ?_) #[F, T, T, F, T, F, F, F, F] rfl rfl (take_ofW HT_.out HW_.out (by kernel_rfl)) (fun _ _ _ h => h) (Or.inl ⟨by rfl, ?_⟩) hHeld ?_ ?_; rotate_left
   ·rintro w' ⟨s0, s1, s2⟩
    go_simp; with_reducible rfl
   rotate_left
   ·exact KA
   refine take_ (i := 5) (N := some 17) (v := ?_) (a' := ?_) #[F, T, T, F, T, T, F, F, F] rfl rfl (take_ofW HT_.out HW_.out (by kernel_rfl)) (fun _ _ _ h => h) (Or.inl ⟨by rfl, ?_⟩) hHeld ?_ ?_; rotate_left
   ·rintro w' ⟨s0, s1, s2⟩
    go_simp; with_reducible rfl
   rotate_left
   ·exact KA
   refine join_ (σ := Value × Value × Nat) 1 #[T, T, T, T, T, T, T, T, F] (fun s_ => [(12, s_.1), (15, s_.2.1), (6, .pointer (some ⟨s_.2.2, 0, none⟩)), (18, .agg #[s_.2.1, .slice none 0 0, .int .i64 a0_2])]) (fun s_ w' => (w'.cell? ⟨gb369, 0, none⟩ = some (.slice A0_0 l0_0.length c0_0) ∧ w'.cell? ⟨gb369, 1, none⟩ = some (.slice A0_1 l0_1.length c0_1) ∧ w'.cell? ⟨gb369, 2, none⟩ = some (.int .i64 a0_2)) ∧ (Kd.R k35 35 w' w.heap.size (fun _ => True) s_.2.1 y375) ∧ (w'.heap[gb369]? = some (.cells #[.slice A0_0 l0_0.length c0_0, .slice A0_1 l0_1.length c0_1, .int .i64 a0_2] 31 (0, 0))) ∧ (w'.heap[gb370]? = some (.cells #[.slice none 0 0, .slice none 0 0, .int .i64 0] 31 (0, 0))) ∧ (w'.heap[s_.2.2]? = some (.cells #[.slice none 0 0, .slice none 0 0, .int .i64 0] 31 (0, 0))) ∧ (w.heap.size ≤ s_.2.2) ∧ (w.heap.size ≤ s_.2.2) ∧ (gb369 ≠ s_.2.2) ∧ (s_.2.2 ≠ gb369) ∧ (gb370 ≠ s_.2.2) ∧ (s_.2.2 ≠ gb370) ∧ (Below w.heap.size w w')) ?_ ?_; rotate_left
   ·intro hCont
    refine two_ (i := 0) (j := 7) (Ni := some 12) (Nj := some 6) #[T, T, T, F, T, T, F, F, F] #[F, T, T, F, T, T, F, T, F] rfl rfl rfl rfl (two_of HT_.out (by kernel_rfl)) (by decide) (by decide) (fun K hK => ?_) (fun K hK => ?_)
    ·skip
     refine Kd.R_lit_step k35 _ 35 ?hg (N := 12) ?hd (xs := ([] : List (S35))) (inner := []) (ok := fun _ => True) (okp := fun _ => True) ?hr ?hp (fun _ hk => hk) trivial (Below.refl _ _) (Nat.le_refl _) (by simp) ?_; (case hd => rfl); (case hg => rfl); (case hr => first | (go_simp; done) | (go_simp; rfl)); (case hp => exact (Reps.none _ _)); intro v373 w12 ho13 hb hg_ hnew_; clear hg_ hnew_; (first | rw [← Ny372.out] at ho13 | (simp only [Int.reduceToNat] at ho13; rw [← Ny372.out] at ho13)); have h_ := P4 (Kd.R_lower ho13 (below_size KB)) (BL BK369.out hb) (BL BK370.out hb) (below_step KB hb); clear BK369 BK370 HB; obtain ⟨HO374, BK369, BK370, HB⟩ := h_; clear hb ho13; refine hK.out _ _ (D3 BK369.out) (fun hHeld => ?_); clear hK K; refine norm_ (a' := ?_) ?_ ?_; rotate_left
     ·show Act.put _ (some 12) _ = _; exact KA
     refine two_ (i := 3) (j := 7) (Ni := some 15) (Nj := some 6) #[T, T, T, T, T, T, F, F, F] #[T, T, T, F, T, T, F, T, F] rfl rfl rfl rfl (two_of HT_.out (by kernel_rfl)) (by decide) (by decide) (fun K hK => ?_) (fun K hK => ?_)
     ·skip
      refine Kd.R_append_rows_step k35 (w0 := w) w.heap.size (by rfl) (.tmp 12) (.tmp 14) 29 35 (.agg #[(.int .i64 0), (.int .i64 0), (.bool false), (.string ⟨#[]⟩)]) 40 rfl Try.underlying29 info35 rfl (by decide) (by omega) v373 y372 l0_0 _ _ _ (fun _ => True) (fun _ => False) rfl rfl ?aO ?aR (fun _ _ h => h) (fun _ h => h.elim) ?aF ?aB ?aS ?aL ?_; (case aR => repeat (first | exact (Kd.C_below HR0_0.out HB.out) | (with_reducible refine Kd.C_alloc ?_ _) | (with_reducible refine Kd.C_drewN ?_ _) | (with_reducible refine Kd.C_drew ?_))); (case aB => exact KB); (case aF => exact (fun _ _ => trivial)); (case aO => exact (KR HO374.out)); (case aS => exact (below_size KB)); (case aL => have := LMc5.out; omega); intro v376 w14 ho hb hg hat; rw [← Ny375.out] at ho; have h_ := P4 (BW BK369.out hg (Kd.R_ne HO374.out BK369.out (by decide))) (BW BK370.out hg (Kd.R_ne HO374.out BK370.out (by decide))) hb ho; clear BK369 BK370 HB HO374; obtain ⟨BK369, BK370, HB, HO377⟩ := h_; clear ho hb hg hat; obtain ⟨Ao15, co15, eo15⟩ := Kd.R_slice HO377.out; (first | subst eo15 | (injection eo15 with f1_ f2_ f3_; have f4_ := f1_.symm; have f5_ := f3_.symm; clear f1_ f2_ f3_; subst f4_; subst f5_)); refine hK.out _ _ (D3 BK369.out) (fun hHeld => ?_); clear hK K; refine norm_ (a' := ?_) ?_ ?_; rotate_left
      ·show Act.put _ (some 15) _ = _; exact KA
      refine pure_ (i := 6) (N := some 18) (v := ?_) (a' := ?_) #[T, T, T, T, T, T, T, F, F] rfl rfl (any_of HT_.out (by kernel_rfl)) (fun _ _ _ h => h) (Or.inl ⟨by rfl, ?_⟩) ?_ ?_; rotate_left
      ·exact KV
      rotate_left
      ·exact KA
      refine one_ (i := 7) (N := some 6) #[T, T, T, T, T, T, T, T, F] rfl rfl (one_of HT_.out (by kernel_rfl)) (by decide) (fun K hK => ?_); refine box_step ?hg (N := 6) ?hd (cs := #[.slice none 0 0, .slice none 0 0, .int .i64 0]) (t := 31) ?hr ?_; (case hd => rfl); (case hg => rfl); (case hr => first | (go_simp; done) | (go_simp; rfl)); intro gb378 hg w16 hbox hb; have h_ := P11 (Kd.R_below (KR HO377.out) hb) (BL BK369.out hb) (BL BK370.out hb) (below_step KB hb) hbox (Kg w hg) (Kg w hg) (NX hg BK369.out) (NY hg BK369.out) (NX hg BK370.out) (NY hg BK370.out); clear HO377 BK369 BK370 HB; obtain ⟨HO377, BK369, BK370, HB, BK378, GW378, GE378, NB369_378, NB378_369, NB370_378, NB378_370⟩ := h_; clear hb hbox hg; refine hK.out _ _ (D3 BK369.out) (fun hHeld => ?_); clear hK K; refine norm_ (a' := ?_) ?_ ?_; rotate_left
      ·show Act.put _ (some 6) _ = _; exact KA
      exact norm_ (by simp only [putAll, Act.put, List.setIfInBounds_toArray, List.set_cons_zero, List.set_cons_succ]) (hCont (v373, .slice Ao15 y375.length co15, gb378) _ ⟨hHeld, (KR HO377.out), KK, KK, KK, GW378.out, GE378.out, NB369_378.out, NB378_369.out, NB370_378.out, NB378_370.out, KB⟩)
     ·skip
      refine box_step ?hg (N := 6) ?hd (cs := #[.slice none 0 0, .slice none 0 0, .int .i64 0]) (t := 31) ?hr ?_; (case hd => rfl); (case hg => rfl); (case hr => first | (go_simp; done) | (go_simp; rfl)); intro gb378 hg w14 hbox hb; have h_ := P11 (Kd.R_below (KR HO374.out) hb) (BL BK369.out hb) (BL BK370.out hb) (below_step KB hb) hbox (Kg w hg) (Kg w hg) (NX hg BK369.out) (NY hg BK369.out) (NX hg BK370.out) (NY hg BK370.out); clear HO374 BK369 BK370 HB; obtain ⟨HO374, BK369, BK370, HB, BK378, GW378, GE378, NB369_378, NB378_369, NB370_378, NB378_370⟩ := h_; clear hb hbox hg; refine hK.out _ _ (D3 BK369.out) (fun hHeld => ?_); clear hK K; refine norm_ (a' := ?_) ?_ ?_; rotate_left
      ·show Act.put _ (some 6) _ = _; exact KA
      refine one_ (i := 3) (N := some 15) #[T, T, T, T, T, T, F, T, F] rfl rfl (one_of HT_.out (by kernel_rfl)) (by decide) (fun K hK => ?_); refine Kd.R_append_rows_step k35 (w0 := w) w.heap.size (by rfl) (.tmp 12) (.tmp 14) 29 35 (.agg #[(.int .i64 0), (.int .i64 0), (.bool false), (.string ⟨#[]⟩)]) 40 rfl Try.underlying29 info35 rfl (by decide) (by omega) v373 y372 l0_0 _ _ _ (fun _ => True) (fun _ => False) rfl rfl ?aO ?aR (fun _ _ h => h) (fun _ h => h.elim) ?aF ?aB ?aS ?aL ?_; (case aR => repeat (first | exact (Kd.C_below HR0_0.out HB.out) | (with_reducible refine Kd.C_alloc ?_ _) | (with_reducible refine Kd.C_drewN ?_ _) | (with_reducible refine Kd.C_drew ?_))); (case aB => exact KB); (case aF => exact (fun _ _ => trivial)); (case aO => exact (KR HO374.out)); (case aS => exact (below_size KB)); (case aL => have := LMc5.out; omega); intro v376 w15 ho hb hg hat; rw [← Ny375.out] at ho; have h_ := P5 (BW BK369.out hg (Kd.R_ne HO374.out BK369.out (by decide))) (BW BK370.out hg (Kd.R_ne HO374.out BK370.out (by decide))) (BW BK378.out hg (Kd.R_ne HO374.out BK378.out (by decide))) hb ho; clear BK369 BK370 BK378 HB HO374; obtain ⟨BK369, BK370, BK378, HB, HO377⟩ := h_; clear ho hb hg hat; obtain ⟨Ao16, co16, eo16⟩ := Kd.R_slice HO377.out; (first | subst eo16 | (injection eo16 with f1_ f2_ f3_; have f4_ := f1_.symm; have f5_ := f3_.symm; clear f1_ f2_ f3_; subst f4_; subst f5_)); refine hK.out _ _ (D3 BK369.out) (fun hHeld => ?_); clear hK K; refine norm_ (a' := ?_) ?_ ?_; rotate_left
      ·show Act.put _ (some 15) _ = _; exact KA
      refine pure_ (i := 6) (N := some 18) (v := ?_) (a' := ?_) #[T, T, T, T, T, T, T, T, F] rfl rfl (any_of HT_.out (by kernel_rfl)) (fun _ _ _ h => h) (Or.inl ⟨by rfl, ?_⟩) ?_ ?_; rotate_left
      ·exact KV
      rotate_left
      ·exact KA
      exact norm_ (by simp only [putAll, Act.put, List.setIfInBounds_toArray, List.set_cons_zero, List.set_cons_succ]) (hCont (v373, .slice Ao16 y375.length co16, gb378) _ ⟨hHeld, (KR HO377.out), KK, KK, KK, GW378.out, GE378.out, NB369_378.out, NB378_369.out, NB370_378.out, NB378_370.out, KB⟩)
    ·skip
     refine box_step ?hg (N := 6) ?hd (cs := #[.slice none 0 0, .slice none 0 0, .int .i64 0]) (t := 31) ?hr ?_; (case hd => rfl); (case hg => rfl); (case hr => first | (go_simp; done) | (go_simp; rfl)); intro gb378 hg w12 hbox hb; have h_ := P10 (BL BK369.out hb) (BL BK370.out hb) (below_step KB hb) hbox (Kg w hg) (Kg w hg) (NX hg BK369.out) (NY hg BK369.out) (NX hg BK370.out) (NY hg BK370.out); clear BK369 BK370 HB; obtain ⟨BK369, BK370, HB, BK378, GW378, GE378, NB369_378, NB378_369, NB370_378, NB378_370⟩ := h_; clear hb hbox hg; refine hK.out _ _ (D3 BK369.out) (fun hHeld => ?_); clear hK K; refine norm_ (a' := ?_) ?_ ?_; rotate_left
     ·show Act.put _ (some 6) _ = _; exact KA
     refine one_ (i := 0) (N := some 12) #[T, T, T, F, T, T, F, T, F] rfl rfl (one_of HT_.out (by kernel_rfl)) (by decide) (fun K hK => ?_); refine Kd.R_lit_step k35 _ 35 ?hg (N := 12) ?hd (xs := ([] : List (S35))) (inner := []) (ok := fun _ => True) (okp := fun _ => True) ?hr ?hp (fun _ hk => hk) trivial (Below.refl _ _) (Nat.le_refl _) (by simp) ?_; (case hd => rfl); (case hg => rfl); (case hr => first | (go_simp; done) | (go_simp; rfl)); (case hp => exact (Reps.none _ _)); intro v373 w13 ho14 hb hg_ hnew_; clear hg_ hnew_; (first | rw [← Ny372.out] at ho14 | (simp only [Int.reduceToNat] at ho14; rw [← Ny372.out] at ho14)); have h_ := P5 (Kd.R_lower ho14 (below_size KB)) (BL BK369.out hb) (BL BK370.out hb) (BL BK378.out hb) (below_step KB hb); clear BK369 BK370 BK378 HB; obtain ⟨HO374, BK369, BK370, BK378, HB⟩ := h_; clear hb ho14; refine hK.out _ _ (D3 BK369.out) (fun hHeld => ?_); clear hK K; refine norm_ (a' := ?_) ?_ ?_; rotate_left
     ·show Act.put _ (some 12) _ = _; exact KA
     refine one_ (i := 3) (N := some 15) #[T, T, T, T, T, T, F, T, F] rfl rfl (one_of HT_.out (by kernel_rfl)) (by decide) (fun K hK => ?_); refine Kd.R_append_rows_step k35 (w0 := w) w.heap.size (by rfl) (.tmp 12) (.tmp 14) 29 35 (.agg #[(.int .i64 0), (.int .i64 0), (.bool false), (.string ⟨#[]⟩)]) 40 rfl Try.underlying29 info35 rfl (by decide) (by omega) v373 y372 l0_0 _ _ _ (fun _ => True) (fun _ => False) rfl rfl ?aO ?aR (fun _ _ h => h) (fun _ h => h.elim) ?aF ?aB ?aS ?aL ?_; (case aR => repeat (first | exact (Kd.C_below HR0_0.out HB.out) | (with_reducible refine Kd.C_alloc ?_ _) | (with_reducible refine Kd.C_drewN ?_ _) | (with_reducible refine Kd.C_drew ?_))); (case aB => exact KB); (case aF => exact (fun _ _ => trivial)); (case aO => exact (KR HO374.out)); (case aS => exact (below_size KB)); (case aL => have := LMc5.out; omega); intro v376 w15 ho hb hg hat; rw [← Ny375.out] at ho; have h_ := P5 (BW BK369.out hg (Kd.R_ne HO374.out BK369.out (by decide))) (BW BK370.out hg (Kd.R_ne HO374.out BK370.out (by decide))) (BW BK378.out hg (Kd.R_ne HO374.out BK378.out (by decide))) hb ho; clear BK369 BK370 BK378 HB HO374; obtain ⟨BK369, BK370, BK378, HB, HO377⟩ := h_; clear ho hb hg hat; obtain ⟨Ao16, co16, eo16⟩ := Kd.R_slice HO377.out; (first | subst eo16 | (injection eo16 with f1_ f2_ f3_; have f4_ := f1_.symm; have f5_ := f3_.symm; clear f1_ f2_ f3_; subst f4_; subst f5_)); refine hK.out _ _ (D3 BK369.out) (fun hHeld => ?_); clear hK K; refine norm_ (a' := ?_) ?_ ?_; rotate_left
     ·show Act.put _ (some 15) _ = _; exact KA
     refine pure_ (i := 6) (N := some 18) (v := ?_) (a' := ?_) #[T, T, T, T, T, T, T, T, F] rfl rfl (any_of HT_.out (by kernel_rfl)) (fun _ _ _ h => h) (Or.inl ⟨by rfl, ?_⟩) ?_ ?_; rotate_left
     ·exact KV
     rotate_left
     ·exact KA
     exact norm_ (by simp only [putAll, Act.put, List.setIfInBounds_toArray, List.set_cons_zero, List.set_cons_succ]) (hCont (v373, .slice Ao16 y375.length co16, gb378) _ ⟨hHeld, (KR HO377.out), KK, KK, KK, GW378.out, GE378.out, NB369_378.out, NB378_369.out, NB370_378.out, NB378_370.out, KB⟩)
   rintro ⟨v373, v376, gb378⟩ w17 ⟨hS_, h0_, h1_, h2_, h3_, h4_, h5_, h6_, h7_, h8_, h9_, h10_⟩; have n0_ : Aside0 (Kd.R k35 35 w17 w.heap.size (fun _ => True) v376 y375) := ⟨h0_⟩; have n1_ : Aside0 (w17.heap[gb369]? = some (.cells #[.slice A0_0 l0_0.length c0_0, .slice A0_1 l0_1.length c0_1, .int .i64 a0_2] 31 (0, 0))) := ⟨h1_⟩; have n2_ : Aside0 (w17.heap[gb370]? = some (.cells #[.slice none 0 0, .slice none 0 0, .int .i64 0] 31 (0, 0))) := ⟨h2_⟩; have n3_ : Aside0 (w17.heap[gb378]? = some (.cells #[.slice none 0 0, .slice none 0 0, .int .i64 0] 31 (0, 0))) := ⟨h3_⟩; have n4_ : Aside0 (w.heap.size ≤ gb378) := ⟨h4_⟩; have n5_ : Aside0 (w.heap.size ≤ gb378) := ⟨h5_⟩; have n6_ : Aside0 (gb369 ≠ gb378) := ⟨h6_⟩; have n7_ : Aside0 (gb378 ≠ gb369) := ⟨h7_⟩; have n8_ : Aside0 (gb370 ≠ gb378) := ⟨h8_⟩; have n9_ : Aside0 (gb378 ≠ gb370) := ⟨h9_⟩; have n10_ : Aside0 (Below w.heap.size w w17) := ⟨h10_⟩; clear BK369; clear BK370; clear HB; clear h0_ h1_ h2_ h3_ h4_ h5_ h6_ h7_ h8_ h9_ h10_; have HO377 := n0_; have BK369 := n1_; have BK370 := n2_; have BK378 := n3_; have GW378 := n4_; have GE378 := n5_; have NB369_378 := n6_; have NB378_369 := n7_; have NB370_378 := n8_; have NB378_370 := n9_; have HB := n10_; clear n0_ n1_ n2_ n3_ n4_ n5_ n6_ n7_ n8_ n9_ n10_; have hHeld : w17.cell? ⟨gb369, 0, none⟩ = some (.slice A0_0 l0_0.length c0_0) ∧ w17.cell? ⟨gb369, 1, none⟩ = some (.slice A0_1 l0_1.length c0_1) ∧ w17.cell? ⟨gb369, 2, none⟩ = some (.int .i64 a0_2) := hS_; obtain ⟨Ao18, co18, eo18⟩ := Kd.R_slice HO377.out; (first | subst eo18 | (injection eo18 with f1_ f2_ f3_; have f4_ := f1_.symm; have f5_ := f3_.symm; clear f1_ f2_ f3_; subst f4_; subst f5_)); refine norm_ (a' := ?_) ?_ ?_; rotate_left
   ·simp only [putAll, Act.put, List.setIfInBounds_toArray, List.set_cons_zero, List.set_cons_succ]
    rfl
   refine one_ (i := 8) (N := none) #[T, T, T, T, T, T, T, T, T] rfl rfl (one_of HT_.out (by kernel_rfl)) (by decide) (fun K hK => ?_); have hs19 : w17.cell? ⟨gb378, 0, none⟩ = some (.slice none 0 0) := (blk_cell BK378.out 0).trans rfl; have hfs19 := blk_frozen BK378.out 0; have hns19_0 := NB369_378.out; have hns19_1 := NB370_378.out; have hms19_0 := NB378_369.out; have hms19_1 := NB378_370.out; have hs20 : w17.cell? ⟨gb378, 1, none⟩ = some (.slice none 0 0) := (blk_cell BK378.out 1).trans rfl; have hfs20 := blk_frozen BK378.out 1; have hns20_0 := NB369_378.out; have hns20_1 := NB370_378.out; have hms20_0 := NB378_369.out; have hms20_1 := NB378_370.out; have hs21 : w17.cell? ⟨gb378, 2, none⟩ = some (.int .i64 0) := (blk_cell BK378.out 2).trans rfl; have hfs21 := blk_frozen BK378.out 2; have hns21_0 := NB369_378.out; have hns21_1 := NB370_378.out; have hms21_0 := NB378_369.out; have hms21_1 := NB378_370.out; refine skip_ (w1 := ?_) (by rfl) rfl ?_ ?_; rotate_left
   ·go_simp
    rfl
   refine hK.out _ _ ⟨((cell_far (p := ⟨gb378, _, none⟩) NB369_378.out _).trans (((cell_far (p := ⟨gb378, _, none⟩) NB369_378.out _).trans (((cell_far (p := ⟨gb378, _, none⟩) NB369_378.out _).trans (hHeld.1)))))), ((cell_far (p := ⟨gb378, _, none⟩) NB369_378.out _).trans (((cell_far (p := ⟨gb378, _, none⟩) NB369_378.out _).trans (((cell_far (p := ⟨gb378, _, none⟩) NB369_378.out _).trans (hHeld.2.1)))))), ((cell_far (p := ⟨gb378, _, none⟩) NB369_378.out _).trans (((cell_far (p := ⟨gb378, _, none⟩) NB369_378.out _).trans (((cell_far (p := ⟨gb378, _, none⟩) NB369_378.out _).trans (hHeld.2.2))))))⟩ (fun hHeld => ?_); clear hK K; refine done_ (done_of HT_.out (by kernel_rfl)) ?_
   try go_wp2
   go_loopg [7] k (fun kq v7 w' => ∃ (x7_1 : Int) (x379000_1 : List (S35)) (u379000 : Value), v7 = .int .i64 x7_1 ∧ Aside0 (spec_StoreCrash.l0 kq a1 x7_1 l0_0 l0_1 a0_2 x379000_1 a0_2 = some (r1, r2, r3, r4)) ∧ Aside0 (kq ≤ k) ∧ Aside0 (Kd.R k35 35 w' w.heap.size (fun _ => True) u379000 x379000_1) ∧ Aside0 (w'.heap[gb369]? = some (.cells #[(.slice A0_0 l0_0.length c0_0), (.slice A0_1 l0_1.length c0_1), .int .i64 a0_2] 31 (0, 0))) ∧ Aside0 (w'.heap[gb370]? = some (.cells #[(.slice none 0 0), (.slice none 0 0), .int .i64 0] 31 (0, 0))) ∧ Aside0 (w'.heap[gb378]? = some (.cells #[u379000, (.slice none 0 0), .int .i64 a0_2] 31 (0, 0))) ∧ Aside0 (Below w.heap.size w w'))
   case atStart => exact ⟨(0), (y375), (.slice Ao18 y375.length co18), (by first | rfl | (simp; done) | (simp [*]; done)), H', ⟨Nat.le_refl _⟩, ⟨Kd.R_mono (RF (RT HO377.out BK378.out)) (fun _ hk => trivial)⟩, ⟨KK⟩, ⟨KK⟩, ⟨by refine SK ?_; refine BP #[.slice Ao18 y375.length co18, .slice none 0 0, .int .i64 0] ?_ 2; refine SK ?_; refine BP #[.slice Ao18 y375.length co18, .slice none 0 0, .int .i64 0] ?_ 1; refine SK ?_; refine BP #[.slice none 0 0, .slice none 0 0, .int .i64 0] ?_ 0; exact SK BK378.out⟩, ⟨KB⟩⟩
   case round =>
    clear H'
    try clear p2
    try clear c3
    try clear c4
    try clear c5
    try clear c8
    try clear hcz9_0
    try clear hcz9_1
    try clear hcz9_2
    try clear hfz9_0
    try clear hfz9_1
    try clear hfz9_2
    obtain ⟨x7_1, x379000_1, u379000, rfl, HA, HK1, HO_379000, BK369, BK370, BK378, HB⟩ := hrel
    cases gk with
    | zero => exact absurd HA.out (by simp [spec_StoreCrash.l0])
    | succ k1 =>
     have H := HA.out; clear HA; simp only [spec_StoreCrash.l0] at H
     by_cases c22 : x7_1 < (l0_1.length : Int)
     ·rw [if_pos c22] at H
      have c22b0 : decide (x7_1 < (l0_1.length : Int)) = true := decide_eq_true c22; clear c22
      by_cases c23 : 0 ≤ x7_1
      ·rw [if_pos c23] at H
       have c23b0 := eq_true c23; have c23b1 : decide (0 ≤ x7_1) = true := decide_eq_true c23; clear c23; obtain ⟨ji24, hji24⟩ : ∃ j_ : Int, (shr .i64 a1 x7_1) = j_ := ⟨_, rfl⟩; replace H : (if (Go.bits .and .i64 (ji24) 1) = 1 then ((spec_l6Keep.f k1 x379000_1 ((rd_T35 l0_1 x7_1).f0) ((rd_T35 l0_1 x7_1).f1) ((rd_T35 l0_1 x7_1).f2) ((rd_T35 l0_1 x7_1).f3)).bind fun t380 => (spec_StoreCrash.l0 k1 a1 (wrap64 (x7_1 + 1)) l0_0 l0_1 a0_2 t380 a0_2)) else (spec_StoreCrash.l0 k1 a1 (wrap64 (x7_1 + 1)) l0_0 l0_1 a0_2 x379000_1 a0_2)) = some (r1, r2, r3, r4) := by first | (rw [hji24] at H; exact H) | (simp only [hji24] at H ⊢; exact H)
       have hji24_ : (a1 / 2 ^ min x7_1.toNat 64) = ji24 := hji24; have hji24z : x7_1 ≤ 64 → (a1 / 2 ^ x7_1.toNat) = ji24 := shr_small hji24
       by_cases c25 : (Go.bits .and .i64 (ji24) 1) = 1
       ·rw [if_pos c25] at H
        have c25b0 : ((Go.bits .and .i64 (ji24) 1) == 1) = true := beq_iff_eq.mpr c25; have c25b1 : ((Go.bits .and .i64 (ji24) 1) != 1) = false := bne_eq_false_iff_eq.mpr c25; clear c25; replace H := Option.bind_eq_some_iff.mp H; obtain ⟨t380, A260, H⟩ := H
        try dsimp only at H
        have A26 := Aside0.mk A260; clear A260; have H' := Aside0.mk H; clear H; have hnb27 := NB369_370.out; have hnc27 := NB370_369.out; have hnb28 := NB369_378.out; have hnc28 := NB378_369.out; obtain ⟨hcz29_0, hcz29_1, hcz29_2, hfz29_0, hfz29_1, hfz29_2⟩ := C3 BK369.out
        try go_wp2
        have h_ := P5 (Kd.R_drew HO_379000.out) (blk_drew BK369.out) (blk_drew BK370.out) (blk_drew BK378.out) (below_drew1 HB.out); clear HO_379000 BK369 BK370 BK378 HB; obtain ⟨HO_379000, BK369, BK370, BK378, HB⟩ := h_; have p379 : 0 ≤ (x7_1 : Int) := of_decide_eq_true (by first | (with_reducible assumption) | assumption); have q379 : x7_1 < (l0_1.length : Int) := of_decide_eq_true (by first | (with_reducible assumption) | assumption); obtain ⟨ad379, e379, hx379_0, hx379_1, hx379_2, hx379_3⟩ := at_T35 HR0_1.out x7_1 p379 q379; have hw379_3 := hx379_3; have hw379_2 := hx379_2; have hw379_1 := hx379_1; have hw379_0 := hx379_0
        cases e379
        replace hx379_0 := CB HB.out hx379_0; replace hx379_1 := CB HB.out hx379_1; replace hx379_2 := CB HB.out hx379_2; replace hx379_3 := CB HB.out hx379_3; replace p379 := eq_true p379; replace q379 := eq_true q379; obtain ⟨Ao31, co31, eo31⟩ := Kd.R_slice HO_379000.out; (first | subst eo31 | (injection eo31 with f1_ f2_ f3_; have f4_ := f1_.symm; have f5_ := f3_.symm; clear f1_ f2_ f3_; subst f4_; subst f5_)); refine start_ (n := 10) (S := fun w' => w'.cell? ⟨gb378, 0, none⟩ = some (.slice Ao31 x379000_1.length co31) ∧ w'.cell? ⟨gb378, 1, none⟩ = some (.slice none 0 0) ∧ w'.cell? ⟨gb378, 2, none⟩ = some (.int .i64 a0_2) ∧ w'.cell? ⟨gb369, 0, none⟩ = some (.slice A0_0 l0_0.length c0_0) ∧ w'.cell? ⟨gb369, 1, none⟩ = some (.slice (some ad379) l0_1.length c0_1) ∧ w'.cell? ⟨gb369, 2, none⟩ = some (.int .i64 a0_2) ∧ w'.cell? (ad379.add ((x7_1).toNat * 4)) = some (.int .i64 ((rd_T35 l0_1 x7_1).f0)) ∧ w'.cell? ⟨(ad379.add ((x7_1).toNat * 4)).block, (ad379.add ((x7_1).toNat * 4)).off + 1, none⟩ = some (.int .i64 ((rd_T35 l0_1 x7_1).f1)) ∧ w'.cell? ⟨(ad379.add ((x7_1).toNat * 4)).block, (ad379.add ((x7_1).toNat * 4)).off + 2, none⟩ = some (.bool ((rd_T35 l0_1 x7_1).f2)) ∧ w'.cell? ⟨(ad379.add ((x7_1).toNat * 4)).block, (ad379.add ((x7_1).toNat * 4)).off + 3, none⟩ = some (.string ((rd_T35 l0_1 x7_1).f3))) (ds := [9]) #[F, F, F, F, F, F, F, F, F, F] (by kernel_rfl) rfl rfl ⟨(blk_cell BK378.out 0).trans rfl, (blk_cell BK378.out 1).trans rfl, (blk_cell BK378.out 2).trans rfl, (blk_cell BK369.out 0).trans rfl, (blk_cell BK369.out 1).trans rfl, (blk_cell BK369.out 2).trans rfl, ((HB.out.cell (World.block_lt_of_cell? w _ hw379_0)).trans hw379_0), ((HB.out.cell (World.block_lt_of_cell? w _ hw379_1)).trans hw379_1), ((HB.out.cell (World.block_lt_of_cell? w _ hw379_2)).trans hw379_2), ((HB.out.cell (World.block_lt_of_cell? w _ hw379_3)).trans hw379_3)⟩ (fun hHeld => ?_); refine with_tabW spec_StoreCrash.tab8 spec_StoreCrash.bits8 (fun HT_ HW_ => ?_); generalize wr.drew = w30 at HO_379000 BK369 BK370 BK378 HB hx379_0 hx379_1 hx379_2 hx379_3 hHeld ⊢; refine pure_ (i := 0) (N := some 31) (v := ?_) (a' := ?_) #[T, F, F, F, F, F, F, F, F, F] rfl rfl (any_of HT_.out (by kernel_rfl)) (fun _ _ _ h => h) (Or.inl ⟨by rfl, ?_⟩) ?_ ?_; rotate_left
        ·exact KV
        rotate_left
        ·exact KA
        refine pure_ (i := 2) (N := some 33) (v := ?_) (a' := ?_) #[T, F, T, F, F, F, F, F, F, F] rfl rfl (any_of HT_.out (by kernel_rfl)) (fun _ _ _ h => h) (Or.inl ⟨by rfl, ?_⟩) ?_ ?_; rotate_left
        ·exact KV
        rotate_left
        ·exact KA
        refine pure_ (i := 4) (N := some 35) (v := ?_) (a' := ?_) #[T, F, T, F, T, F, F, F, F, F] rfl rfl (any_of HT_.out (by kernel_rfl)) (fun _ _ _ h => h) (Or.inl ⟨by rfl, ?_⟩) ?_ ?_; rotate_left
        ·exact KV
        rotate_left
        ·exact KA
        refine take_ (i := 1) (N := some 32) (v := ?_) (a' := ?_) #[T, T, T, F, T, F, F, F, F, F] rfl rfl (take_ofW HT_.out HW_.out (by kernel_rfl)) (fun _ _ _ h => h) (Or.inl ⟨by rfl, ?_⟩) hHeld ?_ ?_; rotate_left
        ·rintro w' ⟨s0, s1, s2, s3, s4, s5, s6, s7, s8, s9⟩
         go_simp; with_reducible rfl
        rotate_left
        ·exact KA
        refine take_ (i := 3) (N := some 34) (v := ?_) (a' := ?_) #[T, T, T, T, T, F, F, F, F, F] rfl rfl (take_ofW HT_.out HW_.out (by kernel_rfl)) (fun _ _ _ h => h) (Or.inl ⟨by rfl, ?_⟩) hHeld ?_ ?_; rotate_left
        ·rintro w' ⟨s0, s1, s2, s3, s4, s5, s6, s7, s8, s9⟩
         go_simp; with_reducible rfl
        rotate_left
        ·exact KA
        refine pure_ (i := 5) (N := some 36) (v := ?_) (a' := ?_) #[T, T, T, T, T, T, F, F, F, F] rfl rfl (any_of HT_.out (by kernel_rfl)) (fun _ _ _ h => h) (Or.inl ⟨by rfl, ?_⟩) ?_ ?_; rotate_left
        ·exact KV
        rotate_left
        ·exact KA
        refine take_ (i := 6) (N := some 37) (v := ?_) (a' := ?_) #[T, T, T, T, T, T, T, F, F, F] rfl rfl (take_ofW HT_.out HW_.out (by kernel_rfl)) (fun _ _ _ h => h) (Or.inl ⟨by rfl, ?_⟩) hHeld ?_ ?_; rotate_left
        ·rintro w' ⟨s0, s1, s2, s3, s4, s5, s6, s7, s8, s9⟩
         go_simp; with_reducible rfl
        rotate_left
        ·exact KA
        refine one_ (i := 7) (N := some 38) #[T, T, T, T, T, T, T, T, F, F] rfl rfl (one_of HT_.out (by kernel_rfl)) (by decide) (fun K hK => ?_); refine goes_ Try.func65 (by kernel_rfl) rfl #[.slice Ao31 x379000_1.length co31, .agg #[.int .i64 ((rd_T35 l0_1 x7_1).f0), .int .i64 ((rd_T35 l0_1 x7_1).f1), .bool ((rd_T35 l0_1 x7_1).f2), .string ((rd_T35 l0_1 x7_1).f3)]] (by rfl) rfl rfl KL ?_; (with_reducible refine (spec_l6Keep.calls k1 _ _ x379000_1 ((rd_T35 l0_1 x7_1).f0) ((rd_T35 l0_1 x7_1).f1) ((rd_T35 l0_1 x7_1).f2) ((rd_T35 l0_1 x7_1).f3) t380 _ ?side1 ?side2 A26.out).mono ?_); (case side1 => repeat (first | exact (Kd.R_reads' HO_379000.out).2.2 | (with_reducible refine Kd.C_alloc ?_ _) | (with_reducible refine Kd.C_drewN ?_ _) | (with_reducible refine Kd.C_drew ?_))); (case side2 => exact (Kd.R_reads' HO_379000.out).2.1); rintro e w32 ⟨v381, rfl, ho0, hb⟩; refine ⟨_, rfl, ?_⟩; have h_ := P6 (Kd.R_elder' (KR HO_379000.out) (Kd.R_base ho0) hb) (Kd.R_lower (Kd.R_new' ho0 (Kd.R_lt (KR HO_379000.out))) (below_size KB)) (BL BK369.out hb) (BL BK370.out hb) (BL BK378.out hb) (below_step KB hb); clear HO_379000 BK369 BK370 BK378 HB; obtain ⟨HO_379000, HO382, BK369, BK370, BK378, HB⟩ := h_; (try clear hb); (try clear hk); (try clear hi); (try clear ho0); obtain ⟨Ao33, co33, eo33⟩ := Kd.R_slice HO382.out; (first | subst eo33 | (injection eo33 with f1_ f2_ f3_; have f4_ := f1_.symm; have f5_ := f3_.symm; clear f1_ f2_ f3_; subst f4_; subst f5_)); refine hK.out _ _ ⟨(blk_cell BK378.out 0).trans rfl, (blk_cell BK378.out 1).trans rfl, (blk_cell BK378.out 2).trans rfl, (blk_cell BK369.out 0).trans rfl, (blk_cell BK369.out 1).trans rfl, (blk_cell BK369.out 2).trans rfl, ((HB.out.cell (World.block_lt_of_cell? w _ hw379_0)).trans hw379_0), ((HB.out.cell (World.block_lt_of_cell? w _ hw379_1)).trans hw379_1), ((HB.out.cell (World.block_lt_of_cell? w _ hw379_2)).trans hw379_2), ((HB.out.cell (World.block_lt_of_cell? w _ hw379_3)).trans hw379_3)⟩ (fun hHeld => ?_); clear hK K; refine norm_ (a' := ?_) ?_ ?_; rotate_left
        ·show Act.put _ (some 38) _ = _; exact KA
        refine pure_ (i := 8) (N := some 39) (v := ?_) (a' := ?_) #[T, T, T, T, T, T, T, T, T, F] rfl rfl (any_of HT_.out (by kernel_rfl)) (fun _ _ _ h => h) (Or.inl ⟨by rfl, ?_⟩) ?_ ?_; rotate_left
        ·exact KV
        rotate_left
        ·exact KA
        refine last_ (i := 9) (N := none) #[T, T, T, T, T, T, T, T, T, T] rfl rfl (one_of HT_.out (by kernel_rfl)) (by decide) (fun K hK => ?_); have hs34 : w32.cell? ⟨gb378, 0, none⟩ = some (.slice Ao31 x379000_1.length co31) := (blk_cell BK378.out 0).trans rfl; have hfs34 := blk_frozen BK378.out 0; have hns34_0 := NB369_378.out; have hns34_1 := NB370_378.out; have hms34_0 := NB378_369.out; have hms34_1 := NB378_370.out; refine skip_ (w1 := ?_) (by rfl) rfl ?_ ?_; rotate_left
        ·go_simp
         rfl
        refine hK.out _ _ ?_; clear hK K; refine done_ (done_of HT_.out (by kernel_rfl)) ?_
        try go_wp2
        go_roundg k1
        case measure => have := HK1.out; omega
        case rel => exact ⟨(wrap64 (x7_1 + 1)), (t380), (.slice Ao33 t380.length co33), (by first | rfl | (simp; done) | (simp [*]; done)), H', ⟨by have := HK1.out; omega⟩, ⟨Kd.R_mono (RF (RT HO382.out BK378.out)) (fun _ hk => trivial)⟩, ⟨KK⟩, ⟨KK⟩, ⟨by refine SK ?_; refine BP #[.slice Ao31 x379000_1.length co31, .slice none 0 0, .int .i64 a0_2] ?_ 0; exact SK BK378.out⟩, ⟨KB⟩⟩
       ·rw [if_neg c25] at H
        have c25b0 : ((Go.bits .and .i64 (ji24) 1) == 1) = false := beq_eq_false_iff_ne.mpr c25; have c25b1 : ((Go.bits .and .i64 (ji24) 1) != 1) = true := bne_iff_ne.mpr c25; have H' := Aside0.mk H; clear H; have hnb35 := NB369_370.out; have hnc35 := NB370_369.out; have hnb36 := NB369_378.out; have hnc36 := NB378_369.out; obtain ⟨hcz37_0, hcz37_1, hcz37_2, hfz37_0, hfz37_1, hfz37_2⟩ := C3 BK369.out
        go_wp2
        go_roundg k1
        case measure => have := HK1.out; omega
        case rel => exact ⟨(wrap64 (x7_1 + 1)), (x379000_1), (u379000), (by first | rfl | (simp; done) | (simp [*]; done)), H', ⟨by have := HK1.out; omega⟩, ⟨by (with_reducible repeat (first | apply Kd.R_alloc | apply Kd.R_drewN | apply Kd.R_drew)); exact HO_379000.out⟩, ⟨KK⟩, ⟨KK⟩, ⟨KK⟩, ⟨KB⟩⟩
      ·rw [if_neg c23] at H
       exact absurd H (by simp)
     ·rw [if_neg c22] at H
      have c22b0 : decide (x7_1 < (l0_1.length : Int)) = false := decide_eq_false c22; clear c22; replace H := Option.bind_eq_some_iff.mp H; obtain ⟨t383, A380, H⟩ := H
      try dsimp only at H
      have A38 := Aside0.mk A380; clear A380
      by_cases c39 : t383 = true
      ·subst c39
       have H1 : (if (x379000_1.length : Int) > 200 then ((spec_l6Copy.f l0_0 l0_1 a0_2).bind fun bt384 => (some (bt384.1, bt384.2.1, bt384.2.2, false))) else (some (x379000_1, ([] : List (S35)), a0_2, true))) = some (r1, r2, r3, r4) := by rw [if_pos rfl] at H; exact H
       clear H; have H := H1; clear H1
       by_cases c40 : (x379000_1.length : Int) > 200
       ·rw [if_pos c40] at H
        have c40b0 : decide (200 < (x379000_1.length : Int)) = true := decide_eq_true c40; have c40b1 : decide (200 < x379000_1.length) = true := decide_eq_true (by omega); clear c40; replace H := Option.bind_eq_some_iff.mp H; obtain ⟨⟨t384, t387, t390⟩, A410, H⟩ := H
        try dsimp only at H
        have A41 := Aside0.mk A410; clear A410; simp only [Option.some.injEq, Prod.mk.injEq] at H; obtain ⟨rfl, rfl, rfl, rfl⟩ := H; have hnb42 := NB369_370.out; have hnc42 := NB370_369.out; have hnb43 := NB369_378.out; have hnc43 := NB378_369.out; obtain ⟨hcz44_0, hcz44_1, hcz44_2, hfz44_0, hfz44_1, hfz44_2⟩ := C3 BK369.out
        go_wp2_with (first | ((with_reducible refine GC 66 ?_); refine goesL_ (some 41) rfl rfl Try.func66 (by kernel_rfl) rfl #[.int .i64 a1, .int .i64 0, .int .i64 1048575] rfl KL ?_; (with_reducible refine MN (spec_l1In.calls a1 0 1048575 true _ A38.out) ?_); intro nd; refine ⟨_, rfl, ?_⟩; (try (rw [drewN_self wr]; generalize hq_ : World.drewN wr _ = wr; have n0_ : Aside0 (Kd.R k35 35 wr w.heap.size (fun _ => True) u379000 x379000_1) := ⟨by rw [← hq_]; exact (KR HO_379000.out)⟩; have n1_ : Aside0 (wr.heap[gb369]? = some (.cells #[.slice A0_0 l0_0.length c0_0, .slice A0_1 l0_1.length c0_1, .int .i64 a0_2] 31 (0, 0))) := ⟨by rw [← hq_]; exact KK⟩; have n2_ : Aside0 (wr.heap[gb370]? = some (.cells #[.slice none 0 0, .slice none 0 0, .int .i64 0] 31 (0, 0))) := ⟨by rw [← hq_]; exact KK⟩; have n3_ : Aside0 (wr.heap[gb378]? = some (.cells #[u379000, .slice none 0 0, .int .i64 a0_2] 31 (0, 0))) := ⟨by rw [← hq_]; exact KK⟩; have n4_ : Aside0 (Below w.heap.size w wr) := ⟨by rw [← hq_]; exact KB⟩; clear HO_379000 BK369 BK370 BK378 HB hq_; have HO_379000 := n0_; have BK369 := n1_; have BK370 := n2_; have BK378 := n3_; have HB := n4_; clear n0_ n1_ n2_ n3_ n4_)); (try (have hcy_0 : wr.cell? ⟨gb369, 0, none⟩ = some (.slice A0_0 l0_0.length c0_0) := (blk_cell BK369.out 0).trans rfl; have hcy_1 : wr.cell? ⟨gb369, 1, none⟩ = some (.slice A0_1 l0_1.length c0_1) := (blk_cell BK369.out 1).trans rfl; have hcy_2 : wr.cell? ⟨gb369, 2, none⟩ = some (.int .i64 a0_2) := (blk_cell BK369.out 2).trans rfl)); have hnb45 := NB378_370.out; have hnc45 := NB370_378.out; obtain ⟨hcz46_0, hcz46_1, hcz46_2, hfz46_0, hfz46_1, hfz46_2⟩ := C3 BK378.out; obtain ⟨Ao47, co47, eo47⟩ := Kd.R_slice HO_379000.out; subst eo47) | ((with_reducible refine GC 41 ?_); refine goesL_ (some 50) rfl rfl Try.func41 (by kernel_rfl) rfl #[.agg #[.slice A0_0 l0_0.length c0_0, .slice A0_1 l0_1.length c0_1, .int .i64 a0_2]] rfl KL ?_; (with_reducible refine (spec_l6Copy.calls _ _ l0_0 _ _ l0_1 a0_2 t384 t387 t390 _ ?side1 ?side2 ?side3 ?side4 A41.out).mono ?_); (case side1 => exact KD (Kd.C_below HR0_0.out HB.out)); (case side2 => exact HC0_0.out); (case side3 => exact KD (Kd.C_below HR0_1.out HB.out)); (case side4 => exact HC0_1.out); rintro e w48 ⟨v385, v388, rfl, ho0, ho1, hb⟩; refine ⟨_, rfl, ?_⟩; have h_ := P7 (Kd.R_mono (Kd.R_told (Kd.R_told (Kd.R_old (KR HO_379000.out) hb) (Kd.R_base ho0)) (Kd.R_base ho1)) (fun _ h_ => h_.1)) (Kd.R_lower (Kd.R_new' ho0 (Kd.R_lt (KR HO_379000.out))) (below_size KB)) (Kd.R_lower (Kd.R_new' ho1 (Kd.R_lt (KR HO_379000.out))) (below_size KB)) (BL BK369.out hb) (BL BK370.out hb) (BL BK378.out hb) (below_step KB hb); clear HO_379000 BK369 BK370 BK378 HB; obtain ⟨HO_379000, HO386, HO389, BK369, BK370, BK378, HB⟩ := h_; (try clear hb); (try clear hk); (try clear hi); (try clear ho0); (try clear ho1); obtain ⟨Ao49, co49, eo49⟩ := Kd.R_slice HO386.out; subst eo49; obtain ⟨hcz50_0, hcz50_1, hcz50_2, hfz50_0, hfz50_1, hfz50_2⟩ := C3 BK370.out; obtain ⟨Ao51, co51, eo51⟩ := Kd.R_slice HO389.out; subst eo51))
        refine bodyPost_ret (results_ct rfl _ _ gb370 31 #[.slice Ao49 t384.length co49, .slice Ao51 t387.length co51, .int .i64 t390] (0, 0) _ rfl (by refine SK ?_; refine BP #[.slice Ao49 t384.length co49, .slice Ao51 t387.length co51, .int .i64 0] ?_ 2; refine SK ?_; refine BP #[.slice Ao49 t384.length co49, .slice none 0 0, .int .i64 0] ?_ 1; refine SK ?_; refine BP #[.slice none 0 0, .slice none 0 0, .int .i64 0] ?_ 0; exact SK BK370.out) Try.underlying31 rfl (by kernel_rfl)) rfl ?_; exact ⟨_, _, KE, RQ (RT HO386.out BK370.out) (hm := fun _ h => h.1.1), RQ (RT HO389.out BK370.out) (hm := fun _ h => h.1.1), KB⟩
       ·rw [if_neg c40] at H
        have c40b0 : decide (200 < (x379000_1.length : Int)) = false := decide_eq_false c40; have c40b1 : decide (200 < x379000_1.length) = false := decide_eq_false (by omega); clear c40; simp only [Option.some.injEq, Prod.mk.injEq] at H; obtain ⟨rfl, rfl, rfl, rfl⟩ := H; have hnb52 := NB369_370.out; have hnc52 := NB370_369.out; have hnb53 := NB369_378.out; have hnc53 := NB378_369.out; obtain ⟨hcz54_0, hcz54_1, hcz54_2, hfz54_0, hfz54_1, hfz54_2⟩ := C3 BK369.out
        go_wp2_with (first | ((with_reducible refine GC 66 ?_); refine goesL_ (some 41) rfl rfl Try.func66 (by kernel_rfl) rfl #[.int .i64 a1, .int .i64 0, .int .i64 1048575] rfl KL ?_; (with_reducible refine MN (spec_l1In.calls a1 0 1048575 true _ A38.out) ?_); intro nd; refine ⟨_, rfl, ?_⟩; (try (rw [drewN_self wr]; generalize hq_ : World.drewN wr _ = wr; have n0_ : Aside0 (Kd.R k35 35 wr w.heap.size (fun _ => True) u379000 x379000_1) := ⟨by rw [← hq_]; exact (KR HO_379000.out)⟩; have n1_ : Aside0 (wr.heap[gb369]? = some (.cells #[.slice A0_0 l0_0.length c0_0, .slice A0_1 l0_1.length c0_1, .int .i64 a0_2] 31 (0, 0))) := ⟨by rw [← hq_]; exact KK⟩; have n2_ : Aside0 (wr.heap[gb370]? = some (.cells #[.slice none 0 0, .slice none 0 0, .int .i64 0] 31 (0, 0))) := ⟨by rw [← hq_]; exact KK⟩; have n3_ : Aside0 (wr.heap[gb378]? = some (.cells #[u379000, .slice none 0 0, .int .i64 a0_2] 31 (0, 0))) := ⟨by rw [← hq_]; exact KK⟩; have n4_ : Aside0 (Below w.heap.size w wr) := ⟨by rw [← hq_]; exact KB⟩; clear HO_379000 BK369 BK370 BK378 HB hq_; have HO_379000 := n0_; have BK369 := n1_; have BK370 := n2_; have BK378 := n3_; have HB := n4_; clear n0_ n1_ n2_ n3_ n4_)); (try (have hcy_0 : wr.cell? ⟨gb369, 0, none⟩ = some (.slice A0_0 l0_0.length c0_0) := (blk_cell BK369.out 0).trans rfl; have hcy_1 : wr.cell? ⟨gb369, 1, none⟩ = some (.slice A0_1 l0_1.length c0_1) := (blk_cell BK369.out 1).trans rfl; have hcy_2 : wr.cell? ⟨gb369, 2, none⟩ = some (.int .i64 a0_2) := (blk_cell BK369.out 2).trans rfl)); have hnb55 := NB378_370.out; have hnc55 := NB370_378.out; obtain ⟨hcz56_0, hcz56_1, hcz56_2, hfz56_0, hfz56_1, hfz56_2⟩ := C3 BK378.out; obtain ⟨Ao57, co57, eo57⟩ := Kd.R_slice HO_379000.out; subst eo57; obtain ⟨hcz58_0, hcz58_1, hcz58_2, hfz58_0, hfz58_1, hfz58_2⟩ := C3 BK370.out))
        refine bodyPost_ret (results_ct rfl _ _ gb370 31 #[.slice Ao57 x379000_1.length co57, .slice none 0 0, .int .i64 a0_2] (0, 0) _ rfl (by refine SK ?_; refine BP #[.slice Ao57 x379000_1.length co57, .slice none 0 0, .int .i64 0] ?_ 2; refine SK ?_; refine BP #[.slice Ao57 x379000_1.length co57, .slice none 0 0, .int .i64 0] ?_ 1; refine SK ?_; refine BP #[.slice none 0 0, .slice none 0 0, .int .i64 0] ?_ 0; exact SK BK370.out) Try.underlying31 rfl (by kernel_rfl)) rfl ?_; exact ⟨_, _, KE, Kd.R_mono (RF (RT HO_379000.out BK370.out)) (fun _ hk => (by simp [Value.ownBlock])), by first | exact Kd.R_nil _ _ _ _ _ | exact Kd.N_nil _ _ _ _ _ | exact Kd.V_nil _ _ _ _ _ | exact Kd.Q_nil _ _ _ _ _ | exact Kd.S_nil _ _ _ _ _, KB⟩
      ·replace c39 := Bool.eq_false_iff.mpr c39
       subst c39; have H1 : ((spec_l6Copy.f l0_0 l0_1 a0_2).bind fun bt391 => (some (bt391.1, bt391.2.1, bt391.2.2, false))) = some (r1, r2, r3, r4) := by rw [if_neg (show ¬ (false = true) by decide)] at H; exact H
       clear H; have H := H1; clear H1; replace H := Option.bind_eq_some_iff.mp H; obtain ⟨⟨t391, t394, t397⟩, A590, H⟩ := H
       try dsimp only at H
       have A59 := Aside0.mk A590; clear A590; simp only [Option.some.injEq, Prod.mk.injEq] at H; obtain ⟨rfl, rfl, rfl, rfl⟩ := H; have hnb60 := NB369_370.out; have hnc60 := NB370_369.out; have hnb61 := NB369_378.out; have hnc61 := NB378_369.out; obtain ⟨hcz62_0, hcz62_1, hcz62_2, hfz62_0, hfz62_1, hfz62_2⟩ := C3 BK369.out
       go_wp2_with (first | ((with_reducible refine GC 66 ?_); refine goesL_ (some 41) rfl rfl Try.func66 (by kernel_rfl) rfl #[.int .i64 a1, .int .i64 0, .int .i64 1048575] rfl KL ?_; (with_reducible refine MN (spec_l1In.calls a1 0 1048575 false _ A38.out) ?_); intro nd; refine ⟨_, rfl, ?_⟩; (try (rw [drewN_self wr]; generalize hq_ : World.drewN wr _ = wr; have n0_ : Aside0 (Kd.R k35 35 wr w.heap.size (fun _ => True) u379000 x379000_1) := ⟨by rw [← hq_]; exact (KR HO_379000.out)⟩; have n1_ : Aside0 (wr.heap[gb369]? = some (.cells #[.slice A0_0 l0_0.length c0_0, .slice A0_1 l0_1.length c0_1, .int .i64 a0_2] 31 (0, 0))) := ⟨by rw [← hq_]; exact KK⟩; have n2_ : Aside0 (wr.heap[gb370]? = some (.cells #[.slice none 0 0, .slice none 0 0, .int .i64 0] 31 (0, 0))) := ⟨by rw [← hq_]; exact KK⟩; have n3_ : Aside0 (wr.heap[gb378]? = some (.cells #[u379000, .slice none 0 0, .int .i64 a0_2] 31 (0, 0))) := ⟨by rw [← hq_]; exact KK⟩; have n4_ : Aside0 (Below w.heap.size w wr) := ⟨by rw [← hq_]; exact KB⟩; clear HO_379000 BK369 BK370 BK378 HB hq_; have HO_379000 := n0_; have BK369 := n1_; have BK370 := n2_; have BK378 := n3_; have HB := n4_; clear n0_ n1_ n2_ n3_ n4_)); (try (have hcy_0 : wr.cell? ⟨gb369, 0, none⟩ = some (.slice A0_0 l0_0.length c0_0) := (blk_cell BK369.out 0).trans rfl; have hcy_1 : wr.cell? ⟨gb369, 1, none⟩ = some (.slice A0_1 l0_1.length c0_1) := (blk_cell BK369.out 1).trans rfl; have hcy_2 : wr.cell? ⟨gb369, 2, none⟩ = some (.int .i64 a0_2) := (blk_cell BK369.out 2).trans rfl))) | ((with_reducible refine GC 41 ?_); refine goesL_ (some 50) rfl rfl Try.func41 (by kernel_rfl) rfl #[.agg #[.slice A0_0 l0_0.length c0_0, .slice A0_1 l0_1.length c0_1, .int .i64 a0_2]] rfl KL ?_; (with_reducible refine (spec_l6Copy.calls _ _ l0_0 _ _ l0_1 a0_2 t391 t394 t397 _ ?side1 ?side2 ?side3 ?side4 A59.out).mono ?_); (case side1 => exact KD (Kd.C_below HR0_0.out HB.out)); (case side2 => exact HC0_0.out); (case side3 => exact KD (Kd.C_below HR0_1.out HB.out)); (case side4 => exact HC0_1.out); rintro e w63 ⟨v392, v395, rfl, ho0, ho1, hb⟩; refine ⟨_, rfl, ?_⟩; have h_ := P7 (Kd.R_mono (Kd.R_told (Kd.R_told (Kd.R_old (KR HO_379000.out) hb) (Kd.R_base ho0)) (Kd.R_base ho1)) (fun _ h_ => h_.1)) (Kd.R_lower (Kd.R_new' ho0 (Kd.R_lt (KR HO_379000.out))) (below_size KB)) (Kd.R_lower (Kd.R_new' ho1 (Kd.R_lt (KR HO_379000.out))) (below_size KB)) (BL BK369.out hb) (BL BK370.out hb) (BL BK378.out hb) (below_step KB hb); clear HO_379000 BK369 BK370 BK378 HB; obtain ⟨HO_379000, HO393, HO396, BK369, BK370, BK378, HB⟩ := h_; (try clear hb); (try clear hk); (try clear hi); (try clear ho0); (try clear ho1); obtain ⟨Ao64, co64, eo64⟩ := Kd.R_slice HO393.out; subst eo64; have hnb65 := NB370_378.out; have hnc65 := NB378_370.out; obtain ⟨hcz66_0, hcz66_1, hcz66_2, hfz66_0, hfz66_1, hfz66_2⟩ := C3 BK370.out; obtain ⟨Ao67, co67, eo67⟩ := Kd.R_slice HO396.out; subst eo67))
       refine bodyPost_ret (results_ct rfl _ _ gb370 31 #[.slice Ao64 t391.length co64, .slice Ao67 t394.length co67, .int .i64 t397] (0, 0) _ rfl (by refine SK ?_; refine BP #[.slice Ao64 t391.length co64, .slice Ao67 t394.length co67, .int .i64 0] ?_ 2; refine SK ?_; refine BP #[.slice Ao64 t391.length co64, .slice none 0 0, .int .i64 0] ?_ 1; refine SK ?_; refine BP #[.slice none 0 0, .slice none 0 0, .int .i64 0] ?_ 0; exact SK BK370.out) Try.underlying31 rfl (by kernel_rfl)) rfl ?_; exact ⟨_, _, KE, RQ (RT HO393.out BK370.out) (hm := fun _ h => h.1.1), RQ (RT HO396.out BK370.out) (hm := fun _ h => h.1.1), KB⟩
  ·rw [if_neg c5] at H
   exact absurd H (by simp)
 ·replace c4 := Bool.eq_false_iff.mpr c4
  subst c4; have H1 : (some (([] : List (S35)), ([] : List (S35)), 0, false)) = some (r1, r2, r3, r4) := by rw [if_neg (show ¬ (false = true) by decide)] at H; exact H
  clear H; have H := H1; clear H1; simp only [Option.some.injEq, Prod.mk.injEq] at H; obtain ⟨rfl, rfl, rfl, rfl⟩ := H
  go_enter Try.func30, Try.ntmps30
  go_wp2_with (first | ((with_reducible refine GD 2 ?_); (try (refine gate_guard (by rfl) ?_; dsimp only)); refine BE 2 #[.slice A0_0 l0_0.length c0_0, .slice A0_1 l0_1.length c0_1, .int .i64 a0_2] 31 ?_; intro gb369 hg w68 hbox hb; have h_ := PB w hb hbox hg; clear HB; obtain ⟨HB, BK369, GW369, GE369⟩ := h_; clear hb hbox hg) | ((with_reducible refine GD 4 ?_); (try (refine gate_guard (by rfl) ?_; dsimp only)); refine BE 4 #[.slice none 0 0, .slice none 0 0, .int .i64 0] 31 ?_; intro gb370 hg w69 hbox hb; have h_ := P7 (BL BK369.out hb) (below_step KB hb) hbox (Kg w hg) (Kg w hg) (NX hg BK369.out) (NY hg BK369.out); clear BK369 HB; obtain ⟨BK369, HB, BK370, GW370, GE370, NB369_370, NB370_369⟩ := h_; clear hb hbox hg; have hnb70 := NB369_370.out; have hnc70 := NB370_369.out; obtain ⟨hcz71_0, hcz71_1, hcz71_2, hfz71_0, hfz71_1, hfz71_2⟩ := C3 BK369.out) | ((with_reducible refine GC 34 ?_); refine goesL_ (some 9) rfl rfl Try.func34 (by kernel_rfl) rfl #[.agg #[.slice A0_0 l0_0.length c0_0, .slice A0_1 l0_1.length c0_1, .int .i64 a0_2]] rfl KL ?_; (with_reducible refine (spec_StoreOk.calls k _ _ l0_0 _ _ l0_1 a0_2 false _ ?side1 ?side2 ?side3 ?side4 A3.out).mono ?_); (case side1 => exact KD (Kd.C_below HR0_0.out HB.out)); (case side2 => exact HC0_0.out); (case side3 => exact KD (Kd.C_below HR0_1.out HB.out)); (case side4 => exact HC0_1.out); rintro e w72 ⟨rfl, hb⟩; refine ⟨_, rfl, ?_⟩; have h_ := P3 (BL BK369.out hb) (BL BK370.out hb) (below_step KB hb); clear BK369 BK370 HB; obtain ⟨BK369, BK370, HB⟩ := h_; (try clear hb); (try clear hk); (try clear hi); obtain ⟨hcz73_0, hcz73_1, hcz73_2, hfz73_0, hfz73_1, hfz73_2⟩ := C3 BK370.out))
  refine bodyPost_ret (results_ct rfl _ _ gb370 31 #[.slice none 0 0, .slice none 0 0, .int .i64 0] (0, 0) _ rfl (by refine SK ?_; refine BP #[.slice none 0 0, .slice none 0 0, .int .i64 0] ?_ 2; refine SK ?_; refine BP #[.slice none 0 0, .slice none 0 0, .int .i64 0] ?_ 1; refine SK ?_; refine BP #[.slice none 0 0, .slice none 0 0, .int .i64 0] ?_ 0; exact SK BK370.out) Try.underlying31 rfl (by kernel_rfl)) rfl ?_; exact ⟨_, _, KE, by first | exact Kd.R_nil _ _ _ _ _ | exact Kd.N_nil _ _ _ _ _ | exact Kd.V_nil _ _ _ _ _ | exact Kd.Q_nil _ _ _ _ _ | exact Kd.S_nil _ _ _ _ _, by first | exact Kd.R_nil _ _ _ _ _ | exact Kd.N_nil _ _ _ _ _ | exact Kd.V_nil _ _ _ _ _ | exact Kd.Q_nil _ _ _ _ _ | exact Kd.S_nil _ _ _ _ _, KB⟩

/-! ### spec_StoreSync: function 73 -/
def spec_StoreSync.f (k : Nat) (l0_0 : List (S35)) (l0_1 : List (S35)) (a0_2 : Int) : Option ((List (S35)) × (List (S35)) × Int × Bool) := (spec_StoreCrash.f k l0_0 l0_1 a0_2 1048575).bind fun bt400 => (some (bt400.1, bt400.2.1, bt400.2.2.1, bt400.2.2.2))
theorem spec_StoreSync.mono : ∀ a0 a1 a2 k, LeO (spec_StoreSync.f k a0 a1 a2) (spec_StoreSync.f (k + 1) a0 a1 a2) := by
 intro a0 a1 a2 k
 unfold spec_StoreSync.f
 repeat' first
   | (with_reducible exact spec_StoreCrash.mono _ _ _ _ _)
   | (with_reducible exact LeO.refl _)
   | (with_reducible exact LeO.none _)
   | (with_reducible refine LeO.ite ?_ ?_)
   | (with_reducible refine LeO.bind ?_ (fun _ => ?_))
   | exact spec_StoreCrash.mono _ _ _ _ _
   | exact LeO.none _
   | refine LeO.ite ?_ ?_
   | refine LeO.bind ?_ (fun _ => ?_)
set_option maxHeartbeats 8000000 in
set_option maxRecDepth 100000 in
theorem spec_StoreSync.calls (k : Nat) (A0_0 : Option Addr) (c0_0 : Nat) (l0_0 : List (S35)) (A0_1 : Option Addr) (c0_1 : Nat) (l0_1 : List (S35)) (a0_2 : Int) (r1 : List (S35)) (r2 : List (S35)) (r3 : Int) (r4 : Bool) (w : World) (hr0_0 : Kd.C k35 w A0_0 l0_0.length l0_0) (hc0_0 : l0_0.length ≤ c0_0) (hr0_1 : Kd.C k35 w A0_1 l0_1.length l0_1) (hc0_1 : l0_1.length ≤ c0_1) (h : spec_StoreSync.f k l0_0 l0_1 a0_2 = some (r1, r2, r3, r4)) :
  Calls Try.prog 73 #[.agg #[.slice A0_0 l0_0.length c0_0, .slice A0_1 l0_1.length c0_1, .int .i64 a0_2]] w fun e w' => ∃ v0_ v1_ : Value, e = .returned (.tuple #[.agg #[v0_, v1_, .int .i64 r3], .bool r4]) ∧ Kd.R k35 35 w' w.heap.size (fun k_ => some k_ ≠ (v1_ : Value).ownBlock) v0_ r1 ∧ Kd.R k35 35 w' w.heap.size (fun k_ => some k_ ≠ (v0_ : Value).ownBlock) v1_ r2 ∧ Below w.heap.size w w' := by
 have hu31 := Try.underlying31; have HR0_0 := Aside0.mk hr0_0; have HC0_0 := Aside0.mk hc0_0; clear hr0_0 hc0_0; have HR0_1 := Aside0.mk hr0_1; have HC0_1 := Aside0.mk hc0_1; clear hr0_1 hc0_1; have HB := Aside0.mk (Below.refl w.heap.size w); have H : ((spec_StoreCrash.f k l0_0 l0_1 a0_2 1048575).bind fun bt400 => (some (bt400.1, bt400.2.1, bt400.2.2.1, bt400.2.2.2))) = some (r1, r2, r3, r4) := h; clear h; replace H := Option.bind_eq_some_iff.mp H; obtain ⟨⟨t400, t403, t406, t407⟩, A20, H⟩ := H
 try dsimp only at H
 have A2 := Aside0.mk A20; clear A20; simp only [Option.some.injEq, Prod.mk.injEq] at H; obtain ⟨rfl, rfl, rfl, rfl⟩ := H
 go_enter Try.func73, Try.ntmps73
 go_wp2_with (first | ((with_reducible refine GD 1 ?_); refine BE 1 #[.slice A0_0 l0_0.length c0_0, .slice A0_1 l0_1.length c0_1, .int .i64 a0_2] 31 ?_; intro gb398 hg w3 hbox hb; have h_ := PB w hb hbox hg; clear HB; obtain ⟨HB, BK398, GW398, GE398⟩ := h_; clear hb hbox hg) | ((with_reducible refine GD 2 ?_); refine BE 2 #[.slice none 0 0, .slice none 0 0, .int .i64 0] 31 ?_; intro gb399 hg w4 hbox hb; have h_ := P7 (BL BK398.out hb) (below_step KB hb) hbox (Kg w hg) (Kg w hg) (NX hg BK398.out) (NY hg BK398.out); clear BK398 HB; obtain ⟨BK398, HB, BK399, GW399, GE399, NB398_399, NB399_398⟩ := h_; clear hb hbox hg; have hnb5 := NB398_399.out; have hnc5 := NB399_398.out; obtain ⟨hcz6_0, hcz6_1, hcz6_2, hfz6_0, hfz6_1, hfz6_2⟩ := C3 BK398.out) | ((with_reducible refine GC 30 ?_); refine goesL_ (some 5) rfl rfl Try.func30 (by kernel_rfl) rfl #[.agg #[.slice A0_0 l0_0.length c0_0, .slice A0_1 l0_1.length c0_1, .int .i64 a0_2], .int .i64 1048575] rfl KL ?_; (with_reducible refine (spec_StoreCrash.calls k _ _ l0_0 _ _ l0_1 a0_2 1048575 t400 t403 t406 t407 _ ?side1 ?side2 ?side3 ?side4 A2.out).mono ?_); (case side1 => exact KD (Kd.C_below HR0_0.out HB.out)); (case side2 => exact HC0_0.out); (case side3 => exact KD (Kd.C_below HR0_1.out HB.out)); (case side4 => exact HC0_1.out); rintro e w7 ⟨v401, v404, rfl, ho0, ho1, hb⟩; refine ⟨_, rfl, ?_⟩; have h_ := P5 (Kd.R_lower ho0 (below_size KB)) (Kd.R_lower ho1 (below_size KB)) (BL BK398.out hb) (BL BK399.out hb) (below_step KB hb); clear BK398 BK399 HB; obtain ⟨HO402, HO405, BK398, BK399, HB⟩ := h_; (try clear hb); (try clear hk); (try clear hi); (try clear ho0); (try clear ho1); obtain ⟨Ao8, co8, eo8⟩ := Kd.R_slice HO402.out; subst eo8; obtain ⟨hcz9_0, hcz9_1, hcz9_2, hfz9_0, hfz9_1, hfz9_2⟩ := C3 BK399.out; obtain ⟨Ao10, co10, eo10⟩ := Kd.R_slice HO405.out; subst eo10))
 refine bodyPost_ret (results_ct rfl _ _ gb399 31 #[.slice Ao8 t400.length co8, .slice Ao10 t403.length co10, .int .i64 t406] (0, 0) _ rfl (by refine SK ?_; refine BP #[.slice Ao8 t400.length co8, .slice Ao10 t403.length co10, .int .i64 0] ?_ 2; refine SK ?_; refine BP #[.slice Ao8 t400.length co8, .slice none 0 0, .int .i64 0] ?_ 1; refine SK ?_; refine BP #[.slice none 0 0, .slice none 0 0, .int .i64 0] ?_ 0; exact SK BK399.out) Try.underlying31 rfl (by kernel_rfl)) rfl ?_; exact ⟨_, _, KE, RQ (RT HO402.out BK399.out), RQ (RT HO405.out BK399.out), KB⟩

/-! ### spec_l1Max: function 74 -/
def spec_l1Max.f (a0 : Int) (a1 : Int) : Option (Int) := if a0 > a1 then (some a0) else (some a1)
set_option maxHeartbeats 8000000 in
set_option maxRecDepth 100000 in
theorem spec_l1Max.calls (a0 : Int) (a1 : Int) (r : Int) (w : World) (h : spec_l1Max.f a0 a1 = some r) :
  Calls Try.prog 74 #[.int .i64 a0, .int .i64 a1] w fun e w' => e = .returned (.int .i64 r) ∧ Drawn0 w w' := by
 have H : (if a0 > a1 then (some a0) else (some a1)) = some r := h; clear h
 by_cases c3 : a0 > a1
 ·rw [if_pos c3] at H
  have c3b0 : decide (a1 < a0) = true := decide_eq_true c3; clear c3; obtain rfl := Option.some.inj H
  go_enter Try.func74, Try.ntmps74
  go_wp2
  go_ret
  exact ⟨by first | rfl | (simp; done) | (simp [*]; done), by repeat (first | exact Drawn0.refl _ | apply Drawn0.step)⟩
 ·rw [if_neg c3] at H
  have c3b0 : decide (a1 < a0) = false := decide_eq_false c3; clear c3; obtain rfl := Option.some.inj H
  go_enter Try.func74, Try.ntmps74
  go_wp2
  go_ret
  exact ⟨by first | rfl | (simp; done) | (simp [*]; done), by repeat (first | exact Drawn0.refl _ | apply Drawn0.step)⟩

end Go.Proofs.Ytnoghojlpicecaa.PFnEras
