-- What is left of the law behind its first cut.
import Derived.Test.YtnoghojlpicecaaMFnExactStorePutx8
import Derived.Test.YtnoghojlpicecaaMFnExactStorePutx0
import Derived.Test.YtnoghojlpicecaaMFnExactStorePutx1
import Derived.Test.YtnoghojlpicecaaMFnExactStorePutx2
import Derived.Test.YtnoghojlpicecaaMFnExactStorePutx5
import Derived.Test.YtnoghojlpicecaaMFnExactStorePutx6
import Derived.Test.YtnoghojlpicecaaMFnExactStorePutx7
namespace Go.Proofs.Ytnoghojlpicecaa.PFnExactStorePut
open Go.RowKit Go.Proofs.YtnoghojlpicecaaW.PrintWords Go.Proofs.YtnoghojlpicecaaW.PrintLast Go.Proofs.YtnoghojlpicecaaW.PrintMore
attribute [local go_sem] max2_int min2_int max_two min_two max_three min_three max_four min_four   -- for this text's walks alone
set_option linter.unusedVariables false
set_option linter.unusedSimpArgs false

set_option maxHeartbeats 8000000 in
set_option maxRecDepth 100000 in
theorem laws_FnExactStorePut.calls (k : Nat) (A0_0 : Option Addr) (c0_0 : Nat) (l0_0 : List (S26)) (A0_1 : Option Addr) (c0_1 : Nat) (l0_1 : List (S26)) (a0_2 : Int) (a1_0 : Int) (a1_1 : Int) (a1_2 : Bool) (a1_3 : ByteArray) (r : Bool) (w : World) (hr0_0 : Kd.C k26 w A0_0 l0_0.length l0_0) (hc0_0 : l0_0.length ≤ c0_0) (hr0_1 : Kd.C k26 w A0_1 l0_1.length l0_1) (hc0_1 : l0_1.length ≤ c0_1) (h : laws_FnExactStorePut.f k l0_0 l0_1 a0_2 a1_0 a1_1 a1_2 a1_3 = some r) :
  Calls Try.prog 3 #[.agg #[.slice A0_0 l0_0.length c0_0, .slice A0_1 l0_1.length c0_1, .int .i64 a0_2], .agg #[.int .i64 a1_0, .int .i64 a1_1, .bool a1_2, .string a1_3]] w fun e w' => e = .returned (.bool r) ∧ Below w.heap.size w w' := by
 refine (laws_FnExactStorePut.part k A0_0 c0_0 l0_0 A0_1 c0_1 l0_1 a0_2 a1_0 a1_1 a1_2 a1_3 r w).property ⟨?_⟩ hr0_0 hc0_0 hr0_1 hc0_1 h
 clear hr0_0 hc0_0 hr0_1 hc0_1 h
 set_option tactic.hygienic false in (intro x_; intros)
 clear HC25
 try clear c1
 try clear p2
 try clear c6
 try clear c7
 try clear c8
 try clear c13
 try clear c14
 try clear c15
 try clear c68
 try clear c69
 try clear c70
 try clear c71
 try clear c72
 try clear c74
 try clear c75
 try clear c76
 try clear c79
 try clear c80
 try clear c81
 try clear c82
 try clear c84
 try clear c85
 try clear c86
 try clear hcz73_0
 try clear hcz73_1
 try clear hcz73_2
 try clear hcz77_0
 try clear hcz77_1
 try clear hcz77_2
 try clear hcz83_0
 try clear hcz83_1
 try clear hcz83_2
 try clear hcz87_0
 try clear hcz87_1
 try clear hcz87_2
 try clear hfz73_0
 try clear hfz73_1
 try clear hfz73_2
 try clear hfz77_0
 try clear hfz77_1
 try clear hfz77_2
 try clear hfz83_0
 try clear hfz83_1
 try clear hfz83_2
 try clear hfz87_0
 try clear hfz87_1
 try clear hfz87_2
 obtain ⟨kq, x51_24, rfl, HA, HJ24, HO_319000, HO_319001, HO_327000, HO_327001, HO_340000, HO_340001, BK295, BK296, BK318, BK326, BK339, HB⟩ := hcut
 cases kq with
 | zero => exact absurd HA.out (by simp [laws_FnExactStorePut.j0])
 | succ kj24 =>
  have H := HA.out
  clear HA
  simp only [laws_FnExactStorePut.j0] at H
  by_cases c89 : x51_24 = true
  ·subst c89
   have H1 : (none) = some r := by rw [if_pos rfl] at H; exact H
   clear H
   have H := H1
   clear H1
   exact absurd H (by simp)
  ·replace c89 := Bool.eq_false_iff.mpr c89
   subst c89
   have H1 : ((laws_toStore.f kj24 l0_0 l0_1 a0_2).bind fun bt341 => ((laws_eqStore.f kj24 t319 t322 t325 bt341.1 bt341.2.1 bt341.2.2).bind fun t348 => (if t348 = true then ((laws_markStore.f kj24 t319 t322 t325 1).bind fun bt349 => (if bt349.1 < 0 then (laws_FnExactStorePut.j1 kj24 t317 true l0_0 l0_1 a0_2 a1_0 a1_1 a1_2 a1_3 t310 t313 t316 t331 t334 t337) else ((laws_eqStore.f kj24 t331 t334 t337 t310 t313 t316).bind fun t352 => (if t352 = true then (laws_FnExactStorePut.j1 kj24 t317 (t338 != t317) l0_0 l0_1 a0_2 a1_0 a1_1 a1_2 a1_3 t310 t313 t316 t331 t334 t337) else (laws_FnExactStorePut.j1 kj24 t317 true l0_0 l0_1 a0_2 a1_0 a1_1 a1_2 a1_3 t310 t313 t316 t331 t334 t337))))) else (none)))) = some r := by rw [if_neg (show ¬ (false = true) by decide)] at H; exact H
   clear H
   have H := H1
   clear H1
   replace H := Option.bind_eq_some_iff.mp H
   obtain ⟨⟨t341, t344, t347⟩, A900, H⟩ := H
   replace H : ((laws_eqStore.f kj24 t319 t322 t325 t341 t344 t347).bind fun t348 => (if t348 = true then ((laws_markStore.f kj24 t319 t322 t325 1).bind fun bt349 => (if bt349.1 < 0 then (laws_FnExactStorePut.j1 kj24 t317 true l0_0 l0_1 a0_2 a1_0 a1_1 a1_2 a1_3 t310 t313 t316 t331 t334 t337) else ((laws_eqStore.f kj24 t331 t334 t337 t310 t313 t316).bind fun t352 => (if t352 = true then (laws_FnExactStorePut.j1 kj24 t317 (t338 != t317) l0_0 l0_1 a0_2 a1_0 a1_1 a1_2 a1_3 t310 t313 t316 t331 t334 t337) else (laws_FnExactStorePut.j1 kj24 t317 true l0_0 l0_1 a0_2 a1_0 a1_1 a1_2 a1_3 t310 t313 t316 t331 t334 t337))))) else (none))) = some r := H
   have A90 := Aside0.mk A900
   clear A900
   replace H := Option.bind_eq_some_iff.mp H
   obtain ⟨t348, A910, H⟩ := H
   replace H : (if t348 = true then ((laws_markStore.f kj24 t319 t322 t325 1).bind fun bt349 => (if bt349.1 < 0 then (laws_FnExactStorePut.j1 kj24 t317 true l0_0 l0_1 a0_2 a1_0 a1_1 a1_2 a1_3 t310 t313 t316 t331 t334 t337) else ((laws_eqStore.f kj24 t331 t334 t337 t310 t313 t316).bind fun t352 => (if t352 = true then (laws_FnExactStorePut.j1 kj24 t317 (t338 != t317) l0_0 l0_1 a0_2 a1_0 a1_1 a1_2 a1_3 t310 t313 t316 t331 t334 t337) else (laws_FnExactStorePut.j1 kj24 t317 true l0_0 l0_1 a0_2 a1_0 a1_1 a1_2 a1_3 t310 t313 t316 t331 t334 t337))))) else (none)) = some r := H
   have A91 := Aside0.mk A910
   clear A910
   by_cases c92 : t348 = true
   ·subst c92
    have H1 : ((laws_markStore.f kj24 t319 t322 t325 1).bind fun bt349 => (if bt349.1 < 0 then (laws_FnExactStorePut.j1 kj24 t317 true l0_0 l0_1 a0_2 a1_0 a1_1 a1_2 a1_3 t310 t313 t316 t331 t334 t337) else ((laws_eqStore.f kj24 t331 t334 t337 t310 t313 t316).bind fun t352 => (if t352 = true then (laws_FnExactStorePut.j1 kj24 t317 (t338 != t317) l0_0 l0_1 a0_2 a1_0 a1_1 a1_2 a1_3 t310 t313 t316 t331 t334 t337) else (laws_FnExactStorePut.j1 kj24 t317 true l0_0 l0_1 a0_2 a1_0 a1_1 a1_2 a1_3 t310 t313 t316 t331 t334 t337))))) = some r := by rw [if_pos rfl] at H; exact H
    clear H
    have H := H1
    clear H1
    replace H := Option.bind_eq_some_iff.mp H
    obtain ⟨⟨t349, t350, t351⟩, A930, H⟩ := H
    replace H : (if t349 < 0 then (laws_FnExactStorePut.j1 kj24 t317 true l0_0 l0_1 a0_2 a1_0 a1_1 a1_2 a1_3 t310 t313 t316 t331 t334 t337) else ((laws_eqStore.f kj24 t331 t334 t337 t310 t313 t316).bind fun t352 => (if t352 = true then (laws_FnExactStorePut.j1 kj24 t317 (t338 != t317) l0_0 l0_1 a0_2 a1_0 a1_1 a1_2 a1_3 t310 t313 t316 t331 t334 t337) else (laws_FnExactStorePut.j1 kj24 t317 true l0_0 l0_1 a0_2 a1_0 a1_1 a1_2 a1_3 t310 t313 t316 t331 t334 t337)))) = some r := H
    have A93 := Aside0.mk A930
    clear A930
    have HC94 := Aside0.mk H
    clear H
    try go_wp2
    have n0_ := Aside0.mk (Kd.R_drew HO_319000.out)
    have n1_ := Aside0.mk (Kd.R_drew HO_319001.out)
    have n2_ := Aside0.mk (Kd.R_drew HO_327000.out)
    have n3_ := Aside0.mk (Kd.R_drew HO_327001.out)
    have n4_ := Aside0.mk (Kd.R_drew HO_340000.out)
    have n5_ := Aside0.mk (Kd.R_drew HO_340001.out)
    have n6_ := Aside0.mk (blk_drew BK295.out)
    have n7_ := Aside0.mk (blk_drew BK296.out)
    have n8_ := Aside0.mk (blk_drew BK318.out)
    have n9_ := Aside0.mk (blk_drew BK326.out)
    have n10_ := Aside0.mk (blk_drew BK339.out)
    have n11_ := Aside0.mk (below_drew1 HB.out)
    clear HO_319000
    clear HO_319001
    clear HO_327000
    clear HO_327001
    clear HO_340000
    clear HO_340001
    clear BK295
    clear BK296
    clear BK318
    clear BK326
    clear BK339
    clear HB
    have HO_319000 := n0_
    have HO_319001 := n1_
    have HO_327000 := n2_
    have HO_327001 := n3_
    have HO_340000 := n4_
    have HO_340001 := n5_
    have BK295 := n6_
    have BK296 := n7_
    have BK318 := n8_
    have BK326 := n9_
    have BK339 := n10_
    have HB := n11_
    clear n0_ n1_ n2_ n3_ n4_ n5_ n6_ n7_ n8_ n9_ n10_ n11_
    refine start_ (n := 5) (S := fun w' => w'.cell? ⟨gb326, 0, none⟩ = some (.slice Ao50 t319.length co50) ∧ w'.cell? ⟨gb326, 1, none⟩ = some (.slice Ao55 t322.length co55) ∧ w'.cell? ⟨gb326, 2, none⟩ = some (.int .i64 t325) ∧ w'.cell? ⟨gb295, 0, none⟩ = some (.slice A0_0 l0_0.length c0_0) ∧ w'.cell? ⟨gb295, 1, none⟩ = some (.slice A0_1 l0_1.length c0_1) ∧ w'.cell? ⟨gb295, 2, none⟩ = some (.int .i64 a0_2)) (ds := []) #[false, false, false, false, false] (by kernel_rfl) rfl rfl ⟨(blk_cell BK326.out 0).trans rfl, (blk_cell BK326.out 1).trans rfl, (blk_cell BK326.out 2).trans rfl, (blk_cell BK295.out 0).trans rfl, (blk_cell BK295.out 1).trans rfl, (blk_cell BK295.out 2).trans rfl⟩ (fun hHeld => ?_)
    generalize wc.drew = w95 at HO_319000 HO_319001 HO_327000 HO_327001 HO_340000 HO_340001 BK295 BK296 BK318 BK326 BK339 HB hHeld ⊢
    refine take_ (i := 0) (N := some 52) (v := ?_) (a' := ?_) #[true, false, false, false, false] rfl rfl (by kernel_rfl) (fun _ _ _ h => h) (Or.inl ⟨by rfl, ?_⟩) hHeld ?_ ?_
    rotate_left
    ·rintro w' ⟨s0, s1, s2, s3, s4, s5⟩
     go_simp
     with_reducible rfl
    rotate_left
    ·simp only [Act.put, List.setIfInBounds_toArray, List.set_cons_zero, List.set_cons_succ, i64_w, i32_w]
     rfl
    refine take_ (i := 1) (N := some 53) (v := ?_) (a' := ?_) #[true, true, false, false, false] rfl rfl (by kernel_rfl) (fun _ _ _ h => h) (Or.inl ⟨by rfl, ?_⟩) hHeld ?_ ?_
    rotate_left
    ·rintro w' ⟨s0, s1, s2, s3, s4, s5⟩
     go_simp
     with_reducible rfl
    rotate_left
    ·simp only [Act.put, List.setIfInBounds_toArray, List.set_cons_zero, List.set_cons_succ, i64_w, i32_w]
     rfl
    refine one_ (i := 2) (N := some 54) #[true, true, true, false, false] rfl rfl (by kernel_rfl) (by decide) (fun K hK => ?_)
    refine goes_ Try.func12 (by kernel_rfl) rfl #[.agg #[.slice A0_0 l0_0.length c0_0, .slice A0_1 l0_1.length c0_1, .int .i64 a0_2]] (by rfl) rfl rfl KL ?_
    with_reducible refine (laws_toStore.calls kj24 _ _ l0_0 _ _ l0_1 a0_2 t341 t344 t347 _ ?side1 ?side2 ?side3 ?side4 A90.out).mono ?_
    (case side1 => exact KD (Kd.C_below HR0_0.out HB.out))
    (case side2 => exact HC0_0.out)
    (case side3 => exact KD (Kd.C_below HR0_1.out HB.out))
    (case side4 => exact HC0_1.out)
    rintro e w96 ⟨v342, v345, rfl, ho0, ho1, hb⟩
    refine ⟨_, rfl, ?_⟩
    have n0_ := Aside0.mk (Kd.R_mono (Kd.R_told (Kd.R_told (Kd.R_old (KR HO_319000.out) hb) (Kd.R_base ho0)) (Kd.R_base ho1)) (fun _ h_ => h_.1))
    have n1_ := Aside0.mk (Kd.R_mono (Kd.R_told (Kd.R_told (Kd.R_old (KR HO_319001.out) hb) (Kd.R_base ho0)) (Kd.R_base ho1)) (fun _ h_ => h_.1))
    have n2_ := Aside0.mk (Kd.R_mono (Kd.R_told (Kd.R_told (Kd.R_old (KR HO_327000.out) hb) (Kd.R_base ho0)) (Kd.R_base ho1)) (fun _ h_ => h_.1))
    have n3_ := Aside0.mk (Kd.R_mono (Kd.R_told (Kd.R_told (Kd.R_old (KR HO_327001.out) hb) (Kd.R_base ho0)) (Kd.R_base ho1)) (fun _ h_ => h_.1))
    have n4_ := Aside0.mk (Kd.R_mono (Kd.R_told (Kd.R_told (Kd.R_old (KR HO_340000.out) hb) (Kd.R_base ho0)) (Kd.R_base ho1)) (fun _ h_ => h_.1))
    have n5_ := Aside0.mk (Kd.R_mono (Kd.R_told (Kd.R_told (Kd.R_old (KR HO_340001.out) hb) (Kd.R_base ho0)) (Kd.R_base ho1)) (fun _ h_ => h_.1))
    have n6_ := Aside0.mk (Kd.R_lower (Kd.R_new' (Kd.R_new' (Kd.R_new' (Kd.R_new' (Kd.R_new' (Kd.R_new' ho0 (Kd.R_lt (KR HO_319000.out))) (Kd.R_lt (KR HO_319001.out))) (Kd.R_lt (KR HO_327000.out))) (Kd.R_lt (KR HO_327001.out))) (Kd.R_lt (KR HO_340000.out))) (Kd.R_lt (KR HO_340001.out))) (below_size KB))
    have n7_ := Aside0.mk (Kd.R_lower (Kd.R_new' (Kd.R_new' (Kd.R_new' (Kd.R_new' (Kd.R_new' (Kd.R_new' ho1 (Kd.R_lt (KR HO_319000.out))) (Kd.R_lt (KR HO_319001.out))) (Kd.R_lt (KR HO_327000.out))) (Kd.R_lt (KR HO_327001.out))) (Kd.R_lt (KR HO_340000.out))) (Kd.R_lt (KR HO_340001.out))) (below_size KB))
    have n8_ := Aside0.mk (blk_below (g := gb295) (o := .cells #[.slice A0_0 l0_0.length c0_0, .slice A0_1 l0_1.length c0_1, .int .i64 a0_2] 24 (0, 0)) KK hb)
    have n9_ := Aside0.mk (blk_below (g := gb296) (o := .cells #[.int .i64 a1_0, .int .i64 a1_1, .bool a1_2, .string a1_3] 26 (0, 0)) KK hb)
    have n10_ := Aside0.mk (blk_below (g := gb318) (o := .cells #[.slice Ao41 t310.length co41, .slice Ao43 t313.length co43, .int .i64 t316] 31 (0, 0)) KK hb)
    have n11_ := Aside0.mk (blk_below (g := gb326) (o := .cells #[.slice Ao50 t319.length co50, .slice Ao55 t322.length co55, .int .i64 t325] 31 (0, 0)) KK hb)
    have n12_ := Aside0.mk (blk_below (g := gb339) (o := .cells #[.slice Ao62 t331.length co62, .slice Ao64 t334.length co64, .int .i64 t337] 31 (0, 0)) KK hb)
    have n13_ := Aside0.mk (below_step KB hb)
    clear HO_319000
    clear HO_319001
    clear HO_327000
    clear HO_327001
    clear HO_340000
    clear HO_340001
    clear BK295
    clear BK296
    clear BK318
    clear BK326
    clear BK339
    clear HB
    have HO_319000 := n0_
    have HO_319001 := n1_
    have HO_327000 := n2_
    have HO_327001 := n3_
    have HO_340000 := n4_
    have HO_340001 := n5_
    have HO343 := n6_
    have HO346 := n7_
    have BK295 := n8_
    have BK296 := n9_
    have BK318 := n10_
    have BK326 := n11_
    have BK339 := n12_
    have HB := n13_
    clear n0_ n1_ n2_ n3_ n4_ n5_ n6_ n7_ n8_ n9_ n10_ n11_ n12_ n13_
    (try clear hb)
    (try clear hb2)
    (try clear hk)
    (try clear hi)
    (try clear ho0)
    (try clear ho1)
    obtain ⟨Ao97, co97, eo97⟩ := Kd.R_slice HO343.out
    (first | subst eo97 | (injection eo97 with f1_ f2_ f3_; have f4_ := f1_.symm; have f5_ := f3_.symm; clear f1_ f2_ f3_; subst f4_; subst f5_))
    obtain ⟨Ao98, co98, eo98⟩ := Kd.R_slice HO346.out
    (first | subst eo98 | (injection eo98 with f1_ f2_ f3_; have f4_ := f1_.symm; have f5_ := f3_.symm; clear f1_ f2_ f3_; subst f4_; subst f5_))
    refine hK.out _ _ ⟨(blk_cell BK326.out 0).trans rfl, (blk_cell BK326.out 1).trans rfl, (blk_cell BK326.out 2).trans rfl, (blk_cell BK295.out 0).trans rfl, (blk_cell BK295.out 1).trans rfl, (blk_cell BK295.out 2).trans rfl⟩ (fun hHeld => ?_)
    clear hK K
    refine norm_ (a' := ?_) ?_ ?_
    rotate_left
    ·show Act.put _ (some 54) _ = _
     simp only [Act.put, List.setIfInBounds_toArray, List.set_cons_zero, List.set_cons_succ, i64_w, i32_w]
     rfl
    refine one_ (i := 3) (N := some 55) #[true, true, true, true, false] rfl rfl (by kernel_rfl) (by decide) (fun K hK => ?_)
    refine goes_ Try.func15 (by kernel_rfl) rfl #[.agg #[.slice Ao50 t319.length co50, .slice Ao55 t322.length co55, .int .i64 t325], .agg #[.slice Ao97 t341.length co97, .slice Ao98 t344.length co98, .int .i64 t347]] (by rfl) rfl rfl KL ?_
    with_reducible refine (laws_eqStore.calls kj24 _ _ t319 _ _ t322 t325 _ _ t341 _ _ t344 t347 true _ ?side1 ?side2 ?side3 ?side4 ?side5 ?side6 ?side7 ?side8 A91.out).mono ?_
    (case side1 => repeat (first | exact (Kd.R_reads' HO_327000.out).2.2 | (with_reducible refine Kd.C_alloc ?_ _) | (with_reducible refine Kd.C_drewN ?_ _) | (with_reducible refine Kd.C_drew ?_)))
    (case side2 => exact (Kd.R_reads' HO_327000.out).2.1)
    (case side3 => repeat (first | exact (Kd.R_reads' HO_327001.out).2.2 | (with_reducible refine Kd.C_alloc ?_ _) | (with_reducible refine Kd.C_drewN ?_ _) | (with_reducible refine Kd.C_drew ?_)))
    (case side4 => exact (Kd.R_reads' HO_327001.out).2.1)
    (case side5 => repeat (first | exact (Kd.R_reads' HO343.out).2.2 | (with_reducible refine Kd.C_alloc ?_ _) | (with_reducible refine Kd.C_drewN ?_ _) | (with_reducible refine Kd.C_drew ?_)))
    (case side6 => exact (Kd.R_reads' HO343.out).2.1)
    (case side7 => repeat (first | exact (Kd.R_reads' HO346.out).2.2 | (with_reducible refine Kd.C_alloc ?_ _) | (with_reducible refine Kd.C_drewN ?_ _) | (with_reducible refine Kd.C_drew ?_)))
    (case side8 => exact (Kd.R_reads' HO346.out).2.1)
    rintro e w99 ⟨rfl, hb⟩
    refine ⟨_, rfl, ?_⟩
    have n0_ := Aside0.mk (Kd.R_below (KR HO_319000.out) hb)
    have n1_ := Aside0.mk (Kd.R_below (KR HO_319001.out) hb)
    have n2_ := Aside0.mk (Kd.R_below (KR HO_327000.out) hb)
    have n3_ := Aside0.mk (Kd.R_below (KR HO_327001.out) hb)
    have n4_ := Aside0.mk (Kd.R_below (KR HO_340000.out) hb)
    have n5_ := Aside0.mk (Kd.R_below (KR HO_340001.out) hb)
    have n6_ := Aside0.mk (Kd.R_below (KR HO343.out) hb)
    have n7_ := Aside0.mk (Kd.R_below (KR HO346.out) hb)
    have n8_ := Aside0.mk (blk_below (g := gb295) (o := .cells #[.slice A0_0 l0_0.length c0_0, .slice A0_1 l0_1.length c0_1, .int .i64 a0_2] 24 (0, 0)) KK hb)
    have n9_ := Aside0.mk (blk_below (g := gb296) (o := .cells #[.int .i64 a1_0, .int .i64 a1_1, .bool a1_2, .string a1_3] 26 (0, 0)) KK hb)
    have n10_ := Aside0.mk (blk_below (g := gb318) (o := .cells #[.slice Ao41 t310.length co41, .slice Ao43 t313.length co43, .int .i64 t316] 31 (0, 0)) KK hb)
    have n11_ := Aside0.mk (blk_below (g := gb326) (o := .cells #[.slice Ao50 t319.length co50, .slice Ao55 t322.length co55, .int .i64 t325] 31 (0, 0)) KK hb)
    have n12_ := Aside0.mk (blk_below (g := gb339) (o := .cells #[.slice Ao62 t331.length co62, .slice Ao64 t334.length co64, .int .i64 t337] 31 (0, 0)) KK hb)
    have n13_ := Aside0.mk (below_step KB hb)
    clear HO_319000
    clear HO_319001
    clear HO_327000
    clear HO_327001
    clear HO_340000
    clear HO_340001
    clear HO343
    clear HO346
    clear BK295
    clear BK296
    clear BK318
    clear BK326
    clear BK339
    clear HB
    have HO_319000 := n0_
    have HO_319001 := n1_
    have HO_327000 := n2_
    have HO_327001 := n3_
    have HO_340000 := n4_
    have HO_340001 := n5_
    have HO343 := n6_
    have HO346 := n7_
    have BK295 := n8_
    have BK296 := n9_
    have BK318 := n10_
    have BK326 := n11_
    have BK339 := n12_
    have HB := n13_
    clear n0_ n1_ n2_ n3_ n4_ n5_ n6_ n7_ n8_ n9_ n10_ n11_ n12_ n13_
    (try clear hb)
    (try clear hb2)
    (try clear hk)
    (try clear hi)
    refine hK.out _ _ ⟨(blk_cell BK326.out 0).trans rfl, (blk_cell BK326.out 1).trans rfl, (blk_cell BK326.out 2).trans rfl, (blk_cell BK295.out 0).trans rfl, (blk_cell BK295.out 1).trans rfl, (blk_cell BK295.out 2).trans rfl⟩ (fun hHeld => ?_)
    clear hK K
    refine norm_ (a' := ?_) ?_ ?_
    rotate_left
    ·show Act.put _ (some 55) _ = _
     simp only [Act.put, List.setIfInBounds_toArray, List.set_cons_zero, List.set_cons_succ, i64_w, i32_w]
     rfl
    refine pure_ (i := 4) (N := some 56) (v := ?_) (a' := ?_) #[true, true, true, true, true] rfl rfl (by kernel_rfl) (fun _ _ _ h => h) (Or.inl ⟨by rfl, ?_⟩) ?_ ?_
    rotate_left
    ·intro w'
     go_simp
     with_reducible rfl
    rotate_left
    ·simp only [Act.put, List.setIfInBounds_toArray, List.set_cons_zero, List.set_cons_succ, i64_w, i32_w]
     rfl
    refine done_ (by kernel_rfl) ?_
    have hnb100 := NB326_295.out
    have hnc100 := NB295_326.out
    have hnb101 := NB326_296.out
    have hnc101 := NB296_326.out
    have hnb102 := NB326_318.out
    have hnc102 := NB318_326.out
    have hnb103 := NB326_339.out
    have hnc103 := NB339_326.out
    have hcz104_0 : w99.cell? ⟨gb326, 0, none⟩ = some (.slice Ao50 t319.length co50) := (blk_cell BK326.out 0).trans rfl
    have hcz104_1 : w99.cell? ⟨gb326, 1, none⟩ = some (.slice Ao55 t322.length co55) := (blk_cell BK326.out 1).trans rfl
    have hcz104_2 : w99.cell? ⟨gb326, 2, none⟩ = some (.int .i64 t325) := (blk_cell BK326.out 2).trans rfl
    have hfz104_0 := blk_frozen BK326.out 0
    have hfz104_1 := blk_frozen BK326.out 1
    have hfz104_2 := blk_frozen BK326.out 2
    go_upto_region 17 with (first | ((with_reducible refine gate_callee (f := 16) rfl ?_); refine goesL_ (some 59) rfl rfl Try.func16 (by kernel_rfl) rfl #[.agg #[.slice Ao50 t319.length co50, .slice Ao55 t322.length co55, .int .i64 t325], .int .i64 1] rfl KL ?_; (with_reducible refine (laws_markStore.calls kj24 (fun k_ => some k_ = (.slice Ao50 t319.length co50 : Value).ownBlock) (.slice Ao50 t319.length co50) t319 (fun k_ => some k_ = (.slice Ao55 t322.length co55 : Value).ownBlock) (.slice Ao55 t322.length co55) t322 t325 1 t349 t350 t351 w _ ?side1 ?side2 ?side3 ?side4 ?side5 A93.out).mono ?_); (case side1 => exact KB); (case side2 => exact Kd.R_tight rfl HO_327000.out); (case side3 => exact fun k_ e_ => (HO_327000.out.1 k_ e_.symm).1.1.2.2.1); (case side4 => exact Kd.R_tight rfl HO_327001.out); (case side5 => exact fun k_ e_ => (HO_327001.out.1 k_ e_.symm).1.1.2.2.1); rintro e w105 ⟨rfl, hy0, hy1, hb, hkp⟩; refine ⟨_, rfl, ?_⟩; have n0_ := Aside0.mk (Kd.R_mono (ok' := fun k_ => some k_ ≠ (.slice Ao43 t313.length co43 : Value).ownBlock ∧ some k_ ≠ (.slice Ao50 t319.length co50 : Value).ownBlock ∧ some k_ ≠ (.slice Ao55 t322.length co55 : Value).ownBlock ∧ some k_ ≠ (.slice Ao62 t331.length co62 : Value).ownBlock ∧ some k_ ≠ (.slice Ao64 t334.length co64 : Value).ownBlock ∧ some k_ ≠ (.slice Ao97 t341.length co97 : Value).ownBlock ∧ some k_ ≠ (.slice Ao98 t344.length co98 : Value).ownBlock) (Kd.R_keptB (HO_319000.out) hkp (fun k_ hk_ hs_ => Or.elim hs_ (fun e_ => (hk_.1.1.2.1) e_) (fun e_ => (hk_.1.1.2.2.1) e_))) (fun k_ hk_ => ⟨hk_.1.1.1.1, hk_.1.1.1.2.1, hk_.1.1.1.2.2.1, hk_.1.1.1.2.2.2.1, hk_.1.1.1.2.2.2.2, hk_.1.1.2, hk_.1.2⟩)); have n1_ := Aside0.mk (Kd.R_mono (ok' := fun k_ => some k_ ≠ (.slice Ao41 t310.length co41 : Value).ownBlock ∧ some k_ ≠ (.slice Ao50 t319.length co50 : Value).ownBlock ∧ some k_ ≠ (.slice Ao55 t322.length co55 : Value).ownBlock ∧ some k_ ≠ (.slice Ao62 t331.length co62 : Value).ownBlock ∧ some k_ ≠ (.slice Ao64 t334.length co64 : Value).ownBlock ∧ some k_ ≠ (.slice Ao97 t341.length co97 : Value).ownBlock ∧ some k_ ≠ (.slice Ao98 t344.length co98 : Value).ownBlock) (Kd.R_keptB (HO_319001.out) hkp (fun k_ hk_ hs_ => Or.elim hs_ (fun e_ => (hk_.1.1.2.1) e_) (fun e_ => (hk_.1.1.2.2.1) e_))) (fun k_ hk_ => ⟨hk_.1.1.1.1, hk_.1.1.1.2.1, hk_.1.1.1.2.2.1, hk_.1.1.1.2.2.2.1, hk_.1.1.1.2.2.2.2, hk_.1.1.2, hk_.1.2⟩)); have n2_ := Aside0.mk (Kd.R_reok rfl hy0 (fun k_ e_ => HO_327000.out.1 k_ e_)); have n3_ := Aside0.mk (Kd.R_reok rfl hy1 (fun k_ e_ => HO_327001.out.1 k_ e_)); have n4_ := Aside0.mk (Kd.R_mono (ok' := fun k_ => some k_ ≠ (.slice Ao41 t310.length co41 : Value).ownBlock ∧ some k_ ≠ (.slice Ao43 t313.length co43 : Value).ownBlock ∧ some k_ ≠ (.slice Ao50 t319.length co50 : Value).ownBlock ∧ some k_ ≠ (.slice Ao55 t322.length co55 : Value).ownBlock ∧ some k_ ≠ (.slice Ao64 t334.length co64 : Value).ownBlock ∧ some k_ ≠ (.slice Ao97 t341.length co97 : Value).ownBlock ∧ some k_ ≠ (.slice Ao98 t344.length co98 : Value).ownBlock) (Kd.R_keptB (HO_340000.out) hkp (fun k_ hk_ hs_ => Or.elim hs_ (fun e_ => (hk_.1.1.2.2.1) e_) (fun e_ => (hk_.1.1.2.2.2.1) e_))) (fun k_ hk_ => ⟨hk_.1.1.1.1, hk_.1.1.1.2.1, hk_.1.1.1.2.2.1, hk_.1.1.1.2.2.2.1, hk_.1.1.1.2.2.2.2, hk_.1.1.2, hk_.1.2⟩)); have n5_ := Aside0.mk (Kd.R_mono (ok' := fun k_ => some k_ ≠ (.slice Ao41 t310.length co41 : Value).ownBlock ∧ some k_ ≠ (.slice Ao43 t313.length co43 : Value).ownBlock ∧ some k_ ≠ (.slice Ao50 t319.length co50 : Value).ownBlock ∧ some k_ ≠ (.slice Ao55 t322.length co55 : Value).ownBlock ∧ some k_ ≠ (.slice Ao62 t331.length co62 : Value).ownBlock ∧ some k_ ≠ (.slice Ao97 t341.length co97 : Value).ownBlock ∧ some k_ ≠ (.slice Ao98 t344.length co98 : Value).ownBlock) (Kd.R_keptB (HO_340001.out) hkp (fun k_ hk_ hs_ => Or.elim hs_ (fun e_ => (hk_.1.1.2.2.1) e_) (fun e_ => (hk_.1.1.2.2.2.1) e_))) (fun k_ hk_ => ⟨hk_.1.1.1.1, hk_.1.1.1.2.1, hk_.1.1.1.2.2.1, hk_.1.1.1.2.2.2.1, hk_.1.1.1.2.2.2.2, hk_.1.1.2, hk_.1.2⟩)); have n6_ := Aside0.mk (blk_kept KK hkp (fun hs_ => Or.elim hs_ (fun e_ => (fun e_ => (Kd.R_ne HO_327000.out BK295.out (by decide)) e_) e_) (fun e_ => (fun e_ => (Kd.R_ne HO_327001.out BK295.out (by decide)) e_) e_))); have n7_ := Aside0.mk (blk_kept KK hkp (fun hs_ => Or.elim hs_ (fun e_ => (fun e_ => (Kd.R_ne HO_327000.out BK296.out (by decide)) e_) e_) (fun e_ => (fun e_ => (Kd.R_ne HO_327001.out BK296.out (by decide)) e_) e_))); have n8_ := Aside0.mk (blk_kept KK hkp (fun hs_ => Or.elim hs_ (fun e_ => (fun e_ => (Kd.R_ne HO_327000.out BK318.out (by decide)) e_) e_) (fun e_ => (fun e_ => (Kd.R_ne HO_327001.out BK318.out (by decide)) e_) e_))); have n9_ := Aside0.mk (blk_kept KK hkp (fun hs_ => Or.elim hs_ (fun e_ => (fun e_ => (Kd.R_ne HO_327000.out BK326.out (by decide)) e_) e_) (fun e_ => (fun e_ => (Kd.R_ne HO_327001.out BK326.out (by decide)) e_) e_))); have n10_ := Aside0.mk (blk_kept KK hkp (fun hs_ => Or.elim hs_ (fun e_ => (fun e_ => (Kd.R_ne HO_327000.out BK339.out (by decide)) e_) e_) (fun e_ => (fun e_ => (Kd.R_ne HO_327001.out BK339.out (by decide)) e_) e_))); have n11_ := Aside0.mk (Kd.R_mono (ok' := fun k_ => some k_ ≠ (.slice Ao41 t310.length co41 : Value).ownBlock ∧ some k_ ≠ (.slice Ao43 t313.length co43 : Value).ownBlock ∧ some k_ ≠ (.slice Ao50 t319.length co50 : Value).ownBlock ∧ some k_ ≠ (.slice Ao55 t322.length co55 : Value).ownBlock ∧ some k_ ≠ (.slice Ao62 t331.length co62 : Value).ownBlock ∧ some k_ ≠ (.slice Ao64 t334.length co64 : Value).ownBlock ∧ some k_ ≠ (.slice Ao98 t344.length co98 : Value).ownBlock) (Kd.R_keptB (HO343.out) hkp (fun k_ hk_ hs_ => Or.elim hs_ (fun e_ => (hk_.1.1.1.2) e_) (fun e_ => (hk_.1.1.2) e_))) (fun k_ hk_ => ⟨hk_.1.1.1.1.1.1.2, hk_.1.1.1.1.1.2, hk_.1.1.1.1.2, hk_.1.1.1.2, hk_.1.1.2, hk_.1.2, hk_.1.1.1.1.1.1.1⟩)); have n12_ := Aside0.mk (Kd.R_mono (ok' := fun k_ => some k_ ≠ (.slice Ao41 t310.length co41 : Value).ownBlock ∧ some k_ ≠ (.slice Ao43 t313.length co43 : Value).ownBlock ∧ some k_ ≠ (.slice Ao50 t319.length co50 : Value).ownBlock ∧ some k_ ≠ (.slice Ao55 t322.length co55 : Value).ownBlock ∧ some k_ ≠ (.slice Ao62 t331.length co62 : Value).ownBlock ∧ some k_ ≠ (.slice Ao64 t334.length co64 : Value).ownBlock ∧ some k_ ≠ (.slice Ao97 t341.length co97 : Value).ownBlock) (Kd.R_keptB (HO346.out) hkp (fun k_ hk_ hs_ => Or.elim hs_ (fun e_ => (hk_.1.1.1.2) e_) (fun e_ => (hk_.1.1.2) e_))) (fun k_ hk_ => ⟨hk_.1.1.1.1.1.1.2, hk_.1.1.1.1.1.2, hk_.1.1.1.1.2, hk_.1.1.1.2, hk_.1.1.2, hk_.1.2, hk_.1.1.1.1.1.1.1⟩)); have n13_ := Aside0.mk (hb); clear HO_319000; clear HO_319001; clear HO_327000; clear HO_327001; clear HO_340000; clear HO_340001; clear BK295; clear BK296; clear BK318; clear BK326; clear BK339; clear HO343; clear HO346; clear HB; have HO_319000 := n0_; have HO_319001 := n1_; have HO_327000 := n2_; have HO_327001 := n3_; have HO_340000 := n4_; have HO_340001 := n5_; have BK295 := n6_; have BK296 := n7_; have BK318 := n8_; have BK326 := n9_; have BK339 := n10_; have HO343 := n11_; have HO346 := n12_; have HB := n13_; clear n0_ n1_ n2_ n3_ n4_ n5_ n6_ n7_ n8_ n9_ n10_ n11_ n12_ n13_; (try clear hb); (try clear hkp); (try clear hy0); (try clear hy1)))
    (try simp only [Act.put, List.setIfInBounds_toArray, List.set_cons_zero, List.set_cons_succ])
    go_cut [72] (fun v72 wc => ∃ (kq : Nat) (x72_93 : Bool), v72 = .bool x72_93 ∧ Aside0 (laws_FnExactStorePut.j1 kq t317 x72_93 l0_0 l0_1 a0_2 a1_0 a1_1 a1_2 a1_3 t310 t313 t316 t331 t334 t337 = some r) ∧ Aside0 (kq ≤ kj24) ∧ Aside0 (Kd.R k35 35 wc w.heap.size (fun k_ => some k_ ≠ ((.slice Ao43 t313.length co43) : Value).ownBlock ∧ some k_ ≠ ((.slice Ao50 t319.length co50) : Value).ownBlock ∧ some k_ ≠ ((.slice Ao55 t322.length co55) : Value).ownBlock ∧ some k_ ≠ ((.slice Ao62 t331.length co62) : Value).ownBlock ∧ some k_ ≠ ((.slice Ao64 t334.length co64) : Value).ownBlock) (.slice Ao41 t310.length co41) t310) ∧ Aside0 (Kd.R k35 35 wc w.heap.size (fun k_ => some k_ ≠ ((.slice Ao41 t310.length co41) : Value).ownBlock ∧ some k_ ≠ ((.slice Ao50 t319.length co50) : Value).ownBlock ∧ some k_ ≠ ((.slice Ao55 t322.length co55) : Value).ownBlock ∧ some k_ ≠ ((.slice Ao62 t331.length co62) : Value).ownBlock ∧ some k_ ≠ ((.slice Ao64 t334.length co64) : Value).ownBlock) (.slice Ao43 t313.length co43) t313) ∧ Aside0 (Kd.R k35 35 wc w.heap.size (fun k_ => some k_ ≠ ((.slice Ao41 t310.length co41) : Value).ownBlock ∧ some k_ ≠ ((.slice Ao43 t313.length co43) : Value).ownBlock ∧ some k_ ≠ ((.slice Ao55 t322.length co55) : Value).ownBlock ∧ some k_ ≠ ((.slice Ao62 t331.length co62) : Value).ownBlock ∧ some k_ ≠ ((.slice Ao64 t334.length co64) : Value).ownBlock) (.slice Ao50 t319.length co50) t350) ∧ Aside0 (Kd.R k35 35 wc w.heap.size (fun k_ => some k_ ≠ ((.slice Ao41 t310.length co41) : Value).ownBlock ∧ some k_ ≠ ((.slice Ao43 t313.length co43) : Value).ownBlock ∧ some k_ ≠ ((.slice Ao50 t319.length co50) : Value).ownBlock ∧ some k_ ≠ ((.slice Ao62 t331.length co62) : Value).ownBlock ∧ some k_ ≠ ((.slice Ao64 t334.length co64) : Value).ownBlock) (.slice Ao55 t322.length co55) t351) ∧ Aside0 (Kd.R k35 35 wc w.heap.size (fun k_ => some k_ ≠ ((.slice Ao41 t310.length co41) : Value).ownBlock ∧ some k_ ≠ ((.slice Ao43 t313.length co43) : Value).ownBlock ∧ some k_ ≠ ((.slice Ao50 t319.length co50) : Value).ownBlock ∧ some k_ ≠ ((.slice Ao55 t322.length co55) : Value).ownBlock ∧ some k_ ≠ ((.slice Ao64 t334.length co64) : Value).ownBlock) (.slice Ao62 t331.length co62) t331) ∧ Aside0 (Kd.R k35 35 wc w.heap.size (fun k_ => some k_ ≠ ((.slice Ao41 t310.length co41) : Value).ownBlock ∧ some k_ ≠ ((.slice Ao43 t313.length co43) : Value).ownBlock ∧ some k_ ≠ ((.slice Ao50 t319.length co50) : Value).ownBlock ∧ some k_ ≠ ((.slice Ao55 t322.length co55) : Value).ownBlock ∧ some k_ ≠ ((.slice Ao62 t331.length co62) : Value).ownBlock) (.slice Ao64 t334.length co64) t334) ∧ Aside0 (wc.heap[gb295]? = some (.cells #[(.slice A0_0 l0_0.length c0_0), (.slice A0_1 l0_1.length c0_1), .int .i64 a0_2] 24 (0, 0))) ∧ Aside0 (wc.heap[gb296]? = some (.cells #[.int .i64 a1_0, .int .i64 a1_1, .bool a1_2, .string a1_3] 26 (0, 0))) ∧ Aside0 (wc.heap[gb318]? = some (.cells #[(.slice Ao41 t310.length co41), (.slice Ao43 t313.length co43), .int .i64 t316] 31 (0, 0))) ∧ Aside0 (wc.heap[gb326]? = some (.cells #[(.slice Ao50 t319.length co50), (.slice Ao55 t322.length co55), .int .i64 t325] 31 (0, 0))) ∧ Aside0 (wc.heap[gb339]? = some (.cells #[(.slice Ao62 t331.length co62), (.slice Ao64 t334.length co64), .int .i64 t337] 31 (0, 0))) ∧ Aside0 (Below w.heap.size w wc))
    case first =>
     have H := HC94.out
     clear HC94
     by_cases c106 : t349 < 0
     ·rw [if_pos c106] at H
      have c106b0 : decide (t349 < 0) = true := decide_eq_true c106
      clear c106
      (first | rw [c106b0] | (simp only [i64_w, i32_w]; rw [c106b0]) | skip)
      have H' := Aside0.mk H
      clear H
      go_wp2
      go_meet
      case rel => exact ⟨_, (true), (by first | rfl | (simp; done) | (simp [*]; done)), H', ⟨by have := HJ24.out; first | omega | exact Nat.le_refl _⟩, ⟨by (with_reducible repeat (first | apply Kd.R_alloc | apply Kd.R_drewN | apply Kd.R_drew)); exact Kd.R_mono HO_319000.out (fun _ hk => ⟨hk.1, ⟨hk.2.1, ⟨hk.2.2.1, ⟨hk.2.2.2.1, hk.2.2.2.2.1⟩⟩⟩⟩)⟩, ⟨by (with_reducible repeat (first | apply Kd.R_alloc | apply Kd.R_drewN | apply Kd.R_drew)); exact Kd.R_mono HO_319001.out (fun _ hk => ⟨hk.1, ⟨hk.2.1, ⟨hk.2.2.1, ⟨hk.2.2.2.1, hk.2.2.2.2.1⟩⟩⟩⟩)⟩, ⟨by (with_reducible repeat (first | apply Kd.R_alloc | apply Kd.R_drewN | apply Kd.R_drew)); exact Kd.R_mono HO_327000.out (fun _ hk => ⟨hk.1.1.1, ⟨hk.1.1.2.1, ⟨hk.1.1.2.2.1, ⟨hk.1.1.2.2.2.1, hk.1.1.2.2.2.2⟩⟩⟩⟩)⟩, ⟨by (with_reducible repeat (first | apply Kd.R_alloc | apply Kd.R_drewN | apply Kd.R_drew)); exact Kd.R_mono HO_327001.out (fun _ hk => ⟨hk.1.1.1, ⟨hk.1.1.2.1, ⟨hk.1.1.2.2.1, ⟨hk.1.1.2.2.2.1, hk.1.1.2.2.2.2⟩⟩⟩⟩)⟩, ⟨by (with_reducible repeat (first | apply Kd.R_alloc | apply Kd.R_drewN | apply Kd.R_drew)); exact Kd.R_mono HO_340000.out (fun _ hk => ⟨hk.1, ⟨hk.2.1, ⟨hk.2.2.1, ⟨hk.2.2.2.1, hk.2.2.2.2.1⟩⟩⟩⟩)⟩, ⟨by (with_reducible repeat (first | apply Kd.R_alloc | apply Kd.R_drewN | apply Kd.R_drew)); exact Kd.R_mono HO_340001.out (fun _ hk => ⟨hk.1, ⟨hk.2.1, ⟨hk.2.2.1, ⟨hk.2.2.2.1, hk.2.2.2.2.1⟩⟩⟩⟩)⟩, ⟨KK⟩, ⟨KK⟩, ⟨KK⟩, ⟨KK⟩, ⟨KK⟩, ⟨KB⟩⟩
     ·rw [if_neg c106] at H
      have c106b0 : decide (t349 < 0) = false := decide_eq_false c106
      clear c106
      (first | rw [c106b0] | (simp only [i64_w, i32_w]; rw [c106b0]) | skip)
      replace H := Option.bind_eq_some_iff.mp H
      obtain ⟨t352, A1070, H⟩ := H
      replace H : (if t352 = true then (laws_FnExactStorePut.j1 kj24 t317 (t338 != t317) l0_0 l0_1 a0_2 a1_0 a1_1 a1_2 a1_3 t310 t313 t316 t331 t334 t337) else (laws_FnExactStorePut.j1 kj24 t317 true l0_0 l0_1 a0_2 a1_0 a1_1 a1_2 a1_3 t310 t313 t316 t331 t334 t337)) = some r := H
      have A107 := Aside0.mk A1070
      clear A1070
      by_cases c108 : t352 = true
      ·subst c108
       have H1 : (laws_FnExactStorePut.j1 kj24 t317 (t338 != t317) l0_0 l0_1 a0_2 a1_0 a1_1 a1_2 a1_3 t310 t313 t316 t331 t334 t337) = some r := by rw [if_pos rfl] at H; exact H
       clear H
       have H := H1
       clear H1
       have H' := Aside0.mk H
       clear H
       have hnb109 := NB339_295.out
       have hnc109 := NB295_339.out
       have hnb110 := NB339_296.out
       have hnc110 := NB296_339.out
       have hnb111 := NB339_318.out
       have hnc111 := NB318_339.out
       have hnb112 := NB339_326.out
       have hnc112 := NB326_339.out
       have hcz113_0 : w105.cell? ⟨gb339, 0, none⟩ = some (.slice Ao62 t331.length co62) := (blk_cell BK339.out 0).trans rfl
       have hcz113_1 : w105.cell? ⟨gb339, 1, none⟩ = some (.slice Ao64 t334.length co64) := (blk_cell BK339.out 1).trans rfl
       have hcz113_2 : w105.cell? ⟨gb339, 2, none⟩ = some (.int .i64 t337) := (blk_cell BK339.out 2).trans rfl
       have hfz113_0 := blk_frozen BK339.out 0
       have hfz113_1 := blk_frozen BK339.out 1
       have hfz113_2 := blk_frozen BK339.out 2
       have hnb114 := NB318_295.out
       have hnc114 := NB295_318.out
       have hnb115 := NB318_296.out
       have hnc115 := NB296_318.out
       have hnb116 := NB318_326.out
       have hnc116 := NB326_318.out
       have hcz117_0 : w105.cell? ⟨gb318, 0, none⟩ = some (.slice Ao41 t310.length co41) := (blk_cell BK318.out 0).trans rfl
       have hcz117_1 : w105.cell? ⟨gb318, 1, none⟩ = some (.slice Ao43 t313.length co43) := (blk_cell BK318.out 1).trans rfl
       have hcz117_2 : w105.cell? ⟨gb318, 2, none⟩ = some (.int .i64 t316) := (blk_cell BK318.out 2).trans rfl
       have hfz117_0 := blk_frozen BK318.out 0
       have hfz117_1 := blk_frozen BK318.out 1
       have hfz117_2 := blk_frozen BK318.out 2
       go_wp2_with (first | (go_at_call 15; (with_reducible refine (laws_eqStore.calls kj24 _ _ t331 _ _ t334 t337 _ _ t310 _ _ t313 t316 true _ ?side1 ?side2 ?side3 ?side4 ?side5 ?side6 ?side7 ?side8 A107.out).mono ?_); (case side1 => repeat (first | exact (Kd.R_reads' HO_340000.out).2.2 | (with_reducible refine Kd.C_alloc ?_ _) | (with_reducible refine Kd.C_drewN ?_ _) | (with_reducible refine Kd.C_drew ?_))); (case side2 => exact (Kd.R_reads' HO_340000.out).2.1); (case side3 => repeat (first | exact (Kd.R_reads' HO_340001.out).2.2 | (with_reducible refine Kd.C_alloc ?_ _) | (with_reducible refine Kd.C_drewN ?_ _) | (with_reducible refine Kd.C_drew ?_))); (case side4 => exact (Kd.R_reads' HO_340001.out).2.1); (case side5 => repeat (first | exact (Kd.R_reads' HO_319000.out).2.2 | (with_reducible refine Kd.C_alloc ?_ _) | (with_reducible refine Kd.C_drewN ?_ _) | (with_reducible refine Kd.C_drew ?_))); (case side6 => exact (Kd.R_reads' HO_319000.out).2.1); (case side7 => repeat (first | exact (Kd.R_reads' HO_319001.out).2.2 | (with_reducible refine Kd.C_alloc ?_ _) | (with_reducible refine Kd.C_drewN ?_ _) | (with_reducible refine Kd.C_drew ?_))); (case side8 => exact (Kd.R_reads' HO_319001.out).2.1); rintro e w118 ⟨rfl, hb⟩; have n0_ := Aside0.mk (Kd.R_below (KR HO_319000.out) hb); have n1_ := Aside0.mk (Kd.R_below (KR HO_319001.out) hb); have n2_ := Aside0.mk (Kd.R_below (KR HO_327000.out) hb); have n3_ := Aside0.mk (Kd.R_below (KR HO_327001.out) hb); have n4_ := Aside0.mk (Kd.R_below (KR HO_340000.out) hb); have n5_ := Aside0.mk (Kd.R_below (KR HO_340001.out) hb); have n6_ := Aside0.mk (Kd.R_below (KR HO343.out) hb); have n7_ := Aside0.mk (Kd.R_below (KR HO346.out) hb); have n8_ := Aside0.mk (blk_below (g := gb295) (o := .cells #[.slice A0_0 l0_0.length c0_0, .slice A0_1 l0_1.length c0_1, .int .i64 a0_2] 24 (0, 0)) KK hb); have n9_ := Aside0.mk (blk_below (g := gb296) (o := .cells #[.int .i64 a1_0, .int .i64 a1_1, .bool a1_2, .string a1_3] 26 (0, 0)) KK hb); have n10_ := Aside0.mk (blk_below (g := gb318) (o := .cells #[.slice Ao41 t310.length co41, .slice Ao43 t313.length co43, .int .i64 t316] 31 (0, 0)) KK hb); have n11_ := Aside0.mk (blk_below (g := gb326) (o := .cells #[.slice Ao50 t319.length co50, .slice Ao55 t322.length co55, .int .i64 t325] 31 (0, 0)) KK hb); have n12_ := Aside0.mk (blk_below (g := gb339) (o := .cells #[.slice Ao62 t331.length co62, .slice Ao64 t334.length co64, .int .i64 t337] 31 (0, 0)) KK hb); have n13_ := Aside0.mk (below_step KB hb); clear HO_319000; clear HO_319001; clear HO_327000; clear HO_327001; clear HO_340000; clear HO_340001; clear HO343; clear HO346; clear BK295; clear BK296; clear BK318; clear BK326; clear BK339; clear HB; have HO_319000 := n0_; have HO_319001 := n1_; have HO_327000 := n2_; have HO_327001 := n3_; have HO_340000 := n4_; have HO_340001 := n5_; have HO343 := n6_; have HO346 := n7_; have BK295 := n8_; have BK296 := n9_; have BK318 := n10_; have BK326 := n11_; have BK339 := n12_; have HB := n13_; clear n0_ n1_ n2_ n3_ n4_ n5_ n6_ n7_ n8_ n9_ n10_ n11_ n12_ n13_; (try clear hb); (try clear hb2); (try clear hk); (try clear hi)))
       go_meet
       case rel => exact ⟨_, ((t338 != t317)), (by first | rfl | (simp; done) | (simp [*]; done)), H', ⟨by have := HJ24.out; first | omega | exact Nat.le_refl _⟩, ⟨by (with_reducible repeat (first | apply Kd.R_alloc | apply Kd.R_drewN | apply Kd.R_drew)); exact Kd.R_mono HO_319000.out (fun _ hk => ⟨hk.1, ⟨hk.2.1, ⟨hk.2.2.1, ⟨hk.2.2.2.1, hk.2.2.2.2.1⟩⟩⟩⟩)⟩, ⟨by (with_reducible repeat (first | apply Kd.R_alloc | apply Kd.R_drewN | apply Kd.R_drew)); exact Kd.R_mono HO_319001.out (fun _ hk => ⟨hk.1, ⟨hk.2.1, ⟨hk.2.2.1, ⟨hk.2.2.2.1, hk.2.2.2.2.1⟩⟩⟩⟩)⟩, ⟨by (with_reducible repeat (first | apply Kd.R_alloc | apply Kd.R_drewN | apply Kd.R_drew)); exact Kd.R_mono HO_327000.out (fun _ hk => ⟨hk.1.1.1, ⟨hk.1.1.2.1, ⟨hk.1.1.2.2.1, ⟨hk.1.1.2.2.2.1, hk.1.1.2.2.2.2⟩⟩⟩⟩)⟩, ⟨by (with_reducible repeat (first | apply Kd.R_alloc | apply Kd.R_drewN | apply Kd.R_drew)); exact Kd.R_mono HO_327001.out (fun _ hk => ⟨hk.1.1.1, ⟨hk.1.1.2.1, ⟨hk.1.1.2.2.1, ⟨hk.1.1.2.2.2.1, hk.1.1.2.2.2.2⟩⟩⟩⟩)⟩, ⟨by (with_reducible repeat (first | apply Kd.R_alloc | apply Kd.R_drewN | apply Kd.R_drew)); exact Kd.R_mono HO_340000.out (fun _ hk => ⟨hk.1, ⟨hk.2.1, ⟨hk.2.2.1, ⟨hk.2.2.2.1, hk.2.2.2.2.1⟩⟩⟩⟩)⟩, ⟨by (with_reducible repeat (first | apply Kd.R_alloc | apply Kd.R_drewN | apply Kd.R_drew)); exact Kd.R_mono HO_340001.out (fun _ hk => ⟨hk.1, ⟨hk.2.1, ⟨hk.2.2.1, ⟨hk.2.2.2.1, hk.2.2.2.2.1⟩⟩⟩⟩)⟩, ⟨KK⟩, ⟨KK⟩, ⟨KK⟩, ⟨KK⟩, ⟨KK⟩, ⟨KB⟩⟩
      ·replace c108 := Bool.eq_false_iff.mpr c108
       subst c108
       have H1 : (laws_FnExactStorePut.j1 kj24 t317 true l0_0 l0_1 a0_2 a1_0 a1_1 a1_2 a1_3 t310 t313 t316 t331 t334 t337) = some r := by rw [if_neg (show ¬ (false = true) by decide)] at H; exact H
       clear H
       have H := H1
       clear H1
       have H' := Aside0.mk H
       clear H
       have hnb119 := NB339_295.out
       have hnc119 := NB295_339.out
       have hnb120 := NB339_296.out
       have hnc120 := NB296_339.out
       have hnb121 := NB339_318.out
       have hnc121 := NB318_339.out
       have hnb122 := NB339_326.out
       have hnc122 := NB326_339.out
       have hcz123_0 : w105.cell? ⟨gb339, 0, none⟩ = some (.slice Ao62 t331.length co62) := (blk_cell BK339.out 0).trans rfl
       have hcz123_1 : w105.cell? ⟨gb339, 1, none⟩ = some (.slice Ao64 t334.length co64) := (blk_cell BK339.out 1).trans rfl
       have hcz123_2 : w105.cell? ⟨gb339, 2, none⟩ = some (.int .i64 t337) := (blk_cell BK339.out 2).trans rfl
       have hfz123_0 := blk_frozen BK339.out 0
       have hfz123_1 := blk_frozen BK339.out 1
       have hfz123_2 := blk_frozen BK339.out 2
       have hnb124 := NB318_295.out
       have hnc124 := NB295_318.out
       have hnb125 := NB318_296.out
       have hnc125 := NB296_318.out
       have hnb126 := NB318_326.out
       have hnc126 := NB326_318.out
       have hcz127_0 : w105.cell? ⟨gb318, 0, none⟩ = some (.slice Ao41 t310.length co41) := (blk_cell BK318.out 0).trans rfl
       have hcz127_1 : w105.cell? ⟨gb318, 1, none⟩ = some (.slice Ao43 t313.length co43) := (blk_cell BK318.out 1).trans rfl
       have hcz127_2 : w105.cell? ⟨gb318, 2, none⟩ = some (.int .i64 t316) := (blk_cell BK318.out 2).trans rfl
       have hfz127_0 := blk_frozen BK318.out 0
       have hfz127_1 := blk_frozen BK318.out 1
       have hfz127_2 := blk_frozen BK318.out 2
       go_wp2_with (first | (go_at_call 15; (with_reducible refine (laws_eqStore.calls kj24 _ _ t331 _ _ t334 t337 _ _ t310 _ _ t313 t316 false _ ?side1 ?side2 ?side3 ?side4 ?side5 ?side6 ?side7 ?side8 A107.out).mono ?_); (case side1 => repeat (first | exact (Kd.R_reads' HO_340000.out).2.2 | (with_reducible refine Kd.C_alloc ?_ _) | (with_reducible refine Kd.C_drewN ?_ _) | (with_reducible refine Kd.C_drew ?_))); (case side2 => exact (Kd.R_reads' HO_340000.out).2.1); (case side3 => repeat (first | exact (Kd.R_reads' HO_340001.out).2.2 | (with_reducible refine Kd.C_alloc ?_ _) | (with_reducible refine Kd.C_drewN ?_ _) | (with_reducible refine Kd.C_drew ?_))); (case side4 => exact (Kd.R_reads' HO_340001.out).2.1); (case side5 => repeat (first | exact (Kd.R_reads' HO_319000.out).2.2 | (with_reducible refine Kd.C_alloc ?_ _) | (with_reducible refine Kd.C_drewN ?_ _) | (with_reducible refine Kd.C_drew ?_))); (case side6 => exact (Kd.R_reads' HO_319000.out).2.1); (case side7 => repeat (first | exact (Kd.R_reads' HO_319001.out).2.2 | (with_reducible refine Kd.C_alloc ?_ _) | (with_reducible refine Kd.C_drewN ?_ _) | (with_reducible refine Kd.C_drew ?_))); (case side8 => exact (Kd.R_reads' HO_319001.out).2.1); rintro e w128 ⟨rfl, hb⟩; have n0_ := Aside0.mk (Kd.R_below (KR HO_319000.out) hb); have n1_ := Aside0.mk (Kd.R_below (KR HO_319001.out) hb); have n2_ := Aside0.mk (Kd.R_below (KR HO_327000.out) hb); have n3_ := Aside0.mk (Kd.R_below (KR HO_327001.out) hb); have n4_ := Aside0.mk (Kd.R_below (KR HO_340000.out) hb); have n5_ := Aside0.mk (Kd.R_below (KR HO_340001.out) hb); have n6_ := Aside0.mk (Kd.R_below (KR HO343.out) hb); have n7_ := Aside0.mk (Kd.R_below (KR HO346.out) hb); have n8_ := Aside0.mk (blk_below (g := gb295) (o := .cells #[.slice A0_0 l0_0.length c0_0, .slice A0_1 l0_1.length c0_1, .int .i64 a0_2] 24 (0, 0)) KK hb); have n9_ := Aside0.mk (blk_below (g := gb296) (o := .cells #[.int .i64 a1_0, .int .i64 a1_1, .bool a1_2, .string a1_3] 26 (0, 0)) KK hb); have n10_ := Aside0.mk (blk_below (g := gb318) (o := .cells #[.slice Ao41 t310.length co41, .slice Ao43 t313.length co43, .int .i64 t316] 31 (0, 0)) KK hb); have n11_ := Aside0.mk (blk_below (g := gb326) (o := .cells #[.slice Ao50 t319.length co50, .slice Ao55 t322.length co55, .int .i64 t325] 31 (0, 0)) KK hb); have n12_ := Aside0.mk (blk_below (g := gb339) (o := .cells #[.slice Ao62 t331.length co62, .slice Ao64 t334.length co64, .int .i64 t337] 31 (0, 0)) KK hb); have n13_ := Aside0.mk (below_step KB hb); clear HO_319000; clear HO_319001; clear HO_327000; clear HO_327001; clear HO_340000; clear HO_340001; clear HO343; clear HO346; clear BK295; clear BK296; clear BK318; clear BK326; clear BK339; clear HB; have HO_319000 := n0_; have HO_319001 := n1_; have HO_327000 := n2_; have HO_327001 := n3_; have HO_340000 := n4_; have HO_340001 := n5_; have HO343 := n6_; have HO346 := n7_; have BK295 := n8_; have BK296 := n9_; have BK318 := n10_; have BK326 := n11_; have BK339 := n12_; have HB := n13_; clear n0_ n1_ n2_ n3_ n4_ n5_ n6_ n7_ n8_ n9_ n10_ n11_ n12_ n13_; (try clear hb); (try clear hb2); (try clear hk); (try clear hi)))
       go_meet
       case rel => exact ⟨_, (true), (by first | rfl | (simp; done) | (simp [*]; done)), H', ⟨by have := HJ24.out; first | omega | exact Nat.le_refl _⟩, ⟨by (with_reducible repeat (first | apply Kd.R_alloc | apply Kd.R_drewN | apply Kd.R_drew)); exact Kd.R_mono HO_319000.out (fun _ hk => ⟨hk.1, ⟨hk.2.1, ⟨hk.2.2.1, ⟨hk.2.2.2.1, hk.2.2.2.2.1⟩⟩⟩⟩)⟩, ⟨by (with_reducible repeat (first | apply Kd.R_alloc | apply Kd.R_drewN | apply Kd.R_drew)); exact Kd.R_mono HO_319001.out (fun _ hk => ⟨hk.1, ⟨hk.2.1, ⟨hk.2.2.1, ⟨hk.2.2.2.1, hk.2.2.2.2.1⟩⟩⟩⟩)⟩, ⟨by (with_reducible repeat (first | apply Kd.R_alloc | apply Kd.R_drewN | apply Kd.R_drew)); exact Kd.R_mono HO_327000.out (fun _ hk => ⟨hk.1.1.1, ⟨hk.1.1.2.1, ⟨hk.1.1.2.2.1, ⟨hk.1.1.2.2.2.1, hk.1.1.2.2.2.2⟩⟩⟩⟩)⟩, ⟨by (with_reducible repeat (first | apply Kd.R_alloc | apply Kd.R_drewN | apply Kd.R_drew)); exact Kd.R_mono HO_327001.out (fun _ hk => ⟨hk.1.1.1, ⟨hk.1.1.2.1, ⟨hk.1.1.2.2.1, ⟨hk.1.1.2.2.2.1, hk.1.1.2.2.2.2⟩⟩⟩⟩)⟩, ⟨by (with_reducible repeat (first | apply Kd.R_alloc | apply Kd.R_drewN | apply Kd.R_drew)); exact Kd.R_mono HO_340000.out (fun _ hk => ⟨hk.1, ⟨hk.2.1, ⟨hk.2.2.1, ⟨hk.2.2.2.1, hk.2.2.2.2.1⟩⟩⟩⟩)⟩, ⟨by (with_reducible repeat (first | apply Kd.R_alloc | apply Kd.R_drewN | apply Kd.R_drew)); exact Kd.R_mono HO_340001.out (fun _ hk => ⟨hk.1, ⟨hk.2.1, ⟨hk.2.2.1, ⟨hk.2.2.2.1, hk.2.2.2.2.1⟩⟩⟩⟩)⟩, ⟨KK⟩, ⟨KK⟩, ⟨KK⟩, ⟨KK⟩, ⟨KK⟩, ⟨KB⟩⟩
    case rest =>
     clear HC94
     try clear c1
     try clear p2
     try clear c6
     try clear c7
     try clear c8
     try clear c9
     try clear c10
     try clear c11
     try clear c12
     try clear c13
     try clear c14
     try clear c15
     try clear c16
     try clear c68
     try clear c69
     try clear c70
     try clear c71
     try clear c72
     try clear c74
     try clear c75
     try clear c76
     try clear c79
     try clear c80
     try clear c81
     try clear c82
     try clear c84
     try clear c85
     try clear c86
     try clear c89
     try clear c92
     try clear c100
     try clear c101
     try clear c102
     try clear c103
     try clear c106
     try clear c106b0
     try clear c108
     try clear c109
     try clear c110
     try clear c111
     try clear c112
     try clear c114
     try clear c115
     try clear c116
     try clear c119
     try clear c120
     try clear c121
     try clear c122
     try clear c124
     try clear c125
     try clear c126
     try clear hcz104_0
     try clear hcz104_1
     try clear hcz104_2
     try clear hcz113_0
     try clear hcz113_1
     try clear hcz113_2
     try clear hcz117_0
     try clear hcz117_1
     try clear hcz117_2
     try clear hcz123_0
     try clear hcz123_1
     try clear hcz123_2
     try clear hcz127_0
     try clear hcz127_1
     try clear hcz127_2
     try clear hcz73_0
     try clear hcz73_1
     try clear hcz73_2
     try clear hcz77_0
     try clear hcz77_1
     try clear hcz77_2
     try clear hcz83_0
     try clear hcz83_1
     try clear hcz83_2
     try clear hcz87_0
     try clear hcz87_1
     try clear hcz87_2
     try clear hfz104_0
     try clear hfz104_1
     try clear hfz104_2
     try clear hfz113_0
     try clear hfz113_1
     try clear hfz113_2
     try clear hfz117_0
     try clear hfz117_1
     try clear hfz117_2
     try clear hfz123_0
     try clear hfz123_1
     try clear hfz123_2
     try clear hfz127_0
     try clear hfz127_1
     try clear hfz127_2
     try clear hfz73_0
     try clear hfz73_1
     try clear hfz73_2
     try clear hfz77_0
     try clear hfz77_1
     try clear hfz77_2
     try clear hfz83_0
     try clear hfz83_1
     try clear hfz83_2
     try clear hfz87_0
     try clear hfz87_1
     try clear hfz87_2
     try clear p2
     obtain ⟨kq, x72_93, rfl, HA, HJ93, HO_319000, HO_319001, HO_327000, HO_327001, HO_340000, HO_340001, BK295, BK296, BK318, BK326, BK339, HB⟩ := hcut
     have hl327000_93 := (Kd.R_reads' HO_327000.out).1
     rw [hl327000_93] at HO_327000
     (try simp only [hl327000_93])
     (try simp only [hl327000_93] at BK295)
     (try simp only [hl327000_93] at BK296)
     (try simp only [hl327000_93] at BK318)
     (try simp only [hl327000_93] at BK326)
     (try simp only [hl327000_93] at BK339)
     (try simp only [hl327000_93] at HO_319000)
     (try simp only [hl327000_93] at HO_319001)
     (try simp only [hl327000_93] at HO_327001)
     (try simp only [hl327000_93] at HO_340000)
     (try simp only [hl327000_93] at HO_340001)
     have hl327001_93 := (Kd.R_reads' HO_327001.out).1
     rw [hl327001_93] at HO_327001
     (try simp only [hl327001_93])
     (try simp only [hl327001_93] at BK295)
     (try simp only [hl327001_93] at BK296)
     (try simp only [hl327001_93] at BK318)
     (try simp only [hl327001_93] at BK326)
     (try simp only [hl327001_93] at BK339)
     (try simp only [hl327001_93] at HO_319000)
     (try simp only [hl327001_93] at HO_319001)
     (try simp only [hl327001_93] at HO_327000)
     (try simp only [hl327001_93] at HO_340000)
     (try simp only [hl327001_93] at HO_340001)
     cases kq with
     | zero => exact absurd HA.out (by simp [laws_FnExactStorePut.j1])
     | succ kj93 =>
      have H := HA.out
      clear HA
      simp only [laws_FnExactStorePut.j1] at H
      by_cases c129 : x72_93 = true
      ·subst c129
       have H1 : (none) = some r := by rw [if_pos rfl] at H; exact H
       clear H
       have H := H1
       clear H1
       exact absurd H (by simp)
      ·replace c129 := Bool.eq_false_iff.mpr c129
       subst c129
       have H1 : ((laws_markStore.f kj93 t331 t334 t337 1).bind fun bt353 => ((laws_heldStore.f kj93 bt353.2.1 bt353.2.2 t337 1).bind fun t356 => (if t356 < 0 then (none) else (if t356 = bt353.1 then ((laws_toStore.f kj93 l0_0 l0_1 a0_2).bind fun bt357 => ((laws_toEntry.f a1_0 a1_1 a1_2 a1_3).bind fun bt364 => ((impl_StorePut.f kj93 bt357.1 bt357.2.1 bt357.2.2 bt364.1 bt364.2.1 bt364.2.2.1 bt364.2.2.2).bind fun bt368 => ((laws_eqStore.f kj93 bt368.1 bt368.2.1 bt368.2.2.1 t310 t313 t316).bind fun t377 => (if t377 = true then (laws_FnExactStorePut.j2 kj93 bt353.1 (bt368.2.2.2 != t317) bt353.2.1 bt353.2.2 t337) else (laws_FnExactStorePut.j2 kj93 bt353.1 true bt353.2.1 bt353.2.2 t337)))))) else (none))))) = some r := by rw [if_neg (show ¬ (false = true) by decide)] at H; exact H
       clear H
       have H := H1
       clear H1
       replace H := Option.bind_eq_some_iff.mp H
       obtain ⟨⟨t353, t354, t355⟩, A1300, H⟩ := H
       replace H : ((laws_heldStore.f kj93 t354 t355 t337 1).bind fun t356 => (if t356 < 0 then (none) else (if t356 = t353 then ((laws_toStore.f kj93 l0_0 l0_1 a0_2).bind fun bt357 => ((laws_toEntry.f a1_0 a1_1 a1_2 a1_3).bind fun bt364 => ((impl_StorePut.f kj93 bt357.1 bt357.2.1 bt357.2.2 bt364.1 bt364.2.1 bt364.2.2.1 bt364.2.2.2).bind fun bt368 => ((laws_eqStore.f kj93 bt368.1 bt368.2.1 bt368.2.2.1 t310 t313 t316).bind fun t377 => (if t377 = true then (laws_FnExactStorePut.j2 kj93 t353 (bt368.2.2.2 != t317) t354 t355 t337) else (laws_FnExactStorePut.j2 kj93 t353 true t354 t355 t337)))))) else (none)))) = some r := H
       have A130 := Aside0.mk A1300
       clear A1300
       replace H := Option.bind_eq_some_iff.mp H
       obtain ⟨t356, A1310, H⟩ := H
       replace H : (if t356 < 0 then (none) else (if t356 = t353 then ((laws_toStore.f kj93 l0_0 l0_1 a0_2).bind fun bt357 => ((laws_toEntry.f a1_0 a1_1 a1_2 a1_3).bind fun bt364 => ((impl_StorePut.f kj93 bt357.1 bt357.2.1 bt357.2.2 bt364.1 bt364.2.1 bt364.2.2.1 bt364.2.2.2).bind fun bt368 => ((laws_eqStore.f kj93 bt368.1 bt368.2.1 bt368.2.2.1 t310 t313 t316).bind fun t377 => (if t377 = true then (laws_FnExactStorePut.j2 kj93 t353 (bt368.2.2.2 != t317) t354 t355 t337) else (laws_FnExactStorePut.j2 kj93 t353 true t354 t355 t337)))))) else (none))) = some r := H
       have A131 := Aside0.mk A1310
       clear A1310
       by_cases c132 : t356 < 0
       ·rw [if_pos c132] at H
        exact absurd H (by simp)
       ·rw [if_neg c132] at H
        have c132b0 : decide (t356 < 0) = false := decide_eq_false c132
        clear c132
        by_cases c133 : t356 = t353
        ·rw [if_pos c133] at H
         have c133b0 : (t356 == t353) = true := beq_iff_eq.mpr c133
         have c133b1 : (t356 != t353) = false := bne_eq_false_iff_eq.mpr c133
         clear c133
         replace H := Option.bind_eq_some_iff.mp H
         obtain ⟨⟨t357, t360, t363⟩, A1340, H⟩ := H
         replace H : ((laws_toEntry.f a1_0 a1_1 a1_2 a1_3).bind fun bt364 => ((impl_StorePut.f kj93 t357 t360 t363 bt364.1 bt364.2.1 bt364.2.2.1 bt364.2.2.2).bind fun bt368 => ((laws_eqStore.f kj93 bt368.1 bt368.2.1 bt368.2.2.1 t310 t313 t316).bind fun t377 => (if t377 = true then (laws_FnExactStorePut.j2 kj93 t353 (bt368.2.2.2 != t317) t354 t355 t337) else (laws_FnExactStorePut.j2 kj93 t353 true t354 t355 t337))))) = some r := H
         have A134 := Aside0.mk A1340
         clear A1340
         replace H := Option.bind_eq_some_iff.mp H
         obtain ⟨⟨t364, t365, t366, t367⟩, A1350, H⟩ := H
         replace H : ((impl_StorePut.f kj93 t357 t360 t363 t364 t365 t366 t367).bind fun bt368 => ((laws_eqStore.f kj93 bt368.1 bt368.2.1 bt368.2.2.1 t310 t313 t316).bind fun t377 => (if t377 = true then (laws_FnExactStorePut.j2 kj93 t353 (bt368.2.2.2 != t317) t354 t355 t337) else (laws_FnExactStorePut.j2 kj93 t353 true t354 t355 t337)))) = some r := H
         have A135 := Aside0.mk A1350
         clear A1350
         replace H := Option.bind_eq_some_iff.mp H
         obtain ⟨⟨t368, t371, t374, t375⟩, A1360, H⟩ := H
         replace H : ((laws_eqStore.f kj93 t368 t371 t374 t310 t313 t316).bind fun t377 => (if t377 = true then (laws_FnExactStorePut.j2 kj93 t353 (t375 != t317) t354 t355 t337) else (laws_FnExactStorePut.j2 kj93 t353 true t354 t355 t337))) = some r := H
         have A136 := Aside0.mk A1360
         clear A1360
         have HC137 := Aside0.mk H
         clear H
         have hnb138 := NB339_295.out
         have hnc138 := NB295_339.out
         have hnb139 := NB339_296.out
         have hnc139 := NB296_339.out
         have hnb140 := NB339_318.out
         have hnc140 := NB318_339.out
         have hnb141 := NB339_326.out
         have hnc141 := NB326_339.out
         have hcz142_0 : wc.cell? ⟨gb339, 0, none⟩ = some (.slice Ao62 t331.length co62) := (blk_cell BK339.out 0).trans rfl
         have hcz142_1 : wc.cell? ⟨gb339, 1, none⟩ = some (.slice Ao64 t334.length co64) := (blk_cell BK339.out 1).trans rfl
         have hcz142_2 : wc.cell? ⟨gb339, 2, none⟩ = some (.int .i64 t337) := (blk_cell BK339.out 2).trans rfl
         have hfz142_0 := blk_frozen BK339.out 0
         have hfz142_1 := blk_frozen BK339.out 1
         have hfz142_2 := blk_frozen BK339.out 2
         try go_wp2_with (first | ((with_reducible refine gate_callee (f := 16) rfl ?_); refine goesL_ (some 75) rfl rfl Try.func16 (by kernel_rfl) rfl #[.agg #[.slice Ao62 t331.length co62, .slice Ao64 t334.length co64, .int .i64 t337], .int .i64 1] rfl KL ?_; (with_reducible refine (laws_markStore.calls kj93 (fun k_ => some k_ = (.slice Ao62 t331.length co62 : Value).ownBlock) (.slice Ao62 t331.length co62) t331 (fun k_ => some k_ = (.slice Ao64 t334.length co64 : Value).ownBlock) (.slice Ao64 t334.length co64) t334 t337 1 t353 t354 t355 w _ ?side1 ?side2 ?side3 ?side4 ?side5 A130.out).mono ?_); (case side1 => exact KB); (case side2 => exact Kd.R_tight rfl HO_340000.out); (case side3 => exact fun k_ e_ => (HO_340000.out.1 k_ e_.symm).2.2.2.2); (case side4 => exact Kd.R_tight rfl HO_340001.out); (case side5 => exact fun k_ e_ => (HO_340001.out.1 k_ e_.symm).2.2.2.2); rintro e w143 ⟨rfl, hy0, hy1, hb, hkp⟩; refine ⟨_, rfl, ?_⟩; have n0_ := Aside0.mk (Kd.R_mono (ok' := fun k_ => some k_ ≠ (.slice Ao43 t313.length co43 : Value).ownBlock ∧ some k_ ≠ (.slice Ao50 t350.length co50 : Value).ownBlock ∧ some k_ ≠ (.slice Ao55 t351.length co55 : Value).ownBlock ∧ some k_ ≠ (.slice Ao62 t331.length co62 : Value).ownBlock ∧ some k_ ≠ (.slice Ao64 t334.length co64 : Value).ownBlock) (Kd.R_keptB (HO_319000.out) hkp (fun k_ hk_ hs_ => Or.elim hs_ (fun e_ => (hk_.2.2.2.1) e_) (fun e_ => (hk_.2.2.2.2) e_))) (fun k_ hk_ => ⟨hk_.1.1, hk_.1.2.1, hk_.1.2.2.1, hk_.1.2.2.2.1, hk_.1.2.2.2.2⟩)); have n1_ := Aside0.mk (Kd.R_mono (ok' := fun k_ => some k_ ≠ (.slice Ao41 t310.length co41 : Value).ownBlock ∧ some k_ ≠ (.slice Ao50 t350.length co50 : Value).ownBlock ∧ some k_ ≠ (.slice Ao55 t351.length co55 : Value).ownBlock ∧ some k_ ≠ (.slice Ao62 t331.length co62 : Value).ownBlock ∧ some k_ ≠ (.slice Ao64 t334.length co64 : Value).ownBlock) (Kd.R_keptB (HO_319001.out) hkp (fun k_ hk_ hs_ => Or.elim hs_ (fun e_ => (hk_.2.2.2.1) e_) (fun e_ => (hk_.2.2.2.2) e_))) (fun k_ hk_ => ⟨hk_.1.1, hk_.1.2.1, hk_.1.2.2.1, hk_.1.2.2.2.1, hk_.1.2.2.2.2⟩)); have n2_ := Aside0.mk (Kd.R_mono (ok' := fun k_ => some k_ ≠ (.slice Ao41 t310.length co41 : Value).ownBlock ∧ some k_ ≠ (.slice Ao43 t313.length co43 : Value).ownBlock ∧ some k_ ≠ (.slice Ao55 t351.length co55 : Value).ownBlock ∧ some k_ ≠ (.slice Ao62 t331.length co62 : Value).ownBlock ∧ some k_ ≠ (.slice Ao64 t334.length co64 : Value).ownBlock) (Kd.R_keptB (HO_327000.out) hkp (fun k_ hk_ hs_ => Or.elim hs_ (fun e_ => (hk_.2.2.2.1) e_) (fun e_ => (hk_.2.2.2.2) e_))) (fun k_ hk_ => ⟨hk_.1.1, hk_.1.2.1, hk_.1.2.2.1, hk_.1.2.2.2.1, hk_.1.2.2.2.2⟩)); have n3_ := Aside0.mk (Kd.R_mono (ok' := fun k_ => some k_ ≠ (.slice Ao41 t310.length co41 : Value).ownBlock ∧ some k_ ≠ (.slice Ao43 t313.length co43 : Value).ownBlock ∧ some k_ ≠ (.slice Ao50 t350.length co50 : Value).ownBlock ∧ some k_ ≠ (.slice Ao62 t331.length co62 : Value).ownBlock ∧ some k_ ≠ (.slice Ao64 t334.length co64 : Value).ownBlock) (Kd.R_keptB (HO_327001.out) hkp (fun k_ hk_ hs_ => Or.elim hs_ (fun e_ => (hk_.2.2.2.1) e_) (fun e_ => (hk_.2.2.2.2) e_))) (fun k_ hk_ => ⟨hk_.1.1, hk_.1.2.1, hk_.1.2.2.1, hk_.1.2.2.2.1, hk_.1.2.2.2.2⟩)); have n4_ := Aside0.mk (Kd.R_reok rfl hy0 (fun k_ e_ => HO_340000.out.1 k_ e_)); have n5_ := Aside0.mk (Kd.R_reok rfl hy1 (fun k_ e_ => HO_340001.out.1 k_ e_)); have n6_ := Aside0.mk (blk_kept KK hkp (fun hs_ => Or.elim hs_ (fun e_ => (fun e_ => (Kd.R_ne HO_340000.out BK295.out (by decide)) e_) e_) (fun e_ => (fun e_ => (Kd.R_ne HO_340001.out BK295.out (by decide)) e_) e_))); have n7_ := Aside0.mk (blk_kept KK hkp (fun hs_ => Or.elim hs_ (fun e_ => (fun e_ => (Kd.R_ne HO_340000.out BK296.out (by decide)) e_) e_) (fun e_ => (fun e_ => (Kd.R_ne HO_340001.out BK296.out (by decide)) e_) e_))); have n8_ := Aside0.mk (blk_kept KK hkp (fun hs_ => Or.elim hs_ (fun e_ => (fun e_ => (Kd.R_ne HO_340000.out BK318.out (by decide)) e_) e_) (fun e_ => (fun e_ => (Kd.R_ne HO_340001.out BK318.out (by decide)) e_) e_))); have n9_ := Aside0.mk (blk_kept KK hkp (fun hs_ => Or.elim hs_ (fun e_ => (fun e_ => (Kd.R_ne HO_340000.out BK326.out (by decide)) e_) e_) (fun e_ => (fun e_ => (Kd.R_ne HO_340001.out BK326.out (by decide)) e_) e_))); have n10_ := Aside0.mk (blk_kept KK hkp (fun hs_ => Or.elim hs_ (fun e_ => (fun e_ => (Kd.R_ne HO_340000.out BK339.out (by decide)) e_) e_) (fun e_ => (fun e_ => (Kd.R_ne HO_340001.out BK339.out (by decide)) e_) e_))); have n11_ := Aside0.mk (hb); clear HO_319000; clear HO_319001; clear HO_327000; clear HO_327001; clear HO_340000; clear HO_340001; clear BK295; clear BK296; clear BK318; clear BK326; clear BK339; clear HB; have HO_319000 := n0_; have HO_319001 := n1_; have HO_327000 := n2_; have HO_327001 := n3_; have HO_340000 := n4_; have HO_340001 := n5_; have BK295 := n6_; have BK296 := n7_; have BK318 := n8_; have BK326 := n9_; have BK339 := n10_; have HB := n11_; clear n0_ n1_ n2_ n3_ n4_ n5_ n6_ n7_ n8_ n9_ n10_ n11_; (try clear hb); (try clear hkp); (try clear hy0); (try clear hy1); have hcz144_0 : w143.cell? ⟨gb339, 0, none⟩ = some (.slice Ao62 t331.length co62) := (blk_cell BK339.out 0).trans rfl; have hcz144_1 : w143.cell? ⟨gb339, 1, none⟩ = some (.slice Ao64 t334.length co64) := (blk_cell BK339.out 1).trans rfl; have hcz144_2 : w143.cell? ⟨gb339, 2, none⟩ = some (.int .i64 t337) := (blk_cell BK339.out 2).trans rfl; have hfz144_0 := blk_frozen BK339.out 0; have hfz144_1 := blk_frozen BK339.out 1; have hfz144_2 := blk_frozen BK339.out 2) | ((with_reducible refine gate_callee (f := 17) rfl ?_); refine goesL_ (some 78) rfl rfl Try.func17 (by kernel_rfl) rfl #[.agg #[.slice Ao62 t354.length co62, .slice Ao64 t355.length co64, .int .i64 t337], .int .i64 1] rfl (by (try simp only [List.map_toArray, List.map_cons, List.map_nil]); first | done | (rw [show t354.length = t331.length from (Kd.R_reads' HO_340000.out).1.symm, show t355.length = t334.length from (Kd.R_reads' HO_340001.out).1.symm] <;> rfl) | rfl | (simp only [List.length_drop, List.length_take]; rfl)) ?_; (with_reducible refine (laws_heldStore.calls kj93 _ _ t354 _ _ t355 t337 1 t356 _ ?side1 ?side2 ?side3 ?side4 A131.out).mono ?_); (case side1 => repeat (first | exact (Kd.R_reads' HO_340000.out).2.2 | (with_reducible refine Kd.C_alloc ?_ _) | (with_reducible refine Kd.C_drewN ?_ _) | (with_reducible refine Kd.C_drew ?_))); (case side2 => rw [show t354.length = t331.length from (Kd.R_reads' HO_340000.out).1.symm]; exact (Kd.R_reads' HO_340000.out).2.1); (case side3 => repeat (first | exact (Kd.R_reads' HO_340001.out).2.2 | (with_reducible refine Kd.C_alloc ?_ _) | (with_reducible refine Kd.C_drewN ?_ _) | (with_reducible refine Kd.C_drew ?_))); (case side4 => rw [show t355.length = t334.length from (Kd.R_reads' HO_340001.out).1.symm]; exact (Kd.R_reads' HO_340001.out).2.1); rintro e w145 ⟨rfl, hb⟩; refine ⟨_, rfl, ?_⟩; have n0_ := Aside0.mk (Kd.R_below (KR HO_319000.out) hb); have n1_ := Aside0.mk (Kd.R_below (KR HO_319001.out) hb); have n2_ := Aside0.mk (Kd.R_below (KR HO_327000.out) hb); have n3_ := Aside0.mk (Kd.R_below (KR HO_327001.out) hb); have n4_ := Aside0.mk (Kd.R_below (KR HO_340000.out) hb); have n5_ := Aside0.mk (Kd.R_below (KR HO_340001.out) hb); have n6_ := Aside0.mk (blk_below (g := gb295) (o := .cells #[.slice A0_0 l0_0.length c0_0, .slice A0_1 l0_1.length c0_1, .int .i64 a0_2] 24 (0, 0)) KK hb); have n7_ := Aside0.mk (blk_below (g := gb296) (o := .cells #[.int .i64 a1_0, .int .i64 a1_1, .bool a1_2, .string a1_3] 26 (0, 0)) KK hb); have n8_ := Aside0.mk (blk_below (g := gb318) (o := .cells #[.slice Ao41 t310.length co41, .slice Ao43 t313.length co43, .int .i64 t316] 31 (0, 0)) KK hb); have n9_ := Aside0.mk (blk_below (g := gb326) (o := .cells #[.slice Ao50 t350.length co50, .slice Ao55 t351.length co55, .int .i64 t325] 31 (0, 0)) KK hb); have n10_ := Aside0.mk (blk_below (g := gb339) (o := .cells #[.slice Ao62 t331.length co62, .slice Ao64 t334.length co64, .int .i64 t337] 31 (0, 0)) KK hb); have n11_ := Aside0.mk (below_step KB hb); clear HO_319000; clear HO_319001; clear HO_327000; clear HO_327001; clear HO_340000; clear HO_340001; clear BK295; clear BK296; clear BK318; clear BK326; clear BK339; clear HB; have HO_319000 := n0_; have HO_319001 := n1_; have HO_327000 := n2_; have HO_327001 := n3_; have HO_340000 := n4_; have HO_340001 := n5_; have BK295 := n6_; have BK296 := n7_; have BK318 := n8_; have BK326 := n9_; have BK339 := n10_; have HB := n11_; clear n0_ n1_ n2_ n3_ n4_ n5_ n6_ n7_ n8_ n9_ n10_ n11_; (try clear hb); (try clear hb2); (try clear hk); (try clear hi)))
         have n0_ := Aside0.mk (Kd.R_drew HO_319000.out)
         have n1_ := Aside0.mk (Kd.R_drew HO_319001.out)
         have n2_ := Aside0.mk (Kd.R_drew HO_327000.out)
         have n3_ := Aside0.mk (Kd.R_drew HO_327001.out)
         have n4_ := Aside0.mk (Kd.R_drew HO_340000.out)
         have n5_ := Aside0.mk (Kd.R_drew HO_340001.out)
         have n6_ := Aside0.mk (blk_drew BK295.out)
         have n7_ := Aside0.mk (blk_drew BK296.out)
         have n8_ := Aside0.mk (blk_drew BK318.out)
         have n9_ := Aside0.mk (blk_drew BK326.out)
         have n10_ := Aside0.mk (blk_drew BK339.out)
         have n11_ := Aside0.mk (below_drew1 HB.out)
         clear HO_319000
         clear HO_319001
         clear HO_327000
         clear HO_327001
         clear HO_340000
         clear HO_340001
         clear BK295
         clear BK296
         clear BK318
         clear BK326
         clear BK339
         clear HB
         have HO_319000 := n0_
         have HO_319001 := n1_
         have HO_327000 := n2_
         have HO_327001 := n3_
         have HO_340000 := n4_
         have HO_340001 := n5_
         have BK295 := n6_
         have BK296 := n7_
         have BK318 := n8_
         have BK326 := n9_
         have BK339 := n10_
         have HB := n11_
         clear n0_ n1_ n2_ n3_ n4_ n5_ n6_ n7_ n8_ n9_ n10_ n11_
         refine start_ (n := 11) (S := fun w' => w'.cell? ⟨gb295, 0, none⟩ = some (.slice A0_0 l0_0.length c0_0) ∧ w'.cell? ⟨gb295, 1, none⟩ = some (.slice A0_1 l0_1.length c0_1) ∧ w'.cell? ⟨gb295, 2, none⟩ = some (.int .i64 a0_2) ∧ w'.cell? ⟨gb296, 0, none⟩ = some (.int .i64 a1_0) ∧ w'.cell? ⟨gb296, 1, none⟩ = some (.int .i64 a1_1) ∧ w'.cell? ⟨gb296, 2, none⟩ = some (.bool a1_2) ∧ w'.cell? ⟨gb296, 3, none⟩ = some (.string a1_3)) (ds := []) #[false, false, false, false, false, false, false, false, false, false, false] (by kernel_rfl) rfl rfl ⟨(blk_cell BK295.out 0).trans rfl, (blk_cell BK295.out 1).trans rfl, (blk_cell BK295.out 2).trans rfl, (blk_cell BK296.out 0).trans rfl, (blk_cell BK296.out 1).trans rfl, (blk_cell BK296.out 2).trans rfl, (blk_cell BK296.out 3).trans rfl⟩ (fun hHeld => ?_); refine with_tabW laws_FnExactStorePut.tab27 laws_FnExactStorePut.bits27 (fun HT_ HW_ => ?_)
         generalize w145.drew = w146 at HO_319000 HO_319001 HO_327000 HO_327001 HO_340000 HO_340001 BK295 BK296 BK318 BK326 BK339 HB hHeld ⊢
         refine take_ (i := 0) (N := some 85) (v := ?_) (a' := ?_) #[true, false, false, false, false, false, false, false, false, false, false] rfl rfl (take_ofW HT_.out HW_.out (by kernel_rfl)) (fun _ _ _ h => h) (Or.inl ⟨by rfl, ?_⟩) hHeld ?_ ?_
         rotate_left
         ·rintro w' ⟨s0, s1, s2, s3, s4, s5, s6⟩
          go_simp
          with_reducible rfl
         rotate_left
         ·simp only [Act.put, List.setIfInBounds_toArray, List.set_cons_zero, List.set_cons_succ, i64_w, i32_w]
          rfl
         refine take_ (i := 2) (N := some 87) (v := ?_) (a' := ?_) #[true, false, true, false, false, false, false, false, false, false, false] rfl rfl (take_ofW HT_.out HW_.out (by kernel_rfl)) (fun _ _ _ h => h) (Or.inl ⟨by rfl, ?_⟩) hHeld ?_ ?_
         rotate_left
         ·rintro w' ⟨s0, s1, s2, s3, s4, s5, s6⟩
          go_simp
          with_reducible rfl
         rotate_left
         ·simp only [Act.put, List.setIfInBounds_toArray, List.set_cons_zero, List.set_cons_succ, i64_w, i32_w]
          rfl
         refine join_ (σ := Value × Value × Value × Value × Nat) 2 #[true, true, true, true, true, true, true, true, true, false, false] (fun s_ => [(86, .agg #[s_.1, s_.2.1, .int .i64 t363]), (88, .agg #[.int .i64 t364, .int .i64 t365, .bool t366, .string t367]), (89, .tuple #[.agg #[s_.2.2.1, s_.2.2.2.1, .int .i64 t374], .bool t375]), (14, .pointer (some ⟨s_.2.2.2.2, 0, none⟩)), (84, .tuple #[.agg #[s_.2.2.1, s_.2.2.2.1, .int .i64 t374], .bool t375]), (90, .agg #[s_.2.2.1, s_.2.2.2.1, .int .i64 t374]), (91, .bool t375)]) (fun s_ w' => (w'.cell? ⟨gb295, 0, none⟩ = some (.slice A0_0 l0_0.length c0_0) ∧ w'.cell? ⟨gb295, 1, none⟩ = some (.slice A0_1 l0_1.length c0_1) ∧ w'.cell? ⟨gb295, 2, none⟩ = some (.int .i64 a0_2) ∧ w'.cell? ⟨gb296, 0, none⟩ = some (.int .i64 a1_0) ∧ w'.cell? ⟨gb296, 1, none⟩ = some (.int .i64 a1_1) ∧ w'.cell? ⟨gb296, 2, none⟩ = some (.bool a1_2) ∧ w'.cell? ⟨gb296, 3, none⟩ = some (.string a1_3)) ∧ (Kd.R k35 35 w' w.heap.size (fun k_ => some k_ ≠ (s_.2.1 : Value).ownBlock ∧ some k_ ≠ (s_.2.2.1 : Value).ownBlock ∧ some k_ ≠ (s_.2.2.2.1 : Value).ownBlock ∧ some k_ ≠ (.slice Ao41 t310.length co41 : Value).ownBlock ∧ some k_ ≠ (.slice Ao43 t313.length co43 : Value).ownBlock ∧ some k_ ≠ (.slice Ao50 t350.length co50 : Value).ownBlock ∧ some k_ ≠ (.slice Ao55 t351.length co55 : Value).ownBlock ∧ some k_ ≠ (.slice Ao62 t331.length co62 : Value).ownBlock ∧ some k_ ≠ (.slice Ao64 t334.length co64 : Value).ownBlock) s_.1 t357) ∧ (Kd.R k35 35 w' w.heap.size (fun k_ => some k_ ≠ (s_.1 : Value).ownBlock ∧ some k_ ≠ (s_.2.2.1 : Value).ownBlock ∧ some k_ ≠ (s_.2.2.2.1 : Value).ownBlock ∧ some k_ ≠ (.slice Ao41 t310.length co41 : Value).ownBlock ∧ some k_ ≠ (.slice Ao43 t313.length co43 : Value).ownBlock ∧ some k_ ≠ (.slice Ao50 t350.length co50 : Value).ownBlock ∧ some k_ ≠ (.slice Ao55 t351.length co55 : Value).ownBlock ∧ some k_ ≠ (.slice Ao62 t331.length co62 : Value).ownBlock ∧ some k_ ≠ (.slice Ao64 t334.length co64 : Value).ownBlock) s_.2.1 t360) ∧ (Kd.R k35 35 w' w.heap.size (fun k_ => some k_ ≠ (s_.1 : Value).ownBlock ∧ some k_ ≠ (s_.2.1 : Value).ownBlock ∧ some k_ ≠ (s_.2.2.2.1 : Value).ownBlock ∧ some k_ ≠ (.slice Ao41 t310.length co41 : Value).ownBlock ∧ some k_ ≠ (.slice Ao43 t313.length co43 : Value).ownBlock ∧ some k_ ≠ (.slice Ao50 t350.length co50 : Value).ownBlock ∧ some k_ ≠ (.slice Ao55 t351.length co55 : Value).ownBlock ∧ some k_ ≠ (.slice Ao62 t331.length co62 : Value).ownBlock ∧ some k_ ≠ (.slice Ao64 t334.length co64 : Value).ownBlock) s_.2.2.1 t368) ∧ (Kd.R k35 35 w' w.heap.size (fun k_ => some k_ ≠ (s_.1 : Value).ownBlock ∧ some k_ ≠ (s_.2.1 : Value).ownBlock ∧ some k_ ≠ (s_.2.2.1 : Value).ownBlock ∧ some k_ ≠ (.slice Ao41 t310.length co41 : Value).ownBlock ∧ some k_ ≠ (.slice Ao43 t313.length co43 : Value).ownBlock ∧ some k_ ≠ (.slice Ao50 t350.length co50 : Value).ownBlock ∧ some k_ ≠ (.slice Ao55 t351.length co55 : Value).ownBlock ∧ some k_ ≠ (.slice Ao62 t331.length co62 : Value).ownBlock ∧ some k_ ≠ (.slice Ao64 t334.length co64 : Value).ownBlock) s_.2.2.2.1 t371) ∧ (Kd.R k35 35 w' w.heap.size (fun k_ => some k_ ≠ (s_.1 : Value).ownBlock ∧ some k_ ≠ (s_.2.1 : Value).ownBlock ∧ some k_ ≠ (s_.2.2.1 : Value).ownBlock ∧ some k_ ≠ (s_.2.2.2.1 : Value).ownBlock ∧ some k_ ≠ (.slice Ao43 t313.length co43 : Value).ownBlock ∧ some k_ ≠ (.slice Ao50 t350.length co50 : Value).ownBlock ∧ some k_ ≠ (.slice Ao55 t351.length co55 : Value).ownBlock ∧ some k_ ≠ (.slice Ao62 t331.length co62 : Value).ownBlock ∧ some k_ ≠ (.slice Ao64 t334.length co64 : Value).ownBlock) (.slice Ao41 t310.length co41) t310) ∧ (Kd.R k35 35 w' w.heap.size (fun k_ => some k_ ≠ (s_.1 : Value).ownBlock ∧ some k_ ≠ (s_.2.1 : Value).ownBlock ∧ some k_ ≠ (s_.2.2.1 : Value).ownBlock ∧ some k_ ≠ (s_.2.2.2.1 : Value).ownBlock ∧ some k_ ≠ (.slice Ao41 t310.length co41 : Value).ownBlock ∧ some k_ ≠ (.slice Ao50 t350.length co50 : Value).ownBlock ∧ some k_ ≠ (.slice Ao55 t351.length co55 : Value).ownBlock ∧ some k_ ≠ (.slice Ao62 t331.length co62 : Value).ownBlock ∧ some k_ ≠ (.slice Ao64 t334.length co64 : Value).ownBlock) (.slice Ao43 t313.length co43) t313) ∧ (Kd.R k35 35 w' w.heap.size (fun k_ => some k_ ≠ (s_.1 : Value).ownBlock ∧ some k_ ≠ (s_.2.1 : Value).ownBlock ∧ some k_ ≠ (s_.2.2.1 : Value).ownBlock ∧ some k_ ≠ (s_.2.2.2.1 : Value).ownBlock ∧ some k_ ≠ (.slice Ao41 t310.length co41 : Value).ownBlock ∧ some k_ ≠ (.slice Ao43 t313.length co43 : Value).ownBlock ∧ some k_ ≠ (.slice Ao55 t351.length co55 : Value).ownBlock ∧ some k_ ≠ (.slice Ao62 t331.length co62 : Value).ownBlock ∧ some k_ ≠ (.slice Ao64 t334.length co64 : Value).ownBlock) (.slice Ao50 t350.length co50) t350) ∧ (Kd.R k35 35 w' w.heap.size (fun k_ => some k_ ≠ (s_.1 : Value).ownBlock ∧ some k_ ≠ (s_.2.1 : Value).ownBlock ∧ some k_ ≠ (s_.2.2.1 : Value).ownBlock ∧ some k_ ≠ (s_.2.2.2.1 : Value).ownBlock ∧ some k_ ≠ (.slice Ao41 t310.length co41 : Value).ownBlock ∧ some k_ ≠ (.slice Ao43 t313.length co43 : Value).ownBlock ∧ some k_ ≠ (.slice Ao50 t350.length co50 : Value).ownBlock ∧ some k_ ≠ (.slice Ao62 t331.length co62 : Value).ownBlock ∧ some k_ ≠ (.slice Ao64 t334.length co64 : Value).ownBlock) (.slice Ao55 t351.length co55) t351) ∧ (Kd.R k35 35 w' w.heap.size (fun k_ => some k_ ≠ (s_.1 : Value).ownBlock ∧ some k_ ≠ (s_.2.1 : Value).ownBlock ∧ some k_ ≠ (s_.2.2.1 : Value).ownBlock ∧ some k_ ≠ (s_.2.2.2.1 : Value).ownBlock ∧ some k_ ≠ (.slice Ao41 t310.length co41 : Value).ownBlock ∧ some k_ ≠ (.slice Ao43 t313.length co43 : Value).ownBlock ∧ some k_ ≠ (.slice Ao50 t350.length co50 : Value).ownBlock ∧ some k_ ≠ (.slice Ao55 t351.length co55 : Value).ownBlock ∧ some k_ ≠ (.slice Ao64 t334.length co64 : Value).ownBlock) (.slice Ao62 t331.length co62) t354) ∧ (Kd.R k35 35 w' w.heap.size (fun k_ => some k_ ≠ (s_.1 : Value).ownBlock ∧ some k_ ≠ (s_.2.1 : Value).ownBlock ∧ some k_ ≠ (s_.2.2.1 : Value).ownBlock ∧ some k_ ≠ (s_.2.2.2.1 : Value).ownBlock ∧ some k_ ≠ (.slice Ao41 t310.length co41 : Value).ownBlock ∧ some k_ ≠ (.slice Ao43 t313.length co43 : Value).ownBlock ∧ some k_ ≠ (.slice Ao50 t350.length co50 : Value).ownBlock ∧ some k_ ≠ (.slice Ao55 t351.length co55 : Value).ownBlock ∧ some k_ ≠ (.slice Ao62 t331.length co62 : Value).ownBlock) (.slice Ao64 t334.length co64) t355) ∧ (w'.heap[gb295]? = some (.cells #[.slice A0_0 l0_0.length c0_0, .slice A0_1 l0_1.length c0_1, .int .i64 a0_2] 24 (0, 0))) ∧ (w'.heap[gb296]? = some (.cells #[.int .i64 a1_0, .int .i64 a1_1, .bool a1_2, .string a1_3] 26 (0, 0))) ∧ (w'.heap[gb318]? = some (.cells #[.slice Ao41 t310.length co41, .slice Ao43 t313.length co43, .int .i64 t316] 31 (0, 0))) ∧ (w'.heap[gb326]? = some (.cells #[.slice Ao50 t350.length co50, .slice Ao55 t351.length co55, .int .i64 t325] 31 (0, 0))) ∧ (w'.heap[gb339]? = some (.cells #[.slice Ao62 t331.length co62, .slice Ao64 t334.length co64, .int .i64 t337] 31 (0, 0))) ∧ (w'.heap[s_.2.2.2.2]? = some (.cells #[.slice none 0 0, .slice none 0 0, .int .i64 0] 31 (0, 0))) ∧ (w.heap.size ≤ s_.2.2.2.2) ∧ (w.heap.size ≤ s_.2.2.2.2) ∧ (gb295 ≠ s_.2.2.2.2) ∧ (s_.2.2.2.2 ≠ gb295) ∧ (gb296 ≠ s_.2.2.2.2) ∧ (s_.2.2.2.2 ≠ gb296) ∧ (gb318 ≠ s_.2.2.2.2) ∧ (s_.2.2.2.2 ≠ gb318) ∧ (gb326 ≠ s_.2.2.2.2) ∧ (s_.2.2.2.2 ≠ gb326) ∧ (gb339 ≠ s_.2.2.2.2) ∧ (s_.2.2.2.2 ≠ gb339) ∧ (Below w.heap.size w w')) ?_ ?_
         rotate_left
         ·intro hCont
          refine two_ (i := 1) (j := 8) (Ni := some 86) (Nj := some 14) #[true, true, true, false, false, false, false, false, false, false, false] #[true, false, true, false, false, false, false, false, true, false, false] rfl rfl rfl rfl (two_of HT_.out (by kernel_rfl)) (by decide) (by decide) (fun K hK => ?_) (fun K hK => ?_)
          ·skip
           refine goes_ Try.func12 (by kernel_rfl) rfl #[.agg #[.slice A0_0 l0_0.length c0_0, .slice A0_1 l0_1.length c0_1, .int .i64 a0_2]] (by rfl) rfl rfl KL ?_
           with_reducible refine (laws_toStore.calls kj93 _ _ l0_0 _ _ l0_1 a0_2 t357 t360 t363 _ ?side1 ?side2 ?side3 ?side4 A134.out).mono ?_
           (case side1 => exact KD (Kd.C_below HR0_0.out HB.out))
           (case side2 => exact HC0_0.out)
           (case side3 => exact KD (Kd.C_below HR0_1.out HB.out))
           (case side4 => exact HC0_1.out)
           rintro e w147 ⟨v358, v361, rfl, ho0, ho1, hb⟩
           refine ⟨_, rfl, ?_⟩
           have n0_ := Aside0.mk (Kd.R_mono (Kd.R_told (Kd.R_told (Kd.R_old (KR HO_319000.out) hb) (Kd.R_base ho0)) (Kd.R_base ho1)) (fun _ h_ => h_.1))
           have n1_ := Aside0.mk (Kd.R_mono (Kd.R_told (Kd.R_told (Kd.R_old (KR HO_319001.out) hb) (Kd.R_base ho0)) (Kd.R_base ho1)) (fun _ h_ => h_.1))
           have n2_ := Aside0.mk (Kd.R_mono (Kd.R_told (Kd.R_told (Kd.R_old (KR HO_327000.out) hb) (Kd.R_base ho0)) (Kd.R_base ho1)) (fun _ h_ => h_.1))
           have n3_ := Aside0.mk (Kd.R_mono (Kd.R_told (Kd.R_told (Kd.R_old (KR HO_327001.out) hb) (Kd.R_base ho0)) (Kd.R_base ho1)) (fun _ h_ => h_.1))
           have n4_ := Aside0.mk (Kd.R_mono (Kd.R_told (Kd.R_told (Kd.R_old (KR HO_340000.out) hb) (Kd.R_base ho0)) (Kd.R_base ho1)) (fun _ h_ => h_.1))
           have n5_ := Aside0.mk (Kd.R_mono (Kd.R_told (Kd.R_told (Kd.R_old (KR HO_340001.out) hb) (Kd.R_base ho0)) (Kd.R_base ho1)) (fun _ h_ => h_.1))
           have n6_ := Aside0.mk (Kd.R_lower (Kd.R_new' (Kd.R_new' (Kd.R_new' (Kd.R_new' (Kd.R_new' (Kd.R_new' ho0 (Kd.R_lt (KR HO_319000.out))) (Kd.R_lt (KR HO_319001.out))) (Kd.R_lt (KR HO_327000.out))) (Kd.R_lt (KR HO_327001.out))) (Kd.R_lt (KR HO_340000.out))) (Kd.R_lt (KR HO_340001.out))) (below_size KB))
           have n7_ := Aside0.mk (Kd.R_lower (Kd.R_new' (Kd.R_new' (Kd.R_new' (Kd.R_new' (Kd.R_new' (Kd.R_new' ho1 (Kd.R_lt (KR HO_319000.out))) (Kd.R_lt (KR HO_319001.out))) (Kd.R_lt (KR HO_327000.out))) (Kd.R_lt (KR HO_327001.out))) (Kd.R_lt (KR HO_340000.out))) (Kd.R_lt (KR HO_340001.out))) (below_size KB))
           have n8_ := Aside0.mk (blk_below (g := gb295) (o := .cells #[.slice A0_0 l0_0.length c0_0, .slice A0_1 l0_1.length c0_1, .int .i64 a0_2] 24 (0, 0)) KK hb)
           have n9_ := Aside0.mk (blk_below (g := gb296) (o := .cells #[.int .i64 a1_0, .int .i64 a1_1, .bool a1_2, .string a1_3] 26 (0, 0)) KK hb)
           have n10_ := Aside0.mk (blk_below (g := gb318) (o := .cells #[.slice Ao41 t310.length co41, .slice Ao43 t313.length co43, .int .i64 t316] 31 (0, 0)) KK hb)
           have n11_ := Aside0.mk (blk_below (g := gb326) (o := .cells #[.slice Ao50 t350.length co50, .slice Ao55 t351.length co55, .int .i64 t325] 31 (0, 0)) KK hb)
           have n12_ := Aside0.mk (blk_below (g := gb339) (o := .cells #[.slice Ao62 t331.length co62, .slice Ao64 t334.length co64, .int .i64 t337] 31 (0, 0)) KK hb)
           have n13_ := Aside0.mk (below_step KB hb)
           clear HO_319000
           clear HO_319001
           clear HO_327000
           clear HO_327001
           clear HO_340000
           clear HO_340001
           clear BK295
           clear BK296
           clear BK318
           clear BK326
           clear BK339
           clear HB
           have HO_319000 := n0_
           have HO_319001 := n1_
           have HO_327000 := n2_
           have HO_327001 := n3_
           have HO_340000 := n4_
           have HO_340001 := n5_
           have HO359 := n6_
           have HO362 := n7_
           have BK295 := n8_
           have BK296 := n9_
           have BK318 := n10_
           have BK326 := n11_
           have BK339 := n12_
           have HB := n13_
           clear n0_ n1_ n2_ n3_ n4_ n5_ n6_ n7_ n8_ n9_ n10_ n11_ n12_ n13_
           (try clear hb)
           (try clear hb2)
           (try clear hk)
           (try clear hi)
           (try clear ho0)
           (try clear ho1)
           refine hK.out _ _ ⟨(blk_cell BK295.out 0).trans rfl, (blk_cell BK295.out 1).trans rfl, (blk_cell BK295.out 2).trans rfl, (blk_cell BK296.out 0).trans rfl, (blk_cell BK296.out 1).trans rfl, (blk_cell BK296.out 2).trans rfl, (blk_cell BK296.out 3).trans rfl⟩ (fun hHeld => ?_)
           clear hK K
           refine norm_ (a' := ?_) ?_ ?_
           rotate_left
           ·show Act.put _ (some 86) _ = _
            simp only [Act.put, List.setIfInBounds_toArray, List.set_cons_zero, List.set_cons_succ, i64_w, i32_w]
            rfl
           refine two_ (i := 3) (j := 8) (Ni := some 88) (Nj := some 14) #[true, true, true, true, false, false, false, false, false, false, false] #[true, true, true, false, false, false, false, false, true, false, false] rfl rfl rfl rfl (two_of HT_.out (by kernel_rfl)) (by decide) (by decide) (fun K hK => ?_) (fun K hK => ?_)
           ·skip
            refine goes_ Try.func13 (by kernel_rfl) rfl #[.agg #[.int .i64 a1_0, .int .i64 a1_1, .bool a1_2, .string a1_3]] (by rfl) rfl rfl KL ?_
            with_reducible refine (laws_toEntry.calls a1_0 a1_1 a1_2 a1_3 t364 t365 t366 t367 _ A135.out).mono ?_
            rintro e w148 ⟨rfl, hb⟩
            refine ⟨_, rfl, ?_⟩
            have n0_ := Aside0.mk (Kd.R_below (KR HO_319000.out) hb)
            have n1_ := Aside0.mk (Kd.R_below (KR HO_319001.out) hb)
            have n2_ := Aside0.mk (Kd.R_below (KR HO_327000.out) hb)
            have n3_ := Aside0.mk (Kd.R_below (KR HO_327001.out) hb)
            have n4_ := Aside0.mk (Kd.R_below (KR HO_340000.out) hb)
            have n5_ := Aside0.mk (Kd.R_below (KR HO_340001.out) hb)
            have n6_ := Aside0.mk (Kd.R_below (KR HO359.out) hb)
            have n7_ := Aside0.mk (Kd.R_below (KR HO362.out) hb)
            have n8_ := Aside0.mk (blk_below (g := gb295) (o := .cells #[.slice A0_0 l0_0.length c0_0, .slice A0_1 l0_1.length c0_1, .int .i64 a0_2] 24 (0, 0)) KK hb)
            have n9_ := Aside0.mk (blk_below (g := gb296) (o := .cells #[.int .i64 a1_0, .int .i64 a1_1, .bool a1_2, .string a1_3] 26 (0, 0)) KK hb)
            have n10_ := Aside0.mk (blk_below (g := gb318) (o := .cells #[.slice Ao41 t310.length co41, .slice Ao43 t313.length co43, .int .i64 t316] 31 (0, 0)) KK hb)
            have n11_ := Aside0.mk (blk_below (g := gb326) (o := .cells #[.slice Ao50 t350.length co50, .slice Ao55 t351.length co55, .int .i64 t325] 31 (0, 0)) KK hb)
            have n12_ := Aside0.mk (blk_below (g := gb339) (o := .cells #[.slice Ao62 t331.length co62, .slice Ao64 t334.length co64, .int .i64 t337] 31 (0, 0)) KK hb)
            have n13_ := Aside0.mk (below_step KB hb)
            clear HO_319000
            clear HO_319001
            clear HO_327000
            clear HO_327001
            clear HO_340000
            clear HO_340001
            clear HO359
            clear HO362
            clear BK295
            clear BK296
            clear BK318
            clear BK326
            clear BK339
            clear HB
            have HO_319000 := n0_
            have HO_319001 := n1_
            have HO_327000 := n2_
            have HO_327001 := n3_
            have HO_340000 := n4_
            have HO_340001 := n5_
            have HO359 := n6_
            have HO362 := n7_
            have BK295 := n8_
            have BK296 := n9_
            have BK318 := n10_
            have BK326 := n11_
            have BK339 := n12_
            have HB := n13_
            clear n0_ n1_ n2_ n3_ n4_ n5_ n6_ n7_ n8_ n9_ n10_ n11_ n12_ n13_
            (try clear hb)
            (try clear hb2)
            (try clear hk)
            (try clear hi)
            obtain ⟨Ao149, co149, eo149⟩ := Kd.R_slice HO359.out
            (first | subst eo149 | (injection eo149 with f1_ f2_ f3_; have f4_ := f1_.symm; have f5_ := f3_.symm; clear f1_ f2_ f3_; subst f4_; subst f5_))
            obtain ⟨Ao150, co150, eo150⟩ := Kd.R_slice HO362.out
            (first | subst eo150 | (injection eo150 with f1_ f2_ f3_; have f4_ := f1_.symm; have f5_ := f3_.symm; clear f1_ f2_ f3_; subst f4_; subst f5_))
            refine hK.out _ _ ⟨(blk_cell BK295.out 0).trans rfl, (blk_cell BK295.out 1).trans rfl, (blk_cell BK295.out 2).trans rfl, (blk_cell BK296.out 0).trans rfl, (blk_cell BK296.out 1).trans rfl, (blk_cell BK296.out 2).trans rfl, (blk_cell BK296.out 3).trans rfl⟩ (fun hHeld => ?_)
            clear hK K
            refine norm_ (a' := ?_) ?_ ?_
            rotate_left
            ·show Act.put _ (some 88) _ = _
             simp only [Act.put, List.setIfInBounds_toArray, List.set_cons_zero, List.set_cons_succ, i64_w, i32_w]
             rfl
            refine two_ (i := 4) (j := 8) (Ni := some 89) (Nj := some 14) #[true, true, true, true, true, false, false, false, false, false, false] #[true, true, true, true, false, false, false, false, true, false, false] rfl rfl rfl rfl (two_of HT_.out (by kernel_rfl)) (by decide) (by decide) (fun K hK => ?_) (fun K hK => ?_)
            ·skip
             refine goes_ Try.func14 (by kernel_rfl) rfl #[.agg #[.slice Ao149 t357.length co149, .slice Ao150 t360.length co150, .int .i64 t363], .agg #[.int .i64 t364, .int .i64 t365, .bool t366, .string t367]] (by rfl) rfl rfl KL ?_
             with_reducible refine (impl_StorePut.calls kj93 _ _ t357 _ _ t360 t363 t364 t365 t366 t367 t368 t371 t374 t375 _ ?side1 ?side2 ?side3 ?side4 A136.out).mono ?_
             (case side1 => repeat (first | exact (Kd.R_reads' HO359.out).2.2 | (with_reducible refine Kd.C_alloc ?_ _) | (with_reducible refine Kd.C_drewN ?_ _) | (with_reducible refine Kd.C_drew ?_)))
             (case side2 => exact (Kd.R_reads' HO359.out).2.1)
             (case side3 => repeat (first | exact (Kd.R_reads' HO362.out).2.2 | (with_reducible refine Kd.C_alloc ?_ _) | (with_reducible refine Kd.C_drewN ?_ _) | (with_reducible refine Kd.C_drew ?_)))
             (case side4 => exact (Kd.R_reads' HO362.out).2.1)
             rintro e w151 ⟨v369, v372, rfl, ho0, ho1, hb⟩
             refine ⟨_, rfl, ?_⟩
             have n0_ := Aside0.mk (Kd.R_mono (Kd.R_told (Kd.R_told (Kd.R_old (KR HO_319000.out) hb) (Kd.R_base ho0)) (Kd.R_base ho1)) (fun _ h_ => h_.1))
             have n1_ := Aside0.mk (Kd.R_mono (Kd.R_told (Kd.R_told (Kd.R_old (KR HO_319001.out) hb) (Kd.R_base ho0)) (Kd.R_base ho1)) (fun _ h_ => h_.1))
             have n2_ := Aside0.mk (Kd.R_mono (Kd.R_told (Kd.R_told (Kd.R_old (KR HO_327000.out) hb) (Kd.R_base ho0)) (Kd.R_base ho1)) (fun _ h_ => h_.1))
             have n3_ := Aside0.mk (Kd.R_mono (Kd.R_told (Kd.R_told (Kd.R_old (KR HO_327001.out) hb) (Kd.R_base ho0)) (Kd.R_base ho1)) (fun _ h_ => h_.1))
             have n4_ := Aside0.mk (Kd.R_mono (Kd.R_told (Kd.R_told (Kd.R_old (KR HO_340000.out) hb) (Kd.R_base ho0)) (Kd.R_base ho1)) (fun _ h_ => h_.1))
             have n5_ := Aside0.mk (Kd.R_mono (Kd.R_told (Kd.R_told (Kd.R_old (KR HO_340001.out) hb) (Kd.R_base ho0)) (Kd.R_base ho1)) (fun _ h_ => h_.1))
             have n6_ := Aside0.mk (Kd.R_mono (Kd.R_told (Kd.R_told (Kd.R_old (KR HO359.out) hb) (Kd.R_base ho0)) (Kd.R_base ho1)) (fun _ h_ => h_.1))
             have n7_ := Aside0.mk (Kd.R_mono (Kd.R_told (Kd.R_told (Kd.R_old (KR HO362.out) hb) (Kd.R_base ho0)) (Kd.R_base ho1)) (fun _ h_ => h_.1))
             have n8_ := Aside0.mk (Kd.R_lower (Kd.R_new' (Kd.R_new' (Kd.R_new' (Kd.R_new' (Kd.R_new' (Kd.R_new' (Kd.R_new' (Kd.R_new' ho0 (Kd.R_lt (KR HO_319000.out))) (Kd.R_lt (KR HO_319001.out))) (Kd.R_lt (KR HO_327000.out))) (Kd.R_lt (KR HO_327001.out))) (Kd.R_lt (KR HO_340000.out))) (Kd.R_lt (KR HO_340001.out))) (Kd.R_lt (KR HO359.out))) (Kd.R_lt (KR HO362.out))) (below_size KB))
             have n9_ := Aside0.mk (Kd.R_lower (Kd.R_new' (Kd.R_new' (Kd.R_new' (Kd.R_new' (Kd.R_new' (Kd.R_new' (Kd.R_new' (Kd.R_new' ho1 (Kd.R_lt (KR HO_319000.out))) (Kd.R_lt (KR HO_319001.out))) (Kd.R_lt (KR HO_327000.out))) (Kd.R_lt (KR HO_327001.out))) (Kd.R_lt (KR HO_340000.out))) (Kd.R_lt (KR HO_340001.out))) (Kd.R_lt (KR HO359.out))) (Kd.R_lt (KR HO362.out))) (below_size KB))
             have n10_ := Aside0.mk (blk_below (g := gb295) (o := .cells #[.slice A0_0 l0_0.length c0_0, .slice A0_1 l0_1.length c0_1, .int .i64 a0_2] 24 (0, 0)) KK hb)
             have n11_ := Aside0.mk (blk_below (g := gb296) (o := .cells #[.int .i64 a1_0, .int .i64 a1_1, .bool a1_2, .string a1_3] 26 (0, 0)) KK hb)
             have n12_ := Aside0.mk (blk_below (g := gb318) (o := .cells #[.slice Ao41 t310.length co41, .slice Ao43 t313.length co43, .int .i64 t316] 31 (0, 0)) KK hb)
             have n13_ := Aside0.mk (blk_below (g := gb326) (o := .cells #[.slice Ao50 t350.length co50, .slice Ao55 t351.length co55, .int .i64 t325] 31 (0, 0)) KK hb)
             have n14_ := Aside0.mk (blk_below (g := gb339) (o := .cells #[.slice Ao62 t331.length co62, .slice Ao64 t334.length co64, .int .i64 t337] 31 (0, 0)) KK hb)
             have n15_ := Aside0.mk (below_step KB hb)
             clear HO_319000
             clear HO_319001
             clear HO_327000
             clear HO_327001
             clear HO_340000
             clear HO_340001
             clear HO359
             clear HO362
             clear BK295
             clear BK296
             clear BK318
             clear BK326
             clear BK339
             clear HB
             have HO_319000 := n0_
             have HO_319001 := n1_
             have HO_327000 := n2_
             have HO_327001 := n3_
             have HO_340000 := n4_
             have HO_340001 := n5_
             have HO359 := n6_
             have HO362 := n7_
             have HO370 := n8_
             have HO373 := n9_
             have BK295 := n10_
             have BK296 := n11_
             have BK318 := n12_
             have BK326 := n13_
             have BK339 := n14_
             have HB := n15_
             clear n0_ n1_ n2_ n3_ n4_ n5_ n6_ n7_ n8_ n9_ n10_ n11_ n12_ n13_ n14_ n15_
             (try clear hb)
             (try clear hb2)
             (try clear hk)
             (try clear hi)
             (try clear ho0)
             (try clear ho1)
             refine hK.out _ _ ⟨(blk_cell BK295.out 0).trans rfl, (blk_cell BK295.out 1).trans rfl, (blk_cell BK295.out 2).trans rfl, (blk_cell BK296.out 0).trans rfl, (blk_cell BK296.out 1).trans rfl, (blk_cell BK296.out 2).trans rfl, (blk_cell BK296.out 3).trans rfl⟩ (fun hHeld => ?_)
             clear hK K
             refine norm_ (a' := ?_) ?_ ?_
             rotate_left
             ·show Act.put _ (some 89) _ = _
              simp only [Act.put, List.setIfInBounds_toArray, List.set_cons_zero, List.set_cons_succ, i64_w, i32_w]
              rfl
             refine pure_ (i := 5) (N := some 84) (v := ?_) (a' := ?_) #[true, true, true, true, true, true, false, false, false, false, false] rfl rfl (any_of HT_.out (by kernel_rfl)) (fun _ _ _ h => h) (Or.inl ⟨by rfl, ?_⟩) ?_ ?_
             rotate_left
             ·intro w'
              go_simp
              with_reducible rfl
             rotate_left
             ·simp only [Act.put, List.setIfInBounds_toArray, List.set_cons_zero, List.set_cons_succ, i64_w, i32_w]
              rfl
             refine pure_ (i := 6) (N := some 90) (v := ?_) (a' := ?_) #[true, true, true, true, true, true, true, false, false, false, false] rfl rfl (any_of HT_.out (by kernel_rfl)) (fun _ _ _ h => h) (Or.inl ⟨by rfl, ?_⟩) ?_ ?_
             rotate_left
             ·intro w'
              go_simp
              with_reducible rfl
             rotate_left
             ·simp only [Act.put, List.setIfInBounds_toArray, List.set_cons_zero, List.set_cons_succ, i64_w, i32_w]
              rfl
             refine pure_ (i := 7) (N := some 91) (v := ?_) (a' := ?_) #[true, true, true, true, true, true, true, true, false, false, false] rfl rfl (any_of HT_.out (by kernel_rfl)) (fun _ _ _ h => h) (Or.inl ⟨by rfl, ?_⟩) ?_ ?_
             rotate_left
             ·intro w'
              go_simp
              with_reducible rfl
             rotate_left
             ·simp only [Act.put, List.setIfInBounds_toArray, List.set_cons_zero, List.set_cons_succ, i64_w, i32_w]
              rfl
             refine one_ (i := 8) (N := some 14) #[true, true, true, true, true, true, true, true, true, false, false] rfl rfl (one_of HT_.out (by kernel_rfl)) (by decide) (fun K hK => ?_)
             refine box_step ?hg (N := 14) ?hd (cs := #[.slice none 0 0, .slice none 0 0, .int .i64 0]) (t := 31) ?hr ?_; (case hd => rfl); (case hg => rfl); (case hr => first | (go_simp; done) | (go_simp; rfl))
             intro gb376 hg w152 hbox hb
             have n0_ := Aside0.mk (Kd.R_below (KR HO_319000.out) hb)
             have n1_ := Aside0.mk (Kd.R_below (KR HO_319001.out) hb)
             have n2_ := Aside0.mk (Kd.R_below (KR HO_327000.out) hb)
             have n3_ := Aside0.mk (Kd.R_below (KR HO_327001.out) hb)
             have n4_ := Aside0.mk (Kd.R_below (KR HO_340000.out) hb)
             have n5_ := Aside0.mk (Kd.R_below (KR HO_340001.out) hb)
             have n6_ := Aside0.mk (Kd.R_below (KR HO359.out) hb)
             have n7_ := Aside0.mk (Kd.R_below (KR HO362.out) hb)
             have n8_ := Aside0.mk (Kd.R_below (KR HO370.out) hb)
             have n9_ := Aside0.mk (Kd.R_below (KR HO373.out) hb)
             have n10_ := Aside0.mk (blk_below (g := gb295) (o := .cells #[.slice A0_0 l0_0.length c0_0, .slice A0_1 l0_1.length c0_1, .int .i64 a0_2] 24 (0, 0)) KK hb)
             have n11_ := Aside0.mk (blk_below (g := gb296) (o := .cells #[.int .i64 a1_0, .int .i64 a1_1, .bool a1_2, .string a1_3] 26 (0, 0)) KK hb)
             have n12_ := Aside0.mk (blk_below (g := gb318) (o := .cells #[.slice Ao41 t310.length co41, .slice Ao43 t313.length co43, .int .i64 t316] 31 (0, 0)) KK hb)
             have n13_ := Aside0.mk (blk_below (g := gb326) (o := .cells #[.slice Ao50 t350.length co50, .slice Ao55 t351.length co55, .int .i64 t325] 31 (0, 0)) KK hb)
             have n14_ := Aside0.mk (blk_below (g := gb339) (o := .cells #[.slice Ao62 t331.length co62, .slice Ao64 t334.length co64, .int .i64 t337] 31 (0, 0)) KK hb)
             have n15_ := Aside0.mk (below_step KB hb)
             have n16_ := Aside0.mk (hbox)
             have n17_ := Aside0.mk ((KG hg : w.heap.size ≤ gb376))
             have n18_ := Aside0.mk ((KG hg : w.heap.size ≤ gb376))
             have n19_ := Aside0.mk ((by rw [hg]; exact Nat.ne_of_lt (blk_lt (g := gb295) (o := .cells #[.slice A0_0 l0_0.length c0_0, .slice A0_1 l0_1.length c0_1, .int .i64 a0_2] 24 (0, 0)) KK) : gb295 ≠ gb376))
             have n20_ := Aside0.mk ((by rw [hg]; exact Nat.ne_of_gt (blk_lt (g := gb295) (o := .cells #[.slice A0_0 l0_0.length c0_0, .slice A0_1 l0_1.length c0_1, .int .i64 a0_2] 24 (0, 0)) KK) : gb376 ≠ gb295))
             have n21_ := Aside0.mk ((by rw [hg]; exact Nat.ne_of_lt (blk_lt (g := gb296) (o := .cells #[.int .i64 a1_0, .int .i64 a1_1, .bool a1_2, .string a1_3] 26 (0, 0)) KK) : gb296 ≠ gb376))
             have n22_ := Aside0.mk ((by rw [hg]; exact Nat.ne_of_gt (blk_lt (g := gb296) (o := .cells #[.int .i64 a1_0, .int .i64 a1_1, .bool a1_2, .string a1_3] 26 (0, 0)) KK) : gb376 ≠ gb296))
             have n23_ := Aside0.mk ((by rw [hg]; exact Nat.ne_of_lt (blk_lt (g := gb318) (o := .cells #[.slice Ao41 t310.length co41, .slice Ao43 t313.length co43, .int .i64 t316] 31 (0, 0)) KK) : gb318 ≠ gb376))
             have n24_ := Aside0.mk ((by rw [hg]; exact Nat.ne_of_gt (blk_lt (g := gb318) (o := .cells #[.slice Ao41 t310.length co41, .slice Ao43 t313.length co43, .int .i64 t316] 31 (0, 0)) KK) : gb376 ≠ gb318))
             have n25_ := Aside0.mk ((by rw [hg]; exact Nat.ne_of_lt (blk_lt (g := gb326) (o := .cells #[.slice Ao50 t350.length co50, .slice Ao55 t351.length co55, .int .i64 t325] 31 (0, 0)) KK) : gb326 ≠ gb376))
             have n26_ := Aside0.mk ((by rw [hg]; exact Nat.ne_of_gt (blk_lt (g := gb326) (o := .cells #[.slice Ao50 t350.length co50, .slice Ao55 t351.length co55, .int .i64 t325] 31 (0, 0)) KK) : gb376 ≠ gb326))
             have n27_ := Aside0.mk ((by rw [hg]; exact Nat.ne_of_lt (blk_lt (g := gb339) (o := .cells #[.slice Ao62 t331.length co62, .slice Ao64 t334.length co64, .int .i64 t337] 31 (0, 0)) KK) : gb339 ≠ gb376))
             have n28_ := Aside0.mk ((by rw [hg]; exact Nat.ne_of_gt (blk_lt (g := gb339) (o := .cells #[.slice Ao62 t331.length co62, .slice Ao64 t334.length co64, .int .i64 t337] 31 (0, 0)) KK) : gb376 ≠ gb339))
             clear HO_319000
             clear HO_319001
             clear HO_327000
             clear HO_327001
             clear HO_340000
             clear HO_340001
             clear HO359
             clear HO362
             clear HO370
             clear HO373
             clear BK295
             clear BK296
             clear BK318
             clear BK326
             clear BK339
             clear HB
             have HO_319000 := n0_
             have HO_319001 := n1_
             have HO_327000 := n2_
             have HO_327001 := n3_
             have HO_340000 := n4_
             have HO_340001 := n5_
             have HO359 := n6_
             have HO362 := n7_
             have HO370 := n8_
             have HO373 := n9_
             have BK295 := n10_
             have BK296 := n11_
             have BK318 := n12_
             have BK326 := n13_
             have BK339 := n14_
             have HB := n15_
             have BK376 := n16_
             have GW376 := n17_
             have GE376 := n18_
             have NB295_376 := n19_
             have NB376_295 := n20_
             have NB296_376 := n21_
             have NB376_296 := n22_
             have NB318_376 := n23_
             have NB376_318 := n24_
             have NB326_376 := n25_
             have NB376_326 := n26_
             have NB339_376 := n27_
             have NB376_339 := n28_
             clear n0_ n1_ n2_ n3_ n4_ n5_ n6_ n7_ n8_ n9_ n10_ n11_ n12_ n13_ n14_ n15_ n16_ n17_ n18_ n19_ n20_ n21_ n22_ n23_ n24_ n25_ n26_ n27_ n28_
             clear hb hbox hg
             refine hK.out _ _ ⟨(blk_cell BK295.out 0).trans rfl, (blk_cell BK295.out 1).trans rfl, (blk_cell BK295.out 2).trans rfl, (blk_cell BK296.out 0).trans rfl, (blk_cell BK296.out 1).trans rfl, (blk_cell BK296.out 2).trans rfl, (blk_cell BK296.out 3).trans rfl⟩ (fun hHeld => ?_)
             clear hK K
             refine norm_ (a' := ?_) ?_ ?_
             rotate_left
             ·show Act.put _ (some 14) _ = _
              simp only [Act.put, List.setIfInBounds_toArray, List.set_cons_zero, List.set_cons_succ, i64_w, i32_w]
              rfl
             exact norm_ (by simp only [putAll, Act.put, List.setIfInBounds_toArray, List.set_cons_zero, List.set_cons_succ]) (hCont (.slice Ao149 t357.length co149, .slice Ao150 t360.length co150, v369, v372, gb376) _ ⟨hHeld, (by (with_reducible repeat (first | apply Kd.R_alloc | apply Kd.R_drewN | apply Kd.R_drew)); exact Kd.R_mono HO359.out (fun _ hk => ⟨hk.1.1.1.1.1.1.1.1, ⟨hk.1.2, ⟨hk.2, ⟨hk.1.1.1.1.1.1.1.2, ⟨hk.1.1.1.1.1.1.2, ⟨hk.1.1.1.1.1.2, ⟨hk.1.1.1.1.2, ⟨hk.1.1.1.2, hk.1.1.2⟩⟩⟩⟩⟩⟩⟩⟩)), (by (with_reducible repeat (first | apply Kd.R_alloc | apply Kd.R_drewN | apply Kd.R_drew)); exact Kd.R_mono HO362.out (fun _ hk => ⟨hk.1.1.1.1.1.1.1.1, ⟨hk.1.2, ⟨hk.2, ⟨hk.1.1.1.1.1.1.1.2, ⟨hk.1.1.1.1.1.1.2, ⟨hk.1.1.1.1.1.2, ⟨hk.1.1.1.1.2, ⟨hk.1.1.1.2, hk.1.1.2⟩⟩⟩⟩⟩⟩⟩⟩)), (by (with_reducible repeat (first | apply Kd.R_alloc | apply Kd.R_drewN | apply Kd.R_drew)); exact Kd.R_mono HO370.out (fun _ hk => ⟨hk.1.2, ⟨hk.2, ⟨hk.1.1.1.1.1.1.1.1, ⟨hk.1.1.1.1.1.1.1.2, ⟨hk.1.1.1.1.1.1.2, ⟨hk.1.1.1.1.1.2, ⟨hk.1.1.1.1.2, ⟨hk.1.1.1.2, hk.1.1.2⟩⟩⟩⟩⟩⟩⟩⟩)), (by (with_reducible repeat (first | apply Kd.R_alloc | apply Kd.R_drewN | apply Kd.R_drew)); exact Kd.R_mono HO373.out (fun _ hk => ⟨hk.1.2, ⟨hk.2, ⟨hk.1.1.1.1.1.1.1.1, ⟨hk.1.1.1.1.1.1.1.2, ⟨hk.1.1.1.1.1.1.2, ⟨hk.1.1.1.1.1.2, ⟨hk.1.1.1.1.2, ⟨hk.1.1.1.2, hk.1.1.2⟩⟩⟩⟩⟩⟩⟩⟩)), (by (with_reducible repeat (first | apply Kd.R_alloc | apply Kd.R_drewN | apply Kd.R_drew)); exact Kd.R_mono HO_319000.out (fun _ hk => ⟨hk.1.1.1.2, ⟨hk.1.1.2, ⟨hk.1.2, ⟨hk.2, ⟨hk.1.1.1.1.1, ⟨hk.1.1.1.1.2.1, ⟨hk.1.1.1.1.2.2.1, ⟨hk.1.1.1.1.2.2.2.1, hk.1.1.1.1.2.2.2.2⟩⟩⟩⟩⟩⟩⟩⟩)), (by (with_reducible repeat (first | apply Kd.R_alloc | apply Kd.R_drewN | apply Kd.R_drew)); exact Kd.R_mono HO_319001.out (fun _ hk => ⟨hk.1.1.1.2, ⟨hk.1.1.2, ⟨hk.1.2, ⟨hk.2, ⟨hk.1.1.1.1.1, ⟨hk.1.1.1.1.2.1, ⟨hk.1.1.1.1.2.2.1, ⟨hk.1.1.1.1.2.2.2.1, hk.1.1.1.1.2.2.2.2⟩⟩⟩⟩⟩⟩⟩⟩)), (by (with_reducible repeat (first | apply Kd.R_alloc | apply Kd.R_drewN | apply Kd.R_drew)); exact Kd.R_mono HO_327000.out (fun _ hk => ⟨hk.1.1.1.2, ⟨hk.1.1.2, ⟨hk.1.2, ⟨hk.2, ⟨hk.1.1.1.1.1, ⟨hk.1.1.1.1.2.1, ⟨hk.1.1.1.1.2.2.1, ⟨hk.1.1.1.1.2.2.2.1, hk.1.1.1.1.2.2.2.2⟩⟩⟩⟩⟩⟩⟩⟩)), (by (with_reducible repeat (first | apply Kd.R_alloc | apply Kd.R_drewN | apply Kd.R_drew)); exact Kd.R_mono HO_327001.out (fun _ hk => ⟨hk.1.1.1.2, ⟨hk.1.1.2, ⟨hk.1.2, ⟨hk.2, ⟨hk.1.1.1.1.1, ⟨hk.1.1.1.1.2.1, ⟨hk.1.1.1.1.2.2.1, ⟨hk.1.1.1.1.2.2.2.1, hk.1.1.1.1.2.2.2.2⟩⟩⟩⟩⟩⟩⟩⟩)), (by (with_reducible repeat (first | apply Kd.R_alloc | apply Kd.R_drewN | apply Kd.R_drew)); exact Kd.R_mono HO_340000.out (fun _ hk => ⟨hk.1.1.1.2, ⟨hk.1.1.2, ⟨hk.1.2, ⟨hk.2, ⟨hk.1.1.1.1.1, ⟨hk.1.1.1.1.2.1, ⟨hk.1.1.1.1.2.2.1, ⟨hk.1.1.1.1.2.2.2.1, hk.1.1.1.1.2.2.2.2⟩⟩⟩⟩⟩⟩⟩⟩)), (by (with_reducible repeat (first | apply Kd.R_alloc | apply Kd.R_drewN | apply Kd.R_drew)); exact Kd.R_mono HO_340001.out (fun _ hk => ⟨hk.1.1.1.2, ⟨hk.1.1.2, ⟨hk.1.2, ⟨hk.2, ⟨hk.1.1.1.1.1, ⟨hk.1.1.1.1.2.1, ⟨hk.1.1.1.1.2.2.1, ⟨hk.1.1.1.1.2.2.2.1, hk.1.1.1.1.2.2.2.2⟩⟩⟩⟩⟩⟩⟩⟩)), KK, KK, KK, KK, KK, KK, GW376.out, GE376.out, NB295_376.out, NB376_295.out, NB296_376.out, NB376_296.out, NB318_376.out, NB376_318.out, NB326_376.out, NB376_326.out, NB339_376.out, NB376_339.out, KB⟩)
            ·skip
             refine box_step ?hg (N := 14) ?hd (cs := #[.slice none 0 0, .slice none 0 0, .int .i64 0]) (t := 31) ?hr ?_; (case hd => rfl); (case hg => rfl); (case hr => first | (go_simp; done) | (go_simp; rfl))
             intro gb376 hg w149 hbox hb
             have n0_ := Aside0.mk (Kd.R_below (KR HO_319000.out) hb)
             have n1_ := Aside0.mk (Kd.R_below (KR HO_319001.out) hb)
             have n2_ := Aside0.mk (Kd.R_below (KR HO_327000.out) hb)
             have n3_ := Aside0.mk (Kd.R_below (KR HO_327001.out) hb)
             have n4_ := Aside0.mk (Kd.R_below (KR HO_340000.out) hb)
             have n5_ := Aside0.mk (Kd.R_below (KR HO_340001.out) hb)
             have n6_ := Aside0.mk (Kd.R_below (KR HO359.out) hb)
             have n7_ := Aside0.mk (Kd.R_below (KR HO362.out) hb)
             have n8_ := Aside0.mk (blk_below (g := gb295) (o := .cells #[.slice A0_0 l0_0.length c0_0, .slice A0_1 l0_1.length c0_1, .int .i64 a0_2] 24 (0, 0)) KK hb)
             have n9_ := Aside0.mk (blk_below (g := gb296) (o := .cells #[.int .i64 a1_0, .int .i64 a1_1, .bool a1_2, .string a1_3] 26 (0, 0)) KK hb)
             have n10_ := Aside0.mk (blk_below (g := gb318) (o := .cells #[.slice Ao41 t310.length co41, .slice Ao43 t313.length co43, .int .i64 t316] 31 (0, 0)) KK hb)
             have n11_ := Aside0.mk (blk_below (g := gb326) (o := .cells #[.slice Ao50 t350.length co50, .slice Ao55 t351.length co55, .int .i64 t325] 31 (0, 0)) KK hb)
             have n12_ := Aside0.mk (blk_below (g := gb339) (o := .cells #[.slice Ao62 t331.length co62, .slice Ao64 t334.length co64, .int .i64 t337] 31 (0, 0)) KK hb)
             have n13_ := Aside0.mk (below_step KB hb)
             have n14_ := Aside0.mk (hbox)
             have n15_ := Aside0.mk ((KG hg : w.heap.size ≤ gb376))
             have n16_ := Aside0.mk ((KG hg : w.heap.size ≤ gb376))
             have n17_ := Aside0.mk ((by rw [hg]; exact Nat.ne_of_lt (blk_lt (g := gb295) (o := .cells #[.slice A0_0 l0_0.length c0_0, .slice A0_1 l0_1.length c0_1, .int .i64 a0_2] 24 (0, 0)) KK) : gb295 ≠ gb376))
             have n18_ := Aside0.mk ((by rw [hg]; exact Nat.ne_of_gt (blk_lt (g := gb295) (o := .cells #[.slice A0_0 l0_0.length c0_0, .slice A0_1 l0_1.length c0_1, .int .i64 a0_2] 24 (0, 0)) KK) : gb376 ≠ gb295))
             have n19_ := Aside0.mk ((by rw [hg]; exact Nat.ne_of_lt (blk_lt (g := gb296) (o := .cells #[.int .i64 a1_0, .int .i64 a1_1, .bool a1_2, .string a1_3] 26 (0, 0)) KK) : gb296 ≠ gb376))
             have n20_ := Aside0.mk ((by rw [hg]; exact Nat.ne_of_gt (blk_lt (g := gb296) (o := .cells #[.int .i64 a1_0, .int .i64 a1_1, .bool a1_2, .string a1_3] 26 (0, 0)) KK) : gb376 ≠ gb296))
             have n21_ := Aside0.mk ((by rw [hg]; exact Nat.ne_of_lt (blk_lt (g := gb318) (o := .cells #[.slice Ao41 t310.length co41, .slice Ao43 t313.length co43, .int .i64 t316] 31 (0, 0)) KK) : gb318 ≠ gb376))
             have n22_ := Aside0.mk ((by rw [hg]; exact Nat.ne_of_gt (blk_lt (g := gb318) (o := .cells #[.slice Ao41 t310.length co41, .slice Ao43 t313.length co43, .int .i64 t316] 31 (0, 0)) KK) : gb376 ≠ gb318))
             have n23_ := Aside0.mk ((by rw [hg]; exact Nat.ne_of_lt (blk_lt (g := gb326) (o := .cells #[.slice Ao50 t350.length co50, .slice Ao55 t351.length co55, .int .i64 t325] 31 (0, 0)) KK) : gb326 ≠ gb376))
             have n24_ := Aside0.mk ((by rw [hg]; exact Nat.ne_of_gt (blk_lt (g := gb326) (o := .cells #[.slice Ao50 t350.length co50, .slice Ao55 t351.length co55, .int .i64 t325] 31 (0, 0)) KK) : gb376 ≠ gb326))
             have n25_ := Aside0.mk ((by rw [hg]; exact Nat.ne_of_lt (blk_lt (g := gb339) (o := .cells #[.slice Ao62 t331.length co62, .slice Ao64 t334.length co64, .int .i64 t337] 31 (0, 0)) KK) : gb339 ≠ gb376))
             have n26_ := Aside0.mk ((by rw [hg]; exact Nat.ne_of_gt (blk_lt (g := gb339) (o := .cells #[.slice Ao62 t331.length co62, .slice Ao64 t334.length co64, .int .i64 t337] 31 (0, 0)) KK) : gb376 ≠ gb339))
             clear HO_319000
             clear HO_319001
             clear HO_327000
             clear HO_327001
             clear HO_340000
             clear HO_340001
             clear HO359
             clear HO362
             clear BK295
             clear BK296
             clear BK318
             clear BK326
             clear BK339
             clear HB
             have HO_319000 := n0_
             have HO_319001 := n1_
             have HO_327000 := n2_
             have HO_327001 := n3_
             have HO_340000 := n4_
             have HO_340001 := n5_
             have HO359 := n6_
             have HO362 := n7_
             have BK295 := n8_
             have BK296 := n9_
             have BK318 := n10_
             have BK326 := n11_
             have BK339 := n12_
             have HB := n13_
             have BK376 := n14_
             have GW376 := n15_
             have GE376 := n16_
             have NB295_376 := n17_
             have NB376_295 := n18_
             have NB296_376 := n19_
             have NB376_296 := n20_
             have NB318_376 := n21_
             have NB376_318 := n22_
             have NB326_376 := n23_
             have NB376_326 := n24_
             have NB339_376 := n25_
             have NB376_339 := n26_
             clear n0_ n1_ n2_ n3_ n4_ n5_ n6_ n7_ n8_ n9_ n10_ n11_ n12_ n13_ n14_ n15_ n16_ n17_ n18_ n19_ n20_ n21_ n22_ n23_ n24_ n25_ n26_
             clear hb hbox hg
             obtain ⟨Ao150, co150, eo150⟩ := Kd.R_slice HO359.out
             (first | subst eo150 | (injection eo150 with f1_ f2_ f3_; have f4_ := f1_.symm; have f5_ := f3_.symm; clear f1_ f2_ f3_; subst f4_; subst f5_))
             obtain ⟨Ao151, co151, eo151⟩ := Kd.R_slice HO362.out
             (first | subst eo151 | (injection eo151 with f1_ f2_ f3_; have f4_ := f1_.symm; have f5_ := f3_.symm; clear f1_ f2_ f3_; subst f4_; subst f5_))
             refine hK.out _ _ ⟨(blk_cell BK295.out 0).trans rfl, (blk_cell BK295.out 1).trans rfl, (blk_cell BK295.out 2).trans rfl, (blk_cell BK296.out 0).trans rfl, (blk_cell BK296.out 1).trans rfl, (blk_cell BK296.out 2).trans rfl, (blk_cell BK296.out 3).trans rfl⟩ (fun hHeld => ?_)
             clear hK K
             refine norm_ (a' := ?_) ?_ ?_
             rotate_left
             ·show Act.put _ (some 14) _ = _
              simp only [Act.put, List.setIfInBounds_toArray, List.set_cons_zero, List.set_cons_succ, i64_w, i32_w]
              rfl
             refine one_ (i := 4) (N := some 89) #[true, true, true, true, true, false, false, false, true, false, false] rfl rfl (one_of HT_.out (by kernel_rfl)) (by decide) (fun K hK => ?_)
             refine goes_ Try.func14 (by kernel_rfl) rfl #[.agg #[.slice Ao150 t357.length co150, .slice Ao151 t360.length co151, .int .i64 t363], .agg #[.int .i64 t364, .int .i64 t365, .bool t366, .string t367]] (by rfl) rfl rfl KL ?_
             with_reducible refine (impl_StorePut.calls kj93 _ _ t357 _ _ t360 t363 t364 t365 t366 t367 t368 t371 t374 t375 _ ?side1 ?side2 ?side3 ?side4 A136.out).mono ?_
             (case side1 => repeat (first | exact (Kd.R_reads' HO359.out).2.2 | (with_reducible refine Kd.C_alloc ?_ _) | (with_reducible refine Kd.C_drewN ?_ _) | (with_reducible refine Kd.C_drew ?_)))
             (case side2 => exact (Kd.R_reads' HO359.out).2.1)
             (case side3 => repeat (first | exact (Kd.R_reads' HO362.out).2.2 | (with_reducible refine Kd.C_alloc ?_ _) | (with_reducible refine Kd.C_drewN ?_ _) | (with_reducible refine Kd.C_drew ?_)))
             (case side4 => exact (Kd.R_reads' HO362.out).2.1)
             rintro e w152 ⟨v369, v372, rfl, ho0, ho1, hb⟩
             refine ⟨_, rfl, ?_⟩
             have n0_ := Aside0.mk (Kd.R_mono (Kd.R_told (Kd.R_told (Kd.R_old (KR HO_319000.out) hb) (Kd.R_base ho0)) (Kd.R_base ho1)) (fun _ h_ => h_.1))
             have n1_ := Aside0.mk (Kd.R_mono (Kd.R_told (Kd.R_told (Kd.R_old (KR HO_319001.out) hb) (Kd.R_base ho0)) (Kd.R_base ho1)) (fun _ h_ => h_.1))
             have n2_ := Aside0.mk (Kd.R_mono (Kd.R_told (Kd.R_told (Kd.R_old (KR HO_327000.out) hb) (Kd.R_base ho0)) (Kd.R_base ho1)) (fun _ h_ => h_.1))
             have n3_ := Aside0.mk (Kd.R_mono (Kd.R_told (Kd.R_told (Kd.R_old (KR HO_327001.out) hb) (Kd.R_base ho0)) (Kd.R_base ho1)) (fun _ h_ => h_.1))
             have n4_ := Aside0.mk (Kd.R_mono (Kd.R_told (Kd.R_told (Kd.R_old (KR HO_340000.out) hb) (Kd.R_base ho0)) (Kd.R_base ho1)) (fun _ h_ => h_.1))
             have n5_ := Aside0.mk (Kd.R_mono (Kd.R_told (Kd.R_told (Kd.R_old (KR HO_340001.out) hb) (Kd.R_base ho0)) (Kd.R_base ho1)) (fun _ h_ => h_.1))
             have n6_ := Aside0.mk (Kd.R_mono (Kd.R_told (Kd.R_told (Kd.R_old (KR HO359.out) hb) (Kd.R_base ho0)) (Kd.R_base ho1)) (fun _ h_ => h_.1))
             have n7_ := Aside0.mk (Kd.R_mono (Kd.R_told (Kd.R_told (Kd.R_old (KR HO362.out) hb) (Kd.R_base ho0)) (Kd.R_base ho1)) (fun _ h_ => h_.1))
             have n8_ := Aside0.mk (Kd.R_lower (Kd.R_new' (Kd.R_new' (Kd.R_new' (Kd.R_new' (Kd.R_new' (Kd.R_new' (Kd.R_new' (Kd.R_new' ho0 (Kd.R_lt (KR HO_319000.out))) (Kd.R_lt (KR HO_319001.out))) (Kd.R_lt (KR HO_327000.out))) (Kd.R_lt (KR HO_327001.out))) (Kd.R_lt (KR HO_340000.out))) (Kd.R_lt (KR HO_340001.out))) (Kd.R_lt (KR HO359.out))) (Kd.R_lt (KR HO362.out))) (below_size KB))
             have n9_ := Aside0.mk (Kd.R_lower (Kd.R_new' (Kd.R_new' (Kd.R_new' (Kd.R_new' (Kd.R_new' (Kd.R_new' (Kd.R_new' (Kd.R_new' ho1 (Kd.R_lt (KR HO_319000.out))) (Kd.R_lt (KR HO_319001.out))) (Kd.R_lt (KR HO_327000.out))) (Kd.R_lt (KR HO_327001.out))) (Kd.R_lt (KR HO_340000.out))) (Kd.R_lt (KR HO_340001.out))) (Kd.R_lt (KR HO359.out))) (Kd.R_lt (KR HO362.out))) (below_size KB))
             have n10_ := Aside0.mk (blk_below (g := gb295) (o := .cells #[.slice A0_0 l0_0.length c0_0, .slice A0_1 l0_1.length c0_1, .int .i64 a0_2] 24 (0, 0)) KK hb)
             have n11_ := Aside0.mk (blk_below (g := gb296) (o := .cells #[.int .i64 a1_0, .int .i64 a1_1, .bool a1_2, .string a1_3] 26 (0, 0)) KK hb)
             have n12_ := Aside0.mk (blk_below (g := gb318) (o := .cells #[.slice Ao41 t310.length co41, .slice Ao43 t313.length co43, .int .i64 t316] 31 (0, 0)) KK hb)
             have n13_ := Aside0.mk (blk_below (g := gb326) (o := .cells #[.slice Ao50 t350.length co50, .slice Ao55 t351.length co55, .int .i64 t325] 31 (0, 0)) KK hb)
             have n14_ := Aside0.mk (blk_below (g := gb339) (o := .cells #[.slice Ao62 t331.length co62, .slice Ao64 t334.length co64, .int .i64 t337] 31 (0, 0)) KK hb)
             have n15_ := Aside0.mk (blk_below (g := gb376) (o := .cells #[.slice none 0 0, .slice none 0 0, .int .i64 0] 31 (0, 0)) KK hb)
             have n16_ := Aside0.mk (below_step KB hb)
             clear HO_319000
             clear HO_319001
             clear HO_327000
             clear HO_327001
             clear HO_340000
             clear HO_340001
             clear HO359
             clear HO362
             clear BK295
             clear BK296
             clear BK318
             clear BK326
             clear BK339
             clear BK376
             clear HB
             have HO_319000 := n0_
             have HO_319001 := n1_
             have HO_327000 := n2_
             have HO_327001 := n3_
             have HO_340000 := n4_
             have HO_340001 := n5_
             have HO359 := n6_
             have HO362 := n7_
             have HO370 := n8_
             have HO373 := n9_
             have BK295 := n10_
             have BK296 := n11_
             have BK318 := n12_
             have BK326 := n13_
             have BK339 := n14_
             have BK376 := n15_
             have HB := n16_
             clear n0_ n1_ n2_ n3_ n4_ n5_ n6_ n7_ n8_ n9_ n10_ n11_ n12_ n13_ n14_ n15_ n16_
             (try clear hb)
             (try clear hb2)
             (try clear hk)
             (try clear hi)
             (try clear ho0)
             (try clear ho1)
             refine hK.out _ _ ⟨(blk_cell BK295.out 0).trans rfl, (blk_cell BK295.out 1).trans rfl, (blk_cell BK295.out 2).trans rfl, (blk_cell BK296.out 0).trans rfl, (blk_cell BK296.out 1).trans rfl, (blk_cell BK296.out 2).trans rfl, (blk_cell BK296.out 3).trans rfl⟩ (fun hHeld => ?_)
             clear hK K
             refine norm_ (a' := ?_) ?_ ?_
             rotate_left
             ·show Act.put _ (some 89) _ = _
              simp only [Act.put, List.setIfInBounds_toArray, List.set_cons_zero, List.set_cons_succ, i64_w, i32_w]
              rfl
             refine pure_ (i := 5) (N := some 84) (v := ?_) (a' := ?_) #[true, true, true, true, true, true, false, false, true, false, false] rfl rfl (any_of HT_.out (by kernel_rfl)) (fun _ _ _ h => h) (Or.inl ⟨by rfl, ?_⟩) ?_ ?_
             rotate_left
             ·intro w'
              go_simp
              with_reducible rfl
             rotate_left
             ·simp only [Act.put, List.setIfInBounds_toArray, List.set_cons_zero, List.set_cons_succ, i64_w, i32_w]
              rfl
             refine pure_ (i := 6) (N := some 90) (v := ?_) (a' := ?_) #[true, true, true, true, true, true, true, false, true, false, false] rfl rfl (any_of HT_.out (by kernel_rfl)) (fun _ _ _ h => h) (Or.inl ⟨by rfl, ?_⟩) ?_ ?_
             rotate_left
             ·intro w'
              go_simp
              with_reducible rfl
             rotate_left
             ·simp only [Act.put, List.setIfInBounds_toArray, List.set_cons_zero, List.set_cons_succ, i64_w, i32_w]
              rfl
             refine pure_ (i := 7) (N := some 91) (v := ?_) (a' := ?_) #[true, true, true, true, true, true, true, true, true, false, false] rfl rfl (any_of HT_.out (by kernel_rfl)) (fun _ _ _ h => h) (Or.inl ⟨by rfl, ?_⟩) ?_ ?_
             rotate_left
             ·intro w'
              go_simp
              with_reducible rfl
             rotate_left
             ·simp only [Act.put, List.setIfInBounds_toArray, List.set_cons_zero, List.set_cons_succ, i64_w, i32_w]
              rfl
             exact norm_ (by simp only [putAll, Act.put, List.setIfInBounds_toArray, List.set_cons_zero, List.set_cons_succ]) (hCont (.slice Ao150 t357.length co150, .slice Ao151 t360.length co151, v369, v372, gb376) _ ⟨hHeld, (by (with_reducible repeat (first | apply Kd.R_alloc | apply Kd.R_drewN | apply Kd.R_drew)); exact Kd.R_mono HO359.out (fun _ hk => ⟨hk.1.1.1.1.1.1.1.1, ⟨hk.1.2, ⟨hk.2, ⟨hk.1.1.1.1.1.1.1.2, ⟨hk.1.1.1.1.1.1.2, ⟨hk.1.1.1.1.1.2, ⟨hk.1.1.1.1.2, ⟨hk.1.1.1.2, hk.1.1.2⟩⟩⟩⟩⟩⟩⟩⟩)), (by (with_reducible repeat (first | apply Kd.R_alloc | apply Kd.R_drewN | apply Kd.R_drew)); exact Kd.R_mono HO362.out (fun _ hk => ⟨hk.1.1.1.1.1.1.1.1, ⟨hk.1.2, ⟨hk.2, ⟨hk.1.1.1.1.1.1.1.2, ⟨hk.1.1.1.1.1.1.2, ⟨hk.1.1.1.1.1.2, ⟨hk.1.1.1.1.2, ⟨hk.1.1.1.2, hk.1.1.2⟩⟩⟩⟩⟩⟩⟩⟩)), (by (with_reducible repeat (first | apply Kd.R_alloc | apply Kd.R_drewN | apply Kd.R_drew)); exact Kd.R_mono HO370.out (fun _ hk => ⟨hk.1.2, ⟨hk.2, ⟨hk.1.1.1.1.1.1.1.1, ⟨hk.1.1.1.1.1.1.1.2, ⟨hk.1.1.1.1.1.1.2, ⟨hk.1.1.1.1.1.2, ⟨hk.1.1.1.1.2, ⟨hk.1.1.1.2, hk.1.1.2⟩⟩⟩⟩⟩⟩⟩⟩)), (by (with_reducible repeat (first | apply Kd.R_alloc | apply Kd.R_drewN | apply Kd.R_drew)); exact Kd.R_mono HO373.out (fun _ hk => ⟨hk.1.2, ⟨hk.2, ⟨hk.1.1.1.1.1.1.1.1, ⟨hk.1.1.1.1.1.1.1.2, ⟨hk.1.1.1.1.1.1.2, ⟨hk.1.1.1.1.1.2, ⟨hk.1.1.1.1.2, ⟨hk.1.1.1.2, hk.1.1.2⟩⟩⟩⟩⟩⟩⟩⟩)), (by (with_reducible repeat (first | apply Kd.R_alloc | apply Kd.R_drewN | apply Kd.R_drew)); exact Kd.R_mono HO_319000.out (fun _ hk => ⟨hk.1.1.1.2, ⟨hk.1.1.2, ⟨hk.1.2, ⟨hk.2, ⟨hk.1.1.1.1.1, ⟨hk.1.1.1.1.2.1, ⟨hk.1.1.1.1.2.2.1, ⟨hk.1.1.1.1.2.2.2.1, hk.1.1.1.1.2.2.2.2⟩⟩⟩⟩⟩⟩⟩⟩)), (by (with_reducible repeat (first | apply Kd.R_alloc | apply Kd.R_drewN | apply Kd.R_drew)); exact Kd.R_mono HO_319001.out (fun _ hk => ⟨hk.1.1.1.2, ⟨hk.1.1.2, ⟨hk.1.2, ⟨hk.2, ⟨hk.1.1.1.1.1, ⟨hk.1.1.1.1.2.1, ⟨hk.1.1.1.1.2.2.1, ⟨hk.1.1.1.1.2.2.2.1, hk.1.1.1.1.2.2.2.2⟩⟩⟩⟩⟩⟩⟩⟩)), (by (with_reducible repeat (first | apply Kd.R_alloc | apply Kd.R_drewN | apply Kd.R_drew)); exact Kd.R_mono HO_327000.out (fun _ hk => ⟨hk.1.1.1.2, ⟨hk.1.1.2, ⟨hk.1.2, ⟨hk.2, ⟨hk.1.1.1.1.1, ⟨hk.1.1.1.1.2.1, ⟨hk.1.1.1.1.2.2.1, ⟨hk.1.1.1.1.2.2.2.1, hk.1.1.1.1.2.2.2.2⟩⟩⟩⟩⟩⟩⟩⟩)), (by (with_reducible repeat (first | apply Kd.R_alloc | apply Kd.R_drewN | apply Kd.R_drew)); exact Kd.R_mono HO_327001.out (fun _ hk => ⟨hk.1.1.1.2, ⟨hk.1.1.2, ⟨hk.1.2, ⟨hk.2, ⟨hk.1.1.1.1.1, ⟨hk.1.1.1.1.2.1, ⟨hk.1.1.1.1.2.2.1, ⟨hk.1.1.1.1.2.2.2.1, hk.1.1.1.1.2.2.2.2⟩⟩⟩⟩⟩⟩⟩⟩)), (by (with_reducible repeat (first | apply Kd.R_alloc | apply Kd.R_drewN | apply Kd.R_drew)); exact Kd.R_mono HO_340000.out (fun _ hk => ⟨hk.1.1.1.2, ⟨hk.1.1.2, ⟨hk.1.2, ⟨hk.2, ⟨hk.1.1.1.1.1, ⟨hk.1.1.1.1.2.1, ⟨hk.1.1.1.1.2.2.1, ⟨hk.1.1.1.1.2.2.2.1, hk.1.1.1.1.2.2.2.2⟩⟩⟩⟩⟩⟩⟩⟩)), (by (with_reducible repeat (first | apply Kd.R_alloc | apply Kd.R_drewN | apply Kd.R_drew)); exact Kd.R_mono HO_340001.out (fun _ hk => ⟨hk.1.1.1.2, ⟨hk.1.1.2, ⟨hk.1.2, ⟨hk.2, ⟨hk.1.1.1.1.1, ⟨hk.1.1.1.1.2.1, ⟨hk.1.1.1.1.2.2.1, ⟨hk.1.1.1.1.2.2.2.1, hk.1.1.1.1.2.2.2.2⟩⟩⟩⟩⟩⟩⟩⟩)), KK, KK, KK, KK, KK, KK, GW376.out, GE376.out, NB295_376.out, NB376_295.out, NB296_376.out, NB376_296.out, NB318_376.out, NB376_318.out, NB326_376.out, NB376_326.out, NB339_376.out, NB376_339.out, KB⟩)
           ·skip
            refine box_step ?hg (N := 14) ?hd (cs := #[.slice none 0 0, .slice none 0 0, .int .i64 0]) (t := 31) ?hr ?_; (case hd => rfl); (case hg => rfl); (case hr => first | (go_simp; done) | (go_simp; rfl))
            intro gb376 hg w148 hbox hb
            have n0_ := Aside0.mk (Kd.R_below (KR HO_319000.out) hb)
            have n1_ := Aside0.mk (Kd.R_below (KR HO_319001.out) hb)
            have n2_ := Aside0.mk (Kd.R_below (KR HO_327000.out) hb)
            have n3_ := Aside0.mk (Kd.R_below (KR HO_327001.out) hb)
            have n4_ := Aside0.mk (Kd.R_below (KR HO_340000.out) hb)
            have n5_ := Aside0.mk (Kd.R_below (KR HO_340001.out) hb)
            have n6_ := Aside0.mk (Kd.R_below (KR HO359.out) hb)
            have n7_ := Aside0.mk (Kd.R_below (KR HO362.out) hb)
            have n8_ := Aside0.mk (blk_below (g := gb295) (o := .cells #[.slice A0_0 l0_0.length c0_0, .slice A0_1 l0_1.length c0_1, .int .i64 a0_2] 24 (0, 0)) KK hb)
            have n9_ := Aside0.mk (blk_below (g := gb296) (o := .cells #[.int .i64 a1_0, .int .i64 a1_1, .bool a1_2, .string a1_3] 26 (0, 0)) KK hb)
            have n10_ := Aside0.mk (blk_below (g := gb318) (o := .cells #[.slice Ao41 t310.length co41, .slice Ao43 t313.length co43, .int .i64 t316] 31 (0, 0)) KK hb)
            have n11_ := Aside0.mk (blk_below (g := gb326) (o := .cells #[.slice Ao50 t350.length co50, .slice Ao55 t351.length co55, .int .i64 t325] 31 (0, 0)) KK hb)
            have n12_ := Aside0.mk (blk_below (g := gb339) (o := .cells #[.slice Ao62 t331.length co62, .slice Ao64 t334.length co64, .int .i64 t337] 31 (0, 0)) KK hb)
            have n13_ := Aside0.mk (below_step KB hb)
            have n14_ := Aside0.mk (hbox)
            have n15_ := Aside0.mk ((KG hg : w.heap.size ≤ gb376))
            have n16_ := Aside0.mk ((KG hg : w.heap.size ≤ gb376))
            have n17_ := Aside0.mk ((by rw [hg]; exact Nat.ne_of_lt (blk_lt (g := gb295) (o := .cells #[.slice A0_0 l0_0.length c0_0, .slice A0_1 l0_1.length c0_1, .int .i64 a0_2] 24 (0, 0)) KK) : gb295 ≠ gb376))
            have n18_ := Aside0.mk ((by rw [hg]; exact Nat.ne_of_gt (blk_lt (g := gb295) (o := .cells #[.slice A0_0 l0_0.length c0_0, .slice A0_1 l0_1.length c0_1, .int .i64 a0_2] 24 (0, 0)) KK) : gb376 ≠ gb295))
            have n19_ := Aside0.mk ((by rw [hg]; exact Nat.ne_of_lt (blk_lt (g := gb296) (o := .cells #[.int .i64 a1_0, .int .i64 a1_1, .bool a1_2, .string a1_3] 26 (0, 0)) KK) : gb296 ≠ gb376))
            have n20_ := Aside0.mk ((by rw [hg]; exact Nat.ne_of_gt (blk_lt (g := gb296) (o := .cells #[.int .i64 a1_0, .int .i64 a1_1, .bool a1_2, .string a1_3] 26 (0, 0)) KK) : gb376 ≠ gb296))
            have n21_ := Aside0.mk ((by rw [hg]; exact Nat.ne_of_lt (blk_lt (g := gb318) (o := .cells #[.slice Ao41 t310.length co41, .slice Ao43 t313.length co43, .int .i64 t316] 31 (0, 0)) KK) : gb318 ≠ gb376))
            have n22_ := Aside0.mk ((by rw [hg]; exact Nat.ne_of_gt (blk_lt (g := gb318) (o := .cells #[.slice Ao41 t310.length co41, .slice Ao43 t313.length co43, .int .i64 t316] 31 (0, 0)) KK) : gb376 ≠ gb318))
            have n23_ := Aside0.mk ((by rw [hg]; exact Nat.ne_of_lt (blk_lt (g := gb326) (o := .cells #[.slice Ao50 t350.length co50, .slice Ao55 t351.length co55, .int .i64 t325] 31 (0, 0)) KK) : gb326 ≠ gb376))
            have n24_ := Aside0.mk ((by rw [hg]; exact Nat.ne_of_gt (blk_lt (g := gb326) (o := .cells #[.slice Ao50 t350.length co50, .slice Ao55 t351.length co55, .int .i64 t325] 31 (0, 0)) KK) : gb376 ≠ gb326))
            have n25_ := Aside0.mk ((by rw [hg]; exact Nat.ne_of_lt (blk_lt (g := gb339) (o := .cells #[.slice Ao62 t331.length co62, .slice Ao64 t334.length co64, .int .i64 t337] 31 (0, 0)) KK) : gb339 ≠ gb376))
            have n26_ := Aside0.mk ((by rw [hg]; exact Nat.ne_of_gt (blk_lt (g := gb339) (o := .cells #[.slice Ao62 t331.length co62, .slice Ao64 t334.length co64, .int .i64 t337] 31 (0, 0)) KK) : gb376 ≠ gb339))
            clear HO_319000
            clear HO_319001
            clear HO_327000
            clear HO_327001
            clear HO_340000
            clear HO_340001
            clear HO359
            clear HO362
            clear BK295
            clear BK296
            clear BK318
            clear BK326
            clear BK339
            clear HB
            have HO_319000 := n0_
            have HO_319001 := n1_
            have HO_327000 := n2_
            have HO_327001 := n3_
            have HO_340000 := n4_
            have HO_340001 := n5_
            have HO359 := n6_
            have HO362 := n7_
            have BK295 := n8_
            have BK296 := n9_
            have BK318 := n10_
            have BK326 := n11_
            have BK339 := n12_
            have HB := n13_
            have BK376 := n14_
            have GW376 := n15_
            have GE376 := n16_
            have NB295_376 := n17_
            have NB376_295 := n18_
            have NB296_376 := n19_
            have NB376_296 := n20_
            have NB318_376 := n21_
            have NB376_318 := n22_
            have NB326_376 := n23_
            have NB376_326 := n24_
            have NB339_376 := n25_
            have NB376_339 := n26_
            clear n0_ n1_ n2_ n3_ n4_ n5_ n6_ n7_ n8_ n9_ n10_ n11_ n12_ n13_ n14_ n15_ n16_ n17_ n18_ n19_ n20_ n21_ n22_ n23_ n24_ n25_ n26_
            clear hb hbox hg
            refine hK.out _ _ ⟨(blk_cell BK295.out 0).trans rfl, (blk_cell BK295.out 1).trans rfl, (blk_cell BK295.out 2).trans rfl, (blk_cell BK296.out 0).trans rfl, (blk_cell BK296.out 1).trans rfl, (blk_cell BK296.out 2).trans rfl, (blk_cell BK296.out 3).trans rfl⟩ (fun hHeld => ?_)
            clear hK K
            refine norm_ (a' := ?_) ?_ ?_
            rotate_left
            ·show Act.put _ (some 14) _ = _
             simp only [Act.put, List.setIfInBounds_toArray, List.set_cons_zero, List.set_cons_succ, i64_w, i32_w]
             rfl
            refine one_ (i := 3) (N := some 88) #[true, true, true, true, false, false, false, false, true, false, false] rfl rfl (one_of HT_.out (by kernel_rfl)) (by decide) (fun K hK => ?_)
            refine goes_ Try.func13 (by kernel_rfl) rfl #[.agg #[.int .i64 a1_0, .int .i64 a1_1, .bool a1_2, .string a1_3]] (by rfl) rfl rfl KL ?_
            with_reducible refine (laws_toEntry.calls a1_0 a1_1 a1_2 a1_3 t364 t365 t366 t367 _ A135.out).mono ?_
            rintro e w149 ⟨rfl, hb⟩
            refine ⟨_, rfl, ?_⟩
            have n0_ := Aside0.mk (Kd.R_below (KR HO_319000.out) hb)
            have n1_ := Aside0.mk (Kd.R_below (KR HO_319001.out) hb)
            have n2_ := Aside0.mk (Kd.R_below (KR HO_327000.out) hb)
            have n3_ := Aside0.mk (Kd.R_below (KR HO_327001.out) hb)
            have n4_ := Aside0.mk (Kd.R_below (KR HO_340000.out) hb)
            have n5_ := Aside0.mk (Kd.R_below (KR HO_340001.out) hb)
            have n6_ := Aside0.mk (Kd.R_below (KR HO359.out) hb)
            have n7_ := Aside0.mk (Kd.R_below (KR HO362.out) hb)
            have n8_ := Aside0.mk (blk_below (g := gb295) (o := .cells #[.slice A0_0 l0_0.length c0_0, .slice A0_1 l0_1.length c0_1, .int .i64 a0_2] 24 (0, 0)) KK hb)
            have n9_ := Aside0.mk (blk_below (g := gb296) (o := .cells #[.int .i64 a1_0, .int .i64 a1_1, .bool a1_2, .string a1_3] 26 (0, 0)) KK hb)
            have n10_ := Aside0.mk (blk_below (g := gb318) (o := .cells #[.slice Ao41 t310.length co41, .slice Ao43 t313.length co43, .int .i64 t316] 31 (0, 0)) KK hb)
            have n11_ := Aside0.mk (blk_below (g := gb326) (o := .cells #[.slice Ao50 t350.length co50, .slice Ao55 t351.length co55, .int .i64 t325] 31 (0, 0)) KK hb)
            have n12_ := Aside0.mk (blk_below (g := gb339) (o := .cells #[.slice Ao62 t331.length co62, .slice Ao64 t334.length co64, .int .i64 t337] 31 (0, 0)) KK hb)
            have n13_ := Aside0.mk (blk_below (g := gb376) (o := .cells #[.slice none 0 0, .slice none 0 0, .int .i64 0] 31 (0, 0)) KK hb)
            have n14_ := Aside0.mk (below_step KB hb)
            clear HO_319000
            clear HO_319001
            clear HO_327000
            clear HO_327001
            clear HO_340000
            clear HO_340001
            clear HO359
            clear HO362
            clear BK295
            clear BK296
            clear BK318
            clear BK326
            clear BK339
            clear BK376
            clear HB
            have HO_319000 := n0_
            have HO_319001 := n1_
            have HO_327000 := n2_
            have HO_327001 := n3_
            have HO_340000 := n4_
            have HO_340001 := n5_
            have HO359 := n6_
            have HO362 := n7_
            have BK295 := n8_
            have BK296 := n9_
            have BK318 := n10_
            have BK326 := n11_
            have BK339 := n12_
            have BK376 := n13_
            have HB := n14_
            clear n0_ n1_ n2_ n3_ n4_ n5_ n6_ n7_ n8_ n9_ n10_ n11_ n12_ n13_ n14_
            (try clear hb)
            (try clear hb2)
            (try clear hk)
            (try clear hi)
            obtain ⟨Ao150, co150, eo150⟩ := Kd.R_slice HO359.out
            (first | subst eo150 | (injection eo150 with f1_ f2_ f3_; have f4_ := f1_.symm; have f5_ := f3_.symm; clear f1_ f2_ f3_; subst f4_; subst f5_))
            obtain ⟨Ao151, co151, eo151⟩ := Kd.R_slice HO362.out
            (first | subst eo151 | (injection eo151 with f1_ f2_ f3_; have f4_ := f1_.symm; have f5_ := f3_.symm; clear f1_ f2_ f3_; subst f4_; subst f5_))
            refine hK.out _ _ ⟨(blk_cell BK295.out 0).trans rfl, (blk_cell BK295.out 1).trans rfl, (blk_cell BK295.out 2).trans rfl, (blk_cell BK296.out 0).trans rfl, (blk_cell BK296.out 1).trans rfl, (blk_cell BK296.out 2).trans rfl, (blk_cell BK296.out 3).trans rfl⟩ (fun hHeld => ?_)
            clear hK K
            refine norm_ (a' := ?_) ?_ ?_
            rotate_left
            ·show Act.put _ (some 88) _ = _
             simp only [Act.put, List.setIfInBounds_toArray, List.set_cons_zero, List.set_cons_succ, i64_w, i32_w]
             rfl
            refine one_ (i := 4) (N := some 89) #[true, true, true, true, true, false, false, false, true, false, false] rfl rfl (one_of HT_.out (by kernel_rfl)) (by decide) (fun K hK => ?_)
            refine goes_ Try.func14 (by kernel_rfl) rfl #[.agg #[.slice Ao150 t357.length co150, .slice Ao151 t360.length co151, .int .i64 t363], .agg #[.int .i64 t364, .int .i64 t365, .bool t366, .string t367]] (by rfl) rfl rfl KL ?_
            with_reducible refine (impl_StorePut.calls kj93 _ _ t357 _ _ t360 t363 t364 t365 t366 t367 t368 t371 t374 t375 _ ?side1 ?side2 ?side3 ?side4 A136.out).mono ?_
            (case side1 => repeat (first | exact (Kd.R_reads' HO359.out).2.2 | (with_reducible refine Kd.C_alloc ?_ _) | (with_reducible refine Kd.C_drewN ?_ _) | (with_reducible refine Kd.C_drew ?_)))
            (case side2 => exact (Kd.R_reads' HO359.out).2.1)
            (case side3 => repeat (first | exact (Kd.R_reads' HO362.out).2.2 | (with_reducible refine Kd.C_alloc ?_ _) | (with_reducible refine Kd.C_drewN ?_ _) | (with_reducible refine Kd.C_drew ?_)))
            (case side4 => exact (Kd.R_reads' HO362.out).2.1)
            rintro e w152 ⟨v369, v372, rfl, ho0, ho1, hb⟩
            refine ⟨_, rfl, ?_⟩
            have n0_ := Aside0.mk (Kd.R_mono (Kd.R_told (Kd.R_told (Kd.R_old (KR HO_319000.out) hb) (Kd.R_base ho0)) (Kd.R_base ho1)) (fun _ h_ => h_.1))
            have n1_ := Aside0.mk (Kd.R_mono (Kd.R_told (Kd.R_told (Kd.R_old (KR HO_319001.out) hb) (Kd.R_base ho0)) (Kd.R_base ho1)) (fun _ h_ => h_.1))
            have n2_ := Aside0.mk (Kd.R_mono (Kd.R_told (Kd.R_told (Kd.R_old (KR HO_327000.out) hb) (Kd.R_base ho0)) (Kd.R_base ho1)) (fun _ h_ => h_.1))
            have n3_ := Aside0.mk (Kd.R_mono (Kd.R_told (Kd.R_told (Kd.R_old (KR HO_327001.out) hb) (Kd.R_base ho0)) (Kd.R_base ho1)) (fun _ h_ => h_.1))
            have n4_ := Aside0.mk (Kd.R_mono (Kd.R_told (Kd.R_told (Kd.R_old (KR HO_340000.out) hb) (Kd.R_base ho0)) (Kd.R_base ho1)) (fun _ h_ => h_.1))
            have n5_ := Aside0.mk (Kd.R_mono (Kd.R_told (Kd.R_told (Kd.R_old (KR HO_340001.out) hb) (Kd.R_base ho0)) (Kd.R_base ho1)) (fun _ h_ => h_.1))
            have n6_ := Aside0.mk (Kd.R_mono (Kd.R_told (Kd.R_told (Kd.R_old (KR HO359.out) hb) (Kd.R_base ho0)) (Kd.R_base ho1)) (fun _ h_ => h_.1))
            have n7_ := Aside0.mk (Kd.R_mono (Kd.R_told (Kd.R_told (Kd.R_old (KR HO362.out) hb) (Kd.R_base ho0)) (Kd.R_base ho1)) (fun _ h_ => h_.1))
            have n8_ := Aside0.mk (Kd.R_lower (Kd.R_new' (Kd.R_new' (Kd.R_new' (Kd.R_new' (Kd.R_new' (Kd.R_new' (Kd.R_new' (Kd.R_new' ho0 (Kd.R_lt (KR HO_319000.out))) (Kd.R_lt (KR HO_319001.out))) (Kd.R_lt (KR HO_327000.out))) (Kd.R_lt (KR HO_327001.out))) (Kd.R_lt (KR HO_340000.out))) (Kd.R_lt (KR HO_340001.out))) (Kd.R_lt (KR HO359.out))) (Kd.R_lt (KR HO362.out))) (below_size KB))
            have n9_ := Aside0.mk (Kd.R_lower (Kd.R_new' (Kd.R_new' (Kd.R_new' (Kd.R_new' (Kd.R_new' (Kd.R_new' (Kd.R_new' (Kd.R_new' ho1 (Kd.R_lt (KR HO_319000.out))) (Kd.R_lt (KR HO_319001.out))) (Kd.R_lt (KR HO_327000.out))) (Kd.R_lt (KR HO_327001.out))) (Kd.R_lt (KR HO_340000.out))) (Kd.R_lt (KR HO_340001.out))) (Kd.R_lt (KR HO359.out))) (Kd.R_lt (KR HO362.out))) (below_size KB))
            have n10_ := Aside0.mk (blk_below (g := gb295) (o := .cells #[.slice A0_0 l0_0.length c0_0, .slice A0_1 l0_1.length c0_1, .int .i64 a0_2] 24 (0, 0)) KK hb)
            have n11_ := Aside0.mk (blk_below (g := gb296) (o := .cells #[.int .i64 a1_0, .int .i64 a1_1, .bool a1_2, .string a1_3] 26 (0, 0)) KK hb)
            have n12_ := Aside0.mk (blk_below (g := gb318) (o := .cells #[.slice Ao41 t310.length co41, .slice Ao43 t313.length co43, .int .i64 t316] 31 (0, 0)) KK hb)
            have n13_ := Aside0.mk (blk_below (g := gb326) (o := .cells #[.slice Ao50 t350.length co50, .slice Ao55 t351.length co55, .int .i64 t325] 31 (0, 0)) KK hb)
            have n14_ := Aside0.mk (blk_below (g := gb339) (o := .cells #[.slice Ao62 t331.length co62, .slice Ao64 t334.length co64, .int .i64 t337] 31 (0, 0)) KK hb)
            have n15_ := Aside0.mk (blk_below (g := gb376) (o := .cells #[.slice none 0 0, .slice none 0 0, .int .i64 0] 31 (0, 0)) KK hb)
            have n16_ := Aside0.mk (below_step KB hb)
            clear HO_319000
            clear HO_319001
            clear HO_327000
            clear HO_327001
            clear HO_340000
            clear HO_340001
            clear HO359
            clear HO362
            clear BK295
            clear BK296
            clear BK318
            clear BK326
            clear BK339
            clear BK376
            clear HB
            have HO_319000 := n0_
            have HO_319001 := n1_
            have HO_327000 := n2_
            have HO_327001 := n3_
            have HO_340000 := n4_
            have HO_340001 := n5_
            have HO359 := n6_
            have HO362 := n7_
            have HO370 := n8_
            have HO373 := n9_
            have BK295 := n10_
            have BK296 := n11_
            have BK318 := n12_
            have BK326 := n13_
            have BK339 := n14_
            have BK376 := n15_
            have HB := n16_
            clear n0_ n1_ n2_ n3_ n4_ n5_ n6_ n7_ n8_ n9_ n10_ n11_ n12_ n13_ n14_ n15_ n16_
            (try clear hb)
            (try clear hb2)
            (try clear hk)
            (try clear hi)
            (try clear ho0)
            (try clear ho1)
            refine hK.out _ _ ⟨(blk_cell BK295.out 0).trans rfl, (blk_cell BK295.out 1).trans rfl, (blk_cell BK295.out 2).trans rfl, (blk_cell BK296.out 0).trans rfl, (blk_cell BK296.out 1).trans rfl, (blk_cell BK296.out 2).trans rfl, (blk_cell BK296.out 3).trans rfl⟩ (fun hHeld => ?_)
            clear hK K
            refine norm_ (a' := ?_) ?_ ?_
            rotate_left
            ·show Act.put _ (some 89) _ = _
             simp only [Act.put, List.setIfInBounds_toArray, List.set_cons_zero, List.set_cons_succ, i64_w, i32_w]
             rfl
            refine pure_ (i := 5) (N := some 84) (v := ?_) (a' := ?_) #[true, true, true, true, true, true, false, false, true, false, false] rfl rfl (any_of HT_.out (by kernel_rfl)) (fun _ _ _ h => h) (Or.inl ⟨by rfl, ?_⟩) ?_ ?_
            rotate_left
            ·intro w'
             go_simp
             with_reducible rfl
            rotate_left
            ·simp only [Act.put, List.setIfInBounds_toArray, List.set_cons_zero, List.set_cons_succ, i64_w, i32_w]
             rfl
            refine pure_ (i := 6) (N := some 90) (v := ?_) (a' := ?_) #[true, true, true, true, true, true, true, false, true, false, false] rfl rfl (any_of HT_.out (by kernel_rfl)) (fun _ _ _ h => h) (Or.inl ⟨by rfl, ?_⟩) ?_ ?_
            rotate_left
            ·intro w'
             go_simp
             with_reducible rfl
            rotate_left
            ·simp only [Act.put, List.setIfInBounds_toArray, List.set_cons_zero, List.set_cons_succ, i64_w, i32_w]
             rfl
            refine pure_ (i := 7) (N := some 91) (v := ?_) (a' := ?_) #[true, true, true, true, true, true, true, true, true, false, false] rfl rfl (any_of HT_.out (by kernel_rfl)) (fun _ _ _ h => h) (Or.inl ⟨by rfl, ?_⟩) ?_ ?_
            rotate_left
            ·intro w'
             go_simp
             with_reducible rfl
            rotate_left
            ·simp only [Act.put, List.setIfInBounds_toArray, List.set_cons_zero, List.set_cons_succ, i64_w, i32_w]
             rfl
            exact norm_ (by simp only [putAll, Act.put, List.setIfInBounds_toArray, List.set_cons_zero, List.set_cons_succ]) (hCont (.slice Ao150 t357.length co150, .slice Ao151 t360.length co151, v369, v372, gb376) _ ⟨hHeld, (by (with_reducible repeat (first | apply Kd.R_alloc | apply Kd.R_drewN | apply Kd.R_drew)); exact Kd.R_mono HO359.out (fun _ hk => ⟨hk.1.1.1.1.1.1.1.1, ⟨hk.1.2, ⟨hk.2, ⟨hk.1.1.1.1.1.1.1.2, ⟨hk.1.1.1.1.1.1.2, ⟨hk.1.1.1.1.1.2, ⟨hk.1.1.1.1.2, ⟨hk.1.1.1.2, hk.1.1.2⟩⟩⟩⟩⟩⟩⟩⟩)), (by (with_reducible repeat (first | apply Kd.R_alloc | apply Kd.R_drewN | apply Kd.R_drew)); exact Kd.R_mono HO362.out (fun _ hk => ⟨hk.1.1.1.1.1.1.1.1, ⟨hk.1.2, ⟨hk.2, ⟨hk.1.1.1.1.1.1.1.2, ⟨hk.1.1.1.1.1.1.2, ⟨hk.1.1.1.1.1.2, ⟨hk.1.1.1.1.2, ⟨hk.1.1.1.2, hk.1.1.2⟩⟩⟩⟩⟩⟩⟩⟩)), (by (with_reducible repeat (first | apply Kd.R_alloc | apply Kd.R_drewN | apply Kd.R_drew)); exact Kd.R_mono HO370.out (fun _ hk => ⟨hk.1.2, ⟨hk.2, ⟨hk.1.1.1.1.1.1.1.1, ⟨hk.1.1.1.1.1.1.1.2, ⟨hk.1.1.1.1.1.1.2, ⟨hk.1.1.1.1.1.2, ⟨hk.1.1.1.1.2, ⟨hk.1.1.1.2, hk.1.1.2⟩⟩⟩⟩⟩⟩⟩⟩)), (by (with_reducible repeat (first | apply Kd.R_alloc | apply Kd.R_drewN | apply Kd.R_drew)); exact Kd.R_mono HO373.out (fun _ hk => ⟨hk.1.2, ⟨hk.2, ⟨hk.1.1.1.1.1.1.1.1, ⟨hk.1.1.1.1.1.1.1.2, ⟨hk.1.1.1.1.1.1.2, ⟨hk.1.1.1.1.1.2, ⟨hk.1.1.1.1.2, ⟨hk.1.1.1.2, hk.1.1.2⟩⟩⟩⟩⟩⟩⟩⟩)), (by (with_reducible repeat (first | apply Kd.R_alloc | apply Kd.R_drewN | apply Kd.R_drew)); exact Kd.R_mono HO_319000.out (fun _ hk => ⟨hk.1.1.1.2, ⟨hk.1.1.2, ⟨hk.1.2, ⟨hk.2, ⟨hk.1.1.1.1.1, ⟨hk.1.1.1.1.2.1, ⟨hk.1.1.1.1.2.2.1, ⟨hk.1.1.1.1.2.2.2.1, hk.1.1.1.1.2.2.2.2⟩⟩⟩⟩⟩⟩⟩⟩)), (by (with_reducible repeat (first | apply Kd.R_alloc | apply Kd.R_drewN | apply Kd.R_drew)); exact Kd.R_mono HO_319001.out (fun _ hk => ⟨hk.1.1.1.2, ⟨hk.1.1.2, ⟨hk.1.2, ⟨hk.2, ⟨hk.1.1.1.1.1, ⟨hk.1.1.1.1.2.1, ⟨hk.1.1.1.1.2.2.1, ⟨hk.1.1.1.1.2.2.2.1, hk.1.1.1.1.2.2.2.2⟩⟩⟩⟩⟩⟩⟩⟩)), (by (with_reducible repeat (first | apply Kd.R_alloc | apply Kd.R_drewN | apply Kd.R_drew)); exact Kd.R_mono HO_327000.out (fun _ hk => ⟨hk.1.1.1.2, ⟨hk.1.1.2, ⟨hk.1.2, ⟨hk.2, ⟨hk.1.1.1.1.1, ⟨hk.1.1.1.1.2.1, ⟨hk.1.1.1.1.2.2.1, ⟨hk.1.1.1.1.2.2.2.1, hk.1.1.1.1.2.2.2.2⟩⟩⟩⟩⟩⟩⟩⟩)), (by (with_reducible repeat (first | apply Kd.R_alloc | apply Kd.R_drewN | apply Kd.R_drew)); exact Kd.R_mono HO_327001.out (fun _ hk => ⟨hk.1.1.1.2, ⟨hk.1.1.2, ⟨hk.1.2, ⟨hk.2, ⟨hk.1.1.1.1.1, ⟨hk.1.1.1.1.2.1, ⟨hk.1.1.1.1.2.2.1, ⟨hk.1.1.1.1.2.2.2.1, hk.1.1.1.1.2.2.2.2⟩⟩⟩⟩⟩⟩⟩⟩)), (by (with_reducible repeat (first | apply Kd.R_alloc | apply Kd.R_drewN | apply Kd.R_drew)); exact Kd.R_mono HO_340000.out (fun _ hk => ⟨hk.1.1.1.2, ⟨hk.1.1.2, ⟨hk.1.2, ⟨hk.2, ⟨hk.1.1.1.1.1, ⟨hk.1.1.1.1.2.1, ⟨hk.1.1.1.1.2.2.1, ⟨hk.1.1.1.1.2.2.2.1, hk.1.1.1.1.2.2.2.2⟩⟩⟩⟩⟩⟩⟩⟩)), (by (with_reducible repeat (first | apply Kd.R_alloc | apply Kd.R_drewN | apply Kd.R_drew)); exact Kd.R_mono HO_340001.out (fun _ hk => ⟨hk.1.1.1.2, ⟨hk.1.1.2, ⟨hk.1.2, ⟨hk.2, ⟨hk.1.1.1.1.1, ⟨hk.1.1.1.1.2.1, ⟨hk.1.1.1.1.2.2.1, ⟨hk.1.1.1.1.2.2.2.1, hk.1.1.1.1.2.2.2.2⟩⟩⟩⟩⟩⟩⟩⟩)), KK, KK, KK, KK, KK, KK, GW376.out, GE376.out, NB295_376.out, NB376_295.out, NB296_376.out, NB376_296.out, NB318_376.out, NB376_318.out, NB326_376.out, NB376_326.out, NB339_376.out, NB376_339.out, KB⟩)
          ·skip
           refine box_step ?hg (N := 14) ?hd (cs := #[.slice none 0 0, .slice none 0 0, .int .i64 0]) (t := 31) ?hr ?_; (case hd => rfl); (case hg => rfl); (case hr => first | (go_simp; done) | (go_simp; rfl))
           intro gb376 hg w147 hbox hb
           have n0_ := Aside0.mk (Kd.R_below (KR HO_319000.out) hb)
           have n1_ := Aside0.mk (Kd.R_below (KR HO_319001.out) hb)
           have n2_ := Aside0.mk (Kd.R_below (KR HO_327000.out) hb)
           have n3_ := Aside0.mk (Kd.R_below (KR HO_327001.out) hb)
           have n4_ := Aside0.mk (Kd.R_below (KR HO_340000.out) hb)
           have n5_ := Aside0.mk (Kd.R_below (KR HO_340001.out) hb)
           have n6_ := Aside0.mk (blk_below (g := gb295) (o := .cells #[.slice A0_0 l0_0.length c0_0, .slice A0_1 l0_1.length c0_1, .int .i64 a0_2] 24 (0, 0)) KK hb)
           have n7_ := Aside0.mk (blk_below (g := gb296) (o := .cells #[.int .i64 a1_0, .int .i64 a1_1, .bool a1_2, .string a1_3] 26 (0, 0)) KK hb)
           have n8_ := Aside0.mk (blk_below (g := gb318) (o := .cells #[.slice Ao41 t310.length co41, .slice Ao43 t313.length co43, .int .i64 t316] 31 (0, 0)) KK hb)
           have n9_ := Aside0.mk (blk_below (g := gb326) (o := .cells #[.slice Ao50 t350.length co50, .slice Ao55 t351.length co55, .int .i64 t325] 31 (0, 0)) KK hb)
           have n10_ := Aside0.mk (blk_below (g := gb339) (o := .cells #[.slice Ao62 t331.length co62, .slice Ao64 t334.length co64, .int .i64 t337] 31 (0, 0)) KK hb)
           have n11_ := Aside0.mk (below_step KB hb)
           have n12_ := Aside0.mk (hbox)
           have n13_ := Aside0.mk ((KG hg : w.heap.size ≤ gb376))
           have n14_ := Aside0.mk ((KG hg : w.heap.size ≤ gb376))
           have n15_ := Aside0.mk ((by rw [hg]; exact Nat.ne_of_lt (blk_lt (g := gb295) (o := .cells #[.slice A0_0 l0_0.length c0_0, .slice A0_1 l0_1.length c0_1, .int .i64 a0_2] 24 (0, 0)) KK) : gb295 ≠ gb376))
           have n16_ := Aside0.mk ((by rw [hg]; exact Nat.ne_of_gt (blk_lt (g := gb295) (o := .cells #[.slice A0_0 l0_0.length c0_0, .slice A0_1 l0_1.length c0_1, .int .i64 a0_2] 24 (0, 0)) KK) : gb376 ≠ gb295))
           have n17_ := Aside0.mk ((by rw [hg]; exact Nat.ne_of_lt (blk_lt (g := gb296) (o := .cells #[.int .i64 a1_0, .int .i64 a1_1, .bool a1_2, .string a1_3] 26 (0, 0)) KK) : gb296 ≠ gb376))
           have n18_ := Aside0.mk ((by rw [hg]; exact Nat.ne_of_gt (blk_lt (g := gb296) (o := .cells #[.int .i64 a1_0, .int .i64 a1_1, .bool a1_2, .string a1_3] 26 (0, 0)) KK) : gb376 ≠ gb296))
           have n19_ := Aside0.mk ((by rw [hg]; exact Nat.ne_of_lt (blk_lt (g := gb318) (o := .cells #[.slice Ao41 t310.length co41, .slice Ao43 t313.length co43, .int .i64 t316] 31 (0, 0)) KK) : gb318 ≠ gb376))
           have n20_ := Aside0.mk ((by rw [hg]; exact Nat.ne_of_gt (blk_lt (g := gb318) (o := .cells #[.slice Ao41 t310.length co41, .slice Ao43 t313.length co43, .int .i64 t316] 31 (0, 0)) KK) : gb376 ≠ gb318))
           have n21_ := Aside0.mk ((by rw [hg]; exact Nat.ne_of_lt (blk_lt (g := gb326) (o := .cells #[.slice Ao50 t350.length co50, .slice Ao55 t351.length co55, .int .i64 t325] 31 (0, 0)) KK) : gb326 ≠ gb376))
           have n22_ := Aside0.mk ((by rw [hg]; exact Nat.ne_of_gt (blk_lt (g := gb326) (o := .cells #[.slice Ao50 t350.length co50, .slice Ao55 t351.length co55, .int .i64 t325] 31 (0, 0)) KK) : gb376 ≠ gb326))
           have n23_ := Aside0.mk ((by rw [hg]; exact Nat.ne_of_lt (blk_lt (g := gb339) (o := .cells #[.slice Ao62 t331.length co62, .slice Ao64 t334.length co64, .int .i64 t337] 31 (0, 0)) KK) : gb339 ≠ gb376))
           have n24_ := Aside0.mk ((by rw [hg]; exact Nat.ne_of_gt (blk_lt (g := gb339) (o := .cells #[.slice Ao62 t331.length co62, .slice Ao64 t334.length co64, .int .i64 t337] 31 (0, 0)) KK) : gb376 ≠ gb339))
           clear HO_319000
           clear HO_319001
           clear HO_327000
           clear HO_327001
           clear HO_340000
           clear HO_340001
           clear BK295
           clear BK296
           clear BK318
           clear BK326
           clear BK339
           clear HB
           have HO_319000 := n0_
           have HO_319001 := n1_
           have HO_327000 := n2_
           have HO_327001 := n3_
           have HO_340000 := n4_
           have HO_340001 := n5_
           have BK295 := n6_
           have BK296 := n7_
           have BK318 := n8_
           have BK326 := n9_
           have BK339 := n10_
           have HB := n11_
           have BK376 := n12_
           have GW376 := n13_
           have GE376 := n14_
           have NB295_376 := n15_
           have NB376_295 := n16_
           have NB296_376 := n17_
           have NB376_296 := n18_
           have NB318_376 := n19_
           have NB376_318 := n20_
           have NB326_376 := n21_
           have NB376_326 := n22_
           have NB339_376 := n23_
           have NB376_339 := n24_
           clear n0_ n1_ n2_ n3_ n4_ n5_ n6_ n7_ n8_ n9_ n10_ n11_ n12_ n13_ n14_ n15_ n16_ n17_ n18_ n19_ n20_ n21_ n22_ n23_ n24_
           clear hb hbox hg
           refine hK.out _ _ ⟨(blk_cell BK295.out 0).trans rfl, (blk_cell BK295.out 1).trans rfl, (blk_cell BK295.out 2).trans rfl, (blk_cell BK296.out 0).trans rfl, (blk_cell BK296.out 1).trans rfl, (blk_cell BK296.out 2).trans rfl, (blk_cell BK296.out 3).trans rfl⟩ (fun hHeld => ?_)
           clear hK K
           refine norm_ (a' := ?_) ?_ ?_
           rotate_left
           ·show Act.put _ (some 14) _ = _
            simp only [Act.put, List.setIfInBounds_toArray, List.set_cons_zero, List.set_cons_succ, i64_w, i32_w]
            rfl
           refine one_ (i := 1) (N := some 86) #[true, true, true, false, false, false, false, false, true, false, false] rfl rfl (one_of HT_.out (by kernel_rfl)) (by decide) (fun K hK => ?_)
           refine goes_ Try.func12 (by kernel_rfl) rfl #[.agg #[.slice A0_0 l0_0.length c0_0, .slice A0_1 l0_1.length c0_1, .int .i64 a0_2]] (by rfl) rfl rfl KL ?_
           with_reducible refine (laws_toStore.calls kj93 _ _ l0_0 _ _ l0_1 a0_2 t357 t360 t363 _ ?side1 ?side2 ?side3 ?side4 A134.out).mono ?_
           (case side1 => exact KD (Kd.C_below HR0_0.out HB.out))
           (case side2 => exact HC0_0.out)
           (case side3 => exact KD (Kd.C_below HR0_1.out HB.out))
           (case side4 => exact HC0_1.out)
           rintro e w148 ⟨v358, v361, rfl, ho0, ho1, hb⟩
           refine ⟨_, rfl, ?_⟩
           have n0_ := Aside0.mk (Kd.R_mono (Kd.R_told (Kd.R_told (Kd.R_old (KR HO_319000.out) hb) (Kd.R_base ho0)) (Kd.R_base ho1)) (fun _ h_ => h_.1))
           have n1_ := Aside0.mk (Kd.R_mono (Kd.R_told (Kd.R_told (Kd.R_old (KR HO_319001.out) hb) (Kd.R_base ho0)) (Kd.R_base ho1)) (fun _ h_ => h_.1))
           have n2_ := Aside0.mk (Kd.R_mono (Kd.R_told (Kd.R_told (Kd.R_old (KR HO_327000.out) hb) (Kd.R_base ho0)) (Kd.R_base ho1)) (fun _ h_ => h_.1))
           have n3_ := Aside0.mk (Kd.R_mono (Kd.R_told (Kd.R_told (Kd.R_old (KR HO_327001.out) hb) (Kd.R_base ho0)) (Kd.R_base ho1)) (fun _ h_ => h_.1))
           have n4_ := Aside0.mk (Kd.R_mono (Kd.R_told (Kd.R_told (Kd.R_old (KR HO_340000.out) hb) (Kd.R_base ho0)) (Kd.R_base ho1)) (fun _ h_ => h_.1))
           have n5_ := Aside0.mk (Kd.R_mono (Kd.R_told (Kd.R_told (Kd.R_old (KR HO_340001.out) hb) (Kd.R_base ho0)) (Kd.R_base ho1)) (fun _ h_ => h_.1))
           have n6_ := Aside0.mk (Kd.R_lower (Kd.R_new' (Kd.R_new' (Kd.R_new' (Kd.R_new' (Kd.R_new' (Kd.R_new' ho0 (Kd.R_lt (KR HO_319000.out))) (Kd.R_lt (KR HO_319001.out))) (Kd.R_lt (KR HO_327000.out))) (Kd.R_lt (KR HO_327001.out))) (Kd.R_lt (KR HO_340000.out))) (Kd.R_lt (KR HO_340001.out))) (below_size KB))
           have n7_ := Aside0.mk (Kd.R_lower (Kd.R_new' (Kd.R_new' (Kd.R_new' (Kd.R_new' (Kd.R_new' (Kd.R_new' ho1 (Kd.R_lt (KR HO_319000.out))) (Kd.R_lt (KR HO_319001.out))) (Kd.R_lt (KR HO_327000.out))) (Kd.R_lt (KR HO_327001.out))) (Kd.R_lt (KR HO_340000.out))) (Kd.R_lt (KR HO_340001.out))) (below_size KB))
           have n8_ := Aside0.mk (blk_below (g := gb295) (o := .cells #[.slice A0_0 l0_0.length c0_0, .slice A0_1 l0_1.length c0_1, .int .i64 a0_2] 24 (0, 0)) KK hb)
           have n9_ := Aside0.mk (blk_below (g := gb296) (o := .cells #[.int .i64 a1_0, .int .i64 a1_1, .bool a1_2, .string a1_3] 26 (0, 0)) KK hb)
           have n10_ := Aside0.mk (blk_below (g := gb318) (o := .cells #[.slice Ao41 t310.length co41, .slice Ao43 t313.length co43, .int .i64 t316] 31 (0, 0)) KK hb)
           have n11_ := Aside0.mk (blk_below (g := gb326) (o := .cells #[.slice Ao50 t350.length co50, .slice Ao55 t351.length co55, .int .i64 t325] 31 (0, 0)) KK hb)
           have n12_ := Aside0.mk (blk_below (g := gb339) (o := .cells #[.slice Ao62 t331.length co62, .slice Ao64 t334.length co64, .int .i64 t337] 31 (0, 0)) KK hb)
           have n13_ := Aside0.mk (blk_below (g := gb376) (o := .cells #[.slice none 0 0, .slice none 0 0, .int .i64 0] 31 (0, 0)) KK hb)
           have n14_ := Aside0.mk (below_step KB hb)
           clear HO_319000
           clear HO_319001
           clear HO_327000
           clear HO_327001
           clear HO_340000
           clear HO_340001
           clear BK295
           clear BK296
           clear BK318
           clear BK326
           clear BK339
           clear BK376
           clear HB
           have HO_319000 := n0_
           have HO_319001 := n1_
           have HO_327000 := n2_
           have HO_327001 := n3_
           have HO_340000 := n4_
           have HO_340001 := n5_
           have HO359 := n6_
           have HO362 := n7_
           have BK295 := n8_
           have BK296 := n9_
           have BK318 := n10_
           have BK326 := n11_
           have BK339 := n12_
           have BK376 := n13_
           have HB := n14_
           clear n0_ n1_ n2_ n3_ n4_ n5_ n6_ n7_ n8_ n9_ n10_ n11_ n12_ n13_ n14_
           (try clear hb)
           (try clear hb2)
           (try clear hk)
           (try clear hi)
           (try clear ho0)
           (try clear ho1)
           refine hK.out _ _ ⟨(blk_cell BK295.out 0).trans rfl, (blk_cell BK295.out 1).trans rfl, (blk_cell BK295.out 2).trans rfl, (blk_cell BK296.out 0).trans rfl, (blk_cell BK296.out 1).trans rfl, (blk_cell BK296.out 2).trans rfl, (blk_cell BK296.out 3).trans rfl⟩ (fun hHeld => ?_)
           clear hK K
           refine norm_ (a' := ?_) ?_ ?_
           rotate_left
           ·show Act.put _ (some 86) _ = _
            simp only [Act.put, List.setIfInBounds_toArray, List.set_cons_zero, List.set_cons_succ, i64_w, i32_w]
            rfl
           refine one_ (i := 3) (N := some 88) #[true, true, true, true, false, false, false, false, true, false, false] rfl rfl (one_of HT_.out (by kernel_rfl)) (by decide) (fun K hK => ?_)
           refine goes_ Try.func13 (by kernel_rfl) rfl #[.agg #[.int .i64 a1_0, .int .i64 a1_1, .bool a1_2, .string a1_3]] (by rfl) rfl rfl KL ?_
           with_reducible refine (laws_toEntry.calls a1_0 a1_1 a1_2 a1_3 t364 t365 t366 t367 _ A135.out).mono ?_
           rintro e w149 ⟨rfl, hb⟩
           refine ⟨_, rfl, ?_⟩
           have n0_ := Aside0.mk (Kd.R_below (KR HO_319000.out) hb)
           have n1_ := Aside0.mk (Kd.R_below (KR HO_319001.out) hb)
           have n2_ := Aside0.mk (Kd.R_below (KR HO_327000.out) hb)
           have n3_ := Aside0.mk (Kd.R_below (KR HO_327001.out) hb)
           have n4_ := Aside0.mk (Kd.R_below (KR HO_340000.out) hb)
           have n5_ := Aside0.mk (Kd.R_below (KR HO_340001.out) hb)
           have n6_ := Aside0.mk (Kd.R_below (KR HO359.out) hb)
           have n7_ := Aside0.mk (Kd.R_below (KR HO362.out) hb)
           have n8_ := Aside0.mk (blk_below (g := gb295) (o := .cells #[.slice A0_0 l0_0.length c0_0, .slice A0_1 l0_1.length c0_1, .int .i64 a0_2] 24 (0, 0)) KK hb)
           have n9_ := Aside0.mk (blk_below (g := gb296) (o := .cells #[.int .i64 a1_0, .int .i64 a1_1, .bool a1_2, .string a1_3] 26 (0, 0)) KK hb)
           have n10_ := Aside0.mk (blk_below (g := gb318) (o := .cells #[.slice Ao41 t310.length co41, .slice Ao43 t313.length co43, .int .i64 t316] 31 (0, 0)) KK hb)
           have n11_ := Aside0.mk (blk_below (g := gb326) (o := .cells #[.slice Ao50 t350.length co50, .slice Ao55 t351.length co55, .int .i64 t325] 31 (0, 0)) KK hb)
           have n12_ := Aside0.mk (blk_below (g := gb339) (o := .cells #[.slice Ao62 t331.length co62, .slice Ao64 t334.length co64, .int .i64 t337] 31 (0, 0)) KK hb)
           have n13_ := Aside0.mk (blk_below (g := gb376) (o := .cells #[.slice none 0 0, .slice none 0 0, .int .i64 0] 31 (0, 0)) KK hb)
           have n14_ := Aside0.mk (below_step KB hb)
           clear HO_319000
           clear HO_319001
           clear HO_327000
           clear HO_327001
           clear HO_340000
           clear HO_340001
           clear HO359
           clear HO362
           clear BK295
           clear BK296
           clear BK318
           clear BK326
           clear BK339
           clear BK376
           clear HB
           have HO_319000 := n0_
           have HO_319001 := n1_
           have HO_327000 := n2_
           have HO_327001 := n3_
           have HO_340000 := n4_
           have HO_340001 := n5_
           have HO359 := n6_
           have HO362 := n7_
           have BK295 := n8_
           have BK296 := n9_
           have BK318 := n10_
           have BK326 := n11_
           have BK339 := n12_
           have BK376 := n13_
           have HB := n14_
           clear n0_ n1_ n2_ n3_ n4_ n5_ n6_ n7_ n8_ n9_ n10_ n11_ n12_ n13_ n14_
           (try clear hb)
           (try clear hb2)
           (try clear hk)
           (try clear hi)
           obtain ⟨Ao150, co150, eo150⟩ := Kd.R_slice HO359.out
           (first | subst eo150 | (injection eo150 with f1_ f2_ f3_; have f4_ := f1_.symm; have f5_ := f3_.symm; clear f1_ f2_ f3_; subst f4_; subst f5_))
           obtain ⟨Ao151, co151, eo151⟩ := Kd.R_slice HO362.out
           (first | subst eo151 | (injection eo151 with f1_ f2_ f3_; have f4_ := f1_.symm; have f5_ := f3_.symm; clear f1_ f2_ f3_; subst f4_; subst f5_))
           refine hK.out _ _ ⟨(blk_cell BK295.out 0).trans rfl, (blk_cell BK295.out 1).trans rfl, (blk_cell BK295.out 2).trans rfl, (blk_cell BK296.out 0).trans rfl, (blk_cell BK296.out 1).trans rfl, (blk_cell BK296.out 2).trans rfl, (blk_cell BK296.out 3).trans rfl⟩ (fun hHeld => ?_)
           clear hK K
           refine norm_ (a' := ?_) ?_ ?_
           rotate_left
           ·show Act.put _ (some 88) _ = _
            simp only [Act.put, List.setIfInBounds_toArray, List.set_cons_zero, List.set_cons_succ, i64_w, i32_w]
            rfl
           refine one_ (i := 4) (N := some 89) #[true, true, true, true, true, false, false, false, true, false, false] rfl rfl (one_of HT_.out (by kernel_rfl)) (by decide) (fun K hK => ?_)
           refine goes_ Try.func14 (by kernel_rfl) rfl #[.agg #[.slice Ao150 t357.length co150, .slice Ao151 t360.length co151, .int .i64 t363], .agg #[.int .i64 t364, .int .i64 t365, .bool t366, .string t367]] (by rfl) rfl rfl KL ?_
           with_reducible refine (impl_StorePut.calls kj93 _ _ t357 _ _ t360 t363 t364 t365 t366 t367 t368 t371 t374 t375 _ ?side1 ?side2 ?side3 ?side4 A136.out).mono ?_
           (case side1 => repeat (first | exact (Kd.R_reads' HO359.out).2.2 | (with_reducible refine Kd.C_alloc ?_ _) | (with_reducible refine Kd.C_drewN ?_ _) | (with_reducible refine Kd.C_drew ?_)))
           (case side2 => exact (Kd.R_reads' HO359.out).2.1)
           (case side3 => repeat (first | exact (Kd.R_reads' HO362.out).2.2 | (with_reducible refine Kd.C_alloc ?_ _) | (with_reducible refine Kd.C_drewN ?_ _) | (with_reducible refine Kd.C_drew ?_)))
           (case side4 => exact (Kd.R_reads' HO362.out).2.1)
           rintro e w152 ⟨v369, v372, rfl, ho0, ho1, hb⟩
           refine ⟨_, rfl, ?_⟩
           have n0_ := Aside0.mk (Kd.R_mono (Kd.R_told (Kd.R_told (Kd.R_old (KR HO_319000.out) hb) (Kd.R_base ho0)) (Kd.R_base ho1)) (fun _ h_ => h_.1))
           have n1_ := Aside0.mk (Kd.R_mono (Kd.R_told (Kd.R_told (Kd.R_old (KR HO_319001.out) hb) (Kd.R_base ho0)) (Kd.R_base ho1)) (fun _ h_ => h_.1))
           have n2_ := Aside0.mk (Kd.R_mono (Kd.R_told (Kd.R_told (Kd.R_old (KR HO_327000.out) hb) (Kd.R_base ho0)) (Kd.R_base ho1)) (fun _ h_ => h_.1))
           have n3_ := Aside0.mk (Kd.R_mono (Kd.R_told (Kd.R_told (Kd.R_old (KR HO_327001.out) hb) (Kd.R_base ho0)) (Kd.R_base ho1)) (fun _ h_ => h_.1))
           have n4_ := Aside0.mk (Kd.R_mono (Kd.R_told (Kd.R_told (Kd.R_old (KR HO_340000.out) hb) (Kd.R_base ho0)) (Kd.R_base ho1)) (fun _ h_ => h_.1))
           have n5_ := Aside0.mk (Kd.R_mono (Kd.R_told (Kd.R_told (Kd.R_old (KR HO_340001.out) hb) (Kd.R_base ho0)) (Kd.R_base ho1)) (fun _ h_ => h_.1))
           have n6_ := Aside0.mk (Kd.R_mono (Kd.R_told (Kd.R_told (Kd.R_old (KR HO359.out) hb) (Kd.R_base ho0)) (Kd.R_base ho1)) (fun _ h_ => h_.1))
           have n7_ := Aside0.mk (Kd.R_mono (Kd.R_told (Kd.R_told (Kd.R_old (KR HO362.out) hb) (Kd.R_base ho0)) (Kd.R_base ho1)) (fun _ h_ => h_.1))
           have n8_ := Aside0.mk (Kd.R_lower (Kd.R_new' (Kd.R_new' (Kd.R_new' (Kd.R_new' (Kd.R_new' (Kd.R_new' (Kd.R_new' (Kd.R_new' ho0 (Kd.R_lt (KR HO_319000.out))) (Kd.R_lt (KR HO_319001.out))) (Kd.R_lt (KR HO_327000.out))) (Kd.R_lt (KR HO_327001.out))) (Kd.R_lt (KR HO_340000.out))) (Kd.R_lt (KR HO_340001.out))) (Kd.R_lt (KR HO359.out))) (Kd.R_lt (KR HO362.out))) (below_size KB))
           have n9_ := Aside0.mk (Kd.R_lower (Kd.R_new' (Kd.R_new' (Kd.R_new' (Kd.R_new' (Kd.R_new' (Kd.R_new' (Kd.R_new' (Kd.R_new' ho1 (Kd.R_lt (KR HO_319000.out))) (Kd.R_lt (KR HO_319001.out))) (Kd.R_lt (KR HO_327000.out))) (Kd.R_lt (KR HO_327001.out))) (Kd.R_lt (KR HO_340000.out))) (Kd.R_lt (KR HO_340001.out))) (Kd.R_lt (KR HO359.out))) (Kd.R_lt (KR HO362.out))) (below_size KB))
           have n10_ := Aside0.mk (blk_below (g := gb295) (o := .cells #[.slice A0_0 l0_0.length c0_0, .slice A0_1 l0_1.length c0_1, .int .i64 a0_2] 24 (0, 0)) KK hb)
           have n11_ := Aside0.mk (blk_below (g := gb296) (o := .cells #[.int .i64 a1_0, .int .i64 a1_1, .bool a1_2, .string a1_3] 26 (0, 0)) KK hb)
           have n12_ := Aside0.mk (blk_below (g := gb318) (o := .cells #[.slice Ao41 t310.length co41, .slice Ao43 t313.length co43, .int .i64 t316] 31 (0, 0)) KK hb)
           have n13_ := Aside0.mk (blk_below (g := gb326) (o := .cells #[.slice Ao50 t350.length co50, .slice Ao55 t351.length co55, .int .i64 t325] 31 (0, 0)) KK hb)
           have n14_ := Aside0.mk (blk_below (g := gb339) (o := .cells #[.slice Ao62 t331.length co62, .slice Ao64 t334.length co64, .int .i64 t337] 31 (0, 0)) KK hb)
           have n15_ := Aside0.mk (blk_below (g := gb376) (o := .cells #[.slice none 0 0, .slice none 0 0, .int .i64 0] 31 (0, 0)) KK hb)
           have n16_ := Aside0.mk (below_step KB hb)
           clear HO_319000
           clear HO_319001
           clear HO_327000
           clear HO_327001
           clear HO_340000
           clear HO_340001
           clear HO359
           clear HO362
           clear BK295
           clear BK296
           clear BK318
           clear BK326
           clear BK339
           clear BK376
           clear HB
           have HO_319000 := n0_
           have HO_319001 := n1_
           have HO_327000 := n2_
           have HO_327001 := n3_
           have HO_340000 := n4_
           have HO_340001 := n5_
           have HO359 := n6_
           have HO362 := n7_
           have HO370 := n8_
           have HO373 := n9_
           have BK295 := n10_
           have BK296 := n11_
           have BK318 := n12_
           have BK326 := n13_
           have BK339 := n14_
           have BK376 := n15_
           have HB := n16_
           clear n0_ n1_ n2_ n3_ n4_ n5_ n6_ n7_ n8_ n9_ n10_ n11_ n12_ n13_ n14_ n15_ n16_
           (try clear hb)
           (try clear hb2)
           (try clear hk)
           (try clear hi)
           (try clear ho0)
           (try clear ho1)
           refine hK.out _ _ ⟨(blk_cell BK295.out 0).trans rfl, (blk_cell BK295.out 1).trans rfl, (blk_cell BK295.out 2).trans rfl, (blk_cell BK296.out 0).trans rfl, (blk_cell BK296.out 1).trans rfl, (blk_cell BK296.out 2).trans rfl, (blk_cell BK296.out 3).trans rfl⟩ (fun hHeld => ?_)
           clear hK K
           refine norm_ (a' := ?_) ?_ ?_
           rotate_left
           ·show Act.put _ (some 89) _ = _
            simp only [Act.put, List.setIfInBounds_toArray, List.set_cons_zero, List.set_cons_succ, i64_w, i32_w]
            rfl
           refine pure_ (i := 5) (N := some 84) (v := ?_) (a' := ?_) #[true, true, true, true, true, true, false, false, true, false, false] rfl rfl (any_of HT_.out (by kernel_rfl)) (fun _ _ _ h => h) (Or.inl ⟨by rfl, ?_⟩) ?_ ?_
           rotate_left
           ·intro w'
            go_simp
            with_reducible rfl
           rotate_left
           ·simp only [Act.put, List.setIfInBounds_toArray, List.set_cons_zero, List.set_cons_succ, i64_w, i32_w]
            rfl
           refine pure_ (i := 6) (N := some 90) (v := ?_) (a' := ?_) #[true, true, true, true, true, true, true, false, true, false, false] rfl rfl (any_of HT_.out (by kernel_rfl)) (fun _ _ _ h => h) (Or.inl ⟨by rfl, ?_⟩) ?_ ?_
           rotate_left
           ·intro w'
            go_simp
            with_reducible rfl
           rotate_left
           ·simp only [Act.put, List.setIfInBounds_toArray, List.set_cons_zero, List.set_cons_succ, i64_w, i32_w]
            rfl
           refine pure_ (i := 7) (N := some 91) (v := ?_) (a' := ?_) #[true, true, true, true, true, true, true, true, true, false, false] rfl rfl (any_of HT_.out (by kernel_rfl)) (fun _ _ _ h => h) (Or.inl ⟨by rfl, ?_⟩) ?_ ?_
           rotate_left
           ·intro w'
            go_simp
            with_reducible rfl
           rotate_left
           ·simp only [Act.put, List.setIfInBounds_toArray, List.set_cons_zero, List.set_cons_succ, i64_w, i32_w]
            rfl
           exact norm_ (by simp only [putAll, Act.put, List.setIfInBounds_toArray, List.set_cons_zero, List.set_cons_succ]) (hCont (.slice Ao150 t357.length co150, .slice Ao151 t360.length co151, v369, v372, gb376) _ ⟨hHeld, (by (with_reducible repeat (first | apply Kd.R_alloc | apply Kd.R_drewN | apply Kd.R_drew)); exact Kd.R_mono HO359.out (fun _ hk => ⟨hk.1.1.1.1.1.1.1.1, ⟨hk.1.2, ⟨hk.2, ⟨hk.1.1.1.1.1.1.1.2, ⟨hk.1.1.1.1.1.1.2, ⟨hk.1.1.1.1.1.2, ⟨hk.1.1.1.1.2, ⟨hk.1.1.1.2, hk.1.1.2⟩⟩⟩⟩⟩⟩⟩⟩)), (by (with_reducible repeat (first | apply Kd.R_alloc | apply Kd.R_drewN | apply Kd.R_drew)); exact Kd.R_mono HO362.out (fun _ hk => ⟨hk.1.1.1.1.1.1.1.1, ⟨hk.1.2, ⟨hk.2, ⟨hk.1.1.1.1.1.1.1.2, ⟨hk.1.1.1.1.1.1.2, ⟨hk.1.1.1.1.1.2, ⟨hk.1.1.1.1.2, ⟨hk.1.1.1.2, hk.1.1.2⟩⟩⟩⟩⟩⟩⟩⟩)), (by (with_reducible repeat (first | apply Kd.R_alloc | apply Kd.R_drewN | apply Kd.R_drew)); exact Kd.R_mono HO370.out (fun _ hk => ⟨hk.1.2, ⟨hk.2, ⟨hk.1.1.1.1.1.1.1.1, ⟨hk.1.1.1.1.1.1.1.2, ⟨hk.1.1.1.1.1.1.2, ⟨hk.1.1.1.1.1.2, ⟨hk.1.1.1.1.2, ⟨hk.1.1.1.2, hk.1.1.2⟩⟩⟩⟩⟩⟩⟩⟩)), (by (with_reducible repeat (first | apply Kd.R_alloc | apply Kd.R_drewN | apply Kd.R_drew)); exact Kd.R_mono HO373.out (fun _ hk => ⟨hk.1.2, ⟨hk.2, ⟨hk.1.1.1.1.1.1.1.1, ⟨hk.1.1.1.1.1.1.1.2, ⟨hk.1.1.1.1.1.1.2, ⟨hk.1.1.1.1.1.2, ⟨hk.1.1.1.1.2, ⟨hk.1.1.1.2, hk.1.1.2⟩⟩⟩⟩⟩⟩⟩⟩)), (by (with_reducible repeat (first | apply Kd.R_alloc | apply Kd.R_drewN | apply Kd.R_drew)); exact Kd.R_mono HO_319000.out (fun _ hk => ⟨hk.1.1.1.2, ⟨hk.1.1.2, ⟨hk.1.2, ⟨hk.2, ⟨hk.1.1.1.1.1, ⟨hk.1.1.1.1.2.1, ⟨hk.1.1.1.1.2.2.1, ⟨hk.1.1.1.1.2.2.2.1, hk.1.1.1.1.2.2.2.2⟩⟩⟩⟩⟩⟩⟩⟩)), (by (with_reducible repeat (first | apply Kd.R_alloc | apply Kd.R_drewN | apply Kd.R_drew)); exact Kd.R_mono HO_319001.out (fun _ hk => ⟨hk.1.1.1.2, ⟨hk.1.1.2, ⟨hk.1.2, ⟨hk.2, ⟨hk.1.1.1.1.1, ⟨hk.1.1.1.1.2.1, ⟨hk.1.1.1.1.2.2.1, ⟨hk.1.1.1.1.2.2.2.1, hk.1.1.1.1.2.2.2.2⟩⟩⟩⟩⟩⟩⟩⟩)), (by (with_reducible repeat (first | apply Kd.R_alloc | apply Kd.R_drewN | apply Kd.R_drew)); exact Kd.R_mono HO_327000.out (fun _ hk => ⟨hk.1.1.1.2, ⟨hk.1.1.2, ⟨hk.1.2, ⟨hk.2, ⟨hk.1.1.1.1.1, ⟨hk.1.1.1.1.2.1, ⟨hk.1.1.1.1.2.2.1, ⟨hk.1.1.1.1.2.2.2.1, hk.1.1.1.1.2.2.2.2⟩⟩⟩⟩⟩⟩⟩⟩)), (by (with_reducible repeat (first | apply Kd.R_alloc | apply Kd.R_drewN | apply Kd.R_drew)); exact Kd.R_mono HO_327001.out (fun _ hk => ⟨hk.1.1.1.2, ⟨hk.1.1.2, ⟨hk.1.2, ⟨hk.2, ⟨hk.1.1.1.1.1, ⟨hk.1.1.1.1.2.1, ⟨hk.1.1.1.1.2.2.1, ⟨hk.1.1.1.1.2.2.2.1, hk.1.1.1.1.2.2.2.2⟩⟩⟩⟩⟩⟩⟩⟩)), (by (with_reducible repeat (first | apply Kd.R_alloc | apply Kd.R_drewN | apply Kd.R_drew)); exact Kd.R_mono HO_340000.out (fun _ hk => ⟨hk.1.1.1.2, ⟨hk.1.1.2, ⟨hk.1.2, ⟨hk.2, ⟨hk.1.1.1.1.1, ⟨hk.1.1.1.1.2.1, ⟨hk.1.1.1.1.2.2.1, ⟨hk.1.1.1.1.2.2.2.1, hk.1.1.1.1.2.2.2.2⟩⟩⟩⟩⟩⟩⟩⟩)), (by (with_reducible repeat (first | apply Kd.R_alloc | apply Kd.R_drewN | apply Kd.R_drew)); exact Kd.R_mono HO_340001.out (fun _ hk => ⟨hk.1.1.1.2, ⟨hk.1.1.2, ⟨hk.1.2, ⟨hk.2, ⟨hk.1.1.1.1.1, ⟨hk.1.1.1.1.2.1, ⟨hk.1.1.1.1.2.2.1, ⟨hk.1.1.1.1.2.2.2.1, hk.1.1.1.1.2.2.2.2⟩⟩⟩⟩⟩⟩⟩⟩)), KK, KK, KK, KK, KK, KK, GW376.out, GE376.out, NB295_376.out, NB376_295.out, NB296_376.out, NB376_296.out, NB318_376.out, NB376_318.out, NB326_376.out, NB376_326.out, NB339_376.out, NB376_339.out, KB⟩)
         rintro ⟨v358, v361, v369, v372, gb376⟩ w153 ⟨hS_, h0_, h1_, h2_, h3_, h4_, h5_, h6_, h7_, h8_, h9_, h10_, h11_, h12_, h13_, h14_, h15_, h16_, h17_, h18_, h19_, h20_, h21_, h22_, h23_, h24_, h25_, h26_, h27_, h28_⟩
         have n0_ : Aside0 (Kd.R k35 35 w153 w.heap.size (fun k_ => some k_ ≠ (v361 : Value).ownBlock ∧ some k_ ≠ (v369 : Value).ownBlock ∧ some k_ ≠ (v372 : Value).ownBlock ∧ some k_ ≠ (.slice Ao41 t310.length co41 : Value).ownBlock ∧ some k_ ≠ (.slice Ao43 t313.length co43 : Value).ownBlock ∧ some k_ ≠ (.slice Ao50 t350.length co50 : Value).ownBlock ∧ some k_ ≠ (.slice Ao55 t351.length co55 : Value).ownBlock ∧ some k_ ≠ (.slice Ao62 t331.length co62 : Value).ownBlock ∧ some k_ ≠ (.slice Ao64 t334.length co64 : Value).ownBlock) v358 t357) := ⟨h0_⟩
         have n1_ : Aside0 (Kd.R k35 35 w153 w.heap.size (fun k_ => some k_ ≠ (v358 : Value).ownBlock ∧ some k_ ≠ (v369 : Value).ownBlock ∧ some k_ ≠ (v372 : Value).ownBlock ∧ some k_ ≠ (.slice Ao41 t310.length co41 : Value).ownBlock ∧ some k_ ≠ (.slice Ao43 t313.length co43 : Value).ownBlock ∧ some k_ ≠ (.slice Ao50 t350.length co50 : Value).ownBlock ∧ some k_ ≠ (.slice Ao55 t351.length co55 : Value).ownBlock ∧ some k_ ≠ (.slice Ao62 t331.length co62 : Value).ownBlock ∧ some k_ ≠ (.slice Ao64 t334.length co64 : Value).ownBlock) v361 t360) := ⟨h1_⟩
         have n2_ : Aside0 (Kd.R k35 35 w153 w.heap.size (fun k_ => some k_ ≠ (v358 : Value).ownBlock ∧ some k_ ≠ (v361 : Value).ownBlock ∧ some k_ ≠ (v372 : Value).ownBlock ∧ some k_ ≠ (.slice Ao41 t310.length co41 : Value).ownBlock ∧ some k_ ≠ (.slice Ao43 t313.length co43 : Value).ownBlock ∧ some k_ ≠ (.slice Ao50 t350.length co50 : Value).ownBlock ∧ some k_ ≠ (.slice Ao55 t351.length co55 : Value).ownBlock ∧ some k_ ≠ (.slice Ao62 t331.length co62 : Value).ownBlock ∧ some k_ ≠ (.slice Ao64 t334.length co64 : Value).ownBlock) v369 t368) := ⟨h2_⟩
         have n3_ : Aside0 (Kd.R k35 35 w153 w.heap.size (fun k_ => some k_ ≠ (v358 : Value).ownBlock ∧ some k_ ≠ (v361 : Value).ownBlock ∧ some k_ ≠ (v369 : Value).ownBlock ∧ some k_ ≠ (.slice Ao41 t310.length co41 : Value).ownBlock ∧ some k_ ≠ (.slice Ao43 t313.length co43 : Value).ownBlock ∧ some k_ ≠ (.slice Ao50 t350.length co50 : Value).ownBlock ∧ some k_ ≠ (.slice Ao55 t351.length co55 : Value).ownBlock ∧ some k_ ≠ (.slice Ao62 t331.length co62 : Value).ownBlock ∧ some k_ ≠ (.slice Ao64 t334.length co64 : Value).ownBlock) v372 t371) := ⟨h3_⟩
         have n4_ : Aside0 (Kd.R k35 35 w153 w.heap.size (fun k_ => some k_ ≠ (v358 : Value).ownBlock ∧ some k_ ≠ (v361 : Value).ownBlock ∧ some k_ ≠ (v369 : Value).ownBlock ∧ some k_ ≠ (v372 : Value).ownBlock ∧ some k_ ≠ (.slice Ao43 t313.length co43 : Value).ownBlock ∧ some k_ ≠ (.slice Ao50 t350.length co50 : Value).ownBlock ∧ some k_ ≠ (.slice Ao55 t351.length co55 : Value).ownBlock ∧ some k_ ≠ (.slice Ao62 t331.length co62 : Value).ownBlock ∧ some k_ ≠ (.slice Ao64 t334.length co64 : Value).ownBlock) (.slice Ao41 t310.length co41) t310) := ⟨h4_⟩
         have n5_ : Aside0 (Kd.R k35 35 w153 w.heap.size (fun k_ => some k_ ≠ (v358 : Value).ownBlock ∧ some k_ ≠ (v361 : Value).ownBlock ∧ some k_ ≠ (v369 : Value).ownBlock ∧ some k_ ≠ (v372 : Value).ownBlock ∧ some k_ ≠ (.slice Ao41 t310.length co41 : Value).ownBlock ∧ some k_ ≠ (.slice Ao50 t350.length co50 : Value).ownBlock ∧ some k_ ≠ (.slice Ao55 t351.length co55 : Value).ownBlock ∧ some k_ ≠ (.slice Ao62 t331.length co62 : Value).ownBlock ∧ some k_ ≠ (.slice Ao64 t334.length co64 : Value).ownBlock) (.slice Ao43 t313.length co43) t313) := ⟨h5_⟩
         have n6_ : Aside0 (Kd.R k35 35 w153 w.heap.size (fun k_ => some k_ ≠ (v358 : Value).ownBlock ∧ some k_ ≠ (v361 : Value).ownBlock ∧ some k_ ≠ (v369 : Value).ownBlock ∧ some k_ ≠ (v372 : Value).ownBlock ∧ some k_ ≠ (.slice Ao41 t310.length co41 : Value).ownBlock ∧ some k_ ≠ (.slice Ao43 t313.length co43 : Value).ownBlock ∧ some k_ ≠ (.slice Ao55 t351.length co55 : Value).ownBlock ∧ some k_ ≠ (.slice Ao62 t331.length co62 : Value).ownBlock ∧ some k_ ≠ (.slice Ao64 t334.length co64 : Value).ownBlock) (.slice Ao50 t350.length co50) t350) := ⟨h6_⟩
         have n7_ : Aside0 (Kd.R k35 35 w153 w.heap.size (fun k_ => some k_ ≠ (v358 : Value).ownBlock ∧ some k_ ≠ (v361 : Value).ownBlock ∧ some k_ ≠ (v369 : Value).ownBlock ∧ some k_ ≠ (v372 : Value).ownBlock ∧ some k_ ≠ (.slice Ao41 t310.length co41 : Value).ownBlock ∧ some k_ ≠ (.slice Ao43 t313.length co43 : Value).ownBlock ∧ some k_ ≠ (.slice Ao50 t350.length co50 : Value).ownBlock ∧ some k_ ≠ (.slice Ao62 t331.length co62 : Value).ownBlock ∧ some k_ ≠ (.slice Ao64 t334.length co64 : Value).ownBlock) (.slice Ao55 t351.length co55) t351) := ⟨h7_⟩
         have n8_ : Aside0 (Kd.R k35 35 w153 w.heap.size (fun k_ => some k_ ≠ (v358 : Value).ownBlock ∧ some k_ ≠ (v361 : Value).ownBlock ∧ some k_ ≠ (v369 : Value).ownBlock ∧ some k_ ≠ (v372 : Value).ownBlock ∧ some k_ ≠ (.slice Ao41 t310.length co41 : Value).ownBlock ∧ some k_ ≠ (.slice Ao43 t313.length co43 : Value).ownBlock ∧ some k_ ≠ (.slice Ao50 t350.length co50 : Value).ownBlock ∧ some k_ ≠ (.slice Ao55 t351.length co55 : Value).ownBlock ∧ some k_ ≠ (.slice Ao64 t334.length co64 : Value).ownBlock) (.slice Ao62 t331.length co62) t354) := ⟨h8_⟩
         have n9_ : Aside0 (Kd.R k35 35 w153 w.heap.size (fun k_ => some k_ ≠ (v358 : Value).ownBlock ∧ some k_ ≠ (v361 : Value).ownBlock ∧ some k_ ≠ (v369 : Value).ownBlock ∧ some k_ ≠ (v372 : Value).ownBlock ∧ some k_ ≠ (.slice Ao41 t310.length co41 : Value).ownBlock ∧ some k_ ≠ (.slice Ao43 t313.length co43 : Value).ownBlock ∧ some k_ ≠ (.slice Ao50 t350.length co50 : Value).ownBlock ∧ some k_ ≠ (.slice Ao55 t351.length co55 : Value).ownBlock ∧ some k_ ≠ (.slice Ao62 t331.length co62 : Value).ownBlock) (.slice Ao64 t334.length co64) t355) := ⟨h9_⟩
         have n10_ : Aside0 (w153.heap[gb295]? = some (.cells #[.slice A0_0 l0_0.length c0_0, .slice A0_1 l0_1.length c0_1, .int .i64 a0_2] 24 (0, 0))) := ⟨h10_⟩
         have n11_ : Aside0 (w153.heap[gb296]? = some (.cells #[.int .i64 a1_0, .int .i64 a1_1, .bool a1_2, .string a1_3] 26 (0, 0))) := ⟨h11_⟩
         have n12_ : Aside0 (w153.heap[gb318]? = some (.cells #[.slice Ao41 t310.length co41, .slice Ao43 t313.length co43, .int .i64 t316] 31 (0, 0))) := ⟨h12_⟩
         have n13_ : Aside0 (w153.heap[gb326]? = some (.cells #[.slice Ao50 t350.length co50, .slice Ao55 t351.length co55, .int .i64 t325] 31 (0, 0))) := ⟨h13_⟩
         have n14_ : Aside0 (w153.heap[gb339]? = some (.cells #[.slice Ao62 t331.length co62, .slice Ao64 t334.length co64, .int .i64 t337] 31 (0, 0))) := ⟨h14_⟩
         have n15_ : Aside0 (w153.heap[gb376]? = some (.cells #[.slice none 0 0, .slice none 0 0, .int .i64 0] 31 (0, 0))) := ⟨h15_⟩
         have n16_ : Aside0 (w.heap.size ≤ gb376) := ⟨h16_⟩
         have n17_ : Aside0 (w.heap.size ≤ gb376) := ⟨h17_⟩
         have n18_ : Aside0 (gb295 ≠ gb376) := ⟨h18_⟩
         have n19_ : Aside0 (gb376 ≠ gb295) := ⟨h19_⟩
         have n20_ : Aside0 (gb296 ≠ gb376) := ⟨h20_⟩
         have n21_ : Aside0 (gb376 ≠ gb296) := ⟨h21_⟩
         have n22_ : Aside0 (gb318 ≠ gb376) := ⟨h22_⟩
         have n23_ : Aside0 (gb376 ≠ gb318) := ⟨h23_⟩
         have n24_ : Aside0 (gb326 ≠ gb376) := ⟨h24_⟩
         have n25_ : Aside0 (gb376 ≠ gb326) := ⟨h25_⟩
         have n26_ : Aside0 (gb339 ≠ gb376) := ⟨h26_⟩
         have n27_ : Aside0 (gb376 ≠ gb339) := ⟨h27_⟩
         have n28_ : Aside0 (Below w.heap.size w w153) := ⟨h28_⟩
         clear HO_319000
         clear HO_319001
         clear HO_327000
         clear HO_327001
         clear HO_340000
         clear HO_340001
         clear BK295
         clear BK296
         clear BK318
         clear BK326
         clear BK339
         clear HB
         clear h0_ h1_ h2_ h3_ h4_ h5_ h6_ h7_ h8_ h9_ h10_ h11_ h12_ h13_ h14_ h15_ h16_ h17_ h18_ h19_ h20_ h21_ h22_ h23_ h24_ h25_ h26_ h27_ h28_
         have HO359 := n0_
         have HO362 := n1_
         have HO370 := n2_
         have HO373 := n3_
         have HO_319000 := n4_
         have HO_319001 := n5_
         have HO_327000 := n6_
         have HO_327001 := n7_
         have HO_340000 := n8_
         have HO_340001 := n9_
         have BK295 := n10_
         have BK296 := n11_
         have BK318 := n12_
         have BK326 := n13_
         have BK339 := n14_
         have BK376 := n15_
         have GW376 := n16_
         have GE376 := n17_
         have NB295_376 := n18_
         have NB376_295 := n19_
         have NB296_376 := n20_
         have NB376_296 := n21_
         have NB318_376 := n22_
         have NB376_318 := n23_
         have NB326_376 := n24_
         have NB376_326 := n25_
         have NB339_376 := n26_
         have NB376_339 := n27_
         have HB := n28_
         clear n0_ n1_ n2_ n3_ n4_ n5_ n6_ n7_ n8_ n9_ n10_ n11_ n12_ n13_ n14_ n15_ n16_ n17_ n18_ n19_ n20_ n21_ n22_ n23_ n24_ n25_ n26_ n27_ n28_
         have hHeld : w153.cell? ⟨gb295, 0, none⟩ = some (.slice A0_0 l0_0.length c0_0) ∧ w153.cell? ⟨gb295, 1, none⟩ = some (.slice A0_1 l0_1.length c0_1) ∧ w153.cell? ⟨gb295, 2, none⟩ = some (.int .i64 a0_2) ∧ w153.cell? ⟨gb296, 0, none⟩ = some (.int .i64 a1_0) ∧ w153.cell? ⟨gb296, 1, none⟩ = some (.int .i64 a1_1) ∧ w153.cell? ⟨gb296, 2, none⟩ = some (.bool a1_2) ∧ w153.cell? ⟨gb296, 3, none⟩ = some (.string a1_3) := hS_
         obtain ⟨Ao154, co154, eo154⟩ := Kd.R_slice HO370.out
         (first | subst eo154 | (injection eo154 with f1_ f2_ f3_; have f4_ := f1_.symm; have f5_ := f3_.symm; clear f1_ f2_ f3_; subst f4_; subst f5_))
         obtain ⟨Ao156, co156, eo156⟩ := Kd.R_slice HO373.out
         (first | subst eo156 | (injection eo156 with f1_ f2_ f3_; have f4_ := f1_.symm; have f5_ := f3_.symm; clear f1_ f2_ f3_; subst f4_; subst f5_))
         refine norm_ (a' := ?_) ?_ ?_
         rotate_left
         ·simp only [putAll, Act.put, List.setIfInBounds_toArray, List.set_cons_zero, List.set_cons_succ]
          rfl
         refine one_ (i := 9) (N := none) #[true, true, true, true, true, true, true, true, true, true, false] rfl rfl (one_of HT_.out (by kernel_rfl)) (by decide) (fun K hK => ?_)
         have hs155 : w153.cell? ⟨gb376, 0, none⟩ = some (.slice none 0 0) := (blk_cell BK376.out 0).trans rfl
         have hfs155 := blk_frozen BK376.out 0
         have hns155_0 := NB295_376.out
         have hns155_1 := NB296_376.out
         have hns155_2 := NB318_376.out
         have hns155_3 := NB326_376.out
         have hns155_4 := NB339_376.out
         have hms155_0 := NB376_295.out
         have hms155_1 := NB376_296.out
         have hms155_2 := NB376_318.out
         have hms155_3 := NB376_326.out
         have hms155_4 := NB376_339.out
         have hs157 : w153.cell? ⟨gb376, 1, none⟩ = some (.slice none 0 0) := (blk_cell BK376.out 1).trans rfl
         have hfs157 := blk_frozen BK376.out 1
         have hns157_0 := NB295_376.out
         have hns157_1 := NB296_376.out
         have hns157_2 := NB318_376.out
         have hns157_3 := NB326_376.out
         have hns157_4 := NB339_376.out
         have hms157_0 := NB376_295.out
         have hms157_1 := NB376_296.out
         have hms157_2 := NB376_318.out
         have hms157_3 := NB376_326.out
         have hms157_4 := NB376_339.out
         have hs158 : w153.cell? ⟨gb376, 2, none⟩ = some (.int .i64 0) := (blk_cell BK376.out 2).trans rfl
         have hfs158 := blk_frozen BK376.out 2
         have hns158_0 := NB295_376.out
         have hns158_1 := NB296_376.out
         have hns158_2 := NB318_376.out
         have hns158_3 := NB326_376.out
         have hns158_4 := NB339_376.out
         have hms158_0 := NB376_295.out
         have hms158_1 := NB376_296.out
         have hms158_2 := NB376_318.out
         have hms158_3 := NB376_326.out
         have hms158_4 := NB376_339.out
         refine skip_ (w1 := ?_) (by rfl) rfl ?_ ?_
         rotate_left
         ·go_simp
          rfl
         refine hK.out _ _ ⟨((cell_far (p := ⟨gb376, _, none⟩) NB295_376.out _).trans (((cell_far (p := ⟨gb376, _, none⟩) NB295_376.out _).trans (((cell_far (p := ⟨gb376, _, none⟩) NB295_376.out _).trans (hHeld.1)))))), ((cell_far (p := ⟨gb376, _, none⟩) NB295_376.out _).trans (((cell_far (p := ⟨gb376, _, none⟩) NB295_376.out _).trans (((cell_far (p := ⟨gb376, _, none⟩) NB295_376.out _).trans (hHeld.2.1)))))), ((cell_far (p := ⟨gb376, _, none⟩) NB295_376.out _).trans (((cell_far (p := ⟨gb376, _, none⟩) NB295_376.out _).trans (((cell_far (p := ⟨gb376, _, none⟩) NB295_376.out _).trans (hHeld.2.2.1)))))), ((cell_far (p := ⟨gb376, _, none⟩) NB296_376.out _).trans (((cell_far (p := ⟨gb376, _, none⟩) NB296_376.out _).trans (((cell_far (p := ⟨gb376, _, none⟩) NB296_376.out _).trans (hHeld.2.2.2.1)))))), ((cell_far (p := ⟨gb376, _, none⟩) NB296_376.out _).trans (((cell_far (p := ⟨gb376, _, none⟩) NB296_376.out _).trans (((cell_far (p := ⟨gb376, _, none⟩) NB296_376.out _).trans (hHeld.2.2.2.2.1)))))), ((cell_far (p := ⟨gb376, _, none⟩) NB296_376.out _).trans (((cell_far (p := ⟨gb376, _, none⟩) NB296_376.out _).trans (((cell_far (p := ⟨gb376, _, none⟩) NB296_376.out _).trans (hHeld.2.2.2.2.2.1)))))), ((cell_far (p := ⟨gb376, _, none⟩) NB296_376.out _).trans (((cell_far (p := ⟨gb376, _, none⟩) NB296_376.out _).trans (((cell_far (p := ⟨gb376, _, none⟩) NB296_376.out _).trans (hHeld.2.2.2.2.2.2))))))⟩ (fun hHeld => ?_)
         clear hK K
         refine pure_ (i := 10) (N := some 15) (v := ?_) (a' := ?_) #[true, true, true, true, true, true, true, true, true, true, true] rfl rfl (any_of HT_.out (by kernel_rfl)) (fun _ _ _ h => h) (Or.inl ⟨by rfl, ?_⟩) ?_ ?_
         rotate_left
         ·intro w'
          go_simp
          with_reducible rfl
         rotate_left
         ·simp only [Act.put, List.setIfInBounds_toArray, List.set_cons_zero, List.set_cons_succ, i64_w, i32_w]
          rfl
         refine done_ (done_of HT_.out (by kernel_rfl)) ?_
         go_upto_region 28 with (fail)
         go_cut [100] (fun v100 wc => ∃ (kq : Nat) (x100_136 : Bool), v100 = .bool x100_136 ∧ Aside0 (laws_FnExactStorePut.j2 kq t353 x100_136 t354 t355 t337 = some r) ∧ Aside0 (kq ≤ kj93) ∧ Aside0 (Kd.R k35 35 wc w.heap.size (fun k_ => some k_ ≠ ((.slice Ao43 t313.length co43) : Value).ownBlock ∧ some k_ ≠ ((.slice Ao50 t350.length co50) : Value).ownBlock ∧ some k_ ≠ ((.slice Ao55 t351.length co55) : Value).ownBlock ∧ some k_ ≠ ((.slice Ao62 t331.length co62) : Value).ownBlock ∧ some k_ ≠ ((.slice Ao64 t334.length co64) : Value).ownBlock ∧ some k_ ≠ ((.slice Ao154 t368.length co154) : Value).ownBlock ∧ some k_ ≠ ((.slice Ao156 t371.length co156) : Value).ownBlock) (.slice Ao41 t310.length co41) t310) ∧ Aside0 (Kd.R k35 35 wc w.heap.size (fun k_ => some k_ ≠ ((.slice Ao41 t310.length co41) : Value).ownBlock ∧ some k_ ≠ ((.slice Ao50 t350.length co50) : Value).ownBlock ∧ some k_ ≠ ((.slice Ao55 t351.length co55) : Value).ownBlock ∧ some k_ ≠ ((.slice Ao62 t331.length co62) : Value).ownBlock ∧ some k_ ≠ ((.slice Ao64 t334.length co64) : Value).ownBlock ∧ some k_ ≠ ((.slice Ao154 t368.length co154) : Value).ownBlock ∧ some k_ ≠ ((.slice Ao156 t371.length co156) : Value).ownBlock) (.slice Ao43 t313.length co43) t313) ∧ Aside0 (Kd.R k35 35 wc w.heap.size (fun k_ => some k_ ≠ ((.slice Ao41 t310.length co41) : Value).ownBlock ∧ some k_ ≠ ((.slice Ao43 t313.length co43) : Value).ownBlock ∧ some k_ ≠ ((.slice Ao55 t351.length co55) : Value).ownBlock ∧ some k_ ≠ ((.slice Ao62 t331.length co62) : Value).ownBlock ∧ some k_ ≠ ((.slice Ao64 t334.length co64) : Value).ownBlock ∧ some k_ ≠ ((.slice Ao154 t368.length co154) : Value).ownBlock ∧ some k_ ≠ ((.slice Ao156 t371.length co156) : Value).ownBlock) (.slice Ao50 t350.length co50) t350) ∧ Aside0 (Kd.R k35 35 wc w.heap.size (fun k_ => some k_ ≠ ((.slice Ao41 t310.length co41) : Value).ownBlock ∧ some k_ ≠ ((.slice Ao43 t313.length co43) : Value).ownBlock ∧ some k_ ≠ ((.slice Ao50 t350.length co50) : Value).ownBlock ∧ some k_ ≠ ((.slice Ao62 t331.length co62) : Value).ownBlock ∧ some k_ ≠ ((.slice Ao64 t334.length co64) : Value).ownBlock ∧ some k_ ≠ ((.slice Ao154 t368.length co154) : Value).ownBlock ∧ some k_ ≠ ((.slice Ao156 t371.length co156) : Value).ownBlock) (.slice Ao55 t351.length co55) t351) ∧ Aside0 (Kd.R k35 35 wc w.heap.size (fun k_ => some k_ ≠ ((.slice Ao41 t310.length co41) : Value).ownBlock ∧ some k_ ≠ ((.slice Ao43 t313.length co43) : Value).ownBlock ∧ some k_ ≠ ((.slice Ao50 t350.length co50) : Value).ownBlock ∧ some k_ ≠ ((.slice Ao55 t351.length co55) : Value).ownBlock ∧ some k_ ≠ ((.slice Ao64 t334.length co64) : Value).ownBlock ∧ some k_ ≠ ((.slice Ao154 t368.length co154) : Value).ownBlock ∧ some k_ ≠ ((.slice Ao156 t371.length co156) : Value).ownBlock) (.slice Ao62 t331.length co62) t354) ∧ Aside0 (Kd.R k35 35 wc w.heap.size (fun k_ => some k_ ≠ ((.slice Ao41 t310.length co41) : Value).ownBlock ∧ some k_ ≠ ((.slice Ao43 t313.length co43) : Value).ownBlock ∧ some k_ ≠ ((.slice Ao50 t350.length co50) : Value).ownBlock ∧ some k_ ≠ ((.slice Ao55 t351.length co55) : Value).ownBlock ∧ some k_ ≠ ((.slice Ao62 t331.length co62) : Value).ownBlock ∧ some k_ ≠ ((.slice Ao154 t368.length co154) : Value).ownBlock ∧ some k_ ≠ ((.slice Ao156 t371.length co156) : Value).ownBlock) (.slice Ao64 t334.length co64) t355) ∧ Aside0 (Kd.R k35 35 wc w.heap.size (fun k_ => some k_ ≠ ((.slice Ao41 t310.length co41) : Value).ownBlock ∧ some k_ ≠ ((.slice Ao43 t313.length co43) : Value).ownBlock ∧ some k_ ≠ ((.slice Ao50 t350.length co50) : Value).ownBlock ∧ some k_ ≠ ((.slice Ao55 t351.length co55) : Value).ownBlock ∧ some k_ ≠ ((.slice Ao62 t331.length co62) : Value).ownBlock ∧ some k_ ≠ ((.slice Ao64 t334.length co64) : Value).ownBlock ∧ some k_ ≠ ((.slice Ao156 t371.length co156) : Value).ownBlock) (.slice Ao154 t368.length co154) t368) ∧ Aside0 (Kd.R k35 35 wc w.heap.size (fun k_ => some k_ ≠ ((.slice Ao41 t310.length co41) : Value).ownBlock ∧ some k_ ≠ ((.slice Ao43 t313.length co43) : Value).ownBlock ∧ some k_ ≠ ((.slice Ao50 t350.length co50) : Value).ownBlock ∧ some k_ ≠ ((.slice Ao55 t351.length co55) : Value).ownBlock ∧ some k_ ≠ ((.slice Ao62 t331.length co62) : Value).ownBlock ∧ some k_ ≠ ((.slice Ao64 t334.length co64) : Value).ownBlock ∧ some k_ ≠ ((.slice Ao154 t368.length co154) : Value).ownBlock) (.slice Ao156 t371.length co156) t371) ∧ Aside0 (wc.heap[gb295]? = some (.cells #[(.slice A0_0 l0_0.length c0_0), (.slice A0_1 l0_1.length c0_1), .int .i64 a0_2] 24 (0, 0))) ∧ Aside0 (wc.heap[gb296]? = some (.cells #[.int .i64 a1_0, .int .i64 a1_1, .bool a1_2, .string a1_3] 26 (0, 0))) ∧ Aside0 (wc.heap[gb318]? = some (.cells #[(.slice Ao41 t310.length co41), (.slice Ao43 t313.length co43), .int .i64 t316] 31 (0, 0))) ∧ Aside0 (wc.heap[gb326]? = some (.cells #[(.slice Ao50 t350.length co50), (.slice Ao55 t351.length co55), .int .i64 t325] 31 (0, 0))) ∧ Aside0 (wc.heap[gb339]? = some (.cells #[(.slice Ao62 t331.length co62), (.slice Ao64 t334.length co64), .int .i64 t337] 31 (0, 0))) ∧ Aside0 (wc.heap[gb376]? = some (.cells #[(.slice Ao154 t368.length co154), (.slice Ao156 t371.length co156), .int .i64 t374] 31 (0, 0))) ∧ Aside0 (Below w.heap.size w wc))
         case first =>
          have H := HC137.out
          clear HC137
          replace H := Option.bind_eq_some_iff.mp H
          obtain ⟨t377, A1590, H⟩ := H
          replace H : (if t377 = true then (laws_FnExactStorePut.j2 kj93 t353 (t375 != t317) t354 t355 t337) else (laws_FnExactStorePut.j2 kj93 t353 true t354 t355 t337)) = some r := H
          have A159 := Aside0.mk A1590
          clear A1590
          by_cases c160 : t377 = true
          ·subst c160
           have H1 : (laws_FnExactStorePut.j2 kj93 t353 (t375 != t317) t354 t355 t337) = some r := by rw [if_pos rfl] at H; exact H
           clear H
           have H := H1
           clear H1
           have H' := Aside0.mk H
           clear H
           have hnb161 := NB376_295.out
           have hnc161 := NB295_376.out
           have hnb162 := NB376_296.out
           have hnc162 := NB296_376.out
           have hnb163 := NB376_318.out
           have hnc163 := NB318_376.out
           have hnb164 := NB376_326.out
           have hnc164 := NB326_376.out
           have hnb165 := NB376_339.out
           have hnc165 := NB339_376.out
           have hcz166_0 : w153.cell? ⟨gb376, 0, none⟩ = some (.slice none 0 0) := (blk_cell BK376.out 0).trans rfl
           have hcz166_1 : w153.cell? ⟨gb376, 1, none⟩ = some (.slice none 0 0) := (blk_cell BK376.out 1).trans rfl
           have hcz166_2 : w153.cell? ⟨gb376, 2, none⟩ = some (.int .i64 0) := (blk_cell BK376.out 2).trans rfl
           have hfz166_0 := blk_frozen BK376.out 0
           have hfz166_1 := blk_frozen BK376.out 1
           have hfz166_2 := blk_frozen BK376.out 2
           have hnb167 := NB318_295.out
           have hnc167 := NB295_318.out
           have hnb168 := NB318_296.out
           have hnc168 := NB296_318.out
           have hnb169 := NB318_326.out
           have hnc169 := NB326_318.out
           have hnb170 := NB318_339.out
           have hnc170 := NB339_318.out
           have hcz171_0 : w153.cell? ⟨gb318, 0, none⟩ = some (.slice Ao41 t310.length co41) := (blk_cell BK318.out 0).trans rfl
           have hcz171_1 : w153.cell? ⟨gb318, 1, none⟩ = some (.slice Ao43 t313.length co43) := (blk_cell BK318.out 1).trans rfl
           have hcz171_2 : w153.cell? ⟨gb318, 2, none⟩ = some (.int .i64 t316) := (blk_cell BK318.out 2).trans rfl
           have hfz171_0 := blk_frozen BK318.out 0
           have hfz171_1 := blk_frozen BK318.out 1
           have hfz171_2 := blk_frozen BK318.out 2
           go_wp2_with (first | ((with_reducible refine gate_callee (f := 15) rfl ?_); refine goesL_ (some 94) rfl rfl Try.func15 (by kernel_rfl) rfl #[.agg #[.slice Ao154 t368.length co154, .slice Ao156 t371.length co156, .int .i64 t374], .agg #[.slice Ao41 t310.length co41, .slice Ao43 t313.length co43, .int .i64 t316]] rfl KL ?_; (with_reducible refine (laws_eqStore.calls kj93 _ _ t368 _ _ t371 t374 _ _ t310 _ _ t313 t316 true _ ?side1 ?side2 ?side3 ?side4 ?side5 ?side6 ?side7 ?side8 A159.out).mono ?_); (case side1 => refine (Kd.R_reads' (e := 35) (base := w.heap.size) (ok := fun k_ => (some k_ ≠ (v358 : Value).ownBlock ∧ (some k_ ≠ (v361 : Value).ownBlock ∧ (some k_ ≠ (.slice Ao156 t371.length co156 : Value).ownBlock ∧ (some k_ ≠ (.slice Ao41 t310.length co41 : Value).ownBlock ∧ (some k_ ≠ (.slice Ao43 t313.length co43 : Value).ownBlock ∧ (some k_ ≠ (.slice Ao50 t350.length co50 : Value).ownBlock ∧ (some k_ ≠ (.slice Ao55 t351.length co55 : Value).ownBlock ∧ (some k_ ≠ (.slice Ao62 t331.length co62 : Value).ownBlock ∧ some k_ ≠ (.slice Ao64 t334.length co64 : Value).ownBlock))))))))) (n := t368.length) (c := co154) ?_).2.2; exact (by (with_reducible repeat (first | apply Kd.R_alloc | apply Kd.R_drewN | apply Kd.R_drew)); exact (Kd.R_mono (Kd.R_far (p := ⟨gb376, 2, none⟩) (Kd.R_far (p := ⟨gb376, 1, none⟩) (Kd.R_far (p := ⟨gb376, 0, none⟩) (Kd.R_types HO370.out BK376.out (by decide)) (fun _ hk => hk.2) (.slice Ao154 t368.length co154)) (fun _ hk => hk.2) (.slice Ao156 t371.length co156)) (fun _ hk => hk.2) (.int .i64 t374)) (fun _ h_ => h_.1)))); (case side2 => exact (Kd.R_reads' HO370.out).2.1); (case side3 => refine (Kd.R_reads' (e := 35) (base := w.heap.size) (ok := fun k_ => (some k_ ≠ (v358 : Value).ownBlock ∧ (some k_ ≠ (v361 : Value).ownBlock ∧ (some k_ ≠ (.slice Ao154 t368.length co154 : Value).ownBlock ∧ (some k_ ≠ (.slice Ao41 t310.length co41 : Value).ownBlock ∧ (some k_ ≠ (.slice Ao43 t313.length co43 : Value).ownBlock ∧ (some k_ ≠ (.slice Ao50 t350.length co50 : Value).ownBlock ∧ (some k_ ≠ (.slice Ao55 t351.length co55 : Value).ownBlock ∧ (some k_ ≠ (.slice Ao62 t331.length co62 : Value).ownBlock ∧ some k_ ≠ (.slice Ao64 t334.length co64 : Value).ownBlock))))))))) (n := t371.length) (c := co156) ?_).2.2; exact (by (with_reducible repeat (first | apply Kd.R_alloc | apply Kd.R_drewN | apply Kd.R_drew)); exact (Kd.R_mono (Kd.R_far (p := ⟨gb376, 2, none⟩) (Kd.R_far (p := ⟨gb376, 1, none⟩) (Kd.R_far (p := ⟨gb376, 0, none⟩) (Kd.R_types HO373.out BK376.out (by decide)) (fun _ hk => hk.2) (.slice Ao154 t368.length co154)) (fun _ hk => hk.2) (.slice Ao156 t371.length co156)) (fun _ hk => hk.2) (.int .i64 t374)) (fun _ h_ => h_.1)))); (case side4 => exact (Kd.R_reads' HO373.out).2.1); (case side5 => refine (Kd.R_reads' (e := 35) (base := w.heap.size) (ok := fun k_ => (some k_ ≠ (v358 : Value).ownBlock ∧ (some k_ ≠ (v361 : Value).ownBlock ∧ (some k_ ≠ (.slice Ao154 t368.length co154 : Value).ownBlock ∧ (some k_ ≠ (.slice Ao156 t371.length co156 : Value).ownBlock ∧ (some k_ ≠ (.slice Ao43 t313.length co43 : Value).ownBlock ∧ (some k_ ≠ (.slice Ao50 t350.length co50 : Value).ownBlock ∧ (some k_ ≠ (.slice Ao55 t351.length co55 : Value).ownBlock ∧ (some k_ ≠ (.slice Ao62 t331.length co62 : Value).ownBlock ∧ some k_ ≠ (.slice Ao64 t334.length co64 : Value).ownBlock))))))))) (n := t310.length) (c := co41) ?_).2.2; exact (by (with_reducible repeat (first | apply Kd.R_alloc | apply Kd.R_drewN | apply Kd.R_drew)); exact (Kd.R_mono (Kd.R_far (p := ⟨gb376, 2, none⟩) (Kd.R_far (p := ⟨gb376, 1, none⟩) (Kd.R_far (p := ⟨gb376, 0, none⟩) (Kd.R_types HO_319000.out BK376.out (by decide)) (fun _ hk => hk.2) (.slice Ao154 t368.length co154)) (fun _ hk => hk.2) (.slice Ao156 t371.length co156)) (fun _ hk => hk.2) (.int .i64 t374)) (fun _ h_ => h_.1)))); (case side6 => exact (Kd.R_reads' HO_319000.out).2.1); (case side7 => refine (Kd.R_reads' (e := 35) (base := w.heap.size) (ok := fun k_ => (some k_ ≠ (v358 : Value).ownBlock ∧ (some k_ ≠ (v361 : Value).ownBlock ∧ (some k_ ≠ (.slice Ao154 t368.length co154 : Value).ownBlock ∧ (some k_ ≠ (.slice Ao156 t371.length co156 : Value).ownBlock ∧ (some k_ ≠ (.slice Ao41 t310.length co41 : Value).ownBlock ∧ (some k_ ≠ (.slice Ao50 t350.length co50 : Value).ownBlock ∧ (some k_ ≠ (.slice Ao55 t351.length co55 : Value).ownBlock ∧ (some k_ ≠ (.slice Ao62 t331.length co62 : Value).ownBlock ∧ some k_ ≠ (.slice Ao64 t334.length co64 : Value).ownBlock))))))))) (n := t313.length) (c := co43) ?_).2.2; exact (by (with_reducible repeat (first | apply Kd.R_alloc | apply Kd.R_drewN | apply Kd.R_drew)); exact (Kd.R_mono (Kd.R_far (p := ⟨gb376, 2, none⟩) (Kd.R_far (p := ⟨gb376, 1, none⟩) (Kd.R_far (p := ⟨gb376, 0, none⟩) (Kd.R_types HO_319001.out BK376.out (by decide)) (fun _ hk => hk.2) (.slice Ao154 t368.length co154)) (fun _ hk => hk.2) (.slice Ao156 t371.length co156)) (fun _ hk => hk.2) (.int .i64 t374)) (fun _ h_ => h_.1)))); (case side8 => exact (Kd.R_reads' HO_319001.out).2.1); rintro e w172 ⟨rfl, hb⟩; refine ⟨_, rfl, ?_⟩; have n0_ := Aside0.mk (Kd.R_below (by (with_reducible repeat (first | apply Kd.R_alloc | apply Kd.R_drewN | apply Kd.R_drew)); exact (Kd.R_mono (Kd.R_far (p := ⟨gb376, 2, none⟩) (Kd.R_far (p := ⟨gb376, 1, none⟩) (Kd.R_far (p := ⟨gb376, 0, none⟩) (Kd.R_types HO_319000.out BK376.out (by decide)) (fun _ hk => hk.2) (.slice Ao154 t368.length co154)) (fun _ hk => hk.2) (.slice Ao156 t371.length co156)) (fun _ hk => hk.2) (.int .i64 t374)) (fun _ h_ => h_.1))) hb); have n1_ := Aside0.mk (Kd.R_below (by (with_reducible repeat (first | apply Kd.R_alloc | apply Kd.R_drewN | apply Kd.R_drew)); exact (Kd.R_mono (Kd.R_far (p := ⟨gb376, 2, none⟩) (Kd.R_far (p := ⟨gb376, 1, none⟩) (Kd.R_far (p := ⟨gb376, 0, none⟩) (Kd.R_types HO_319001.out BK376.out (by decide)) (fun _ hk => hk.2) (.slice Ao154 t368.length co154)) (fun _ hk => hk.2) (.slice Ao156 t371.length co156)) (fun _ hk => hk.2) (.int .i64 t374)) (fun _ h_ => h_.1))) hb); have n2_ := Aside0.mk (Kd.R_below (by (with_reducible repeat (first | apply Kd.R_alloc | apply Kd.R_drewN | apply Kd.R_drew)); exact (Kd.R_mono (Kd.R_far (p := ⟨gb376, 2, none⟩) (Kd.R_far (p := ⟨gb376, 1, none⟩) (Kd.R_far (p := ⟨gb376, 0, none⟩) (Kd.R_types HO_327000.out BK376.out (by decide)) (fun _ hk => hk.2) (.slice Ao154 t368.length co154)) (fun _ hk => hk.2) (.slice Ao156 t371.length co156)) (fun _ hk => hk.2) (.int .i64 t374)) (fun _ h_ => h_.1))) hb); have n3_ := Aside0.mk (Kd.R_below (by (with_reducible repeat (first | apply Kd.R_alloc | apply Kd.R_drewN | apply Kd.R_drew)); exact (Kd.R_mono (Kd.R_far (p := ⟨gb376, 2, none⟩) (Kd.R_far (p := ⟨gb376, 1, none⟩) (Kd.R_far (p := ⟨gb376, 0, none⟩) (Kd.R_types HO_327001.out BK376.out (by decide)) (fun _ hk => hk.2) (.slice Ao154 t368.length co154)) (fun _ hk => hk.2) (.slice Ao156 t371.length co156)) (fun _ hk => hk.2) (.int .i64 t374)) (fun _ h_ => h_.1))) hb); have n4_ := Aside0.mk (Kd.R_below (by (with_reducible repeat (first | apply Kd.R_alloc | apply Kd.R_drewN | apply Kd.R_drew)); exact (Kd.R_mono (Kd.R_far (p := ⟨gb376, 2, none⟩) (Kd.R_far (p := ⟨gb376, 1, none⟩) (Kd.R_far (p := ⟨gb376, 0, none⟩) (Kd.R_types HO_340000.out BK376.out (by decide)) (fun _ hk => hk.2) (.slice Ao154 t368.length co154)) (fun _ hk => hk.2) (.slice Ao156 t371.length co156)) (fun _ hk => hk.2) (.int .i64 t374)) (fun _ h_ => h_.1))) hb); have n5_ := Aside0.mk (Kd.R_below (by (with_reducible repeat (first | apply Kd.R_alloc | apply Kd.R_drewN | apply Kd.R_drew)); exact (Kd.R_mono (Kd.R_far (p := ⟨gb376, 2, none⟩) (Kd.R_far (p := ⟨gb376, 1, none⟩) (Kd.R_far (p := ⟨gb376, 0, none⟩) (Kd.R_types HO_340001.out BK376.out (by decide)) (fun _ hk => hk.2) (.slice Ao154 t368.length co154)) (fun _ hk => hk.2) (.slice Ao156 t371.length co156)) (fun _ hk => hk.2) (.int .i64 t374)) (fun _ h_ => h_.1))) hb); have n6_ := Aside0.mk (Kd.R_below (by (with_reducible repeat (first | apply Kd.R_alloc | apply Kd.R_drewN | apply Kd.R_drew)); exact (Kd.R_mono (Kd.R_far (p := ⟨gb376, 2, none⟩) (Kd.R_far (p := ⟨gb376, 1, none⟩) (Kd.R_far (p := ⟨gb376, 0, none⟩) (Kd.R_types HO359.out BK376.out (by decide)) (fun _ hk => hk.2) (.slice Ao154 t368.length co154)) (fun _ hk => hk.2) (.slice Ao156 t371.length co156)) (fun _ hk => hk.2) (.int .i64 t374)) (fun _ h_ => h_.1))) hb); have n7_ := Aside0.mk (Kd.R_below (by (with_reducible repeat (first | apply Kd.R_alloc | apply Kd.R_drewN | apply Kd.R_drew)); exact (Kd.R_mono (Kd.R_far (p := ⟨gb376, 2, none⟩) (Kd.R_far (p := ⟨gb376, 1, none⟩) (Kd.R_far (p := ⟨gb376, 0, none⟩) (Kd.R_types HO362.out BK376.out (by decide)) (fun _ hk => hk.2) (.slice Ao154 t368.length co154)) (fun _ hk => hk.2) (.slice Ao156 t371.length co156)) (fun _ hk => hk.2) (.int .i64 t374)) (fun _ h_ => h_.1))) hb); have n8_ := Aside0.mk (Kd.R_below (by (with_reducible repeat (first | apply Kd.R_alloc | apply Kd.R_drewN | apply Kd.R_drew)); exact (Kd.R_mono (Kd.R_far (p := ⟨gb376, 2, none⟩) (Kd.R_far (p := ⟨gb376, 1, none⟩) (Kd.R_far (p := ⟨gb376, 0, none⟩) (Kd.R_types HO370.out BK376.out (by decide)) (fun _ hk => hk.2) (.slice Ao154 t368.length co154)) (fun _ hk => hk.2) (.slice Ao156 t371.length co156)) (fun _ hk => hk.2) (.int .i64 t374)) (fun _ h_ => h_.1))) hb); have n9_ := Aside0.mk (Kd.R_below (by (with_reducible repeat (first | apply Kd.R_alloc | apply Kd.R_drewN | apply Kd.R_drew)); exact (Kd.R_mono (Kd.R_far (p := ⟨gb376, 2, none⟩) (Kd.R_far (p := ⟨gb376, 1, none⟩) (Kd.R_far (p := ⟨gb376, 0, none⟩) (Kd.R_types HO373.out BK376.out (by decide)) (fun _ hk => hk.2) (.slice Ao154 t368.length co154)) (fun _ hk => hk.2) (.slice Ao156 t371.length co156)) (fun _ hk => hk.2) (.int .i64 t374)) (fun _ h_ => h_.1))) hb); have n10_ := Aside0.mk (blk_below (g := gb295) (o := .cells #[.slice A0_0 l0_0.length c0_0, .slice A0_1 l0_1.length c0_1, .int .i64 a0_2] 24 (0, 0)) KK hb); have n11_ := Aside0.mk (blk_below (g := gb296) (o := .cells #[.int .i64 a1_0, .int .i64 a1_1, .bool a1_2, .string a1_3] 26 (0, 0)) KK hb); have n12_ := Aside0.mk (blk_below (g := gb318) (o := .cells #[.slice Ao41 t310.length co41, .slice Ao43 t313.length co43, .int .i64 t316] 31 (0, 0)) KK hb); have n13_ := Aside0.mk (blk_below (g := gb326) (o := .cells #[.slice Ao50 t350.length co50, .slice Ao55 t351.length co55, .int .i64 t325] 31 (0, 0)) KK hb); have n14_ := Aside0.mk (blk_below (g := gb339) (o := .cells #[.slice Ao62 t331.length co62, .slice Ao64 t334.length co64, .int .i64 t337] 31 (0, 0)) KK hb); have n15_ := Aside0.mk (blk_below (g := gb376) (o := .cells #[.slice Ao154 t368.length co154, .slice Ao156 t371.length co156, .int .i64 t374] 31 (0, 0)) (by (with_reducible repeat (first | refine blk_drewN ?_ _ | refine blk_drew ?_ | refine blk_alloc ?_ _)); refine blk_put (cs := #[.slice Ao154 t368.length co154, .slice Ao156 t371.length co156, .int .i64 0]) ?_ 2 _ rfl; (with_reducible repeat (first | refine blk_drewN ?_ _ | refine blk_drew ?_ | refine blk_alloc ?_ _)); refine blk_put (cs := #[.slice Ao154 t368.length co154, .slice none 0 0, .int .i64 0]) ?_ 1 _ rfl; (with_reducible repeat (first | refine blk_drewN ?_ _ | refine blk_drew ?_ | refine blk_alloc ?_ _)); refine blk_put (cs := #[.slice none 0 0, .slice none 0 0, .int .i64 0]) ?_ 0 _ rfl; (with_reducible repeat (first | refine blk_drewN ?_ _ | refine blk_drew ?_ | refine blk_alloc ?_ _)); exact BK376.out) hb); have n16_ := Aside0.mk (below_step KB hb); clear HO_319000; clear HO_319001; clear HO_327000; clear HO_327001; clear HO_340000; clear HO_340001; clear HO359; clear HO362; clear HO370; clear HO373; clear BK295; clear BK296; clear BK318; clear BK326; clear BK339; clear BK376; clear HB; have HO_319000 := n0_; have HO_319001 := n1_; have HO_327000 := n2_; have HO_327001 := n3_; have HO_340000 := n4_; have HO_340001 := n5_; have HO359 := n6_; have HO362 := n7_; have HO370 := n8_; have HO373 := n9_; have BK295 := n10_; have BK296 := n11_; have BK318 := n12_; have BK326 := n13_; have BK339 := n14_; have BK376 := n15_; have HB := n16_; clear n0_ n1_ n2_ n3_ n4_ n5_ n6_ n7_ n8_ n9_ n10_ n11_ n12_ n13_ n14_ n15_ n16_; (try clear hb); (try clear hb2); (try clear hk); (try clear hi)))
           go_meet
           case rel => exact ⟨_, ((t375 != t317)), (by first | rfl | (simp; done) | (simp [*]; done)), H', ⟨by have := HJ24.out; have := HJ93.out; first | omega | exact Nat.le_refl _⟩, ⟨by (try simp only [hl327000_93]); (try simp only [hl327001_93]); (with_reducible repeat (first | apply Kd.R_alloc | apply Kd.R_drewN | apply Kd.R_drew)); exact Kd.R_mono HO_319000.out (fun _ hk => ⟨hk.2.2.2.2.1, ⟨hk.2.2.2.2.2.1, ⟨hk.2.2.2.2.2.2.1, ⟨hk.2.2.2.2.2.2.2.1, ⟨hk.2.2.2.2.2.2.2.2, ⟨hk.2.2.1, hk.2.2.2.1⟩⟩⟩⟩⟩⟩)⟩, ⟨by (try simp only [hl327000_93]); (try simp only [hl327001_93]); (with_reducible repeat (first | apply Kd.R_alloc | apply Kd.R_drewN | apply Kd.R_drew)); exact Kd.R_mono HO_319001.out (fun _ hk => ⟨hk.2.2.2.2.1, ⟨hk.2.2.2.2.2.1, ⟨hk.2.2.2.2.2.2.1, ⟨hk.2.2.2.2.2.2.2.1, ⟨hk.2.2.2.2.2.2.2.2, ⟨hk.2.2.1, hk.2.2.2.1⟩⟩⟩⟩⟩⟩)⟩, ⟨by (try simp only [hl327000_93]); (try simp only [hl327001_93]); (with_reducible repeat (first | apply Kd.R_alloc | apply Kd.R_drewN | apply Kd.R_drew)); exact Kd.R_mono HO_327000.out (fun _ hk => ⟨hk.2.2.2.2.1, ⟨hk.2.2.2.2.2.1, ⟨hk.2.2.2.2.2.2.1, ⟨hk.2.2.2.2.2.2.2.1, ⟨hk.2.2.2.2.2.2.2.2, ⟨hk.2.2.1, hk.2.2.2.1⟩⟩⟩⟩⟩⟩)⟩, ⟨by (try simp only [hl327000_93]); (try simp only [hl327001_93]); (with_reducible repeat (first | apply Kd.R_alloc | apply Kd.R_drewN | apply Kd.R_drew)); exact Kd.R_mono HO_327001.out (fun _ hk => ⟨hk.2.2.2.2.1, ⟨hk.2.2.2.2.2.1, ⟨hk.2.2.2.2.2.2.1, ⟨hk.2.2.2.2.2.2.2.1, ⟨hk.2.2.2.2.2.2.2.2, ⟨hk.2.2.1, hk.2.2.2.1⟩⟩⟩⟩⟩⟩)⟩, ⟨by (try simp only [hl327000_93]); (try simp only [hl327001_93]); (with_reducible repeat (first | apply Kd.R_alloc | apply Kd.R_drewN | apply Kd.R_drew)); exact Kd.R_mono HO_340000.out (fun _ hk => ⟨hk.2.2.2.2.1, ⟨hk.2.2.2.2.2.1, ⟨hk.2.2.2.2.2.2.1, ⟨hk.2.2.2.2.2.2.2.1, ⟨hk.2.2.2.2.2.2.2.2, ⟨hk.2.2.1, hk.2.2.2.1⟩⟩⟩⟩⟩⟩)⟩, ⟨by (try simp only [hl327000_93]); (try simp only [hl327001_93]); (with_reducible repeat (first | apply Kd.R_alloc | apply Kd.R_drewN | apply Kd.R_drew)); exact Kd.R_mono HO_340001.out (fun _ hk => ⟨hk.2.2.2.2.1, ⟨hk.2.2.2.2.2.1, ⟨hk.2.2.2.2.2.2.1, ⟨hk.2.2.2.2.2.2.2.1, ⟨hk.2.2.2.2.2.2.2.2, ⟨hk.2.2.1, hk.2.2.2.1⟩⟩⟩⟩⟩⟩)⟩, ⟨by (try simp only [hl327000_93]); (try simp only [hl327001_93]); (with_reducible repeat (first | apply Kd.R_alloc | apply Kd.R_drewN | apply Kd.R_drew)); exact Kd.R_mono HO370.out (fun _ hk => ⟨hk.2.2.2.1, ⟨hk.2.2.2.2.1, ⟨hk.2.2.2.2.2.1, ⟨hk.2.2.2.2.2.2.1, ⟨hk.2.2.2.2.2.2.2.1, ⟨hk.2.2.2.2.2.2.2.2, hk.2.2.1⟩⟩⟩⟩⟩⟩)⟩, ⟨by (try simp only [hl327000_93]); (try simp only [hl327001_93]); (with_reducible repeat (first | apply Kd.R_alloc | apply Kd.R_drewN | apply Kd.R_drew)); exact Kd.R_mono HO373.out (fun _ hk => ⟨hk.2.2.2.1, ⟨hk.2.2.2.2.1, ⟨hk.2.2.2.2.2.1, ⟨hk.2.2.2.2.2.2.1, ⟨hk.2.2.2.2.2.2.2.1, ⟨hk.2.2.2.2.2.2.2.2, hk.2.2.1⟩⟩⟩⟩⟩⟩)⟩, ⟨by (try simp only [hl327000_93]); (try simp only [hl327001_93]); (with_reducible repeat (first | refine blk_drewN ?_ _ | refine blk_drew ?_ | refine blk_alloc ?_ _)); exact BK295.out⟩, ⟨by (try simp only [hl327000_93]); (try simp only [hl327001_93]); (with_reducible repeat (first | refine blk_drewN ?_ _ | refine blk_drew ?_ | refine blk_alloc ?_ _)); exact BK296.out⟩, ⟨by (try simp only [hl327000_93]); (try simp only [hl327001_93]); (with_reducible repeat (first | refine blk_drewN ?_ _ | refine blk_drew ?_ | refine blk_alloc ?_ _)); exact BK318.out⟩, ⟨by (try simp only [hl327000_93]); (try simp only [hl327001_93]); (with_reducible repeat (first | refine blk_drewN ?_ _ | refine blk_drew ?_ | refine blk_alloc ?_ _)); exact BK326.out⟩, ⟨by (try simp only [hl327000_93]); (try simp only [hl327001_93]); (with_reducible repeat (first | refine blk_drewN ?_ _ | refine blk_drew ?_ | refine blk_alloc ?_ _)); exact BK339.out⟩, ⟨by (try simp only [hl327000_93]); (try simp only [hl327001_93]); (with_reducible repeat (first | refine blk_drewN ?_ _ | refine blk_drew ?_ | refine blk_alloc ?_ _)); exact BK376.out⟩, ⟨KB⟩⟩
          ·replace c160 := Bool.eq_false_iff.mpr c160
           subst c160
           have H1 : (laws_FnExactStorePut.j2 kj93 t353 true t354 t355 t337) = some r := by rw [if_neg (show ¬ (false = true) by decide)] at H; exact H
           clear H
           have H := H1
           clear H1
           have H' := Aside0.mk H
           clear H
           have hnb173 := NB376_295.out
           have hnc173 := NB295_376.out
           have hnb174 := NB376_296.out
           have hnc174 := NB296_376.out
           have hnb175 := NB376_318.out
           have hnc175 := NB318_376.out
           have hnb176 := NB376_326.out
           have hnc176 := NB326_376.out
           have hnb177 := NB376_339.out
           have hnc177 := NB339_376.out
           have hcz178_0 : w153.cell? ⟨gb376, 0, none⟩ = some (.slice none 0 0) := (blk_cell BK376.out 0).trans rfl
           have hcz178_1 : w153.cell? ⟨gb376, 1, none⟩ = some (.slice none 0 0) := (blk_cell BK376.out 1).trans rfl
           have hcz178_2 : w153.cell? ⟨gb376, 2, none⟩ = some (.int .i64 0) := (blk_cell BK376.out 2).trans rfl
           have hfz178_0 := blk_frozen BK376.out 0
           have hfz178_1 := blk_frozen BK376.out 1
           have hfz178_2 := blk_frozen BK376.out 2
           have hnb179 := NB318_295.out
           have hnc179 := NB295_318.out
           have hnb180 := NB318_296.out
           have hnc180 := NB296_318.out
           have hnb181 := NB318_326.out
           have hnc181 := NB326_318.out
           have hnb182 := NB318_339.out
           have hnc182 := NB339_318.out
           have hcz183_0 : w153.cell? ⟨gb318, 0, none⟩ = some (.slice Ao41 t310.length co41) := (blk_cell BK318.out 0).trans rfl
           have hcz183_1 : w153.cell? ⟨gb318, 1, none⟩ = some (.slice Ao43 t313.length co43) := (blk_cell BK318.out 1).trans rfl
           have hcz183_2 : w153.cell? ⟨gb318, 2, none⟩ = some (.int .i64 t316) := (blk_cell BK318.out 2).trans rfl
           have hfz183_0 := blk_frozen BK318.out 0
           have hfz183_1 := blk_frozen BK318.out 1
           have hfz183_2 := blk_frozen BK318.out 2
           go_wp2_with (first | ((with_reducible refine gate_callee (f := 15) rfl ?_); refine goesL_ (some 94) rfl rfl Try.func15 (by kernel_rfl) rfl #[.agg #[.slice Ao154 t368.length co154, .slice Ao156 t371.length co156, .int .i64 t374], .agg #[.slice Ao41 t310.length co41, .slice Ao43 t313.length co43, .int .i64 t316]] rfl KL ?_; (with_reducible refine (laws_eqStore.calls kj93 _ _ t368 _ _ t371 t374 _ _ t310 _ _ t313 t316 false _ ?side1 ?side2 ?side3 ?side4 ?side5 ?side6 ?side7 ?side8 A159.out).mono ?_); (case side1 => refine (Kd.R_reads' (e := 35) (base := w.heap.size) (ok := fun k_ => (some k_ ≠ (v358 : Value).ownBlock ∧ (some k_ ≠ (v361 : Value).ownBlock ∧ (some k_ ≠ (.slice Ao156 t371.length co156 : Value).ownBlock ∧ (some k_ ≠ (.slice Ao41 t310.length co41 : Value).ownBlock ∧ (some k_ ≠ (.slice Ao43 t313.length co43 : Value).ownBlock ∧ (some k_ ≠ (.slice Ao50 t350.length co50 : Value).ownBlock ∧ (some k_ ≠ (.slice Ao55 t351.length co55 : Value).ownBlock ∧ (some k_ ≠ (.slice Ao62 t331.length co62 : Value).ownBlock ∧ some k_ ≠ (.slice Ao64 t334.length co64 : Value).ownBlock))))))))) (n := t368.length) (c := co154) ?_).2.2; exact (by (with_reducible repeat (first | apply Kd.R_alloc | apply Kd.R_drewN | apply Kd.R_drew)); exact (Kd.R_mono (Kd.R_far (p := ⟨gb376, 2, none⟩) (Kd.R_far (p := ⟨gb376, 1, none⟩) (Kd.R_far (p := ⟨gb376, 0, none⟩) (Kd.R_types HO370.out BK376.out (by decide)) (fun _ hk => hk.2) (.slice Ao154 t368.length co154)) (fun _ hk => hk.2) (.slice Ao156 t371.length co156)) (fun _ hk => hk.2) (.int .i64 t374)) (fun _ h_ => h_.1)))); (case side2 => exact (Kd.R_reads' HO370.out).2.1); (case side3 => refine (Kd.R_reads' (e := 35) (base := w.heap.size) (ok := fun k_ => (some k_ ≠ (v358 : Value).ownBlock ∧ (some k_ ≠ (v361 : Value).ownBlock ∧ (some k_ ≠ (.slice Ao154 t368.length co154 : Value).ownBlock ∧ (some k_ ≠ (.slice Ao41 t310.length co41 : Value).ownBlock ∧ (some k_ ≠ (.slice Ao43 t313.length co43 : Value).ownBlock ∧ (some k_ ≠ (.slice Ao50 t350.length co50 : Value).ownBlock ∧ (some k_ ≠ (.slice Ao55 t351.length co55 : Value).ownBlock ∧ (some k_ ≠ (.slice Ao62 t331.length co62 : Value).ownBlock ∧ some k_ ≠ (.slice Ao64 t334.length co64 : Value).ownBlock))))))))) (n := t371.length) (c := co156) ?_).2.2; exact (by (with_reducible repeat (first | apply Kd.R_alloc | apply Kd.R_drewN | apply Kd.R_drew)); exact (Kd.R_mono (Kd.R_far (p := ⟨gb376, 2, none⟩) (Kd.R_far (p := ⟨gb376, 1, none⟩) (Kd.R_far (p := ⟨gb376, 0, none⟩) (Kd.R_types HO373.out BK376.out (by decide)) (fun _ hk => hk.2) (.slice Ao154 t368.length co154)) (fun _ hk => hk.2) (.slice Ao156 t371.length co156)) (fun _ hk => hk.2) (.int .i64 t374)) (fun _ h_ => h_.1)))); (case side4 => exact (Kd.R_reads' HO373.out).2.1); (case side5 => refine (Kd.R_reads' (e := 35) (base := w.heap.size) (ok := fun k_ => (some k_ ≠ (v358 : Value).ownBlock ∧ (some k_ ≠ (v361 : Value).ownBlock ∧ (some k_ ≠ (.slice Ao154 t368.length co154 : Value).ownBlock ∧ (some k_ ≠ (.slice Ao156 t371.length co156 : Value).ownBlock ∧ (some k_ ≠ (.slice Ao43 t313.length co43 : Value).ownBlock ∧ (some k_ ≠ (.slice Ao50 t350.length co50 : Value).ownBlock ∧ (some k_ ≠ (.slice Ao55 t351.length co55 : Value).ownBlock ∧ (some k_ ≠ (.slice Ao62 t331.length co62 : Value).ownBlock ∧ some k_ ≠ (.slice Ao64 t334.length co64 : Value).ownBlock))))))))) (n := t310.length) (c := co41) ?_).2.2; exact (by (with_reducible repeat (first | apply Kd.R_alloc | apply Kd.R_drewN | apply Kd.R_drew)); exact (Kd.R_mono (Kd.R_far (p := ⟨gb376, 2, none⟩) (Kd.R_far (p := ⟨gb376, 1, none⟩) (Kd.R_far (p := ⟨gb376, 0, none⟩) (Kd.R_types HO_319000.out BK376.out (by decide)) (fun _ hk => hk.2) (.slice Ao154 t368.length co154)) (fun _ hk => hk.2) (.slice Ao156 t371.length co156)) (fun _ hk => hk.2) (.int .i64 t374)) (fun _ h_ => h_.1)))); (case side6 => exact (Kd.R_reads' HO_319000.out).2.1); (case side7 => refine (Kd.R_reads' (e := 35) (base := w.heap.size) (ok := fun k_ => (some k_ ≠ (v358 : Value).ownBlock ∧ (some k_ ≠ (v361 : Value).ownBlock ∧ (some k_ ≠ (.slice Ao154 t368.length co154 : Value).ownBlock ∧ (some k_ ≠ (.slice Ao156 t371.length co156 : Value).ownBlock ∧ (some k_ ≠ (.slice Ao41 t310.length co41 : Value).ownBlock ∧ (some k_ ≠ (.slice Ao50 t350.length co50 : Value).ownBlock ∧ (some k_ ≠ (.slice Ao55 t351.length co55 : Value).ownBlock ∧ (some k_ ≠ (.slice Ao62 t331.length co62 : Value).ownBlock ∧ some k_ ≠ (.slice Ao64 t334.length co64 : Value).ownBlock))))))))) (n := t313.length) (c := co43) ?_).2.2; exact (by (with_reducible repeat (first | apply Kd.R_alloc | apply Kd.R_drewN | apply Kd.R_drew)); exact (Kd.R_mono (Kd.R_far (p := ⟨gb376, 2, none⟩) (Kd.R_far (p := ⟨gb376, 1, none⟩) (Kd.R_far (p := ⟨gb376, 0, none⟩) (Kd.R_types HO_319001.out BK376.out (by decide)) (fun _ hk => hk.2) (.slice Ao154 t368.length co154)) (fun _ hk => hk.2) (.slice Ao156 t371.length co156)) (fun _ hk => hk.2) (.int .i64 t374)) (fun _ h_ => h_.1)))); (case side8 => exact (Kd.R_reads' HO_319001.out).2.1); rintro e w184 ⟨rfl, hb⟩; refine ⟨_, rfl, ?_⟩; have n0_ := Aside0.mk (Kd.R_below (by (with_reducible repeat (first | apply Kd.R_alloc | apply Kd.R_drewN | apply Kd.R_drew)); exact (Kd.R_mono (Kd.R_far (p := ⟨gb376, 2, none⟩) (Kd.R_far (p := ⟨gb376, 1, none⟩) (Kd.R_far (p := ⟨gb376, 0, none⟩) (Kd.R_types HO_319000.out BK376.out (by decide)) (fun _ hk => hk.2) (.slice Ao154 t368.length co154)) (fun _ hk => hk.2) (.slice Ao156 t371.length co156)) (fun _ hk => hk.2) (.int .i64 t374)) (fun _ h_ => h_.1))) hb); have n1_ := Aside0.mk (Kd.R_below (by (with_reducible repeat (first | apply Kd.R_alloc | apply Kd.R_drewN | apply Kd.R_drew)); exact (Kd.R_mono (Kd.R_far (p := ⟨gb376, 2, none⟩) (Kd.R_far (p := ⟨gb376, 1, none⟩) (Kd.R_far (p := ⟨gb376, 0, none⟩) (Kd.R_types HO_319001.out BK376.out (by decide)) (fun _ hk => hk.2) (.slice Ao154 t368.length co154)) (fun _ hk => hk.2) (.slice Ao156 t371.length co156)) (fun _ hk => hk.2) (.int .i64 t374)) (fun _ h_ => h_.1))) hb); have n2_ := Aside0.mk (Kd.R_below (by (with_reducible repeat (first | apply Kd.R_alloc | apply Kd.R_drewN | apply Kd.R_drew)); exact (Kd.R_mono (Kd.R_far (p := ⟨gb376, 2, none⟩) (Kd.R_far (p := ⟨gb376, 1, none⟩) (Kd.R_far (p := ⟨gb376, 0, none⟩) (Kd.R_types HO_327000.out BK376.out (by decide)) (fun _ hk => hk.2) (.slice Ao154 t368.length co154)) (fun _ hk => hk.2) (.slice Ao156 t371.length co156)) (fun _ hk => hk.2) (.int .i64 t374)) (fun _ h_ => h_.1))) hb); have n3_ := Aside0.mk (Kd.R_below (by (with_reducible repeat (first | apply Kd.R_alloc | apply Kd.R_drewN | apply Kd.R_drew)); exact (Kd.R_mono (Kd.R_far (p := ⟨gb376, 2, none⟩) (Kd.R_far (p := ⟨gb376, 1, none⟩) (Kd.R_far (p := ⟨gb376, 0, none⟩) (Kd.R_types HO_327001.out BK376.out (by decide)) (fun _ hk => hk.2) (.slice Ao154 t368.length co154)) (fun _ hk => hk.2) (.slice Ao156 t371.length co156)) (fun _ hk => hk.2) (.int .i64 t374)) (fun _ h_ => h_.1))) hb); have n4_ := Aside0.mk (Kd.R_below (by (with_reducible repeat (first | apply Kd.R_alloc | apply Kd.R_drewN | apply Kd.R_drew)); exact (Kd.R_mono (Kd.R_far (p := ⟨gb376, 2, none⟩) (Kd.R_far (p := ⟨gb376, 1, none⟩) (Kd.R_far (p := ⟨gb376, 0, none⟩) (Kd.R_types HO_340000.out BK376.out (by decide)) (fun _ hk => hk.2) (.slice Ao154 t368.length co154)) (fun _ hk => hk.2) (.slice Ao156 t371.length co156)) (fun _ hk => hk.2) (.int .i64 t374)) (fun _ h_ => h_.1))) hb); have n5_ := Aside0.mk (Kd.R_below (by (with_reducible repeat (first | apply Kd.R_alloc | apply Kd.R_drewN | apply Kd.R_drew)); exact (Kd.R_mono (Kd.R_far (p := ⟨gb376, 2, none⟩) (Kd.R_far (p := ⟨gb376, 1, none⟩) (Kd.R_far (p := ⟨gb376, 0, none⟩) (Kd.R_types HO_340001.out BK376.out (by decide)) (fun _ hk => hk.2) (.slice Ao154 t368.length co154)) (fun _ hk => hk.2) (.slice Ao156 t371.length co156)) (fun _ hk => hk.2) (.int .i64 t374)) (fun _ h_ => h_.1))) hb); have n6_ := Aside0.mk (Kd.R_below (by (with_reducible repeat (first | apply Kd.R_alloc | apply Kd.R_drewN | apply Kd.R_drew)); exact (Kd.R_mono (Kd.R_far (p := ⟨gb376, 2, none⟩) (Kd.R_far (p := ⟨gb376, 1, none⟩) (Kd.R_far (p := ⟨gb376, 0, none⟩) (Kd.R_types HO359.out BK376.out (by decide)) (fun _ hk => hk.2) (.slice Ao154 t368.length co154)) (fun _ hk => hk.2) (.slice Ao156 t371.length co156)) (fun _ hk => hk.2) (.int .i64 t374)) (fun _ h_ => h_.1))) hb); have n7_ := Aside0.mk (Kd.R_below (by (with_reducible repeat (first | apply Kd.R_alloc | apply Kd.R_drewN | apply Kd.R_drew)); exact (Kd.R_mono (Kd.R_far (p := ⟨gb376, 2, none⟩) (Kd.R_far (p := ⟨gb376, 1, none⟩) (Kd.R_far (p := ⟨gb376, 0, none⟩) (Kd.R_types HO362.out BK376.out (by decide)) (fun _ hk => hk.2) (.slice Ao154 t368.length co154)) (fun _ hk => hk.2) (.slice Ao156 t371.length co156)) (fun _ hk => hk.2) (.int .i64 t374)) (fun _ h_ => h_.1))) hb); have n8_ := Aside0.mk (Kd.R_below (by (with_reducible repeat (first | apply Kd.R_alloc | apply Kd.R_drewN | apply Kd.R_drew)); exact (Kd.R_mono (Kd.R_far (p := ⟨gb376, 2, none⟩) (Kd.R_far (p := ⟨gb376, 1, none⟩) (Kd.R_far (p := ⟨gb376, 0, none⟩) (Kd.R_types HO370.out BK376.out (by decide)) (fun _ hk => hk.2) (.slice Ao154 t368.length co154)) (fun _ hk => hk.2) (.slice Ao156 t371.length co156)) (fun _ hk => hk.2) (.int .i64 t374)) (fun _ h_ => h_.1))) hb); have n9_ := Aside0.mk (Kd.R_below (by (with_reducible repeat (first | apply Kd.R_alloc | apply Kd.R_drewN | apply Kd.R_drew)); exact (Kd.R_mono (Kd.R_far (p := ⟨gb376, 2, none⟩) (Kd.R_far (p := ⟨gb376, 1, none⟩) (Kd.R_far (p := ⟨gb376, 0, none⟩) (Kd.R_types HO373.out BK376.out (by decide)) (fun _ hk => hk.2) (.slice Ao154 t368.length co154)) (fun _ hk => hk.2) (.slice Ao156 t371.length co156)) (fun _ hk => hk.2) (.int .i64 t374)) (fun _ h_ => h_.1))) hb); have n10_ := Aside0.mk (blk_below (g := gb295) (o := .cells #[.slice A0_0 l0_0.length c0_0, .slice A0_1 l0_1.length c0_1, .int .i64 a0_2] 24 (0, 0)) KK hb); have n11_ := Aside0.mk (blk_below (g := gb296) (o := .cells #[.int .i64 a1_0, .int .i64 a1_1, .bool a1_2, .string a1_3] 26 (0, 0)) KK hb); have n12_ := Aside0.mk (blk_below (g := gb318) (o := .cells #[.slice Ao41 t310.length co41, .slice Ao43 t313.length co43, .int .i64 t316] 31 (0, 0)) KK hb); have n13_ := Aside0.mk (blk_below (g := gb326) (o := .cells #[.slice Ao50 t350.length co50, .slice Ao55 t351.length co55, .int .i64 t325] 31 (0, 0)) KK hb); have n14_ := Aside0.mk (blk_below (g := gb339) (o := .cells #[.slice Ao62 t331.length co62, .slice Ao64 t334.length co64, .int .i64 t337] 31 (0, 0)) KK hb); have n15_ := Aside0.mk (blk_below (g := gb376) (o := .cells #[.slice Ao154 t368.length co154, .slice Ao156 t371.length co156, .int .i64 t374] 31 (0, 0)) (by (with_reducible repeat (first | refine blk_drewN ?_ _ | refine blk_drew ?_ | refine blk_alloc ?_ _)); refine blk_put (cs := #[.slice Ao154 t368.length co154, .slice Ao156 t371.length co156, .int .i64 0]) ?_ 2 _ rfl; (with_reducible repeat (first | refine blk_drewN ?_ _ | refine blk_drew ?_ | refine blk_alloc ?_ _)); refine blk_put (cs := #[.slice Ao154 t368.length co154, .slice none 0 0, .int .i64 0]) ?_ 1 _ rfl; (with_reducible repeat (first | refine blk_drewN ?_ _ | refine blk_drew ?_ | refine blk_alloc ?_ _)); refine blk_put (cs := #[.slice none 0 0, .slice none 0 0, .int .i64 0]) ?_ 0 _ rfl; (with_reducible repeat (first | refine blk_drewN ?_ _ | refine blk_drew ?_ | refine blk_alloc ?_ _)); exact BK376.out) hb); have n16_ := Aside0.mk (below_step KB hb); clear HO_319000; clear HO_319001; clear HO_327000; clear HO_327001; clear HO_340000; clear HO_340001; clear HO359; clear HO362; clear HO370; clear HO373; clear BK295; clear BK296; clear BK318; clear BK326; clear BK339; clear BK376; clear HB; have HO_319000 := n0_; have HO_319001 := n1_; have HO_327000 := n2_; have HO_327001 := n3_; have HO_340000 := n4_; have HO_340001 := n5_; have HO359 := n6_; have HO362 := n7_; have HO370 := n8_; have HO373 := n9_; have BK295 := n10_; have BK296 := n11_; have BK318 := n12_; have BK326 := n13_; have BK339 := n14_; have BK376 := n15_; have HB := n16_; clear n0_ n1_ n2_ n3_ n4_ n5_ n6_ n7_ n8_ n9_ n10_ n11_ n12_ n13_ n14_ n15_ n16_; (try clear hb); (try clear hb2); (try clear hk); (try clear hi)))
           go_meet
           case rel => exact ⟨_, (true), (by first | rfl | (simp; done) | (simp [*]; done)), H', ⟨by have := HJ24.out; have := HJ93.out; first | omega | exact Nat.le_refl _⟩, ⟨by (try simp only [hl327000_93]); (try simp only [hl327001_93]); (with_reducible repeat (first | apply Kd.R_alloc | apply Kd.R_drewN | apply Kd.R_drew)); exact Kd.R_mono HO_319000.out (fun _ hk => ⟨hk.2.2.2.2.1, ⟨hk.2.2.2.2.2.1, ⟨hk.2.2.2.2.2.2.1, ⟨hk.2.2.2.2.2.2.2.1, ⟨hk.2.2.2.2.2.2.2.2, ⟨hk.2.2.1, hk.2.2.2.1⟩⟩⟩⟩⟩⟩)⟩, ⟨by (try simp only [hl327000_93]); (try simp only [hl327001_93]); (with_reducible repeat (first | apply Kd.R_alloc | apply Kd.R_drewN | apply Kd.R_drew)); exact Kd.R_mono HO_319001.out (fun _ hk => ⟨hk.2.2.2.2.1, ⟨hk.2.2.2.2.2.1, ⟨hk.2.2.2.2.2.2.1, ⟨hk.2.2.2.2.2.2.2.1, ⟨hk.2.2.2.2.2.2.2.2, ⟨hk.2.2.1, hk.2.2.2.1⟩⟩⟩⟩⟩⟩)⟩, ⟨by (try simp only [hl327000_93]); (try simp only [hl327001_93]); (with_reducible repeat (first | apply Kd.R_alloc | apply Kd.R_drewN | apply Kd.R_drew)); exact Kd.R_mono HO_327000.out (fun _ hk => ⟨hk.2.2.2.2.1, ⟨hk.2.2.2.2.2.1, ⟨hk.2.2.2.2.2.2.1, ⟨hk.2.2.2.2.2.2.2.1, ⟨hk.2.2.2.2.2.2.2.2, ⟨hk.2.2.1, hk.2.2.2.1⟩⟩⟩⟩⟩⟩)⟩, ⟨by (try simp only [hl327000_93]); (try simp only [hl327001_93]); (with_reducible repeat (first | apply Kd.R_alloc | apply Kd.R_drewN | apply Kd.R_drew)); exact Kd.R_mono HO_327001.out (fun _ hk => ⟨hk.2.2.2.2.1, ⟨hk.2.2.2.2.2.1, ⟨hk.2.2.2.2.2.2.1, ⟨hk.2.2.2.2.2.2.2.1, ⟨hk.2.2.2.2.2.2.2.2, ⟨hk.2.2.1, hk.2.2.2.1⟩⟩⟩⟩⟩⟩)⟩, ⟨by (try simp only [hl327000_93]); (try simp only [hl327001_93]); (with_reducible repeat (first | apply Kd.R_alloc | apply Kd.R_drewN | apply Kd.R_drew)); exact Kd.R_mono HO_340000.out (fun _ hk => ⟨hk.2.2.2.2.1, ⟨hk.2.2.2.2.2.1, ⟨hk.2.2.2.2.2.2.1, ⟨hk.2.2.2.2.2.2.2.1, ⟨hk.2.2.2.2.2.2.2.2, ⟨hk.2.2.1, hk.2.2.2.1⟩⟩⟩⟩⟩⟩)⟩, ⟨by (try simp only [hl327000_93]); (try simp only [hl327001_93]); (with_reducible repeat (first | apply Kd.R_alloc | apply Kd.R_drewN | apply Kd.R_drew)); exact Kd.R_mono HO_340001.out (fun _ hk => ⟨hk.2.2.2.2.1, ⟨hk.2.2.2.2.2.1, ⟨hk.2.2.2.2.2.2.1, ⟨hk.2.2.2.2.2.2.2.1, ⟨hk.2.2.2.2.2.2.2.2, ⟨hk.2.2.1, hk.2.2.2.1⟩⟩⟩⟩⟩⟩)⟩, ⟨by (try simp only [hl327000_93]); (try simp only [hl327001_93]); (with_reducible repeat (first | apply Kd.R_alloc | apply Kd.R_drewN | apply Kd.R_drew)); exact Kd.R_mono HO370.out (fun _ hk => ⟨hk.2.2.2.1, ⟨hk.2.2.2.2.1, ⟨hk.2.2.2.2.2.1, ⟨hk.2.2.2.2.2.2.1, ⟨hk.2.2.2.2.2.2.2.1, ⟨hk.2.2.2.2.2.2.2.2, hk.2.2.1⟩⟩⟩⟩⟩⟩)⟩, ⟨by (try simp only [hl327000_93]); (try simp only [hl327001_93]); (with_reducible repeat (first | apply Kd.R_alloc | apply Kd.R_drewN | apply Kd.R_drew)); exact Kd.R_mono HO373.out (fun _ hk => ⟨hk.2.2.2.1, ⟨hk.2.2.2.2.1, ⟨hk.2.2.2.2.2.1, ⟨hk.2.2.2.2.2.2.1, ⟨hk.2.2.2.2.2.2.2.1, ⟨hk.2.2.2.2.2.2.2.2, hk.2.2.1⟩⟩⟩⟩⟩⟩)⟩, ⟨by (try simp only [hl327000_93]); (try simp only [hl327001_93]); (with_reducible repeat (first | refine blk_drewN ?_ _ | refine blk_drew ?_ | refine blk_alloc ?_ _)); exact BK295.out⟩, ⟨by (try simp only [hl327000_93]); (try simp only [hl327001_93]); (with_reducible repeat (first | refine blk_drewN ?_ _ | refine blk_drew ?_ | refine blk_alloc ?_ _)); exact BK296.out⟩, ⟨by (try simp only [hl327000_93]); (try simp only [hl327001_93]); (with_reducible repeat (first | refine blk_drewN ?_ _ | refine blk_drew ?_ | refine blk_alloc ?_ _)); exact BK318.out⟩, ⟨by (try simp only [hl327000_93]); (try simp only [hl327001_93]); (with_reducible repeat (first | refine blk_drewN ?_ _ | refine blk_drew ?_ | refine blk_alloc ?_ _)); exact BK326.out⟩, ⟨by (try simp only [hl327000_93]); (try simp only [hl327001_93]); (with_reducible repeat (first | refine blk_drewN ?_ _ | refine blk_drew ?_ | refine blk_alloc ?_ _)); exact BK339.out⟩, ⟨by (try simp only [hl327000_93]); (try simp only [hl327001_93]); (with_reducible repeat (first | refine blk_drewN ?_ _ | refine blk_drew ?_ | refine blk_alloc ?_ _)); exact BK376.out⟩, ⟨KB⟩⟩
         case rest =>
          clear HC137
          try clear c1
          try clear p2
          try clear c12
          try clear c13
          try clear c14
          try clear c15
          try clear c16
          try clear c17
          try clear c18
          try clear c160
          try clear c161
          try clear c162
          try clear c163
          try clear c164
          try clear c165
          try clear c167
          try clear c168
          try clear c169
          try clear c170
          try clear c173
          try clear c174
          try clear c175
          try clear c176
          try clear c177
          try clear c179
          try clear c180
          try clear c181
          try clear c182
          try clear hcz166_0
          try clear hcz166_1
          try clear hcz166_2
          try clear hcz171_0
          try clear hcz171_1
          try clear hcz171_2
          try clear hcz178_0
          try clear hcz178_1
          try clear hcz178_2
          try clear hcz183_0
          try clear hcz183_1
          try clear hcz183_2
          try clear hfz166_0
          try clear hfz166_1
          try clear hfz166_2
          try clear hfz171_0
          try clear hfz171_1
          try clear hfz171_2
          try clear hfz178_0
          try clear hfz178_1
          try clear hfz178_2
          try clear hfz183_0
          try clear hfz183_1
          try clear hfz183_2
          obtain ⟨kq, x100_136, rfl, HA, HJ136, HO_319000, HO_319001, HO_327000, HO_327001, HO_340000, HO_340001, HO_377000, HO_377001, BK295, BK296, BK318, BK326, BK339, BK376, HB⟩ := hcut
          have hl340000_136 := (Kd.R_reads' HO_340000.out).1
          rw [hl340000_136] at HO_340000
          (try simp only [hl340000_136])
          (try simp only [hl340000_136] at BK295)
          (try simp only [hl340000_136] at BK296)
          (try simp only [hl340000_136] at BK318)
          (try simp only [hl340000_136] at BK326)
          (try simp only [hl340000_136] at BK339)
          (try simp only [hl340000_136] at BK376)
          (try simp only [hl340000_136] at HO_319000)
          (try simp only [hl340000_136] at HO_319001)
          (try simp only [hl340000_136] at HO_327000)
          (try simp only [hl340000_136] at HO_327001)
          (try simp only [hl340000_136] at HO_340001)
          (try simp only [hl340000_136] at HO_377000)
          (try simp only [hl340000_136] at HO_377001)
          have hl340001_136 := (Kd.R_reads' HO_340001.out).1
          rw [hl340001_136] at HO_340001
          (try simp only [hl340001_136])
          (try simp only [hl340001_136] at BK295)
          (try simp only [hl340001_136] at BK296)
          (try simp only [hl340001_136] at BK318)
          (try simp only [hl340001_136] at BK326)
          (try simp only [hl340001_136] at BK339)
          (try simp only [hl340001_136] at BK376)
          (try simp only [hl340001_136] at HO_319000)
          (try simp only [hl340001_136] at HO_319001)
          (try simp only [hl340001_136] at HO_327000)
          (try simp only [hl340001_136] at HO_327001)
          (try simp only [hl340001_136] at HO_340000)
          (try simp only [hl340001_136] at HO_377000)
          (try simp only [hl340001_136] at HO_377001)
          cases kq with
          | zero => exact absurd HA.out (by simp [laws_FnExactStorePut.j2])
          | succ kj136 =>
           have H := HA.out
           clear HA
           simp only [laws_FnExactStorePut.j2] at H
           by_cases c185 : x100_136 = true
           ·subst c185
            have H1 : (none) = some r := by rw [if_pos rfl] at H; exact H
            clear H
            have H := H1
            clear H1
            exact absurd H (by simp)
           ·replace c185 := Bool.eq_false_iff.mpr c185
            subst c185
            have H1 : ((laws_heldStore.f kj136 t354 t355 t337 1).bind fun t378 => (if t378 < 0 then (none) else (if t378 = t353 then (some true) else (none)))) = some r := by rw [if_neg (show ¬ (false = true) by decide)] at H; exact H
            clear H
            have H := H1
            clear H1
            replace H := Option.bind_eq_some_iff.mp H
            obtain ⟨t378, A1860, H⟩ := H
            replace H : (if t378 < 0 then (none) else (if t378 = t353 then (some true) else (none))) = some r := H
            have A186 := Aside0.mk A1860
            clear A1860
            by_cases c187 : t378 < 0
            ·rw [if_pos c187] at H
             exact absurd H (by simp)
            ·rw [if_neg c187] at H
             have c187b0 : decide (t378 < 0) = false := decide_eq_false c187
             clear c187
             by_cases c188 : t378 = t353
             ·rw [if_pos c188] at H
              have c188b0 : (t378 == t353) = true := beq_iff_eq.mpr c188
              have c188b1 : (t378 != t353) = false := bne_eq_false_iff_eq.mpr c188
              clear c188
              obtain rfl := Option.some.inj H
              have hnb189 := NB339_295.out
              have hnc189 := NB295_339.out
              have hnb190 := NB339_296.out
              have hnc190 := NB296_339.out
              have hnb191 := NB339_318.out
              have hnc191 := NB318_339.out
              have hnb192 := NB339_326.out
              have hnc192 := NB326_339.out
              have hnb193 := NB339_376.out
              have hnc193 := NB376_339.out
              have hcz194_0 : wc.cell? ⟨gb339, 0, none⟩ = some (.slice Ao62 t354.length co62) := (blk_cell BK339.out 0).trans rfl
              have hcz194_1 : wc.cell? ⟨gb339, 1, none⟩ = some (.slice Ao64 t355.length co64) := (blk_cell BK339.out 1).trans rfl
              have hcz194_2 : wc.cell? ⟨gb339, 2, none⟩ = some (.int .i64 t337) := (blk_cell BK339.out 2).trans rfl
              have hfz194_0 := blk_frozen BK339.out 0
              have hfz194_1 := blk_frozen BK339.out 1
              have hfz194_2 := blk_frozen BK339.out 2
              go_wp2_with (first | ((with_reducible refine gate_callee (f := 17) rfl ?_); refine goesL_ (some 103) rfl rfl Try.func17 (by kernel_rfl) rfl #[.agg #[.slice Ao62 t354.length co62, .slice Ao64 t355.length co64, .int .i64 t337], .int .i64 1] rfl KL ?_; (with_reducible refine (laws_heldStore.calls kj136 _ _ t354 _ _ t355 t337 1 t378 _ ?side1 ?side2 ?side3 ?side4 A186.out).mono ?_); (case side1 => repeat (first | exact (Kd.R_reads' HO_340000.out).2.2 | (with_reducible refine Kd.C_alloc ?_ _) | (with_reducible refine Kd.C_drewN ?_ _) | (with_reducible refine Kd.C_drew ?_))); (case side2 => exact (Kd.R_reads' HO_340000.out).2.1); (case side3 => repeat (first | exact (Kd.R_reads' HO_340001.out).2.2 | (with_reducible refine Kd.C_alloc ?_ _) | (with_reducible refine Kd.C_drewN ?_ _) | (with_reducible refine Kd.C_drew ?_))); (case side4 => exact (Kd.R_reads' HO_340001.out).2.1); rintro e w195 ⟨rfl, hb⟩; refine ⟨_, rfl, ?_⟩; have n0_ := Aside0.mk (Kd.R_below (KR HO_319000.out) hb); have n1_ := Aside0.mk (Kd.R_below (KR HO_319001.out) hb); have n2_ := Aside0.mk (Kd.R_below (KR HO_327000.out) hb); have n3_ := Aside0.mk (Kd.R_below (KR HO_327001.out) hb); have n4_ := Aside0.mk (Kd.R_below (KR HO_340000.out) hb); have n5_ := Aside0.mk (Kd.R_below (KR HO_340001.out) hb); have n6_ := Aside0.mk (Kd.R_below (KR HO_377000.out) hb); have n7_ := Aside0.mk (Kd.R_below (KR HO_377001.out) hb); have n8_ := Aside0.mk (blk_below (g := gb295) (o := .cells #[.slice A0_0 l0_0.length c0_0, .slice A0_1 l0_1.length c0_1, .int .i64 a0_2] 24 (0, 0)) KK hb); have n9_ := Aside0.mk (blk_below (g := gb296) (o := .cells #[.int .i64 a1_0, .int .i64 a1_1, .bool a1_2, .string a1_3] 26 (0, 0)) KK hb); have n10_ := Aside0.mk (blk_below (g := gb318) (o := .cells #[.slice Ao41 t310.length co41, .slice Ao43 t313.length co43, .int .i64 t316] 31 (0, 0)) KK hb); have n11_ := Aside0.mk (blk_below (g := gb326) (o := .cells #[.slice Ao50 t350.length co50, .slice Ao55 t351.length co55, .int .i64 t325] 31 (0, 0)) KK hb); have n12_ := Aside0.mk (blk_below (g := gb339) (o := .cells #[.slice Ao62 t354.length co62, .slice Ao64 t355.length co64, .int .i64 t337] 31 (0, 0)) KK hb); have n13_ := Aside0.mk (blk_below (g := gb376) (o := .cells #[.slice Ao154 t368.length co154, .slice Ao156 t371.length co156, .int .i64 t374] 31 (0, 0)) KK hb); have n14_ := Aside0.mk (below_step KB hb); clear HO_319000; clear HO_319001; clear HO_327000; clear HO_327001; clear HO_340000; clear HO_340001; clear HO_377000; clear HO_377001; clear BK295; clear BK296; clear BK318; clear BK326; clear BK339; clear BK376; clear HB; have HO_319000 := n0_; have HO_319001 := n1_; have HO_327000 := n2_; have HO_327001 := n3_; have HO_340000 := n4_; have HO_340001 := n5_; have HO_377000 := n6_; have HO_377001 := n7_; have BK295 := n8_; have BK296 := n9_; have BK318 := n10_; have BK326 := n11_; have BK339 := n12_; have BK376 := n13_; have HB := n14_; clear n0_ n1_ n2_ n3_ n4_ n5_ n6_ n7_ n8_ n9_ n10_ n11_ n12_ n13_ n14_; (try clear hb); (try clear hb2); (try clear hk); (try clear hi)))
              go_ret
              exact ⟨KE, KB⟩
             ·rw [if_neg c188] at H
              exact absurd H (by simp)
        ·rw [if_neg c133] at H
         exact absurd H (by simp)
   ·replace c92 := Bool.eq_false_iff.mpr c92
    subst c92
    have H1 : (none) = some r := by rw [if_neg (show ¬ (false = true) by decide)] at H; exact H
    clear H
    have H := H1
    clear H1
    exact absurd H (by simp)



end Go.Proofs.Ytnoghojlpicecaa.PFnExactStorePut
