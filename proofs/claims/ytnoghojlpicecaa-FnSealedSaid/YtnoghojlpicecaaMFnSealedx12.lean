-- What each Go function that this law reaches comes to: written by a program out of the translation.
import Derived.Test.YtnoghojlpicecaaMFnSealedx0
import Derived.Test.YtnoghojlpicecaaMFnSealedx3
import Derived.Test.YtnoghojlpicecaaMFnSealedx4
import Derived.Test.YtnoghojlpicecaaMFnSealedx11
namespace Go.Proofs.Ytnoghojlpicecaa.PFnSealed
open Go.RowKit Go.Proofs.YtnoghojlpicecaaW.PrintWords Go.Proofs.YtnoghojlpicecaaW.PrintLast Go.Proofs.YtnoghojlpicecaaW.PrintMore
attribute [local go_sem] max2_int min2_int max_two min_two max_three min_three max_four min_four   -- for this text's walks alone
set_option linter.unusedVariables false
set_option linter.unusedSimpArgs false

/-! ### spec_DrawStoreSeal: function 36 -/
def spec_DrawStoreSeal.f (k : Nat) (l0 : List Int) : Option ((List (S35)) × (List (S35)) × Int × Int) := (spec_l1New.f k l0).bind fun bt549 => ((spec_l6Draw.f k bt549.1 bt549.2.1 bt549.2.2).bind fun bt553 => ((spec_l1PickInt.f bt549.1 bt553.2.2.2.1 bt553.2.2.2.2 (([0, 1, 2, 3, 4, 30, 31, (-1)] : List Int))).bind fun bt566 => (some (bt553.1, bt553.2.1, bt553.2.2.1, bt566.1))))
theorem spec_DrawStoreSeal.mono : ∀ a0 k, LeO (spec_DrawStoreSeal.f k a0) (spec_DrawStoreSeal.f (k + 1) a0) := by
 intro a0 k
 unfold spec_DrawStoreSeal.f
 repeat' first
   | (with_reducible exact spec_l1New.mono _ _)
   | (with_reducible exact spec_l6Draw.mono _ _ _ _)
   | (with_reducible exact LeO.refl _)
   | (with_reducible exact LeO.none _)
   | (with_reducible refine LeO.ite ?_ ?_)
   | (with_reducible refine LeO.bind ?_ (fun _ => ?_))
   | exact spec_l1New.mono _ _
   | exact spec_l6Draw.mono _ _ _ _
   | exact LeO.none _
   | refine LeO.ite ?_ ?_
   | refine LeO.bind ?_ (fun _ => ?_)
set_option maxHeartbeats 8000000 in
set_option maxRecDepth 100000 in
theorem spec_DrawStoreSeal.calls (k : Nat) (A0 : Option Addr) (c0 : Nat) (l0 : List Int) (r1 : List (S35)) (r2 : List (S35)) (r3 : Int) (r4 : Int) (w : World) (hr0 : Kd.C (Kd.int .u8) w A0 l0.length l0) (hc0 : l0.length ≤ c0) (h : spec_DrawStoreSeal.f k l0 = some (r1, r2, r3, r4)) :
  Calls Try.prog 36 #[.slice A0 l0.length c0] w fun e w' => ∃ v0_ v1_ : Value, e = .returned (.tuple #[.agg #[v0_, v1_, .int .i64 r3], .int .i64 r4]) ∧ Kd.R k35 35 w' w.heap.size (fun k_ => some k_ ≠ (v1_ : Value).ownBlock) v0_ r1 ∧ Kd.R k35 35 w' w.heap.size (fun k_ => some k_ ≠ (v0_ : Value).ownBlock) v1_ r2 ∧ Below w.heap.size w w' := by
 have hu31 := Try.underlying31
 have HR0 := Aside0.mk hr0
 have HC0 := Aside0.mk hc0
 clear hr0 hc0
 have HB := Aside0.mk (Below.refl w.heap.size w)
 have H : ((spec_l1New.f k l0).bind fun bt549 => ((spec_l6Draw.f k bt549.1 bt549.2.1 bt549.2.2).bind fun bt553 => ((spec_l1PickInt.f bt549.1 bt553.2.2.2.1 bt553.2.2.2.2 (([0, 1, 2, 3, 4, 30, 31, (-1)] : List Int))).bind fun bt566 => (some (bt553.1, bt553.2.1, bt553.2.2.1, bt566.1))))) = some (r1, r2, r3, r4) := h
 clear h
 replace H := Option.bind_eq_some_iff.mp H
 obtain ⟨⟨t549, t550, t551⟩, A20, H⟩ := H
 replace H : ((spec_l6Draw.f k t549 t550 t551).bind fun bt553 => ((spec_l1PickInt.f t549 bt553.2.2.2.1 bt553.2.2.2.2 (([0, 1, 2, 3, 4, 30, 31, (-1)] : List Int))).bind fun bt566 => (some (bt553.1, bt553.2.1, bt553.2.2.1, bt566.1)))) = some (r1, r2, r3, r4) := H
 have A2 := Aside0.mk A20
 clear A20
 replace H := Option.bind_eq_some_iff.mp H
 obtain ⟨⟨t553, t556, t559, t560, t561⟩, A30, H⟩ := H
 replace H : ((spec_l1PickInt.f t549 t560 t561 (([0, 1, 2, 3, 4, 30, 31, (-1)] : List Int))).bind fun bt566 => (some (t553, t556, t559, bt566.1))) = some (r1, r2, r3, r4) := H
 have A3 := Aside0.mk A30
 clear A30
 obtain ⟨y563, hy563⟩ : ∃ y_ : List Int, y_ = (([0, 1, 2, 3, 4, 30, 31, (-1)] : List Int)) := ⟨_, rfl⟩
 replace H : ((spec_l1PickInt.f t549 t560 t561 y563).bind fun bt566 => (some (t553, t556, t559, bt566.1))) = some (r1, r2, r3, r4) := by first | (rw [hy563]; with_reducible exact H) | (have H2_ := (Option.bind_some _ _).symm.trans H; rw [hy563]; with_reducible exact H2_) | (have H2_ := (Option.bind_some _ _).symm.trans H; with_reducible exact H2_) | with_reducible exact H | (rw [hy563]; exact H) | exact H
 have Ny563 := Aside0.mk hy563
 clear hy563
 replace H := Option.bind_eq_some_iff.mp H
 obtain ⟨⟨t566, t567, t568⟩, A40, H⟩ := H
 replace H : (some (t553, t556, t559, t566)) = some (r1, r2, r3, r4) := H
 have A4 := Aside0.mk A40
 clear A40
 simp only [Option.some.injEq, Prod.mk.injEq] at H
 obtain ⟨rfl, rfl, rfl, rfl⟩ := H
 go_enter Try.func36, Try.ntmps36
 try go_wp2_with (first | ((with_reducible refine gate_dst (N := 2) rfl ?_); refine BE 2 #[.slice none 0 0, .slice none 0 0, .int .i64 0] 31 ?_; intro gb548 hg w5 hbox hb; have h_ := P4 (below_step KB hb) hbox (KG hg : w.heap.size ≤ gb548) (KG hg : w.heap.size ≤ gb548); clear HB; obtain ⟨HB, BK548, GW548, GE548⟩ := h_; clear hb hbox hg) | ((with_reducible refine gate_callee (f := 55) rfl ?_); refine goesL_ (some 7) rfl rfl Try.func55 (by kernel_rfl) rfl #[.slice A0 l0.length c0] rfl KL ?_; (with_reducible refine (spec_l1New.calls k _ _ l0 t549 t550 t551 w _ ?side1 ?side2 ?side3 A2.out).mono ?_); (case side1 => exact KB); (case side2 => exact HR0.out); (case side3 => exact HC0.out); rintro e w6 ⟨g552, rfl, hi, hb, hb2⟩; refine ⟨_, rfl, ?_⟩; have h_ := P5 (BL BK548.out hb2) hb hi (IsS87.ne_blk hi (BL BK548.out hb2) (by decide)) (Ne.symm (IsS87.ne_blk hi (BL BK548.out hb2) (by decide))); clear BK548 HB; obtain ⟨BK548, HB, HI552, NB552_548, NB548_552⟩ := h_; (try clear hb); (try clear hk); (try clear hi)) | ((with_reducible refine gate_callee (f := 56) rfl ?_); refine goesL_ (some 9) rfl rfl Try.func56 (by kernel_rfl) rfl #[.pointer (some ⟨g552, 0, none⟩)] rfl KL ?_; (with_reducible refine (spec_l6Draw.calls k g552 t549 t550 t551 t553 t556 t559 t560 t561 w _ ?side1 ?side2 A3.out).mono ?_); (case side1 => exact KI87); (case side2 => exact KB87); rintro e w7 ⟨v554, v557, rfl, ho0, ho1, hi, hb, hk⟩; refine ⟨_, rfl, ?_⟩; have h_ := P5 (KW BK548.out hk NB548_552.out) (Kd.R_lower ho0 (below_size KB87)) (Kd.R_lower ho1 (below_size KB87)) hb hi; clear BK548 HB HI552; obtain ⟨BK548, HO555, HO558, HB, HI552⟩ := h_; (try clear hb); (try clear hk); (try clear hi); (try clear ho0); (try clear ho1)) | ((with_reducible refine gate_dst (N := 5) rfl ?_); refine BE 5 #[.slice none 0 0, .slice none 0 0, .int .i64 0] 31 ?_; intro gb562 hg w8 hbox hb; have h_ := P12 (Kd.R_below (KR HO555.out) hb) (Kd.R_below (KR HO558.out) hb) (BL BK548.out hb) (IsS87.below (KI87) hb) (below_step KB87 hb) hbox (by rw [hg]; exact (below_size KB87) : w.heap.size ≤ gb562) (by rw [hg]; exact (below_size KB87) : w.heap.size ≤ gb562) (NX hg BK548.out) (Ne.symm (NX hg BK548.out)) (by rw [hg]; exact Nat.ne_of_lt (IsS87.lt (show IsS87 w _ g552 t549 t560 t561 from KI87)) : g552 ≠ gb562) (by rw [hg]; exact Nat.ne_of_gt (IsS87.lt (show IsS87 w _ g552 t549 t560 t561 from KI87)) : gb562 ≠ g552); clear HO555 HO558 BK548 HI552 HB; obtain ⟨HO555, HO558, BK548, HI552, HB, BK562, GW562, GE562, NB548_562, NB562_548, NB552_562, NB562_552⟩ := h_; clear hb hbox hg; obtain ⟨Ao9, co9, eo9⟩ := Kd.R_slice HO555.out; subst eo9; have hnb10 := NB562_548.out; have hnc10 := NB548_562.out; have hnb11 := NB562_552.out; have hnc11 := NB552_562.out; obtain ⟨hcz12_0, hcz12_1, hcz12_2, hfz12_0, hfz12_1, hfz12_2⟩ := C3 BK562.out; obtain ⟨Ao13, co13, eo13⟩ := Kd.R_slice HO558.out; subst eo13))
 have n0_ : Aside0 (Kd.R k35 35 (((w8.setCell ⟨gb562, 0, none⟩ (.slice Ao9 t553.length co9)).setCell ⟨gb562, 1, none⟩ (.slice Ao13 t556.length co13)).setCell ⟨gb562, 2, none⟩ (.int .i64 t559)) w.heap.size (fun k_ => some k_ ≠ (.slice Ao13 t556.length co13 : Value).ownBlock) (.slice Ao9 t553.length co9) t553) := ⟨RQ (RT HO555.out BK562.out)⟩
 have n1_ : Aside0 (Kd.R k35 35 (((w8.setCell ⟨gb562, 0, none⟩ (.slice Ao9 t553.length co9)).setCell ⟨gb562, 1, none⟩ (.slice Ao13 t556.length co13)).setCell ⟨gb562, 2, none⟩ (.int .i64 t559)) w.heap.size (fun k_ => some k_ ≠ (.slice Ao9 t553.length co9 : Value).ownBlock) (.slice Ao13 t556.length co13) t556) := ⟨RQ (RT HO558.out BK562.out)⟩
 have n2_ : Aside0 ((((w8.setCell ⟨gb562, 0, none⟩ (.slice Ao9 t553.length co9)).setCell ⟨gb562, 1, none⟩ (.slice Ao13 t556.length co13)).setCell ⟨gb562, 2, none⟩ (.int .i64 t559)).heap[gb548]? = some (.cells #[.slice none 0 0, .slice none 0 0, .int .i64 0] 31 (0, 0))) := ⟨KK⟩
 have n3_ : Aside0 ((((w8.setCell ⟨gb562, 0, none⟩ (.slice Ao9 t553.length co9)).setCell ⟨gb562, 1, none⟩ (.slice Ao13 t556.length co13)).setCell ⟨gb562, 2, none⟩ (.int .i64 t559)).heap[gb562]? = some (.cells #[.slice Ao9 t553.length co9, .slice Ao13 t556.length co13, .int .i64 t559] 31 (0, 0))) := ⟨by refine SK ?_; refine blk_put (cs := #[.slice Ao9 t553.length co9, .slice Ao13 t556.length co13, .int .i64 0]) ?_ 2 _ rfl; refine SK ?_; refine blk_put (cs := #[.slice Ao9 t553.length co9, .slice none 0 0, .int .i64 0]) ?_ 1 _ rfl; refine SK ?_; refine blk_put (cs := #[.slice none 0 0, .slice none 0 0, .int .i64 0]) ?_ 0 _ rfl; exact SK BK562.out⟩
 have n4_ : Aside0 (IsS87 w (((w8.setCell ⟨gb562, 0, none⟩ (.slice Ao9 t553.length co9)).setCell ⟨gb562, 1, none⟩ (.slice Ao13 t556.length co13)).setCell ⟨gb562, 2, none⟩ (.int .i64 t559)) g552 t549 t560 t561) := ⟨KI87⟩
 have n5_ : Aside0 (Below w.heap.size w (((w8.setCell ⟨gb562, 0, none⟩ (.slice Ao9 t553.length co9)).setCell ⟨gb562, 1, none⟩ (.slice Ao13 t556.length co13)).setCell ⟨gb562, 2, none⟩ (.int .i64 t559))) := ⟨KB87⟩
 (try clear HO555)
 (try clear HO558)
 (try clear BK548)
 (try clear BK562)
 (try clear HI552)
 (try clear HB)
 generalize (((w8.setCell ⟨gb562, 0, none⟩ (.slice Ao9 t553.length co9)).setCell ⟨gb562, 1, none⟩ (.slice Ao13 t556.length co13)).setCell ⟨gb562, 2, none⟩ (.int .i64 t559)) = w14 at n0_ n1_ n2_ n3_ n4_ n5_ ⊢
 have HO555 := n0_
 have HO558 := n1_
 have BK548 := n2_
 have BK562 := n3_
 have HI552 := n4_
 have HB := n5_
 clear n0_ n1_ n2_ n3_ n4_ n5_
 have h_ := P6 (Kd.R_drew HO555.out) (Kd.R_drew HO558.out) (blk_drew BK548.out) (blk_drew BK562.out) (IsS87.drew HI552.out) (below_drew1 HB.out)
 clear HO555 HO558 BK548 BK562 HI552 HB
 obtain ⟨HO555, HO558, BK548, BK562, HI552, HB⟩ := h_
 refine start_ (n := 6) (S := fun w' => w'.cell? ⟨gb562, 0, none⟩ = some (.slice Ao9 t553.length co9) ∧ w'.cell? ⟨gb562, 1, none⟩ = some (.slice Ao13 t556.length co13) ∧ w'.cell? ⟨gb562, 2, none⟩ = some (.int .i64 t559)) (ds := []) #[false, false, false, false, false, false] (by kernel_rfl) rfl rfl ⟨(blk_cell BK562.out 0).trans rfl, (blk_cell BK562.out 1).trans rfl, (blk_cell BK562.out 2).trans rfl⟩ (fun hHeld => ?_)
 generalize w14.drew = w15 at HO555 HO558 BK548 BK562 HI552 HB hHeld ⊢
 refine pure_ (i := 1) (N := some 11) (v := ?_) (a' := ?_) #[false, true, false, false, false, false] rfl rfl (by kernel_rfl) (fun _ _ _ h => h) (Or.inl ⟨by rfl, ?_⟩) ?_ ?_
 rotate_left
 ·intro w'
  go_simp
  with_reducible rfl
 rotate_left
 ·exact KA
 refine take_ (i := 0) (N := some 10) (v := ?_) (a' := ?_) #[true, true, false, false, false, false] rfl rfl (by kernel_rfl) (fun _ _ _ h => h) (Or.inl ⟨by rfl, ?_⟩) hHeld ?_ ?_
 rotate_left
 ·rintro w' ⟨s0, s1, s2⟩
  go_simp
  with_reducible rfl
 rotate_left
 ·exact KA
 refine one_ (i := 2) (N := some 12) #[true, true, true, false, false, false] rfl rfl (by kernel_rfl) (by decide) (fun K hK => ?_)
 refine Kd.R_lit_step (Kd.int .i64) _ 3 ?hg (N := 12) ?hd (xs := ([0, 1, 2, 3, 4, 30, 31, (-1)] : List Int)) (inner := [.int .i64 0, .int .i64 1, .int .i64 2, .int .i64 3, .int .i64 4, .int .i64 30, .int .i64 31, .int .i64 (-1)]) (ok := fun _ => True) (okp := fun _ => True) ?hr ?hp (fun _ hk => hk) trivial (Below.refl _ _) (Nat.le_refl _) (by simp) ?_; (case hd => rfl); (case hg => rfl); (case hr => first | (go_simp; done) | (go_simp; rfl)); (case hp => exact (Reps.one (show Kd.M (Kd.int .i64) _ _ _ 0 [.int .i64 0] from rfl) (Reps.one (show Kd.M (Kd.int .i64) _ _ _ 1 [.int .i64 1] from rfl) (Reps.one (show Kd.M (Kd.int .i64) _ _ _ 2 [.int .i64 2] from rfl) (Reps.one (show Kd.M (Kd.int .i64) _ _ _ 3 [.int .i64 3] from rfl) (Reps.one (show Kd.M (Kd.int .i64) _ _ _ 4 [.int .i64 4] from rfl) (Reps.one (show Kd.M (Kd.int .i64) _ _ _ 30 [.int .i64 30] from rfl) (Reps.one (show Kd.M (Kd.int .i64) _ _ _ 31 [.int .i64 31] from rfl) (Reps.one (show Kd.M (Kd.int .i64) _ _ _ (-1) [.int .i64 (-1)] from rfl) (Reps.none _ _))))))))))
 intro v564 w16 ho17 hb hg_ hnew_
 clear hg_ hnew_
 (first | rw [← Ny563.out] at ho17 | (simp only [Int.reduceToNat] at ho17; rw [← Ny563.out] at ho17))
 have h_ := P7 (Kd.R_below (KR HO555.out) hb) (Kd.R_below (KR HO558.out) hb) (Kd.R_lower ho17 (below_size KB87)) (BL BK548.out hb) (IsS87.below (KI87) hb) (BL BK562.out hb) (below_step KB87 hb)
 clear HO555 HO558 BK548 HI552 BK562 HB
 obtain ⟨HO555, HO558, HO565, BK548, HI552, BK562, HB⟩ := h_
 clear hb ho17
 obtain ⟨Ao18, co18, eo18⟩ := Kd.R_slice HO565.out
 (first | subst eo18 | (injection eo18 with f1_ f2_ f3_; have f4_ := f1_.symm; have f5_ := f3_.symm; clear f1_ f2_ f3_; subst f4_; subst f5_))
 refine hK.out _ _ ⟨(blk_cell BK562.out 0).trans rfl, (blk_cell BK562.out 1).trans rfl, (blk_cell BK562.out 2).trans rfl⟩ (fun hHeld => ?_)
 clear hK K
 refine norm_ (a' := ?_) ?_ ?_
 rotate_left
 ·show Act.put _ (some 12) _ = _; exact KA
 refine one_ (i := 3) (N := some 13) #[true, true, true, true, false, false] rfl rfl (by kernel_rfl) (by decide) (fun K hK => ?_)
 refine goes_ Try.func62 (by kernel_rfl) rfl #[.pointer (some ⟨g552, 0, none⟩), .slice Ao18 y563.length co18] (by rfl) rfl rfl KL ?_
 with_reducible refine (spec_l1PickInt.calls g552 t549 t560 t561 _ _ y563 t566 t567 t568 w _ ?side1 ?side2 ?side3 ?side4 ?side5 A4.out).mono ?_
 (case side1 => exact KI87)
 (case side2 => exact KB87)
 (case side3 => repeat (first | exact (Kd.R_reads' HO565.out).2.2 | (with_reducible refine Kd.C_alloc ?_ _) | (with_reducible refine Kd.C_drewN ?_ _) | (with_reducible refine Kd.C_drew ?_)))
 (case side4 => exact (Kd.R_reads' HO565.out).2.1)
 (case side5 => exact far_slice (IsS87.own_ne HI552.out HO565.out (by decide)))
 rintro e w19 ⟨rfl, hi, hb, hk⟩
 refine ⟨_, rfl, ?_⟩
 have h_ := P7 (KW BK548.out hk NB548_552.out) (Kd.R_mono (Kd.R_keep (IsS87.apart (show IsS87 w _ g552 t549 t560 t561 from KI87) (KR HO555.out) (by decide)) hk (fun _ h => h.2)) (fun _ h => h.1)) (Kd.R_mono (Kd.R_keep (IsS87.apart (show IsS87 w _ g552 t549 t560 t561 from KI87) (KR HO558.out) (by decide)) hk (fun _ h => h.2)) (fun _ h => h.1)) (KW BK562.out hk NB562_552.out) (Kd.R_mono (Kd.R_keep (IsS87.apart (show IsS87 w _ g552 t549 t560 t561 from KI87) (KR HO565.out) (by decide)) hk (fun _ h => h.2)) (fun _ h => h.1)) hb hi
 clear BK548 HO555 HO558 BK562 HO565 HB HI552
 obtain ⟨BK548, HO555, HO558, BK562, HO565, HB, HI552⟩ := h_
 (try clear hb); (try clear hk); (try clear hi)
 refine hK.out _ _ ⟨(blk_cell BK562.out 0).trans rfl, (blk_cell BK562.out 1).trans rfl, (blk_cell BK562.out 2).trans rfl⟩ (fun hHeld => ?_)
 clear hK K
 refine norm_ (a' := ?_) ?_ ?_
 rotate_left
 ·show Act.put _ (some 13) _ = _; exact KA
 refine one_ (i := 4) (N := none) #[true, true, true, true, true, false] rfl rfl (by kernel_rfl) (by decide) (fun K hK => ?_)
 have hs20 : w19.cell? ⟨gb548, 0, none⟩ = some (.slice none 0 0) := (blk_cell BK548.out 0).trans rfl
 have hfs20 := blk_frozen BK548.out 0
 have hns20_1 := NB562_548.out
 have hms20_1 := NB548_562.out
 have hs21 : w19.cell? ⟨gb548, 1, none⟩ = some (.slice none 0 0) := (blk_cell BK548.out 1).trans rfl
 have hfs21 := blk_frozen BK548.out 1
 have hns21_1 := NB562_548.out
 have hms21_1 := NB548_562.out
 have hs22 : w19.cell? ⟨gb548, 2, none⟩ = some (.int .i64 0) := (blk_cell BK548.out 2).trans rfl
 have hfs22 := blk_frozen BK548.out 2
 have hns22_1 := NB562_548.out
 have hms22_1 := NB548_562.out
 refine skip_ (w1 := ?_) (by rfl) rfl ?_ ?_
 rotate_left
 ·go_simp
  rfl
 refine hK.out _ _ ⟨((cell_far (p := ⟨gb548, _, none⟩) NB562_548.out _).trans (((cell_far (p := ⟨gb548, _, none⟩) NB562_548.out _).trans (((cell_far (p := ⟨gb548, _, none⟩) NB562_548.out _).trans (hHeld.1)))))), ((cell_far (p := ⟨gb548, _, none⟩) NB562_548.out _).trans (((cell_far (p := ⟨gb548, _, none⟩) NB562_548.out _).trans (((cell_far (p := ⟨gb548, _, none⟩) NB562_548.out _).trans (hHeld.2.1)))))), ((cell_far (p := ⟨gb548, _, none⟩) NB562_548.out _).trans (((cell_far (p := ⟨gb548, _, none⟩) NB562_548.out _).trans (((cell_far (p := ⟨gb548, _, none⟩) NB562_548.out _).trans (hHeld.2.2))))))⟩ (fun hHeld => ?_)
 clear hK K
 refine pure_ (i := 5) (N := some 3) (v := ?_) (a' := ?_) #[true, true, true, true, true, true] rfl rfl (by kernel_rfl) (fun _ _ _ h => h) (Or.inl ⟨by rfl, ?_⟩) ?_ ?_
 rotate_left
 ·intro w'
  go_simp
  with_reducible rfl
 rotate_left
 ·exact KA
 refine done_ (by kernel_rfl) ?_
 try go_wp2
 refine bodyPost_ret (results_ct rfl _ _ gb548 31 #[.slice Ao9 t553.length co9, .slice Ao13 t556.length co13, .int .i64 t559] (0, 0) _ rfl (by refine SK ?_; refine blk_put (cs := #[.slice Ao9 t553.length co9, .slice Ao13 t556.length co13, .int .i64 0]) ?_ 2 _ rfl; refine SK ?_; refine blk_put (cs := #[.slice Ao9 t553.length co9, .slice none 0 0, .int .i64 0]) ?_ 1 _ rfl; refine SK ?_; refine blk_put (cs := #[.slice none 0 0, .slice none 0 0, .int .i64 0]) ?_ 0 _ rfl; exact SK BK548.out) Try.underlying31 rfl (by kernel_rfl)) rfl ?_
 exact ⟨_, _, KE, RQ (RT HO555.out BK548.out), RQ (RT HO558.out BK548.out), KB87⟩

/-! ### impl_placeIn: function 59 -/
-- NOROUNDS
def cmpPl (x : S35) (a : Int) : Int := if x.f0 < a then -1 else if x.f0 > a then 1 else 0
set_option maxHeartbeats 4000000 in
theorem placeIn1_calls (x : S35) (a : Int) (W : World) : Calls Try.prog 86 #[.agg #[.int .i64 x.f0, .int .i64 x.f1, .bool x.f2, .string x.f3], .int .i64 a] W fun e w' => e = .returned (.int .i64 (cmpPl x a)) ∧ Below W.heap.size W w' := by
 have hb0 : Below W.heap.size W (W.alloc (.cells #[.int .i64 x.f0, .int .i64 x.f1, .bool x.f2, .string x.f3] 35)) := below_alloc (Below.refl _ _) _
 have HB := Aside0.mk hb0
 clear hb0
 unfold cmpPl
 by_cases h1 : x.f0 < a
 ·rw [if_pos h1]
  have c1 : decide (x.f0 < a) = true := decide_eq_true h1
  clear h1
  go_enter Try.func86, Try.ntmps86
  go_wp2
  go_ret
  exact ⟨rfl, HB.out⟩
 ·rw [if_neg h1]
  have c1 : decide (x.f0 < a) = false := decide_eq_false h1
  by_cases h2 : x.f0 > a
  ·rw [if_pos h2]
   have c2 : decide (a < x.f0) = true := decide_eq_true h2
   clear h1 h2
   go_enter Try.func86, Try.ntmps86
   go_wp2
   go_ret
   exact ⟨rfl, HB.out⟩
  ·rw [if_neg h2]
   have c2 : decide (a < x.f0) = false := decide_eq_false h2
   clear h1 h2
   go_enter Try.func86, Try.ntmps86
   go_wp2
   go_ret
   exact ⟨rfl, HB.out⟩
def ascPG : Int → List S35 → Bool
 | _, [] => true
 | p, x :: t => decide (p < x.f0) && ascPG x.f0 t
def plAscG : List S35 → Bool
 | [] => true
 | x :: t => ascPG x.f0 t
theorem ascPG_all : ∀ (l : List S35) (p : Int), ascPG p l = true → (∀ x ∈ l, p < x.f0) ∧ ∀ a b, a < b → b < l.length → (l.getD a z35).f0 < (l.getD b z35).f0
 | [], _, _ => ⟨fun x hx => by simp at hx, fun a b _ h => by simp at h⟩
 | x :: t, p, h => by
  simp only [ascPG, Bool.and_eq_true, decide_eq_true_eq] at h
  have ih := ascPG_all t x.f0 h.2
  refine ⟨fun y hy => ?_, fun a b hab hb => ?_⟩
  ·rcases List.mem_cons.1 hy with rfl | hy
   ·exact h.1
   ·have := ih.1 y hy; omega
  ·obtain ⟨b, rfl⟩ : ∃ c, b = c + 1 := ⟨b - 1, by omega⟩
   have hb' : b < t.length := by simpa using hb
   cases a with
   | zero =>
    have : t.getD b z35 ∈ t := by rw [List.getD_eq_getElem?_getD, List.getElem?_eq_getElem hb']; exact List.getElem_mem hb'
    simpa using ih.1 _ this
   | succ a => simpa using ih.2 a b (by omega) hb'
theorem plAscG_all (l : List S35) (h : plAscG l = true) : ∀ a b, a < b → b < l.length → (l.getD a z35).f0 < (l.getD b z35).f0 := by
 cases l with
 | nil => intro a b _ hb; simp at hb
 | cons x t => exact (ascPG_all (x :: t) (x.f0 - 1) (by simp only [ascPG, Bool.and_eq_true, decide_eq_true_eq]; exact ⟨by omega, h⟩)).2
def lowG (l : List S35) (a : Int) : Nat := l.countP (fun x => decide (x.f0 < a))
theorem lowG_boundary (a : Int) : ∀ (l : List S35) (i : Nat), i ≤ l.length → (∀ t, t < i → (l.getD t z35).f0 < a) → (∀ t, i ≤ t → t < l.length → a ≤ (l.getD t z35).f0) → lowG l a = i
 | [], i, hi, _, _ => by simp at hi; simp [hi, lowG]
 | x :: r, 0, _, _, h2 => by
  unfold lowG
  rw [List.countP_eq_zero]
  intro y hy
  obtain ⟨t, ht, rfl⟩ := List.getElem_of_mem hy
  have := h2 t (Nat.zero_le _) ht
  rw [List.getD_eq_getElem?_getD, List.getElem?_eq_getElem ht, Option.getD_some] at this
  simp; omega
 | x :: r, i + 1, hi, h1, h2 => by
  have ha : x.f0 < a := by simpa using h1 0 (Nat.succ_pos _)
  have ih := lowG_boundary a r i (by simpa using hi) (fun t ht => by simpa using h1 (t + 1) (by omega)) (fun t h3 h4 => by simpa using h2 (t + 1) (by omega) (by simpa using h4))
  unfold lowG at ih ⊢
  rw [List.countP_cons_of_pos (by simpa using ha), ih]
def foundG (l : List S35) (a : Int) : Bool := decide (lowG l a < l.length) && decide ((l.getD (lowG l a) z35).f0 = a)
set_option maxHeartbeats 4000000 in
set_option maxRecDepth 100000 in
theorem bsearch_calls (A0 : Option Addr) (c0 : Nat) (l0 : List S35) (a : Int) (w : World) (hr0 : Kd.C k35 w A0 l0.length l0) (hasc : plAscG l0 = true) (hsz : l0.length < 4611686018427387904) :
  Calls Try.prog 85 #[.slice A0 l0.length c0, .int .i64 a, .func (.func 86) #[] #[]] w fun e w' => e = .returned (.tuple #[.int .i64 (lowG l0 a : Nat), .bool (foundG l0 a)]) ∧ Below w.heap.size w w' := by
 have HR0 := Aside0.mk hr0
 have M := Aside0.mk (plAscG_all l0 hasc)
 have S0 := Aside0.mk (Below.refl w.heap.size w)
 clear hr0 hasc
 go_enter Try.func85, Try.ntmps85
 go_wp2
 go_loopg [9, 10] l0.length (fun kx s9 s10 wr => ∃ lo hi : Nat, s9 = .int .i64 lo ∧ s10 = .int .i64 hi ∧ lo ≤ hi ∧ hi ≤ l0.length ∧ hi - lo ≤ kx ∧ Aside0 (Below w.heap.size w wr) ∧
  Aside0 ((∀ t, t < lo → (l0.getD t z35).f0 < a) ∧ (∀ t, hi ≤ t → t < l0.length → a ≤ (l0.getD t z35).f0)))
 case atStart => exact ⟨0, l0.length, rfl, rfl, Nat.zero_le _, Nat.le_refl _, by omega, S0, ⟨fun t ht => absurd ht (Nat.not_lt_zero _), fun t h1 h2 => by omega⟩⟩
 case round =>
  clear S0
  obtain ⟨lo, hi, rfl, rfl, hlh, hin, hg, S1, I⟩ := hrel
  by_cases hlt : lo < hi
  ·obtain ⟨ad, e1, hx0, hx1, hx2, hx3⟩ := at_T35 HR0.out (((lo + hi) / 2 : Nat) : Int) (by omega) (by omega)
   cases e1
   replace hx0 := (S1.out.cell (World.block_lt_of_cell? w _ hx0)).trans hx0
   replace hx1 := (S1.out.cell (World.block_lt_of_cell? w _ hx1)).trans hx1
   replace hx2 := (S1.out.cell (World.block_lt_of_cell? w _ hx2)).trans hx2
   replace hx3 := (S1.out.cell (World.block_lt_of_cell? w _ hx3)).trans hx3
   rw [Int.toNat_natCast] at hx0 hx1 hx2 hx3
   have hrd : rd_T35 l0 (((lo + hi) / 2 : Nat) : Int) = l0.getD ((lo + hi) / 2) z35 := by rw [rd_T35, Int.toNat_natCast]
   rw [hrd] at hx0 hx1 hx2 hx3
   have hc := placeIn1_calls (l0.getD ((lo + hi) / 2) z35) a
   generalize hy : l0.getD ((lo + hi) / 2) z35 = y at hx0 hx1 hx2 hx3 hc
   have Y := Aside0.mk hy
   have HC := Aside0.mk hc
   clear hy hrd hc
   by_cases hyx : y.f0 < a
   ·have hcv : cmpPl y a = -1 := by unfold cmpPl; rw [if_pos hyx]
    rw [hcv] at HC
    clear hcv
    go_wp2_with fail
    refine (HC.out _).mono ?_
    rintro e w' ⟨rfl, hb⟩
    have HB := Aside0.mk hb
    clear hb
    go_wp2
    go_roundg (hi - ((lo + hi) / 2 + 1))
    case measure => omega
    case rel =>
     refine ⟨(lo + hi) / 2 + 1, hi, by rw [show ((lo : Int) + (hi : Int)) / 2 + 1 = (((lo + hi) / 2 + 1 : Nat) : Int) by omega], rfl, by omega, hin, Nat.le_refl _, ⟨below_then S1.out S1.out.size HB.out⟩, ⟨fun t ht => ?_, I.out.2⟩⟩
     by_cases htm : t = (lo + hi) / 2
     ·rw [htm, Y.out]; exact hyx
     ·have := M.out t ((lo + hi) / 2) (by omega) (by omega)
      rw [Y.out] at this
      omega
   ·have hcv : cmpPl y a = 1 ∨ cmpPl y a = 0 := by
     unfold cmpPl; rw [if_neg hyx]
     by_cases h2 : y.f0 > a
     ·rw [if_pos h2]; exact .inl rfl
     ·rw [if_neg h2]; exact .inr rfl
    rcases hcv with hcv | hcv
    all_goals
     rw [hcv] at HC
     clear hcv
     go_wp2_with fail
     refine (HC.out _).mono ?_
     rintro e w' ⟨rfl, hb⟩
     have HB := Aside0.mk hb
     clear hb
     go_wp2
     go_roundg ((lo + hi) / 2 - lo)
     case measure => omega
     case rel =>
      refine ⟨lo, (lo + hi) / 2, rfl, by rw [show ((lo : Int) + (hi : Int)) / 2 = (((lo + hi) / 2 : Nat) : Int) by omega], by omega, by omega, Nat.le_refl _, ⟨below_then S1.out S1.out.size HB.out⟩, ⟨I.out.1, fun t ht htn => ?_⟩⟩
      by_cases htm : t = (lo + hi) / 2
      ·rw [htm, Y.out]; omega
      ·have := M.out ((lo + hi) / 2) t (by omega) htn
       rw [Y.out] at this
       omega
  ·obtain rfl : hi = lo := by omega
   have ecnt : lowG l0 a = hi := lowG_boundary a l0 hi hin I.out.1 I.out.2
   have EC := Aside0.mk ecnt
   have FD : foundG l0 a = (decide (hi < l0.length) && decide ((l0.getD hi z35).f0 = a)) := by unfold foundG; rw [ecnt]
   have FD := Aside0.mk FD
   clear ecnt
   by_cases hn : hi < l0.length
   ·obtain ⟨ad, e1, hx0, hx1, hx2, hx3⟩ := at_T35 HR0.out ((hi : Nat) : Int) (by omega) (by omega)
    cases e1
    replace hx0 := (S1.out.cell (World.block_lt_of_cell? w _ hx0)).trans hx0
    replace hx1 := (S1.out.cell (World.block_lt_of_cell? w _ hx1)).trans hx1
    replace hx2 := (S1.out.cell (World.block_lt_of_cell? w _ hx2)).trans hx2
    replace hx3 := (S1.out.cell (World.block_lt_of_cell? w _ hx3)).trans hx3
    rw [Int.toNat_natCast] at hx0 hx1 hx2 hx3
    have hrd : rd_T35 l0 ((hi : Nat) : Int) = l0.getD hi z35 := by rw [rd_T35, Int.toNat_natCast]
    rw [hrd] at hx0 hx1 hx2 hx3
    have hc := placeIn1_calls (l0.getD hi z35) a
    generalize l0.getD hi z35 = y at hx0 hx1 hx2 hx3 hc FD
    have HC := Aside0.mk hc
    clear hrd hc
    have hcv : (cmpPl y a = -1 ∧ decide (y.f0 = a) = false) ∨ (cmpPl y a = 1 ∧ decide (y.f0 = a) = false) ∨ (cmpPl y a = 0 ∧ decide (y.f0 = a) = true) := by
     unfold cmpPl
     by_cases h1 : y.f0 < a
     ·rw [if_pos h1]; exact .inl ⟨rfl, decide_eq_false (by omega)⟩
     ·rw [if_neg h1]
      by_cases h2 : y.f0 > a
      ·rw [if_pos h2]; exact .inr (.inl ⟨rfl, decide_eq_false (by omega)⟩)
      ·rw [if_neg h2]; exact .inr (.inr ⟨rfl, decide_eq_true (by omega)⟩)
    rcases hcv with ⟨hcv, hd⟩ | ⟨hcv, hd⟩ | ⟨hcv, hd⟩
    all_goals
     rw [hcv] at HC
     rw [hd, decide_eq_true hn] at FD
     clear hcv hd
     go_wp2_with fail
     refine (HC.out _).mono ?_
     rintro e w' ⟨rfl, hb⟩
     have HB := Aside0.mk hb
     clear hb
     go_wp2
     go_ret2
     rw [EC.out, FD.out]
     exact ⟨rfl, below_then S1.out S1.out.size HB.out⟩
   ·rw [decide_eq_false hn, Bool.false_and] at FD
    go_wp2
    go_ret2
    rw [EC.out, FD.out]
    exact ⟨rfl, S1.out⟩
def impl_placeIn.f (l0 : List S35) (a1 : Int) : Option (Int × Bool) := if plAscG l0 = true ∧ l0.length < 4611686018427387904 then (some ((lowG l0 a1 : Nat), foundG l0 a1)) else (none)
set_option maxHeartbeats 4000000 in
set_option maxRecDepth 100000 in
theorem impl_placeIn.calls (A0 : Option Addr) (c0 : Nat) (l0 : List S35) (a1 : Int) (r1 : Int) (r2 : Bool) (w : World) (hr0 : Kd.C k35 w A0 l0.length l0) (hc0 : l0.length ≤ c0) (h : impl_placeIn.f l0 a1 = some (r1, r2)) :
  Calls Try.prog 59 #[.slice A0 l0.length c0, .int .i64 a1] w fun e w' => e = .returned (.tuple #[.int .i64 r1, .bool r2]) ∧ Below w.heap.size w w' := by
 unfold impl_placeIn.f at h
 by_cases hl : plAscG l0 = true ∧ l0.length < 4611686018427387904
 ·rw [if_pos hl] at h
  simp only [Option.some.injEq, Prod.mk.injEq] at h
  obtain ⟨rfl, rfl⟩ := h
  have HC := Aside0.mk (bsearch_calls A0 c0 l0 a1 w hr0 hl.1 hl.2)
  clear hr0 hl
  generalize lowG l0 a1 = i at HC ⊢
  generalize foundG l0 a1 = b at HC ⊢
  go_enter Try.func59, Try.ntmps59
  go_wp2_with (go_at_call 85; refine HC.out.mono ?_; rintro e w1 ⟨rfl, hb⟩; have HB := Aside0.mk hb; clear hb)
  go_ret2
  exact ⟨rfl, HB.out⟩
 ·rw [if_neg hl] at h
  exact absurd h (by simp)

/-! ### impl_Entry: function 88 -/
-- TAKE 0 0
-- OWN 2 0
-- NOROUNDS
-- IMPORTS Derived.Shelf.Spec.SlicesInsertGrow
def encE (x : S35) : List Value := [.int .i64 x.f0, .int .i64 x.f1, .bool x.f2, .string x.f3]
def flatE : List S35 → List Value
 | [] => []
 | x :: t => encE x ++ flatE t
theorem flatE_len (l : List S35) : (flatE l).length = l.length * 4 := by
 induction l with
 | nil => rfl
 | cons x t ih => simp only [flatE, encE, List.length_append, List.length_cons, List.length_nil, ih]; omega
theorem flatE_append (l m : List S35) : flatE (l ++ m) = flatE l ++ flatE m := by
 induction l with
 | nil => rfl
 | cons x t ih => simp only [flatE, List.cons_append, ih, List.append_assoc]
theorem flatE_one (x : S35) : flatE [x] = encE x := by simp [flatE]
theorem encE_one (x : S35) : ∀ u ∈ encE x, u.oneCell' = true := by
 intro u hu
 simp only [encE, List.mem_cons, List.not_mem_nil, or_false] at hu
 rcases hu with rfl | rfl | rfl | rfl <;> rfl
theorem flatE_one' (l : List S35) : ∀ u ∈ flatE l, u.oneCell' = true := by
 induction l with
 | nil => intro u hu; simp [flatE] at hu
 | cons x t ih =>
  intro u hu
  rcases List.mem_append.1 (show u ∈ encE x ++ flatE t from hu) with h | h
  ·exact encE_one x u h
  ·exact ih u h
theorem flatE_take (l : List S35) (i : Nat) : (flatE l).take (i * 4) = flatE (l.take i) := by
 induction l generalizing i with
 | nil => simp [flatE]
 | cons x t ih =>
  cases i with
  | zero => simp [flatE]
  | succ i =>
   rw [List.take_succ_cons, flatE, flatE, ← ih, List.take_append, show (encE x).length = 4 from rfl, List.take_of_length_le (by rw [show (encE x).length = 4 from rfl]; omega), show (i + 1) * 4 - 4 = i * 4 by omega]
theorem flatE_drop (l : List S35) (i : Nat) : (flatE l).drop (i * 4) = flatE (l.drop i) := by
 induction l generalizing i with
 | nil => simp [flatE]
 | cons x t ih =>
  cases i with
  | zero => simp
  | succ i =>
   rw [List.drop_succ_cons, flatE, ← ih, List.drop_append, show (encE x).length = 4 from rfl, List.drop_of_length_le (by rw [show (encE x).length = 4 from rfl]; omega), show (i + 1) * 4 - 4 = i * 4 by omega, List.nil_append]
theorem reps_flat (w : World) (base : Nat) (ok : Nat → Prop) (l : List S35) : Reps (k35.M w base ok) 4 l (flatE l) := by
 refine ⟨flatE_len l, fun j p hj => ?_⟩
 have hlt := (List.getElem?_eq_some_iff.1 hj).1
 rw [flatE_drop, List.drop_eq_getElem_cons hlt]
 have hp : l[j] = p := (List.getElem?_eq_some_iff.1 hj).2
 rw [hp, flatE, List.take_append_of_le_length (by rw [show (encE p).length = 4 from rfl]; exact Nat.le_refl _), List.take_of_length_le (by rw [show (encE p).length = 4 from rfl]; exact Nat.le_refl _)]
 exact k35_mkM w base ok p
theorem flat_of_reps (w : World) (base : Nat) (ok : Nat → Prop) : ∀ (l : List S35) (cs : List Value), Reps (k35.M w base ok) 4 l cs → cs = flatE l
 | [], cs, h => by have := h.1; simp at this; rw [this]; rfl
 | x :: t, cs, h => by
  have h0 := k35_openM (h.2 0 x rfl)
  rw [Nat.zero_mul, List.drop_zero] at h0
  have ht : Reps (k35.M w base ok) 4 t (cs.drop 4) := by
   refine ⟨by rw [List.length_drop, h.1, List.length_cons]; omega, fun j p hj => ?_⟩
   have := h.2 (j + 1) p (by simpa using hj)
   rw [List.drop_drop, show 4 + j * 4 = (j + 1) * 4 by omega]
   exact this
  have ih := flat_of_reps w base ok t _ ht
  rw [flatE, ← ih, ← List.take_append_drop 4 cs, h0]
  simp [encE]
theorem own_of_RE {e : Nat} {w : World} {base : Nat} {ok : Nat → Prop} {v : Value} {l : List S35} (h : Kd.R k35 e w base ok v l) : w.ownsRow base e 4 v l.length (flatE l) := by
 obtain ⟨_, inner, ho, hr⟩ := h
 rw [← flat_of_reps _ _ _ _ _ hr]; exact ho
theorem R_of_ownE {e : Nat} {w : World} {base : Nat} {ok : Nat → Prop} {v : Value} {l : List S35} (ho : w.ownsRow base e 4 v l.length (flatE l)) (hok : ∀ k, v.ownBlock = some k → ok k) : Kd.R k35 e w base ok v l := ⟨hok, flatE l, ho, reps_flat _ _ _ _⟩
theorem run_copy_rowS {P : Program} (w : World) (dT sT ty elem : TypeId) (sz g o dLen dCap : Nat) (a : Addr) (sLen sCap : Nat) (cur : Array Value) (t : TypeId) (cs : List Value)
  (hu : P.underlying dT = some (.slice elem)) (hs : (P.info? elem).map (·.size) = some sz)
  (hg : w.heap[g]? = some (.cells cur t (0, 0))) (hn : cs.length = Nat.min sLen dLen * sz)
  (hsrc : ∀ j v, cs[j]? = some v → w.cell? (a.add j) = some v) (hfit : o + cs.length ≤ cur.size) (h1 : ∀ v ∈ cs, v.oneCell' = true) :
  (Builtin.copy_ #[dT, sT] ty #[.slice (some ⟨g, o, none⟩) dLen dCap, .slice (some a) sLen sCap]).run P w =
   .ok (goInt (Nat.min sLen dLen)) (w.setRow g (cur.toList.take o ++ cs ++ cur.toList.drop (o + cs.length)).toArray) := by
 have hl := run_loadCells_list (P := P) w a cs hsrc
 have hst := run_storeCells_at P g o t cs 0 cur w hg (by simpa using hfit) h1
 cases hq : P.info? elem with
 | none => simp [hq] at hs
 | some i =>
  have hi : i.size = sz := by simpa [hq] using hs
  simp [Builtin.copy_, run_underlying hu, Builtin.lenOf, Builtin.firstCells, sizeOf, typeInfo, hq, hi, ← hn, hl, hst]
theorem infoE : (Try.prog.info? 35).map (fun i => (i.zero, i.size, i.bytes)) = some (some (.agg #[.int .i64 0, .int .i64 0, .bool false, .string ⟨#[]⟩]), 4, 40) := by kernel_rfl
theorem cellsE {W : World} {vb : Nat} {x : S35} {cv : Array Value} (h : W.heap[vb]? = some (.cells cv 35 (0, 0))) (hcv : cv.toList.take 4 = encE x) : ∀ j u, (encE x)[j]? = some u → W.cell? ((⟨vb, 0, none⟩ : Addr).add j) = some u := by
 intro j u hj
 have hjl := (List.getElem?_eq_some_iff.1 hj).1
 rw [show (encE x).length = 4 from rfl] at hjl
 rw [add_plain]
 simp only [World.cell?, h, Option.isSome_none, Bool.false_eq_true, if_false]
 rw [← hcv, List.getElem?_take_of_lt hjl, Array.getElem?_toList] at hj
 exact hj
def InsPost (base : Nat) (W : World) (v : Value) (l : List S35) (e : Ending) (w' : World) : Prop :=
 ∃ v' : Value, e = .returned v' ∧ w'.ownsRow base 35 4 v' l.length (flatE l) ∧ W.grownBy w' v.ownBlock ∧ (v'.ownBlock = v.ownBlock ∨ ∃ k, v'.ownBlock = some k ∧ W.heap.size ≤ k)
set_option maxHeartbeats 4000000 in
set_option maxRecDepth 100000 in
theorem ins_end (v : Value) (l : List S35) (x : S35) (W : World) (base vb capv : Nat) (cv : Array Value) (hl : l.length < 1000000) (hbase : base ≤ W.heap.size) (hO : W.ownsRow base 35 4 v l.length (flatE l)) (hvb : W.heap[vb]? = some (.cells cv 35 (0, 0))) (hcv : cv.toList.take 4 = encE x) :
  Calls Try.prog 88 #[v, .int .i64 l.length, .slice (some ⟨vb, 0, none⟩) 1 capv] W (InsPost base W v (l ++ [x])) := by
 obtain ⟨i0, hi, hzz⟩ := Option.map_eq_some_iff.1 infoE
 simp only [Prod.mk.injEq] at hzz
 obtain ⟨hz0, hz1, hz2⟩ := hzz
 obtain ⟨v', w', hr, h2, h3, h4, h5⟩ := run_append_own_at (P := Try.prog) W base 29 29 35 i0 _ 4 40 Try.underlying29 hi hz0 hz1 hz2 rfl (by omega) v l.length (flatE l) hO ⟨vb, 0, none⟩ 1 capv (encE x) (by rfl) (cellsE hvb hcv) (encE_one x) (by simp only [maxLen]; omega) (by omega) hbase
 have hO2 := own_slice hO
 have HN := Aside0.mk hO
 have HV := Aside0.mk h2
 have HG := Aside0.mk h3
 have HB := Aside0.mk h5
 clear hO hvb hcv h2 h3 h4 h5 hi hz0 hz1 hz2
 obtain ⟨A, c, rfl⟩ := hO2
 have hnc : l.length ≤ c := own_le HN.out
 go_enter Try.func88, Try.ntmps88
 cases A with
 | none =>
  go_wp2_with (at_builtin; refine Lib.wpList_append_run _ rfl _ _ _ _ rfl _ _ rfl rfl _ _ hr ?_)
  go_ret
  exact ⟨v', rfl, by rw [flatE_append, flatE_one, List.length_append]; exact HV.out, HG.out, HB.out.imp id (fun h => ⟨_, h, Nat.le_refl _⟩)⟩
 | some a =>
  obtain ⟨ab, ao, asp⟩ := a
  go_wp2_with (at_builtin; refine Lib.wpList_append_run _ rfl _ _ _ _ rfl _ _ rfl rfl _ _ hr ?_)
  all_goals
   go_ret
   exact ⟨v', rfl, by rw [flatE_append, flatE_one, List.length_append]; exact HV.out, HG.out, HB.out.imp id (fun h => ⟨_, h, Nat.le_refl _⟩)⟩
theorem cells_of_row {W : World} {g : Nat} {cur : Array Value} {t : TypeId} (h : W.heap[g]? = some (.cells cur t (0, 0))) (j : Nat) : W.cell? ⟨g, j, none⟩ = cur[j]? := by
 simp only [World.cell?, h, Option.isSome_none, Bool.false_eq_true, if_false]
theorem ins_list (cur : List Value) (A X B : List Value) (i n : Nat) (hc : cur.take (n * 4) = A ++ B) (hA : A.length = i * 4) (hX : X.length = 4) (hB : B.length = (n - i) * 4) (hi : i ≤ n) (hn : (n + 1) * 4 ≤ cur.length) :
  (((cur.take ((i + 1) * 4) ++ B ++ cur.drop ((i + 1) * 4 + B.length)).take (i * 4) ++ X ++ (cur.take ((i + 1) * 4) ++ B ++ cur.drop ((i + 1) * 4 + B.length)).drop (i * 4 + X.length)).take ((n + 1) * 4)) = A ++ X ++ B := by
 have h1 : cur.take (i * 4) = A := by
  have := congrArg (List.take (i * 4)) hc
  rw [List.take_take, Nat.min_eq_left (by omega), List.take_append_of_le_length (by omega)] at this
  exact this.trans (List.take_of_length_le (by omega))
 have h2 : (cur.take ((i + 1) * 4) ++ B ++ cur.drop ((i + 1) * 4 + B.length)).take (i * 4) = A := by
  rw [List.append_assoc, List.take_append_of_le_length (by rw [List.length_take]; omega), List.take_take, Nat.min_eq_left (by omega), h1]
 have h3 : (cur.take ((i + 1) * 4) ++ B ++ cur.drop ((i + 1) * 4 + B.length)).drop (i * 4 + X.length) = B ++ cur.drop ((i + 1) * 4 + B.length) := by
  rw [hX, show i * 4 + 4 = (i + 1) * 4 by omega, List.append_assoc]
  have hl : (cur.take ((i + 1) * 4)).length = (i + 1) * 4 := by rw [List.length_take]; omega
  rw [List.drop_append_of_le_length (by omega), List.drop_of_length_le (by omega), List.nil_append]
 rw [h2, h3, ← List.append_assoc, List.take_append_of_le_length (by simp only [List.length_append]; omega), List.take_of_length_le (by simp only [List.length_append]; omega)]
theorem heap_setRow_same {W : World} {g : Nat} {cur c2 : Array Value} {t : TypeId} (h : W.heap[g]? = some (.cells cur t (0, 0))) : (W.setRow g c2).heap[g]? = some (.cells c2 t (0, 0)) := setRow_heap W g cur c2 t (0, 0) h
theorem grown_setRow (W : World) (g : Nat) (c : Array Value) : W.grownBy (W.setRow g c) (some g) := ⟨rfl, rfl, rfl, by simp [World.setRow], fun k _ hk => setRow_other W g k _ (fun e => hk (by simp [e]))⟩
theorem drew_setRow (W : World) (g : Nat) (c : Array Value) : (W.setRow g c).drew = W.drew.setRow g c := rfl
set_option maxHeartbeats 4000000 in
set_option maxRecDepth 100000 in
theorem ins_shift (g cap : Nat) (cur : Array Value) (l L : List S35) (x : S35) (i : Nat) (W : World) (base vb capv : Nat) (cv : Array Value) (hl : l.length < 1000000) (hi : i < l.length) (hbase : base ≤ g) (hg : W.heap[g]? = some (.cells cur 35 (0, 0)))
  (h1 : l.length + 1 ≤ cap) (h2 : cap ≤ maxLen) (h3 : cur.size = cap * 4) (h4 : cur.toList.take (l.length * 4) = flatE l) (hvb : W.heap[vb]? = some (.cells cv 35 (0, 0))) (hcv : cv.toList.take 4 = encE x) (hne : vb ≠ g) (hL : L = l.take i ++ [x] ++ l.drop i) :
  Calls Try.prog 88 #[.slice (some ⟨g, 0, none⟩) l.length cap, .int .i64 i, .slice (some ⟨vb, 0, none⟩) 1 capv] W (InsPost base W (.slice (some ⟨g, 0, none⟩) l.length cap) L) := by
 have h2' := h2
 unfold maxLen at h2
 have hz2 : ¬ ((i : Int) = (l.length : Int)) := by omega
 have hw1 : IntKind.i64.wrap ((i : Int) + 1) = (i : Int) + 1 := by rw [IntKind.wrap_i64]; omega
 have hw2 : IntKind.i64.wrap ((l.length : Int) + 1) = (l.length : Int) + 1 := by rw [IntKind.wrap_i64]; omega
 have hb1 : (0 : Int) ≤ (i : Int) + 1 := by omega
 have hin : i ≤ l.length := by omega
 have hin2 : (i : Int) ≤ (l.length : Int) := by omega
 have htn : ((i : Int) + 1).toNat = i + 1 := by omega
 have htn2 : ((l.length : Int) + 1).toNat = l.length + 1 := by omega
 have hb2 : ¬ (cap = i + 1) := by omega
 have hb3 : (i : Int) ≤ (l.length : Int) + 1 := by omega
 have hb4 : ¬ (cap = i) := by omega
 have hb5 : ¬ ((cap : Int) < (l.length : Int) + 1) := by omega
 have mixed : Try.prog.follows Departure.mixedOrders = true := by kernel_rfl
 have hsz : (Try.prog.info? 35).map (·.size) = some 4 := by kernel_rfl
 have hov : ∀ lb cb, (callFunc 92 #[.slice (some ⟨vb, 0, none⟩) 1 capv, .slice (some ⟨g, (i + 1) * 4, none⟩) lb cb]).run Try.prog W = .ok (.value (.bool false)) W := fun lb cb => by
  rw [run_callFunc_extern Try.func92 (by kernel_rfl) (by kernel_rfl) (by kernel_rfl) (e := Extern.SlicesOverlaps.overlaps #[29, 29] #[4]) (by kernel_rfl),
   Lib.run_overlaps_apart W 29 4 35 Try.underlying29 4 Try.sizeOf35 ⟨vb, 0, none⟩ ⟨g, (i + 1) * 4, none⟩ 1 capv lb cb hne 35 35 cv.size cur.size (by simp [World.shape?, hvb]) (by simp [World.shape?, hg]) (by omega) (by simp [World.frozen?, hvb]) (by simp [World.frozen?, hvb])]
  rfl
 have hBl : (flatE (l.drop i)).length = (l.length - i) * 4 := by rw [flatE_len, List.length_drop]
 obtain ⟨c1, hc1⟩ : ∃ c1, c1 = (cur.toList.take ((i + 1) * 4) ++ flatE (l.drop i) ++ cur.toList.drop ((i + 1) * 4 + (flatE (l.drop i)).length)).toArray := ⟨_, rfl⟩
 have hc1s : c1.size = cur.size := by rw [hc1]; simp only [List.size_toArray, List.length_append, List.length_take, List.length_drop, Array.length_toList, hBl]; omega
 obtain ⟨c2, hc2⟩ : ∃ c2, c2 = (c1.toList.take (i * 4) ++ encE x ++ c1.toList.drop (i * 4 + (encE x).length)).toArray := ⟨_, rfl⟩
 have hc2s : c2.size = cur.size := by rw [hc2]; simp only [List.size_toArray, List.length_append, List.length_take, List.length_drop, Array.length_toList, show (encE x).length = 4 from rfl]; omega
 have hfin : c2.toList.take ((l.length + 1) * 4) = flatE L := by
  rw [hc2, hc1, hL, flatE_append, flatE_append, flatE_one]
  simp only []
  refine ins_list cur.toList (flatE (l.take i)) (encE x) (flatE (l.drop i)) i l.length ?_ (by rw [flatE_len, List.length_take]; omega) rfl hBl hin (show (l.length + 1) * 4 ≤ cur.toList.length by have : cur.toList.length = cur.size := Array.length_toList; omega)
  rw [h4, ← flatE_append, List.take_append_drop]
 have hcp1 : ∀ ty dc sc, (Builtin.copy_ #[29, 29] ty #[.slice (some ⟨g, (i + 1) * 4, none⟩) (l.length - i) dc, .slice (some ⟨g, i * 4, none⟩) (l.length + 1 - i) sc]).run Try.prog W.drew = .ok (goInt (Nat.min (l.length + 1 - i) (l.length - i))) (W.drew.setRow g c1) := fun ty dc sc => by
  rw [hc1]
  refine run_copy_rowS W.drew 29 29 ty 35 4 g ((i + 1) * 4) _ dc ⟨g, i * 4, none⟩ _ sc cur 35 (flatE (l.drop i)) Try.underlying29 hsz hg ?_ ?_ (by rw [hBl]; omega) (flatE_one' _)
  ·rw [hBl]; congr 1; simp only [Nat.min_def]; split <;> omega
  ·intro j v hj
   rw [Addr.add_lit]
   show W.cell? _ = _
   rw [cells_of_row hg]
   have hlt := (List.getElem?_eq_some_iff.1 hj).1
   rw [hBl] at hlt
   rw [← flatE_drop, List.getElem?_drop, ← h4, List.getElem?_take_of_lt (by omega), Array.getElem?_toList] at hj
   exact hj
 have hg1 : (W.drew.setRow g c1).heap[g]? = some (.cells c1 35 (0, 0)) := heap_setRow_same (W := W.drew) hg
 have hv1 : (W.drew.setRow g c1).heap[vb]? = some (.cells cv 35 (0, 0)) := (setRow_other W.drew g vb c1 hne).trans hvb
 obtain ⟨W1, hW1⟩ : ∃ W1, W1 = W.drew.setRow g c1 := ⟨_, rfl⟩
 rw [← hW1] at hg1 hv1 hcp1
 have hcp2 : ∀ ty dc, (Builtin.copy_ #[29, 29] ty #[.slice (some ⟨g, i * 4, none⟩) (l.length + 1 - i) dc, .slice (some ⟨vb, 0, none⟩) 1 capv]).run Try.prog W1 = .ok (goInt (Nat.min 1 (l.length + 1 - i))) (W1.setRow g c2) := fun ty dc => by
  rw [hc2]
  refine run_copy_rowS W1 29 29 ty 35 4 g (i * 4) _ dc ⟨vb, 0, none⟩ 1 capv c1 35 (encE x) Try.underlying29 hsz hg1 ?_ (cellsE hv1 hcv) (by rw [show (encE x).length = 4 from rfl]; omega) (encE_one x)
  rw [show (encE x).length = 4 from rfl]; simp only [Nat.min_def]; split <;> omega
 have hlL : L.length = l.length + 1 := by rw [hL]; simp; omega
 have hrow : (W1.setRow g c2).ownsRow base 35 4 (.slice (some ⟨g, 0, none⟩) (l.length + 1) cap) L.length (flatE L) := by
  rw [hlL]
  exact ⟨by rw [flatE_len, hlL], .inr ⟨g, cap, c2, rfl, hbase, heap_setRow_same hg1, h1, h2', by rw [hc2s, h3], hfin⟩⟩
 have hgr : W.grownBy (W1.setRow g c2) (some g) := by
  rw [hW1]
  exact ⟨rfl, rfl, rfl, by simp [World.setRow], fun k hk hne => by
   have : k ≠ g := fun e => hne (by rw [e])
   exact (setRow_other _ g k _ this).trans (setRow_other W.drew g k _ this)⟩
 have HR := Aside0.mk hrow
 have HGR := Aside0.mk hgr
 clear hrow hgr hg1 hv1 hW1 hfin hc1 hc2 hc1s hc2s hBl hg hvb hcv h4 h3 hL hlL h2' hsz
 generalize l.length = n at *
 go_enter Try.func88, Try.ntmps88
 go_wp2_with (simp only [hov])
 go_region_law_o (refine step_copy_runI rfl _ _ 29 29 rfl _ _ (by simp [Act.eval, Act.put]) (by simp [Act.eval, Act.put]) (hcp1 _ _ _) ?_)
 go_wp2_with (at_builtin; refine wpList_copy_runI _ rfl _ _ 29 29 rfl _ _ rfl rfl (hcp2 _ _) ?_)
 go_ret
 exact ⟨_, rfl, HR.out, HGR.out, .inl rfl⟩
theorem ins_list2 (row A X B : List Value) (i n : Nat) (hrow : row.take (i * 4) = A) (hA : A.length = i * 4) (hX : X.length = 4) (hB : B.length = (n - i) * 4) (hi : i ≤ n) :
  (((row.take (i * 4) ++ X ++ row.drop (i * 4 + X.length)).take ((i + 1) * 4) ++ B ++ (row.take (i * 4) ++ X ++ row.drop (i * 4 + X.length)).drop ((i + 1) * 4 + B.length)).take ((n + 1) * 4)) = A ++ X ++ B := by
 have h2 : (row.take (i * 4) ++ X ++ row.drop (i * 4 + X.length)).take ((i + 1) * 4) = A ++ X := by
  rw [hrow, List.take_append_of_le_length (by simp only [List.length_append]; omega), List.take_of_length_le (by simp only [List.length_append]; omega)]
 rw [h2, List.take_append_of_le_length (by simp only [List.length_append]; omega), List.take_of_length_le (by simp only [List.length_append]; omega)]
set_option maxHeartbeats 4000000 in
set_option maxRecDepth 100000 in
theorem ins_grow (g cap : Nat) (cur : Array Value) (l L : List S35) (x : S35) (i : Nat) (W : World) (base vb capv : Nat) (cv : Array Value) (hl : l.length < 1000000) (hi : i < l.length) (hbase : base ≤ W.heap.size) (hg : W.heap[g]? = some (.cells cur 35 (0, 0)))
  (h1 : l.length ≤ cap) (h1' : cap < l.length + 1) (h2 : cap ≤ maxLen) (h3 : cur.size = cap * 4) (h4 : cur.toList.take (l.length * 4) = flatE l) (hvb : W.heap[vb]? = some (.cells cv 35 (0, 0))) (hcv : cv.toList.take 4 = encE x) (hL : L = l.take i ++ [x] ++ l.drop i) :
  Calls Try.prog 88 #[.slice (some ⟨g, 0, none⟩) l.length cap, .int .i64 i, .slice (some ⟨vb, 0, none⟩) 1 capv] W (InsPost base W (.slice (some ⟨g, 0, none⟩) l.length cap) L) := by
 obtain ⟨i0, hi0, hzz⟩ := Option.map_eq_some_iff.1 infoE
 simp only [Prod.mk.injEq] at hzz
 obtain ⟨hz0, hz1, hzb⟩ := hzz
 have h2' := h2
 unfold maxLen at h2
 have hz2 : ¬ ((i : Int) = (l.length : Int)) := by omega
 have hw1 : IntKind.i64.wrap ((i : Int) + 1) = (i : Int) + 1 := by rw [IntKind.wrap_i64]; omega
 have hw2 : IntKind.i64.wrap ((l.length : Int) + 1) = (l.length : Int) + 1 := by rw [IntKind.wrap_i64]; omega
 have hw3 : IntKind.i64.wrap ((l.length : Int) + 1 - (i : Int)) = (l.length : Int) + 1 - (i : Int) := by rw [IntKind.wrap_i64]; omega
 have hb1 : (0 : Int) ≤ (i : Int) + 1 := by omega
 have hin : i ≤ l.length := by omega
 have hin2 : (i : Int) ≤ (l.length : Int) := by omega
 have htn : ((i : Int) + 1).toNat = i + 1 := by omega
 have hb2 : ¬ (cap = i + 1) ∨ True := .inr trivial
 have hb4 : ¬ (cap = i) := by omega
 have hb5 : (cap : Int) < (l.length : Int) + 1 := by omega
 have mixed : Try.prog.follows Departure.mixedOrders = true := by kernel_rfl
 have aom : Try.prog.follows Departure.appendOfMake = true := by kernel_rfl
 have hsz : (Try.prog.info? 35).map (·.size) = some 4 := by kernel_rfl
 have hlt : g < W.heap.size := (Array.getElem?_eq_some_iff.1 hg).1
 have hltv : vb < W.heap.size := (Array.getElem?_eq_some_iff.1 hvb).1
 have hAl : (flatE (l.take i)).length = i * 4 := by rw [flatE_len, List.length_take]; omega
 have hBl : (flatE (l.drop i)).length = (l.length - i) * 4 := by rw [flatE_len, List.length_drop]
 have hkk : (l.length : Int) + 1 - (i : Int) = ((l.length + 1 - i : Nat) : Int) := by omega
 have hik : i + (l.length + 1 - i) = l.length + 1 := by omega
 have hold : (Builtin.firstCells i0.size i (.slice (some ⟨g, 0, none⟩) i cap)).run Try.prog W.drew = .ok (flatE (l.take i)).toArray W.drew := by
  rw [hz1]
  refine run_firstCells_some W.drew 4 i ⟨g, 0, none⟩ i cap (flatE (l.take i)) hAl (fun j v hj => ?_)
  rw [add_plain]
  show W.cell? _ = _
  rw [cells_of_row hg]
  have hjl := (List.getElem?_eq_some_iff.1 hj).1
  rw [hAl] at hjl
  rw [← flatE_take, List.getElem?_take_of_lt hjl, ← h4, List.getElem?_take_of_lt (by omega), Array.getElem?_toList] at hj
  exact hj
 have hrz : ∀ ty, (Builtin.append_ #[29, 3] ty #[.slice (some ⟨g, 0, none⟩) i cap, .int .i64 ((l.length : Int) + 1 - (i : Int))]).run Try.prog W =
   .ok (.slice (some ⟨W.heap.size, 0, none⟩) (l.length + 1) (grownCap W (l.length + 1) cap 35)) (W.drew.alloc (.cells ((flatE (l.take i)).toArray ++ Builtin.zeroCells (Value.agg #[.int .i64 0, .int .i64 0, .bool false, .string ⟨#[]⟩]).cells (l.length + 1 - i) ++ Builtin.zeroCells (Value.agg #[.int .i64 0, .int .i64 0, .bool false, .string ⟨#[]⟩]).cells (grownCap W (l.length + 1) cap 35 - (l.length + 1))) 35)) := fun ty => by
  have h := Lib.run_append_grow_zeros W 29 3 ty 35 i0 _ .i64 .i64 Try.underlying29 Try.underlying3 hi0 hz0 (some ⟨g, 0, none⟩) i cap (flatE (l.take i)) hold (l.length + 1 - i) (by omega) (by omega) (by omega) (by omega) (by rw [hzb]; omega) (by rw [hzb, hik]; exact growslice_fits h1' (by omega))
  rw [hik] at h
  rw [hkk]
  exact h
 have hGn : l.length + 1 ≤ grownCap W (l.length + 1) cap 35 := grownCap_ge W _ _ _
 have hG63 := grownCap_le_maxLen W (l.length + 1) cap 35 (by unfold maxLen; omega)
 obtain ⟨G, hG⟩ : ∃ G, G = grownCap W (l.length + 1) cap 35 := ⟨_, rfl⟩
 rw [← hG] at hrz hGn hG63
 have hG63' := hG63
 unfold maxLen at hG63'
 have hGi1 : ¬ (G = i + 1) := by omega
 have hGi2 : ¬ (G = i) := by omega
 obtain ⟨ROW, hROW⟩ : ∃ ROW : Array Value, ROW = (flatE (l.take i)).toArray ++ Builtin.zeroCells (Value.agg #[.int .i64 0, .int .i64 0, .bool false, .string ⟨#[]⟩]).cells (l.length + 1 - i) ++ Builtin.zeroCells (Value.agg #[.int .i64 0, .int .i64 0, .bool false, .string ⟨#[]⟩]).cells (G - (l.length + 1)) := ⟨_, rfl⟩
 rw [← hROW] at hrz
 have hRs : ROW.size = G * 4 := by
  rw [hROW]
  simp [Builtin.zeroCells, Value.cells, hAl]
  omega
 have hRt : ROW.toList.take (i * 4) = flatE (l.take i) := by
  rw [hROW]
  simp only [Array.toList_append, List.append_assoc]
  rw [List.take_append_of_le_length (by omega), List.take_of_length_le (by omega)]
 obtain ⟨c1, hc1⟩ : ∃ c1, c1 = (ROW.toList.take (i * 4) ++ encE x ++ ROW.toList.drop (i * 4 + (encE x).length)).toArray := ⟨_, rfl⟩
 have hRl : ROW.toList.length = ROW.size := Array.length_toList
 have hc1s : c1.size = ROW.size := by rw [hc1]; simp only [List.size_toArray, List.length_append, List.length_take, List.length_drop, show (encE x).length = 4 from rfl]; omega
 have hc1l : c1.toList.length = c1.size := Array.length_toList
 obtain ⟨c2, hc2⟩ : ∃ c2, c2 = (c1.toList.take ((i + 1) * 4) ++ flatE (l.drop i) ++ c1.toList.drop ((i + 1) * 4 + (flatE (l.drop i)).length)).toArray := ⟨_, rfl⟩
 have hc2s : c2.size = ROW.size := by rw [hc2]; simp only [List.size_toArray, List.length_append, List.length_take, List.length_drop, hBl]; omega
 have hfin : c2.toList.take ((l.length + 1) * 4) = flatE L := by
  rw [hc2, hc1, hL, flatE_append, flatE_append, flatE_one]
  simp only []
  exact ins_list2 ROW.toList (flatE (l.take i)) (encE x) (flatE (l.drop i)) i l.length hRt hAl rfl hBl hin
 obtain ⟨W1, hW1⟩ : ∃ W1, W1 = W.drew.alloc (.cells ROW 35) := ⟨_, rfl⟩
 rw [← hW1] at hrz
 have hN1 : W1.heap[W.heap.size]? = some (.cells ROW 35 (0, 0)) := by rw [hW1]; exact heap_alloc_new W.drew _
 have hold1 : ∀ k, k < W.heap.size → W1.heap[k]? = W.heap[k]? := fun k hk => by rw [hW1]; exact (below_alloc (w := W.drew) (Below.refl _ _) (.cells ROW 35)).block k hk
 have hcpA : ∀ X : World, X.heap = W1.heap → ∀ ty dc, (Builtin.copy_ #[29, 29] ty #[.slice (some ⟨W.heap.size, i * 4, none⟩) (l.length + 1 - i) dc, .slice (some ⟨vb, 0, none⟩) 1 capv]).run Try.prog X = .ok (goInt (Nat.min 1 (l.length + 1 - i))) (X.setRow W.heap.size c1) := fun X hX ty dc => by
  rw [hc1]
  refine run_copy_rowS X 29 29 ty 35 4 W.heap.size (i * 4) _ dc ⟨vb, 0, none⟩ 1 capv ROW 35 (encE x) Try.underlying29 hsz (by rw [hX]; exact hN1) ?_ (cellsE (W := X) (by rw [hX, hold1 vb hltv]; exact hvb) hcv) (by rw [show (encE x).length = 4 from rfl]; omega) (encE_one x)
  rw [show (encE x).length = 4 from rfl]; simp only [Nat.min_def]; split <;> omega
 have hcpB : ∀ X : World, X.heap = (W1.setRow W.heap.size c1).heap → ∀ ty dc sc, (Builtin.copy_ #[29, 29] ty #[.slice (some ⟨W.heap.size, (i + 1) * 4, none⟩) (l.length - i) dc, .slice (some ⟨g, i * 4, none⟩) (l.length - i) sc]).run Try.prog X = .ok (goInt (Nat.min (l.length - i) (l.length - i))) (X.setRow W.heap.size c2) := fun X hX ty dc sc => by
  rw [hc2]
  refine run_copy_rowS X 29 29 ty 35 4 W.heap.size ((i + 1) * 4) _ dc ⟨g, i * 4, none⟩ _ sc c1 35 (flatE (l.drop i)) Try.underlying29 hsz (by rw [hX]; exact heap_setRow_same hN1) (by rw [hBl]; congr 1; simp only [Nat.min_def]; split <;> omega) ?_ (by rw [hBl]; omega) (flatE_one' _)
  intro j v hj
  have hgX : X.heap[g]? = some (.cells cur 35 (0, 0)) := by rw [hX, setRow_other _ _ g _ (by omega), hold1 g hlt]; exact hg
  rw [Addr.add_lit, cells_of_row hgX]
  have hlt := (List.getElem?_eq_some_iff.1 hj).1
  rw [hBl] at hlt
  rw [← flatE_drop, List.getElem?_drop, ← h4, List.getElem?_take_of_lt (by omega), Array.getElem?_toList] at hj
  exact hj
 have hlL : L.length = l.length + 1 := by rw [hL]; simp; omega
 have hrow : ∀ X : World, X.heap = ((W1.setRow W.heap.size c1).setRow W.heap.size c2).heap → X.ownsRow base 35 4 (.slice (some ⟨W.heap.size, 0, none⟩) (l.length + 1) G) L.length (flatE L) := fun X hX => by
  rw [hlL]
  exact ⟨by rw [flatE_len, hlL], .inr ⟨W.heap.size, G, c2, rfl, hbase, by rw [hX]; exact heap_setRow_same (heap_setRow_same hN1), hGn, hG63, by rw [hc2s, hRs], hfin⟩⟩
 have HR := Aside0.mk hrow
 have HW1 := Aside0.mk hW1
 have hcB2 : ∀ X : World, X.heap = W1.heap → ∀ ty dc sc, (Builtin.copy_ #[29, 29] ty #[.slice (some ⟨W.heap.size, (i + 1) * 4, none⟩) (l.length - i) dc, .slice (some ⟨g, i * 4, none⟩) (l.length - i) sc]).run Try.prog (X.setRow W.heap.size c1).drew = .ok (goInt (Nat.min (l.length - i) (l.length - i))) ((X.setRow W.heap.size c1).drew.setRow W.heap.size c2) := fun X hX ty dc sc => hcpB _ (by show (X.setRow W.heap.size c1).heap = _; simp only [World.setRow, hX]) ty dc sc
 have hN := Aside0.mk hN1
 have hO1 := Aside0.mk hold1
 have hcA := fun ty dc => hcpA W1 rfl ty dc
 have hcB := fun ty dc sc => hcB2 W1 rfl ty dc sc
 clear hrow hfin hc1 hc2 hc1s hc2s hBl hAl hg hvb hcv h4 h3 hL hlL h2' hsz hROW hRs hRt hRl hc1l hG hG63 hold hi0 hz0 hz1 hzb hN1 hold1 hcpA hcpB hcB2 hW1 hkk hik
 generalize l.length = n at *
 go_enter Try.func88, Try.ntmps88
 go_wp2_with (at_builtin; refine Lib.wpList_append_run _ rfl _ _ _ _ rfl _ _ rfl rfl _ _ (hrz _) ?_)
 go_region_law_o (refine step_copy_runI rfl _ _ 29 29 rfl _ _ (by simp [Act.eval, Act.put]) (by simp [Act.eval, Act.put]) (hcB _ _ _) ?_)
 go_wp2
 go_ret
 refine ⟨_, rfl, HR.out _ rfl, ⟨?_, ?_, ?_, ?_, ?_⟩, .inr ⟨W.heap.size, rfl, Nat.le_refl _⟩⟩
 ·rw [HW1.out]; rfl
 ·rw [HW1.out]; rfl
 ·rw [HW1.out]; rfl
 ·simp [World.setRow]; rw [HW1.out]; simp [World.alloc]
 ·intro k hk hne
  rw [setRow_other _ _ k _ (by omega)]
  show (W1.setRow W.heap.size c1).heap[k]? = _
  rw [setRow_other _ _ k _ (by omega)]
  exact hO1.out k hk
theorem ins_any (v : Value) (l : List S35) (x : S35) (i : Nat) (W : World) (base vb capv : Nat) (cv : Array Value) (hl : l.length < 1000000) (hi : i ≤ l.length) (hbase : base ≤ W.heap.size) (hO : W.ownsRow base 35 4 v l.length (flatE l)) (hvb : W.heap[vb]? = some (.cells cv 35 (0, 0))) (hcv : cv.toList.take 4 = encE x) (hne : v.ownBlock ≠ some vb) :
  Calls Try.prog 88 #[v, .int .i64 i, .slice (some ⟨vb, 0, none⟩) 1 capv] W (InsPost base W v (l.take i ++ [x] ++ l.drop i)) := by
 by_cases hn : i = l.length
 ·subst hn
  rw [List.take_length, List.drop_length, List.append_nil]
  exact ins_end v l x W base vb capv cv hl hbase hO hvb hcv
 ·have hO2 := hO
  obtain ⟨_, ⟨hv, h0⟩ | ⟨g, cap, cur, hv, hg, hb, h1, h2, h3, h4⟩⟩ := hO2
  ·omega
  ·subst hv
   by_cases hr : l.length + 1 ≤ cap
   ·exact ins_shift g cap cur l _ x i W base vb capv cv hl (by omega) hg hb hr h2 h3 h4 hvb hcv (fun e => hne (by rw [e]; rfl)) rfl
   ·exact ins_grow g cap cur l _ x i W base vb capv cv hl (by omega) hbase hb h1 (by omega) h2 h3 h4 hvb hcv rfl
def impl_Entry.f (l0 : List S35) (a1 : Int) (l2 : List S35) : Option (List S35 × List S35) := if 0 ≤ a1 ∧ a1 ≤ (l0.length : Int) ∧ l0.length < 1000000 ∧ l2.length = 1 then (some (l0.take a1.toNat ++ l2 ++ l0.drop a1.toNat, l2)) else (none)
set_option maxHeartbeats 8000000 in
set_option maxRecDepth 100000 in
theorem impl_Entry.calls (P0_ : Nat → Prop) (u9000_ : Value) (l0 : List S35) (a1 : Int) (P2_ : Nat → Prop) (u9001_ : Value) (l2 : List S35) (r1 : List S35) (r2 : List S35) (w0 w : World) (hB : Below w0.heap.size w0 w) (ho0 : Kd.R k35 35 w w0.heap.size P0_ u9000_ l0) (hp0_2 : ∀ k_, P0_ k_ → ¬ P2_ k_) (ho2 : Kd.R k35 35 w w0.heap.size P2_ u9001_ l2) (hp2_0 : ∀ k_, P2_ k_ → ¬ P0_ k_) (h : impl_Entry.f l0 a1 l2 = some (r1, r2)) :
  Calls Try.prog 88 #[u9000_, .int .i64 a1, u9001_] w fun e w' => ∃ v0_ : Value, e = .returned (v0_) ∧ Kd.R k35 35 w' w0.heap.size (fun k_ => ((P0_ k_ ∨ P2_ k_) ∨ w.heap.size ≤ k_) ∧ some k_ ≠ (u9001_ : Value).ownBlock) v0_ r1 ∧ Kd.R k35 35 w' w0.heap.size (fun k_ => ((P0_ k_ ∨ P2_ k_) ∨ w.heap.size ≤ k_)) u9001_ r2 ∧ Below w0.heap.size w0 w' ∧ Kept w w' (fun k_ => P0_ k_ ∨ P2_ k_) := by
 unfold impl_Entry.f at h
 by_cases hl : 0 ≤ a1 ∧ a1 ≤ (l0.length : Int) ∧ l0.length < 1000000 ∧ l2.length = 1
 ·rw [if_pos hl] at h
  simp only [Option.some.injEq, Prod.mk.injEq] at h
  obtain ⟨rfl, rfl⟩ := h
  obtain ⟨i, rfl⟩ := Int.eq_ofNat_of_zero_le hl.1
  obtain ⟨x, rfl⟩ : ∃ x, l2 = [x] := by
   cases l2 with
   | nil => exact absurd hl.2.2.2 (by simp)
   | cons x t => cases t with
    | nil => exact ⟨x, rfl⟩
    | cons y t => exact absurd hl.2.2.2 (by simp)
  have hO := own_of_RE ho0
  have hO2 := own_of_RE ho2
  have hO2' := hO2
  obtain ⟨_, ⟨hv, h0⟩ | ⟨g, cap, cur, hv, hg, hb, h1, h2, h3, h4⟩⟩ := hO2'
  ·simp at h0
  subst hv
  rw [Int.toNat_natCast]
  have hcv : cur.toList.take 4 = encE x := by
   rw [flatE_one] at h4
   simpa using h4
  have hne : u9000_.ownBlock ≠ some g := fun e => hp0_2 g (ho0.1 g e) (ho2.1 g rfl)
  refine Calls.mono (ins_any u9000_ l0 x i w w0.heap.size g cap cur hl.2.2.1 (by omega) hB.size hO hb hcv hne) ?_
  rintro e w' ⟨v', rfl, ho, hgr, hat⟩
  have hk0 : ∀ k, u9000_.ownBlock = some k → w0.heap.size ≤ k := fun k hk => own_base hO k hk
  refine ⟨v', rfl, R_of_ownE ho (fun k hk => ?_), ?_, pw_below_grown hB u9000_.ownBlock hB.size hgr hk0, hgr.size, ?_⟩
  ·rcases hat with hat | ⟨k', hk', hle⟩
   ·rw [hat] at hk
    exact ⟨.inl (.inl (ho0.1 k hk)), fun e => hne (by rw [hk, e]; rfl)⟩
   ·rw [hk'] at hk
    cases hk
    exact ⟨.inr hle, fun e => by
     have : k = g := by simpa [Value.ownBlock] using e
     have hlt : g < w.heap.size := (Array.getElem?_eq_some_iff.1 hb).1
     omega⟩
  ·exact Kd.R_mono (Kd.R_grown ho2 hgr (fun k hk e => hp2_0 k hk (ho0.1 k e.symm))) (fun k hk => .inl (.inr hk))
  ·intro k hk hnp
   exact hgr.block k hk (fun e => hnp (.inl (ho0.1 k e.symm)))
 ·rw [if_neg hl] at h
  exact absurd h (by simp)

/-! ### impl_Better: function 89 -/
def impl_Better.f (a0_0 : Int) (a0_1 : Int) (a0_2 : Bool) (a0_3 : ByteArray) (a1_0 : Int) (a1_1 : Int) (a1_2 : Bool) (a1_3 : ByteArray) : Option (Int × Int × Bool × ByteArray) := if a1_1 > a0_1 then (some (a1_0, a1_1, a1_2, a1_3)) else (some (a0_0, a0_1, a0_2, a0_3))
set_option maxHeartbeats 8000000 in
set_option maxRecDepth 100000 in
theorem impl_Better.calls (a0_0 : Int) (a0_1 : Int) (a0_2 : Bool) (a0_3 : ByteArray) (a1_0 : Int) (a1_1 : Int) (a1_2 : Bool) (a1_3 : ByteArray) (r1 : Int) (r2 : Int) (r3 : Bool) (r4 : ByteArray) (w : World) (h : impl_Better.f a0_0 a0_1 a0_2 a0_3 a1_0 a1_1 a1_2 a1_3 = some (r1, r2, r3, r4)) :
  Calls Try.prog 89 #[.agg #[.int .i64 a0_0, .int .i64 a0_1, .bool a0_2, .string a0_3], .agg #[.int .i64 a1_0, .int .i64 a1_1, .bool a1_2, .string a1_3]] w fun e w' => e = .returned (.agg #[.int .i64 r1, .int .i64 r2, .bool r3, .string r4]) ∧ Below w.heap.size w w' := by
 have hu35 := Try.underlying35
 have HB := Aside0.mk (Below.refl w.heap.size w)
 have H : (if a1_1 > a0_1 then (some (a1_0, a1_1, a1_2, a1_3)) else (some (a0_0, a0_1, a0_2, a0_3))) = some (r1, r2, r3, r4) := h
 clear h
 by_cases c3 : a1_1 > a0_1
 ·rw [if_pos c3] at H
  have c3b0 : decide (a0_1 < a1_1) = true := decide_eq_true c3
  clear c3
  simp only [Option.some.injEq, Prod.mk.injEq] at H
  obtain ⟨rfl, rfl, rfl, rfl⟩ := H
  go_enter Try.func89, Try.ntmps89
  go_wp2_with (first | ((with_reducible refine gate_dst (N := 2) rfl ?_); refine BE 2 #[.int .i64 a0_0, .int .i64 a0_1, .bool a0_2, .string a0_3] 35 ?_; intro gb569 hg w4 hbox hb; have h_ := P4 (below_step KB hb) hbox (KG hg : w.heap.size ≤ gb569) (KG hg : w.heap.size ≤ gb569); clear HB; obtain ⟨HB, BK569, GW569, GE569⟩ := h_; clear hb hbox hg) | ((with_reducible refine gate_dst (N := 3) rfl ?_); refine BE 3 #[.int .i64 a1_0, .int .i64 a1_1, .bool a1_2, .string a1_3] 35 ?_; intro gb570 hg w5 hbox hb; have h_ := P7 (BL BK569.out hb) (below_step KB hb) hbox (KG hg : w.heap.size ≤ gb570) (KG hg : w.heap.size ≤ gb570) (NX hg BK569.out) (Ne.symm (NX hg BK569.out)); clear BK569 HB; obtain ⟨BK569, HB, BK570, GW570, GE570, NB569_570, NB570_569⟩ := h_; clear hb hbox hg) | ((with_reducible refine gate_dst (N := 4) rfl ?_); refine BE 4 #[.int .i64 0, .int .i64 0, .bool false, .string (⟨#[]⟩ : ByteArray)] 35 ?_; intro gb571 hg w6 hbox hb; have h_ := P10 (BL BK569.out hb) (BL BK570.out hb) (below_step KB hb) hbox (KG hg : w.heap.size ≤ gb571) (KG hg : w.heap.size ≤ gb571) (NX hg BK569.out) (Ne.symm (NX hg BK569.out)) (NX hg BK570.out) (Ne.symm (NX hg BK570.out)); clear BK569 BK570 HB; obtain ⟨BK569, BK570, HB, BK571, GW571, GE571, NB569_571, NB571_569, NB570_571, NB571_570⟩ := h_; clear hb hbox hg; have hnb7 := NB570_569.out; have hnc7 := NB569_570.out; have hnb8 := NB570_571.out; have hnc8 := NB571_570.out; obtain ⟨hcz9_0, hcz9_1, hcz9_2, hcz9_3, hfz9_0, hfz9_1, hfz9_2, hfz9_3⟩ := C4 BK570.out; have hnb10 := NB569_571.out; have hnc10 := NB571_569.out; obtain ⟨hcz11_0, hcz11_1, hcz11_2, hcz11_3, hfz11_0, hfz11_1, hfz11_2, hfz11_3⟩ := C4 BK569.out; obtain ⟨hcz12_0, hcz12_1, hcz12_2, hcz12_3, hfz12_0, hfz12_1, hfz12_2, hfz12_3⟩ := C4 BK571.out))
  refine bodyPost_ret (results_cell_row rfl _ _ gb571 35 #[.int .i64 a1_0, .int .i64 a1_1, .bool a1_2, .string a1_3] (0, 0) _ rfl (by refine SK ?_; refine blk_put (cs := #[.int .i64 a1_0, .int .i64 a1_1, .bool a1_2, .string (⟨#[]⟩ : ByteArray)]) ?_ 3 _ rfl; refine SK ?_; refine blk_put (cs := #[.int .i64 a1_0, .int .i64 a1_1, .bool false, .string (⟨#[]⟩ : ByteArray)]) ?_ 2 _ rfl; refine SK ?_; refine blk_put (cs := #[.int .i64 a1_0, .int .i64 0, .bool false, .string (⟨#[]⟩ : ByteArray)]) ?_ 1 _ rfl; refine SK ?_; refine blk_put (cs := #[.int .i64 0, .int .i64 0, .bool false, .string (⟨#[]⟩ : ByteArray)]) ?_ 0 _ rfl; exact SK BK571.out) Try.underlying35 rfl (by kernel_rfl)) rfl ?_
  exact ⟨KE, KB⟩
 ·rw [if_neg c3] at H
  have c3b0 : decide (a0_1 < a1_1) = false := decide_eq_false c3
  clear c3
  simp only [Option.some.injEq, Prod.mk.injEq] at H
  obtain ⟨rfl, rfl, rfl, rfl⟩ := H
  go_enter Try.func89, Try.ntmps89
  go_wp2_with (first | ((with_reducible refine gate_dst (N := 2) rfl ?_); refine BE 2 #[.int .i64 a0_0, .int .i64 a0_1, .bool a0_2, .string a0_3] 35 ?_; intro gb569 hg w13 hbox hb; have h_ := P4 (below_step KB hb) hbox (KG hg : w.heap.size ≤ gb569) (KG hg : w.heap.size ≤ gb569); clear HB; obtain ⟨HB, BK569, GW569, GE569⟩ := h_; clear hb hbox hg) | ((with_reducible refine gate_dst (N := 3) rfl ?_); refine BE 3 #[.int .i64 a1_0, .int .i64 a1_1, .bool a1_2, .string a1_3] 35 ?_; intro gb570 hg w14 hbox hb; have h_ := P7 (BL BK569.out hb) (below_step KB hb) hbox (KG hg : w.heap.size ≤ gb570) (KG hg : w.heap.size ≤ gb570) (NX hg BK569.out) (Ne.symm (NX hg BK569.out)); clear BK569 HB; obtain ⟨BK569, HB, BK570, GW570, GE570, NB569_570, NB570_569⟩ := h_; clear hb hbox hg) | ((with_reducible refine gate_dst (N := 4) rfl ?_); refine BE 4 #[.int .i64 0, .int .i64 0, .bool false, .string (⟨#[]⟩ : ByteArray)] 35 ?_; intro gb571 hg w15 hbox hb; have h_ := P10 (BL BK569.out hb) (BL BK570.out hb) (below_step KB hb) hbox (KG hg : w.heap.size ≤ gb571) (KG hg : w.heap.size ≤ gb571) (NX hg BK569.out) (Ne.symm (NX hg BK569.out)) (NX hg BK570.out) (Ne.symm (NX hg BK570.out)); clear BK569 BK570 HB; obtain ⟨BK569, BK570, HB, BK571, GW571, GE571, NB569_571, NB571_569, NB570_571, NB571_570⟩ := h_; clear hb hbox hg; have hnb16 := NB570_569.out; have hnc16 := NB569_570.out; have hnb17 := NB570_571.out; have hnc17 := NB571_570.out; obtain ⟨hcz18_0, hcz18_1, hcz18_2, hcz18_3, hfz18_0, hfz18_1, hfz18_2, hfz18_3⟩ := C4 BK570.out; have hnb19 := NB569_571.out; have hnc19 := NB571_569.out; obtain ⟨hcz20_0, hcz20_1, hcz20_2, hcz20_3, hfz20_0, hfz20_1, hfz20_2, hfz20_3⟩ := C4 BK569.out; obtain ⟨hcz21_0, hcz21_1, hcz21_2, hcz21_3, hfz21_0, hfz21_1, hfz21_2, hfz21_3⟩ := C4 BK571.out))
  refine bodyPost_ret (results_cell_row rfl _ _ gb571 35 #[.int .i64 a0_0, .int .i64 a0_1, .bool a0_2, .string a0_3] (0, 0) _ rfl (by refine SK ?_; refine blk_put (cs := #[.int .i64 a0_0, .int .i64 a0_1, .bool a0_2, .string (⟨#[]⟩ : ByteArray)]) ?_ 3 _ rfl; refine SK ?_; refine blk_put (cs := #[.int .i64 a0_0, .int .i64 a0_1, .bool false, .string (⟨#[]⟩ : ByteArray)]) ?_ 2 _ rfl; refine SK ?_; refine blk_put (cs := #[.int .i64 a0_0, .int .i64 0, .bool false, .string (⟨#[]⟩ : ByteArray)]) ?_ 1 _ rfl; refine SK ?_; refine blk_put (cs := #[.int .i64 0, .int .i64 0, .bool false, .string (⟨#[]⟩ : ByteArray)]) ?_ 0 _ rfl; exact SK BK571.out) Try.underlying35 rfl (by kernel_rfl)) rfl ?_
  exact ⟨KE, KB⟩

end Go.Proofs.Ytnoghojlpicecaa.PFnSealed
