-- What each Go function that this law reaches comes to: written by a program out of the translation.
import Derived.Test.YtnoghojlpicecaaMFnErasx0
import Derived.Test.YtnoghojlpicecaaMFnErasx6
import Derived.Test.YtnoghojlpicecaaMFnErasx7
import Derived.Test.YtnoghojlpicecaaMFnErasx11
namespace Go.Proofs.Ytnoghojlpicecaa.PFnEras
open Go.RowKit Go.Proofs.YtnoghojlpicecaaW.PrintWords Go.Proofs.YtnoghojlpicecaaW.PrintLast Go.Proofs.YtnoghojlpicecaaW.PrintMore
attribute [local go_sem] max2_int min2_int max_two min_two max_three min_three max_four min_four   -- for this text's walks alone
set_option linter.unusedVariables false
set_option linter.unusedSimpArgs false

/-! ### spec_l6Draw: function 56 -/
def spec_l6Draw.l0 : Nat → List Int → Int → Int → List (S35) → List (S35) → Int → Option ((List (S35)) × (List (S35)) × Int × Int × Int)
 | 0, _, _, _, _, _, _ => none
 | k + 1, x1000, x1001, x1002, x500000, x500001, x500002 => (spec_l1Below.f x1000 x1001 x1002 2).bind fun bt527 => (if (x500001.length : Int) < (wrap64 (20 + bt527.1)) then ((spec_l1Place.f 5 1).bind fun t530 => (if x500001.length < 3518437208883 then (spec_l6Draw.l0 k x1000 bt527.2.1 bt527.2.2 x500000 (x500001 ++ [(⟨t530, 0, false, (⟨#[]⟩ : ByteArray)⟩ : S35)]) x500002) else (none))) else (some (x500000, x500001, x500002, bt527.2.1, bt527.2.2)))
def spec_l6Draw.f (k : Nat) (s0_0 : List Int) (s0_1 : Int) (s0_2 : Int) : Option ((List (S35)) × (List (S35)) × Int × Int × Int) := (spec_l6DrawRight.f k s0_0 s0_1 s0_2).bind fun bt490 => ((spec_l1Below.f s0_0 bt490.2.2.2.1 bt490.2.2.2.2 25).bind fun bt500 => (if bt500.1 = 0 then ((spec_l1PickInt.f s0_0 bt500.2.1 bt500.2.2 (([(-1), 30, 31] : List Int))).bind fun bt506 => (some (bt490.1, bt490.2.1, bt506.1, bt506.2.1, bt506.2.2))) else (if bt500.1 = 1 then ((spec_l3Draw.f s0_0 bt500.2.1 bt500.2.2).bind fun bt509 => (if bt490.1.length < 3518437208883 then (some ((bt490.1 ++ [(⟨bt509.1, bt509.2.1, bt509.2.2.1, bt509.2.2.2.1⟩ : S35)]), bt490.2.1, bt490.2.2.1, bt509.2.2.2.2.1, bt509.2.2.2.2.2)) else (none))) else (if bt500.1 = 2 then ((spec_l3Draw.f s0_0 bt500.2.1 bt500.2.2).bind fun bt518 => (if bt490.2.1.length < 3518437208883 then (some (bt490.1, (bt490.2.1 ++ [(⟨bt518.1, bt518.2.1, bt518.2.2.1, bt518.2.2.2.1⟩ : S35)]), bt490.2.2.1, bt518.2.2.2.2.1, bt518.2.2.2.2.2)) else (none))) else (if bt500.1 = 3 then (spec_l6Draw.l0 k s0_0 bt500.2.1 bt500.2.2 bt490.1 bt490.2.1 bt490.2.2.1) else (some (bt490.1, bt490.2.1, bt490.2.2.1, bt500.2.1, bt500.2.2)))))))
theorem spec_l6Draw.mono_l : ∀ k, (∀ y0 y1 y2 y3 y4 y5, LeO (spec_l6Draw.l0 k y0 y1 y2 y3 y4 y5) (spec_l6Draw.l0 (k + 1) y0 y1 y2 y3 y4 y5))
 | 0 => fun _ _ _ _ _ _ r h => by simp [spec_l6Draw.l0] at h
 | k + 1 => by
  have ih0 := spec_l6Draw.mono_l k
  ·intro y0 y1 y2 y3 y4 y5
   unfold spec_l6Draw.l0
   repeat' first
   | (with_reducible exact ih0 _ _ _ _ _ _)
   | (with_reducible exact spec_l6DrawRight.mono _ _ _ _)
   | (with_reducible exact LeO.refl _)
   | (with_reducible exact LeO.none _)
   | (with_reducible refine LeO.ite ?_ ?_)
   | (with_reducible refine LeO.bind ?_ (fun _ => ?_))
   | exact ih0 _ _ _ _ _ _
   | exact spec_l6DrawRight.mono _ _ _ _
   | exact LeO.none _
   | refine LeO.ite ?_ ?_
   | refine LeO.bind ?_ (fun _ => ?_)
theorem spec_l6Draw.mono : ∀ a0 a1 a2 k, LeO (spec_l6Draw.f k a0 a1 a2) (spec_l6Draw.f (k + 1) a0 a1 a2) := by
 intro a0 a1 a2 k; have ih0 := spec_l6Draw.mono_l k
 unfold spec_l6Draw.f
 repeat' first
   | (with_reducible exact ih0 _ _ _ _ _ _)
   | (with_reducible exact spec_l6DrawRight.mono _ _ _ _)
   | (with_reducible exact LeO.refl _)
   | (with_reducible exact LeO.none _)
   | (with_reducible refine LeO.ite ?_ ?_)
   | (with_reducible refine LeO.bind ?_ (fun _ => ?_))
   | exact ih0 _ _ _ _ _ _
   | exact spec_l6DrawRight.mono _ _ _ _
   | exact LeO.none _
   | refine LeO.ite ?_ ?_
   | refine LeO.bind ?_ (fun _ => ?_)
def spec_l6Draw.T6 : Bool × List (List Nat × List Nat) := (true, [([], []), ([0], [0]), ([], []), ([2], [2]), ([3], [3]), ([1, 4, 3], [1, 4]), ([0, 1, 2, 3, 4, 5], []), ([6, 5, 5, 0, 1, 2, 3, 4, 5], [5, 6])])
def spec_l6Draw.B6 : List Nat := [0, 1, 0, 4, 12, 31, 63, 127]
theorem spec_l6Draw.tab6 : rtab .any (opsOf Try.f56 6) = spec_l6Draw.T6 := by kernel_rfl
theorem spec_l6Draw.bits6 : waitsOk spec_l6Draw.T6.2 spec_l6Draw.B6 = true := by kernel_rfl
def spec_l6Draw.T8 : Bool × List (List Nat × List Nat) := (true, [([], []), ([0], [0]), ([], []), ([2], [2]), ([3], [3]), ([1, 4, 3], [1, 4]), ([0, 1, 2, 3, 4, 5], []), ([6, 5, 5, 0, 1, 2, 3, 4, 5], [5, 6])])
def spec_l6Draw.B8 : List Nat := [0, 1, 0, 4, 12, 31, 63, 127]
theorem spec_l6Draw.tab8 : rtab .any (opsOf Try.f56 8) = spec_l6Draw.T8 := by kernel_rfl
theorem spec_l6Draw.bits8 : waitsOk spec_l6Draw.T8.2 spec_l6Draw.B8 = true := by kernel_rfl
def spec_l6Draw.T11 : Bool × List (List Nat × List Nat) := (true, [([], []), ([0], [0]), ([], []), ([2], [2]), ([3], [3]), ([1, 4, 2], [1, 4]), ([0, 1, 2, 3, 4, 5], []), ([6, 5, 5, 0, 1, 2, 3, 4, 5], [5, 6])])
def spec_l6Draw.B11 : List Nat := [0, 1, 0, 4, 12, 31, 63, 127]
theorem spec_l6Draw.tab11 : rtab .any (opsOf Try.f56 11) = spec_l6Draw.T11 := by kernel_rfl
theorem spec_l6Draw.bits11 : waitsOk spec_l6Draw.T11.2 spec_l6Draw.B11 = true := by kernel_rfl
set_option maxHeartbeats 8000000 in
set_option maxRecDepth 100000 in
theorem spec_l6Draw.calls (k : Nat) (g : Nat) (s0_0 : List Int) (s0_1 : Int) (s0_2 : Int) (r1 : List (S35)) (r2 : List (S35)) (r3 : Int) (r4 : Int) (r5 : Int) (w0 w : World) (hI : IsS87 w0 w g s0_0 s0_1 s0_2) (hB : Below w0.heap.size w0 w) (h : spec_l6Draw.f k s0_0 s0_1 s0_2 = some (r1, r2, r3, r4, r5)) :
  Calls Try.prog 56 #[.pointer (some ⟨g, 0, none⟩)] w fun e w' => ∃ v0_ v1_ : Value, e = .returned (.agg #[v0_, v1_, .int .i64 r3]) ∧ Kd.R k35 35 w' w.heap.size (fun k_ => some k_ ≠ (v1_ : Value).ownBlock) v0_ r1 ∧ Kd.R k35 35 w' w.heap.size (fun k_ => some k_ ≠ (v0_ : Value).ownBlock) v1_ r2 ∧ IsS87 w0 w' g s0_0 r4 r5 ∧ Below w0.heap.size w0 w' ∧ KeepBut w w' g none := by
 have hu31 := Try.underlying31; have hu35 := Try.underlying35; have HI0 := Aside0.mk hI; have HK := Aside0.mk (KeepBut.refl w g none); have HL := Aside0.mk hB.size; clear hI; have HW0 := Aside0.mk hB.size; have HB := Aside0.mk hB; clear hB; have H : ((spec_l6DrawRight.f k s0_0 s0_1 s0_2).bind fun bt490 => ((spec_l1Below.f s0_0 bt490.2.2.2.1 bt490.2.2.2.2 25).bind fun bt500 => (if bt500.1 = 0 then ((spec_l1PickInt.f s0_0 bt500.2.1 bt500.2.2 (([(-1), 30, 31] : List Int))).bind fun bt506 => (some (bt490.1, bt490.2.1, bt506.1, bt506.2.1, bt506.2.2))) else (if bt500.1 = 1 then ((spec_l3Draw.f s0_0 bt500.2.1 bt500.2.2).bind fun bt509 => (if bt490.1.length < 3518437208883 then (some ((bt490.1 ++ [(⟨bt509.1, bt509.2.1, bt509.2.2.1, bt509.2.2.2.1⟩ : S35)]), bt490.2.1, bt490.2.2.1, bt509.2.2.2.2.1, bt509.2.2.2.2.2)) else (none))) else (if bt500.1 = 2 then ((spec_l3Draw.f s0_0 bt500.2.1 bt500.2.2).bind fun bt518 => (if bt490.2.1.length < 3518437208883 then (some (bt490.1, (bt490.2.1 ++ [(⟨bt518.1, bt518.2.1, bt518.2.2.1, bt518.2.2.2.1⟩ : S35)]), bt490.2.2.1, bt518.2.2.2.2.1, bt518.2.2.2.2.2)) else (none))) else (if bt500.1 = 3 then (spec_l6Draw.l0 k s0_0 bt500.2.1 bt500.2.2 bt490.1 bt490.2.1 bt490.2.2.1) else (some (bt490.1, bt490.2.1, bt490.2.2.1, bt500.2.1, bt500.2.2)))))))) = some (r1, r2, r3, r4, r5) := h; clear h; replace H := Option.bind_eq_some_iff.mp H; obtain ⟨⟨t490, t493, t496, t497, t498⟩, A20, H⟩ := H
 try dsimp only at H
 have A2 := Aside0.mk A20; clear A20; replace H := Option.bind_eq_some_iff.mp H; obtain ⟨⟨t500, t501, t502⟩, A30, H⟩ := H
 try dsimp only at H
 have A3 := Aside0.mk A30; clear A30
 by_cases c4 : t500 = 0
 ·rw [if_pos c4] at H
  have c4b0 : (t500 == 0) = true := beq_iff_eq.mpr c4; have c4b1 : (t500 != 0) = false := bne_eq_false_iff_eq.mpr c4; clear c4; obtain ⟨y503, hy503⟩ : ∃ y_ : List Int, y_ = (([(-1), 30, 31] : List Int)) := ⟨_, rfl⟩; replace H : ((spec_l1PickInt.f s0_0 t501 t502 y503).bind fun bt506 => (some (t490, t493, bt506.1, bt506.2.1, bt506.2.2))) = some (r1, r2, r3, r4, r5) := by first | (rw [hy503]; with_reducible exact H) | (have H2_ := (Option.bind_some _ _).symm.trans H; rw [hy503]; with_reducible exact H2_) | (have H2_ := (Option.bind_some _ _).symm.trans H; with_reducible exact H2_) | with_reducible exact H | (rw [hy503]; exact H) | exact H
  have Ny503 := Aside0.mk hy503; clear hy503; replace H := Option.bind_eq_some_iff.mp H; obtain ⟨⟨t506, t507, t508⟩, A50, H⟩ := H
  try dsimp only at H
  have A5 := Aside0.mk A50; clear A50; simp only [Option.some.injEq, Prod.mk.injEq] at H; obtain ⟨rfl, rfl, rfl, rfl, rfl⟩ := H
  go_enter Try.func56, Try.ntmps56
  go_wp2_with (first | ((with_reducible refine GD 2 ?_); refine BE 2 #[.slice none 0 0, .slice none 0 0, .int .i64 0] 31 ?_; intro gb489 hg w6 hbox hb; have h_ := P8 (IsS87.below (KI87) hb) (KeepBut.trans KH (KeepBut.of_below hb g none) (.inl rfl)) (below_step KB87 hb) hbox (KSg hg HK.out) (Nat.le_trans HW0.out (KSg hg HK.out)) (by rw [hg]; exact Nat.ne_of_lt (IsS87.lt (show IsS87 w0 _ g s0_0 s0_1 s0_2 from KI87)) : g ≠ gb489) (by rw [hg]; exact Nat.ne_of_gt (IsS87.lt (show IsS87 w0 _ g s0_0 s0_1 s0_2 from KI87)) : gb489 ≠ g); clear HI0 HK HB; obtain ⟨HI0, HK, HB, BK489, GW489, GE489, NB0_489, NB489_0⟩ := h_; clear hb hbox hg) | ((with_reducible refine GC 82 ?_); refine goesL_ (some 5) rfl rfl Try.func82 (by kernel_rfl) rfl #[.pointer (some ⟨g, 0, none⟩)] rfl KL ?_; (with_reducible refine (spec_l6DrawRight.calls k g s0_0 s0_1 s0_2 t490 t493 t496 t497 t498 w0 _ ?side1 ?side2 A2.out).mono ?_); (case side1 => exact KI87); (case side2 => exact KBh87 HB.out); rintro e w7 ⟨v491, v494, rfl, ho0, ho1, hi, hb, hk⟩; refine ⟨_, rfl, ?_⟩; have h_ := P6 (KW BK489.out hk NB489_0.out) (Kd.R_lower ho0 (KS HK.out)) (Kd.R_lower ho1 (KS HK.out)) (KeepBut.trans (KHh HK.out) hk (.inl rfl)) hb hi; clear BK489 HK HB HI0; obtain ⟨BK489, HO492, HO495, HK, HB, HI0⟩ := h_; (try clear hb); (try clear hk); (try clear hi); (try clear ho0); (try clear ho1)) | ((with_reducible refine GD 3 ?_); refine BE 3 #[.slice none 0 0, .slice none 0 0, .int .i64 0] 31 ?_; intro gb499 hg w8 hbox hb; have h_ := P13 (Kd.R_below (KR HO492.out) hb) (Kd.R_below (KR HO495.out) hb) (IsS87.below (KI87) hb) (BL BK489.out hb) (KeepBut.trans (KHh HK.out) (KeepBut.of_below hb g none) (.inl rfl)) (below_step (KBh87 HB.out) hb) hbox (KSg hg HK.out) (Nat.le_trans HW0.out (KSg hg HK.out)) (NX hg BK489.out) (NY hg BK489.out) (by rw [hg]; exact Nat.ne_of_lt (IsS87.lt (show IsS87 w0 _ g s0_0 t497 t498 from KI87)) : g ≠ gb499) (by rw [hg]; exact Nat.ne_of_gt (IsS87.lt (show IsS87 w0 _ g s0_0 t497 t498 from KI87)) : gb499 ≠ g); clear HO492 HO495 HI0 BK489 HK HB; obtain ⟨HO492, HO495, HI0, BK489, HK, HB, BK499, GW499, GE499, NB489_499, NB499_489, NB0_499, NB499_0⟩ := h_; clear hb hbox hg; obtain ⟨Ao9, co9, eo9⟩ := Kd.R_slice HO492.out; subst eo9; have hnb10 := NB499_489.out; have hnc10 := NB489_499.out; have hnb11 := NB499_0.out; have hnc11 := NB0_499.out; obtain ⟨hcz12_0, hcz12_1, hcz12_2, hfz12_0, hfz12_1, hfz12_2⟩ := C3 BK499.out; obtain ⟨Ao13, co13, eo13⟩ := Kd.R_slice HO495.out; subst eo13) | ((with_reducible refine GC 57 ?_); refine goesL_ (some 7) rfl rfl Try.func57 (by kernel_rfl) rfl #[.pointer (some ⟨g, 0, none⟩), .int .i64 25] rfl KL ?_; (with_reducible refine (spec_l1Below.calls g s0_0 t497 t498 25 t500 t501 t502 w0 _ ?side1 ?side2 A3.out).mono ?_); (case side1 => exact KI87); (case side2 => exact KBh87 HB.out); rintro e w14 ⟨rfl, hi, hb, hk⟩; refine ⟨_, rfl, ?_⟩; have h_ := P7 (KW BK489.out hk NB489_0.out) (Kd.R_mono (Kd.R_keep (IsS87.apart (show IsS87 w0 _ g s0_0 t497 t498 from KI87) (RQ (RT HO492.out BK499.out)) (by decide)) hk (fun _ h => h.2)) (fun _ h => h.1)) (Kd.R_mono (Kd.R_keep (IsS87.apart (show IsS87 w0 _ g s0_0 t497 t498 from KI87) (RQ (RT HO495.out BK499.out)) (by decide)) hk (fun _ h => h.2)) (fun _ h => h.1)) (KeepBut.blk hk (g' := gb499) (o := .cells #[.slice Ao9 t490.length co9, .slice Ao13 t493.length co13, .int .i64 t496] 31 (0, 0)) (by refine SK ?_; refine BP #[.slice Ao9 t490.length co9, .slice Ao13 t493.length co13, .int .i64 0] ?_ 2; refine SK ?_; refine BP #[.slice Ao9 t490.length co9, .slice none 0 0, .int .i64 0] ?_ 1; refine SK ?_; refine BP #[.slice none 0 0, .slice none 0 0, .int .i64 0] ?_ 0; exact SK BK499.out) NB499_0.out (by simp)) (KeepBut.trans (KHh HK.out) hk (.inl rfl)) hb hi; clear BK489 HO492 HO495 BK499 HK HB HI0; obtain ⟨BK489, HO492, HO495, BK499, HK, HB, HI0⟩ := h_; (try clear hb); (try clear hk); (try clear hi)) | ((with_reducible refine GD 11 ?_); refine Kd.R_lit (Kd.int .i64) _ 3 ?hg (N := 11) ?hd (xs := ([(-1), 30, 31] : List Int)) (inner := [.int .i64 (-1), .int .i64 30, .int .i64 31]) (ok := fun _ => True) (okp := fun _ => True) ?hr ?hp (fun _ hk => hk) trivial (Below.refl _ _) (Nat.le_refl _) (by simp) ?_; (case hd => rfl); (case hg => rfl); (case hr => first | (go_simp; done) | (go_simp; rfl)); (case hp => exact (Reps.one (show Kd.M (Kd.int .i64) _ _ _ (-1) [.int .i64 (-1)] from rfl) (Reps.one (show Kd.M (Kd.int .i64) _ _ _ 30 [.int .i64 30] from rfl) (Reps.one (show Kd.M (Kd.int .i64) _ _ _ 31 [.int .i64 31] from rfl) (Reps.none _ _))))); intro v504 w15 ho16 hb hg_ hnew_; clear hg_ hnew_; (first | rw [← Ny503.out] at ho16 | (simp only [Int.reduceToNat] at ho16; rw [← Ny503.out] at ho16)); have h_ := P8 (Kd.R_below (KR HO492.out) hb) (Kd.R_below (KR HO495.out) hb) (Kd.R_lower ho16 (KS HK.out)) (IsS87.below (KI87) hb) (BL BK489.out hb) (BL BK499.out hb) (KeepBut.trans (KHh HK.out) (KeepBut.of_below hb g none) (.inl rfl)) (below_step (KBh87 HB.out) hb); clear HO492 HO495 HI0 BK489 BK499 HK HB; obtain ⟨HO492, HO495, HO505, HI0, BK489, BK499, HK, HB⟩ := h_; clear hb ho16; obtain ⟨Ao17, co17, eo17⟩ := Kd.R_slice HO505.out; subst eo17) | ((with_reducible refine GC 62 ?_); refine goesL_ (some 12) rfl rfl Try.func62 (by kernel_rfl) rfl #[.pointer (some ⟨g, 0, none⟩), .slice Ao17 y503.length co17] rfl KL ?_; (with_reducible refine (spec_l1PickInt.calls g s0_0 t501 t502 _ _ y503 t506 t507 t508 w0 _ ?side1 ?side2 ?side3 ?side4 ?side5 A5.out).mono ?_); (case side1 => exact KI87); (case side2 => exact KBh87 HB.out); (case side3 => repeat (first | exact (Kd.R_reads' HO505.out).2.2 | (with_reducible refine Kd.C_alloc ?_ _) | (with_reducible refine Kd.C_drewN ?_ _) | (with_reducible refine Kd.C_drew ?_))); (case side4 => exact (Kd.R_reads' HO505.out).2.1); (case side5 => exact far_slice (IsS87.own_ne HI0.out HO505.out (by decide))); rintro e w18 ⟨rfl, hi, hb, hk⟩; refine ⟨_, rfl, ?_⟩; have h_ := P8 (KW BK489.out hk NB489_0.out) (Kd.R_mono (Kd.R_keep (IsS87.apart (show IsS87 w0 _ g s0_0 t501 t502 from KI87) (KR HO492.out) (by decide)) hk (fun _ h => h.2)) (fun _ h => h.1)) (Kd.R_mono (Kd.R_keep (IsS87.apart (show IsS87 w0 _ g s0_0 t501 t502 from KI87) (KR HO495.out) (by decide)) hk (fun _ h => h.2)) (fun _ h => h.1)) (KW BK499.out hk NB499_0.out) (Kd.R_mono (Kd.R_keep (IsS87.apart (show IsS87 w0 _ g s0_0 t501 t502 from KI87) (KR HO505.out) (by decide)) hk (fun _ h => h.2)) (fun _ h => h.1)) (KeepBut.trans (KHh HK.out) hk (.inl rfl)) hb hi; clear BK489 HO492 HO495 BK499 HO505 HK HB HI0; obtain ⟨BK489, HO492, HO495, BK499, HO505, HK, HB, HI0⟩ := h_; (try clear hb); (try clear hk); (try clear hi); obtain ⟨hcz19_0, hcz19_1, hcz19_2, hfz19_0, hfz19_1, hfz19_2⟩ := C3 BK499.out; have hnb20 := NB489_0.out; have hnc20 := NB0_489.out; obtain ⟨hcz21_0, hcz21_1, hcz21_2, hfz21_0, hfz21_1, hfz21_2⟩ := C3 BK489.out))
  refine bodyPost_ret (results_cell_row rfl _ _ gb489 31 #[.slice Ao9 t490.length co9, .slice Ao13 t493.length co13, .int .i64 t506] (0, 0) _ rfl (by refine SK ?_; refine BP #[.slice Ao9 t490.length co9, .slice Ao13 t493.length co13, .int .i64 0] ?_ 2; refine SK ?_; refine BP #[.slice Ao9 t490.length co9, .slice none 0 0, .int .i64 0] ?_ 1; refine SK ?_; refine BP #[.slice none 0 0, .slice none 0 0, .int .i64 0] ?_ 0; refine SK ?_; refine blk_far ?_ NB489_499.out _; exact SK BK489.out) Try.underlying31 rfl (by kernel_rfl)) rfl ?_; exact ⟨_, _, KE, RQ (RT (RT HO492.out BK499.out) BK489.out) (hm := fun _ h => h.1.1), RQ (RT (RT HO495.out BK499.out) BK489.out) (hm := fun _ h => h.1.1), KI87, KBh87 HB.out, by repeat (first | (with_reducible first | exact HK.out | apply KeepBut.set_ | apply keep_drewN | apply keep_drew | apply keep_alloc | refine keep_far ?_ GW489.out _ | refine keep_far ?_ GW499.out _) | exact HK.out)⟩
 ·rw [if_neg c4] at H
  have c4b0 : (t500 == 0) = false := beq_eq_false_iff_ne.mpr c4; have c4b1 : (t500 != 0) = true := bne_iff_ne.mpr c4
  by_cases c22 : t500 = 1
  ·rw [if_pos c22] at H
   have c22b0 : (t500 == 1) = true := beq_iff_eq.mpr c22; have c22b1 : (t500 != 1) = false := bne_eq_false_iff_eq.mpr c22; clear c22; replace H := Option.bind_eq_some_iff.mp H; obtain ⟨⟨t509, t510, t511, t512, t513, t514⟩, A230, H⟩ := H
   try dsimp only at H
   have A23 := Aside0.mk A230; clear A230
   by_cases c24 : t490.length < 3518437208883
   ·rw [if_pos c24] at H
    have LMc24 := Aside0.mk c24; clear c24; obtain ⟨y515, hy515⟩ : ∃ y_ : List (S35), y_ = (t490 ++ [(⟨t509, t510, t511, t512⟩ : S35)]) := ⟨_, rfl⟩; replace H : (some (y515, t493, t496, t513, t514)) = some (r1, r2, r3, r4, r5) := by first | (rw [hy515]; with_reducible exact H) | (have H2_ := (Option.bind_some _ _).symm.trans H; rw [hy515]; with_reducible exact H2_) | (have H2_ := (Option.bind_some _ _).symm.trans H; with_reducible exact H2_) | with_reducible exact H | (rw [hy515]; exact H) | exact H
    have Ny515 := Aside0.mk hy515; clear hy515; simp only [Option.some.injEq, Prod.mk.injEq] at H; obtain ⟨rfl, rfl, rfl, rfl, rfl⟩ := H
    go_enter Try.func56, Try.ntmps56
    try go_wp2_with (first | ((with_reducible refine GD 2 ?_); refine BE 2 #[.slice none 0 0, .slice none 0 0, .int .i64 0] 31 ?_; intro gb489 hg w25 hbox hb; have h_ := P8 (IsS87.below (KI87) hb) (KeepBut.trans KH (KeepBut.of_below hb g none) (.inl rfl)) (below_step KB87 hb) hbox (KSg hg HK.out) (Nat.le_trans HW0.out (KSg hg HK.out)) (by rw [hg]; exact Nat.ne_of_lt (IsS87.lt (show IsS87 w0 _ g s0_0 s0_1 s0_2 from KI87)) : g ≠ gb489) (by rw [hg]; exact Nat.ne_of_gt (IsS87.lt (show IsS87 w0 _ g s0_0 s0_1 s0_2 from KI87)) : gb489 ≠ g); clear HI0 HK HB; obtain ⟨HI0, HK, HB, BK489, GW489, GE489, NB0_489, NB489_0⟩ := h_; clear hb hbox hg) | ((with_reducible refine GC 82 ?_); refine goesL_ (some 5) rfl rfl Try.func82 (by kernel_rfl) rfl #[.pointer (some ⟨g, 0, none⟩)] rfl KL ?_; (with_reducible refine (spec_l6DrawRight.calls k g s0_0 s0_1 s0_2 t490 t493 t496 t497 t498 w0 _ ?side1 ?side2 A2.out).mono ?_); (case side1 => exact KI87); (case side2 => exact KBh87 HB.out); rintro e w26 ⟨v491, v494, rfl, ho0, ho1, hi, hb, hk⟩; refine ⟨_, rfl, ?_⟩; have h_ := P6 (KW BK489.out hk NB489_0.out) (Kd.R_lower ho0 (KS HK.out)) (Kd.R_lower ho1 (KS HK.out)) (KeepBut.trans (KHh HK.out) hk (.inl rfl)) hb hi; clear BK489 HK HB HI0; obtain ⟨BK489, HO492, HO495, HK, HB, HI0⟩ := h_; (try clear hb); (try clear hk); (try clear hi); (try clear ho0); (try clear ho1)) | ((with_reducible refine GD 3 ?_); refine BE 3 #[.slice none 0 0, .slice none 0 0, .int .i64 0] 31 ?_; intro gb499 hg w27 hbox hb; have h_ := P13 (Kd.R_below (KR HO492.out) hb) (Kd.R_below (KR HO495.out) hb) (IsS87.below (KI87) hb) (BL BK489.out hb) (KeepBut.trans (KHh HK.out) (KeepBut.of_below hb g none) (.inl rfl)) (below_step (KBh87 HB.out) hb) hbox (KSg hg HK.out) (Nat.le_trans HW0.out (KSg hg HK.out)) (NX hg BK489.out) (NY hg BK489.out) (by rw [hg]; exact Nat.ne_of_lt (IsS87.lt (show IsS87 w0 _ g s0_0 t497 t498 from KI87)) : g ≠ gb499) (by rw [hg]; exact Nat.ne_of_gt (IsS87.lt (show IsS87 w0 _ g s0_0 t497 t498 from KI87)) : gb499 ≠ g); clear HO492 HO495 HI0 BK489 HK HB; obtain ⟨HO492, HO495, HI0, BK489, HK, HB, BK499, GW499, GE499, NB489_499, NB499_489, NB0_499, NB499_0⟩ := h_; clear hb hbox hg; obtain ⟨Ao28, co28, eo28⟩ := Kd.R_slice HO492.out; subst eo28; have hnb29 := NB499_489.out; have hnc29 := NB489_499.out; have hnb30 := NB499_0.out; have hnc30 := NB0_499.out; obtain ⟨hcz31_0, hcz31_1, hcz31_2, hfz31_0, hfz31_1, hfz31_2⟩ := C3 BK499.out; obtain ⟨Ao32, co32, eo32⟩ := Kd.R_slice HO495.out; subst eo32) | ((with_reducible refine GC 57 ?_); refine goesL_ (some 7) rfl rfl Try.func57 (by kernel_rfl) rfl #[.pointer (some ⟨g, 0, none⟩), .int .i64 25] rfl KL ?_; (with_reducible refine (spec_l1Below.calls g s0_0 t497 t498 25 t500 t501 t502 w0 _ ?side1 ?side2 A3.out).mono ?_); (case side1 => exact KI87); (case side2 => exact KBh87 HB.out); rintro e w33 ⟨rfl, hi, hb, hk⟩; refine ⟨_, rfl, ?_⟩; have h_ := P7 (KW BK489.out hk NB489_0.out) (Kd.R_mono (Kd.R_keep (IsS87.apart (show IsS87 w0 _ g s0_0 t497 t498 from KI87) (RQ (RT HO492.out BK499.out)) (by decide)) hk (fun _ h => h.2)) (fun _ h => h.1)) (Kd.R_mono (Kd.R_keep (IsS87.apart (show IsS87 w0 _ g s0_0 t497 t498 from KI87) (RQ (RT HO495.out BK499.out)) (by decide)) hk (fun _ h => h.2)) (fun _ h => h.1)) (KeepBut.blk hk (g' := gb499) (o := .cells #[.slice Ao28 t490.length co28, .slice Ao32 t493.length co32, .int .i64 t496] 31 (0, 0)) (by refine SK ?_; refine BP #[.slice Ao28 t490.length co28, .slice Ao32 t493.length co32, .int .i64 0] ?_ 2; refine SK ?_; refine BP #[.slice Ao28 t490.length co28, .slice none 0 0, .int .i64 0] ?_ 1; refine SK ?_; refine BP #[.slice none 0 0, .slice none 0 0, .int .i64 0] ?_ 0; exact SK BK499.out) NB499_0.out (by simp)) (KeepBut.trans (KHh HK.out) hk (.inl rfl)) hb hi; clear BK489 HO492 HO495 BK499 HK HB HI0; obtain ⟨BK489, HO492, HO495, BK499, HK, HB, HI0⟩ := h_; (try clear hb); (try clear hk); (try clear hi)))
    have h_ := P7 (Kd.R_drew HO492.out) (Kd.R_drew HO495.out) (blk_drew BK489.out) (blk_drew BK499.out) (IsS87.drew HI0.out) (keep_drew HK.out) (below_drew1 HB.out); clear HO492 HO495 BK489 BK499 HI0 HK HB; obtain ⟨HO492, HO495, BK489, BK499, HI0, HK, HB⟩ := h_; refine start_ (n := 8) (S := fun w' => w'.cell? ⟨gb499, 0, none⟩ = some (.slice Ao28 t490.length co28) ∧ w'.cell? ⟨gb499, 1, none⟩ = some (.slice Ao32 t493.length co32) ∧ w'.cell? ⟨gb499, 2, none⟩ = some (.int .i64 t496)) (ds := [7]) #[F, F, F, F, F, F, F, F] (by kernel_rfl) rfl rfl ⟨(blk_cell BK499.out 0).trans rfl, (blk_cell BK499.out 1).trans rfl, (blk_cell BK499.out 2).trans rfl⟩ (fun hHeld => ?_); refine with_tabW spec_l6Draw.tab6 spec_l6Draw.bits6 (fun HT_ HW_ => ?_); generalize w33.drew = w34 at HO492 HO495 BK489 BK499 HI0 HK HB hHeld ⊢; refine pure_ (i := 0) (N := some 16) (v := ?_) (a' := ?_) #[T, F, F, F, F, F, F, F] rfl rfl (any_of HT_.out (by kernel_rfl)) (fun _ _ _ h => h) (Or.inl ⟨by rfl, ?_⟩) ?_ ?_; rotate_left
    ·exact KV
    rotate_left
    ·exact KA
    refine pure_ (i := 2) (N := some 18) (v := ?_) (a' := ?_) #[T, F, T, F, F, F, F, F] rfl rfl (any_of HT_.out (by kernel_rfl)) (fun _ _ _ h => h) (Or.inl ⟨by rfl, ?_⟩) ?_ ?_; rotate_left
    ·exact KV
    rotate_left
    ·exact KA
    refine take_ (i := 1) (N := some 17) (v := ?_) (a' := ?_) #[T, T, T, F, F, F, F, F] rfl rfl (take_ofW HT_.out HW_.out (by kernel_rfl)) (fun _ _ _ h => h) (Or.inl ⟨by rfl, ?_⟩) hHeld ?_ ?_; rotate_left
    ·rintro w' ⟨s0, s1, s2⟩
     go_simp; with_reducible rfl
    rotate_left
    ·exact KA
    refine one_ (i := 3) (N := some 19) #[T, T, T, T, F, F, F, F] rfl rfl (one_of HT_.out (by kernel_rfl)) (by decide) (fun K hK => ?_); refine goes_ Try.func70 (by kernel_rfl) rfl #[.pointer (some ⟨g, 0, none⟩)] (by rfl) rfl rfl KL ?_; (with_reducible refine (spec_l3Draw.calls g s0_0 t501 t502 t509 t510 t511 t512 t513 t514 w0 _ ?side1 ?side2 A23.out).mono ?_); (case side1 => exact KI87); (case side2 => exact KBh87 HB.out); rintro e w35 ⟨rfl, hi, hb, hk⟩; refine ⟨_, rfl, ?_⟩; have h_ := P7 (KW BK489.out hk NB489_0.out) (Kd.R_mono (Kd.R_keep (IsS87.apart (show IsS87 w0 _ g s0_0 t501 t502 from KI87) (KR HO492.out) (by decide)) hk (fun _ h => h.2)) (fun _ h => h.1)) (Kd.R_mono (Kd.R_keep (IsS87.apart (show IsS87 w0 _ g s0_0 t501 t502 from KI87) (KR HO495.out) (by decide)) hk (fun _ h => h.2)) (fun _ h => h.1)) (KW BK499.out hk NB499_0.out) (KeepBut.trans (KHh HK.out) hk (.inl rfl)) hb hi; clear BK489 HO492 HO495 BK499 HK HB HI0; obtain ⟨BK489, HO492, HO495, BK499, HK, HB, HI0⟩ := h_; (try clear hb); (try clear hk); (try clear hi); refine hK.out _ _ (D3 BK499.out) (fun hHeld => ?_); clear hK K; refine norm_ (a' := ?_) ?_ ?_; rotate_left
    ·show Act.put _ (some 19) _ = _; exact KA
    refine one_ (i := 4) (N := some 20) #[T, T, T, T, T, F, F, F] rfl rfl (one_of HT_.out (by kernel_rfl)) (by decide) (fun K hK => ?_); refine value_ (w1 := ?_) (v := ?_) (by rfl) rfl ?_ ?_; rotate_left 2
    ·go_simp
     constructor
     ·rfl
     ·rfl
    refine hK.out _ _ ⟨(blk_cell (blk_alloc BK499.out _) 0).trans rfl, (blk_cell (blk_alloc BK499.out _) 1).trans rfl, (blk_cell (blk_alloc BK499.out _) 2).trans rfl⟩ (fun hHeld => ?_); clear hK K; refine norm_ (a' := ?_) ?_ ?_; rotate_left
    ·show Act.put _ (some 20) _ = _; exact KA
    refine one_ (i := 5) (N := some 21) #[T, T, T, T, T, T, F, F] rfl rfl (one_of HT_.out (by kernel_rfl)) (by decide) (fun K hK => ?_); refine Kd.R_append_step k35 w.heap.size (by rfl) (.tmp 17) (.tmp 20) 29 35 (.agg #[(.int .i64 0), (.int .i64 0), (.bool false), (.string ⟨#[]⟩)]) 40 rfl Try.underlying29 info35 rfl (by decide) (by omega) (.slice Ao28 t490.length co28) t490 (⟨t509, t510, t511, t512⟩ : S35) [.int .i64 t509, .int .i64 t510, .bool t511, .string t512] (fun k_ => some k_ ≠ (.slice Ao32 t493.length co32 : Value).ownBlock) (fun _ => False) rfl rfl ?aP (fun _ hk => hk.elim) ?aF ?aO (Below.refl _ _) ?aS ?aL ?_; (case aP => exact k35_mkM _ _ _ (⟨t509, t510, t511, t512⟩ : S35)); (case aF => exact (fun k_ hk => Kd.fresh' (Kd.R_lt (KR HO495.out)) k_ hk)); (case aO => exact (KR HO492.out)); (case aS => exact (KS HK.out)); (case aL => have := LMc24.out; omega); intro v516 w36 ho hb hg hat; rw [← Ny515.out] at ho; have h_ := P7 (IsS87.grown (KI87) hg (IsS87.own_ne HI0.out HO492.out (by decide))) (BW BK489.out hg (Kd.R_ne HO492.out BK489.out (by decide))) (Kd.R_after (ok := (fun _ => True)) (by (with_reducible repeat (first | apply Kd.R_alloc | apply Kd.R_drewN | apply Kd.R_drew)); exact Kd.R_mono HO495.out (fun _ hk => ⟨trivial, hk⟩)) hg hat) (BW BK499.out hg (Kd.R_ne HO492.out BK499.out (by decide))) (below_weaken (KBh87 HB.out) HL.out hb) (KeepBut.trans (KHh HK.out) (KeepBut.of_grown hg g) (Kd.R_base2 HO492.out)) ho; clear HI0 BK489 HO495 BK499 HB HK HO492; obtain ⟨HI0, BK489, HO495, BK499, HB, HK, HO517⟩ := h_; clear ho hb hg hat; obtain ⟨Ao37, co37, eo37⟩ := Kd.R_slice HO517.out; (first | subst eo37 | (injection eo37 with f1_ f2_ f3_; have f4_ := f1_.symm; have f5_ := f3_.symm; clear f1_ f2_ f3_; subst f4_; subst f5_)); refine hK.out _ _ (D3 BK499.out) (fun hHeld => ?_); clear hK K; refine norm_ (a' := ?_) ?_ ?_; rotate_left
    ·show Act.put _ (some 21) _ = _; exact KA
    refine pure_ (i := 6) (N := some 22) (v := ?_) (a' := ?_) #[T, T, T, T, T, T, T, F] rfl rfl (any_of HT_.out (by kernel_rfl)) (fun _ _ _ h => h) (Or.inl ⟨by rfl, ?_⟩) ?_ ?_; rotate_left
    ·exact KV
    rotate_left
    ·exact KA
    refine last_ (i := 7) (N := none) #[T, T, T, T, T, T, T, T] rfl rfl (one_of HT_.out (by kernel_rfl)) (by decide) (fun K hK => ?_); have hs38 : w36.cell? ⟨gb499, 0, none⟩ = some (.slice Ao28 t490.length co28) := (blk_cell BK499.out 0).trans rfl; have hfs38 := blk_frozen BK499.out 0; have hns38_0 := NB489_499.out; have hms38_0 := NB499_489.out; refine skip_ (w1 := ?_) (by rfl) rfl ?_ ?_; rotate_left
    ·go_simp
     rfl
    refine hK.out _ _ ?_; clear hK K; refine done_ (done_of HT_.out (by kernel_rfl)) ?_; obtain ⟨hcz39_0, hcz39_1, hcz39_2, hfz39_0, hfz39_1, hfz39_2⟩ := C3 BK499.out; have hnb40 := NB489_0.out; have hnc40 := NB0_489.out; obtain ⟨hcz41_0, hcz41_1, hcz41_2, hfz41_0, hfz41_1, hfz41_2⟩ := C3 BK489.out
    try go_wp2
    refine bodyPost_ret (results_cell_row rfl _ _ gb489 31 #[.slice Ao37 y515.length co37, .slice Ao32 t493.length co32, .int .i64 t496] (0, 0) _ rfl (by refine SK ?_; refine BP #[.slice Ao37 y515.length co37, .slice Ao32 t493.length co32, .int .i64 0] ?_ 2; refine SK ?_; refine BP #[.slice Ao37 y515.length co37, .slice none 0 0, .int .i64 0] ?_ 1; refine SK ?_; refine BP #[.slice none 0 0, .slice none 0 0, .int .i64 0] ?_ 0; refine SK ?_; refine blk_far ?_ NB489_499.out _; exact SK BK489.out) Try.underlying31 rfl (by kernel_rfl)) rfl ?_; exact ⟨_, _, KE, RQ (RT (RT HO517.out BK499.out) BK489.out) (hm := fun _ h => h.1.1), RQ (RT (RT HO495.out BK499.out) BK489.out) (hm := fun _ h => h.1.1.2), KI87, KBh87 HB.out, by repeat (first | (with_reducible first | exact HK.out | apply KeepBut.set_ | apply keep_drewN | apply keep_drew | apply keep_alloc | refine keep_far ?_ GW489.out _ | refine keep_far ?_ GW499.out _) | exact HK.out)⟩
   ·rw [if_neg c24] at H
    exact absurd H (by simp)
  ·rw [if_neg c22] at H
   have c22b0 : (t500 == 1) = false := beq_eq_false_iff_ne.mpr c22; have c22b1 : (t500 != 1) = true := bne_iff_ne.mpr c22
   by_cases c42 : t500 = 2
   ·rw [if_pos c42] at H
    have c42b0 : (t500 == 2) = true := beq_iff_eq.mpr c42; have c42b1 : (t500 != 2) = false := bne_eq_false_iff_eq.mpr c42; clear c42; replace H := Option.bind_eq_some_iff.mp H; obtain ⟨⟨t518, t519, t520, t521, t522, t523⟩, A430, H⟩ := H
    try dsimp only at H
    have A43 := Aside0.mk A430; clear A430
    by_cases c44 : t493.length < 3518437208883
    ·rw [if_pos c44] at H
     have LMc44 := Aside0.mk c44; clear c44; obtain ⟨y524, hy524⟩ : ∃ y_ : List (S35), y_ = (t493 ++ [(⟨t518, t519, t520, t521⟩ : S35)]) := ⟨_, rfl⟩; replace H : (some (t490, y524, t496, t522, t523)) = some (r1, r2, r3, r4, r5) := by first | (rw [hy524]; with_reducible exact H) | (have H2_ := (Option.bind_some _ _).symm.trans H; rw [hy524]; with_reducible exact H2_) | (have H2_ := (Option.bind_some _ _).symm.trans H; with_reducible exact H2_) | with_reducible exact H | (rw [hy524]; exact H) | exact H
     have Ny524 := Aside0.mk hy524; clear hy524; simp only [Option.some.injEq, Prod.mk.injEq] at H; obtain ⟨rfl, rfl, rfl, rfl, rfl⟩ := H
     go_enter Try.func56, Try.ntmps56
     try go_wp2_with (first | ((with_reducible refine GD 2 ?_); refine BE 2 #[.slice none 0 0, .slice none 0 0, .int .i64 0] 31 ?_; intro gb489 hg w45 hbox hb; have h_ := P8 (IsS87.below (KI87) hb) (KeepBut.trans KH (KeepBut.of_below hb g none) (.inl rfl)) (below_step KB87 hb) hbox (KSg hg HK.out) (Nat.le_trans HW0.out (KSg hg HK.out)) (by rw [hg]; exact Nat.ne_of_lt (IsS87.lt (show IsS87 w0 _ g s0_0 s0_1 s0_2 from KI87)) : g ≠ gb489) (by rw [hg]; exact Nat.ne_of_gt (IsS87.lt (show IsS87 w0 _ g s0_0 s0_1 s0_2 from KI87)) : gb489 ≠ g); clear HI0 HK HB; obtain ⟨HI0, HK, HB, BK489, GW489, GE489, NB0_489, NB489_0⟩ := h_; clear hb hbox hg) | ((with_reducible refine GC 82 ?_); refine goesL_ (some 5) rfl rfl Try.func82 (by kernel_rfl) rfl #[.pointer (some ⟨g, 0, none⟩)] rfl KL ?_; (with_reducible refine (spec_l6DrawRight.calls k g s0_0 s0_1 s0_2 t490 t493 t496 t497 t498 w0 _ ?side1 ?side2 A2.out).mono ?_); (case side1 => exact KI87); (case side2 => exact KBh87 HB.out); rintro e w46 ⟨v491, v494, rfl, ho0, ho1, hi, hb, hk⟩; refine ⟨_, rfl, ?_⟩; have h_ := P6 (KW BK489.out hk NB489_0.out) (Kd.R_lower ho0 (KS HK.out)) (Kd.R_lower ho1 (KS HK.out)) (KeepBut.trans (KHh HK.out) hk (.inl rfl)) hb hi; clear BK489 HK HB HI0; obtain ⟨BK489, HO492, HO495, HK, HB, HI0⟩ := h_; (try clear hb); (try clear hk); (try clear hi); (try clear ho0); (try clear ho1)) | ((with_reducible refine GD 3 ?_); refine BE 3 #[.slice none 0 0, .slice none 0 0, .int .i64 0] 31 ?_; intro gb499 hg w47 hbox hb; have h_ := P13 (Kd.R_below (KR HO492.out) hb) (Kd.R_below (KR HO495.out) hb) (IsS87.below (KI87) hb) (BL BK489.out hb) (KeepBut.trans (KHh HK.out) (KeepBut.of_below hb g none) (.inl rfl)) (below_step (KBh87 HB.out) hb) hbox (KSg hg HK.out) (Nat.le_trans HW0.out (KSg hg HK.out)) (NX hg BK489.out) (NY hg BK489.out) (by rw [hg]; exact Nat.ne_of_lt (IsS87.lt (show IsS87 w0 _ g s0_0 t497 t498 from KI87)) : g ≠ gb499) (by rw [hg]; exact Nat.ne_of_gt (IsS87.lt (show IsS87 w0 _ g s0_0 t497 t498 from KI87)) : gb499 ≠ g); clear HO492 HO495 HI0 BK489 HK HB; obtain ⟨HO492, HO495, HI0, BK489, HK, HB, BK499, GW499, GE499, NB489_499, NB499_489, NB0_499, NB499_0⟩ := h_; clear hb hbox hg; obtain ⟨Ao48, co48, eo48⟩ := Kd.R_slice HO492.out; subst eo48; have hnb49 := NB499_489.out; have hnc49 := NB489_499.out; have hnb50 := NB499_0.out; have hnc50 := NB0_499.out; obtain ⟨hcz51_0, hcz51_1, hcz51_2, hfz51_0, hfz51_1, hfz51_2⟩ := C3 BK499.out; obtain ⟨Ao52, co52, eo52⟩ := Kd.R_slice HO495.out; subst eo52) | ((with_reducible refine GC 57 ?_); refine goesL_ (some 7) rfl rfl Try.func57 (by kernel_rfl) rfl #[.pointer (some ⟨g, 0, none⟩), .int .i64 25] rfl KL ?_; (with_reducible refine (spec_l1Below.calls g s0_0 t497 t498 25 t500 t501 t502 w0 _ ?side1 ?side2 A3.out).mono ?_); (case side1 => exact KI87); (case side2 => exact KBh87 HB.out); rintro e w53 ⟨rfl, hi, hb, hk⟩; refine ⟨_, rfl, ?_⟩; have h_ := P7 (KW BK489.out hk NB489_0.out) (Kd.R_mono (Kd.R_keep (IsS87.apart (show IsS87 w0 _ g s0_0 t497 t498 from KI87) (RQ (RT HO492.out BK499.out)) (by decide)) hk (fun _ h => h.2)) (fun _ h => h.1)) (Kd.R_mono (Kd.R_keep (IsS87.apart (show IsS87 w0 _ g s0_0 t497 t498 from KI87) (RQ (RT HO495.out BK499.out)) (by decide)) hk (fun _ h => h.2)) (fun _ h => h.1)) (KeepBut.blk hk (g' := gb499) (o := .cells #[.slice Ao48 t490.length co48, .slice Ao52 t493.length co52, .int .i64 t496] 31 (0, 0)) (by refine SK ?_; refine BP #[.slice Ao48 t490.length co48, .slice Ao52 t493.length co52, .int .i64 0] ?_ 2; refine SK ?_; refine BP #[.slice Ao48 t490.length co48, .slice none 0 0, .int .i64 0] ?_ 1; refine SK ?_; refine BP #[.slice none 0 0, .slice none 0 0, .int .i64 0] ?_ 0; exact SK BK499.out) NB499_0.out (by simp)) (KeepBut.trans (KHh HK.out) hk (.inl rfl)) hb hi; clear BK489 HO492 HO495 BK499 HK HB HI0; obtain ⟨BK489, HO492, HO495, BK499, HK, HB, HI0⟩ := h_; (try clear hb); (try clear hk); (try clear hi)))
     have h_ := P7 (Kd.R_drew HO492.out) (Kd.R_drew HO495.out) (blk_drew BK489.out) (blk_drew BK499.out) (IsS87.drew HI0.out) (keep_drew HK.out) (below_drew1 HB.out); clear HO492 HO495 BK489 BK499 HI0 HK HB; obtain ⟨HO492, HO495, BK489, BK499, HI0, HK, HB⟩ := h_; refine start_ (n := 8) (S := fun w' => w'.cell? ⟨gb499, 0, none⟩ = some (.slice Ao48 t490.length co48) ∧ w'.cell? ⟨gb499, 1, none⟩ = some (.slice Ao52 t493.length co52) ∧ w'.cell? ⟨gb499, 2, none⟩ = some (.int .i64 t496)) (ds := [7]) #[F, F, F, F, F, F, F, F] (by kernel_rfl) rfl rfl ⟨(blk_cell BK499.out 0).trans rfl, (blk_cell BK499.out 1).trans rfl, (blk_cell BK499.out 2).trans rfl⟩ (fun hHeld => ?_); refine with_tabW spec_l6Draw.tab8 spec_l6Draw.bits8 (fun HT_ HW_ => ?_); generalize w53.drew = w54 at HO492 HO495 BK489 BK499 HI0 HK HB hHeld ⊢; refine pure_ (i := 0) (N := some 25) (v := ?_) (a' := ?_) #[T, F, F, F, F, F, F, F] rfl rfl (any_of HT_.out (by kernel_rfl)) (fun _ _ _ h => h) (Or.inl ⟨by rfl, ?_⟩) ?_ ?_; rotate_left
     ·exact KV
     rotate_left
     ·exact KA
     refine pure_ (i := 2) (N := some 27) (v := ?_) (a' := ?_) #[T, F, T, F, F, F, F, F] rfl rfl (any_of HT_.out (by kernel_rfl)) (fun _ _ _ h => h) (Or.inl ⟨by rfl, ?_⟩) ?_ ?_; rotate_left
     ·exact KV
     rotate_left
     ·exact KA
     refine take_ (i := 1) (N := some 26) (v := ?_) (a' := ?_) #[T, T, T, F, F, F, F, F] rfl rfl (take_ofW HT_.out HW_.out (by kernel_rfl)) (fun _ _ _ h => h) (Or.inl ⟨by rfl, ?_⟩) hHeld ?_ ?_; rotate_left
     ·rintro w' ⟨s0, s1, s2⟩
      go_simp; with_reducible rfl
     rotate_left
     ·exact KA
     refine one_ (i := 3) (N := some 28) #[T, T, T, T, F, F, F, F] rfl rfl (one_of HT_.out (by kernel_rfl)) (by decide) (fun K hK => ?_); refine goes_ Try.func70 (by kernel_rfl) rfl #[.pointer (some ⟨g, 0, none⟩)] (by rfl) rfl rfl KL ?_; (with_reducible refine (spec_l3Draw.calls g s0_0 t501 t502 t518 t519 t520 t521 t522 t523 w0 _ ?side1 ?side2 A43.out).mono ?_); (case side1 => exact KI87); (case side2 => exact KBh87 HB.out); rintro e w55 ⟨rfl, hi, hb, hk⟩; refine ⟨_, rfl, ?_⟩; have h_ := P7 (KW BK489.out hk NB489_0.out) (Kd.R_mono (Kd.R_keep (IsS87.apart (show IsS87 w0 _ g s0_0 t501 t502 from KI87) (KR HO492.out) (by decide)) hk (fun _ h => h.2)) (fun _ h => h.1)) (Kd.R_mono (Kd.R_keep (IsS87.apart (show IsS87 w0 _ g s0_0 t501 t502 from KI87) (KR HO495.out) (by decide)) hk (fun _ h => h.2)) (fun _ h => h.1)) (KW BK499.out hk NB499_0.out) (KeepBut.trans (KHh HK.out) hk (.inl rfl)) hb hi; clear BK489 HO492 HO495 BK499 HK HB HI0; obtain ⟨BK489, HO492, HO495, BK499, HK, HB, HI0⟩ := h_; (try clear hb); (try clear hk); (try clear hi); refine hK.out _ _ (D3 BK499.out) (fun hHeld => ?_); clear hK K; refine norm_ (a' := ?_) ?_ ?_; rotate_left
     ·show Act.put _ (some 28) _ = _; exact KA
     refine one_ (i := 4) (N := some 29) #[T, T, T, T, T, F, F, F] rfl rfl (one_of HT_.out (by kernel_rfl)) (by decide) (fun K hK => ?_); refine value_ (w1 := ?_) (v := ?_) (by rfl) rfl ?_ ?_; rotate_left 2
     ·go_simp
      constructor
      ·rfl
      ·rfl
     refine hK.out _ _ ⟨(blk_cell (blk_alloc BK499.out _) 0).trans rfl, (blk_cell (blk_alloc BK499.out _) 1).trans rfl, (blk_cell (blk_alloc BK499.out _) 2).trans rfl⟩ (fun hHeld => ?_); clear hK K; refine norm_ (a' := ?_) ?_ ?_; rotate_left
     ·show Act.put _ (some 29) _ = _; exact KA
     refine one_ (i := 5) (N := some 30) #[T, T, T, T, T, T, F, F] rfl rfl (one_of HT_.out (by kernel_rfl)) (by decide) (fun K hK => ?_); refine Kd.R_append_step k35 w.heap.size (by rfl) (.tmp 26) (.tmp 29) 29 35 (.agg #[(.int .i64 0), (.int .i64 0), (.bool false), (.string ⟨#[]⟩)]) 40 rfl Try.underlying29 info35 rfl (by decide) (by omega) (.slice Ao52 t493.length co52) t493 (⟨t518, t519, t520, t521⟩ : S35) [.int .i64 t518, .int .i64 t519, .bool t520, .string t521] (fun k_ => some k_ ≠ (.slice Ao48 t490.length co48 : Value).ownBlock) (fun _ => False) rfl rfl ?aP (fun _ hk => hk.elim) ?aF ?aO (Below.refl _ _) ?aS ?aL ?_; (case aP => exact k35_mkM _ _ _ (⟨t518, t519, t520, t521⟩ : S35)); (case aF => exact (fun k_ hk => Kd.fresh' (Kd.R_lt (KR HO492.out)) k_ hk)); (case aO => exact (KR HO495.out)); (case aS => exact (KS HK.out)); (case aL => have := LMc44.out; omega); intro v525 w56 ho hb hg hat; rw [← Ny524.out] at ho; have h_ := P7 (IsS87.grown (KI87) hg (IsS87.own_ne HI0.out HO495.out (by decide))) (BW BK489.out hg (Kd.R_ne HO495.out BK489.out (by decide))) (Kd.R_after (ok := (fun _ => True)) (by (with_reducible repeat (first | apply Kd.R_alloc | apply Kd.R_drewN | apply Kd.R_drew)); exact Kd.R_mono HO492.out (fun _ hk => ⟨trivial, hk⟩)) hg hat) (BW BK499.out hg (Kd.R_ne HO495.out BK499.out (by decide))) (below_weaken (KBh87 HB.out) HL.out hb) (KeepBut.trans (KHh HK.out) (KeepBut.of_grown hg g) (Kd.R_base2 HO495.out)) ho; clear HI0 BK489 HO492 BK499 HB HK HO495; obtain ⟨HI0, BK489, HO492, BK499, HB, HK, HO526⟩ := h_; clear ho hb hg hat; obtain ⟨Ao57, co57, eo57⟩ := Kd.R_slice HO526.out; (first | subst eo57 | (injection eo57 with f1_ f2_ f3_; have f4_ := f1_.symm; have f5_ := f3_.symm; clear f1_ f2_ f3_; subst f4_; subst f5_)); refine hK.out _ _ (D3 BK499.out) (fun hHeld => ?_); clear hK K; refine norm_ (a' := ?_) ?_ ?_; rotate_left
     ·show Act.put _ (some 30) _ = _; exact KA
     refine pure_ (i := 6) (N := some 31) (v := ?_) (a' := ?_) #[T, T, T, T, T, T, T, F] rfl rfl (any_of HT_.out (by kernel_rfl)) (fun _ _ _ h => h) (Or.inl ⟨by rfl, ?_⟩) ?_ ?_; rotate_left
     ·exact KV
     rotate_left
     ·exact KA
     refine last_ (i := 7) (N := none) #[T, T, T, T, T, T, T, T] rfl rfl (one_of HT_.out (by kernel_rfl)) (by decide) (fun K hK => ?_); have hs58 : w56.cell? ⟨gb499, 1, none⟩ = some (.slice Ao52 t493.length co52) := (blk_cell BK499.out 1).trans rfl; have hfs58 := blk_frozen BK499.out 1; have hns58_0 := NB489_499.out; have hms58_0 := NB499_489.out; refine skip_ (w1 := ?_) (by rfl) rfl ?_ ?_; rotate_left
     ·go_simp
      rfl
     refine hK.out _ _ ?_; clear hK K; refine done_ (done_of HT_.out (by kernel_rfl)) ?_; obtain ⟨hcz59_0, hcz59_1, hcz59_2, hfz59_0, hfz59_1, hfz59_2⟩ := C3 BK499.out; have hnb60 := NB489_0.out; have hnc60 := NB0_489.out; obtain ⟨hcz61_0, hcz61_1, hcz61_2, hfz61_0, hfz61_1, hfz61_2⟩ := C3 BK489.out
     try go_wp2
     refine bodyPost_ret (results_cell_row rfl _ _ gb489 31 #[.slice Ao48 t490.length co48, .slice Ao57 y524.length co57, .int .i64 t496] (0, 0) _ rfl (by refine SK ?_; refine BP #[.slice Ao48 t490.length co48, .slice Ao57 y524.length co57, .int .i64 0] ?_ 2; refine SK ?_; refine BP #[.slice Ao48 t490.length co48, .slice none 0 0, .int .i64 0] ?_ 1; refine SK ?_; refine BP #[.slice none 0 0, .slice none 0 0, .int .i64 0] ?_ 0; refine SK ?_; refine blk_far ?_ NB489_499.out _; exact SK BK489.out) Try.underlying31 rfl (by kernel_rfl)) rfl ?_; exact ⟨_, _, KE, RQ (RT (RT HO492.out BK499.out) BK489.out) (hm := fun _ h => h.1.1.2), RQ (RT (RT HO526.out BK499.out) BK489.out) (hm := fun _ h => h.1.1), KI87, KBh87 HB.out, by repeat (first | (with_reducible first | exact HK.out | apply KeepBut.set_ | apply keep_drewN | apply keep_drew | apply keep_alloc | refine keep_far ?_ GW489.out _ | refine keep_far ?_ GW499.out _) | exact HK.out)⟩
    ·rw [if_neg c44] at H
     exact absurd H (by simp)
   ·rw [if_neg c42] at H
    have c42b0 : (t500 == 2) = false := beq_eq_false_iff_ne.mpr c42; have c42b1 : (t500 != 2) = true := bne_iff_ne.mpr c42
    by_cases c62 : t500 = 3
    ·rw [if_pos c62] at H
     have c62b0 : (t500 == 3) = true := beq_iff_eq.mpr c62; have c62b1 : (t500 != 3) = false := bne_eq_false_iff_eq.mpr c62; clear c62; have H' := Aside0.mk H; clear H
     go_enter Try.func56, Try.ntmps56
     go_wp2_with (first | ((with_reducible refine GD 2 ?_); refine BE 2 #[.slice none 0 0, .slice none 0 0, .int .i64 0] 31 ?_; intro gb489 hg w63 hbox hb; have h_ := P8 (IsS87.below (KI87) hb) (KeepBut.trans KH (KeepBut.of_below hb g none) (.inl rfl)) (below_step KB87 hb) hbox (KSg hg HK.out) (Nat.le_trans HW0.out (KSg hg HK.out)) (by rw [hg]; exact Nat.ne_of_lt (IsS87.lt (show IsS87 w0 _ g s0_0 s0_1 s0_2 from KI87)) : g ≠ gb489) (by rw [hg]; exact Nat.ne_of_gt (IsS87.lt (show IsS87 w0 _ g s0_0 s0_1 s0_2 from KI87)) : gb489 ≠ g); clear HI0 HK HB; obtain ⟨HI0, HK, HB, BK489, GW489, GE489, NB0_489, NB489_0⟩ := h_; clear hb hbox hg) | ((with_reducible refine GC 82 ?_); refine goesL_ (some 5) rfl rfl Try.func82 (by kernel_rfl) rfl #[.pointer (some ⟨g, 0, none⟩)] rfl KL ?_; (with_reducible refine (spec_l6DrawRight.calls k g s0_0 s0_1 s0_2 t490 t493 t496 t497 t498 w0 _ ?side1 ?side2 A2.out).mono ?_); (case side1 => exact KI87); (case side2 => exact KBh87 HB.out); rintro e w64 ⟨v491, v494, rfl, ho0, ho1, hi, hb, hk⟩; refine ⟨_, rfl, ?_⟩; have h_ := P6 (KW BK489.out hk NB489_0.out) (Kd.R_lower ho0 (KS HK.out)) (Kd.R_lower ho1 (KS HK.out)) (KeepBut.trans (KHh HK.out) hk (.inl rfl)) hb hi; clear BK489 HK HB HI0; obtain ⟨BK489, HO492, HO495, HK, HB, HI0⟩ := h_; (try clear hb); (try clear hk); (try clear hi); (try clear ho0); (try clear ho1)) | ((with_reducible refine GD 3 ?_); refine BE 3 #[.slice none 0 0, .slice none 0 0, .int .i64 0] 31 ?_; intro gb499 hg w65 hbox hb; have h_ := P13 (Kd.R_below (KR HO492.out) hb) (Kd.R_below (KR HO495.out) hb) (IsS87.below (KI87) hb) (BL BK489.out hb) (KeepBut.trans (KHh HK.out) (KeepBut.of_below hb g none) (.inl rfl)) (below_step (KBh87 HB.out) hb) hbox (KSg hg HK.out) (Nat.le_trans HW0.out (KSg hg HK.out)) (NX hg BK489.out) (NY hg BK489.out) (by rw [hg]; exact Nat.ne_of_lt (IsS87.lt (show IsS87 w0 _ g s0_0 t497 t498 from KI87)) : g ≠ gb499) (by rw [hg]; exact Nat.ne_of_gt (IsS87.lt (show IsS87 w0 _ g s0_0 t497 t498 from KI87)) : gb499 ≠ g); clear HO492 HO495 HI0 BK489 HK HB; obtain ⟨HO492, HO495, HI0, BK489, HK, HB, BK499, GW499, GE499, NB489_499, NB499_489, NB0_499, NB499_0⟩ := h_; clear hb hbox hg; obtain ⟨Ao66, co66, eo66⟩ := Kd.R_slice HO492.out; subst eo66; have hnb67 := NB499_489.out; have hnc67 := NB489_499.out; have hnb68 := NB499_0.out; have hnc68 := NB0_499.out; obtain ⟨hcz69_0, hcz69_1, hcz69_2, hfz69_0, hfz69_1, hfz69_2⟩ := C3 BK499.out; obtain ⟨Ao70, co70, eo70⟩ := Kd.R_slice HO495.out; subst eo70) | ((with_reducible refine GC 57 ?_); refine goesL_ (some 7) rfl rfl Try.func57 (by kernel_rfl) rfl #[.pointer (some ⟨g, 0, none⟩), .int .i64 25] rfl KL ?_; (with_reducible refine (spec_l1Below.calls g s0_0 t497 t498 25 t500 t501 t502 w0 _ ?side1 ?side2 A3.out).mono ?_); (case side1 => exact KI87); (case side2 => exact KBh87 HB.out); rintro e w71 ⟨rfl, hi, hb, hk⟩; refine ⟨_, rfl, ?_⟩; have h_ := P7 (KW BK489.out hk NB489_0.out) (Kd.R_mono (Kd.R_keep (IsS87.apart (show IsS87 w0 _ g s0_0 t497 t498 from KI87) (RQ (RT HO492.out BK499.out)) (by decide)) hk (fun _ h => h.2)) (fun _ h => h.1)) (Kd.R_mono (Kd.R_keep (IsS87.apart (show IsS87 w0 _ g s0_0 t497 t498 from KI87) (RQ (RT HO495.out BK499.out)) (by decide)) hk (fun _ h => h.2)) (fun _ h => h.1)) (KeepBut.blk hk (g' := gb499) (o := .cells #[.slice Ao66 t490.length co66, .slice Ao70 t493.length co70, .int .i64 t496] 31 (0, 0)) (by refine SK ?_; refine BP #[.slice Ao66 t490.length co66, .slice Ao70 t493.length co70, .int .i64 0] ?_ 2; refine SK ?_; refine BP #[.slice Ao66 t490.length co66, .slice none 0 0, .int .i64 0] ?_ 1; refine SK ?_; refine BP #[.slice none 0 0, .slice none 0 0, .int .i64 0] ?_ 0; exact SK BK499.out) NB499_0.out (by simp)) (KeepBut.trans (KHh HK.out) hk (.inl rfl)) hb hi; clear BK489 HO492 HO495 BK499 HK HB HI0; obtain ⟨BK489, HO492, HO495, BK499, HK, HB, HI0⟩ := h_; (try clear hb); (try clear hk); (try clear hi)))
     go_loopg [] k (fun kq w' => ∃ (x1001_1 : Int) (x1002_1 : Int) (x500001_1 : List (S35)) (u500001 : Value), Aside0 (spec_l6Draw.l0 kq s0_0 x1001_1 x1002_1 t490 x500001_1 t496 = some (r1, r2, r3, r4, r5)) ∧ Aside0 (kq ≤ k) ∧ Aside0 (Kd.R k35 35 w' w.heap.size (fun k_ => some k_ ≠ (u500001 : Value).ownBlock) (.slice Ao66 t490.length co66) t490) ∧ Aside0 (Kd.R k35 35 w' w.heap.size (fun k_ => some k_ ≠ ((.slice Ao66 t490.length co66) : Value).ownBlock) u500001 x500001_1) ∧ Aside0 (w'.heap[gb489]? = some (.cells #[(.slice none 0 0), (.slice none 0 0), .int .i64 0] 31 (0, 0))) ∧ Aside0 (w'.heap[gb499]? = some (.cells #[(.slice Ao66 t490.length co66), u500001, .int .i64 t496] 31 (0, 0))) ∧ Aside0 (IsS87 w0 w' g s0_0 x1001_1 x1002_1) ∧ Aside0 (KeepBut w w' g none) ∧ Aside0 (Below w0.heap.size w0 w'))
     case atStart => exact ⟨(t501), (t502), (t493), (.slice Ao70 t493.length co70), H', ⟨Nat.le_refl _⟩, ⟨by (with_reducible repeat (first | apply Kd.R_alloc | apply Kd.R_drewN | apply Kd.R_drew)); exact HO492.out⟩, ⟨by (with_reducible repeat (first | apply Kd.R_alloc | apply Kd.R_drewN | apply Kd.R_drew)); exact HO495.out⟩, ⟨KK⟩, ⟨KK⟩, ⟨KI87⟩, ⟨by repeat (first | (with_reducible first | exact HK.out | apply KeepBut.set_ | apply keep_drewN | apply keep_drew | apply keep_alloc | refine keep_far ?_ GW489.out _ | refine keep_far ?_ GW499.out _) | exact HK.out)⟩, ⟨KBh87 HB.out⟩⟩
     case round =>
      clear H'
      try clear c1
      try clear c2
      try clear p2
      try clear c3
      try clear c4
      try clear c4b0
      try clear c4b1
      try clear c5
      try clear c6
      try clear c7
      try clear c8
      try clear c10
      try clear c11
      try clear c20
      try clear c22
      try clear c22b0
      try clear c22b1
      try clear c24
      try clear c29
      try clear c30
      try clear c40
      try clear c42
      try clear c42b0
      try clear c42b1
      try clear c44
      try clear c49
      try clear c50
      try clear c56
      try clear c57
      try clear c60
      try clear c62
      try clear c62b0
      try clear c62b1
      try clear c67
      try clear c68
      try clear c70
      try clear hcz12_0
      try clear hcz12_1
      try clear hcz12_2
      try clear hcz19_0
      try clear hcz19_1
      try clear hcz19_2
      try clear hcz21_0
      try clear hcz21_1
      try clear hcz21_2
      try clear hcz31_0
      try clear hcz31_1
      try clear hcz31_2
      try clear hcz39_0
      try clear hcz39_1
      try clear hcz39_2
      try clear hcz41_0
      try clear hcz41_1
      try clear hcz41_2
      try clear hcz51_0
      try clear hcz51_1
      try clear hcz51_2
      try clear hcz59_0
      try clear hcz59_1
      try clear hcz59_2
      try clear hcz61_0
      try clear hcz61_1
      try clear hcz61_2
      try clear hcz69_0
      try clear hcz69_1
      try clear hcz69_2
      try clear hfz12_0
      try clear hfz12_1
      try clear hfz12_2
      try clear hfz19_0
      try clear hfz19_1
      try clear hfz19_2
      try clear hfz21_0
      try clear hfz21_1
      try clear hfz21_2
      try clear hfz31_0
      try clear hfz31_1
      try clear hfz31_2
      try clear hfz39_0
      try clear hfz39_1
      try clear hfz39_2
      try clear hfz41_0
      try clear hfz41_1
      try clear hfz41_2
      try clear hfz51_0
      try clear hfz51_1
      try clear hfz51_2
      try clear hfz59_0
      try clear hfz59_1
      try clear hfz59_2
      try clear hfz61_0
      try clear hfz61_1
      try clear hfz61_2
      try clear hfz69_0
      try clear hfz69_1
      try clear hfz69_2
      obtain ⟨x1001_1, x1002_1, x500001_1, u500001, HA, HK1, HO_500000, HO_500001, BK489, BK499, HI0, HK, HB⟩ := hrel
      cases gk with
      | zero => exact absurd HA.out (by simp [spec_l6Draw.l0])
      | succ k1 =>
       have H := HA.out; clear HA; simp only [spec_l6Draw.l0] at H; replace H := Option.bind_eq_some_iff.mp H; obtain ⟨⟨t527, t528, t529⟩, A720, H⟩ := H
       try dsimp only at H
       have A72 := Aside0.mk A720; clear A720
       by_cases c73 : (x500001_1.length : Int) < (wrap64 (20 + t527))
       ·rw [if_pos c73] at H
        have c73b0 : decide ((x500001_1.length : Int) < (wrap64 (20 + t527))) = true := decide_eq_true c73; clear c73; replace H := Option.bind_eq_some_iff.mp H; obtain ⟨t530, A740, H⟩ := H
        try dsimp only at H
        have A74 := Aside0.mk A740; clear A740
        by_cases c75 : x500001_1.length < 3518437208883
        ·rw [if_pos c75] at H
         have LMc75 := Aside0.mk c75; clear c75; obtain ⟨y531, hy531⟩ : ∃ y_ : List (S35), y_ = (x500001_1 ++ [(⟨t530, 0, false, (⟨#[]⟩ : ByteArray)⟩ : S35)]) := ⟨_, rfl⟩; replace H : (spec_l6Draw.l0 k1 s0_0 t528 t529 t490 y531 t496) = some (r1, r2, r3, r4, r5) := by first | (rw [hy531]; with_reducible exact H) | (have H2_ := (Option.bind_some _ _).symm.trans H; rw [hy531]; with_reducible exact H2_) | (have H2_ := (Option.bind_some _ _).symm.trans H; with_reducible exact H2_) | with_reducible exact H | (rw [hy531]; exact H) | exact H
         have Ny531 := Aside0.mk hy531; clear hy531; have H' := Aside0.mk H; clear H
         try go_wp2
         have h_ := P7 (Kd.R_drew HO_500000.out) (Kd.R_drew HO_500001.out) (blk_drew BK489.out) (blk_drew BK499.out) (IsS87.drew HI0.out) (keep_drew HK.out) (below_drew1 HB.out); clear HO_500000 HO_500001 BK489 BK499 HI0 HK HB; obtain ⟨HO_500000, HO_500001, BK489, BK499, HI0, HK, HB⟩ := h_; obtain ⟨Ao77, co77, eo77⟩ := Kd.R_slice HO_500001.out; (first | subst eo77 | (injection eo77 with f1_ f2_ f3_; have f4_ := f1_.symm; have f5_ := f3_.symm; clear f1_ f2_ f3_; subst f4_; subst f5_)); refine start_ (n := 7) (S := fun w' => w'.cell? ⟨gb499, 0, none⟩ = some (.slice Ao66 t490.length co66) ∧ w'.cell? ⟨gb499, 1, none⟩ = some (.slice Ao77 x500001_1.length co77) ∧ w'.cell? ⟨gb499, 2, none⟩ = some (.int .i64 t496)) (ds := []) #[F, F, F, F, F, F, F] (by kernel_rfl) rfl rfl ⟨(blk_cell BK499.out 0).trans rfl, (blk_cell BK499.out 1).trans rfl, (blk_cell BK499.out 2).trans rfl⟩ (fun hHeld => ?_); generalize wr.drew = w76 at HO_500000 HO_500001 BK489 BK499 HI0 HK HB hHeld ⊢; refine pure_ (i := 0) (N := some 34) (v := ?_) (a' := ?_) #[T, F, F, F, F, F, F] rfl rfl (by kernel_rfl) (fun _ _ _ h => h) (Or.inl ⟨by rfl, ?_⟩) ?_ ?_; rotate_left
         ·exact KV
         rotate_left
         ·exact KA
         refine pure_ (i := 3) (N := some 37) (v := ?_) (a' := ?_) #[T, F, F, T, F, F, F] rfl rfl (by kernel_rfl) (fun _ _ _ h => h) (Or.inl ⟨by rfl, ?_⟩) ?_ ?_; rotate_left
         ·exact KV
         rotate_left
         ·exact KA
         refine take_ (i := 1) (N := some 35) (v := ?_) (a' := ?_) #[T, T, F, T, F, F, F] rfl rfl (by kernel_rfl) (fun _ _ _ h => h) (Or.inl ⟨by rfl, ?_⟩) hHeld ?_ ?_; rotate_left
         ·rintro w' ⟨s0, s1, s2⟩
          go_simp; with_reducible rfl
         rotate_left
         ·exact KA
         refine pure_ (i := 2) (N := some 36) (v := ?_) (a' := ?_) #[T, T, T, T, F, F, F] rfl rfl (by kernel_rfl) (fun _ _ _ h => h) (Or.inl ⟨by rfl, ?_⟩) ?_ ?_; rotate_left
         ·exact KV
         rotate_left
         ·exact KA
         refine one_ (i := 4) (N := some 38) #[T, T, T, T, T, F, F] rfl rfl (by kernel_rfl) (by decide) (fun K hK => ?_); refine goes_ Try.func57 (by kernel_rfl) rfl #[.pointer (some ⟨g, 0, none⟩), .int .i64 2] (by rfl) rfl rfl KL ?_; (with_reducible refine (spec_l1Below.calls g s0_0 x1001_1 x1002_1 2 t527 t528 t529 w0 _ ?side1 ?side2 A72.out).mono ?_); (case side1 => exact KI87); (case side2 => exact KBh87 HB.out); rintro e w78 ⟨rfl, hi, hb, hk⟩; refine ⟨_, rfl, ?_⟩; have h_ := P7 (Kd.R_mono (Kd.R_keep (IsS87.apart (show IsS87 w0 _ g s0_0 x1001_1 x1002_1 from KI87) (KR HO_500000.out) (by decide)) hk (fun _ h => h.2)) (fun _ h => h.1)) (Kd.R_mono (Kd.R_keep (IsS87.apart (show IsS87 w0 _ g s0_0 x1001_1 x1002_1 from KI87) (KR HO_500001.out) (by decide)) hk (fun _ h => h.2)) (fun _ h => h.1)) (KW BK489.out hk NB489_0.out) (KW BK499.out hk NB499_0.out) (KeepBut.trans (KHh HK.out) hk (.inl rfl)) hb hi; clear HO_500000 HO_500001 BK489 BK499 HK HB HI0; obtain ⟨HO_500000, HO_500001, BK489, BK499, HK, HB, HI0⟩ := h_; (try clear hb); (try clear hk); (try clear hi); refine hK.out _ _ (D3 BK499.out) (fun hHeld => ?_); clear hK K; refine norm_ (a' := ?_) ?_ ?_; rotate_left
         ·show Act.put _ (some 38) _ = _; exact KA
         refine pure_ (i := 5) (N := some 39) (v := ?_) (a' := ?_) #[T, T, T, T, T, T, F] rfl rfl (by kernel_rfl) (fun _ _ _ h => h) (Or.inl ⟨by rfl, ?_⟩) ?_ ?_; rotate_left
         ·exact KV
         rotate_left
         ·exact KA
         refine pure_ (i := 6) (N := some 40) (v := ?_) (a' := ?_) #[T, T, T, T, T, T, T] rfl rfl (by kernel_rfl) (fun _ _ _ h => h) (Or.inl ⟨by rfl, ?_⟩) ?_ ?_; rotate_left
         ·exact KV
         rotate_left
         ·exact KA
         refine done_ (by kernel_rfl) ?_
         try go_wp2
         have h_ := P7 (Kd.R_drew HO_500000.out) (Kd.R_drew HO_500001.out) (blk_drew BK489.out) (blk_drew BK499.out) (IsS87.drew HI0.out) (keep_drew HK.out) (below_drew1 HB.out); clear HO_500000 HO_500001 BK489 BK499 HI0 HK HB; obtain ⟨HO_500000, HO_500001, BK489, BK499, HI0, HK, HB⟩ := h_; refine start_ (n := 8) (S := fun w' => w'.cell? ⟨gb499, 0, none⟩ = some (.slice Ao66 t490.length co66) ∧ w'.cell? ⟨gb499, 1, none⟩ = some (.slice Ao77 x500001_1.length co77) ∧ w'.cell? ⟨gb499, 2, none⟩ = some (.int .i64 t496)) (ds := [7]) #[F, F, F, F, F, F, F, F] (by kernel_rfl) rfl rfl ⟨(blk_cell BK499.out 0).trans rfl, (blk_cell BK499.out 1).trans rfl, (blk_cell BK499.out 2).trans rfl⟩ (fun hHeld => ?_); refine with_tabW spec_l6Draw.tab11 spec_l6Draw.bits11 (fun HT_ HW_ => ?_); generalize w78.drew = w79 at HO_500000 HO_500001 BK489 BK499 HI0 HK HB hHeld ⊢; refine pure_ (i := 0) (N := some 41) (v := ?_) (a' := ?_) #[T, F, F, F, F, F, F, F] rfl rfl (any_of HT_.out (by kernel_rfl)) (fun _ _ _ h => h) (Or.inl ⟨by rfl, ?_⟩) ?_ ?_; rotate_left
         ·exact KV
         rotate_left
         ·exact KA
         refine take_ (i := 1) (N := some 42) (v := ?_) (a' := ?_) #[T, T, F, F, F, F, F, F] rfl rfl (take_ofW HT_.out HW_.out (by kernel_rfl)) (fun _ _ _ h => h) (Or.inl ⟨by rfl, ?_⟩) hHeld ?_ ?_; rotate_left
         ·rintro w' ⟨s0, s1, s2⟩
          go_simp; with_reducible rfl
         rotate_left
         ·exact KA
         refine one_ (i := 2) (N := some 43) #[T, T, T, F, F, F, F, F] rfl rfl (one_of HT_.out (by kernel_rfl)) (by decide) (fun K hK => ?_); refine goes_ Try.func83 (by kernel_rfl) rfl #[.int .i64 5, .int .i64 1] (by rfl) rfl rfl KL ?_; (with_reducible refine (spec_l1Place.calls 5 1 t530 _ A74.out).mono ?_); rintro e w' ⟨rfl, ⟨nd, rfl⟩⟩; refine ⟨_, rfl, ?_⟩; refine hK.out _ _ (D3 BK499.out) (fun hHeld => ?_); clear hK K; refine norm_ (a' := ?_) ?_ ?_; rotate_left
         ·show Act.put _ (some 43) _ = _; exact KA
         refine pure_ (i := 3) (N := some 44) (v := ?_) (a' := ?_) #[T, T, T, T, F, F, F, F] rfl rfl (any_of HT_.out (by kernel_rfl)) (fun _ _ _ h => h) (Or.inl ⟨by rfl, ?_⟩) ?_ ?_; rotate_left
         ·exact KV
         rotate_left
         ·exact KA
         refine one_ (i := 4) (N := some 45) #[T, T, T, T, T, F, F, F] rfl rfl (one_of HT_.out (by kernel_rfl)) (by decide) (fun K hK => ?_); refine value_ (w1 := ?_) (v := ?_) (by rfl) rfl ?_ ?_; rotate_left 2
         ·go_simp
          constructor
          ·rfl
          ·rfl
         refine hK.out _ _ ⟨(blk_cell (blk_alloc BK499.out _) 0).trans rfl, (blk_cell (blk_alloc BK499.out _) 1).trans rfl, (blk_cell (blk_alloc BK499.out _) 2).trans rfl⟩ (fun hHeld => ?_); clear hK K; refine norm_ (a' := ?_) ?_ ?_; rotate_left
         ·show Act.put _ (some 45) _ = _; exact KA
         refine one_ (i := 5) (N := some 46) #[T, T, T, T, T, T, F, F] rfl rfl (one_of HT_.out (by kernel_rfl)) (by decide) (fun K hK => ?_); refine Kd.R_append_step k35 w.heap.size (by rfl) (.tmp 42) (.tmp 45) 29 35 (.agg #[(.int .i64 0), (.int .i64 0), (.bool false), (.string ⟨#[]⟩)]) 40 rfl Try.underlying29 info35 rfl (by decide) (by omega) (.slice Ao77 x500001_1.length co77) x500001_1 (⟨t530, 0, false, (⟨#[]⟩ : ByteArray)⟩ : S35) [.int .i64 t530, .int .i64 0, .bool false, .string (⟨#[]⟩ : ByteArray)] (fun k_ => some k_ ≠ (.slice Ao66 t490.length co66 : Value).ownBlock) (fun _ => False) rfl rfl ?aP (fun _ hk => hk.elim) ?aF ?aO (Below.refl _ _) ?aS ?aL ?_; (case aP => exact k35_mkM _ _ _ (⟨t530, 0, false, (⟨#[]⟩ : ByteArray)⟩ : S35)); (case aF => exact (fun k_ hk => Kd.fresh' (Kd.R_lt (KR HO_500000.out)) k_ hk)); (case aO => exact (KR HO_500001.out)); (case aS => exact (KS HK.out)); (case aL => have := LMc75.out; omega); intro v532 w80 ho hb hg hat; rw [← Ny531.out] at ho; have h_ := P7 (Kd.R_after (ok := (fun _ => True)) (by (with_reducible repeat (first | apply Kd.R_alloc | apply Kd.R_drewN | apply Kd.R_drew)); exact Kd.R_mono HO_500000.out (fun _ hk => ⟨trivial, hk⟩)) hg hat) (BW BK489.out hg (Kd.R_ne HO_500001.out BK489.out (by decide))) (BW BK499.out hg (Kd.R_ne HO_500001.out BK499.out (by decide))) (IsS87.grown (KI87) hg (IsS87.own_ne HI0.out HO_500001.out (by decide))) (below_weaken (KBh87 HB.out) HL.out hb) (KeepBut.trans (KHh HK.out) (KeepBut.of_grown hg g) (Kd.R_base2 HO_500001.out)) ho; clear HO_500000 BK489 BK499 HI0 HB HK HO_500001; obtain ⟨HO_500000, BK489, BK499, HI0, HB, HK, HO533⟩ := h_; clear ho hb hg hat; obtain ⟨Ao81, co81, eo81⟩ := Kd.R_slice HO533.out; (first | subst eo81 | (injection eo81 with f1_ f2_ f3_; have f4_ := f1_.symm; have f5_ := f3_.symm; clear f1_ f2_ f3_; subst f4_; subst f5_)); refine hK.out _ _ (D3 BK499.out) (fun hHeld => ?_); clear hK K; refine norm_ (a' := ?_) ?_ ?_; rotate_left
         ·show Act.put _ (some 46) _ = _; exact KA
         refine pure_ (i := 6) (N := some 47) (v := ?_) (a' := ?_) #[T, T, T, T, T, T, T, F] rfl rfl (any_of HT_.out (by kernel_rfl)) (fun _ _ _ h => h) (Or.inl ⟨by rfl, ?_⟩) ?_ ?_; rotate_left
         ·exact KV
         rotate_left
         ·exact KA
         refine last_ (i := 7) (N := none) #[T, T, T, T, T, T, T, T] rfl rfl (one_of HT_.out (by kernel_rfl)) (by decide) (fun K hK => ?_); have hs82 : w80.cell? ⟨gb499, 1, none⟩ = some (.slice Ao77 x500001_1.length co77) := (blk_cell BK499.out 1).trans rfl; have hfs82 := blk_frozen BK499.out 1; have hns82_0 := NB489_499.out; have hms82_0 := NB499_489.out; refine skip_ (w1 := ?_) (by rfl) rfl ?_ ?_; rotate_left
         ·go_simp
          rfl
         refine hK.out _ _ ?_; clear hK K; refine done_ (done_of HT_.out (by kernel_rfl)) ?_
         try go_wp2
         go_roundg k1
         case measure => have := HK1.out; omega
         case rel => exact ⟨(t528), (t529), (y531), (.slice Ao81 y531.length co81), H', ⟨by have := HK1.out; omega⟩, ⟨RQ (RT HO_500000.out BK499.out) (hm := fun _ h => h.1.2)⟩, ⟨RQ (RT HO533.out BK499.out)⟩, ⟨KK⟩, ⟨by refine SK ?_; refine BP #[.slice Ao66 t490.length co66, .slice Ao77 x500001_1.length co77, .int .i64 t496] ?_ 1; exact SK BK499.out⟩, ⟨KI87⟩, ⟨by repeat (first | (with_reducible first | exact HK.out | apply KeepBut.set_ | apply keep_drewN | apply keep_drew | apply keep_alloc | refine keep_far ?_ GW489.out _ | refine keep_far ?_ GW499.out _) | exact HK.out)⟩, ⟨KBh87 HB.out⟩⟩
        ·rw [if_neg c75] at H
         exact absurd H (by simp)
       ·rw [if_neg c73] at H
        have c73b0 : decide ((x500001_1.length : Int) < (wrap64 (20 + t527))) = false := decide_eq_false c73; clear c73; simp only [Option.some.injEq, Prod.mk.injEq] at H; obtain ⟨rfl, rfl, rfl, rfl, rfl⟩ := H
        try go_wp2
        have h_ := P7 (Kd.R_drew HO_500000.out) (Kd.R_drew HO_500001.out) (blk_drew BK489.out) (blk_drew BK499.out) (IsS87.drew HI0.out) (keep_drew HK.out) (below_drew1 HB.out); clear HO_500000 HO_500001 BK489 BK499 HI0 HK HB; obtain ⟨HO_500000, HO_500001, BK489, BK499, HI0, HK, HB⟩ := h_; obtain ⟨Ao84, co84, eo84⟩ := Kd.R_slice HO_500001.out; (first | subst eo84 | (injection eo84 with f1_ f2_ f3_; have f4_ := f1_.symm; have f5_ := f3_.symm; clear f1_ f2_ f3_; subst f4_; subst f5_)); refine start_ (n := 7) (S := fun w' => w'.cell? ⟨gb499, 0, none⟩ = some (.slice Ao66 t490.length co66) ∧ w'.cell? ⟨gb499, 1, none⟩ = some (.slice Ao84 x500001_1.length co84) ∧ w'.cell? ⟨gb499, 2, none⟩ = some (.int .i64 t496)) (ds := []) #[F, F, F, F, F, F, F] (by kernel_rfl) rfl rfl ⟨(blk_cell BK499.out 0).trans rfl, (blk_cell BK499.out 1).trans rfl, (blk_cell BK499.out 2).trans rfl⟩ (fun hHeld => ?_); generalize wr.drew = w83 at HO_500000 HO_500001 BK489 BK499 HI0 HK HB hHeld ⊢; refine pure_ (i := 0) (N := some 34) (v := ?_) (a' := ?_) #[T, F, F, F, F, F, F] rfl rfl (by kernel_rfl) (fun _ _ _ h => h) (Or.inl ⟨by rfl, ?_⟩) ?_ ?_; rotate_left
        ·exact KV
        rotate_left
        ·exact KA
        refine pure_ (i := 3) (N := some 37) (v := ?_) (a' := ?_) #[T, F, F, T, F, F, F] rfl rfl (by kernel_rfl) (fun _ _ _ h => h) (Or.inl ⟨by rfl, ?_⟩) ?_ ?_; rotate_left
        ·exact KV
        rotate_left
        ·exact KA
        refine take_ (i := 1) (N := some 35) (v := ?_) (a' := ?_) #[T, T, F, T, F, F, F] rfl rfl (by kernel_rfl) (fun _ _ _ h => h) (Or.inl ⟨by rfl, ?_⟩) hHeld ?_ ?_; rotate_left
        ·rintro w' ⟨s0, s1, s2⟩
         go_simp; with_reducible rfl
        rotate_left
        ·exact KA
        refine pure_ (i := 2) (N := some 36) (v := ?_) (a' := ?_) #[T, T, T, T, F, F, F] rfl rfl (by kernel_rfl) (fun _ _ _ h => h) (Or.inl ⟨by rfl, ?_⟩) ?_ ?_; rotate_left
        ·exact KV
        rotate_left
        ·exact KA
        refine one_ (i := 4) (N := some 38) #[T, T, T, T, T, F, F] rfl rfl (by kernel_rfl) (by decide) (fun K hK => ?_); refine goes_ Try.func57 (by kernel_rfl) rfl #[.pointer (some ⟨g, 0, none⟩), .int .i64 2] (by rfl) rfl rfl KL ?_; (with_reducible refine (spec_l1Below.calls g s0_0 x1001_1 x1002_1 2 t527 t528 t529 w0 _ ?side1 ?side2 A72.out).mono ?_); (case side1 => exact KI87); (case side2 => exact KBh87 HB.out); rintro e w85 ⟨rfl, hi, hb, hk⟩; refine ⟨_, rfl, ?_⟩; have h_ := P7 (Kd.R_mono (Kd.R_keep (IsS87.apart (show IsS87 w0 _ g s0_0 x1001_1 x1002_1 from KI87) (KR HO_500000.out) (by decide)) hk (fun _ h => h.2)) (fun _ h => h.1)) (Kd.R_mono (Kd.R_keep (IsS87.apart (show IsS87 w0 _ g s0_0 x1001_1 x1002_1 from KI87) (KR HO_500001.out) (by decide)) hk (fun _ h => h.2)) (fun _ h => h.1)) (KW BK489.out hk NB489_0.out) (KW BK499.out hk NB499_0.out) (KeepBut.trans (KHh HK.out) hk (.inl rfl)) hb hi; clear HO_500000 HO_500001 BK489 BK499 HK HB HI0; obtain ⟨HO_500000, HO_500001, BK489, BK499, HK, HB, HI0⟩ := h_; (try clear hb); (try clear hk); (try clear hi); refine hK.out _ _ (D3 BK499.out) (fun hHeld => ?_); clear hK K; refine norm_ (a' := ?_) ?_ ?_; rotate_left
        ·show Act.put _ (some 38) _ = _; exact KA
        refine pure_ (i := 5) (N := some 39) (v := ?_) (a' := ?_) #[T, T, T, T, T, T, F] rfl rfl (by kernel_rfl) (fun _ _ _ h => h) (Or.inl ⟨by rfl, ?_⟩) ?_ ?_; rotate_left
        ·exact KV
        rotate_left
        ·exact KA
        refine pure_ (i := 6) (N := some 40) (v := ?_) (a' := ?_) #[T, T, T, T, T, T, T] rfl rfl (by kernel_rfl) (fun _ _ _ h => h) (Or.inl ⟨by rfl, ?_⟩) ?_ ?_; rotate_left
        ·exact KV
        rotate_left
        ·exact KA
        refine done_ (by kernel_rfl) ?_; have hnb86 := NB499_489.out; have hnc86 := NB489_499.out; have hnb87 := NB499_0.out; have hnc87 := NB0_499.out; obtain ⟨hcz88_0, hcz88_1, hcz88_2, hfz88_0, hfz88_1, hfz88_2⟩ := C3 BK499.out; have hnb89 := NB489_0.out; have hnc89 := NB0_489.out; obtain ⟨hcz90_0, hcz90_1, hcz90_2, hfz90_0, hfz90_1, hfz90_2⟩ := C3 BK489.out
        try go_wp2
        refine bodyPost_ret (results_cell_row rfl _ _ gb489 31 #[.slice Ao66 t490.length co66, .slice Ao84 x500001_1.length co84, .int .i64 t496] (0, 0) _ rfl (by refine SK ?_; refine BP #[.slice Ao66 t490.length co66, .slice Ao84 x500001_1.length co84, .int .i64 0] ?_ 2; refine SK ?_; refine BP #[.slice Ao66 t490.length co66, .slice none 0 0, .int .i64 0] ?_ 1; refine SK ?_; refine BP #[.slice none 0 0, .slice none 0 0, .int .i64 0] ?_ 0; exact SK BK489.out) Try.underlying31 rfl (by kernel_rfl)) rfl ?_; exact ⟨_, _, KE, RQ (RT HO_500000.out BK489.out), RQ (RT HO_500001.out BK489.out), KI87, KBh87 HB.out, by repeat (first | (with_reducible first | exact HK.out | apply KeepBut.set_ | apply keep_drewN | apply keep_drew | apply keep_alloc | refine keep_far ?_ GW489.out _ | refine keep_far ?_ GW499.out _) | exact HK.out)⟩
    ·rw [if_neg c62] at H
     have c62b0 : (t500 == 3) = false := beq_eq_false_iff_ne.mpr c62; have c62b1 : (t500 != 3) = true := bne_iff_ne.mpr c62; simp only [Option.some.injEq, Prod.mk.injEq] at H; obtain ⟨rfl, rfl, rfl, rfl, rfl⟩ := H
     go_enter Try.func56, Try.ntmps56
     go_wp2_with (first | ((with_reducible refine GD 2 ?_); refine BE 2 #[.slice none 0 0, .slice none 0 0, .int .i64 0] 31 ?_; intro gb489 hg w91 hbox hb; have h_ := P8 (IsS87.below (KI87) hb) (KeepBut.trans KH (KeepBut.of_below hb g none) (.inl rfl)) (below_step KB87 hb) hbox (KSg hg HK.out) (Nat.le_trans HW0.out (KSg hg HK.out)) (by rw [hg]; exact Nat.ne_of_lt (IsS87.lt (show IsS87 w0 _ g s0_0 s0_1 s0_2 from KI87)) : g ≠ gb489) (by rw [hg]; exact Nat.ne_of_gt (IsS87.lt (show IsS87 w0 _ g s0_0 s0_1 s0_2 from KI87)) : gb489 ≠ g); clear HI0 HK HB; obtain ⟨HI0, HK, HB, BK489, GW489, GE489, NB0_489, NB489_0⟩ := h_; clear hb hbox hg) | ((with_reducible refine GC 82 ?_); refine goesL_ (some 5) rfl rfl Try.func82 (by kernel_rfl) rfl #[.pointer (some ⟨g, 0, none⟩)] rfl KL ?_; (with_reducible refine (spec_l6DrawRight.calls k g s0_0 s0_1 s0_2 t490 t493 t496 t497 t498 w0 _ ?side1 ?side2 A2.out).mono ?_); (case side1 => exact KI87); (case side2 => exact KBh87 HB.out); rintro e w92 ⟨v491, v494, rfl, ho0, ho1, hi, hb, hk⟩; refine ⟨_, rfl, ?_⟩; have h_ := P6 (KW BK489.out hk NB489_0.out) (Kd.R_lower ho0 (KS HK.out)) (Kd.R_lower ho1 (KS HK.out)) (KeepBut.trans (KHh HK.out) hk (.inl rfl)) hb hi; clear BK489 HK HB HI0; obtain ⟨BK489, HO492, HO495, HK, HB, HI0⟩ := h_; (try clear hb); (try clear hk); (try clear hi); (try clear ho0); (try clear ho1)) | ((with_reducible refine GD 3 ?_); refine BE 3 #[.slice none 0 0, .slice none 0 0, .int .i64 0] 31 ?_; intro gb499 hg w93 hbox hb; have h_ := P13 (Kd.R_below (KR HO492.out) hb) (Kd.R_below (KR HO495.out) hb) (IsS87.below (KI87) hb) (BL BK489.out hb) (KeepBut.trans (KHh HK.out) (KeepBut.of_below hb g none) (.inl rfl)) (below_step (KBh87 HB.out) hb) hbox (KSg hg HK.out) (Nat.le_trans HW0.out (KSg hg HK.out)) (NX hg BK489.out) (NY hg BK489.out) (by rw [hg]; exact Nat.ne_of_lt (IsS87.lt (show IsS87 w0 _ g s0_0 t497 t498 from KI87)) : g ≠ gb499) (by rw [hg]; exact Nat.ne_of_gt (IsS87.lt (show IsS87 w0 _ g s0_0 t497 t498 from KI87)) : gb499 ≠ g); clear HO492 HO495 HI0 BK489 HK HB; obtain ⟨HO492, HO495, HI0, BK489, HK, HB, BK499, GW499, GE499, NB489_499, NB499_489, NB0_499, NB499_0⟩ := h_; clear hb hbox hg; obtain ⟨Ao94, co94, eo94⟩ := Kd.R_slice HO492.out; subst eo94; have hnb95 := NB499_489.out; have hnc95 := NB489_499.out; have hnb96 := NB499_0.out; have hnc96 := NB0_499.out; obtain ⟨hcz97_0, hcz97_1, hcz97_2, hfz97_0, hfz97_1, hfz97_2⟩ := C3 BK499.out; obtain ⟨Ao98, co98, eo98⟩ := Kd.R_slice HO495.out; subst eo98) | ((with_reducible refine GC 57 ?_); refine goesL_ (some 7) rfl rfl Try.func57 (by kernel_rfl) rfl #[.pointer (some ⟨g, 0, none⟩), .int .i64 25] rfl KL ?_; (with_reducible refine (spec_l1Below.calls g s0_0 t497 t498 25 t500 t501 t502 w0 _ ?side1 ?side2 A3.out).mono ?_); (case side1 => exact KI87); (case side2 => exact KBh87 HB.out); rintro e w99 ⟨rfl, hi, hb, hk⟩; refine ⟨_, rfl, ?_⟩; have h_ := P7 (KW BK489.out hk NB489_0.out) (Kd.R_mono (Kd.R_keep (IsS87.apart (show IsS87 w0 _ g s0_0 t497 t498 from KI87) (RQ (RT HO492.out BK499.out)) (by decide)) hk (fun _ h => h.2)) (fun _ h => h.1)) (Kd.R_mono (Kd.R_keep (IsS87.apart (show IsS87 w0 _ g s0_0 t497 t498 from KI87) (RQ (RT HO495.out BK499.out)) (by decide)) hk (fun _ h => h.2)) (fun _ h => h.1)) (KeepBut.blk hk (g' := gb499) (o := .cells #[.slice Ao94 t490.length co94, .slice Ao98 t493.length co98, .int .i64 t496] 31 (0, 0)) (by refine SK ?_; refine BP #[.slice Ao94 t490.length co94, .slice Ao98 t493.length co98, .int .i64 0] ?_ 2; refine SK ?_; refine BP #[.slice Ao94 t490.length co94, .slice none 0 0, .int .i64 0] ?_ 1; refine SK ?_; refine BP #[.slice none 0 0, .slice none 0 0, .int .i64 0] ?_ 0; exact SK BK499.out) NB499_0.out (by simp)) (KeepBut.trans (KHh HK.out) hk (.inl rfl)) hb hi; clear BK489 HO492 HO495 BK499 HK HB HI0; obtain ⟨BK489, HO492, HO495, BK499, HK, HB, HI0⟩ := h_; (try clear hb); (try clear hk); (try clear hi); obtain ⟨hcz100_0, hcz100_1, hcz100_2, hfz100_0, hfz100_1, hfz100_2⟩ := C3 BK499.out; have hnb101 := NB489_0.out; have hnc101 := NB0_489.out; obtain ⟨hcz102_0, hcz102_1, hcz102_2, hfz102_0, hfz102_1, hfz102_2⟩ := C3 BK489.out))
     refine bodyPost_ret (results_cell_row rfl _ _ gb489 31 #[.slice Ao94 t490.length co94, .slice Ao98 t493.length co98, .int .i64 t496] (0, 0) _ rfl (by refine SK ?_; refine BP #[.slice Ao94 t490.length co94, .slice Ao98 t493.length co98, .int .i64 0] ?_ 2; refine SK ?_; refine BP #[.slice Ao94 t490.length co94, .slice none 0 0, .int .i64 0] ?_ 1; refine SK ?_; refine BP #[.slice none 0 0, .slice none 0 0, .int .i64 0] ?_ 0; exact SK BK489.out) Try.underlying31 rfl (by kernel_rfl)) rfl ?_; exact ⟨_, _, KE, RQ (RT HO492.out BK489.out), RQ (RT HO495.out BK489.out), KI87, KBh87 HB.out, by repeat (first | (with_reducible first | exact HK.out | apply KeepBut.set_ | apply keep_drewN | apply keep_drew | apply keep_alloc | refine keep_far ?_ GW489.out _ | refine keep_far ?_ GW499.out _) | exact HK.out)⟩

end Go.Proofs.Ytnoghojlpicecaa.PFnEras
