-- What each Go function that this law reaches comes to: written by a program out of the translation.
import Derived.Test.YtnoghojlpicecaaMFnCrashx0
import Derived.Test.YtnoghojlpicecaaMFnCrashx2
namespace Go.Proofs.Ytnoghojlpicecaa.PFnCrash
open Go.RowKit Go.Proofs.YtnoghojlpicecaaW.PrintWords Go.Proofs.YtnoghojlpicecaaW.PrintLast Go.Proofs.YtnoghojlpicecaaW.PrintMore
attribute [local go_sem] max2_int min2_int max_two min_two max_three min_three max_four min_four   -- for this text's walks alone
set_option linter.unusedVariables false
set_option linter.unusedSimpArgs false

/-! ### spec_l3Draw: function 70 -/
def spec_l3Draw.f (s0_0 : List Int) (s0_1 : Int) (s0_2 : Int) : Option (Int × Int × Bool × ByteArray × Int × Int) := (spec_l3DrawRight.f s0_0 s0_1 s0_2).bind fun bt189 => ((spec_l1Below.f s0_0 bt189.2.2.2.2.1 bt189.2.2.2.2.2 15).bind fun bt196 => (if bt196.1 = 0 then ((spec_l1DrawPlace.f s0_0 bt196.2.1 bt196.2.2).bind fun bt199 => (some (bt199.1, bt189.2.1, bt189.2.2.1, bt189.2.2.2.1, bt199.2.1, bt199.2.2))) else (if bt196.1 = 1 then ((spec_l1PickInt.f s0_0 bt196.2.1 bt196.2.2 (([(-1), 1, 30, 31] : List Int))).bind fun bt205 => (some (bt189.1, bt205.1, bt189.2.2.1, bt189.2.2.2.1, bt205.2.1, bt205.2.2))) else (if bt196.1 = 2 then (some (bt189.1, bt189.2.1, true, bt189.2.2.2.1, bt196.2.1, bt196.2.2)) else (if bt196.1 = 3 then ((spec_l1Below.f s0_0 bt196.2.1 bt196.2.2 2).bind fun bt208 => (if 0 ≤ (wrap64 (40 + bt208.1)) then (if (wrap64 (40 + bt208.1) : Int).toNat ≤ 281474976710656 then (some (bt189.1, bt189.2.1, bt189.2.2.1, strOfNums (List.replicate (wrap64 (40 + bt208.1) : Int).toNat 0), bt208.2.1, bt208.2.2)) else (none)) else (none))) else (some (bt189.1, bt189.2.1, bt189.2.2.1, bt189.2.2.2.1, bt196.2.1, bt196.2.2)))))))
set_option maxHeartbeats 8000000 in
set_option maxRecDepth 100000 in
theorem spec_l3Draw.calls (g : Nat) (s0_0 : List Int) (s0_1 : Int) (s0_2 : Int) (r1 : Int) (r2 : Int) (r3 : Bool) (r4 : ByteArray) (r5 : Int) (r6 : Int) (w0 w : World) (hI : IsS87 w0 w g s0_0 s0_1 s0_2) (hB : Below w0.heap.size w0 w) (h : spec_l3Draw.f s0_0 s0_1 s0_2 = some (r1, r2, r3, r4, r5, r6)) :
  Calls Try.prog 70 #[.pointer (some ⟨g, 0, none⟩)] w fun e w' => e = .returned (.agg #[.int .i64 r1, .int .i64 r2, .bool r3, .string r4]) ∧ IsS87 w0 w' g s0_0 r5 r6 ∧ Below w0.heap.size w0 w' ∧ KeepBut w w' g none := by
 have hu35 := Try.underlying35
 have HI0 := Aside0.mk hI
 have HK := Aside0.mk (KeepBut.refl w g none)
 have HL := Aside0.mk hB.size
 clear hI
 have HW0 := Aside0.mk hB.size
 have HB := Aside0.mk hB
 clear hB
 have H : ((spec_l3DrawRight.f s0_0 s0_1 s0_2).bind fun bt189 => ((spec_l1Below.f s0_0 bt189.2.2.2.2.1 bt189.2.2.2.2.2 15).bind fun bt196 => (if bt196.1 = 0 then ((spec_l1DrawPlace.f s0_0 bt196.2.1 bt196.2.2).bind fun bt199 => (some (bt199.1, bt189.2.1, bt189.2.2.1, bt189.2.2.2.1, bt199.2.1, bt199.2.2))) else (if bt196.1 = 1 then ((spec_l1PickInt.f s0_0 bt196.2.1 bt196.2.2 (([(-1), 1, 30, 31] : List Int))).bind fun bt205 => (some (bt189.1, bt205.1, bt189.2.2.1, bt189.2.2.2.1, bt205.2.1, bt205.2.2))) else (if bt196.1 = 2 then (some (bt189.1, bt189.2.1, true, bt189.2.2.2.1, bt196.2.1, bt196.2.2)) else (if bt196.1 = 3 then ((spec_l1Below.f s0_0 bt196.2.1 bt196.2.2 2).bind fun bt208 => (if 0 ≤ (wrap64 (40 + bt208.1)) then (if (wrap64 (40 + bt208.1) : Int).toNat ≤ 281474976710656 then (some (bt189.1, bt189.2.1, bt189.2.2.1, strOfNums (List.replicate (wrap64 (40 + bt208.1) : Int).toNat 0), bt208.2.1, bt208.2.2)) else (none)) else (none))) else (some (bt189.1, bt189.2.1, bt189.2.2.1, bt189.2.2.2.1, bt196.2.1, bt196.2.2)))))))) = some (r1, r2, r3, r4, r5, r6) := h
 clear h
 replace H := Option.bind_eq_some_iff.mp H
 obtain ⟨⟨t189, t190, t191, t192, t193, t194⟩, A20, H⟩ := H
 replace H : ((spec_l1Below.f s0_0 t193 t194 15).bind fun bt196 => (if bt196.1 = 0 then ((spec_l1DrawPlace.f s0_0 bt196.2.1 bt196.2.2).bind fun bt199 => (some (bt199.1, t190, t191, t192, bt199.2.1, bt199.2.2))) else (if bt196.1 = 1 then ((spec_l1PickInt.f s0_0 bt196.2.1 bt196.2.2 (([(-1), 1, 30, 31] : List Int))).bind fun bt205 => (some (t189, bt205.1, t191, t192, bt205.2.1, bt205.2.2))) else (if bt196.1 = 2 then (some (t189, t190, true, t192, bt196.2.1, bt196.2.2)) else (if bt196.1 = 3 then ((spec_l1Below.f s0_0 bt196.2.1 bt196.2.2 2).bind fun bt208 => (if 0 ≤ (wrap64 (40 + bt208.1)) then (if (wrap64 (40 + bt208.1) : Int).toNat ≤ 281474976710656 then (some (t189, t190, t191, strOfNums (List.replicate (wrap64 (40 + bt208.1) : Int).toNat 0), bt208.2.1, bt208.2.2)) else (none)) else (none))) else (some (t189, t190, t191, t192, bt196.2.1, bt196.2.2))))))) = some (r1, r2, r3, r4, r5, r6) := H
 have A2 := Aside0.mk A20
 clear A20
 replace H := Option.bind_eq_some_iff.mp H
 obtain ⟨⟨t196, t197, t198⟩, A30, H⟩ := H
 replace H : (if t196 = 0 then ((spec_l1DrawPlace.f s0_0 t197 t198).bind fun bt199 => (some (bt199.1, t190, t191, t192, bt199.2.1, bt199.2.2))) else (if t196 = 1 then ((spec_l1PickInt.f s0_0 t197 t198 (([(-1), 1, 30, 31] : List Int))).bind fun bt205 => (some (t189, bt205.1, t191, t192, bt205.2.1, bt205.2.2))) else (if t196 = 2 then (some (t189, t190, true, t192, t197, t198)) else (if t196 = 3 then ((spec_l1Below.f s0_0 t197 t198 2).bind fun bt208 => (if 0 ≤ (wrap64 (40 + bt208.1)) then (if (wrap64 (40 + bt208.1) : Int).toNat ≤ 281474976710656 then (some (t189, t190, t191, strOfNums (List.replicate (wrap64 (40 + bt208.1) : Int).toNat 0), bt208.2.1, bt208.2.2)) else (none)) else (none))) else (some (t189, t190, t191, t192, t197, t198)))))) = some (r1, r2, r3, r4, r5, r6) := H
 have A3 := Aside0.mk A30
 clear A30
 by_cases c4 : t196 = 0
 ·rw [if_pos c4] at H
  have c4b0 : (t196 == 0) = true := beq_iff_eq.mpr c4
  have c4b1 : (t196 != 0) = false := bne_eq_false_iff_eq.mpr c4
  clear c4
  replace H := Option.bind_eq_some_iff.mp H
  obtain ⟨⟨t199, t200, t201⟩, A50, H⟩ := H
  replace H : (some (t199, t190, t191, t192, t200, t201)) = some (r1, r2, r3, r4, r5, r6) := H
  have A5 := Aside0.mk A50
  clear A50
  simp only [Option.some.injEq, Prod.mk.injEq] at H
  obtain ⟨rfl, rfl, rfl, rfl, rfl, rfl⟩ := H
  go_enter Try.func70, Try.ntmps70
  go_wp2_with (first | ((with_reducible refine gate_dst (N := 2) rfl ?_); refine BE 2 #[.int .i64 0, .int .i64 0, .bool false, .string (⟨#[]⟩ : ByteArray)] 35 ?_; intro gb188 hg w6 hbox hb; have h_ := P8 (IsS87.below (KI87) hb) (KeepBut.trans KH (KeepBut.of_below hb g none) (.inl rfl)) (below_step KB87 hb) hbox (KSg hg HK.out) (Nat.le_trans HW0.out (KSg hg HK.out)) (by rw [hg]; exact Nat.ne_of_lt (IsS87.lt (show IsS87 w0 _ g s0_0 s0_1 s0_2 from KI87)) : g ≠ gb188) (by rw [hg]; exact Nat.ne_of_gt (IsS87.lt (show IsS87 w0 _ g s0_0 s0_1 s0_2 from KI87)) : gb188 ≠ g); clear HI0 HK HB; obtain ⟨HI0, HK, HB, BK188, GW188, GE188, NB0_188, NB188_0⟩ := h_; clear hb hbox hg) | ((with_reducible refine gate_callee (f := 91) rfl ?_); refine goesL_ (some 5) rfl rfl Try.func91 (by kernel_rfl) rfl #[.pointer (some ⟨g, 0, none⟩)] rfl KL ?_; (with_reducible refine (spec_l3DrawRight.calls g s0_0 s0_1 s0_2 t189 t190 t191 t192 t193 t194 w0 _ ?side1 ?side2 A2.out).mono ?_); (case side1 => exact KI87); (case side2 => exact KBh87 HB.out); rintro e w7 ⟨rfl, hi, hb, hk⟩; refine ⟨_, rfl, ?_⟩; have h_ := P4 (KW BK188.out hk NB188_0.out) (KeepBut.trans (KHh HK.out) hk (.inl rfl)) hb hi; clear BK188 HK HB HI0; obtain ⟨BK188, HK, HB, HI0⟩ := h_; (try clear hb); (try clear hk); (try clear hi)) | ((with_reducible refine gate_dst (N := 3) rfl ?_); refine BE 3 #[.int .i64 0, .int .i64 0, .bool false, .string (⟨#[]⟩ : ByteArray)] 35 ?_; intro gb195 hg w8 hbox hb; have h_ := P11 (IsS87.below (KI87) hb) (BL BK188.out hb) (KeepBut.trans (KHh HK.out) (KeepBut.of_below hb g none) (.inl rfl)) (below_step (KBh87 HB.out) hb) hbox (KSg hg HK.out) (Nat.le_trans HW0.out (KSg hg HK.out)) (NX hg BK188.out) (Ne.symm (NX hg BK188.out)) (by rw [hg]; exact Nat.ne_of_lt (IsS87.lt (show IsS87 w0 _ g s0_0 t193 t194 from KI87)) : g ≠ gb195) (by rw [hg]; exact Nat.ne_of_gt (IsS87.lt (show IsS87 w0 _ g s0_0 t193 t194 from KI87)) : gb195 ≠ g); clear HI0 BK188 HK HB; obtain ⟨HI0, BK188, HK, HB, BK195, GW195, GE195, NB188_195, NB195_188, NB0_195, NB195_0⟩ := h_; clear hb hbox hg; have hnb9 := NB195_188.out; have hnc9 := NB188_195.out; have hnb10 := NB195_0.out; have hnc10 := NB0_195.out; obtain ⟨hcz11_0, hcz11_1, hcz11_2, hcz11_3, hfz11_0, hfz11_1, hfz11_2, hfz11_3⟩ := C4 BK195.out) | ((with_reducible refine gate_callee (f := 57) rfl ?_); refine goesL_ (some 7) rfl rfl Try.func57 (by kernel_rfl) rfl #[.pointer (some ⟨g, 0, none⟩), .int .i64 15] rfl KL ?_; (with_reducible refine (spec_l1Below.calls g s0_0 t193 t194 15 t196 t197 t198 w0 _ ?side1 ?side2 A3.out).mono ?_); (case side1 => exact KI87); (case side2 => exact KBh87 HB.out); rintro e w12 ⟨rfl, hi, hb, hk⟩; refine ⟨_, rfl, ?_⟩; have h_ := P5 (KW BK188.out hk NB188_0.out) (KeepBut.blk hk (g' := gb195) (o := .cells #[.int .i64 t189, .int .i64 t190, .bool t191, .string t192] 35 (0, 0)) (by refine SK ?_; refine blk_put (cs := #[.int .i64 t189, .int .i64 t190, .bool t191, .string (⟨#[]⟩ : ByteArray)]) ?_ 3 _ rfl; refine SK ?_; refine blk_put (cs := #[.int .i64 t189, .int .i64 t190, .bool false, .string (⟨#[]⟩ : ByteArray)]) ?_ 2 _ rfl; refine SK ?_; refine blk_put (cs := #[.int .i64 t189, .int .i64 0, .bool false, .string (⟨#[]⟩ : ByteArray)]) ?_ 1 _ rfl; refine SK ?_; refine blk_put (cs := #[.int .i64 0, .int .i64 0, .bool false, .string (⟨#[]⟩ : ByteArray)]) ?_ 0 _ rfl; exact SK BK195.out) NB195_0.out (by simp)) (KeepBut.trans (KHh HK.out) hk (.inl rfl)) hb hi; clear BK188 BK195 HK HB HI0; obtain ⟨BK188, BK195, HK, HB, HI0⟩ := h_; (try clear hb); (try clear hk); (try clear hi)) | ((with_reducible refine gate_callee (f := 87) rfl ?_); refine goesL_ (some 11) rfl rfl Try.func87 (by kernel_rfl) rfl #[.pointer (some ⟨g, 0, none⟩)] rfl KL ?_; (with_reducible refine (spec_l1DrawPlace.calls g s0_0 t197 t198 t199 t200 t201 w0 _ ?side1 ?side2 A5.out).mono ?_); (case side1 => exact KI87); (case side2 => exact KBh87 HB.out); rintro e w13 ⟨rfl, hi, hb, hk⟩; refine ⟨_, rfl, ?_⟩; have h_ := P5 (KW BK188.out hk NB188_0.out) (KW BK195.out hk NB195_0.out) (KeepBut.trans (KHh HK.out) hk (.inl rfl)) hb hi; clear BK188 BK195 HK HB HI0; obtain ⟨BK188, BK195, HK, HB, HI0⟩ := h_; (try clear hb); (try clear hk); (try clear hi); obtain ⟨hcz14_0, hcz14_1, hcz14_2, hcz14_3, hfz14_0, hfz14_1, hfz14_2, hfz14_3⟩ := C4 BK195.out; have hnb15 := NB188_0.out; have hnc15 := NB0_188.out; obtain ⟨hcz16_0, hcz16_1, hcz16_2, hcz16_3, hfz16_0, hfz16_1, hfz16_2, hfz16_3⟩ := C4 BK188.out))
  refine bodyPost_ret (results_cell_row rfl _ _ gb188 35 #[.int .i64 t199, .int .i64 t190, .bool t191, .string t192] (0, 0) _ rfl (by refine SK ?_; refine blk_put (cs := #[.int .i64 t199, .int .i64 t190, .bool t191, .string (⟨#[]⟩ : ByteArray)]) ?_ 3 _ rfl; refine SK ?_; refine blk_put (cs := #[.int .i64 t199, .int .i64 t190, .bool false, .string (⟨#[]⟩ : ByteArray)]) ?_ 2 _ rfl; refine SK ?_; refine blk_put (cs := #[.int .i64 t199, .int .i64 0, .bool false, .string (⟨#[]⟩ : ByteArray)]) ?_ 1 _ rfl; refine SK ?_; refine blk_put (cs := #[.int .i64 0, .int .i64 0, .bool false, .string (⟨#[]⟩ : ByteArray)]) ?_ 0 _ rfl; refine SK ?_; refine blk_far ?_ NB188_195.out _; exact SK BK188.out) Try.underlying35 rfl (by kernel_rfl)) rfl ?_
  exact ⟨KE, KI87, KBh87 HB.out, by repeat (first | (with_reducible first | exact HK.out | apply KeepBut.set_ | apply keep_drewN | apply keep_drew | apply keep_alloc | refine keep_far ?_ GW188.out _ | refine keep_far ?_ GW195.out _) | exact HK.out)⟩
 ·rw [if_neg c4] at H
  have c4b0 : (t196 == 0) = false := beq_eq_false_iff_ne.mpr c4
  have c4b1 : (t196 != 0) = true := bne_iff_ne.mpr c4
  by_cases c17 : t196 = 1
  ·rw [if_pos c17] at H
   have c17b0 : (t196 == 1) = true := beq_iff_eq.mpr c17
   have c17b1 : (t196 != 1) = false := bne_eq_false_iff_eq.mpr c17
   clear c17
   obtain ⟨y202, hy202⟩ : ∃ y_ : List Int, y_ = (([(-1), 1, 30, 31] : List Int)) := ⟨_, rfl⟩
   replace H : ((spec_l1PickInt.f s0_0 t197 t198 y202).bind fun bt205 => (some (t189, bt205.1, t191, t192, bt205.2.1, bt205.2.2))) = some (r1, r2, r3, r4, r5, r6) := by first | (rw [hy202]; with_reducible exact H) | (have H2_ := (Option.bind_some _ _).symm.trans H; rw [hy202]; with_reducible exact H2_) | (have H2_ := (Option.bind_some _ _).symm.trans H; with_reducible exact H2_) | with_reducible exact H | (rw [hy202]; exact H) | exact H
   have Ny202 := Aside0.mk hy202
   clear hy202
   replace H := Option.bind_eq_some_iff.mp H
   obtain ⟨⟨t205, t206, t207⟩, A180, H⟩ := H
   replace H : (some (t189, t205, t191, t192, t206, t207)) = some (r1, r2, r3, r4, r5, r6) := H
   have A18 := Aside0.mk A180
   clear A180
   simp only [Option.some.injEq, Prod.mk.injEq] at H
   obtain ⟨rfl, rfl, rfl, rfl, rfl, rfl⟩ := H
   go_enter Try.func70, Try.ntmps70
   go_wp2_with (first | ((with_reducible refine gate_dst (N := 2) rfl ?_); refine BE 2 #[.int .i64 0, .int .i64 0, .bool false, .string (⟨#[]⟩ : ByteArray)] 35 ?_; intro gb188 hg w19 hbox hb; have h_ := P8 (IsS87.below (KI87) hb) (KeepBut.trans KH (KeepBut.of_below hb g none) (.inl rfl)) (below_step KB87 hb) hbox (KSg hg HK.out) (Nat.le_trans HW0.out (KSg hg HK.out)) (by rw [hg]; exact Nat.ne_of_lt (IsS87.lt (show IsS87 w0 _ g s0_0 s0_1 s0_2 from KI87)) : g ≠ gb188) (by rw [hg]; exact Nat.ne_of_gt (IsS87.lt (show IsS87 w0 _ g s0_0 s0_1 s0_2 from KI87)) : gb188 ≠ g); clear HI0 HK HB; obtain ⟨HI0, HK, HB, BK188, GW188, GE188, NB0_188, NB188_0⟩ := h_; clear hb hbox hg) | ((with_reducible refine gate_callee (f := 91) rfl ?_); refine goesL_ (some 5) rfl rfl Try.func91 (by kernel_rfl) rfl #[.pointer (some ⟨g, 0, none⟩)] rfl KL ?_; (with_reducible refine (spec_l3DrawRight.calls g s0_0 s0_1 s0_2 t189 t190 t191 t192 t193 t194 w0 _ ?side1 ?side2 A2.out).mono ?_); (case side1 => exact KI87); (case side2 => exact KBh87 HB.out); rintro e w20 ⟨rfl, hi, hb, hk⟩; refine ⟨_, rfl, ?_⟩; have h_ := P4 (KW BK188.out hk NB188_0.out) (KeepBut.trans (KHh HK.out) hk (.inl rfl)) hb hi; clear BK188 HK HB HI0; obtain ⟨BK188, HK, HB, HI0⟩ := h_; (try clear hb); (try clear hk); (try clear hi)) | ((with_reducible refine gate_dst (N := 3) rfl ?_); refine BE 3 #[.int .i64 0, .int .i64 0, .bool false, .string (⟨#[]⟩ : ByteArray)] 35 ?_; intro gb195 hg w21 hbox hb; have h_ := P11 (IsS87.below (KI87) hb) (BL BK188.out hb) (KeepBut.trans (KHh HK.out) (KeepBut.of_below hb g none) (.inl rfl)) (below_step (KBh87 HB.out) hb) hbox (KSg hg HK.out) (Nat.le_trans HW0.out (KSg hg HK.out)) (NX hg BK188.out) (Ne.symm (NX hg BK188.out)) (by rw [hg]; exact Nat.ne_of_lt (IsS87.lt (show IsS87 w0 _ g s0_0 t193 t194 from KI87)) : g ≠ gb195) (by rw [hg]; exact Nat.ne_of_gt (IsS87.lt (show IsS87 w0 _ g s0_0 t193 t194 from KI87)) : gb195 ≠ g); clear HI0 BK188 HK HB; obtain ⟨HI0, BK188, HK, HB, BK195, GW195, GE195, NB188_195, NB195_188, NB0_195, NB195_0⟩ := h_; clear hb hbox hg; have hnb22 := NB195_188.out; have hnc22 := NB188_195.out; have hnb23 := NB195_0.out; have hnc23 := NB0_195.out; obtain ⟨hcz24_0, hcz24_1, hcz24_2, hcz24_3, hfz24_0, hfz24_1, hfz24_2, hfz24_3⟩ := C4 BK195.out) | ((with_reducible refine gate_callee (f := 57) rfl ?_); refine goesL_ (some 7) rfl rfl Try.func57 (by kernel_rfl) rfl #[.pointer (some ⟨g, 0, none⟩), .int .i64 15] rfl KL ?_; (with_reducible refine (spec_l1Below.calls g s0_0 t193 t194 15 t196 t197 t198 w0 _ ?side1 ?side2 A3.out).mono ?_); (case side1 => exact KI87); (case side2 => exact KBh87 HB.out); rintro e w25 ⟨rfl, hi, hb, hk⟩; refine ⟨_, rfl, ?_⟩; have h_ := P5 (KW BK188.out hk NB188_0.out) (KeepBut.blk hk (g' := gb195) (o := .cells #[.int .i64 t189, .int .i64 t190, .bool t191, .string t192] 35 (0, 0)) (by refine SK ?_; refine blk_put (cs := #[.int .i64 t189, .int .i64 t190, .bool t191, .string (⟨#[]⟩ : ByteArray)]) ?_ 3 _ rfl; refine SK ?_; refine blk_put (cs := #[.int .i64 t189, .int .i64 t190, .bool false, .string (⟨#[]⟩ : ByteArray)]) ?_ 2 _ rfl; refine SK ?_; refine blk_put (cs := #[.int .i64 t189, .int .i64 0, .bool false, .string (⟨#[]⟩ : ByteArray)]) ?_ 1 _ rfl; refine SK ?_; refine blk_put (cs := #[.int .i64 0, .int .i64 0, .bool false, .string (⟨#[]⟩ : ByteArray)]) ?_ 0 _ rfl; exact SK BK195.out) NB195_0.out (by simp)) (KeepBut.trans (KHh HK.out) hk (.inl rfl)) hb hi; clear BK188 BK195 HK HB HI0; obtain ⟨BK188, BK195, HK, HB, HI0⟩ := h_; (try clear hb); (try clear hk); (try clear hi)) | ((with_reducible refine gate_dst (N := 16) rfl ?_); refine Kd.R_lit (Kd.int .i64) _ 3 ?hg (N := 16) ?hd (xs := ([(-1), 1, 30, 31] : List Int)) (inner := [.int .i64 (-1), .int .i64 1, .int .i64 30, .int .i64 31]) (ok := fun _ => True) (okp := fun _ => True) ?hr ?hp (fun _ hk => hk) trivial (Below.refl _ _) (Nat.le_refl _) (by simp) ?_; (case hd => rfl); (case hg => rfl); (case hr => first | (go_simp; done) | (go_simp; rfl)); (case hp => exact (Reps.one (show Kd.M (Kd.int .i64) _ _ _ (-1) [.int .i64 (-1)] from rfl) (Reps.one (show Kd.M (Kd.int .i64) _ _ _ 1 [.int .i64 1] from rfl) (Reps.one (show Kd.M (Kd.int .i64) _ _ _ 30 [.int .i64 30] from rfl) (Reps.one (show Kd.M (Kd.int .i64) _ _ _ 31 [.int .i64 31] from rfl) (Reps.none _ _)))))); intro v203 w26 ho27 hb hg_ hnew_; clear hg_ hnew_; (first | rw [← Ny202.out] at ho27 | (simp only [Int.reduceToNat] at ho27; rw [← Ny202.out] at ho27)); have h_ := P6 (Kd.R_lower ho27 (KS HK.out)) (IsS87.below (KI87) hb) (BL BK188.out hb) (BL BK195.out hb) (KeepBut.trans (KHh HK.out) (KeepBut.of_below hb g none) (.inl rfl)) (below_step (KBh87 HB.out) hb); clear HI0 BK188 BK195 HK HB; obtain ⟨HO204, HI0, BK188, BK195, HK, HB⟩ := h_; clear hb ho27; obtain ⟨Ao28, co28, eo28⟩ := Kd.R_slice HO204.out; subst eo28) | ((with_reducible refine gate_callee (f := 62) rfl ?_); refine goesL_ (some 17) rfl rfl Try.func62 (by kernel_rfl) rfl #[.pointer (some ⟨g, 0, none⟩), .slice Ao28 y202.length co28] rfl KL ?_; (with_reducible refine (spec_l1PickInt.calls g s0_0 t197 t198 _ _ y202 t205 t206 t207 w0 _ ?side1 ?side2 ?side3 ?side4 ?side5 A18.out).mono ?_); (case side1 => exact KI87); (case side2 => exact KBh87 HB.out); (case side3 => repeat (first | exact (Kd.R_reads' HO204.out).2.2 | (with_reducible refine Kd.C_alloc ?_ _) | (with_reducible refine Kd.C_drewN ?_ _) | (with_reducible refine Kd.C_drew ?_))); (case side4 => exact (Kd.R_reads' HO204.out).2.1); (case side5 => exact far_slice (IsS87.own_ne HI0.out HO204.out (by decide))); rintro e w29 ⟨rfl, hi, hb, hk⟩; refine ⟨_, rfl, ?_⟩; have h_ := P6 (KW BK188.out hk NB188_0.out) (KW BK195.out hk NB195_0.out) (Kd.R_mono (Kd.R_keep (IsS87.apart (show IsS87 w0 _ g s0_0 t197 t198 from KI87) (KR HO204.out) (by decide)) hk (fun _ h => h.2)) (fun _ h => h.1)) (KeepBut.trans (KHh HK.out) hk (.inl rfl)) hb hi; clear BK188 BK195 HO204 HK HB HI0; obtain ⟨BK188, BK195, HO204, HK, HB, HI0⟩ := h_; (try clear hb); (try clear hk); (try clear hi); obtain ⟨hcz30_0, hcz30_1, hcz30_2, hcz30_3, hfz30_0, hfz30_1, hfz30_2, hfz30_3⟩ := C4 BK195.out; have hnb31 := NB188_0.out; have hnc31 := NB0_188.out; obtain ⟨hcz32_0, hcz32_1, hcz32_2, hcz32_3, hfz32_0, hfz32_1, hfz32_2, hfz32_3⟩ := C4 BK188.out))
   refine bodyPost_ret (results_cell_row rfl _ _ gb188 35 #[.int .i64 t189, .int .i64 t205, .bool t191, .string t192] (0, 0) _ rfl (by refine SK ?_; refine blk_put (cs := #[.int .i64 t189, .int .i64 t205, .bool t191, .string (⟨#[]⟩ : ByteArray)]) ?_ 3 _ rfl; refine SK ?_; refine blk_put (cs := #[.int .i64 t189, .int .i64 t205, .bool false, .string (⟨#[]⟩ : ByteArray)]) ?_ 2 _ rfl; refine SK ?_; refine blk_put (cs := #[.int .i64 t189, .int .i64 0, .bool false, .string (⟨#[]⟩ : ByteArray)]) ?_ 1 _ rfl; refine SK ?_; refine blk_put (cs := #[.int .i64 0, .int .i64 0, .bool false, .string (⟨#[]⟩ : ByteArray)]) ?_ 0 _ rfl; refine SK ?_; refine blk_far ?_ NB188_195.out _; exact SK BK188.out) Try.underlying35 rfl (by kernel_rfl)) rfl ?_
   exact ⟨KE, KI87, KBh87 HB.out, by repeat (first | (with_reducible first | exact HK.out | apply KeepBut.set_ | apply keep_drewN | apply keep_drew | apply keep_alloc | refine keep_far ?_ GW188.out _ | refine keep_far ?_ GW195.out _) | exact HK.out)⟩
  ·rw [if_neg c17] at H
   have c17b0 : (t196 == 1) = false := beq_eq_false_iff_ne.mpr c17
   have c17b1 : (t196 != 1) = true := bne_iff_ne.mpr c17
   by_cases c33 : t196 = 2
   ·rw [if_pos c33] at H
    have c33b0 : (t196 == 2) = true := beq_iff_eq.mpr c33
    have c33b1 : (t196 != 2) = false := bne_eq_false_iff_eq.mpr c33
    clear c33
    simp only [Option.some.injEq, Prod.mk.injEq] at H
    obtain ⟨rfl, rfl, rfl, rfl, rfl, rfl⟩ := H
    go_enter Try.func70, Try.ntmps70
    go_wp2_with (first | ((with_reducible refine gate_dst (N := 2) rfl ?_); refine BE 2 #[.int .i64 0, .int .i64 0, .bool false, .string (⟨#[]⟩ : ByteArray)] 35 ?_; intro gb188 hg w34 hbox hb; have h_ := P8 (IsS87.below (KI87) hb) (KeepBut.trans KH (KeepBut.of_below hb g none) (.inl rfl)) (below_step KB87 hb) hbox (KSg hg HK.out) (Nat.le_trans HW0.out (KSg hg HK.out)) (by rw [hg]; exact Nat.ne_of_lt (IsS87.lt (show IsS87 w0 _ g s0_0 s0_1 s0_2 from KI87)) : g ≠ gb188) (by rw [hg]; exact Nat.ne_of_gt (IsS87.lt (show IsS87 w0 _ g s0_0 s0_1 s0_2 from KI87)) : gb188 ≠ g); clear HI0 HK HB; obtain ⟨HI0, HK, HB, BK188, GW188, GE188, NB0_188, NB188_0⟩ := h_; clear hb hbox hg) | ((with_reducible refine gate_callee (f := 91) rfl ?_); refine goesL_ (some 5) rfl rfl Try.func91 (by kernel_rfl) rfl #[.pointer (some ⟨g, 0, none⟩)] rfl KL ?_; (with_reducible refine (spec_l3DrawRight.calls g s0_0 s0_1 s0_2 t189 t190 t191 t192 t193 t194 w0 _ ?side1 ?side2 A2.out).mono ?_); (case side1 => exact KI87); (case side2 => exact KBh87 HB.out); rintro e w35 ⟨rfl, hi, hb, hk⟩; refine ⟨_, rfl, ?_⟩; have h_ := P4 (KW BK188.out hk NB188_0.out) (KeepBut.trans (KHh HK.out) hk (.inl rfl)) hb hi; clear BK188 HK HB HI0; obtain ⟨BK188, HK, HB, HI0⟩ := h_; (try clear hb); (try clear hk); (try clear hi)) | ((with_reducible refine gate_dst (N := 3) rfl ?_); refine BE 3 #[.int .i64 0, .int .i64 0, .bool false, .string (⟨#[]⟩ : ByteArray)] 35 ?_; intro gb195 hg w36 hbox hb; have h_ := P11 (IsS87.below (KI87) hb) (BL BK188.out hb) (KeepBut.trans (KHh HK.out) (KeepBut.of_below hb g none) (.inl rfl)) (below_step (KBh87 HB.out) hb) hbox (KSg hg HK.out) (Nat.le_trans HW0.out (KSg hg HK.out)) (NX hg BK188.out) (Ne.symm (NX hg BK188.out)) (by rw [hg]; exact Nat.ne_of_lt (IsS87.lt (show IsS87 w0 _ g s0_0 t193 t194 from KI87)) : g ≠ gb195) (by rw [hg]; exact Nat.ne_of_gt (IsS87.lt (show IsS87 w0 _ g s0_0 t193 t194 from KI87)) : gb195 ≠ g); clear HI0 BK188 HK HB; obtain ⟨HI0, BK188, HK, HB, BK195, GW195, GE195, NB188_195, NB195_188, NB0_195, NB195_0⟩ := h_; clear hb hbox hg; have hnb37 := NB195_188.out; have hnc37 := NB188_195.out; have hnb38 := NB195_0.out; have hnc38 := NB0_195.out; obtain ⟨hcz39_0, hcz39_1, hcz39_2, hcz39_3, hfz39_0, hfz39_1, hfz39_2, hfz39_3⟩ := C4 BK195.out) | ((with_reducible refine gate_callee (f := 57) rfl ?_); refine goesL_ (some 7) rfl rfl Try.func57 (by kernel_rfl) rfl #[.pointer (some ⟨g, 0, none⟩), .int .i64 15] rfl KL ?_; (with_reducible refine (spec_l1Below.calls g s0_0 t193 t194 15 t196 t197 t198 w0 _ ?side1 ?side2 A3.out).mono ?_); (case side1 => exact KI87); (case side2 => exact KBh87 HB.out); rintro e w40 ⟨rfl, hi, hb, hk⟩; refine ⟨_, rfl, ?_⟩; have h_ := P5 (KW BK188.out hk NB188_0.out) (KeepBut.blk hk (g' := gb195) (o := .cells #[.int .i64 t189, .int .i64 t190, .bool t191, .string t192] 35 (0, 0)) (by refine SK ?_; refine blk_put (cs := #[.int .i64 t189, .int .i64 t190, .bool t191, .string (⟨#[]⟩ : ByteArray)]) ?_ 3 _ rfl; refine SK ?_; refine blk_put (cs := #[.int .i64 t189, .int .i64 t190, .bool false, .string (⟨#[]⟩ : ByteArray)]) ?_ 2 _ rfl; refine SK ?_; refine blk_put (cs := #[.int .i64 t189, .int .i64 0, .bool false, .string (⟨#[]⟩ : ByteArray)]) ?_ 1 _ rfl; refine SK ?_; refine blk_put (cs := #[.int .i64 0, .int .i64 0, .bool false, .string (⟨#[]⟩ : ByteArray)]) ?_ 0 _ rfl; exact SK BK195.out) NB195_0.out (by simp)) (KeepBut.trans (KHh HK.out) hk (.inl rfl)) hb hi; clear BK188 BK195 HK HB HI0; obtain ⟨BK188, BK195, HK, HB, HI0⟩ := h_; (try clear hb); (try clear hk); (try clear hi); obtain ⟨hcz41_0, hcz41_1, hcz41_2, hcz41_3, hfz41_0, hfz41_1, hfz41_2, hfz41_3⟩ := C4 BK195.out; have hnb42 := NB188_0.out; have hnc42 := NB0_188.out; obtain ⟨hcz43_0, hcz43_1, hcz43_2, hcz43_3, hfz43_0, hfz43_1, hfz43_2, hfz43_3⟩ := C4 BK188.out))
    refine bodyPost_ret (results_cell_row rfl _ _ gb188 35 #[.int .i64 t189, .int .i64 t190, .bool true, .string t192] (0, 0) _ rfl (by refine SK ?_; refine blk_put (cs := #[.int .i64 t189, .int .i64 t190, .bool true, .string (⟨#[]⟩ : ByteArray)]) ?_ 3 _ rfl; refine SK ?_; refine blk_put (cs := #[.int .i64 t189, .int .i64 t190, .bool false, .string (⟨#[]⟩ : ByteArray)]) ?_ 2 _ rfl; refine SK ?_; refine blk_put (cs := #[.int .i64 t189, .int .i64 0, .bool false, .string (⟨#[]⟩ : ByteArray)]) ?_ 1 _ rfl; refine SK ?_; refine blk_put (cs := #[.int .i64 0, .int .i64 0, .bool false, .string (⟨#[]⟩ : ByteArray)]) ?_ 0 _ rfl; refine SK ?_; refine blk_far ?_ NB188_195.out _; exact SK BK188.out) Try.underlying35 rfl (by kernel_rfl)) rfl ?_
    exact ⟨KE, KI87, KBh87 HB.out, by repeat (first | (with_reducible first | exact HK.out | apply KeepBut.set_ | apply keep_drewN | apply keep_drew | apply keep_alloc | refine keep_far ?_ GW188.out _ | refine keep_far ?_ GW195.out _) | exact HK.out)⟩
   ·rw [if_neg c33] at H
    have c33b0 : (t196 == 2) = false := beq_eq_false_iff_ne.mpr c33
    have c33b1 : (t196 != 2) = true := bne_iff_ne.mpr c33
    by_cases c44 : t196 = 3
    ·rw [if_pos c44] at H
     have c44b0 : (t196 == 3) = true := beq_iff_eq.mpr c44
     have c44b1 : (t196 != 3) = false := bne_eq_false_iff_eq.mpr c44
     clear c44
     replace H := Option.bind_eq_some_iff.mp H
     obtain ⟨⟨t208, t209, t210⟩, A450, H⟩ := H
     replace H : (if 0 ≤ (wrap64 (40 + t208)) then (if (wrap64 (40 + t208) : Int).toNat ≤ 281474976710656 then (some (t189, t190, t191, strOfNums (List.replicate (wrap64 (40 + t208) : Int).toNat 0), t209, t210)) else (none)) else (none)) = some (r1, r2, r3, r4, r5, r6) := H
     have A45 := Aside0.mk A450
     clear A450
     obtain ⟨ji46, hji46⟩ : ∃ j_ : Int, (wrap64 (40 + t208)) = j_ := ⟨_, rfl⟩
     replace H : (if 0 ≤ (ji46) then (if (ji46 : Int).toNat ≤ 281474976710656 then (some (t189, t190, t191, strOfNums (List.replicate (ji46 : Int).toNat 0), t209, t210)) else (none)) else (none)) = some (r1, r2, r3, r4, r5, r6) := by first | (rw [hji46] at H; exact H) | (simp only [hji46] at H ⊢; exact H)
     (try rw [hji46] at A2)
     (try rw [hji46] at A3)
     (try rw [hji46] at A45)
     have hji46w : (IntKind.i64.wrap (40 + t208)) = ji46 := (i64_w _).trans hji46
     by_cases c47 : 0 ≤ (ji46)
     ·rw [if_pos c47] at H
      have c47b0 := eq_true c47
      have c47b1 : decide (0 ≤ (ji46)) = true := decide_eq_true c47
      clear c47
      by_cases c48 : (ji46 : Int).toNat ≤ 281474976710656
      ·rw [if_pos c48] at H
       have c48b0 := eq_true c48
       have c48b1 : decide ((ji46 : Int).toNat ≤ 281474976710656) = true := decide_eq_true c48
       clear c48
       obtain ⟨y211, hy211⟩ : ∃ y_ : List Int, y_ = (List.replicate (ji46 : Int).toNat 0) := ⟨_, rfl⟩
       replace H : (some (t189, t190, t191, strOfNums y211, t209, t210)) = some (r1, r2, r3, r4, r5, r6) := by first | (rw [hy211]; with_reducible exact H) | (have H2_ := (Option.bind_some _ _).symm.trans H; rw [hy211]; with_reducible exact H2_) | (have H2_ := (Option.bind_some _ _).symm.trans H; with_reducible exact H2_) | with_reducible exact H | (rw [hy211]; exact H) | exact H
       have Ny211 := Aside0.mk hy211
       clear hy211
       simp only [Option.some.injEq, Prod.mk.injEq] at H
       obtain ⟨rfl, rfl, rfl, rfl, rfl, rfl⟩ := H
       go_enter Try.func70, Try.ntmps70
       go_wp2_with (first | ((with_reducible refine gate_dst (N := 2) rfl ?_); refine BE 2 #[.int .i64 0, .int .i64 0, .bool false, .string (⟨#[]⟩ : ByteArray)] 35 ?_; intro gb188 hg w49 hbox hb; have h_ := P8 (IsS87.below (KI87) hb) (KeepBut.trans KH (KeepBut.of_below hb g none) (.inl rfl)) (below_step KB87 hb) hbox (KSg hg HK.out) (Nat.le_trans HW0.out (KSg hg HK.out)) (by rw [hg]; exact Nat.ne_of_lt (IsS87.lt (show IsS87 w0 _ g s0_0 s0_1 s0_2 from KI87)) : g ≠ gb188) (by rw [hg]; exact Nat.ne_of_gt (IsS87.lt (show IsS87 w0 _ g s0_0 s0_1 s0_2 from KI87)) : gb188 ≠ g); clear HI0 HK HB; obtain ⟨HI0, HK, HB, BK188, GW188, GE188, NB0_188, NB188_0⟩ := h_; clear hb hbox hg) | ((with_reducible refine gate_callee (f := 91) rfl ?_); refine goesL_ (some 5) rfl rfl Try.func91 (by kernel_rfl) rfl #[.pointer (some ⟨g, 0, none⟩)] rfl KL ?_; (with_reducible refine (spec_l3DrawRight.calls g s0_0 s0_1 s0_2 t189 t190 t191 t192 t193 t194 w0 _ ?side1 ?side2 A2.out).mono ?_); (case side1 => exact KI87); (case side2 => exact KBh87 HB.out); rintro e w50 ⟨rfl, hi, hb, hk⟩; refine ⟨_, rfl, ?_⟩; have h_ := P4 (KW BK188.out hk NB188_0.out) (KeepBut.trans (KHh HK.out) hk (.inl rfl)) hb hi; clear BK188 HK HB HI0; obtain ⟨BK188, HK, HB, HI0⟩ := h_; (try clear hb); (try clear hk); (try clear hi)) | ((with_reducible refine gate_dst (N := 3) rfl ?_); refine BE 3 #[.int .i64 0, .int .i64 0, .bool false, .string (⟨#[]⟩ : ByteArray)] 35 ?_; intro gb195 hg w51 hbox hb; have h_ := P11 (IsS87.below (KI87) hb) (BL BK188.out hb) (KeepBut.trans (KHh HK.out) (KeepBut.of_below hb g none) (.inl rfl)) (below_step (KBh87 HB.out) hb) hbox (KSg hg HK.out) (Nat.le_trans HW0.out (KSg hg HK.out)) (NX hg BK188.out) (Ne.symm (NX hg BK188.out)) (by rw [hg]; exact Nat.ne_of_lt (IsS87.lt (show IsS87 w0 _ g s0_0 t193 t194 from KI87)) : g ≠ gb195) (by rw [hg]; exact Nat.ne_of_gt (IsS87.lt (show IsS87 w0 _ g s0_0 t193 t194 from KI87)) : gb195 ≠ g); clear HI0 BK188 HK HB; obtain ⟨HI0, BK188, HK, HB, BK195, GW195, GE195, NB188_195, NB195_188, NB0_195, NB195_0⟩ := h_; clear hb hbox hg; have hnb52 := NB195_188.out; have hnc52 := NB188_195.out; have hnb53 := NB195_0.out; have hnc53 := NB0_195.out; obtain ⟨hcz54_0, hcz54_1, hcz54_2, hcz54_3, hfz54_0, hfz54_1, hfz54_2, hfz54_3⟩ := C4 BK195.out) | ((with_reducible refine gate_callee (f := 57) rfl ?_); refine goesL_ (some 7) rfl rfl Try.func57 (by kernel_rfl) rfl #[.pointer (some ⟨g, 0, none⟩), .int .i64 15] rfl KL ?_; (with_reducible refine (spec_l1Below.calls g s0_0 t193 t194 15 t196 t197 t198 w0 _ ?side1 ?side2 A3.out).mono ?_); (case side1 => exact KI87); (case side2 => exact KBh87 HB.out); rintro e w55 ⟨rfl, hi, hb, hk⟩; refine ⟨_, rfl, ?_⟩; have h_ := P5 (KW BK188.out hk NB188_0.out) (KeepBut.blk hk (g' := gb195) (o := .cells #[.int .i64 t189, .int .i64 t190, .bool t191, .string t192] 35 (0, 0)) (by refine SK ?_; refine blk_put (cs := #[.int .i64 t189, .int .i64 t190, .bool t191, .string (⟨#[]⟩ : ByteArray)]) ?_ 3 _ rfl; refine SK ?_; refine blk_put (cs := #[.int .i64 t189, .int .i64 t190, .bool false, .string (⟨#[]⟩ : ByteArray)]) ?_ 2 _ rfl; refine SK ?_; refine blk_put (cs := #[.int .i64 t189, .int .i64 0, .bool false, .string (⟨#[]⟩ : ByteArray)]) ?_ 1 _ rfl; refine SK ?_; refine blk_put (cs := #[.int .i64 0, .int .i64 0, .bool false, .string (⟨#[]⟩ : ByteArray)]) ?_ 0 _ rfl; exact SK BK195.out) NB195_0.out (by simp)) (KeepBut.trans (KHh HK.out) hk (.inl rfl)) hb hi; clear BK188 BK195 HK HB HI0; obtain ⟨BK188, BK195, HK, HB, HI0⟩ := h_; (try clear hb); (try clear hk); (try clear hi)) | ((with_reducible refine gate_callee (f := 57) rfl ?_); refine goesL_ (some 25) rfl rfl Try.func57 (by kernel_rfl) rfl #[.pointer (some ⟨g, 0, none⟩), .int .i64 2] rfl KL ?_; (with_reducible refine (spec_l1Below.calls g s0_0 t197 t198 2 t208 t209 t210 w0 _ ?side1 ?side2 A45.out).mono ?_); (case side1 => exact KI87); (case side2 => exact KBh87 HB.out); rintro e w56 ⟨rfl, hi, hb, hk⟩; refine ⟨_, rfl, ?_⟩; have h_ := P5 (KW BK188.out hk NB188_0.out) (KW BK195.out hk NB195_0.out) (KeepBut.trans (KHh HK.out) hk (.inl rfl)) hb hi; clear BK188 BK195 HK HB HI0; obtain ⟨BK188, BK195, HK, HB, HI0⟩ := h_; (try clear hb); (try clear hk); (try clear hi)) | ((with_reducible refine gate_dst (N := 27) rfl ?_); refine Kd.R_make (Kd.int .u8) _ 5 rfl (N := 27) rfl 42 _ _ rfl ji46 rfl rfl Try.underlying42 (.int .u8 0) 1 info5 rfl (by decide) (by omega) 0 (ok := fun _ => True) (okp := fun _ => True) rfl (fun _ hk => hk) trivial (of_decide_eq_true (by first | (with_reducible assumption) | assumption)) (Nat.le_trans (Nat.mul_le_mul_right _ (of_decide_eq_true (by first | (with_reducible assumption) | assumption) : ji46.toNat ≤ 281474976710656)) (by omega)) (Below.refl _ _) (Nat.le_refl _) ?_; intro v212 w57 ho58 hb hg_ hnew_; clear hg_ hnew_; (first | rw [← Ny211.out] at ho58 | (simp only [Int.reduceToNat] at ho58; rw [← Ny211.out] at ho58)); have h_ := P6 (Kd.R_lower ho58 (KS HK.out)) (IsS87.below (KI87) hb) (BL BK188.out hb) (BL BK195.out hb) (KeepBut.trans (KHh HK.out) (KeepBut.of_below hb g none) (.inl rfl)) (below_step (KBh87 HB.out) hb); clear HI0 BK188 BK195 HK HB; obtain ⟨HO213, HI0, BK188, BK195, HK, HB⟩ := h_; clear hb ho58; have hcv59 := fun n_ : Nat => own_string (P := Try.prog) Try.underlying42 Try.underlying5 Try.underlying9 (Kd.own_of_R (Kd.R_drewN HO213.out n_)); have hcv60 := own_string (P := Try.prog) Try.underlying42 Try.underlying5 Try.underlying9 (Kd.own_of_R HO213.out); obtain ⟨hcz61_0, hcz61_1, hcz61_2, hcz61_3, hfz61_0, hfz61_1, hfz61_2, hfz61_3⟩ := C4 BK195.out; have hnb62 := NB188_0.out; have hnc62 := NB0_188.out; obtain ⟨hcz63_0, hcz63_1, hcz63_2, hcz63_3, hfz63_0, hfz63_1, hfz63_2, hfz63_3⟩ := C4 BK188.out))
       refine bodyPost_ret (results_cell_row rfl _ _ gb188 35 #[.int .i64 t189, .int .i64 t190, .bool t191, .string (strOfNums y211)] (0, 0) _ rfl (by refine SK ?_; refine blk_put (cs := #[.int .i64 t189, .int .i64 t190, .bool t191, .string (⟨#[]⟩ : ByteArray)]) ?_ 3 _ rfl; refine SK ?_; refine blk_put (cs := #[.int .i64 t189, .int .i64 t190, .bool false, .string (⟨#[]⟩ : ByteArray)]) ?_ 2 _ rfl; refine SK ?_; refine blk_put (cs := #[.int .i64 t189, .int .i64 0, .bool false, .string (⟨#[]⟩ : ByteArray)]) ?_ 1 _ rfl; refine SK ?_; refine blk_put (cs := #[.int .i64 0, .int .i64 0, .bool false, .string (⟨#[]⟩ : ByteArray)]) ?_ 0 _ rfl; refine SK ?_; refine blk_far ?_ NB188_195.out _; exact SK BK188.out) Try.underlying35 rfl (by kernel_rfl)) rfl ?_
       exact ⟨by first | rfl | (simp [errW_none, errW_some] <;> rfl) | (simp only [← hji46]; first | rfl | (simp [errW_none, errW_some] <;> rfl)) | (simp [*, errW_none, errW_some] <;> rfl), KI87, KBh87 HB.out, by repeat (first | (with_reducible first | exact HK.out | apply KeepBut.set_ | apply keep_drewN | apply keep_drew | apply keep_alloc | refine keep_far ?_ GW188.out _ | refine keep_far ?_ GW195.out _) | exact HK.out)⟩
      ·rw [if_neg c48] at H
       exact absurd H (by simp)
     ·rw [if_neg c47] at H
      exact absurd H (by simp)
    ·rw [if_neg c44] at H
     have c44b0 : (t196 == 3) = false := beq_eq_false_iff_ne.mpr c44
     have c44b1 : (t196 != 3) = true := bne_iff_ne.mpr c44
     simp only [Option.some.injEq, Prod.mk.injEq] at H
     obtain ⟨rfl, rfl, rfl, rfl, rfl, rfl⟩ := H
     go_enter Try.func70, Try.ntmps70
     go_wp2_with (first | ((with_reducible refine gate_dst (N := 2) rfl ?_); refine BE 2 #[.int .i64 0, .int .i64 0, .bool false, .string (⟨#[]⟩ : ByteArray)] 35 ?_; intro gb188 hg w64 hbox hb; have h_ := P8 (IsS87.below (KI87) hb) (KeepBut.trans KH (KeepBut.of_below hb g none) (.inl rfl)) (below_step KB87 hb) hbox (KSg hg HK.out) (Nat.le_trans HW0.out (KSg hg HK.out)) (by rw [hg]; exact Nat.ne_of_lt (IsS87.lt (show IsS87 w0 _ g s0_0 s0_1 s0_2 from KI87)) : g ≠ gb188) (by rw [hg]; exact Nat.ne_of_gt (IsS87.lt (show IsS87 w0 _ g s0_0 s0_1 s0_2 from KI87)) : gb188 ≠ g); clear HI0 HK HB; obtain ⟨HI0, HK, HB, BK188, GW188, GE188, NB0_188, NB188_0⟩ := h_; clear hb hbox hg) | ((with_reducible refine gate_callee (f := 91) rfl ?_); refine goesL_ (some 5) rfl rfl Try.func91 (by kernel_rfl) rfl #[.pointer (some ⟨g, 0, none⟩)] rfl KL ?_; (with_reducible refine (spec_l3DrawRight.calls g s0_0 s0_1 s0_2 t189 t190 t191 t192 t193 t194 w0 _ ?side1 ?side2 A2.out).mono ?_); (case side1 => exact KI87); (case side2 => exact KBh87 HB.out); rintro e w65 ⟨rfl, hi, hb, hk⟩; refine ⟨_, rfl, ?_⟩; have h_ := P4 (KW BK188.out hk NB188_0.out) (KeepBut.trans (KHh HK.out) hk (.inl rfl)) hb hi; clear BK188 HK HB HI0; obtain ⟨BK188, HK, HB, HI0⟩ := h_; (try clear hb); (try clear hk); (try clear hi)) | ((with_reducible refine gate_dst (N := 3) rfl ?_); refine BE 3 #[.int .i64 0, .int .i64 0, .bool false, .string (⟨#[]⟩ : ByteArray)] 35 ?_; intro gb195 hg w66 hbox hb; have h_ := P11 (IsS87.below (KI87) hb) (BL BK188.out hb) (KeepBut.trans (KHh HK.out) (KeepBut.of_below hb g none) (.inl rfl)) (below_step (KBh87 HB.out) hb) hbox (KSg hg HK.out) (Nat.le_trans HW0.out (KSg hg HK.out)) (NX hg BK188.out) (Ne.symm (NX hg BK188.out)) (by rw [hg]; exact Nat.ne_of_lt (IsS87.lt (show IsS87 w0 _ g s0_0 t193 t194 from KI87)) : g ≠ gb195) (by rw [hg]; exact Nat.ne_of_gt (IsS87.lt (show IsS87 w0 _ g s0_0 t193 t194 from KI87)) : gb195 ≠ g); clear HI0 BK188 HK HB; obtain ⟨HI0, BK188, HK, HB, BK195, GW195, GE195, NB188_195, NB195_188, NB0_195, NB195_0⟩ := h_; clear hb hbox hg; have hnb67 := NB195_188.out; have hnc67 := NB188_195.out; have hnb68 := NB195_0.out; have hnc68 := NB0_195.out; obtain ⟨hcz69_0, hcz69_1, hcz69_2, hcz69_3, hfz69_0, hfz69_1, hfz69_2, hfz69_3⟩ := C4 BK195.out) | ((with_reducible refine gate_callee (f := 57) rfl ?_); refine goesL_ (some 7) rfl rfl Try.func57 (by kernel_rfl) rfl #[.pointer (some ⟨g, 0, none⟩), .int .i64 15] rfl KL ?_; (with_reducible refine (spec_l1Below.calls g s0_0 t193 t194 15 t196 t197 t198 w0 _ ?side1 ?side2 A3.out).mono ?_); (case side1 => exact KI87); (case side2 => exact KBh87 HB.out); rintro e w70 ⟨rfl, hi, hb, hk⟩; refine ⟨_, rfl, ?_⟩; have h_ := P5 (KW BK188.out hk NB188_0.out) (KeepBut.blk hk (g' := gb195) (o := .cells #[.int .i64 t189, .int .i64 t190, .bool t191, .string t192] 35 (0, 0)) (by refine SK ?_; refine blk_put (cs := #[.int .i64 t189, .int .i64 t190, .bool t191, .string (⟨#[]⟩ : ByteArray)]) ?_ 3 _ rfl; refine SK ?_; refine blk_put (cs := #[.int .i64 t189, .int .i64 t190, .bool false, .string (⟨#[]⟩ : ByteArray)]) ?_ 2 _ rfl; refine SK ?_; refine blk_put (cs := #[.int .i64 t189, .int .i64 0, .bool false, .string (⟨#[]⟩ : ByteArray)]) ?_ 1 _ rfl; refine SK ?_; refine blk_put (cs := #[.int .i64 0, .int .i64 0, .bool false, .string (⟨#[]⟩ : ByteArray)]) ?_ 0 _ rfl; exact SK BK195.out) NB195_0.out (by simp)) (KeepBut.trans (KHh HK.out) hk (.inl rfl)) hb hi; clear BK188 BK195 HK HB HI0; obtain ⟨BK188, BK195, HK, HB, HI0⟩ := h_; (try clear hb); (try clear hk); (try clear hi); obtain ⟨hcz71_0, hcz71_1, hcz71_2, hcz71_3, hfz71_0, hfz71_1, hfz71_2, hfz71_3⟩ := C4 BK195.out; have hnb72 := NB188_0.out; have hnc72 := NB0_188.out; obtain ⟨hcz73_0, hcz73_1, hcz73_2, hcz73_3, hfz73_0, hfz73_1, hfz73_2, hfz73_3⟩ := C4 BK188.out))
     refine bodyPost_ret (results_cell_row rfl _ _ gb188 35 #[.int .i64 t189, .int .i64 t190, .bool t191, .string t192] (0, 0) _ rfl (by refine SK ?_; refine blk_put (cs := #[.int .i64 t189, .int .i64 t190, .bool t191, .string (⟨#[]⟩ : ByteArray)]) ?_ 3 _ rfl; refine SK ?_; refine blk_put (cs := #[.int .i64 t189, .int .i64 t190, .bool false, .string (⟨#[]⟩ : ByteArray)]) ?_ 2 _ rfl; refine SK ?_; refine blk_put (cs := #[.int .i64 t189, .int .i64 0, .bool false, .string (⟨#[]⟩ : ByteArray)]) ?_ 1 _ rfl; refine SK ?_; refine blk_put (cs := #[.int .i64 0, .int .i64 0, .bool false, .string (⟨#[]⟩ : ByteArray)]) ?_ 0 _ rfl; exact SK BK188.out) Try.underlying35 rfl (by kernel_rfl)) rfl ?_
     exact ⟨KE, KI87, KBh87 HB.out, by repeat (first | (with_reducible first | exact HK.out | apply KeepBut.set_ | apply keep_drewN | apply keep_drew | apply keep_alloc | refine keep_far ?_ GW188.out _ | refine keep_far ?_ GW195.out _) | exact HK.out)⟩

/-! ### spec_EntryOk: function 42 -/
def spec_EntryOk.f (a0_0 : Int) (a0_1 : Int) (a0_2 : Bool) (a0_3 : ByteArray) : Option (Bool) := (spec_PlaceOk.f a0_0).bind fun t215 => (if t215 = true then ((spec_l1In.f a0_1 0 30).bind fun t216 => (if t216 = true then (if a0_1 > 0 then ((spec_EpochOf.f a0_0).bind fun t217 => (if a0_1 ≤ t217 then (some false) else (if (a0_3.size : Int) > 40 then (some false) else (if a0_2 = true then (some (a0_3.toList == ([] : List UInt8))) else (some true))))) else (if (a0_3.size : Int) > 40 then (some false) else (if a0_2 = true then (some false) else (some true)))) else (some false))) else (some false))
set_option maxHeartbeats 8000000 in
set_option maxRecDepth 100000 in
theorem spec_EntryOk.calls (a0_0 : Int) (a0_1 : Int) (a0_2 : Bool) (a0_3 : ByteArray) (r : Bool) (w : World) (h : spec_EntryOk.f a0_0 a0_1 a0_2 a0_3 = some r) :
  Calls Try.prog 42 #[.agg #[.int .i64 a0_0, .int .i64 a0_1, .bool a0_2, .string a0_3]] w fun e w' => e = .returned (.bool r) ∧ Below w.heap.size w w' := by
 have hu35 := Try.underlying35
 have HB := Aside0.mk (Below.refl w.heap.size w)
 have H : ((spec_PlaceOk.f a0_0).bind fun t215 => (if t215 = true then ((spec_l1In.f a0_1 0 30).bind fun t216 => (if t216 = true then (if a0_1 > 0 then ((spec_EpochOf.f a0_0).bind fun t217 => (if a0_1 ≤ t217 then (some false) else (if (a0_3.size : Int) > 40 then (some false) else (if a0_2 = true then (some (a0_3.toList == ([] : List UInt8))) else (some true))))) else (if (a0_3.size : Int) > 40 then (some false) else (if a0_2 = true then (some false) else (some true)))) else (some false))) else (some false))) = some r := h
 clear h
 replace H := Option.bind_eq_some_iff.mp H
 obtain ⟨t215, A20, H⟩ := H
 replace H : (if t215 = true then ((spec_l1In.f a0_1 0 30).bind fun t216 => (if t216 = true then (if a0_1 > 0 then ((spec_EpochOf.f a0_0).bind fun t217 => (if a0_1 ≤ t217 then (some false) else (if (a0_3.size : Int) > 40 then (some false) else (if a0_2 = true then (some (a0_3.toList == ([] : List UInt8))) else (some true))))) else (if (a0_3.size : Int) > 40 then (some false) else (if a0_2 = true then (some false) else (some true)))) else (some false))) else (some false)) = some r := H
 have A2 := Aside0.mk A20
 clear A20
 by_cases c3 : t215 = true
 ·subst c3
  have H1 : ((spec_l1In.f a0_1 0 30).bind fun t216 => (if t216 = true then (if a0_1 > 0 then ((spec_EpochOf.f a0_0).bind fun t217 => (if a0_1 ≤ t217 then (some false) else (if (a0_3.size : Int) > 40 then (some false) else (if a0_2 = true then (some (a0_3.toList == ([] : List UInt8))) else (some true))))) else (if (a0_3.size : Int) > 40 then (some false) else (if a0_2 = true then (some false) else (some true)))) else (some false))) = some r := by rw [if_pos rfl] at H; exact H
  clear H
  have H := H1
  clear H1
  replace H := Option.bind_eq_some_iff.mp H
  obtain ⟨t216, A40, H⟩ := H
  replace H : (if t216 = true then (if a0_1 > 0 then ((spec_EpochOf.f a0_0).bind fun t217 => (if a0_1 ≤ t217 then (some false) else (if (a0_3.size : Int) > 40 then (some false) else (if a0_2 = true then (some (a0_3.toList == ([] : List UInt8))) else (some true))))) else (if (a0_3.size : Int) > 40 then (some false) else (if a0_2 = true then (some false) else (some true)))) else (some false)) = some r := H
  have A4 := Aside0.mk A40
  clear A40
  by_cases c5 : t216 = true
  ·subst c5
   have H1 : (if a0_1 > 0 then ((spec_EpochOf.f a0_0).bind fun t217 => (if a0_1 ≤ t217 then (some false) else (if (a0_3.size : Int) > 40 then (some false) else (if a0_2 = true then (some (a0_3.toList == ([] : List UInt8))) else (some true))))) else (if (a0_3.size : Int) > 40 then (some false) else (if a0_2 = true then (some false) else (some true)))) = some r := by rw [if_pos rfl] at H; exact H
   clear H
   have H := H1
   clear H1
   by_cases c6 : a0_1 > 0
   ·rw [if_pos c6] at H
    have c6b0 : decide (0 < a0_1) = true := decide_eq_true c6
    clear c6
    replace H := Option.bind_eq_some_iff.mp H
    obtain ⟨t217, A70, H⟩ := H
    replace H : (if a0_1 ≤ t217 then (some false) else (if (a0_3.size : Int) > 40 then (some false) else (if a0_2 = true then (some (a0_3.toList == ([] : List UInt8))) else (some true)))) = some r := H
    have A7 := Aside0.mk A70
    clear A70
    by_cases c8 : a0_1 ≤ t217
    ·rw [if_pos c8] at H
     have c8b0 : decide (a0_1 ≤ t217) = true := decide_eq_true c8
     clear c8
     obtain rfl := Option.some.inj H
     go_enter Try.func42, Try.ntmps42
     go_wp2_with (first | ((with_reducible refine gate_dst (N := 1) rfl ?_); (try (refine gate_guard (by rfl) ?_; dsimp only)); refine BE 1 #[.int .i64 a0_0, .int .i64 a0_1, .bool a0_2, .string a0_3] 35 ?_; intro gb214 hg w9 hbox hb; have h_ := P4 (below_step KB hb) hbox (KG hg : w.heap.size ≤ gb214) (KG hg : w.heap.size ≤ gb214); clear HB; obtain ⟨HB, BK214, GW214, GE214⟩ := h_; clear hb hbox hg; obtain ⟨hcz10_0, hcz10_1, hcz10_2, hcz10_3, hfz10_0, hfz10_1, hfz10_2, hfz10_3⟩ := C4 BK214.out) | (go_at_call 51; (with_reducible refine (spec_PlaceOk.calls a0_0 true _ A2.out).mono ?_); rintro e w' ⟨rfl, ⟨nd, rfl⟩⟩; (try exact KT)) | (go_at_call 66; (with_reducible refine (spec_l1In.calls a0_1 0 30 true _ A4.out).mono ?_); rintro e w' ⟨rfl, ⟨nd, rfl⟩⟩; (try exact KT)) | (go_at_call 58; (with_reducible refine (spec_EpochOf.calls a0_0 t217 _ A7.out).mono ?_); rintro e w' ⟨rfl, ⟨nd, rfl⟩⟩; (try exact KT)))
     repeat (go_quiet (first | (go_at_call 51; (with_reducible refine (spec_PlaceOk.calls a0_0 true _ A2.out).mono ?_); rintro e w' ⟨rfl, ⟨nd, rfl⟩⟩; (try exact KT)) | (go_at_call 66; (with_reducible refine (spec_l1In.calls a0_1 0 30 true _ A4.out).mono ?_); rintro e w' ⟨rfl, ⟨nd, rfl⟩⟩; (try exact KT)) | (go_at_call 58; (with_reducible refine (spec_EpochOf.calls a0_0 t217 _ A7.out).mono ?_); rintro e w' ⟨rfl, ⟨nd, rfl⟩⟩; (try exact KT))); try go_wp2_with (first | ((with_reducible refine gate_dst (N := 1) rfl ?_); (try (refine gate_guard (by rfl) ?_; dsimp only)); refine BE 1 #[.int .i64 a0_0, .int .i64 a0_1, .bool a0_2, .string a0_3] 35 ?_; intro gb214 hg w9 hbox hb; have h_ := P4 (below_step KB hb) hbox (KG hg : w.heap.size ≤ gb214) (KG hg : w.heap.size ≤ gb214); clear HB; obtain ⟨HB, BK214, GW214, GE214⟩ := h_; clear hb hbox hg; obtain ⟨hcz10_0, hcz10_1, hcz10_2, hcz10_3, hfz10_0, hfz10_1, hfz10_2, hfz10_3⟩ := C4 BK214.out) | (go_at_call 51; (with_reducible refine (spec_PlaceOk.calls a0_0 true _ A2.out).mono ?_); rintro e w' ⟨rfl, ⟨nd, rfl⟩⟩; (try exact KT)) | (go_at_call 66; (with_reducible refine (spec_l1In.calls a0_1 0 30 true _ A4.out).mono ?_); rintro e w' ⟨rfl, ⟨nd, rfl⟩⟩; (try exact KT)) | (go_at_call 58; (with_reducible refine (spec_EpochOf.calls a0_0 t217 _ A7.out).mono ?_); rintro e w' ⟨rfl, ⟨nd, rfl⟩⟩; (try exact KT))))
     go_ret
     exact ⟨KE, KB⟩
    ·rw [if_neg c8] at H
     have c8b0 : decide (a0_1 ≤ t217) = false := decide_eq_false c8
     clear c8
     by_cases c11 : (a0_3.size : Int) > 40
     ·rw [if_pos c11] at H
      have c11b0 : decide (40 < (a0_3.size : Int)) = true := decide_eq_true c11
      have c11b1 : decide (40 < a0_3.size) = true := decide_eq_true (by omega)
      clear c11
      obtain rfl := Option.some.inj H
      go_enter Try.func42, Try.ntmps42
      go_wp2_with (first | ((with_reducible refine gate_dst (N := 1) rfl ?_); (try (refine gate_guard (by rfl) ?_; dsimp only)); refine BE 1 #[.int .i64 a0_0, .int .i64 a0_1, .bool a0_2, .string a0_3] 35 ?_; intro gb214 hg w12 hbox hb; have h_ := P4 (below_step KB hb) hbox (KG hg : w.heap.size ≤ gb214) (KG hg : w.heap.size ≤ gb214); clear HB; obtain ⟨HB, BK214, GW214, GE214⟩ := h_; clear hb hbox hg; obtain ⟨hcz13_0, hcz13_1, hcz13_2, hcz13_3, hfz13_0, hfz13_1, hfz13_2, hfz13_3⟩ := C4 BK214.out) | (go_at_call 51; (with_reducible refine (spec_PlaceOk.calls a0_0 true _ A2.out).mono ?_); rintro e w' ⟨rfl, ⟨nd, rfl⟩⟩; (try exact KT)) | (go_at_call 66; (with_reducible refine (spec_l1In.calls a0_1 0 30 true _ A4.out).mono ?_); rintro e w' ⟨rfl, ⟨nd, rfl⟩⟩; (try exact KT)) | (go_at_call 58; (with_reducible refine (spec_EpochOf.calls a0_0 t217 _ A7.out).mono ?_); rintro e w' ⟨rfl, ⟨nd, rfl⟩⟩; (try exact KT)))
      repeat (go_quiet (first | (go_at_call 51; (with_reducible refine (spec_PlaceOk.calls a0_0 true _ A2.out).mono ?_); rintro e w' ⟨rfl, ⟨nd, rfl⟩⟩; (try exact KT)) | (go_at_call 66; (with_reducible refine (spec_l1In.calls a0_1 0 30 true _ A4.out).mono ?_); rintro e w' ⟨rfl, ⟨nd, rfl⟩⟩; (try exact KT)) | (go_at_call 58; (with_reducible refine (spec_EpochOf.calls a0_0 t217 _ A7.out).mono ?_); rintro e w' ⟨rfl, ⟨nd, rfl⟩⟩; (try exact KT))); try go_wp2_with (first | ((with_reducible refine gate_dst (N := 1) rfl ?_); (try (refine gate_guard (by rfl) ?_; dsimp only)); refine BE 1 #[.int .i64 a0_0, .int .i64 a0_1, .bool a0_2, .string a0_3] 35 ?_; intro gb214 hg w12 hbox hb; have h_ := P4 (below_step KB hb) hbox (KG hg : w.heap.size ≤ gb214) (KG hg : w.heap.size ≤ gb214); clear HB; obtain ⟨HB, BK214, GW214, GE214⟩ := h_; clear hb hbox hg; obtain ⟨hcz13_0, hcz13_1, hcz13_2, hcz13_3, hfz13_0, hfz13_1, hfz13_2, hfz13_3⟩ := C4 BK214.out) | (go_at_call 51; (with_reducible refine (spec_PlaceOk.calls a0_0 true _ A2.out).mono ?_); rintro e w' ⟨rfl, ⟨nd, rfl⟩⟩; (try exact KT)) | (go_at_call 66; (with_reducible refine (spec_l1In.calls a0_1 0 30 true _ A4.out).mono ?_); rintro e w' ⟨rfl, ⟨nd, rfl⟩⟩; (try exact KT)) | (go_at_call 58; (with_reducible refine (spec_EpochOf.calls a0_0 t217 _ A7.out).mono ?_); rintro e w' ⟨rfl, ⟨nd, rfl⟩⟩; (try exact KT))))
      go_ret
      exact ⟨KE, KB⟩
     ·rw [if_neg c11] at H
      have c11b0 : decide (40 < (a0_3.size : Int)) = false := decide_eq_false c11
      have c11b1 : decide (40 < a0_3.size) = false := decide_eq_false (by omega)
      clear c11
      by_cases c14 : a0_2 = true
      ·subst c14
       have H1 : (some (a0_3.toList == ([] : List UInt8))) = some r := by rw [if_pos rfl] at H; exact H
       clear H
       have H := H1
       clear H1
       obtain rfl := Option.some.inj H
       go_enter Try.func42, Try.ntmps42
       go_wp2_with (first | ((with_reducible refine gate_dst (N := 1) rfl ?_); (try (refine gate_guard (by rfl) ?_; dsimp only)); refine BE 1 #[.int .i64 a0_0, .int .i64 a0_1, .bool true, .string a0_3] 35 ?_; intro gb214 hg w15 hbox hb; have h_ := P4 (below_step KB hb) hbox (KG hg : w.heap.size ≤ gb214) (KG hg : w.heap.size ≤ gb214); clear HB; obtain ⟨HB, BK214, GW214, GE214⟩ := h_; clear hb hbox hg; obtain ⟨hcz16_0, hcz16_1, hcz16_2, hcz16_3, hfz16_0, hfz16_1, hfz16_2, hfz16_3⟩ := C4 BK214.out) | (go_at_call 51; (with_reducible refine (spec_PlaceOk.calls a0_0 true _ A2.out).mono ?_); rintro e w' ⟨rfl, ⟨nd, rfl⟩⟩; (try exact KT)) | (go_at_call 66; (with_reducible refine (spec_l1In.calls a0_1 0 30 true _ A4.out).mono ?_); rintro e w' ⟨rfl, ⟨nd, rfl⟩⟩; (try exact KT)) | (go_at_call 58; (with_reducible refine (spec_EpochOf.calls a0_0 t217 _ A7.out).mono ?_); rintro e w' ⟨rfl, ⟨nd, rfl⟩⟩; (try exact KT)))
       repeat (go_quiet (first | (go_at_call 51; (with_reducible refine (spec_PlaceOk.calls a0_0 true _ A2.out).mono ?_); rintro e w' ⟨rfl, ⟨nd, rfl⟩⟩; (try exact KT)) | (go_at_call 66; (with_reducible refine (spec_l1In.calls a0_1 0 30 true _ A4.out).mono ?_); rintro e w' ⟨rfl, ⟨nd, rfl⟩⟩; (try exact KT)) | (go_at_call 58; (with_reducible refine (spec_EpochOf.calls a0_0 t217 _ A7.out).mono ?_); rintro e w' ⟨rfl, ⟨nd, rfl⟩⟩; (try exact KT))); try go_wp2_with (first | ((with_reducible refine gate_dst (N := 1) rfl ?_); (try (refine gate_guard (by rfl) ?_; dsimp only)); refine BE 1 #[.int .i64 a0_0, .int .i64 a0_1, .bool true, .string a0_3] 35 ?_; intro gb214 hg w15 hbox hb; have h_ := P4 (below_step KB hb) hbox (KG hg : w.heap.size ≤ gb214) (KG hg : w.heap.size ≤ gb214); clear HB; obtain ⟨HB, BK214, GW214, GE214⟩ := h_; clear hb hbox hg; obtain ⟨hcz16_0, hcz16_1, hcz16_2, hcz16_3, hfz16_0, hfz16_1, hfz16_2, hfz16_3⟩ := C4 BK214.out) | (go_at_call 51; (with_reducible refine (spec_PlaceOk.calls a0_0 true _ A2.out).mono ?_); rintro e w' ⟨rfl, ⟨nd, rfl⟩⟩; (try exact KT)) | (go_at_call 66; (with_reducible refine (spec_l1In.calls a0_1 0 30 true _ A4.out).mono ?_); rintro e w' ⟨rfl, ⟨nd, rfl⟩⟩; (try exact KT)) | (go_at_call 58; (with_reducible refine (spec_EpochOf.calls a0_0 t217 _ A7.out).mono ?_); rintro e w' ⟨rfl, ⟨nd, rfl⟩⟩; (try exact KT))))
       go_ret
       exact ⟨KE, KB⟩
      ·replace c14 := Bool.eq_false_iff.mpr c14
       subst c14
       have H1 : (some true) = some r := by rw [if_neg (show ¬ (false = true) by decide)] at H; exact H
       clear H
       have H := H1
       clear H1
       obtain rfl := Option.some.inj H
       go_enter Try.func42, Try.ntmps42
       go_wp2_with (first | ((with_reducible refine gate_dst (N := 1) rfl ?_); (try (refine gate_guard (by rfl) ?_; dsimp only)); refine BE 1 #[.int .i64 a0_0, .int .i64 a0_1, .bool false, .string a0_3] 35 ?_; intro gb214 hg w17 hbox hb; have h_ := P4 (below_step KB hb) hbox (KG hg : w.heap.size ≤ gb214) (KG hg : w.heap.size ≤ gb214); clear HB; obtain ⟨HB, BK214, GW214, GE214⟩ := h_; clear hb hbox hg; obtain ⟨hcz18_0, hcz18_1, hcz18_2, hcz18_3, hfz18_0, hfz18_1, hfz18_2, hfz18_3⟩ := C4 BK214.out) | (go_at_call 51; (with_reducible refine (spec_PlaceOk.calls a0_0 true _ A2.out).mono ?_); rintro e w' ⟨rfl, ⟨nd, rfl⟩⟩; (try exact KT)) | (go_at_call 66; (with_reducible refine (spec_l1In.calls a0_1 0 30 true _ A4.out).mono ?_); rintro e w' ⟨rfl, ⟨nd, rfl⟩⟩; (try exact KT)) | (go_at_call 58; (with_reducible refine (spec_EpochOf.calls a0_0 t217 _ A7.out).mono ?_); rintro e w' ⟨rfl, ⟨nd, rfl⟩⟩; (try exact KT)))
       repeat (go_quiet (first | (go_at_call 51; (with_reducible refine (spec_PlaceOk.calls a0_0 true _ A2.out).mono ?_); rintro e w' ⟨rfl, ⟨nd, rfl⟩⟩; (try exact KT)) | (go_at_call 66; (with_reducible refine (spec_l1In.calls a0_1 0 30 true _ A4.out).mono ?_); rintro e w' ⟨rfl, ⟨nd, rfl⟩⟩; (try exact KT)) | (go_at_call 58; (with_reducible refine (spec_EpochOf.calls a0_0 t217 _ A7.out).mono ?_); rintro e w' ⟨rfl, ⟨nd, rfl⟩⟩; (try exact KT))); try go_wp2_with (first | ((with_reducible refine gate_dst (N := 1) rfl ?_); (try (refine gate_guard (by rfl) ?_; dsimp only)); refine BE 1 #[.int .i64 a0_0, .int .i64 a0_1, .bool false, .string a0_3] 35 ?_; intro gb214 hg w17 hbox hb; have h_ := P4 (below_step KB hb) hbox (KG hg : w.heap.size ≤ gb214) (KG hg : w.heap.size ≤ gb214); clear HB; obtain ⟨HB, BK214, GW214, GE214⟩ := h_; clear hb hbox hg; obtain ⟨hcz18_0, hcz18_1, hcz18_2, hcz18_3, hfz18_0, hfz18_1, hfz18_2, hfz18_3⟩ := C4 BK214.out) | (go_at_call 51; (with_reducible refine (spec_PlaceOk.calls a0_0 true _ A2.out).mono ?_); rintro e w' ⟨rfl, ⟨nd, rfl⟩⟩; (try exact KT)) | (go_at_call 66; (with_reducible refine (spec_l1In.calls a0_1 0 30 true _ A4.out).mono ?_); rintro e w' ⟨rfl, ⟨nd, rfl⟩⟩; (try exact KT)) | (go_at_call 58; (with_reducible refine (spec_EpochOf.calls a0_0 t217 _ A7.out).mono ?_); rintro e w' ⟨rfl, ⟨nd, rfl⟩⟩; (try exact KT))))
       go_ret
       exact ⟨KE, KB⟩
   ·rw [if_neg c6] at H
    have c6b0 : decide (0 < a0_1) = false := decide_eq_false c6
    clear c6
    by_cases c19 : (a0_3.size : Int) > 40
    ·rw [if_pos c19] at H
     have c19b0 : decide (40 < (a0_3.size : Int)) = true := decide_eq_true c19
     have c19b1 : decide (40 < a0_3.size) = true := decide_eq_true (by omega)
     clear c19
     obtain rfl := Option.some.inj H
     go_enter Try.func42, Try.ntmps42
     go_wp2_with (first | ((with_reducible refine gate_dst (N := 1) rfl ?_); (try (refine gate_guard (by rfl) ?_; dsimp only)); refine BE 1 #[.int .i64 a0_0, .int .i64 a0_1, .bool a0_2, .string a0_3] 35 ?_; intro gb214 hg w20 hbox hb; have h_ := P4 (below_step KB hb) hbox (KG hg : w.heap.size ≤ gb214) (KG hg : w.heap.size ≤ gb214); clear HB; obtain ⟨HB, BK214, GW214, GE214⟩ := h_; clear hb hbox hg; obtain ⟨hcz21_0, hcz21_1, hcz21_2, hcz21_3, hfz21_0, hfz21_1, hfz21_2, hfz21_3⟩ := C4 BK214.out) | (go_at_call 51; (with_reducible refine (spec_PlaceOk.calls a0_0 true _ A2.out).mono ?_); rintro e w' ⟨rfl, ⟨nd, rfl⟩⟩; (try exact KT)) | (go_at_call 66; (with_reducible refine (spec_l1In.calls a0_1 0 30 true _ A4.out).mono ?_); rintro e w' ⟨rfl, ⟨nd, rfl⟩⟩; (try exact KT)))
     repeat (go_quiet (first | (go_at_call 51; (with_reducible refine (spec_PlaceOk.calls a0_0 true _ A2.out).mono ?_); rintro e w' ⟨rfl, ⟨nd, rfl⟩⟩; (try exact KT)) | (go_at_call 66; (with_reducible refine (spec_l1In.calls a0_1 0 30 true _ A4.out).mono ?_); rintro e w' ⟨rfl, ⟨nd, rfl⟩⟩; (try exact KT))); try go_wp2_with (first | ((with_reducible refine gate_dst (N := 1) rfl ?_); (try (refine gate_guard (by rfl) ?_; dsimp only)); refine BE 1 #[.int .i64 a0_0, .int .i64 a0_1, .bool a0_2, .string a0_3] 35 ?_; intro gb214 hg w20 hbox hb; have h_ := P4 (below_step KB hb) hbox (KG hg : w.heap.size ≤ gb214) (KG hg : w.heap.size ≤ gb214); clear HB; obtain ⟨HB, BK214, GW214, GE214⟩ := h_; clear hb hbox hg; obtain ⟨hcz21_0, hcz21_1, hcz21_2, hcz21_3, hfz21_0, hfz21_1, hfz21_2, hfz21_3⟩ := C4 BK214.out) | (go_at_call 51; (with_reducible refine (spec_PlaceOk.calls a0_0 true _ A2.out).mono ?_); rintro e w' ⟨rfl, ⟨nd, rfl⟩⟩; (try exact KT)) | (go_at_call 66; (with_reducible refine (spec_l1In.calls a0_1 0 30 true _ A4.out).mono ?_); rintro e w' ⟨rfl, ⟨nd, rfl⟩⟩; (try exact KT))))
     go_ret
     exact ⟨KE, KB⟩
    ·rw [if_neg c19] at H
     have c19b0 : decide (40 < (a0_3.size : Int)) = false := decide_eq_false c19
     have c19b1 : decide (40 < a0_3.size) = false := decide_eq_false (by omega)
     clear c19
     by_cases c22 : a0_2 = true
     ·subst c22
      have H1 : (some false) = some r := by rw [if_pos rfl] at H; exact H
      clear H
      have H := H1
      clear H1
      obtain rfl := Option.some.inj H
      go_enter Try.func42, Try.ntmps42
      go_wp2_with (first | ((with_reducible refine gate_dst (N := 1) rfl ?_); (try (refine gate_guard (by rfl) ?_; dsimp only)); refine BE 1 #[.int .i64 a0_0, .int .i64 a0_1, .bool true, .string a0_3] 35 ?_; intro gb214 hg w23 hbox hb; have h_ := P4 (below_step KB hb) hbox (KG hg : w.heap.size ≤ gb214) (KG hg : w.heap.size ≤ gb214); clear HB; obtain ⟨HB, BK214, GW214, GE214⟩ := h_; clear hb hbox hg; obtain ⟨hcz24_0, hcz24_1, hcz24_2, hcz24_3, hfz24_0, hfz24_1, hfz24_2, hfz24_3⟩ := C4 BK214.out) | (go_at_call 51; (with_reducible refine (spec_PlaceOk.calls a0_0 true _ A2.out).mono ?_); rintro e w' ⟨rfl, ⟨nd, rfl⟩⟩; (try exact KT)) | (go_at_call 66; (with_reducible refine (spec_l1In.calls a0_1 0 30 true _ A4.out).mono ?_); rintro e w' ⟨rfl, ⟨nd, rfl⟩⟩; (try exact KT)))
      repeat (go_quiet (first | (go_at_call 51; (with_reducible refine (spec_PlaceOk.calls a0_0 true _ A2.out).mono ?_); rintro e w' ⟨rfl, ⟨nd, rfl⟩⟩; (try exact KT)) | (go_at_call 66; (with_reducible refine (spec_l1In.calls a0_1 0 30 true _ A4.out).mono ?_); rintro e w' ⟨rfl, ⟨nd, rfl⟩⟩; (try exact KT))); try go_wp2_with (first | ((with_reducible refine gate_dst (N := 1) rfl ?_); (try (refine gate_guard (by rfl) ?_; dsimp only)); refine BE 1 #[.int .i64 a0_0, .int .i64 a0_1, .bool true, .string a0_3] 35 ?_; intro gb214 hg w23 hbox hb; have h_ := P4 (below_step KB hb) hbox (KG hg : w.heap.size ≤ gb214) (KG hg : w.heap.size ≤ gb214); clear HB; obtain ⟨HB, BK214, GW214, GE214⟩ := h_; clear hb hbox hg; obtain ⟨hcz24_0, hcz24_1, hcz24_2, hcz24_3, hfz24_0, hfz24_1, hfz24_2, hfz24_3⟩ := C4 BK214.out) | (go_at_call 51; (with_reducible refine (spec_PlaceOk.calls a0_0 true _ A2.out).mono ?_); rintro e w' ⟨rfl, ⟨nd, rfl⟩⟩; (try exact KT)) | (go_at_call 66; (with_reducible refine (spec_l1In.calls a0_1 0 30 true _ A4.out).mono ?_); rintro e w' ⟨rfl, ⟨nd, rfl⟩⟩; (try exact KT))))
      go_ret
      exact ⟨KE, KB⟩
     ·replace c22 := Bool.eq_false_iff.mpr c22
      subst c22
      have H1 : (some true) = some r := by rw [if_neg (show ¬ (false = true) by decide)] at H; exact H
      clear H
      have H := H1
      clear H1
      obtain rfl := Option.some.inj H
      go_enter Try.func42, Try.ntmps42
      go_wp2_with (first | ((with_reducible refine gate_dst (N := 1) rfl ?_); (try (refine gate_guard (by rfl) ?_; dsimp only)); refine BE 1 #[.int .i64 a0_0, .int .i64 a0_1, .bool false, .string a0_3] 35 ?_; intro gb214 hg w25 hbox hb; have h_ := P4 (below_step KB hb) hbox (KG hg : w.heap.size ≤ gb214) (KG hg : w.heap.size ≤ gb214); clear HB; obtain ⟨HB, BK214, GW214, GE214⟩ := h_; clear hb hbox hg; obtain ⟨hcz26_0, hcz26_1, hcz26_2, hcz26_3, hfz26_0, hfz26_1, hfz26_2, hfz26_3⟩ := C4 BK214.out) | (go_at_call 51; (with_reducible refine (spec_PlaceOk.calls a0_0 true _ A2.out).mono ?_); rintro e w' ⟨rfl, ⟨nd, rfl⟩⟩; (try exact KT)) | (go_at_call 66; (with_reducible refine (spec_l1In.calls a0_1 0 30 true _ A4.out).mono ?_); rintro e w' ⟨rfl, ⟨nd, rfl⟩⟩; (try exact KT)))
      repeat (go_quiet (first | (go_at_call 51; (with_reducible refine (spec_PlaceOk.calls a0_0 true _ A2.out).mono ?_); rintro e w' ⟨rfl, ⟨nd, rfl⟩⟩; (try exact KT)) | (go_at_call 66; (with_reducible refine (spec_l1In.calls a0_1 0 30 true _ A4.out).mono ?_); rintro e w' ⟨rfl, ⟨nd, rfl⟩⟩; (try exact KT))); try go_wp2_with (first | ((with_reducible refine gate_dst (N := 1) rfl ?_); (try (refine gate_guard (by rfl) ?_; dsimp only)); refine BE 1 #[.int .i64 a0_0, .int .i64 a0_1, .bool false, .string a0_3] 35 ?_; intro gb214 hg w25 hbox hb; have h_ := P4 (below_step KB hb) hbox (KG hg : w.heap.size ≤ gb214) (KG hg : w.heap.size ≤ gb214); clear HB; obtain ⟨HB, BK214, GW214, GE214⟩ := h_; clear hb hbox hg; obtain ⟨hcz26_0, hcz26_1, hcz26_2, hcz26_3, hfz26_0, hfz26_1, hfz26_2, hfz26_3⟩ := C4 BK214.out) | (go_at_call 51; (with_reducible refine (spec_PlaceOk.calls a0_0 true _ A2.out).mono ?_); rintro e w' ⟨rfl, ⟨nd, rfl⟩⟩; (try exact KT)) | (go_at_call 66; (with_reducible refine (spec_l1In.calls a0_1 0 30 true _ A4.out).mono ?_); rintro e w' ⟨rfl, ⟨nd, rfl⟩⟩; (try exact KT))))
      go_ret
      exact ⟨KE, KB⟩
  ·replace c5 := Bool.eq_false_iff.mpr c5
   subst c5
   have H1 : (some false) = some r := by rw [if_neg (show ¬ (false = true) by decide)] at H; exact H
   clear H
   have H := H1
   clear H1
   obtain rfl := Option.some.inj H
   go_enter Try.func42, Try.ntmps42
   go_wp2_with (first | ((with_reducible refine gate_dst (N := 1) rfl ?_); (try (refine gate_guard (by rfl) ?_; dsimp only)); refine BE 1 #[.int .i64 a0_0, .int .i64 a0_1, .bool a0_2, .string a0_3] 35 ?_; intro gb214 hg w27 hbox hb; have h_ := P4 (below_step KB hb) hbox (KG hg : w.heap.size ≤ gb214) (KG hg : w.heap.size ≤ gb214); clear HB; obtain ⟨HB, BK214, GW214, GE214⟩ := h_; clear hb hbox hg; obtain ⟨hcz28_0, hcz28_1, hcz28_2, hcz28_3, hfz28_0, hfz28_1, hfz28_2, hfz28_3⟩ := C4 BK214.out) | (go_at_call 51; (with_reducible refine (spec_PlaceOk.calls a0_0 true _ A2.out).mono ?_); rintro e w' ⟨rfl, ⟨nd, rfl⟩⟩; (try exact KT)) | (go_at_call 66; (with_reducible refine (spec_l1In.calls a0_1 0 30 false _ A4.out).mono ?_); rintro e w' ⟨rfl, ⟨nd, rfl⟩⟩; (try exact KT)))
   repeat (go_quiet (first | (go_at_call 51; (with_reducible refine (spec_PlaceOk.calls a0_0 true _ A2.out).mono ?_); rintro e w' ⟨rfl, ⟨nd, rfl⟩⟩; (try exact KT)) | (go_at_call 66; (with_reducible refine (spec_l1In.calls a0_1 0 30 false _ A4.out).mono ?_); rintro e w' ⟨rfl, ⟨nd, rfl⟩⟩; (try exact KT))); try go_wp2_with (first | ((with_reducible refine gate_dst (N := 1) rfl ?_); (try (refine gate_guard (by rfl) ?_; dsimp only)); refine BE 1 #[.int .i64 a0_0, .int .i64 a0_1, .bool a0_2, .string a0_3] 35 ?_; intro gb214 hg w27 hbox hb; have h_ := P4 (below_step KB hb) hbox (KG hg : w.heap.size ≤ gb214) (KG hg : w.heap.size ≤ gb214); clear HB; obtain ⟨HB, BK214, GW214, GE214⟩ := h_; clear hb hbox hg; obtain ⟨hcz28_0, hcz28_1, hcz28_2, hcz28_3, hfz28_0, hfz28_1, hfz28_2, hfz28_3⟩ := C4 BK214.out) | (go_at_call 51; (with_reducible refine (spec_PlaceOk.calls a0_0 true _ A2.out).mono ?_); rintro e w' ⟨rfl, ⟨nd, rfl⟩⟩; (try exact KT)) | (go_at_call 66; (with_reducible refine (spec_l1In.calls a0_1 0 30 false _ A4.out).mono ?_); rintro e w' ⟨rfl, ⟨nd, rfl⟩⟩; (try exact KT))))
   go_ret
   exact ⟨KE, KB⟩
 ·replace c3 := Bool.eq_false_iff.mpr c3
  subst c3
  have H1 : (some false) = some r := by rw [if_neg (show ¬ (false = true) by decide)] at H; exact H
  clear H
  have H := H1
  clear H1
  obtain rfl := Option.some.inj H
  go_enter Try.func42, Try.ntmps42
  go_wp2_with (first | ((with_reducible refine gate_dst (N := 1) rfl ?_); (try (refine gate_guard (by rfl) ?_; dsimp only)); refine BE 1 #[.int .i64 a0_0, .int .i64 a0_1, .bool a0_2, .string a0_3] 35 ?_; intro gb214 hg w29 hbox hb; have h_ := P4 (below_step KB hb) hbox (KG hg : w.heap.size ≤ gb214) (KG hg : w.heap.size ≤ gb214); clear HB; obtain ⟨HB, BK214, GW214, GE214⟩ := h_; clear hb hbox hg; obtain ⟨hcz30_0, hcz30_1, hcz30_2, hcz30_3, hfz30_0, hfz30_1, hfz30_2, hfz30_3⟩ := C4 BK214.out) | (go_at_call 51; (with_reducible refine (spec_PlaceOk.calls a0_0 false _ A2.out).mono ?_); rintro e w' ⟨rfl, ⟨nd, rfl⟩⟩; (try exact KT)))
  repeat (go_quiet (first | (go_at_call 51; (with_reducible refine (spec_PlaceOk.calls a0_0 false _ A2.out).mono ?_); rintro e w' ⟨rfl, ⟨nd, rfl⟩⟩; (try exact KT))); try go_wp2_with (first | ((with_reducible refine gate_dst (N := 1) rfl ?_); (try (refine gate_guard (by rfl) ?_; dsimp only)); refine BE 1 #[.int .i64 a0_0, .int .i64 a0_1, .bool a0_2, .string a0_3] 35 ?_; intro gb214 hg w29 hbox hb; have h_ := P4 (below_step KB hb) hbox (KG hg : w.heap.size ≤ gb214) (KG hg : w.heap.size ≤ gb214); clear HB; obtain ⟨HB, BK214, GW214, GE214⟩ := h_; clear hb hbox hg; obtain ⟨hcz30_0, hcz30_1, hcz30_2, hcz30_3, hfz30_0, hfz30_1, hfz30_2, hfz30_3⟩ := C4 BK214.out) | (go_at_call 51; (with_reducible refine (spec_PlaceOk.calls a0_0 false _ A2.out).mono ?_); rintro e w' ⟨rfl, ⟨nd, rfl⟩⟩; (try exact KT))))
  go_ret
  exact ⟨KE, KB⟩

/-! ### spec_l6List: function 71 -/
def spec_l6List.l0 : Nat → List (S35) → Int → Option (Bool)
 | 0, _, _ => none
 | k + 1, x0, x5 => if x5 < (x0.length : Int) then (if 0 ≤ x5 then ((spec_EntryOk.f ((rd_T35 x0 x5).f0) ((rd_T35 x0 x5).f1) ((rd_T35 x0 x5).f2) ((rd_T35 x0 x5).f3)).bind fun t219 => (if t219 = true then (spec_l6List.l0 k x0 (wrap64 (x5 + 1))) else (some false))) else (none)) else (some true)
def spec_l6List.f (k : Nat) (l0 : List (S35)) (a1 : Int) : Option (Bool) := if (l0.length : Int) > a1 then (some false) else (spec_l6List.l0 k l0 0)
theorem spec_l6List.mono_l : ∀ k, (∀ y0 y1, LeO (spec_l6List.l0 k y0 y1) (spec_l6List.l0 (k + 1) y0 y1))
 | 0 => fun _ _ r h => by simp [spec_l6List.l0] at h
 | k + 1 => by
  have ih0 := spec_l6List.mono_l k
  ·intro y0 y1
   unfold spec_l6List.l0
   repeat' first
   | (with_reducible exact ih0 _ _)
   | (with_reducible exact LeO.refl _)
   | (with_reducible exact LeO.none _)
   | (with_reducible refine LeO.ite ?_ ?_)
   | (with_reducible refine LeO.bind ?_ (fun _ => ?_))
   | exact ih0 _ _
   | exact LeO.none _
   | refine LeO.ite ?_ ?_
   | refine LeO.bind ?_ (fun _ => ?_)
theorem spec_l6List.mono : ∀ a0 a1 k, LeO (spec_l6List.f k a0 a1) (spec_l6List.f (k + 1) a0 a1) := by
 intro a0 a1 k
 have ih0 := spec_l6List.mono_l k
 unfold spec_l6List.f
 repeat' first
   | (with_reducible exact ih0 _ _)
   | (with_reducible exact LeO.refl _)
   | (with_reducible exact LeO.none _)
   | (with_reducible refine LeO.ite ?_ ?_)
   | (with_reducible refine LeO.bind ?_ (fun _ => ?_))
   | exact ih0 _ _
   | exact LeO.none _
   | refine LeO.ite ?_ ?_
   | refine LeO.bind ?_ (fun _ => ?_)
set_option maxHeartbeats 8000000 in
set_option maxRecDepth 100000 in
theorem spec_l6List.calls (k : Nat) (A0 : Option Addr) (c0 : Nat) (l0 : List (S35)) (a1 : Int) (r : Bool) (w : World) (hr0 : Kd.C k35 w A0 l0.length l0) (hc0 : l0.length ≤ c0) (h : spec_l6List.f k l0 a1 = some r) :
  Calls Try.prog 71 #[.slice A0 l0.length c0, .int .i64 a1] w fun e w' => e = .returned (.bool r) ∧ Below w.heap.size w w' := by
 have hu35 := Try.underlying35
 have HR0 := Aside0.mk hr0
 have HC0 := Aside0.mk hc0
 clear hr0 hc0
 have HB := Aside0.mk (Below.refl w.heap.size w)
 have H : (if (l0.length : Int) > a1 then (some false) else (spec_l6List.l0 k l0 0)) = some r := h
 clear h
 by_cases c3 : (l0.length : Int) > a1
 ·rw [if_pos c3] at H
  have c3b0 : decide (a1 < (l0.length : Int)) = true := decide_eq_true c3
  clear c3
  obtain rfl := Option.some.inj H
  go_enter Try.func71, Try.ntmps71
  go_wp2
  go_ret
  exact ⟨KE, KB⟩
 ·rw [if_neg c3] at H
  have c3b0 : decide (a1 < (l0.length : Int)) = false := decide_eq_false c3
  clear c3
  have H' := Aside0.mk H
  clear H
  go_enter Try.func71, Try.ntmps71
  go_wp2
  go_loopg [5] k (fun kq v5 w' => ∃ (x5_1 : Int), v5 = .int .i64 x5_1 ∧ Aside0 (spec_l6List.l0 kq l0 x5_1 = some r) ∧ Aside0 (kq ≤ k) ∧ Aside0 (Below w.heap.size w w'))
  case atStart => exact ⟨(0), (by first | rfl | (simp; done) | (simp [*]; done)), H', ⟨Nat.le_refl _⟩, ⟨KB⟩⟩
  case round =>
   clear H'
   try clear p2
   try clear c3
   try clear c3b0
   obtain ⟨x5_1, rfl, HA, HK1, HB⟩ := hrel
   cases gk with
   | zero => exact absurd HA.out (by simp [spec_l6List.l0])
   | succ k1 =>
    have H := HA.out
    clear HA
    simp only [spec_l6List.l0] at H
    by_cases c4 : x5_1 < (l0.length : Int)
    ·rw [if_pos c4] at H
     have c4b0 : decide (x5_1 < (l0.length : Int)) = true := decide_eq_true c4
     clear c4
     by_cases c5 : 0 ≤ x5_1
     ·rw [if_pos c5] at H
      have c5b0 : decide (0 ≤ x5_1) = true := decide_eq_true c5
      clear c5
      replace H := Option.bind_eq_some_iff.mp H
      obtain ⟨t219, A60, H⟩ := H
      replace H : (if t219 = true then (spec_l6List.l0 k1 l0 (wrap64 (x5_1 + 1))) else (some false)) = some r := H
      have A6 := Aside0.mk A60
      clear A60
      by_cases c7 : t219 = true
      ·subst c7
       have H1 : (spec_l6List.l0 k1 l0 (wrap64 (x5_1 + 1))) = some r := by rw [if_pos rfl] at H; exact H
       clear H
       have H := H1
       clear H1
       have H' := Aside0.mk H
       clear H
       have p218 : 0 ≤ (x5_1 : Int) := of_decide_eq_true (by first | (with_reducible assumption) | assumption)
       have q218 : x5_1 < (l0.length : Int) := of_decide_eq_true (by first | (with_reducible assumption) | assumption)
       obtain ⟨ad218, e218, hx218_0, hx218_1, hx218_2, hx218_3⟩ := at_T35 HR0.out x5_1 p218 q218
       cases e218
       replace hx218_0 := (HB.out.cell (World.block_lt_of_cell? w _ hx218_0)).trans hx218_0
       replace hx218_1 := (HB.out.cell (World.block_lt_of_cell? w _ hx218_1)).trans hx218_1
       replace hx218_2 := (HB.out.cell (World.block_lt_of_cell? w _ hx218_2)).trans hx218_2
       replace hx218_3 := (HB.out.cell (World.block_lt_of_cell? w _ hx218_3)).trans hx218_3
       replace p218 := eq_true p218
       replace q218 := eq_true q218
       go_wp2_with (first | ((with_reducible refine gate_callee (f := 42) rfl ?_); refine goesL_ (some 20) rfl rfl Try.func42 (by kernel_rfl) rfl #[.agg #[.int .i64 ((rd_T35 l0 x5_1).f0), .int .i64 ((rd_T35 l0 x5_1).f1), .bool ((rd_T35 l0 x5_1).f2), .string ((rd_T35 l0 x5_1).f3)]] rfl KL ?_; (with_reducible refine (spec_EntryOk.calls ((rd_T35 l0 x5_1).f0) ((rd_T35 l0 x5_1).f1) ((rd_T35 l0 x5_1).f2) ((rd_T35 l0 x5_1).f3) true _ A6.out).mono ?_); rintro e w8 ⟨rfl, hb⟩; refine ⟨_, rfl, ?_⟩; have h_ := Aside0.mk (below_step KB hb); clear HB; have HB := h_; clear h_; (try clear hb); (try clear hk); (try clear hi)))
       go_roundg k1
       case measure => have := HK1.out; omega
       case rel => exact ⟨(wrap64 (x5_1 + 1)), (by first | rfl | (simp; done) | (simp [*]; done)), H', ⟨by have := HK1.out; omega⟩, ⟨KB⟩⟩
      ·replace c7 := Bool.eq_false_iff.mpr c7
       subst c7
       have H1 : (some false) = some r := by rw [if_neg (show ¬ (false = true) by decide)] at H; exact H
       clear H
       have H := H1
       clear H1
       obtain rfl := Option.some.inj H
       have p218 : 0 ≤ (x5_1 : Int) := of_decide_eq_true (by first | (with_reducible assumption) | assumption)
       have q218 : x5_1 < (l0.length : Int) := of_decide_eq_true (by first | (with_reducible assumption) | assumption)
       obtain ⟨ad218, e218, hx218_0, hx218_1, hx218_2, hx218_3⟩ := at_T35 HR0.out x5_1 p218 q218
       cases e218
       replace hx218_0 := (HB.out.cell (World.block_lt_of_cell? w _ hx218_0)).trans hx218_0
       replace hx218_1 := (HB.out.cell (World.block_lt_of_cell? w _ hx218_1)).trans hx218_1
       replace hx218_2 := (HB.out.cell (World.block_lt_of_cell? w _ hx218_2)).trans hx218_2
       replace hx218_3 := (HB.out.cell (World.block_lt_of_cell? w _ hx218_3)).trans hx218_3
       replace p218 := eq_true p218
       replace q218 := eq_true q218
       go_wp2_with (first | ((with_reducible refine gate_callee (f := 42) rfl ?_); refine goesL_ (some 20) rfl rfl Try.func42 (by kernel_rfl) rfl #[.agg #[.int .i64 ((rd_T35 l0 x5_1).f0), .int .i64 ((rd_T35 l0 x5_1).f1), .bool ((rd_T35 l0 x5_1).f2), .string ((rd_T35 l0 x5_1).f3)]] rfl KL ?_; (with_reducible refine (spec_EntryOk.calls ((rd_T35 l0 x5_1).f0) ((rd_T35 l0 x5_1).f1) ((rd_T35 l0 x5_1).f2) ((rd_T35 l0 x5_1).f3) false _ A6.out).mono ?_); rintro e w9 ⟨rfl, hb⟩; refine ⟨_, rfl, ?_⟩; have h_ := Aside0.mk (below_step KB hb); clear HB; have HB := h_; clear h_; (try clear hb); (try clear hk); (try clear hi)))
       go_ret
       exact ⟨KE, KB⟩
     ·rw [if_neg c5] at H
      exact absurd H (by simp)
    ·rw [if_neg c4] at H
     have c4b0 : decide (x5_1 < (l0.length : Int)) = false := decide_eq_false c4
     clear c4
     obtain rfl := Option.some.inj H
     go_wp2
     go_ret
     exact ⟨KE, KB⟩

/-! ### spec_l6Asc: function 72 -/
def spec_l6Asc.l0 : Nat → List (S35) → Int → Option (Bool)
 | 0, _, _ => none
 | k + 1, x0, x3 => if x3 < (x0.length : Int) then (if 0 ≤ (wrap64 (x3 - 1)) then (if (wrap64 (x3 - 1)) < (x0.length : Int) then (if 0 ≤ x3 then (if ((rd_T35 x0 (wrap64 (x3 - 1))).f0) ≥ ((rd_T35 x0 x3).f0) then (some false) else (spec_l6Asc.l0 k x0 (wrap64 (x3 + 1)))) else (none)) else (none)) else (none)) else (some true)
def spec_l6Asc.f (k : Nat) (l0 : List (S35)) : Option (Bool) := spec_l6Asc.l0 k l0 1
theorem spec_l6Asc.mono_l : ∀ k, (∀ y0 y1, LeO (spec_l6Asc.l0 k y0 y1) (spec_l6Asc.l0 (k + 1) y0 y1))
 | 0 => fun _ _ r h => by simp [spec_l6Asc.l0] at h
 | k + 1 => by
  have ih0 := spec_l6Asc.mono_l k
  ·intro y0 y1
   unfold spec_l6Asc.l0
   repeat' first
   | (with_reducible exact ih0 _ _)
   | (with_reducible exact LeO.refl _)
   | (with_reducible exact LeO.none _)
   | (with_reducible refine LeO.ite ?_ ?_)
   | (with_reducible refine LeO.bind ?_ (fun _ => ?_))
   | exact ih0 _ _
   | exact LeO.none _
   | refine LeO.ite ?_ ?_
   | refine LeO.bind ?_ (fun _ => ?_)
theorem spec_l6Asc.mono : ∀ a0 k, LeO (spec_l6Asc.f k a0) (spec_l6Asc.f (k + 1) a0) := by
 intro a0 k
 have ih0 := spec_l6Asc.mono_l k
 unfold spec_l6Asc.f
 repeat' first
   | (with_reducible exact ih0 _ _)
   | (with_reducible exact LeO.refl _)
   | (with_reducible exact LeO.none _)
   | (with_reducible refine LeO.ite ?_ ?_)
   | (with_reducible refine LeO.bind ?_ (fun _ => ?_))
   | exact ih0 _ _
   | exact LeO.none _
   | refine LeO.ite ?_ ?_
   | refine LeO.bind ?_ (fun _ => ?_)
set_option maxHeartbeats 8000000 in
set_option maxRecDepth 100000 in
theorem spec_l6Asc.calls (k : Nat) (A0 : Option Addr) (c0 : Nat) (l0 : List (S35)) (r : Bool) (w : World) (hr0 : Kd.C k35 w A0 l0.length l0) (hc0 : l0.length ≤ c0) (h : spec_l6Asc.f k l0 = some r) :
  Calls Try.prog 72 #[.slice A0 l0.length c0] w fun e w' => e = .returned (.bool r) ∧ Drawn0 w w' := by
 have HR0 := Aside0.mk hr0
 have HC0 := Aside0.mk hc0
 clear hr0 hc0
 have H : (spec_l6Asc.l0 k l0 1) = some r := h
 clear h
 have H' := Aside0.mk H
 clear H
 go_enter Try.func72, Try.ntmps72
 go_wp2
 repeat (go_quiet (fail); try go_wp2)
 go_loopg [3] k (fun kq v3 w' => ∃ (x3_1 : Int), v3 = .int .i64 x3_1 ∧ Aside0 (spec_l6Asc.l0 kq l0 x3_1 = some r) ∧ Aside0 (kq ≤ k) ∧ Drawn0 w w')
 case atStart => exact ⟨(1), (by first | rfl | (simp; done) | (simp [*]; done)), H', ⟨Nat.le_refl _⟩, by repeat (first | exact Drawn0.refl _ | apply Drawn0.step)⟩
 case round =>
  clear H'
  obtain ⟨x3_1, rfl, HA, HK1, ⟨m1, rfl⟩⟩ := hrel
  cases gk with
  | zero => exact absurd HA.out (by simp [spec_l6Asc.l0])
  | succ k1 =>
   have H := HA.out
   clear HA
   simp only [spec_l6Asc.l0] at H
   by_cases c2 : x3_1 < (l0.length : Int)
   ·rw [if_pos c2] at H
    have c2b0 : decide (x3_1 < (l0.length : Int)) = true := decide_eq_true c2
    clear c2
    obtain ⟨ji3, hji3⟩ : ∃ j_ : Int, (wrap64 (x3_1 - 1)) = j_ := ⟨_, rfl⟩
    replace H : (if 0 ≤ (ji3) then (if (ji3) < (l0.length : Int) then (if 0 ≤ x3_1 then (if ((rd_T35 l0 (ji3)).f0) ≥ ((rd_T35 l0 x3_1).f0) then (some false) else (spec_l6Asc.l0 k1 l0 (wrap64 (x3_1 + 1)))) else (none)) else (none)) else (none)) = some r := by first | (rw [hji3] at H; exact H) | (simp only [hji3] at H ⊢; exact H)
    have hji3w : (IntKind.i64.wrap (x3_1 - 1)) = ji3 := (i64_w _).trans hji3
    by_cases c4 : 0 ≤ (ji3)
    ·rw [if_pos c4] at H
     have c4b0 : decide (0 ≤ (ji3)) = true := decide_eq_true c4
     clear c4
     by_cases c5 : (ji3) < (l0.length : Int)
     ·rw [if_pos c5] at H
      have c5b0 : decide ((ji3) < (l0.length : Int)) = true := decide_eq_true c5
      clear c5
      by_cases c6 : 0 ≤ x3_1
      ·rw [if_pos c6] at H
       have c6b0 : decide (0 ≤ x3_1) = true := decide_eq_true c6
       clear c6
       by_cases c7 : ((rd_T35 l0 (ji3)).f0) ≥ ((rd_T35 l0 x3_1).f0)
       ·rw [if_pos c7] at H
        have c7b0 : decide (((rd_T35 l0 x3_1).f0) ≤ ((rd_T35 l0 (ji3)).f0)) = true := decide_eq_true c7
        clear c7
        obtain rfl := Option.some.inj H
        have p220 : 0 ≤ ((ji3) : Int) := of_decide_eq_true (by first | (with_reducible assumption) | assumption)
        have q220 : (ji3) < (l0.length : Int) := of_decide_eq_true (by first | (with_reducible assumption) | assumption)
        obtain ⟨ad220, e220, hx220_0, hx220_1, hx220_2, hx220_3⟩ := at_T35 HR0.out (ji3) p220 q220
        cases e220
        replace p220 := eq_true p220
        replace q220 := eq_true q220
        have p221 : 0 ≤ (x3_1 : Int) := of_decide_eq_true (by first | (with_reducible assumption) | assumption)
        have q221 : x3_1 < (l0.length : Int) := of_decide_eq_true (by first | (with_reducible assumption) | assumption)
        obtain ⟨ad221, e221, hx221_0, hx221_1, hx221_2, hx221_3⟩ := at_T35 HR0.out x3_1 p221 q221
        obtain rfl : ad220 = ad221 := (by injection e221)
        replace p221 := eq_true p221
        replace q221 := eq_true q221
        go_wp2
        repeat (go_quiet (fail); try go_wp2)
        go_ret
        exact ⟨by first | rfl | (simp; done) | (simp only [← hji3] <;> (first | rfl | simp)) | (simp [*]; done), by repeat (first | exact Drawn0.refl _ | apply Drawn0.step)⟩
       ·rw [if_neg c7] at H
        have c7b0 : decide (((rd_T35 l0 x3_1).f0) ≤ ((rd_T35 l0 (ji3)).f0)) = false := decide_eq_false c7
        clear c7
        have H' := Aside0.mk H
        clear H
        have p220 : 0 ≤ ((ji3) : Int) := of_decide_eq_true (by first | (with_reducible assumption) | assumption)
        have q220 : (ji3) < (l0.length : Int) := of_decide_eq_true (by first | (with_reducible assumption) | assumption)
        obtain ⟨ad220, e220, hx220_0, hx220_1, hx220_2, hx220_3⟩ := at_T35 HR0.out (ji3) p220 q220
        cases e220
        replace p220 := eq_true p220
        replace q220 := eq_true q220
        have p221 : 0 ≤ (x3_1 : Int) := of_decide_eq_true (by first | (with_reducible assumption) | assumption)
        have q221 : x3_1 < (l0.length : Int) := of_decide_eq_true (by first | (with_reducible assumption) | assumption)
        obtain ⟨ad221, e221, hx221_0, hx221_1, hx221_2, hx221_3⟩ := at_T35 HR0.out x3_1 p221 q221
        obtain rfl : ad220 = ad221 := (by injection e221)
        replace p221 := eq_true p221
        replace q221 := eq_true q221
        go_wp2
        repeat (go_quiet (fail); try go_wp2)
        go_roundg k1
        case measure => have := HK1.out; omega
        case rel => exact ⟨(wrap64 (x3_1 + 1)), (by first | rfl | (simp; done) | (simp [*]; done)), H', ⟨by have := HK1.out; omega⟩, by repeat (first | exact Drawn0.refl _ | apply Drawn0.step)⟩
      ·rw [if_neg c6] at H
       exact absurd H (by simp)
     ·rw [if_neg c5] at H
      exact absurd H (by simp)
    ·rw [if_neg c4] at H
     exact absurd H (by simp)
   ·rw [if_neg c2] at H
    have c2b0 : decide (x3_1 < (l0.length : Int)) = false := decide_eq_false c2
    clear c2
    obtain rfl := Option.some.inj H
    go_wp2
    repeat (go_quiet (fail); try go_wp2)
    go_ret
    exact ⟨by first | rfl | (simp; done) | (simp [*]; done), by repeat (first | exact Drawn0.refl _ | apply Drawn0.step)⟩

/-! ### spec_StoreOk: function 34 -/
def spec_StoreOk.f (k : Nat) (l0_0 : List (S35)) (l0_1 : List (S35)) (a0_2 : Int) : Option (Bool) := (spec_l6List.f k l0_0 200).bind fun t223 => (if t223 = true then ((spec_l6List.f k l0_1 20).bind fun t224 => (if t224 = true then ((spec_l6Asc.f k l0_0).bind fun t225 => (if t225 = true then ((spec_l1In.f a0_2 0 30).bind fun t226 => (some t226)) else (some false))) else (some false))) else (some false))
theorem spec_StoreOk.mono : ∀ a0 a1 a2 k, LeO (spec_StoreOk.f k a0 a1 a2) (spec_StoreOk.f (k + 1) a0 a1 a2) := by
 intro a0 a1 a2 k
 unfold spec_StoreOk.f
 repeat' first
   | (with_reducible exact spec_l6Asc.mono _ _)
   | (with_reducible exact spec_l6List.mono _ _ _)
   | (with_reducible exact LeO.refl _)
   | (with_reducible exact LeO.none _)
   | (with_reducible refine LeO.ite ?_ ?_)
   | (with_reducible refine LeO.bind ?_ (fun _ => ?_))
   | exact spec_l6Asc.mono _ _
   | exact spec_l6List.mono _ _ _
   | exact LeO.none _
   | refine LeO.ite ?_ ?_
   | refine LeO.bind ?_ (fun _ => ?_)
set_option maxHeartbeats 8000000 in
set_option maxRecDepth 100000 in
theorem spec_StoreOk.calls (k : Nat) (A0_0 : Option Addr) (c0_0 : Nat) (l0_0 : List (S35)) (A0_1 : Option Addr) (c0_1 : Nat) (l0_1 : List (S35)) (a0_2 : Int) (r : Bool) (w : World) (hr0_0 : Kd.C k35 w A0_0 l0_0.length l0_0) (hc0_0 : l0_0.length ≤ c0_0) (hr0_1 : Kd.C k35 w A0_1 l0_1.length l0_1) (hc0_1 : l0_1.length ≤ c0_1) (h : spec_StoreOk.f k l0_0 l0_1 a0_2 = some r) :
  Calls Try.prog 34 #[.agg #[.slice A0_0 l0_0.length c0_0, .slice A0_1 l0_1.length c0_1, .int .i64 a0_2]] w fun e w' => e = .returned (.bool r) ∧ Below w.heap.size w w' := by
 have hu31 := Try.underlying31
 have HR0_0 := Aside0.mk hr0_0
 have HC0_0 := Aside0.mk hc0_0
 clear hr0_0 hc0_0
 have HR0_1 := Aside0.mk hr0_1
 have HC0_1 := Aside0.mk hc0_1
 clear hr0_1 hc0_1
 have HB := Aside0.mk (Below.refl w.heap.size w)
 have H : ((spec_l6List.f k l0_0 200).bind fun t223 => (if t223 = true then ((spec_l6List.f k l0_1 20).bind fun t224 => (if t224 = true then ((spec_l6Asc.f k l0_0).bind fun t225 => (if t225 = true then ((spec_l1In.f a0_2 0 30).bind fun t226 => (some t226)) else (some false))) else (some false))) else (some false))) = some r := h
 clear h
 replace H := Option.bind_eq_some_iff.mp H
 obtain ⟨t223, A20, H⟩ := H
 replace H : (if t223 = true then ((spec_l6List.f k l0_1 20).bind fun t224 => (if t224 = true then ((spec_l6Asc.f k l0_0).bind fun t225 => (if t225 = true then ((spec_l1In.f a0_2 0 30).bind fun t226 => (some t226)) else (some false))) else (some false))) else (some false)) = some r := H
 have A2 := Aside0.mk A20
 clear A20
 by_cases c3 : t223 = true
 ·subst c3
  have H1 : ((spec_l6List.f k l0_1 20).bind fun t224 => (if t224 = true then ((spec_l6Asc.f k l0_0).bind fun t225 => (if t225 = true then ((spec_l1In.f a0_2 0 30).bind fun t226 => (some t226)) else (some false))) else (some false))) = some r := by rw [if_pos rfl] at H; exact H
  clear H
  have H := H1
  clear H1
  replace H := Option.bind_eq_some_iff.mp H
  obtain ⟨t224, A40, H⟩ := H
  replace H : (if t224 = true then ((spec_l6Asc.f k l0_0).bind fun t225 => (if t225 = true then ((spec_l1In.f a0_2 0 30).bind fun t226 => (some t226)) else (some false))) else (some false)) = some r := H
  have A4 := Aside0.mk A40
  clear A40
  by_cases c5 : t224 = true
  ·subst c5
   have H1 : ((spec_l6Asc.f k l0_0).bind fun t225 => (if t225 = true then ((spec_l1In.f a0_2 0 30).bind fun t226 => (some t226)) else (some false))) = some r := by rw [if_pos rfl] at H; exact H
   clear H
   have H := H1
   clear H1
   replace H := Option.bind_eq_some_iff.mp H
   obtain ⟨t225, A60, H⟩ := H
   replace H : (if t225 = true then ((spec_l1In.f a0_2 0 30).bind fun t226 => (some t226)) else (some false)) = some r := H
   have A6 := Aside0.mk A60
   clear A60
   by_cases c7 : t225 = true
   ·subst c7
    have H1 : ((spec_l1In.f a0_2 0 30).bind fun t226 => (some t226)) = some r := by rw [if_pos rfl] at H; exact H
    clear H
    have H := H1
    clear H1
    replace H := Option.bind_eq_some_iff.mp H
    obtain ⟨t226, A80, H⟩ := H
    replace H : (some t226) = some r := H
    have A8 := Aside0.mk A80
    clear A80
    obtain rfl := Option.some.inj H
    go_enter Try.func34, Try.ntmps34
    go_wp2_with (first | ((with_reducible refine gate_dst (N := 1) rfl ?_); refine BE 1 #[.slice A0_0 l0_0.length c0_0, .slice A0_1 l0_1.length c0_1, .int .i64 a0_2] 31 ?_; intro gb222 hg w9 hbox hb; have h_ := P4 (below_step KB hb) hbox (KG hg : w.heap.size ≤ gb222) (KG hg : w.heap.size ≤ gb222); clear HB; obtain ⟨HB, BK222, GW222, GE222⟩ := h_; clear hb hbox hg; obtain ⟨hcz10_0, hcz10_1, hcz10_2, hfz10_0, hfz10_1, hfz10_2⟩ := C3 BK222.out) | ((with_reducible refine gate_callee (f := 71) rfl ?_); refine goesL_ (some 5) rfl rfl Try.func71 (by kernel_rfl) rfl #[.slice A0_0 l0_0.length c0_0, .int .i64 200] rfl KL ?_; (with_reducible refine (spec_l6List.calls k _ _ l0_0 200 true _ ?side1 ?side2 A2.out).mono ?_); (case side1 => exact KD (Kd.C_below HR0_0.out HB.out)); (case side2 => exact HC0_0.out); rintro e w11 ⟨rfl, hb⟩; refine ⟨_, rfl, ?_⟩; have h_ := P2 (BL BK222.out hb) (below_step KB hb); clear BK222 HB; obtain ⟨BK222, HB⟩ := h_; (try clear hb); (try clear hk); (try clear hi); obtain ⟨hcz12_0, hcz12_1, hcz12_2, hfz12_0, hfz12_1, hfz12_2⟩ := C3 BK222.out) | (go_at_call 71; (with_reducible refine (spec_l6List.calls k _ _ l0_1 20 true _ ?side1 ?side2 A4.out).mono ?_); (case side1 => exact KD (Kd.C_below HR0_1.out HB.out)); (case side2 => exact HC0_1.out); rintro e w13 ⟨rfl, hb⟩; have h_ := P2 (BL BK222.out hb) (below_step KB hb); clear BK222 HB; obtain ⟨BK222, HB⟩ := h_; (try clear hb); (try clear hk); (try clear hi); obtain ⟨hcz14_0, hcz14_1, hcz14_2, hfz14_0, hfz14_1, hfz14_2⟩ := C3 BK222.out) | (go_at_call 72; (with_reducible refine (spec_l6Asc.calls k _ _ l0_0 true _ ?side1 ?side2 A6.out).mono ?_); (case side1 => exact KD (Kd.C_below HR0_0.out HB.out)); (case side2 => exact HC0_0.out); rintro e w' ⟨rfl, ⟨nd, rfl⟩⟩) | (go_at_call 66; (with_reducible refine (spec_l1In.calls a0_2 0 30 t226 _ A8.out).mono ?_); rintro e w' ⟨rfl, ⟨nd, rfl⟩⟩))
    go_ret
    exact ⟨KE, KB⟩
   ·replace c7 := Bool.eq_false_iff.mpr c7
    subst c7
    have H1 : (some false) = some r := by rw [if_neg (show ¬ (false = true) by decide)] at H; exact H
    clear H
    have H := H1
    clear H1
    obtain rfl := Option.some.inj H
    go_enter Try.func34, Try.ntmps34
    go_wp2_with (first | ((with_reducible refine gate_dst (N := 1) rfl ?_); refine BE 1 #[.slice A0_0 l0_0.length c0_0, .slice A0_1 l0_1.length c0_1, .int .i64 a0_2] 31 ?_; intro gb222 hg w15 hbox hb; have h_ := P4 (below_step KB hb) hbox (KG hg : w.heap.size ≤ gb222) (KG hg : w.heap.size ≤ gb222); clear HB; obtain ⟨HB, BK222, GW222, GE222⟩ := h_; clear hb hbox hg; obtain ⟨hcz16_0, hcz16_1, hcz16_2, hfz16_0, hfz16_1, hfz16_2⟩ := C3 BK222.out) | ((with_reducible refine gate_callee (f := 71) rfl ?_); refine goesL_ (some 5) rfl rfl Try.func71 (by kernel_rfl) rfl #[.slice A0_0 l0_0.length c0_0, .int .i64 200] rfl KL ?_; (with_reducible refine (spec_l6List.calls k _ _ l0_0 200 true _ ?side1 ?side2 A2.out).mono ?_); (case side1 => exact KD (Kd.C_below HR0_0.out HB.out)); (case side2 => exact HC0_0.out); rintro e w17 ⟨rfl, hb⟩; refine ⟨_, rfl, ?_⟩; have h_ := P2 (BL BK222.out hb) (below_step KB hb); clear BK222 HB; obtain ⟨BK222, HB⟩ := h_; (try clear hb); (try clear hk); (try clear hi); obtain ⟨hcz18_0, hcz18_1, hcz18_2, hfz18_0, hfz18_1, hfz18_2⟩ := C3 BK222.out) | (go_at_call 71; (with_reducible refine (spec_l6List.calls k _ _ l0_1 20 true _ ?side1 ?side2 A4.out).mono ?_); (case side1 => exact KD (Kd.C_below HR0_1.out HB.out)); (case side2 => exact HC0_1.out); rintro e w19 ⟨rfl, hb⟩; have h_ := P2 (BL BK222.out hb) (below_step KB hb); clear BK222 HB; obtain ⟨BK222, HB⟩ := h_; (try clear hb); (try clear hk); (try clear hi); obtain ⟨hcz20_0, hcz20_1, hcz20_2, hfz20_0, hfz20_1, hfz20_2⟩ := C3 BK222.out) | (go_at_call 72; (with_reducible refine (spec_l6Asc.calls k _ _ l0_0 false _ ?side1 ?side2 A6.out).mono ?_); (case side1 => exact KD (Kd.C_below HR0_0.out HB.out)); (case side2 => exact HC0_0.out); rintro e w' ⟨rfl, ⟨nd, rfl⟩⟩))
    go_ret
    exact ⟨KE, KB⟩
  ·replace c5 := Bool.eq_false_iff.mpr c5
   subst c5
   have H1 : (some false) = some r := by rw [if_neg (show ¬ (false = true) by decide)] at H; exact H
   clear H
   have H := H1
   clear H1
   obtain rfl := Option.some.inj H
   go_enter Try.func34, Try.ntmps34
   go_wp2_with (first | ((with_reducible refine gate_dst (N := 1) rfl ?_); refine BE 1 #[.slice A0_0 l0_0.length c0_0, .slice A0_1 l0_1.length c0_1, .int .i64 a0_2] 31 ?_; intro gb222 hg w21 hbox hb; have h_ := P4 (below_step KB hb) hbox (KG hg : w.heap.size ≤ gb222) (KG hg : w.heap.size ≤ gb222); clear HB; obtain ⟨HB, BK222, GW222, GE222⟩ := h_; clear hb hbox hg; obtain ⟨hcz22_0, hcz22_1, hcz22_2, hfz22_0, hfz22_1, hfz22_2⟩ := C3 BK222.out) | ((with_reducible refine gate_callee (f := 71) rfl ?_); refine goesL_ (some 5) rfl rfl Try.func71 (by kernel_rfl) rfl #[.slice A0_0 l0_0.length c0_0, .int .i64 200] rfl KL ?_; (with_reducible refine (spec_l6List.calls k _ _ l0_0 200 true _ ?side1 ?side2 A2.out).mono ?_); (case side1 => exact KD (Kd.C_below HR0_0.out HB.out)); (case side2 => exact HC0_0.out); rintro e w23 ⟨rfl, hb⟩; refine ⟨_, rfl, ?_⟩; have h_ := P2 (BL BK222.out hb) (below_step KB hb); clear BK222 HB; obtain ⟨BK222, HB⟩ := h_; (try clear hb); (try clear hk); (try clear hi); obtain ⟨hcz24_0, hcz24_1, hcz24_2, hfz24_0, hfz24_1, hfz24_2⟩ := C3 BK222.out) | (go_at_call 71; (with_reducible refine (spec_l6List.calls k _ _ l0_1 20 false _ ?side1 ?side2 A4.out).mono ?_); (case side1 => exact KD (Kd.C_below HR0_1.out HB.out)); (case side2 => exact HC0_1.out); rintro e w25 ⟨rfl, hb⟩; have h_ := P2 (BL BK222.out hb) (below_step KB hb); clear BK222 HB; obtain ⟨BK222, HB⟩ := h_; (try clear hb); (try clear hk); (try clear hi)))
   go_ret
   exact ⟨KE, KB⟩
 ·replace c3 := Bool.eq_false_iff.mpr c3
  subst c3
  have H1 : (some false) = some r := by rw [if_neg (show ¬ (false = true) by decide)] at H; exact H
  clear H
  have H := H1
  clear H1
  obtain rfl := Option.some.inj H
  go_enter Try.func34, Try.ntmps34
  go_wp2_with (first | ((with_reducible refine gate_dst (N := 1) rfl ?_); refine BE 1 #[.slice A0_0 l0_0.length c0_0, .slice A0_1 l0_1.length c0_1, .int .i64 a0_2] 31 ?_; intro gb222 hg w26 hbox hb; have h_ := P4 (below_step KB hb) hbox (KG hg : w.heap.size ≤ gb222) (KG hg : w.heap.size ≤ gb222); clear HB; obtain ⟨HB, BK222, GW222, GE222⟩ := h_; clear hb hbox hg; obtain ⟨hcz27_0, hcz27_1, hcz27_2, hfz27_0, hfz27_1, hfz27_2⟩ := C3 BK222.out) | ((with_reducible refine gate_callee (f := 71) rfl ?_); refine goesL_ (some 5) rfl rfl Try.func71 (by kernel_rfl) rfl #[.slice A0_0 l0_0.length c0_0, .int .i64 200] rfl KL ?_; (with_reducible refine (spec_l6List.calls k _ _ l0_0 200 false _ ?side1 ?side2 A2.out).mono ?_); (case side1 => exact KD (Kd.C_below HR0_0.out HB.out)); (case side2 => exact HC0_0.out); rintro e w28 ⟨rfl, hb⟩; refine ⟨_, rfl, ?_⟩; have h_ := P2 (BL BK222.out hb) (below_step KB hb); clear BK222 HB; obtain ⟨BK222, HB⟩ := h_; (try clear hb); (try clear hk); (try clear hi)))
  go_ret
  exact ⟨KE, KB⟩

end Go.Proofs.Ytnoghojlpicecaa.PFnCrash
