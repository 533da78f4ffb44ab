-- What each Go function that this law reaches comes to: written by a program out of the translation.
import Derived.Test.YtlmmbmhambkjlaaDoorMFnPlaceTextx0
import Derived.Test.YtlmmbmhambkjlaaDoorMFnPlaceTextx1
import Derived.Test.YtlmmbmhambkjlaaDoorMFnPlaceTextx3
namespace Go.Proofs.YtlmmbmhambkjlaaDoor.PFnPlaceText
open Go.RowKit Go.Proofs.YtlmmbmhambkjlaaDoorW.PrintWords Go.Proofs.YtlmmbmhambkjlaaDoorW.PrintLast Go.Proofs.YtlmmbmhambkjlaaDoorW.PrintMore
attribute [local go_sem] max2_int min2_int max_two min_two max_three min_three max_four min_four   -- for this text's walks alone
set_option linter.unusedVariables false
set_option linter.unusedSimpArgs false

/-! ### spec_l1DrawPlace: function 34 -/
noncomputable def spec_l1DrawPlace.f (s0_0 : List Int) (s0_1 : Int) (s0_2 : Int) : Option (Int × Int × Int) := (spec_l1Below.f s0_0 s0_1 s0_2 3).bind fun bt171 => ((spec_l1Below.f s0_0 bt171.2.1 bt171.2.2 6).bind fun bt174 => ((spec_l1Place.f (wrap64 (1 + bt171.1)) (wrap64 (1 + bt174.1))).bind fun t177 => ((spec_l1Below.f s0_0 bt174.2.1 bt174.2.2 15).bind fun bt178 => (if bt178.1 = 0 then ((spec_l1PickInt.f s0_0 bt178.2.1 bt178.2.2 (([0, (-1), 4294967296, 4294967297, 9223372036854775807, (-9223372036854775808)] : List Int))).bind fun bt184 => (some (bt184.1, bt184.2.1, bt184.2.2))) else (if bt178.1 = 1 then ((spec_l1PickInt.f s0_0 bt178.2.1 bt178.2.2 (([0, 30, 31] : List Int))).bind fun bt190 => ((spec_l1PickInt.f s0_0 bt190.2.1 bt190.2.2 (([0, 60, 61] : List Int))).bind fun bt196 => ((spec_l1Place.f bt190.1 bt196.1).bind fun t199 => (some (t199, bt196.2.1, bt196.2.2))))) else (some (t177, bt178.2.1, bt178.2.2)))))))
set_option maxHeartbeats 8000000 in
set_option maxRecDepth 100000 in
theorem spec_l1DrawPlace.calls (g : Nat) (s0_0 : List Int) (s0_1 : Int) (s0_2 : Int) (r1 : Int) (r2 : Int) (r3 : Int) (w0 w : World) (hI : IsS54 w0 w g s0_0 s0_1 s0_2) (hB : Below w0.heap.size w0 w) (h : spec_l1DrawPlace.f s0_0 s0_1 s0_2 = some (r1, r2, r3)) :
  Calls Tryd.prog 34 #[.pointer (some ⟨g, 0, none⟩)] w fun e w' => e = .returned (.int .i64 r1) ∧ IsS54 w0 w' g s0_0 r2 r3 ∧ Below w0.heap.size w0 w' ∧ KeepBut w w' g none := by
 have HI0 := Aside0.mk hI
 have HK := Aside0.mk (KeepBut.refl w g none)
 have HL := Aside0.mk hB.size
 clear hI
 have HW0 := Aside0.mk hB.size
 have HB := Aside0.mk hB
 clear hB
 have H : ((spec_l1Below.f s0_0 s0_1 s0_2 3).bind fun bt171 => ((spec_l1Below.f s0_0 bt171.2.1 bt171.2.2 6).bind fun bt174 => ((spec_l1Place.f (wrap64 (1 + bt171.1)) (wrap64 (1 + bt174.1))).bind fun t177 => ((spec_l1Below.f s0_0 bt174.2.1 bt174.2.2 15).bind fun bt178 => (if bt178.1 = 0 then ((spec_l1PickInt.f s0_0 bt178.2.1 bt178.2.2 (([0, (-1), 4294967296, 4294967297, 9223372036854775807, (-9223372036854775808)] : List Int))).bind fun bt184 => (some (bt184.1, bt184.2.1, bt184.2.2))) else (if bt178.1 = 1 then ((spec_l1PickInt.f s0_0 bt178.2.1 bt178.2.2 (([0, 30, 31] : List Int))).bind fun bt190 => ((spec_l1PickInt.f s0_0 bt190.2.1 bt190.2.2 (([0, 60, 61] : List Int))).bind fun bt196 => ((spec_l1Place.f bt190.1 bt196.1).bind fun t199 => (some (t199, bt196.2.1, bt196.2.2))))) else (some (t177, bt178.2.1, bt178.2.2)))))))) = some (r1, r2, r3) := h
 clear h
 replace H := Option.bind_eq_some_iff.mp H
 obtain ⟨⟨t171, t172, t173⟩, A20, H⟩ := H
 replace H : ((spec_l1Below.f s0_0 t172 t173 6).bind fun bt174 => ((spec_l1Place.f (wrap64 (1 + t171)) (wrap64 (1 + bt174.1))).bind fun t177 => ((spec_l1Below.f s0_0 bt174.2.1 bt174.2.2 15).bind fun bt178 => (if bt178.1 = 0 then ((spec_l1PickInt.f s0_0 bt178.2.1 bt178.2.2 (([0, (-1), 4294967296, 4294967297, 9223372036854775807, (-9223372036854775808)] : List Int))).bind fun bt184 => (some (bt184.1, bt184.2.1, bt184.2.2))) else (if bt178.1 = 1 then ((spec_l1PickInt.f s0_0 bt178.2.1 bt178.2.2 (([0, 30, 31] : List Int))).bind fun bt190 => ((spec_l1PickInt.f s0_0 bt190.2.1 bt190.2.2 (([0, 60, 61] : List Int))).bind fun bt196 => ((spec_l1Place.f bt190.1 bt196.1).bind fun t199 => (some (t199, bt196.2.1, bt196.2.2))))) else (some (t177, bt178.2.1, bt178.2.2))))))) = some (r1, r2, r3) := H
 have A2 := Aside0.mk A20
 clear A20
 replace H := Option.bind_eq_some_iff.mp H
 obtain ⟨⟨t174, t175, t176⟩, A30, H⟩ := H
 replace H : ((spec_l1Place.f (wrap64 (1 + t171)) (wrap64 (1 + t174))).bind fun t177 => ((spec_l1Below.f s0_0 t175 t176 15).bind fun bt178 => (if bt178.1 = 0 then ((spec_l1PickInt.f s0_0 bt178.2.1 bt178.2.2 (([0, (-1), 4294967296, 4294967297, 9223372036854775807, (-9223372036854775808)] : List Int))).bind fun bt184 => (some (bt184.1, bt184.2.1, bt184.2.2))) else (if bt178.1 = 1 then ((spec_l1PickInt.f s0_0 bt178.2.1 bt178.2.2 (([0, 30, 31] : List Int))).bind fun bt190 => ((spec_l1PickInt.f s0_0 bt190.2.1 bt190.2.2 (([0, 60, 61] : List Int))).bind fun bt196 => ((spec_l1Place.f bt190.1 bt196.1).bind fun t199 => (some (t199, bt196.2.1, bt196.2.2))))) else (some (t177, bt178.2.1, bt178.2.2)))))) = some (r1, r2, r3) := H
 have A3 := Aside0.mk A30
 clear A30
 replace H := Option.bind_eq_some_iff.mp H
 obtain ⟨t177, A40, H⟩ := H
 replace H : ((spec_l1Below.f s0_0 t175 t176 15).bind fun bt178 => (if bt178.1 = 0 then ((spec_l1PickInt.f s0_0 bt178.2.1 bt178.2.2 (([0, (-1), 4294967296, 4294967297, 9223372036854775807, (-9223372036854775808)] : List Int))).bind fun bt184 => (some (bt184.1, bt184.2.1, bt184.2.2))) else (if bt178.1 = 1 then ((spec_l1PickInt.f s0_0 bt178.2.1 bt178.2.2 (([0, 30, 31] : List Int))).bind fun bt190 => ((spec_l1PickInt.f s0_0 bt190.2.1 bt190.2.2 (([0, 60, 61] : List Int))).bind fun bt196 => ((spec_l1Place.f bt190.1 bt196.1).bind fun t199 => (some (t199, bt196.2.1, bt196.2.2))))) else (some (t177, bt178.2.1, bt178.2.2))))) = some (r1, r2, r3) := H
 have A4 := Aside0.mk A40
 clear A40
 replace H := Option.bind_eq_some_iff.mp H
 obtain ⟨⟨t178, t179, t180⟩, A50, H⟩ := H
 replace H : (if t178 = 0 then ((spec_l1PickInt.f s0_0 t179 t180 (([0, (-1), 4294967296, 4294967297, 9223372036854775807, (-9223372036854775808)] : List Int))).bind fun bt184 => (some (bt184.1, bt184.2.1, bt184.2.2))) else (if t178 = 1 then ((spec_l1PickInt.f s0_0 t179 t180 (([0, 30, 31] : List Int))).bind fun bt190 => ((spec_l1PickInt.f s0_0 bt190.2.1 bt190.2.2 (([0, 60, 61] : List Int))).bind fun bt196 => ((spec_l1Place.f bt190.1 bt196.1).bind fun t199 => (some (t199, bt196.2.1, bt196.2.2))))) else (some (t177, t179, t180)))) = some (r1, r2, r3) := H
 have A5 := Aside0.mk A50
 clear A50
 by_cases c6 : t178 = 0
 ·rw [if_pos c6] at H
  have c6b0 : (t178 == 0) = true := beq_iff_eq.mpr c6
  have c6b1 : (t178 != 0) = false := bne_eq_false_iff_eq.mpr c6
  clear c6
  obtain ⟨y181, hy181⟩ : ∃ y_ : List Int, y_ = (([0, (-1), 4294967296, 4294967297, 9223372036854775807, (-9223372036854775808)] : List Int)) := ⟨_, rfl⟩
  replace H : ((spec_l1PickInt.f s0_0 t179 t180 y181).bind fun bt184 => (some (bt184.1, bt184.2.1, bt184.2.2))) = some (r1, r2, r3) := by first | (rw [hy181]; with_reducible exact H) | (have H2_ := (Option.bind_some _ _).symm.trans H; rw [hy181]; with_reducible exact H2_) | (have H2_ := (Option.bind_some _ _).symm.trans H; with_reducible exact H2_) | with_reducible exact H | (rw [hy181]; exact H) | exact H
  have Ny181 := Aside0.mk hy181
  clear hy181
  replace H := Option.bind_eq_some_iff.mp H
  obtain ⟨⟨t184, t185, t186⟩, A70, H⟩ := H
  replace H : (some (t184, t185, t186)) = some (r1, r2, r3) := H
  have A7 := Aside0.mk A70
  clear A70
  simp only [Option.some.injEq, Prod.mk.injEq] at H
  obtain ⟨rfl, rfl, rfl⟩ := H
  go_enter Tryd.func34, Tryd.ntmps34
  go_wp2_with (first | ((with_reducible refine gate_callee (f := 41) rfl ?_); refine goesL_ (some 5) rfl rfl Tryd.func41 (by kernel_rfl) rfl #[.pointer (some ⟨g, 0, none⟩), .int .i64 3] rfl KL ?_; (with_reducible refine (spec_l1Below.calls g s0_0 s0_1 s0_2 3 t171 t172 t173 w0 _ ?side1 ?side2 A2.out).mono ?_); (case side1 => exact KI54); (case side2 => exact KB54); rintro e w8 ⟨rfl, hi, hb, hk⟩; refine ⟨_, rfl, ?_⟩; have n0_ := Aside0.mk (KeepBut.trans KH hk (.inl rfl)); have n1_ := Aside0.mk (hb); have n2_ := Aside0.mk (hi); clear HK; clear HB; clear HI0; have HK := n0_; have HB := n1_; have HI0 := n2_; clear n0_ n1_ n2_; (try clear hb); (try clear hb2); (try clear hk); (try clear hi)) | ((with_reducible refine gate_callee (f := 41) rfl ?_); refine goesL_ (some 8) rfl rfl Tryd.func41 (by kernel_rfl) rfl #[.pointer (some ⟨g, 0, none⟩), .int .i64 6] rfl KL ?_; (with_reducible refine (spec_l1Below.calls g s0_0 t172 t173 6 t174 t175 t176 w0 _ ?side1 ?side2 A3.out).mono ?_); (case side1 => exact KI54); (case side2 => exact KB54); rintro e w9 ⟨rfl, hi, hb, hk⟩; refine ⟨_, rfl, ?_⟩; have n0_ := Aside0.mk (KeepBut.trans KH hk (.inl rfl)); have n1_ := Aside0.mk (hb); have n2_ := Aside0.mk (hi); clear HK; clear HB; clear HI0; have HK := n0_; have HB := n1_; have HI0 := n2_; clear n0_ n1_ n2_; (try clear hb); (try clear hb2); (try clear hk); (try clear hi)) | ((with_reducible refine gate_callee (f := 43) rfl ?_); refine goesL_ (some 10) rfl rfl Tryd.func43 (by kernel_rfl) rfl #[.int .i64 (wrap64 (1 + t171)), .int .i64 (wrap64 (1 + t174))] rfl KL ?_; (with_reducible refine (spec_l1Place.calls (wrap64 (1 + t171)) (wrap64 (1 + t174)) t177 _ A4.out).mono ?_); rintro e w' ⟨rfl, ⟨nd, rfl⟩⟩; refine ⟨_, rfl, ?_⟩) | ((with_reducible refine gate_callee (f := 41) rfl ?_); refine goesL_ (some 12) rfl rfl Tryd.func41 (by kernel_rfl) rfl #[.pointer (some ⟨g, 0, none⟩), .int .i64 15] rfl KL ?_; (with_reducible refine (spec_l1Below.calls g s0_0 t175 t176 15 t178 t179 t180 w0 _ ?side1 ?side2 A5.out).mono ?_); (case side1 => exact KI54); (case side2 => exact KB54); rintro e w10 ⟨rfl, hi, hb, hk⟩; refine ⟨_, rfl, ?_⟩; have n0_ := Aside0.mk (KeepBut.trans KH hk (.inl rfl)); have n1_ := Aside0.mk (hb); have n2_ := Aside0.mk (hi); clear HK; clear HB; clear HI0; have HK := n0_; have HB := n1_; have HI0 := n2_; clear n0_ n1_ n2_; (try clear hb); (try clear hb2); (try clear hk); (try clear hi)) | ((with_reducible refine gate_dst (N := 16) rfl ?_); refine Kd.R_lit (Kd.int .i64) _ 3 ?hg (N := 16) ?hd (xs := ([0, (-1), 4294967296, 4294967297, 9223372036854775807, (-9223372036854775808)] : List Int)) (inner := [.int .i64 0, .int .i64 (-1), .int .i64 4294967296, .int .i64 4294967297, .int .i64 9223372036854775807, .int .i64 (-9223372036854775808)]) (ok := fun _ => True) (okp := fun _ => True) ?hr ?hp (fun _ hk => hk) trivial (Below.refl _ _) (Nat.le_refl _) (by simp) ?_; (case hd => rfl); (case hg => rfl); (case hr => first | (go_simp; done) | (go_simp; rfl)); (case hp => exact (Reps.one (show Kd.M (Kd.int .i64) _ _ _ 0 [.int .i64 0] from rfl) (Reps.one (show Kd.M (Kd.int .i64) _ _ _ (-1) [.int .i64 (-1)] from rfl) (Reps.one (show Kd.M (Kd.int .i64) _ _ _ 4294967296 [.int .i64 4294967296] from rfl) (Reps.one (show Kd.M (Kd.int .i64) _ _ _ 4294967297 [.int .i64 4294967297] from rfl) (Reps.one (show Kd.M (Kd.int .i64) _ _ _ 9223372036854775807 [.int .i64 9223372036854775807] from rfl) (Reps.one (show Kd.M (Kd.int .i64) _ _ _ (-9223372036854775808) [.int .i64 (-9223372036854775808)] from rfl) (Reps.none _ _)))))))); intro v182 w11 ho12 hb hg_ hnew_; clear hg_ hnew_; (first | rw [← Ny181.out] at ho12 | (simp only [Int.reduceToNat] at ho12; rw [← Ny181.out] at ho12)); have n0_ := Aside0.mk (Kd.R_lower ho12 (keep_size (w := w) (g := g) (row := none) KH)); have n1_ := Aside0.mk (IsS54.below (KI54) hb); have n2_ := Aside0.mk (KeepBut.trans KH (KeepBut.of_below hb g none) (.inl rfl)); have n3_ := Aside0.mk (below_step KB54 hb); clear HI0; clear HK; clear HB; have HO183 := n0_; have HI0 := n1_; have HK := n2_; have HB := n3_; clear n0_ n1_ n2_ n3_; clear hb ho12; obtain ⟨Ao13, co13, eo13⟩ := Kd.R_slice HO183.out; subst eo13) | ((with_reducible refine gate_callee (f := 30) rfl ?_); refine goesL_ (some 17) rfl rfl Tryd.func30 (by kernel_rfl) rfl #[.pointer (some ⟨g, 0, none⟩), .slice Ao13 y181.length co13] rfl KL ?_; (with_reducible refine (spec_l1PickInt.calls g s0_0 t179 t180 _ _ y181 t184 t185 t186 w0 _ ?side1 ?side2 ?side3 ?side4 ?side5 A7.out).mono ?_); (case side1 => exact KI54); (case side2 => exact KB54); (case side3 => repeat (first | exact (Kd.R_reads' HO183.out).2.2 | (with_reducible refine Kd.C_alloc ?_ _) | (with_reducible refine Kd.C_drewN ?_ _) | (with_reducible refine Kd.C_drew ?_))); (case side4 => exact (Kd.R_reads' HO183.out).2.1); (case side5 => exact far_slice (IsS54.own_ne HI0.out HO183.out (by decide))); rintro e w14 ⟨rfl, hi, hb, hk⟩; refine ⟨_, rfl, ?_⟩; have n0_ := Aside0.mk (Kd.R_mono (Kd.R_keep (IsS54.apart (show IsS54 w0 _ g s0_0 t179 t180 from KI54) (KR HO183.out) (by decide)) hk (fun _ h => h.2)) (fun _ h => h.1)); have n1_ := Aside0.mk (KeepBut.trans KH hk (.inl rfl)); have n2_ := Aside0.mk (hb); have n3_ := Aside0.mk (hi); clear HO183; clear HK; clear HB; clear HI0; have HO183 := n0_; have HK := n1_; have HB := n2_; have HI0 := n3_; clear n0_ n1_ n2_ n3_; (try clear hb); (try clear hb2); (try clear hk); (try clear hi)))
  go_ret
  exact ⟨KE, KI54, KB54, KH⟩
 ·rw [if_neg c6] at H
  have c6b0 : (t178 == 0) = false := beq_eq_false_iff_ne.mpr c6
  have c6b1 : (t178 != 0) = true := bne_iff_ne.mpr c6
  by_cases c15 : t178 = 1
  ·rw [if_pos c15] at H
   have c15b0 : (t178 == 1) = true := beq_iff_eq.mpr c15
   have c15b1 : (t178 != 1) = false := bne_eq_false_iff_eq.mpr c15
   clear c15
   obtain ⟨y187, hy187⟩ : ∃ y_ : List Int, y_ = (([0, 30, 31] : List Int)) := ⟨_, rfl⟩
   replace H : ((spec_l1PickInt.f s0_0 t179 t180 y187).bind fun bt190 => ((spec_l1PickInt.f s0_0 bt190.2.1 bt190.2.2 (([0, 60, 61] : List Int))).bind fun bt196 => ((spec_l1Place.f bt190.1 bt196.1).bind fun t199 => (some (t199, bt196.2.1, bt196.2.2))))) = some (r1, r2, r3) := by first | (rw [hy187]; with_reducible exact H) | (have H2_ := (Option.bind_some _ _).symm.trans H; rw [hy187]; with_reducible exact H2_) | (have H2_ := (Option.bind_some _ _).symm.trans H; with_reducible exact H2_) | with_reducible exact H | (rw [hy187]; exact H) | exact H
   have Ny187 := Aside0.mk hy187
   clear hy187
   replace H := Option.bind_eq_some_iff.mp H
   obtain ⟨⟨t190, t191, t192⟩, A160, H⟩ := H
   replace H : ((spec_l1PickInt.f s0_0 t191 t192 (([0, 60, 61] : List Int))).bind fun bt196 => ((spec_l1Place.f t190 bt196.1).bind fun t199 => (some (t199, bt196.2.1, bt196.2.2)))) = some (r1, r2, r3) := H
   have A16 := Aside0.mk A160
   clear A160
   obtain ⟨y193, hy193⟩ : ∃ y_ : List Int, y_ = (([0, 60, 61] : List Int)) := ⟨_, rfl⟩
   replace H : ((spec_l1PickInt.f s0_0 t191 t192 y193).bind fun bt196 => ((spec_l1Place.f t190 bt196.1).bind fun t199 => (some (t199, bt196.2.1, bt196.2.2)))) = some (r1, r2, r3) := by first | (rw [hy193]; with_reducible exact H) | (have H2_ := (Option.bind_some _ _).symm.trans H; rw [hy193]; with_reducible exact H2_) | (have H2_ := (Option.bind_some _ _).symm.trans H; with_reducible exact H2_) | with_reducible exact H | (rw [hy193]; exact H) | exact H
   have Ny193 := Aside0.mk hy193
   clear hy193
   replace H := Option.bind_eq_some_iff.mp H
   obtain ⟨⟨t196, t197, t198⟩, A170, H⟩ := H
   replace H : ((spec_l1Place.f t190 t196).bind fun t199 => (some (t199, t197, t198))) = some (r1, r2, r3) := H
   have A17 := Aside0.mk A170
   clear A170
   replace H := Option.bind_eq_some_iff.mp H
   obtain ⟨t199, A180, H⟩ := H
   replace H : (some (t199, t197, t198)) = some (r1, r2, r3) := H
   have A18 := Aside0.mk A180
   clear A180
   simp only [Option.some.injEq, Prod.mk.injEq] at H
   obtain ⟨rfl, rfl, rfl⟩ := H
   go_enter Tryd.func34, Tryd.ntmps34
   go_wp2_with (first | ((with_reducible refine gate_callee (f := 41) rfl ?_); refine goesL_ (some 5) rfl rfl Tryd.func41 (by kernel_rfl) rfl #[.pointer (some ⟨g, 0, none⟩), .int .i64 3] rfl KL ?_; (with_reducible refine (spec_l1Below.calls g s0_0 s0_1 s0_2 3 t171 t172 t173 w0 _ ?side1 ?side2 A2.out).mono ?_); (case side1 => exact KI54); (case side2 => exact KB54); rintro e w19 ⟨rfl, hi, hb, hk⟩; refine ⟨_, rfl, ?_⟩; have n0_ := Aside0.mk (KeepBut.trans KH hk (.inl rfl)); have n1_ := Aside0.mk (hb); have n2_ := Aside0.mk (hi); clear HK; clear HB; clear HI0; have HK := n0_; have HB := n1_; have HI0 := n2_; clear n0_ n1_ n2_; (try clear hb); (try clear hb2); (try clear hk); (try clear hi)) | ((with_reducible refine gate_callee (f := 41) rfl ?_); refine goesL_ (some 8) rfl rfl Tryd.func41 (by kernel_rfl) rfl #[.pointer (some ⟨g, 0, none⟩), .int .i64 6] rfl KL ?_; (with_reducible refine (spec_l1Below.calls g s0_0 t172 t173 6 t174 t175 t176 w0 _ ?side1 ?side2 A3.out).mono ?_); (case side1 => exact KI54); (case side2 => exact KB54); rintro e w20 ⟨rfl, hi, hb, hk⟩; refine ⟨_, rfl, ?_⟩; have n0_ := Aside0.mk (KeepBut.trans KH hk (.inl rfl)); have n1_ := Aside0.mk (hb); have n2_ := Aside0.mk (hi); clear HK; clear HB; clear HI0; have HK := n0_; have HB := n1_; have HI0 := n2_; clear n0_ n1_ n2_; (try clear hb); (try clear hb2); (try clear hk); (try clear hi)) | ((with_reducible refine gate_callee (f := 43) rfl ?_); refine goesL_ (some 10) rfl rfl Tryd.func43 (by kernel_rfl) rfl #[.int .i64 (wrap64 (1 + t171)), .int .i64 (wrap64 (1 + t174))] rfl KL ?_; (with_reducible refine (spec_l1Place.calls (wrap64 (1 + t171)) (wrap64 (1 + t174)) t177 _ A4.out).mono ?_); rintro e w' ⟨rfl, ⟨nd, rfl⟩⟩; refine ⟨_, rfl, ?_⟩) | ((with_reducible refine gate_callee (f := 41) rfl ?_); refine goesL_ (some 12) rfl rfl Tryd.func41 (by kernel_rfl) rfl #[.pointer (some ⟨g, 0, none⟩), .int .i64 15] rfl KL ?_; (with_reducible refine (spec_l1Below.calls g s0_0 t175 t176 15 t178 t179 t180 w0 _ ?side1 ?side2 A5.out).mono ?_); (case side1 => exact KI54); (case side2 => exact KB54); rintro e w21 ⟨rfl, hi, hb, hk⟩; refine ⟨_, rfl, ?_⟩; have n0_ := Aside0.mk (KeepBut.trans KH hk (.inl rfl)); have n1_ := Aside0.mk (hb); have n2_ := Aside0.mk (hi); clear HK; clear HB; clear HI0; have HK := n0_; have HB := n1_; have HI0 := n2_; clear n0_ n1_ n2_; (try clear hb); (try clear hb2); (try clear hk); (try clear hi)) | ((with_reducible refine gate_dst (N := 21) rfl ?_); refine Kd.R_lit (Kd.int .i64) _ 3 ?hg (N := 21) ?hd (xs := ([0, 30, 31] : List Int)) (inner := [.int .i64 0, .int .i64 30, .int .i64 31]) (ok := fun _ => True) (okp := fun _ => True) ?hr ?hp (fun _ hk => hk) trivial (Below.refl _ _) (Nat.le_refl _) (by simp) ?_; (case hd => rfl); (case hg => rfl); (case hr => first | (go_simp; done) | (go_simp; rfl)); (case hp => exact (Reps.one (show Kd.M (Kd.int .i64) _ _ _ 0 [.int .i64 0] from rfl) (Reps.one (show Kd.M (Kd.int .i64) _ _ _ 30 [.int .i64 30] from rfl) (Reps.one (show Kd.M (Kd.int .i64) _ _ _ 31 [.int .i64 31] from rfl) (Reps.none _ _))))); intro v188 w22 ho23 hb hg_ hnew_; clear hg_ hnew_; (first | rw [← Ny187.out] at ho23 | (simp only [Int.reduceToNat] at ho23; rw [← Ny187.out] at ho23)); have n0_ := Aside0.mk (Kd.R_lower ho23 (keep_size (w := w) (g := g) (row := none) KH)); have n1_ := Aside0.mk (IsS54.below (KI54) hb); have n2_ := Aside0.mk (KeepBut.trans KH (KeepBut.of_below hb g none) (.inl rfl)); have n3_ := Aside0.mk (below_step KB54 hb); clear HI0; clear HK; clear HB; have HO189 := n0_; have HI0 := n1_; have HK := n2_; have HB := n3_; clear n0_ n1_ n2_ n3_; clear hb ho23; obtain ⟨Ao24, co24, eo24⟩ := Kd.R_slice HO189.out; subst eo24) | ((with_reducible refine gate_callee (f := 30) rfl ?_); refine goesL_ (some 22) rfl rfl Tryd.func30 (by kernel_rfl) rfl #[.pointer (some ⟨g, 0, none⟩), .slice Ao24 y187.length co24] rfl KL ?_; (with_reducible refine (spec_l1PickInt.calls g s0_0 t179 t180 _ _ y187 t190 t191 t192 w0 _ ?side1 ?side2 ?side3 ?side4 ?side5 A16.out).mono ?_); (case side1 => exact KI54); (case side2 => exact KB54); (case side3 => repeat (first | exact (Kd.R_reads' HO189.out).2.2 | (with_reducible refine Kd.C_alloc ?_ _) | (with_reducible refine Kd.C_drewN ?_ _) | (with_reducible refine Kd.C_drew ?_))); (case side4 => exact (Kd.R_reads' HO189.out).2.1); (case side5 => exact far_slice (IsS54.own_ne HI0.out HO189.out (by decide))); rintro e w25 ⟨rfl, hi, hb, hk⟩; refine ⟨_, rfl, ?_⟩; have n0_ := Aside0.mk (Kd.R_mono (Kd.R_keep (IsS54.apart (show IsS54 w0 _ g s0_0 t179 t180 from KI54) (KR HO189.out) (by decide)) hk (fun _ h => h.2)) (fun _ h => h.1)); have n1_ := Aside0.mk (KeepBut.trans KH hk (.inl rfl)); have n2_ := Aside0.mk (hb); have n3_ := Aside0.mk (hi); clear HO189; clear HK; clear HB; clear HI0; have HO189 := n0_; have HK := n1_; have HB := n2_; have HI0 := n3_; clear n0_ n1_ n2_ n3_; (try clear hb); (try clear hb2); (try clear hk); (try clear hi)) | ((with_reducible refine gate_dst (N := 24) rfl ?_); refine Kd.R_lit (Kd.int .i64) _ 3 ?hg (N := 24) ?hd (xs := ([0, 60, 61] : List Int)) (inner := [.int .i64 0, .int .i64 60, .int .i64 61]) (ok := fun _ => True) (okp := fun _ => True) ?hr ?hp (fun _ hk => hk) trivial (Below.refl _ _) (Nat.le_refl _) (by simp) ?_; (case hd => rfl); (case hg => rfl); (case hr => first | (go_simp; done) | (go_simp; rfl)); (case hp => exact (Reps.one (show Kd.M (Kd.int .i64) _ _ _ 0 [.int .i64 0] from rfl) (Reps.one (show Kd.M (Kd.int .i64) _ _ _ 60 [.int .i64 60] from rfl) (Reps.one (show Kd.M (Kd.int .i64) _ _ _ 61 [.int .i64 61] from rfl) (Reps.none _ _))))); intro v194 w26 ho27 hb hg_ hnew_; clear hg_ hnew_; (first | rw [← Ny193.out] at ho27 | (simp only [Int.reduceToNat] at ho27; rw [← Ny193.out] at ho27)); have n0_ := Aside0.mk (Kd.R_elder' (KR HO189.out) (Kd.R_base ho27) hb); have n1_ := Aside0.mk (Kd.R_lower (Kd.R_new' ho27 (Kd.R_lt (KR HO189.out))) (keep_size (w := w) (g := g) (row := none) KH)); have n2_ := Aside0.mk (IsS54.below (KI54) hb); have n3_ := Aside0.mk (KeepBut.trans KH (KeepBut.of_below hb g none) (.inl rfl)); have n4_ := Aside0.mk (below_step KB54 hb); clear HO189; clear HI0; clear HK; clear HB; have HO189 := n0_; have HO195 := n1_; have HI0 := n2_; have HK := n3_; have HB := n4_; clear n0_ n1_ n2_ n3_ n4_; clear hb ho27; obtain ⟨Ao28, co28, eo28⟩ := Kd.R_slice HO195.out; subst eo28) | ((with_reducible refine gate_callee (f := 30) rfl ?_); refine goesL_ (some 25) rfl rfl Tryd.func30 (by kernel_rfl) rfl #[.pointer (some ⟨g, 0, none⟩), .slice Ao28 y193.length co28] rfl KL ?_; (with_reducible refine (spec_l1PickInt.calls g s0_0 t191 t192 _ _ y193 t196 t197 t198 w0 _ ?side1 ?side2 ?side3 ?side4 ?side5 A17.out).mono ?_); (case side1 => exact KI54); (case side2 => exact KB54); (case side3 => repeat (first | exact (Kd.R_reads' HO195.out).2.2 | (with_reducible refine Kd.C_alloc ?_ _) | (with_reducible refine Kd.C_drewN ?_ _) | (with_reducible refine Kd.C_drew ?_))); (case side4 => exact (Kd.R_reads' HO195.out).2.1); (case side5 => exact far_slice (IsS54.own_ne HI0.out HO195.out (by decide))); rintro e w29 ⟨rfl, hi, hb, hk⟩; refine ⟨_, rfl, ?_⟩; have n0_ := Aside0.mk (Kd.R_mono (Kd.R_keep (IsS54.apart (show IsS54 w0 _ g s0_0 t191 t192 from KI54) (KR HO189.out) (by decide)) hk (fun _ h => h.2)) (fun _ h => h.1)); have n1_ := Aside0.mk (Kd.R_mono (Kd.R_keep (IsS54.apart (show IsS54 w0 _ g s0_0 t191 t192 from KI54) (KR HO195.out) (by decide)) hk (fun _ h => h.2)) (fun _ h => h.1)); have n2_ := Aside0.mk (KeepBut.trans KH hk (.inl rfl)); have n3_ := Aside0.mk (hb); have n4_ := Aside0.mk (hi); clear HO189; clear HO195; clear HK; clear HB; clear HI0; have HO189 := n0_; have HO195 := n1_; have HK := n2_; have HB := n3_; have HI0 := n4_; clear n0_ n1_ n2_ n3_ n4_; (try clear hb); (try clear hb2); (try clear hk); (try clear hi)) | ((with_reducible refine gate_callee (f := 43) rfl ?_); refine goesL_ (some 26) rfl rfl Tryd.func43 (by kernel_rfl) rfl #[.int .i64 t190, .int .i64 t196] rfl KL ?_; (with_reducible refine (spec_l1Place.calls t190 t196 t199 _ A18.out).mono ?_); rintro e w' ⟨rfl, ⟨nd, rfl⟩⟩; refine ⟨_, rfl, ?_⟩))
   go_ret
   exact ⟨KE, KI54, KB54, KH⟩
  ·rw [if_neg c15] at H
   have c15b0 : (t178 == 1) = false := beq_eq_false_iff_ne.mpr c15
   have c15b1 : (t178 != 1) = true := bne_iff_ne.mpr c15
   simp only [Option.some.injEq, Prod.mk.injEq] at H
   obtain ⟨rfl, rfl, rfl⟩ := H
   go_enter Tryd.func34, Tryd.ntmps34
   go_wp2_with (first | ((with_reducible refine gate_callee (f := 41) rfl ?_); refine goesL_ (some 5) rfl rfl Tryd.func41 (by kernel_rfl) rfl #[.pointer (some ⟨g, 0, none⟩), .int .i64 3] rfl KL ?_; (with_reducible refine (spec_l1Below.calls g s0_0 s0_1 s0_2 3 t171 t172 t173 w0 _ ?side1 ?side2 A2.out).mono ?_); (case side1 => exact KI54); (case side2 => exact KB54); rintro e w30 ⟨rfl, hi, hb, hk⟩; refine ⟨_, rfl, ?_⟩; have n0_ := Aside0.mk (KeepBut.trans KH hk (.inl rfl)); have n1_ := Aside0.mk (hb); have n2_ := Aside0.mk (hi); clear HK; clear HB; clear HI0; have HK := n0_; have HB := n1_; have HI0 := n2_; clear n0_ n1_ n2_; (try clear hb); (try clear hb2); (try clear hk); (try clear hi)) | ((with_reducible refine gate_callee (f := 41) rfl ?_); refine goesL_ (some 8) rfl rfl Tryd.func41 (by kernel_rfl) rfl #[.pointer (some ⟨g, 0, none⟩), .int .i64 6] rfl KL ?_; (with_reducible refine (spec_l1Below.calls g s0_0 t172 t173 6 t174 t175 t176 w0 _ ?side1 ?side2 A3.out).mono ?_); (case side1 => exact KI54); (case side2 => exact KB54); rintro e w31 ⟨rfl, hi, hb, hk⟩; refine ⟨_, rfl, ?_⟩; have n0_ := Aside0.mk (KeepBut.trans KH hk (.inl rfl)); have n1_ := Aside0.mk (hb); have n2_ := Aside0.mk (hi); clear HK; clear HB; clear HI0; have HK := n0_; have HB := n1_; have HI0 := n2_; clear n0_ n1_ n2_; (try clear hb); (try clear hb2); (try clear hk); (try clear hi)) | ((with_reducible refine gate_callee (f := 43) rfl ?_); refine goesL_ (some 10) rfl rfl Tryd.func43 (by kernel_rfl) rfl #[.int .i64 (wrap64 (1 + t171)), .int .i64 (wrap64 (1 + t174))] rfl KL ?_; (with_reducible refine (spec_l1Place.calls (wrap64 (1 + t171)) (wrap64 (1 + t174)) t177 _ A4.out).mono ?_); rintro e w' ⟨rfl, ⟨nd, rfl⟩⟩; refine ⟨_, rfl, ?_⟩) | ((with_reducible refine gate_callee (f := 41) rfl ?_); refine goesL_ (some 12) rfl rfl Tryd.func41 (by kernel_rfl) rfl #[.pointer (some ⟨g, 0, none⟩), .int .i64 15] rfl KL ?_; (with_reducible refine (spec_l1Below.calls g s0_0 t175 t176 15 t178 t179 t180 w0 _ ?side1 ?side2 A5.out).mono ?_); (case side1 => exact KI54); (case side2 => exact KB54); rintro e w32 ⟨rfl, hi, hb, hk⟩; refine ⟨_, rfl, ?_⟩; have n0_ := Aside0.mk (KeepBut.trans KH hk (.inl rfl)); have n1_ := Aside0.mk (hb); have n2_ := Aside0.mk (hi); clear HK; clear HB; clear HI0; have HK := n0_; have HB := n1_; have HI0 := n2_; clear n0_ n1_ n2_; (try clear hb); (try clear hb2); (try clear hk); (try clear hi)))
   go_ret
   exact ⟨KE, KI54, KB54, KH⟩

/-! ### spec_l1Once: function 35 -/
noncomputable def spec_l1Once.f (s0_0 : List Int) (s0_1 : Int) (s0_2 : Int) (a1 : Int) : Option (Bool × Int × Int) := (spec_l1Below.f s0_0 s0_1 s0_2 a1).bind fun bt200 => (some ((bt200.1 == 0), bt200.2.1, bt200.2.2))
set_option maxHeartbeats 8000000 in
set_option maxRecDepth 100000 in
theorem spec_l1Once.calls (g : Nat) (s0_0 : List Int) (s0_1 : Int) (s0_2 : Int) (a1 : Int) (r1 : Bool) (r2 : Int) (r3 : Int) (w0 w : World) (hI : IsS54 w0 w g s0_0 s0_1 s0_2) (hB : Below w0.heap.size w0 w) (h : spec_l1Once.f s0_0 s0_1 s0_2 a1 = some (r1, r2, r3)) :
  Calls Tryd.prog 35 #[.pointer (some ⟨g, 0, none⟩), .int .i64 a1] w fun e w' => e = .returned (.bool r1) ∧ IsS54 w0 w' g s0_0 r2 r3 ∧ Below w0.heap.size w0 w' ∧ KeepBut w w' g none := by
 have HI0 := Aside0.mk hI
 have HK := Aside0.mk (KeepBut.refl w g none)
 have HL := Aside0.mk hB.size
 clear hI
 have HW0 := Aside0.mk hB.size
 have HB := Aside0.mk hB
 clear hB
 have H : ((spec_l1Below.f s0_0 s0_1 s0_2 a1).bind fun bt200 => (some ((bt200.1 == 0), bt200.2.1, bt200.2.2))) = some (r1, r2, r3) := h
 clear h
 replace H := Option.bind_eq_some_iff.mp H
 obtain ⟨⟨t200, t201, t202⟩, A30, H⟩ := H
 replace H : (some ((t200 == 0), t201, t202)) = some (r1, r2, r3) := H
 have A3 := Aside0.mk A30
 clear A30
 simp only [Option.some.injEq, Prod.mk.injEq] at H
 obtain ⟨rfl, rfl, rfl⟩ := H
 go_enter Tryd.func35, Tryd.ntmps35
 go_wp2_with (first | ((with_reducible refine gate_callee (f := 41) rfl ?_); refine goesL_ (some 7) rfl rfl Tryd.func41 (by kernel_rfl) rfl #[.pointer (some ⟨g, 0, none⟩), .int .i64 a1] rfl KL ?_; (with_reducible refine (spec_l1Below.calls g s0_0 s0_1 s0_2 a1 t200 t201 t202 w0 _ ?side1 ?side2 A3.out).mono ?_); (case side1 => exact KI54); (case side2 => exact KB54); rintro e w4 ⟨rfl, hi, hb, hk⟩; refine ⟨_, rfl, ?_⟩; have n0_ := Aside0.mk (KeepBut.trans KH hk (.inl rfl)); have n1_ := Aside0.mk (hb); have n2_ := Aside0.mk (hi); clear HK; clear HB; clear HI0; have HK := n0_; have HB := n1_; have HI0 := n2_; clear n0_ n1_ n2_; (try clear hb); (try clear hb2); (try clear hk); (try clear hi)))
 go_ret
 exact ⟨KE, KI54, KB54, KH⟩

/-! ### spec_l1Pick: function 44 -/
noncomputable def spec_l1Pick.f (s0_0 : List Int) (s0_1 : Int) (s0_2 : Int) (l1 : List ByteArray) : Option (ByteArray × Int × Int) := (spec_l1Below.f s0_0 s0_1 s0_2 (l1.length : Int)).bind fun bt203 => (if 0 ≤ bt203.1 then (if bt203.1 < (l1.length : Int) then (some (rdOf ByteArray.empty l1 bt203.1, bt203.2.1, bt203.2.2)) else (none)) else (none))
set_option maxHeartbeats 8000000 in
set_option maxRecDepth 100000 in
theorem spec_l1Pick.calls (g : Nat) (s0_0 : List Int) (s0_1 : Int) (s0_2 : Int) (A1 : Option Addr) (c1 : Nat) (l1 : List ByteArray) (r1 : ByteArray) (r2 : Int) (r3 : Int) (w0 w : World) (hI : IsS54 w0 w g s0_0 s0_1 s0_2) (hB : Below w0.heap.size w0 w) (hr1 : Kd.C Kd.string w A1 l1.length l1) (hc1 : l1.length ≤ c1) (hf1 : ∀ ad, A1 = some ad → 0 < l1.length → ad.block ≠ g) (h : spec_l1Pick.f s0_0 s0_1 s0_2 l1 = some (r1, r2, r3)) :
  Calls Tryd.prog 44 #[.pointer (some ⟨g, 0, none⟩), .slice A1 l1.length c1] w fun e w' => e = .returned (.string r1) ∧ IsS54 w0 w' g s0_0 r2 r3 ∧ Below w0.heap.size w0 w' ∧ KeepBut w w' g none := by
 have HR1 := Aside0.mk hr1
 have HC1 := Aside0.mk hc1
 clear hr1 hc1
 have HI0 := Aside0.mk hI
 have HK := Aside0.mk (KeepBut.refl w g none)
 have HL := Aside0.mk hB.size
 clear hI
 have HW0 := Aside0.mk hB.size
 have HB := Aside0.mk hB
 clear hB
 have H : ((spec_l1Below.f s0_0 s0_1 s0_2 (l1.length : Int)).bind fun bt203 => (if 0 ≤ bt203.1 then (if bt203.1 < (l1.length : Int) then (some (rdOf ByteArray.empty l1 bt203.1, bt203.2.1, bt203.2.2)) else (none)) else (none))) = some (r1, r2, r3) := h
 clear h
 replace H := Option.bind_eq_some_iff.mp H
 obtain ⟨⟨t203, t204, t205⟩, A30, H⟩ := H
 replace H : (if 0 ≤ t203 then (if t203 < (l1.length : Int) then (some (rdOf ByteArray.empty l1 t203, t204, t205)) else (none)) else (none)) = some (r1, r2, r3) := H
 have A3 := Aside0.mk A30
 clear A30
 by_cases c4 : 0 ≤ t203
 ·rw [if_pos c4] at H
  have c4b0 : decide (0 ≤ t203) = true := decide_eq_true c4
  clear c4
  by_cases c5 : t203 < (l1.length : Int)
  ·rw [if_pos c5] at H
   have c5b0 : decide (t203 < (l1.length : Int)) = true := decide_eq_true c5
   clear c5
   simp only [Option.some.injEq, Prod.mk.injEq] at H
   obtain ⟨rfl, rfl, rfl⟩ := H
   go_enter Tryd.func44, Tryd.ntmps44
   go_wp2_with (first | ((with_reducible refine gate_callee (f := 41) rfl ?_); refine goesL_ (some 9) rfl rfl Tryd.func41 (by kernel_rfl) rfl #[.pointer (some ⟨g, 0, none⟩), .int .i64 (l1.length : Int)] rfl KL ?_; (with_reducible refine (spec_l1Below.calls g s0_0 s0_1 s0_2 (l1.length : Int) t203 t204 t205 w0 _ ?side1 ?side2 A3.out).mono ?_); (case side1 => exact KI54); (case side2 => exact KB54); rintro e w6 ⟨rfl, hi, hb, hk⟩; refine ⟨_, rfl, ?_⟩; have n0_ := Aside0.mk (KeepBut.trans KH hk (.inl rfl)); have n1_ := Aside0.mk (hb); have n2_ := Aside0.mk (hi); clear HK; clear HB; clear HI0; have HK := n0_; have HB := n1_; have HI0 := n2_; clear n0_ n1_ n2_; (try clear hb); (try clear hb2); (try clear hk); (try clear hi); have p206 : 0 ≤ (t203 : Int) := of_decide_eq_true (by first | (with_reducible assumption) | assumption); have q206 : t203 < (l1.length : Int) := of_decide_eq_true (by first | (with_reducible assumption) | assumption); obtain ⟨ad206, e206, hx206_0⟩ := Kd.at_string HR1.out t203 p206 q206; cases e206; replace hx206_0 := keep_cell HK.out hx206_0 (by first | (rw [add_block]; exact hf1 _ rfl (by omega)) | exact hf1 _ rfl (by omega) | exact hf1 ad206 rfl (by omega)); replace p206 := eq_true p206; replace q206 := eq_true q206))
   go_ret
   exact ⟨KE, KI54, KB54, KH⟩
  ·rw [if_neg c5] at H
   exact absurd H (by simp)
 ·rw [if_neg c4] at H
  exact absurd H (by simp)

/-! ### spec_l1Min: function 45 -/
noncomputable def spec_l1Min.f (a0 : Int) (a1 : Int) : Option (Int) := if a0 < a1 then (some a0) else (some a1)
set_option maxHeartbeats 8000000 in
set_option maxRecDepth 100000 in
theorem spec_l1Min.calls (a0 : Int) (a1 : Int) (r : Int) (w : World) (h : spec_l1Min.f a0 a1 = some r) :
  Calls Tryd.prog 45 #[.int .i64 a0, .int .i64 a1] w fun e w' => e = .returned (.int .i64 r) ∧ Drawn0 w w' := by
 have H : (if a0 < a1 then (some a0) else (some a1)) = some r := h
 clear h
 by_cases c3 : a0 < a1
 ·rw [if_pos c3] at H
  have c3b0 : decide (a0 < a1) = true := decide_eq_true c3
  clear c3
  obtain rfl := Option.some.inj H
  go_enter Tryd.func45, Tryd.ntmps45
  go_wp2
  go_ret
  exact ⟨by first | rfl | (simp; done) | (simp [*]; done), by repeat (first | exact Drawn0.refl _ | apply Drawn0.step)⟩
 ·rw [if_neg c3] at H
  have c3b0 : decide (a0 < a1) = false := decide_eq_false c3
  clear c3
  obtain rfl := Option.some.inj H
  go_enter Tryd.func45, Tryd.ntmps45
  go_wp2
  go_ret
  exact ⟨by first | rfl | (simp; done) | (simp [*]; done), by repeat (first | exact Drawn0.refl _ | apply Drawn0.step)⟩

/-! ### spec_l1Dent: function 36 -/
noncomputable def spec_l1Dent.f (s0_0 : List Int) (s0_1 : Int) (s0_2 : Int) (a1 : ByteArray) (l2 : List ByteArray) : Option (ByteArray × Int × Int) := (spec_l1Below.f s0_0 s0_1 s0_2 (wrap64 ((a1.size : Int) + 1))).bind fun bt207 => ((spec_l1Below.f s0_0 bt207.2.1 bt207.2.2 3).bind fun bt210 => (if bt210.1 = 0 then (if 0 ≤ bt207.1 then (if bt207.1 ≤ (a1.size : Int) then (some (a1.extract 0 (bt207.1 : Int).toNat, bt210.2.1, bt210.2.2)) else (none)) else (none)) else (if bt210.1 = 1 then (if 0 ≤ bt207.1 then (if bt207.1 ≤ (a1.size : Int) then ((spec_l1Pick.f s0_0 bt210.2.1 bt210.2.2 l2).bind fun bt213 => (if (a1.extract 0 (bt207.1 : Int).toNat).size + bt213.1.size ≤ 9223372036854775807 then ((spec_l1Min.f (wrap64 (bt207.1 + 1)) (a1.size : Int)).bind fun t216 => (if 0 ≤ t216 then (if t216 ≤ (a1.size : Int) then (if ((a1.extract 0 (bt207.1 : Int).toNat) ++ bt213.1).size + (a1.extract (t216 : Int).toNat a1.size).size ≤ 9223372036854775807 then (some (((a1.extract 0 (bt207.1 : Int).toNat) ++ bt213.1) ++ (a1.extract (t216 : Int).toNat a1.size), bt213.2.1, bt213.2.2)) else (none)) else (none)) else (none))) else (none))) else (none)) else (none)) else (if 0 ≤ bt207.1 then (if bt207.1 ≤ (a1.size : Int) then ((spec_l1Pick.f s0_0 bt210.2.1 bt210.2.2 l2).bind fun bt217 => (if (a1.extract 0 (bt207.1 : Int).toNat).size + bt217.1.size ≤ 9223372036854775807 then (if ((a1.extract 0 (bt207.1 : Int).toNat) ++ bt217.1).size + (a1.extract (bt207.1 : Int).toNat a1.size).size ≤ 9223372036854775807 then (some (((a1.extract 0 (bt207.1 : Int).toNat) ++ bt217.1) ++ (a1.extract (bt207.1 : Int).toNat a1.size), bt217.2.1, bt217.2.2)) else (none)) else (none))) else (none)) else (none)))))
def spec_l1Dent.T6 : Bool × List (List Nat × List Nat) := (true, [([], []), ([], []), ([0, 1], [0, 1]), ([], []), ([], []), ([3, 4], [3, 4]), ([2, 5], [2, 5]), ([], []), ([], []), ([8], [8]), ([], []), ([10], [10]), ([9, 11, 5], [9, 11]), ([7, 12], [7, 12]), ([6, 13], [6, 13]), ([14, 12, 0, 1, 2, 3, 4, 5, 6, 7, 8, 9, 10, 11, 12, 13, 14], [14])])
def spec_l1Dent.B6 : List Nat := [0, 0, 3, 0, 0, 24, 63, 0, 0, 256, 0, 1024, 3896, 8120, 16383, 32767]
theorem spec_l1Dent.tab6 : rtab .any (opsOf Tryd.f36 6) = spec_l1Dent.T6 := by kernel_rfl
theorem spec_l1Dent.bits6 : waitsOk spec_l1Dent.T6.2 spec_l1Dent.B6 = true := by kernel_rfl
def spec_l1Dent.T7 : Bool × List (List Nat × List Nat) := (true, [([], []), ([], []), ([0, 1], [0, 1]), ([], []), ([], []), ([3, 4], [3, 4]), ([2, 5], [2, 5]), ([], []), ([], []), ([7, 8], [7, 8]), ([6, 9], [6, 9]), ([10, 5, 0, 1, 2, 3, 4, 5, 6, 7, 8, 9, 10], [10])])
def spec_l1Dent.B7 : List Nat := [0, 0, 3, 0, 0, 24, 63, 0, 0, 384, 1023, 2047]
theorem spec_l1Dent.tab7 : rtab .any (opsOf Tryd.f36 7) = spec_l1Dent.T7 := by kernel_rfl
theorem spec_l1Dent.bits7 : waitsOk spec_l1Dent.T7.2 spec_l1Dent.B7 = true := by kernel_rfl
set_option maxHeartbeats 8000000 in
set_option maxRecDepth 100000 in
theorem spec_l1Dent.calls (g : Nat) (s0_0 : List Int) (s0_1 : Int) (s0_2 : Int) (a1 : ByteArray) (A2 : Option Addr) (c2 : Nat) (l2 : List ByteArray) (r1 : ByteArray) (r2 : Int) (r3 : Int) (w0 w : World) (hI : IsS54 w0 w g s0_0 s0_1 s0_2) (hB : Below w0.heap.size w0 w) (hr2 : Kd.C Kd.string w A2 l2.length l2) (hc2 : l2.length ≤ c2) (hf2 : ∀ ad, A2 = some ad → 0 < l2.length → ad.block ≠ g) (h : spec_l1Dent.f s0_0 s0_1 s0_2 a1 l2 = some (r1, r2, r3)) :
  Calls Tryd.prog 36 #[.pointer (some ⟨g, 0, none⟩), .string a1, .slice A2 l2.length c2] w fun e w' => e = .returned (.string r1) ∧ IsS54 w0 w' g s0_0 r2 r3 ∧ Below w0.heap.size w0 w' ∧ KeepBut w w' g none := by
 have HR2 := Aside0.mk hr2
 have HC2 := Aside0.mk hc2
 clear hr2 hc2
 have HI0 := Aside0.mk hI
 have HK := Aside0.mk (KeepBut.refl w g none)
 have HL := Aside0.mk hB.size
 clear hI
 have HW0 := Aside0.mk hB.size
 have HB := Aside0.mk hB
 clear hB
 have H : ((spec_l1Below.f s0_0 s0_1 s0_2 (wrap64 ((a1.size : Int) + 1))).bind fun bt207 => ((spec_l1Below.f s0_0 bt207.2.1 bt207.2.2 3).bind fun bt210 => (if bt210.1 = 0 then (if 0 ≤ bt207.1 then (if bt207.1 ≤ (a1.size : Int) then (some (a1.extract 0 (bt207.1 : Int).toNat, bt210.2.1, bt210.2.2)) else (none)) else (none)) else (if bt210.1 = 1 then (if 0 ≤ bt207.1 then (if bt207.1 ≤ (a1.size : Int) then ((spec_l1Pick.f s0_0 bt210.2.1 bt210.2.2 l2).bind fun bt213 => (if (a1.extract 0 (bt207.1 : Int).toNat).size + bt213.1.size ≤ 9223372036854775807 then ((spec_l1Min.f (wrap64 (bt207.1 + 1)) (a1.size : Int)).bind fun t216 => (if 0 ≤ t216 then (if t216 ≤ (a1.size : Int) then (if ((a1.extract 0 (bt207.1 : Int).toNat) ++ bt213.1).size + (a1.extract (t216 : Int).toNat a1.size).size ≤ 9223372036854775807 then (some (((a1.extract 0 (bt207.1 : Int).toNat) ++ bt213.1) ++ (a1.extract (t216 : Int).toNat a1.size), bt213.2.1, bt213.2.2)) else (none)) else (none)) else (none))) else (none))) else (none)) else (none)) else (if 0 ≤ bt207.1 then (if bt207.1 ≤ (a1.size : Int) then ((spec_l1Pick.f s0_0 bt210.2.1 bt210.2.2 l2).bind fun bt217 => (if (a1.extract 0 (bt207.1 : Int).toNat).size + bt217.1.size ≤ 9223372036854775807 then (if ((a1.extract 0 (bt207.1 : Int).toNat) ++ bt217.1).size + (a1.extract (bt207.1 : Int).toNat a1.size).size ≤ 9223372036854775807 then (some (((a1.extract 0 (bt207.1 : Int).toNat) ++ bt217.1) ++ (a1.extract (bt207.1 : Int).toNat a1.size), bt217.2.1, bt217.2.2)) else (none)) else (none))) else (none)) else (none)))))) = some (r1, r2, r3) := h
 clear h
 replace H := Option.bind_eq_some_iff.mp H
 obtain ⟨⟨t207, t208, t209⟩, A40, H⟩ := H
 replace H : ((spec_l1Below.f s0_0 t208 t209 3).bind fun bt210 => (if bt210.1 = 0 then (if 0 ≤ t207 then (if t207 ≤ (a1.size : Int) then (some (a1.extract 0 (t207 : Int).toNat, bt210.2.1, bt210.2.2)) else (none)) else (none)) else (if bt210.1 = 1 then (if 0 ≤ t207 then (if t207 ≤ (a1.size : Int) then ((spec_l1Pick.f s0_0 bt210.2.1 bt210.2.2 l2).bind fun bt213 => (if (a1.extract 0 (t207 : Int).toNat).size + bt213.1.size ≤ 9223372036854775807 then ((spec_l1Min.f (wrap64 (t207 + 1)) (a1.size : Int)).bind fun t216 => (if 0 ≤ t216 then (if t216 ≤ (a1.size : Int) then (if ((a1.extract 0 (t207 : Int).toNat) ++ bt213.1).size + (a1.extract (t216 : Int).toNat a1.size).size ≤ 9223372036854775807 then (some (((a1.extract 0 (t207 : Int).toNat) ++ bt213.1) ++ (a1.extract (t216 : Int).toNat a1.size), bt213.2.1, bt213.2.2)) else (none)) else (none)) else (none))) else (none))) else (none)) else (none)) else (if 0 ≤ t207 then (if t207 ≤ (a1.size : Int) then ((spec_l1Pick.f s0_0 bt210.2.1 bt210.2.2 l2).bind fun bt217 => (if (a1.extract 0 (t207 : Int).toNat).size + bt217.1.size ≤ 9223372036854775807 then (if ((a1.extract 0 (t207 : Int).toNat) ++ bt217.1).size + (a1.extract (t207 : Int).toNat a1.size).size ≤ 9223372036854775807 then (some (((a1.extract 0 (t207 : Int).toNat) ++ bt217.1) ++ (a1.extract (t207 : Int).toNat a1.size), bt217.2.1, bt217.2.2)) else (none)) else (none))) else (none)) else (none))))) = some (r1, r2, r3) := H
 have A4 := Aside0.mk A40
 clear A40
 replace H := Option.bind_eq_some_iff.mp H
 obtain ⟨⟨t210, t211, t212⟩, A50, H⟩ := H
 replace H : (if t210 = 0 then (if 0 ≤ t207 then (if t207 ≤ (a1.size : Int) then (some (a1.extract 0 (t207 : Int).toNat, t211, t212)) else (none)) else (none)) else (if t210 = 1 then (if 0 ≤ t207 then (if t207 ≤ (a1.size : Int) then ((spec_l1Pick.f s0_0 t211 t212 l2).bind fun bt213 => (if (a1.extract 0 (t207 : Int).toNat).size + bt213.1.size ≤ 9223372036854775807 then ((spec_l1Min.f (wrap64 (t207 + 1)) (a1.size : Int)).bind fun t216 => (if 0 ≤ t216 then (if t216 ≤ (a1.size : Int) then (if ((a1.extract 0 (t207 : Int).toNat) ++ bt213.1).size + (a1.extract (t216 : Int).toNat a1.size).size ≤ 9223372036854775807 then (some (((a1.extract 0 (t207 : Int).toNat) ++ bt213.1) ++ (a1.extract (t216 : Int).toNat a1.size), bt213.2.1, bt213.2.2)) else (none)) else (none)) else (none))) else (none))) else (none)) else (none)) else (if 0 ≤ t207 then (if t207 ≤ (a1.size : Int) then ((spec_l1Pick.f s0_0 t211 t212 l2).bind fun bt217 => (if (a1.extract 0 (t207 : Int).toNat).size + bt217.1.size ≤ 9223372036854775807 then (if ((a1.extract 0 (t207 : Int).toNat) ++ bt217.1).size + (a1.extract (t207 : Int).toNat a1.size).size ≤ 9223372036854775807 then (some (((a1.extract 0 (t207 : Int).toNat) ++ bt217.1) ++ (a1.extract (t207 : Int).toNat a1.size), bt217.2.1, bt217.2.2)) else (none)) else (none))) else (none)) else (none)))) = some (r1, r2, r3) := H
 have A5 := Aside0.mk A50
 clear A50
 by_cases c6 : t210 = 0
 ·rw [if_pos c6] at H
  have c6b0 : (t210 == 0) = true := beq_iff_eq.mpr c6
  have c6b1 : (t210 != 0) = false := bne_eq_false_iff_eq.mpr c6
  clear c6
  by_cases c7 : 0 ≤ t207
  ·rw [if_pos c7] at H
   have c7b0 := eq_true c7
   have c7b1 : decide (0 ≤ t207) = true := decide_eq_true c7
   clear c7
   by_cases c8 : t207 ≤ (a1.size : Int)
   ·rw [if_pos c8] at H
    have c8b0 := eq_true c8
    have c8b1 : decide (t207 ≤ (a1.size : Int)) = true := decide_eq_true c8
    clear c8
    simp only [Option.some.injEq, Prod.mk.injEq] at H
    obtain ⟨rfl, rfl, rfl⟩ := H
    go_enter Tryd.func36, Tryd.ntmps36
    go_wp2_with (first | ((with_reducible refine gate_callee (f := 41) rfl ?_); refine goesL_ (some 12) rfl rfl Tryd.func41 (by kernel_rfl) rfl #[.pointer (some ⟨g, 0, none⟩), .int .i64 (wrap64 ((a1.size : Int) + 1))] rfl KL ?_; (with_reducible refine (spec_l1Below.calls g s0_0 s0_1 s0_2 (wrap64 ((a1.size : Int) + 1)) t207 t208 t209 w0 _ ?side1 ?side2 A4.out).mono ?_); (case side1 => exact KI54); (case side2 => exact KB54); rintro e w9 ⟨rfl, hi, hb, hk⟩; refine ⟨_, rfl, ?_⟩; have n0_ := Aside0.mk (KeepBut.trans KH hk (.inl rfl)); have n1_ := Aside0.mk (hb); have n2_ := Aside0.mk (hi); clear HK; clear HB; clear HI0; have HK := n0_; have HB := n1_; have HI0 := n2_; clear n0_ n1_ n2_; (try clear hb); (try clear hb2); (try clear hk); (try clear hi)) | ((with_reducible refine gate_callee (f := 41) rfl ?_); refine goesL_ (some 14) rfl rfl Tryd.func41 (by kernel_rfl) rfl #[.pointer (some ⟨g, 0, none⟩), .int .i64 3] rfl KL ?_; (with_reducible refine (spec_l1Below.calls g s0_0 t208 t209 3 t210 t211 t212 w0 _ ?side1 ?side2 A5.out).mono ?_); (case side1 => exact KI54); (case side2 => exact KB54); rintro e w10 ⟨rfl, hi, hb, hk⟩; refine ⟨_, rfl, ?_⟩; have n0_ := Aside0.mk (KeepBut.trans KH hk (.inl rfl)); have n1_ := Aside0.mk (hb); have n2_ := Aside0.mk (hi); clear HK; clear HB; clear HI0; have HK := n0_; have HB := n1_; have HI0 := n2_; clear n0_ n1_ n2_; (try clear hb); (try clear hb2); (try clear hk); (try clear hi)))
    go_ret
    exact ⟨KE, KI54, KB54, KH⟩
   ·rw [if_neg c8] at H
    exact absurd H (by simp)
  ·rw [if_neg c7] at H
   exact absurd H (by simp)
 ·rw [if_neg c6] at H
  have c6b0 : (t210 == 0) = false := beq_eq_false_iff_ne.mpr c6
  have c6b1 : (t210 != 0) = true := bne_iff_ne.mpr c6
  by_cases c11 : t210 = 1
  ·rw [if_pos c11] at H
   have c11b0 : (t210 == 1) = true := beq_iff_eq.mpr c11
   have c11b1 : (t210 != 1) = false := bne_eq_false_iff_eq.mpr c11
   clear c11
   by_cases c12 : 0 ≤ t207
   ·rw [if_pos c12] at H
    have c12b0 := eq_true c12
    have c12b1 : decide (0 ≤ t207) = true := decide_eq_true c12
    clear c12
    by_cases c13 : t207 ≤ (a1.size : Int)
    ·rw [if_pos c13] at H
     have c13b0 := eq_true c13
     have c13b1 : decide (t207 ≤ (a1.size : Int)) = true := decide_eq_true c13
     clear c13
     replace H := Option.bind_eq_some_iff.mp H
     obtain ⟨⟨t213, t214, t215⟩, A140, H⟩ := H
     replace H : (if (a1.extract 0 (t207 : Int).toNat).size + t213.size ≤ 9223372036854775807 then ((spec_l1Min.f (wrap64 (t207 + 1)) (a1.size : Int)).bind fun t216 => (if 0 ≤ t216 then (if t216 ≤ (a1.size : Int) then (if ((a1.extract 0 (t207 : Int).toNat) ++ t213).size + (a1.extract (t216 : Int).toNat a1.size).size ≤ 9223372036854775807 then (some (((a1.extract 0 (t207 : Int).toNat) ++ t213) ++ (a1.extract (t216 : Int).toNat a1.size), t214, t215)) else (none)) else (none)) else (none))) else (none)) = some (r1, r2, r3) := H
     have A14 := Aside0.mk A140
     clear A140
     by_cases c15 : (a1.extract 0 (t207 : Int).toNat).size + t213.size ≤ 9223372036854775807
     ·rw [if_pos c15] at H
      have c15b0 := eq_true c15
      have c15b1 : decide ((a1.extract 0 (t207 : Int).toNat).size + t213.size ≤ 9223372036854775807) = true := decide_eq_true c15
      try have c15b2 : (9223372036854775807 < (a1.extract 0 (t207 : Int).toNat).size + t213.size) = False := eq_false (Nat.not_lt.2 c15)
      try have c15b3 : (9223372036854775807 < t207.toNat + t213.size) = False := eq_false (by have h := c15; simp only [ByteArray.size_append, ByteArray.size_extract] at h; simp only [decide_eq_true_eq] at *; omega)
      replace H := Option.bind_eq_some_iff.mp H
      obtain ⟨t216, A160, H⟩ := H
      replace H : (if 0 ≤ t216 then (if t216 ≤ (a1.size : Int) then (if ((a1.extract 0 (t207 : Int).toNat) ++ t213).size + (a1.extract (t216 : Int).toNat a1.size).size ≤ 9223372036854775807 then (some (((a1.extract 0 (t207 : Int).toNat) ++ t213) ++ (a1.extract (t216 : Int).toNat a1.size), t214, t215)) else (none)) else (none)) else (none)) = some (r1, r2, r3) := H
      have A16 := Aside0.mk A160
      clear A160
      by_cases c17 : 0 ≤ t216
      ·rw [if_pos c17] at H
       have c17b0 := eq_true c17
       have c17b1 : decide (0 ≤ t216) = true := decide_eq_true c17
       clear c17
       by_cases c18 : t216 ≤ (a1.size : Int)
       ·rw [if_pos c18] at H
        have c18b0 := eq_true c18
        have c18b1 : decide (t216 ≤ (a1.size : Int)) = true := decide_eq_true c18
        clear c18
        by_cases c19 : ((a1.extract 0 (t207 : Int).toNat) ++ t213).size + (a1.extract (t216 : Int).toNat a1.size).size ≤ 9223372036854775807
        ·rw [if_pos c19] at H
         have c19b0 := eq_true c19
         have c19b1 : decide (((a1.extract 0 (t207 : Int).toNat) ++ t213).size + (a1.extract (t216 : Int).toNat a1.size).size ≤ 9223372036854775807) = true := decide_eq_true c19
         try have c19b2 : (9223372036854775807 < ((a1.extract 0 (t207 : Int).toNat) ++ t213).size + (a1.extract (t216 : Int).toNat a1.size).size) = False := eq_false (Nat.not_lt.2 c19)
         try have c19b3 : (9223372036854775807 < t207.toNat + t213.size + (a1.size - t216.toNat)) = False := eq_false (by have h := c19; simp only [ByteArray.size_append, ByteArray.size_extract] at h; simp only [decide_eq_true_eq] at *; omega)
         simp only [Option.some.injEq, Prod.mk.injEq] at H
         obtain ⟨rfl, rfl, rfl⟩ := H
         go_enter Tryd.func36, Tryd.ntmps36
         try go_wp2_with (first | ((with_reducible refine gate_callee (f := 41) rfl ?_); refine goesL_ (some 12) rfl rfl Tryd.func41 (by kernel_rfl) rfl #[.pointer (some ⟨g, 0, none⟩), .int .i64 (wrap64 ((a1.size : Int) + 1))] rfl KL ?_; (with_reducible refine (spec_l1Below.calls g s0_0 s0_1 s0_2 (wrap64 ((a1.size : Int) + 1)) t207 t208 t209 w0 _ ?side1 ?side2 A4.out).mono ?_); (case side1 => exact KI54); (case side2 => exact KB54); rintro e w20 ⟨rfl, hi, hb, hk⟩; refine ⟨_, rfl, ?_⟩; have n0_ := Aside0.mk (KeepBut.trans KH hk (.inl rfl)); have n1_ := Aside0.mk (hb); have n2_ := Aside0.mk (hi); clear HK; clear HB; clear HI0; have HK := n0_; have HB := n1_; have HI0 := n2_; clear n0_ n1_ n2_; (try clear hb); (try clear hb2); (try clear hk); (try clear hi)) | ((with_reducible refine gate_callee (f := 41) rfl ?_); refine goesL_ (some 14) rfl rfl Tryd.func41 (by kernel_rfl) rfl #[.pointer (some ⟨g, 0, none⟩), .int .i64 3] rfl KL ?_; (with_reducible refine (spec_l1Below.calls g s0_0 t208 t209 3 t210 t211 t212 w0 _ ?side1 ?side2 A5.out).mono ?_); (case side1 => exact KI54); (case side2 => exact KB54); rintro e w21 ⟨rfl, hi, hb, hk⟩; refine ⟨_, rfl, ?_⟩; have n0_ := Aside0.mk (KeepBut.trans KH hk (.inl rfl)); have n1_ := Aside0.mk (hb); have n2_ := Aside0.mk (hi); clear HK; clear HB; clear HI0; have HK := n0_; have HB := n1_; have HI0 := n2_; clear n0_ n1_ n2_; (try clear hb); (try clear hb2); (try clear hk); (try clear hi)))
         have n0_ := Aside0.mk (IsS54.drew HI0.out)
         have n1_ := Aside0.mk (keep_drew HK.out)
         have n2_ := Aside0.mk (below_drew1 HB.out)
         clear HI0
         clear HK
         clear HB
         have HI0 := n0_
         have HK := n1_
         have HB := n2_
         clear n0_ n1_ n2_
         refine start_ (n := 16) (S := fun w' => True) (ds := []) #[false, false, false, false, false, false, false, false, false, false, false, false, false, false, false, false] (by kernel_rfl) rfl rfl trivial (fun hHeld => ?_); refine with_tabW spec_l1Dent.tab6 spec_l1Dent.bits6 (fun HT_ HW_ => ?_)
         generalize w21.drew = w22 at HI0 HK HB hHeld ⊢
         refine pure_ (i := 0) (N := some 22) (v := ?_) (a' := ?_) #[true, false, false, false, false, false, false, false, false, false, false, false, false, false, false, false] rfl rfl (any_of HT_.out (by kernel_rfl)) (fun _ _ _ h => h) (Or.inl ⟨by rfl, ?_⟩) ?_ ?_
         rotate_left
         ·intro w'
          go_simp
          with_reducible rfl
         rotate_left
         ·simp only [Act.put, List.setIfInBounds_toArray, List.set_cons_zero, List.set_cons_succ, i64_w, i32_w]
          rfl
         refine pure_ (i := 1) (N := some 23) (v := ?_) (a' := ?_) #[true, true, false, false, false, false, false, false, false, false, false, false, false, false, false, false] rfl rfl (any_of HT_.out (by kernel_rfl)) (fun _ _ _ h => h) (Or.inl ⟨by rfl, ?_⟩) ?_ ?_
         rotate_left
         ·intro w'
          go_simp
          with_reducible rfl
         rotate_left
         ·simp only [Act.put, List.setIfInBounds_toArray, List.set_cons_zero, List.set_cons_succ, i64_w, i32_w]
          rfl
         refine pure_ (i := 2) (N := some 24) (v := ?_) (a' := ?_) #[true, true, true, false, false, false, false, false, false, false, false, false, false, false, false, false] rfl rfl (any_of HT_.out (by kernel_rfl)) (fun _ _ _ h => h) (Or.inl ⟨by rfl, ?_⟩) ?_ ?_
         rotate_left
         ·intro w'
          go_simp
          with_reducible rfl
         rotate_left
         ·simp only [Act.put, List.setIfInBounds_toArray, List.set_cons_zero, List.set_cons_succ, i64_w, i32_w]
          rfl
         refine pure_ (i := 3) (N := some 25) (v := ?_) (a' := ?_) #[true, true, true, true, false, false, false, false, false, false, false, false, false, false, false, false] rfl rfl (any_of HT_.out (by kernel_rfl)) (fun _ _ _ h => h) (Or.inl ⟨by rfl, ?_⟩) ?_ ?_
         rotate_left
         ·intro w'
          go_simp
          with_reducible rfl
         rotate_left
         ·simp only [Act.put, List.setIfInBounds_toArray, List.set_cons_zero, List.set_cons_succ, i64_w, i32_w]
          rfl
         refine pure_ (i := 4) (N := some 26) (v := ?_) (a' := ?_) #[true, true, true, true, true, false, false, false, false, false, false, false, false, false, false, false] rfl rfl (any_of HT_.out (by kernel_rfl)) (fun _ _ _ h => h) (Or.inl ⟨by rfl, ?_⟩) ?_ ?_
         rotate_left
         ·intro w'
          go_simp
          with_reducible rfl
         rotate_left
         ·simp only [Act.put, List.setIfInBounds_toArray, List.set_cons_zero, List.set_cons_succ, i64_w, i32_w]
          rfl
         refine pure_ (i := 7) (N := some 29) (v := ?_) (a' := ?_) #[true, true, true, true, true, false, false, true, false, false, false, false, false, false, false, false] rfl rfl (any_of HT_.out (by kernel_rfl)) (fun _ _ _ h => h) (Or.inl ⟨by rfl, ?_⟩) ?_ ?_
         rotate_left
         ·intro w'
          go_simp
          with_reducible rfl
         rotate_left
         ·simp only [Act.put, List.setIfInBounds_toArray, List.set_cons_zero, List.set_cons_succ, i64_w, i32_w]
          rfl
         refine pure_ (i := 8) (N := some 30) (v := ?_) (a' := ?_) #[true, true, true, true, true, false, false, true, true, false, false, false, false, false, false, false] rfl rfl (any_of HT_.out (by kernel_rfl)) (fun _ _ _ h => h) (Or.inl ⟨by rfl, ?_⟩) ?_ ?_
         rotate_left
         ·intro w'
          go_simp
          with_reducible rfl
         rotate_left
         ·simp only [Act.put, List.setIfInBounds_toArray, List.set_cons_zero, List.set_cons_succ, i64_w, i32_w]
          rfl
         refine pure_ (i := 9) (N := some 31) (v := ?_) (a' := ?_) #[true, true, true, true, true, false, false, true, true, true, false, false, false, false, false, false] rfl rfl (any_of HT_.out (by kernel_rfl)) (fun _ _ _ h => h) (Or.inl ⟨by rfl, ?_⟩) ?_ ?_
         rotate_left
         ·intro w'
          go_simp
          with_reducible rfl
         rotate_left
         ·simp only [Act.put, List.setIfInBounds_toArray, List.set_cons_zero, List.set_cons_succ, i64_w, i32_w]
          rfl
         refine pure_ (i := 10) (N := some 32) (v := ?_) (a' := ?_) #[true, true, true, true, true, false, false, true, true, true, true, false, false, false, false, false] rfl rfl (any_of HT_.out (by kernel_rfl)) (fun _ _ _ h => h) (Or.inl ⟨by rfl, ?_⟩) ?_ ?_
         rotate_left
         ·intro w'
          go_simp
          with_reducible rfl
         rotate_left
         ·simp only [Act.put, List.setIfInBounds_toArray, List.set_cons_zero, List.set_cons_succ, i64_w, i32_w]
          rfl
         refine pure_ (i := 11) (N := some 33) (v := ?_) (a' := ?_) #[true, true, true, true, true, false, false, true, true, true, true, true, false, false, false, false] rfl rfl (any_of HT_.out (by kernel_rfl)) (fun _ _ _ h => h) (Or.inl ⟨by rfl, ?_⟩) ?_ ?_
         rotate_left
         ·intro w'
          go_simp
          with_reducible rfl
         rotate_left
         ·simp only [Act.put, List.setIfInBounds_toArray, List.set_cons_zero, List.set_cons_succ, i64_w, i32_w]
          rfl
         refine one_ (i := 5) (N := some 27) #[true, true, true, true, true, true, false, true, true, true, true, true, false, false, false, false] rfl rfl (one_of HT_.out (by kernel_rfl)) (by decide) (fun K hK => ?_)
         refine goes_ Tryd.func44 (by kernel_rfl) rfl #[.pointer (some ⟨g, 0, none⟩), .slice A2 l2.length c2] (by rfl) rfl rfl KL ?_
         with_reducible refine (spec_l1Pick.calls g s0_0 t211 t212 _ _ l2 t213 t214 t215 w0 _ ?side1 ?side2 ?side3 ?side4 ?side5 A14.out).mono ?_
         (case side1 => exact KI54)
         (case side2 => exact KB54)
         (case side3 => exact Kd.C_keep (⟨#[]⟩ : ByteArray) HR2.out KH hf2)
         (case side4 => exact HC2.out)
         (case side5 => exact hf2)
         rintro e w23 ⟨rfl, hi, hb, hk⟩
         refine ⟨_, rfl, ?_⟩
         have n0_ := Aside0.mk (KeepBut.trans KH hk (.inl rfl))
         have n1_ := Aside0.mk (hb)
         have n2_ := Aside0.mk (hi)
         clear HK
         clear HB
         clear HI0
         have HK := n0_
         have HB := n1_
         have HI0 := n2_
         clear n0_ n1_ n2_
         (try clear hb)
         (try clear hb2)
         (try clear hk)
         (try clear hi)
         refine hK.out _ _ trivial (fun hHeld => ?_)
         clear hK K
         refine norm_ (a' := ?_) ?_ ?_
         rotate_left
         ·show Act.put _ (some 27) _ = _
          simp only [Act.put, List.setIfInBounds_toArray, List.set_cons_zero, List.set_cons_succ, i64_w, i32_w]
          rfl
         refine pure_ (i := 6) (N := some 28) (v := ?_) (a' := ?_) #[true, true, true, true, true, true, true, true, true, true, true, true, false, false, false, false] rfl rfl (any_of HT_.out (by kernel_rfl)) (fun _ _ _ h => h) (Or.inl ⟨by rfl, ?_⟩) ?_ ?_
         rotate_left
         ·intro w'
          go_simp
          with_reducible rfl
         rotate_left
         ·simp only [Act.put, List.setIfInBounds_toArray, List.set_cons_zero, List.set_cons_succ, i64_w, i32_w]
          rfl
         refine one_ (i := 12) (N := some 34) #[true, true, true, true, true, true, true, true, true, true, true, true, true, false, false, false] rfl rfl (one_of HT_.out (by kernel_rfl)) (by decide) (fun K hK => ?_)
         refine goes_ Tryd.func45 (by kernel_rfl) rfl #[.int .i64 (wrap64 (t207 + 1)), .int .i64 (a1.size : Int)] (by rfl) rfl rfl KL ?_
         with_reducible refine (spec_l1Min.calls (wrap64 (t207 + 1)) (a1.size : Int) t216 _ A16.out).mono ?_
         rintro e w' ⟨rfl, ⟨nd, rfl⟩⟩
         refine ⟨_, rfl, ?_⟩
         refine hK.out _ _ trivial (fun hHeld => ?_)
         clear hK K
         refine norm_ (a' := ?_) ?_ ?_
         rotate_left
         ·show Act.put _ (some 34) _ = _
          simp only [Act.put, List.setIfInBounds_toArray, List.set_cons_zero, List.set_cons_succ, i64_w, i32_w]
          rfl
         refine pure_ (i := 13) (N := some 35) (v := ?_) (a' := ?_) #[true, true, true, true, true, true, true, true, true, true, true, true, true, true, false, false] rfl rfl (any_of HT_.out (by kernel_rfl)) (fun _ _ _ h => h) (Or.inl ⟨by rfl, ?_⟩) ?_ ?_
         rotate_left
         ·intro w'
          go_simp
          with_reducible rfl
         rotate_left
         ·simp only [Act.put, List.setIfInBounds_toArray, List.set_cons_zero, List.set_cons_succ, i64_w, i32_w]
          rfl
         refine pure_ (i := 14) (N := some 36) (v := ?_) (a' := ?_) #[true, true, true, true, true, true, true, true, true, true, true, true, true, true, true, false] rfl rfl (any_of HT_.out (by kernel_rfl)) (fun _ _ _ h => h) (Or.inl ⟨by rfl, ?_⟩) ?_ ?_
         rotate_left
         ·intro w'
          go_simp
          with_reducible rfl
         rotate_left
         ·simp only [Act.put, List.setIfInBounds_toArray, List.set_cons_zero, List.set_cons_succ, i64_w, i32_w]
          rfl
         refine pure_ (i := 15) (N := some 6) (v := ?_) (a' := ?_) #[true, true, true, true, true, true, true, true, true, true, true, true, true, true, true, true] rfl rfl (any_of HT_.out (by kernel_rfl)) (fun _ _ _ h => h) (Or.inl ⟨by rfl, ?_⟩) ?_ ?_
         rotate_left
         ·intro w'
          go_simp
          with_reducible rfl
         rotate_left
         ·simp only [Act.put, List.setIfInBounds_toArray, List.set_cons_zero, List.set_cons_succ, i64_w, i32_w]
          rfl
         refine done_ (done_of HT_.out (by kernel_rfl)) ?_
         try go_wp2
         go_ret
         exact ⟨KE, KI54, KB54, KH⟩
        ·rw [if_neg c19] at H
         exact absurd H (by simp)
       ·rw [if_neg c18] at H
        exact absurd H (by simp)
      ·rw [if_neg c17] at H
       exact absurd H (by simp)
     ·rw [if_neg c15] at H
      exact absurd H (by simp)
    ·rw [if_neg c13] at H
     exact absurd H (by simp)
   ·rw [if_neg c12] at H
    exact absurd H (by simp)
  ·rw [if_neg c11] at H
   have c11b0 : (t210 == 1) = false := beq_eq_false_iff_ne.mpr c11
   have c11b1 : (t210 != 1) = true := bne_iff_ne.mpr c11
   by_cases c24 : 0 ≤ t207
   ·rw [if_pos c24] at H
    have c24b0 := eq_true c24
    have c24b1 : decide (0 ≤ t207) = true := decide_eq_true c24
    clear c24
    by_cases c25 : t207 ≤ (a1.size : Int)
    ·rw [if_pos c25] at H
     have c25b0 := eq_true c25
     have c25b1 : decide (t207 ≤ (a1.size : Int)) = true := decide_eq_true c25
     clear c25
     replace H := Option.bind_eq_some_iff.mp H
     obtain ⟨⟨t217, t218, t219⟩, A260, H⟩ := H
     replace H : (if (a1.extract 0 (t207 : Int).toNat).size + t217.size ≤ 9223372036854775807 then (if ((a1.extract 0 (t207 : Int).toNat) ++ t217).size + (a1.extract (t207 : Int).toNat a1.size).size ≤ 9223372036854775807 then (some (((a1.extract 0 (t207 : Int).toNat) ++ t217) ++ (a1.extract (t207 : Int).toNat a1.size), t218, t219)) else (none)) else (none)) = some (r1, r2, r3) := H
     have A26 := Aside0.mk A260
     clear A260
     by_cases c27 : (a1.extract 0 (t207 : Int).toNat).size + t217.size ≤ 9223372036854775807
     ·rw [if_pos c27] at H
      have c27b0 := eq_true c27
      have c27b1 : decide ((a1.extract 0 (t207 : Int).toNat).size + t217.size ≤ 9223372036854775807) = true := decide_eq_true c27
      try have c27b2 : (9223372036854775807 < (a1.extract 0 (t207 : Int).toNat).size + t217.size) = False := eq_false (Nat.not_lt.2 c27)
      try have c27b3 : (9223372036854775807 < t207.toNat + t217.size) = False := eq_false (by have h := c27; simp only [ByteArray.size_append, ByteArray.size_extract] at h; simp only [decide_eq_true_eq] at *; omega)
      have c28b0 := eq_true (of_decide_eq_true (by first | (with_reducible assumption) | assumption) : 0 ≤ t207)
      have c29b0 := eq_true (of_decide_eq_true (by first | (with_reducible assumption) | assumption) : t207 ≤ (a1.size : Int))
      by_cases c30 : ((a1.extract 0 (t207 : Int).toNat) ++ t217).size + (a1.extract (t207 : Int).toNat a1.size).size ≤ 9223372036854775807
      ·rw [if_pos c30] at H
       have c30b0 := eq_true c30
       have c30b1 : decide (((a1.extract 0 (t207 : Int).toNat) ++ t217).size + (a1.extract (t207 : Int).toNat a1.size).size ≤ 9223372036854775807) = true := decide_eq_true c30
       try have c30b2 : (9223372036854775807 < ((a1.extract 0 (t207 : Int).toNat) ++ t217).size + (a1.extract (t207 : Int).toNat a1.size).size) = False := eq_false (Nat.not_lt.2 c30)
       try have c30b3 : (9223372036854775807 < t207.toNat + t217.size + (a1.size - t207.toNat)) = False := eq_false (by have h := c30; simp only [ByteArray.size_append, ByteArray.size_extract] at h; simp only [decide_eq_true_eq] at *; omega)
       simp only [Option.some.injEq, Prod.mk.injEq] at H
       obtain ⟨rfl, rfl, rfl⟩ := H
       go_enter Tryd.func36, Tryd.ntmps36
       try go_wp2_with (first | ((with_reducible refine gate_callee (f := 41) rfl ?_); refine goesL_ (some 12) rfl rfl Tryd.func41 (by kernel_rfl) rfl #[.pointer (some ⟨g, 0, none⟩), .int .i64 (wrap64 ((a1.size : Int) + 1))] rfl KL ?_; (with_reducible refine (spec_l1Below.calls g s0_0 s0_1 s0_2 (wrap64 ((a1.size : Int) + 1)) t207 t208 t209 w0 _ ?side1 ?side2 A4.out).mono ?_); (case side1 => exact KI54); (case side2 => exact KB54); rintro e w31 ⟨rfl, hi, hb, hk⟩; refine ⟨_, rfl, ?_⟩; have n0_ := Aside0.mk (KeepBut.trans KH hk (.inl rfl)); have n1_ := Aside0.mk (hb); have n2_ := Aside0.mk (hi); clear HK; clear HB; clear HI0; have HK := n0_; have HB := n1_; have HI0 := n2_; clear n0_ n1_ n2_; (try clear hb); (try clear hb2); (try clear hk); (try clear hi)) | ((with_reducible refine gate_callee (f := 41) rfl ?_); refine goesL_ (some 14) rfl rfl Tryd.func41 (by kernel_rfl) rfl #[.pointer (some ⟨g, 0, none⟩), .int .i64 3] rfl KL ?_; (with_reducible refine (spec_l1Below.calls g s0_0 t208 t209 3 t210 t211 t212 w0 _ ?side1 ?side2 A5.out).mono ?_); (case side1 => exact KI54); (case side2 => exact KB54); rintro e w32 ⟨rfl, hi, hb, hk⟩; refine ⟨_, rfl, ?_⟩; have n0_ := Aside0.mk (KeepBut.trans KH hk (.inl rfl)); have n1_ := Aside0.mk (hb); have n2_ := Aside0.mk (hi); clear HK; clear HB; clear HI0; have HK := n0_; have HB := n1_; have HI0 := n2_; clear n0_ n1_ n2_; (try clear hb); (try clear hb2); (try clear hk); (try clear hi)))
       have n0_ := Aside0.mk (IsS54.drew HI0.out)
       have n1_ := Aside0.mk (keep_drew HK.out)
       have n2_ := Aside0.mk (below_drew1 HB.out)
       clear HI0
       clear HK
       clear HB
       have HI0 := n0_
       have HK := n1_
       have HB := n2_
       clear n0_ n1_ n2_
       refine start_ (n := 12) (S := fun w' => True) (ds := []) #[false, false, false, false, false, false, false, false, false, false, false, false] (by kernel_rfl) rfl rfl trivial (fun hHeld => ?_); refine with_tabW spec_l1Dent.tab7 spec_l1Dent.bits7 (fun HT_ HW_ => ?_)
       generalize w32.drew = w33 at HI0 HK HB hHeld ⊢
       refine pure_ (i := 0) (N := some 37) (v := ?_) (a' := ?_) #[true, false, false, false, false, false, false, false, false, false, false, false] rfl rfl (any_of HT_.out (by kernel_rfl)) (fun _ _ _ h => h) (Or.inl ⟨by rfl, ?_⟩) ?_ ?_
       rotate_left
       ·intro w'
        go_simp
        with_reducible rfl
       rotate_left
       ·simp only [Act.put, List.setIfInBounds_toArray, List.set_cons_zero, List.set_cons_succ, i64_w, i32_w]
        rfl
       refine pure_ (i := 1) (N := some 38) (v := ?_) (a' := ?_) #[true, true, false, false, false, false, false, false, false, false, false, false] rfl rfl (any_of HT_.out (by kernel_rfl)) (fun _ _ _ h => h) (Or.inl ⟨by rfl, ?_⟩) ?_ ?_
       rotate_left
       ·intro w'
        go_simp
        with_reducible rfl
       rotate_left
       ·simp only [Act.put, List.setIfInBounds_toArray, List.set_cons_zero, List.set_cons_succ, i64_w, i32_w]
        rfl
       refine pure_ (i := 2) (N := some 39) (v := ?_) (a' := ?_) #[true, true, true, false, false, false, false, false, false, false, false, false] rfl rfl (any_of HT_.out (by kernel_rfl)) (fun _ _ _ h => h) (Or.inl ⟨by rfl, ?_⟩) ?_ ?_
       rotate_left
       ·intro w'
        go_simp
        with_reducible rfl
       rotate_left
       ·simp only [Act.put, List.setIfInBounds_toArray, List.set_cons_zero, List.set_cons_succ, i64_w, i32_w]
        rfl
       refine pure_ (i := 3) (N := some 40) (v := ?_) (a' := ?_) #[true, true, true, true, false, false, false, false, false, false, false, false] rfl rfl (any_of HT_.out (by kernel_rfl)) (fun _ _ _ h => h) (Or.inl ⟨by rfl, ?_⟩) ?_ ?_
       rotate_left
       ·intro w'
        go_simp
        with_reducible rfl
       rotate_left
       ·simp only [Act.put, List.setIfInBounds_toArray, List.set_cons_zero, List.set_cons_succ, i64_w, i32_w]
        rfl
       refine pure_ (i := 4) (N := some 41) (v := ?_) (a' := ?_) #[true, true, true, true, true, false, false, false, false, false, false, false] rfl rfl (any_of HT_.out (by kernel_rfl)) (fun _ _ _ h => h) (Or.inl ⟨by rfl, ?_⟩) ?_ ?_
       rotate_left
       ·intro w'
        go_simp
        with_reducible rfl
       rotate_left
       ·simp only [Act.put, List.setIfInBounds_toArray, List.set_cons_zero, List.set_cons_succ, i64_w, i32_w]
        rfl
       refine pure_ (i := 7) (N := some 44) (v := ?_) (a' := ?_) #[true, true, true, true, true, false, false, true, false, false, false, false] rfl rfl (any_of HT_.out (by kernel_rfl)) (fun _ _ _ h => h) (Or.inl ⟨by rfl, ?_⟩) ?_ ?_
       rotate_left
       ·intro w'
        go_simp
        with_reducible rfl
       rotate_left
       ·simp only [Act.put, List.setIfInBounds_toArray, List.set_cons_zero, List.set_cons_succ, i64_w, i32_w]
        rfl
       refine pure_ (i := 8) (N := some 45) (v := ?_) (a' := ?_) #[true, true, true, true, true, false, false, true, true, false, false, false] rfl rfl (any_of HT_.out (by kernel_rfl)) (fun _ _ _ h => h) (Or.inl ⟨by rfl, ?_⟩) ?_ ?_
       rotate_left
       ·intro w'
        go_simp
        with_reducible rfl
       rotate_left
       ·simp only [Act.put, List.setIfInBounds_toArray, List.set_cons_zero, List.set_cons_succ, i64_w, i32_w]
        rfl
       refine pure_ (i := 9) (N := some 46) (v := ?_) (a' := ?_) #[true, true, true, true, true, false, false, true, true, true, false, false] rfl rfl (any_of HT_.out (by kernel_rfl)) (fun _ _ _ h => h) (Or.inl ⟨by rfl, ?_⟩) ?_ ?_
       rotate_left
       ·intro w'
        go_simp
        with_reducible rfl
       rotate_left
       ·simp only [Act.put, List.setIfInBounds_toArray, List.set_cons_zero, List.set_cons_succ, i64_w, i32_w]
        rfl
       refine one_ (i := 5) (N := some 42) #[true, true, true, true, true, true, false, true, true, true, false, false] rfl rfl (one_of HT_.out (by kernel_rfl)) (by decide) (fun K hK => ?_)
       refine goes_ Tryd.func44 (by kernel_rfl) rfl #[.pointer (some ⟨g, 0, none⟩), .slice A2 l2.length c2] (by rfl) rfl rfl KL ?_
       with_reducible refine (spec_l1Pick.calls g s0_0 t211 t212 _ _ l2 t217 t218 t219 w0 _ ?side1 ?side2 ?side3 ?side4 ?side5 A26.out).mono ?_
       (case side1 => exact KI54)
       (case side2 => exact KB54)
       (case side3 => exact Kd.C_keep (⟨#[]⟩ : ByteArray) HR2.out KH hf2)
       (case side4 => exact HC2.out)
       (case side5 => exact hf2)
       rintro e w34 ⟨rfl, hi, hb, hk⟩
       refine ⟨_, rfl, ?_⟩
       have n0_ := Aside0.mk (KeepBut.trans KH hk (.inl rfl))
       have n1_ := Aside0.mk (hb)
       have n2_ := Aside0.mk (hi)
       clear HK
       clear HB
       clear HI0
       have HK := n0_
       have HB := n1_
       have HI0 := n2_
       clear n0_ n1_ n2_
       (try clear hb)
       (try clear hb2)
       (try clear hk)
       (try clear hi)
       refine hK.out _ _ trivial (fun hHeld => ?_)
       clear hK K
       refine norm_ (a' := ?_) ?_ ?_
       rotate_left
       ·show Act.put _ (some 42) _ = _
        simp only [Act.put, List.setIfInBounds_toArray, List.set_cons_zero, List.set_cons_succ, i64_w, i32_w]
        rfl
       refine pure_ (i := 6) (N := some 43) (v := ?_) (a' := ?_) #[true, true, true, true, true, true, true, true, true, true, false, false] rfl rfl (any_of HT_.out (by kernel_rfl)) (fun _ _ _ h => h) (Or.inl ⟨by rfl, ?_⟩) ?_ ?_
       rotate_left
       ·intro w'
        go_simp
        with_reducible rfl
       rotate_left
       ·simp only [Act.put, List.setIfInBounds_toArray, List.set_cons_zero, List.set_cons_succ, i64_w, i32_w]
        rfl
       refine pure_ (i := 10) (N := some 47) (v := ?_) (a' := ?_) #[true, true, true, true, true, true, true, true, true, true, true, false] rfl rfl (any_of HT_.out (by kernel_rfl)) (fun _ _ _ h => h) (Or.inl ⟨by rfl, ?_⟩) ?_ ?_
       rotate_left
       ·intro w'
        go_simp
        with_reducible rfl
       rotate_left
       ·simp only [Act.put, List.setIfInBounds_toArray, List.set_cons_zero, List.set_cons_succ, i64_w, i32_w]
        rfl
       refine pure_ (i := 11) (N := some 6) (v := ?_) (a' := ?_) #[true, true, true, true, true, true, true, true, true, true, true, true] rfl rfl (any_of HT_.out (by kernel_rfl)) (fun _ _ _ h => h) (Or.inl ⟨by rfl, ?_⟩) ?_ ?_
       rotate_left
       ·intro w'
        go_simp
        with_reducible rfl
       rotate_left
       ·simp only [Act.put, List.setIfInBounds_toArray, List.set_cons_zero, List.set_cons_succ, i64_w, i32_w]
        rfl
       refine done_ (done_of HT_.out (by kernel_rfl)) ?_
       try go_wp2
       go_ret
       exact ⟨KE, KI54, KB54, KH⟩
      ·rw [if_neg c30] at H
       exact absurd H (by simp)
     ·rw [if_neg c27] at H
      exact absurd H (by simp)
    ·rw [if_neg c25] at H
     exact absurd H (by simp)
   ·rw [if_neg c24] at H
    exact absurd H (by simp)

/-! ### spec_DrawPlaceRead: function 20 -/
noncomputable def spec_DrawPlaceRead.f (k : Nat) (l0 : List Int) : Option (ByteArray) := (spec_l1New.f k l0).bind fun bt220 => ((spec_l1DrawPlace.f bt220.1 bt220.2.1 bt220.2.2).bind fun bt224 => ((spec_PlaceText.f k bt224.1).bind fun t227 => ((spec_l1Once.f bt220.1 bt224.2.1 bt224.2.2 2).bind fun bt228 => (if bt228.1 = true then ((spec_l1Dent.f bt220.1 bt228.2.1 bt228.2.2 t227 (([(⟨#[101]⟩ : ByteArray), (⟨#[46]⟩ : ByteArray), (⟨#[48]⟩ : ByteArray), (⟨#[57]⟩ : ByteArray), (⟨#[32]⟩ : ByteArray), (⟨#[54, 49]⟩ : ByteArray), (⟨#[57, 57, 57, 57, 57, 57, 57, 57, 57, 57, 57]⟩ : ByteArray)] : List ByteArray))).bind fun bt234 => (some bt234.1)) else (some t227)))))
theorem spec_DrawPlaceRead.mono : ∀ a0 k, LeO (spec_DrawPlaceRead.f k a0) (spec_DrawPlaceRead.f (k + 1) a0) := by
 intro a0 k
 unfold spec_DrawPlaceRead.f
 repeat' first
   | (with_reducible exact spec_PlaceText.mono _ _)
   | (with_reducible exact spec_l1New.mono _ _)
   | (with_reducible exact LeO.refl _)
   | (with_reducible exact LeO.none _)
   | (with_reducible refine LeO.ite ?_ ?_)
   | (with_reducible refine LeO.bind ?_ (fun _ => ?_))
   | exact spec_PlaceText.mono _ _
   | exact spec_l1New.mono _ _
   | exact LeO.none _
   | refine LeO.ite ?_ ?_
   | refine LeO.bind ?_ (fun _ => ?_)
set_option maxHeartbeats 8000000 in
set_option maxRecDepth 100000 in
theorem spec_DrawPlaceRead.calls (k : Nat) (A0 : Option Addr) (c0 : Nat) (l0 : List Int) (r : ByteArray) (w : World) (hr0 : Kd.C (Kd.int .u8) w A0 l0.length l0) (hc0 : l0.length ≤ c0) (h : spec_DrawPlaceRead.f k l0 = some r) :
  Calls Tryd.prog 20 #[.slice A0 l0.length c0] w fun e w' => e = .returned (.string r) ∧ Below w.heap.size w w' := by
 have HR0 := Aside0.mk hr0
 have HC0 := Aside0.mk hc0
 clear hr0 hc0
 have HB := Aside0.mk (Below.refl w.heap.size w)
 have H : ((spec_l1New.f k l0).bind fun bt220 => ((spec_l1DrawPlace.f bt220.1 bt220.2.1 bt220.2.2).bind fun bt224 => ((spec_PlaceText.f k bt224.1).bind fun t227 => ((spec_l1Once.f bt220.1 bt224.2.1 bt224.2.2 2).bind fun bt228 => (if bt228.1 = true then ((spec_l1Dent.f bt220.1 bt228.2.1 bt228.2.2 t227 (([(⟨#[101]⟩ : ByteArray), (⟨#[46]⟩ : ByteArray), (⟨#[48]⟩ : ByteArray), (⟨#[57]⟩ : ByteArray), (⟨#[32]⟩ : ByteArray), (⟨#[54, 49]⟩ : ByteArray), (⟨#[57, 57, 57, 57, 57, 57, 57, 57, 57, 57, 57]⟩ : ByteArray)] : List ByteArray))).bind fun bt234 => (some bt234.1)) else (some t227)))))) = some r := h
 clear h
 replace H := Option.bind_eq_some_iff.mp H
 obtain ⟨⟨t220, t221, t222⟩, A20, H⟩ := H
 replace H : ((spec_l1DrawPlace.f t220 t221 t222).bind fun bt224 => ((spec_PlaceText.f k bt224.1).bind fun t227 => ((spec_l1Once.f t220 bt224.2.1 bt224.2.2 2).bind fun bt228 => (if bt228.1 = true then ((spec_l1Dent.f t220 bt228.2.1 bt228.2.2 t227 (([(⟨#[101]⟩ : ByteArray), (⟨#[46]⟩ : ByteArray), (⟨#[48]⟩ : ByteArray), (⟨#[57]⟩ : ByteArray), (⟨#[32]⟩ : ByteArray), (⟨#[54, 49]⟩ : ByteArray), (⟨#[57, 57, 57, 57, 57, 57, 57, 57, 57, 57, 57]⟩ : ByteArray)] : List ByteArray))).bind fun bt234 => (some bt234.1)) else (some t227))))) = some r := H
 have A2 := Aside0.mk A20
 clear A20
 replace H := Option.bind_eq_some_iff.mp H
 obtain ⟨⟨t224, t225, t226⟩, A30, H⟩ := H
 replace H : ((spec_PlaceText.f k t224).bind fun t227 => ((spec_l1Once.f t220 t225 t226 2).bind fun bt228 => (if bt228.1 = true then ((spec_l1Dent.f t220 bt228.2.1 bt228.2.2 t227 (([(⟨#[101]⟩ : ByteArray), (⟨#[46]⟩ : ByteArray), (⟨#[48]⟩ : ByteArray), (⟨#[57]⟩ : ByteArray), (⟨#[32]⟩ : ByteArray), (⟨#[54, 49]⟩ : ByteArray), (⟨#[57, 57, 57, 57, 57, 57, 57, 57, 57, 57, 57]⟩ : ByteArray)] : List ByteArray))).bind fun bt234 => (some bt234.1)) else (some t227)))) = some r := H
 have A3 := Aside0.mk A30
 clear A30
 replace H := Option.bind_eq_some_iff.mp H
 obtain ⟨t227, A40, H⟩ := H
 replace H : ((spec_l1Once.f t220 t225 t226 2).bind fun bt228 => (if bt228.1 = true then ((spec_l1Dent.f t220 bt228.2.1 bt228.2.2 t227 (([(⟨#[101]⟩ : ByteArray), (⟨#[46]⟩ : ByteArray), (⟨#[48]⟩ : ByteArray), (⟨#[57]⟩ : ByteArray), (⟨#[32]⟩ : ByteArray), (⟨#[54, 49]⟩ : ByteArray), (⟨#[57, 57, 57, 57, 57, 57, 57, 57, 57, 57, 57]⟩ : ByteArray)] : List ByteArray))).bind fun bt234 => (some bt234.1)) else (some t227))) = some r := H
 have A4 := Aside0.mk A40
 clear A40
 replace H := Option.bind_eq_some_iff.mp H
 obtain ⟨⟨t228, t229, t230⟩, A50, H⟩ := H
 replace H : (if t228 = true then ((spec_l1Dent.f t220 t229 t230 t227 (([(⟨#[101]⟩ : ByteArray), (⟨#[46]⟩ : ByteArray), (⟨#[48]⟩ : ByteArray), (⟨#[57]⟩ : ByteArray), (⟨#[32]⟩ : ByteArray), (⟨#[54, 49]⟩ : ByteArray), (⟨#[57, 57, 57, 57, 57, 57, 57, 57, 57, 57, 57]⟩ : ByteArray)] : List ByteArray))).bind fun bt234 => (some bt234.1)) else (some t227)) = some r := H
 have A5 := Aside0.mk A50
 clear A50
 by_cases c6 : t228 = true
 ·subst c6
  have H1 : ((spec_l1Dent.f t220 t229 t230 t227 (([(⟨#[101]⟩ : ByteArray), (⟨#[46]⟩ : ByteArray), (⟨#[48]⟩ : ByteArray), (⟨#[57]⟩ : ByteArray), (⟨#[32]⟩ : ByteArray), (⟨#[54, 49]⟩ : ByteArray), (⟨#[57, 57, 57, 57, 57, 57, 57, 57, 57, 57, 57]⟩ : ByteArray)] : List ByteArray))).bind fun bt234 => (some bt234.1)) = some r := by rw [if_pos rfl] at H; exact H
  clear H
  have H := H1
  clear H1
  obtain ⟨y231, hy231⟩ : ∃ y_ : List ByteArray, y_ = (([(⟨#[101]⟩ : ByteArray), (⟨#[46]⟩ : ByteArray), (⟨#[48]⟩ : ByteArray), (⟨#[57]⟩ : ByteArray), (⟨#[32]⟩ : ByteArray), (⟨#[54, 49]⟩ : ByteArray), (⟨#[57, 57, 57, 57, 57, 57, 57, 57, 57, 57, 57]⟩ : ByteArray)] : List ByteArray)) := ⟨_, rfl⟩
  replace H : ((spec_l1Dent.f t220 t229 t230 t227 y231).bind fun bt234 => (some bt234.1)) = some r := by first | (rw [hy231]; with_reducible exact H) | (have H2_ := (Option.bind_some _ _).symm.trans H; rw [hy231]; with_reducible exact H2_) | (have H2_ := (Option.bind_some _ _).symm.trans H; with_reducible exact H2_) | with_reducible exact H | (rw [hy231]; exact H) | exact H
  have Ny231 := Aside0.mk hy231
  clear hy231
  replace H := Option.bind_eq_some_iff.mp H
  obtain ⟨⟨t234, t235, t236⟩, A70, H⟩ := H
  replace H : (some t234) = some r := H
  have A7 := Aside0.mk A70
  clear A70
  obtain rfl := Option.some.inj H
  go_enter Tryd.func20, Tryd.ntmps20
  go_wp2_with (first | ((with_reducible refine gate_callee (f := 29) rfl ?_); refine goesL_ (some 6) rfl rfl Tryd.func29 (by kernel_rfl) rfl #[.slice A0 l0.length c0] rfl KL ?_; (with_reducible refine (spec_l1New.calls k _ _ l0 t220 t221 t222 w _ ?side1 ?side2 ?side3 A2.out).mono ?_); (case side1 => exact KB); (case side2 => exact HR0.out); (case side3 => exact HC0.out); rintro e w8 ⟨g223, rfl, hi, hb, hb2⟩; refine ⟨_, rfl, ?_⟩; have n0_ := Aside0.mk (hb); have n1_ := Aside0.mk (hi); clear HB; have HB := n0_; have HI223 := n1_; clear n0_ n1_; (try clear hb); (try clear hb2); (try clear hk); (try clear hi)) | ((with_reducible refine gate_callee (f := 34) rfl ?_); refine goesL_ (some 8) rfl rfl Tryd.func34 (by kernel_rfl) rfl #[.pointer (some ⟨g223, 0, none⟩)] rfl KL ?_; (with_reducible refine (spec_l1DrawPlace.calls g223 t220 t221 t222 t224 t225 t226 w _ ?side1 ?side2 A3.out).mono ?_); (case side1 => exact KI54); (case side2 => exact KB54); rintro e w9 ⟨rfl, hi, hb, hk⟩; refine ⟨_, rfl, ?_⟩; have n0_ := Aside0.mk (hb); have n1_ := Aside0.mk (hi); clear HB; clear HI223; have HB := n0_; have HI223 := n1_; clear n0_ n1_; (try clear hb); (try clear hb2); (try clear hk); (try clear hi)) | ((with_reducible refine gate_callee (f := 7) rfl ?_); refine goesL_ (some 9) rfl rfl Tryd.func7 (by kernel_rfl) rfl #[.int .i64 t224] rfl KL ?_; (with_reducible refine (spec_PlaceText.calls k t224 t227 _ A4.out).mono ?_); rintro e w10 ⟨rfl, hb⟩; refine ⟨_, rfl, ?_⟩; have n0_ := Aside0.mk (IsS54.below (KI54) hb); have n1_ := Aside0.mk (below_step KB54 hb); clear HI223; clear HB; have HI223 := n0_; have HB := n1_; clear n0_ n1_; (try clear hb); (try clear hb2); (try clear hk); (try clear hi)) | ((with_reducible refine gate_callee (f := 35) rfl ?_); refine goesL_ (some 11) rfl rfl Tryd.func35 (by kernel_rfl) rfl #[.pointer (some ⟨g223, 0, none⟩), .int .i64 2] rfl KL ?_; (with_reducible refine (spec_l1Once.calls g223 t220 t225 t226 2 true t229 t230 w _ ?side1 ?side2 A5.out).mono ?_); (case side1 => exact KI54); (case side2 => exact KB54); rintro e w11 ⟨rfl, hi, hb, hk⟩; refine ⟨_, rfl, ?_⟩; have n0_ := Aside0.mk (hb); have n1_ := Aside0.mk (hi); clear HB; clear HI223; have HB := n0_; have HI223 := n1_; clear n0_ n1_; (try clear hb); (try clear hb2); (try clear hk); (try clear hi)) | ((with_reducible refine gate_dst (N := 14) rfl ?_); refine Kd.R_lit Kd.string _ 9 ?hg (N := 14) ?hd (xs := ([(⟨#[101]⟩ : ByteArray), (⟨#[46]⟩ : ByteArray), (⟨#[48]⟩ : ByteArray), (⟨#[57]⟩ : ByteArray), (⟨#[32]⟩ : ByteArray), (⟨#[54, 49]⟩ : ByteArray), (⟨#[57, 57, 57, 57, 57, 57, 57, 57, 57, 57, 57]⟩ : ByteArray)] : List ByteArray)) (inner := [.string (⟨#[101]⟩ : ByteArray), .string (⟨#[46]⟩ : ByteArray), .string (⟨#[48]⟩ : ByteArray), .string (⟨#[57]⟩ : ByteArray), .string (⟨#[32]⟩ : ByteArray), .string (⟨#[54, 49]⟩ : ByteArray), .string (⟨#[57, 57, 57, 57, 57, 57, 57, 57, 57, 57, 57]⟩ : ByteArray)]) (ok := fun _ => True) (okp := fun _ => True) ?hr ?hp (fun _ hk => hk) trivial (Below.refl _ _) (Nat.le_refl _) (by simp) ?_; (case hd => rfl); (case hg => rfl); (case hr => first | (go_simp; done) | (go_simp; rfl)); (case hp => exact (Reps.one (show Kd.M Kd.string _ _ _ (⟨#[101]⟩ : ByteArray) [.string (⟨#[101]⟩ : ByteArray)] from rfl) (Reps.one (show Kd.M Kd.string _ _ _ (⟨#[46]⟩ : ByteArray) [.string (⟨#[46]⟩ : ByteArray)] from rfl) (Reps.one (show Kd.M Kd.string _ _ _ (⟨#[48]⟩ : ByteArray) [.string (⟨#[48]⟩ : ByteArray)] from rfl) (Reps.one (show Kd.M Kd.string _ _ _ (⟨#[57]⟩ : ByteArray) [.string (⟨#[57]⟩ : ByteArray)] from rfl) (Reps.one (show Kd.M Kd.string _ _ _ (⟨#[32]⟩ : ByteArray) [.string (⟨#[32]⟩ : ByteArray)] from rfl) (Reps.one (show Kd.M Kd.string _ _ _ (⟨#[54, 49]⟩ : ByteArray) [.string (⟨#[54, 49]⟩ : ByteArray)] from rfl) (Reps.one (show Kd.M Kd.string _ _ _ (⟨#[57, 57, 57, 57, 57, 57, 57, 57, 57, 57, 57]⟩ : ByteArray) [.string (⟨#[57, 57, 57, 57, 57, 57, 57, 57, 57, 57, 57]⟩ : ByteArray)] from rfl) (Reps.none _ _))))))))); intro v232 w12 ho13 hb hg_ hnew_; clear hg_ hnew_; (first | rw [← Ny231.out] at ho13 | (simp only [Int.reduceToNat] at ho13; rw [← Ny231.out] at ho13)); have n0_ := Aside0.mk (Kd.R_lower ho13 (below_size KB54)); have n1_ := Aside0.mk (IsS54.below (KI54) hb); have n2_ := Aside0.mk (below_step KB54 hb); clear HI223; clear HB; have HO233 := n0_; have HI223 := n1_; have HB := n2_; clear n0_ n1_ n2_; clear hb ho13; obtain ⟨Ao14, co14, eo14⟩ := Kd.R_slice HO233.out; subst eo14) | ((with_reducible refine gate_callee (f := 36) rfl ?_); refine goesL_ (some 15) rfl rfl Tryd.func36 (by kernel_rfl) rfl #[.pointer (some ⟨g223, 0, none⟩), .string t227, .slice Ao14 y231.length co14] rfl KL ?_; (with_reducible refine (spec_l1Dent.calls g223 t220 t229 t230 t227 _ _ y231 t234 t235 t236 w _ ?side1 ?side2 ?side3 ?side4 ?side5 A7.out).mono ?_); (case side1 => exact KI54); (case side2 => exact KB54); (case side3 => repeat (first | exact (Kd.R_reads' HO233.out).2.2 | (with_reducible refine Kd.C_alloc ?_ _) | (with_reducible refine Kd.C_drewN ?_ _) | (with_reducible refine Kd.C_drew ?_))); (case side4 => exact (Kd.R_reads' HO233.out).2.1); (case side5 => exact far_slice (IsS54.own_ne HI223.out HO233.out (by decide))); rintro e w15 ⟨rfl, hi, hb, hk⟩; refine ⟨_, rfl, ?_⟩; have n0_ := Aside0.mk (Kd.R_mono (Kd.R_keep (IsS54.apart (show IsS54 w _ g223 t220 t229 t230 from KI54) (KR HO233.out) (by decide)) hk (fun _ h => h.2)) (fun _ h => h.1)); have n1_ := Aside0.mk (hb); have n2_ := Aside0.mk (hi); clear HO233; clear HB; clear HI223; have HO233 := n0_; have HB := n1_; have HI223 := n2_; clear n0_ n1_ n2_; (try clear hb); (try clear hb2); (try clear hk); (try clear hi)))
  go_ret
  exact ⟨KE, KB54⟩
 ·replace c6 := Bool.eq_false_iff.mpr c6
  subst c6
  have H1 : (some t227) = some r := by rw [if_neg (show ¬ (false = true) by decide)] at H; exact H
  clear H
  have H := H1
  clear H1
  obtain rfl := Option.some.inj H
  go_enter Tryd.func20, Tryd.ntmps20
  go_wp2_with (first | ((with_reducible refine gate_callee (f := 29) rfl ?_); refine goesL_ (some 6) rfl rfl Tryd.func29 (by kernel_rfl) rfl #[.slice A0 l0.length c0] rfl KL ?_; (with_reducible refine (spec_l1New.calls k _ _ l0 t220 t221 t222 w _ ?side1 ?side2 ?side3 A2.out).mono ?_); (case side1 => exact KB); (case side2 => exact HR0.out); (case side3 => exact HC0.out); rintro e w16 ⟨g223, rfl, hi, hb, hb2⟩; refine ⟨_, rfl, ?_⟩; have n0_ := Aside0.mk (hb); have n1_ := Aside0.mk (hi); clear HB; have HB := n0_; have HI223 := n1_; clear n0_ n1_; (try clear hb); (try clear hb2); (try clear hk); (try clear hi)) | ((with_reducible refine gate_callee (f := 34) rfl ?_); refine goesL_ (some 8) rfl rfl Tryd.func34 (by kernel_rfl) rfl #[.pointer (some ⟨g223, 0, none⟩)] rfl KL ?_; (with_reducible refine (spec_l1DrawPlace.calls g223 t220 t221 t222 t224 t225 t226 w _ ?side1 ?side2 A3.out).mono ?_); (case side1 => exact KI54); (case side2 => exact KB54); rintro e w17 ⟨rfl, hi, hb, hk⟩; refine ⟨_, rfl, ?_⟩; have n0_ := Aside0.mk (hb); have n1_ := Aside0.mk (hi); clear HB; clear HI223; have HB := n0_; have HI223 := n1_; clear n0_ n1_; (try clear hb); (try clear hb2); (try clear hk); (try clear hi)) | ((with_reducible refine gate_callee (f := 7) rfl ?_); refine goesL_ (some 9) rfl rfl Tryd.func7 (by kernel_rfl) rfl #[.int .i64 t224] rfl KL ?_; (with_reducible refine (spec_PlaceText.calls k t224 t227 _ A4.out).mono ?_); rintro e w18 ⟨rfl, hb⟩; refine ⟨_, rfl, ?_⟩; have n0_ := Aside0.mk (IsS54.below (KI54) hb); have n1_ := Aside0.mk (below_step KB54 hb); clear HI223; clear HB; have HI223 := n0_; have HB := n1_; clear n0_ n1_; (try clear hb); (try clear hb2); (try clear hk); (try clear hi)) | ((with_reducible refine gate_callee (f := 35) rfl ?_); refine goesL_ (some 11) rfl rfl Tryd.func35 (by kernel_rfl) rfl #[.pointer (some ⟨g223, 0, none⟩), .int .i64 2] rfl KL ?_; (with_reducible refine (spec_l1Once.calls g223 t220 t225 t226 2 false t229 t230 w _ ?side1 ?side2 A5.out).mono ?_); (case side1 => exact KI54); (case side2 => exact KB54); rintro e w19 ⟨rfl, hi, hb, hk⟩; refine ⟨_, rfl, ?_⟩; have n0_ := Aside0.mk (hb); have n1_ := Aside0.mk (hi); clear HB; clear HI223; have HB := n0_; have HI223 := n1_; clear n0_ n1_; (try clear hb); (try clear hb2); (try clear hk); (try clear hi)))
  go_ret
  exact ⟨KE, KB54⟩

end Go.Proofs.YtlmmbmhambkjlaaDoor.PFnPlaceText
