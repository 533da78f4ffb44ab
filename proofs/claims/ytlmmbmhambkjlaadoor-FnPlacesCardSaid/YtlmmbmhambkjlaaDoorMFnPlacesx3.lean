-- What each Go function that this law reaches comes to: written by a program out of the translation.
import Derived.Test.YtlmmbmhambkjlaaDoorMFnPlacesx0
import Derived.Test.YtlmmbmhambkjlaaDoorMFnPlacesx1
import Derived.Test.YtlmmbmhambkjlaaDoorMFnPlacesx2
namespace Go.Proofs.YtlmmbmhambkjlaaDoor.PFnPlaces
open Go.RowKit Go.Proofs.YtlmmbmhambkjlaaDoorW.PrintWords Go.Proofs.YtlmmbmhambkjlaaDoorW.PrintLast Go.Proofs.YtlmmbmhambkjlaaDoorW.PrintMore
attribute [local go_sem] max2_int min2_int max_two min_two max_three min_three max_four min_four   -- for this text's walks alone
set_option linter.unusedVariables false
set_option linter.unusedSimpArgs false

/-! ### spec_PlaceMake: function 14 -/
noncomputable def spec_PlaceMake.f (a0 : Int) (a1 : Int) : Option (Int × Bool) := (spec_l1In.f a0 1 30).bind fun t166 => (if t166 = true then ((spec_l1In.f a1 1 60).bind fun t167 => (if t167 = true then (some (wrap64 ((wrap64 (4294967296 * a0)) + a1), true)) else (some (0, false)))) else (some (0, false)))
set_option maxHeartbeats 8000000 in
set_option maxRecDepth 100000 in
theorem spec_PlaceMake.calls (a0 : Int) (a1 : Int) (r1 : Int) (r2 : Bool) (w : World) (h : spec_PlaceMake.f a0 a1 = some (r1, r2)) :
  Calls Tryd.prog 14 #[.int .i64 a0, .int .i64 a1] w fun e w' => e = .returned (.tuple #[.int .i64 r1, .bool r2]) ∧ Drawn0 w w' := by
 have H : ((spec_l1In.f a0 1 30).bind fun t166 => (if t166 = true then ((spec_l1In.f a1 1 60).bind fun t167 => (if t167 = true then (some (wrap64 ((wrap64 (4294967296 * a0)) + a1), true)) else (some (0, false)))) else (some (0, false)))) = some (r1, r2) := h
 clear h
 replace H := Option.bind_eq_some_iff.mp H
 obtain ⟨t166, A30, H⟩ := H
 replace H : (if t166 = true then ((spec_l1In.f a1 1 60).bind fun t167 => (if t167 = true then (some (wrap64 ((wrap64 (4294967296 * a0)) + a1), true)) else (some (0, false)))) else (some (0, false))) = some (r1, r2) := H
 have A3 := Aside0.mk A30
 clear A30
 by_cases c4 : t166 = true
 ·subst c4
  have H1 : ((spec_l1In.f a1 1 60).bind fun t167 => (if t167 = true then (some (wrap64 ((wrap64 (4294967296 * a0)) + a1), true)) else (some (0, false)))) = some (r1, r2) := by rw [if_pos rfl] at H; exact H
  clear H
  have H := H1
  clear H1
  replace H := Option.bind_eq_some_iff.mp H
  obtain ⟨t167, A50, H⟩ := H
  replace H : (if t167 = true then (some (wrap64 ((wrap64 (4294967296 * a0)) + a1), true)) else (some (0, false))) = some (r1, r2) := H
  have A5 := Aside0.mk A50
  clear A50
  by_cases c6 : t167 = true
  ·subst c6
   have H1 : (some (wrap64 ((wrap64 (4294967296 * a0)) + a1), true)) = some (r1, r2) := by rw [if_pos rfl] at H; exact H
   clear H
   have H := H1
   clear H1
   simp only [Option.some.injEq, Prod.mk.injEq] at H
   obtain ⟨rfl, rfl⟩ := H
   go_enter Tryd.func14, Tryd.ntmps14
   go_wp2_with (first | ((with_reducible refine gate_callee (f := 33) rfl ?_); refine goesL_ (some 7) rfl rfl Tryd.func33 (by kernel_rfl) rfl #[.int .i64 a0, .int .i64 1, .int .i64 30] rfl KL ?_; (with_reducible refine (spec_l1In.calls a0 1 30 true _ A3.out).mono ?_); rintro e w' ⟨rfl, ⟨nd, rfl⟩⟩; refine ⟨_, rfl, ?_⟩) | (go_at_call 33; (with_reducible refine (spec_l1In.calls a1 1 60 true _ A5.out).mono ?_); rintro e w' ⟨rfl, ⟨nd, rfl⟩⟩))
   go_ret2
   exact ⟨by first | rfl | (simp; done) | (simp [*]; done), by repeat (first | exact Drawn0.refl _ | apply Drawn0.step)⟩
  ·replace c6 := Bool.eq_false_iff.mpr c6
   subst c6
   have H1 : (some (0, false)) = some (r1, r2) := by rw [if_neg (show ¬ (false = true) by decide)] at H; exact H
   clear H
   have H := H1
   clear H1
   simp only [Option.some.injEq, Prod.mk.injEq] at H
   obtain ⟨rfl, rfl⟩ := H
   go_enter Tryd.func14, Tryd.ntmps14
   go_wp2_with (first | ((with_reducible refine gate_callee (f := 33) rfl ?_); refine goesL_ (some 7) rfl rfl Tryd.func33 (by kernel_rfl) rfl #[.int .i64 a0, .int .i64 1, .int .i64 30] rfl KL ?_; (with_reducible refine (spec_l1In.calls a0 1 30 true _ A3.out).mono ?_); rintro e w' ⟨rfl, ⟨nd, rfl⟩⟩; refine ⟨_, rfl, ?_⟩) | (go_at_call 33; (with_reducible refine (spec_l1In.calls a1 1 60 false _ A5.out).mono ?_); rintro e w' ⟨rfl, ⟨nd, rfl⟩⟩))
   go_ret2
   exact ⟨by first | rfl | (simp; done) | (simp [*]; done), by repeat (first | exact Drawn0.refl _ | apply Drawn0.step)⟩
 ·replace c4 := Bool.eq_false_iff.mpr c4
  subst c4
  have H1 : (some (0, false)) = some (r1, r2) := by rw [if_neg (show ¬ (false = true) by decide)] at H; exact H
  clear H
  have H := H1
  clear H1
  simp only [Option.some.injEq, Prod.mk.injEq] at H
  obtain ⟨rfl, rfl⟩ := H
  go_enter Tryd.func14, Tryd.ntmps14
  go_wp2_with (first | ((with_reducible refine gate_callee (f := 33) rfl ?_); refine goesL_ (some 7) rfl rfl Tryd.func33 (by kernel_rfl) rfl #[.int .i64 a0, .int .i64 1, .int .i64 30] rfl KL ?_; (with_reducible refine (spec_l1In.calls a0 1 30 false _ A3.out).mono ?_); rintro e w' ⟨rfl, ⟨nd, rfl⟩⟩; refine ⟨_, rfl, ?_⟩))
  go_ret2
  exact ⟨by first | rfl | (simp; done) | (simp [*]; done), by repeat (first | exact Drawn0.refl _ | apply Drawn0.step)⟩

/-! ### spec_l1Place: function 43 -/
noncomputable def spec_l1Place.f (a0 : Int) (a1 : Int) : Option (Int) := some (wrap64 ((wrap64 (4294967296 * a0)) + a1))
set_option maxHeartbeats 8000000 in
set_option maxRecDepth 100000 in
theorem spec_l1Place.calls (a0 : Int) (a1 : Int) (r : Int) (w : World) (h : spec_l1Place.f a0 a1 = some r) :
  Calls Tryd.prog 43 #[.int .i64 a0, .int .i64 a1] w fun e w' => e = .returned (.int .i64 r) ∧ Drawn0 w w' := by
 have H : (some (wrap64 ((wrap64 (4294967296 * a0)) + a1))) = some r := h
 clear h
 obtain rfl := Option.some.inj H
 go_enter Tryd.func43, Tryd.ntmps43
 go_wp2
 go_ret
 exact ⟨by first | rfl | (simp; done) | (simp [*]; done), by repeat (first | exact Drawn0.refl _ | apply Drawn0.step)⟩

/-! ### spec_l1DrawPlace: function 34 -/
noncomputable def spec_l1DrawPlace.f (s0_0 : List Int) (s0_1 : Int) (s0_2 : Int) : Option (Int × Int × Int) := (spec_l1Below.f s0_0 s0_1 s0_2 3).bind fun bt168 => ((spec_l1Below.f s0_0 bt168.2.1 bt168.2.2 6).bind fun bt171 => ((spec_l1Place.f (wrap64 (1 + bt168.1)) (wrap64 (1 + bt171.1))).bind fun t174 => ((spec_l1Below.f s0_0 bt171.2.1 bt171.2.2 15).bind fun bt175 => (if bt175.1 = 0 then ((spec_l1PickInt.f s0_0 bt175.2.1 bt175.2.2 (([0, (-1), 4294967296, 4294967297, 9223372036854775807, (-9223372036854775808)] : List Int))).bind fun bt181 => (some (bt181.1, bt181.2.1, bt181.2.2))) else (if bt175.1 = 1 then ((spec_l1PickInt.f s0_0 bt175.2.1 bt175.2.2 (([0, 30, 31] : List Int))).bind fun bt187 => ((spec_l1PickInt.f s0_0 bt187.2.1 bt187.2.2 (([0, 60, 61] : List Int))).bind fun bt193 => ((spec_l1Place.f bt187.1 bt193.1).bind fun t196 => (some (t196, bt193.2.1, bt193.2.2))))) else (some (t174, bt175.2.1, bt175.2.2)))))))
set_option maxHeartbeats 8000000 in
set_option maxRecDepth 100000 in
theorem spec_l1DrawPlace.calls (g : Nat) (s0_0 : List Int) (s0_1 : Int) (s0_2 : Int) (r1 : Int) (r2 : Int) (r3 : Int) (w0 w : World) (hI : IsS54 w0 w g s0_0 s0_1 s0_2) (hB : Below w0.heap.size w0 w) (h : spec_l1DrawPlace.f s0_0 s0_1 s0_2 = some (r1, r2, r3)) :
  Calls Tryd.prog 34 #[.pointer (some ⟨g, 0, none⟩)] w fun e w' => e = .returned (.int .i64 r1) ∧ IsS54 w0 w' g s0_0 r2 r3 ∧ Below w0.heap.size w0 w' ∧ KeepBut w w' g none := by
 have HI0 := Aside0.mk hI
 have HK := Aside0.mk (KeepBut.refl w g none)
 have HL := Aside0.mk hB.size
 clear hI
 have HW0 := Aside0.mk hB.size
 have HB := Aside0.mk hB
 clear hB
 have H : ((spec_l1Below.f s0_0 s0_1 s0_2 3).bind fun bt168 => ((spec_l1Below.f s0_0 bt168.2.1 bt168.2.2 6).bind fun bt171 => ((spec_l1Place.f (wrap64 (1 + bt168.1)) (wrap64 (1 + bt171.1))).bind fun t174 => ((spec_l1Below.f s0_0 bt171.2.1 bt171.2.2 15).bind fun bt175 => (if bt175.1 = 0 then ((spec_l1PickInt.f s0_0 bt175.2.1 bt175.2.2 (([0, (-1), 4294967296, 4294967297, 9223372036854775807, (-9223372036854775808)] : List Int))).bind fun bt181 => (some (bt181.1, bt181.2.1, bt181.2.2))) else (if bt175.1 = 1 then ((spec_l1PickInt.f s0_0 bt175.2.1 bt175.2.2 (([0, 30, 31] : List Int))).bind fun bt187 => ((spec_l1PickInt.f s0_0 bt187.2.1 bt187.2.2 (([0, 60, 61] : List Int))).bind fun bt193 => ((spec_l1Place.f bt187.1 bt193.1).bind fun t196 => (some (t196, bt193.2.1, bt193.2.2))))) else (some (t174, bt175.2.1, bt175.2.2)))))))) = some (r1, r2, r3) := h
 clear h
 replace H := Option.bind_eq_some_iff.mp H
 obtain ⟨⟨t168, t169, t170⟩, A20, H⟩ := H
 replace H : ((spec_l1Below.f s0_0 t169 t170 6).bind fun bt171 => ((spec_l1Place.f (wrap64 (1 + t168)) (wrap64 (1 + bt171.1))).bind fun t174 => ((spec_l1Below.f s0_0 bt171.2.1 bt171.2.2 15).bind fun bt175 => (if bt175.1 = 0 then ((spec_l1PickInt.f s0_0 bt175.2.1 bt175.2.2 (([0, (-1), 4294967296, 4294967297, 9223372036854775807, (-9223372036854775808)] : List Int))).bind fun bt181 => (some (bt181.1, bt181.2.1, bt181.2.2))) else (if bt175.1 = 1 then ((spec_l1PickInt.f s0_0 bt175.2.1 bt175.2.2 (([0, 30, 31] : List Int))).bind fun bt187 => ((spec_l1PickInt.f s0_0 bt187.2.1 bt187.2.2 (([0, 60, 61] : List Int))).bind fun bt193 => ((spec_l1Place.f bt187.1 bt193.1).bind fun t196 => (some (t196, bt193.2.1, bt193.2.2))))) else (some (t174, bt175.2.1, bt175.2.2))))))) = some (r1, r2, r3) := H
 have A2 := Aside0.mk A20
 clear A20
 replace H := Option.bind_eq_some_iff.mp H
 obtain ⟨⟨t171, t172, t173⟩, A30, H⟩ := H
 replace H : ((spec_l1Place.f (wrap64 (1 + t168)) (wrap64 (1 + t171))).bind fun t174 => ((spec_l1Below.f s0_0 t172 t173 15).bind fun bt175 => (if bt175.1 = 0 then ((spec_l1PickInt.f s0_0 bt175.2.1 bt175.2.2 (([0, (-1), 4294967296, 4294967297, 9223372036854775807, (-9223372036854775808)] : List Int))).bind fun bt181 => (some (bt181.1, bt181.2.1, bt181.2.2))) else (if bt175.1 = 1 then ((spec_l1PickInt.f s0_0 bt175.2.1 bt175.2.2 (([0, 30, 31] : List Int))).bind fun bt187 => ((spec_l1PickInt.f s0_0 bt187.2.1 bt187.2.2 (([0, 60, 61] : List Int))).bind fun bt193 => ((spec_l1Place.f bt187.1 bt193.1).bind fun t196 => (some (t196, bt193.2.1, bt193.2.2))))) else (some (t174, bt175.2.1, bt175.2.2)))))) = some (r1, r2, r3) := H
 have A3 := Aside0.mk A30
 clear A30
 replace H := Option.bind_eq_some_iff.mp H
 obtain ⟨t174, A40, H⟩ := H
 replace H : ((spec_l1Below.f s0_0 t172 t173 15).bind fun bt175 => (if bt175.1 = 0 then ((spec_l1PickInt.f s0_0 bt175.2.1 bt175.2.2 (([0, (-1), 4294967296, 4294967297, 9223372036854775807, (-9223372036854775808)] : List Int))).bind fun bt181 => (some (bt181.1, bt181.2.1, bt181.2.2))) else (if bt175.1 = 1 then ((spec_l1PickInt.f s0_0 bt175.2.1 bt175.2.2 (([0, 30, 31] : List Int))).bind fun bt187 => ((spec_l1PickInt.f s0_0 bt187.2.1 bt187.2.2 (([0, 60, 61] : List Int))).bind fun bt193 => ((spec_l1Place.f bt187.1 bt193.1).bind fun t196 => (some (t196, bt193.2.1, bt193.2.2))))) else (some (t174, bt175.2.1, bt175.2.2))))) = some (r1, r2, r3) := H
 have A4 := Aside0.mk A40
 clear A40
 replace H := Option.bind_eq_some_iff.mp H
 obtain ⟨⟨t175, t176, t177⟩, A50, H⟩ := H
 replace H : (if t175 = 0 then ((spec_l1PickInt.f s0_0 t176 t177 (([0, (-1), 4294967296, 4294967297, 9223372036854775807, (-9223372036854775808)] : List Int))).bind fun bt181 => (some (bt181.1, bt181.2.1, bt181.2.2))) else (if t175 = 1 then ((spec_l1PickInt.f s0_0 t176 t177 (([0, 30, 31] : List Int))).bind fun bt187 => ((spec_l1PickInt.f s0_0 bt187.2.1 bt187.2.2 (([0, 60, 61] : List Int))).bind fun bt193 => ((spec_l1Place.f bt187.1 bt193.1).bind fun t196 => (some (t196, bt193.2.1, bt193.2.2))))) else (some (t174, t176, t177)))) = some (r1, r2, r3) := H
 have A5 := Aside0.mk A50
 clear A50
 by_cases c6 : t175 = 0
 ·rw [if_pos c6] at H
  have c6b0 : (t175 == 0) = true := beq_iff_eq.mpr c6
  have c6b1 : (t175 != 0) = false := bne_eq_false_iff_eq.mpr c6
  clear c6
  obtain ⟨y178, hy178⟩ : ∃ y_ : List Int, y_ = (([0, (-1), 4294967296, 4294967297, 9223372036854775807, (-9223372036854775808)] : List Int)) := ⟨_, rfl⟩
  replace H : ((spec_l1PickInt.f s0_0 t176 t177 y178).bind fun bt181 => (some (bt181.1, bt181.2.1, bt181.2.2))) = some (r1, r2, r3) := by first | (rw [hy178]; with_reducible exact H) | (have H2_ := (Option.bind_some _ _).symm.trans H; rw [hy178]; with_reducible exact H2_) | (have H2_ := (Option.bind_some _ _).symm.trans H; with_reducible exact H2_) | with_reducible exact H | (rw [hy178]; exact H) | exact H
  have Ny178 := Aside0.mk hy178
  clear hy178
  replace H := Option.bind_eq_some_iff.mp H
  obtain ⟨⟨t181, t182, t183⟩, A70, H⟩ := H
  replace H : (some (t181, t182, t183)) = some (r1, r2, r3) := H
  have A7 := Aside0.mk A70
  clear A70
  simp only [Option.some.injEq, Prod.mk.injEq] at H
  obtain ⟨rfl, rfl, rfl⟩ := H
  go_enter Tryd.func34, Tryd.ntmps34
  go_wp2_with (first | ((with_reducible refine gate_callee (f := 41) rfl ?_); refine goesL_ (some 5) rfl rfl Tryd.func41 (by kernel_rfl) rfl #[.pointer (some ⟨g, 0, none⟩), .int .i64 3] rfl KL ?_; (with_reducible refine (spec_l1Below.calls g s0_0 s0_1 s0_2 3 t168 t169 t170 w0 _ ?side1 ?side2 A2.out).mono ?_); (case side1 => exact KI54); (case side2 => exact KB54); rintro e w8 ⟨rfl, hi, hb, hk⟩; refine ⟨_, rfl, ?_⟩; have n0_ := Aside0.mk (KeepBut.trans KH hk (.inl rfl)); have n1_ := Aside0.mk (hb); have n2_ := Aside0.mk (hi); clear HK; clear HB; clear HI0; have HK := n0_; have HB := n1_; have HI0 := n2_; clear n0_ n1_ n2_; (try clear hb); (try clear hb2); (try clear hk); (try clear hi)) | ((with_reducible refine gate_callee (f := 41) rfl ?_); refine goesL_ (some 8) rfl rfl Tryd.func41 (by kernel_rfl) rfl #[.pointer (some ⟨g, 0, none⟩), .int .i64 6] rfl KL ?_; (with_reducible refine (spec_l1Below.calls g s0_0 t169 t170 6 t171 t172 t173 w0 _ ?side1 ?side2 A3.out).mono ?_); (case side1 => exact KI54); (case side2 => exact KB54); rintro e w9 ⟨rfl, hi, hb, hk⟩; refine ⟨_, rfl, ?_⟩; have n0_ := Aside0.mk (KeepBut.trans KH hk (.inl rfl)); have n1_ := Aside0.mk (hb); have n2_ := Aside0.mk (hi); clear HK; clear HB; clear HI0; have HK := n0_; have HB := n1_; have HI0 := n2_; clear n0_ n1_ n2_; (try clear hb); (try clear hb2); (try clear hk); (try clear hi)) | ((with_reducible refine gate_callee (f := 43) rfl ?_); refine goesL_ (some 10) rfl rfl Tryd.func43 (by kernel_rfl) rfl #[.int .i64 (wrap64 (1 + t168)), .int .i64 (wrap64 (1 + t171))] rfl KL ?_; (with_reducible refine (spec_l1Place.calls (wrap64 (1 + t168)) (wrap64 (1 + t171)) t174 _ A4.out).mono ?_); rintro e w' ⟨rfl, ⟨nd, rfl⟩⟩; refine ⟨_, rfl, ?_⟩) | ((with_reducible refine gate_callee (f := 41) rfl ?_); refine goesL_ (some 12) rfl rfl Tryd.func41 (by kernel_rfl) rfl #[.pointer (some ⟨g, 0, none⟩), .int .i64 15] rfl KL ?_; (with_reducible refine (spec_l1Below.calls g s0_0 t172 t173 15 t175 t176 t177 w0 _ ?side1 ?side2 A5.out).mono ?_); (case side1 => exact KI54); (case side2 => exact KB54); rintro e w10 ⟨rfl, hi, hb, hk⟩; refine ⟨_, rfl, ?_⟩; have n0_ := Aside0.mk (KeepBut.trans KH hk (.inl rfl)); have n1_ := Aside0.mk (hb); have n2_ := Aside0.mk (hi); clear HK; clear HB; clear HI0; have HK := n0_; have HB := n1_; have HI0 := n2_; clear n0_ n1_ n2_; (try clear hb); (try clear hb2); (try clear hk); (try clear hi)) | ((with_reducible refine gate_dst (N := 16) rfl ?_); refine Kd.R_lit (Kd.int .i64) _ 3 ?hg (N := 16) ?hd (xs := ([0, (-1), 4294967296, 4294967297, 9223372036854775807, (-9223372036854775808)] : List Int)) (inner := [.int .i64 0, .int .i64 (-1), .int .i64 4294967296, .int .i64 4294967297, .int .i64 9223372036854775807, .int .i64 (-9223372036854775808)]) (ok := fun _ => True) (okp := fun _ => True) ?hr ?hp (fun _ hk => hk) trivial (Below.refl _ _) (Nat.le_refl _) (by simp) ?_; (case hd => rfl); (case hg => rfl); (case hr => first | (go_simp; done) | (go_simp; rfl)); (case hp => exact (Reps.one (show Kd.M (Kd.int .i64) _ _ _ 0 [.int .i64 0] from rfl) (Reps.one (show Kd.M (Kd.int .i64) _ _ _ (-1) [.int .i64 (-1)] from rfl) (Reps.one (show Kd.M (Kd.int .i64) _ _ _ 4294967296 [.int .i64 4294967296] from rfl) (Reps.one (show Kd.M (Kd.int .i64) _ _ _ 4294967297 [.int .i64 4294967297] from rfl) (Reps.one (show Kd.M (Kd.int .i64) _ _ _ 9223372036854775807 [.int .i64 9223372036854775807] from rfl) (Reps.one (show Kd.M (Kd.int .i64) _ _ _ (-9223372036854775808) [.int .i64 (-9223372036854775808)] from rfl) (Reps.none _ _)))))))); intro v179 w11 ho12 hb hg_ hnew_; clear hg_ hnew_; (first | rw [← Ny178.out] at ho12 | (simp only [Int.reduceToNat] at ho12; rw [← Ny178.out] at ho12)); have n0_ := Aside0.mk (Kd.R_lower ho12 (keep_size (w := w) (g := g) (row := none) KH)); have n1_ := Aside0.mk (IsS54.below (KI54) hb); have n2_ := Aside0.mk (KeepBut.trans KH (KeepBut.of_below hb g none) (.inl rfl)); have n3_ := Aside0.mk (below_step KB54 hb); clear HI0; clear HK; clear HB; have HO180 := n0_; have HI0 := n1_; have HK := n2_; have HB := n3_; clear n0_ n1_ n2_ n3_; clear hb ho12; obtain ⟨Ao13, co13, eo13⟩ := Kd.R_slice HO180.out; subst eo13) | ((with_reducible refine gate_callee (f := 30) rfl ?_); refine goesL_ (some 17) rfl rfl Tryd.func30 (by kernel_rfl) rfl #[.pointer (some ⟨g, 0, none⟩), .slice Ao13 y178.length co13] rfl KL ?_; (with_reducible refine (spec_l1PickInt.calls g s0_0 t176 t177 _ _ y178 t181 t182 t183 w0 _ ?side1 ?side2 ?side3 ?side4 ?side5 A7.out).mono ?_); (case side1 => exact KI54); (case side2 => exact KB54); (case side3 => repeat (first | exact (Kd.R_reads' HO180.out).2.2 | (with_reducible refine Kd.C_alloc ?_ _) | (with_reducible refine Kd.C_drewN ?_ _) | (with_reducible refine Kd.C_drew ?_))); (case side4 => exact (Kd.R_reads' HO180.out).2.1); (case side5 => exact far_slice (IsS54.own_ne HI0.out HO180.out (by decide))); rintro e w14 ⟨rfl, hi, hb, hk⟩; refine ⟨_, rfl, ?_⟩; have n0_ := Aside0.mk (Kd.R_mono (Kd.R_keep (IsS54.apart (show IsS54 w0 _ g s0_0 t176 t177 from KI54) (KR HO180.out) (by decide)) hk (fun _ h => h.2)) (fun _ h => h.1)); have n1_ := Aside0.mk (KeepBut.trans KH hk (.inl rfl)); have n2_ := Aside0.mk (hb); have n3_ := Aside0.mk (hi); clear HO180; clear HK; clear HB; clear HI0; have HO180 := n0_; have HK := n1_; have HB := n2_; have HI0 := n3_; clear n0_ n1_ n2_ n3_; (try clear hb); (try clear hb2); (try clear hk); (try clear hi)))
  go_ret
  exact ⟨KE, KI54, KB54, KH⟩
 ·rw [if_neg c6] at H
  have c6b0 : (t175 == 0) = false := beq_eq_false_iff_ne.mpr c6
  have c6b1 : (t175 != 0) = true := bne_iff_ne.mpr c6
  by_cases c15 : t175 = 1
  ·rw [if_pos c15] at H
   have c15b0 : (t175 == 1) = true := beq_iff_eq.mpr c15
   have c15b1 : (t175 != 1) = false := bne_eq_false_iff_eq.mpr c15
   clear c15
   obtain ⟨y184, hy184⟩ : ∃ y_ : List Int, y_ = (([0, 30, 31] : List Int)) := ⟨_, rfl⟩
   replace H : ((spec_l1PickInt.f s0_0 t176 t177 y184).bind fun bt187 => ((spec_l1PickInt.f s0_0 bt187.2.1 bt187.2.2 (([0, 60, 61] : List Int))).bind fun bt193 => ((spec_l1Place.f bt187.1 bt193.1).bind fun t196 => (some (t196, bt193.2.1, bt193.2.2))))) = some (r1, r2, r3) := by first | (rw [hy184]; with_reducible exact H) | (have H2_ := (Option.bind_some _ _).symm.trans H; rw [hy184]; with_reducible exact H2_) | (have H2_ := (Option.bind_some _ _).symm.trans H; with_reducible exact H2_) | with_reducible exact H | (rw [hy184]; exact H) | exact H
   have Ny184 := Aside0.mk hy184
   clear hy184
   replace H := Option.bind_eq_some_iff.mp H
   obtain ⟨⟨t187, t188, t189⟩, A160, H⟩ := H
   replace H : ((spec_l1PickInt.f s0_0 t188 t189 (([0, 60, 61] : List Int))).bind fun bt193 => ((spec_l1Place.f t187 bt193.1).bind fun t196 => (some (t196, bt193.2.1, bt193.2.2)))) = some (r1, r2, r3) := H
   have A16 := Aside0.mk A160
   clear A160
   obtain ⟨y190, hy190⟩ : ∃ y_ : List Int, y_ = (([0, 60, 61] : List Int)) := ⟨_, rfl⟩
   replace H : ((spec_l1PickInt.f s0_0 t188 t189 y190).bind fun bt193 => ((spec_l1Place.f t187 bt193.1).bind fun t196 => (some (t196, bt193.2.1, bt193.2.2)))) = some (r1, r2, r3) := by first | (rw [hy190]; with_reducible exact H) | (have H2_ := (Option.bind_some _ _).symm.trans H; rw [hy190]; with_reducible exact H2_) | (have H2_ := (Option.bind_some _ _).symm.trans H; with_reducible exact H2_) | with_reducible exact H | (rw [hy190]; exact H) | exact H
   have Ny190 := Aside0.mk hy190
   clear hy190
   replace H := Option.bind_eq_some_iff.mp H
   obtain ⟨⟨t193, t194, t195⟩, A170, H⟩ := H
   replace H : ((spec_l1Place.f t187 t193).bind fun t196 => (some (t196, t194, t195))) = some (r1, r2, r3) := H
   have A17 := Aside0.mk A170
   clear A170
   replace H := Option.bind_eq_some_iff.mp H
   obtain ⟨t196, A180, H⟩ := H
   replace H : (some (t196, t194, t195)) = some (r1, r2, r3) := H
   have A18 := Aside0.mk A180
   clear A180
   simp only [Option.some.injEq, Prod.mk.injEq] at H
   obtain ⟨rfl, rfl, rfl⟩ := H
   go_enter Tryd.func34, Tryd.ntmps34
   go_wp2_with (first | ((with_reducible refine gate_callee (f := 41) rfl ?_); refine goesL_ (some 5) rfl rfl Tryd.func41 (by kernel_rfl) rfl #[.pointer (some ⟨g, 0, none⟩), .int .i64 3] rfl KL ?_; (with_reducible refine (spec_l1Below.calls g s0_0 s0_1 s0_2 3 t168 t169 t170 w0 _ ?side1 ?side2 A2.out).mono ?_); (case side1 => exact KI54); (case side2 => exact KB54); rintro e w19 ⟨rfl, hi, hb, hk⟩; refine ⟨_, rfl, ?_⟩; have n0_ := Aside0.mk (KeepBut.trans KH hk (.inl rfl)); have n1_ := Aside0.mk (hb); have n2_ := Aside0.mk (hi); clear HK; clear HB; clear HI0; have HK := n0_; have HB := n1_; have HI0 := n2_; clear n0_ n1_ n2_; (try clear hb); (try clear hb2); (try clear hk); (try clear hi)) | ((with_reducible refine gate_callee (f := 41) rfl ?_); refine goesL_ (some 8) rfl rfl Tryd.func41 (by kernel_rfl) rfl #[.pointer (some ⟨g, 0, none⟩), .int .i64 6] rfl KL ?_; (with_reducible refine (spec_l1Below.calls g s0_0 t169 t170 6 t171 t172 t173 w0 _ ?side1 ?side2 A3.out).mono ?_); (case side1 => exact KI54); (case side2 => exact KB54); rintro e w20 ⟨rfl, hi, hb, hk⟩; refine ⟨_, rfl, ?_⟩; have n0_ := Aside0.mk (KeepBut.trans KH hk (.inl rfl)); have n1_ := Aside0.mk (hb); have n2_ := Aside0.mk (hi); clear HK; clear HB; clear HI0; have HK := n0_; have HB := n1_; have HI0 := n2_; clear n0_ n1_ n2_; (try clear hb); (try clear hb2); (try clear hk); (try clear hi)) | ((with_reducible refine gate_callee (f := 43) rfl ?_); refine goesL_ (some 10) rfl rfl Tryd.func43 (by kernel_rfl) rfl #[.int .i64 (wrap64 (1 + t168)), .int .i64 (wrap64 (1 + t171))] rfl KL ?_; (with_reducible refine (spec_l1Place.calls (wrap64 (1 + t168)) (wrap64 (1 + t171)) t174 _ A4.out).mono ?_); rintro e w' ⟨rfl, ⟨nd, rfl⟩⟩; refine ⟨_, rfl, ?_⟩) | ((with_reducible refine gate_callee (f := 41) rfl ?_); refine goesL_ (some 12) rfl rfl Tryd.func41 (by kernel_rfl) rfl #[.pointer (some ⟨g, 0, none⟩), .int .i64 15] rfl KL ?_; (with_reducible refine (spec_l1Below.calls g s0_0 t172 t173 15 t175 t176 t177 w0 _ ?side1 ?side2 A5.out).mono ?_); (case side1 => exact KI54); (case side2 => exact KB54); rintro e w21 ⟨rfl, hi, hb, hk⟩; refine ⟨_, rfl, ?_⟩; have n0_ := Aside0.mk (KeepBut.trans KH hk (.inl rfl)); have n1_ := Aside0.mk (hb); have n2_ := Aside0.mk (hi); clear HK; clear HB; clear HI0; have HK := n0_; have HB := n1_; have HI0 := n2_; clear n0_ n1_ n2_; (try clear hb); (try clear hb2); (try clear hk); (try clear hi)) | ((with_reducible refine gate_dst (N := 21) rfl ?_); refine Kd.R_lit (Kd.int .i64) _ 3 ?hg (N := 21) ?hd (xs := ([0, 30, 31] : List Int)) (inner := [.int .i64 0, .int .i64 30, .int .i64 31]) (ok := fun _ => True) (okp := fun _ => True) ?hr ?hp (fun _ hk => hk) trivial (Below.refl _ _) (Nat.le_refl _) (by simp) ?_; (case hd => rfl); (case hg => rfl); (case hr => first | (go_simp; done) | (go_simp; rfl)); (case hp => exact (Reps.one (show Kd.M (Kd.int .i64) _ _ _ 0 [.int .i64 0] from rfl) (Reps.one (show Kd.M (Kd.int .i64) _ _ _ 30 [.int .i64 30] from rfl) (Reps.one (show Kd.M (Kd.int .i64) _ _ _ 31 [.int .i64 31] from rfl) (Reps.none _ _))))); intro v185 w22 ho23 hb hg_ hnew_; clear hg_ hnew_; (first | rw [← Ny184.out] at ho23 | (simp only [Int.reduceToNat] at ho23; rw [← Ny184.out] at ho23)); have n0_ := Aside0.mk (Kd.R_lower ho23 (keep_size (w := w) (g := g) (row := none) KH)); have n1_ := Aside0.mk (IsS54.below (KI54) hb); have n2_ := Aside0.mk (KeepBut.trans KH (KeepBut.of_below hb g none) (.inl rfl)); have n3_ := Aside0.mk (below_step KB54 hb); clear HI0; clear HK; clear HB; have HO186 := n0_; have HI0 := n1_; have HK := n2_; have HB := n3_; clear n0_ n1_ n2_ n3_; clear hb ho23; obtain ⟨Ao24, co24, eo24⟩ := Kd.R_slice HO186.out; subst eo24) | ((with_reducible refine gate_callee (f := 30) rfl ?_); refine goesL_ (some 22) rfl rfl Tryd.func30 (by kernel_rfl) rfl #[.pointer (some ⟨g, 0, none⟩), .slice Ao24 y184.length co24] rfl KL ?_; (with_reducible refine (spec_l1PickInt.calls g s0_0 t176 t177 _ _ y184 t187 t188 t189 w0 _ ?side1 ?side2 ?side3 ?side4 ?side5 A16.out).mono ?_); (case side1 => exact KI54); (case side2 => exact KB54); (case side3 => repeat (first | exact (Kd.R_reads' HO186.out).2.2 | (with_reducible refine Kd.C_alloc ?_ _) | (with_reducible refine Kd.C_drewN ?_ _) | (with_reducible refine Kd.C_drew ?_))); (case side4 => exact (Kd.R_reads' HO186.out).2.1); (case side5 => exact far_slice (IsS54.own_ne HI0.out HO186.out (by decide))); rintro e w25 ⟨rfl, hi, hb, hk⟩; refine ⟨_, rfl, ?_⟩; have n0_ := Aside0.mk (Kd.R_mono (Kd.R_keep (IsS54.apart (show IsS54 w0 _ g s0_0 t176 t177 from KI54) (KR HO186.out) (by decide)) hk (fun _ h => h.2)) (fun _ h => h.1)); have n1_ := Aside0.mk (KeepBut.trans KH hk (.inl rfl)); have n2_ := Aside0.mk (hb); have n3_ := Aside0.mk (hi); clear HO186; clear HK; clear HB; clear HI0; have HO186 := n0_; have HK := n1_; have HB := n2_; have HI0 := n3_; clear n0_ n1_ n2_ n3_; (try clear hb); (try clear hb2); (try clear hk); (try clear hi)) | ((with_reducible refine gate_dst (N := 24) rfl ?_); refine Kd.R_lit (Kd.int .i64) _ 3 ?hg (N := 24) ?hd (xs := ([0, 60, 61] : List Int)) (inner := [.int .i64 0, .int .i64 60, .int .i64 61]) (ok := fun _ => True) (okp := fun _ => True) ?hr ?hp (fun _ hk => hk) trivial (Below.refl _ _) (Nat.le_refl _) (by simp) ?_; (case hd => rfl); (case hg => rfl); (case hr => first | (go_simp; done) | (go_simp; rfl)); (case hp => exact (Reps.one (show Kd.M (Kd.int .i64) _ _ _ 0 [.int .i64 0] from rfl) (Reps.one (show Kd.M (Kd.int .i64) _ _ _ 60 [.int .i64 60] from rfl) (Reps.one (show Kd.M (Kd.int .i64) _ _ _ 61 [.int .i64 61] from rfl) (Reps.none _ _))))); intro v191 w26 ho27 hb hg_ hnew_; clear hg_ hnew_; (first | rw [← Ny190.out] at ho27 | (simp only [Int.reduceToNat] at ho27; rw [← Ny190.out] at ho27)); have n0_ := Aside0.mk (Kd.R_elder' (KR HO186.out) (Kd.R_base ho27) hb); have n1_ := Aside0.mk (Kd.R_lower (Kd.R_new' ho27 (Kd.R_lt (KR HO186.out))) (keep_size (w := w) (g := g) (row := none) KH)); have n2_ := Aside0.mk (IsS54.below (KI54) hb); have n3_ := Aside0.mk (KeepBut.trans KH (KeepBut.of_below hb g none) (.inl rfl)); have n4_ := Aside0.mk (below_step KB54 hb); clear HO186; clear HI0; clear HK; clear HB; have HO186 := n0_; have HO192 := n1_; have HI0 := n2_; have HK := n3_; have HB := n4_; clear n0_ n1_ n2_ n3_ n4_; clear hb ho27; obtain ⟨Ao28, co28, eo28⟩ := Kd.R_slice HO192.out; subst eo28) | ((with_reducible refine gate_callee (f := 30) rfl ?_); refine goesL_ (some 25) rfl rfl Tryd.func30 (by kernel_rfl) rfl #[.pointer (some ⟨g, 0, none⟩), .slice Ao28 y190.length co28] rfl KL ?_; (with_reducible refine (spec_l1PickInt.calls g s0_0 t188 t189 _ _ y190 t193 t194 t195 w0 _ ?side1 ?side2 ?side3 ?side4 ?side5 A17.out).mono ?_); (case side1 => exact KI54); (case side2 => exact KB54); (case side3 => repeat (first | exact (Kd.R_reads' HO192.out).2.2 | (with_reducible refine Kd.C_alloc ?_ _) | (with_reducible refine Kd.C_drewN ?_ _) | (with_reducible refine Kd.C_drew ?_))); (case side4 => exact (Kd.R_reads' HO192.out).2.1); (case side5 => exact far_slice (IsS54.own_ne HI0.out HO192.out (by decide))); rintro e w29 ⟨rfl, hi, hb, hk⟩; refine ⟨_, rfl, ?_⟩; have n0_ := Aside0.mk (Kd.R_mono (Kd.R_keep (IsS54.apart (show IsS54 w0 _ g s0_0 t188 t189 from KI54) (KR HO186.out) (by decide)) hk (fun _ h => h.2)) (fun _ h => h.1)); have n1_ := Aside0.mk (Kd.R_mono (Kd.R_keep (IsS54.apart (show IsS54 w0 _ g s0_0 t188 t189 from KI54) (KR HO192.out) (by decide)) hk (fun _ h => h.2)) (fun _ h => h.1)); have n2_ := Aside0.mk (KeepBut.trans KH hk (.inl rfl)); have n3_ := Aside0.mk (hb); have n4_ := Aside0.mk (hi); clear HO186; clear HO192; clear HK; clear HB; clear HI0; have HO186 := n0_; have HO192 := n1_; have HK := n2_; have HB := n3_; have HI0 := n4_; clear n0_ n1_ n2_ n3_ n4_; (try clear hb); (try clear hb2); (try clear hk); (try clear hi)) | ((with_reducible refine gate_callee (f := 43) rfl ?_); refine goesL_ (some 26) rfl rfl Tryd.func43 (by kernel_rfl) rfl #[.int .i64 t187, .int .i64 t193] rfl KL ?_; (with_reducible refine (spec_l1Place.calls t187 t193 t196 _ A18.out).mono ?_); rintro e w' ⟨rfl, ⟨nd, rfl⟩⟩; refine ⟨_, rfl, ?_⟩))
   go_ret
   exact ⟨KE, KI54, KB54, KH⟩
  ·rw [if_neg c15] at H
   have c15b0 : (t175 == 1) = false := beq_eq_false_iff_ne.mpr c15
   have c15b1 : (t175 != 1) = true := bne_iff_ne.mpr c15
   simp only [Option.some.injEq, Prod.mk.injEq] at H
   obtain ⟨rfl, rfl, rfl⟩ := H
   go_enter Tryd.func34, Tryd.ntmps34
   go_wp2_with (first | ((with_reducible refine gate_callee (f := 41) rfl ?_); refine goesL_ (some 5) rfl rfl Tryd.func41 (by kernel_rfl) rfl #[.pointer (some ⟨g, 0, none⟩), .int .i64 3] rfl KL ?_; (with_reducible refine (spec_l1Below.calls g s0_0 s0_1 s0_2 3 t168 t169 t170 w0 _ ?side1 ?side2 A2.out).mono ?_); (case side1 => exact KI54); (case side2 => exact KB54); rintro e w30 ⟨rfl, hi, hb, hk⟩; refine ⟨_, rfl, ?_⟩; have n0_ := Aside0.mk (KeepBut.trans KH hk (.inl rfl)); have n1_ := Aside0.mk (hb); have n2_ := Aside0.mk (hi); clear HK; clear HB; clear HI0; have HK := n0_; have HB := n1_; have HI0 := n2_; clear n0_ n1_ n2_; (try clear hb); (try clear hb2); (try clear hk); (try clear hi)) | ((with_reducible refine gate_callee (f := 41) rfl ?_); refine goesL_ (some 8) rfl rfl Tryd.func41 (by kernel_rfl) rfl #[.pointer (some ⟨g, 0, none⟩), .int .i64 6] rfl KL ?_; (with_reducible refine (spec_l1Below.calls g s0_0 t169 t170 6 t171 t172 t173 w0 _ ?side1 ?side2 A3.out).mono ?_); (case side1 => exact KI54); (case side2 => exact KB54); rintro e w31 ⟨rfl, hi, hb, hk⟩; refine ⟨_, rfl, ?_⟩; have n0_ := Aside0.mk (KeepBut.trans KH hk (.inl rfl)); have n1_ := Aside0.mk (hb); have n2_ := Aside0.mk (hi); clear HK; clear HB; clear HI0; have HK := n0_; have HB := n1_; have HI0 := n2_; clear n0_ n1_ n2_; (try clear hb); (try clear hb2); (try clear hk); (try clear hi)) | ((with_reducible refine gate_callee (f := 43) rfl ?_); refine goesL_ (some 10) rfl rfl Tryd.func43 (by kernel_rfl) rfl #[.int .i64 (wrap64 (1 + t168)), .int .i64 (wrap64 (1 + t171))] rfl KL ?_; (with_reducible refine (spec_l1Place.calls (wrap64 (1 + t168)) (wrap64 (1 + t171)) t174 _ A4.out).mono ?_); rintro e w' ⟨rfl, ⟨nd, rfl⟩⟩; refine ⟨_, rfl, ?_⟩) | ((with_reducible refine gate_callee (f := 41) rfl ?_); refine goesL_ (some 12) rfl rfl Tryd.func41 (by kernel_rfl) rfl #[.pointer (some ⟨g, 0, none⟩), .int .i64 15] rfl KL ?_; (with_reducible refine (spec_l1Below.calls g s0_0 t172 t173 15 t175 t176 t177 w0 _ ?side1 ?side2 A5.out).mono ?_); (case side1 => exact KI54); (case side2 => exact KB54); rintro e w32 ⟨rfl, hi, hb, hk⟩; refine ⟨_, rfl, ?_⟩; have n0_ := Aside0.mk (KeepBut.trans KH hk (.inl rfl)); have n1_ := Aside0.mk (hb); have n2_ := Aside0.mk (hi); clear HK; clear HB; clear HI0; have HK := n0_; have HB := n1_; have HI0 := n2_; clear n0_ n1_ n2_; (try clear hb); (try clear hb2); (try clear hk); (try clear hi)))
   go_ret
   exact ⟨KE, KI54, KB54, KH⟩

/-! ### spec_DrawPlaceOk: function 16 -/
noncomputable def spec_DrawPlaceOk.f (k : Nat) (l0 : List Int) : Option (Int) := (spec_l1New.f k l0).bind fun bt197 => ((spec_l1DrawPlace.f bt197.1 bt197.2.1 bt197.2.2).bind fun bt201 => (some bt201.1))
theorem spec_DrawPlaceOk.mono : ∀ a0 k, LeO (spec_DrawPlaceOk.f k a0) (spec_DrawPlaceOk.f (k + 1) a0) := by
 intro a0 k
 unfold spec_DrawPlaceOk.f
 repeat' first
   | (with_reducible exact spec_l1New.mono _ _)
   | (with_reducible exact LeO.refl _)
   | (with_reducible exact LeO.none _)
   | (with_reducible refine LeO.ite ?_ ?_)
   | (with_reducible refine LeO.bind ?_ (fun _ => ?_))
   | exact spec_l1New.mono _ _
   | exact LeO.none _
   | refine LeO.ite ?_ ?_
   | refine LeO.bind ?_ (fun _ => ?_)
set_option maxHeartbeats 8000000 in
set_option maxRecDepth 100000 in
theorem spec_DrawPlaceOk.calls (k : Nat) (A0 : Option Addr) (c0 : Nat) (l0 : List Int) (r : Int) (w : World) (hr0 : Kd.C (Kd.int .u8) w A0 l0.length l0) (hc0 : l0.length ≤ c0) (h : spec_DrawPlaceOk.f k l0 = some r) :
  Calls Tryd.prog 16 #[.slice A0 l0.length c0] w fun e w' => e = .returned (.int .i64 r) ∧ Below w.heap.size w w' := by
 have HR0 := Aside0.mk hr0
 have HC0 := Aside0.mk hc0
 clear hr0 hc0
 have HB := Aside0.mk (Below.refl w.heap.size w)
 have H : ((spec_l1New.f k l0).bind fun bt197 => ((spec_l1DrawPlace.f bt197.1 bt197.2.1 bt197.2.2).bind fun bt201 => (some bt201.1))) = some r := h
 clear h
 replace H := Option.bind_eq_some_iff.mp H
 obtain ⟨⟨t197, t198, t199⟩, A20, H⟩ := H
 replace H : ((spec_l1DrawPlace.f t197 t198 t199).bind fun bt201 => (some bt201.1)) = some r := H
 have A2 := Aside0.mk A20
 clear A20
 replace H := Option.bind_eq_some_iff.mp H
 obtain ⟨⟨t201, t202, t203⟩, A30, H⟩ := H
 replace H : (some t201) = some r := H
 have A3 := Aside0.mk A30
 clear A30
 obtain rfl := Option.some.inj H
 go_enter Tryd.func16, Tryd.ntmps16
 go_wp2_with (first | ((with_reducible refine gate_callee (f := 29) rfl ?_); refine goesL_ (some 4) rfl rfl Tryd.func29 (by kernel_rfl) rfl #[.slice A0 l0.length c0] rfl KL ?_; (with_reducible refine (spec_l1New.calls k _ _ l0 t197 t198 t199 w _ ?side1 ?side2 ?side3 A2.out).mono ?_); (case side1 => exact KB); (case side2 => exact HR0.out); (case side3 => exact HC0.out); rintro e w4 ⟨g200, rfl, hi, hb, hb2⟩; refine ⟨_, rfl, ?_⟩; have n0_ := Aside0.mk (hb); have n1_ := Aside0.mk (hi); clear HB; have HB := n0_; have HI200 := n1_; clear n0_ n1_; (try clear hb); (try clear hb2); (try clear hk); (try clear hi)) | ((with_reducible refine gate_callee (f := 34) rfl ?_); refine goesL_ (some 5) rfl rfl Tryd.func34 (by kernel_rfl) rfl #[.pointer (some ⟨g200, 0, none⟩)] rfl KL ?_; (with_reducible refine (spec_l1DrawPlace.calls g200 t197 t198 t199 t201 t202 t203 w _ ?side1 ?side2 A3.out).mono ?_); (case side1 => exact KI54); (case side2 => exact KB54); rintro e w5 ⟨rfl, hi, hb, hk⟩; refine ⟨_, rfl, ?_⟩; have n0_ := Aside0.mk (hb); have n1_ := Aside0.mk (hi); clear HB; clear HI200; have HB := n0_; have HI200 := n1_; clear n0_ n1_; (try clear hb); (try clear hb2); (try clear hk); (try clear hi)))
 go_ret
 exact ⟨KE, KB54⟩

/-! ### spec_PlaceOk: function 17 -/
noncomputable def spec_PlaceOk.f (a0 : Int) : Option (Bool) := if a0 > 0 then ((spec_l1In.f (wrap64 (Int.tdiv a0 4294967296)) 1 30).bind fun t204 => (if t204 = true then ((spec_l1In.f (Int.tmod a0 4294967296) 1 60).bind fun t205 => (some t205)) else (some false))) else (some false)
set_option maxHeartbeats 8000000 in
set_option maxRecDepth 100000 in
theorem spec_PlaceOk.calls (a0 : Int) (r : Bool) (w : World) (h : spec_PlaceOk.f a0 = some r) :
  Calls Tryd.prog 17 #[.int .i64 a0] w fun e w' => e = .returned (.bool r) ∧ Drawn0 w w' := by
 have H : (if a0 > 0 then ((spec_l1In.f (wrap64 (Int.tdiv a0 4294967296)) 1 30).bind fun t204 => (if t204 = true then ((spec_l1In.f (Int.tmod a0 4294967296) 1 60).bind fun t205 => (some t205)) else (some false))) else (some false)) = some r := h
 clear h
 by_cases c2 : a0 > 0
 ·rw [if_pos c2] at H
  have c2b0 : decide (0 < a0) = true := decide_eq_true c2
  clear c2
  replace H := Option.bind_eq_some_iff.mp H
  obtain ⟨t204, A30, H⟩ := H
  replace H : (if t204 = true then ((spec_l1In.f (Int.tmod a0 4294967296) 1 60).bind fun t205 => (some t205)) else (some false)) = some r := H
  have A3 := Aside0.mk A30
  clear A30
  by_cases c4 : t204 = true
  ·subst c4
   have H1 : ((spec_l1In.f (Int.tmod a0 4294967296) 1 60).bind fun t205 => (some t205)) = some r := by rw [if_pos rfl] at H; exact H
   clear H
   have H := H1
   clear H1
   replace H := Option.bind_eq_some_iff.mp H
   obtain ⟨t205, A50, H⟩ := H
   replace H : (some t205) = some r := H
   have A5 := Aside0.mk A50
   clear A50
   obtain rfl := Option.some.inj H
   go_enter Tryd.func17, Tryd.ntmps17
   go_wp2_with (first | (go_at_call 33; (with_reducible refine (spec_l1In.calls (wrap64 (Int.tdiv a0 4294967296)) 1 30 true _ A3.out).mono ?_); rintro e w' ⟨rfl, ⟨nd, rfl⟩⟩) | (go_at_call 33; (with_reducible refine (spec_l1In.calls (Int.tmod a0 4294967296) 1 60 t205 _ A5.out).mono ?_); rintro e w' ⟨rfl, ⟨nd, rfl⟩⟩))
   go_ret
   exact ⟨by first | rfl | (simp; done) | (simp [*]; done), by repeat (first | exact Drawn0.refl _ | apply Drawn0.step)⟩
  ·replace c4 := Bool.eq_false_iff.mpr c4
   subst c4
   have H1 : (some false) = some r := by rw [if_neg (show ¬ (false = true) by decide)] at H; exact H
   clear H
   have H := H1
   clear H1
   obtain rfl := Option.some.inj H
   go_enter Tryd.func17, Tryd.ntmps17
   go_wp2_with (first | (go_at_call 33; (with_reducible refine (spec_l1In.calls (wrap64 (Int.tdiv a0 4294967296)) 1 30 false _ A3.out).mono ?_); rintro e w' ⟨rfl, ⟨nd, rfl⟩⟩))
   go_ret
   exact ⟨by first | rfl | (simp; done) | (simp [*]; done), by repeat (first | exact Drawn0.refl _ | apply Drawn0.step)⟩
 ·rw [if_neg c2] at H
  have c2b0 : decide (0 < a0) = false := decide_eq_false c2
  clear c2
  obtain rfl := Option.some.inj H
  go_enter Tryd.func17, Tryd.ntmps17
  go_wp2
  go_ret
  exact ⟨by first | rfl | (simp; done) | (simp [*]; done), by repeat (first | exact Drawn0.refl _ | apply Drawn0.step)⟩

/-! ### laws_FnPlaces: function 5 -/
noncomputable def laws_FnPlaces.j0 : Nat → List Int → Int → Int → Int → Bool → Bool → Option (Bool)
 | 0, _, _, _, _, _, _ => none
 | k + 1, x0, x3, x4, x5, x6, x39 => if x39 = true then (none) else ((impl_PlaceText.f x5).bind fun t214 => ((impl_PlaceRead.f t214).bind fun bt215 => ((spec_DrawPlaceOk.f k x0).bind fun t217 => ((impl_PlaceOk.f t217).bind fun t218 => ((spec_PlaceOk.f t217).bind fun t219 => (if (t218 == t219) = true then (if x6 = true then ((impl_EpochOf.f x5).bind fun t220 => (if t220 = x3 then ((impl_OffOf.f x5).bind fun t221 => (if t221 = x4 then (if bt215.2 = true then (some (bt215.1 == x5)) else (none)) else (none))) else (none))) else (if x5 = 0 then ((impl_PlaceText.f x5).bind fun t222 => (if t222.toList = ([] : List UInt8) then (some true) else (none))) else (none))) else (none)))))))
noncomputable def laws_FnPlaces.f (k : Nat) (l0 : List Int) : Option (Bool) := (laws_big.f l0).bind fun t206 => (if t206 = true then (some true) else ((spec_DrawPlaceMake.f k l0).bind fun bt207 => ((impl_PlaceMake.f bt207.1 bt207.2).bind fun bt209 => ((spec_PlaceMake.f bt207.1 bt207.2).bind fun bt211 => (if (bt209.2 != bt211.2) = true then (laws_FnPlaces.j0 k l0 bt207.1 bt207.2 bt209.1 bt209.2 true) else ((impl_PlaceOk.f bt209.1).bind fun t213 => (laws_FnPlaces.j0 k l0 bt207.1 bt207.2 bt209.1 bt209.2 (t213 != bt209.2))))))))
theorem laws_FnPlaces.mono_l : ∀ k, (∀ y0 y1 y2 y3 y4 y5, LeO (laws_FnPlaces.j0 k y0 y1 y2 y3 y4 y5) (laws_FnPlaces.j0 (k + 1) y0 y1 y2 y3 y4 y5))
 | 0 => fun _ _ _ _ _ _ r h => by simp [laws_FnPlaces.j0] at h
 | k + 1 => by
  have ih0 := laws_FnPlaces.mono_l k
  ·intro y0 y1 y2 y3 y4 y5
   unfold laws_FnPlaces.j0
   repeat' first
   | (with_reducible exact ih0 _ _ _ _ _ _)
   | (with_reducible exact spec_DrawPlaceMake.mono _ _)
   | (with_reducible exact spec_DrawPlaceOk.mono _ _)
   | (with_reducible exact LeO.refl _)
   | (with_reducible exact LeO.none _)
   | (with_reducible refine LeO.ite ?_ ?_)
   | (with_reducible refine LeO.bind ?_ (fun _ => ?_))
   | exact ih0 _ _ _ _ _ _
   | exact spec_DrawPlaceMake.mono _ _
   | exact spec_DrawPlaceOk.mono _ _
   | exact LeO.none _
   | refine LeO.ite ?_ ?_
   | refine LeO.bind ?_ (fun _ => ?_)
theorem laws_FnPlaces.mono : ∀ a0 k, LeO (laws_FnPlaces.f k a0) (laws_FnPlaces.f (k + 1) a0) := by
 intro a0 k
 have ih0 := laws_FnPlaces.mono_l k
 unfold laws_FnPlaces.f
 repeat' first
   | (with_reducible exact ih0 _ _ _ _ _ _)
   | (with_reducible exact spec_DrawPlaceMake.mono _ _)
   | (with_reducible exact spec_DrawPlaceOk.mono _ _)
   | (with_reducible exact LeO.refl _)
   | (with_reducible exact LeO.none _)
   | (with_reducible refine LeO.ite ?_ ?_)
   | (with_reducible refine LeO.bind ?_ (fun _ => ?_))
   | exact ih0 _ _ _ _ _ _
   | exact spec_DrawPlaceMake.mono _ _
   | exact spec_DrawPlaceOk.mono _ _
   | exact LeO.none _
   | refine LeO.ite ?_ ?_
   | refine LeO.bind ?_ (fun _ => ?_)
set_option maxHeartbeats 8000000 in
set_option maxRecDepth 100000 in
theorem laws_FnPlaces.calls (k : Nat) (A0 : Option Addr) (c0 : Nat) (l0 : List Int) (r : Bool) (w : World) (hr0 : Kd.C (Kd.int .u8) w A0 l0.length l0) (hc0 : l0.length ≤ c0) (h : laws_FnPlaces.f k l0 = some r) (hGl : Gl w) :
  Calls Tryd.prog 5 #[.slice A0 l0.length c0] w fun e w' => e = .returned (.bool r) ∧ Below w.heap.size w w' := by
 have HR0 := Aside0.mk hr0
 have HC0 := Aside0.mk hc0
 clear hr0 hc0
 have HB := Aside0.mk (Below.refl w.heap.size w)
 have H : ((laws_big.f l0).bind fun t206 => (if t206 = true then (some true) else ((spec_DrawPlaceMake.f k l0).bind fun bt207 => ((impl_PlaceMake.f bt207.1 bt207.2).bind fun bt209 => ((spec_PlaceMake.f bt207.1 bt207.2).bind fun bt211 => (if (bt209.2 != bt211.2) = true then (laws_FnPlaces.j0 k l0 bt207.1 bt207.2 bt209.1 bt209.2 true) else ((impl_PlaceOk.f bt209.1).bind fun t213 => (laws_FnPlaces.j0 k l0 bt207.1 bt207.2 bt209.1 bt209.2 (t213 != bt209.2))))))))) = some r := h
 clear h
 replace H := Option.bind_eq_some_iff.mp H
 obtain ⟨t206, A20, H⟩ := H
 replace H : (if t206 = true then (some true) else ((spec_DrawPlaceMake.f k l0).bind fun bt207 => ((impl_PlaceMake.f bt207.1 bt207.2).bind fun bt209 => ((spec_PlaceMake.f bt207.1 bt207.2).bind fun bt211 => (if (bt209.2 != bt211.2) = true then (laws_FnPlaces.j0 k l0 bt207.1 bt207.2 bt209.1 bt209.2 true) else ((impl_PlaceOk.f bt209.1).bind fun t213 => (laws_FnPlaces.j0 k l0 bt207.1 bt207.2 bt209.1 bt209.2 (t213 != bt209.2)))))))) = some r := H
 have A2 := Aside0.mk A20
 clear A20
 by_cases c3 : t206 = true
 ·subst c3
  have H1 : (some true) = some r := by rw [if_pos rfl] at H; exact H
  clear H
  have H := H1
  clear H1
  obtain rfl := Option.some.inj H
  go_enter Tryd.func5, Tryd.ntmps5
  go_wp2_with (first | ((with_reducible refine gate_callee (f := 11) rfl ?_); refine goesL_ (some 13) rfl rfl Tryd.func11 (by kernel_rfl) rfl #[.slice A0 l0.length c0] rfl KL ?_; (with_reducible refine (laws_big.calls _ _ l0 true _ ?side1 ?side2 A2.out).mono ?_); (case side1 => exact KC); (case side2 => exact HC0.out); rintro e w' ⟨rfl, ⟨nd, rfl⟩⟩; refine ⟨_, rfl, ?_⟩))
  go_ret
  exact ⟨KE, KB⟩
 ·replace c3 := Bool.eq_false_iff.mpr c3
  subst c3
  have H1 : ((spec_DrawPlaceMake.f k l0).bind fun bt207 => ((impl_PlaceMake.f bt207.1 bt207.2).bind fun bt209 => ((spec_PlaceMake.f bt207.1 bt207.2).bind fun bt211 => (if (bt209.2 != bt211.2) = true then (laws_FnPlaces.j0 k l0 bt207.1 bt207.2 bt209.1 bt209.2 true) else ((impl_PlaceOk.f bt209.1).bind fun t213 => (laws_FnPlaces.j0 k l0 bt207.1 bt207.2 bt209.1 bt209.2 (t213 != bt209.2))))))) = some r := by rw [if_neg (show ¬ (false = true) by decide)] at H; exact H
  clear H
  have H := H1
  clear H1
  replace H := Option.bind_eq_some_iff.mp H
  obtain ⟨⟨t207, t208⟩, A40, H⟩ := H
  replace H : ((impl_PlaceMake.f t207 t208).bind fun bt209 => ((spec_PlaceMake.f t207 t208).bind fun bt211 => (if (bt209.2 != bt211.2) = true then (laws_FnPlaces.j0 k l0 t207 t208 bt209.1 bt209.2 true) else ((impl_PlaceOk.f bt209.1).bind fun t213 => (laws_FnPlaces.j0 k l0 t207 t208 bt209.1 bt209.2 (t213 != bt209.2)))))) = some r := H
  have A4 := Aside0.mk A40
  clear A40
  replace H := Option.bind_eq_some_iff.mp H
  obtain ⟨⟨t209, t210⟩, A50, H⟩ := H
  replace H : ((spec_PlaceMake.f t207 t208).bind fun bt211 => (if (t210 != bt211.2) = true then (laws_FnPlaces.j0 k l0 t207 t208 t209 t210 true) else ((impl_PlaceOk.f t209).bind fun t213 => (laws_FnPlaces.j0 k l0 t207 t208 t209 t210 (t213 != t210))))) = some r := H
  have A5 := Aside0.mk A50
  clear A50
  replace H := Option.bind_eq_some_iff.mp H
  obtain ⟨⟨t211, t212⟩, A60, H⟩ := H
  replace H : (if (t210 != t212) = true then (laws_FnPlaces.j0 k l0 t207 t208 t209 t210 true) else ((impl_PlaceOk.f t209).bind fun t213 => (laws_FnPlaces.j0 k l0 t207 t208 t209 t210 (t213 != t210)))) = some r := H
  have A6 := Aside0.mk A60
  clear A60
  have HC7 := Aside0.mk H
  clear H
  go_enter Tryd.func5, Tryd.ntmps5
  go_upto_region 6 with (first | ((with_reducible refine gate_callee (f := 11) rfl ?_); refine goesL_ (some 13) rfl rfl Tryd.func11 (by kernel_rfl) rfl #[.slice A0 l0.length c0] rfl KL ?_; (with_reducible refine (laws_big.calls _ _ l0 false _ ?side1 ?side2 A2.out).mono ?_); (case side1 => exact KC); (case side2 => exact HC0.out); rintro e w' ⟨rfl, ⟨nd, rfl⟩⟩; refine ⟨_, rfl, ?_⟩) | ((with_reducible refine gate_callee (f := 12) rfl ?_); refine goesL_ (some 16) rfl rfl Tryd.func12 (by kernel_rfl) rfl #[.slice A0 l0.length c0] rfl KL ?_; (with_reducible refine (spec_DrawPlaceMake.calls k _ _ l0 t207 t208 _ ?side1 ?side2 A4.out).mono ?_); (case side1 => exact KC); (case side2 => exact HC0.out); rintro e w8 ⟨rfl, hb⟩; refine ⟨_, rfl, ?_⟩; have n0_ := Aside0.mk (below_step KB hb); clear HB; have HB := n0_; clear n0_; (try clear hb); (try clear hb2); (try clear hk); (try clear hi)) | ((with_reducible refine gate_callee (f := 13) rfl ?_); refine goesL_ (some 22) rfl rfl Tryd.func13 (by kernel_rfl) rfl #[.int .i64 t207, .int .i64 t208] rfl KL ?_; (with_reducible refine (impl_PlaceMake.calls t207 t208 t209 t210 _ A5.out).mono ?_); rintro e w' ⟨rfl, ⟨nd, rfl⟩⟩; refine ⟨_, rfl, ?_⟩) | ((with_reducible refine gate_callee (f := 14) rfl ?_); refine goesL_ (some 28) rfl rfl Tryd.func14 (by kernel_rfl) rfl #[.int .i64 t207, .int .i64 t208] rfl KL ?_; (with_reducible refine (spec_PlaceMake.calls t207 t208 t211 t212 _ A6.out).mono ?_); rintro e w' ⟨rfl, ⟨nd, rfl⟩⟩; refine ⟨_, rfl, ?_⟩))
  (try simp only [Act.put, List.setIfInBounds_toArray, List.set_cons_zero, List.set_cons_succ])
  go_cut [39] (fun v39 wc => ∃ (kq : Nat) (x39_6 : Bool), v39 = .bool x39_6 ∧ Aside0 (laws_FnPlaces.j0 kq l0 t207 t208 t209 t210 x39_6 = some r) ∧ Aside0 (kq ≤ k) ∧ Aside0 (Below w.heap.size w wc))
  case first =>
   have H := HC7.out
   clear HC7
   by_cases c9 : (t210 != t212) = true
   ·rw [if_pos c9] at H
    have c9b0 : (t210 != t212) = true := c9
    (try (have c9b1 : decide (t210 = t212) = false := by simpa using c9))
    (try (have c9b2 : (t210 == t212) = false := by simpa using c9))
    (try (have c9b3 : ¬ (t210 = t212) := by simpa using c9))
    clear c9
    (first | rw [c9b0] | (simp only [i64_w, i32_w]; rw [c9b0]) | skip)
    have H' := Aside0.mk H
    clear H
    go_wp2
    go_meet
    case rel => exact ⟨_, (true), (by first | rfl | (simp; done) | (simp [*]; done)), H', ⟨by first | omega | exact Nat.le_refl _⟩, ⟨KB⟩⟩
   ·rw [if_neg c9] at H
    have c9b0 : (t210 != t212) = false := by simpa using c9
    (try (have c9b1 : decide (t210 = t212) = true := by simpa using c9))
    (try (have c9b2 : (t210 == t212) = true := by simpa using c9))
    clear c9
    (first | rw [c9b0] | (simp only [i64_w, i32_w]; rw [c9b0]) | skip)
    replace H := Option.bind_eq_some_iff.mp H
    obtain ⟨t213, A100, H⟩ := H
    replace H : (laws_FnPlaces.j0 k l0 t207 t208 t209 t210 (t213 != t210)) = some r := H
    have A10 := Aside0.mk A100
    clear A100
    have H' := Aside0.mk H
    clear H
    go_wp2_with (first | (go_at_call 15; (with_reducible refine (impl_PlaceOk.calls t209 t213 _ A10.out).mono ?_); rintro e w' ⟨rfl, ⟨nd, rfl⟩⟩))
    go_meet
    case rel => exact ⟨_, ((t213 != t210)), (by first | rfl | (simp; done) | (simp [*]; done)), H', ⟨by first | omega | exact Nat.le_refl _⟩, ⟨KB⟩⟩
  case rest =>
   clear HC7
   try clear c1
   try clear p2
   try clear c3
   try clear c5
   try clear c9
   try clear c9b0
   try clear c9b1
   try clear c9b2
   obtain ⟨kq, x39_6, rfl, HA, HJ6, HB⟩ := hcut
   cases kq with
   | zero => exact absurd HA.out (by simp [laws_FnPlaces.j0])
   | succ kj6 =>
    have H := HA.out
    clear HA
    simp only [laws_FnPlaces.j0] at H
    by_cases c11 : x39_6 = true
    ·subst c11
     have H1 : (none) = some r := by rw [if_pos rfl] at H; exact H
     clear H
     have H := H1
     clear H1
     exact absurd H (by simp)
    ·replace c11 := Bool.eq_false_iff.mpr c11
     subst c11
     have H1 : ((impl_PlaceText.f t209).bind fun t214 => ((impl_PlaceRead.f t214).bind fun bt215 => ((spec_DrawPlaceOk.f kj6 l0).bind fun t217 => ((impl_PlaceOk.f t217).bind fun t218 => ((spec_PlaceOk.f t217).bind fun t219 => (if (t218 == t219) = true then (if t210 = true then ((impl_EpochOf.f t209).bind fun t220 => (if t220 = t207 then ((impl_OffOf.f t209).bind fun t221 => (if t221 = t208 then (if bt215.2 = true then (some (bt215.1 == t209)) else (none)) else (none))) else (none))) else (if t209 = 0 then ((impl_PlaceText.f t209).bind fun t222 => (if t222.toList = ([] : List UInt8) then (some true) else (none))) else (none))) else (none))))))) = some r := by rw [if_neg (show ¬ (false = true) by decide)] at H; exact H
     clear H
     have H := H1
     clear H1
     replace H := Option.bind_eq_some_iff.mp H
     obtain ⟨t214, A120, H⟩ := H
     replace H : ((impl_PlaceRead.f t214).bind fun bt215 => ((spec_DrawPlaceOk.f kj6 l0).bind fun t217 => ((impl_PlaceOk.f t217).bind fun t218 => ((spec_PlaceOk.f t217).bind fun t219 => (if (t218 == t219) = true then (if t210 = true then ((impl_EpochOf.f t209).bind fun t220 => (if t220 = t207 then ((impl_OffOf.f t209).bind fun t221 => (if t221 = t208 then (if bt215.2 = true then (some (bt215.1 == t209)) else (none)) else (none))) else (none))) else (if t209 = 0 then ((impl_PlaceText.f t209).bind fun t222 => (if t222.toList = ([] : List UInt8) then (some true) else (none))) else (none))) else (none)))))) = some r := H
     have A12 := Aside0.mk A120
     clear A120
     replace H := Option.bind_eq_some_iff.mp H
     obtain ⟨⟨t215, t216⟩, A130, H⟩ := H
     replace H : ((spec_DrawPlaceOk.f kj6 l0).bind fun t217 => ((impl_PlaceOk.f t217).bind fun t218 => ((spec_PlaceOk.f t217).bind fun t219 => (if (t218 == t219) = true then (if t210 = true then ((impl_EpochOf.f t209).bind fun t220 => (if t220 = t207 then ((impl_OffOf.f t209).bind fun t221 => (if t221 = t208 then (if t216 = true then (some (t215 == t209)) else (none)) else (none))) else (none))) else (if t209 = 0 then ((impl_PlaceText.f t209).bind fun t222 => (if t222.toList = ([] : List UInt8) then (some true) else (none))) else (none))) else (none))))) = some r := H
     have A13 := Aside0.mk A130
     clear A130
     replace H := Option.bind_eq_some_iff.mp H
     obtain ⟨t217, A140, H⟩ := H
     replace H : ((impl_PlaceOk.f t217).bind fun t218 => ((spec_PlaceOk.f t217).bind fun t219 => (if (t218 == t219) = true then (if t210 = true then ((impl_EpochOf.f t209).bind fun t220 => (if t220 = t207 then ((impl_OffOf.f t209).bind fun t221 => (if t221 = t208 then (if t216 = true then (some (t215 == t209)) else (none)) else (none))) else (none))) else (if t209 = 0 then ((impl_PlaceText.f t209).bind fun t222 => (if t222.toList = ([] : List UInt8) then (some true) else (none))) else (none))) else (none)))) = some r := H
     have A14 := Aside0.mk A140
     clear A140
     replace H := Option.bind_eq_some_iff.mp H
     obtain ⟨t218, A150, H⟩ := H
     replace H : ((spec_PlaceOk.f t217).bind fun t219 => (if (t218 == t219) = true then (if t210 = true then ((impl_EpochOf.f t209).bind fun t220 => (if t220 = t207 then ((impl_OffOf.f t209).bind fun t221 => (if t221 = t208 then (if t216 = true then (some (t215 == t209)) else (none)) else (none))) else (none))) else (if t209 = 0 then ((impl_PlaceText.f t209).bind fun t222 => (if t222.toList = ([] : List UInt8) then (some true) else (none))) else (none))) else (none))) = some r := H
     have A15 := Aside0.mk A150
     clear A150
     replace H := Option.bind_eq_some_iff.mp H
     obtain ⟨t219, A160, H⟩ := H
     replace H : (if (t218 == t219) = true then (if t210 = true then ((impl_EpochOf.f t209).bind fun t220 => (if t220 = t207 then ((impl_OffOf.f t209).bind fun t221 => (if t221 = t208 then (if t216 = true then (some (t215 == t209)) else (none)) else (none))) else (none))) else (if t209 = 0 then ((impl_PlaceText.f t209).bind fun t222 => (if t222.toList = ([] : List UInt8) then (some true) else (none))) else (none))) else (none)) = some r := H
     have A16 := Aside0.mk A160
     clear A160
     by_cases c17 : (t218 == t219) = true
     ·rw [if_pos c17] at H
      have c17b0 : (t218 == t219) = true := c17
      (try (have c17b1 : decide (t218 = t219) = true := by simpa using c17))
      (try (have c17b2 : (t218 == t219) = true := by simpa using c17))
      clear c17
      by_cases c18 : t210 = true
      ·subst c18
       have H1 : ((impl_EpochOf.f t209).bind fun t220 => (if t220 = t207 then ((impl_OffOf.f t209).bind fun t221 => (if t221 = t208 then (if t216 = true then (some (t215 == t209)) else (none)) else (none))) else (none))) = some r := by rw [if_pos rfl] at H; exact H
       clear H
       have H := H1
       clear H1
       replace H := Option.bind_eq_some_iff.mp H
       obtain ⟨t220, A190, H⟩ := H
       replace H : (if t220 = t207 then ((impl_OffOf.f t209).bind fun t221 => (if t221 = t208 then (if t216 = true then (some (t215 == t209)) else (none)) else (none))) else (none)) = some r := H
       have A19 := Aside0.mk A190
       clear A190
       by_cases c20 : t220 = t207
       ·rw [if_pos c20] at H
        have c20b0 : (t220 == t207) = true := beq_iff_eq.mpr c20
        have c20b1 : (t220 != t207) = false := bne_eq_false_iff_eq.mpr c20
        clear c20
        replace H := Option.bind_eq_some_iff.mp H
        obtain ⟨t221, A210, H⟩ := H
        replace H : (if t221 = t208 then (if t216 = true then (some (t215 == t209)) else (none)) else (none)) = some r := H
        have A21 := Aside0.mk A210
        clear A210
        by_cases c22 : t221 = t208
        ·rw [if_pos c22] at H
         have c22b0 : (t221 == t208) = true := beq_iff_eq.mpr c22
         have c22b1 : (t221 != t208) = false := bne_eq_false_iff_eq.mpr c22
         clear c22
         by_cases c23 : t216 = true
         ·subst c23
          have H1 : (some (t215 == t209)) = some r := by rw [if_pos rfl] at H; exact H
          clear H
          have H := H1
          clear H1
          obtain rfl := Option.some.inj H
          go_wp2_with (first | ((with_reducible refine gate_callee (f := 8) rfl ?_); refine goesL_ (some 42) rfl rfl Tryd.func8 (by kernel_rfl) rfl #[.int .i64 t209] rfl KL ?_; (with_reducible refine (impl_PlaceText.calls t209 t214 _ A12.out).mono ?_); rintro e w' ⟨rfl, ⟨nd, rfl⟩⟩; refine ⟨_, rfl, ?_⟩) | ((with_reducible refine gate_callee (f := 10) rfl ?_); refine goesL_ (some 43) rfl rfl Tryd.func10 (by kernel_rfl) rfl #[.string t214] rfl KL ?_; (with_reducible refine (impl_PlaceRead.calls t214 t215 true _ A13.out (KGl hGl)).mono ?_); rintro e w24 ⟨rfl, hb⟩; refine ⟨_, rfl, ?_⟩; have n0_ := Aside0.mk (below_step KB hb); clear HB; have HB := n0_; clear n0_; (try clear hb); (try clear hb2); (try clear hk); (try clear hi)) | ((with_reducible refine gate_callee (f := 16) rfl ?_); refine goesL_ (some 47) rfl rfl Tryd.func16 (by kernel_rfl) rfl #[.slice A0 l0.length c0] rfl KL ?_; (with_reducible refine (spec_DrawPlaceOk.calls kj6 _ _ l0 t217 _ ?side1 ?side2 A14.out).mono ?_); (case side1 => exact KD (Kd.C_below HR0.out HB.out)); (case side2 => exact HC0.out); rintro e w25 ⟨rfl, hb⟩; refine ⟨_, rfl, ?_⟩; have n0_ := Aside0.mk (below_step KB hb); clear HB; have HB := n0_; clear n0_; (try clear hb); (try clear hb2); (try clear hk); (try clear hi)) | ((with_reducible refine gate_callee (f := 15) rfl ?_); refine goesL_ (some 49) rfl rfl Tryd.func15 (by kernel_rfl) rfl #[.int .i64 t217] rfl KL ?_; (with_reducible refine (impl_PlaceOk.calls t217 t218 _ A15.out).mono ?_); rintro e w' ⟨rfl, ⟨nd, rfl⟩⟩; refine ⟨_, rfl, ?_⟩) | ((with_reducible refine gate_callee (f := 17) rfl ?_); refine goesL_ (some 51) rfl rfl Tryd.func17 (by kernel_rfl) rfl #[.int .i64 t217] rfl KL ?_; (with_reducible refine (spec_PlaceOk.calls t217 t219 _ A16.out).mono ?_); rintro e w' ⟨rfl, ⟨nd, rfl⟩⟩; refine ⟨_, rfl, ?_⟩) | (go_at_call 18; (with_reducible refine (impl_EpochOf.calls t209 t220 _ A19.out).mono ?_); rintro e w' ⟨rfl, ⟨nd, rfl⟩⟩) | (go_at_call 19; (with_reducible refine (impl_OffOf.calls t209 t221 _ A21.out).mono ?_); rintro e w' ⟨rfl, ⟨nd, rfl⟩⟩))
          go_ret
          exact ⟨KE, KB⟩
         ·replace c23 := Bool.eq_false_iff.mpr c23
          subst c23
          have H1 : (none) = some r := by rw [if_neg (show ¬ (false = true) by decide)] at H; exact H
          clear H
          have H := H1
          clear H1
          exact absurd H (by simp)
        ·rw [if_neg c22] at H
         exact absurd H (by simp)
       ·rw [if_neg c20] at H
        exact absurd H (by simp)
      ·replace c18 := Bool.eq_false_iff.mpr c18
       subst c18
       have H1 : (if t209 = 0 then ((impl_PlaceText.f t209).bind fun t222 => (if t222.toList = ([] : List UInt8) then (some true) else (none))) else (none)) = some r := by rw [if_neg (show ¬ (false = true) by decide)] at H; exact H
       clear H
       have H := H1
       clear H1
       by_cases c26 : t209 = 0
       ·rw [if_pos c26] at H
        have c26b0 : (t209 == 0) = true := beq_iff_eq.mpr c26
        have c26b1 : (t209 != 0) = false := bne_eq_false_iff_eq.mpr c26
        clear c26
        replace H := Option.bind_eq_some_iff.mp H
        obtain ⟨t222, A270, H⟩ := H
        replace H : (if t222.toList = ([] : List UInt8) then (some true) else (none)) = some r := H
        have A27 := Aside0.mk A270
        clear A270
        by_cases c28 : t222.toList = ([] : List UInt8)
        ·rw [if_pos c28] at H
         have c28b0 : (t222.toList == ([] : List UInt8)) = true := beq_iff_eq.mpr c28
         have c28b1 : (t222.toList != ([] : List UInt8)) = false := bne_eq_false_iff_eq.mpr c28
         clear c28
         obtain rfl := Option.some.inj H
         go_wp2_with (first | ((with_reducible refine gate_callee (f := 8) rfl ?_); refine goesL_ (some 42) rfl rfl Tryd.func8 (by kernel_rfl) rfl #[.int .i64 t209] rfl KL ?_; (with_reducible refine (impl_PlaceText.calls t209 t214 _ A12.out).mono ?_); rintro e w' ⟨rfl, ⟨nd, rfl⟩⟩; refine ⟨_, rfl, ?_⟩) | ((with_reducible refine gate_callee (f := 10) rfl ?_); refine goesL_ (some 43) rfl rfl Tryd.func10 (by kernel_rfl) rfl #[.string t214] rfl KL ?_; (with_reducible refine (impl_PlaceRead.calls t214 t215 t216 _ A13.out (KGl hGl)).mono ?_); rintro e w29 ⟨rfl, hb⟩; refine ⟨_, rfl, ?_⟩; have n0_ := Aside0.mk (below_step KB hb); clear HB; have HB := n0_; clear n0_; (try clear hb); (try clear hb2); (try clear hk); (try clear hi)) | ((with_reducible refine gate_callee (f := 16) rfl ?_); refine goesL_ (some 47) rfl rfl Tryd.func16 (by kernel_rfl) rfl #[.slice A0 l0.length c0] rfl KL ?_; (with_reducible refine (spec_DrawPlaceOk.calls kj6 _ _ l0 t217 _ ?side1 ?side2 A14.out).mono ?_); (case side1 => exact KD (Kd.C_below HR0.out HB.out)); (case side2 => exact HC0.out); rintro e w30 ⟨rfl, hb⟩; refine ⟨_, rfl, ?_⟩; have n0_ := Aside0.mk (below_step KB hb); clear HB; have HB := n0_; clear n0_; (try clear hb); (try clear hb2); (try clear hk); (try clear hi)) | ((with_reducible refine gate_callee (f := 15) rfl ?_); refine goesL_ (some 49) rfl rfl Tryd.func15 (by kernel_rfl) rfl #[.int .i64 t217] rfl KL ?_; (with_reducible refine (impl_PlaceOk.calls t217 t218 _ A15.out).mono ?_); rintro e w' ⟨rfl, ⟨nd, rfl⟩⟩; refine ⟨_, rfl, ?_⟩) | ((with_reducible refine gate_callee (f := 17) rfl ?_); refine goesL_ (some 51) rfl rfl Tryd.func17 (by kernel_rfl) rfl #[.int .i64 t217] rfl KL ?_; (with_reducible refine (spec_PlaceOk.calls t217 t219 _ A16.out).mono ?_); rintro e w' ⟨rfl, ⟨nd, rfl⟩⟩; refine ⟨_, rfl, ?_⟩) | (go_at_call 8; (with_reducible refine (impl_PlaceText.calls t209 t222 _ A27.out).mono ?_); rintro e w' ⟨rfl, ⟨nd, rfl⟩⟩))
         go_ret
         exact ⟨KE, KB⟩
        ·rw [if_neg c28] at H
         exact absurd H (by simp)
       ·rw [if_neg c26] at H
        exact absurd H (by simp)
     ·rw [if_neg c17] at H
      exact absurd H (by simp)

/-- THE ONE PURE STATEMENT of laws_FnPlaces: yours. -/
def laws_FnPlaces.Pure : Prop := ∀ (l0 : List Int), l0.length ≤ maxLen → l0.length * 1 ≤ 140737488351232 → (∀ x ∈ l0, (Lit.int .u8 x).wf = true) → ∃ k, laws_FnPlaces.f k l0 = some true
theorem laws_FnPlaces.walk (P : laws_FnPlaces.Pure) (a0 : Option Addr) (len0 cap0 : Nat) (z0 : List Int) (w : World) (w0 : (a0 = none ∧ len0 = 0 ∧ cap0 = 0 ∧ z0 = []) ∨ ∃ x, a0 = some x ∧ len0 ≤ cap0 ∧ cap0 ≤ maxLen ∧ z0.length = cap0 ∧ (∀ i, i < z0.length → w.cell? (x.add i) = some (.int .u8 (z0.getD i 0))) ∧ ∀ n ∈ z0, (Lit.int .u8 n).wf = true) (y0 : len0 * 1 ≤ 140737488351232) (hGl : Gl w) :
  Calls Tryd.prog 5 #[.slice a0 len0 cap0] w fun e w' => e = .returned (.bool true) ∧ Below w.heap.size w w' := by
 obtain ⟨l0, rfl, hr0, hm0, hw0, hc0⟩ := ReadsInt.ofRowC w0
 obtain ⟨k, h⟩ := P l0 hm0 y0 hw0
 refine (laws_FnPlaces.calls k _ _ l0 true w (Kd.C_of_reads (d := (0 : Int)) (h1 := fun _ => rfl) hr0) hc0 h hGl).mono ?_
 rintro e w' ⟨rfl, hd⟩
 exact ⟨rfl, hd⟩

end Go.Proofs.YtlmmbmhambkjlaaDoor.PFnPlaces
