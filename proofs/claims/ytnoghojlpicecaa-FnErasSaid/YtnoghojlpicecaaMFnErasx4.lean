-- What each Go function that this law reaches comes to: written by a program out of the translation.
import Derived.Test.YtnoghojlpicecaaMFnErasx0
import Derived.Test.YtnoghojlpicecaaMFnErasx3
namespace Go.Proofs.Ytnoghojlpicecaa.PFnEras
open Go.RowKit Go.Proofs.YtnoghojlpicecaaW.PrintWords Go.Proofs.YtnoghojlpicecaaW.PrintLast Go.Proofs.YtnoghojlpicecaaW.PrintMore
attribute [local go_sem] max2_int min2_int max_two min_two max_three min_three max_four min_four   -- for this text's walks alone
set_option linter.unusedVariables false
set_option linter.unusedSimpArgs false

/-! ### impl_isEpoch: function 75 -/
def impl_isEpoch.f (a0 : Int) : Option (Bool) := (impl_within.f a0 1 30).bind fun t148 => (some t148)
set_option maxHeartbeats 8000000 in
set_option maxRecDepth 100000 in
theorem impl_isEpoch.calls (a0 : Int) (r : Bool) (w : World) (h : impl_isEpoch.f a0 = some r) :
  Calls Try.prog 75 #[.int .i64 a0] w fun e w' => e = .returned (.bool r) ∧ Drawn0 w w' := by
 have H : ((impl_within.f a0 1 30).bind fun t148 => (some t148)) = some r := h; clear h; replace H := Option.bind_eq_some_iff.mp H; obtain ⟨t148, A20, H⟩ := H
 try dsimp only at H
 have A2 := Aside0.mk A20; clear A20; obtain rfl := Option.some.inj H
 go_enter Try.func75, Try.ntmps75
 go_wp2_with (first | ((with_reducible refine GC 63 ?_); refine goesL_ (some 4) rfl rfl Try.func63 (by kernel_rfl) rfl #[.int .i64 a0, .int .i64 1, .int .i64 30] rfl KL ?_; (with_reducible refine MN (impl_within.calls a0 1 30 t148 _ A2.out) ?_); intro nd; refine ⟨_, rfl, ?_⟩))
 go_ret
 exact ⟨by first | rfl | (simp; done) | (simp [*]; done), by repeat (first | exact Drawn0.refl _ | apply Drawn0.step)⟩

/-! ### impl_isOff: function 76 -/
def impl_isOff.f (a0 : Int) : Option (Bool) := (impl_within.f a0 1 60).bind fun t149 => (some t149)
set_option maxHeartbeats 8000000 in
set_option maxRecDepth 100000 in
theorem impl_isOff.calls (a0 : Int) (r : Bool) (w : World) (h : impl_isOff.f a0 = some r) :
  Calls Try.prog 76 #[.int .i64 a0] w fun e w' => e = .returned (.bool r) ∧ Drawn0 w w' := by
 have H : ((impl_within.f a0 1 60).bind fun t149 => (some t149)) = some r := h; clear h; replace H := Option.bind_eq_some_iff.mp H; obtain ⟨t149, A20, H⟩ := H
 try dsimp only at H
 have A2 := Aside0.mk A20; clear A20; obtain rfl := Option.some.inj H
 go_enter Try.func76, Try.ntmps76
 go_wp2_with (first | ((with_reducible refine GC 63 ?_); refine goesL_ (some 4) rfl rfl Try.func63 (by kernel_rfl) rfl #[.int .i64 a0, .int .i64 1, .int .i64 60] rfl KL ?_; (with_reducible refine MN (impl_within.calls a0 1 60 t149 _ A2.out) ?_); intro nd; refine ⟨_, rfl, ?_⟩))
 go_ret
 exact ⟨by first | rfl | (simp; done) | (simp [*]; done), by repeat (first | exact Drawn0.refl _ | apply Drawn0.step)⟩

/-! ### impl_PlaceOk: function 52 -/
def impl_PlaceOk.f (a0 : Int) : Option (Bool) := (impl_isEpoch.f (wrap64 (Int.tdiv a0 4294967296))).bind fun t150 => (if t150 = true then ((impl_isOff.f (Int.tmod a0 4294967296)).bind fun t151 => (some t151)) else (some false))
set_option maxHeartbeats 8000000 in
set_option maxRecDepth 100000 in
theorem impl_PlaceOk.calls (a0 : Int) (r : Bool) (w : World) (h : impl_PlaceOk.f a0 = some r) :
  Calls Try.prog 52 #[.int .i64 a0] w fun e w' => e = .returned (.bool r) ∧ Drawn0 w w' := by
 have H : ((impl_isEpoch.f (wrap64 (Int.tdiv a0 4294967296))).bind fun t150 => (if t150 = true then ((impl_isOff.f (Int.tmod a0 4294967296)).bind fun t151 => (some t151)) else (some false))) = some r := h; clear h; replace H := Option.bind_eq_some_iff.mp H; obtain ⟨t150, A20, H⟩ := H
 try dsimp only at H
 have A2 := Aside0.mk A20; clear A20
 by_cases c3 : t150 = true
 ·subst c3
  have H1 : ((impl_isOff.f (Int.tmod a0 4294967296)).bind fun t151 => (some t151)) = some r := by rw [if_pos rfl] at H; exact H
  clear H; have H := H1; clear H1; replace H := Option.bind_eq_some_iff.mp H; obtain ⟨t151, A40, H⟩ := H
  try dsimp only at H
  have A4 := Aside0.mk A40; clear A40; obtain rfl := Option.some.inj H
  go_enter Try.func52, Try.ntmps52
  go_wp2_with (first | ((with_reducible refine GC 75 ?_); refine goesL_ (some 5) rfl rfl Try.func75 (by kernel_rfl) rfl #[.int .i64 (wrap64 (Int.tdiv a0 4294967296))] rfl KL ?_; (with_reducible refine MN (impl_isEpoch.calls (wrap64 (Int.tdiv a0 4294967296)) true _ A2.out) ?_); intro nd; refine ⟨_, rfl, ?_⟩) | (go_at_call 76; (with_reducible refine (impl_isOff.calls (Int.tmod a0 4294967296) t151 _ A4.out).mono ?_); rintro e w' ⟨rfl, ⟨nd, rfl⟩⟩))
  go_ret
  exact ⟨by first | rfl | (simp; done) | (simp [*]; done), by repeat (first | exact Drawn0.refl _ | apply Drawn0.step)⟩
 ·replace c3 := Bool.eq_false_iff.mpr c3
  subst c3; have H1 : (some false) = some r := by rw [if_neg (show ¬ (false = true) by decide)] at H; exact H
  clear H; have H := H1; clear H1; obtain rfl := Option.some.inj H
  go_enter Try.func52, Try.ntmps52
  go_wp2_with (first | ((with_reducible refine GC 75 ?_); refine goesL_ (some 5) rfl rfl Try.func75 (by kernel_rfl) rfl #[.int .i64 (wrap64 (Int.tdiv a0 4294967296))] rfl KL ?_; (with_reducible refine MN (impl_isEpoch.calls (wrap64 (Int.tdiv a0 4294967296)) false _ A2.out) ?_); intro nd; refine ⟨_, rfl, ?_⟩))
  go_ret
  exact ⟨by first | rfl | (simp; done) | (simp [*]; done), by repeat (first | exact Drawn0.refl _ | apply Drawn0.step)⟩

/-! ### impl_EpochOf: function 26 -/
def impl_EpochOf.f (a0 : Int) : Option (Int) := (impl_PlaceOk.f a0).bind fun t152 => (if t152 = true then (some (wrap64 (Int.tdiv a0 4294967296))) else (some 0))
set_option maxHeartbeats 8000000 in
set_option maxRecDepth 100000 in
theorem impl_EpochOf.calls (a0 : Int) (r : Int) (w : World) (h : impl_EpochOf.f a0 = some r) :
  Calls Try.prog 26 #[.int .i64 a0] w fun e w' => e = .returned (.int .i64 r) ∧ Drawn0 w w' := by
 have H : ((impl_PlaceOk.f a0).bind fun t152 => (if t152 = true then (some (wrap64 (Int.tdiv a0 4294967296))) else (some 0))) = some r := h; clear h; replace H := Option.bind_eq_some_iff.mp H; obtain ⟨t152, A20, H⟩ := H
 try dsimp only at H
 have A2 := Aside0.mk A20; clear A20
 by_cases c3 : t152 = true
 ·subst c3
  have H1 : (some (wrap64 (Int.tdiv a0 4294967296))) = some r := by rw [if_pos rfl] at H; exact H
  clear H; have H := H1; clear H1; obtain rfl := Option.some.inj H
  go_enter Try.func26, Try.ntmps26
  go_wp2_with (first | ((with_reducible refine GC 52 ?_); refine goesL_ (some 4) rfl rfl Try.func52 (by kernel_rfl) rfl #[.int .i64 a0] rfl KL ?_; (with_reducible refine MN (impl_PlaceOk.calls a0 true _ A2.out) ?_); intro nd; refine ⟨_, rfl, ?_⟩))
  go_ret
  exact ⟨by first | rfl | (simp; done) | (simp [*]; done), by repeat (first | exact Drawn0.refl _ | apply Drawn0.step)⟩
 ·replace c3 := Bool.eq_false_iff.mpr c3
  subst c3; have H1 : (some 0) = some r := by rw [if_neg (show ¬ (false = true) by decide)] at H; exact H
  clear H; have H := H1; clear H1; obtain rfl := Option.some.inj H
  go_enter Try.func26, Try.ntmps26
  go_wp2_with (first | ((with_reducible refine GC 52 ?_); refine goesL_ (some 4) rfl rfl Try.func52 (by kernel_rfl) rfl #[.int .i64 a0] rfl KL ?_; (with_reducible refine MN (impl_PlaceOk.calls a0 false _ A2.out) ?_); intro nd; refine ⟨_, rfl, ?_⟩))
  go_ret
  exact ⟨by first | rfl | (simp; done) | (simp [*]; done), by repeat (first | exact Drawn0.refl _ | apply Drawn0.step)⟩

/-! ### impl_dataOk: function 77 -/
def impl_dataOk.f (a0 : ByteArray) : Option (Bool) := some (decide ((a0.size : Int) ≤ 40))
set_option maxHeartbeats 8000000 in
set_option maxRecDepth 100000 in
theorem impl_dataOk.calls (a0 : ByteArray) (r : Bool) (w : World) (h : impl_dataOk.f a0 = some r) :
  Calls Try.prog 77 #[.string a0] w fun e w' => e = .returned (.bool r) ∧ Drawn0 w w' := by
 have H : (some (decide ((a0.size : Int) ≤ 40))) = some r := h; clear h; obtain rfl := Option.some.inj H
 go_enter Try.func77, Try.ntmps77
 go_wp2
 go_ret
 exact ⟨by first | rfl | (simp; done) | (simp [*]; done), by repeat (first | exact Drawn0.refl _ | apply Drawn0.step)⟩

/-! ### impl_EntryOk: function 45 -/
def impl_EntryOk.f (a0_0 : Int) (a0_1 : Int) (a0_2 : Bool) (a0_3 : ByteArray) : Option (Bool) := (impl_within.f a0_1 0 30).bind fun t154 => (if t154 = true then (if a0_1 = 0 then (if a0_2 = true then (if a0_1 > 0 then ((impl_PlaceOk.f a0_0).bind fun t155 => (if t155 = true then (if a0_3.toList = ([] : List UInt8) then ((impl_dataOk.f a0_3).bind fun t156 => (some t156)) else (some false)) else (some false))) else ((impl_PlaceOk.f a0_0).bind fun t157 => (if t157 = true then (some false) else (some false)))) else ((impl_PlaceOk.f a0_0).bind fun t158 => (if t158 = true then ((impl_dataOk.f a0_3).bind fun t159 => (some t159)) else (some false)))) else ((impl_EpochOf.f a0_0).bind fun t160 => (if a0_2 = true then (if a0_1 > 0 then ((impl_PlaceOk.f a0_0).bind fun t161 => (if t161 = true then (if a0_1 > t160 then (if a0_3.toList = ([] : List UInt8) then ((impl_dataOk.f a0_3).bind fun t162 => (some t162)) else (some false)) else (some false)) else (some false))) else ((impl_PlaceOk.f a0_0).bind fun t163 => (if t163 = true then (if a0_1 > t160 then (some false) else (some false)) else (some false)))) else ((impl_PlaceOk.f a0_0).bind fun t164 => (if t164 = true then (if a0_1 > t160 then ((impl_dataOk.f a0_3).bind fun t165 => (some t165)) else (some false)) else (some false)))))) else (if a0_2 = true then (if a0_1 > 0 then ((impl_PlaceOk.f a0_0).bind fun t166 => (if t166 = true then (some false) else (some false))) else ((impl_PlaceOk.f a0_0).bind fun t167 => (if t167 = true then (some false) else (some false)))) else ((impl_PlaceOk.f a0_0).bind fun t168 => (if t168 = true then (some false) else (some false)))))
set_option maxHeartbeats 8000000 in
set_option maxRecDepth 100000 in
theorem impl_EntryOk.calls (a0_0 : Int) (a0_1 : Int) (a0_2 : Bool) (a0_3 : ByteArray) (r : Bool) (w : World) (h : impl_EntryOk.f a0_0 a0_1 a0_2 a0_3 = some r) :
  Calls Try.prog 45 #[.agg #[.int .i64 a0_0, .int .i64 a0_1, .bool a0_2, .string a0_3]] w fun e w' => e = .returned (.bool r) ∧ Below w.heap.size w w' := by
 have hu35 := Try.underlying35; have HB := Aside0.mk (Below.refl w.heap.size w); have H : ((impl_within.f a0_1 0 30).bind fun t154 => (if t154 = true then (if a0_1 = 0 then (if a0_2 = true then (if a0_1 > 0 then ((impl_PlaceOk.f a0_0).bind fun t155 => (if t155 = true then (if a0_3.toList = ([] : List UInt8) then ((impl_dataOk.f a0_3).bind fun t156 => (some t156)) else (some false)) else (some false))) else ((impl_PlaceOk.f a0_0).bind fun t157 => (if t157 = true then (some false) else (some false)))) else ((impl_PlaceOk.f a0_0).bind fun t158 => (if t158 = true then ((impl_dataOk.f a0_3).bind fun t159 => (some t159)) else (some false)))) else ((impl_EpochOf.f a0_0).bind fun t160 => (if a0_2 = true then (if a0_1 > 0 then ((impl_PlaceOk.f a0_0).bind fun t161 => (if t161 = true then (if a0_1 > t160 then (if a0_3.toList = ([] : List UInt8) then ((impl_dataOk.f a0_3).bind fun t162 => (some t162)) else (some false)) else (some false)) else (some false))) else ((impl_PlaceOk.f a0_0).bind fun t163 => (if t163 = true then (if a0_1 > t160 then (some false) else (some false)) else (some false)))) else ((impl_PlaceOk.f a0_0).bind fun t164 => (if t164 = true then (if a0_1 > t160 then ((impl_dataOk.f a0_3).bind fun t165 => (some t165)) else (some false)) else (some false)))))) else (if a0_2 = true then (if a0_1 > 0 then ((impl_PlaceOk.f a0_0).bind fun t166 => (if t166 = true then (some false) else (some false))) else ((impl_PlaceOk.f a0_0).bind fun t167 => (if t167 = true then (some false) else (some false)))) else ((impl_PlaceOk.f a0_0).bind fun t168 => (if t168 = true then (some false) else (some false)))))) = some r := h; clear h; replace H := Option.bind_eq_some_iff.mp H; obtain ⟨t154, A20, H⟩ := H
 try dsimp only at H
 have A2 := Aside0.mk A20; clear A20
 by_cases c3 : t154 = true
 ·subst c3
  have H1 : (if a0_1 = 0 then (if a0_2 = true then (if a0_1 > 0 then ((impl_PlaceOk.f a0_0).bind fun t155 => (if t155 = true then (if a0_3.toList = ([] : List UInt8) then ((impl_dataOk.f a0_3).bind fun t156 => (some t156)) else (some false)) else (some false))) else ((impl_PlaceOk.f a0_0).bind fun t157 => (if t157 = true then (some false) else (some false)))) else ((impl_PlaceOk.f a0_0).bind fun t158 => (if t158 = true then ((impl_dataOk.f a0_3).bind fun t159 => (some t159)) else (some false)))) else ((impl_EpochOf.f a0_0).bind fun t160 => (if a0_2 = true then (if a0_1 > 0 then ((impl_PlaceOk.f a0_0).bind fun t161 => (if t161 = true then (if a0_1 > t160 then (if a0_3.toList = ([] : List UInt8) then ((impl_dataOk.f a0_3).bind fun t162 => (some t162)) else (some false)) else (some false)) else (some false))) else ((impl_PlaceOk.f a0_0).bind fun t163 => (if t163 = true then (if a0_1 > t160 then (some false) else (some false)) else (some false)))) else ((impl_PlaceOk.f a0_0).bind fun t164 => (if t164 = true then (if a0_1 > t160 then ((impl_dataOk.f a0_3).bind fun t165 => (some t165)) else (some false)) else (some false)))))) = some r := by rw [if_pos rfl] at H; exact H
  clear H; have H := H1; clear H1
  by_cases c4 : a0_1 = 0
  ·rw [if_pos c4] at H
   have c4b0 : (a0_1 == 0) = true := beq_iff_eq.mpr c4; have c4b1 : (a0_1 != 0) = false := bne_eq_false_iff_eq.mpr c4; clear c4
   by_cases c5 : a0_2 = true
   ·subst c5
    have H1 : (if a0_1 > 0 then ((impl_PlaceOk.f a0_0).bind fun t155 => (if t155 = true then (if a0_3.toList = ([] : List UInt8) then ((impl_dataOk.f a0_3).bind fun t156 => (some t156)) else (some false)) else (some false))) else ((impl_PlaceOk.f a0_0).bind fun t157 => (if t157 = true then (some false) else (some false)))) = some r := by rw [if_pos rfl] at H; exact H
    clear H; have H := H1; clear H1
    by_cases c6 : a0_1 > 0
    ·rw [if_pos c6] at H
     have c6b0 : decide (0 < a0_1) = true := decide_eq_true c6; clear c6; replace H := Option.bind_eq_some_iff.mp H; obtain ⟨t155, A70, H⟩ := H
     try dsimp only at H
     have A7 := Aside0.mk A70; clear A70
     by_cases c8 : t155 = true
     ·subst c8
      have H1 : (if a0_3.toList = ([] : List UInt8) then ((impl_dataOk.f a0_3).bind fun t156 => (some t156)) else (some false)) = some r := by rw [if_pos rfl] at H; exact H
      clear H; have H := H1; clear H1
      by_cases c9 : a0_3.toList = ([] : List UInt8)
      ·rw [if_pos c9] at H
       have c9b0 : (a0_3.toList == ([] : List UInt8)) = true := beq_iff_eq.mpr c9; have c9b1 : (a0_3.toList != ([] : List UInt8)) = false := bne_eq_false_iff_eq.mpr c9; clear c9; replace H := Option.bind_eq_some_iff.mp H; obtain ⟨t156, A100, H⟩ := H
       try dsimp only at H
       have A10 := Aside0.mk A100; clear A100; obtain rfl := Option.some.inj H
       go_enter Try.func45, Try.ntmps45
       go_wp2_with (first | ((with_reducible refine GD 1 ?_); refine BE 1 #[.int .i64 a0_0, .int .i64 a0_1, .bool true, .string a0_3] 35 ?_; intro gb153 hg w11 hbox hb; have h_ := PB w hb hbox hg; clear HB; obtain ⟨HB, BK153, GW153, GE153⟩ := h_; clear hb hbox hg; obtain ⟨hcz12_0, hcz12_1, hcz12_2, hcz12_3, hfz12_0, hfz12_1, hfz12_2, hfz12_3⟩ := C4 BK153.out) | (go_at_call 63; (with_reducible refine (impl_within.calls a0_1 0 30 true _ A2.out).mono ?_); rintro e w' ⟨rfl, ⟨nd, rfl⟩⟩; (try exact KT)) | (go_at_call 52; (with_reducible refine (impl_PlaceOk.calls a0_0 true _ A7.out).mono ?_); rintro e w' ⟨rfl, ⟨nd, rfl⟩⟩; (try exact KT)) | (go_at_call 77; (with_reducible refine (impl_dataOk.calls a0_3 t156 _ A10.out).mono ?_); rintro e w' ⟨rfl, ⟨nd, rfl⟩⟩; (try exact KT)))
       repeat (go_quiet (first | (go_at_call 63; (with_reducible refine (impl_within.calls a0_1 0 30 true _ A2.out).mono ?_); rintro e w' ⟨rfl, ⟨nd, rfl⟩⟩; (try exact KT)) | (go_at_call 52; (with_reducible refine (impl_PlaceOk.calls a0_0 true _ A7.out).mono ?_); rintro e w' ⟨rfl, ⟨nd, rfl⟩⟩; (try exact KT)) | (go_at_call 77; (with_reducible refine (impl_dataOk.calls a0_3 t156 _ A10.out).mono ?_); rintro e w' ⟨rfl, ⟨nd, rfl⟩⟩; (try exact KT))); try go_wp2_with (first | ((with_reducible refine GD 1 ?_); refine BE 1 #[.int .i64 a0_0, .int .i64 a0_1, .bool true, .string a0_3] 35 ?_; intro gb153 hg w11 hbox hb; have h_ := PB w hb hbox hg; clear HB; obtain ⟨HB, BK153, GW153, GE153⟩ := h_; clear hb hbox hg; obtain ⟨hcz12_0, hcz12_1, hcz12_2, hcz12_3, hfz12_0, hfz12_1, hfz12_2, hfz12_3⟩ := C4 BK153.out) | (go_at_call 63; (with_reducible refine (impl_within.calls a0_1 0 30 true _ A2.out).mono ?_); rintro e w' ⟨rfl, ⟨nd, rfl⟩⟩; (try exact KT)) | (go_at_call 52; (with_reducible refine (impl_PlaceOk.calls a0_0 true _ A7.out).mono ?_); rintro e w' ⟨rfl, ⟨nd, rfl⟩⟩; (try exact KT)) | (go_at_call 77; (with_reducible refine (impl_dataOk.calls a0_3 t156 _ A10.out).mono ?_); rintro e w' ⟨rfl, ⟨nd, rfl⟩⟩; (try exact KT))))
       go_ret
       exact ⟨KE, KB⟩
      ·rw [if_neg c9] at H
       have c9b0 : (a0_3.toList == ([] : List UInt8)) = false := beq_eq_false_iff_ne.mpr c9; have c9b1 : (a0_3.toList != ([] : List UInt8)) = true := bne_iff_ne.mpr c9; obtain rfl := Option.some.inj H
       go_enter Try.func45, Try.ntmps45
       go_wp2_with (first | ((with_reducible refine GD 1 ?_); refine BE 1 #[.int .i64 a0_0, .int .i64 a0_1, .bool true, .string a0_3] 35 ?_; intro gb153 hg w13 hbox hb; have h_ := PB w hb hbox hg; clear HB; obtain ⟨HB, BK153, GW153, GE153⟩ := h_; clear hb hbox hg; obtain ⟨hcz14_0, hcz14_1, hcz14_2, hcz14_3, hfz14_0, hfz14_1, hfz14_2, hfz14_3⟩ := C4 BK153.out) | (go_at_call 63; (with_reducible refine (impl_within.calls a0_1 0 30 true _ A2.out).mono ?_); rintro e w' ⟨rfl, ⟨nd, rfl⟩⟩; (try exact KT)) | (go_at_call 52; (with_reducible refine (impl_PlaceOk.calls a0_0 true _ A7.out).mono ?_); rintro e w' ⟨rfl, ⟨nd, rfl⟩⟩; (try exact KT)))
       repeat (go_quiet (first | (go_at_call 63; (with_reducible refine (impl_within.calls a0_1 0 30 true _ A2.out).mono ?_); rintro e w' ⟨rfl, ⟨nd, rfl⟩⟩; (try exact KT)) | (go_at_call 52; (with_reducible refine (impl_PlaceOk.calls a0_0 true _ A7.out).mono ?_); rintro e w' ⟨rfl, ⟨nd, rfl⟩⟩; (try exact KT))); try go_wp2_with (first | ((with_reducible refine GD 1 ?_); refine BE 1 #[.int .i64 a0_0, .int .i64 a0_1, .bool true, .string a0_3] 35 ?_; intro gb153 hg w13 hbox hb; have h_ := PB w hb hbox hg; clear HB; obtain ⟨HB, BK153, GW153, GE153⟩ := h_; clear hb hbox hg; obtain ⟨hcz14_0, hcz14_1, hcz14_2, hcz14_3, hfz14_0, hfz14_1, hfz14_2, hfz14_3⟩ := C4 BK153.out) | (go_at_call 63; (with_reducible refine (impl_within.calls a0_1 0 30 true _ A2.out).mono ?_); rintro e w' ⟨rfl, ⟨nd, rfl⟩⟩; (try exact KT)) | (go_at_call 52; (with_reducible refine (impl_PlaceOk.calls a0_0 true _ A7.out).mono ?_); rintro e w' ⟨rfl, ⟨nd, rfl⟩⟩; (try exact KT))))
       go_ret
       exact ⟨KE, KB⟩
     ·replace c8 := Bool.eq_false_iff.mpr c8
      subst c8; have H1 : (some false) = some r := by rw [if_neg (show ¬ (false = true) by decide)] at H; exact H
      clear H; have H := H1; clear H1; obtain rfl := Option.some.inj H
      go_enter Try.func45, Try.ntmps45
      go_wp2_with (first | ((with_reducible refine GD 1 ?_); refine BE 1 #[.int .i64 a0_0, .int .i64 a0_1, .bool true, .string a0_3] 35 ?_; intro gb153 hg w15 hbox hb; have h_ := PB w hb hbox hg; clear HB; obtain ⟨HB, BK153, GW153, GE153⟩ := h_; clear hb hbox hg; obtain ⟨hcz16_0, hcz16_1, hcz16_2, hcz16_3, hfz16_0, hfz16_1, hfz16_2, hfz16_3⟩ := C4 BK153.out) | (go_at_call 63; (with_reducible refine (impl_within.calls a0_1 0 30 true _ A2.out).mono ?_); rintro e w' ⟨rfl, ⟨nd, rfl⟩⟩; (try exact KT)) | (go_at_call 52; (with_reducible refine (impl_PlaceOk.calls a0_0 false _ A7.out).mono ?_); rintro e w' ⟨rfl, ⟨nd, rfl⟩⟩; (try exact KT)))
      repeat (go_quiet (first | (go_at_call 63; (with_reducible refine (impl_within.calls a0_1 0 30 true _ A2.out).mono ?_); rintro e w' ⟨rfl, ⟨nd, rfl⟩⟩; (try exact KT)) | (go_at_call 52; (with_reducible refine (impl_PlaceOk.calls a0_0 false _ A7.out).mono ?_); rintro e w' ⟨rfl, ⟨nd, rfl⟩⟩; (try exact KT))); try go_wp2_with (first | ((with_reducible refine GD 1 ?_); refine BE 1 #[.int .i64 a0_0, .int .i64 a0_1, .bool true, .string a0_3] 35 ?_; intro gb153 hg w15 hbox hb; have h_ := PB w hb hbox hg; clear HB; obtain ⟨HB, BK153, GW153, GE153⟩ := h_; clear hb hbox hg; obtain ⟨hcz16_0, hcz16_1, hcz16_2, hcz16_3, hfz16_0, hfz16_1, hfz16_2, hfz16_3⟩ := C4 BK153.out) | (go_at_call 63; (with_reducible refine (impl_within.calls a0_1 0 30 true _ A2.out).mono ?_); rintro e w' ⟨rfl, ⟨nd, rfl⟩⟩; (try exact KT)) | (go_at_call 52; (with_reducible refine (impl_PlaceOk.calls a0_0 false _ A7.out).mono ?_); rintro e w' ⟨rfl, ⟨nd, rfl⟩⟩; (try exact KT))))
      go_ret
      exact ⟨KE, KB⟩
    ·rw [if_neg c6] at H
     have c6b0 : decide (0 < a0_1) = false := decide_eq_false c6; clear c6; replace H := Option.bind_eq_some_iff.mp H; obtain ⟨t157, A170, H⟩ := H
     try dsimp only at H
     have A17 := Aside0.mk A170; clear A170
     by_cases c18 : t157 = true
     ·subst c18
      have H1 : (some false) = some r := by rw [if_pos rfl] at H; exact H
      clear H; have H := H1; clear H1; obtain rfl := Option.some.inj H
      go_enter Try.func45, Try.ntmps45
      go_wp2_with (first | ((with_reducible refine GD 1 ?_); refine BE 1 #[.int .i64 a0_0, .int .i64 a0_1, .bool true, .string a0_3] 35 ?_; intro gb153 hg w19 hbox hb; have h_ := PB w hb hbox hg; clear HB; obtain ⟨HB, BK153, GW153, GE153⟩ := h_; clear hb hbox hg; obtain ⟨hcz20_0, hcz20_1, hcz20_2, hcz20_3, hfz20_0, hfz20_1, hfz20_2, hfz20_3⟩ := C4 BK153.out) | (go_at_call 63; (with_reducible refine (impl_within.calls a0_1 0 30 true _ A2.out).mono ?_); rintro e w' ⟨rfl, ⟨nd, rfl⟩⟩; (try exact KT)) | (go_at_call 52; (with_reducible refine (impl_PlaceOk.calls a0_0 true _ A17.out).mono ?_); rintro e w' ⟨rfl, ⟨nd, rfl⟩⟩; (try exact KT)))
      repeat (go_quiet (first | (go_at_call 63; (with_reducible refine (impl_within.calls a0_1 0 30 true _ A2.out).mono ?_); rintro e w' ⟨rfl, ⟨nd, rfl⟩⟩; (try exact KT)) | (go_at_call 52; (with_reducible refine (impl_PlaceOk.calls a0_0 true _ A17.out).mono ?_); rintro e w' ⟨rfl, ⟨nd, rfl⟩⟩; (try exact KT))); try go_wp2_with (first | ((with_reducible refine GD 1 ?_); refine BE 1 #[.int .i64 a0_0, .int .i64 a0_1, .bool true, .string a0_3] 35 ?_; intro gb153 hg w19 hbox hb; have h_ := PB w hb hbox hg; clear HB; obtain ⟨HB, BK153, GW153, GE153⟩ := h_; clear hb hbox hg; obtain ⟨hcz20_0, hcz20_1, hcz20_2, hcz20_3, hfz20_0, hfz20_1, hfz20_2, hfz20_3⟩ := C4 BK153.out) | (go_at_call 63; (with_reducible refine (impl_within.calls a0_1 0 30 true _ A2.out).mono ?_); rintro e w' ⟨rfl, ⟨nd, rfl⟩⟩; (try exact KT)) | (go_at_call 52; (with_reducible refine (impl_PlaceOk.calls a0_0 true _ A17.out).mono ?_); rintro e w' ⟨rfl, ⟨nd, rfl⟩⟩; (try exact KT))))
      go_ret
      exact ⟨KE, KB⟩
     ·replace c18 := Bool.eq_false_iff.mpr c18
      subst c18; have H1 : (some false) = some r := by rw [if_neg (show ¬ (false = true) by decide)] at H; exact H
      clear H; have H := H1; clear H1; obtain rfl := Option.some.inj H
      go_enter Try.func45, Try.ntmps45
      go_wp2_with (first | ((with_reducible refine GD 1 ?_); refine BE 1 #[.int .i64 a0_0, .int .i64 a0_1, .bool true, .string a0_3] 35 ?_; intro gb153 hg w21 hbox hb; have h_ := PB w hb hbox hg; clear HB; obtain ⟨HB, BK153, GW153, GE153⟩ := h_; clear hb hbox hg; obtain ⟨hcz22_0, hcz22_1, hcz22_2, hcz22_3, hfz22_0, hfz22_1, hfz22_2, hfz22_3⟩ := C4 BK153.out) | (go_at_call 63; (with_reducible refine (impl_within.calls a0_1 0 30 true _ A2.out).mono ?_); rintro e w' ⟨rfl, ⟨nd, rfl⟩⟩; (try exact KT)) | (go_at_call 52; (with_reducible refine (impl_PlaceOk.calls a0_0 false _ A17.out).mono ?_); rintro e w' ⟨rfl, ⟨nd, rfl⟩⟩; (try exact KT)))
      repeat (go_quiet (first | (go_at_call 63; (with_reducible refine (impl_within.calls a0_1 0 30 true _ A2.out).mono ?_); rintro e w' ⟨rfl, ⟨nd, rfl⟩⟩; (try exact KT)) | (go_at_call 52; (with_reducible refine (impl_PlaceOk.calls a0_0 false _ A17.out).mono ?_); rintro e w' ⟨rfl, ⟨nd, rfl⟩⟩; (try exact KT))); try go_wp2_with (first | ((with_reducible refine GD 1 ?_); refine BE 1 #[.int .i64 a0_0, .int .i64 a0_1, .bool true, .string a0_3] 35 ?_; intro gb153 hg w21 hbox hb; have h_ := PB w hb hbox hg; clear HB; obtain ⟨HB, BK153, GW153, GE153⟩ := h_; clear hb hbox hg; obtain ⟨hcz22_0, hcz22_1, hcz22_2, hcz22_3, hfz22_0, hfz22_1, hfz22_2, hfz22_3⟩ := C4 BK153.out) | (go_at_call 63; (with_reducible refine (impl_within.calls a0_1 0 30 true _ A2.out).mono ?_); rintro e w' ⟨rfl, ⟨nd, rfl⟩⟩; (try exact KT)) | (go_at_call 52; (with_reducible refine (impl_PlaceOk.calls a0_0 false _ A17.out).mono ?_); rintro e w' ⟨rfl, ⟨nd, rfl⟩⟩; (try exact KT))))
      go_ret
      exact ⟨KE, KB⟩
   ·replace c5 := Bool.eq_false_iff.mpr c5
    subst c5; have H1 : ((impl_PlaceOk.f a0_0).bind fun t158 => (if t158 = true then ((impl_dataOk.f a0_3).bind fun t159 => (some t159)) else (some false))) = some r := by rw [if_neg (show ¬ (false = true) by decide)] at H; exact H
    clear H; have H := H1; clear H1; replace H := Option.bind_eq_some_iff.mp H; obtain ⟨t158, A230, H⟩ := H
    try dsimp only at H
    have A23 := Aside0.mk A230; clear A230
    by_cases c24 : t158 = true
    ·subst c24
     have H1 : ((impl_dataOk.f a0_3).bind fun t159 => (some t159)) = some r := by rw [if_pos rfl] at H; exact H
     clear H; have H := H1; clear H1; replace H := Option.bind_eq_some_iff.mp H; obtain ⟨t159, A250, H⟩ := H
     try dsimp only at H
     have A25 := Aside0.mk A250; clear A250; obtain rfl := Option.some.inj H
     go_enter Try.func45, Try.ntmps45
     go_wp2_with (first | ((with_reducible refine GD 1 ?_); refine BE 1 #[.int .i64 a0_0, .int .i64 a0_1, .bool false, .string a0_3] 35 ?_; intro gb153 hg w26 hbox hb; have h_ := PB w hb hbox hg; clear HB; obtain ⟨HB, BK153, GW153, GE153⟩ := h_; clear hb hbox hg; obtain ⟨hcz27_0, hcz27_1, hcz27_2, hcz27_3, hfz27_0, hfz27_1, hfz27_2, hfz27_3⟩ := C4 BK153.out) | (go_at_call 63; (with_reducible refine (impl_within.calls a0_1 0 30 true _ A2.out).mono ?_); rintro e w' ⟨rfl, ⟨nd, rfl⟩⟩; (try exact KT)) | (go_at_call 52; (with_reducible refine (impl_PlaceOk.calls a0_0 true _ A23.out).mono ?_); rintro e w' ⟨rfl, ⟨nd, rfl⟩⟩; (try exact KT)) | (go_at_call 77; (with_reducible refine (impl_dataOk.calls a0_3 t159 _ A25.out).mono ?_); rintro e w' ⟨rfl, ⟨nd, rfl⟩⟩; (try exact KT)))
     repeat (go_quiet (first | (go_at_call 63; (with_reducible refine (impl_within.calls a0_1 0 30 true _ A2.out).mono ?_); rintro e w' ⟨rfl, ⟨nd, rfl⟩⟩; (try exact KT)) | (go_at_call 52; (with_reducible refine (impl_PlaceOk.calls a0_0 true _ A23.out).mono ?_); rintro e w' ⟨rfl, ⟨nd, rfl⟩⟩; (try exact KT)) | (go_at_call 77; (with_reducible refine (impl_dataOk.calls a0_3 t159 _ A25.out).mono ?_); rintro e w' ⟨rfl, ⟨nd, rfl⟩⟩; (try exact KT))); try go_wp2_with (first | ((with_reducible refine GD 1 ?_); refine BE 1 #[.int .i64 a0_0, .int .i64 a0_1, .bool false, .string a0_3] 35 ?_; intro gb153 hg w26 hbox hb; have h_ := PB w hb hbox hg; clear HB; obtain ⟨HB, BK153, GW153, GE153⟩ := h_; clear hb hbox hg; obtain ⟨hcz27_0, hcz27_1, hcz27_2, hcz27_3, hfz27_0, hfz27_1, hfz27_2, hfz27_3⟩ := C4 BK153.out) | (go_at_call 63; (with_reducible refine (impl_within.calls a0_1 0 30 true _ A2.out).mono ?_); rintro e w' ⟨rfl, ⟨nd, rfl⟩⟩; (try exact KT)) | (go_at_call 52; (with_reducible refine (impl_PlaceOk.calls a0_0 true _ A23.out).mono ?_); rintro e w' ⟨rfl, ⟨nd, rfl⟩⟩; (try exact KT)) | (go_at_call 77; (with_reducible refine (impl_dataOk.calls a0_3 t159 _ A25.out).mono ?_); rintro e w' ⟨rfl, ⟨nd, rfl⟩⟩; (try exact KT))))
     go_ret
     exact ⟨KE, KB⟩
    ·replace c24 := Bool.eq_false_iff.mpr c24
     subst c24; have H1 : (some false) = some r := by rw [if_neg (show ¬ (false = true) by decide)] at H; exact H
     clear H; have H := H1; clear H1; obtain rfl := Option.some.inj H
     go_enter Try.func45, Try.ntmps45
     go_wp2_with (first | ((with_reducible refine GD 1 ?_); refine BE 1 #[.int .i64 a0_0, .int .i64 a0_1, .bool false, .string a0_3] 35 ?_; intro gb153 hg w28 hbox hb; have h_ := PB w hb hbox hg; clear HB; obtain ⟨HB, BK153, GW153, GE153⟩ := h_; clear hb hbox hg; obtain ⟨hcz29_0, hcz29_1, hcz29_2, hcz29_3, hfz29_0, hfz29_1, hfz29_2, hfz29_3⟩ := C4 BK153.out) | (go_at_call 63; (with_reducible refine (impl_within.calls a0_1 0 30 true _ A2.out).mono ?_); rintro e w' ⟨rfl, ⟨nd, rfl⟩⟩; (try exact KT)) | (go_at_call 52; (with_reducible refine (impl_PlaceOk.calls a0_0 false _ A23.out).mono ?_); rintro e w' ⟨rfl, ⟨nd, rfl⟩⟩; (try exact KT)))
     repeat (go_quiet (first | (go_at_call 63; (with_reducible refine (impl_within.calls a0_1 0 30 true _ A2.out).mono ?_); rintro e w' ⟨rfl, ⟨nd, rfl⟩⟩; (try exact KT)) | (go_at_call 52; (with_reducible refine (impl_PlaceOk.calls a0_0 false _ A23.out).mono ?_); rintro e w' ⟨rfl, ⟨nd, rfl⟩⟩; (try exact KT))); try go_wp2_with (first | ((with_reducible refine GD 1 ?_); refine BE 1 #[.int .i64 a0_0, .int .i64 a0_1, .bool false, .string a0_3] 35 ?_; intro gb153 hg w28 hbox hb; have h_ := PB w hb hbox hg; clear HB; obtain ⟨HB, BK153, GW153, GE153⟩ := h_; clear hb hbox hg; obtain ⟨hcz29_0, hcz29_1, hcz29_2, hcz29_3, hfz29_0, hfz29_1, hfz29_2, hfz29_3⟩ := C4 BK153.out) | (go_at_call 63; (with_reducible refine (impl_within.calls a0_1 0 30 true _ A2.out).mono ?_); rintro e w' ⟨rfl, ⟨nd, rfl⟩⟩; (try exact KT)) | (go_at_call 52; (with_reducible refine (impl_PlaceOk.calls a0_0 false _ A23.out).mono ?_); rintro e w' ⟨rfl, ⟨nd, rfl⟩⟩; (try exact KT))))
     go_ret
     exact ⟨KE, KB⟩
  ·rw [if_neg c4] at H
   have c4b0 : (a0_1 == 0) = false := beq_eq_false_iff_ne.mpr c4; have c4b1 : (a0_1 != 0) = true := bne_iff_ne.mpr c4; replace H := Option.bind_eq_some_iff.mp H; obtain ⟨t160, A300, H⟩ := H
   try dsimp only at H
   have A30 := Aside0.mk A300; clear A300
   by_cases c31 : a0_2 = true
   ·subst c31
    have H1 : (if a0_1 > 0 then ((impl_PlaceOk.f a0_0).bind fun t161 => (if t161 = true then (if a0_1 > t160 then (if a0_3.toList = ([] : List UInt8) then ((impl_dataOk.f a0_3).bind fun t162 => (some t162)) else (some false)) else (some false)) else (some false))) else ((impl_PlaceOk.f a0_0).bind fun t163 => (if t163 = true then (if a0_1 > t160 then (some false) else (some false)) else (some false)))) = some r := by rw [if_pos rfl] at H; exact H
    clear H; have H := H1; clear H1
    by_cases c32 : a0_1 > 0
    ·rw [if_pos c32] at H
     have c32b0 : decide (0 < a0_1) = true := decide_eq_true c32; clear c32; replace H := Option.bind_eq_some_iff.mp H; obtain ⟨t161, A330, H⟩ := H
     try dsimp only at H
     have A33 := Aside0.mk A330; clear A330
     by_cases c34 : t161 = true
     ·subst c34
      have H1 : (if a0_1 > t160 then (if a0_3.toList = ([] : List UInt8) then ((impl_dataOk.f a0_3).bind fun t162 => (some t162)) else (some false)) else (some false)) = some r := by rw [if_pos rfl] at H; exact H
      clear H; have H := H1; clear H1
      by_cases c35 : a0_1 > t160
      ·rw [if_pos c35] at H
       have c35b0 : decide (t160 < a0_1) = true := decide_eq_true c35; clear c35
       by_cases c36 : a0_3.toList = ([] : List UInt8)
       ·rw [if_pos c36] at H
        have c36b0 : (a0_3.toList == ([] : List UInt8)) = true := beq_iff_eq.mpr c36; have c36b1 : (a0_3.toList != ([] : List UInt8)) = false := bne_eq_false_iff_eq.mpr c36; clear c36; replace H := Option.bind_eq_some_iff.mp H; obtain ⟨t162, A370, H⟩ := H
        try dsimp only at H
        have A37 := Aside0.mk A370; clear A370; obtain rfl := Option.some.inj H
        go_enter Try.func45, Try.ntmps45
        go_wp2_with (first | ((with_reducible refine GD 1 ?_); refine BE 1 #[.int .i64 a0_0, .int .i64 a0_1, .bool true, .string a0_3] 35 ?_; intro gb153 hg w38 hbox hb; have h_ := PB w hb hbox hg; clear HB; obtain ⟨HB, BK153, GW153, GE153⟩ := h_; clear hb hbox hg; obtain ⟨hcz39_0, hcz39_1, hcz39_2, hcz39_3, hfz39_0, hfz39_1, hfz39_2, hfz39_3⟩ := C4 BK153.out) | (go_at_call 63; (with_reducible refine (impl_within.calls a0_1 0 30 true _ A2.out).mono ?_); rintro e w' ⟨rfl, ⟨nd, rfl⟩⟩; (try exact KT)) | (go_at_call 26; (with_reducible refine (impl_EpochOf.calls a0_0 t160 _ A30.out).mono ?_); rintro e w' ⟨rfl, ⟨nd, rfl⟩⟩; (try exact KT)) | (go_at_call 52; (with_reducible refine (impl_PlaceOk.calls a0_0 true _ A33.out).mono ?_); rintro e w' ⟨rfl, ⟨nd, rfl⟩⟩; (try exact KT)) | (go_at_call 77; (with_reducible refine (impl_dataOk.calls a0_3 t162 _ A37.out).mono ?_); rintro e w' ⟨rfl, ⟨nd, rfl⟩⟩; (try exact KT)))
        repeat (go_quiet (first | (go_at_call 63; (with_reducible refine (impl_within.calls a0_1 0 30 true _ A2.out).mono ?_); rintro e w' ⟨rfl, ⟨nd, rfl⟩⟩; (try exact KT)) | (go_at_call 26; (with_reducible refine (impl_EpochOf.calls a0_0 t160 _ A30.out).mono ?_); rintro e w' ⟨rfl, ⟨nd, rfl⟩⟩; (try exact KT)) | (go_at_call 52; (with_reducible refine (impl_PlaceOk.calls a0_0 true _ A33.out).mono ?_); rintro e w' ⟨rfl, ⟨nd, rfl⟩⟩; (try exact KT)) | (go_at_call 77; (with_reducible refine (impl_dataOk.calls a0_3 t162 _ A37.out).mono ?_); rintro e w' ⟨rfl, ⟨nd, rfl⟩⟩; (try exact KT))); try go_wp2_with (first | ((with_reducible refine GD 1 ?_); refine BE 1 #[.int .i64 a0_0, .int .i64 a0_1, .bool true, .string a0_3] 35 ?_; intro gb153 hg w38 hbox hb; have h_ := PB w hb hbox hg; clear HB; obtain ⟨HB, BK153, GW153, GE153⟩ := h_; clear hb hbox hg; obtain ⟨hcz39_0, hcz39_1, hcz39_2, hcz39_3, hfz39_0, hfz39_1, hfz39_2, hfz39_3⟩ := C4 BK153.out) | (go_at_call 63; (with_reducible refine (impl_within.calls a0_1 0 30 true _ A2.out).mono ?_); rintro e w' ⟨rfl, ⟨nd, rfl⟩⟩; (try exact KT)) | (go_at_call 26; (with_reducible refine (impl_EpochOf.calls a0_0 t160 _ A30.out).mono ?_); rintro e w' ⟨rfl, ⟨nd, rfl⟩⟩; (try exact KT)) | (go_at_call 52; (with_reducible refine (impl_PlaceOk.calls a0_0 true _ A33.out).mono ?_); rintro e w' ⟨rfl, ⟨nd, rfl⟩⟩; (try exact KT)) | (go_at_call 77; (with_reducible refine (impl_dataOk.calls a0_3 t162 _ A37.out).mono ?_); rintro e w' ⟨rfl, ⟨nd, rfl⟩⟩; (try exact KT))))
        go_ret
        exact ⟨KE, KB⟩
       ·rw [if_neg c36] at H
        have c36b0 : (a0_3.toList == ([] : List UInt8)) = false := beq_eq_false_iff_ne.mpr c36; have c36b1 : (a0_3.toList != ([] : List UInt8)) = true := bne_iff_ne.mpr c36; obtain rfl := Option.some.inj H
        go_enter Try.func45, Try.ntmps45
        go_wp2_with (first | ((with_reducible refine GD 1 ?_); refine BE 1 #[.int .i64 a0_0, .int .i64 a0_1, .bool true, .string a0_3] 35 ?_; intro gb153 hg w40 hbox hb; have h_ := PB w hb hbox hg; clear HB; obtain ⟨HB, BK153, GW153, GE153⟩ := h_; clear hb hbox hg; obtain ⟨hcz41_0, hcz41_1, hcz41_2, hcz41_3, hfz41_0, hfz41_1, hfz41_2, hfz41_3⟩ := C4 BK153.out) | (go_at_call 63; (with_reducible refine (impl_within.calls a0_1 0 30 true _ A2.out).mono ?_); rintro e w' ⟨rfl, ⟨nd, rfl⟩⟩; (try exact KT)) | (go_at_call 26; (with_reducible refine (impl_EpochOf.calls a0_0 t160 _ A30.out).mono ?_); rintro e w' ⟨rfl, ⟨nd, rfl⟩⟩; (try exact KT)) | (go_at_call 52; (with_reducible refine (impl_PlaceOk.calls a0_0 true _ A33.out).mono ?_); rintro e w' ⟨rfl, ⟨nd, rfl⟩⟩; (try exact KT)))
        repeat (go_quiet (first | (go_at_call 63; (with_reducible refine (impl_within.calls a0_1 0 30 true _ A2.out).mono ?_); rintro e w' ⟨rfl, ⟨nd, rfl⟩⟩; (try exact KT)) | (go_at_call 26; (with_reducible refine (impl_EpochOf.calls a0_0 t160 _ A30.out).mono ?_); rintro e w' ⟨rfl, ⟨nd, rfl⟩⟩; (try exact KT)) | (go_at_call 52; (with_reducible refine (impl_PlaceOk.calls a0_0 true _ A33.out).mono ?_); rintro e w' ⟨rfl, ⟨nd, rfl⟩⟩; (try exact KT))); try go_wp2_with (first | ((with_reducible refine GD 1 ?_); refine BE 1 #[.int .i64 a0_0, .int .i64 a0_1, .bool true, .string a0_3] 35 ?_; intro gb153 hg w40 hbox hb; have h_ := PB w hb hbox hg; clear HB; obtain ⟨HB, BK153, GW153, GE153⟩ := h_; clear hb hbox hg; obtain ⟨hcz41_0, hcz41_1, hcz41_2, hcz41_3, hfz41_0, hfz41_1, hfz41_2, hfz41_3⟩ := C4 BK153.out) | (go_at_call 63; (with_reducible refine (impl_within.calls a0_1 0 30 true _ A2.out).mono ?_); rintro e w' ⟨rfl, ⟨nd, rfl⟩⟩; (try exact KT)) | (go_at_call 26; (with_reducible refine (impl_EpochOf.calls a0_0 t160 _ A30.out).mono ?_); rintro e w' ⟨rfl, ⟨nd, rfl⟩⟩; (try exact KT)) | (go_at_call 52; (with_reducible refine (impl_PlaceOk.calls a0_0 true _ A33.out).mono ?_); rintro e w' ⟨rfl, ⟨nd, rfl⟩⟩; (try exact KT))))
        go_ret
        exact ⟨KE, KB⟩
      ·rw [if_neg c35] at H
       have c35b0 : decide (t160 < a0_1) = false := decide_eq_false c35; clear c35; obtain rfl := Option.some.inj H
       go_enter Try.func45, Try.ntmps45
       go_wp2_with (first | ((with_reducible refine GD 1 ?_); refine BE 1 #[.int .i64 a0_0, .int .i64 a0_1, .bool true, .string a0_3] 35 ?_; intro gb153 hg w42 hbox hb; have h_ := PB w hb hbox hg; clear HB; obtain ⟨HB, BK153, GW153, GE153⟩ := h_; clear hb hbox hg; obtain ⟨hcz43_0, hcz43_1, hcz43_2, hcz43_3, hfz43_0, hfz43_1, hfz43_2, hfz43_3⟩ := C4 BK153.out) | (go_at_call 63; (with_reducible refine (impl_within.calls a0_1 0 30 true _ A2.out).mono ?_); rintro e w' ⟨rfl, ⟨nd, rfl⟩⟩; (try exact KT)) | (go_at_call 26; (with_reducible refine (impl_EpochOf.calls a0_0 t160 _ A30.out).mono ?_); rintro e w' ⟨rfl, ⟨nd, rfl⟩⟩; (try exact KT)) | (go_at_call 52; (with_reducible refine (impl_PlaceOk.calls a0_0 true _ A33.out).mono ?_); rintro e w' ⟨rfl, ⟨nd, rfl⟩⟩; (try exact KT)))
       repeat (go_quiet (first | (go_at_call 63; (with_reducible refine (impl_within.calls a0_1 0 30 true _ A2.out).mono ?_); rintro e w' ⟨rfl, ⟨nd, rfl⟩⟩; (try exact KT)) | (go_at_call 26; (with_reducible refine (impl_EpochOf.calls a0_0 t160 _ A30.out).mono ?_); rintro e w' ⟨rfl, ⟨nd, rfl⟩⟩; (try exact KT)) | (go_at_call 52; (with_reducible refine (impl_PlaceOk.calls a0_0 true _ A33.out).mono ?_); rintro e w' ⟨rfl, ⟨nd, rfl⟩⟩; (try exact KT))); try go_wp2_with (first | ((with_reducible refine GD 1 ?_); refine BE 1 #[.int .i64 a0_0, .int .i64 a0_1, .bool true, .string a0_3] 35 ?_; intro gb153 hg w42 hbox hb; have h_ := PB w hb hbox hg; clear HB; obtain ⟨HB, BK153, GW153, GE153⟩ := h_; clear hb hbox hg; obtain ⟨hcz43_0, hcz43_1, hcz43_2, hcz43_3, hfz43_0, hfz43_1, hfz43_2, hfz43_3⟩ := C4 BK153.out) | (go_at_call 63; (with_reducible refine (impl_within.calls a0_1 0 30 true _ A2.out).mono ?_); rintro e w' ⟨rfl, ⟨nd, rfl⟩⟩; (try exact KT)) | (go_at_call 26; (with_reducible refine (impl_EpochOf.calls a0_0 t160 _ A30.out).mono ?_); rintro e w' ⟨rfl, ⟨nd, rfl⟩⟩; (try exact KT)) | (go_at_call 52; (with_reducible refine (impl_PlaceOk.calls a0_0 true _ A33.out).mono ?_); rintro e w' ⟨rfl, ⟨nd, rfl⟩⟩; (try exact KT))))
       go_ret
       exact ⟨KE, KB⟩
     ·replace c34 := Bool.eq_false_iff.mpr c34
      subst c34; have H1 : (some false) = some r := by rw [if_neg (show ¬ (false = true) by decide)] at H; exact H
      clear H; have H := H1; clear H1; obtain rfl := Option.some.inj H
      go_enter Try.func45, Try.ntmps45
      go_wp2_with (first | ((with_reducible refine GD 1 ?_); refine BE 1 #[.int .i64 a0_0, .int .i64 a0_1, .bool true, .string a0_3] 35 ?_; intro gb153 hg w44 hbox hb; have h_ := PB w hb hbox hg; clear HB; obtain ⟨HB, BK153, GW153, GE153⟩ := h_; clear hb hbox hg; obtain ⟨hcz45_0, hcz45_1, hcz45_2, hcz45_3, hfz45_0, hfz45_1, hfz45_2, hfz45_3⟩ := C4 BK153.out) | (go_at_call 63; (with_reducible refine (impl_within.calls a0_1 0 30 true _ A2.out).mono ?_); rintro e w' ⟨rfl, ⟨nd, rfl⟩⟩; (try exact KT)) | (go_at_call 26; (with_reducible refine (impl_EpochOf.calls a0_0 t160 _ A30.out).mono ?_); rintro e w' ⟨rfl, ⟨nd, rfl⟩⟩; (try exact KT)) | (go_at_call 52; (with_reducible refine (impl_PlaceOk.calls a0_0 false _ A33.out).mono ?_); rintro e w' ⟨rfl, ⟨nd, rfl⟩⟩; (try exact KT)))
      repeat (go_quiet (first | (go_at_call 63; (with_reducible refine (impl_within.calls a0_1 0 30 true _ A2.out).mono ?_); rintro e w' ⟨rfl, ⟨nd, rfl⟩⟩; (try exact KT)) | (go_at_call 26; (with_reducible refine (impl_EpochOf.calls a0_0 t160 _ A30.out).mono ?_); rintro e w' ⟨rfl, ⟨nd, rfl⟩⟩; (try exact KT)) | (go_at_call 52; (with_reducible refine (impl_PlaceOk.calls a0_0 false _ A33.out).mono ?_); rintro e w' ⟨rfl, ⟨nd, rfl⟩⟩; (try exact KT))); try go_wp2_with (first | ((with_reducible refine GD 1 ?_); refine BE 1 #[.int .i64 a0_0, .int .i64 a0_1, .bool true, .string a0_3] 35 ?_; intro gb153 hg w44 hbox hb; have h_ := PB w hb hbox hg; clear HB; obtain ⟨HB, BK153, GW153, GE153⟩ := h_; clear hb hbox hg; obtain ⟨hcz45_0, hcz45_1, hcz45_2, hcz45_3, hfz45_0, hfz45_1, hfz45_2, hfz45_3⟩ := C4 BK153.out) | (go_at_call 63; (with_reducible refine (impl_within.calls a0_1 0 30 true _ A2.out).mono ?_); rintro e w' ⟨rfl, ⟨nd, rfl⟩⟩; (try exact KT)) | (go_at_call 26; (with_reducible refine (impl_EpochOf.calls a0_0 t160 _ A30.out).mono ?_); rintro e w' ⟨rfl, ⟨nd, rfl⟩⟩; (try exact KT)) | (go_at_call 52; (with_reducible refine (impl_PlaceOk.calls a0_0 false _ A33.out).mono ?_); rintro e w' ⟨rfl, ⟨nd, rfl⟩⟩; (try exact KT))))
      go_ret
      exact ⟨KE, KB⟩
    ·rw [if_neg c32] at H
     have c32b0 : decide (0 < a0_1) = false := decide_eq_false c32; clear c32; replace H := Option.bind_eq_some_iff.mp H; obtain ⟨t163, A460, H⟩ := H
     try dsimp only at H
     have A46 := Aside0.mk A460; clear A460
     by_cases c47 : t163 = true
     ·subst c47
      have H1 : (if a0_1 > t160 then (some false) else (some false)) = some r := by rw [if_pos rfl] at H; exact H
      clear H; have H := H1; clear H1
      by_cases c48 : a0_1 > t160
      ·rw [if_pos c48] at H
       have c48b0 : decide (t160 < a0_1) = true := decide_eq_true c48; clear c48; obtain rfl := Option.some.inj H
       go_enter Try.func45, Try.ntmps45
       go_wp2_with (first | ((with_reducible refine GD 1 ?_); refine BE 1 #[.int .i64 a0_0, .int .i64 a0_1, .bool true, .string a0_3] 35 ?_; intro gb153 hg w49 hbox hb; have h_ := PB w hb hbox hg; clear HB; obtain ⟨HB, BK153, GW153, GE153⟩ := h_; clear hb hbox hg; obtain ⟨hcz50_0, hcz50_1, hcz50_2, hcz50_3, hfz50_0, hfz50_1, hfz50_2, hfz50_3⟩ := C4 BK153.out) | (go_at_call 63; (with_reducible refine (impl_within.calls a0_1 0 30 true _ A2.out).mono ?_); rintro e w' ⟨rfl, ⟨nd, rfl⟩⟩; (try exact KT)) | (go_at_call 26; (with_reducible refine (impl_EpochOf.calls a0_0 t160 _ A30.out).mono ?_); rintro e w' ⟨rfl, ⟨nd, rfl⟩⟩; (try exact KT)) | (go_at_call 52; (with_reducible refine (impl_PlaceOk.calls a0_0 true _ A46.out).mono ?_); rintro e w' ⟨rfl, ⟨nd, rfl⟩⟩; (try exact KT)))
       repeat (go_quiet (first | (go_at_call 63; (with_reducible refine (impl_within.calls a0_1 0 30 true _ A2.out).mono ?_); rintro e w' ⟨rfl, ⟨nd, rfl⟩⟩; (try exact KT)) | (go_at_call 26; (with_reducible refine (impl_EpochOf.calls a0_0 t160 _ A30.out).mono ?_); rintro e w' ⟨rfl, ⟨nd, rfl⟩⟩; (try exact KT)) | (go_at_call 52; (with_reducible refine (impl_PlaceOk.calls a0_0 true _ A46.out).mono ?_); rintro e w' ⟨rfl, ⟨nd, rfl⟩⟩; (try exact KT))); try go_wp2_with (first | ((with_reducible refine GD 1 ?_); refine BE 1 #[.int .i64 a0_0, .int .i64 a0_1, .bool true, .string a0_3] 35 ?_; intro gb153 hg w49 hbox hb; have h_ := PB w hb hbox hg; clear HB; obtain ⟨HB, BK153, GW153, GE153⟩ := h_; clear hb hbox hg; obtain ⟨hcz50_0, hcz50_1, hcz50_2, hcz50_3, hfz50_0, hfz50_1, hfz50_2, hfz50_3⟩ := C4 BK153.out) | (go_at_call 63; (with_reducible refine (impl_within.calls a0_1 0 30 true _ A2.out).mono ?_); rintro e w' ⟨rfl, ⟨nd, rfl⟩⟩; (try exact KT)) | (go_at_call 26; (with_reducible refine (impl_EpochOf.calls a0_0 t160 _ A30.out).mono ?_); rintro e w' ⟨rfl, ⟨nd, rfl⟩⟩; (try exact KT)) | (go_at_call 52; (with_reducible refine (impl_PlaceOk.calls a0_0 true _ A46.out).mono ?_); rintro e w' ⟨rfl, ⟨nd, rfl⟩⟩; (try exact KT))))
       go_ret
       exact ⟨KE, KB⟩
      ·rw [if_neg c48] at H
       have c48b0 : decide (t160 < a0_1) = false := decide_eq_false c48; clear c48; obtain rfl := Option.some.inj H
       go_enter Try.func45, Try.ntmps45
       go_wp2_with (first | ((with_reducible refine GD 1 ?_); refine BE 1 #[.int .i64 a0_0, .int .i64 a0_1, .bool true, .string a0_3] 35 ?_; intro gb153 hg w51 hbox hb; have h_ := PB w hb hbox hg; clear HB; obtain ⟨HB, BK153, GW153, GE153⟩ := h_; clear hb hbox hg; obtain ⟨hcz52_0, hcz52_1, hcz52_2, hcz52_3, hfz52_0, hfz52_1, hfz52_2, hfz52_3⟩ := C4 BK153.out) | (go_at_call 63; (with_reducible refine (impl_within.calls a0_1 0 30 true _ A2.out).mono ?_); rintro e w' ⟨rfl, ⟨nd, rfl⟩⟩; (try exact KT)) | (go_at_call 26; (with_reducible refine (impl_EpochOf.calls a0_0 t160 _ A30.out).mono ?_); rintro e w' ⟨rfl, ⟨nd, rfl⟩⟩; (try exact KT)) | (go_at_call 52; (with_reducible refine (impl_PlaceOk.calls a0_0 true _ A46.out).mono ?_); rintro e w' ⟨rfl, ⟨nd, rfl⟩⟩; (try exact KT)))
       repeat (go_quiet (first | (go_at_call 63; (with_reducible refine (impl_within.calls a0_1 0 30 true _ A2.out).mono ?_); rintro e w' ⟨rfl, ⟨nd, rfl⟩⟩; (try exact KT)) | (go_at_call 26; (with_reducible refine (impl_EpochOf.calls a0_0 t160 _ A30.out).mono ?_); rintro e w' ⟨rfl, ⟨nd, rfl⟩⟩; (try exact KT)) | (go_at_call 52; (with_reducible refine (impl_PlaceOk.calls a0_0 true _ A46.out).mono ?_); rintro e w' ⟨rfl, ⟨nd, rfl⟩⟩; (try exact KT))); try go_wp2_with (first | ((with_reducible refine GD 1 ?_); refine BE 1 #[.int .i64 a0_0, .int .i64 a0_1, .bool true, .string a0_3] 35 ?_; intro gb153 hg w51 hbox hb; have h_ := PB w hb hbox hg; clear HB; obtain ⟨HB, BK153, GW153, GE153⟩ := h_; clear hb hbox hg; obtain ⟨hcz52_0, hcz52_1, hcz52_2, hcz52_3, hfz52_0, hfz52_1, hfz52_2, hfz52_3⟩ := C4 BK153.out) | (go_at_call 63; (with_reducible refine (impl_within.calls a0_1 0 30 true _ A2.out).mono ?_); rintro e w' ⟨rfl, ⟨nd, rfl⟩⟩; (try exact KT)) | (go_at_call 26; (with_reducible refine (impl_EpochOf.calls a0_0 t160 _ A30.out).mono ?_); rintro e w' ⟨rfl, ⟨nd, rfl⟩⟩; (try exact KT)) | (go_at_call 52; (with_reducible refine (impl_PlaceOk.calls a0_0 true _ A46.out).mono ?_); rintro e w' ⟨rfl, ⟨nd, rfl⟩⟩; (try exact KT))))
       go_ret
       exact ⟨KE, KB⟩
     ·replace c47 := Bool.eq_false_iff.mpr c47
      subst c47; have H1 : (some false) = some r := by rw [if_neg (show ¬ (false = true) by decide)] at H; exact H
      clear H; have H := H1; clear H1; obtain rfl := Option.some.inj H
      go_enter Try.func45, Try.ntmps45
      go_wp2_with (first | ((with_reducible refine GD 1 ?_); refine BE 1 #[.int .i64 a0_0, .int .i64 a0_1, .bool true, .string a0_3] 35 ?_; intro gb153 hg w53 hbox hb; have h_ := PB w hb hbox hg; clear HB; obtain ⟨HB, BK153, GW153, GE153⟩ := h_; clear hb hbox hg; obtain ⟨hcz54_0, hcz54_1, hcz54_2, hcz54_3, hfz54_0, hfz54_1, hfz54_2, hfz54_3⟩ := C4 BK153.out) | (go_at_call 63; (with_reducible refine (impl_within.calls a0_1 0 30 true _ A2.out).mono ?_); rintro e w' ⟨rfl, ⟨nd, rfl⟩⟩; (try exact KT)) | (go_at_call 26; (with_reducible refine (impl_EpochOf.calls a0_0 t160 _ A30.out).mono ?_); rintro e w' ⟨rfl, ⟨nd, rfl⟩⟩; (try exact KT)) | (go_at_call 52; (with_reducible refine (impl_PlaceOk.calls a0_0 false _ A46.out).mono ?_); rintro e w' ⟨rfl, ⟨nd, rfl⟩⟩; (try exact KT)))
      repeat (go_quiet (first | (go_at_call 63; (with_reducible refine (impl_within.calls a0_1 0 30 true _ A2.out).mono ?_); rintro e w' ⟨rfl, ⟨nd, rfl⟩⟩; (try exact KT)) | (go_at_call 26; (with_reducible refine (impl_EpochOf.calls a0_0 t160 _ A30.out).mono ?_); rintro e w' ⟨rfl, ⟨nd, rfl⟩⟩; (try exact KT)) | (go_at_call 52; (with_reducible refine (impl_PlaceOk.calls a0_0 false _ A46.out).mono ?_); rintro e w' ⟨rfl, ⟨nd, rfl⟩⟩; (try exact KT))); try go_wp2_with (first | ((with_reducible refine GD 1 ?_); refine BE 1 #[.int .i64 a0_0, .int .i64 a0_1, .bool true, .string a0_3] 35 ?_; intro gb153 hg w53 hbox hb; have h_ := PB w hb hbox hg; clear HB; obtain ⟨HB, BK153, GW153, GE153⟩ := h_; clear hb hbox hg; obtain ⟨hcz54_0, hcz54_1, hcz54_2, hcz54_3, hfz54_0, hfz54_1, hfz54_2, hfz54_3⟩ := C4 BK153.out) | (go_at_call 63; (with_reducible refine (impl_within.calls a0_1 0 30 true _ A2.out).mono ?_); rintro e w' ⟨rfl, ⟨nd, rfl⟩⟩; (try exact KT)) | (go_at_call 26; (with_reducible refine (impl_EpochOf.calls a0_0 t160 _ A30.out).mono ?_); rintro e w' ⟨rfl, ⟨nd, rfl⟩⟩; (try exact KT)) | (go_at_call 52; (with_reducible refine (impl_PlaceOk.calls a0_0 false _ A46.out).mono ?_); rintro e w' ⟨rfl, ⟨nd, rfl⟩⟩; (try exact KT))))
      go_ret
      exact ⟨KE, KB⟩
   ·replace c31 := Bool.eq_false_iff.mpr c31
    subst c31; have H1 : ((impl_PlaceOk.f a0_0).bind fun t164 => (if t164 = true then (if a0_1 > t160 then ((impl_dataOk.f a0_3).bind fun t165 => (some t165)) else (some false)) else (some false))) = some r := by rw [if_neg (show ¬ (false = true) by decide)] at H; exact H
    clear H; have H := H1; clear H1; replace H := Option.bind_eq_some_iff.mp H; obtain ⟨t164, A550, H⟩ := H
    try dsimp only at H
    have A55 := Aside0.mk A550; clear A550
    by_cases c56 : t164 = true
    ·subst c56
     have H1 : (if a0_1 > t160 then ((impl_dataOk.f a0_3).bind fun t165 => (some t165)) else (some false)) = some r := by rw [if_pos rfl] at H; exact H
     clear H; have H := H1; clear H1
     by_cases c57 : a0_1 > t160
     ·rw [if_pos c57] at H
      have c57b0 : decide (t160 < a0_1) = true := decide_eq_true c57; clear c57; replace H := Option.bind_eq_some_iff.mp H; obtain ⟨t165, A580, H⟩ := H
      try dsimp only at H
      have A58 := Aside0.mk A580; clear A580; obtain rfl := Option.some.inj H
      go_enter Try.func45, Try.ntmps45
      go_wp2_with (first | ((with_reducible refine GD 1 ?_); refine BE 1 #[.int .i64 a0_0, .int .i64 a0_1, .bool false, .string a0_3] 35 ?_; intro gb153 hg w59 hbox hb; have h_ := PB w hb hbox hg; clear HB; obtain ⟨HB, BK153, GW153, GE153⟩ := h_; clear hb hbox hg; obtain ⟨hcz60_0, hcz60_1, hcz60_2, hcz60_3, hfz60_0, hfz60_1, hfz60_2, hfz60_3⟩ := C4 BK153.out) | (go_at_call 63; (with_reducible refine (impl_within.calls a0_1 0 30 true _ A2.out).mono ?_); rintro e w' ⟨rfl, ⟨nd, rfl⟩⟩; (try exact KT)) | (go_at_call 26; (with_reducible refine (impl_EpochOf.calls a0_0 t160 _ A30.out).mono ?_); rintro e w' ⟨rfl, ⟨nd, rfl⟩⟩; (try exact KT)) | (go_at_call 52; (with_reducible refine (impl_PlaceOk.calls a0_0 true _ A55.out).mono ?_); rintro e w' ⟨rfl, ⟨nd, rfl⟩⟩; (try exact KT)) | (go_at_call 77; (with_reducible refine (impl_dataOk.calls a0_3 t165 _ A58.out).mono ?_); rintro e w' ⟨rfl, ⟨nd, rfl⟩⟩; (try exact KT)))
      repeat (go_quiet (first | (go_at_call 63; (with_reducible refine (impl_within.calls a0_1 0 30 true _ A2.out).mono ?_); rintro e w' ⟨rfl, ⟨nd, rfl⟩⟩; (try exact KT)) | (go_at_call 26; (with_reducible refine (impl_EpochOf.calls a0_0 t160 _ A30.out).mono ?_); rintro e w' ⟨rfl, ⟨nd, rfl⟩⟩; (try exact KT)) | (go_at_call 52; (with_reducible refine (impl_PlaceOk.calls a0_0 true _ A55.out).mono ?_); rintro e w' ⟨rfl, ⟨nd, rfl⟩⟩; (try exact KT)) | (go_at_call 77; (with_reducible refine (impl_dataOk.calls a0_3 t165 _ A58.out).mono ?_); rintro e w' ⟨rfl, ⟨nd, rfl⟩⟩; (try exact KT))); try go_wp2_with (first | ((with_reducible refine GD 1 ?_); refine BE 1 #[.int .i64 a0_0, .int .i64 a0_1, .bool false, .string a0_3] 35 ?_; intro gb153 hg w59 hbox hb; have h_ := PB w hb hbox hg; clear HB; obtain ⟨HB, BK153, GW153, GE153⟩ := h_; clear hb hbox hg; obtain ⟨hcz60_0, hcz60_1, hcz60_2, hcz60_3, hfz60_0, hfz60_1, hfz60_2, hfz60_3⟩ := C4 BK153.out) | (go_at_call 63; (with_reducible refine (impl_within.calls a0_1 0 30 true _ A2.out).mono ?_); rintro e w' ⟨rfl, ⟨nd, rfl⟩⟩; (try exact KT)) | (go_at_call 26; (with_reducible refine (impl_EpochOf.calls a0_0 t160 _ A30.out).mono ?_); rintro e w' ⟨rfl, ⟨nd, rfl⟩⟩; (try exact KT)) | (go_at_call 52; (with_reducible refine (impl_PlaceOk.calls a0_0 true _ A55.out).mono ?_); rintro e w' ⟨rfl, ⟨nd, rfl⟩⟩; (try exact KT)) | (go_at_call 77; (with_reducible refine (impl_dataOk.calls a0_3 t165 _ A58.out).mono ?_); rintro e w' ⟨rfl, ⟨nd, rfl⟩⟩; (try exact KT))))
      go_ret
      exact ⟨KE, KB⟩
     ·rw [if_neg c57] at H
      have c57b0 : decide (t160 < a0_1) = false := decide_eq_false c57; clear c57; obtain rfl := Option.some.inj H
      go_enter Try.func45, Try.ntmps45
      go_wp2_with (first | ((with_reducible refine GD 1 ?_); refine BE 1 #[.int .i64 a0_0, .int .i64 a0_1, .bool false, .string a0_3] 35 ?_; intro gb153 hg w61 hbox hb; have h_ := PB w hb hbox hg; clear HB; obtain ⟨HB, BK153, GW153, GE153⟩ := h_; clear hb hbox hg; obtain ⟨hcz62_0, hcz62_1, hcz62_2, hcz62_3, hfz62_0, hfz62_1, hfz62_2, hfz62_3⟩ := C4 BK153.out) | (go_at_call 63; (with_reducible refine (impl_within.calls a0_1 0 30 true _ A2.out).mono ?_); rintro e w' ⟨rfl, ⟨nd, rfl⟩⟩; (try exact KT)) | (go_at_call 26; (with_reducible refine (impl_EpochOf.calls a0_0 t160 _ A30.out).mono ?_); rintro e w' ⟨rfl, ⟨nd, rfl⟩⟩; (try exact KT)) | (go_at_call 52; (with_reducible refine (impl_PlaceOk.calls a0_0 true _ A55.out).mono ?_); rintro e w' ⟨rfl, ⟨nd, rfl⟩⟩; (try exact KT)))
      repeat (go_quiet (first | (go_at_call 63; (with_reducible refine (impl_within.calls a0_1 0 30 true _ A2.out).mono ?_); rintro e w' ⟨rfl, ⟨nd, rfl⟩⟩; (try exact KT)) | (go_at_call 26; (with_reducible refine (impl_EpochOf.calls a0_0 t160 _ A30.out).mono ?_); rintro e w' ⟨rfl, ⟨nd, rfl⟩⟩; (try exact KT)) | (go_at_call 52; (with_reducible refine (impl_PlaceOk.calls a0_0 true _ A55.out).mono ?_); rintro e w' ⟨rfl, ⟨nd, rfl⟩⟩; (try exact KT))); try go_wp2_with (first | ((with_reducible refine GD 1 ?_); refine BE 1 #[.int .i64 a0_0, .int .i64 a0_1, .bool false, .string a0_3] 35 ?_; intro gb153 hg w61 hbox hb; have h_ := PB w hb hbox hg; clear HB; obtain ⟨HB, BK153, GW153, GE153⟩ := h_; clear hb hbox hg; obtain ⟨hcz62_0, hcz62_1, hcz62_2, hcz62_3, hfz62_0, hfz62_1, hfz62_2, hfz62_3⟩ := C4 BK153.out) | (go_at_call 63; (with_reducible refine (impl_within.calls a0_1 0 30 true _ A2.out).mono ?_); rintro e w' ⟨rfl, ⟨nd, rfl⟩⟩; (try exact KT)) | (go_at_call 26; (with_reducible refine (impl_EpochOf.calls a0_0 t160 _ A30.out).mono ?_); rintro e w' ⟨rfl, ⟨nd, rfl⟩⟩; (try exact KT)) | (go_at_call 52; (with_reducible refine (impl_PlaceOk.calls a0_0 true _ A55.out).mono ?_); rintro e w' ⟨rfl, ⟨nd, rfl⟩⟩; (try exact KT))))
      go_ret
      exact ⟨KE, KB⟩
    ·replace c56 := Bool.eq_false_iff.mpr c56
     subst c56; have H1 : (some false) = some r := by rw [if_neg (show ¬ (false = true) by decide)] at H; exact H
     clear H; have H := H1; clear H1; obtain rfl := Option.some.inj H
     go_enter Try.func45, Try.ntmps45
     go_wp2_with (first | ((with_reducible refine GD 1 ?_); refine BE 1 #[.int .i64 a0_0, .int .i64 a0_1, .bool false, .string a0_3] 35 ?_; intro gb153 hg w63 hbox hb; have h_ := PB w hb hbox hg; clear HB; obtain ⟨HB, BK153, GW153, GE153⟩ := h_; clear hb hbox hg; obtain ⟨hcz64_0, hcz64_1, hcz64_2, hcz64_3, hfz64_0, hfz64_1, hfz64_2, hfz64_3⟩ := C4 BK153.out) | (go_at_call 63; (with_reducible refine (impl_within.calls a0_1 0 30 true _ A2.out).mono ?_); rintro e w' ⟨rfl, ⟨nd, rfl⟩⟩; (try exact KT)) | (go_at_call 26; (with_reducible refine (impl_EpochOf.calls a0_0 t160 _ A30.out).mono ?_); rintro e w' ⟨rfl, ⟨nd, rfl⟩⟩; (try exact KT)) | (go_at_call 52; (with_reducible refine (impl_PlaceOk.calls a0_0 false _ A55.out).mono ?_); rintro e w' ⟨rfl, ⟨nd, rfl⟩⟩; (try exact KT)))
     repeat (go_quiet (first | (go_at_call 63; (with_reducible refine (impl_within.calls a0_1 0 30 true _ A2.out).mono ?_); rintro e w' ⟨rfl, ⟨nd, rfl⟩⟩; (try exact KT)) | (go_at_call 26; (with_reducible refine (impl_EpochOf.calls a0_0 t160 _ A30.out).mono ?_); rintro e w' ⟨rfl, ⟨nd, rfl⟩⟩; (try exact KT)) | (go_at_call 52; (with_reducible refine (impl_PlaceOk.calls a0_0 false _ A55.out).mono ?_); rintro e w' ⟨rfl, ⟨nd, rfl⟩⟩; (try exact KT))); try go_wp2_with (first | ((with_reducible refine GD 1 ?_); refine BE 1 #[.int .i64 a0_0, .int .i64 a0_1, .bool false, .string a0_3] 35 ?_; intro gb153 hg w63 hbox hb; have h_ := PB w hb hbox hg; clear HB; obtain ⟨HB, BK153, GW153, GE153⟩ := h_; clear hb hbox hg; obtain ⟨hcz64_0, hcz64_1, hcz64_2, hcz64_3, hfz64_0, hfz64_1, hfz64_2, hfz64_3⟩ := C4 BK153.out) | (go_at_call 63; (with_reducible refine (impl_within.calls a0_1 0 30 true _ A2.out).mono ?_); rintro e w' ⟨rfl, ⟨nd, rfl⟩⟩; (try exact KT)) | (go_at_call 26; (with_reducible refine (impl_EpochOf.calls a0_0 t160 _ A30.out).mono ?_); rintro e w' ⟨rfl, ⟨nd, rfl⟩⟩; (try exact KT)) | (go_at_call 52; (with_reducible refine (impl_PlaceOk.calls a0_0 false _ A55.out).mono ?_); rintro e w' ⟨rfl, ⟨nd, rfl⟩⟩; (try exact KT))))
     go_ret
     exact ⟨KE, KB⟩
 ·replace c3 := Bool.eq_false_iff.mpr c3
  subst c3; have H1 : (if a0_2 = true then (if a0_1 > 0 then ((impl_PlaceOk.f a0_0).bind fun t166 => (if t166 = true then (some false) else (some false))) else ((impl_PlaceOk.f a0_0).bind fun t167 => (if t167 = true then (some false) else (some false)))) else ((impl_PlaceOk.f a0_0).bind fun t168 => (if t168 = true then (some false) else (some false)))) = some r := by rw [if_neg (show ¬ (false = true) by decide)] at H; exact H
  clear H; have H := H1; clear H1
  by_cases c65 : a0_2 = true
  ·subst c65
   have H1 : (if a0_1 > 0 then ((impl_PlaceOk.f a0_0).bind fun t166 => (if t166 = true then (some false) else (some false))) else ((impl_PlaceOk.f a0_0).bind fun t167 => (if t167 = true then (some false) else (some false)))) = some r := by rw [if_pos rfl] at H; exact H
   clear H; have H := H1; clear H1
   by_cases c66 : a0_1 > 0
   ·rw [if_pos c66] at H
    have c66b0 : decide (0 < a0_1) = true := decide_eq_true c66; clear c66; replace H := Option.bind_eq_some_iff.mp H; obtain ⟨t166, A670, H⟩ := H
    try dsimp only at H
    have A67 := Aside0.mk A670; clear A670
    by_cases c68 : t166 = true
    ·subst c68
     have H1 : (some false) = some r := by rw [if_pos rfl] at H; exact H
     clear H; have H := H1; clear H1; obtain rfl := Option.some.inj H
     go_enter Try.func45, Try.ntmps45
     go_wp2_with (first | ((with_reducible refine GD 1 ?_); refine BE 1 #[.int .i64 a0_0, .int .i64 a0_1, .bool true, .string a0_3] 35 ?_; intro gb153 hg w69 hbox hb; have h_ := PB w hb hbox hg; clear HB; obtain ⟨HB, BK153, GW153, GE153⟩ := h_; clear hb hbox hg; obtain ⟨hcz70_0, hcz70_1, hcz70_2, hcz70_3, hfz70_0, hfz70_1, hfz70_2, hfz70_3⟩ := C4 BK153.out) | (go_at_call 63; (with_reducible refine (impl_within.calls a0_1 0 30 false _ A2.out).mono ?_); rintro e w' ⟨rfl, ⟨nd, rfl⟩⟩; (try exact KT)) | (go_at_call 52; (with_reducible refine (impl_PlaceOk.calls a0_0 true _ A67.out).mono ?_); rintro e w' ⟨rfl, ⟨nd, rfl⟩⟩; (try exact KT)))
     repeat (go_quiet (first | (go_at_call 63; (with_reducible refine (impl_within.calls a0_1 0 30 false _ A2.out).mono ?_); rintro e w' ⟨rfl, ⟨nd, rfl⟩⟩; (try exact KT)) | (go_at_call 52; (with_reducible refine (impl_PlaceOk.calls a0_0 true _ A67.out).mono ?_); rintro e w' ⟨rfl, ⟨nd, rfl⟩⟩; (try exact KT))); try go_wp2_with (first | ((with_reducible refine GD 1 ?_); refine BE 1 #[.int .i64 a0_0, .int .i64 a0_1, .bool true, .string a0_3] 35 ?_; intro gb153 hg w69 hbox hb; have h_ := PB w hb hbox hg; clear HB; obtain ⟨HB, BK153, GW153, GE153⟩ := h_; clear hb hbox hg; obtain ⟨hcz70_0, hcz70_1, hcz70_2, hcz70_3, hfz70_0, hfz70_1, hfz70_2, hfz70_3⟩ := C4 BK153.out) | (go_at_call 63; (with_reducible refine (impl_within.calls a0_1 0 30 false _ A2.out).mono ?_); rintro e w' ⟨rfl, ⟨nd, rfl⟩⟩; (try exact KT)) | (go_at_call 52; (with_reducible refine (impl_PlaceOk.calls a0_0 true _ A67.out).mono ?_); rintro e w' ⟨rfl, ⟨nd, rfl⟩⟩; (try exact KT))))
     go_ret
     exact ⟨KE, KB⟩
    ·replace c68 := Bool.eq_false_iff.mpr c68
     subst c68; have H1 : (some false) = some r := by rw [if_neg (show ¬ (false = true) by decide)] at H; exact H
     clear H; have H := H1; clear H1; obtain rfl := Option.some.inj H
     go_enter Try.func45, Try.ntmps45
     go_wp2_with (first | ((with_reducible refine GD 1 ?_); refine BE 1 #[.int .i64 a0_0, .int .i64 a0_1, .bool true, .string a0_3] 35 ?_; intro gb153 hg w71 hbox hb; have h_ := PB w hb hbox hg; clear HB; obtain ⟨HB, BK153, GW153, GE153⟩ := h_; clear hb hbox hg; obtain ⟨hcz72_0, hcz72_1, hcz72_2, hcz72_3, hfz72_0, hfz72_1, hfz72_2, hfz72_3⟩ := C4 BK153.out) | (go_at_call 63; (with_reducible refine (impl_within.calls a0_1 0 30 false _ A2.out).mono ?_); rintro e w' ⟨rfl, ⟨nd, rfl⟩⟩; (try exact KT)) | (go_at_call 52; (with_reducible refine (impl_PlaceOk.calls a0_0 false _ A67.out).mono ?_); rintro e w' ⟨rfl, ⟨nd, rfl⟩⟩; (try exact KT)))
     repeat (go_quiet (first | (go_at_call 63; (with_reducible refine (impl_within.calls a0_1 0 30 false _ A2.out).mono ?_); rintro e w' ⟨rfl, ⟨nd, rfl⟩⟩; (try exact KT)) | (go_at_call 52; (with_reducible refine (impl_PlaceOk.calls a0_0 false _ A67.out).mono ?_); rintro e w' ⟨rfl, ⟨nd, rfl⟩⟩; (try exact KT))); try go_wp2_with (first | ((with_reducible refine GD 1 ?_); refine BE 1 #[.int .i64 a0_0, .int .i64 a0_1, .bool true, .string a0_3] 35 ?_; intro gb153 hg w71 hbox hb; have h_ := PB w hb hbox hg; clear HB; obtain ⟨HB, BK153, GW153, GE153⟩ := h_; clear hb hbox hg; obtain ⟨hcz72_0, hcz72_1, hcz72_2, hcz72_3, hfz72_0, hfz72_1, hfz72_2, hfz72_3⟩ := C4 BK153.out) | (go_at_call 63; (with_reducible refine (impl_within.calls a0_1 0 30 false _ A2.out).mono ?_); rintro e w' ⟨rfl, ⟨nd, rfl⟩⟩; (try exact KT)) | (go_at_call 52; (with_reducible refine (impl_PlaceOk.calls a0_0 false _ A67.out).mono ?_); rintro e w' ⟨rfl, ⟨nd, rfl⟩⟩; (try exact KT))))
     go_ret
     exact ⟨KE, KB⟩
   ·rw [if_neg c66] at H
    have c66b0 : decide (0 < a0_1) = false := decide_eq_false c66; clear c66; replace H := Option.bind_eq_some_iff.mp H; obtain ⟨t167, A730, H⟩ := H
    try dsimp only at H
    have A73 := Aside0.mk A730; clear A730
    by_cases c74 : t167 = true
    ·subst c74
     have H1 : (some false) = some r := by rw [if_pos rfl] at H; exact H
     clear H; have H := H1; clear H1; obtain rfl := Option.some.inj H
     go_enter Try.func45, Try.ntmps45
     go_wp2_with (first | ((with_reducible refine GD 1 ?_); refine BE 1 #[.int .i64 a0_0, .int .i64 a0_1, .bool true, .string a0_3] 35 ?_; intro gb153 hg w75 hbox hb; have h_ := PB w hb hbox hg; clear HB; obtain ⟨HB, BK153, GW153, GE153⟩ := h_; clear hb hbox hg; obtain ⟨hcz76_0, hcz76_1, hcz76_2, hcz76_3, hfz76_0, hfz76_1, hfz76_2, hfz76_3⟩ := C4 BK153.out) | (go_at_call 63; (with_reducible refine (impl_within.calls a0_1 0 30 false _ A2.out).mono ?_); rintro e w' ⟨rfl, ⟨nd, rfl⟩⟩; (try exact KT)) | (go_at_call 52; (with_reducible refine (impl_PlaceOk.calls a0_0 true _ A73.out).mono ?_); rintro e w' ⟨rfl, ⟨nd, rfl⟩⟩; (try exact KT)))
     repeat (go_quiet (first | (go_at_call 63; (with_reducible refine (impl_within.calls a0_1 0 30 false _ A2.out).mono ?_); rintro e w' ⟨rfl, ⟨nd, rfl⟩⟩; (try exact KT)) | (go_at_call 52; (with_reducible refine (impl_PlaceOk.calls a0_0 true _ A73.out).mono ?_); rintro e w' ⟨rfl, ⟨nd, rfl⟩⟩; (try exact KT))); try go_wp2_with (first | ((with_reducible refine GD 1 ?_); refine BE 1 #[.int .i64 a0_0, .int .i64 a0_1, .bool true, .string a0_3] 35 ?_; intro gb153 hg w75 hbox hb; have h_ := PB w hb hbox hg; clear HB; obtain ⟨HB, BK153, GW153, GE153⟩ := h_; clear hb hbox hg; obtain ⟨hcz76_0, hcz76_1, hcz76_2, hcz76_3, hfz76_0, hfz76_1, hfz76_2, hfz76_3⟩ := C4 BK153.out) | (go_at_call 63; (with_reducible refine (impl_within.calls a0_1 0 30 false _ A2.out).mono ?_); rintro e w' ⟨rfl, ⟨nd, rfl⟩⟩; (try exact KT)) | (go_at_call 52; (with_reducible refine (impl_PlaceOk.calls a0_0 true _ A73.out).mono ?_); rintro e w' ⟨rfl, ⟨nd, rfl⟩⟩; (try exact KT))))
     go_ret
     exact ⟨KE, KB⟩
    ·replace c74 := Bool.eq_false_iff.mpr c74
     subst c74; have H1 : (some false) = some r := by rw [if_neg (show ¬ (false = true) by decide)] at H; exact H
     clear H; have H := H1; clear H1; obtain rfl := Option.some.inj H
     go_enter Try.func45, Try.ntmps45
     go_wp2_with (first | ((with_reducible refine GD 1 ?_); refine BE 1 #[.int .i64 a0_0, .int .i64 a0_1, .bool true, .string a0_3] 35 ?_; intro gb153 hg w77 hbox hb; have h_ := PB w hb hbox hg; clear HB; obtain ⟨HB, BK153, GW153, GE153⟩ := h_; clear hb hbox hg; obtain ⟨hcz78_0, hcz78_1, hcz78_2, hcz78_3, hfz78_0, hfz78_1, hfz78_2, hfz78_3⟩ := C4 BK153.out) | (go_at_call 63; (with_reducible refine (impl_within.calls a0_1 0 30 false _ A2.out).mono ?_); rintro e w' ⟨rfl, ⟨nd, rfl⟩⟩; (try exact KT)) | (go_at_call 52; (with_reducible refine (impl_PlaceOk.calls a0_0 false _ A73.out).mono ?_); rintro e w' ⟨rfl, ⟨nd, rfl⟩⟩; (try exact KT)))
     repeat (go_quiet (first | (go_at_call 63; (with_reducible refine (impl_within.calls a0_1 0 30 false _ A2.out).mono ?_); rintro e w' ⟨rfl, ⟨nd, rfl⟩⟩; (try exact KT)) | (go_at_call 52; (with_reducible refine (impl_PlaceOk.calls a0_0 false _ A73.out).mono ?_); rintro e w' ⟨rfl, ⟨nd, rfl⟩⟩; (try exact KT))); try go_wp2_with (first | ((with_reducible refine GD 1 ?_); refine BE 1 #[.int .i64 a0_0, .int .i64 a0_1, .bool true, .string a0_3] 35 ?_; intro gb153 hg w77 hbox hb; have h_ := PB w hb hbox hg; clear HB; obtain ⟨HB, BK153, GW153, GE153⟩ := h_; clear hb hbox hg; obtain ⟨hcz78_0, hcz78_1, hcz78_2, hcz78_3, hfz78_0, hfz78_1, hfz78_2, hfz78_3⟩ := C4 BK153.out) | (go_at_call 63; (with_reducible refine (impl_within.calls a0_1 0 30 false _ A2.out).mono ?_); rintro e w' ⟨rfl, ⟨nd, rfl⟩⟩; (try exact KT)) | (go_at_call 52; (with_reducible refine (impl_PlaceOk.calls a0_0 false _ A73.out).mono ?_); rintro e w' ⟨rfl, ⟨nd, rfl⟩⟩; (try exact KT))))
     go_ret
     exact ⟨KE, KB⟩
  ·replace c65 := Bool.eq_false_iff.mpr c65
   subst c65; have H1 : ((impl_PlaceOk.f a0_0).bind fun t168 => (if t168 = true then (some false) else (some false))) = some r := by rw [if_neg (show ¬ (false = true) by decide)] at H; exact H
   clear H; have H := H1; clear H1; replace H := Option.bind_eq_some_iff.mp H; obtain ⟨t168, A790, H⟩ := H
   try dsimp only at H
   have A79 := Aside0.mk A790; clear A790
   by_cases c80 : t168 = true
   ·subst c80
    have H1 : (some false) = some r := by rw [if_pos rfl] at H; exact H
    clear H; have H := H1; clear H1; obtain rfl := Option.some.inj H
    go_enter Try.func45, Try.ntmps45
    go_wp2_with (first | ((with_reducible refine GD 1 ?_); refine BE 1 #[.int .i64 a0_0, .int .i64 a0_1, .bool false, .string a0_3] 35 ?_; intro gb153 hg w81 hbox hb; have h_ := PB w hb hbox hg; clear HB; obtain ⟨HB, BK153, GW153, GE153⟩ := h_; clear hb hbox hg; obtain ⟨hcz82_0, hcz82_1, hcz82_2, hcz82_3, hfz82_0, hfz82_1, hfz82_2, hfz82_3⟩ := C4 BK153.out) | (go_at_call 63; (with_reducible refine (impl_within.calls a0_1 0 30 false _ A2.out).mono ?_); rintro e w' ⟨rfl, ⟨nd, rfl⟩⟩; (try exact KT)) | (go_at_call 52; (with_reducible refine (impl_PlaceOk.calls a0_0 true _ A79.out).mono ?_); rintro e w' ⟨rfl, ⟨nd, rfl⟩⟩; (try exact KT)))
    repeat (go_quiet (first | (go_at_call 63; (with_reducible refine (impl_within.calls a0_1 0 30 false _ A2.out).mono ?_); rintro e w' ⟨rfl, ⟨nd, rfl⟩⟩; (try exact KT)) | (go_at_call 52; (with_reducible refine (impl_PlaceOk.calls a0_0 true _ A79.out).mono ?_); rintro e w' ⟨rfl, ⟨nd, rfl⟩⟩; (try exact KT))); try go_wp2_with (first | ((with_reducible refine GD 1 ?_); refine BE 1 #[.int .i64 a0_0, .int .i64 a0_1, .bool false, .string a0_3] 35 ?_; intro gb153 hg w81 hbox hb; have h_ := PB w hb hbox hg; clear HB; obtain ⟨HB, BK153, GW153, GE153⟩ := h_; clear hb hbox hg; obtain ⟨hcz82_0, hcz82_1, hcz82_2, hcz82_3, hfz82_0, hfz82_1, hfz82_2, hfz82_3⟩ := C4 BK153.out) | (go_at_call 63; (with_reducible refine (impl_within.calls a0_1 0 30 false _ A2.out).mono ?_); rintro e w' ⟨rfl, ⟨nd, rfl⟩⟩; (try exact KT)) | (go_at_call 52; (with_reducible refine (impl_PlaceOk.calls a0_0 true _ A79.out).mono ?_); rintro e w' ⟨rfl, ⟨nd, rfl⟩⟩; (try exact KT))))
    go_ret
    exact ⟨KE, KB⟩
   ·replace c80 := Bool.eq_false_iff.mpr c80
    subst c80; have H1 : (some false) = some r := by rw [if_neg (show ¬ (false = true) by decide)] at H; exact H
    clear H; have H := H1; clear H1; obtain rfl := Option.some.inj H
    go_enter Try.func45, Try.ntmps45
    go_wp2_with (first | ((with_reducible refine GD 1 ?_); refine BE 1 #[.int .i64 a0_0, .int .i64 a0_1, .bool false, .string a0_3] 35 ?_; intro gb153 hg w83 hbox hb; have h_ := PB w hb hbox hg; clear HB; obtain ⟨HB, BK153, GW153, GE153⟩ := h_; clear hb hbox hg; obtain ⟨hcz84_0, hcz84_1, hcz84_2, hcz84_3, hfz84_0, hfz84_1, hfz84_2, hfz84_3⟩ := C4 BK153.out) | (go_at_call 63; (with_reducible refine (impl_within.calls a0_1 0 30 false _ A2.out).mono ?_); rintro e w' ⟨rfl, ⟨nd, rfl⟩⟩; (try exact KT)) | (go_at_call 52; (with_reducible refine (impl_PlaceOk.calls a0_0 false _ A79.out).mono ?_); rintro e w' ⟨rfl, ⟨nd, rfl⟩⟩; (try exact KT)))
    repeat (go_quiet (first | (go_at_call 63; (with_reducible refine (impl_within.calls a0_1 0 30 false _ A2.out).mono ?_); rintro e w' ⟨rfl, ⟨nd, rfl⟩⟩; (try exact KT)) | (go_at_call 52; (with_reducible refine (impl_PlaceOk.calls a0_0 false _ A79.out).mono ?_); rintro e w' ⟨rfl, ⟨nd, rfl⟩⟩; (try exact KT))); try go_wp2_with (first | ((with_reducible refine GD 1 ?_); refine BE 1 #[.int .i64 a0_0, .int .i64 a0_1, .bool false, .string a0_3] 35 ?_; intro gb153 hg w83 hbox hb; have h_ := PB w hb hbox hg; clear HB; obtain ⟨HB, BK153, GW153, GE153⟩ := h_; clear hb hbox hg; obtain ⟨hcz84_0, hcz84_1, hcz84_2, hcz84_3, hfz84_0, hfz84_1, hfz84_2, hfz84_3⟩ := C4 BK153.out) | (go_at_call 63; (with_reducible refine (impl_within.calls a0_1 0 30 false _ A2.out).mono ?_); rintro e w' ⟨rfl, ⟨nd, rfl⟩⟩; (try exact KT)) | (go_at_call 52; (with_reducible refine (impl_PlaceOk.calls a0_0 false _ A79.out).mono ?_); rintro e w' ⟨rfl, ⟨nd, rfl⟩⟩; (try exact KT))))
    go_ret
    exact ⟨KE, KB⟩

/-! ### impl_entriesOk: function 68 -/
def impl_entriesOk.l0 : Nat → List (S35) → Int → Int → Option (Bool)
 | 0, _, _, _ => none
 | k + 1, x5, x6, x7 => if x7 < x6 then (if 0 ≤ x7 then (if x7 < (x5.length : Int) then ((impl_EntryOk.f ((rd_T35 x5 x7).f0) ((rd_T35 x5 x7).f1) ((rd_T35 x5 x7).f2) ((rd_T35 x5 x7).f3)).bind fun t171 => (if t171 = true then (impl_entriesOk.l0 k x5 x6 (wrap64 (x7 + 1))) else (some false))) else (none)) else (none)) else (some true)
def impl_entriesOk.f (k : Nat) (l0 : List (S35)) : Option (Bool) := impl_entriesOk.l0 k l0 (l0.length : Int) 0
theorem impl_entriesOk.mono_l : ∀ k, (∀ y0 y1 y2, LeO (impl_entriesOk.l0 k y0 y1 y2) (impl_entriesOk.l0 (k + 1) y0 y1 y2))
 | 0 => fun _ _ _ r h => by simp [impl_entriesOk.l0] at h
 | k + 1 => by
  have ih0 := impl_entriesOk.mono_l k
  ·intro y0 y1 y2
   unfold impl_entriesOk.l0
   repeat' first
   | (with_reducible exact ih0 _ _ _)
   | (with_reducible exact LeO.refl _)
   | (with_reducible exact LeO.none _)
   | (with_reducible refine LeO.ite ?_ ?_)
   | (with_reducible refine LeO.bind ?_ (fun _ => ?_))
   | exact ih0 _ _ _
   | exact LeO.none _
   | refine LeO.ite ?_ ?_
   | refine LeO.bind ?_ (fun _ => ?_)
theorem impl_entriesOk.mono : ∀ a0 k, LeO (impl_entriesOk.f k a0) (impl_entriesOk.f (k + 1) a0) := by
 intro a0 k; have ih0 := impl_entriesOk.mono_l k
 unfold impl_entriesOk.f
 repeat' first
   | (with_reducible exact ih0 _ _ _)
   | (with_reducible exact LeO.refl _)
   | (with_reducible exact LeO.none _)
   | (with_reducible refine LeO.ite ?_ ?_)
   | (with_reducible refine LeO.bind ?_ (fun _ => ?_))
   | exact ih0 _ _ _
   | exact LeO.none _
   | refine LeO.ite ?_ ?_
   | refine LeO.bind ?_ (fun _ => ?_)
set_option maxHeartbeats 8000000 in
set_option maxRecDepth 100000 in
theorem impl_entriesOk.calls (k : Nat) (A0 : Option Addr) (c0 : Nat) (l0 : List (S35)) (r : Bool) (w : World) (hr0 : Kd.C k35 w A0 l0.length l0) (hc0 : l0.length ≤ c0) (h : impl_entriesOk.f k l0 = some r) :
  Calls Try.prog 68 #[.slice A0 l0.length c0] w fun e w' => e = .returned (.bool r) ∧ Below w.heap.size w w' := by
 have hu35 := Try.underlying35; have HR0 := Aside0.mk hr0; have HC0 := Aside0.mk hc0; clear hr0 hc0; have HB := Aside0.mk (Below.refl w.heap.size w); have H : (impl_entriesOk.l0 k l0 (l0.length : Int) 0) = some r := h; clear h; have H' := Aside0.mk H; clear H
 go_enter Try.func68, Try.ntmps68
 go_wp2
 go_loopg [7] k (fun kq v7 w' => ∃ (x7_1 : Int), v7 = .int .i64 x7_1 ∧ Aside0 (impl_entriesOk.l0 kq l0 (l0.length : Int) x7_1 = some r) ∧ Aside0 (kq ≤ k) ∧ Aside0 (Below w.heap.size w w'))
 case atStart => exact ⟨(0), (by first | rfl | (simp; done) | (simp [*]; done)), H', ⟨Nat.le_refl _⟩, ⟨KB⟩⟩
 case round =>
  clear H'; obtain ⟨x7_1, rfl, HA, HK1, HB⟩ := hrel
  cases gk with
  | zero => exact absurd HA.out (by simp [impl_entriesOk.l0])
  | succ k1 =>
   have H := HA.out; clear HA; simp only [impl_entriesOk.l0] at H
   by_cases c2 : x7_1 < (l0.length : Int)
   ·rw [if_pos c2] at H
    have c2b0 : decide (x7_1 < (l0.length : Int)) = true := decide_eq_true c2; clear c2
    by_cases c3 : 0 ≤ x7_1
    ·rw [if_pos c3] at H
     have c3b0 : decide (0 ≤ x7_1) = true := decide_eq_true c3; clear c3
     by_cases c4 : x7_1 < (l0.length : Int)
     ·rw [if_pos c4] at H
      have c4b0 : decide (x7_1 < (l0.length : Int)) = true := decide_eq_true c4; clear c4; replace H := Option.bind_eq_some_iff.mp H; obtain ⟨t171, A50, H⟩ := H
      try dsimp only at H
      have A5 := Aside0.mk A50; clear A50
      by_cases c6 : t171 = true
      ·subst c6
       have H1 : (impl_entriesOk.l0 k1 l0 (l0.length : Int) (wrap64 (x7_1 + 1))) = some r := by rw [if_pos rfl] at H; exact H
       clear H; have H := H1; clear H1; have H' := Aside0.mk H; clear H; have p169 : 0 ≤ (x7_1 : Int) := of_decide_eq_true (by first | (with_reducible assumption) | assumption); have q169 : x7_1 < (l0.length : Int) := of_decide_eq_true (by first | (with_reducible assumption) | assumption); obtain ⟨ad169, e169, hx169_0, hx169_1, hx169_2, hx169_3⟩ := at_T35 HR0.out x7_1 p169 q169
       cases e169
       replace hx169_0 := CB HB.out hx169_0; replace hx169_1 := CB HB.out hx169_1; replace hx169_2 := CB HB.out hx169_2; replace hx169_3 := CB HB.out hx169_3; replace p169 := eq_true p169; replace q169 := eq_true q169
       go_wp2_with (first | ((with_reducible refine GD 4 ?_); refine BE 4 #[.int .i64 0, .int .i64 0, .bool false, .string (⟨#[]⟩ : ByteArray)] 35 ?_; intro gb170 hg w7 hbox hb; have h_ := PB w hb hbox hg; clear HB; obtain ⟨HB, BK170, GW170, GE170⟩ := h_; clear hb hbox hg; obtain ⟨hcz8_0, hcz8_1, hcz8_2, hcz8_3, hfz8_0, hfz8_1, hfz8_2, hfz8_3⟩ := C4 BK170.out) | ((with_reducible refine GC 45 ?_); refine goesL_ (some 12) rfl rfl Try.func45 (by kernel_rfl) rfl #[.agg #[.int .i64 ((rd_T35 l0 x7_1).f0), .int .i64 ((rd_T35 l0 x7_1).f1), .bool ((rd_T35 l0 x7_1).f2), .string ((rd_T35 l0 x7_1).f3)]] rfl KL ?_; (with_reducible refine (impl_EntryOk.calls ((rd_T35 l0 x7_1).f0) ((rd_T35 l0 x7_1).f1) ((rd_T35 l0 x7_1).f2) ((rd_T35 l0 x7_1).f3) true _ A5.out).mono ?_); rintro e w9 ⟨rfl, hb⟩; refine ⟨_, rfl, ?_⟩; have h_ := P2 (blk_below (g := gb170) (o := .cells #[.int .i64 ((rd_T35 l0 x7_1).f0), .int .i64 ((rd_T35 l0 x7_1).f1), .bool ((rd_T35 l0 x7_1).f2), .string ((rd_T35 l0 x7_1).f3)] 35 (0, 0)) (by refine SK ?_; refine BP #[.int .i64 ((rd_T35 l0 x7_1).f0), .int .i64 ((rd_T35 l0 x7_1).f1), .bool ((rd_T35 l0 x7_1).f2), .string (⟨#[]⟩ : ByteArray)] ?_ 3; refine SK ?_; refine BP #[.int .i64 ((rd_T35 l0 x7_1).f0), .int .i64 ((rd_T35 l0 x7_1).f1), .bool false, .string (⟨#[]⟩ : ByteArray)] ?_ 2; refine SK ?_; refine BP #[.int .i64 ((rd_T35 l0 x7_1).f0), .int .i64 0, .bool false, .string (⟨#[]⟩ : ByteArray)] ?_ 1; refine SK ?_; refine BP #[.int .i64 0, .int .i64 0, .bool false, .string (⟨#[]⟩ : ByteArray)] ?_ 0; exact SK BK170.out) hb) (below_step KB hb); clear BK170 HB; obtain ⟨BK170, HB⟩ := h_; (try clear hb); (try clear hk); (try clear hi)))
       go_roundg k1
       case measure => have := HK1.out; omega
       case rel => exact ⟨(wrap64 (x7_1 + 1)), (by first | rfl | (simp; done) | (simp [*]; done)), H', ⟨by have := HK1.out; omega⟩, ⟨KB⟩⟩
      ·replace c6 := Bool.eq_false_iff.mpr c6
       subst c6; have H1 : (some false) = some r := by rw [if_neg (show ¬ (false = true) by decide)] at H; exact H
       clear H; have H := H1; clear H1; obtain rfl := Option.some.inj H; have p169 : 0 ≤ (x7_1 : Int) := of_decide_eq_true (by first | (with_reducible assumption) | assumption); have q169 : x7_1 < (l0.length : Int) := of_decide_eq_true (by first | (with_reducible assumption) | assumption); obtain ⟨ad169, e169, hx169_0, hx169_1, hx169_2, hx169_3⟩ := at_T35 HR0.out x7_1 p169 q169
       cases e169
       replace hx169_0 := CB HB.out hx169_0; replace hx169_1 := CB HB.out hx169_1; replace hx169_2 := CB HB.out hx169_2; replace hx169_3 := CB HB.out hx169_3; replace p169 := eq_true p169; replace q169 := eq_true q169
       go_wp2_with (first | ((with_reducible refine GD 4 ?_); refine BE 4 #[.int .i64 0, .int .i64 0, .bool false, .string (⟨#[]⟩ : ByteArray)] 35 ?_; intro gb170 hg w10 hbox hb; have h_ := PB w hb hbox hg; clear HB; obtain ⟨HB, BK170, GW170, GE170⟩ := h_; clear hb hbox hg; obtain ⟨hcz11_0, hcz11_1, hcz11_2, hcz11_3, hfz11_0, hfz11_1, hfz11_2, hfz11_3⟩ := C4 BK170.out) | ((with_reducible refine GC 45 ?_); refine goesL_ (some 12) rfl rfl Try.func45 (by kernel_rfl) rfl #[.agg #[.int .i64 ((rd_T35 l0 x7_1).f0), .int .i64 ((rd_T35 l0 x7_1).f1), .bool ((rd_T35 l0 x7_1).f2), .string ((rd_T35 l0 x7_1).f3)]] rfl KL ?_; (with_reducible refine (impl_EntryOk.calls ((rd_T35 l0 x7_1).f0) ((rd_T35 l0 x7_1).f1) ((rd_T35 l0 x7_1).f2) ((rd_T35 l0 x7_1).f3) false _ A5.out).mono ?_); rintro e w12 ⟨rfl, hb⟩; refine ⟨_, rfl, ?_⟩; have h_ := P2 (blk_below (g := gb170) (o := .cells #[.int .i64 ((rd_T35 l0 x7_1).f0), .int .i64 ((rd_T35 l0 x7_1).f1), .bool ((rd_T35 l0 x7_1).f2), .string ((rd_T35 l0 x7_1).f3)] 35 (0, 0)) (by refine SK ?_; refine BP #[.int .i64 ((rd_T35 l0 x7_1).f0), .int .i64 ((rd_T35 l0 x7_1).f1), .bool ((rd_T35 l0 x7_1).f2), .string (⟨#[]⟩ : ByteArray)] ?_ 3; refine SK ?_; refine BP #[.int .i64 ((rd_T35 l0 x7_1).f0), .int .i64 ((rd_T35 l0 x7_1).f1), .bool false, .string (⟨#[]⟩ : ByteArray)] ?_ 2; refine SK ?_; refine BP #[.int .i64 ((rd_T35 l0 x7_1).f0), .int .i64 0, .bool false, .string (⟨#[]⟩ : ByteArray)] ?_ 1; refine SK ?_; refine BP #[.int .i64 0, .int .i64 0, .bool false, .string (⟨#[]⟩ : ByteArray)] ?_ 0; exact SK BK170.out) hb) (below_step KB hb); clear BK170 HB; obtain ⟨BK170, HB⟩ := h_; (try clear hb); (try clear hk); (try clear hi)))
       go_ret
       exact ⟨KE, KB⟩
     ·rw [if_neg c4] at H
      exact absurd H (by simp)
    ·rw [if_neg c3] at H
     exact absurd H (by simp)
   ·rw [if_neg c2] at H
    have c2b0 : decide (x7_1 < (l0.length : Int)) = false := decide_eq_false c2; clear c2; obtain rfl := Option.some.inj H
    go_wp2
    go_ret
    exact ⟨KE, KB⟩

/-! ### impl_placesAscend: function 69 -/
def impl_placesAscend.l0 : Nat → List (S35) → List (S35) → Int → Int → Option (Bool)
 | 0, _, _, _, _ => none
 | k + 1, x0, x5, x6, x7 => if x7 < x6 then (if 0 ≤ x7 then (if x7 < (x5.length : Int) then (if x7 > 0 then (if 0 ≤ (wrap64 (x7 - 1)) then (if (wrap64 (x7 - 1)) < (x0.length : Int) then (if ((rd_T35 x0 (wrap64 (x7 - 1))).f0) ≥ ((rd_T35 x5 x7).f0) then (some false) else (impl_placesAscend.l0 k x0 x5 x6 (wrap64 (x7 + 1)))) else (none)) else (none)) else (impl_placesAscend.l0 k x0 x5 x6 (wrap64 (x7 + 1)))) else (none)) else (none)) else (some true)
def impl_placesAscend.f (k : Nat) (l0 : List (S35)) : Option (Bool) := impl_placesAscend.l0 k l0 l0 (l0.length : Int) 0
theorem impl_placesAscend.mono_l : ∀ k, (∀ y0 y1 y2 y3, LeO (impl_placesAscend.l0 k y0 y1 y2 y3) (impl_placesAscend.l0 (k + 1) y0 y1 y2 y3))
 | 0 => fun _ _ _ _ r h => by simp [impl_placesAscend.l0] at h
 | k + 1 => by
  have ih0 := impl_placesAscend.mono_l k
  ·intro y0 y1 y2 y3
   unfold impl_placesAscend.l0
   repeat' first
   | (with_reducible exact ih0 _ _ _ _)
   | (with_reducible exact LeO.refl _)
   | (with_reducible exact LeO.none _)
   | (with_reducible refine LeO.ite ?_ ?_)
   | (with_reducible refine LeO.bind ?_ (fun _ => ?_))
   | exact ih0 _ _ _ _
   | exact LeO.none _
   | refine LeO.ite ?_ ?_
   | refine LeO.bind ?_ (fun _ => ?_)
theorem impl_placesAscend.mono : ∀ a0 k, LeO (impl_placesAscend.f k a0) (impl_placesAscend.f (k + 1) a0) := by
 intro a0 k; have ih0 := impl_placesAscend.mono_l k
 unfold impl_placesAscend.f
 repeat' first
   | (with_reducible exact ih0 _ _ _ _)
   | (with_reducible exact LeO.refl _)
   | (with_reducible exact LeO.none _)
   | (with_reducible refine LeO.ite ?_ ?_)
   | (with_reducible refine LeO.bind ?_ (fun _ => ?_))
   | exact ih0 _ _ _ _
   | exact LeO.none _
   | refine LeO.ite ?_ ?_
   | refine LeO.bind ?_ (fun _ => ?_)
set_option maxHeartbeats 8000000 in
set_option maxRecDepth 100000 in
theorem impl_placesAscend.calls (k : Nat) (A0 : Option Addr) (c0 : Nat) (l0 : List (S35)) (r : Bool) (w : World) (hr0 : Kd.C k35 w A0 l0.length l0) (hc0 : l0.length ≤ c0) (h : impl_placesAscend.f k l0 = some r) :
  Calls Try.prog 69 #[.slice A0 l0.length c0] w fun e w' => e = .returned (.bool r) ∧ Below w.heap.size w w' := by
 have hu35 := Try.underlying35; have HR0 := Aside0.mk hr0; have HC0 := Aside0.mk hc0; clear hr0 hc0; have HB := Aside0.mk (Below.refl w.heap.size w); have H : (impl_placesAscend.l0 k l0 l0 (l0.length : Int) 0) = some r := h; clear h; have H' := Aside0.mk H; clear H
 go_enter Try.func69, Try.ntmps69
 go_wp2
 repeat (go_quiet (fail); try go_wp2)
 go_loopg [7] k (fun kq v7 w' => ∃ (x7_1 : Int), v7 = .int .i64 x7_1 ∧ Aside0 (impl_placesAscend.l0 kq l0 l0 (l0.length : Int) x7_1 = some r) ∧ Aside0 (kq ≤ k) ∧ Aside0 (Below w.heap.size w w'))
 case atStart => exact ⟨(0), (by first | rfl | (simp; done) | (simp [*]; done)), H', ⟨Nat.le_refl _⟩, ⟨KB⟩⟩
 case round =>
  clear H'; obtain ⟨x7_1, rfl, HA, HK1, HB⟩ := hrel
  cases gk with
  | zero => exact absurd HA.out (by simp [impl_placesAscend.l0])
  | succ k1 =>
   have H := HA.out; clear HA; simp only [impl_placesAscend.l0] at H
   by_cases c2 : x7_1 < (l0.length : Int)
   ·rw [if_pos c2] at H
    have c2b0 : decide (x7_1 < (l0.length : Int)) = true := decide_eq_true c2; clear c2
    by_cases c3 : 0 ≤ x7_1
    ·rw [if_pos c3] at H
     have c3b0 : decide (0 ≤ x7_1) = true := decide_eq_true c3; clear c3
     by_cases c4 : x7_1 < (l0.length : Int)
     ·rw [if_pos c4] at H
      have c4b0 : decide (x7_1 < (l0.length : Int)) = true := decide_eq_true c4; clear c4
      by_cases c5 : x7_1 > 0
      ·rw [if_pos c5] at H
       have c5b0 : decide (0 < x7_1) = true := decide_eq_true c5; clear c5; obtain ⟨ji6, hji6⟩ : ∃ j_ : Int, (wrap64 (x7_1 - 1)) = j_ := ⟨_, rfl⟩; replace H : (if 0 ≤ (ji6) then (if (ji6) < (l0.length : Int) then (if ((rd_T35 l0 (ji6)).f0) ≥ ((rd_T35 l0 x7_1).f0) then (some false) else (impl_placesAscend.l0 k1 l0 l0 (l0.length : Int) (wrap64 (x7_1 + 1)))) else (none)) else (none)) = some r := by first | (rw [hji6] at H; exact H) | (simp only [hji6] at H ⊢; exact H)
       have hji6w : (IntKind.i64.wrap (x7_1 - 1)) = ji6 := (i64_w _).trans hji6
       by_cases c7 : 0 ≤ (ji6)
       ·rw [if_pos c7] at H
        have c7b0 : decide (0 ≤ (ji6)) = true := decide_eq_true c7; clear c7
        by_cases c8 : (ji6) < (l0.length : Int)
        ·rw [if_pos c8] at H
         have c8b0 : decide ((ji6) < (l0.length : Int)) = true := decide_eq_true c8; clear c8
         by_cases c9 : ((rd_T35 l0 (ji6)).f0) ≥ ((rd_T35 l0 x7_1).f0)
         ·rw [if_pos c9] at H
          have c9b0 : decide (((rd_T35 l0 x7_1).f0) ≤ ((rd_T35 l0 (ji6)).f0)) = true := decide_eq_true c9; clear c9; obtain rfl := Option.some.inj H; have p172 : 0 ≤ (x7_1 : Int) := of_decide_eq_true (by first | (with_reducible assumption) | assumption); have q172 : x7_1 < (l0.length : Int) := of_decide_eq_true (by first | (with_reducible assumption) | assumption); obtain ⟨ad172, e172, hx172_0, hx172_1, hx172_2, hx172_3⟩ := at_T35 HR0.out x7_1 p172 q172
          cases e172
          replace hx172_0 := CB HB.out hx172_0; replace hx172_1 := CB HB.out hx172_1; replace hx172_2 := CB HB.out hx172_2; replace hx172_3 := CB HB.out hx172_3; replace p172 := eq_true p172; replace q172 := eq_true q172
          go_wp2_with (first | ((with_reducible refine GD 4 ?_); refine BE 4 #[.int .i64 0, .int .i64 0, .bool false, .string (⟨#[]⟩ : ByteArray)] 35 ?_; intro gb173 hg w10 hbox hb; have h_ := PB w hb hbox hg; clear HB; obtain ⟨HB, BK173, GW173, GE173⟩ := h_; clear hb hbox hg; obtain ⟨hcz11_0, hcz11_1, hcz11_2, hcz11_3, hfz11_0, hfz11_1, hfz11_2, hfz11_3⟩ := C4 BK173.out; have p174 : 0 ≤ ((ji6) : Int) := of_decide_eq_true (by first | (with_reducible assumption) | assumption); have q174 : (ji6) < (l0.length : Int) := of_decide_eq_true (by first | (with_reducible assumption) | assumption); obtain ⟨ad174, e174, hx174_0, hx174_1, hx174_2, hx174_3⟩ := at_T35 HR0.out (ji6) p174 q174; obtain rfl : ad172 = ad174 := (by injection e174); have hn174_0 : ad172.block ≠ gb173 := Nat.ne_of_lt (Nat.lt_of_lt_of_le (by have := World.block_lt_of_cell? _ _ hx174_0; first | rwa [add_block] at this | exact this) GW173.out); have hn174_1 : ad172.block ≠ gb173 := Nat.ne_of_lt (Nat.lt_of_lt_of_le (by have := World.block_lt_of_cell? _ _ hx174_0; first | rwa [add_block] at this | exact this) GW173.out); have hn174_2 : ad172.block ≠ gb173 := Nat.ne_of_lt (Nat.lt_of_lt_of_le (by have := World.block_lt_of_cell? _ _ hx174_0; first | rwa [add_block] at this | exact this) GW173.out); have hn174_3 : ad172.block ≠ gb173 := Nat.ne_of_lt (Nat.lt_of_lt_of_le (by have := World.block_lt_of_cell? _ _ hx174_0; first | rwa [add_block] at this | exact this) GW173.out); replace hx174_0 := CB HB.out hx174_0; replace hx174_1 := CB HB.out hx174_1; replace hx174_2 := CB HB.out hx174_2; replace hx174_3 := CB HB.out hx174_3; replace hx174_0 := CF gb173 0 (.int .i64 ((rd_T35 l0 x7_1).f0)) hx174_0; replace hx174_1 := CF gb173 0 (.int .i64 ((rd_T35 l0 x7_1).f0)) hx174_1; replace hx174_2 := CF gb173 0 (.int .i64 ((rd_T35 l0 x7_1).f0)) hx174_2; replace hx174_3 := CF gb173 0 (.int .i64 ((rd_T35 l0 x7_1).f0)) hx174_3; replace hx174_0 := CF gb173 1 (.int .i64 ((rd_T35 l0 x7_1).f1)) hx174_0; replace hx174_1 := CF gb173 1 (.int .i64 ((rd_T35 l0 x7_1).f1)) hx174_1; replace hx174_2 := CF gb173 1 (.int .i64 ((rd_T35 l0 x7_1).f1)) hx174_2; replace hx174_3 := CF gb173 1 (.int .i64 ((rd_T35 l0 x7_1).f1)) hx174_3; replace hx174_0 := CF gb173 2 (.bool ((rd_T35 l0 x7_1).f2)) hx174_0; replace hx174_1 := CF gb173 2 (.bool ((rd_T35 l0 x7_1).f2)) hx174_1; replace hx174_2 := CF gb173 2 (.bool ((rd_T35 l0 x7_1).f2)) hx174_2; replace hx174_3 := CF gb173 2 (.bool ((rd_T35 l0 x7_1).f2)) hx174_3; replace hx174_0 := CF gb173 3 (.string ((rd_T35 l0 x7_1).f3)) hx174_0; replace hx174_1 := CF gb173 3 (.string ((rd_T35 l0 x7_1).f3)) hx174_1; replace hx174_2 := CF gb173 3 (.string ((rd_T35 l0 x7_1).f3)) hx174_2; replace hx174_3 := CF gb173 3 (.string ((rd_T35 l0 x7_1).f3)) hx174_3; (try have hy174_0 := fun (n_ : Nat) => (show ((((((w10.drewN n_).setCell ⟨gb173, 0, none⟩ (.int .i64 ((rd_T35 l0 x7_1).f0))).setCell ⟨gb173, 1, none⟩ (.int .i64 ((rd_T35 l0 x7_1).f1))).setCell ⟨gb173, 2, none⟩ (.bool ((rd_T35 l0 x7_1).f2))).setCell ⟨gb173, 3, none⟩ (.string ((rd_T35 l0 x7_1).f3)))).cell? _ = some _ from hx174_0)); (try have hy174_1 := fun (n_ : Nat) => (show ((((((w10.drewN n_).setCell ⟨gb173, 0, none⟩ (.int .i64 ((rd_T35 l0 x7_1).f0))).setCell ⟨gb173, 1, none⟩ (.int .i64 ((rd_T35 l0 x7_1).f1))).setCell ⟨gb173, 2, none⟩ (.bool ((rd_T35 l0 x7_1).f2))).setCell ⟨gb173, 3, none⟩ (.string ((rd_T35 l0 x7_1).f3)))).cell? _ = some _ from hx174_1)); (try have hy174_2 := fun (n_ : Nat) => (show ((((((w10.drewN n_).setCell ⟨gb173, 0, none⟩ (.int .i64 ((rd_T35 l0 x7_1).f0))).setCell ⟨gb173, 1, none⟩ (.int .i64 ((rd_T35 l0 x7_1).f1))).setCell ⟨gb173, 2, none⟩ (.bool ((rd_T35 l0 x7_1).f2))).setCell ⟨gb173, 3, none⟩ (.string ((rd_T35 l0 x7_1).f3)))).cell? _ = some _ from hx174_2)); (try have hy174_3 := fun (n_ : Nat) => (show ((((((w10.drewN n_).setCell ⟨gb173, 0, none⟩ (.int .i64 ((rd_T35 l0 x7_1).f0))).setCell ⟨gb173, 1, none⟩ (.int .i64 ((rd_T35 l0 x7_1).f1))).setCell ⟨gb173, 2, none⟩ (.bool ((rd_T35 l0 x7_1).f2))).setCell ⟨gb173, 3, none⟩ (.string ((rd_T35 l0 x7_1).f3)))).cell? _ = some _ from hx174_3)); clear hn174_0; clear hn174_1; clear hn174_2; clear hn174_3; replace p174 := eq_true p174; replace q174 := eq_true q174))
          repeat (go_quiet (fail); try go_wp2_with (first | ((with_reducible refine GD 4 ?_); refine BE 4 #[.int .i64 0, .int .i64 0, .bool false, .string (⟨#[]⟩ : ByteArray)] 35 ?_; intro gb173 hg w10 hbox hb; have h_ := PB w hb hbox hg; clear HB; obtain ⟨HB, BK173, GW173, GE173⟩ := h_; clear hb hbox hg; obtain ⟨hcz11_0, hcz11_1, hcz11_2, hcz11_3, hfz11_0, hfz11_1, hfz11_2, hfz11_3⟩ := C4 BK173.out; have p174 : 0 ≤ ((ji6) : Int) := of_decide_eq_true (by first | (with_reducible assumption) | assumption); have q174 : (ji6) < (l0.length : Int) := of_decide_eq_true (by first | (with_reducible assumption) | assumption); obtain ⟨ad174, e174, hx174_0, hx174_1, hx174_2, hx174_3⟩ := at_T35 HR0.out (ji6) p174 q174; obtain rfl : ad172 = ad174 := (by injection e174); have hn174_0 : ad172.block ≠ gb173 := Nat.ne_of_lt (Nat.lt_of_lt_of_le (by have := World.block_lt_of_cell? _ _ hx174_0; first | rwa [add_block] at this | exact this) GW173.out); have hn174_1 : ad172.block ≠ gb173 := Nat.ne_of_lt (Nat.lt_of_lt_of_le (by have := World.block_lt_of_cell? _ _ hx174_0; first | rwa [add_block] at this | exact this) GW173.out); have hn174_2 : ad172.block ≠ gb173 := Nat.ne_of_lt (Nat.lt_of_lt_of_le (by have := World.block_lt_of_cell? _ _ hx174_0; first | rwa [add_block] at this | exact this) GW173.out); have hn174_3 : ad172.block ≠ gb173 := Nat.ne_of_lt (Nat.lt_of_lt_of_le (by have := World.block_lt_of_cell? _ _ hx174_0; first | rwa [add_block] at this | exact this) GW173.out); replace hx174_0 := CB HB.out hx174_0; replace hx174_1 := CB HB.out hx174_1; replace hx174_2 := CB HB.out hx174_2; replace hx174_3 := CB HB.out hx174_3; replace hx174_0 := CF gb173 0 (.int .i64 ((rd_T35 l0 x7_1).f0)) hx174_0; replace hx174_1 := CF gb173 0 (.int .i64 ((rd_T35 l0 x7_1).f0)) hx174_1; replace hx174_2 := CF gb173 0 (.int .i64 ((rd_T35 l0 x7_1).f0)) hx174_2; replace hx174_3 := CF gb173 0 (.int .i64 ((rd_T35 l0 x7_1).f0)) hx174_3; replace hx174_0 := CF gb173 1 (.int .i64 ((rd_T35 l0 x7_1).f1)) hx174_0; replace hx174_1 := CF gb173 1 (.int .i64 ((rd_T35 l0 x7_1).f1)) hx174_1; replace hx174_2 := CF gb173 1 (.int .i64 ((rd_T35 l0 x7_1).f1)) hx174_2; replace hx174_3 := CF gb173 1 (.int .i64 ((rd_T35 l0 x7_1).f1)) hx174_3; replace hx174_0 := CF gb173 2 (.bool ((rd_T35 l0 x7_1).f2)) hx174_0; replace hx174_1 := CF gb173 2 (.bool ((rd_T35 l0 x7_1).f2)) hx174_1; replace hx174_2 := CF gb173 2 (.bool ((rd_T35 l0 x7_1).f2)) hx174_2; replace hx174_3 := CF gb173 2 (.bool ((rd_T35 l0 x7_1).f2)) hx174_3; replace hx174_0 := CF gb173 3 (.string ((rd_T35 l0 x7_1).f3)) hx174_0; replace hx174_1 := CF gb173 3 (.string ((rd_T35 l0 x7_1).f3)) hx174_1; replace hx174_2 := CF gb173 3 (.string ((rd_T35 l0 x7_1).f3)) hx174_2; replace hx174_3 := CF gb173 3 (.string ((rd_T35 l0 x7_1).f3)) hx174_3; (try have hy174_0 := fun (n_ : Nat) => (show ((((((w10.drewN n_).setCell ⟨gb173, 0, none⟩ (.int .i64 ((rd_T35 l0 x7_1).f0))).setCell ⟨gb173, 1, none⟩ (.int .i64 ((rd_T35 l0 x7_1).f1))).setCell ⟨gb173, 2, none⟩ (.bool ((rd_T35 l0 x7_1).f2))).setCell ⟨gb173, 3, none⟩ (.string ((rd_T35 l0 x7_1).f3)))).cell? _ = some _ from hx174_0)); (try have hy174_1 := fun (n_ : Nat) => (show ((((((w10.drewN n_).setCell ⟨gb173, 0, none⟩ (.int .i64 ((rd_T35 l0 x7_1).f0))).setCell ⟨gb173, 1, none⟩ (.int .i64 ((rd_T35 l0 x7_1).f1))).setCell ⟨gb173, 2, none⟩ (.bool ((rd_T35 l0 x7_1).f2))).setCell ⟨gb173, 3, none⟩ (.string ((rd_T35 l0 x7_1).f3)))).cell? _ = some _ from hx174_1)); (try have hy174_2 := fun (n_ : Nat) => (show ((((((w10.drewN n_).setCell ⟨gb173, 0, none⟩ (.int .i64 ((rd_T35 l0 x7_1).f0))).setCell ⟨gb173, 1, none⟩ (.int .i64 ((rd_T35 l0 x7_1).f1))).setCell ⟨gb173, 2, none⟩ (.bool ((rd_T35 l0 x7_1).f2))).setCell ⟨gb173, 3, none⟩ (.string ((rd_T35 l0 x7_1).f3)))).cell? _ = some _ from hx174_2)); (try have hy174_3 := fun (n_ : Nat) => (show ((((((w10.drewN n_).setCell ⟨gb173, 0, none⟩ (.int .i64 ((rd_T35 l0 x7_1).f0))).setCell ⟨gb173, 1, none⟩ (.int .i64 ((rd_T35 l0 x7_1).f1))).setCell ⟨gb173, 2, none⟩ (.bool ((rd_T35 l0 x7_1).f2))).setCell ⟨gb173, 3, none⟩ (.string ((rd_T35 l0 x7_1).f3)))).cell? _ = some _ from hx174_3)); clear hn174_0; clear hn174_1; clear hn174_2; clear hn174_3; replace p174 := eq_true p174; replace q174 := eq_true q174)))
          go_ret
          exact ⟨by first | rfl | (simp [errW_none, errW_some] <;> rfl) | (simp only [← hji6]; first | rfl | (simp [errW_none, errW_some] <;> rfl)) | (simp [*, errW_none, errW_some] <;> rfl), KB⟩
         ·rw [if_neg c9] at H
          have c9b0 : decide (((rd_T35 l0 x7_1).f0) ≤ ((rd_T35 l0 (ji6)).f0)) = false := decide_eq_false c9; clear c9; have H' := Aside0.mk H; clear H; have p172 : 0 ≤ (x7_1 : Int) := of_decide_eq_true (by first | (with_reducible assumption) | assumption); have q172 : x7_1 < (l0.length : Int) := of_decide_eq_true (by first | (with_reducible assumption) | assumption); obtain ⟨ad172, e172, hx172_0, hx172_1, hx172_2, hx172_3⟩ := at_T35 HR0.out x7_1 p172 q172
          cases e172
          replace hx172_0 := CB HB.out hx172_0; replace hx172_1 := CB HB.out hx172_1; replace hx172_2 := CB HB.out hx172_2; replace hx172_3 := CB HB.out hx172_3; replace p172 := eq_true p172; replace q172 := eq_true q172
          go_wp2_with (first | ((with_reducible refine GD 4 ?_); refine BE 4 #[.int .i64 0, .int .i64 0, .bool false, .string (⟨#[]⟩ : ByteArray)] 35 ?_; intro gb173 hg w12 hbox hb; have h_ := PB w hb hbox hg; clear HB; obtain ⟨HB, BK173, GW173, GE173⟩ := h_; clear hb hbox hg; obtain ⟨hcz13_0, hcz13_1, hcz13_2, hcz13_3, hfz13_0, hfz13_1, hfz13_2, hfz13_3⟩ := C4 BK173.out; have p174 : 0 ≤ ((ji6) : Int) := of_decide_eq_true (by first | (with_reducible assumption) | assumption); have q174 : (ji6) < (l0.length : Int) := of_decide_eq_true (by first | (with_reducible assumption) | assumption); obtain ⟨ad174, e174, hx174_0, hx174_1, hx174_2, hx174_3⟩ := at_T35 HR0.out (ji6) p174 q174; obtain rfl : ad172 = ad174 := (by injection e174); have hn174_0 : ad172.block ≠ gb173 := Nat.ne_of_lt (Nat.lt_of_lt_of_le (by have := World.block_lt_of_cell? _ _ hx174_0; first | rwa [add_block] at this | exact this) GW173.out); have hn174_1 : ad172.block ≠ gb173 := Nat.ne_of_lt (Nat.lt_of_lt_of_le (by have := World.block_lt_of_cell? _ _ hx174_0; first | rwa [add_block] at this | exact this) GW173.out); have hn174_2 : ad172.block ≠ gb173 := Nat.ne_of_lt (Nat.lt_of_lt_of_le (by have := World.block_lt_of_cell? _ _ hx174_0; first | rwa [add_block] at this | exact this) GW173.out); have hn174_3 : ad172.block ≠ gb173 := Nat.ne_of_lt (Nat.lt_of_lt_of_le (by have := World.block_lt_of_cell? _ _ hx174_0; first | rwa [add_block] at this | exact this) GW173.out); replace hx174_0 := CB HB.out hx174_0; replace hx174_1 := CB HB.out hx174_1; replace hx174_2 := CB HB.out hx174_2; replace hx174_3 := CB HB.out hx174_3; replace hx174_0 := CF gb173 0 (.int .i64 ((rd_T35 l0 x7_1).f0)) hx174_0; replace hx174_1 := CF gb173 0 (.int .i64 ((rd_T35 l0 x7_1).f0)) hx174_1; replace hx174_2 := CF gb173 0 (.int .i64 ((rd_T35 l0 x7_1).f0)) hx174_2; replace hx174_3 := CF gb173 0 (.int .i64 ((rd_T35 l0 x7_1).f0)) hx174_3; replace hx174_0 := CF gb173 1 (.int .i64 ((rd_T35 l0 x7_1).f1)) hx174_0; replace hx174_1 := CF gb173 1 (.int .i64 ((rd_T35 l0 x7_1).f1)) hx174_1; replace hx174_2 := CF gb173 1 (.int .i64 ((rd_T35 l0 x7_1).f1)) hx174_2; replace hx174_3 := CF gb173 1 (.int .i64 ((rd_T35 l0 x7_1).f1)) hx174_3; replace hx174_0 := CF gb173 2 (.bool ((rd_T35 l0 x7_1).f2)) hx174_0; replace hx174_1 := CF gb173 2 (.bool ((rd_T35 l0 x7_1).f2)) hx174_1; replace hx174_2 := CF gb173 2 (.bool ((rd_T35 l0 x7_1).f2)) hx174_2; replace hx174_3 := CF gb173 2 (.bool ((rd_T35 l0 x7_1).f2)) hx174_3; replace hx174_0 := CF gb173 3 (.string ((rd_T35 l0 x7_1).f3)) hx174_0; replace hx174_1 := CF gb173 3 (.string ((rd_T35 l0 x7_1).f3)) hx174_1; replace hx174_2 := CF gb173 3 (.string ((rd_T35 l0 x7_1).f3)) hx174_2; replace hx174_3 := CF gb173 3 (.string ((rd_T35 l0 x7_1).f3)) hx174_3; (try have hy174_0 := fun (n_ : Nat) => (show ((((((w12.drewN n_).setCell ⟨gb173, 0, none⟩ (.int .i64 ((rd_T35 l0 x7_1).f0))).setCell ⟨gb173, 1, none⟩ (.int .i64 ((rd_T35 l0 x7_1).f1))).setCell ⟨gb173, 2, none⟩ (.bool ((rd_T35 l0 x7_1).f2))).setCell ⟨gb173, 3, none⟩ (.string ((rd_T35 l0 x7_1).f3)))).cell? _ = some _ from hx174_0)); (try have hy174_1 := fun (n_ : Nat) => (show ((((((w12.drewN n_).setCell ⟨gb173, 0, none⟩ (.int .i64 ((rd_T35 l0 x7_1).f0))).setCell ⟨gb173, 1, none⟩ (.int .i64 ((rd_T35 l0 x7_1).f1))).setCell ⟨gb173, 2, none⟩ (.bool ((rd_T35 l0 x7_1).f2))).setCell ⟨gb173, 3, none⟩ (.string ((rd_T35 l0 x7_1).f3)))).cell? _ = some _ from hx174_1)); (try have hy174_2 := fun (n_ : Nat) => (show ((((((w12.drewN n_).setCell ⟨gb173, 0, none⟩ (.int .i64 ((rd_T35 l0 x7_1).f0))).setCell ⟨gb173, 1, none⟩ (.int .i64 ((rd_T35 l0 x7_1).f1))).setCell ⟨gb173, 2, none⟩ (.bool ((rd_T35 l0 x7_1).f2))).setCell ⟨gb173, 3, none⟩ (.string ((rd_T35 l0 x7_1).f3)))).cell? _ = some _ from hx174_2)); (try have hy174_3 := fun (n_ : Nat) => (show ((((((w12.drewN n_).setCell ⟨gb173, 0, none⟩ (.int .i64 ((rd_T35 l0 x7_1).f0))).setCell ⟨gb173, 1, none⟩ (.int .i64 ((rd_T35 l0 x7_1).f1))).setCell ⟨gb173, 2, none⟩ (.bool ((rd_T35 l0 x7_1).f2))).setCell ⟨gb173, 3, none⟩ (.string ((rd_T35 l0 x7_1).f3)))).cell? _ = some _ from hx174_3)); clear hn174_0; clear hn174_1; clear hn174_2; clear hn174_3; replace p174 := eq_true p174; replace q174 := eq_true q174))
          repeat (go_quiet (fail); try go_wp2_with (first | ((with_reducible refine GD 4 ?_); refine BE 4 #[.int .i64 0, .int .i64 0, .bool false, .string (⟨#[]⟩ : ByteArray)] 35 ?_; intro gb173 hg w12 hbox hb; have h_ := PB w hb hbox hg; clear HB; obtain ⟨HB, BK173, GW173, GE173⟩ := h_; clear hb hbox hg; obtain ⟨hcz13_0, hcz13_1, hcz13_2, hcz13_3, hfz13_0, hfz13_1, hfz13_2, hfz13_3⟩ := C4 BK173.out; have p174 : 0 ≤ ((ji6) : Int) := of_decide_eq_true (by first | (with_reducible assumption) | assumption); have q174 : (ji6) < (l0.length : Int) := of_decide_eq_true (by first | (with_reducible assumption) | assumption); obtain ⟨ad174, e174, hx174_0, hx174_1, hx174_2, hx174_3⟩ := at_T35 HR0.out (ji6) p174 q174; obtain rfl : ad172 = ad174 := (by injection e174); have hn174_0 : ad172.block ≠ gb173 := Nat.ne_of_lt (Nat.lt_of_lt_of_le (by have := World.block_lt_of_cell? _ _ hx174_0; first | rwa [add_block] at this | exact this) GW173.out); have hn174_1 : ad172.block ≠ gb173 := Nat.ne_of_lt (Nat.lt_of_lt_of_le (by have := World.block_lt_of_cell? _ _ hx174_0; first | rwa [add_block] at this | exact this) GW173.out); have hn174_2 : ad172.block ≠ gb173 := Nat.ne_of_lt (Nat.lt_of_lt_of_le (by have := World.block_lt_of_cell? _ _ hx174_0; first | rwa [add_block] at this | exact this) GW173.out); have hn174_3 : ad172.block ≠ gb173 := Nat.ne_of_lt (Nat.lt_of_lt_of_le (by have := World.block_lt_of_cell? _ _ hx174_0; first | rwa [add_block] at this | exact this) GW173.out); replace hx174_0 := CB HB.out hx174_0; replace hx174_1 := CB HB.out hx174_1; replace hx174_2 := CB HB.out hx174_2; replace hx174_3 := CB HB.out hx174_3; replace hx174_0 := CF gb173 0 (.int .i64 ((rd_T35 l0 x7_1).f0)) hx174_0; replace hx174_1 := CF gb173 0 (.int .i64 ((rd_T35 l0 x7_1).f0)) hx174_1; replace hx174_2 := CF gb173 0 (.int .i64 ((rd_T35 l0 x7_1).f0)) hx174_2; replace hx174_3 := CF gb173 0 (.int .i64 ((rd_T35 l0 x7_1).f0)) hx174_3; replace hx174_0 := CF gb173 1 (.int .i64 ((rd_T35 l0 x7_1).f1)) hx174_0; replace hx174_1 := CF gb173 1 (.int .i64 ((rd_T35 l0 x7_1).f1)) hx174_1; replace hx174_2 := CF gb173 1 (.int .i64 ((rd_T35 l0 x7_1).f1)) hx174_2; replace hx174_3 := CF gb173 1 (.int .i64 ((rd_T35 l0 x7_1).f1)) hx174_3; replace hx174_0 := CF gb173 2 (.bool ((rd_T35 l0 x7_1).f2)) hx174_0; replace hx174_1 := CF gb173 2 (.bool ((rd_T35 l0 x7_1).f2)) hx174_1; replace hx174_2 := CF gb173 2 (.bool ((rd_T35 l0 x7_1).f2)) hx174_2; replace hx174_3 := CF gb173 2 (.bool ((rd_T35 l0 x7_1).f2)) hx174_3; replace hx174_0 := CF gb173 3 (.string ((rd_T35 l0 x7_1).f3)) hx174_0; replace hx174_1 := CF gb173 3 (.string ((rd_T35 l0 x7_1).f3)) hx174_1; replace hx174_2 := CF gb173 3 (.string ((rd_T35 l0 x7_1).f3)) hx174_2; replace hx174_3 := CF gb173 3 (.string ((rd_T35 l0 x7_1).f3)) hx174_3; (try have hy174_0 := fun (n_ : Nat) => (show ((((((w12.drewN n_).setCell ⟨gb173, 0, none⟩ (.int .i64 ((rd_T35 l0 x7_1).f0))).setCell ⟨gb173, 1, none⟩ (.int .i64 ((rd_T35 l0 x7_1).f1))).setCell ⟨gb173, 2, none⟩ (.bool ((rd_T35 l0 x7_1).f2))).setCell ⟨gb173, 3, none⟩ (.string ((rd_T35 l0 x7_1).f3)))).cell? _ = some _ from hx174_0)); (try have hy174_1 := fun (n_ : Nat) => (show ((((((w12.drewN n_).setCell ⟨gb173, 0, none⟩ (.int .i64 ((rd_T35 l0 x7_1).f0))).setCell ⟨gb173, 1, none⟩ (.int .i64 ((rd_T35 l0 x7_1).f1))).setCell ⟨gb173, 2, none⟩ (.bool ((rd_T35 l0 x7_1).f2))).setCell ⟨gb173, 3, none⟩ (.string ((rd_T35 l0 x7_1).f3)))).cell? _ = some _ from hx174_1)); (try have hy174_2 := fun (n_ : Nat) => (show ((((((w12.drewN n_).setCell ⟨gb173, 0, none⟩ (.int .i64 ((rd_T35 l0 x7_1).f0))).setCell ⟨gb173, 1, none⟩ (.int .i64 ((rd_T35 l0 x7_1).f1))).setCell ⟨gb173, 2, none⟩ (.bool ((rd_T35 l0 x7_1).f2))).setCell ⟨gb173, 3, none⟩ (.string ((rd_T35 l0 x7_1).f3)))).cell? _ = some _ from hx174_2)); (try have hy174_3 := fun (n_ : Nat) => (show ((((((w12.drewN n_).setCell ⟨gb173, 0, none⟩ (.int .i64 ((rd_T35 l0 x7_1).f0))).setCell ⟨gb173, 1, none⟩ (.int .i64 ((rd_T35 l0 x7_1).f1))).setCell ⟨gb173, 2, none⟩ (.bool ((rd_T35 l0 x7_1).f2))).setCell ⟨gb173, 3, none⟩ (.string ((rd_T35 l0 x7_1).f3)))).cell? _ = some _ from hx174_3)); clear hn174_0; clear hn174_1; clear hn174_2; clear hn174_3; replace p174 := eq_true p174; replace q174 := eq_true q174)))
          go_roundg k1
          case measure => have := HK1.out; omega
          case rel => exact ⟨(wrap64 (x7_1 + 1)), (by first | rfl | (simp; done) | (simp [*]; done)), H', ⟨by have := HK1.out; omega⟩, ⟨KB⟩⟩
        ·rw [if_neg c8] at H
         exact absurd H (by simp)
       ·rw [if_neg c7] at H
        exact absurd H (by simp)
      ·rw [if_neg c5] at H
       have c5b0 : decide (0 < x7_1) = false := decide_eq_false c5; clear c5; have H' := Aside0.mk H; clear H; have p172 : 0 ≤ (x7_1 : Int) := of_decide_eq_true (by first | (with_reducible assumption) | assumption); have q172 : x7_1 < (l0.length : Int) := of_decide_eq_true (by first | (with_reducible assumption) | assumption); obtain ⟨ad172, e172, hx172_0, hx172_1, hx172_2, hx172_3⟩ := at_T35 HR0.out x7_1 p172 q172
       cases e172
       replace hx172_0 := CB HB.out hx172_0; replace hx172_1 := CB HB.out hx172_1; replace hx172_2 := CB HB.out hx172_2; replace hx172_3 := CB HB.out hx172_3; replace p172 := eq_true p172; replace q172 := eq_true q172
       go_wp2_with (first | ((with_reducible refine GD 4 ?_); refine BE 4 #[.int .i64 0, .int .i64 0, .bool false, .string (⟨#[]⟩ : ByteArray)] 35 ?_; intro gb173 hg w14 hbox hb; have h_ := PB w hb hbox hg; clear HB; obtain ⟨HB, BK173, GW173, GE173⟩ := h_; clear hb hbox hg; obtain ⟨hcz15_0, hcz15_1, hcz15_2, hcz15_3, hfz15_0, hfz15_1, hfz15_2, hfz15_3⟩ := C4 BK173.out))
       repeat (go_quiet (fail); try go_wp2_with (first | ((with_reducible refine GD 4 ?_); refine BE 4 #[.int .i64 0, .int .i64 0, .bool false, .string (⟨#[]⟩ : ByteArray)] 35 ?_; intro gb173 hg w14 hbox hb; have h_ := PB w hb hbox hg; clear HB; obtain ⟨HB, BK173, GW173, GE173⟩ := h_; clear hb hbox hg; obtain ⟨hcz15_0, hcz15_1, hcz15_2, hcz15_3, hfz15_0, hfz15_1, hfz15_2, hfz15_3⟩ := C4 BK173.out)))
       go_roundg k1
       case measure => have := HK1.out; omega
       case rel => exact ⟨(wrap64 (x7_1 + 1)), (by first | rfl | (simp; done) | (simp [*]; done)), H', ⟨by have := HK1.out; omega⟩, ⟨KB⟩⟩
     ·rw [if_neg c4] at H
      exact absurd H (by simp)
    ·rw [if_neg c3] at H
     exact absurd H (by simp)
   ·rw [if_neg c2] at H
    have c2b0 : decide (x7_1 < (l0.length : Int)) = false := decide_eq_false c2; clear c2; obtain rfl := Option.some.inj H
    go_wp2
    repeat (go_quiet (fail); try go_wp2)
    go_ret
    exact ⟨KE, KB⟩

end Go.Proofs.Ytnoghojlpicecaa.PFnEras
