-- What each Go function that this law reaches comes to: written by a program out of the translation.
import Derived.Test.YtnoghojlpicecaaMFnExactStorePutx0
import Derived.Test.YtnoghojlpicecaaMFnExactStorePutx2
namespace Go.Proofs.Ytnoghojlpicecaa.PFnExactStorePut
open Go.RowKit Go.Proofs.YtnoghojlpicecaaW.PrintWords Go.Proofs.YtnoghojlpicecaaW.PrintLast Go.Proofs.YtnoghojlpicecaaW.PrintMore
attribute [local go_sem] max2_int min2_int max_two min_two max_three min_three max_four min_four   -- for this text's walks alone
set_option linter.unusedVariables false
set_option linter.unusedSimpArgs false

/-! ### impl_PlaceOk: function 52 -/
def impl_PlaceOk.f (a0 : Int) : Option (Bool) := (impl_isEpoch.f (wrap64 (Int.tdiv a0 4294967296))).bind fun t180 => (if t180 = true then ((impl_isOff.f (Int.tmod a0 4294967296)).bind fun t181 => (some t181)) else (some false))
set_option maxHeartbeats 8000000 in
set_option maxRecDepth 100000 in
theorem impl_PlaceOk.calls (a0 : Int) (r : Bool) (w : World) (h : impl_PlaceOk.f a0 = some r) :
  Calls Try.prog 52 #[.int .i64 a0] w fun e w' => e = .returned (.bool r) ∧ Drawn0 w w' := by
 have H : ((impl_isEpoch.f (wrap64 (Int.tdiv a0 4294967296))).bind fun t180 => (if t180 = true then ((impl_isOff.f (Int.tmod a0 4294967296)).bind fun t181 => (some t181)) else (some false))) = some r := h
 clear h
 replace H := Option.bind_eq_some_iff.mp H
 obtain ⟨t180, A20, H⟩ := H
 replace H : (if t180 = true then ((impl_isOff.f (Int.tmod a0 4294967296)).bind fun t181 => (some t181)) else (some false)) = some r := H
 have A2 := Aside0.mk A20
 clear A20
 by_cases c3 : t180 = true
 ·subst c3
  have H1 : ((impl_isOff.f (Int.tmod a0 4294967296)).bind fun t181 => (some t181)) = some r := by rw [if_pos rfl] at H; exact H
  clear H
  have H := H1
  clear H1
  replace H := Option.bind_eq_some_iff.mp H
  obtain ⟨t181, A40, H⟩ := H
  replace H : (some t181) = some r := H
  have A4 := Aside0.mk A40
  clear A40
  obtain rfl := Option.some.inj H
  go_enter Try.func52, Try.ntmps52
  go_wp2_with (first | ((with_reducible refine gate_callee (f := 75) rfl ?_); refine goesL_ (some 5) rfl rfl Try.func75 (by kernel_rfl) rfl #[.int .i64 (wrap64 (Int.tdiv a0 4294967296))] rfl KL ?_; (with_reducible refine (impl_isEpoch.calls (wrap64 (Int.tdiv a0 4294967296)) true _ A2.out).mono ?_); rintro e w' ⟨rfl, ⟨nd, rfl⟩⟩; refine ⟨_, rfl, ?_⟩) | (go_at_call 76; (with_reducible refine (impl_isOff.calls (Int.tmod a0 4294967296) t181 _ A4.out).mono ?_); rintro e w' ⟨rfl, ⟨nd, rfl⟩⟩))
  go_ret
  exact ⟨by first | rfl | (simp; done) | (simp [*]; done), by repeat (first | exact Drawn0.refl _ | apply Drawn0.step)⟩
 ·replace c3 := Bool.eq_false_iff.mpr c3
  subst c3
  have H1 : (some false) = some r := by rw [if_neg (show ¬ (false = true) by decide)] at H; exact H
  clear H
  have H := H1
  clear H1
  obtain rfl := Option.some.inj H
  go_enter Try.func52, Try.ntmps52
  go_wp2_with (first | ((with_reducible refine gate_callee (f := 75) rfl ?_); refine goesL_ (some 5) rfl rfl Try.func75 (by kernel_rfl) rfl #[.int .i64 (wrap64 (Int.tdiv a0 4294967296))] rfl KL ?_; (with_reducible refine (impl_isEpoch.calls (wrap64 (Int.tdiv a0 4294967296)) false _ A2.out).mono ?_); rintro e w' ⟨rfl, ⟨nd, rfl⟩⟩; refine ⟨_, rfl, ?_⟩))
  go_ret
  exact ⟨by first | rfl | (simp; done) | (simp [*]; done), by repeat (first | exact Drawn0.refl _ | apply Drawn0.step)⟩

/-! ### impl_EpochOf: function 26 -/
def impl_EpochOf.f (a0 : Int) : Option (Int) := (impl_PlaceOk.f a0).bind fun t182 => (if t182 = true then (some (wrap64 (Int.tdiv a0 4294967296))) else (some 0))
set_option maxHeartbeats 8000000 in
set_option maxRecDepth 100000 in
theorem impl_EpochOf.calls (a0 : Int) (r : Int) (w : World) (h : impl_EpochOf.f a0 = some r) :
  Calls Try.prog 26 #[.int .i64 a0] w fun e w' => e = .returned (.int .i64 r) ∧ Drawn0 w w' := by
 have H : ((impl_PlaceOk.f a0).bind fun t182 => (if t182 = true then (some (wrap64 (Int.tdiv a0 4294967296))) else (some 0))) = some r := h
 clear h
 replace H := Option.bind_eq_some_iff.mp H
 obtain ⟨t182, A20, H⟩ := H
 replace H : (if t182 = true then (some (wrap64 (Int.tdiv a0 4294967296))) else (some 0)) = some r := H
 have A2 := Aside0.mk A20
 clear A20
 by_cases c3 : t182 = true
 ·subst c3
  have H1 : (some (wrap64 (Int.tdiv a0 4294967296))) = some r := by rw [if_pos rfl] at H; exact H
  clear H
  have H := H1
  clear H1
  obtain rfl := Option.some.inj H
  go_enter Try.func26, Try.ntmps26
  go_wp2_with (first | ((with_reducible refine gate_callee (f := 52) rfl ?_); refine goesL_ (some 4) rfl rfl Try.func52 (by kernel_rfl) rfl #[.int .i64 a0] rfl KL ?_; (with_reducible refine (impl_PlaceOk.calls a0 true _ A2.out).mono ?_); rintro e w' ⟨rfl, ⟨nd, rfl⟩⟩; refine ⟨_, rfl, ?_⟩))
  go_ret
  exact ⟨by first | rfl | (simp; done) | (simp [*]; done), by repeat (first | exact Drawn0.refl _ | apply Drawn0.step)⟩
 ·replace c3 := Bool.eq_false_iff.mpr c3
  subst c3
  have H1 : (some 0) = some r := by rw [if_neg (show ¬ (false = true) by decide)] at H; exact H
  clear H
  have H := H1
  clear H1
  obtain rfl := Option.some.inj H
  go_enter Try.func26, Try.ntmps26
  go_wp2_with (first | ((with_reducible refine gate_callee (f := 52) rfl ?_); refine goesL_ (some 4) rfl rfl Try.func52 (by kernel_rfl) rfl #[.int .i64 a0] rfl KL ?_; (with_reducible refine (impl_PlaceOk.calls a0 false _ A2.out).mono ?_); rintro e w' ⟨rfl, ⟨nd, rfl⟩⟩; refine ⟨_, rfl, ?_⟩))
  go_ret
  exact ⟨by first | rfl | (simp; done) | (simp [*]; done), by repeat (first | exact Drawn0.refl _ | apply Drawn0.step)⟩

/-! ### impl_dataOk: function 77 -/
def impl_dataOk.f (a0 : ByteArray) : Option (Bool) := some (decide ((a0.size : Int) ≤ 40))
set_option maxHeartbeats 8000000 in
set_option maxRecDepth 100000 in
theorem impl_dataOk.calls (a0 : ByteArray) (r : Bool) (w : World) (h : impl_dataOk.f a0 = some r) :
  Calls Try.prog 77 #[.string a0] w fun e w' => e = .returned (.bool r) ∧ Drawn0 w w' := by
 have H : (some (decide ((a0.size : Int) ≤ 40))) = some r := h
 clear h
 obtain rfl := Option.some.inj H
 go_enter Try.func77, Try.ntmps77
 go_wp2
 go_ret
 exact ⟨by first | rfl | (simp; done) | (simp [*]; done), by repeat (first | exact Drawn0.refl _ | apply Drawn0.step)⟩

/-! ### impl_EntryOk: function 45 -/
def impl_EntryOk.f (a0_0 : Int) (a0_1 : Int) (a0_2 : Bool) (a0_3 : ByteArray) : Option (Bool) := (impl_within.f a0_1 0 30).bind fun t184 => (if t184 = true then (if a0_1 = 0 then (if a0_2 = true then (if a0_1 > 0 then ((impl_PlaceOk.f a0_0).bind fun t185 => (if t185 = true then (if a0_3.toList = ([] : List UInt8) then ((impl_dataOk.f a0_3).bind fun t186 => (some t186)) else (some false)) else (some false))) else ((impl_PlaceOk.f a0_0).bind fun t187 => (if t187 = true then (some false) else (some false)))) else ((impl_PlaceOk.f a0_0).bind fun t188 => (if t188 = true then ((impl_dataOk.f a0_3).bind fun t189 => (some t189)) else (some false)))) else ((impl_EpochOf.f a0_0).bind fun t190 => (if a0_2 = true then (if a0_1 > 0 then ((impl_PlaceOk.f a0_0).bind fun t191 => (if t191 = true then (if a0_1 > t190 then (if a0_3.toList = ([] : List UInt8) then ((impl_dataOk.f a0_3).bind fun t192 => (some t192)) else (some false)) else (some false)) else (some false))) else ((impl_PlaceOk.f a0_0).bind fun t193 => (if t193 = true then (if a0_1 > t190 then (some false) else (some false)) else (some false)))) else ((impl_PlaceOk.f a0_0).bind fun t194 => (if t194 = true then (if a0_1 > t190 then ((impl_dataOk.f a0_3).bind fun t195 => (some t195)) else (some false)) else (some false)))))) else (if a0_2 = true then (if a0_1 > 0 then ((impl_PlaceOk.f a0_0).bind fun t196 => (if t196 = true then (some false) else (some false))) else ((impl_PlaceOk.f a0_0).bind fun t197 => (if t197 = true then (some false) else (some false)))) else ((impl_PlaceOk.f a0_0).bind fun t198 => (if t198 = true then (some false) else (some false)))))
set_option maxHeartbeats 8000000 in
set_option maxRecDepth 100000 in
theorem impl_EntryOk.calls (a0_0 : Int) (a0_1 : Int) (a0_2 : Bool) (a0_3 : ByteArray) (r : Bool) (w : World) (h : impl_EntryOk.f a0_0 a0_1 a0_2 a0_3 = some r) :
  Calls Try.prog 45 #[.agg #[.int .i64 a0_0, .int .i64 a0_1, .bool a0_2, .string a0_3]] w fun e w' => e = .returned (.bool r) ∧ Below w.heap.size w w' := by
 have hu35 := Try.underlying35
 have HB := Aside0.mk (Below.refl w.heap.size w)
 have H : ((impl_within.f a0_1 0 30).bind fun t184 => (if t184 = true then (if a0_1 = 0 then (if a0_2 = true then (if a0_1 > 0 then ((impl_PlaceOk.f a0_0).bind fun t185 => (if t185 = true then (if a0_3.toList = ([] : List UInt8) then ((impl_dataOk.f a0_3).bind fun t186 => (some t186)) else (some false)) else (some false))) else ((impl_PlaceOk.f a0_0).bind fun t187 => (if t187 = true then (some false) else (some false)))) else ((impl_PlaceOk.f a0_0).bind fun t188 => (if t188 = true then ((impl_dataOk.f a0_3).bind fun t189 => (some t189)) else (some false)))) else ((impl_EpochOf.f a0_0).bind fun t190 => (if a0_2 = true then (if a0_1 > 0 then ((impl_PlaceOk.f a0_0).bind fun t191 => (if t191 = true then (if a0_1 > t190 then (if a0_3.toList = ([] : List UInt8) then ((impl_dataOk.f a0_3).bind fun t192 => (some t192)) else (some false)) else (some false)) else (some false))) else ((impl_PlaceOk.f a0_0).bind fun t193 => (if t193 = true then (if a0_1 > t190 then (some false) else (some false)) else (some false)))) else ((impl_PlaceOk.f a0_0).bind fun t194 => (if t194 = true then (if a0_1 > t190 then ((impl_dataOk.f a0_3).bind fun t195 => (some t195)) else (some false)) else (some false)))))) else (if a0_2 = true then (if a0_1 > 0 then ((impl_PlaceOk.f a0_0).bind fun t196 => (if t196 = true then (some false) else (some false))) else ((impl_PlaceOk.f a0_0).bind fun t197 => (if t197 = true then (some false) else (some false)))) else ((impl_PlaceOk.f a0_0).bind fun t198 => (if t198 = true then (some false) else (some false)))))) = some r := h
 clear h
 replace H := Option.bind_eq_some_iff.mp H
 obtain ⟨t184, A20, H⟩ := H
 replace H : (if t184 = true then (if a0_1 = 0 then (if a0_2 = true then (if a0_1 > 0 then ((impl_PlaceOk.f a0_0).bind fun t185 => (if t185 = true then (if a0_3.toList = ([] : List UInt8) then ((impl_dataOk.f a0_3).bind fun t186 => (some t186)) else (some false)) else (some false))) else ((impl_PlaceOk.f a0_0).bind fun t187 => (if t187 = true then (some false) else (some false)))) else ((impl_PlaceOk.f a0_0).bind fun t188 => (if t188 = true then ((impl_dataOk.f a0_3).bind fun t189 => (some t189)) else (some false)))) else ((impl_EpochOf.f a0_0).bind fun t190 => (if a0_2 = true then (if a0_1 > 0 then ((impl_PlaceOk.f a0_0).bind fun t191 => (if t191 = true then (if a0_1 > t190 then (if a0_3.toList = ([] : List UInt8) then ((impl_dataOk.f a0_3).bind fun t192 => (some t192)) else (some false)) else (some false)) else (some false))) else ((impl_PlaceOk.f a0_0).bind fun t193 => (if t193 = true then (if a0_1 > t190 then (some false) else (some false)) else (some false)))) else ((impl_PlaceOk.f a0_0).bind fun t194 => (if t194 = true then (if a0_1 > t190 then ((impl_dataOk.f a0_3).bind fun t195 => (some t195)) else (some false)) else (some false)))))) else (if a0_2 = true then (if a0_1 > 0 then ((impl_PlaceOk.f a0_0).bind fun t196 => (if t196 = true then (some false) else (some false))) else ((impl_PlaceOk.f a0_0).bind fun t197 => (if t197 = true then (some false) else (some false)))) else ((impl_PlaceOk.f a0_0).bind fun t198 => (if t198 = true then (some false) else (some false))))) = some r := H
 have A2 := Aside0.mk A20
 clear A20
 by_cases c3 : t184 = true
 ·subst c3
  have H1 : (if a0_1 = 0 then (if a0_2 = true then (if a0_1 > 0 then ((impl_PlaceOk.f a0_0).bind fun t185 => (if t185 = true then (if a0_3.toList = ([] : List UInt8) then ((impl_dataOk.f a0_3).bind fun t186 => (some t186)) else (some false)) else (some false))) else ((impl_PlaceOk.f a0_0).bind fun t187 => (if t187 = true then (some false) else (some false)))) else ((impl_PlaceOk.f a0_0).bind fun t188 => (if t188 = true then ((impl_dataOk.f a0_3).bind fun t189 => (some t189)) else (some false)))) else ((impl_EpochOf.f a0_0).bind fun t190 => (if a0_2 = true then (if a0_1 > 0 then ((impl_PlaceOk.f a0_0).bind fun t191 => (if t191 = true then (if a0_1 > t190 then (if a0_3.toList = ([] : List UInt8) then ((impl_dataOk.f a0_3).bind fun t192 => (some t192)) else (some false)) else (some false)) else (some false))) else ((impl_PlaceOk.f a0_0).bind fun t193 => (if t193 = true then (if a0_1 > t190 then (some false) else (some false)) else (some false)))) else ((impl_PlaceOk.f a0_0).bind fun t194 => (if t194 = true then (if a0_1 > t190 then ((impl_dataOk.f a0_3).bind fun t195 => (some t195)) else (some false)) else (some false)))))) = some r := by rw [if_pos rfl] at H; exact H
  clear H
  have H := H1
  clear H1
  by_cases c4 : a0_1 = 0
  ·rw [if_pos c4] at H
   have c4b0 : (a0_1 == 0) = true := beq_iff_eq.mpr c4
   have c4b1 : (a0_1 != 0) = false := bne_eq_false_iff_eq.mpr c4
   clear c4
   by_cases c5 : a0_2 = true
   ·subst c5
    have H1 : (if a0_1 > 0 then ((impl_PlaceOk.f a0_0).bind fun t185 => (if t185 = true then (if a0_3.toList = ([] : List UInt8) then ((impl_dataOk.f a0_3).bind fun t186 => (some t186)) else (some false)) else (some false))) else ((impl_PlaceOk.f a0_0).bind fun t187 => (if t187 = true then (some false) else (some false)))) = some r := by rw [if_pos rfl] at H; exact H
    clear H
    have H := H1
    clear H1
    by_cases c6 : a0_1 > 0
    ·rw [if_pos c6] at H
     have c6b0 : decide (0 < a0_1) = true := decide_eq_true c6
     clear c6
     replace H := Option.bind_eq_some_iff.mp H
     obtain ⟨t185, A70, H⟩ := H
     replace H : (if t185 = true then (if a0_3.toList = ([] : List UInt8) then ((impl_dataOk.f a0_3).bind fun t186 => (some t186)) else (some false)) else (some false)) = some r := H
     have A7 := Aside0.mk A70
     clear A70
     by_cases c8 : t185 = true
     ·subst c8
      have H1 : (if a0_3.toList = ([] : List UInt8) then ((impl_dataOk.f a0_3).bind fun t186 => (some t186)) else (some false)) = some r := by rw [if_pos rfl] at H; exact H
      clear H
      have H := H1
      clear H1
      by_cases c9 : a0_3.toList = ([] : List UInt8)
      ·rw [if_pos c9] at H
       have c9b0 : (a0_3.toList == ([] : List UInt8)) = true := beq_iff_eq.mpr c9
       have c9b1 : (a0_3.toList != ([] : List UInt8)) = false := bne_eq_false_iff_eq.mpr c9
       clear c9
       replace H := Option.bind_eq_some_iff.mp H
       obtain ⟨t186, A100, H⟩ := H
       replace H : (some t186) = some r := H
       have A10 := Aside0.mk A100
       clear A100
       obtain rfl := Option.some.inj H
       go_enter Try.func45, Try.ntmps45
       go_wp2_with (first | ((with_reducible refine gate_dst (N := 1) rfl ?_); refine box_event ?hg (N := 1) ?hd (cs := #[.int .i64 a0_0, .int .i64 a0_1, .bool true, .string a0_3]) (t := 35) ?hr ?_; (case hd => rfl); (case hg => rfl); (case hr => first | (go_simp; done) | (go_simp; rfl)); intro gb183 hg w11 hbox hb; have n0_ := Aside0.mk (below_step KB hb); have n1_ := Aside0.mk (hbox); have n2_ := Aside0.mk ((KG hg : w.heap.size ≤ gb183)); have n3_ := Aside0.mk ((KG hg : w.heap.size ≤ gb183)); clear HB; have HB := n0_; have BK183 := n1_; have GW183 := n2_; have GE183 := n3_; clear n0_ n1_ n2_ n3_; clear hb hbox hg; have hcz12_0 : w11.cell? ⟨gb183, 0, none⟩ = some (.int .i64 a0_0) := (blk_cell BK183.out 0).trans rfl; have hcz12_1 : w11.cell? ⟨gb183, 1, none⟩ = some (.int .i64 a0_1) := (blk_cell BK183.out 1).trans rfl; have hcz12_2 : w11.cell? ⟨gb183, 2, none⟩ = some (.bool true) := (blk_cell BK183.out 2).trans rfl; have hcz12_3 : w11.cell? ⟨gb183, 3, none⟩ = some (.string a0_3) := (blk_cell BK183.out 3).trans rfl; have hfz12_0 := blk_frozen BK183.out 0; have hfz12_1 := blk_frozen BK183.out 1; have hfz12_2 := blk_frozen BK183.out 2; have hfz12_3 := blk_frozen BK183.out 3) | (go_at_call 63; (with_reducible refine (impl_within.calls a0_1 0 30 true _ A2.out).mono ?_); rintro e w' ⟨rfl, ⟨nd, rfl⟩⟩; (try exact KT)) | (go_at_call 52; (with_reducible refine (impl_PlaceOk.calls a0_0 true _ A7.out).mono ?_); rintro e w' ⟨rfl, ⟨nd, rfl⟩⟩; (try exact KT)) | (go_at_call 77; (with_reducible refine (impl_dataOk.calls a0_3 t186 _ A10.out).mono ?_); rintro e w' ⟨rfl, ⟨nd, rfl⟩⟩; (try exact KT)))
       repeat (go_quiet (first | (go_at_call 63; (with_reducible refine (impl_within.calls a0_1 0 30 true _ A2.out).mono ?_); rintro e w' ⟨rfl, ⟨nd, rfl⟩⟩; (try exact KT)) | (go_at_call 52; (with_reducible refine (impl_PlaceOk.calls a0_0 true _ A7.out).mono ?_); rintro e w' ⟨rfl, ⟨nd, rfl⟩⟩; (try exact KT)) | (go_at_call 77; (with_reducible refine (impl_dataOk.calls a0_3 t186 _ A10.out).mono ?_); rintro e w' ⟨rfl, ⟨nd, rfl⟩⟩; (try exact KT))); try go_wp2_with (first | ((with_reducible refine gate_dst (N := 1) rfl ?_); refine box_event ?hg (N := 1) ?hd (cs := #[.int .i64 a0_0, .int .i64 a0_1, .bool true, .string a0_3]) (t := 35) ?hr ?_; (case hd => rfl); (case hg => rfl); (case hr => first | (go_simp; done) | (go_simp; rfl)); intro gb183 hg w11 hbox hb; have n0_ := Aside0.mk (below_step KB hb); have n1_ := Aside0.mk (hbox); have n2_ := Aside0.mk ((KG hg : w.heap.size ≤ gb183)); have n3_ := Aside0.mk ((KG hg : w.heap.size ≤ gb183)); clear HB; have HB := n0_; have BK183 := n1_; have GW183 := n2_; have GE183 := n3_; clear n0_ n1_ n2_ n3_; clear hb hbox hg; have hcz12_0 : w11.cell? ⟨gb183, 0, none⟩ = some (.int .i64 a0_0) := (blk_cell BK183.out 0).trans rfl; have hcz12_1 : w11.cell? ⟨gb183, 1, none⟩ = some (.int .i64 a0_1) := (blk_cell BK183.out 1).trans rfl; have hcz12_2 : w11.cell? ⟨gb183, 2, none⟩ = some (.bool true) := (blk_cell BK183.out 2).trans rfl; have hcz12_3 : w11.cell? ⟨gb183, 3, none⟩ = some (.string a0_3) := (blk_cell BK183.out 3).trans rfl; have hfz12_0 := blk_frozen BK183.out 0; have hfz12_1 := blk_frozen BK183.out 1; have hfz12_2 := blk_frozen BK183.out 2; have hfz12_3 := blk_frozen BK183.out 3) | (go_at_call 63; (with_reducible refine (impl_within.calls a0_1 0 30 true _ A2.out).mono ?_); rintro e w' ⟨rfl, ⟨nd, rfl⟩⟩; (try exact KT)) | (go_at_call 52; (with_reducible refine (impl_PlaceOk.calls a0_0 true _ A7.out).mono ?_); rintro e w' ⟨rfl, ⟨nd, rfl⟩⟩; (try exact KT)) | (go_at_call 77; (with_reducible refine (impl_dataOk.calls a0_3 t186 _ A10.out).mono ?_); rintro e w' ⟨rfl, ⟨nd, rfl⟩⟩; (try exact KT))))
       go_ret
       exact ⟨KE, KB⟩
      ·rw [if_neg c9] at H
       have c9b0 : (a0_3.toList == ([] : List UInt8)) = false := beq_eq_false_iff_ne.mpr c9
       have c9b1 : (a0_3.toList != ([] : List UInt8)) = true := bne_iff_ne.mpr c9
       obtain rfl := Option.some.inj H
       go_enter Try.func45, Try.ntmps45
       go_wp2_with (first | ((with_reducible refine gate_dst (N := 1) rfl ?_); refine box_event ?hg (N := 1) ?hd (cs := #[.int .i64 a0_0, .int .i64 a0_1, .bool true, .string a0_3]) (t := 35) ?hr ?_; (case hd => rfl); (case hg => rfl); (case hr => first | (go_simp; done) | (go_simp; rfl)); intro gb183 hg w13 hbox hb; have n0_ := Aside0.mk (below_step KB hb); have n1_ := Aside0.mk (hbox); have n2_ := Aside0.mk ((KG hg : w.heap.size ≤ gb183)); have n3_ := Aside0.mk ((KG hg : w.heap.size ≤ gb183)); clear HB; have HB := n0_; have BK183 := n1_; have GW183 := n2_; have GE183 := n3_; clear n0_ n1_ n2_ n3_; clear hb hbox hg; have hcz14_0 : w13.cell? ⟨gb183, 0, none⟩ = some (.int .i64 a0_0) := (blk_cell BK183.out 0).trans rfl; have hcz14_1 : w13.cell? ⟨gb183, 1, none⟩ = some (.int .i64 a0_1) := (blk_cell BK183.out 1).trans rfl; have hcz14_2 : w13.cell? ⟨gb183, 2, none⟩ = some (.bool true) := (blk_cell BK183.out 2).trans rfl; have hcz14_3 : w13.cell? ⟨gb183, 3, none⟩ = some (.string a0_3) := (blk_cell BK183.out 3).trans rfl; have hfz14_0 := blk_frozen BK183.out 0; have hfz14_1 := blk_frozen BK183.out 1; have hfz14_2 := blk_frozen BK183.out 2; have hfz14_3 := blk_frozen BK183.out 3) | (go_at_call 63; (with_reducible refine (impl_within.calls a0_1 0 30 true _ A2.out).mono ?_); rintro e w' ⟨rfl, ⟨nd, rfl⟩⟩; (try exact KT)) | (go_at_call 52; (with_reducible refine (impl_PlaceOk.calls a0_0 true _ A7.out).mono ?_); rintro e w' ⟨rfl, ⟨nd, rfl⟩⟩; (try exact KT)))
       repeat (go_quiet (first | (go_at_call 63; (with_reducible refine (impl_within.calls a0_1 0 30 true _ A2.out).mono ?_); rintro e w' ⟨rfl, ⟨nd, rfl⟩⟩; (try exact KT)) | (go_at_call 52; (with_reducible refine (impl_PlaceOk.calls a0_0 true _ A7.out).mono ?_); rintro e w' ⟨rfl, ⟨nd, rfl⟩⟩; (try exact KT))); try go_wp2_with (first | ((with_reducible refine gate_dst (N := 1) rfl ?_); refine box_event ?hg (N := 1) ?hd (cs := #[.int .i64 a0_0, .int .i64 a0_1, .bool true, .string a0_3]) (t := 35) ?hr ?_; (case hd => rfl); (case hg => rfl); (case hr => first | (go_simp; done) | (go_simp; rfl)); intro gb183 hg w13 hbox hb; have n0_ := Aside0.mk (below_step KB hb); have n1_ := Aside0.mk (hbox); have n2_ := Aside0.mk ((KG hg : w.heap.size ≤ gb183)); have n3_ := Aside0.mk ((KG hg : w.heap.size ≤ gb183)); clear HB; have HB := n0_; have BK183 := n1_; have GW183 := n2_; have GE183 := n3_; clear n0_ n1_ n2_ n3_; clear hb hbox hg; have hcz14_0 : w13.cell? ⟨gb183, 0, none⟩ = some (.int .i64 a0_0) := (blk_cell BK183.out 0).trans rfl; have hcz14_1 : w13.cell? ⟨gb183, 1, none⟩ = some (.int .i64 a0_1) := (blk_cell BK183.out 1).trans rfl; have hcz14_2 : w13.cell? ⟨gb183, 2, none⟩ = some (.bool true) := (blk_cell BK183.out 2).trans rfl; have hcz14_3 : w13.cell? ⟨gb183, 3, none⟩ = some (.string a0_3) := (blk_cell BK183.out 3).trans rfl; have hfz14_0 := blk_frozen BK183.out 0; have hfz14_1 := blk_frozen BK183.out 1; have hfz14_2 := blk_frozen BK183.out 2; have hfz14_3 := blk_frozen BK183.out 3) | (go_at_call 63; (with_reducible refine (impl_within.calls a0_1 0 30 true _ A2.out).mono ?_); rintro e w' ⟨rfl, ⟨nd, rfl⟩⟩; (try exact KT)) | (go_at_call 52; (with_reducible refine (impl_PlaceOk.calls a0_0 true _ A7.out).mono ?_); rintro e w' ⟨rfl, ⟨nd, rfl⟩⟩; (try exact KT))))
       go_ret
       exact ⟨KE, KB⟩
     ·replace c8 := Bool.eq_false_iff.mpr c8
      subst c8
      have H1 : (some false) = some r := by rw [if_neg (show ¬ (false = true) by decide)] at H; exact H
      clear H
      have H := H1
      clear H1
      obtain rfl := Option.some.inj H
      go_enter Try.func45, Try.ntmps45
      go_wp2_with (first | ((with_reducible refine gate_dst (N := 1) rfl ?_); refine box_event ?hg (N := 1) ?hd (cs := #[.int .i64 a0_0, .int .i64 a0_1, .bool true, .string a0_3]) (t := 35) ?hr ?_; (case hd => rfl); (case hg => rfl); (case hr => first | (go_simp; done) | (go_simp; rfl)); intro gb183 hg w15 hbox hb; have n0_ := Aside0.mk (below_step KB hb); have n1_ := Aside0.mk (hbox); have n2_ := Aside0.mk ((KG hg : w.heap.size ≤ gb183)); have n3_ := Aside0.mk ((KG hg : w.heap.size ≤ gb183)); clear HB; have HB := n0_; have BK183 := n1_; have GW183 := n2_; have GE183 := n3_; clear n0_ n1_ n2_ n3_; clear hb hbox hg; have hcz16_0 : w15.cell? ⟨gb183, 0, none⟩ = some (.int .i64 a0_0) := (blk_cell BK183.out 0).trans rfl; have hcz16_1 : w15.cell? ⟨gb183, 1, none⟩ = some (.int .i64 a0_1) := (blk_cell BK183.out 1).trans rfl; have hcz16_2 : w15.cell? ⟨gb183, 2, none⟩ = some (.bool true) := (blk_cell BK183.out 2).trans rfl; have hcz16_3 : w15.cell? ⟨gb183, 3, none⟩ = some (.string a0_3) := (blk_cell BK183.out 3).trans rfl; have hfz16_0 := blk_frozen BK183.out 0; have hfz16_1 := blk_frozen BK183.out 1; have hfz16_2 := blk_frozen BK183.out 2; have hfz16_3 := blk_frozen BK183.out 3) | (go_at_call 63; (with_reducible refine (impl_within.calls a0_1 0 30 true _ A2.out).mono ?_); rintro e w' ⟨rfl, ⟨nd, rfl⟩⟩; (try exact KT)) | (go_at_call 52; (with_reducible refine (impl_PlaceOk.calls a0_0 false _ A7.out).mono ?_); rintro e w' ⟨rfl, ⟨nd, rfl⟩⟩; (try exact KT)))
      repeat (go_quiet (first | (go_at_call 63; (with_reducible refine (impl_within.calls a0_1 0 30 true _ A2.out).mono ?_); rintro e w' ⟨rfl, ⟨nd, rfl⟩⟩; (try exact KT)) | (go_at_call 52; (with_reducible refine (impl_PlaceOk.calls a0_0 false _ A7.out).mono ?_); rintro e w' ⟨rfl, ⟨nd, rfl⟩⟩; (try exact KT))); try go_wp2_with (first | ((with_reducible refine gate_dst (N := 1) rfl ?_); refine box_event ?hg (N := 1) ?hd (cs := #[.int .i64 a0_0, .int .i64 a0_1, .bool true, .string a0_3]) (t := 35) ?hr ?_; (case hd => rfl); (case hg => rfl); (case hr => first | (go_simp; done) | (go_simp; rfl)); intro gb183 hg w15 hbox hb; have n0_ := Aside0.mk (below_step KB hb); have n1_ := Aside0.mk (hbox); have n2_ := Aside0.mk ((KG hg : w.heap.size ≤ gb183)); have n3_ := Aside0.mk ((KG hg : w.heap.size ≤ gb183)); clear HB; have HB := n0_; have BK183 := n1_; have GW183 := n2_; have GE183 := n3_; clear n0_ n1_ n2_ n3_; clear hb hbox hg; have hcz16_0 : w15.cell? ⟨gb183, 0, none⟩ = some (.int .i64 a0_0) := (blk_cell BK183.out 0).trans rfl; have hcz16_1 : w15.cell? ⟨gb183, 1, none⟩ = some (.int .i64 a0_1) := (blk_cell BK183.out 1).trans rfl; have hcz16_2 : w15.cell? ⟨gb183, 2, none⟩ = some (.bool true) := (blk_cell BK183.out 2).trans rfl; have hcz16_3 : w15.cell? ⟨gb183, 3, none⟩ = some (.string a0_3) := (blk_cell BK183.out 3).trans rfl; have hfz16_0 := blk_frozen BK183.out 0; have hfz16_1 := blk_frozen BK183.out 1; have hfz16_2 := blk_frozen BK183.out 2; have hfz16_3 := blk_frozen BK183.out 3) | (go_at_call 63; (with_reducible refine (impl_within.calls a0_1 0 30 true _ A2.out).mono ?_); rintro e w' ⟨rfl, ⟨nd, rfl⟩⟩; (try exact KT)) | (go_at_call 52; (with_reducible refine (impl_PlaceOk.calls a0_0 false _ A7.out).mono ?_); rintro e w' ⟨rfl, ⟨nd, rfl⟩⟩; (try exact KT))))
      go_ret
      exact ⟨KE, KB⟩
    ·rw [if_neg c6] at H
     have c6b0 : decide (0 < a0_1) = false := decide_eq_false c6
     clear c6
     replace H := Option.bind_eq_some_iff.mp H
     obtain ⟨t187, A170, H⟩ := H
     replace H : (if t187 = true then (some false) else (some false)) = some r := H
     have A17 := Aside0.mk A170
     clear A170
     by_cases c18 : t187 = true
     ·subst c18
      have H1 : (some false) = some r := by rw [if_pos rfl] at H; exact H
      clear H
      have H := H1
      clear H1
      obtain rfl := Option.some.inj H
      go_enter Try.func45, Try.ntmps45
      go_wp2_with (first | ((with_reducible refine gate_dst (N := 1) rfl ?_); refine box_event ?hg (N := 1) ?hd (cs := #[.int .i64 a0_0, .int .i64 a0_1, .bool true, .string a0_3]) (t := 35) ?hr ?_; (case hd => rfl); (case hg => rfl); (case hr => first | (go_simp; done) | (go_simp; rfl)); intro gb183 hg w19 hbox hb; have n0_ := Aside0.mk (below_step KB hb); have n1_ := Aside0.mk (hbox); have n2_ := Aside0.mk ((KG hg : w.heap.size ≤ gb183)); have n3_ := Aside0.mk ((KG hg : w.heap.size ≤ gb183)); clear HB; have HB := n0_; have BK183 := n1_; have GW183 := n2_; have GE183 := n3_; clear n0_ n1_ n2_ n3_; clear hb hbox hg; have hcz20_0 : w19.cell? ⟨gb183, 0, none⟩ = some (.int .i64 a0_0) := (blk_cell BK183.out 0).trans rfl; have hcz20_1 : w19.cell? ⟨gb183, 1, none⟩ = some (.int .i64 a0_1) := (blk_cell BK183.out 1).trans rfl; have hcz20_2 : w19.cell? ⟨gb183, 2, none⟩ = some (.bool true) := (blk_cell BK183.out 2).trans rfl; have hcz20_3 : w19.cell? ⟨gb183, 3, none⟩ = some (.string a0_3) := (blk_cell BK183.out 3).trans rfl; have hfz20_0 := blk_frozen BK183.out 0; have hfz20_1 := blk_frozen BK183.out 1; have hfz20_2 := blk_frozen BK183.out 2; have hfz20_3 := blk_frozen BK183.out 3) | (go_at_call 63; (with_reducible refine (impl_within.calls a0_1 0 30 true _ A2.out).mono ?_); rintro e w' ⟨rfl, ⟨nd, rfl⟩⟩; (try exact KT)) | (go_at_call 52; (with_reducible refine (impl_PlaceOk.calls a0_0 true _ A17.out).mono ?_); rintro e w' ⟨rfl, ⟨nd, rfl⟩⟩; (try exact KT)))
      repeat (go_quiet (first | (go_at_call 63; (with_reducible refine (impl_within.calls a0_1 0 30 true _ A2.out).mono ?_); rintro e w' ⟨rfl, ⟨nd, rfl⟩⟩; (try exact KT)) | (go_at_call 52; (with_reducible refine (impl_PlaceOk.calls a0_0 true _ A17.out).mono ?_); rintro e w' ⟨rfl, ⟨nd, rfl⟩⟩; (try exact KT))); try go_wp2_with (first | ((with_reducible refine gate_dst (N := 1) rfl ?_); refine box_event ?hg (N := 1) ?hd (cs := #[.int .i64 a0_0, .int .i64 a0_1, .bool true, .string a0_3]) (t := 35) ?hr ?_; (case hd => rfl); (case hg => rfl); (case hr => first | (go_simp; done) | (go_simp; rfl)); intro gb183 hg w19 hbox hb; have n0_ := Aside0.mk (below_step KB hb); have n1_ := Aside0.mk (hbox); have n2_ := Aside0.mk ((KG hg : w.heap.size ≤ gb183)); have n3_ := Aside0.mk ((KG hg : w.heap.size ≤ gb183)); clear HB; have HB := n0_; have BK183 := n1_; have GW183 := n2_; have GE183 := n3_; clear n0_ n1_ n2_ n3_; clear hb hbox hg; have hcz20_0 : w19.cell? ⟨gb183, 0, none⟩ = some (.int .i64 a0_0) := (blk_cell BK183.out 0).trans rfl; have hcz20_1 : w19.cell? ⟨gb183, 1, none⟩ = some (.int .i64 a0_1) := (blk_cell BK183.out 1).trans rfl; have hcz20_2 : w19.cell? ⟨gb183, 2, none⟩ = some (.bool true) := (blk_cell BK183.out 2).trans rfl; have hcz20_3 : w19.cell? ⟨gb183, 3, none⟩ = some (.string a0_3) := (blk_cell BK183.out 3).trans rfl; have hfz20_0 := blk_frozen BK183.out 0; have hfz20_1 := blk_frozen BK183.out 1; have hfz20_2 := blk_frozen BK183.out 2; have hfz20_3 := blk_frozen BK183.out 3) | (go_at_call 63; (with_reducible refine (impl_within.calls a0_1 0 30 true _ A2.out).mono ?_); rintro e w' ⟨rfl, ⟨nd, rfl⟩⟩; (try exact KT)) | (go_at_call 52; (with_reducible refine (impl_PlaceOk.calls a0_0 true _ A17.out).mono ?_); rintro e w' ⟨rfl, ⟨nd, rfl⟩⟩; (try exact KT))))
      go_ret
      exact ⟨KE, KB⟩
     ·replace c18 := Bool.eq_false_iff.mpr c18
      subst c18
      have H1 : (some false) = some r := by rw [if_neg (show ¬ (false = true) by decide)] at H; exact H
      clear H
      have H := H1
      clear H1
      obtain rfl := Option.some.inj H
      go_enter Try.func45, Try.ntmps45
      go_wp2_with (first | ((with_reducible refine gate_dst (N := 1) rfl ?_); refine box_event ?hg (N := 1) ?hd (cs := #[.int .i64 a0_0, .int .i64 a0_1, .bool true, .string a0_3]) (t := 35) ?hr ?_; (case hd => rfl); (case hg => rfl); (case hr => first | (go_simp; done) | (go_simp; rfl)); intro gb183 hg w21 hbox hb; have n0_ := Aside0.mk (below_step KB hb); have n1_ := Aside0.mk (hbox); have n2_ := Aside0.mk ((KG hg : w.heap.size ≤ gb183)); have n3_ := Aside0.mk ((KG hg : w.heap.size ≤ gb183)); clear HB; have HB := n0_; have BK183 := n1_; have GW183 := n2_; have GE183 := n3_; clear n0_ n1_ n2_ n3_; clear hb hbox hg; have hcz22_0 : w21.cell? ⟨gb183, 0, none⟩ = some (.int .i64 a0_0) := (blk_cell BK183.out 0).trans rfl; have hcz22_1 : w21.cell? ⟨gb183, 1, none⟩ = some (.int .i64 a0_1) := (blk_cell BK183.out 1).trans rfl; have hcz22_2 : w21.cell? ⟨gb183, 2, none⟩ = some (.bool true) := (blk_cell BK183.out 2).trans rfl; have hcz22_3 : w21.cell? ⟨gb183, 3, none⟩ = some (.string a0_3) := (blk_cell BK183.out 3).trans rfl; have hfz22_0 := blk_frozen BK183.out 0; have hfz22_1 := blk_frozen BK183.out 1; have hfz22_2 := blk_frozen BK183.out 2; have hfz22_3 := blk_frozen BK183.out 3) | (go_at_call 63; (with_reducible refine (impl_within.calls a0_1 0 30 true _ A2.out).mono ?_); rintro e w' ⟨rfl, ⟨nd, rfl⟩⟩; (try exact KT)) | (go_at_call 52; (with_reducible refine (impl_PlaceOk.calls a0_0 false _ A17.out).mono ?_); rintro e w' ⟨rfl, ⟨nd, rfl⟩⟩; (try exact KT)))
      repeat (go_quiet (first | (go_at_call 63; (with_reducible refine (impl_within.calls a0_1 0 30 true _ A2.out).mono ?_); rintro e w' ⟨rfl, ⟨nd, rfl⟩⟩; (try exact KT)) | (go_at_call 52; (with_reducible refine (impl_PlaceOk.calls a0_0 false _ A17.out).mono ?_); rintro e w' ⟨rfl, ⟨nd, rfl⟩⟩; (try exact KT))); try go_wp2_with (first | ((with_reducible refine gate_dst (N := 1) rfl ?_); refine box_event ?hg (N := 1) ?hd (cs := #[.int .i64 a0_0, .int .i64 a0_1, .bool true, .string a0_3]) (t := 35) ?hr ?_; (case hd => rfl); (case hg => rfl); (case hr => first | (go_simp; done) | (go_simp; rfl)); intro gb183 hg w21 hbox hb; have n0_ := Aside0.mk (below_step KB hb); have n1_ := Aside0.mk (hbox); have n2_ := Aside0.mk ((KG hg : w.heap.size ≤ gb183)); have n3_ := Aside0.mk ((KG hg : w.heap.size ≤ gb183)); clear HB; have HB := n0_; have BK183 := n1_; have GW183 := n2_; have GE183 := n3_; clear n0_ n1_ n2_ n3_; clear hb hbox hg; have hcz22_0 : w21.cell? ⟨gb183, 0, none⟩ = some (.int .i64 a0_0) := (blk_cell BK183.out 0).trans rfl; have hcz22_1 : w21.cell? ⟨gb183, 1, none⟩ = some (.int .i64 a0_1) := (blk_cell BK183.out 1).trans rfl; have hcz22_2 : w21.cell? ⟨gb183, 2, none⟩ = some (.bool true) := (blk_cell BK183.out 2).trans rfl; have hcz22_3 : w21.cell? ⟨gb183, 3, none⟩ = some (.string a0_3) := (blk_cell BK183.out 3).trans rfl; have hfz22_0 := blk_frozen BK183.out 0; have hfz22_1 := blk_frozen BK183.out 1; have hfz22_2 := blk_frozen BK183.out 2; have hfz22_3 := blk_frozen BK183.out 3) | (go_at_call 63; (with_reducible refine (impl_within.calls a0_1 0 30 true _ A2.out).mono ?_); rintro e w' ⟨rfl, ⟨nd, rfl⟩⟩; (try exact KT)) | (go_at_call 52; (with_reducible refine (impl_PlaceOk.calls a0_0 false _ A17.out).mono ?_); rintro e w' ⟨rfl, ⟨nd, rfl⟩⟩; (try exact KT))))
      go_ret
      exact ⟨KE, KB⟩
   ·replace c5 := Bool.eq_false_iff.mpr c5
    subst c5
    have H1 : ((impl_PlaceOk.f a0_0).bind fun t188 => (if t188 = true then ((impl_dataOk.f a0_3).bind fun t189 => (some t189)) else (some false))) = some r := by rw [if_neg (show ¬ (false = true) by decide)] at H; exact H
    clear H
    have H := H1
    clear H1
    replace H := Option.bind_eq_some_iff.mp H
    obtain ⟨t188, A230, H⟩ := H
    replace H : (if t188 = true then ((impl_dataOk.f a0_3).bind fun t189 => (some t189)) else (some false)) = some r := H
    have A23 := Aside0.mk A230
    clear A230
    by_cases c24 : t188 = true
    ·subst c24
     have H1 : ((impl_dataOk.f a0_3).bind fun t189 => (some t189)) = some r := by rw [if_pos rfl] at H; exact H
     clear H
     have H := H1
     clear H1
     replace H := Option.bind_eq_some_iff.mp H
     obtain ⟨t189, A250, H⟩ := H
     replace H : (some t189) = some r := H
     have A25 := Aside0.mk A250
     clear A250
     obtain rfl := Option.some.inj H
     go_enter Try.func45, Try.ntmps45
     go_wp2_with (first | ((with_reducible refine gate_dst (N := 1) rfl ?_); refine box_event ?hg (N := 1) ?hd (cs := #[.int .i64 a0_0, .int .i64 a0_1, .bool false, .string a0_3]) (t := 35) ?hr ?_; (case hd => rfl); (case hg => rfl); (case hr => first | (go_simp; done) | (go_simp; rfl)); intro gb183 hg w26 hbox hb; have n0_ := Aside0.mk (below_step KB hb); have n1_ := Aside0.mk (hbox); have n2_ := Aside0.mk ((KG hg : w.heap.size ≤ gb183)); have n3_ := Aside0.mk ((KG hg : w.heap.size ≤ gb183)); clear HB; have HB := n0_; have BK183 := n1_; have GW183 := n2_; have GE183 := n3_; clear n0_ n1_ n2_ n3_; clear hb hbox hg; have hcz27_0 : w26.cell? ⟨gb183, 0, none⟩ = some (.int .i64 a0_0) := (blk_cell BK183.out 0).trans rfl; have hcz27_1 : w26.cell? ⟨gb183, 1, none⟩ = some (.int .i64 a0_1) := (blk_cell BK183.out 1).trans rfl; have hcz27_2 : w26.cell? ⟨gb183, 2, none⟩ = some (.bool false) := (blk_cell BK183.out 2).trans rfl; have hcz27_3 : w26.cell? ⟨gb183, 3, none⟩ = some (.string a0_3) := (blk_cell BK183.out 3).trans rfl; have hfz27_0 := blk_frozen BK183.out 0; have hfz27_1 := blk_frozen BK183.out 1; have hfz27_2 := blk_frozen BK183.out 2; have hfz27_3 := blk_frozen BK183.out 3) | (go_at_call 63; (with_reducible refine (impl_within.calls a0_1 0 30 true _ A2.out).mono ?_); rintro e w' ⟨rfl, ⟨nd, rfl⟩⟩; (try exact KT)) | (go_at_call 52; (with_reducible refine (impl_PlaceOk.calls a0_0 true _ A23.out).mono ?_); rintro e w' ⟨rfl, ⟨nd, rfl⟩⟩; (try exact KT)) | (go_at_call 77; (with_reducible refine (impl_dataOk.calls a0_3 t189 _ A25.out).mono ?_); rintro e w' ⟨rfl, ⟨nd, rfl⟩⟩; (try exact KT)))
     repeat (go_quiet (first | (go_at_call 63; (with_reducible refine (impl_within.calls a0_1 0 30 true _ A2.out).mono ?_); rintro e w' ⟨rfl, ⟨nd, rfl⟩⟩; (try exact KT)) | (go_at_call 52; (with_reducible refine (impl_PlaceOk.calls a0_0 true _ A23.out).mono ?_); rintro e w' ⟨rfl, ⟨nd, rfl⟩⟩; (try exact KT)) | (go_at_call 77; (with_reducible refine (impl_dataOk.calls a0_3 t189 _ A25.out).mono ?_); rintro e w' ⟨rfl, ⟨nd, rfl⟩⟩; (try exact KT))); try go_wp2_with (first | ((with_reducible refine gate_dst (N := 1) rfl ?_); refine box_event ?hg (N := 1) ?hd (cs := #[.int .i64 a0_0, .int .i64 a0_1, .bool false, .string a0_3]) (t := 35) ?hr ?_; (case hd => rfl); (case hg => rfl); (case hr => first | (go_simp; done) | (go_simp; rfl)); intro gb183 hg w26 hbox hb; have n0_ := Aside0.mk (below_step KB hb); have n1_ := Aside0.mk (hbox); have n2_ := Aside0.mk ((KG hg : w.heap.size ≤ gb183)); have n3_ := Aside0.mk ((KG hg : w.heap.size ≤ gb183)); clear HB; have HB := n0_; have BK183 := n1_; have GW183 := n2_; have GE183 := n3_; clear n0_ n1_ n2_ n3_; clear hb hbox hg; have hcz27_0 : w26.cell? ⟨gb183, 0, none⟩ = some (.int .i64 a0_0) := (blk_cell BK183.out 0).trans rfl; have hcz27_1 : w26.cell? ⟨gb183, 1, none⟩ = some (.int .i64 a0_1) := (blk_cell BK183.out 1).trans rfl; have hcz27_2 : w26.cell? ⟨gb183, 2, none⟩ = some (.bool false) := (blk_cell BK183.out 2).trans rfl; have hcz27_3 : w26.cell? ⟨gb183, 3, none⟩ = some (.string a0_3) := (blk_cell BK183.out 3).trans rfl; have hfz27_0 := blk_frozen BK183.out 0; have hfz27_1 := blk_frozen BK183.out 1; have hfz27_2 := blk_frozen BK183.out 2; have hfz27_3 := blk_frozen BK183.out 3) | (go_at_call 63; (with_reducible refine (impl_within.calls a0_1 0 30 true _ A2.out).mono ?_); rintro e w' ⟨rfl, ⟨nd, rfl⟩⟩; (try exact KT)) | (go_at_call 52; (with_reducible refine (impl_PlaceOk.calls a0_0 true _ A23.out).mono ?_); rintro e w' ⟨rfl, ⟨nd, rfl⟩⟩; (try exact KT)) | (go_at_call 77; (with_reducible refine (impl_dataOk.calls a0_3 t189 _ A25.out).mono ?_); rintro e w' ⟨rfl, ⟨nd, rfl⟩⟩; (try exact KT))))
     go_ret
     exact ⟨KE, KB⟩
    ·replace c24 := Bool.eq_false_iff.mpr c24
     subst c24
     have H1 : (some false) = some r := by rw [if_neg (show ¬ (false = true) by decide)] at H; exact H
     clear H
     have H := H1
     clear H1
     obtain rfl := Option.some.inj H
     go_enter Try.func45, Try.ntmps45
     go_wp2_with (first | ((with_reducible refine gate_dst (N := 1) rfl ?_); refine box_event ?hg (N := 1) ?hd (cs := #[.int .i64 a0_0, .int .i64 a0_1, .bool false, .string a0_3]) (t := 35) ?hr ?_; (case hd => rfl); (case hg => rfl); (case hr => first | (go_simp; done) | (go_simp; rfl)); intro gb183 hg w28 hbox hb; have n0_ := Aside0.mk (below_step KB hb); have n1_ := Aside0.mk (hbox); have n2_ := Aside0.mk ((KG hg : w.heap.size ≤ gb183)); have n3_ := Aside0.mk ((KG hg : w.heap.size ≤ gb183)); clear HB; have HB := n0_; have BK183 := n1_; have GW183 := n2_; have GE183 := n3_; clear n0_ n1_ n2_ n3_; clear hb hbox hg; have hcz29_0 : w28.cell? ⟨gb183, 0, none⟩ = some (.int .i64 a0_0) := (blk_cell BK183.out 0).trans rfl; have hcz29_1 : w28.cell? ⟨gb183, 1, none⟩ = some (.int .i64 a0_1) := (blk_cell BK183.out 1).trans rfl; have hcz29_2 : w28.cell? ⟨gb183, 2, none⟩ = some (.bool false) := (blk_cell BK183.out 2).trans rfl; have hcz29_3 : w28.cell? ⟨gb183, 3, none⟩ = some (.string a0_3) := (blk_cell BK183.out 3).trans rfl; have hfz29_0 := blk_frozen BK183.out 0; have hfz29_1 := blk_frozen BK183.out 1; have hfz29_2 := blk_frozen BK183.out 2; have hfz29_3 := blk_frozen BK183.out 3) | (go_at_call 63; (with_reducible refine (impl_within.calls a0_1 0 30 true _ A2.out).mono ?_); rintro e w' ⟨rfl, ⟨nd, rfl⟩⟩; (try exact KT)) | (go_at_call 52; (with_reducible refine (impl_PlaceOk.calls a0_0 false _ A23.out).mono ?_); rintro e w' ⟨rfl, ⟨nd, rfl⟩⟩; (try exact KT)))
     repeat (go_quiet (first | (go_at_call 63; (with_reducible refine (impl_within.calls a0_1 0 30 true _ A2.out).mono ?_); rintro e w' ⟨rfl, ⟨nd, rfl⟩⟩; (try exact KT)) | (go_at_call 52; (with_reducible refine (impl_PlaceOk.calls a0_0 false _ A23.out).mono ?_); rintro e w' ⟨rfl, ⟨nd, rfl⟩⟩; (try exact KT))); try go_wp2_with (first | ((with_reducible refine gate_dst (N := 1) rfl ?_); refine box_event ?hg (N := 1) ?hd (cs := #[.int .i64 a0_0, .int .i64 a0_1, .bool false, .string a0_3]) (t := 35) ?hr ?_; (case hd => rfl); (case hg => rfl); (case hr => first | (go_simp; done) | (go_simp; rfl)); intro gb183 hg w28 hbox hb; have n0_ := Aside0.mk (below_step KB hb); have n1_ := Aside0.mk (hbox); have n2_ := Aside0.mk ((KG hg : w.heap.size ≤ gb183)); have n3_ := Aside0.mk ((KG hg : w.heap.size ≤ gb183)); clear HB; have HB := n0_; have BK183 := n1_; have GW183 := n2_; have GE183 := n3_; clear n0_ n1_ n2_ n3_; clear hb hbox hg; have hcz29_0 : w28.cell? ⟨gb183, 0, none⟩ = some (.int .i64 a0_0) := (blk_cell BK183.out 0).trans rfl; have hcz29_1 : w28.cell? ⟨gb183, 1, none⟩ = some (.int .i64 a0_1) := (blk_cell BK183.out 1).trans rfl; have hcz29_2 : w28.cell? ⟨gb183, 2, none⟩ = some (.bool false) := (blk_cell BK183.out 2).trans rfl; have hcz29_3 : w28.cell? ⟨gb183, 3, none⟩ = some (.string a0_3) := (blk_cell BK183.out 3).trans rfl; have hfz29_0 := blk_frozen BK183.out 0; have hfz29_1 := blk_frozen BK183.out 1; have hfz29_2 := blk_frozen BK183.out 2; have hfz29_3 := blk_frozen BK183.out 3) | (go_at_call 63; (with_reducible refine (impl_within.calls a0_1 0 30 true _ A2.out).mono ?_); rintro e w' ⟨rfl, ⟨nd, rfl⟩⟩; (try exact KT)) | (go_at_call 52; (with_reducible refine (impl_PlaceOk.calls a0_0 false _ A23.out).mono ?_); rintro e w' ⟨rfl, ⟨nd, rfl⟩⟩; (try exact KT))))
     go_ret
     exact ⟨KE, KB⟩
  ·rw [if_neg c4] at H
   have c4b0 : (a0_1 == 0) = false := beq_eq_false_iff_ne.mpr c4
   have c4b1 : (a0_1 != 0) = true := bne_iff_ne.mpr c4
   replace H := Option.bind_eq_some_iff.mp H
   obtain ⟨t190, A300, H⟩ := H
   replace H : (if a0_2 = true then (if a0_1 > 0 then ((impl_PlaceOk.f a0_0).bind fun t191 => (if t191 = true then (if a0_1 > t190 then (if a0_3.toList = ([] : List UInt8) then ((impl_dataOk.f a0_3).bind fun t192 => (some t192)) else (some false)) else (some false)) else (some false))) else ((impl_PlaceOk.f a0_0).bind fun t193 => (if t193 = true then (if a0_1 > t190 then (some false) else (some false)) else (some false)))) else ((impl_PlaceOk.f a0_0).bind fun t194 => (if t194 = true then (if a0_1 > t190 then ((impl_dataOk.f a0_3).bind fun t195 => (some t195)) else (some false)) else (some false)))) = some r := H
   have A30 := Aside0.mk A300
   clear A300
   by_cases c31 : a0_2 = true
   ·subst c31
    have H1 : (if a0_1 > 0 then ((impl_PlaceOk.f a0_0).bind fun t191 => (if t191 = true then (if a0_1 > t190 then (if a0_3.toList = ([] : List UInt8) then ((impl_dataOk.f a0_3).bind fun t192 => (some t192)) else (some false)) else (some false)) else (some false))) else ((impl_PlaceOk.f a0_0).bind fun t193 => (if t193 = true then (if a0_1 > t190 then (some false) else (some false)) else (some false)))) = some r := by rw [if_pos rfl] at H; exact H
    clear H
    have H := H1
    clear H1
    by_cases c32 : a0_1 > 0
    ·rw [if_pos c32] at H
     have c32b0 : decide (0 < a0_1) = true := decide_eq_true c32
     clear c32
     replace H := Option.bind_eq_some_iff.mp H
     obtain ⟨t191, A330, H⟩ := H
     replace H : (if t191 = true then (if a0_1 > t190 then (if a0_3.toList = ([] : List UInt8) then ((impl_dataOk.f a0_3).bind fun t192 => (some t192)) else (some false)) else (some false)) else (some false)) = some r := H
     have A33 := Aside0.mk A330
     clear A330
     by_cases c34 : t191 = true
     ·subst c34
      have H1 : (if a0_1 > t190 then (if a0_3.toList = ([] : List UInt8) then ((impl_dataOk.f a0_3).bind fun t192 => (some t192)) else (some false)) else (some false)) = some r := by rw [if_pos rfl] at H; exact H
      clear H
      have H := H1
      clear H1
      by_cases c35 : a0_1 > t190
      ·rw [if_pos c35] at H
       have c35b0 : decide (t190 < a0_1) = true := decide_eq_true c35
       clear c35
       by_cases c36 : a0_3.toList = ([] : List UInt8)
       ·rw [if_pos c36] at H
        have c36b0 : (a0_3.toList == ([] : List UInt8)) = true := beq_iff_eq.mpr c36
        have c36b1 : (a0_3.toList != ([] : List UInt8)) = false := bne_eq_false_iff_eq.mpr c36
        clear c36
        replace H := Option.bind_eq_some_iff.mp H
        obtain ⟨t192, A370, H⟩ := H
        replace H : (some t192) = some r := H
        have A37 := Aside0.mk A370
        clear A370
        obtain rfl := Option.some.inj H
        go_enter Try.func45, Try.ntmps45
        go_wp2_with (first | ((with_reducible refine gate_dst (N := 1) rfl ?_); refine box_event ?hg (N := 1) ?hd (cs := #[.int .i64 a0_0, .int .i64 a0_1, .bool true, .string a0_3]) (t := 35) ?hr ?_; (case hd => rfl); (case hg => rfl); (case hr => first | (go_simp; done) | (go_simp; rfl)); intro gb183 hg w38 hbox hb; have n0_ := Aside0.mk (below_step KB hb); have n1_ := Aside0.mk (hbox); have n2_ := Aside0.mk ((KG hg : w.heap.size ≤ gb183)); have n3_ := Aside0.mk ((KG hg : w.heap.size ≤ gb183)); clear HB; have HB := n0_; have BK183 := n1_; have GW183 := n2_; have GE183 := n3_; clear n0_ n1_ n2_ n3_; clear hb hbox hg; have hcz39_0 : w38.cell? ⟨gb183, 0, none⟩ = some (.int .i64 a0_0) := (blk_cell BK183.out 0).trans rfl; have hcz39_1 : w38.cell? ⟨gb183, 1, none⟩ = some (.int .i64 a0_1) := (blk_cell BK183.out 1).trans rfl; have hcz39_2 : w38.cell? ⟨gb183, 2, none⟩ = some (.bool true) := (blk_cell BK183.out 2).trans rfl; have hcz39_3 : w38.cell? ⟨gb183, 3, none⟩ = some (.string a0_3) := (blk_cell BK183.out 3).trans rfl; have hfz39_0 := blk_frozen BK183.out 0; have hfz39_1 := blk_frozen BK183.out 1; have hfz39_2 := blk_frozen BK183.out 2; have hfz39_3 := blk_frozen BK183.out 3) | (go_at_call 63; (with_reducible refine (impl_within.calls a0_1 0 30 true _ A2.out).mono ?_); rintro e w' ⟨rfl, ⟨nd, rfl⟩⟩; (try exact KT)) | (go_at_call 26; (with_reducible refine (impl_EpochOf.calls a0_0 t190 _ A30.out).mono ?_); rintro e w' ⟨rfl, ⟨nd, rfl⟩⟩; (try exact KT)) | (go_at_call 52; (with_reducible refine (impl_PlaceOk.calls a0_0 true _ A33.out).mono ?_); rintro e w' ⟨rfl, ⟨nd, rfl⟩⟩; (try exact KT)) | (go_at_call 77; (with_reducible refine (impl_dataOk.calls a0_3 t192 _ A37.out).mono ?_); rintro e w' ⟨rfl, ⟨nd, rfl⟩⟩; (try exact KT)))
        repeat (go_quiet (first | (go_at_call 63; (with_reducible refine (impl_within.calls a0_1 0 30 true _ A2.out).mono ?_); rintro e w' ⟨rfl, ⟨nd, rfl⟩⟩; (try exact KT)) | (go_at_call 26; (with_reducible refine (impl_EpochOf.calls a0_0 t190 _ A30.out).mono ?_); rintro e w' ⟨rfl, ⟨nd, rfl⟩⟩; (try exact KT)) | (go_at_call 52; (with_reducible refine (impl_PlaceOk.calls a0_0 true _ A33.out).mono ?_); rintro e w' ⟨rfl, ⟨nd, rfl⟩⟩; (try exact KT)) | (go_at_call 77; (with_reducible refine (impl_dataOk.calls a0_3 t192 _ A37.out).mono ?_); rintro e w' ⟨rfl, ⟨nd, rfl⟩⟩; (try exact KT))); try go_wp2_with (first | ((with_reducible refine gate_dst (N := 1) rfl ?_); refine box_event ?hg (N := 1) ?hd (cs := #[.int .i64 a0_0, .int .i64 a0_1, .bool true, .string a0_3]) (t := 35) ?hr ?_; (case hd => rfl); (case hg => rfl); (case hr => first | (go_simp; done) | (go_simp; rfl)); intro gb183 hg w38 hbox hb; have n0_ := Aside0.mk (below_step KB hb); have n1_ := Aside0.mk (hbox); have n2_ := Aside0.mk ((KG hg : w.heap.size ≤ gb183)); have n3_ := Aside0.mk ((KG hg : w.heap.size ≤ gb183)); clear HB; have HB := n0_; have BK183 := n1_; have GW183 := n2_; have GE183 := n3_; clear n0_ n1_ n2_ n3_; clear hb hbox hg; have hcz39_0 : w38.cell? ⟨gb183, 0, none⟩ = some (.int .i64 a0_0) := (blk_cell BK183.out 0).trans rfl; have hcz39_1 : w38.cell? ⟨gb183, 1, none⟩ = some (.int .i64 a0_1) := (blk_cell BK183.out 1).trans rfl; have hcz39_2 : w38.cell? ⟨gb183, 2, none⟩ = some (.bool true) := (blk_cell BK183.out 2).trans rfl; have hcz39_3 : w38.cell? ⟨gb183, 3, none⟩ = some (.string a0_3) := (blk_cell BK183.out 3).trans rfl; have hfz39_0 := blk_frozen BK183.out 0; have hfz39_1 := blk_frozen BK183.out 1; have hfz39_2 := blk_frozen BK183.out 2; have hfz39_3 := blk_frozen BK183.out 3) | (go_at_call 63; (with_reducible refine (impl_within.calls a0_1 0 30 true _ A2.out).mono ?_); rintro e w' ⟨rfl, ⟨nd, rfl⟩⟩; (try exact KT)) | (go_at_call 26; (with_reducible refine (impl_EpochOf.calls a0_0 t190 _ A30.out).mono ?_); rintro e w' ⟨rfl, ⟨nd, rfl⟩⟩; (try exact KT)) | (go_at_call 52; (with_reducible refine (impl_PlaceOk.calls a0_0 true _ A33.out).mono ?_); rintro e w' ⟨rfl, ⟨nd, rfl⟩⟩; (try exact KT)) | (go_at_call 77; (with_reducible refine (impl_dataOk.calls a0_3 t192 _ A37.out).mono ?_); rintro e w' ⟨rfl, ⟨nd, rfl⟩⟩; (try exact KT))))
        go_ret
        exact ⟨KE, KB⟩
       ·rw [if_neg c36] at H
        have c36b0 : (a0_3.toList == ([] : List UInt8)) = false := beq_eq_false_iff_ne.mpr c36
        have c36b1 : (a0_3.toList != ([] : List UInt8)) = true := bne_iff_ne.mpr c36
        obtain rfl := Option.some.inj H
        go_enter Try.func45, Try.ntmps45
        go_wp2_with (first | ((with_reducible refine gate_dst (N := 1) rfl ?_); refine box_event ?hg (N := 1) ?hd (cs := #[.int .i64 a0_0, .int .i64 a0_1, .bool true, .string a0_3]) (t := 35) ?hr ?_; (case hd => rfl); (case hg => rfl); (case hr => first | (go_simp; done) | (go_simp; rfl)); intro gb183 hg w40 hbox hb; have n0_ := Aside0.mk (below_step KB hb); have n1_ := Aside0.mk (hbox); have n2_ := Aside0.mk ((KG hg : w.heap.size ≤ gb183)); have n3_ := Aside0.mk ((KG hg : w.heap.size ≤ gb183)); clear HB; have HB := n0_; have BK183 := n1_; have GW183 := n2_; have GE183 := n3_; clear n0_ n1_ n2_ n3_; clear hb hbox hg; have hcz41_0 : w40.cell? ⟨gb183, 0, none⟩ = some (.int .i64 a0_0) := (blk_cell BK183.out 0).trans rfl; have hcz41_1 : w40.cell? ⟨gb183, 1, none⟩ = some (.int .i64 a0_1) := (blk_cell BK183.out 1).trans rfl; have hcz41_2 : w40.cell? ⟨gb183, 2, none⟩ = some (.bool true) := (blk_cell BK183.out 2).trans rfl; have hcz41_3 : w40.cell? ⟨gb183, 3, none⟩ = some (.string a0_3) := (blk_cell BK183.out 3).trans rfl; have hfz41_0 := blk_frozen BK183.out 0; have hfz41_1 := blk_frozen BK183.out 1; have hfz41_2 := blk_frozen BK183.out 2; have hfz41_3 := blk_frozen BK183.out 3) | (go_at_call 63; (with_reducible refine (impl_within.calls a0_1 0 30 true _ A2.out).mono ?_); rintro e w' ⟨rfl, ⟨nd, rfl⟩⟩; (try exact KT)) | (go_at_call 26; (with_reducible refine (impl_EpochOf.calls a0_0 t190 _ A30.out).mono ?_); rintro e w' ⟨rfl, ⟨nd, rfl⟩⟩; (try exact KT)) | (go_at_call 52; (with_reducible refine (impl_PlaceOk.calls a0_0 true _ A33.out).mono ?_); rintro e w' ⟨rfl, ⟨nd, rfl⟩⟩; (try exact KT)))
        repeat (go_quiet (first | (go_at_call 63; (with_reducible refine (impl_within.calls a0_1 0 30 true _ A2.out).mono ?_); rintro e w' ⟨rfl, ⟨nd, rfl⟩⟩; (try exact KT)) | (go_at_call 26; (with_reducible refine (impl_EpochOf.calls a0_0 t190 _ A30.out).mono ?_); rintro e w' ⟨rfl, ⟨nd, rfl⟩⟩; (try exact KT)) | (go_at_call 52; (with_reducible refine (impl_PlaceOk.calls a0_0 true _ A33.out).mono ?_); rintro e w' ⟨rfl, ⟨nd, rfl⟩⟩; (try exact KT))); try go_wp2_with (first | ((with_reducible refine gate_dst (N := 1) rfl ?_); refine box_event ?hg (N := 1) ?hd (cs := #[.int .i64 a0_0, .int .i64 a0_1, .bool true, .string a0_3]) (t := 35) ?hr ?_; (case hd => rfl); (case hg => rfl); (case hr => first | (go_simp; done) | (go_simp; rfl)); intro gb183 hg w40 hbox hb; have n0_ := Aside0.mk (below_step KB hb); have n1_ := Aside0.mk (hbox); have n2_ := Aside0.mk ((KG hg : w.heap.size ≤ gb183)); have n3_ := Aside0.mk ((KG hg : w.heap.size ≤ gb183)); clear HB; have HB := n0_; have BK183 := n1_; have GW183 := n2_; have GE183 := n3_; clear n0_ n1_ n2_ n3_; clear hb hbox hg; have hcz41_0 : w40.cell? ⟨gb183, 0, none⟩ = some (.int .i64 a0_0) := (blk_cell BK183.out 0).trans rfl; have hcz41_1 : w40.cell? ⟨gb183, 1, none⟩ = some (.int .i64 a0_1) := (blk_cell BK183.out 1).trans rfl; have hcz41_2 : w40.cell? ⟨gb183, 2, none⟩ = some (.bool true) := (blk_cell BK183.out 2).trans rfl; have hcz41_3 : w40.cell? ⟨gb183, 3, none⟩ = some (.string a0_3) := (blk_cell BK183.out 3).trans rfl; have hfz41_0 := blk_frozen BK183.out 0; have hfz41_1 := blk_frozen BK183.out 1; have hfz41_2 := blk_frozen BK183.out 2; have hfz41_3 := blk_frozen BK183.out 3) | (go_at_call 63; (with_reducible refine (impl_within.calls a0_1 0 30 true _ A2.out).mono ?_); rintro e w' ⟨rfl, ⟨nd, rfl⟩⟩; (try exact KT)) | (go_at_call 26; (with_reducible refine (impl_EpochOf.calls a0_0 t190 _ A30.out).mono ?_); rintro e w' ⟨rfl, ⟨nd, rfl⟩⟩; (try exact KT)) | (go_at_call 52; (with_reducible refine (impl_PlaceOk.calls a0_0 true _ A33.out).mono ?_); rintro e w' ⟨rfl, ⟨nd, rfl⟩⟩; (try exact KT))))
        go_ret
        exact ⟨KE, KB⟩
      ·rw [if_neg c35] at H
       have c35b0 : decide (t190 < a0_1) = false := decide_eq_false c35
       clear c35
       obtain rfl := Option.some.inj H
       go_enter Try.func45, Try.ntmps45
       go_wp2_with (first | ((with_reducible refine gate_dst (N := 1) rfl ?_); refine box_event ?hg (N := 1) ?hd (cs := #[.int .i64 a0_0, .int .i64 a0_1, .bool true, .string a0_3]) (t := 35) ?hr ?_; (case hd => rfl); (case hg => rfl); (case hr => first | (go_simp; done) | (go_simp; rfl)); intro gb183 hg w42 hbox hb; have n0_ := Aside0.mk (below_step KB hb); have n1_ := Aside0.mk (hbox); have n2_ := Aside0.mk ((KG hg : w.heap.size ≤ gb183)); have n3_ := Aside0.mk ((KG hg : w.heap.size ≤ gb183)); clear HB; have HB := n0_; have BK183 := n1_; have GW183 := n2_; have GE183 := n3_; clear n0_ n1_ n2_ n3_; clear hb hbox hg; have hcz43_0 : w42.cell? ⟨gb183, 0, none⟩ = some (.int .i64 a0_0) := (blk_cell BK183.out 0).trans rfl; have hcz43_1 : w42.cell? ⟨gb183, 1, none⟩ = some (.int .i64 a0_1) := (blk_cell BK183.out 1).trans rfl; have hcz43_2 : w42.cell? ⟨gb183, 2, none⟩ = some (.bool true) := (blk_cell BK183.out 2).trans rfl; have hcz43_3 : w42.cell? ⟨gb183, 3, none⟩ = some (.string a0_3) := (blk_cell BK183.out 3).trans rfl; have hfz43_0 := blk_frozen BK183.out 0; have hfz43_1 := blk_frozen BK183.out 1; have hfz43_2 := blk_frozen BK183.out 2; have hfz43_3 := blk_frozen BK183.out 3) | (go_at_call 63; (with_reducible refine (impl_within.calls a0_1 0 30 true _ A2.out).mono ?_); rintro e w' ⟨rfl, ⟨nd, rfl⟩⟩; (try exact KT)) | (go_at_call 26; (with_reducible refine (impl_EpochOf.calls a0_0 t190 _ A30.out).mono ?_); rintro e w' ⟨rfl, ⟨nd, rfl⟩⟩; (try exact KT)) | (go_at_call 52; (with_reducible refine (impl_PlaceOk.calls a0_0 true _ A33.out).mono ?_); rintro e w' ⟨rfl, ⟨nd, rfl⟩⟩; (try exact KT)))
       repeat (go_quiet (first | (go_at_call 63; (with_reducible refine (impl_within.calls a0_1 0 30 true _ A2.out).mono ?_); rintro e w' ⟨rfl, ⟨nd, rfl⟩⟩; (try exact KT)) | (go_at_call 26; (with_reducible refine (impl_EpochOf.calls a0_0 t190 _ A30.out).mono ?_); rintro e w' ⟨rfl, ⟨nd, rfl⟩⟩; (try exact KT)) | (go_at_call 52; (with_reducible refine (impl_PlaceOk.calls a0_0 true _ A33.out).mono ?_); rintro e w' ⟨rfl, ⟨nd, rfl⟩⟩; (try exact KT))); try go_wp2_with (first | ((with_reducible refine gate_dst (N := 1) rfl ?_); refine box_event ?hg (N := 1) ?hd (cs := #[.int .i64 a0_0, .int .i64 a0_1, .bool true, .string a0_3]) (t := 35) ?hr ?_; (case hd => rfl); (case hg => rfl); (case hr => first | (go_simp; done) | (go_simp; rfl)); intro gb183 hg w42 hbox hb; have n0_ := Aside0.mk (below_step KB hb); have n1_ := Aside0.mk (hbox); have n2_ := Aside0.mk ((KG hg : w.heap.size ≤ gb183)); have n3_ := Aside0.mk ((KG hg : w.heap.size ≤ gb183)); clear HB; have HB := n0_; have BK183 := n1_; have GW183 := n2_; have GE183 := n3_; clear n0_ n1_ n2_ n3_; clear hb hbox hg; have hcz43_0 : w42.cell? ⟨gb183, 0, none⟩ = some (.int .i64 a0_0) := (blk_cell BK183.out 0).trans rfl; have hcz43_1 : w42.cell? ⟨gb183, 1, none⟩ = some (.int .i64 a0_1) := (blk_cell BK183.out 1).trans rfl; have hcz43_2 : w42.cell? ⟨gb183, 2, none⟩ = some (.bool true) := (blk_cell BK183.out 2).trans rfl; have hcz43_3 : w42.cell? ⟨gb183, 3, none⟩ = some (.string a0_3) := (blk_cell BK183.out 3).trans rfl; have hfz43_0 := blk_frozen BK183.out 0; have hfz43_1 := blk_frozen BK183.out 1; have hfz43_2 := blk_frozen BK183.out 2; have hfz43_3 := blk_frozen BK183.out 3) | (go_at_call 63; (with_reducible refine (impl_within.calls a0_1 0 30 true _ A2.out).mono ?_); rintro e w' ⟨rfl, ⟨nd, rfl⟩⟩; (try exact KT)) | (go_at_call 26; (with_reducible refine (impl_EpochOf.calls a0_0 t190 _ A30.out).mono ?_); rintro e w' ⟨rfl, ⟨nd, rfl⟩⟩; (try exact KT)) | (go_at_call 52; (with_reducible refine (impl_PlaceOk.calls a0_0 true _ A33.out).mono ?_); rintro e w' ⟨rfl, ⟨nd, rfl⟩⟩; (try exact KT))))
       go_ret
       exact ⟨KE, KB⟩
     ·replace c34 := Bool.eq_false_iff.mpr c34
      subst c34
      have H1 : (some false) = some r := by rw [if_neg (show ¬ (false = true) by decide)] at H; exact H
      clear H
      have H := H1
      clear H1
      obtain rfl := Option.some.inj H
      go_enter Try.func45, Try.ntmps45
      go_wp2_with (first | ((with_reducible refine gate_dst (N := 1) rfl ?_); refine box_event ?hg (N := 1) ?hd (cs := #[.int .i64 a0_0, .int .i64 a0_1, .bool true, .string a0_3]) (t := 35) ?hr ?_; (case hd => rfl); (case hg => rfl); (case hr => first | (go_simp; done) | (go_simp; rfl)); intro gb183 hg w44 hbox hb; have n0_ := Aside0.mk (below_step KB hb); have n1_ := Aside0.mk (hbox); have n2_ := Aside0.mk ((KG hg : w.heap.size ≤ gb183)); have n3_ := Aside0.mk ((KG hg : w.heap.size ≤ gb183)); clear HB; have HB := n0_; have BK183 := n1_; have GW183 := n2_; have GE183 := n3_; clear n0_ n1_ n2_ n3_; clear hb hbox hg; have hcz45_0 : w44.cell? ⟨gb183, 0, none⟩ = some (.int .i64 a0_0) := (blk_cell BK183.out 0).trans rfl; have hcz45_1 : w44.cell? ⟨gb183, 1, none⟩ = some (.int .i64 a0_1) := (blk_cell BK183.out 1).trans rfl; have hcz45_2 : w44.cell? ⟨gb183, 2, none⟩ = some (.bool true) := (blk_cell BK183.out 2).trans rfl; have hcz45_3 : w44.cell? ⟨gb183, 3, none⟩ = some (.string a0_3) := (blk_cell BK183.out 3).trans rfl; have hfz45_0 := blk_frozen BK183.out 0; have hfz45_1 := blk_frozen BK183.out 1; have hfz45_2 := blk_frozen BK183.out 2; have hfz45_3 := blk_frozen BK183.out 3) | (go_at_call 63; (with_reducible refine (impl_within.calls a0_1 0 30 true _ A2.out).mono ?_); rintro e w' ⟨rfl, ⟨nd, rfl⟩⟩; (try exact KT)) | (go_at_call 26; (with_reducible refine (impl_EpochOf.calls a0_0 t190 _ A30.out).mono ?_); rintro e w' ⟨rfl, ⟨nd, rfl⟩⟩; (try exact KT)) | (go_at_call 52; (with_reducible refine (impl_PlaceOk.calls a0_0 false _ A33.out).mono ?_); rintro e w' ⟨rfl, ⟨nd, rfl⟩⟩; (try exact KT)))
      repeat (go_quiet (first | (go_at_call 63; (with_reducible refine (impl_within.calls a0_1 0 30 true _ A2.out).mono ?_); rintro e w' ⟨rfl, ⟨nd, rfl⟩⟩; (try exact KT)) | (go_at_call 26; (with_reducible refine (impl_EpochOf.calls a0_0 t190 _ A30.out).mono ?_); rintro e w' ⟨rfl, ⟨nd, rfl⟩⟩; (try exact KT)) | (go_at_call 52; (with_reducible refine (impl_PlaceOk.calls a0_0 false _ A33.out).mono ?_); rintro e w' ⟨rfl, ⟨nd, rfl⟩⟩; (try exact KT))); try go_wp2_with (first | ((with_reducible refine gate_dst (N := 1) rfl ?_); refine box_event ?hg (N := 1) ?hd (cs := #[.int .i64 a0_0, .int .i64 a0_1, .bool true, .string a0_3]) (t := 35) ?hr ?_; (case hd => rfl); (case hg => rfl); (case hr => first | (go_simp; done) | (go_simp; rfl)); intro gb183 hg w44 hbox hb; have n0_ := Aside0.mk (below_step KB hb); have n1_ := Aside0.mk (hbox); have n2_ := Aside0.mk ((KG hg : w.heap.size ≤ gb183)); have n3_ := Aside0.mk ((KG hg : w.heap.size ≤ gb183)); clear HB; have HB := n0_; have BK183 := n1_; have GW183 := n2_; have GE183 := n3_; clear n0_ n1_ n2_ n3_; clear hb hbox hg; have hcz45_0 : w44.cell? ⟨gb183, 0, none⟩ = some (.int .i64 a0_0) := (blk_cell BK183.out 0).trans rfl; have hcz45_1 : w44.cell? ⟨gb183, 1, none⟩ = some (.int .i64 a0_1) := (blk_cell BK183.out 1).trans rfl; have hcz45_2 : w44.cell? ⟨gb183, 2, none⟩ = some (.bool true) := (blk_cell BK183.out 2).trans rfl; have hcz45_3 : w44.cell? ⟨gb183, 3, none⟩ = some (.string a0_3) := (blk_cell BK183.out 3).trans rfl; have hfz45_0 := blk_frozen BK183.out 0; have hfz45_1 := blk_frozen BK183.out 1; have hfz45_2 := blk_frozen BK183.out 2; have hfz45_3 := blk_frozen BK183.out 3) | (go_at_call 63; (with_reducible refine (impl_within.calls a0_1 0 30 true _ A2.out).mono ?_); rintro e w' ⟨rfl, ⟨nd, rfl⟩⟩; (try exact KT)) | (go_at_call 26; (with_reducible refine (impl_EpochOf.calls a0_0 t190 _ A30.out).mono ?_); rintro e w' ⟨rfl, ⟨nd, rfl⟩⟩; (try exact KT)) | (go_at_call 52; (with_reducible refine (impl_PlaceOk.calls a0_0 false _ A33.out).mono ?_); rintro e w' ⟨rfl, ⟨nd, rfl⟩⟩; (try exact KT))))
      go_ret
      exact ⟨KE, KB⟩
    ·rw [if_neg c32] at H
     have c32b0 : decide (0 < a0_1) = false := decide_eq_false c32
     clear c32
     replace H := Option.bind_eq_some_iff.mp H
     obtain ⟨t193, A460, H⟩ := H
     replace H : (if t193 = true then (if a0_1 > t190 then (some false) else (some false)) else (some false)) = some r := H
     have A46 := Aside0.mk A460
     clear A460
     by_cases c47 : t193 = true
     ·subst c47
      have H1 : (if a0_1 > t190 then (some false) else (some false)) = some r := by rw [if_pos rfl] at H; exact H
      clear H
      have H := H1
      clear H1
      by_cases c48 : a0_1 > t190
      ·rw [if_pos c48] at H
       have c48b0 : decide (t190 < a0_1) = true := decide_eq_true c48
       clear c48
       obtain rfl := Option.some.inj H
       go_enter Try.func45, Try.ntmps45
       go_wp2_with (first | ((with_reducible refine gate_dst (N := 1) rfl ?_); refine box_event ?hg (N := 1) ?hd (cs := #[.int .i64 a0_0, .int .i64 a0_1, .bool true, .string a0_3]) (t := 35) ?hr ?_; (case hd => rfl); (case hg => rfl); (case hr => first | (go_simp; done) | (go_simp; rfl)); intro gb183 hg w49 hbox hb; have n0_ := Aside0.mk (below_step KB hb); have n1_ := Aside0.mk (hbox); have n2_ := Aside0.mk ((KG hg : w.heap.size ≤ gb183)); have n3_ := Aside0.mk ((KG hg : w.heap.size ≤ gb183)); clear HB; have HB := n0_; have BK183 := n1_; have GW183 := n2_; have GE183 := n3_; clear n0_ n1_ n2_ n3_; clear hb hbox hg; have hcz50_0 : w49.cell? ⟨gb183, 0, none⟩ = some (.int .i64 a0_0) := (blk_cell BK183.out 0).trans rfl; have hcz50_1 : w49.cell? ⟨gb183, 1, none⟩ = some (.int .i64 a0_1) := (blk_cell BK183.out 1).trans rfl; have hcz50_2 : w49.cell? ⟨gb183, 2, none⟩ = some (.bool true) := (blk_cell BK183.out 2).trans rfl; have hcz50_3 : w49.cell? ⟨gb183, 3, none⟩ = some (.string a0_3) := (blk_cell BK183.out 3).trans rfl; have hfz50_0 := blk_frozen BK183.out 0; have hfz50_1 := blk_frozen BK183.out 1; have hfz50_2 := blk_frozen BK183.out 2; have hfz50_3 := blk_frozen BK183.out 3) | (go_at_call 63; (with_reducible refine (impl_within.calls a0_1 0 30 true _ A2.out).mono ?_); rintro e w' ⟨rfl, ⟨nd, rfl⟩⟩; (try exact KT)) | (go_at_call 26; (with_reducible refine (impl_EpochOf.calls a0_0 t190 _ A30.out).mono ?_); rintro e w' ⟨rfl, ⟨nd, rfl⟩⟩; (try exact KT)) | (go_at_call 52; (with_reducible refine (impl_PlaceOk.calls a0_0 true _ A46.out).mono ?_); rintro e w' ⟨rfl, ⟨nd, rfl⟩⟩; (try exact KT)))
       repeat (go_quiet (first | (go_at_call 63; (with_reducible refine (impl_within.calls a0_1 0 30 true _ A2.out).mono ?_); rintro e w' ⟨rfl, ⟨nd, rfl⟩⟩; (try exact KT)) | (go_at_call 26; (with_reducible refine (impl_EpochOf.calls a0_0 t190 _ A30.out).mono ?_); rintro e w' ⟨rfl, ⟨nd, rfl⟩⟩; (try exact KT)) | (go_at_call 52; (with_reducible refine (impl_PlaceOk.calls a0_0 true _ A46.out).mono ?_); rintro e w' ⟨rfl, ⟨nd, rfl⟩⟩; (try exact KT))); try go_wp2_with (first | ((with_reducible refine gate_dst (N := 1) rfl ?_); refine box_event ?hg (N := 1) ?hd (cs := #[.int .i64 a0_0, .int .i64 a0_1, .bool true, .string a0_3]) (t := 35) ?hr ?_; (case hd => rfl); (case hg => rfl); (case hr => first | (go_simp; done) | (go_simp; rfl)); intro gb183 hg w49 hbox hb; have n0_ := Aside0.mk (below_step KB hb); have n1_ := Aside0.mk (hbox); have n2_ := Aside0.mk ((KG hg : w.heap.size ≤ gb183)); have n3_ := Aside0.mk ((KG hg : w.heap.size ≤ gb183)); clear HB; have HB := n0_; have BK183 := n1_; have GW183 := n2_; have GE183 := n3_; clear n0_ n1_ n2_ n3_; clear hb hbox hg; have hcz50_0 : w49.cell? ⟨gb183, 0, none⟩ = some (.int .i64 a0_0) := (blk_cell BK183.out 0).trans rfl; have hcz50_1 : w49.cell? ⟨gb183, 1, none⟩ = some (.int .i64 a0_1) := (blk_cell BK183.out 1).trans rfl; have hcz50_2 : w49.cell? ⟨gb183, 2, none⟩ = some (.bool true) := (blk_cell BK183.out 2).trans rfl; have hcz50_3 : w49.cell? ⟨gb183, 3, none⟩ = some (.string a0_3) := (blk_cell BK183.out 3).trans rfl; have hfz50_0 := blk_frozen BK183.out 0; have hfz50_1 := blk_frozen BK183.out 1; have hfz50_2 := blk_frozen BK183.out 2; have hfz50_3 := blk_frozen BK183.out 3) | (go_at_call 63; (with_reducible refine (impl_within.calls a0_1 0 30 true _ A2.out).mono ?_); rintro e w' ⟨rfl, ⟨nd, rfl⟩⟩; (try exact KT)) | (go_at_call 26; (with_reducible refine (impl_EpochOf.calls a0_0 t190 _ A30.out).mono ?_); rintro e w' ⟨rfl, ⟨nd, rfl⟩⟩; (try exact KT)) | (go_at_call 52; (with_reducible refine (impl_PlaceOk.calls a0_0 true _ A46.out).mono ?_); rintro e w' ⟨rfl, ⟨nd, rfl⟩⟩; (try exact KT))))
       go_ret
       exact ⟨KE, KB⟩
      ·rw [if_neg c48] at H
       have c48b0 : decide (t190 < a0_1) = false := decide_eq_false c48
       clear c48
       obtain rfl := Option.some.inj H
       go_enter Try.func45, Try.ntmps45
       go_wp2_with (first | ((with_reducible refine gate_dst (N := 1) rfl ?_); refine box_event ?hg (N := 1) ?hd (cs := #[.int .i64 a0_0, .int .i64 a0_1, .bool true, .string a0_3]) (t := 35) ?hr ?_; (case hd => rfl); (case hg => rfl); (case hr => first | (go_simp; done) | (go_simp; rfl)); intro gb183 hg w51 hbox hb; have n0_ := Aside0.mk (below_step KB hb); have n1_ := Aside0.mk (hbox); have n2_ := Aside0.mk ((KG hg : w.heap.size ≤ gb183)); have n3_ := Aside0.mk ((KG hg : w.heap.size ≤ gb183)); clear HB; have HB := n0_; have BK183 := n1_; have GW183 := n2_; have GE183 := n3_; clear n0_ n1_ n2_ n3_; clear hb hbox hg; have hcz52_0 : w51.cell? ⟨gb183, 0, none⟩ = some (.int .i64 a0_0) := (blk_cell BK183.out 0).trans rfl; have hcz52_1 : w51.cell? ⟨gb183, 1, none⟩ = some (.int .i64 a0_1) := (blk_cell BK183.out 1).trans rfl; have hcz52_2 : w51.cell? ⟨gb183, 2, none⟩ = some (.bool true) := (blk_cell BK183.out 2).trans rfl; have hcz52_3 : w51.cell? ⟨gb183, 3, none⟩ = some (.string a0_3) := (blk_cell BK183.out 3).trans rfl; have hfz52_0 := blk_frozen BK183.out 0; have hfz52_1 := blk_frozen BK183.out 1; have hfz52_2 := blk_frozen BK183.out 2; have hfz52_3 := blk_frozen BK183.out 3) | (go_at_call 63; (with_reducible refine (impl_within.calls a0_1 0 30 true _ A2.out).mono ?_); rintro e w' ⟨rfl, ⟨nd, rfl⟩⟩; (try exact KT)) | (go_at_call 26; (with_reducible refine (impl_EpochOf.calls a0_0 t190 _ A30.out).mono ?_); rintro e w' ⟨rfl, ⟨nd, rfl⟩⟩; (try exact KT)) | (go_at_call 52; (with_reducible refine (impl_PlaceOk.calls a0_0 true _ A46.out).mono ?_); rintro e w' ⟨rfl, ⟨nd, rfl⟩⟩; (try exact KT)))
       repeat (go_quiet (first | (go_at_call 63; (with_reducible refine (impl_within.calls a0_1 0 30 true _ A2.out).mono ?_); rintro e w' ⟨rfl, ⟨nd, rfl⟩⟩; (try exact KT)) | (go_at_call 26; (with_reducible refine (impl_EpochOf.calls a0_0 t190 _ A30.out).mono ?_); rintro e w' ⟨rfl, ⟨nd, rfl⟩⟩; (try exact KT)) | (go_at_call 52; (with_reducible refine (impl_PlaceOk.calls a0_0 true _ A46.out).mono ?_); rintro e w' ⟨rfl, ⟨nd, rfl⟩⟩; (try exact KT))); try go_wp2_with (first | ((with_reducible refine gate_dst (N := 1) rfl ?_); refine box_event ?hg (N := 1) ?hd (cs := #[.int .i64 a0_0, .int .i64 a0_1, .bool true, .string a0_3]) (t := 35) ?hr ?_; (case hd => rfl); (case hg => rfl); (case hr => first | (go_simp; done) | (go_simp; rfl)); intro gb183 hg w51 hbox hb; have n0_ := Aside0.mk (below_step KB hb); have n1_ := Aside0.mk (hbox); have n2_ := Aside0.mk ((KG hg : w.heap.size ≤ gb183)); have n3_ := Aside0.mk ((KG hg : w.heap.size ≤ gb183)); clear HB; have HB := n0_; have BK183 := n1_; have GW183 := n2_; have GE183 := n3_; clear n0_ n1_ n2_ n3_; clear hb hbox hg; have hcz52_0 : w51.cell? ⟨gb183, 0, none⟩ = some (.int .i64 a0_0) := (blk_cell BK183.out 0).trans rfl; have hcz52_1 : w51.cell? ⟨gb183, 1, none⟩ = some (.int .i64 a0_1) := (blk_cell BK183.out 1).trans rfl; have hcz52_2 : w51.cell? ⟨gb183, 2, none⟩ = some (.bool true) := (blk_cell BK183.out 2).trans rfl; have hcz52_3 : w51.cell? ⟨gb183, 3, none⟩ = some (.string a0_3) := (blk_cell BK183.out 3).trans rfl; have hfz52_0 := blk_frozen BK183.out 0; have hfz52_1 := blk_frozen BK183.out 1; have hfz52_2 := blk_frozen BK183.out 2; have hfz52_3 := blk_frozen BK183.out 3) | (go_at_call 63; (with_reducible refine (impl_within.calls a0_1 0 30 true _ A2.out).mono ?_); rintro e w' ⟨rfl, ⟨nd, rfl⟩⟩; (try exact KT)) | (go_at_call 26; (with_reducible refine (impl_EpochOf.calls a0_0 t190 _ A30.out).mono ?_); rintro e w' ⟨rfl, ⟨nd, rfl⟩⟩; (try exact KT)) | (go_at_call 52; (with_reducible refine (impl_PlaceOk.calls a0_0 true _ A46.out).mono ?_); rintro e w' ⟨rfl, ⟨nd, rfl⟩⟩; (try exact KT))))
       go_ret
       exact ⟨KE, KB⟩
     ·replace c47 := Bool.eq_false_iff.mpr c47
      subst c47
      have H1 : (some false) = some r := by rw [if_neg (show ¬ (false = true) by decide)] at H; exact H
      clear H
      have H := H1
      clear H1
      obtain rfl := Option.some.inj H
      go_enter Try.func45, Try.ntmps45
      go_wp2_with (first | ((with_reducible refine gate_dst (N := 1) rfl ?_); refine box_event ?hg (N := 1) ?hd (cs := #[.int .i64 a0_0, .int .i64 a0_1, .bool true, .string a0_3]) (t := 35) ?hr ?_; (case hd => rfl); (case hg => rfl); (case hr => first | (go_simp; done) | (go_simp; rfl)); intro gb183 hg w53 hbox hb; have n0_ := Aside0.mk (below_step KB hb); have n1_ := Aside0.mk (hbox); have n2_ := Aside0.mk ((KG hg : w.heap.size ≤ gb183)); have n3_ := Aside0.mk ((KG hg : w.heap.size ≤ gb183)); clear HB; have HB := n0_; have BK183 := n1_; have GW183 := n2_; have GE183 := n3_; clear n0_ n1_ n2_ n3_; clear hb hbox hg; have hcz54_0 : w53.cell? ⟨gb183, 0, none⟩ = some (.int .i64 a0_0) := (blk_cell BK183.out 0).trans rfl; have hcz54_1 : w53.cell? ⟨gb183, 1, none⟩ = some (.int .i64 a0_1) := (blk_cell BK183.out 1).trans rfl; have hcz54_2 : w53.cell? ⟨gb183, 2, none⟩ = some (.bool true) := (blk_cell BK183.out 2).trans rfl; have hcz54_3 : w53.cell? ⟨gb183, 3, none⟩ = some (.string a0_3) := (blk_cell BK183.out 3).trans rfl; have hfz54_0 := blk_frozen BK183.out 0; have hfz54_1 := blk_frozen BK183.out 1; have hfz54_2 := blk_frozen BK183.out 2; have hfz54_3 := blk_frozen BK183.out 3) | (go_at_call 63; (with_reducible refine (impl_within.calls a0_1 0 30 true _ A2.out).mono ?_); rintro e w' ⟨rfl, ⟨nd, rfl⟩⟩; (try exact KT)) | (go_at_call 26; (with_reducible refine (impl_EpochOf.calls a0_0 t190 _ A30.out).mono ?_); rintro e w' ⟨rfl, ⟨nd, rfl⟩⟩; (try exact KT)) | (go_at_call 52; (with_reducible refine (impl_PlaceOk.calls a0_0 false _ A46.out).mono ?_); rintro e w' ⟨rfl, ⟨nd, rfl⟩⟩; (try exact KT)))
      repeat (go_quiet (first | (go_at_call 63; (with_reducible refine (impl_within.calls a0_1 0 30 true _ A2.out).mono ?_); rintro e w' ⟨rfl, ⟨nd, rfl⟩⟩; (try exact KT)) | (go_at_call 26; (with_reducible refine (impl_EpochOf.calls a0_0 t190 _ A30.out).mono ?_); rintro e w' ⟨rfl, ⟨nd, rfl⟩⟩; (try exact KT)) | (go_at_call 52; (with_reducible refine (impl_PlaceOk.calls a0_0 false _ A46.out).mono ?_); rintro e w' ⟨rfl, ⟨nd, rfl⟩⟩; (try exact KT))); try go_wp2_with (first | ((with_reducible refine gate_dst (N := 1) rfl ?_); refine box_event ?hg (N := 1) ?hd (cs := #[.int .i64 a0_0, .int .i64 a0_1, .bool true, .string a0_3]) (t := 35) ?hr ?_; (case hd => rfl); (case hg => rfl); (case hr => first | (go_simp; done) | (go_simp; rfl)); intro gb183 hg w53 hbox hb; have n0_ := Aside0.mk (below_step KB hb); have n1_ := Aside0.mk (hbox); have n2_ := Aside0.mk ((KG hg : w.heap.size ≤ gb183)); have n3_ := Aside0.mk ((KG hg : w.heap.size ≤ gb183)); clear HB; have HB := n0_; have BK183 := n1_; have GW183 := n2_; have GE183 := n3_; clear n0_ n1_ n2_ n3_; clear hb hbox hg; have hcz54_0 : w53.cell? ⟨gb183, 0, none⟩ = some (.int .i64 a0_0) := (blk_cell BK183.out 0).trans rfl; have hcz54_1 : w53.cell? ⟨gb183, 1, none⟩ = some (.int .i64 a0_1) := (blk_cell BK183.out 1).trans rfl; have hcz54_2 : w53.cell? ⟨gb183, 2, none⟩ = some (.bool true) := (blk_cell BK183.out 2).trans rfl; have hcz54_3 : w53.cell? ⟨gb183, 3, none⟩ = some (.string a0_3) := (blk_cell BK183.out 3).trans rfl; have hfz54_0 := blk_frozen BK183.out 0; have hfz54_1 := blk_frozen BK183.out 1; have hfz54_2 := blk_frozen BK183.out 2; have hfz54_3 := blk_frozen BK183.out 3) | (go_at_call 63; (with_reducible refine (impl_within.calls a0_1 0 30 true _ A2.out).mono ?_); rintro e w' ⟨rfl, ⟨nd, rfl⟩⟩; (try exact KT)) | (go_at_call 26; (with_reducible refine (impl_EpochOf.calls a0_0 t190 _ A30.out).mono ?_); rintro e w' ⟨rfl, ⟨nd, rfl⟩⟩; (try exact KT)) | (go_at_call 52; (with_reducible refine (impl_PlaceOk.calls a0_0 false _ A46.out).mono ?_); rintro e w' ⟨rfl, ⟨nd, rfl⟩⟩; (try exact KT))))
      go_ret
      exact ⟨KE, KB⟩
   ·replace c31 := Bool.eq_false_iff.mpr c31
    subst c31
    have H1 : ((impl_PlaceOk.f a0_0).bind fun t194 => (if t194 = true then (if a0_1 > t190 then ((impl_dataOk.f a0_3).bind fun t195 => (some t195)) else (some false)) else (some false))) = some r := by rw [if_neg (show ¬ (false = true) by decide)] at H; exact H
    clear H
    have H := H1
    clear H1
    replace H := Option.bind_eq_some_iff.mp H
    obtain ⟨t194, A550, H⟩ := H
    replace H : (if t194 = true then (if a0_1 > t190 then ((impl_dataOk.f a0_3).bind fun t195 => (some t195)) else (some false)) else (some false)) = some r := H
    have A55 := Aside0.mk A550
    clear A550
    by_cases c56 : t194 = true
    ·subst c56
     have H1 : (if a0_1 > t190 then ((impl_dataOk.f a0_3).bind fun t195 => (some t195)) else (some false)) = some r := by rw [if_pos rfl] at H; exact H
     clear H
     have H := H1
     clear H1
     by_cases c57 : a0_1 > t190
     ·rw [if_pos c57] at H
      have c57b0 : decide (t190 < a0_1) = true := decide_eq_true c57
      clear c57
      replace H := Option.bind_eq_some_iff.mp H
      obtain ⟨t195, A580, H⟩ := H
      replace H : (some t195) = some r := H
      have A58 := Aside0.mk A580
      clear A580
      obtain rfl := Option.some.inj H
      go_enter Try.func45, Try.ntmps45
      go_wp2_with (first | ((with_reducible refine gate_dst (N := 1) rfl ?_); refine box_event ?hg (N := 1) ?hd (cs := #[.int .i64 a0_0, .int .i64 a0_1, .bool false, .string a0_3]) (t := 35) ?hr ?_; (case hd => rfl); (case hg => rfl); (case hr => first | (go_simp; done) | (go_simp; rfl)); intro gb183 hg w59 hbox hb; have n0_ := Aside0.mk (below_step KB hb); have n1_ := Aside0.mk (hbox); have n2_ := Aside0.mk ((KG hg : w.heap.size ≤ gb183)); have n3_ := Aside0.mk ((KG hg : w.heap.size ≤ gb183)); clear HB; have HB := n0_; have BK183 := n1_; have GW183 := n2_; have GE183 := n3_; clear n0_ n1_ n2_ n3_; clear hb hbox hg; have hcz60_0 : w59.cell? ⟨gb183, 0, none⟩ = some (.int .i64 a0_0) := (blk_cell BK183.out 0).trans rfl; have hcz60_1 : w59.cell? ⟨gb183, 1, none⟩ = some (.int .i64 a0_1) := (blk_cell BK183.out 1).trans rfl; have hcz60_2 : w59.cell? ⟨gb183, 2, none⟩ = some (.bool false) := (blk_cell BK183.out 2).trans rfl; have hcz60_3 : w59.cell? ⟨gb183, 3, none⟩ = some (.string a0_3) := (blk_cell BK183.out 3).trans rfl; have hfz60_0 := blk_frozen BK183.out 0; have hfz60_1 := blk_frozen BK183.out 1; have hfz60_2 := blk_frozen BK183.out 2; have hfz60_3 := blk_frozen BK183.out 3) | (go_at_call 63; (with_reducible refine (impl_within.calls a0_1 0 30 true _ A2.out).mono ?_); rintro e w' ⟨rfl, ⟨nd, rfl⟩⟩; (try exact KT)) | (go_at_call 26; (with_reducible refine (impl_EpochOf.calls a0_0 t190 _ A30.out).mono ?_); rintro e w' ⟨rfl, ⟨nd, rfl⟩⟩; (try exact KT)) | (go_at_call 52; (with_reducible refine (impl_PlaceOk.calls a0_0 true _ A55.out).mono ?_); rintro e w' ⟨rfl, ⟨nd, rfl⟩⟩; (try exact KT)) | (go_at_call 77; (with_reducible refine (impl_dataOk.calls a0_3 t195 _ A58.out).mono ?_); rintro e w' ⟨rfl, ⟨nd, rfl⟩⟩; (try exact KT)))
      repeat (go_quiet (first | (go_at_call 63; (with_reducible refine (impl_within.calls a0_1 0 30 true _ A2.out).mono ?_); rintro e w' ⟨rfl, ⟨nd, rfl⟩⟩; (try exact KT)) | (go_at_call 26; (with_reducible refine (impl_EpochOf.calls a0_0 t190 _ A30.out).mono ?_); rintro e w' ⟨rfl, ⟨nd, rfl⟩⟩; (try exact KT)) | (go_at_call 52; (with_reducible refine (impl_PlaceOk.calls a0_0 true _ A55.out).mono ?_); rintro e w' ⟨rfl, ⟨nd, rfl⟩⟩; (try exact KT)) | (go_at_call 77; (with_reducible refine (impl_dataOk.calls a0_3 t195 _ A58.out).mono ?_); rintro e w' ⟨rfl, ⟨nd, rfl⟩⟩; (try exact KT))); try go_wp2_with (first | ((with_reducible refine gate_dst (N := 1) rfl ?_); refine box_event ?hg (N := 1) ?hd (cs := #[.int .i64 a0_0, .int .i64 a0_1, .bool false, .string a0_3]) (t := 35) ?hr ?_; (case hd => rfl); (case hg => rfl); (case hr => first | (go_simp; done) | (go_simp; rfl)); intro gb183 hg w59 hbox hb; have n0_ := Aside0.mk (below_step KB hb); have n1_ := Aside0.mk (hbox); have n2_ := Aside0.mk ((KG hg : w.heap.size ≤ gb183)); have n3_ := Aside0.mk ((KG hg : w.heap.size ≤ gb183)); clear HB; have HB := n0_; have BK183 := n1_; have GW183 := n2_; have GE183 := n3_; clear n0_ n1_ n2_ n3_; clear hb hbox hg; have hcz60_0 : w59.cell? ⟨gb183, 0, none⟩ = some (.int .i64 a0_0) := (blk_cell BK183.out 0).trans rfl; have hcz60_1 : w59.cell? ⟨gb183, 1, none⟩ = some (.int .i64 a0_1) := (blk_cell BK183.out 1).trans rfl; have hcz60_2 : w59.cell? ⟨gb183, 2, none⟩ = some (.bool false) := (blk_cell BK183.out 2).trans rfl; have hcz60_3 : w59.cell? ⟨gb183, 3, none⟩ = some (.string a0_3) := (blk_cell BK183.out 3).trans rfl; have hfz60_0 := blk_frozen BK183.out 0; have hfz60_1 := blk_frozen BK183.out 1; have hfz60_2 := blk_frozen BK183.out 2; have hfz60_3 := blk_frozen BK183.out 3) | (go_at_call 63; (with_reducible refine (impl_within.calls a0_1 0 30 true _ A2.out).mono ?_); rintro e w' ⟨rfl, ⟨nd, rfl⟩⟩; (try exact KT)) | (go_at_call 26; (with_reducible refine (impl_EpochOf.calls a0_0 t190 _ A30.out).mono ?_); rintro e w' ⟨rfl, ⟨nd, rfl⟩⟩; (try exact KT)) | (go_at_call 52; (with_reducible refine (impl_PlaceOk.calls a0_0 true _ A55.out).mono ?_); rintro e w' ⟨rfl, ⟨nd, rfl⟩⟩; (try exact KT)) | (go_at_call 77; (with_reducible refine (impl_dataOk.calls a0_3 t195 _ A58.out).mono ?_); rintro e w' ⟨rfl, ⟨nd, rfl⟩⟩; (try exact KT))))
      go_ret
      exact ⟨KE, KB⟩
     ·rw [if_neg c57] at H
      have c57b0 : decide (t190 < a0_1) = false := decide_eq_false c57
      clear c57
      obtain rfl := Option.some.inj H
      go_enter Try.func45, Try.ntmps45
      go_wp2_with (first | ((with_reducible refine gate_dst (N := 1) rfl ?_); refine box_event ?hg (N := 1) ?hd (cs := #[.int .i64 a0_0, .int .i64 a0_1, .bool false, .string a0_3]) (t := 35) ?hr ?_; (case hd => rfl); (case hg => rfl); (case hr => first | (go_simp; done) | (go_simp; rfl)); intro gb183 hg w61 hbox hb; have n0_ := Aside0.mk (below_step KB hb); have n1_ := Aside0.mk (hbox); have n2_ := Aside0.mk ((KG hg : w.heap.size ≤ gb183)); have n3_ := Aside0.mk ((KG hg : w.heap.size ≤ gb183)); clear HB; have HB := n0_; have BK183 := n1_; have GW183 := n2_; have GE183 := n3_; clear n0_ n1_ n2_ n3_; clear hb hbox hg; have hcz62_0 : w61.cell? ⟨gb183, 0, none⟩ = some (.int .i64 a0_0) := (blk_cell BK183.out 0).trans rfl; have hcz62_1 : w61.cell? ⟨gb183, 1, none⟩ = some (.int .i64 a0_1) := (blk_cell BK183.out 1).trans rfl; have hcz62_2 : w61.cell? ⟨gb183, 2, none⟩ = some (.bool false) := (blk_cell BK183.out 2).trans rfl; have hcz62_3 : w61.cell? ⟨gb183, 3, none⟩ = some (.string a0_3) := (blk_cell BK183.out 3).trans rfl; have hfz62_0 := blk_frozen BK183.out 0; have hfz62_1 := blk_frozen BK183.out 1; have hfz62_2 := blk_frozen BK183.out 2; have hfz62_3 := blk_frozen BK183.out 3) | (go_at_call 63; (with_reducible refine (impl_within.calls a0_1 0 30 true _ A2.out).mono ?_); rintro e w' ⟨rfl, ⟨nd, rfl⟩⟩; (try exact KT)) | (go_at_call 26; (with_reducible refine (impl_EpochOf.calls a0_0 t190 _ A30.out).mono ?_); rintro e w' ⟨rfl, ⟨nd, rfl⟩⟩; (try exact KT)) | (go_at_call 52; (with_reducible refine (impl_PlaceOk.calls a0_0 true _ A55.out).mono ?_); rintro e w' ⟨rfl, ⟨nd, rfl⟩⟩; (try exact KT)))
      repeat (go_quiet (first | (go_at_call 63; (with_reducible refine (impl_within.calls a0_1 0 30 true _ A2.out).mono ?_); rintro e w' ⟨rfl, ⟨nd, rfl⟩⟩; (try exact KT)) | (go_at_call 26; (with_reducible refine (impl_EpochOf.calls a0_0 t190 _ A30.out).mono ?_); rintro e w' ⟨rfl, ⟨nd, rfl⟩⟩; (try exact KT)) | (go_at_call 52; (with_reducible refine (impl_PlaceOk.calls a0_0 true _ A55.out).mono ?_); rintro e w' ⟨rfl, ⟨nd, rfl⟩⟩; (try exact KT))); try go_wp2_with (first | ((with_reducible refine gate_dst (N := 1) rfl ?_); refine box_event ?hg (N := 1) ?hd (cs := #[.int .i64 a0_0, .int .i64 a0_1, .bool false, .string a0_3]) (t := 35) ?hr ?_; (case hd => rfl); (case hg => rfl); (case hr => first | (go_simp; done) | (go_simp; rfl)); intro gb183 hg w61 hbox hb; have n0_ := Aside0.mk (below_step KB hb); have n1_ := Aside0.mk (hbox); have n2_ := Aside0.mk ((KG hg : w.heap.size ≤ gb183)); have n3_ := Aside0.mk ((KG hg : w.heap.size ≤ gb183)); clear HB; have HB := n0_; have BK183 := n1_; have GW183 := n2_; have GE183 := n3_; clear n0_ n1_ n2_ n3_; clear hb hbox hg; have hcz62_0 : w61.cell? ⟨gb183, 0, none⟩ = some (.int .i64 a0_0) := (blk_cell BK183.out 0).trans rfl; have hcz62_1 : w61.cell? ⟨gb183, 1, none⟩ = some (.int .i64 a0_1) := (blk_cell BK183.out 1).trans rfl; have hcz62_2 : w61.cell? ⟨gb183, 2, none⟩ = some (.bool false) := (blk_cell BK183.out 2).trans rfl; have hcz62_3 : w61.cell? ⟨gb183, 3, none⟩ = some (.string a0_3) := (blk_cell BK183.out 3).trans rfl; have hfz62_0 := blk_frozen BK183.out 0; have hfz62_1 := blk_frozen BK183.out 1; have hfz62_2 := blk_frozen BK183.out 2; have hfz62_3 := blk_frozen BK183.out 3) | (go_at_call 63; (with_reducible refine (impl_within.calls a0_1 0 30 true _ A2.out).mono ?_); rintro e w' ⟨rfl, ⟨nd, rfl⟩⟩; (try exact KT)) | (go_at_call 26; (with_reducible refine (impl_EpochOf.calls a0_0 t190 _ A30.out).mono ?_); rintro e w' ⟨rfl, ⟨nd, rfl⟩⟩; (try exact KT)) | (go_at_call 52; (with_reducible refine (impl_PlaceOk.calls a0_0 true _ A55.out).mono ?_); rintro e w' ⟨rfl, ⟨nd, rfl⟩⟩; (try exact KT))))
      go_ret
      exact ⟨KE, KB⟩
    ·replace c56 := Bool.eq_false_iff.mpr c56
     subst c56
     have H1 : (some false) = some r := by rw [if_neg (show ¬ (false = true) by decide)] at H; exact H
     clear H
     have H := H1
     clear H1
     obtain rfl := Option.some.inj H
     go_enter Try.func45, Try.ntmps45
     go_wp2_with (first | ((with_reducible refine gate_dst (N := 1) rfl ?_); refine box_event ?hg (N := 1) ?hd (cs := #[.int .i64 a0_0, .int .i64 a0_1, .bool false, .string a0_3]) (t := 35) ?hr ?_; (case hd => rfl); (case hg => rfl); (case hr => first | (go_simp; done) | (go_simp; rfl)); intro gb183 hg w63 hbox hb; have n0_ := Aside0.mk (below_step KB hb); have n1_ := Aside0.mk (hbox); have n2_ := Aside0.mk ((KG hg : w.heap.size ≤ gb183)); have n3_ := Aside0.mk ((KG hg : w.heap.size ≤ gb183)); clear HB; have HB := n0_; have BK183 := n1_; have GW183 := n2_; have GE183 := n3_; clear n0_ n1_ n2_ n3_; clear hb hbox hg; have hcz64_0 : w63.cell? ⟨gb183, 0, none⟩ = some (.int .i64 a0_0) := (blk_cell BK183.out 0).trans rfl; have hcz64_1 : w63.cell? ⟨gb183, 1, none⟩ = some (.int .i64 a0_1) := (blk_cell BK183.out 1).trans rfl; have hcz64_2 : w63.cell? ⟨gb183, 2, none⟩ = some (.bool false) := (blk_cell BK183.out 2).trans rfl; have hcz64_3 : w63.cell? ⟨gb183, 3, none⟩ = some (.string a0_3) := (blk_cell BK183.out 3).trans rfl; have hfz64_0 := blk_frozen BK183.out 0; have hfz64_1 := blk_frozen BK183.out 1; have hfz64_2 := blk_frozen BK183.out 2; have hfz64_3 := blk_frozen BK183.out 3) | (go_at_call 63; (with_reducible refine (impl_within.calls a0_1 0 30 true _ A2.out).mono ?_); rintro e w' ⟨rfl, ⟨nd, rfl⟩⟩; (try exact KT)) | (go_at_call 26; (with_reducible refine (impl_EpochOf.calls a0_0 t190 _ A30.out).mono ?_); rintro e w' ⟨rfl, ⟨nd, rfl⟩⟩; (try exact KT)) | (go_at_call 52; (with_reducible refine (impl_PlaceOk.calls a0_0 false _ A55.out).mono ?_); rintro e w' ⟨rfl, ⟨nd, rfl⟩⟩; (try exact KT)))
     repeat (go_quiet (first | (go_at_call 63; (with_reducible refine (impl_within.calls a0_1 0 30 true _ A2.out).mono ?_); rintro e w' ⟨rfl, ⟨nd, rfl⟩⟩; (try exact KT)) | (go_at_call 26; (with_reducible refine (impl_EpochOf.calls a0_0 t190 _ A30.out).mono ?_); rintro e w' ⟨rfl, ⟨nd, rfl⟩⟩; (try exact KT)) | (go_at_call 52; (with_reducible refine (impl_PlaceOk.calls a0_0 false _ A55.out).mono ?_); rintro e w' ⟨rfl, ⟨nd, rfl⟩⟩; (try exact KT))); try go_wp2_with (first | ((with_reducible refine gate_dst (N := 1) rfl ?_); refine box_event ?hg (N := 1) ?hd (cs := #[.int .i64 a0_0, .int .i64 a0_1, .bool false, .string a0_3]) (t := 35) ?hr ?_; (case hd => rfl); (case hg => rfl); (case hr => first | (go_simp; done) | (go_simp; rfl)); intro gb183 hg w63 hbox hb; have n0_ := Aside0.mk (below_step KB hb); have n1_ := Aside0.mk (hbox); have n2_ := Aside0.mk ((KG hg : w.heap.size ≤ gb183)); have n3_ := Aside0.mk ((KG hg : w.heap.size ≤ gb183)); clear HB; have HB := n0_; have BK183 := n1_; have GW183 := n2_; have GE183 := n3_; clear n0_ n1_ n2_ n3_; clear hb hbox hg; have hcz64_0 : w63.cell? ⟨gb183, 0, none⟩ = some (.int .i64 a0_0) := (blk_cell BK183.out 0).trans rfl; have hcz64_1 : w63.cell? ⟨gb183, 1, none⟩ = some (.int .i64 a0_1) := (blk_cell BK183.out 1).trans rfl; have hcz64_2 : w63.cell? ⟨gb183, 2, none⟩ = some (.bool false) := (blk_cell BK183.out 2).trans rfl; have hcz64_3 : w63.cell? ⟨gb183, 3, none⟩ = some (.string a0_3) := (blk_cell BK183.out 3).trans rfl; have hfz64_0 := blk_frozen BK183.out 0; have hfz64_1 := blk_frozen BK183.out 1; have hfz64_2 := blk_frozen BK183.out 2; have hfz64_3 := blk_frozen BK183.out 3) | (go_at_call 63; (with_reducible refine (impl_within.calls a0_1 0 30 true _ A2.out).mono ?_); rintro e w' ⟨rfl, ⟨nd, rfl⟩⟩; (try exact KT)) | (go_at_call 26; (with_reducible refine (impl_EpochOf.calls a0_0 t190 _ A30.out).mono ?_); rintro e w' ⟨rfl, ⟨nd, rfl⟩⟩; (try exact KT)) | (go_at_call 52; (with_reducible refine (impl_PlaceOk.calls a0_0 false _ A55.out).mono ?_); rintro e w' ⟨rfl, ⟨nd, rfl⟩⟩; (try exact KT))))
     go_ret
     exact ⟨KE, KB⟩
 ·replace c3 := Bool.eq_false_iff.mpr c3
  subst c3
  have H1 : (if a0_2 = true then (if a0_1 > 0 then ((impl_PlaceOk.f a0_0).bind fun t196 => (if t196 = true then (some false) else (some false))) else ((impl_PlaceOk.f a0_0).bind fun t197 => (if t197 = true then (some false) else (some false)))) else ((impl_PlaceOk.f a0_0).bind fun t198 => (if t198 = true then (some false) else (some false)))) = some r := by rw [if_neg (show ¬ (false = true) by decide)] at H; exact H
  clear H
  have H := H1
  clear H1
  by_cases c65 : a0_2 = true
  ·subst c65
   have H1 : (if a0_1 > 0 then ((impl_PlaceOk.f a0_0).bind fun t196 => (if t196 = true then (some false) else (some false))) else ((impl_PlaceOk.f a0_0).bind fun t197 => (if t197 = true then (some false) else (some false)))) = some r := by rw [if_pos rfl] at H; exact H
   clear H
   have H := H1
   clear H1
   by_cases c66 : a0_1 > 0
   ·rw [if_pos c66] at H
    have c66b0 : decide (0 < a0_1) = true := decide_eq_true c66
    clear c66
    replace H := Option.bind_eq_some_iff.mp H
    obtain ⟨t196, A670, H⟩ := H
    replace H : (if t196 = true then (some false) else (some false)) = some r := H
    have A67 := Aside0.mk A670
    clear A670
    by_cases c68 : t196 = true
    ·subst c68
     have H1 : (some false) = some r := by rw [if_pos rfl] at H; exact H
     clear H
     have H := H1
     clear H1
     obtain rfl := Option.some.inj H
     go_enter Try.func45, Try.ntmps45
     go_wp2_with (first | ((with_reducible refine gate_dst (N := 1) rfl ?_); refine box_event ?hg (N := 1) ?hd (cs := #[.int .i64 a0_0, .int .i64 a0_1, .bool true, .string a0_3]) (t := 35) ?hr ?_; (case hd => rfl); (case hg => rfl); (case hr => first | (go_simp; done) | (go_simp; rfl)); intro gb183 hg w69 hbox hb; have n0_ := Aside0.mk (below_step KB hb); have n1_ := Aside0.mk (hbox); have n2_ := Aside0.mk ((KG hg : w.heap.size ≤ gb183)); have n3_ := Aside0.mk ((KG hg : w.heap.size ≤ gb183)); clear HB; have HB := n0_; have BK183 := n1_; have GW183 := n2_; have GE183 := n3_; clear n0_ n1_ n2_ n3_; clear hb hbox hg; have hcz70_0 : w69.cell? ⟨gb183, 0, none⟩ = some (.int .i64 a0_0) := (blk_cell BK183.out 0).trans rfl; have hcz70_1 : w69.cell? ⟨gb183, 1, none⟩ = some (.int .i64 a0_1) := (blk_cell BK183.out 1).trans rfl; have hcz70_2 : w69.cell? ⟨gb183, 2, none⟩ = some (.bool true) := (blk_cell BK183.out 2).trans rfl; have hcz70_3 : w69.cell? ⟨gb183, 3, none⟩ = some (.string a0_3) := (blk_cell BK183.out 3).trans rfl; have hfz70_0 := blk_frozen BK183.out 0; have hfz70_1 := blk_frozen BK183.out 1; have hfz70_2 := blk_frozen BK183.out 2; have hfz70_3 := blk_frozen BK183.out 3) | (go_at_call 63; (with_reducible refine (impl_within.calls a0_1 0 30 false _ A2.out).mono ?_); rintro e w' ⟨rfl, ⟨nd, rfl⟩⟩; (try exact KT)) | (go_at_call 52; (with_reducible refine (impl_PlaceOk.calls a0_0 true _ A67.out).mono ?_); rintro e w' ⟨rfl, ⟨nd, rfl⟩⟩; (try exact KT)))
     repeat (go_quiet (first | (go_at_call 63; (with_reducible refine (impl_within.calls a0_1 0 30 false _ A2.out).mono ?_); rintro e w' ⟨rfl, ⟨nd, rfl⟩⟩; (try exact KT)) | (go_at_call 52; (with_reducible refine (impl_PlaceOk.calls a0_0 true _ A67.out).mono ?_); rintro e w' ⟨rfl, ⟨nd, rfl⟩⟩; (try exact KT))); try go_wp2_with (first | ((with_reducible refine gate_dst (N := 1) rfl ?_); refine box_event ?hg (N := 1) ?hd (cs := #[.int .i64 a0_0, .int .i64 a0_1, .bool true, .string a0_3]) (t := 35) ?hr ?_; (case hd => rfl); (case hg => rfl); (case hr => first | (go_simp; done) | (go_simp; rfl)); intro gb183 hg w69 hbox hb; have n0_ := Aside0.mk (below_step KB hb); have n1_ := Aside0.mk (hbox); have n2_ := Aside0.mk ((KG hg : w.heap.size ≤ gb183)); have n3_ := Aside0.mk ((KG hg : w.heap.size ≤ gb183)); clear HB; have HB := n0_; have BK183 := n1_; have GW183 := n2_; have GE183 := n3_; clear n0_ n1_ n2_ n3_; clear hb hbox hg; have hcz70_0 : w69.cell? ⟨gb183, 0, none⟩ = some (.int .i64 a0_0) := (blk_cell BK183.out 0).trans rfl; have hcz70_1 : w69.cell? ⟨gb183, 1, none⟩ = some (.int .i64 a0_1) := (blk_cell BK183.out 1).trans rfl; have hcz70_2 : w69.cell? ⟨gb183, 2, none⟩ = some (.bool true) := (blk_cell BK183.out 2).trans rfl; have hcz70_3 : w69.cell? ⟨gb183, 3, none⟩ = some (.string a0_3) := (blk_cell BK183.out 3).trans rfl; have hfz70_0 := blk_frozen BK183.out 0; have hfz70_1 := blk_frozen BK183.out 1; have hfz70_2 := blk_frozen BK183.out 2; have hfz70_3 := blk_frozen BK183.out 3) | (go_at_call 63; (with_reducible refine (impl_within.calls a0_1 0 30 false _ A2.out).mono ?_); rintro e w' ⟨rfl, ⟨nd, rfl⟩⟩; (try exact KT)) | (go_at_call 52; (with_reducible refine (impl_PlaceOk.calls a0_0 true _ A67.out).mono ?_); rintro e w' ⟨rfl, ⟨nd, rfl⟩⟩; (try exact KT))))
     go_ret
     exact ⟨KE, KB⟩
    ·replace c68 := Bool.eq_false_iff.mpr c68
     subst c68
     have H1 : (some false) = some r := by rw [if_neg (show ¬ (false = true) by decide)] at H; exact H
     clear H
     have H := H1
     clear H1
     obtain rfl := Option.some.inj H
     go_enter Try.func45, Try.ntmps45
     go_wp2_with (first | ((with_reducible refine gate_dst (N := 1) rfl ?_); refine box_event ?hg (N := 1) ?hd (cs := #[.int .i64 a0_0, .int .i64 a0_1, .bool true, .string a0_3]) (t := 35) ?hr ?_; (case hd => rfl); (case hg => rfl); (case hr => first | (go_simp; done) | (go_simp; rfl)); intro gb183 hg w71 hbox hb; have n0_ := Aside0.mk (below_step KB hb); have n1_ := Aside0.mk (hbox); have n2_ := Aside0.mk ((KG hg : w.heap.size ≤ gb183)); have n3_ := Aside0.mk ((KG hg : w.heap.size ≤ gb183)); clear HB; have HB := n0_; have BK183 := n1_; have GW183 := n2_; have GE183 := n3_; clear n0_ n1_ n2_ n3_; clear hb hbox hg; have hcz72_0 : w71.cell? ⟨gb183, 0, none⟩ = some (.int .i64 a0_0) := (blk_cell BK183.out 0).trans rfl; have hcz72_1 : w71.cell? ⟨gb183, 1, none⟩ = some (.int .i64 a0_1) := (blk_cell BK183.out 1).trans rfl; have hcz72_2 : w71.cell? ⟨gb183, 2, none⟩ = some (.bool true) := (blk_cell BK183.out 2).trans rfl; have hcz72_3 : w71.cell? ⟨gb183, 3, none⟩ = some (.string a0_3) := (blk_cell BK183.out 3).trans rfl; have hfz72_0 := blk_frozen BK183.out 0; have hfz72_1 := blk_frozen BK183.out 1; have hfz72_2 := blk_frozen BK183.out 2; have hfz72_3 := blk_frozen BK183.out 3) | (go_at_call 63; (with_reducible refine (impl_within.calls a0_1 0 30 false _ A2.out).mono ?_); rintro e w' ⟨rfl, ⟨nd, rfl⟩⟩; (try exact KT)) | (go_at_call 52; (with_reducible refine (impl_PlaceOk.calls a0_0 false _ A67.out).mono ?_); rintro e w' ⟨rfl, ⟨nd, rfl⟩⟩; (try exact KT)))
     repeat (go_quiet (first | (go_at_call 63; (with_reducible refine (impl_within.calls a0_1 0 30 false _ A2.out).mono ?_); rintro e w' ⟨rfl, ⟨nd, rfl⟩⟩; (try exact KT)) | (go_at_call 52; (with_reducible refine (impl_PlaceOk.calls a0_0 false _ A67.out).mono ?_); rintro e w' ⟨rfl, ⟨nd, rfl⟩⟩; (try exact KT))); try go_wp2_with (first | ((with_reducible refine gate_dst (N := 1) rfl ?_); refine box_event ?hg (N := 1) ?hd (cs := #[.int .i64 a0_0, .int .i64 a0_1, .bool true, .string a0_3]) (t := 35) ?hr ?_; (case hd => rfl); (case hg => rfl); (case hr => first | (go_simp; done) | (go_simp; rfl)); intro gb183 hg w71 hbox hb; have n0_ := Aside0.mk (below_step KB hb); have n1_ := Aside0.mk (hbox); have n2_ := Aside0.mk ((KG hg : w.heap.size ≤ gb183)); have n3_ := Aside0.mk ((KG hg : w.heap.size ≤ gb183)); clear HB; have HB := n0_; have BK183 := n1_; have GW183 := n2_; have GE183 := n3_; clear n0_ n1_ n2_ n3_; clear hb hbox hg; have hcz72_0 : w71.cell? ⟨gb183, 0, none⟩ = some (.int .i64 a0_0) := (blk_cell BK183.out 0).trans rfl; have hcz72_1 : w71.cell? ⟨gb183, 1, none⟩ = some (.int .i64 a0_1) := (blk_cell BK183.out 1).trans rfl; have hcz72_2 : w71.cell? ⟨gb183, 2, none⟩ = some (.bool true) := (blk_cell BK183.out 2).trans rfl; have hcz72_3 : w71.cell? ⟨gb183, 3, none⟩ = some (.string a0_3) := (blk_cell BK183.out 3).trans rfl; have hfz72_0 := blk_frozen BK183.out 0; have hfz72_1 := blk_frozen BK183.out 1; have hfz72_2 := blk_frozen BK183.out 2; have hfz72_3 := blk_frozen BK183.out 3) | (go_at_call 63; (with_reducible refine (impl_within.calls a0_1 0 30 false _ A2.out).mono ?_); rintro e w' ⟨rfl, ⟨nd, rfl⟩⟩; (try exact KT)) | (go_at_call 52; (with_reducible refine (impl_PlaceOk.calls a0_0 false _ A67.out).mono ?_); rintro e w' ⟨rfl, ⟨nd, rfl⟩⟩; (try exact KT))))
     go_ret
     exact ⟨KE, KB⟩
   ·rw [if_neg c66] at H
    have c66b0 : decide (0 < a0_1) = false := decide_eq_false c66
    clear c66
    replace H := Option.bind_eq_some_iff.mp H
    obtain ⟨t197, A730, H⟩ := H
    replace H : (if t197 = true then (some false) else (some false)) = some r := H
    have A73 := Aside0.mk A730
    clear A730
    by_cases c74 : t197 = true
    ·subst c74
     have H1 : (some false) = some r := by rw [if_pos rfl] at H; exact H
     clear H
     have H := H1
     clear H1
     obtain rfl := Option.some.inj H
     go_enter Try.func45, Try.ntmps45
     go_wp2_with (first | ((with_reducible refine gate_dst (N := 1) rfl ?_); refine box_event ?hg (N := 1) ?hd (cs := #[.int .i64 a0_0, .int .i64 a0_1, .bool true, .string a0_3]) (t := 35) ?hr ?_; (case hd => rfl); (case hg => rfl); (case hr => first | (go_simp; done) | (go_simp; rfl)); intro gb183 hg w75 hbox hb; have n0_ := Aside0.mk (below_step KB hb); have n1_ := Aside0.mk (hbox); have n2_ := Aside0.mk ((KG hg : w.heap.size ≤ gb183)); have n3_ := Aside0.mk ((KG hg : w.heap.size ≤ gb183)); clear HB; have HB := n0_; have BK183 := n1_; have GW183 := n2_; have GE183 := n3_; clear n0_ n1_ n2_ n3_; clear hb hbox hg; have hcz76_0 : w75.cell? ⟨gb183, 0, none⟩ = some (.int .i64 a0_0) := (blk_cell BK183.out 0).trans rfl; have hcz76_1 : w75.cell? ⟨gb183, 1, none⟩ = some (.int .i64 a0_1) := (blk_cell BK183.out 1).trans rfl; have hcz76_2 : w75.cell? ⟨gb183, 2, none⟩ = some (.bool true) := (blk_cell BK183.out 2).trans rfl; have hcz76_3 : w75.cell? ⟨gb183, 3, none⟩ = some (.string a0_3) := (blk_cell BK183.out 3).trans rfl; have hfz76_0 := blk_frozen BK183.out 0; have hfz76_1 := blk_frozen BK183.out 1; have hfz76_2 := blk_frozen BK183.out 2; have hfz76_3 := blk_frozen BK183.out 3) | (go_at_call 63; (with_reducible refine (impl_within.calls a0_1 0 30 false _ A2.out).mono ?_); rintro e w' ⟨rfl, ⟨nd, rfl⟩⟩; (try exact KT)) | (go_at_call 52; (with_reducible refine (impl_PlaceOk.calls a0_0 true _ A73.out).mono ?_); rintro e w' ⟨rfl, ⟨nd, rfl⟩⟩; (try exact KT)))
     repeat (go_quiet (first | (go_at_call 63; (with_reducible refine (impl_within.calls a0_1 0 30 false _ A2.out).mono ?_); rintro e w' ⟨rfl, ⟨nd, rfl⟩⟩; (try exact KT)) | (go_at_call 52; (with_reducible refine (impl_PlaceOk.calls a0_0 true _ A73.out).mono ?_); rintro e w' ⟨rfl, ⟨nd, rfl⟩⟩; (try exact KT))); try go_wp2_with (first | ((with_reducible refine gate_dst (N := 1) rfl ?_); refine box_event ?hg (N := 1) ?hd (cs := #[.int .i64 a0_0, .int .i64 a0_1, .bool true, .string a0_3]) (t := 35) ?hr ?_; (case hd => rfl); (case hg => rfl); (case hr => first | (go_simp; done) | (go_simp; rfl)); intro gb183 hg w75 hbox hb; have n0_ := Aside0.mk (below_step KB hb); have n1_ := Aside0.mk (hbox); have n2_ := Aside0.mk ((KG hg : w.heap.size ≤ gb183)); have n3_ := Aside0.mk ((KG hg : w.heap.size ≤ gb183)); clear HB; have HB := n0_; have BK183 := n1_; have GW183 := n2_; have GE183 := n3_; clear n0_ n1_ n2_ n3_; clear hb hbox hg; have hcz76_0 : w75.cell? ⟨gb183, 0, none⟩ = some (.int .i64 a0_0) := (blk_cell BK183.out 0).trans rfl; have hcz76_1 : w75.cell? ⟨gb183, 1, none⟩ = some (.int .i64 a0_1) := (blk_cell BK183.out 1).trans rfl; have hcz76_2 : w75.cell? ⟨gb183, 2, none⟩ = some (.bool true) := (blk_cell BK183.out 2).trans rfl; have hcz76_3 : w75.cell? ⟨gb183, 3, none⟩ = some (.string a0_3) := (blk_cell BK183.out 3).trans rfl; have hfz76_0 := blk_frozen BK183.out 0; have hfz76_1 := blk_frozen BK183.out 1; have hfz76_2 := blk_frozen BK183.out 2; have hfz76_3 := blk_frozen BK183.out 3) | (go_at_call 63; (with_reducible refine (impl_within.calls a0_1 0 30 false _ A2.out).mono ?_); rintro e w' ⟨rfl, ⟨nd, rfl⟩⟩; (try exact KT)) | (go_at_call 52; (with_reducible refine (impl_PlaceOk.calls a0_0 true _ A73.out).mono ?_); rintro e w' ⟨rfl, ⟨nd, rfl⟩⟩; (try exact KT))))
     go_ret
     exact ⟨KE, KB⟩
    ·replace c74 := Bool.eq_false_iff.mpr c74
     subst c74
     have H1 : (some false) = some r := by rw [if_neg (show ¬ (false = true) by decide)] at H; exact H
     clear H
     have H := H1
     clear H1
     obtain rfl := Option.some.inj H
     go_enter Try.func45, Try.ntmps45
     go_wp2_with (first | ((with_reducible refine gate_dst (N := 1) rfl ?_); refine box_event ?hg (N := 1) ?hd (cs := #[.int .i64 a0_0, .int .i64 a0_1, .bool true, .string a0_3]) (t := 35) ?hr ?_; (case hd => rfl); (case hg => rfl); (case hr => first | (go_simp; done) | (go_simp; rfl)); intro gb183 hg w77 hbox hb; have n0_ := Aside0.mk (below_step KB hb); have n1_ := Aside0.mk (hbox); have n2_ := Aside0.mk ((KG hg : w.heap.size ≤ gb183)); have n3_ := Aside0.mk ((KG hg : w.heap.size ≤ gb183)); clear HB; have HB := n0_; have BK183 := n1_; have GW183 := n2_; have GE183 := n3_; clear n0_ n1_ n2_ n3_; clear hb hbox hg; have hcz78_0 : w77.cell? ⟨gb183, 0, none⟩ = some (.int .i64 a0_0) := (blk_cell BK183.out 0).trans rfl; have hcz78_1 : w77.cell? ⟨gb183, 1, none⟩ = some (.int .i64 a0_1) := (blk_cell BK183.out 1).trans rfl; have hcz78_2 : w77.cell? ⟨gb183, 2, none⟩ = some (.bool true) := (blk_cell BK183.out 2).trans rfl; have hcz78_3 : w77.cell? ⟨gb183, 3, none⟩ = some (.string a0_3) := (blk_cell BK183.out 3).trans rfl; have hfz78_0 := blk_frozen BK183.out 0; have hfz78_1 := blk_frozen BK183.out 1; have hfz78_2 := blk_frozen BK183.out 2; have hfz78_3 := blk_frozen BK183.out 3) | (go_at_call 63; (with_reducible refine (impl_within.calls a0_1 0 30 false _ A2.out).mono ?_); rintro e w' ⟨rfl, ⟨nd, rfl⟩⟩; (try exact KT)) | (go_at_call 52; (with_reducible refine (impl_PlaceOk.calls a0_0 false _ A73.out).mono ?_); rintro e w' ⟨rfl, ⟨nd, rfl⟩⟩; (try exact KT)))
     repeat (go_quiet (first | (go_at_call 63; (with_reducible refine (impl_within.calls a0_1 0 30 false _ A2.out).mono ?_); rintro e w' ⟨rfl, ⟨nd, rfl⟩⟩; (try exact KT)) | (go_at_call 52; (with_reducible refine (impl_PlaceOk.calls a0_0 false _ A73.out).mono ?_); rintro e w' ⟨rfl, ⟨nd, rfl⟩⟩; (try exact KT))); try go_wp2_with (first | ((with_reducible refine gate_dst (N := 1) rfl ?_); refine box_event ?hg (N := 1) ?hd (cs := #[.int .i64 a0_0, .int .i64 a0_1, .bool true, .string a0_3]) (t := 35) ?hr ?_; (case hd => rfl); (case hg => rfl); (case hr => first | (go_simp; done) | (go_simp; rfl)); intro gb183 hg w77 hbox hb; have n0_ := Aside0.mk (below_step KB hb); have n1_ := Aside0.mk (hbox); have n2_ := Aside0.mk ((KG hg : w.heap.size ≤ gb183)); have n3_ := Aside0.mk ((KG hg : w.heap.size ≤ gb183)); clear HB; have HB := n0_; have BK183 := n1_; have GW183 := n2_; have GE183 := n3_; clear n0_ n1_ n2_ n3_; clear hb hbox hg; have hcz78_0 : w77.cell? ⟨gb183, 0, none⟩ = some (.int .i64 a0_0) := (blk_cell BK183.out 0).trans rfl; have hcz78_1 : w77.cell? ⟨gb183, 1, none⟩ = some (.int .i64 a0_1) := (blk_cell BK183.out 1).trans rfl; have hcz78_2 : w77.cell? ⟨gb183, 2, none⟩ = some (.bool true) := (blk_cell BK183.out 2).trans rfl; have hcz78_3 : w77.cell? ⟨gb183, 3, none⟩ = some (.string a0_3) := (blk_cell BK183.out 3).trans rfl; have hfz78_0 := blk_frozen BK183.out 0; have hfz78_1 := blk_frozen BK183.out 1; have hfz78_2 := blk_frozen BK183.out 2; have hfz78_3 := blk_frozen BK183.out 3) | (go_at_call 63; (with_reducible refine (impl_within.calls a0_1 0 30 false _ A2.out).mono ?_); rintro e w' ⟨rfl, ⟨nd, rfl⟩⟩; (try exact KT)) | (go_at_call 52; (with_reducible refine (impl_PlaceOk.calls a0_0 false _ A73.out).mono ?_); rintro e w' ⟨rfl, ⟨nd, rfl⟩⟩; (try exact KT))))
     go_ret
     exact ⟨KE, KB⟩
  ·replace c65 := Bool.eq_false_iff.mpr c65
   subst c65
   have H1 : ((impl_PlaceOk.f a0_0).bind fun t198 => (if t198 = true then (some false) else (some false))) = some r := by rw [if_neg (show ¬ (false = true) by decide)] at H; exact H
   clear H
   have H := H1
   clear H1
   replace H := Option.bind_eq_some_iff.mp H
   obtain ⟨t198, A790, H⟩ := H
   replace H : (if t198 = true then (some false) else (some false)) = some r := H
   have A79 := Aside0.mk A790
   clear A790
   by_cases c80 : t198 = true
   ·subst c80
    have H1 : (some false) = some r := by rw [if_pos rfl] at H; exact H
    clear H
    have H := H1
    clear H1
    obtain rfl := Option.some.inj H
    go_enter Try.func45, Try.ntmps45
    go_wp2_with (first | ((with_reducible refine gate_dst (N := 1) rfl ?_); refine box_event ?hg (N := 1) ?hd (cs := #[.int .i64 a0_0, .int .i64 a0_1, .bool false, .string a0_3]) (t := 35) ?hr ?_; (case hd => rfl); (case hg => rfl); (case hr => first | (go_simp; done) | (go_simp; rfl)); intro gb183 hg w81 hbox hb; have n0_ := Aside0.mk (below_step KB hb); have n1_ := Aside0.mk (hbox); have n2_ := Aside0.mk ((KG hg : w.heap.size ≤ gb183)); have n3_ := Aside0.mk ((KG hg : w.heap.size ≤ gb183)); clear HB; have HB := n0_; have BK183 := n1_; have GW183 := n2_; have GE183 := n3_; clear n0_ n1_ n2_ n3_; clear hb hbox hg; have hcz82_0 : w81.cell? ⟨gb183, 0, none⟩ = some (.int .i64 a0_0) := (blk_cell BK183.out 0).trans rfl; have hcz82_1 : w81.cell? ⟨gb183, 1, none⟩ = some (.int .i64 a0_1) := (blk_cell BK183.out 1).trans rfl; have hcz82_2 : w81.cell? ⟨gb183, 2, none⟩ = some (.bool false) := (blk_cell BK183.out 2).trans rfl; have hcz82_3 : w81.cell? ⟨gb183, 3, none⟩ = some (.string a0_3) := (blk_cell BK183.out 3).trans rfl; have hfz82_0 := blk_frozen BK183.out 0; have hfz82_1 := blk_frozen BK183.out 1; have hfz82_2 := blk_frozen BK183.out 2; have hfz82_3 := blk_frozen BK183.out 3) | (go_at_call 63; (with_reducible refine (impl_within.calls a0_1 0 30 false _ A2.out).mono ?_); rintro e w' ⟨rfl, ⟨nd, rfl⟩⟩; (try exact KT)) | (go_at_call 52; (with_reducible refine (impl_PlaceOk.calls a0_0 true _ A79.out).mono ?_); rintro e w' ⟨rfl, ⟨nd, rfl⟩⟩; (try exact KT)))
    repeat (go_quiet (first | (go_at_call 63; (with_reducible refine (impl_within.calls a0_1 0 30 false _ A2.out).mono ?_); rintro e w' ⟨rfl, ⟨nd, rfl⟩⟩; (try exact KT)) | (go_at_call 52; (with_reducible refine (impl_PlaceOk.calls a0_0 true _ A79.out).mono ?_); rintro e w' ⟨rfl, ⟨nd, rfl⟩⟩; (try exact KT))); try go_wp2_with (first | ((with_reducible refine gate_dst (N := 1) rfl ?_); refine box_event ?hg (N := 1) ?hd (cs := #[.int .i64 a0_0, .int .i64 a0_1, .bool false, .string a0_3]) (t := 35) ?hr ?_; (case hd => rfl); (case hg => rfl); (case hr => first | (go_simp; done) | (go_simp; rfl)); intro gb183 hg w81 hbox hb; have n0_ := Aside0.mk (below_step KB hb); have n1_ := Aside0.mk (hbox); have n2_ := Aside0.mk ((KG hg : w.heap.size ≤ gb183)); have n3_ := Aside0.mk ((KG hg : w.heap.size ≤ gb183)); clear HB; have HB := n0_; have BK183 := n1_; have GW183 := n2_; have GE183 := n3_; clear n0_ n1_ n2_ n3_; clear hb hbox hg; have hcz82_0 : w81.cell? ⟨gb183, 0, none⟩ = some (.int .i64 a0_0) := (blk_cell BK183.out 0).trans rfl; have hcz82_1 : w81.cell? ⟨gb183, 1, none⟩ = some (.int .i64 a0_1) := (blk_cell BK183.out 1).trans rfl; have hcz82_2 : w81.cell? ⟨gb183, 2, none⟩ = some (.bool false) := (blk_cell BK183.out 2).trans rfl; have hcz82_3 : w81.cell? ⟨gb183, 3, none⟩ = some (.string a0_3) := (blk_cell BK183.out 3).trans rfl; have hfz82_0 := blk_frozen BK183.out 0; have hfz82_1 := blk_frozen BK183.out 1; have hfz82_2 := blk_frozen BK183.out 2; have hfz82_3 := blk_frozen BK183.out 3) | (go_at_call 63; (with_reducible refine (impl_within.calls a0_1 0 30 false _ A2.out).mono ?_); rintro e w' ⟨rfl, ⟨nd, rfl⟩⟩; (try exact KT)) | (go_at_call 52; (with_reducible refine (impl_PlaceOk.calls a0_0 true _ A79.out).mono ?_); rintro e w' ⟨rfl, ⟨nd, rfl⟩⟩; (try exact KT))))
    go_ret
    exact ⟨KE, KB⟩
   ·replace c80 := Bool.eq_false_iff.mpr c80
    subst c80
    have H1 : (some false) = some r := by rw [if_neg (show ¬ (false = true) by decide)] at H; exact H
    clear H
    have H := H1
    clear H1
    obtain rfl := Option.some.inj H
    go_enter Try.func45, Try.ntmps45
    go_wp2_with (first | ((with_reducible refine gate_dst (N := 1) rfl ?_); refine box_event ?hg (N := 1) ?hd (cs := #[.int .i64 a0_0, .int .i64 a0_1, .bool false, .string a0_3]) (t := 35) ?hr ?_; (case hd => rfl); (case hg => rfl); (case hr => first | (go_simp; done) | (go_simp; rfl)); intro gb183 hg w83 hbox hb; have n0_ := Aside0.mk (below_step KB hb); have n1_ := Aside0.mk (hbox); have n2_ := Aside0.mk ((KG hg : w.heap.size ≤ gb183)); have n3_ := Aside0.mk ((KG hg : w.heap.size ≤ gb183)); clear HB; have HB := n0_; have BK183 := n1_; have GW183 := n2_; have GE183 := n3_; clear n0_ n1_ n2_ n3_; clear hb hbox hg; have hcz84_0 : w83.cell? ⟨gb183, 0, none⟩ = some (.int .i64 a0_0) := (blk_cell BK183.out 0).trans rfl; have hcz84_1 : w83.cell? ⟨gb183, 1, none⟩ = some (.int .i64 a0_1) := (blk_cell BK183.out 1).trans rfl; have hcz84_2 : w83.cell? ⟨gb183, 2, none⟩ = some (.bool false) := (blk_cell BK183.out 2).trans rfl; have hcz84_3 : w83.cell? ⟨gb183, 3, none⟩ = some (.string a0_3) := (blk_cell BK183.out 3).trans rfl; have hfz84_0 := blk_frozen BK183.out 0; have hfz84_1 := blk_frozen BK183.out 1; have hfz84_2 := blk_frozen BK183.out 2; have hfz84_3 := blk_frozen BK183.out 3) | (go_at_call 63; (with_reducible refine (impl_within.calls a0_1 0 30 false _ A2.out).mono ?_); rintro e w' ⟨rfl, ⟨nd, rfl⟩⟩; (try exact KT)) | (go_at_call 52; (with_reducible refine (impl_PlaceOk.calls a0_0 false _ A79.out).mono ?_); rintro e w' ⟨rfl, ⟨nd, rfl⟩⟩; (try exact KT)))
    repeat (go_quiet (first | (go_at_call 63; (with_reducible refine (impl_within.calls a0_1 0 30 false _ A2.out).mono ?_); rintro e w' ⟨rfl, ⟨nd, rfl⟩⟩; (try exact KT)) | (go_at_call 52; (with_reducible refine (impl_PlaceOk.calls a0_0 false _ A79.out).mono ?_); rintro e w' ⟨rfl, ⟨nd, rfl⟩⟩; (try exact KT))); try go_wp2_with (first | ((with_reducible refine gate_dst (N := 1) rfl ?_); refine box_event ?hg (N := 1) ?hd (cs := #[.int .i64 a0_0, .int .i64 a0_1, .bool false, .string a0_3]) (t := 35) ?hr ?_; (case hd => rfl); (case hg => rfl); (case hr => first | (go_simp; done) | (go_simp; rfl)); intro gb183 hg w83 hbox hb; have n0_ := Aside0.mk (below_step KB hb); have n1_ := Aside0.mk (hbox); have n2_ := Aside0.mk ((KG hg : w.heap.size ≤ gb183)); have n3_ := Aside0.mk ((KG hg : w.heap.size ≤ gb183)); clear HB; have HB := n0_; have BK183 := n1_; have GW183 := n2_; have GE183 := n3_; clear n0_ n1_ n2_ n3_; clear hb hbox hg; have hcz84_0 : w83.cell? ⟨gb183, 0, none⟩ = some (.int .i64 a0_0) := (blk_cell BK183.out 0).trans rfl; have hcz84_1 : w83.cell? ⟨gb183, 1, none⟩ = some (.int .i64 a0_1) := (blk_cell BK183.out 1).trans rfl; have hcz84_2 : w83.cell? ⟨gb183, 2, none⟩ = some (.bool false) := (blk_cell BK183.out 2).trans rfl; have hcz84_3 : w83.cell? ⟨gb183, 3, none⟩ = some (.string a0_3) := (blk_cell BK183.out 3).trans rfl; have hfz84_0 := blk_frozen BK183.out 0; have hfz84_1 := blk_frozen BK183.out 1; have hfz84_2 := blk_frozen BK183.out 2; have hfz84_3 := blk_frozen BK183.out 3) | (go_at_call 63; (with_reducible refine (impl_within.calls a0_1 0 30 false _ A2.out).mono ?_); rintro e w' ⟨rfl, ⟨nd, rfl⟩⟩; (try exact KT)) | (go_at_call 52; (with_reducible refine (impl_PlaceOk.calls a0_0 false _ A79.out).mono ?_); rintro e w' ⟨rfl, ⟨nd, rfl⟩⟩; (try exact KT))))
    go_ret
    exact ⟨KE, KB⟩

/-! ### impl_entriesOk: function 68 -/
def impl_entriesOk.l0 : Nat → List (S35) → Int → Int → Option (Bool)
 | 0, _, _, _ => none
 | k + 1, x5, x6, x7 => if x7 < x6 then (if 0 ≤ x7 then (if x7 < (x5.length : Int) then ((impl_EntryOk.f ((rd_T35 x5 x7).f0) ((rd_T35 x5 x7).f1) ((rd_T35 x5 x7).f2) ((rd_T35 x5 x7).f3)).bind fun t201 => (if t201 = true then (impl_entriesOk.l0 k x5 x6 (wrap64 (x7 + 1))) else (some false))) else (none)) else (none)) else (some true)
def impl_entriesOk.f (k : Nat) (l0 : List (S35)) : Option (Bool) := impl_entriesOk.l0 k l0 (l0.length : Int) 0
theorem impl_entriesOk.mono_l : ∀ k, (∀ y0 y1 y2, LeO (impl_entriesOk.l0 k y0 y1 y2) (impl_entriesOk.l0 (k + 1) y0 y1 y2))
 | 0 => fun _ _ _ r h => by simp [impl_entriesOk.l0] at h
 | k + 1 => by
  have ih0 := impl_entriesOk.mono_l k
  ·intro y0 y1 y2
   unfold impl_entriesOk.l0
   repeat' first
   | (with_reducible exact ih0 _ _ _)
   | (with_reducible exact LeO.refl _)
   | (with_reducible exact LeO.none _)
   | (with_reducible refine LeO.ite ?_ ?_)
   | (with_reducible refine LeO.bind ?_ (fun _ => ?_))
   | exact ih0 _ _ _
   | exact LeO.none _
   | refine LeO.ite ?_ ?_
   | refine LeO.bind ?_ (fun _ => ?_)
theorem impl_entriesOk.mono : ∀ a0 k, LeO (impl_entriesOk.f k a0) (impl_entriesOk.f (k + 1) a0) := by
 intro a0 k
 have ih0 := impl_entriesOk.mono_l k
 unfold impl_entriesOk.f
 repeat' first
   | (with_reducible exact ih0 _ _ _)
   | (with_reducible exact LeO.refl _)
   | (with_reducible exact LeO.none _)
   | (with_reducible refine LeO.ite ?_ ?_)
   | (with_reducible refine LeO.bind ?_ (fun _ => ?_))
   | exact ih0 _ _ _
   | exact LeO.none _
   | refine LeO.ite ?_ ?_
   | refine LeO.bind ?_ (fun _ => ?_)
set_option maxHeartbeats 8000000 in
set_option maxRecDepth 100000 in
theorem impl_entriesOk.calls (k : Nat) (A0 : Option Addr) (c0 : Nat) (l0 : List (S35)) (r : Bool) (w : World) (hr0 : Kd.C k35 w A0 l0.length l0) (hc0 : l0.length ≤ c0) (h : impl_entriesOk.f k l0 = some r) :
  Calls Try.prog 68 #[.slice A0 l0.length c0] w fun e w' => e = .returned (.bool r) ∧ Below w.heap.size w w' := by
 have hu35 := Try.underlying35
 have HR0 := Aside0.mk hr0
 have HC0 := Aside0.mk hc0
 clear hr0 hc0
 have HB := Aside0.mk (Below.refl w.heap.size w)
 have H : (impl_entriesOk.l0 k l0 (l0.length : Int) 0) = some r := h
 clear h
 have H' := Aside0.mk H
 clear H
 go_enter Try.func68, Try.ntmps68
 go_wp2
 go_loopg [7] k (fun kq v7 w' => ∃ (x7_1 : Int), v7 = .int .i64 x7_1 ∧ Aside0 (impl_entriesOk.l0 kq l0 (l0.length : Int) x7_1 = some r) ∧ Aside0 (kq ≤ k) ∧ Aside0 (Below w.heap.size w w'))
 case atStart => exact ⟨(0), (by first | rfl | (simp; done) | (simp [*]; done)), H', ⟨Nat.le_refl _⟩, ⟨KB⟩⟩
 case round =>
  clear H'
  obtain ⟨x7_1, rfl, HA, HK1, HB⟩ := hrel
  cases gk with
  | zero => exact absurd HA.out (by simp [impl_entriesOk.l0])
  | succ k1 =>
   have H := HA.out
   clear HA
   simp only [impl_entriesOk.l0] at H
   by_cases c2 : x7_1 < (l0.length : Int)
   ·rw [if_pos c2] at H
    have c2b0 : decide (x7_1 < (l0.length : Int)) = true := decide_eq_true c2
    clear c2
    by_cases c3 : 0 ≤ x7_1
    ·rw [if_pos c3] at H
     have c3b0 : decide (0 ≤ x7_1) = true := decide_eq_true c3
     clear c3
     by_cases c4 : x7_1 < (l0.length : Int)
     ·rw [if_pos c4] at H
      have c4b0 : decide (x7_1 < (l0.length : Int)) = true := decide_eq_true c4
      clear c4
      replace H := Option.bind_eq_some_iff.mp H
      obtain ⟨t201, A50, H⟩ := H
      replace H : (if t201 = true then (impl_entriesOk.l0 k1 l0 (l0.length : Int) (wrap64 (x7_1 + 1))) else (some false)) = some r := H
      have A5 := Aside0.mk A50
      clear A50
      by_cases c6 : t201 = true
      ·subst c6
       have H1 : (impl_entriesOk.l0 k1 l0 (l0.length : Int) (wrap64 (x7_1 + 1))) = some r := by rw [if_pos rfl] at H; exact H
       clear H
       have H := H1
       clear H1
       have H' := Aside0.mk H
       clear H
       have p199 : 0 ≤ (x7_1 : Int) := of_decide_eq_true (by first | (with_reducible assumption) | assumption)
       have q199 : x7_1 < (l0.length : Int) := of_decide_eq_true (by first | (with_reducible assumption) | assumption)
       obtain ⟨ad199, e199, hx199_0, hx199_1, hx199_2, hx199_3⟩ := at_T35 HR0.out x7_1 p199 q199
       cases e199
       replace hx199_0 := (HB.out.cell (World.block_lt_of_cell? w _ hx199_0)).trans hx199_0
       replace hx199_1 := (HB.out.cell (World.block_lt_of_cell? w _ hx199_1)).trans hx199_1
       replace hx199_2 := (HB.out.cell (World.block_lt_of_cell? w _ hx199_2)).trans hx199_2
       replace hx199_3 := (HB.out.cell (World.block_lt_of_cell? w _ hx199_3)).trans hx199_3
       replace p199 := eq_true p199
       replace q199 := eq_true q199
       go_wp2_with (first | ((with_reducible refine gate_dst (N := 4) rfl ?_); refine box_event ?hg (N := 4) ?hd (cs := #[.int .i64 0, .int .i64 0, .bool false, .string (⟨#[]⟩ : ByteArray)]) (t := 35) ?hr ?_; (case hd => rfl); (case hg => rfl); (case hr => first | (go_simp; done) | (go_simp; rfl)); intro gb200 hg w7 hbox hb; have n0_ := Aside0.mk (below_step KB hb); have n1_ := Aside0.mk (hbox); have n2_ := Aside0.mk ((KG hg : w.heap.size ≤ gb200)); have n3_ := Aside0.mk ((KG hg : w.heap.size ≤ gb200)); clear HB; have HB := n0_; have BK200 := n1_; have GW200 := n2_; have GE200 := n3_; clear n0_ n1_ n2_ n3_; clear hb hbox hg; have hcz8_0 : w7.cell? ⟨gb200, 0, none⟩ = some (.int .i64 0) := (blk_cell BK200.out 0).trans rfl; have hcz8_1 : w7.cell? ⟨gb200, 1, none⟩ = some (.int .i64 0) := (blk_cell BK200.out 1).trans rfl; have hcz8_2 : w7.cell? ⟨gb200, 2, none⟩ = some (.bool false) := (blk_cell BK200.out 2).trans rfl; have hcz8_3 : w7.cell? ⟨gb200, 3, none⟩ = some (.string (⟨#[]⟩ : ByteArray)) := (blk_cell BK200.out 3).trans rfl; have hfz8_0 := blk_frozen BK200.out 0; have hfz8_1 := blk_frozen BK200.out 1; have hfz8_2 := blk_frozen BK200.out 2; have hfz8_3 := blk_frozen BK200.out 3) | ((with_reducible refine gate_callee (f := 45) rfl ?_); refine goesL_ (some 12) rfl rfl Try.func45 (by kernel_rfl) rfl #[.agg #[.int .i64 ((rd_T35 l0 x7_1).f0), .int .i64 ((rd_T35 l0 x7_1).f1), .bool ((rd_T35 l0 x7_1).f2), .string ((rd_T35 l0 x7_1).f3)]] rfl KL ?_; (with_reducible refine (impl_EntryOk.calls ((rd_T35 l0 x7_1).f0) ((rd_T35 l0 x7_1).f1) ((rd_T35 l0 x7_1).f2) ((rd_T35 l0 x7_1).f3) true _ A5.out).mono ?_); rintro e w9 ⟨rfl, hb⟩; refine ⟨_, rfl, ?_⟩; have n0_ := Aside0.mk (blk_below (g := gb200) (o := .cells #[.int .i64 ((rd_T35 l0 x7_1).f0), .int .i64 ((rd_T35 l0 x7_1).f1), .bool ((rd_T35 l0 x7_1).f2), .string ((rd_T35 l0 x7_1).f3)] 35 (0, 0)) (by (with_reducible repeat (first | refine blk_drewN ?_ _ | refine blk_drew ?_ | refine blk_alloc ?_ _)); refine blk_put (cs := #[.int .i64 ((rd_T35 l0 x7_1).f0), .int .i64 ((rd_T35 l0 x7_1).f1), .bool ((rd_T35 l0 x7_1).f2), .string (⟨#[]⟩ : ByteArray)]) ?_ 3 _ rfl; (with_reducible repeat (first | refine blk_drewN ?_ _ | refine blk_drew ?_ | refine blk_alloc ?_ _)); refine blk_put (cs := #[.int .i64 ((rd_T35 l0 x7_1).f0), .int .i64 ((rd_T35 l0 x7_1).f1), .bool false, .string (⟨#[]⟩ : ByteArray)]) ?_ 2 _ rfl; (with_reducible repeat (first | refine blk_drewN ?_ _ | refine blk_drew ?_ | refine blk_alloc ?_ _)); refine blk_put (cs := #[.int .i64 ((rd_T35 l0 x7_1).f0), .int .i64 0, .bool false, .string (⟨#[]⟩ : ByteArray)]) ?_ 1 _ rfl; (with_reducible repeat (first | refine blk_drewN ?_ _ | refine blk_drew ?_ | refine blk_alloc ?_ _)); refine blk_put (cs := #[.int .i64 0, .int .i64 0, .bool false, .string (⟨#[]⟩ : ByteArray)]) ?_ 0 _ rfl; (with_reducible repeat (first | refine blk_drewN ?_ _ | refine blk_drew ?_ | refine blk_alloc ?_ _)); exact BK200.out) hb); have n1_ := Aside0.mk (below_step KB hb); clear BK200; clear HB; have BK200 := n0_; have HB := n1_; clear n0_ n1_; (try clear hb); (try clear hb2); (try clear hk); (try clear hi)))
       go_roundg k1
       case measure => have := HK1.out; omega
       case rel => exact ⟨(wrap64 (x7_1 + 1)), (by first | rfl | (simp; done) | (simp [*]; done)), H', ⟨by have := HK1.out; omega⟩, ⟨KB⟩⟩
      ·replace c6 := Bool.eq_false_iff.mpr c6
       subst c6
       have H1 : (some false) = some r := by rw [if_neg (show ¬ (false = true) by decide)] at H; exact H
       clear H
       have H := H1
       clear H1
       obtain rfl := Option.some.inj H
       have p199 : 0 ≤ (x7_1 : Int) := of_decide_eq_true (by first | (with_reducible assumption) | assumption)
       have q199 : x7_1 < (l0.length : Int) := of_decide_eq_true (by first | (with_reducible assumption) | assumption)
       obtain ⟨ad199, e199, hx199_0, hx199_1, hx199_2, hx199_3⟩ := at_T35 HR0.out x7_1 p199 q199
       cases e199
       replace hx199_0 := (HB.out.cell (World.block_lt_of_cell? w _ hx199_0)).trans hx199_0
       replace hx199_1 := (HB.out.cell (World.block_lt_of_cell? w _ hx199_1)).trans hx199_1
       replace hx199_2 := (HB.out.cell (World.block_lt_of_cell? w _ hx199_2)).trans hx199_2
       replace hx199_3 := (HB.out.cell (World.block_lt_of_cell? w _ hx199_3)).trans hx199_3
       replace p199 := eq_true p199
       replace q199 := eq_true q199
       go_wp2_with (first | ((with_reducible refine gate_dst (N := 4) rfl ?_); refine box_event ?hg (N := 4) ?hd (cs := #[.int .i64 0, .int .i64 0, .bool false, .string (⟨#[]⟩ : ByteArray)]) (t := 35) ?hr ?_; (case hd => rfl); (case hg => rfl); (case hr => first | (go_simp; done) | (go_simp; rfl)); intro gb200 hg w10 hbox hb; have n0_ := Aside0.mk (below_step KB hb); have n1_ := Aside0.mk (hbox); have n2_ := Aside0.mk ((KG hg : w.heap.size ≤ gb200)); have n3_ := Aside0.mk ((KG hg : w.heap.size ≤ gb200)); clear HB; have HB := n0_; have BK200 := n1_; have GW200 := n2_; have GE200 := n3_; clear n0_ n1_ n2_ n3_; clear hb hbox hg; have hcz11_0 : w10.cell? ⟨gb200, 0, none⟩ = some (.int .i64 0) := (blk_cell BK200.out 0).trans rfl; have hcz11_1 : w10.cell? ⟨gb200, 1, none⟩ = some (.int .i64 0) := (blk_cell BK200.out 1).trans rfl; have hcz11_2 : w10.cell? ⟨gb200, 2, none⟩ = some (.bool false) := (blk_cell BK200.out 2).trans rfl; have hcz11_3 : w10.cell? ⟨gb200, 3, none⟩ = some (.string (⟨#[]⟩ : ByteArray)) := (blk_cell BK200.out 3).trans rfl; have hfz11_0 := blk_frozen BK200.out 0; have hfz11_1 := blk_frozen BK200.out 1; have hfz11_2 := blk_frozen BK200.out 2; have hfz11_3 := blk_frozen BK200.out 3) | ((with_reducible refine gate_callee (f := 45) rfl ?_); refine goesL_ (some 12) rfl rfl Try.func45 (by kernel_rfl) rfl #[.agg #[.int .i64 ((rd_T35 l0 x7_1).f0), .int .i64 ((rd_T35 l0 x7_1).f1), .bool ((rd_T35 l0 x7_1).f2), .string ((rd_T35 l0 x7_1).f3)]] rfl KL ?_; (with_reducible refine (impl_EntryOk.calls ((rd_T35 l0 x7_1).f0) ((rd_T35 l0 x7_1).f1) ((rd_T35 l0 x7_1).f2) ((rd_T35 l0 x7_1).f3) false _ A5.out).mono ?_); rintro e w12 ⟨rfl, hb⟩; refine ⟨_, rfl, ?_⟩; have n0_ := Aside0.mk (blk_below (g := gb200) (o := .cells #[.int .i64 ((rd_T35 l0 x7_1).f0), .int .i64 ((rd_T35 l0 x7_1).f1), .bool ((rd_T35 l0 x7_1).f2), .string ((rd_T35 l0 x7_1).f3)] 35 (0, 0)) (by (with_reducible repeat (first | refine blk_drewN ?_ _ | refine blk_drew ?_ | refine blk_alloc ?_ _)); refine blk_put (cs := #[.int .i64 ((rd_T35 l0 x7_1).f0), .int .i64 ((rd_T35 l0 x7_1).f1), .bool ((rd_T35 l0 x7_1).f2), .string (⟨#[]⟩ : ByteArray)]) ?_ 3 _ rfl; (with_reducible repeat (first | refine blk_drewN ?_ _ | refine blk_drew ?_ | refine blk_alloc ?_ _)); refine blk_put (cs := #[.int .i64 ((rd_T35 l0 x7_1).f0), .int .i64 ((rd_T35 l0 x7_1).f1), .bool false, .string (⟨#[]⟩ : ByteArray)]) ?_ 2 _ rfl; (with_reducible repeat (first | refine blk_drewN ?_ _ | refine blk_drew ?_ | refine blk_alloc ?_ _)); refine blk_put (cs := #[.int .i64 ((rd_T35 l0 x7_1).f0), .int .i64 0, .bool false, .string (⟨#[]⟩ : ByteArray)]) ?_ 1 _ rfl; (with_reducible repeat (first | refine blk_drewN ?_ _ | refine blk_drew ?_ | refine blk_alloc ?_ _)); refine blk_put (cs := #[.int .i64 0, .int .i64 0, .bool false, .string (⟨#[]⟩ : ByteArray)]) ?_ 0 _ rfl; (with_reducible repeat (first | refine blk_drewN ?_ _ | refine blk_drew ?_ | refine blk_alloc ?_ _)); exact BK200.out) hb); have n1_ := Aside0.mk (below_step KB hb); clear BK200; clear HB; have BK200 := n0_; have HB := n1_; clear n0_ n1_; (try clear hb); (try clear hb2); (try clear hk); (try clear hi)))
       go_ret
       exact ⟨KE, KB⟩
     ·rw [if_neg c4] at H
      exact absurd H (by simp)
    ·rw [if_neg c3] at H
     exact absurd H (by simp)
   ·rw [if_neg c2] at H
    have c2b0 : decide (x7_1 < (l0.length : Int)) = false := decide_eq_false c2
    clear c2
    obtain rfl := Option.some.inj H
    go_wp2
    go_ret
    exact ⟨KE, KB⟩

/-! ### impl_placesAscend: function 69 -/
def impl_placesAscend.l0 : Nat → List (S35) → List (S35) → Int → Int → Option (Bool)
 | 0, _, _, _, _ => none
 | k + 1, x0, x5, x6, x7 => if x7 < x6 then (if 0 ≤ x7 then (if x7 < (x5.length : Int) then (if x7 > 0 then (if 0 ≤ (wrap64 (x7 - 1)) then (if (wrap64 (x7 - 1)) < (x0.length : Int) then (if ((rd_T35 x0 (wrap64 (x7 - 1))).f0) ≥ ((rd_T35 x5 x7).f0) then (some false) else (impl_placesAscend.l0 k x0 x5 x6 (wrap64 (x7 + 1)))) else (none)) else (none)) else (impl_placesAscend.l0 k x0 x5 x6 (wrap64 (x7 + 1)))) else (none)) else (none)) else (some true)
def impl_placesAscend.f (k : Nat) (l0 : List (S35)) : Option (Bool) := impl_placesAscend.l0 k l0 l0 (l0.length : Int) 0
theorem impl_placesAscend.mono_l : ∀ k, (∀ y0 y1 y2 y3, LeO (impl_placesAscend.l0 k y0 y1 y2 y3) (impl_placesAscend.l0 (k + 1) y0 y1 y2 y3))
 | 0 => fun _ _ _ _ r h => by simp [impl_placesAscend.l0] at h
 | k + 1 => by
  have ih0 := impl_placesAscend.mono_l k
  ·intro y0 y1 y2 y3
   unfold impl_placesAscend.l0
   repeat' first
   | (with_reducible exact ih0 _ _ _ _)
   | (with_reducible exact LeO.refl _)
   | (with_reducible exact LeO.none _)
   | (with_reducible refine LeO.ite ?_ ?_)
   | (with_reducible refine LeO.bind ?_ (fun _ => ?_))
   | exact ih0 _ _ _ _
   | exact LeO.none _
   | refine LeO.ite ?_ ?_
   | refine LeO.bind ?_ (fun _ => ?_)
theorem impl_placesAscend.mono : ∀ a0 k, LeO (impl_placesAscend.f k a0) (impl_placesAscend.f (k + 1) a0) := by
 intro a0 k
 have ih0 := impl_placesAscend.mono_l k
 unfold impl_placesAscend.f
 repeat' first
   | (with_reducible exact ih0 _ _ _ _)
   | (with_reducible exact LeO.refl _)
   | (with_reducible exact LeO.none _)
   | (with_reducible refine LeO.ite ?_ ?_)
   | (with_reducible refine LeO.bind ?_ (fun _ => ?_))
   | exact ih0 _ _ _ _
   | exact LeO.none _
   | refine LeO.ite ?_ ?_
   | refine LeO.bind ?_ (fun _ => ?_)
set_option maxHeartbeats 8000000 in
set_option maxRecDepth 100000 in
theorem impl_placesAscend.calls (k : Nat) (A0 : Option Addr) (c0 : Nat) (l0 : List (S35)) (r : Bool) (w : World) (hr0 : Kd.C k35 w A0 l0.length l0) (hc0 : l0.length ≤ c0) (h : impl_placesAscend.f k l0 = some r) :
  Calls Try.prog 69 #[.slice A0 l0.length c0] w fun e w' => e = .returned (.bool r) ∧ Below w.heap.size w w' := by
 have hu35 := Try.underlying35
 have HR0 := Aside0.mk hr0
 have HC0 := Aside0.mk hc0
 clear hr0 hc0
 have HB := Aside0.mk (Below.refl w.heap.size w)
 have H : (impl_placesAscend.l0 k l0 l0 (l0.length : Int) 0) = some r := h
 clear h
 have H' := Aside0.mk H
 clear H
 go_enter Try.func69, Try.ntmps69
 go_wp2
 repeat (go_quiet (fail); try go_wp2)
 go_loopg [7] k (fun kq v7 w' => ∃ (x7_1 : Int), v7 = .int .i64 x7_1 ∧ Aside0 (impl_placesAscend.l0 kq l0 l0 (l0.length : Int) x7_1 = some r) ∧ Aside0 (kq ≤ k) ∧ Aside0 (Below w.heap.size w w'))
 case atStart => exact ⟨(0), (by first | rfl | (simp; done) | (simp [*]; done)), H', ⟨Nat.le_refl _⟩, ⟨KB⟩⟩
 case round =>
  clear H'
  obtain ⟨x7_1, rfl, HA, HK1, HB⟩ := hrel
  cases gk with
  | zero => exact absurd HA.out (by simp [impl_placesAscend.l0])
  | succ k1 =>
   have H := HA.out
   clear HA
   simp only [impl_placesAscend.l0] at H
   by_cases c2 : x7_1 < (l0.length : Int)
   ·rw [if_pos c2] at H
    have c2b0 : decide (x7_1 < (l0.length : Int)) = true := decide_eq_true c2
    clear c2
    by_cases c3 : 0 ≤ x7_1
    ·rw [if_pos c3] at H
     have c3b0 : decide (0 ≤ x7_1) = true := decide_eq_true c3
     clear c3
     by_cases c4 : x7_1 < (l0.length : Int)
     ·rw [if_pos c4] at H
      have c4b0 : decide (x7_1 < (l0.length : Int)) = true := decide_eq_true c4
      clear c4
      by_cases c5 : x7_1 > 0
      ·rw [if_pos c5] at H
       have c5b0 : decide (0 < x7_1) = true := decide_eq_true c5
       clear c5
       obtain ⟨ji6, hji6⟩ : ∃ j_ : Int, (wrap64 (x7_1 - 1)) = j_ := ⟨_, rfl⟩
       replace H : (if 0 ≤ (ji6) then (if (ji6) < (l0.length : Int) then (if ((rd_T35 l0 (ji6)).f0) ≥ ((rd_T35 l0 x7_1).f0) then (some false) else (impl_placesAscend.l0 k1 l0 l0 (l0.length : Int) (wrap64 (x7_1 + 1)))) else (none)) else (none)) = some r := by first | (rw [hji6] at H; exact H) | (simp only [hji6] at H ⊢; exact H)
       have hji6w : (IntKind.i64.wrap (x7_1 - 1)) = ji6 := (i64_w _).trans hji6
       by_cases c7 : 0 ≤ (ji6)
       ·rw [if_pos c7] at H
        have c7b0 : decide (0 ≤ (ji6)) = true := decide_eq_true c7
        clear c7
        by_cases c8 : (ji6) < (l0.length : Int)
        ·rw [if_pos c8] at H
         have c8b0 : decide ((ji6) < (l0.length : Int)) = true := decide_eq_true c8
         clear c8
         by_cases c9 : ((rd_T35 l0 (ji6)).f0) ≥ ((rd_T35 l0 x7_1).f0)
         ·rw [if_pos c9] at H
          have c9b0 : decide (((rd_T35 l0 x7_1).f0) ≤ ((rd_T35 l0 (ji6)).f0)) = true := decide_eq_true c9
          clear c9
          obtain rfl := Option.some.inj H
          have p202 : 0 ≤ (x7_1 : Int) := of_decide_eq_true (by first | (with_reducible assumption) | assumption)
          have q202 : x7_1 < (l0.length : Int) := of_decide_eq_true (by first | (with_reducible assumption) | assumption)
          obtain ⟨ad202, e202, hx202_0, hx202_1, hx202_2, hx202_3⟩ := at_T35 HR0.out x7_1 p202 q202
          cases e202
          replace hx202_0 := (HB.out.cell (World.block_lt_of_cell? w _ hx202_0)).trans hx202_0
          replace hx202_1 := (HB.out.cell (World.block_lt_of_cell? w _ hx202_1)).trans hx202_1
          replace hx202_2 := (HB.out.cell (World.block_lt_of_cell? w _ hx202_2)).trans hx202_2
          replace hx202_3 := (HB.out.cell (World.block_lt_of_cell? w _ hx202_3)).trans hx202_3
          replace p202 := eq_true p202
          replace q202 := eq_true q202
          go_wp2_with (first | ((with_reducible refine gate_dst (N := 4) rfl ?_); refine box_event ?hg (N := 4) ?hd (cs := #[.int .i64 0, .int .i64 0, .bool false, .string (⟨#[]⟩ : ByteArray)]) (t := 35) ?hr ?_; (case hd => rfl); (case hg => rfl); (case hr => first | (go_simp; done) | (go_simp; rfl)); intro gb203 hg w10 hbox hb; have n0_ := Aside0.mk (below_step KB hb); have n1_ := Aside0.mk (hbox); have n2_ := Aside0.mk ((KG hg : w.heap.size ≤ gb203)); have n3_ := Aside0.mk ((KG hg : w.heap.size ≤ gb203)); clear HB; have HB := n0_; have BK203 := n1_; have GW203 := n2_; have GE203 := n3_; clear n0_ n1_ n2_ n3_; clear hb hbox hg; have hcz11_0 : w10.cell? ⟨gb203, 0, none⟩ = some (.int .i64 0) := (blk_cell BK203.out 0).trans rfl; have hcz11_1 : w10.cell? ⟨gb203, 1, none⟩ = some (.int .i64 0) := (blk_cell BK203.out 1).trans rfl; have hcz11_2 : w10.cell? ⟨gb203, 2, none⟩ = some (.bool false) := (blk_cell BK203.out 2).trans rfl; have hcz11_3 : w10.cell? ⟨gb203, 3, none⟩ = some (.string (⟨#[]⟩ : ByteArray)) := (blk_cell BK203.out 3).trans rfl; have hfz11_0 := blk_frozen BK203.out 0; have hfz11_1 := blk_frozen BK203.out 1; have hfz11_2 := blk_frozen BK203.out 2; have hfz11_3 := blk_frozen BK203.out 3; have p204 : 0 ≤ ((ji6) : Int) := of_decide_eq_true (by first | (with_reducible assumption) | assumption); have q204 : (ji6) < (l0.length : Int) := of_decide_eq_true (by first | (with_reducible assumption) | assumption); obtain ⟨ad204, e204, hx204_0, hx204_1, hx204_2, hx204_3⟩ := at_T35 HR0.out (ji6) p204 q204; obtain rfl : ad202 = ad204 := (by injection e204); have hn204_0 : ad202.block ≠ gb203 := Nat.ne_of_lt (Nat.lt_of_lt_of_le (by have := World.block_lt_of_cell? _ _ hx204_0; first | rwa [add_block] at this | exact this) GW203.out); have hn204_1 : ad202.block ≠ gb203 := Nat.ne_of_lt (Nat.lt_of_lt_of_le (by have := World.block_lt_of_cell? _ _ hx204_0; first | rwa [add_block] at this | exact this) GW203.out); have hn204_2 : ad202.block ≠ gb203 := Nat.ne_of_lt (Nat.lt_of_lt_of_le (by have := World.block_lt_of_cell? _ _ hx204_0; first | rwa [add_block] at this | exact this) GW203.out); have hn204_3 : ad202.block ≠ gb203 := Nat.ne_of_lt (Nat.lt_of_lt_of_le (by have := World.block_lt_of_cell? _ _ hx204_0; first | rwa [add_block] at this | exact this) GW203.out); replace hx204_0 := (HB.out.cell (World.block_lt_of_cell? w _ hx204_0)).trans hx204_0; replace hx204_1 := (HB.out.cell (World.block_lt_of_cell? w _ hx204_1)).trans hx204_1; replace hx204_2 := (HB.out.cell (World.block_lt_of_cell? w _ hx204_2)).trans hx204_2; replace hx204_3 := (HB.out.cell (World.block_lt_of_cell? w _ hx204_3)).trans hx204_3; replace hx204_0 := (cell_far (p := ⟨gb203, 0, none⟩) (by first | (rw [add_block]; exact hn204_0) | (show (Addr.add _ _).block ≠ _; rw [add_block]; exact hn204_0) | exact hn204_0) (.int .i64 ((rd_T35 l0 x7_1).f0))).trans hx204_0; replace hx204_1 := (cell_far (p := ⟨gb203, 0, none⟩) (by first | (rw [add_block]; exact hn204_0) | (show (Addr.add _ _).block ≠ _; rw [add_block]; exact hn204_0) | exact hn204_0) (.int .i64 ((rd_T35 l0 x7_1).f0))).trans hx204_1; replace hx204_2 := (cell_far (p := ⟨gb203, 0, none⟩) (by first | (rw [add_block]; exact hn204_0) | (show (Addr.add _ _).block ≠ _; rw [add_block]; exact hn204_0) | exact hn204_0) (.int .i64 ((rd_T35 l0 x7_1).f0))).trans hx204_2; replace hx204_3 := (cell_far (p := ⟨gb203, 0, none⟩) (by first | (rw [add_block]; exact hn204_0) | (show (Addr.add _ _).block ≠ _; rw [add_block]; exact hn204_0) | exact hn204_0) (.int .i64 ((rd_T35 l0 x7_1).f0))).trans hx204_3; replace hx204_0 := (cell_far (p := ⟨gb203, 1, none⟩) (by first | (rw [add_block]; exact hn204_1) | (show (Addr.add _ _).block ≠ _; rw [add_block]; exact hn204_1) | exact hn204_1) (.int .i64 ((rd_T35 l0 x7_1).f1))).trans hx204_0; replace hx204_1 := (cell_far (p := ⟨gb203, 1, none⟩) (by first | (rw [add_block]; exact hn204_1) | (show (Addr.add _ _).block ≠ _; rw [add_block]; exact hn204_1) | exact hn204_1) (.int .i64 ((rd_T35 l0 x7_1).f1))).trans hx204_1; replace hx204_2 := (cell_far (p := ⟨gb203, 1, none⟩) (by first | (rw [add_block]; exact hn204_1) | (show (Addr.add _ _).block ≠ _; rw [add_block]; exact hn204_1) | exact hn204_1) (.int .i64 ((rd_T35 l0 x7_1).f1))).trans hx204_2; replace hx204_3 := (cell_far (p := ⟨gb203, 1, none⟩) (by first | (rw [add_block]; exact hn204_1) | (show (Addr.add _ _).block ≠ _; rw [add_block]; exact hn204_1) | exact hn204_1) (.int .i64 ((rd_T35 l0 x7_1).f1))).trans hx204_3; replace hx204_0 := (cell_far (p := ⟨gb203, 2, none⟩) (by first | (rw [add_block]; exact hn204_2) | (show (Addr.add _ _).block ≠ _; rw [add_block]; exact hn204_2) | exact hn204_2) (.bool ((rd_T35 l0 x7_1).f2))).trans hx204_0; replace hx204_1 := (cell_far (p := ⟨gb203, 2, none⟩) (by first | (rw [add_block]; exact hn204_2) | (show (Addr.add _ _).block ≠ _; rw [add_block]; exact hn204_2) | exact hn204_2) (.bool ((rd_T35 l0 x7_1).f2))).trans hx204_1; replace hx204_2 := (cell_far (p := ⟨gb203, 2, none⟩) (by first | (rw [add_block]; exact hn204_2) | (show (Addr.add _ _).block ≠ _; rw [add_block]; exact hn204_2) | exact hn204_2) (.bool ((rd_T35 l0 x7_1).f2))).trans hx204_2; replace hx204_3 := (cell_far (p := ⟨gb203, 2, none⟩) (by first | (rw [add_block]; exact hn204_2) | (show (Addr.add _ _).block ≠ _; rw [add_block]; exact hn204_2) | exact hn204_2) (.bool ((rd_T35 l0 x7_1).f2))).trans hx204_3; replace hx204_0 := (cell_far (p := ⟨gb203, 3, none⟩) (by first | (rw [add_block]; exact hn204_3) | (show (Addr.add _ _).block ≠ _; rw [add_block]; exact hn204_3) | exact hn204_3) (.string ((rd_T35 l0 x7_1).f3))).trans hx204_0; replace hx204_1 := (cell_far (p := ⟨gb203, 3, none⟩) (by first | (rw [add_block]; exact hn204_3) | (show (Addr.add _ _).block ≠ _; rw [add_block]; exact hn204_3) | exact hn204_3) (.string ((rd_T35 l0 x7_1).f3))).trans hx204_1; replace hx204_2 := (cell_far (p := ⟨gb203, 3, none⟩) (by first | (rw [add_block]; exact hn204_3) | (show (Addr.add _ _).block ≠ _; rw [add_block]; exact hn204_3) | exact hn204_3) (.string ((rd_T35 l0 x7_1).f3))).trans hx204_2; replace hx204_3 := (cell_far (p := ⟨gb203, 3, none⟩) (by first | (rw [add_block]; exact hn204_3) | (show (Addr.add _ _).block ≠ _; rw [add_block]; exact hn204_3) | exact hn204_3) (.string ((rd_T35 l0 x7_1).f3))).trans hx204_3; (try have hy204_0 := fun (n_ : Nat) => (show ((((((w10.drewN n_).setCell ⟨gb203, 0, none⟩ (.int .i64 ((rd_T35 l0 x7_1).f0))).setCell ⟨gb203, 1, none⟩ (.int .i64 ((rd_T35 l0 x7_1).f1))).setCell ⟨gb203, 2, none⟩ (.bool ((rd_T35 l0 x7_1).f2))).setCell ⟨gb203, 3, none⟩ (.string ((rd_T35 l0 x7_1).f3)))).cell? _ = some _ from hx204_0)); (try have hy204_1 := fun (n_ : Nat) => (show ((((((w10.drewN n_).setCell ⟨gb203, 0, none⟩ (.int .i64 ((rd_T35 l0 x7_1).f0))).setCell ⟨gb203, 1, none⟩ (.int .i64 ((rd_T35 l0 x7_1).f1))).setCell ⟨gb203, 2, none⟩ (.bool ((rd_T35 l0 x7_1).f2))).setCell ⟨gb203, 3, none⟩ (.string ((rd_T35 l0 x7_1).f3)))).cell? _ = some _ from hx204_1)); (try have hy204_2 := fun (n_ : Nat) => (show ((((((w10.drewN n_).setCell ⟨gb203, 0, none⟩ (.int .i64 ((rd_T35 l0 x7_1).f0))).setCell ⟨gb203, 1, none⟩ (.int .i64 ((rd_T35 l0 x7_1).f1))).setCell ⟨gb203, 2, none⟩ (.bool ((rd_T35 l0 x7_1).f2))).setCell ⟨gb203, 3, none⟩ (.string ((rd_T35 l0 x7_1).f3)))).cell? _ = some _ from hx204_2)); (try have hy204_3 := fun (n_ : Nat) => (show ((((((w10.drewN n_).setCell ⟨gb203, 0, none⟩ (.int .i64 ((rd_T35 l0 x7_1).f0))).setCell ⟨gb203, 1, none⟩ (.int .i64 ((rd_T35 l0 x7_1).f1))).setCell ⟨gb203, 2, none⟩ (.bool ((rd_T35 l0 x7_1).f2))).setCell ⟨gb203, 3, none⟩ (.string ((rd_T35 l0 x7_1).f3)))).cell? _ = some _ from hx204_3)); clear hn204_0; clear hn204_1; clear hn204_2; clear hn204_3; replace p204 := eq_true p204; replace q204 := eq_true q204))
          repeat (go_quiet (fail); try go_wp2_with (first | ((with_reducible refine gate_dst (N := 4) rfl ?_); refine box_event ?hg (N := 4) ?hd (cs := #[.int .i64 0, .int .i64 0, .bool false, .string (⟨#[]⟩ : ByteArray)]) (t := 35) ?hr ?_; (case hd => rfl); (case hg => rfl); (case hr => first | (go_simp; done) | (go_simp; rfl)); intro gb203 hg w10 hbox hb; have n0_ := Aside0.mk (below_step KB hb); have n1_ := Aside0.mk (hbox); have n2_ := Aside0.mk ((KG hg : w.heap.size ≤ gb203)); have n3_ := Aside0.mk ((KG hg : w.heap.size ≤ gb203)); clear HB; have HB := n0_; have BK203 := n1_; have GW203 := n2_; have GE203 := n3_; clear n0_ n1_ n2_ n3_; clear hb hbox hg; have hcz11_0 : w10.cell? ⟨gb203, 0, none⟩ = some (.int .i64 0) := (blk_cell BK203.out 0).trans rfl; have hcz11_1 : w10.cell? ⟨gb203, 1, none⟩ = some (.int .i64 0) := (blk_cell BK203.out 1).trans rfl; have hcz11_2 : w10.cell? ⟨gb203, 2, none⟩ = some (.bool false) := (blk_cell BK203.out 2).trans rfl; have hcz11_3 : w10.cell? ⟨gb203, 3, none⟩ = some (.string (⟨#[]⟩ : ByteArray)) := (blk_cell BK203.out 3).trans rfl; have hfz11_0 := blk_frozen BK203.out 0; have hfz11_1 := blk_frozen BK203.out 1; have hfz11_2 := blk_frozen BK203.out 2; have hfz11_3 := blk_frozen BK203.out 3; have p204 : 0 ≤ ((ji6) : Int) := of_decide_eq_true (by first | (with_reducible assumption) | assumption); have q204 : (ji6) < (l0.length : Int) := of_decide_eq_true (by first | (with_reducible assumption) | assumption); obtain ⟨ad204, e204, hx204_0, hx204_1, hx204_2, hx204_3⟩ := at_T35 HR0.out (ji6) p204 q204; obtain rfl : ad202 = ad204 := (by injection e204); have hn204_0 : ad202.block ≠ gb203 := Nat.ne_of_lt (Nat.lt_of_lt_of_le (by have := World.block_lt_of_cell? _ _ hx204_0; first | rwa [add_block] at this | exact this) GW203.out); have hn204_1 : ad202.block ≠ gb203 := Nat.ne_of_lt (Nat.lt_of_lt_of_le (by have := World.block_lt_of_cell? _ _ hx204_0; first | rwa [add_block] at this | exact this) GW203.out); have hn204_2 : ad202.block ≠ gb203 := Nat.ne_of_lt (Nat.lt_of_lt_of_le (by have := World.block_lt_of_cell? _ _ hx204_0; first | rwa [add_block] at this | exact this) GW203.out); have hn204_3 : ad202.block ≠ gb203 := Nat.ne_of_lt (Nat.lt_of_lt_of_le (by have := World.block_lt_of_cell? _ _ hx204_0; first | rwa [add_block] at this | exact this) GW203.out); replace hx204_0 := (HB.out.cell (World.block_lt_of_cell? w _ hx204_0)).trans hx204_0; replace hx204_1 := (HB.out.cell (World.block_lt_of_cell? w _ hx204_1)).trans hx204_1; replace hx204_2 := (HB.out.cell (World.block_lt_of_cell? w _ hx204_2)).trans hx204_2; replace hx204_3 := (HB.out.cell (World.block_lt_of_cell? w _ hx204_3)).trans hx204_3; replace hx204_0 := (cell_far (p := ⟨gb203, 0, none⟩) (by first | (rw [add_block]; exact hn204_0) | (show (Addr.add _ _).block ≠ _; rw [add_block]; exact hn204_0) | exact hn204_0) (.int .i64 ((rd_T35 l0 x7_1).f0))).trans hx204_0; replace hx204_1 := (cell_far (p := ⟨gb203, 0, none⟩) (by first | (rw [add_block]; exact hn204_0) | (show (Addr.add _ _).block ≠ _; rw [add_block]; exact hn204_0) | exact hn204_0) (.int .i64 ((rd_T35 l0 x7_1).f0))).trans hx204_1; replace hx204_2 := (cell_far (p := ⟨gb203, 0, none⟩) (by first | (rw [add_block]; exact hn204_0) | (show (Addr.add _ _).block ≠ _; rw [add_block]; exact hn204_0) | exact hn204_0) (.int .i64 ((rd_T35 l0 x7_1).f0))).trans hx204_2; replace hx204_3 := (cell_far (p := ⟨gb203, 0, none⟩) (by first | (rw [add_block]; exact hn204_0) | (show (Addr.add _ _).block ≠ _; rw [add_block]; exact hn204_0) | exact hn204_0) (.int .i64 ((rd_T35 l0 x7_1).f0))).trans hx204_3; replace hx204_0 := (cell_far (p := ⟨gb203, 1, none⟩) (by first | (rw [add_block]; exact hn204_1) | (show (Addr.add _ _).block ≠ _; rw [add_block]; exact hn204_1) | exact hn204_1) (.int .i64 ((rd_T35 l0 x7_1).f1))).trans hx204_0; replace hx204_1 := (cell_far (p := ⟨gb203, 1, none⟩) (by first | (rw [add_block]; exact hn204_1) | (show (Addr.add _ _).block ≠ _; rw [add_block]; exact hn204_1) | exact hn204_1) (.int .i64 ((rd_T35 l0 x7_1).f1))).trans hx204_1; replace hx204_2 := (cell_far (p := ⟨gb203, 1, none⟩) (by first | (rw [add_block]; exact hn204_1) | (show (Addr.add _ _).block ≠ _; rw [add_block]; exact hn204_1) | exact hn204_1) (.int .i64 ((rd_T35 l0 x7_1).f1))).trans hx204_2; replace hx204_3 := (cell_far (p := ⟨gb203, 1, none⟩) (by first | (rw [add_block]; exact hn204_1) | (show (Addr.add _ _).block ≠ _; rw [add_block]; exact hn204_1) | exact hn204_1) (.int .i64 ((rd_T35 l0 x7_1).f1))).trans hx204_3; replace hx204_0 := (cell_far (p := ⟨gb203, 2, none⟩) (by first | (rw [add_block]; exact hn204_2) | (show (Addr.add _ _).block ≠ _; rw [add_block]; exact hn204_2) | exact hn204_2) (.bool ((rd_T35 l0 x7_1).f2))).trans hx204_0; replace hx204_1 := (cell_far (p := ⟨gb203, 2, none⟩) (by first | (rw [add_block]; exact hn204_2) | (show (Addr.add _ _).block ≠ _; rw [add_block]; exact hn204_2) | exact hn204_2) (.bool ((rd_T35 l0 x7_1).f2))).trans hx204_1; replace hx204_2 := (cell_far (p := ⟨gb203, 2, none⟩) (by first | (rw [add_block]; exact hn204_2) | (show (Addr.add _ _).block ≠ _; rw [add_block]; exact hn204_2) | exact hn204_2) (.bool ((rd_T35 l0 x7_1).f2))).trans hx204_2; replace hx204_3 := (cell_far (p := ⟨gb203, 2, none⟩) (by first | (rw [add_block]; exact hn204_2) | (show (Addr.add _ _).block ≠ _; rw [add_block]; exact hn204_2) | exact hn204_2) (.bool ((rd_T35 l0 x7_1).f2))).trans hx204_3; replace hx204_0 := (cell_far (p := ⟨gb203, 3, none⟩) (by first | (rw [add_block]; exact hn204_3) | (show (Addr.add _ _).block ≠ _; rw [add_block]; exact hn204_3) | exact hn204_3) (.string ((rd_T35 l0 x7_1).f3))).trans hx204_0; replace hx204_1 := (cell_far (p := ⟨gb203, 3, none⟩) (by first | (rw [add_block]; exact hn204_3) | (show (Addr.add _ _).block ≠ _; rw [add_block]; exact hn204_3) | exact hn204_3) (.string ((rd_T35 l0 x7_1).f3))).trans hx204_1; replace hx204_2 := (cell_far (p := ⟨gb203, 3, none⟩) (by first | (rw [add_block]; exact hn204_3) | (show (Addr.add _ _).block ≠ _; rw [add_block]; exact hn204_3) | exact hn204_3) (.string ((rd_T35 l0 x7_1).f3))).trans hx204_2; replace hx204_3 := (cell_far (p := ⟨gb203, 3, none⟩) (by first | (rw [add_block]; exact hn204_3) | (show (Addr.add _ _).block ≠ _; rw [add_block]; exact hn204_3) | exact hn204_3) (.string ((rd_T35 l0 x7_1).f3))).trans hx204_3; (try have hy204_0 := fun (n_ : Nat) => (show ((((((w10.drewN n_).setCell ⟨gb203, 0, none⟩ (.int .i64 ((rd_T35 l0 x7_1).f0))).setCell ⟨gb203, 1, none⟩ (.int .i64 ((rd_T35 l0 x7_1).f1))).setCell ⟨gb203, 2, none⟩ (.bool ((rd_T35 l0 x7_1).f2))).setCell ⟨gb203, 3, none⟩ (.string ((rd_T35 l0 x7_1).f3)))).cell? _ = some _ from hx204_0)); (try have hy204_1 := fun (n_ : Nat) => (show ((((((w10.drewN n_).setCell ⟨gb203, 0, none⟩ (.int .i64 ((rd_T35 l0 x7_1).f0))).setCell ⟨gb203, 1, none⟩ (.int .i64 ((rd_T35 l0 x7_1).f1))).setCell ⟨gb203, 2, none⟩ (.bool ((rd_T35 l0 x7_1).f2))).setCell ⟨gb203, 3, none⟩ (.string ((rd_T35 l0 x7_1).f3)))).cell? _ = some _ from hx204_1)); (try have hy204_2 := fun (n_ : Nat) => (show ((((((w10.drewN n_).setCell ⟨gb203, 0, none⟩ (.int .i64 ((rd_T35 l0 x7_1).f0))).setCell ⟨gb203, 1, none⟩ (.int .i64 ((rd_T35 l0 x7_1).f1))).setCell ⟨gb203, 2, none⟩ (.bool ((rd_T35 l0 x7_1).f2))).setCell ⟨gb203, 3, none⟩ (.string ((rd_T35 l0 x7_1).f3)))).cell? _ = some _ from hx204_2)); (try have hy204_3 := fun (n_ : Nat) => (show ((((((w10.drewN n_).setCell ⟨gb203, 0, none⟩ (.int .i64 ((rd_T35 l0 x7_1).f0))).setCell ⟨gb203, 1, none⟩ (.int .i64 ((rd_T35 l0 x7_1).f1))).setCell ⟨gb203, 2, none⟩ (.bool ((rd_T35 l0 x7_1).f2))).setCell ⟨gb203, 3, none⟩ (.string ((rd_T35 l0 x7_1).f3)))).cell? _ = some _ from hx204_3)); clear hn204_0; clear hn204_1; clear hn204_2; clear hn204_3; replace p204 := eq_true p204; replace q204 := eq_true q204)))
          go_ret
          exact ⟨by first | rfl | (simp [errW_none, errW_some] <;> rfl) | (simp only [← hji6]; first | rfl | (simp [errW_none, errW_some] <;> rfl)) | (simp [*, errW_none, errW_some] <;> rfl), KB⟩
         ·rw [if_neg c9] at H
          have c9b0 : decide (((rd_T35 l0 x7_1).f0) ≤ ((rd_T35 l0 (ji6)).f0)) = false := decide_eq_false c9
          clear c9
          have H' := Aside0.mk H
          clear H
          have p202 : 0 ≤ (x7_1 : Int) := of_decide_eq_true (by first | (with_reducible assumption) | assumption)
          have q202 : x7_1 < (l0.length : Int) := of_decide_eq_true (by first | (with_reducible assumption) | assumption)
          obtain ⟨ad202, e202, hx202_0, hx202_1, hx202_2, hx202_3⟩ := at_T35 HR0.out x7_1 p202 q202
          cases e202
          replace hx202_0 := (HB.out.cell (World.block_lt_of_cell? w _ hx202_0)).trans hx202_0
          replace hx202_1 := (HB.out.cell (World.block_lt_of_cell? w _ hx202_1)).trans hx202_1
          replace hx202_2 := (HB.out.cell (World.block_lt_of_cell? w _ hx202_2)).trans hx202_2
          replace hx202_3 := (HB.out.cell (World.block_lt_of_cell? w _ hx202_3)).trans hx202_3
          replace p202 := eq_true p202
          replace q202 := eq_true q202
          go_wp2_with (first | ((with_reducible refine gate_dst (N := 4) rfl ?_); refine box_event ?hg (N := 4) ?hd (cs := #[.int .i64 0, .int .i64 0, .bool false, .string (⟨#[]⟩ : ByteArray)]) (t := 35) ?hr ?_; (case hd => rfl); (case hg => rfl); (case hr => first | (go_simp; done) | (go_simp; rfl)); intro gb203 hg w12 hbox hb; have n0_ := Aside0.mk (below_step KB hb); have n1_ := Aside0.mk (hbox); have n2_ := Aside0.mk ((KG hg : w.heap.size ≤ gb203)); have n3_ := Aside0.mk ((KG hg : w.heap.size ≤ gb203)); clear HB; have HB := n0_; have BK203 := n1_; have GW203 := n2_; have GE203 := n3_; clear n0_ n1_ n2_ n3_; clear hb hbox hg; have hcz13_0 : w12.cell? ⟨gb203, 0, none⟩ = some (.int .i64 0) := (blk_cell BK203.out 0).trans rfl; have hcz13_1 : w12.cell? ⟨gb203, 1, none⟩ = some (.int .i64 0) := (blk_cell BK203.out 1).trans rfl; have hcz13_2 : w12.cell? ⟨gb203, 2, none⟩ = some (.bool false) := (blk_cell BK203.out 2).trans rfl; have hcz13_3 : w12.cell? ⟨gb203, 3, none⟩ = some (.string (⟨#[]⟩ : ByteArray)) := (blk_cell BK203.out 3).trans rfl; have hfz13_0 := blk_frozen BK203.out 0; have hfz13_1 := blk_frozen BK203.out 1; have hfz13_2 := blk_frozen BK203.out 2; have hfz13_3 := blk_frozen BK203.out 3; have p204 : 0 ≤ ((ji6) : Int) := of_decide_eq_true (by first | (with_reducible assumption) | assumption); have q204 : (ji6) < (l0.length : Int) := of_decide_eq_true (by first | (with_reducible assumption) | assumption); obtain ⟨ad204, e204, hx204_0, hx204_1, hx204_2, hx204_3⟩ := at_T35 HR0.out (ji6) p204 q204; obtain rfl : ad202 = ad204 := (by injection e204); have hn204_0 : ad202.block ≠ gb203 := Nat.ne_of_lt (Nat.lt_of_lt_of_le (by have := World.block_lt_of_cell? _ _ hx204_0; first | rwa [add_block] at this | exact this) GW203.out); have hn204_1 : ad202.block ≠ gb203 := Nat.ne_of_lt (Nat.lt_of_lt_of_le (by have := World.block_lt_of_cell? _ _ hx204_0; first | rwa [add_block] at this | exact this) GW203.out); have hn204_2 : ad202.block ≠ gb203 := Nat.ne_of_lt (Nat.lt_of_lt_of_le (by have := World.block_lt_of_cell? _ _ hx204_0; first | rwa [add_block] at this | exact this) GW203.out); have hn204_3 : ad202.block ≠ gb203 := Nat.ne_of_lt (Nat.lt_of_lt_of_le (by have := World.block_lt_of_cell? _ _ hx204_0; first | rwa [add_block] at this | exact this) GW203.out); replace hx204_0 := (HB.out.cell (World.block_lt_of_cell? w _ hx204_0)).trans hx204_0; replace hx204_1 := (HB.out.cell (World.block_lt_of_cell? w _ hx204_1)).trans hx204_1; replace hx204_2 := (HB.out.cell (World.block_lt_of_cell? w _ hx204_2)).trans hx204_2; replace hx204_3 := (HB.out.cell (World.block_lt_of_cell? w _ hx204_3)).trans hx204_3; replace hx204_0 := (cell_far (p := ⟨gb203, 0, none⟩) (by first | (rw [add_block]; exact hn204_0) | (show (Addr.add _ _).block ≠ _; rw [add_block]; exact hn204_0) | exact hn204_0) (.int .i64 ((rd_T35 l0 x7_1).f0))).trans hx204_0; replace hx204_1 := (cell_far (p := ⟨gb203, 0, none⟩) (by first | (rw [add_block]; exact hn204_0) | (show (Addr.add _ _).block ≠ _; rw [add_block]; exact hn204_0) | exact hn204_0) (.int .i64 ((rd_T35 l0 x7_1).f0))).trans hx204_1; replace hx204_2 := (cell_far (p := ⟨gb203, 0, none⟩) (by first | (rw [add_block]; exact hn204_0) | (show (Addr.add _ _).block ≠ _; rw [add_block]; exact hn204_0) | exact hn204_0) (.int .i64 ((rd_T35 l0 x7_1).f0))).trans hx204_2; replace hx204_3 := (cell_far (p := ⟨gb203, 0, none⟩) (by first | (rw [add_block]; exact hn204_0) | (show (Addr.add _ _).block ≠ _; rw [add_block]; exact hn204_0) | exact hn204_0) (.int .i64 ((rd_T35 l0 x7_1).f0))).trans hx204_3; replace hx204_0 := (cell_far (p := ⟨gb203, 1, none⟩) (by first | (rw [add_block]; exact hn204_1) | (show (Addr.add _ _).block ≠ _; rw [add_block]; exact hn204_1) | exact hn204_1) (.int .i64 ((rd_T35 l0 x7_1).f1))).trans hx204_0; replace hx204_1 := (cell_far (p := ⟨gb203, 1, none⟩) (by first | (rw [add_block]; exact hn204_1) | (show (Addr.add _ _).block ≠ _; rw [add_block]; exact hn204_1) | exact hn204_1) (.int .i64 ((rd_T35 l0 x7_1).f1))).trans hx204_1; replace hx204_2 := (cell_far (p := ⟨gb203, 1, none⟩) (by first | (rw [add_block]; exact hn204_1) | (show (Addr.add _ _).block ≠ _; rw [add_block]; exact hn204_1) | exact hn204_1) (.int .i64 ((rd_T35 l0 x7_1).f1))).trans hx204_2; replace hx204_3 := (cell_far (p := ⟨gb203, 1, none⟩) (by first | (rw [add_block]; exact hn204_1) | (show (Addr.add _ _).block ≠ _; rw [add_block]; exact hn204_1) | exact hn204_1) (.int .i64 ((rd_T35 l0 x7_1).f1))).trans hx204_3; replace hx204_0 := (cell_far (p := ⟨gb203, 2, none⟩) (by first | (rw [add_block]; exact hn204_2) | (show (Addr.add _ _).block ≠ _; rw [add_block]; exact hn204_2) | exact hn204_2) (.bool ((rd_T35 l0 x7_1).f2))).trans hx204_0; replace hx204_1 := (cell_far (p := ⟨gb203, 2, none⟩) (by first | (rw [add_block]; exact hn204_2) | (show (Addr.add _ _).block ≠ _; rw [add_block]; exact hn204_2) | exact hn204_2) (.bool ((rd_T35 l0 x7_1).f2))).trans hx204_1; replace hx204_2 := (cell_far (p := ⟨gb203, 2, none⟩) (by first | (rw [add_block]; exact hn204_2) | (show (Addr.add _ _).block ≠ _; rw [add_block]; exact hn204_2) | exact hn204_2) (.bool ((rd_T35 l0 x7_1).f2))).trans hx204_2; replace hx204_3 := (cell_far (p := ⟨gb203, 2, none⟩) (by first | (rw [add_block]; exact hn204_2) | (show (Addr.add _ _).block ≠ _; rw [add_block]; exact hn204_2) | exact hn204_2) (.bool ((rd_T35 l0 x7_1).f2))).trans hx204_3; replace hx204_0 := (cell_far (p := ⟨gb203, 3, none⟩) (by first | (rw [add_block]; exact hn204_3) | (show (Addr.add _ _).block ≠ _; rw [add_block]; exact hn204_3) | exact hn204_3) (.string ((rd_T35 l0 x7_1).f3))).trans hx204_0; replace hx204_1 := (cell_far (p := ⟨gb203, 3, none⟩) (by first | (rw [add_block]; exact hn204_3) | (show (Addr.add _ _).block ≠ _; rw [add_block]; exact hn204_3) | exact hn204_3) (.string ((rd_T35 l0 x7_1).f3))).trans hx204_1; replace hx204_2 := (cell_far (p := ⟨gb203, 3, none⟩) (by first | (rw [add_block]; exact hn204_3) | (show (Addr.add _ _).block ≠ _; rw [add_block]; exact hn204_3) | exact hn204_3) (.string ((rd_T35 l0 x7_1).f3))).trans hx204_2; replace hx204_3 := (cell_far (p := ⟨gb203, 3, none⟩) (by first | (rw [add_block]; exact hn204_3) | (show (Addr.add _ _).block ≠ _; rw [add_block]; exact hn204_3) | exact hn204_3) (.string ((rd_T35 l0 x7_1).f3))).trans hx204_3; (try have hy204_0 := fun (n_ : Nat) => (show ((((((w12.drewN n_).setCell ⟨gb203, 0, none⟩ (.int .i64 ((rd_T35 l0 x7_1).f0))).setCell ⟨gb203, 1, none⟩ (.int .i64 ((rd_T35 l0 x7_1).f1))).setCell ⟨gb203, 2, none⟩ (.bool ((rd_T35 l0 x7_1).f2))).setCell ⟨gb203, 3, none⟩ (.string ((rd_T35 l0 x7_1).f3)))).cell? _ = some _ from hx204_0)); (try have hy204_1 := fun (n_ : Nat) => (show ((((((w12.drewN n_).setCell ⟨gb203, 0, none⟩ (.int .i64 ((rd_T35 l0 x7_1).f0))).setCell ⟨gb203, 1, none⟩ (.int .i64 ((rd_T35 l0 x7_1).f1))).setCell ⟨gb203, 2, none⟩ (.bool ((rd_T35 l0 x7_1).f2))).setCell ⟨gb203, 3, none⟩ (.string ((rd_T35 l0 x7_1).f3)))).cell? _ = some _ from hx204_1)); (try have hy204_2 := fun (n_ : Nat) => (show ((((((w12.drewN n_).setCell ⟨gb203, 0, none⟩ (.int .i64 ((rd_T35 l0 x7_1).f0))).setCell ⟨gb203, 1, none⟩ (.int .i64 ((rd_T35 l0 x7_1).f1))).setCell ⟨gb203, 2, none⟩ (.bool ((rd_T35 l0 x7_1).f2))).setCell ⟨gb203, 3, none⟩ (.string ((rd_T35 l0 x7_1).f3)))).cell? _ = some _ from hx204_2)); (try have hy204_3 := fun (n_ : Nat) => (show ((((((w12.drewN n_).setCell ⟨gb203, 0, none⟩ (.int .i64 ((rd_T35 l0 x7_1).f0))).setCell ⟨gb203, 1, none⟩ (.int .i64 ((rd_T35 l0 x7_1).f1))).setCell ⟨gb203, 2, none⟩ (.bool ((rd_T35 l0 x7_1).f2))).setCell ⟨gb203, 3, none⟩ (.string ((rd_T35 l0 x7_1).f3)))).cell? _ = some _ from hx204_3)); clear hn204_0; clear hn204_1; clear hn204_2; clear hn204_3; replace p204 := eq_true p204; replace q204 := eq_true q204))
          repeat (go_quiet (fail); try go_wp2_with (first | ((with_reducible refine gate_dst (N := 4) rfl ?_); refine box_event ?hg (N := 4) ?hd (cs := #[.int .i64 0, .int .i64 0, .bool false, .string (⟨#[]⟩ : ByteArray)]) (t := 35) ?hr ?_; (case hd => rfl); (case hg => rfl); (case hr => first | (go_simp; done) | (go_simp; rfl)); intro gb203 hg w12 hbox hb; have n0_ := Aside0.mk (below_step KB hb); have n1_ := Aside0.mk (hbox); have n2_ := Aside0.mk ((KG hg : w.heap.size ≤ gb203)); have n3_ := Aside0.mk ((KG hg : w.heap.size ≤ gb203)); clear HB; have HB := n0_; have BK203 := n1_; have GW203 := n2_; have GE203 := n3_; clear n0_ n1_ n2_ n3_; clear hb hbox hg; have hcz13_0 : w12.cell? ⟨gb203, 0, none⟩ = some (.int .i64 0) := (blk_cell BK203.out 0).trans rfl; have hcz13_1 : w12.cell? ⟨gb203, 1, none⟩ = some (.int .i64 0) := (blk_cell BK203.out 1).trans rfl; have hcz13_2 : w12.cell? ⟨gb203, 2, none⟩ = some (.bool false) := (blk_cell BK203.out 2).trans rfl; have hcz13_3 : w12.cell? ⟨gb203, 3, none⟩ = some (.string (⟨#[]⟩ : ByteArray)) := (blk_cell BK203.out 3).trans rfl; have hfz13_0 := blk_frozen BK203.out 0; have hfz13_1 := blk_frozen BK203.out 1; have hfz13_2 := blk_frozen BK203.out 2; have hfz13_3 := blk_frozen BK203.out 3; have p204 : 0 ≤ ((ji6) : Int) := of_decide_eq_true (by first | (with_reducible assumption) | assumption); have q204 : (ji6) < (l0.length : Int) := of_decide_eq_true (by first | (with_reducible assumption) | assumption); obtain ⟨ad204, e204, hx204_0, hx204_1, hx204_2, hx204_3⟩ := at_T35 HR0.out (ji6) p204 q204; obtain rfl : ad202 = ad204 := (by injection e204); have hn204_0 : ad202.block ≠ gb203 := Nat.ne_of_lt (Nat.lt_of_lt_of_le (by have := World.block_lt_of_cell? _ _ hx204_0; first | rwa [add_block] at this | exact this) GW203.out); have hn204_1 : ad202.block ≠ gb203 := Nat.ne_of_lt (Nat.lt_of_lt_of_le (by have := World.block_lt_of_cell? _ _ hx204_0; first | rwa [add_block] at this | exact this) GW203.out); have hn204_2 : ad202.block ≠ gb203 := Nat.ne_of_lt (Nat.lt_of_lt_of_le (by have := World.block_lt_of_cell? _ _ hx204_0; first | rwa [add_block] at this | exact this) GW203.out); have hn204_3 : ad202.block ≠ gb203 := Nat.ne_of_lt (Nat.lt_of_lt_of_le (by have := World.block_lt_of_cell? _ _ hx204_0; first | rwa [add_block] at this | exact this) GW203.out); replace hx204_0 := (HB.out.cell (World.block_lt_of_cell? w _ hx204_0)).trans hx204_0; replace hx204_1 := (HB.out.cell (World.block_lt_of_cell? w _ hx204_1)).trans hx204_1; replace hx204_2 := (HB.out.cell (World.block_lt_of_cell? w _ hx204_2)).trans hx204_2; replace hx204_3 := (HB.out.cell (World.block_lt_of_cell? w _ hx204_3)).trans hx204_3; replace hx204_0 := (cell_far (p := ⟨gb203, 0, none⟩) (by first | (rw [add_block]; exact hn204_0) | (show (Addr.add _ _).block ≠ _; rw [add_block]; exact hn204_0) | exact hn204_0) (.int .i64 ((rd_T35 l0 x7_1).f0))).trans hx204_0; replace hx204_1 := (cell_far (p := ⟨gb203, 0, none⟩) (by first | (rw [add_block]; exact hn204_0) | (show (Addr.add _ _).block ≠ _; rw [add_block]; exact hn204_0) | exact hn204_0) (.int .i64 ((rd_T35 l0 x7_1).f0))).trans hx204_1; replace hx204_2 := (cell_far (p := ⟨gb203, 0, none⟩) (by first | (rw [add_block]; exact hn204_0) | (show (Addr.add _ _).block ≠ _; rw [add_block]; exact hn204_0) | exact hn204_0) (.int .i64 ((rd_T35 l0 x7_1).f0))).trans hx204_2; replace hx204_3 := (cell_far (p := ⟨gb203, 0, none⟩) (by first | (rw [add_block]; exact hn204_0) | (show (Addr.add _ _).block ≠ _; rw [add_block]; exact hn204_0) | exact hn204_0) (.int .i64 ((rd_T35 l0 x7_1).f0))).trans hx204_3; replace hx204_0 := (cell_far (p := ⟨gb203, 1, none⟩) (by first | (rw [add_block]; exact hn204_1) | (show (Addr.add _ _).block ≠ _; rw [add_block]; exact hn204_1) | exact hn204_1) (.int .i64 ((rd_T35 l0 x7_1).f1))).trans hx204_0; replace hx204_1 := (cell_far (p := ⟨gb203, 1, none⟩) (by first | (rw [add_block]; exact hn204_1) | (show (Addr.add _ _).block ≠ _; rw [add_block]; exact hn204_1) | exact hn204_1) (.int .i64 ((rd_T35 l0 x7_1).f1))).trans hx204_1; replace hx204_2 := (cell_far (p := ⟨gb203, 1, none⟩) (by first | (rw [add_block]; exact hn204_1) | (show (Addr.add _ _).block ≠ _; rw [add_block]; exact hn204_1) | exact hn204_1) (.int .i64 ((rd_T35 l0 x7_1).f1))).trans hx204_2; replace hx204_3 := (cell_far (p := ⟨gb203, 1, none⟩) (by first | (rw [add_block]; exact hn204_1) | (show (Addr.add _ _).block ≠ _; rw [add_block]; exact hn204_1) | exact hn204_1) (.int .i64 ((rd_T35 l0 x7_1).f1))).trans hx204_3; replace hx204_0 := (cell_far (p := ⟨gb203, 2, none⟩) (by first | (rw [add_block]; exact hn204_2) | (show (Addr.add _ _).block ≠ _; rw [add_block]; exact hn204_2) | exact hn204_2) (.bool ((rd_T35 l0 x7_1).f2))).trans hx204_0; replace hx204_1 := (cell_far (p := ⟨gb203, 2, none⟩) (by first | (rw [add_block]; exact hn204_2) | (show (Addr.add _ _).block ≠ _; rw [add_block]; exact hn204_2) | exact hn204_2) (.bool ((rd_T35 l0 x7_1).f2))).trans hx204_1; replace hx204_2 := (cell_far (p := ⟨gb203, 2, none⟩) (by first | (rw [add_block]; exact hn204_2) | (show (Addr.add _ _).block ≠ _; rw [add_block]; exact hn204_2) | exact hn204_2) (.bool ((rd_T35 l0 x7_1).f2))).trans hx204_2; replace hx204_3 := (cell_far (p := ⟨gb203, 2, none⟩) (by first | (rw [add_block]; exact hn204_2) | (show (Addr.add _ _).block ≠ _; rw [add_block]; exact hn204_2) | exact hn204_2) (.bool ((rd_T35 l0 x7_1).f2))).trans hx204_3; replace hx204_0 := (cell_far (p := ⟨gb203, 3, none⟩) (by first | (rw [add_block]; exact hn204_3) | (show (Addr.add _ _).block ≠ _; rw [add_block]; exact hn204_3) | exact hn204_3) (.string ((rd_T35 l0 x7_1).f3))).trans hx204_0; replace hx204_1 := (cell_far (p := ⟨gb203, 3, none⟩) (by first | (rw [add_block]; exact hn204_3) | (show (Addr.add _ _).block ≠ _; rw [add_block]; exact hn204_3) | exact hn204_3) (.string ((rd_T35 l0 x7_1).f3))).trans hx204_1; replace hx204_2 := (cell_far (p := ⟨gb203, 3, none⟩) (by first | (rw [add_block]; exact hn204_3) | (show (Addr.add _ _).block ≠ _; rw [add_block]; exact hn204_3) | exact hn204_3) (.string ((rd_T35 l0 x7_1).f3))).trans hx204_2; replace hx204_3 := (cell_far (p := ⟨gb203, 3, none⟩) (by first | (rw [add_block]; exact hn204_3) | (show (Addr.add _ _).block ≠ _; rw [add_block]; exact hn204_3) | exact hn204_3) (.string ((rd_T35 l0 x7_1).f3))).trans hx204_3; (try have hy204_0 := fun (n_ : Nat) => (show ((((((w12.drewN n_).setCell ⟨gb203, 0, none⟩ (.int .i64 ((rd_T35 l0 x7_1).f0))).setCell ⟨gb203, 1, none⟩ (.int .i64 ((rd_T35 l0 x7_1).f1))).setCell ⟨gb203, 2, none⟩ (.bool ((rd_T35 l0 x7_1).f2))).setCell ⟨gb203, 3, none⟩ (.string ((rd_T35 l0 x7_1).f3)))).cell? _ = some _ from hx204_0)); (try have hy204_1 := fun (n_ : Nat) => (show ((((((w12.drewN n_).setCell ⟨gb203, 0, none⟩ (.int .i64 ((rd_T35 l0 x7_1).f0))).setCell ⟨gb203, 1, none⟩ (.int .i64 ((rd_T35 l0 x7_1).f1))).setCell ⟨gb203, 2, none⟩ (.bool ((rd_T35 l0 x7_1).f2))).setCell ⟨gb203, 3, none⟩ (.string ((rd_T35 l0 x7_1).f3)))).cell? _ = some _ from hx204_1)); (try have hy204_2 := fun (n_ : Nat) => (show ((((((w12.drewN n_).setCell ⟨gb203, 0, none⟩ (.int .i64 ((rd_T35 l0 x7_1).f0))).setCell ⟨gb203, 1, none⟩ (.int .i64 ((rd_T35 l0 x7_1).f1))).setCell ⟨gb203, 2, none⟩ (.bool ((rd_T35 l0 x7_1).f2))).setCell ⟨gb203, 3, none⟩ (.string ((rd_T35 l0 x7_1).f3)))).cell? _ = some _ from hx204_2)); (try have hy204_3 := fun (n_ : Nat) => (show ((((((w12.drewN n_).setCell ⟨gb203, 0, none⟩ (.int .i64 ((rd_T35 l0 x7_1).f0))).setCell ⟨gb203, 1, none⟩ (.int .i64 ((rd_T35 l0 x7_1).f1))).setCell ⟨gb203, 2, none⟩ (.bool ((rd_T35 l0 x7_1).f2))).setCell ⟨gb203, 3, none⟩ (.string ((rd_T35 l0 x7_1).f3)))).cell? _ = some _ from hx204_3)); clear hn204_0; clear hn204_1; clear hn204_2; clear hn204_3; replace p204 := eq_true p204; replace q204 := eq_true q204)))
          go_roundg k1
          case measure => have := HK1.out; omega
          case rel => exact ⟨(wrap64 (x7_1 + 1)), (by first | rfl | (simp; done) | (simp [*]; done)), H', ⟨by have := HK1.out; omega⟩, ⟨KB⟩⟩
        ·rw [if_neg c8] at H
         exact absurd H (by simp)
       ·rw [if_neg c7] at H
        exact absurd H (by simp)
      ·rw [if_neg c5] at H
       have c5b0 : decide (0 < x7_1) = false := decide_eq_false c5
       clear c5
       have H' := Aside0.mk H
       clear H
       have p202 : 0 ≤ (x7_1 : Int) := of_decide_eq_true (by first | (with_reducible assumption) | assumption)
       have q202 : x7_1 < (l0.length : Int) := of_decide_eq_true (by first | (with_reducible assumption) | assumption)
       obtain ⟨ad202, e202, hx202_0, hx202_1, hx202_2, hx202_3⟩ := at_T35 HR0.out x7_1 p202 q202
       cases e202
       replace hx202_0 := (HB.out.cell (World.block_lt_of_cell? w _ hx202_0)).trans hx202_0
       replace hx202_1 := (HB.out.cell (World.block_lt_of_cell? w _ hx202_1)).trans hx202_1
       replace hx202_2 := (HB.out.cell (World.block_lt_of_cell? w _ hx202_2)).trans hx202_2
       replace hx202_3 := (HB.out.cell (World.block_lt_of_cell? w _ hx202_3)).trans hx202_3
       replace p202 := eq_true p202
       replace q202 := eq_true q202
       go_wp2_with (first | ((with_reducible refine gate_dst (N := 4) rfl ?_); refine box_event ?hg (N := 4) ?hd (cs := #[.int .i64 0, .int .i64 0, .bool false, .string (⟨#[]⟩ : ByteArray)]) (t := 35) ?hr ?_; (case hd => rfl); (case hg => rfl); (case hr => first | (go_simp; done) | (go_simp; rfl)); intro gb203 hg w14 hbox hb; have n0_ := Aside0.mk (below_step KB hb); have n1_ := Aside0.mk (hbox); have n2_ := Aside0.mk ((KG hg : w.heap.size ≤ gb203)); have n3_ := Aside0.mk ((KG hg : w.heap.size ≤ gb203)); clear HB; have HB := n0_; have BK203 := n1_; have GW203 := n2_; have GE203 := n3_; clear n0_ n1_ n2_ n3_; clear hb hbox hg; have hcz15_0 : w14.cell? ⟨gb203, 0, none⟩ = some (.int .i64 0) := (blk_cell BK203.out 0).trans rfl; have hcz15_1 : w14.cell? ⟨gb203, 1, none⟩ = some (.int .i64 0) := (blk_cell BK203.out 1).trans rfl; have hcz15_2 : w14.cell? ⟨gb203, 2, none⟩ = some (.bool false) := (blk_cell BK203.out 2).trans rfl; have hcz15_3 : w14.cell? ⟨gb203, 3, none⟩ = some (.string (⟨#[]⟩ : ByteArray)) := (blk_cell BK203.out 3).trans rfl; have hfz15_0 := blk_frozen BK203.out 0; have hfz15_1 := blk_frozen BK203.out 1; have hfz15_2 := blk_frozen BK203.out 2; have hfz15_3 := blk_frozen BK203.out 3))
       repeat (go_quiet (fail); try go_wp2_with (first | ((with_reducible refine gate_dst (N := 4) rfl ?_); refine box_event ?hg (N := 4) ?hd (cs := #[.int .i64 0, .int .i64 0, .bool false, .string (⟨#[]⟩ : ByteArray)]) (t := 35) ?hr ?_; (case hd => rfl); (case hg => rfl); (case hr => first | (go_simp; done) | (go_simp; rfl)); intro gb203 hg w14 hbox hb; have n0_ := Aside0.mk (below_step KB hb); have n1_ := Aside0.mk (hbox); have n2_ := Aside0.mk ((KG hg : w.heap.size ≤ gb203)); have n3_ := Aside0.mk ((KG hg : w.heap.size ≤ gb203)); clear HB; have HB := n0_; have BK203 := n1_; have GW203 := n2_; have GE203 := n3_; clear n0_ n1_ n2_ n3_; clear hb hbox hg; have hcz15_0 : w14.cell? ⟨gb203, 0, none⟩ = some (.int .i64 0) := (blk_cell BK203.out 0).trans rfl; have hcz15_1 : w14.cell? ⟨gb203, 1, none⟩ = some (.int .i64 0) := (blk_cell BK203.out 1).trans rfl; have hcz15_2 : w14.cell? ⟨gb203, 2, none⟩ = some (.bool false) := (blk_cell BK203.out 2).trans rfl; have hcz15_3 : w14.cell? ⟨gb203, 3, none⟩ = some (.string (⟨#[]⟩ : ByteArray)) := (blk_cell BK203.out 3).trans rfl; have hfz15_0 := blk_frozen BK203.out 0; have hfz15_1 := blk_frozen BK203.out 1; have hfz15_2 := blk_frozen BK203.out 2; have hfz15_3 := blk_frozen BK203.out 3)))
       go_roundg k1
       case measure => have := HK1.out; omega
       case rel => exact ⟨(wrap64 (x7_1 + 1)), (by first | rfl | (simp; done) | (simp [*]; done)), H', ⟨by have := HK1.out; omega⟩, ⟨KB⟩⟩
     ·rw [if_neg c4] at H
      exact absurd H (by simp)
    ·rw [if_neg c3] at H
     exact absurd H (by simp)
   ·rw [if_neg c2] at H
    have c2b0 : decide (x7_1 < (l0.length : Int)) = false := decide_eq_false c2
    clear c2
    obtain rfl := Option.some.inj H
    go_wp2
    repeat (go_quiet (fail); try go_wp2)
    go_ret
    exact ⟨KE, KB⟩

end Go.Proofs.Ytnoghojlpicecaa.PFnExactStorePut
