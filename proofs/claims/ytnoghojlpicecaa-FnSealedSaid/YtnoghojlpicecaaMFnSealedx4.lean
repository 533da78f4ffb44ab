-- What each Go function that this law reaches comes to: written by a program out of the translation.
import Derived.Test.YtnoghojlpicecaaMFnSealedx0
import Derived.Test.YtnoghojlpicecaaMFnSealedx3
namespace Go.Proofs.Ytnoghojlpicecaa.PFnSealed
open Go.RowKit Go.Proofs.YtnoghojlpicecaaW.PrintWords Go.Proofs.YtnoghojlpicecaaW.PrintLast Go.Proofs.YtnoghojlpicecaaW.PrintMore
attribute [local go_sem] max2_int min2_int max_two min_two max_three min_three max_four min_four   -- for this text's walks alone
set_option linter.unusedVariables false
set_option linter.unusedSimpArgs false

/-! ### spec_l1Byte: function 84 -/
def spec_l1Byte.f (s0_0 : List Int) (s0_1 : Int) (s0_2 : Int) : Option (Int × Int × Int) := if s0_1 < (s0_0.length : Int) then (if 0 ≤ s0_1 then (some (Go.bits .and .i64 (wrap64 ((Go.bits .and .i64 (Go.bits .xor .i64 ((wrap64 ((wrap64 (s0_2 * 6364136223846793005)) + 1442695040888963407)) / 8589934592) ((wrap64 ((wrap64 (s0_2 * 6364136223846793005)) + 1442695040888963407)) / 35184372088832)) 255) + (wrap64 (rd s0_0 s0_1)))) 255, wrap64 (s0_1 + 1), wrap64 ((wrap64 (s0_2 * 6364136223846793005)) + 1442695040888963407))) else (none)) else (some (Go.bits .and .i64 (Go.bits .xor .i64 ((wrap64 ((wrap64 (s0_2 * 6364136223846793005)) + 1442695040888963407)) / 8589934592) ((wrap64 ((wrap64 (s0_2 * 6364136223846793005)) + 1442695040888963407)) / 35184372088832)) 255, s0_1, wrap64 ((wrap64 (s0_2 * 6364136223846793005)) + 1442695040888963407)))
set_option maxHeartbeats 8000000 in
set_option maxRecDepth 100000 in
theorem spec_l1Byte.calls (g : Nat) (s0_0 : List Int) (s0_1 : Int) (s0_2 : Int) (r1 : Int) (r2 : Int) (r3 : Int) (w0 w : World) (hI : IsS87 w0 w g s0_0 s0_1 s0_2) (hB : Below w0.heap.size w0 w) (h : spec_l1Byte.f s0_0 s0_1 s0_2 = some (r1, r2, r3)) :
  Calls Try.prog 84 #[.pointer (some ⟨g, 0, none⟩)] w fun e w' => e = .returned (.int .i64 r1) ∧ IsS87 w0 w' g s0_0 r2 r3 ∧ Below w0.heap.size w0 w' ∧ KeepBut w w' g none := by
 have HI0 := Aside0.mk hI
 have HK := Aside0.mk (KeepBut.refl w g none)
 have HL := Aside0.mk hB.size
 clear hI
 have HW0 := Aside0.mk hB.size
 have HB := Aside0.mk hB
 clear hB
 have H : (if s0_1 < (s0_0.length : Int) then (if 0 ≤ s0_1 then (some (Go.bits .and .i64 (wrap64 ((Go.bits .and .i64 (Go.bits .xor .i64 ((wrap64 ((wrap64 (s0_2 * 6364136223846793005)) + 1442695040888963407)) / 8589934592) ((wrap64 ((wrap64 (s0_2 * 6364136223846793005)) + 1442695040888963407)) / 35184372088832)) 255) + (wrap64 (rd s0_0 s0_1)))) 255, wrap64 (s0_1 + 1), wrap64 ((wrap64 (s0_2 * 6364136223846793005)) + 1442695040888963407))) else (none)) else (some (Go.bits .and .i64 (Go.bits .xor .i64 ((wrap64 ((wrap64 (s0_2 * 6364136223846793005)) + 1442695040888963407)) / 8589934592) ((wrap64 ((wrap64 (s0_2 * 6364136223846793005)) + 1442695040888963407)) / 35184372088832)) 255, s0_1, wrap64 ((wrap64 (s0_2 * 6364136223846793005)) + 1442695040888963407)))) = some (r1, r2, r3) := h
 clear h
 by_cases c2 : s0_1 < (s0_0.length : Int)
 ·rw [if_pos c2] at H
  have c2b0 : decide (s0_1 < (s0_0.length : Int)) = true := decide_eq_true c2
  clear c2
  by_cases c3 : 0 ≤ s0_1
  ·rw [if_pos c3] at H
   have c3b0 : decide (0 ≤ s0_1) = true := decide_eq_true c3
   clear c3
   simp only [Option.some.injEq, Prod.mk.injEq] at H
   obtain ⟨rfl, rfl, rfl⟩ := H
   obtain ⟨ASz4_0, cSz4_0, HGz4, hgz4, ⟨HSz4_0, HMz4_0⟩⟩ := HI0.out
   have hcz4_0 := cellS87_0 HGz4
   have hcz4_1 := cellS87_1 HGz4
   have hcz4_2 := cellS87_2 HGz4
   have hfz4_1 := blk_frozen HGz4 1
   have hfz4_2 := blk_frozen HGz4 2
   clear HGz4 hgz4
   have p191 : 0 ≤ (s0_1 : Int) := of_decide_eq_true (by first | (with_reducible assumption) | assumption)
   have q191 : s0_1 < (s0_0.length : Int) := of_decide_eq_true (by first | (with_reducible assumption) | assumption)
   obtain ⟨ad191, e191, hx191_0⟩ := Kd.at_int HSz4_0 s0_1 p191 q191
   cases e191
   have hn191_0 : ad191.block ≠ g := Nat.ne_of_lt (Nat.lt_of_lt_of_le (by have := World.block_lt_of_cell? _ _ hx191_0; first | rwa [add_block] at this | exact this) (IsS87.ge HI0.out))
   replace hx191_0 := pw_cell_below HB.out hx191_0
   replace hx191_0 := (cell_far (p := ⟨g, 2, none⟩) (by first | (rw [add_block]; exact hn191_0) | (show (Addr.add _ _).block ≠ _; rw [add_block]; exact hn191_0) | exact hn191_0) (.int .i64 (wrap64 ((wrap64 (s0_2 * 6364136223846793005)) + 1442695040888963407)))).trans hx191_0
   (try have hy191_0 := fun (n_ : Nat) => (show (((w.drewN n_).setCell ⟨g, 2, none⟩ (.int .i64 (wrap64 ((wrap64 (s0_2 * 6364136223846793005)) + 1442695040888963407))))).cell? _ = some _ from hx191_0))
   clear hn191_0
   replace p191 := eq_true p191
   replace q191 := eq_true q191
   go_enter Try.func84, Try.ntmps84
   go_wp2
   repeat (go_quiet (fail); try go_wp2)
   go_ret
   exact ⟨KE, KI87, KB87, KH⟩
  ·rw [if_neg c3] at H
   exact absurd H (by simp)
 ·rw [if_neg c2] at H
  have c2b0 : decide (s0_1 < (s0_0.length : Int)) = false := decide_eq_false c2
  clear c2
  simp only [Option.some.injEq, Prod.mk.injEq] at H
  obtain ⟨rfl, rfl, rfl⟩ := H
  obtain ⟨ASz5_0, cSz5_0, HGz5, hgz5, ⟨HSz5_0, HMz5_0⟩⟩ := HI0.out
  have hcz5_0 := cellS87_0 HGz5
  have hcz5_1 := cellS87_1 HGz5
  have hcz5_2 := cellS87_2 HGz5
  have hfz5_1 := blk_frozen HGz5 1
  have hfz5_2 := blk_frozen HGz5 2
  clear HGz5 hgz5
  go_enter Try.func84, Try.ntmps84
  go_wp2
  repeat (go_quiet (fail); try go_wp2)
  go_ret
  exact ⟨KE, KI87, KB87, KH⟩

/-! ### spec_l1Below: function 57 -/
def spec_l1Below.f (s0_0 : List Int) (s0_1 : Int) (s0_2 : Int) (a1 : Int) : Option (Int × Int × Int) := if a1 ≤ 0 then (some (0, s0_1, s0_2)) else (if a1 ≤ 256 then ((spec_l1Byte.f s0_0 s0_1 s0_2).bind fun bt192 => (if a1 = 0 then (none) else (some (Int.tmod bt192.1 a1, bt192.2.1, bt192.2.2)))) else ((spec_l1Byte.f s0_0 s0_1 s0_2).bind fun bt195 => ((spec_l1Byte.f s0_0 bt195.2.1 bt195.2.2).bind fun bt198 => ((spec_l1Byte.f s0_0 bt198.2.1 bt198.2.2).bind fun bt201 => ((spec_l1Byte.f s0_0 bt201.2.1 bt201.2.2).bind fun bt204 => (if a1 = 0 then (none) else (some (Int.tmod (wrap64 ((wrap64 ((wrap64 ((wrap64 (bt195.1 * 16777216)) + (wrap64 (bt198.1 * 65536)))) + (wrap64 (bt201.1 * 256)))) + bt204.1)) a1, bt204.2.1, bt204.2.2))))))))
set_option maxHeartbeats 8000000 in
set_option maxRecDepth 100000 in
theorem spec_l1Below.calls (g : Nat) (s0_0 : List Int) (s0_1 : Int) (s0_2 : Int) (a1 : Int) (r1 : Int) (r2 : Int) (r3 : Int) (w0 w : World) (hI : IsS87 w0 w g s0_0 s0_1 s0_2) (hB : Below w0.heap.size w0 w) (h : spec_l1Below.f s0_0 s0_1 s0_2 a1 = some (r1, r2, r3)) :
  Calls Try.prog 57 #[.pointer (some ⟨g, 0, none⟩), .int .i64 a1] w fun e w' => e = .returned (.int .i64 r1) ∧ IsS87 w0 w' g s0_0 r2 r3 ∧ Below w0.heap.size w0 w' ∧ KeepBut w w' g none := by
 have HI0 := Aside0.mk hI
 have HK := Aside0.mk (KeepBut.refl w g none)
 have HL := Aside0.mk hB.size
 clear hI
 have HW0 := Aside0.mk hB.size
 have HB := Aside0.mk hB
 clear hB
 have H : (if a1 ≤ 0 then (some (0, s0_1, s0_2)) else (if a1 ≤ 256 then ((spec_l1Byte.f s0_0 s0_1 s0_2).bind fun bt192 => (if a1 = 0 then (none) else (some (Int.tmod bt192.1 a1, bt192.2.1, bt192.2.2)))) else ((spec_l1Byte.f s0_0 s0_1 s0_2).bind fun bt195 => ((spec_l1Byte.f s0_0 bt195.2.1 bt195.2.2).bind fun bt198 => ((spec_l1Byte.f s0_0 bt198.2.1 bt198.2.2).bind fun bt201 => ((spec_l1Byte.f s0_0 bt201.2.1 bt201.2.2).bind fun bt204 => (if a1 = 0 then (none) else (some (Int.tmod (wrap64 ((wrap64 ((wrap64 ((wrap64 (bt195.1 * 16777216)) + (wrap64 (bt198.1 * 65536)))) + (wrap64 (bt201.1 * 256)))) + bt204.1)) a1, bt204.2.1, bt204.2.2))))))))) = some (r1, r2, r3) := h
 clear h
 by_cases c3 : a1 ≤ 0
 ·rw [if_pos c3] at H
  have c3b0 : decide (a1 ≤ 0) = true := decide_eq_true c3
  clear c3
  simp only [Option.some.injEq, Prod.mk.injEq] at H
  obtain ⟨rfl, rfl, rfl⟩ := H
  go_enter Try.func57, Try.ntmps57
  go_wp2
  go_ret
  exact ⟨KE, KI87, KB87, KH⟩
 ·rw [if_neg c3] at H
  have c3b0 : decide (a1 ≤ 0) = false := decide_eq_false c3
  clear c3
  by_cases c4 : a1 ≤ 256
  ·rw [if_pos c4] at H
   have c4b0 : decide (a1 ≤ 256) = true := decide_eq_true c4
   clear c4
   replace H := Option.bind_eq_some_iff.mp H
   obtain ⟨⟨t192, t193, t194⟩, A50, H⟩ := H
   replace H : (if a1 = 0 then (none) else (some (Int.tmod t192 a1, t193, t194))) = some (r1, r2, r3) := H
   have A5 := Aside0.mk A50
   clear A50
   by_cases c6 : a1 = 0
   ·rw [if_pos c6] at H
    exact absurd H (by simp)
   ·rw [if_neg c6] at H
    have c6b0 : (a1 == 0) = false := beq_eq_false_iff_ne.mpr c6
    have c6b1 : (a1 != 0) = true := bne_iff_ne.mpr c6
    simp only [Option.some.injEq, Prod.mk.injEq] at H
    obtain ⟨rfl, rfl, rfl⟩ := H
    go_enter Try.func57, Try.ntmps57
    go_wp2_with (first | ((with_reducible refine gate_callee (f := 84) rfl ?_); refine goesL_ (some 14) rfl rfl Try.func84 (by kernel_rfl) rfl #[.pointer (some ⟨g, 0, none⟩)] rfl KL ?_; (with_reducible refine (spec_l1Byte.calls g s0_0 s0_1 s0_2 t192 t193 t194 w0 _ ?side1 ?side2 A5.out).mono ?_); (case side1 => exact KI87); (case side2 => exact KB87); rintro e w7 ⟨rfl, hi, hb, hk⟩; refine ⟨_, rfl, ?_⟩; have h_ := P3 (KeepBut.trans KH hk (.inl rfl)) hb hi; clear HK HB HI0; obtain ⟨HK, HB, HI0⟩ := h_; (try clear hb); (try clear hk); (try clear hi)))
    go_ret
    exact ⟨KE, KI87, KB87, KH⟩
  ·rw [if_neg c4] at H
   have c4b0 : decide (a1 ≤ 256) = false := decide_eq_false c4
   clear c4
   replace H := Option.bind_eq_some_iff.mp H
   obtain ⟨⟨t195, t196, t197⟩, A80, H⟩ := H
   replace H : ((spec_l1Byte.f s0_0 t196 t197).bind fun bt198 => ((spec_l1Byte.f s0_0 bt198.2.1 bt198.2.2).bind fun bt201 => ((spec_l1Byte.f s0_0 bt201.2.1 bt201.2.2).bind fun bt204 => (if a1 = 0 then (none) else (some (Int.tmod (wrap64 ((wrap64 ((wrap64 ((wrap64 (t195 * 16777216)) + (wrap64 (bt198.1 * 65536)))) + (wrap64 (bt201.1 * 256)))) + bt204.1)) a1, bt204.2.1, bt204.2.2)))))) = some (r1, r2, r3) := H
   have A8 := Aside0.mk A80
   clear A80
   replace H := Option.bind_eq_some_iff.mp H
   obtain ⟨⟨t198, t199, t200⟩, A90, H⟩ := H
   replace H : ((spec_l1Byte.f s0_0 t199 t200).bind fun bt201 => ((spec_l1Byte.f s0_0 bt201.2.1 bt201.2.2).bind fun bt204 => (if a1 = 0 then (none) else (some (Int.tmod (wrap64 ((wrap64 ((wrap64 ((wrap64 (t195 * 16777216)) + (wrap64 (t198 * 65536)))) + (wrap64 (bt201.1 * 256)))) + bt204.1)) a1, bt204.2.1, bt204.2.2))))) = some (r1, r2, r3) := H
   have A9 := Aside0.mk A90
   clear A90
   replace H := Option.bind_eq_some_iff.mp H
   obtain ⟨⟨t201, t202, t203⟩, A100, H⟩ := H
   replace H : ((spec_l1Byte.f s0_0 t202 t203).bind fun bt204 => (if a1 = 0 then (none) else (some (Int.tmod (wrap64 ((wrap64 ((wrap64 ((wrap64 (t195 * 16777216)) + (wrap64 (t198 * 65536)))) + (wrap64 (t201 * 256)))) + bt204.1)) a1, bt204.2.1, bt204.2.2)))) = some (r1, r2, r3) := H
   have A10 := Aside0.mk A100
   clear A100
   replace H := Option.bind_eq_some_iff.mp H
   obtain ⟨⟨t204, t205, t206⟩, A110, H⟩ := H
   replace H : (if a1 = 0 then (none) else (some (Int.tmod (wrap64 ((wrap64 ((wrap64 ((wrap64 (t195 * 16777216)) + (wrap64 (t198 * 65536)))) + (wrap64 (t201 * 256)))) + t204)) a1, t205, t206))) = some (r1, r2, r3) := H
   have A11 := Aside0.mk A110
   clear A110
   by_cases c12 : a1 = 0
   ·rw [if_pos c12] at H
    exact absurd H (by simp)
   ·rw [if_neg c12] at H
    have c12b0 : (a1 == 0) = false := beq_eq_false_iff_ne.mpr c12
    have c12b1 : (a1 != 0) = true := bne_iff_ne.mpr c12
    simp only [Option.some.injEq, Prod.mk.injEq] at H
    obtain ⟨rfl, rfl, rfl⟩ := H
    go_enter Try.func57, Try.ntmps57
    go_wp2_with (first | ((with_reducible refine gate_callee (f := 84) rfl ?_); refine goesL_ (some 18) rfl rfl Try.func84 (by kernel_rfl) rfl #[.pointer (some ⟨g, 0, none⟩)] rfl KL ?_; (with_reducible refine (spec_l1Byte.calls g s0_0 s0_1 s0_2 t195 t196 t197 w0 _ ?side1 ?side2 A8.out).mono ?_); (case side1 => exact KI87); (case side2 => exact KB87); rintro e w13 ⟨rfl, hi, hb, hk⟩; refine ⟨_, rfl, ?_⟩; have h_ := P3 (KeepBut.trans KH hk (.inl rfl)) hb hi; clear HK HB HI0; obtain ⟨HK, HB, HI0⟩ := h_; (try clear hb); (try clear hk); (try clear hi)) | ((with_reducible refine gate_callee (f := 84) rfl ?_); refine goesL_ (some 20) rfl rfl Try.func84 (by kernel_rfl) rfl #[.pointer (some ⟨g, 0, none⟩)] rfl KL ?_; (with_reducible refine (spec_l1Byte.calls g s0_0 t196 t197 t198 t199 t200 w0 _ ?side1 ?side2 A9.out).mono ?_); (case side1 => exact KI87); (case side2 => exact KB87); rintro e w14 ⟨rfl, hi, hb, hk⟩; refine ⟨_, rfl, ?_⟩; have h_ := P3 (KeepBut.trans KH hk (.inl rfl)) hb hi; clear HK HB HI0; obtain ⟨HK, HB, HI0⟩ := h_; (try clear hb); (try clear hk); (try clear hi)) | ((with_reducible refine gate_callee (f := 84) rfl ?_); refine goesL_ (some 22) rfl rfl Try.func84 (by kernel_rfl) rfl #[.pointer (some ⟨g, 0, none⟩)] rfl KL ?_; (with_reducible refine (spec_l1Byte.calls g s0_0 t199 t200 t201 t202 t203 w0 _ ?side1 ?side2 A10.out).mono ?_); (case side1 => exact KI87); (case side2 => exact KB87); rintro e w15 ⟨rfl, hi, hb, hk⟩; refine ⟨_, rfl, ?_⟩; have h_ := P3 (KeepBut.trans KH hk (.inl rfl)) hb hi; clear HK HB HI0; obtain ⟨HK, HB, HI0⟩ := h_; (try clear hb); (try clear hk); (try clear hi)) | ((with_reducible refine gate_callee (f := 84) rfl ?_); refine goesL_ (some 24) rfl rfl Try.func84 (by kernel_rfl) rfl #[.pointer (some ⟨g, 0, none⟩)] rfl KL ?_; (with_reducible refine (spec_l1Byte.calls g s0_0 t202 t203 t204 t205 t206 w0 _ ?side1 ?side2 A11.out).mono ?_); (case side1 => exact KI87); (case side2 => exact KB87); rintro e w16 ⟨rfl, hi, hb, hk⟩; refine ⟨_, rfl, ?_⟩; have h_ := P3 (KeepBut.trans KH hk (.inl rfl)) hb hi; clear HK HB HI0; obtain ⟨HK, HB, HI0⟩ := h_; (try clear hb); (try clear hk); (try clear hi)))
    go_ret
    exact ⟨KE, KI87, KB87, KH⟩

/-! ### spec_l1PickInt: function 62 -/
def spec_l1PickInt.f (s0_0 : List Int) (s0_1 : Int) (s0_2 : Int) (l1 : List Int) : Option (Int × Int × Int) := (spec_l1Below.f s0_0 s0_1 s0_2 (l1.length : Int)).bind fun bt207 => (if 0 ≤ bt207.1 then (if bt207.1 < (l1.length : Int) then (some (rd l1 bt207.1, bt207.2.1, bt207.2.2)) else (none)) else (none))
set_option maxHeartbeats 8000000 in
set_option maxRecDepth 100000 in
theorem spec_l1PickInt.calls (g : Nat) (s0_0 : List Int) (s0_1 : Int) (s0_2 : Int) (A1 : Option Addr) (c1 : Nat) (l1 : List Int) (r1 : Int) (r2 : Int) (r3 : Int) (w0 w : World) (hI : IsS87 w0 w g s0_0 s0_1 s0_2) (hB : Below w0.heap.size w0 w) (hr1 : Kd.C (Kd.int .i64) w A1 l1.length l1) (hc1 : l1.length ≤ c1) (hf1 : ∀ ad, A1 = some ad → 0 < l1.length → ad.block ≠ g) (h : spec_l1PickInt.f s0_0 s0_1 s0_2 l1 = some (r1, r2, r3)) :
  Calls Try.prog 62 #[.pointer (some ⟨g, 0, none⟩), .slice A1 l1.length c1] w fun e w' => e = .returned (.int .i64 r1) ∧ IsS87 w0 w' g s0_0 r2 r3 ∧ Below w0.heap.size w0 w' ∧ KeepBut w w' g none := by
 have HR1 := Aside0.mk hr1
 have HC1 := Aside0.mk hc1
 clear hr1 hc1
 have HI0 := Aside0.mk hI
 have HK := Aside0.mk (KeepBut.refl w g none)
 have HL := Aside0.mk hB.size
 clear hI
 have HW0 := Aside0.mk hB.size
 have HB := Aside0.mk hB
 clear hB
 have H : ((spec_l1Below.f s0_0 s0_1 s0_2 (l1.length : Int)).bind fun bt207 => (if 0 ≤ bt207.1 then (if bt207.1 < (l1.length : Int) then (some (rd l1 bt207.1, bt207.2.1, bt207.2.2)) else (none)) else (none))) = some (r1, r2, r3) := h
 clear h
 replace H := Option.bind_eq_some_iff.mp H
 obtain ⟨⟨t207, t208, t209⟩, A30, H⟩ := H
 replace H : (if 0 ≤ t207 then (if t207 < (l1.length : Int) then (some (rd l1 t207, t208, t209)) else (none)) else (none)) = some (r1, r2, r3) := H
 have A3 := Aside0.mk A30
 clear A30
 by_cases c4 : 0 ≤ t207
 ·rw [if_pos c4] at H
  have c4b0 : decide (0 ≤ t207) = true := decide_eq_true c4
  clear c4
  by_cases c5 : t207 < (l1.length : Int)
  ·rw [if_pos c5] at H
   have c5b0 : decide (t207 < (l1.length : Int)) = true := decide_eq_true c5
   clear c5
   simp only [Option.some.injEq, Prod.mk.injEq] at H
   obtain ⟨rfl, rfl, rfl⟩ := H
   go_enter Try.func62, Try.ntmps62
   go_wp2_with (first | ((with_reducible refine gate_callee (f := 57) rfl ?_); refine goesL_ (some 9) rfl rfl Try.func57 (by kernel_rfl) rfl #[.pointer (some ⟨g, 0, none⟩), .int .i64 (l1.length : Int)] rfl KL ?_; (with_reducible refine (spec_l1Below.calls g s0_0 s0_1 s0_2 (l1.length : Int) t207 t208 t209 w0 _ ?side1 ?side2 A3.out).mono ?_); (case side1 => exact KI87); (case side2 => exact KB87); rintro e w6 ⟨rfl, hi, hb, hk⟩; refine ⟨_, rfl, ?_⟩; have h_ := P3 (KeepBut.trans KH hk (.inl rfl)) hb hi; clear HK HB HI0; obtain ⟨HK, HB, HI0⟩ := h_; (try clear hb); (try clear hk); (try clear hi); have p210 : 0 ≤ (t207 : Int) := of_decide_eq_true (by first | (with_reducible assumption) | assumption); have q210 : t207 < (l1.length : Int) := of_decide_eq_true (by first | (with_reducible assumption) | assumption); obtain ⟨ad210, e210, hx210_0⟩ := Kd.at_int HR1.out t207 p210 q210; cases e210; replace hx210_0 := keep_cell HK.out hx210_0 (by first | (rw [add_block]; exact hf1 _ rfl (by omega)) | exact hf1 _ rfl (by omega) | exact hf1 ad210 rfl (by omega)); replace p210 := eq_true p210; replace q210 := eq_true q210))
   go_ret
   exact ⟨KE, KI87, KB87, KH⟩
  ·rw [if_neg c5] at H
   exact absurd H (by simp)
 ·rw [if_neg c4] at H
  exact absurd H (by simp)

/-! ### spec_l1Place: function 83 -/
def spec_l1Place.f (a0 : Int) (a1 : Int) : Option (Int) := some (wrap64 ((wrap64 (4294967296 * a0)) + a1))
set_option maxHeartbeats 8000000 in
set_option maxRecDepth 100000 in
theorem spec_l1Place.calls (a0 : Int) (a1 : Int) (r : Int) (w : World) (h : spec_l1Place.f a0 a1 = some r) :
  Calls Try.prog 83 #[.int .i64 a0, .int .i64 a1] w fun e w' => e = .returned (.int .i64 r) ∧ Drawn0 w w' := by
 have H : (some (wrap64 ((wrap64 (4294967296 * a0)) + a1))) = some r := h
 clear h
 obtain rfl := Option.some.inj H
 go_enter Try.func83, Try.ntmps83
 go_wp2
 go_ret
 exact ⟨by first | rfl | (simp; done) | (simp [*]; done), by repeat (first | exact Drawn0.refl _ | apply Drawn0.step)⟩

/-! ### spec_l1DrawPlace: function 87 -/
def spec_l1DrawPlace.f (s0_0 : List Int) (s0_1 : Int) (s0_2 : Int) : Option (Int × Int × Int) := (spec_l1Below.f s0_0 s0_1 s0_2 3).bind fun bt211 => ((spec_l1Below.f s0_0 bt211.2.1 bt211.2.2 6).bind fun bt214 => ((spec_l1Place.f (wrap64 (1 + bt211.1)) (wrap64 (1 + bt214.1))).bind fun t217 => ((spec_l1Below.f s0_0 bt214.2.1 bt214.2.2 15).bind fun bt218 => (if bt218.1 = 0 then ((spec_l1PickInt.f s0_0 bt218.2.1 bt218.2.2 (([0, (-1), 4294967296, 4294967297, 9223372036854775807, (-9223372036854775808)] : List Int))).bind fun bt224 => (some (bt224.1, bt224.2.1, bt224.2.2))) else (if bt218.1 = 1 then ((spec_l1PickInt.f s0_0 bt218.2.1 bt218.2.2 (([0, 30, 31] : List Int))).bind fun bt230 => ((spec_l1PickInt.f s0_0 bt230.2.1 bt230.2.2 (([0, 60, 61] : List Int))).bind fun bt236 => ((spec_l1Place.f bt230.1 bt236.1).bind fun t239 => (some (t239, bt236.2.1, bt236.2.2))))) else (some (t217, bt218.2.1, bt218.2.2)))))))
set_option maxHeartbeats 8000000 in
set_option maxRecDepth 100000 in
theorem spec_l1DrawPlace.calls (g : Nat) (s0_0 : List Int) (s0_1 : Int) (s0_2 : Int) (r1 : Int) (r2 : Int) (r3 : Int) (w0 w : World) (hI : IsS87 w0 w g s0_0 s0_1 s0_2) (hB : Below w0.heap.size w0 w) (h : spec_l1DrawPlace.f s0_0 s0_1 s0_2 = some (r1, r2, r3)) :
  Calls Try.prog 87 #[.pointer (some ⟨g, 0, none⟩)] w fun e w' => e = .returned (.int .i64 r1) ∧ IsS87 w0 w' g s0_0 r2 r3 ∧ Below w0.heap.size w0 w' ∧ KeepBut w w' g none := by
 have HI0 := Aside0.mk hI
 have HK := Aside0.mk (KeepBut.refl w g none)
 have HL := Aside0.mk hB.size
 clear hI
 have HW0 := Aside0.mk hB.size
 have HB := Aside0.mk hB
 clear hB
 have H : ((spec_l1Below.f s0_0 s0_1 s0_2 3).bind fun bt211 => ((spec_l1Below.f s0_0 bt211.2.1 bt211.2.2 6).bind fun bt214 => ((spec_l1Place.f (wrap64 (1 + bt211.1)) (wrap64 (1 + bt214.1))).bind fun t217 => ((spec_l1Below.f s0_0 bt214.2.1 bt214.2.2 15).bind fun bt218 => (if bt218.1 = 0 then ((spec_l1PickInt.f s0_0 bt218.2.1 bt218.2.2 (([0, (-1), 4294967296, 4294967297, 9223372036854775807, (-9223372036854775808)] : List Int))).bind fun bt224 => (some (bt224.1, bt224.2.1, bt224.2.2))) else (if bt218.1 = 1 then ((spec_l1PickInt.f s0_0 bt218.2.1 bt218.2.2 (([0, 30, 31] : List Int))).bind fun bt230 => ((spec_l1PickInt.f s0_0 bt230.2.1 bt230.2.2 (([0, 60, 61] : List Int))).bind fun bt236 => ((spec_l1Place.f bt230.1 bt236.1).bind fun t239 => (some (t239, bt236.2.1, bt236.2.2))))) else (some (t217, bt218.2.1, bt218.2.2)))))))) = some (r1, r2, r3) := h
 clear h
 replace H := Option.bind_eq_some_iff.mp H
 obtain ⟨⟨t211, t212, t213⟩, A20, H⟩ := H
 replace H : ((spec_l1Below.f s0_0 t212 t213 6).bind fun bt214 => ((spec_l1Place.f (wrap64 (1 + t211)) (wrap64 (1 + bt214.1))).bind fun t217 => ((spec_l1Below.f s0_0 bt214.2.1 bt214.2.2 15).bind fun bt218 => (if bt218.1 = 0 then ((spec_l1PickInt.f s0_0 bt218.2.1 bt218.2.2 (([0, (-1), 4294967296, 4294967297, 9223372036854775807, (-9223372036854775808)] : List Int))).bind fun bt224 => (some (bt224.1, bt224.2.1, bt224.2.2))) else (if bt218.1 = 1 then ((spec_l1PickInt.f s0_0 bt218.2.1 bt218.2.2 (([0, 30, 31] : List Int))).bind fun bt230 => ((spec_l1PickInt.f s0_0 bt230.2.1 bt230.2.2 (([0, 60, 61] : List Int))).bind fun bt236 => ((spec_l1Place.f bt230.1 bt236.1).bind fun t239 => (some (t239, bt236.2.1, bt236.2.2))))) else (some (t217, bt218.2.1, bt218.2.2))))))) = some (r1, r2, r3) := H
 have A2 := Aside0.mk A20
 clear A20
 replace H := Option.bind_eq_some_iff.mp H
 obtain ⟨⟨t214, t215, t216⟩, A30, H⟩ := H
 replace H : ((spec_l1Place.f (wrap64 (1 + t211)) (wrap64 (1 + t214))).bind fun t217 => ((spec_l1Below.f s0_0 t215 t216 15).bind fun bt218 => (if bt218.1 = 0 then ((spec_l1PickInt.f s0_0 bt218.2.1 bt218.2.2 (([0, (-1), 4294967296, 4294967297, 9223372036854775807, (-9223372036854775808)] : List Int))).bind fun bt224 => (some (bt224.1, bt224.2.1, bt224.2.2))) else (if bt218.1 = 1 then ((spec_l1PickInt.f s0_0 bt218.2.1 bt218.2.2 (([0, 30, 31] : List Int))).bind fun bt230 => ((spec_l1PickInt.f s0_0 bt230.2.1 bt230.2.2 (([0, 60, 61] : List Int))).bind fun bt236 => ((spec_l1Place.f bt230.1 bt236.1).bind fun t239 => (some (t239, bt236.2.1, bt236.2.2))))) else (some (t217, bt218.2.1, bt218.2.2)))))) = some (r1, r2, r3) := H
 have A3 := Aside0.mk A30
 clear A30
 replace H := Option.bind_eq_some_iff.mp H
 obtain ⟨t217, A40, H⟩ := H
 replace H : ((spec_l1Below.f s0_0 t215 t216 15).bind fun bt218 => (if bt218.1 = 0 then ((spec_l1PickInt.f s0_0 bt218.2.1 bt218.2.2 (([0, (-1), 4294967296, 4294967297, 9223372036854775807, (-9223372036854775808)] : List Int))).bind fun bt224 => (some (bt224.1, bt224.2.1, bt224.2.2))) else (if bt218.1 = 1 then ((spec_l1PickInt.f s0_0 bt218.2.1 bt218.2.2 (([0, 30, 31] : List Int))).bind fun bt230 => ((spec_l1PickInt.f s0_0 bt230.2.1 bt230.2.2 (([0, 60, 61] : List Int))).bind fun bt236 => ((spec_l1Place.f bt230.1 bt236.1).bind fun t239 => (some (t239, bt236.2.1, bt236.2.2))))) else (some (t217, bt218.2.1, bt218.2.2))))) = some (r1, r2, r3) := H
 have A4 := Aside0.mk A40
 clear A40
 replace H := Option.bind_eq_some_iff.mp H
 obtain ⟨⟨t218, t219, t220⟩, A50, H⟩ := H
 replace H : (if t218 = 0 then ((spec_l1PickInt.f s0_0 t219 t220 (([0, (-1), 4294967296, 4294967297, 9223372036854775807, (-9223372036854775808)] : List Int))).bind fun bt224 => (some (bt224.1, bt224.2.1, bt224.2.2))) else (if t218 = 1 then ((spec_l1PickInt.f s0_0 t219 t220 (([0, 30, 31] : List Int))).bind fun bt230 => ((spec_l1PickInt.f s0_0 bt230.2.1 bt230.2.2 (([0, 60, 61] : List Int))).bind fun bt236 => ((spec_l1Place.f bt230.1 bt236.1).bind fun t239 => (some (t239, bt236.2.1, bt236.2.2))))) else (some (t217, t219, t220)))) = some (r1, r2, r3) := H
 have A5 := Aside0.mk A50
 clear A50
 by_cases c6 : t218 = 0
 ·rw [if_pos c6] at H
  have c6b0 : (t218 == 0) = true := beq_iff_eq.mpr c6
  have c6b1 : (t218 != 0) = false := bne_eq_false_iff_eq.mpr c6
  clear c6
  obtain ⟨y221, hy221⟩ : ∃ y_ : List Int, y_ = (([0, (-1), 4294967296, 4294967297, 9223372036854775807, (-9223372036854775808)] : List Int)) := ⟨_, rfl⟩
  replace H : ((spec_l1PickInt.f s0_0 t219 t220 y221).bind fun bt224 => (some (bt224.1, bt224.2.1, bt224.2.2))) = some (r1, r2, r3) := by first | (rw [hy221]; with_reducible exact H) | (have H2_ := (Option.bind_some _ _).symm.trans H; rw [hy221]; with_reducible exact H2_) | (have H2_ := (Option.bind_some _ _).symm.trans H; with_reducible exact H2_) | with_reducible exact H | (rw [hy221]; exact H) | exact H
  have Ny221 := Aside0.mk hy221
  clear hy221
  replace H := Option.bind_eq_some_iff.mp H
  obtain ⟨⟨t224, t225, t226⟩, A70, H⟩ := H
  replace H : (some (t224, t225, t226)) = some (r1, r2, r3) := H
  have A7 := Aside0.mk A70
  clear A70
  simp only [Option.some.injEq, Prod.mk.injEq] at H
  obtain ⟨rfl, rfl, rfl⟩ := H
  go_enter Try.func87, Try.ntmps87
  go_wp2_with (first | ((with_reducible refine gate_callee (f := 57) rfl ?_); refine goesL_ (some 5) rfl rfl Try.func57 (by kernel_rfl) rfl #[.pointer (some ⟨g, 0, none⟩), .int .i64 3] rfl KL ?_; (with_reducible refine (spec_l1Below.calls g s0_0 s0_1 s0_2 3 t211 t212 t213 w0 _ ?side1 ?side2 A2.out).mono ?_); (case side1 => exact KI87); (case side2 => exact KB87); rintro e w8 ⟨rfl, hi, hb, hk⟩; refine ⟨_, rfl, ?_⟩; have h_ := P3 (KeepBut.trans KH hk (.inl rfl)) hb hi; clear HK HB HI0; obtain ⟨HK, HB, HI0⟩ := h_; (try clear hb); (try clear hk); (try clear hi)) | ((with_reducible refine gate_callee (f := 57) rfl ?_); refine goesL_ (some 8) rfl rfl Try.func57 (by kernel_rfl) rfl #[.pointer (some ⟨g, 0, none⟩), .int .i64 6] rfl KL ?_; (with_reducible refine (spec_l1Below.calls g s0_0 t212 t213 6 t214 t215 t216 w0 _ ?side1 ?side2 A3.out).mono ?_); (case side1 => exact KI87); (case side2 => exact KB87); rintro e w9 ⟨rfl, hi, hb, hk⟩; refine ⟨_, rfl, ?_⟩; have h_ := P3 (KeepBut.trans KH hk (.inl rfl)) hb hi; clear HK HB HI0; obtain ⟨HK, HB, HI0⟩ := h_; (try clear hb); (try clear hk); (try clear hi)) | ((with_reducible refine gate_callee (f := 83) rfl ?_); refine goesL_ (some 10) rfl rfl Try.func83 (by kernel_rfl) rfl #[.int .i64 (wrap64 (1 + t211)), .int .i64 (wrap64 (1 + t214))] rfl KL ?_; (with_reducible refine (spec_l1Place.calls (wrap64 (1 + t211)) (wrap64 (1 + t214)) t217 _ A4.out).mono ?_); rintro e w' ⟨rfl, ⟨nd, rfl⟩⟩; refine ⟨_, rfl, ?_⟩) | ((with_reducible refine gate_callee (f := 57) rfl ?_); refine goesL_ (some 12) rfl rfl Try.func57 (by kernel_rfl) rfl #[.pointer (some ⟨g, 0, none⟩), .int .i64 15] rfl KL ?_; (with_reducible refine (spec_l1Below.calls g s0_0 t215 t216 15 t218 t219 t220 w0 _ ?side1 ?side2 A5.out).mono ?_); (case side1 => exact KI87); (case side2 => exact KB87); rintro e w10 ⟨rfl, hi, hb, hk⟩; refine ⟨_, rfl, ?_⟩; have h_ := P3 (KeepBut.trans KH hk (.inl rfl)) hb hi; clear HK HB HI0; obtain ⟨HK, HB, HI0⟩ := h_; (try clear hb); (try clear hk); (try clear hi)) | ((with_reducible refine gate_dst (N := 16) rfl ?_); refine Kd.R_lit (Kd.int .i64) _ 3 ?hg (N := 16) ?hd (xs := ([0, (-1), 4294967296, 4294967297, 9223372036854775807, (-9223372036854775808)] : List Int)) (inner := [.int .i64 0, .int .i64 (-1), .int .i64 4294967296, .int .i64 4294967297, .int .i64 9223372036854775807, .int .i64 (-9223372036854775808)]) (ok := fun _ => True) (okp := fun _ => True) ?hr ?hp (fun _ hk => hk) trivial (Below.refl _ _) (Nat.le_refl _) (by simp) ?_; (case hd => rfl); (case hg => rfl); (case hr => first | (go_simp; done) | (go_simp; rfl)); (case hp => exact (Reps.one (show Kd.M (Kd.int .i64) _ _ _ 0 [.int .i64 0] from rfl) (Reps.one (show Kd.M (Kd.int .i64) _ _ _ (-1) [.int .i64 (-1)] from rfl) (Reps.one (show Kd.M (Kd.int .i64) _ _ _ 4294967296 [.int .i64 4294967296] from rfl) (Reps.one (show Kd.M (Kd.int .i64) _ _ _ 4294967297 [.int .i64 4294967297] from rfl) (Reps.one (show Kd.M (Kd.int .i64) _ _ _ 9223372036854775807 [.int .i64 9223372036854775807] from rfl) (Reps.one (show Kd.M (Kd.int .i64) _ _ _ (-9223372036854775808) [.int .i64 (-9223372036854775808)] from rfl) (Reps.none _ _)))))))); intro v222 w11 ho12 hb hg_ hnew_; clear hg_ hnew_; (first | rw [← Ny221.out] at ho12 | (simp only [Int.reduceToNat] at ho12; rw [← Ny221.out] at ho12)); have h_ := P4 (Kd.R_lower ho12 (KS HK.out)) (IsS87.below (KI87) hb) (KeepBut.trans KH (KeepBut.of_below hb g none) (.inl rfl)) (below_step KB87 hb); clear HI0 HK HB; obtain ⟨HO223, HI0, HK, HB⟩ := h_; clear hb ho12; obtain ⟨Ao13, co13, eo13⟩ := Kd.R_slice HO223.out; subst eo13) | ((with_reducible refine gate_callee (f := 62) rfl ?_); refine goesL_ (some 17) rfl rfl Try.func62 (by kernel_rfl) rfl #[.pointer (some ⟨g, 0, none⟩), .slice Ao13 y221.length co13] rfl KL ?_; (with_reducible refine (spec_l1PickInt.calls g s0_0 t219 t220 _ _ y221 t224 t225 t226 w0 _ ?side1 ?side2 ?side3 ?side4 ?side5 A7.out).mono ?_); (case side1 => exact KI87); (case side2 => exact KB87); (case side3 => repeat (first | exact (Kd.R_reads' HO223.out).2.2 | (with_reducible refine Kd.C_alloc ?_ _) | (with_reducible refine Kd.C_drewN ?_ _) | (with_reducible refine Kd.C_drew ?_))); (case side4 => exact (Kd.R_reads' HO223.out).2.1); (case side5 => exact far_slice (IsS87.own_ne HI0.out HO223.out (by decide))); rintro e w14 ⟨rfl, hi, hb, hk⟩; refine ⟨_, rfl, ?_⟩; have h_ := P4 (Kd.R_mono (Kd.R_keep (IsS87.apart (show IsS87 w0 _ g s0_0 t219 t220 from KI87) (KR HO223.out) (by decide)) hk (fun _ h => h.2)) (fun _ h => h.1)) (KeepBut.trans KH hk (.inl rfl)) hb hi; clear HO223 HK HB HI0; obtain ⟨HO223, HK, HB, HI0⟩ := h_; (try clear hb); (try clear hk); (try clear hi)))
  go_ret
  exact ⟨KE, KI87, KB87, KH⟩
 ·rw [if_neg c6] at H
  have c6b0 : (t218 == 0) = false := beq_eq_false_iff_ne.mpr c6
  have c6b1 : (t218 != 0) = true := bne_iff_ne.mpr c6
  by_cases c15 : t218 = 1
  ·rw [if_pos c15] at H
   have c15b0 : (t218 == 1) = true := beq_iff_eq.mpr c15
   have c15b1 : (t218 != 1) = false := bne_eq_false_iff_eq.mpr c15
   clear c15
   obtain ⟨y227, hy227⟩ : ∃ y_ : List Int, y_ = (([0, 30, 31] : List Int)) := ⟨_, rfl⟩
   replace H : ((spec_l1PickInt.f s0_0 t219 t220 y227).bind fun bt230 => ((spec_l1PickInt.f s0_0 bt230.2.1 bt230.2.2 (([0, 60, 61] : List Int))).bind fun bt236 => ((spec_l1Place.f bt230.1 bt236.1).bind fun t239 => (some (t239, bt236.2.1, bt236.2.2))))) = some (r1, r2, r3) := by first | (rw [hy227]; with_reducible exact H) | (have H2_ := (Option.bind_some _ _).symm.trans H; rw [hy227]; with_reducible exact H2_) | (have H2_ := (Option.bind_some _ _).symm.trans H; with_reducible exact H2_) | with_reducible exact H | (rw [hy227]; exact H) | exact H
   have Ny227 := Aside0.mk hy227
   clear hy227
   replace H := Option.bind_eq_some_iff.mp H
   obtain ⟨⟨t230, t231, t232⟩, A160, H⟩ := H
   replace H : ((spec_l1PickInt.f s0_0 t231 t232 (([0, 60, 61] : List Int))).bind fun bt236 => ((spec_l1Place.f t230 bt236.1).bind fun t239 => (some (t239, bt236.2.1, bt236.2.2)))) = some (r1, r2, r3) := H
   have A16 := Aside0.mk A160
   clear A160
   obtain ⟨y233, hy233⟩ : ∃ y_ : List Int, y_ = (([0, 60, 61] : List Int)) := ⟨_, rfl⟩
   replace H : ((spec_l1PickInt.f s0_0 t231 t232 y233).bind fun bt236 => ((spec_l1Place.f t230 bt236.1).bind fun t239 => (some (t239, bt236.2.1, bt236.2.2)))) = some (r1, r2, r3) := by first | (rw [hy233]; with_reducible exact H) | (have H2_ := (Option.bind_some _ _).symm.trans H; rw [hy233]; with_reducible exact H2_) | (have H2_ := (Option.bind_some _ _).symm.trans H; with_reducible exact H2_) | with_reducible exact H | (rw [hy233]; exact H) | exact H
   have Ny233 := Aside0.mk hy233
   clear hy233
   replace H := Option.bind_eq_some_iff.mp H
   obtain ⟨⟨t236, t237, t238⟩, A170, H⟩ := H
   replace H : ((spec_l1Place.f t230 t236).bind fun t239 => (some (t239, t237, t238))) = some (r1, r2, r3) := H
   have A17 := Aside0.mk A170
   clear A170
   replace H := Option.bind_eq_some_iff.mp H
   obtain ⟨t239, A180, H⟩ := H
   replace H : (some (t239, t237, t238)) = some (r1, r2, r3) := H
   have A18 := Aside0.mk A180
   clear A180
   simp only [Option.some.injEq, Prod.mk.injEq] at H
   obtain ⟨rfl, rfl, rfl⟩ := H
   go_enter Try.func87, Try.ntmps87
   go_wp2_with (first | ((with_reducible refine gate_callee (f := 57) rfl ?_); refine goesL_ (some 5) rfl rfl Try.func57 (by kernel_rfl) rfl #[.pointer (some ⟨g, 0, none⟩), .int .i64 3] rfl KL ?_; (with_reducible refine (spec_l1Below.calls g s0_0 s0_1 s0_2 3 t211 t212 t213 w0 _ ?side1 ?side2 A2.out).mono ?_); (case side1 => exact KI87); (case side2 => exact KB87); rintro e w19 ⟨rfl, hi, hb, hk⟩; refine ⟨_, rfl, ?_⟩; have h_ := P3 (KeepBut.trans KH hk (.inl rfl)) hb hi; clear HK HB HI0; obtain ⟨HK, HB, HI0⟩ := h_; (try clear hb); (try clear hk); (try clear hi)) | ((with_reducible refine gate_callee (f := 57) rfl ?_); refine goesL_ (some 8) rfl rfl Try.func57 (by kernel_rfl) rfl #[.pointer (some ⟨g, 0, none⟩), .int .i64 6] rfl KL ?_; (with_reducible refine (spec_l1Below.calls g s0_0 t212 t213 6 t214 t215 t216 w0 _ ?side1 ?side2 A3.out).mono ?_); (case side1 => exact KI87); (case side2 => exact KB87); rintro e w20 ⟨rfl, hi, hb, hk⟩; refine ⟨_, rfl, ?_⟩; have h_ := P3 (KeepBut.trans KH hk (.inl rfl)) hb hi; clear HK HB HI0; obtain ⟨HK, HB, HI0⟩ := h_; (try clear hb); (try clear hk); (try clear hi)) | ((with_reducible refine gate_callee (f := 83) rfl ?_); refine goesL_ (some 10) rfl rfl Try.func83 (by kernel_rfl) rfl #[.int .i64 (wrap64 (1 + t211)), .int .i64 (wrap64 (1 + t214))] rfl KL ?_; (with_reducible refine (spec_l1Place.calls (wrap64 (1 + t211)) (wrap64 (1 + t214)) t217 _ A4.out).mono ?_); rintro e w' ⟨rfl, ⟨nd, rfl⟩⟩; refine ⟨_, rfl, ?_⟩) | ((with_reducible refine gate_callee (f := 57) rfl ?_); refine goesL_ (some 12) rfl rfl Try.func57 (by kernel_rfl) rfl #[.pointer (some ⟨g, 0, none⟩), .int .i64 15] rfl KL ?_; (with_reducible refine (spec_l1Below.calls g s0_0 t215 t216 15 t218 t219 t220 w0 _ ?side1 ?side2 A5.out).mono ?_); (case side1 => exact KI87); (case side2 => exact KB87); rintro e w21 ⟨rfl, hi, hb, hk⟩; refine ⟨_, rfl, ?_⟩; have h_ := P3 (KeepBut.trans KH hk (.inl rfl)) hb hi; clear HK HB HI0; obtain ⟨HK, HB, HI0⟩ := h_; (try clear hb); (try clear hk); (try clear hi)) | ((with_reducible refine gate_dst (N := 21) rfl ?_); refine Kd.R_lit (Kd.int .i64) _ 3 ?hg (N := 21) ?hd (xs := ([0, 30, 31] : List Int)) (inner := [.int .i64 0, .int .i64 30, .int .i64 31]) (ok := fun _ => True) (okp := fun _ => True) ?hr ?hp (fun _ hk => hk) trivial (Below.refl _ _) (Nat.le_refl _) (by simp) ?_; (case hd => rfl); (case hg => rfl); (case hr => first | (go_simp; done) | (go_simp; rfl)); (case hp => exact (Reps.one (show Kd.M (Kd.int .i64) _ _ _ 0 [.int .i64 0] from rfl) (Reps.one (show Kd.M (Kd.int .i64) _ _ _ 30 [.int .i64 30] from rfl) (Reps.one (show Kd.M (Kd.int .i64) _ _ _ 31 [.int .i64 31] from rfl) (Reps.none _ _))))); intro v228 w22 ho23 hb hg_ hnew_; clear hg_ hnew_; (first | rw [← Ny227.out] at ho23 | (simp only [Int.reduceToNat] at ho23; rw [← Ny227.out] at ho23)); have h_ := P4 (Kd.R_lower ho23 (KS HK.out)) (IsS87.below (KI87) hb) (KeepBut.trans KH (KeepBut.of_below hb g none) (.inl rfl)) (below_step KB87 hb); clear HI0 HK HB; obtain ⟨HO229, HI0, HK, HB⟩ := h_; clear hb ho23; obtain ⟨Ao24, co24, eo24⟩ := Kd.R_slice HO229.out; subst eo24) | ((with_reducible refine gate_callee (f := 62) rfl ?_); refine goesL_ (some 22) rfl rfl Try.func62 (by kernel_rfl) rfl #[.pointer (some ⟨g, 0, none⟩), .slice Ao24 y227.length co24] rfl KL ?_; (with_reducible refine (spec_l1PickInt.calls g s0_0 t219 t220 _ _ y227 t230 t231 t232 w0 _ ?side1 ?side2 ?side3 ?side4 ?side5 A16.out).mono ?_); (case side1 => exact KI87); (case side2 => exact KB87); (case side3 => repeat (first | exact (Kd.R_reads' HO229.out).2.2 | (with_reducible refine Kd.C_alloc ?_ _) | (with_reducible refine Kd.C_drewN ?_ _) | (with_reducible refine Kd.C_drew ?_))); (case side4 => exact (Kd.R_reads' HO229.out).2.1); (case side5 => exact far_slice (IsS87.own_ne HI0.out HO229.out (by decide))); rintro e w25 ⟨rfl, hi, hb, hk⟩; refine ⟨_, rfl, ?_⟩; have h_ := P4 (Kd.R_mono (Kd.R_keep (IsS87.apart (show IsS87 w0 _ g s0_0 t219 t220 from KI87) (KR HO229.out) (by decide)) hk (fun _ h => h.2)) (fun _ h => h.1)) (KeepBut.trans KH hk (.inl rfl)) hb hi; clear HO229 HK HB HI0; obtain ⟨HO229, HK, HB, HI0⟩ := h_; (try clear hb); (try clear hk); (try clear hi)) | ((with_reducible refine gate_dst (N := 24) rfl ?_); refine Kd.R_lit (Kd.int .i64) _ 3 ?hg (N := 24) ?hd (xs := ([0, 60, 61] : List Int)) (inner := [.int .i64 0, .int .i64 60, .int .i64 61]) (ok := fun _ => True) (okp := fun _ => True) ?hr ?hp (fun _ hk => hk) trivial (Below.refl _ _) (Nat.le_refl _) (by simp) ?_; (case hd => rfl); (case hg => rfl); (case hr => first | (go_simp; done) | (go_simp; rfl)); (case hp => exact (Reps.one (show Kd.M (Kd.int .i64) _ _ _ 0 [.int .i64 0] from rfl) (Reps.one (show Kd.M (Kd.int .i64) _ _ _ 60 [.int .i64 60] from rfl) (Reps.one (show Kd.M (Kd.int .i64) _ _ _ 61 [.int .i64 61] from rfl) (Reps.none _ _))))); intro v234 w26 ho27 hb hg_ hnew_; clear hg_ hnew_; (first | rw [← Ny233.out] at ho27 | (simp only [Int.reduceToNat] at ho27; rw [← Ny233.out] at ho27)); have h_ := P5 (Kd.R_elder' (KR HO229.out) (Kd.R_base ho27) hb) (Kd.R_lower (Kd.R_new' ho27 (Kd.R_lt (KR HO229.out))) (KS HK.out)) (IsS87.below (KI87) hb) (KeepBut.trans KH (KeepBut.of_below hb g none) (.inl rfl)) (below_step KB87 hb); clear HO229 HI0 HK HB; obtain ⟨HO229, HO235, HI0, HK, HB⟩ := h_; clear hb ho27; obtain ⟨Ao28, co28, eo28⟩ := Kd.R_slice HO235.out; subst eo28) | ((with_reducible refine gate_callee (f := 62) rfl ?_); refine goesL_ (some 25) rfl rfl Try.func62 (by kernel_rfl) rfl #[.pointer (some ⟨g, 0, none⟩), .slice Ao28 y233.length co28] rfl KL ?_; (with_reducible refine (spec_l1PickInt.calls g s0_0 t231 t232 _ _ y233 t236 t237 t238 w0 _ ?side1 ?side2 ?side3 ?side4 ?side5 A17.out).mono ?_); (case side1 => exact KI87); (case side2 => exact KB87); (case side3 => repeat (first | exact (Kd.R_reads' HO235.out).2.2 | (with_reducible refine Kd.C_alloc ?_ _) | (with_reducible refine Kd.C_drewN ?_ _) | (with_reducible refine Kd.C_drew ?_))); (case side4 => exact (Kd.R_reads' HO235.out).2.1); (case side5 => exact far_slice (IsS87.own_ne HI0.out HO235.out (by decide))); rintro e w29 ⟨rfl, hi, hb, hk⟩; refine ⟨_, rfl, ?_⟩; have h_ := P5 (Kd.R_mono (Kd.R_keep (IsS87.apart (show IsS87 w0 _ g s0_0 t231 t232 from KI87) (KR HO229.out) (by decide)) hk (fun _ h => h.2)) (fun _ h => h.1)) (Kd.R_mono (Kd.R_keep (IsS87.apart (show IsS87 w0 _ g s0_0 t231 t232 from KI87) (KR HO235.out) (by decide)) hk (fun _ h => h.2)) (fun _ h => h.1)) (KeepBut.trans KH hk (.inl rfl)) hb hi; clear HO229 HO235 HK HB HI0; obtain ⟨HO229, HO235, HK, HB, HI0⟩ := h_; (try clear hb); (try clear hk); (try clear hi)) | ((with_reducible refine gate_callee (f := 83) rfl ?_); refine goesL_ (some 26) rfl rfl Try.func83 (by kernel_rfl) rfl #[.int .i64 t230, .int .i64 t236] rfl KL ?_; (with_reducible refine (spec_l1Place.calls t230 t236 t239 _ A18.out).mono ?_); rintro e w' ⟨rfl, ⟨nd, rfl⟩⟩; refine ⟨_, rfl, ?_⟩))
   go_ret
   exact ⟨KE, KI87, KB87, KH⟩
  ·rw [if_neg c15] at H
   have c15b0 : (t218 == 1) = false := beq_eq_false_iff_ne.mpr c15
   have c15b1 : (t218 != 1) = true := bne_iff_ne.mpr c15
   simp only [Option.some.injEq, Prod.mk.injEq] at H
   obtain ⟨rfl, rfl, rfl⟩ := H
   go_enter Try.func87, Try.ntmps87
   go_wp2_with (first | ((with_reducible refine gate_callee (f := 57) rfl ?_); refine goesL_ (some 5) rfl rfl Try.func57 (by kernel_rfl) rfl #[.pointer (some ⟨g, 0, none⟩), .int .i64 3] rfl KL ?_; (with_reducible refine (spec_l1Below.calls g s0_0 s0_1 s0_2 3 t211 t212 t213 w0 _ ?side1 ?side2 A2.out).mono ?_); (case side1 => exact KI87); (case side2 => exact KB87); rintro e w30 ⟨rfl, hi, hb, hk⟩; refine ⟨_, rfl, ?_⟩; have h_ := P3 (KeepBut.trans KH hk (.inl rfl)) hb hi; clear HK HB HI0; obtain ⟨HK, HB, HI0⟩ := h_; (try clear hb); (try clear hk); (try clear hi)) | ((with_reducible refine gate_callee (f := 57) rfl ?_); refine goesL_ (some 8) rfl rfl Try.func57 (by kernel_rfl) rfl #[.pointer (some ⟨g, 0, none⟩), .int .i64 6] rfl KL ?_; (with_reducible refine (spec_l1Below.calls g s0_0 t212 t213 6 t214 t215 t216 w0 _ ?side1 ?side2 A3.out).mono ?_); (case side1 => exact KI87); (case side2 => exact KB87); rintro e w31 ⟨rfl, hi, hb, hk⟩; refine ⟨_, rfl, ?_⟩; have h_ := P3 (KeepBut.trans KH hk (.inl rfl)) hb hi; clear HK HB HI0; obtain ⟨HK, HB, HI0⟩ := h_; (try clear hb); (try clear hk); (try clear hi)) | ((with_reducible refine gate_callee (f := 83) rfl ?_); refine goesL_ (some 10) rfl rfl Try.func83 (by kernel_rfl) rfl #[.int .i64 (wrap64 (1 + t211)), .int .i64 (wrap64 (1 + t214))] rfl KL ?_; (with_reducible refine (spec_l1Place.calls (wrap64 (1 + t211)) (wrap64 (1 + t214)) t217 _ A4.out).mono ?_); rintro e w' ⟨rfl, ⟨nd, rfl⟩⟩; refine ⟨_, rfl, ?_⟩) | ((with_reducible refine gate_callee (f := 57) rfl ?_); refine goesL_ (some 12) rfl rfl Try.func57 (by kernel_rfl) rfl #[.pointer (some ⟨g, 0, none⟩), .int .i64 15] rfl KL ?_; (with_reducible refine (spec_l1Below.calls g s0_0 t215 t216 15 t218 t219 t220 w0 _ ?side1 ?side2 A5.out).mono ?_); (case side1 => exact KI87); (case side2 => exact KB87); rintro e w32 ⟨rfl, hi, hb, hk⟩; refine ⟨_, rfl, ?_⟩; have h_ := P3 (KeepBut.trans KH hk (.inl rfl)) hb hi; clear HK HB HI0; obtain ⟨HK, HB, HI0⟩ := h_; (try clear hb); (try clear hk); (try clear hi)))
   go_ret
   exact ⟨KE, KI87, KB87, KH⟩

/-! ### spec_l1In: function 66 -/
def spec_l1In.f (a0 : Int) (a1 : Int) (a2 : Int) : Option (Bool) := if a0 ≥ a1 then (some (decide (a0 ≤ a2))) else (some false)
set_option maxHeartbeats 8000000 in
set_option maxRecDepth 100000 in
theorem spec_l1In.calls (a0 : Int) (a1 : Int) (a2 : Int) (r : Bool) (w : World) (h : spec_l1In.f a0 a1 a2 = some r) :
  Calls Try.prog 66 #[.int .i64 a0, .int .i64 a1, .int .i64 a2] w fun e w' => e = .returned (.bool r) ∧ Drawn0 w w' := by
 have H : (if a0 ≥ a1 then (some (decide (a0 ≤ a2))) else (some false)) = some r := h
 clear h
 by_cases c4 : a0 ≥ a1
 ·rw [if_pos c4] at H
  have c4b0 : decide (a1 ≤ a0) = true := decide_eq_true c4
  clear c4
  obtain rfl := Option.some.inj H
  go_enter Try.func66, Try.ntmps66
  go_wp2
  go_ret
  exact ⟨by first | rfl | (simp; done) | (simp [*]; done), by repeat (first | exact Drawn0.refl _ | apply Drawn0.step)⟩
 ·rw [if_neg c4] at H
  have c4b0 : decide (a1 ≤ a0) = false := decide_eq_false c4
  clear c4
  obtain rfl := Option.some.inj H
  go_enter Try.func66, Try.ntmps66
  go_wp2
  go_ret
  exact ⟨by first | rfl | (simp; done) | (simp [*]; done), by repeat (first | exact Drawn0.refl _ | apply Drawn0.step)⟩

/-! ### spec_PlaceOk: function 51 -/
def spec_PlaceOk.f (a0 : Int) : Option (Bool) := if a0 > 0 then ((spec_l1In.f (wrap64 (Int.tdiv a0 4294967296)) 1 30).bind fun t240 => (if t240 = true then ((spec_l1In.f (Int.tmod a0 4294967296) 1 60).bind fun t241 => (some t241)) else (some false))) else (some false)
set_option maxHeartbeats 8000000 in
set_option maxRecDepth 100000 in
theorem spec_PlaceOk.calls (a0 : Int) (r : Bool) (w : World) (h : spec_PlaceOk.f a0 = some r) :
  Calls Try.prog 51 #[.int .i64 a0] w fun e w' => e = .returned (.bool r) ∧ Drawn0 w w' := by
 have H : (if a0 > 0 then ((spec_l1In.f (wrap64 (Int.tdiv a0 4294967296)) 1 30).bind fun t240 => (if t240 = true then ((spec_l1In.f (Int.tmod a0 4294967296) 1 60).bind fun t241 => (some t241)) else (some false))) else (some false)) = some r := h
 clear h
 by_cases c2 : a0 > 0
 ·rw [if_pos c2] at H
  have c2b0 : decide (0 < a0) = true := decide_eq_true c2
  clear c2
  replace H := Option.bind_eq_some_iff.mp H
  obtain ⟨t240, A30, H⟩ := H
  replace H : (if t240 = true then ((spec_l1In.f (Int.tmod a0 4294967296) 1 60).bind fun t241 => (some t241)) else (some false)) = some r := H
  have A3 := Aside0.mk A30
  clear A30
  by_cases c4 : t240 = true
  ·subst c4
   have H1 : ((spec_l1In.f (Int.tmod a0 4294967296) 1 60).bind fun t241 => (some t241)) = some r := by rw [if_pos rfl] at H; exact H
   clear H
   have H := H1
   clear H1
   replace H := Option.bind_eq_some_iff.mp H
   obtain ⟨t241, A50, H⟩ := H
   replace H : (some t241) = some r := H
   have A5 := Aside0.mk A50
   clear A50
   obtain rfl := Option.some.inj H
   go_enter Try.func51, Try.ntmps51
   go_wp2_with (first | (go_at_call 66; (with_reducible refine (spec_l1In.calls (wrap64 (Int.tdiv a0 4294967296)) 1 30 true _ A3.out).mono ?_); rintro e w' ⟨rfl, ⟨nd, rfl⟩⟩) | (go_at_call 66; (with_reducible refine (spec_l1In.calls (Int.tmod a0 4294967296) 1 60 t241 _ A5.out).mono ?_); rintro e w' ⟨rfl, ⟨nd, rfl⟩⟩))
   go_ret
   exact ⟨by first | rfl | (simp; done) | (simp [*]; done), by repeat (first | exact Drawn0.refl _ | apply Drawn0.step)⟩
  ·replace c4 := Bool.eq_false_iff.mpr c4
   subst c4
   have H1 : (some false) = some r := by rw [if_neg (show ¬ (false = true) by decide)] at H; exact H
   clear H
   have H := H1
   clear H1
   obtain rfl := Option.some.inj H
   go_enter Try.func51, Try.ntmps51
   go_wp2_with (first | (go_at_call 66; (with_reducible refine (spec_l1In.calls (wrap64 (Int.tdiv a0 4294967296)) 1 30 false _ A3.out).mono ?_); rintro e w' ⟨rfl, ⟨nd, rfl⟩⟩))
   go_ret
   exact ⟨by first | rfl | (simp; done) | (simp [*]; done), by repeat (first | exact Drawn0.refl _ | apply Drawn0.step)⟩
 ·rw [if_neg c2] at H
  have c2b0 : decide (0 < a0) = false := decide_eq_false c2
  clear c2
  obtain rfl := Option.some.inj H
  go_enter Try.func51, Try.ntmps51
  go_wp2
  go_ret
  exact ⟨by first | rfl | (simp; done) | (simp [*]; done), by repeat (first | exact Drawn0.refl _ | apply Drawn0.step)⟩

/-! ### spec_EpochOf: function 58 -/
def spec_EpochOf.f (a0 : Int) : Option (Int) := (spec_PlaceOk.f a0).bind fun t242 => (if t242 = true then (some (wrap64 (Int.tdiv a0 4294967296))) else (some 0))
set_option maxHeartbeats 8000000 in
set_option maxRecDepth 100000 in
theorem spec_EpochOf.calls (a0 : Int) (r : Int) (w : World) (h : spec_EpochOf.f a0 = some r) :
  Calls Try.prog 58 #[.int .i64 a0] w fun e w' => e = .returned (.int .i64 r) ∧ Drawn0 w w' := by
 have H : ((spec_PlaceOk.f a0).bind fun t242 => (if t242 = true then (some (wrap64 (Int.tdiv a0 4294967296))) else (some 0))) = some r := h
 clear h
 replace H := Option.bind_eq_some_iff.mp H
 obtain ⟨t242, A20, H⟩ := H
 replace H : (if t242 = true then (some (wrap64 (Int.tdiv a0 4294967296))) else (some 0)) = some r := H
 have A2 := Aside0.mk A20
 clear A20
 by_cases c3 : t242 = true
 ·subst c3
  have H1 : (some (wrap64 (Int.tdiv a0 4294967296))) = some r := by rw [if_pos rfl] at H; exact H
  clear H
  have H := H1
  clear H1
  obtain rfl := Option.some.inj H
  go_enter Try.func58, Try.ntmps58
  go_wp2_with (first | ((with_reducible refine gate_callee (f := 51) rfl ?_); refine goesL_ (some 4) rfl rfl Try.func51 (by kernel_rfl) rfl #[.int .i64 a0] rfl KL ?_; (with_reducible refine (spec_PlaceOk.calls a0 true _ A2.out).mono ?_); rintro e w' ⟨rfl, ⟨nd, rfl⟩⟩; refine ⟨_, rfl, ?_⟩))
  go_ret
  exact ⟨by first | rfl | (simp; done) | (simp [*]; done), by repeat (first | exact Drawn0.refl _ | apply Drawn0.step)⟩
 ·replace c3 := Bool.eq_false_iff.mpr c3
  subst c3
  have H1 : (some 0) = some r := by rw [if_neg (show ¬ (false = true) by decide)] at H; exact H
  clear H
  have H := H1
  clear H1
  obtain rfl := Option.some.inj H
  go_enter Try.func58, Try.ntmps58
  go_wp2_with (first | ((with_reducible refine gate_callee (f := 51) rfl ?_); refine goesL_ (some 4) rfl rfl Try.func51 (by kernel_rfl) rfl #[.int .i64 a0] rfl KL ?_; (with_reducible refine (spec_PlaceOk.calls a0 false _ A2.out).mono ?_); rintro e w' ⟨rfl, ⟨nd, rfl⟩⟩; refine ⟨_, rfl, ?_⟩))
  go_ret
  exact ⟨by first | rfl | (simp; done) | (simp [*]; done), by repeat (first | exact Drawn0.refl _ | apply Drawn0.step)⟩

/-! ### spec_l1Once: function 61 -/
def spec_l1Once.f (s0_0 : List Int) (s0_1 : Int) (s0_2 : Int) (a1 : Int) : Option (Bool × Int × Int) := (spec_l1Below.f s0_0 s0_1 s0_2 a1).bind fun bt243 => (some ((bt243.1 == 0), bt243.2.1, bt243.2.2))
set_option maxHeartbeats 8000000 in
set_option maxRecDepth 100000 in
theorem spec_l1Once.calls (g : Nat) (s0_0 : List Int) (s0_1 : Int) (s0_2 : Int) (a1 : Int) (r1 : Bool) (r2 : Int) (r3 : Int) (w0 w : World) (hI : IsS87 w0 w g s0_0 s0_1 s0_2) (hB : Below w0.heap.size w0 w) (h : spec_l1Once.f s0_0 s0_1 s0_2 a1 = some (r1, r2, r3)) :
  Calls Try.prog 61 #[.pointer (some ⟨g, 0, none⟩), .int .i64 a1] w fun e w' => e = .returned (.bool r1) ∧ IsS87 w0 w' g s0_0 r2 r3 ∧ Below w0.heap.size w0 w' ∧ KeepBut w w' g none := by
 have HI0 := Aside0.mk hI
 have HK := Aside0.mk (KeepBut.refl w g none)
 have HL := Aside0.mk hB.size
 clear hI
 have HW0 := Aside0.mk hB.size
 have HB := Aside0.mk hB
 clear hB
 have H : ((spec_l1Below.f s0_0 s0_1 s0_2 a1).bind fun bt243 => (some ((bt243.1 == 0), bt243.2.1, bt243.2.2))) = some (r1, r2, r3) := h
 clear h
 replace H := Option.bind_eq_some_iff.mp H
 obtain ⟨⟨t243, t244, t245⟩, A30, H⟩ := H
 replace H : (some ((t243 == 0), t244, t245)) = some (r1, r2, r3) := H
 have A3 := Aside0.mk A30
 clear A30
 simp only [Option.some.injEq, Prod.mk.injEq] at H
 obtain ⟨rfl, rfl, rfl⟩ := H
 go_enter Try.func61, Try.ntmps61
 go_wp2_with (first | ((with_reducible refine gate_callee (f := 57) rfl ?_); refine goesL_ (some 7) rfl rfl Try.func57 (by kernel_rfl) rfl #[.pointer (some ⟨g, 0, none⟩), .int .i64 a1] rfl KL ?_; (with_reducible refine (spec_l1Below.calls g s0_0 s0_1 s0_2 a1 t243 t244 t245 w0 _ ?side1 ?side2 A3.out).mono ?_); (case side1 => exact KI87); (case side2 => exact KB87); rintro e w4 ⟨rfl, hi, hb, hk⟩; refine ⟨_, rfl, ?_⟩; have h_ := P3 (KeepBut.trans KH hk (.inl rfl)) hb hi; clear HK HB HI0; obtain ⟨HK, HB, HI0⟩ := h_; (try clear hb); (try clear hk); (try clear hi)))
 go_ret
 exact ⟨KE, KI87, KB87, KH⟩

/-! ### spec_l1Pick: function 94 -/
def spec_l1Pick.f (s0_0 : List Int) (s0_1 : Int) (s0_2 : Int) (l1 : List ByteArray) : Option (ByteArray × Int × Int) := (spec_l1Below.f s0_0 s0_1 s0_2 (l1.length : Int)).bind fun bt246 => (if 0 ≤ bt246.1 then (if bt246.1 < (l1.length : Int) then (some (rdOf ByteArray.empty l1 bt246.1, bt246.2.1, bt246.2.2)) else (none)) else (none))
set_option maxHeartbeats 8000000 in
set_option maxRecDepth 100000 in
theorem spec_l1Pick.calls (g : Nat) (s0_0 : List Int) (s0_1 : Int) (s0_2 : Int) (A1 : Option Addr) (c1 : Nat) (l1 : List ByteArray) (r1 : ByteArray) (r2 : Int) (r3 : Int) (w0 w : World) (hI : IsS87 w0 w g s0_0 s0_1 s0_2) (hB : Below w0.heap.size w0 w) (hr1 : Kd.C Kd.string w A1 l1.length l1) (hc1 : l1.length ≤ c1) (hf1 : ∀ ad, A1 = some ad → 0 < l1.length → ad.block ≠ g) (h : spec_l1Pick.f s0_0 s0_1 s0_2 l1 = some (r1, r2, r3)) :
  Calls Try.prog 94 #[.pointer (some ⟨g, 0, none⟩), .slice A1 l1.length c1] w fun e w' => e = .returned (.string r1) ∧ IsS87 w0 w' g s0_0 r2 r3 ∧ Below w0.heap.size w0 w' ∧ KeepBut w w' g none := by
 have HR1 := Aside0.mk hr1
 have HC1 := Aside0.mk hc1
 clear hr1 hc1
 have HI0 := Aside0.mk hI
 have HK := Aside0.mk (KeepBut.refl w g none)
 have HL := Aside0.mk hB.size
 clear hI
 have HW0 := Aside0.mk hB.size
 have HB := Aside0.mk hB
 clear hB
 have H : ((spec_l1Below.f s0_0 s0_1 s0_2 (l1.length : Int)).bind fun bt246 => (if 0 ≤ bt246.1 then (if bt246.1 < (l1.length : Int) then (some (rdOf ByteArray.empty l1 bt246.1, bt246.2.1, bt246.2.2)) else (none)) else (none))) = some (r1, r2, r3) := h
 clear h
 replace H := Option.bind_eq_some_iff.mp H
 obtain ⟨⟨t246, t247, t248⟩, A30, H⟩ := H
 replace H : (if 0 ≤ t246 then (if t246 < (l1.length : Int) then (some (rdOf ByteArray.empty l1 t246, t247, t248)) else (none)) else (none)) = some (r1, r2, r3) := H
 have A3 := Aside0.mk A30
 clear A30
 by_cases c4 : 0 ≤ t246
 ·rw [if_pos c4] at H
  have c4b0 : decide (0 ≤ t246) = true := decide_eq_true c4
  clear c4
  by_cases c5 : t246 < (l1.length : Int)
  ·rw [if_pos c5] at H
   have c5b0 : decide (t246 < (l1.length : Int)) = true := decide_eq_true c5
   clear c5
   simp only [Option.some.injEq, Prod.mk.injEq] at H
   obtain ⟨rfl, rfl, rfl⟩ := H
   go_enter Try.func94, Try.ntmps94
   go_wp2_with (first | ((with_reducible refine gate_callee (f := 57) rfl ?_); refine goesL_ (some 9) rfl rfl Try.func57 (by kernel_rfl) rfl #[.pointer (some ⟨g, 0, none⟩), .int .i64 (l1.length : Int)] rfl KL ?_; (with_reducible refine (spec_l1Below.calls g s0_0 s0_1 s0_2 (l1.length : Int) t246 t247 t248 w0 _ ?side1 ?side2 A3.out).mono ?_); (case side1 => exact KI87); (case side2 => exact KB87); rintro e w6 ⟨rfl, hi, hb, hk⟩; refine ⟨_, rfl, ?_⟩; have h_ := P3 (KeepBut.trans KH hk (.inl rfl)) hb hi; clear HK HB HI0; obtain ⟨HK, HB, HI0⟩ := h_; (try clear hb); (try clear hk); (try clear hi); have p249 : 0 ≤ (t246 : Int) := of_decide_eq_true (by first | (with_reducible assumption) | assumption); have q249 : t246 < (l1.length : Int) := of_decide_eq_true (by first | (with_reducible assumption) | assumption); obtain ⟨ad249, e249, hx249_0⟩ := Kd.at_string HR1.out t246 p249 q249; cases e249; replace hx249_0 := keep_cell HK.out hx249_0 (by first | (rw [add_block]; exact hf1 _ rfl (by omega)) | exact hf1 _ rfl (by omega) | exact hf1 ad249 rfl (by omega)); replace p249 := eq_true p249; replace q249 := eq_true q249))
   go_ret
   exact ⟨KE, KI87, KB87, KH⟩
  ·rw [if_neg c5] at H
   exact absurd H (by simp)
 ·rw [if_neg c4] at H
  exact absurd H (by simp)

/-! ### spec_l3DrawRight: function 91 -/
def spec_l3DrawRight.f (s0_0 : List Int) (s0_1 : Int) (s0_2 : Int) : Option (Int × Int × Bool × ByteArray × Int × Int) := (spec_l1Below.f s0_0 s0_1 s0_2 3).bind fun bt251 => ((spec_l1Below.f s0_0 bt251.2.1 bt251.2.2 6).bind fun bt254 => ((spec_l1Place.f (wrap64 (1 + bt251.1)) (wrap64 (1 + bt254.1))).bind fun t257 => ((spec_l1Pick.f s0_0 bt254.2.1 bt254.2.2 (([(⟨#[]⟩ : ByteArray), (⟨#[97]⟩ : ByteArray), (⟨#[98, 99]⟩ : ByteArray), (⟨#[0]⟩ : ByteArray), (⟨#[119, 111, 114, 100]⟩ : ByteArray)] : List ByteArray))).bind fun bt261 => ((spec_l1Once.f s0_0 bt261.2.1 bt261.2.2 3).bind fun bt265 => (if bt265.1 = true then ((spec_EpochOf.f t257).bind fun t268 => ((spec_l1Below.f s0_0 bt265.2.1 bt265.2.2 3).bind fun bt269 => ((spec_l1Once.f s0_0 bt269.2.1 bt269.2.2 2).bind fun bt272 => (if bt272.1 = true then (some (t257, wrap64 ((wrap64 (t268 + 1)) + bt269.1), true, (⟨#[]⟩ : ByteArray), bt272.2.1, bt272.2.2)) else (some (t257, wrap64 ((wrap64 (t268 + 1)) + bt269.1), false, bt261.1, bt272.2.1, bt272.2.2)))))) else (some (t257, 0, false, bt261.1, bt265.2.1, bt265.2.2)))))))
set_option maxHeartbeats 8000000 in
set_option maxRecDepth 100000 in
theorem spec_l3DrawRight.calls (g : Nat) (s0_0 : List Int) (s0_1 : Int) (s0_2 : Int) (r1 : Int) (r2 : Int) (r3 : Bool) (r4 : ByteArray) (r5 : Int) (r6 : Int) (w0 w : World) (hI : IsS87 w0 w g s0_0 s0_1 s0_2) (hB : Below w0.heap.size w0 w) (h : spec_l3DrawRight.f s0_0 s0_1 s0_2 = some (r1, r2, r3, r4, r5, r6)) :
  Calls Try.prog 91 #[.pointer (some ⟨g, 0, none⟩)] w fun e w' => e = .returned (.agg #[.int .i64 r1, .int .i64 r2, .bool r3, .string r4]) ∧ IsS87 w0 w' g s0_0 r5 r6 ∧ Below w0.heap.size w0 w' ∧ KeepBut w w' g none := by
 have hu35 := Try.underlying35
 have HI0 := Aside0.mk hI
 have HK := Aside0.mk (KeepBut.refl w g none)
 have HL := Aside0.mk hB.size
 clear hI
 have HW0 := Aside0.mk hB.size
 have HB := Aside0.mk hB
 clear hB
 have H : ((spec_l1Below.f s0_0 s0_1 s0_2 3).bind fun bt251 => ((spec_l1Below.f s0_0 bt251.2.1 bt251.2.2 6).bind fun bt254 => ((spec_l1Place.f (wrap64 (1 + bt251.1)) (wrap64 (1 + bt254.1))).bind fun t257 => ((spec_l1Pick.f s0_0 bt254.2.1 bt254.2.2 (([(⟨#[]⟩ : ByteArray), (⟨#[97]⟩ : ByteArray), (⟨#[98, 99]⟩ : ByteArray), (⟨#[0]⟩ : ByteArray), (⟨#[119, 111, 114, 100]⟩ : ByteArray)] : List ByteArray))).bind fun bt261 => ((spec_l1Once.f s0_0 bt261.2.1 bt261.2.2 3).bind fun bt265 => (if bt265.1 = true then ((spec_EpochOf.f t257).bind fun t268 => ((spec_l1Below.f s0_0 bt265.2.1 bt265.2.2 3).bind fun bt269 => ((spec_l1Once.f s0_0 bt269.2.1 bt269.2.2 2).bind fun bt272 => (if bt272.1 = true then (some (t257, wrap64 ((wrap64 (t268 + 1)) + bt269.1), true, (⟨#[]⟩ : ByteArray), bt272.2.1, bt272.2.2)) else (some (t257, wrap64 ((wrap64 (t268 + 1)) + bt269.1), false, bt261.1, bt272.2.1, bt272.2.2)))))) else (some (t257, 0, false, bt261.1, bt265.2.1, bt265.2.2)))))))) = some (r1, r2, r3, r4, r5, r6) := h
 clear h
 replace H := Option.bind_eq_some_iff.mp H
 obtain ⟨⟨t251, t252, t253⟩, A20, H⟩ := H
 replace H : ((spec_l1Below.f s0_0 t252 t253 6).bind fun bt254 => ((spec_l1Place.f (wrap64 (1 + t251)) (wrap64 (1 + bt254.1))).bind fun t257 => ((spec_l1Pick.f s0_0 bt254.2.1 bt254.2.2 (([(⟨#[]⟩ : ByteArray), (⟨#[97]⟩ : ByteArray), (⟨#[98, 99]⟩ : ByteArray), (⟨#[0]⟩ : ByteArray), (⟨#[119, 111, 114, 100]⟩ : ByteArray)] : List ByteArray))).bind fun bt261 => ((spec_l1Once.f s0_0 bt261.2.1 bt261.2.2 3).bind fun bt265 => (if bt265.1 = true then ((spec_EpochOf.f t257).bind fun t268 => ((spec_l1Below.f s0_0 bt265.2.1 bt265.2.2 3).bind fun bt269 => ((spec_l1Once.f s0_0 bt269.2.1 bt269.2.2 2).bind fun bt272 => (if bt272.1 = true then (some (t257, wrap64 ((wrap64 (t268 + 1)) + bt269.1), true, (⟨#[]⟩ : ByteArray), bt272.2.1, bt272.2.2)) else (some (t257, wrap64 ((wrap64 (t268 + 1)) + bt269.1), false, bt261.1, bt272.2.1, bt272.2.2)))))) else (some (t257, 0, false, bt261.1, bt265.2.1, bt265.2.2))))))) = some (r1, r2, r3, r4, r5, r6) := H
 have A2 := Aside0.mk A20
 clear A20
 replace H := Option.bind_eq_some_iff.mp H
 obtain ⟨⟨t254, t255, t256⟩, A30, H⟩ := H
 replace H : ((spec_l1Place.f (wrap64 (1 + t251)) (wrap64 (1 + t254))).bind fun t257 => ((spec_l1Pick.f s0_0 t255 t256 (([(⟨#[]⟩ : ByteArray), (⟨#[97]⟩ : ByteArray), (⟨#[98, 99]⟩ : ByteArray), (⟨#[0]⟩ : ByteArray), (⟨#[119, 111, 114, 100]⟩ : ByteArray)] : List ByteArray))).bind fun bt261 => ((spec_l1Once.f s0_0 bt261.2.1 bt261.2.2 3).bind fun bt265 => (if bt265.1 = true then ((spec_EpochOf.f t257).bind fun t268 => ((spec_l1Below.f s0_0 bt265.2.1 bt265.2.2 3).bind fun bt269 => ((spec_l1Once.f s0_0 bt269.2.1 bt269.2.2 2).bind fun bt272 => (if bt272.1 = true then (some (t257, wrap64 ((wrap64 (t268 + 1)) + bt269.1), true, (⟨#[]⟩ : ByteArray), bt272.2.1, bt272.2.2)) else (some (t257, wrap64 ((wrap64 (t268 + 1)) + bt269.1), false, bt261.1, bt272.2.1, bt272.2.2)))))) else (some (t257, 0, false, bt261.1, bt265.2.1, bt265.2.2)))))) = some (r1, r2, r3, r4, r5, r6) := H
 have A3 := Aside0.mk A30
 clear A30
 replace H := Option.bind_eq_some_iff.mp H
 obtain ⟨t257, A40, H⟩ := H
 replace H : ((spec_l1Pick.f s0_0 t255 t256 (([(⟨#[]⟩ : ByteArray), (⟨#[97]⟩ : ByteArray), (⟨#[98, 99]⟩ : ByteArray), (⟨#[0]⟩ : ByteArray), (⟨#[119, 111, 114, 100]⟩ : ByteArray)] : List ByteArray))).bind fun bt261 => ((spec_l1Once.f s0_0 bt261.2.1 bt261.2.2 3).bind fun bt265 => (if bt265.1 = true then ((spec_EpochOf.f t257).bind fun t268 => ((spec_l1Below.f s0_0 bt265.2.1 bt265.2.2 3).bind fun bt269 => ((spec_l1Once.f s0_0 bt269.2.1 bt269.2.2 2).bind fun bt272 => (if bt272.1 = true then (some (t257, wrap64 ((wrap64 (t268 + 1)) + bt269.1), true, (⟨#[]⟩ : ByteArray), bt272.2.1, bt272.2.2)) else (some (t257, wrap64 ((wrap64 (t268 + 1)) + bt269.1), false, bt261.1, bt272.2.1, bt272.2.2)))))) else (some (t257, 0, false, bt261.1, bt265.2.1, bt265.2.2))))) = some (r1, r2, r3, r4, r5, r6) := H
 have A4 := Aside0.mk A40
 clear A40
 obtain ⟨y258, hy258⟩ : ∃ y_ : List ByteArray, y_ = (([(⟨#[]⟩ : ByteArray), (⟨#[97]⟩ : ByteArray), (⟨#[98, 99]⟩ : ByteArray), (⟨#[0]⟩ : ByteArray), (⟨#[119, 111, 114, 100]⟩ : ByteArray)] : List ByteArray)) := ⟨_, rfl⟩
 replace H : ((spec_l1Pick.f s0_0 t255 t256 y258).bind fun bt261 => ((spec_l1Once.f s0_0 bt261.2.1 bt261.2.2 3).bind fun bt265 => (if bt265.1 = true then ((spec_EpochOf.f t257).bind fun t268 => ((spec_l1Below.f s0_0 bt265.2.1 bt265.2.2 3).bind fun bt269 => ((spec_l1Once.f s0_0 bt269.2.1 bt269.2.2 2).bind fun bt272 => (if bt272.1 = true then (some (t257, wrap64 ((wrap64 (t268 + 1)) + bt269.1), true, (⟨#[]⟩ : ByteArray), bt272.2.1, bt272.2.2)) else (some (t257, wrap64 ((wrap64 (t268 + 1)) + bt269.1), false, bt261.1, bt272.2.1, bt272.2.2)))))) else (some (t257, 0, false, bt261.1, bt265.2.1, bt265.2.2))))) = some (r1, r2, r3, r4, r5, r6) := by first | (rw [hy258]; with_reducible exact H) | (have H2_ := (Option.bind_some _ _).symm.trans H; rw [hy258]; with_reducible exact H2_) | (have H2_ := (Option.bind_some _ _).symm.trans H; with_reducible exact H2_) | with_reducible exact H | (rw [hy258]; exact H) | exact H
 have Ny258 := Aside0.mk hy258
 clear hy258
 replace H := Option.bind_eq_some_iff.mp H
 obtain ⟨⟨t261, t262, t263⟩, A50, H⟩ := H
 replace H : ((spec_l1Once.f s0_0 t262 t263 3).bind fun bt265 => (if bt265.1 = true then ((spec_EpochOf.f t257).bind fun t268 => ((spec_l1Below.f s0_0 bt265.2.1 bt265.2.2 3).bind fun bt269 => ((spec_l1Once.f s0_0 bt269.2.1 bt269.2.2 2).bind fun bt272 => (if bt272.1 = true then (some (t257, wrap64 ((wrap64 (t268 + 1)) + bt269.1), true, (⟨#[]⟩ : ByteArray), bt272.2.1, bt272.2.2)) else (some (t257, wrap64 ((wrap64 (t268 + 1)) + bt269.1), false, t261, bt272.2.1, bt272.2.2)))))) else (some (t257, 0, false, t261, bt265.2.1, bt265.2.2)))) = some (r1, r2, r3, r4, r5, r6) := H
 have A5 := Aside0.mk A50
 clear A50
 replace H := Option.bind_eq_some_iff.mp H
 obtain ⟨⟨t265, t266, t267⟩, A60, H⟩ := H
 replace H : (if t265 = true then ((spec_EpochOf.f t257).bind fun t268 => ((spec_l1Below.f s0_0 t266 t267 3).bind fun bt269 => ((spec_l1Once.f s0_0 bt269.2.1 bt269.2.2 2).bind fun bt272 => (if bt272.1 = true then (some (t257, wrap64 ((wrap64 (t268 + 1)) + bt269.1), true, (⟨#[]⟩ : ByteArray), bt272.2.1, bt272.2.2)) else (some (t257, wrap64 ((wrap64 (t268 + 1)) + bt269.1), false, t261, bt272.2.1, bt272.2.2)))))) else (some (t257, 0, false, t261, t266, t267))) = some (r1, r2, r3, r4, r5, r6) := H
 have A6 := Aside0.mk A60
 clear A60
 by_cases c7 : t265 = true
 ·subst c7
  have H1 : ((spec_EpochOf.f t257).bind fun t268 => ((spec_l1Below.f s0_0 t266 t267 3).bind fun bt269 => ((spec_l1Once.f s0_0 bt269.2.1 bt269.2.2 2).bind fun bt272 => (if bt272.1 = true then (some (t257, wrap64 ((wrap64 (t268 + 1)) + bt269.1), true, (⟨#[]⟩ : ByteArray), bt272.2.1, bt272.2.2)) else (some (t257, wrap64 ((wrap64 (t268 + 1)) + bt269.1), false, t261, bt272.2.1, bt272.2.2)))))) = some (r1, r2, r3, r4, r5, r6) := by rw [if_pos rfl] at H; exact H
  clear H
  have H := H1
  clear H1
  replace H := Option.bind_eq_some_iff.mp H
  obtain ⟨t268, A80, H⟩ := H
  replace H : ((spec_l1Below.f s0_0 t266 t267 3).bind fun bt269 => ((spec_l1Once.f s0_0 bt269.2.1 bt269.2.2 2).bind fun bt272 => (if bt272.1 = true then (some (t257, wrap64 ((wrap64 (t268 + 1)) + bt269.1), true, (⟨#[]⟩ : ByteArray), bt272.2.1, bt272.2.2)) else (some (t257, wrap64 ((wrap64 (t268 + 1)) + bt269.1), false, t261, bt272.2.1, bt272.2.2))))) = some (r1, r2, r3, r4, r5, r6) := H
  have A8 := Aside0.mk A80
  clear A80
  replace H := Option.bind_eq_some_iff.mp H
  obtain ⟨⟨t269, t270, t271⟩, A90, H⟩ := H
  replace H : ((spec_l1Once.f s0_0 t270 t271 2).bind fun bt272 => (if bt272.1 = true then (some (t257, wrap64 ((wrap64 (t268 + 1)) + t269), true, (⟨#[]⟩ : ByteArray), bt272.2.1, bt272.2.2)) else (some (t257, wrap64 ((wrap64 (t268 + 1)) + t269), false, t261, bt272.2.1, bt272.2.2)))) = some (r1, r2, r3, r4, r5, r6) := H
  have A9 := Aside0.mk A90
  clear A90
  replace H := Option.bind_eq_some_iff.mp H
  obtain ⟨⟨t272, t273, t274⟩, A100, H⟩ := H
  replace H : (if t272 = true then (some (t257, wrap64 ((wrap64 (t268 + 1)) + t269), true, (⟨#[]⟩ : ByteArray), t273, t274)) else (some (t257, wrap64 ((wrap64 (t268 + 1)) + t269), false, t261, t273, t274))) = some (r1, r2, r3, r4, r5, r6) := H
  have A10 := Aside0.mk A100
  clear A100
  by_cases c11 : t272 = true
  ·subst c11
   have H1 : (some (t257, wrap64 ((wrap64 (t268 + 1)) + t269), true, (⟨#[]⟩ : ByteArray), t273, t274)) = some (r1, r2, r3, r4, r5, r6) := by rw [if_pos rfl] at H; exact H
   clear H
   have H := H1
   clear H1
   simp only [Option.some.injEq, Prod.mk.injEq] at H
   obtain ⟨rfl, rfl, rfl, rfl, rfl, rfl⟩ := H
   go_enter Try.func91, Try.ntmps91
   go_wp2_with (first | ((with_reducible refine gate_dst (N := 2) rfl ?_); refine BE 2 #[.int .i64 0, .int .i64 0, .bool false, .string (⟨#[]⟩ : ByteArray)] 35 ?_; intro gb250 hg w12 hbox hb; have h_ := P8 (IsS87.below (KI87) hb) (KeepBut.trans KH (KeepBut.of_below hb g none) (.inl rfl)) (below_step KB87 hb) hbox (KSg hg HK.out) (Nat.le_trans HW0.out (KSg hg HK.out)) (by rw [hg]; exact Nat.ne_of_lt (IsS87.lt (show IsS87 w0 _ g s0_0 s0_1 s0_2 from KI87)) : g ≠ gb250) (by rw [hg]; exact Nat.ne_of_gt (IsS87.lt (show IsS87 w0 _ g s0_0 s0_1 s0_2 from KI87)) : gb250 ≠ g); clear HI0 HK HB; obtain ⟨HI0, HK, HB, BK250, GW250, GE250, NB0_250, NB250_0⟩ := h_; clear hb hbox hg) | ((with_reducible refine gate_callee (f := 57) rfl ?_); refine goesL_ (some 5) rfl rfl Try.func57 (by kernel_rfl) rfl #[.pointer (some ⟨g, 0, none⟩), .int .i64 3] rfl KL ?_; (with_reducible refine (spec_l1Below.calls g s0_0 s0_1 s0_2 3 t251 t252 t253 w0 _ ?side1 ?side2 A2.out).mono ?_); (case side1 => exact KI87); (case side2 => exact KBh87 HB.out); rintro e w13 ⟨rfl, hi, hb, hk⟩; refine ⟨_, rfl, ?_⟩; have h_ := P4 (KW BK250.out hk NB250_0.out) (KeepBut.trans (KHh HK.out) hk (.inl rfl)) hb hi; clear BK250 HK HB HI0; obtain ⟨BK250, HK, HB, HI0⟩ := h_; (try clear hb); (try clear hk); (try clear hi)) | ((with_reducible refine gate_callee (f := 57) rfl ?_); refine goesL_ (some 8) rfl rfl Try.func57 (by kernel_rfl) rfl #[.pointer (some ⟨g, 0, none⟩), .int .i64 6] rfl KL ?_; (with_reducible refine (spec_l1Below.calls g s0_0 t252 t253 6 t254 t255 t256 w0 _ ?side1 ?side2 A3.out).mono ?_); (case side1 => exact KI87); (case side2 => exact KBh87 HB.out); rintro e w14 ⟨rfl, hi, hb, hk⟩; refine ⟨_, rfl, ?_⟩; have h_ := P4 (KW BK250.out hk NB250_0.out) (KeepBut.trans (KHh HK.out) hk (.inl rfl)) hb hi; clear BK250 HK HB HI0; obtain ⟨BK250, HK, HB, HI0⟩ := h_; (try clear hb); (try clear hk); (try clear hi)) | ((with_reducible refine gate_callee (f := 83) rfl ?_); refine goesL_ (some 10) rfl rfl Try.func83 (by kernel_rfl) rfl #[.int .i64 (wrap64 (1 + t251)), .int .i64 (wrap64 (1 + t254))] rfl KL ?_; (with_reducible refine (spec_l1Place.calls (wrap64 (1 + t251)) (wrap64 (1 + t254)) t257 _ A4.out).mono ?_); rintro e w' ⟨rfl, ⟨nd, rfl⟩⟩; refine ⟨_, rfl, ?_⟩; (try (rw [drewN_self w14]; generalize hq_ : World.drewN w14 _ = w14; have n0_ : Aside0 (w14.heap[gb250]? = some (.cells #[.int .i64 0, .int .i64 0, .bool false, .string (⟨#[]⟩ : ByteArray)] 35 (0, 0))) := ⟨by rw [← hq_]; exact KK⟩; have n1_ : Aside0 (IsS87 w0 w14 g s0_0 t255 t256) := ⟨by rw [← hq_]; exact (KI87)⟩; have n2_ : Aside0 (KeepBut w w14 g none) := ⟨by rw [← hq_]; exact (KHh HK.out)⟩; have n3_ : Aside0 (Below w0.heap.size w0 w14) := ⟨by rw [← hq_]; exact (KBh87 HB.out)⟩; clear BK250 HI0 HK HB hq_; have BK250 := n0_; have HI0 := n1_; have HK := n2_; have HB := n3_; clear n0_ n1_ n2_ n3_))) | ((with_reducible refine gate_dst (N := 12) rfl ?_); refine Kd.R_lit Kd.string _ 9 ?hg (N := 12) ?hd (xs := ([(⟨#[]⟩ : ByteArray), (⟨#[97]⟩ : ByteArray), (⟨#[98, 99]⟩ : ByteArray), (⟨#[0]⟩ : ByteArray), (⟨#[119, 111, 114, 100]⟩ : ByteArray)] : List ByteArray)) (inner := [.string (⟨#[]⟩ : ByteArray), .string (⟨#[97]⟩ : ByteArray), .string (⟨#[98, 99]⟩ : ByteArray), .string (⟨#[0]⟩ : ByteArray), .string (⟨#[119, 111, 114, 100]⟩ : ByteArray)]) (ok := fun _ => True) (okp := fun _ => True) ?hr ?hp (fun _ hk => hk) trivial (Below.refl _ _) (Nat.le_refl _) (by simp) ?_; (case hd => rfl); (case hg => rfl); (case hr => first | (go_simp; done) | (go_simp; rfl)); (case hp => exact (Reps.one (show Kd.M Kd.string _ _ _ (⟨#[]⟩ : ByteArray) [.string (⟨#[]⟩ : ByteArray)] from rfl) (Reps.one (show Kd.M Kd.string _ _ _ (⟨#[97]⟩ : ByteArray) [.string (⟨#[97]⟩ : ByteArray)] from rfl) (Reps.one (show Kd.M Kd.string _ _ _ (⟨#[98, 99]⟩ : ByteArray) [.string (⟨#[98, 99]⟩ : ByteArray)] from rfl) (Reps.one (show Kd.M Kd.string _ _ _ (⟨#[0]⟩ : ByteArray) [.string (⟨#[0]⟩ : ByteArray)] from rfl) (Reps.one (show Kd.M Kd.string _ _ _ (⟨#[119, 111, 114, 100]⟩ : ByteArray) [.string (⟨#[119, 111, 114, 100]⟩ : ByteArray)] from rfl) (Reps.none _ _))))))); intro v259 w15 ho16 hb hg_ hnew_; clear hg_ hnew_; (first | rw [← Ny258.out] at ho16 | (simp only [Int.reduceToNat] at ho16; rw [← Ny258.out] at ho16)); have h_ := P5 (Kd.R_lower ho16 (KS HK.out)) (IsS87.below (KI87) hb) (BL BK250.out hb) (KeepBut.trans (KHh HK.out) (KeepBut.of_below hb g none) (.inl rfl)) (below_step (KBh87 HB.out) hb); clear HI0 BK250 HK HB; obtain ⟨HO260, HI0, BK250, HK, HB⟩ := h_; clear hb ho16; obtain ⟨Ao17, co17, eo17⟩ := Kd.R_slice HO260.out; subst eo17) | ((with_reducible refine gate_callee (f := 94) rfl ?_); refine goesL_ (some 13) rfl rfl Try.func94 (by kernel_rfl) rfl #[.pointer (some ⟨g, 0, none⟩), .slice Ao17 y258.length co17] rfl KL ?_; (with_reducible refine (spec_l1Pick.calls g s0_0 t255 t256 _ _ y258 t261 t262 t263 w0 _ ?side1 ?side2 ?side3 ?side4 ?side5 A5.out).mono ?_); (case side1 => exact KI87); (case side2 => exact KBh87 HB.out); (case side3 => repeat (first | exact (Kd.R_reads' HO260.out).2.2 | (with_reducible refine Kd.C_alloc ?_ _) | (with_reducible refine Kd.C_drewN ?_ _) | (with_reducible refine Kd.C_drew ?_))); (case side4 => exact (Kd.R_reads' HO260.out).2.1); (case side5 => exact far_slice (IsS87.own_ne HI0.out HO260.out (by decide))); rintro e w18 ⟨rfl, hi, hb, hk⟩; refine ⟨_, rfl, ?_⟩; have h_ := P5 (KW BK250.out hk NB250_0.out) (Kd.R_mono (Kd.R_keep (IsS87.apart (show IsS87 w0 _ g s0_0 t255 t256 from KI87) (KR HO260.out) (by decide)) hk (fun _ h => h.2)) (fun _ h => h.1)) (KeepBut.trans (KHh HK.out) hk (.inl rfl)) hb hi; clear BK250 HO260 HK HB HI0; obtain ⟨BK250, HO260, HK, HB, HI0⟩ := h_; (try clear hb); (try clear hk); (try clear hi)) | ((with_reducible refine gate_dst (N := 3) rfl ?_); refine BE 3 #[.int .i64 0, .int .i64 0, .bool false, .string (⟨#[]⟩ : ByteArray)] 35 ?_; intro gb264 hg w19 hbox hb; have h_ := P12 (Kd.R_below (KR HO260.out) hb) (IsS87.below (KI87) hb) (BL BK250.out hb) (KeepBut.trans (KHh HK.out) (KeepBut.of_below hb g none) (.inl rfl)) (below_step (KBh87 HB.out) hb) hbox (KSg hg HK.out) (Nat.le_trans HW0.out (KSg hg HK.out)) (NX hg BK250.out) (Ne.symm (NX hg BK250.out)) (by rw [hg]; exact Nat.ne_of_lt (IsS87.lt (show IsS87 w0 _ g s0_0 t262 t263 from KI87)) : g ≠ gb264) (by rw [hg]; exact Nat.ne_of_gt (IsS87.lt (show IsS87 w0 _ g s0_0 t262 t263 from KI87)) : gb264 ≠ g); clear HO260 HI0 BK250 HK HB; obtain ⟨HO260, HI0, BK250, HK, HB, BK264, GW264, GE264, NB250_264, NB264_250, NB0_264, NB264_0⟩ := h_; clear hb hbox hg; have hnb20 := NB264_250.out; have hnc20 := NB250_264.out; have hnb21 := NB264_0.out; have hnc21 := NB0_264.out; obtain ⟨hcz22_0, hcz22_1, hcz22_2, hcz22_3, hfz22_0, hfz22_1, hfz22_2, hfz22_3⟩ := C4 BK264.out) | ((with_reducible refine gate_callee (f := 61) rfl ?_); refine goesL_ (some 16) rfl rfl Try.func61 (by kernel_rfl) rfl #[.pointer (some ⟨g, 0, none⟩), .int .i64 3] rfl KL ?_; (with_reducible refine (spec_l1Once.calls g s0_0 t262 t263 3 true t266 t267 w0 _ ?side1 ?side2 A6.out).mono ?_); (case side1 => exact KI87); (case side2 => exact KBh87 HB.out); rintro e w23 ⟨rfl, hi, hb, hk⟩; refine ⟨_, rfl, ?_⟩; have h_ := P6 (KW BK250.out hk NB250_0.out) (Kd.R_mono (Kd.R_keep (IsS87.apart (show IsS87 w0 _ g s0_0 t262 t263 from KI87) (RQ (RT HO260.out BK264.out)) (by decide)) hk (fun _ h => h.2)) (fun _ h => h.1)) (KeepBut.blk hk (g' := gb264) (o := .cells #[.int .i64 t257, .int .i64 0, .bool false, .string t261] 35 (0, 0)) (by refine SK ?_; refine blk_put (cs := #[.int .i64 t257, .int .i64 0, .bool false, .string (⟨#[]⟩ : ByteArray)]) ?_ 3 _ rfl; refine SK ?_; refine blk_put (cs := #[.int .i64 t257, .int .i64 0, .bool false, .string (⟨#[]⟩ : ByteArray)]) ?_ 2 _ rfl; refine SK ?_; refine blk_put (cs := #[.int .i64 t257, .int .i64 0, .bool false, .string (⟨#[]⟩ : ByteArray)]) ?_ 1 _ rfl; refine SK ?_; refine blk_put (cs := #[.int .i64 0, .int .i64 0, .bool false, .string (⟨#[]⟩ : ByteArray)]) ?_ 0 _ rfl; exact SK BK264.out) NB264_0.out (by simp)) (KeepBut.trans (KHh HK.out) hk (.inl rfl)) hb hi; clear BK250 HO260 BK264 HK HB HI0; obtain ⟨BK250, HO260, BK264, HK, HB, HI0⟩ := h_; (try clear hb); (try clear hk); (try clear hi); obtain ⟨hcz24_0, hcz24_1, hcz24_2, hcz24_3, hfz24_0, hfz24_1, hfz24_2, hfz24_3⟩ := C4 BK264.out) | ((with_reducible refine gate_callee (f := 58) rfl ?_); refine goesL_ (some 19) rfl rfl Try.func58 (by kernel_rfl) rfl #[.int .i64 t257] rfl KL ?_; (with_reducible refine (spec_EpochOf.calls t257 t268 _ A8.out).mono ?_); rintro e w' ⟨rfl, ⟨nd, rfl⟩⟩; refine ⟨_, rfl, ?_⟩; (try (rw [drewN_self w23]; generalize hq_ : World.drewN w23 _ = w23; have n0_ : Aside0 (Kd.R Kd.string 9 w23 w.heap.size (fun _ => True) (.slice Ao17 y258.length co17) y258) := ⟨by rw [← hq_]; exact (KR HO260.out)⟩; have n1_ : Aside0 (w23.heap[gb250]? = some (.cells #[.int .i64 0, .int .i64 0, .bool false, .string (⟨#[]⟩ : ByteArray)] 35 (0, 0))) := ⟨by rw [← hq_]; exact KK⟩; have n2_ : Aside0 (w23.heap[gb264]? = some (.cells #[.int .i64 t257, .int .i64 0, .bool false, .string t261] 35 (0, 0))) := ⟨by rw [← hq_]; exact KK⟩; have n3_ : Aside0 (IsS87 w0 w23 g s0_0 t266 t267) := ⟨by rw [← hq_]; exact (KI87)⟩; have n4_ : Aside0 (KeepBut w w23 g none) := ⟨by rw [← hq_]; exact (KHh HK.out)⟩; have n5_ : Aside0 (Below w0.heap.size w0 w23) := ⟨by rw [← hq_]; exact (KBh87 HB.out)⟩; clear HO260 BK250 BK264 HI0 HK HB hq_; have HO260 := n0_; have BK250 := n1_; have BK264 := n2_; have HI0 := n3_; have HK := n4_; have HB := n5_; clear n0_ n1_ n2_ n3_ n4_ n5_))) | ((with_reducible refine gate_callee (f := 57) rfl ?_); refine goesL_ (some 22) rfl rfl Try.func57 (by kernel_rfl) rfl #[.pointer (some ⟨g, 0, none⟩), .int .i64 3] rfl KL ?_; (with_reducible refine (spec_l1Below.calls g s0_0 t266 t267 3 t269 t270 t271 w0 _ ?side1 ?side2 A9.out).mono ?_); (case side1 => exact KI87); (case side2 => exact KBh87 HB.out); rintro e w25 ⟨rfl, hi, hb, hk⟩; refine ⟨_, rfl, ?_⟩; have h_ := P6 (KW BK250.out hk NB250_0.out) (Kd.R_mono (Kd.R_keep (IsS87.apart (show IsS87 w0 _ g s0_0 t266 t267 from KI87) (KR HO260.out) (by decide)) hk (fun _ h => h.2)) (fun _ h => h.1)) (KW BK264.out hk NB264_0.out) (KeepBut.trans (KHh HK.out) hk (.inl rfl)) hb hi; clear BK250 HO260 BK264 HK HB HI0; obtain ⟨BK250, HO260, BK264, HK, HB, HI0⟩ := h_; (try clear hb); (try clear hk); (try clear hi); obtain ⟨hcz26_0, hcz26_1, hcz26_2, hcz26_3, hfz26_0, hfz26_1, hfz26_2, hfz26_3⟩ := C4 BK264.out) | ((with_reducible refine gate_callee (f := 61) rfl ?_); refine goesL_ (some 26) rfl rfl Try.func61 (by kernel_rfl) rfl #[.pointer (some ⟨g, 0, none⟩), .int .i64 2] rfl KL ?_; (with_reducible refine (spec_l1Once.calls g s0_0 t270 t271 2 true t273 t274 w0 _ ?side1 ?side2 A10.out).mono ?_); (case side1 => exact KI87); (case side2 => exact KBh87 HB.out); rintro e w27 ⟨rfl, hi, hb, hk⟩; refine ⟨_, rfl, ?_⟩; have h_ := P6 (KW BK250.out hk NB250_0.out) (Kd.R_mono (Kd.R_keep (IsS87.apart (show IsS87 w0 _ g s0_0 t270 t271 from KI87) (RQ (RT HO260.out BK264.out)) (by decide)) hk (fun _ h => h.2)) (fun _ h => h.1)) (KeepBut.blk hk (g' := gb264) (o := .cells #[.int .i64 t257, .int .i64 (wrap64 ((wrap64 (t268 + 1)) + t269)), .bool false, .string t261] 35 (0, 0)) (by refine SK ?_; refine blk_put (cs := #[.int .i64 t257, .int .i64 0, .bool false, .string t261]) ?_ 1 _ rfl; exact SK BK264.out) NB264_0.out (by simp)) (KeepBut.trans (KHh HK.out) hk (.inl rfl)) hb hi; clear BK250 HO260 BK264 HK HB HI0; obtain ⟨BK250, HO260, BK264, HK, HB, HI0⟩ := h_; (try clear hb); (try clear hk); (try clear hi); obtain ⟨hcz28_0, hcz28_1, hcz28_2, hcz28_3, hfz28_0, hfz28_1, hfz28_2, hfz28_3⟩ := C4 BK264.out; have hnb29 := NB250_0.out; have hnc29 := NB0_250.out; obtain ⟨hcz30_0, hcz30_1, hcz30_2, hcz30_3, hfz30_0, hfz30_1, hfz30_2, hfz30_3⟩ := C4 BK250.out))
   refine bodyPost_ret (results_cell_row rfl _ _ gb250 35 #[.int .i64 t257, .int .i64 (wrap64 ((wrap64 (t268 + 1)) + t269)), .bool true, .string (⟨#[]⟩ : ByteArray)] (0, 0) _ rfl (by refine SK ?_; refine blk_put (cs := #[.int .i64 t257, .int .i64 (wrap64 ((wrap64 (t268 + 1)) + t269)), .bool true, .string (⟨#[]⟩ : ByteArray)]) ?_ 3 _ rfl; refine SK ?_; refine blk_put (cs := #[.int .i64 t257, .int .i64 (wrap64 ((wrap64 (t268 + 1)) + t269)), .bool false, .string (⟨#[]⟩ : ByteArray)]) ?_ 2 _ rfl; refine SK ?_; refine blk_put (cs := #[.int .i64 t257, .int .i64 0, .bool false, .string (⟨#[]⟩ : ByteArray)]) ?_ 1 _ rfl; refine SK ?_; refine blk_put (cs := #[.int .i64 0, .int .i64 0, .bool false, .string (⟨#[]⟩ : ByteArray)]) ?_ 0 _ rfl; refine SK ?_; refine blk_far ?_ NB250_264.out _; refine SK ?_; refine blk_far ?_ NB250_264.out _; exact SK BK250.out) Try.underlying35 rfl (by kernel_rfl)) rfl ?_
   exact ⟨KE, KI87, KBh87 HB.out, by repeat (first | (with_reducible first | exact HK.out | apply KeepBut.set_ | apply keep_drewN | apply keep_drew | apply keep_alloc | refine keep_far ?_ GW250.out _ | refine keep_far ?_ GW264.out _) | exact HK.out)⟩
  ·replace c11 := Bool.eq_false_iff.mpr c11
   subst c11
   have H1 : (some (t257, wrap64 ((wrap64 (t268 + 1)) + t269), false, t261, t273, t274)) = some (r1, r2, r3, r4, r5, r6) := by rw [if_neg (show ¬ (false = true) by decide)] at H; exact H
   clear H
   have H := H1
   clear H1
   simp only [Option.some.injEq, Prod.mk.injEq] at H
   obtain ⟨rfl, rfl, rfl, rfl, rfl, rfl⟩ := H
   go_enter Try.func91, Try.ntmps91
   go_wp2_with (first | ((with_reducible refine gate_dst (N := 2) rfl ?_); refine BE 2 #[.int .i64 0, .int .i64 0, .bool false, .string (⟨#[]⟩ : ByteArray)] 35 ?_; intro gb250 hg w31 hbox hb; have h_ := P8 (IsS87.below (KI87) hb) (KeepBut.trans KH (KeepBut.of_below hb g none) (.inl rfl)) (below_step KB87 hb) hbox (KSg hg HK.out) (Nat.le_trans HW0.out (KSg hg HK.out)) (by rw [hg]; exact Nat.ne_of_lt (IsS87.lt (show IsS87 w0 _ g s0_0 s0_1 s0_2 from KI87)) : g ≠ gb250) (by rw [hg]; exact Nat.ne_of_gt (IsS87.lt (show IsS87 w0 _ g s0_0 s0_1 s0_2 from KI87)) : gb250 ≠ g); clear HI0 HK HB; obtain ⟨HI0, HK, HB, BK250, GW250, GE250, NB0_250, NB250_0⟩ := h_; clear hb hbox hg) | ((with_reducible refine gate_callee (f := 57) rfl ?_); refine goesL_ (some 5) rfl rfl Try.func57 (by kernel_rfl) rfl #[.pointer (some ⟨g, 0, none⟩), .int .i64 3] rfl KL ?_; (with_reducible refine (spec_l1Below.calls g s0_0 s0_1 s0_2 3 t251 t252 t253 w0 _ ?side1 ?side2 A2.out).mono ?_); (case side1 => exact KI87); (case side2 => exact KBh87 HB.out); rintro e w32 ⟨rfl, hi, hb, hk⟩; refine ⟨_, rfl, ?_⟩; have h_ := P4 (KW BK250.out hk NB250_0.out) (KeepBut.trans (KHh HK.out) hk (.inl rfl)) hb hi; clear BK250 HK HB HI0; obtain ⟨BK250, HK, HB, HI0⟩ := h_; (try clear hb); (try clear hk); (try clear hi)) | ((with_reducible refine gate_callee (f := 57) rfl ?_); refine goesL_ (some 8) rfl rfl Try.func57 (by kernel_rfl) rfl #[.pointer (some ⟨g, 0, none⟩), .int .i64 6] rfl KL ?_; (with_reducible refine (spec_l1Below.calls g s0_0 t252 t253 6 t254 t255 t256 w0 _ ?side1 ?side2 A3.out).mono ?_); (case side1 => exact KI87); (case side2 => exact KBh87 HB.out); rintro e w33 ⟨rfl, hi, hb, hk⟩; refine ⟨_, rfl, ?_⟩; have h_ := P4 (KW BK250.out hk NB250_0.out) (KeepBut.trans (KHh HK.out) hk (.inl rfl)) hb hi; clear BK250 HK HB HI0; obtain ⟨BK250, HK, HB, HI0⟩ := h_; (try clear hb); (try clear hk); (try clear hi)) | ((with_reducible refine gate_callee (f := 83) rfl ?_); refine goesL_ (some 10) rfl rfl Try.func83 (by kernel_rfl) rfl #[.int .i64 (wrap64 (1 + t251)), .int .i64 (wrap64 (1 + t254))] rfl KL ?_; (with_reducible refine (spec_l1Place.calls (wrap64 (1 + t251)) (wrap64 (1 + t254)) t257 _ A4.out).mono ?_); rintro e w' ⟨rfl, ⟨nd, rfl⟩⟩; refine ⟨_, rfl, ?_⟩; (try (rw [drewN_self w33]; generalize hq_ : World.drewN w33 _ = w33; have n0_ : Aside0 (w33.heap[gb250]? = some (.cells #[.int .i64 0, .int .i64 0, .bool false, .string (⟨#[]⟩ : ByteArray)] 35 (0, 0))) := ⟨by rw [← hq_]; exact KK⟩; have n1_ : Aside0 (IsS87 w0 w33 g s0_0 t255 t256) := ⟨by rw [← hq_]; exact (KI87)⟩; have n2_ : Aside0 (KeepBut w w33 g none) := ⟨by rw [← hq_]; exact (KHh HK.out)⟩; have n3_ : Aside0 (Below w0.heap.size w0 w33) := ⟨by rw [← hq_]; exact (KBh87 HB.out)⟩; clear BK250 HI0 HK HB hq_; have BK250 := n0_; have HI0 := n1_; have HK := n2_; have HB := n3_; clear n0_ n1_ n2_ n3_))) | ((with_reducible refine gate_dst (N := 12) rfl ?_); refine Kd.R_lit Kd.string _ 9 ?hg (N := 12) ?hd (xs := ([(⟨#[]⟩ : ByteArray), (⟨#[97]⟩ : ByteArray), (⟨#[98, 99]⟩ : ByteArray), (⟨#[0]⟩ : ByteArray), (⟨#[119, 111, 114, 100]⟩ : ByteArray)] : List ByteArray)) (inner := [.string (⟨#[]⟩ : ByteArray), .string (⟨#[97]⟩ : ByteArray), .string (⟨#[98, 99]⟩ : ByteArray), .string (⟨#[0]⟩ : ByteArray), .string (⟨#[119, 111, 114, 100]⟩ : ByteArray)]) (ok := fun _ => True) (okp := fun _ => True) ?hr ?hp (fun _ hk => hk) trivial (Below.refl _ _) (Nat.le_refl _) (by simp) ?_; (case hd => rfl); (case hg => rfl); (case hr => first | (go_simp; done) | (go_simp; rfl)); (case hp => exact (Reps.one (show Kd.M Kd.string _ _ _ (⟨#[]⟩ : ByteArray) [.string (⟨#[]⟩ : ByteArray)] from rfl) (Reps.one (show Kd.M Kd.string _ _ _ (⟨#[97]⟩ : ByteArray) [.string (⟨#[97]⟩ : ByteArray)] from rfl) (Reps.one (show Kd.M Kd.string _ _ _ (⟨#[98, 99]⟩ : ByteArray) [.string (⟨#[98, 99]⟩ : ByteArray)] from rfl) (Reps.one (show Kd.M Kd.string _ _ _ (⟨#[0]⟩ : ByteArray) [.string (⟨#[0]⟩ : ByteArray)] from rfl) (Reps.one (show Kd.M Kd.string _ _ _ (⟨#[119, 111, 114, 100]⟩ : ByteArray) [.string (⟨#[119, 111, 114, 100]⟩ : ByteArray)] from rfl) (Reps.none _ _))))))); intro v259 w34 ho35 hb hg_ hnew_; clear hg_ hnew_; (first | rw [← Ny258.out] at ho35 | (simp only [Int.reduceToNat] at ho35; rw [← Ny258.out] at ho35)); have h_ := P5 (Kd.R_lower ho35 (KS HK.out)) (IsS87.below (KI87) hb) (BL BK250.out hb) (KeepBut.trans (KHh HK.out) (KeepBut.of_below hb g none) (.inl rfl)) (below_step (KBh87 HB.out) hb); clear HI0 BK250 HK HB; obtain ⟨HO260, HI0, BK250, HK, HB⟩ := h_; clear hb ho35; obtain ⟨Ao36, co36, eo36⟩ := Kd.R_slice HO260.out; subst eo36) | ((with_reducible refine gate_callee (f := 94) rfl ?_); refine goesL_ (some 13) rfl rfl Try.func94 (by kernel_rfl) rfl #[.pointer (some ⟨g, 0, none⟩), .slice Ao36 y258.length co36] rfl KL ?_; (with_reducible refine (spec_l1Pick.calls g s0_0 t255 t256 _ _ y258 t261 t262 t263 w0 _ ?side1 ?side2 ?side3 ?side4 ?side5 A5.out).mono ?_); (case side1 => exact KI87); (case side2 => exact KBh87 HB.out); (case side3 => repeat (first | exact (Kd.R_reads' HO260.out).2.2 | (with_reducible refine Kd.C_alloc ?_ _) | (with_reducible refine Kd.C_drewN ?_ _) | (with_reducible refine Kd.C_drew ?_))); (case side4 => exact (Kd.R_reads' HO260.out).2.1); (case side5 => exact far_slice (IsS87.own_ne HI0.out HO260.out (by decide))); rintro e w37 ⟨rfl, hi, hb, hk⟩; refine ⟨_, rfl, ?_⟩; have h_ := P5 (KW BK250.out hk NB250_0.out) (Kd.R_mono (Kd.R_keep (IsS87.apart (show IsS87 w0 _ g s0_0 t255 t256 from KI87) (KR HO260.out) (by decide)) hk (fun _ h => h.2)) (fun _ h => h.1)) (KeepBut.trans (KHh HK.out) hk (.inl rfl)) hb hi; clear BK250 HO260 HK HB HI0; obtain ⟨BK250, HO260, HK, HB, HI0⟩ := h_; (try clear hb); (try clear hk); (try clear hi)) | ((with_reducible refine gate_dst (N := 3) rfl ?_); refine BE 3 #[.int .i64 0, .int .i64 0, .bool false, .string (⟨#[]⟩ : ByteArray)] 35 ?_; intro gb264 hg w38 hbox hb; have h_ := P12 (Kd.R_below (KR HO260.out) hb) (IsS87.below (KI87) hb) (BL BK250.out hb) (KeepBut.trans (KHh HK.out) (KeepBut.of_below hb g none) (.inl rfl)) (below_step (KBh87 HB.out) hb) hbox (KSg hg HK.out) (Nat.le_trans HW0.out (KSg hg HK.out)) (NX hg BK250.out) (Ne.symm (NX hg BK250.out)) (by rw [hg]; exact Nat.ne_of_lt (IsS87.lt (show IsS87 w0 _ g s0_0 t262 t263 from KI87)) : g ≠ gb264) (by rw [hg]; exact Nat.ne_of_gt (IsS87.lt (show IsS87 w0 _ g s0_0 t262 t263 from KI87)) : gb264 ≠ g); clear HO260 HI0 BK250 HK HB; obtain ⟨HO260, HI0, BK250, HK, HB, BK264, GW264, GE264, NB250_264, NB264_250, NB0_264, NB264_0⟩ := h_; clear hb hbox hg; have hnb39 := NB264_250.out; have hnc39 := NB250_264.out; have hnb40 := NB264_0.out; have hnc40 := NB0_264.out; obtain ⟨hcz41_0, hcz41_1, hcz41_2, hcz41_3, hfz41_0, hfz41_1, hfz41_2, hfz41_3⟩ := C4 BK264.out) | ((with_reducible refine gate_callee (f := 61) rfl ?_); refine goesL_ (some 16) rfl rfl Try.func61 (by kernel_rfl) rfl #[.pointer (some ⟨g, 0, none⟩), .int .i64 3] rfl KL ?_; (with_reducible refine (spec_l1Once.calls g s0_0 t262 t263 3 true t266 t267 w0 _ ?side1 ?side2 A6.out).mono ?_); (case side1 => exact KI87); (case side2 => exact KBh87 HB.out); rintro e w42 ⟨rfl, hi, hb, hk⟩; refine ⟨_, rfl, ?_⟩; have h_ := P6 (KW BK250.out hk NB250_0.out) (Kd.R_mono (Kd.R_keep (IsS87.apart (show IsS87 w0 _ g s0_0 t262 t263 from KI87) (RQ (RT HO260.out BK264.out)) (by decide)) hk (fun _ h => h.2)) (fun _ h => h.1)) (KeepBut.blk hk (g' := gb264) (o := .cells #[.int .i64 t257, .int .i64 0, .bool false, .string t261] 35 (0, 0)) (by refine SK ?_; refine blk_put (cs := #[.int .i64 t257, .int .i64 0, .bool false, .string (⟨#[]⟩ : ByteArray)]) ?_ 3 _ rfl; refine SK ?_; refine blk_put (cs := #[.int .i64 t257, .int .i64 0, .bool false, .string (⟨#[]⟩ : ByteArray)]) ?_ 2 _ rfl; refine SK ?_; refine blk_put (cs := #[.int .i64 t257, .int .i64 0, .bool false, .string (⟨#[]⟩ : ByteArray)]) ?_ 1 _ rfl; refine SK ?_; refine blk_put (cs := #[.int .i64 0, .int .i64 0, .bool false, .string (⟨#[]⟩ : ByteArray)]) ?_ 0 _ rfl; exact SK BK264.out) NB264_0.out (by simp)) (KeepBut.trans (KHh HK.out) hk (.inl rfl)) hb hi; clear BK250 HO260 BK264 HK HB HI0; obtain ⟨BK250, HO260, BK264, HK, HB, HI0⟩ := h_; (try clear hb); (try clear hk); (try clear hi); obtain ⟨hcz43_0, hcz43_1, hcz43_2, hcz43_3, hfz43_0, hfz43_1, hfz43_2, hfz43_3⟩ := C4 BK264.out) | ((with_reducible refine gate_callee (f := 58) rfl ?_); refine goesL_ (some 19) rfl rfl Try.func58 (by kernel_rfl) rfl #[.int .i64 t257] rfl KL ?_; (with_reducible refine (spec_EpochOf.calls t257 t268 _ A8.out).mono ?_); rintro e w' ⟨rfl, ⟨nd, rfl⟩⟩; refine ⟨_, rfl, ?_⟩; (try (rw [drewN_self w42]; generalize hq_ : World.drewN w42 _ = w42; have n0_ : Aside0 (Kd.R Kd.string 9 w42 w.heap.size (fun _ => True) (.slice Ao36 y258.length co36) y258) := ⟨by rw [← hq_]; exact (KR HO260.out)⟩; have n1_ : Aside0 (w42.heap[gb250]? = some (.cells #[.int .i64 0, .int .i64 0, .bool false, .string (⟨#[]⟩ : ByteArray)] 35 (0, 0))) := ⟨by rw [← hq_]; exact KK⟩; have n2_ : Aside0 (w42.heap[gb264]? = some (.cells #[.int .i64 t257, .int .i64 0, .bool false, .string t261] 35 (0, 0))) := ⟨by rw [← hq_]; exact KK⟩; have n3_ : Aside0 (IsS87 w0 w42 g s0_0 t266 t267) := ⟨by rw [← hq_]; exact (KI87)⟩; have n4_ : Aside0 (KeepBut w w42 g none) := ⟨by rw [← hq_]; exact (KHh HK.out)⟩; have n5_ : Aside0 (Below w0.heap.size w0 w42) := ⟨by rw [← hq_]; exact (KBh87 HB.out)⟩; clear HO260 BK250 BK264 HI0 HK HB hq_; have HO260 := n0_; have BK250 := n1_; have BK264 := n2_; have HI0 := n3_; have HK := n4_; have HB := n5_; clear n0_ n1_ n2_ n3_ n4_ n5_))) | ((with_reducible refine gate_callee (f := 57) rfl ?_); refine goesL_ (some 22) rfl rfl Try.func57 (by kernel_rfl) rfl #[.pointer (some ⟨g, 0, none⟩), .int .i64 3] rfl KL ?_; (with_reducible refine (spec_l1Below.calls g s0_0 t266 t267 3 t269 t270 t271 w0 _ ?side1 ?side2 A9.out).mono ?_); (case side1 => exact KI87); (case side2 => exact KBh87 HB.out); rintro e w44 ⟨rfl, hi, hb, hk⟩; refine ⟨_, rfl, ?_⟩; have h_ := P6 (KW BK250.out hk NB250_0.out) (Kd.R_mono (Kd.R_keep (IsS87.apart (show IsS87 w0 _ g s0_0 t266 t267 from KI87) (KR HO260.out) (by decide)) hk (fun _ h => h.2)) (fun _ h => h.1)) (KW BK264.out hk NB264_0.out) (KeepBut.trans (KHh HK.out) hk (.inl rfl)) hb hi; clear BK250 HO260 BK264 HK HB HI0; obtain ⟨BK250, HO260, BK264, HK, HB, HI0⟩ := h_; (try clear hb); (try clear hk); (try clear hi); obtain ⟨hcz45_0, hcz45_1, hcz45_2, hcz45_3, hfz45_0, hfz45_1, hfz45_2, hfz45_3⟩ := C4 BK264.out) | ((with_reducible refine gate_callee (f := 61) rfl ?_); refine goesL_ (some 26) rfl rfl Try.func61 (by kernel_rfl) rfl #[.pointer (some ⟨g, 0, none⟩), .int .i64 2] rfl KL ?_; (with_reducible refine (spec_l1Once.calls g s0_0 t270 t271 2 false t273 t274 w0 _ ?side1 ?side2 A10.out).mono ?_); (case side1 => exact KI87); (case side2 => exact KBh87 HB.out); rintro e w46 ⟨rfl, hi, hb, hk⟩; refine ⟨_, rfl, ?_⟩; have h_ := P6 (KW BK250.out hk NB250_0.out) (Kd.R_mono (Kd.R_keep (IsS87.apart (show IsS87 w0 _ g s0_0 t270 t271 from KI87) (RQ (RT HO260.out BK264.out)) (by decide)) hk (fun _ h => h.2)) (fun _ h => h.1)) (KeepBut.blk hk (g' := gb264) (o := .cells #[.int .i64 t257, .int .i64 (wrap64 ((wrap64 (t268 + 1)) + t269)), .bool false, .string t261] 35 (0, 0)) (by refine SK ?_; refine blk_put (cs := #[.int .i64 t257, .int .i64 0, .bool false, .string t261]) ?_ 1 _ rfl; exact SK BK264.out) NB264_0.out (by simp)) (KeepBut.trans (KHh HK.out) hk (.inl rfl)) hb hi; clear BK250 HO260 BK264 HK HB HI0; obtain ⟨BK250, HO260, BK264, HK, HB, HI0⟩ := h_; (try clear hb); (try clear hk); (try clear hi); obtain ⟨hcz47_0, hcz47_1, hcz47_2, hcz47_3, hfz47_0, hfz47_1, hfz47_2, hfz47_3⟩ := C4 BK264.out; have hnb48 := NB250_0.out; have hnc48 := NB0_250.out; obtain ⟨hcz49_0, hcz49_1, hcz49_2, hcz49_3, hfz49_0, hfz49_1, hfz49_2, hfz49_3⟩ := C4 BK250.out))
   refine bodyPost_ret (results_cell_row rfl _ _ gb250 35 #[.int .i64 t257, .int .i64 (wrap64 ((wrap64 (t268 + 1)) + t269)), .bool false, .string t261] (0, 0) _ rfl (by refine SK ?_; refine blk_put (cs := #[.int .i64 t257, .int .i64 (wrap64 ((wrap64 (t268 + 1)) + t269)), .bool false, .string (⟨#[]⟩ : ByteArray)]) ?_ 3 _ rfl; refine SK ?_; refine blk_put (cs := #[.int .i64 t257, .int .i64 (wrap64 ((wrap64 (t268 + 1)) + t269)), .bool false, .string (⟨#[]⟩ : ByteArray)]) ?_ 2 _ rfl; refine SK ?_; refine blk_put (cs := #[.int .i64 t257, .int .i64 0, .bool false, .string (⟨#[]⟩ : ByteArray)]) ?_ 1 _ rfl; refine SK ?_; refine blk_put (cs := #[.int .i64 0, .int .i64 0, .bool false, .string (⟨#[]⟩ : ByteArray)]) ?_ 0 _ rfl; exact SK BK250.out) Try.underlying35 rfl (by kernel_rfl)) rfl ?_
   exact ⟨KE, KI87, KBh87 HB.out, by repeat (first | (with_reducible first | exact HK.out | apply KeepBut.set_ | apply keep_drewN | apply keep_drew | apply keep_alloc | refine keep_far ?_ GW250.out _ | refine keep_far ?_ GW264.out _) | exact HK.out)⟩
 ·replace c7 := Bool.eq_false_iff.mpr c7
  subst c7
  have H1 : (some (t257, 0, false, t261, t266, t267)) = some (r1, r2, r3, r4, r5, r6) := by rw [if_neg (show ¬ (false = true) by decide)] at H; exact H
  clear H
  have H := H1
  clear H1
  simp only [Option.some.injEq, Prod.mk.injEq] at H
  obtain ⟨rfl, rfl, rfl, rfl, rfl, rfl⟩ := H
  go_enter Try.func91, Try.ntmps91
  go_wp2_with (first | ((with_reducible refine gate_dst (N := 2) rfl ?_); refine BE 2 #[.int .i64 0, .int .i64 0, .bool false, .string (⟨#[]⟩ : ByteArray)] 35 ?_; intro gb250 hg w50 hbox hb; have h_ := P8 (IsS87.below (KI87) hb) (KeepBut.trans KH (KeepBut.of_below hb g none) (.inl rfl)) (below_step KB87 hb) hbox (KSg hg HK.out) (Nat.le_trans HW0.out (KSg hg HK.out)) (by rw [hg]; exact Nat.ne_of_lt (IsS87.lt (show IsS87 w0 _ g s0_0 s0_1 s0_2 from KI87)) : g ≠ gb250) (by rw [hg]; exact Nat.ne_of_gt (IsS87.lt (show IsS87 w0 _ g s0_0 s0_1 s0_2 from KI87)) : gb250 ≠ g); clear HI0 HK HB; obtain ⟨HI0, HK, HB, BK250, GW250, GE250, NB0_250, NB250_0⟩ := h_; clear hb hbox hg) | ((with_reducible refine gate_callee (f := 57) rfl ?_); refine goesL_ (some 5) rfl rfl Try.func57 (by kernel_rfl) rfl #[.pointer (some ⟨g, 0, none⟩), .int .i64 3] rfl KL ?_; (with_reducible refine (spec_l1Below.calls g s0_0 s0_1 s0_2 3 t251 t252 t253 w0 _ ?side1 ?side2 A2.out).mono ?_); (case side1 => exact KI87); (case side2 => exact KBh87 HB.out); rintro e w51 ⟨rfl, hi, hb, hk⟩; refine ⟨_, rfl, ?_⟩; have h_ := P4 (KW BK250.out hk NB250_0.out) (KeepBut.trans (KHh HK.out) hk (.inl rfl)) hb hi; clear BK250 HK HB HI0; obtain ⟨BK250, HK, HB, HI0⟩ := h_; (try clear hb); (try clear hk); (try clear hi)) | ((with_reducible refine gate_callee (f := 57) rfl ?_); refine goesL_ (some 8) rfl rfl Try.func57 (by kernel_rfl) rfl #[.pointer (some ⟨g, 0, none⟩), .int .i64 6] rfl KL ?_; (with_reducible refine (spec_l1Below.calls g s0_0 t252 t253 6 t254 t255 t256 w0 _ ?side1 ?side2 A3.out).mono ?_); (case side1 => exact KI87); (case side2 => exact KBh87 HB.out); rintro e w52 ⟨rfl, hi, hb, hk⟩; refine ⟨_, rfl, ?_⟩; have h_ := P4 (KW BK250.out hk NB250_0.out) (KeepBut.trans (KHh HK.out) hk (.inl rfl)) hb hi; clear BK250 HK HB HI0; obtain ⟨BK250, HK, HB, HI0⟩ := h_; (try clear hb); (try clear hk); (try clear hi)) | ((with_reducible refine gate_callee (f := 83) rfl ?_); refine goesL_ (some 10) rfl rfl Try.func83 (by kernel_rfl) rfl #[.int .i64 (wrap64 (1 + t251)), .int .i64 (wrap64 (1 + t254))] rfl KL ?_; (with_reducible refine (spec_l1Place.calls (wrap64 (1 + t251)) (wrap64 (1 + t254)) t257 _ A4.out).mono ?_); rintro e w' ⟨rfl, ⟨nd, rfl⟩⟩; refine ⟨_, rfl, ?_⟩; (try (rw [drewN_self w52]; generalize hq_ : World.drewN w52 _ = w52; have n0_ : Aside0 (w52.heap[gb250]? = some (.cells #[.int .i64 0, .int .i64 0, .bool false, .string (⟨#[]⟩ : ByteArray)] 35 (0, 0))) := ⟨by rw [← hq_]; exact KK⟩; have n1_ : Aside0 (IsS87 w0 w52 g s0_0 t255 t256) := ⟨by rw [← hq_]; exact (KI87)⟩; have n2_ : Aside0 (KeepBut w w52 g none) := ⟨by rw [← hq_]; exact (KHh HK.out)⟩; have n3_ : Aside0 (Below w0.heap.size w0 w52) := ⟨by rw [← hq_]; exact (KBh87 HB.out)⟩; clear BK250 HI0 HK HB hq_; have BK250 := n0_; have HI0 := n1_; have HK := n2_; have HB := n3_; clear n0_ n1_ n2_ n3_))) | ((with_reducible refine gate_dst (N := 12) rfl ?_); refine Kd.R_lit Kd.string _ 9 ?hg (N := 12) ?hd (xs := ([(⟨#[]⟩ : ByteArray), (⟨#[97]⟩ : ByteArray), (⟨#[98, 99]⟩ : ByteArray), (⟨#[0]⟩ : ByteArray), (⟨#[119, 111, 114, 100]⟩ : ByteArray)] : List ByteArray)) (inner := [.string (⟨#[]⟩ : ByteArray), .string (⟨#[97]⟩ : ByteArray), .string (⟨#[98, 99]⟩ : ByteArray), .string (⟨#[0]⟩ : ByteArray), .string (⟨#[119, 111, 114, 100]⟩ : ByteArray)]) (ok := fun _ => True) (okp := fun _ => True) ?hr ?hp (fun _ hk => hk) trivial (Below.refl _ _) (Nat.le_refl _) (by simp) ?_; (case hd => rfl); (case hg => rfl); (case hr => first | (go_simp; done) | (go_simp; rfl)); (case hp => exact (Reps.one (show Kd.M Kd.string _ _ _ (⟨#[]⟩ : ByteArray) [.string (⟨#[]⟩ : ByteArray)] from rfl) (Reps.one (show Kd.M Kd.string _ _ _ (⟨#[97]⟩ : ByteArray) [.string (⟨#[97]⟩ : ByteArray)] from rfl) (Reps.one (show Kd.M Kd.string _ _ _ (⟨#[98, 99]⟩ : ByteArray) [.string (⟨#[98, 99]⟩ : ByteArray)] from rfl) (Reps.one (show Kd.M Kd.string _ _ _ (⟨#[0]⟩ : ByteArray) [.string (⟨#[0]⟩ : ByteArray)] from rfl) (Reps.one (show Kd.M Kd.string _ _ _ (⟨#[119, 111, 114, 100]⟩ : ByteArray) [.string (⟨#[119, 111, 114, 100]⟩ : ByteArray)] from rfl) (Reps.none _ _))))))); intro v259 w53 ho54 hb hg_ hnew_; clear hg_ hnew_; (first | rw [← Ny258.out] at ho54 | (simp only [Int.reduceToNat] at ho54; rw [← Ny258.out] at ho54)); have h_ := P5 (Kd.R_lower ho54 (KS HK.out)) (IsS87.below (KI87) hb) (BL BK250.out hb) (KeepBut.trans (KHh HK.out) (KeepBut.of_below hb g none) (.inl rfl)) (below_step (KBh87 HB.out) hb); clear HI0 BK250 HK HB; obtain ⟨HO260, HI0, BK250, HK, HB⟩ := h_; clear hb ho54; obtain ⟨Ao55, co55, eo55⟩ := Kd.R_slice HO260.out; subst eo55) | ((with_reducible refine gate_callee (f := 94) rfl ?_); refine goesL_ (some 13) rfl rfl Try.func94 (by kernel_rfl) rfl #[.pointer (some ⟨g, 0, none⟩), .slice Ao55 y258.length co55] rfl KL ?_; (with_reducible refine (spec_l1Pick.calls g s0_0 t255 t256 _ _ y258 t261 t262 t263 w0 _ ?side1 ?side2 ?side3 ?side4 ?side5 A5.out).mono ?_); (case side1 => exact KI87); (case side2 => exact KBh87 HB.out); (case side3 => repeat (first | exact (Kd.R_reads' HO260.out).2.2 | (with_reducible refine Kd.C_alloc ?_ _) | (with_reducible refine Kd.C_drewN ?_ _) | (with_reducible refine Kd.C_drew ?_))); (case side4 => exact (Kd.R_reads' HO260.out).2.1); (case side5 => exact far_slice (IsS87.own_ne HI0.out HO260.out (by decide))); rintro e w56 ⟨rfl, hi, hb, hk⟩; refine ⟨_, rfl, ?_⟩; have h_ := P5 (KW BK250.out hk NB250_0.out) (Kd.R_mono (Kd.R_keep (IsS87.apart (show IsS87 w0 _ g s0_0 t255 t256 from KI87) (KR HO260.out) (by decide)) hk (fun _ h => h.2)) (fun _ h => h.1)) (KeepBut.trans (KHh HK.out) hk (.inl rfl)) hb hi; clear BK250 HO260 HK HB HI0; obtain ⟨BK250, HO260, HK, HB, HI0⟩ := h_; (try clear hb); (try clear hk); (try clear hi)) | ((with_reducible refine gate_dst (N := 3) rfl ?_); refine BE 3 #[.int .i64 0, .int .i64 0, .bool false, .string (⟨#[]⟩ : ByteArray)] 35 ?_; intro gb264 hg w57 hbox hb; have h_ := P12 (Kd.R_below (KR HO260.out) hb) (IsS87.below (KI87) hb) (BL BK250.out hb) (KeepBut.trans (KHh HK.out) (KeepBut.of_below hb g none) (.inl rfl)) (below_step (KBh87 HB.out) hb) hbox (KSg hg HK.out) (Nat.le_trans HW0.out (KSg hg HK.out)) (NX hg BK250.out) (Ne.symm (NX hg BK250.out)) (by rw [hg]; exact Nat.ne_of_lt (IsS87.lt (show IsS87 w0 _ g s0_0 t262 t263 from KI87)) : g ≠ gb264) (by rw [hg]; exact Nat.ne_of_gt (IsS87.lt (show IsS87 w0 _ g s0_0 t262 t263 from KI87)) : gb264 ≠ g); clear HO260 HI0 BK250 HK HB; obtain ⟨HO260, HI0, BK250, HK, HB, BK264, GW264, GE264, NB250_264, NB264_250, NB0_264, NB264_0⟩ := h_; clear hb hbox hg; have hnb58 := NB264_250.out; have hnc58 := NB250_264.out; have hnb59 := NB264_0.out; have hnc59 := NB0_264.out; obtain ⟨hcz60_0, hcz60_1, hcz60_2, hcz60_3, hfz60_0, hfz60_1, hfz60_2, hfz60_3⟩ := C4 BK264.out) | ((with_reducible refine gate_callee (f := 61) rfl ?_); refine goesL_ (some 16) rfl rfl Try.func61 (by kernel_rfl) rfl #[.pointer (some ⟨g, 0, none⟩), .int .i64 3] rfl KL ?_; (with_reducible refine (spec_l1Once.calls g s0_0 t262 t263 3 false t266 t267 w0 _ ?side1 ?side2 A6.out).mono ?_); (case side1 => exact KI87); (case side2 => exact KBh87 HB.out); rintro e w61 ⟨rfl, hi, hb, hk⟩; refine ⟨_, rfl, ?_⟩; have h_ := P6 (KW BK250.out hk NB250_0.out) (Kd.R_mono (Kd.R_keep (IsS87.apart (show IsS87 w0 _ g s0_0 t262 t263 from KI87) (RQ (RT HO260.out BK264.out)) (by decide)) hk (fun _ h => h.2)) (fun _ h => h.1)) (KeepBut.blk hk (g' := gb264) (o := .cells #[.int .i64 t257, .int .i64 0, .bool false, .string t261] 35 (0, 0)) (by refine SK ?_; refine blk_put (cs := #[.int .i64 t257, .int .i64 0, .bool false, .string (⟨#[]⟩ : ByteArray)]) ?_ 3 _ rfl; refine SK ?_; refine blk_put (cs := #[.int .i64 t257, .int .i64 0, .bool false, .string (⟨#[]⟩ : ByteArray)]) ?_ 2 _ rfl; refine SK ?_; refine blk_put (cs := #[.int .i64 t257, .int .i64 0, .bool false, .string (⟨#[]⟩ : ByteArray)]) ?_ 1 _ rfl; refine SK ?_; refine blk_put (cs := #[.int .i64 0, .int .i64 0, .bool false, .string (⟨#[]⟩ : ByteArray)]) ?_ 0 _ rfl; exact SK BK264.out) NB264_0.out (by simp)) (KeepBut.trans (KHh HK.out) hk (.inl rfl)) hb hi; clear BK250 HO260 BK264 HK HB HI0; obtain ⟨BK250, HO260, BK264, HK, HB, HI0⟩ := h_; (try clear hb); (try clear hk); (try clear hi); obtain ⟨hcz62_0, hcz62_1, hcz62_2, hcz62_3, hfz62_0, hfz62_1, hfz62_2, hfz62_3⟩ := C4 BK264.out; have hnb63 := NB250_0.out; have hnc63 := NB0_250.out; obtain ⟨hcz64_0, hcz64_1, hcz64_2, hcz64_3, hfz64_0, hfz64_1, hfz64_2, hfz64_3⟩ := C4 BK250.out))
  refine bodyPost_ret (results_cell_row rfl _ _ gb250 35 #[.int .i64 t257, .int .i64 0, .bool false, .string t261] (0, 0) _ rfl (by refine SK ?_; refine blk_put (cs := #[.int .i64 t257, .int .i64 0, .bool false, .string (⟨#[]⟩ : ByteArray)]) ?_ 3 _ rfl; refine SK ?_; refine blk_put (cs := #[.int .i64 t257, .int .i64 0, .bool false, .string (⟨#[]⟩ : ByteArray)]) ?_ 2 _ rfl; refine SK ?_; refine blk_put (cs := #[.int .i64 t257, .int .i64 0, .bool false, .string (⟨#[]⟩ : ByteArray)]) ?_ 1 _ rfl; refine SK ?_; refine blk_put (cs := #[.int .i64 0, .int .i64 0, .bool false, .string (⟨#[]⟩ : ByteArray)]) ?_ 0 _ rfl; exact SK BK250.out) Try.underlying35 rfl (by kernel_rfl)) rfl ?_
  exact ⟨KE, KI87, KBh87 HB.out, by repeat (first | (with_reducible first | exact HK.out | apply KeepBut.set_ | apply keep_drewN | apply keep_drew | apply keep_alloc | refine keep_far ?_ GW250.out _ | refine keep_far ?_ GW264.out _) | exact HK.out)⟩

/-! ### spec_l3Draw: function 70 -/
def spec_l3Draw.f (s0_0 : List Int) (s0_1 : Int) (s0_2 : Int) : Option (Int × Int × Bool × ByteArray × Int × Int) := (spec_l3DrawRight.f s0_0 s0_1 s0_2).bind fun bt276 => ((spec_l1Below.f s0_0 bt276.2.2.2.2.1 bt276.2.2.2.2.2 15).bind fun bt283 => (if bt283.1 = 0 then ((spec_l1DrawPlace.f s0_0 bt283.2.1 bt283.2.2).bind fun bt286 => (some (bt286.1, bt276.2.1, bt276.2.2.1, bt276.2.2.2.1, bt286.2.1, bt286.2.2))) else (if bt283.1 = 1 then ((spec_l1PickInt.f s0_0 bt283.2.1 bt283.2.2 (([(-1), 1, 30, 31] : List Int))).bind fun bt292 => (some (bt276.1, bt292.1, bt276.2.2.1, bt276.2.2.2.1, bt292.2.1, bt292.2.2))) else (if bt283.1 = 2 then (some (bt276.1, bt276.2.1, true, bt276.2.2.2.1, bt283.2.1, bt283.2.2)) else (if bt283.1 = 3 then ((spec_l1Below.f s0_0 bt283.2.1 bt283.2.2 2).bind fun bt295 => (if 0 ≤ (wrap64 (40 + bt295.1)) then (if (wrap64 (40 + bt295.1) : Int).toNat ≤ 281474976710656 then (some (bt276.1, bt276.2.1, bt276.2.2.1, strOfNums (List.replicate (wrap64 (40 + bt295.1) : Int).toNat 0), bt295.2.1, bt295.2.2)) else (none)) else (none))) else (some (bt276.1, bt276.2.1, bt276.2.2.1, bt276.2.2.2.1, bt283.2.1, bt283.2.2)))))))
set_option maxHeartbeats 8000000 in
set_option maxRecDepth 100000 in
theorem spec_l3Draw.calls (g : Nat) (s0_0 : List Int) (s0_1 : Int) (s0_2 : Int) (r1 : Int) (r2 : Int) (r3 : Bool) (r4 : ByteArray) (r5 : Int) (r6 : Int) (w0 w : World) (hI : IsS87 w0 w g s0_0 s0_1 s0_2) (hB : Below w0.heap.size w0 w) (h : spec_l3Draw.f s0_0 s0_1 s0_2 = some (r1, r2, r3, r4, r5, r6)) :
  Calls Try.prog 70 #[.pointer (some ⟨g, 0, none⟩)] w fun e w' => e = .returned (.agg #[.int .i64 r1, .int .i64 r2, .bool r3, .string r4]) ∧ IsS87 w0 w' g s0_0 r5 r6 ∧ Below w0.heap.size w0 w' ∧ KeepBut w w' g none := by
 have hu35 := Try.underlying35
 have HI0 := Aside0.mk hI
 have HK := Aside0.mk (KeepBut.refl w g none)
 have HL := Aside0.mk hB.size
 clear hI
 have HW0 := Aside0.mk hB.size
 have HB := Aside0.mk hB
 clear hB
 have H : ((spec_l3DrawRight.f s0_0 s0_1 s0_2).bind fun bt276 => ((spec_l1Below.f s0_0 bt276.2.2.2.2.1 bt276.2.2.2.2.2 15).bind fun bt283 => (if bt283.1 = 0 then ((spec_l1DrawPlace.f s0_0 bt283.2.1 bt283.2.2).bind fun bt286 => (some (bt286.1, bt276.2.1, bt276.2.2.1, bt276.2.2.2.1, bt286.2.1, bt286.2.2))) else (if bt283.1 = 1 then ((spec_l1PickInt.f s0_0 bt283.2.1 bt283.2.2 (([(-1), 1, 30, 31] : List Int))).bind fun bt292 => (some (bt276.1, bt292.1, bt276.2.2.1, bt276.2.2.2.1, bt292.2.1, bt292.2.2))) else (if bt283.1 = 2 then (some (bt276.1, bt276.2.1, true, bt276.2.2.2.1, bt283.2.1, bt283.2.2)) else (if bt283.1 = 3 then ((spec_l1Below.f s0_0 bt283.2.1 bt283.2.2 2).bind fun bt295 => (if 0 ≤ (wrap64 (40 + bt295.1)) then (if (wrap64 (40 + bt295.1) : Int).toNat ≤ 281474976710656 then (some (bt276.1, bt276.2.1, bt276.2.2.1, strOfNums (List.replicate (wrap64 (40 + bt295.1) : Int).toNat 0), bt295.2.1, bt295.2.2)) else (none)) else (none))) else (some (bt276.1, bt276.2.1, bt276.2.2.1, bt276.2.2.2.1, bt283.2.1, bt283.2.2)))))))) = some (r1, r2, r3, r4, r5, r6) := h
 clear h
 replace H := Option.bind_eq_some_iff.mp H
 obtain ⟨⟨t276, t277, t278, t279, t280, t281⟩, A20, H⟩ := H
 replace H : ((spec_l1Below.f s0_0 t280 t281 15).bind fun bt283 => (if bt283.1 = 0 then ((spec_l1DrawPlace.f s0_0 bt283.2.1 bt283.2.2).bind fun bt286 => (some (bt286.1, t277, t278, t279, bt286.2.1, bt286.2.2))) else (if bt283.1 = 1 then ((spec_l1PickInt.f s0_0 bt283.2.1 bt283.2.2 (([(-1), 1, 30, 31] : List Int))).bind fun bt292 => (some (t276, bt292.1, t278, t279, bt292.2.1, bt292.2.2))) else (if bt283.1 = 2 then (some (t276, t277, true, t279, bt283.2.1, bt283.2.2)) else (if bt283.1 = 3 then ((spec_l1Below.f s0_0 bt283.2.1 bt283.2.2 2).bind fun bt295 => (if 0 ≤ (wrap64 (40 + bt295.1)) then (if (wrap64 (40 + bt295.1) : Int).toNat ≤ 281474976710656 then (some (t276, t277, t278, strOfNums (List.replicate (wrap64 (40 + bt295.1) : Int).toNat 0), bt295.2.1, bt295.2.2)) else (none)) else (none))) else (some (t276, t277, t278, t279, bt283.2.1, bt283.2.2))))))) = some (r1, r2, r3, r4, r5, r6) := H
 have A2 := Aside0.mk A20
 clear A20
 replace H := Option.bind_eq_some_iff.mp H
 obtain ⟨⟨t283, t284, t285⟩, A30, H⟩ := H
 replace H : (if t283 = 0 then ((spec_l1DrawPlace.f s0_0 t284 t285).bind fun bt286 => (some (bt286.1, t277, t278, t279, bt286.2.1, bt286.2.2))) else (if t283 = 1 then ((spec_l1PickInt.f s0_0 t284 t285 (([(-1), 1, 30, 31] : List Int))).bind fun bt292 => (some (t276, bt292.1, t278, t279, bt292.2.1, bt292.2.2))) else (if t283 = 2 then (some (t276, t277, true, t279, t284, t285)) else (if t283 = 3 then ((spec_l1Below.f s0_0 t284 t285 2).bind fun bt295 => (if 0 ≤ (wrap64 (40 + bt295.1)) then (if (wrap64 (40 + bt295.1) : Int).toNat ≤ 281474976710656 then (some (t276, t277, t278, strOfNums (List.replicate (wrap64 (40 + bt295.1) : Int).toNat 0), bt295.2.1, bt295.2.2)) else (none)) else (none))) else (some (t276, t277, t278, t279, t284, t285)))))) = some (r1, r2, r3, r4, r5, r6) := H
 have A3 := Aside0.mk A30
 clear A30
 by_cases c4 : t283 = 0
 ·rw [if_pos c4] at H
  have c4b0 : (t283 == 0) = true := beq_iff_eq.mpr c4
  have c4b1 : (t283 != 0) = false := bne_eq_false_iff_eq.mpr c4
  clear c4
  replace H := Option.bind_eq_some_iff.mp H
  obtain ⟨⟨t286, t287, t288⟩, A50, H⟩ := H
  replace H : (some (t286, t277, t278, t279, t287, t288)) = some (r1, r2, r3, r4, r5, r6) := H
  have A5 := Aside0.mk A50
  clear A50
  simp only [Option.some.injEq, Prod.mk.injEq] at H
  obtain ⟨rfl, rfl, rfl, rfl, rfl, rfl⟩ := H
  go_enter Try.func70, Try.ntmps70
  go_wp2_with (first | ((with_reducible refine gate_dst (N := 2) rfl ?_); refine BE 2 #[.int .i64 0, .int .i64 0, .bool false, .string (⟨#[]⟩ : ByteArray)] 35 ?_; intro gb275 hg w6 hbox hb; have h_ := P8 (IsS87.below (KI87) hb) (KeepBut.trans KH (KeepBut.of_below hb g none) (.inl rfl)) (below_step KB87 hb) hbox (KSg hg HK.out) (Nat.le_trans HW0.out (KSg hg HK.out)) (by rw [hg]; exact Nat.ne_of_lt (IsS87.lt (show IsS87 w0 _ g s0_0 s0_1 s0_2 from KI87)) : g ≠ gb275) (by rw [hg]; exact Nat.ne_of_gt (IsS87.lt (show IsS87 w0 _ g s0_0 s0_1 s0_2 from KI87)) : gb275 ≠ g); clear HI0 HK HB; obtain ⟨HI0, HK, HB, BK275, GW275, GE275, NB0_275, NB275_0⟩ := h_; clear hb hbox hg) | ((with_reducible refine gate_callee (f := 91) rfl ?_); refine goesL_ (some 5) rfl rfl Try.func91 (by kernel_rfl) rfl #[.pointer (some ⟨g, 0, none⟩)] rfl KL ?_; (with_reducible refine (spec_l3DrawRight.calls g s0_0 s0_1 s0_2 t276 t277 t278 t279 t280 t281 w0 _ ?side1 ?side2 A2.out).mono ?_); (case side1 => exact KI87); (case side2 => exact KBh87 HB.out); rintro e w7 ⟨rfl, hi, hb, hk⟩; refine ⟨_, rfl, ?_⟩; have h_ := P4 (KW BK275.out hk NB275_0.out) (KeepBut.trans (KHh HK.out) hk (.inl rfl)) hb hi; clear BK275 HK HB HI0; obtain ⟨BK275, HK, HB, HI0⟩ := h_; (try clear hb); (try clear hk); (try clear hi)) | ((with_reducible refine gate_dst (N := 3) rfl ?_); refine BE 3 #[.int .i64 0, .int .i64 0, .bool false, .string (⟨#[]⟩ : ByteArray)] 35 ?_; intro gb282 hg w8 hbox hb; have h_ := P11 (IsS87.below (KI87) hb) (BL BK275.out hb) (KeepBut.trans (KHh HK.out) (KeepBut.of_below hb g none) (.inl rfl)) (below_step (KBh87 HB.out) hb) hbox (KSg hg HK.out) (Nat.le_trans HW0.out (KSg hg HK.out)) (NX hg BK275.out) (Ne.symm (NX hg BK275.out)) (by rw [hg]; exact Nat.ne_of_lt (IsS87.lt (show IsS87 w0 _ g s0_0 t280 t281 from KI87)) : g ≠ gb282) (by rw [hg]; exact Nat.ne_of_gt (IsS87.lt (show IsS87 w0 _ g s0_0 t280 t281 from KI87)) : gb282 ≠ g); clear HI0 BK275 HK HB; obtain ⟨HI0, BK275, HK, HB, BK282, GW282, GE282, NB275_282, NB282_275, NB0_282, NB282_0⟩ := h_; clear hb hbox hg; have hnb9 := NB282_275.out; have hnc9 := NB275_282.out; have hnb10 := NB282_0.out; have hnc10 := NB0_282.out; obtain ⟨hcz11_0, hcz11_1, hcz11_2, hcz11_3, hfz11_0, hfz11_1, hfz11_2, hfz11_3⟩ := C4 BK282.out) | ((with_reducible refine gate_callee (f := 57) rfl ?_); refine goesL_ (some 7) rfl rfl Try.func57 (by kernel_rfl) rfl #[.pointer (some ⟨g, 0, none⟩), .int .i64 15] rfl KL ?_; (with_reducible refine (spec_l1Below.calls g s0_0 t280 t281 15 t283 t284 t285 w0 _ ?side1 ?side2 A3.out).mono ?_); (case side1 => exact KI87); (case side2 => exact KBh87 HB.out); rintro e w12 ⟨rfl, hi, hb, hk⟩; refine ⟨_, rfl, ?_⟩; have h_ := P5 (KW BK275.out hk NB275_0.out) (KeepBut.blk hk (g' := gb282) (o := .cells #[.int .i64 t276, .int .i64 t277, .bool t278, .string t279] 35 (0, 0)) (by refine SK ?_; refine blk_put (cs := #[.int .i64 t276, .int .i64 t277, .bool t278, .string (⟨#[]⟩ : ByteArray)]) ?_ 3 _ rfl; refine SK ?_; refine blk_put (cs := #[.int .i64 t276, .int .i64 t277, .bool false, .string (⟨#[]⟩ : ByteArray)]) ?_ 2 _ rfl; refine SK ?_; refine blk_put (cs := #[.int .i64 t276, .int .i64 0, .bool false, .string (⟨#[]⟩ : ByteArray)]) ?_ 1 _ rfl; refine SK ?_; refine blk_put (cs := #[.int .i64 0, .int .i64 0, .bool false, .string (⟨#[]⟩ : ByteArray)]) ?_ 0 _ rfl; exact SK BK282.out) NB282_0.out (by simp)) (KeepBut.trans (KHh HK.out) hk (.inl rfl)) hb hi; clear BK275 BK282 HK HB HI0; obtain ⟨BK275, BK282, HK, HB, HI0⟩ := h_; (try clear hb); (try clear hk); (try clear hi)) | ((with_reducible refine gate_callee (f := 87) rfl ?_); refine goesL_ (some 11) rfl rfl Try.func87 (by kernel_rfl) rfl #[.pointer (some ⟨g, 0, none⟩)] rfl KL ?_; (with_reducible refine (spec_l1DrawPlace.calls g s0_0 t284 t285 t286 t287 t288 w0 _ ?side1 ?side2 A5.out).mono ?_); (case side1 => exact KI87); (case side2 => exact KBh87 HB.out); rintro e w13 ⟨rfl, hi, hb, hk⟩; refine ⟨_, rfl, ?_⟩; have h_ := P5 (KW BK275.out hk NB275_0.out) (KW BK282.out hk NB282_0.out) (KeepBut.trans (KHh HK.out) hk (.inl rfl)) hb hi; clear BK275 BK282 HK HB HI0; obtain ⟨BK275, BK282, HK, HB, HI0⟩ := h_; (try clear hb); (try clear hk); (try clear hi); obtain ⟨hcz14_0, hcz14_1, hcz14_2, hcz14_3, hfz14_0, hfz14_1, hfz14_2, hfz14_3⟩ := C4 BK282.out; have hnb15 := NB275_0.out; have hnc15 := NB0_275.out; obtain ⟨hcz16_0, hcz16_1, hcz16_2, hcz16_3, hfz16_0, hfz16_1, hfz16_2, hfz16_3⟩ := C4 BK275.out))
  refine bodyPost_ret (results_cell_row rfl _ _ gb275 35 #[.int .i64 t286, .int .i64 t277, .bool t278, .string t279] (0, 0) _ rfl (by refine SK ?_; refine blk_put (cs := #[.int .i64 t286, .int .i64 t277, .bool t278, .string (⟨#[]⟩ : ByteArray)]) ?_ 3 _ rfl; refine SK ?_; refine blk_put (cs := #[.int .i64 t286, .int .i64 t277, .bool false, .string (⟨#[]⟩ : ByteArray)]) ?_ 2 _ rfl; refine SK ?_; refine blk_put (cs := #[.int .i64 t286, .int .i64 0, .bool false, .string (⟨#[]⟩ : ByteArray)]) ?_ 1 _ rfl; refine SK ?_; refine blk_put (cs := #[.int .i64 0, .int .i64 0, .bool false, .string (⟨#[]⟩ : ByteArray)]) ?_ 0 _ rfl; refine SK ?_; refine blk_far ?_ NB275_282.out _; exact SK BK275.out) Try.underlying35 rfl (by kernel_rfl)) rfl ?_
  exact ⟨KE, KI87, KBh87 HB.out, by repeat (first | (with_reducible first | exact HK.out | apply KeepBut.set_ | apply keep_drewN | apply keep_drew | apply keep_alloc | refine keep_far ?_ GW275.out _ | refine keep_far ?_ GW282.out _) | exact HK.out)⟩
 ·rw [if_neg c4] at H
  have c4b0 : (t283 == 0) = false := beq_eq_false_iff_ne.mpr c4
  have c4b1 : (t283 != 0) = true := bne_iff_ne.mpr c4
  by_cases c17 : t283 = 1
  ·rw [if_pos c17] at H
   have c17b0 : (t283 == 1) = true := beq_iff_eq.mpr c17
   have c17b1 : (t283 != 1) = false := bne_eq_false_iff_eq.mpr c17
   clear c17
   obtain ⟨y289, hy289⟩ : ∃ y_ : List Int, y_ = (([(-1), 1, 30, 31] : List Int)) := ⟨_, rfl⟩
   replace H : ((spec_l1PickInt.f s0_0 t284 t285 y289).bind fun bt292 => (some (t276, bt292.1, t278, t279, bt292.2.1, bt292.2.2))) = some (r1, r2, r3, r4, r5, r6) := by first | (rw [hy289]; with_reducible exact H) | (have H2_ := (Option.bind_some _ _).symm.trans H; rw [hy289]; with_reducible exact H2_) | (have H2_ := (Option.bind_some _ _).symm.trans H; with_reducible exact H2_) | with_reducible exact H | (rw [hy289]; exact H) | exact H
   have Ny289 := Aside0.mk hy289
   clear hy289
   replace H := Option.bind_eq_some_iff.mp H
   obtain ⟨⟨t292, t293, t294⟩, A180, H⟩ := H
   replace H : (some (t276, t292, t278, t279, t293, t294)) = some (r1, r2, r3, r4, r5, r6) := H
   have A18 := Aside0.mk A180
   clear A180
   simp only [Option.some.injEq, Prod.mk.injEq] at H
   obtain ⟨rfl, rfl, rfl, rfl, rfl, rfl⟩ := H
   go_enter Try.func70, Try.ntmps70
   go_wp2_with (first | ((with_reducible refine gate_dst (N := 2) rfl ?_); refine BE 2 #[.int .i64 0, .int .i64 0, .bool false, .string (⟨#[]⟩ : ByteArray)] 35 ?_; intro gb275 hg w19 hbox hb; have h_ := P8 (IsS87.below (KI87) hb) (KeepBut.trans KH (KeepBut.of_below hb g none) (.inl rfl)) (below_step KB87 hb) hbox (KSg hg HK.out) (Nat.le_trans HW0.out (KSg hg HK.out)) (by rw [hg]; exact Nat.ne_of_lt (IsS87.lt (show IsS87 w0 _ g s0_0 s0_1 s0_2 from KI87)) : g ≠ gb275) (by rw [hg]; exact Nat.ne_of_gt (IsS87.lt (show IsS87 w0 _ g s0_0 s0_1 s0_2 from KI87)) : gb275 ≠ g); clear HI0 HK HB; obtain ⟨HI0, HK, HB, BK275, GW275, GE275, NB0_275, NB275_0⟩ := h_; clear hb hbox hg) | ((with_reducible refine gate_callee (f := 91) rfl ?_); refine goesL_ (some 5) rfl rfl Try.func91 (by kernel_rfl) rfl #[.pointer (some ⟨g, 0, none⟩)] rfl KL ?_; (with_reducible refine (spec_l3DrawRight.calls g s0_0 s0_1 s0_2 t276 t277 t278 t279 t280 t281 w0 _ ?side1 ?side2 A2.out).mono ?_); (case side1 => exact KI87); (case side2 => exact KBh87 HB.out); rintro e w20 ⟨rfl, hi, hb, hk⟩; refine ⟨_, rfl, ?_⟩; have h_ := P4 (KW BK275.out hk NB275_0.out) (KeepBut.trans (KHh HK.out) hk (.inl rfl)) hb hi; clear BK275 HK HB HI0; obtain ⟨BK275, HK, HB, HI0⟩ := h_; (try clear hb); (try clear hk); (try clear hi)) | ((with_reducible refine gate_dst (N := 3) rfl ?_); refine BE 3 #[.int .i64 0, .int .i64 0, .bool false, .string (⟨#[]⟩ : ByteArray)] 35 ?_; intro gb282 hg w21 hbox hb; have h_ := P11 (IsS87.below (KI87) hb) (BL BK275.out hb) (KeepBut.trans (KHh HK.out) (KeepBut.of_below hb g none) (.inl rfl)) (below_step (KBh87 HB.out) hb) hbox (KSg hg HK.out) (Nat.le_trans HW0.out (KSg hg HK.out)) (NX hg BK275.out) (Ne.symm (NX hg BK275.out)) (by rw [hg]; exact Nat.ne_of_lt (IsS87.lt (show IsS87 w0 _ g s0_0 t280 t281 from KI87)) : g ≠ gb282) (by rw [hg]; exact Nat.ne_of_gt (IsS87.lt (show IsS87 w0 _ g s0_0 t280 t281 from KI87)) : gb282 ≠ g); clear HI0 BK275 HK HB; obtain ⟨HI0, BK275, HK, HB, BK282, GW282, GE282, NB275_282, NB282_275, NB0_282, NB282_0⟩ := h_; clear hb hbox hg; have hnb22 := NB282_275.out; have hnc22 := NB275_282.out; have hnb23 := NB282_0.out; have hnc23 := NB0_282.out; obtain ⟨hcz24_0, hcz24_1, hcz24_2, hcz24_3, hfz24_0, hfz24_1, hfz24_2, hfz24_3⟩ := C4 BK282.out) | ((with_reducible refine gate_callee (f := 57) rfl ?_); refine goesL_ (some 7) rfl rfl Try.func57 (by kernel_rfl) rfl #[.pointer (some ⟨g, 0, none⟩), .int .i64 15] rfl KL ?_; (with_reducible refine (spec_l1Below.calls g s0_0 t280 t281 15 t283 t284 t285 w0 _ ?side1 ?side2 A3.out).mono ?_); (case side1 => exact KI87); (case side2 => exact KBh87 HB.out); rintro e w25 ⟨rfl, hi, hb, hk⟩; refine ⟨_, rfl, ?_⟩; have h_ := P5 (KW BK275.out hk NB275_0.out) (KeepBut.blk hk (g' := gb282) (o := .cells #[.int .i64 t276, .int .i64 t277, .bool t278, .string t279] 35 (0, 0)) (by refine SK ?_; refine blk_put (cs := #[.int .i64 t276, .int .i64 t277, .bool t278, .string (⟨#[]⟩ : ByteArray)]) ?_ 3 _ rfl; refine SK ?_; refine blk_put (cs := #[.int .i64 t276, .int .i64 t277, .bool false, .string (⟨#[]⟩ : ByteArray)]) ?_ 2 _ rfl; refine SK ?_; refine blk_put (cs := #[.int .i64 t276, .int .i64 0, .bool false, .string (⟨#[]⟩ : ByteArray)]) ?_ 1 _ rfl; refine SK ?_; refine blk_put (cs := #[.int .i64 0, .int .i64 0, .bool false, .string (⟨#[]⟩ : ByteArray)]) ?_ 0 _ rfl; exact SK BK282.out) NB282_0.out (by simp)) (KeepBut.trans (KHh HK.out) hk (.inl rfl)) hb hi; clear BK275 BK282 HK HB HI0; obtain ⟨BK275, BK282, HK, HB, HI0⟩ := h_; (try clear hb); (try clear hk); (try clear hi)) | ((with_reducible refine gate_dst (N := 16) rfl ?_); refine Kd.R_lit (Kd.int .i64) _ 3 ?hg (N := 16) ?hd (xs := ([(-1), 1, 30, 31] : List Int)) (inner := [.int .i64 (-1), .int .i64 1, .int .i64 30, .int .i64 31]) (ok := fun _ => True) (okp := fun _ => True) ?hr ?hp (fun _ hk => hk) trivial (Below.refl _ _) (Nat.le_refl _) (by simp) ?_; (case hd => rfl); (case hg => rfl); (case hr => first | (go_simp; done) | (go_simp; rfl)); (case hp => exact (Reps.one (show Kd.M (Kd.int .i64) _ _ _ (-1) [.int .i64 (-1)] from rfl) (Reps.one (show Kd.M (Kd.int .i64) _ _ _ 1 [.int .i64 1] from rfl) (Reps.one (show Kd.M (Kd.int .i64) _ _ _ 30 [.int .i64 30] from rfl) (Reps.one (show Kd.M (Kd.int .i64) _ _ _ 31 [.int .i64 31] from rfl) (Reps.none _ _)))))); intro v290 w26 ho27 hb hg_ hnew_; clear hg_ hnew_; (first | rw [← Ny289.out] at ho27 | (simp only [Int.reduceToNat] at ho27; rw [← Ny289.out] at ho27)); have h_ := P6 (Kd.R_lower ho27 (KS HK.out)) (IsS87.below (KI87) hb) (BL BK275.out hb) (BL BK282.out hb) (KeepBut.trans (KHh HK.out) (KeepBut.of_below hb g none) (.inl rfl)) (below_step (KBh87 HB.out) hb); clear HI0 BK275 BK282 HK HB; obtain ⟨HO291, HI0, BK275, BK282, HK, HB⟩ := h_; clear hb ho27; obtain ⟨Ao28, co28, eo28⟩ := Kd.R_slice HO291.out; subst eo28) | ((with_reducible refine gate_callee (f := 62) rfl ?_); refine goesL_ (some 17) rfl rfl Try.func62 (by kernel_rfl) rfl #[.pointer (some ⟨g, 0, none⟩), .slice Ao28 y289.length co28] rfl KL ?_; (with_reducible refine (spec_l1PickInt.calls g s0_0 t284 t285 _ _ y289 t292 t293 t294 w0 _ ?side1 ?side2 ?side3 ?side4 ?side5 A18.out).mono ?_); (case side1 => exact KI87); (case side2 => exact KBh87 HB.out); (case side3 => repeat (first | exact (Kd.R_reads' HO291.out).2.2 | (with_reducible refine Kd.C_alloc ?_ _) | (with_reducible refine Kd.C_drewN ?_ _) | (with_reducible refine Kd.C_drew ?_))); (case side4 => exact (Kd.R_reads' HO291.out).2.1); (case side5 => exact far_slice (IsS87.own_ne HI0.out HO291.out (by decide))); rintro e w29 ⟨rfl, hi, hb, hk⟩; refine ⟨_, rfl, ?_⟩; have h_ := P6 (KW BK275.out hk NB275_0.out) (KW BK282.out hk NB282_0.out) (Kd.R_mono (Kd.R_keep (IsS87.apart (show IsS87 w0 _ g s0_0 t284 t285 from KI87) (KR HO291.out) (by decide)) hk (fun _ h => h.2)) (fun _ h => h.1)) (KeepBut.trans (KHh HK.out) hk (.inl rfl)) hb hi; clear BK275 BK282 HO291 HK HB HI0; obtain ⟨BK275, BK282, HO291, HK, HB, HI0⟩ := h_; (try clear hb); (try clear hk); (try clear hi); obtain ⟨hcz30_0, hcz30_1, hcz30_2, hcz30_3, hfz30_0, hfz30_1, hfz30_2, hfz30_3⟩ := C4 BK282.out; have hnb31 := NB275_0.out; have hnc31 := NB0_275.out; obtain ⟨hcz32_0, hcz32_1, hcz32_2, hcz32_3, hfz32_0, hfz32_1, hfz32_2, hfz32_3⟩ := C4 BK275.out))
   refine bodyPost_ret (results_cell_row rfl _ _ gb275 35 #[.int .i64 t276, .int .i64 t292, .bool t278, .string t279] (0, 0) _ rfl (by refine SK ?_; refine blk_put (cs := #[.int .i64 t276, .int .i64 t292, .bool t278, .string (⟨#[]⟩ : ByteArray)]) ?_ 3 _ rfl; refine SK ?_; refine blk_put (cs := #[.int .i64 t276, .int .i64 t292, .bool false, .string (⟨#[]⟩ : ByteArray)]) ?_ 2 _ rfl; refine SK ?_; refine blk_put (cs := #[.int .i64 t276, .int .i64 0, .bool false, .string (⟨#[]⟩ : ByteArray)]) ?_ 1 _ rfl; refine SK ?_; refine blk_put (cs := #[.int .i64 0, .int .i64 0, .bool false, .string (⟨#[]⟩ : ByteArray)]) ?_ 0 _ rfl; refine SK ?_; refine blk_far ?_ NB275_282.out _; exact SK BK275.out) Try.underlying35 rfl (by kernel_rfl)) rfl ?_
   exact ⟨KE, KI87, KBh87 HB.out, by repeat (first | (with_reducible first | exact HK.out | apply KeepBut.set_ | apply keep_drewN | apply keep_drew | apply keep_alloc | refine keep_far ?_ GW275.out _ | refine keep_far ?_ GW282.out _) | exact HK.out)⟩
  ·rw [if_neg c17] at H
   have c17b0 : (t283 == 1) = false := beq_eq_false_iff_ne.mpr c17
   have c17b1 : (t283 != 1) = true := bne_iff_ne.mpr c17
   by_cases c33 : t283 = 2
   ·rw [if_pos c33] at H
    have c33b0 : (t283 == 2) = true := beq_iff_eq.mpr c33
    have c33b1 : (t283 != 2) = false := bne_eq_false_iff_eq.mpr c33
    clear c33
    simp only [Option.some.injEq, Prod.mk.injEq] at H
    obtain ⟨rfl, rfl, rfl, rfl, rfl, rfl⟩ := H
    go_enter Try.func70, Try.ntmps70
    go_wp2_with (first | ((with_reducible refine gate_dst (N := 2) rfl ?_); refine BE 2 #[.int .i64 0, .int .i64 0, .bool false, .string (⟨#[]⟩ : ByteArray)] 35 ?_; intro gb275 hg w34 hbox hb; have h_ := P8 (IsS87.below (KI87) hb) (KeepBut.trans KH (KeepBut.of_below hb g none) (.inl rfl)) (below_step KB87 hb) hbox (KSg hg HK.out) (Nat.le_trans HW0.out (KSg hg HK.out)) (by rw [hg]; exact Nat.ne_of_lt (IsS87.lt (show IsS87 w0 _ g s0_0 s0_1 s0_2 from KI87)) : g ≠ gb275) (by rw [hg]; exact Nat.ne_of_gt (IsS87.lt (show IsS87 w0 _ g s0_0 s0_1 s0_2 from KI87)) : gb275 ≠ g); clear HI0 HK HB; obtain ⟨HI0, HK, HB, BK275, GW275, GE275, NB0_275, NB275_0⟩ := h_; clear hb hbox hg) | ((with_reducible refine gate_callee (f := 91) rfl ?_); refine goesL_ (some 5) rfl rfl Try.func91 (by kernel_rfl) rfl #[.pointer (some ⟨g, 0, none⟩)] rfl KL ?_; (with_reducible refine (spec_l3DrawRight.calls g s0_0 s0_1 s0_2 t276 t277 t278 t279 t280 t281 w0 _ ?side1 ?side2 A2.out).mono ?_); (case side1 => exact KI87); (case side2 => exact KBh87 HB.out); rintro e w35 ⟨rfl, hi, hb, hk⟩; refine ⟨_, rfl, ?_⟩; have h_ := P4 (KW BK275.out hk NB275_0.out) (KeepBut.trans (KHh HK.out) hk (.inl rfl)) hb hi; clear BK275 HK HB HI0; obtain ⟨BK275, HK, HB, HI0⟩ := h_; (try clear hb); (try clear hk); (try clear hi)) | ((with_reducible refine gate_dst (N := 3) rfl ?_); refine BE 3 #[.int .i64 0, .int .i64 0, .bool false, .string (⟨#[]⟩ : ByteArray)] 35 ?_; intro gb282 hg w36 hbox hb; have h_ := P11 (IsS87.below (KI87) hb) (BL BK275.out hb) (KeepBut.trans (KHh HK.out) (KeepBut.of_below hb g none) (.inl rfl)) (below_step (KBh87 HB.out) hb) hbox (KSg hg HK.out) (Nat.le_trans HW0.out (KSg hg HK.out)) (NX hg BK275.out) (Ne.symm (NX hg BK275.out)) (by rw [hg]; exact Nat.ne_of_lt (IsS87.lt (show IsS87 w0 _ g s0_0 t280 t281 from KI87)) : g ≠ gb282) (by rw [hg]; exact Nat.ne_of_gt (IsS87.lt (show IsS87 w0 _ g s0_0 t280 t281 from KI87)) : gb282 ≠ g); clear HI0 BK275 HK HB; obtain ⟨HI0, BK275, HK, HB, BK282, GW282, GE282, NB275_282, NB282_275, NB0_282, NB282_0⟩ := h_; clear hb hbox hg; have hnb37 := NB282_275.out; have hnc37 := NB275_282.out; have hnb38 := NB282_0.out; have hnc38 := NB0_282.out; obtain ⟨hcz39_0, hcz39_1, hcz39_2, hcz39_3, hfz39_0, hfz39_1, hfz39_2, hfz39_3⟩ := C4 BK282.out) | ((with_reducible refine gate_callee (f := 57) rfl ?_); refine goesL_ (some 7) rfl rfl Try.func57 (by kernel_rfl) rfl #[.pointer (some ⟨g, 0, none⟩), .int .i64 15] rfl KL ?_; (with_reducible refine (spec_l1Below.calls g s0_0 t280 t281 15 t283 t284 t285 w0 _ ?side1 ?side2 A3.out).mono ?_); (case side1 => exact KI87); (case side2 => exact KBh87 HB.out); rintro e w40 ⟨rfl, hi, hb, hk⟩; refine ⟨_, rfl, ?_⟩; have h_ := P5 (KW BK275.out hk NB275_0.out) (KeepBut.blk hk (g' := gb282) (o := .cells #[.int .i64 t276, .int .i64 t277, .bool t278, .string t279] 35 (0, 0)) (by refine SK ?_; refine blk_put (cs := #[.int .i64 t276, .int .i64 t277, .bool t278, .string (⟨#[]⟩ : ByteArray)]) ?_ 3 _ rfl; refine SK ?_; refine blk_put (cs := #[.int .i64 t276, .int .i64 t277, .bool false, .string (⟨#[]⟩ : ByteArray)]) ?_ 2 _ rfl; refine SK ?_; refine blk_put (cs := #[.int .i64 t276, .int .i64 0, .bool false, .string (⟨#[]⟩ : ByteArray)]) ?_ 1 _ rfl; refine SK ?_; refine blk_put (cs := #[.int .i64 0, .int .i64 0, .bool false, .string (⟨#[]⟩ : ByteArray)]) ?_ 0 _ rfl; exact SK BK282.out) NB282_0.out (by simp)) (KeepBut.trans (KHh HK.out) hk (.inl rfl)) hb hi; clear BK275 BK282 HK HB HI0; obtain ⟨BK275, BK282, HK, HB, HI0⟩ := h_; (try clear hb); (try clear hk); (try clear hi); obtain ⟨hcz41_0, hcz41_1, hcz41_2, hcz41_3, hfz41_0, hfz41_1, hfz41_2, hfz41_3⟩ := C4 BK282.out; have hnb42 := NB275_0.out; have hnc42 := NB0_275.out; obtain ⟨hcz43_0, hcz43_1, hcz43_2, hcz43_3, hfz43_0, hfz43_1, hfz43_2, hfz43_3⟩ := C4 BK275.out))
    refine bodyPost_ret (results_cell_row rfl _ _ gb275 35 #[.int .i64 t276, .int .i64 t277, .bool true, .string t279] (0, 0) _ rfl (by refine SK ?_; refine blk_put (cs := #[.int .i64 t276, .int .i64 t277, .bool true, .string (⟨#[]⟩ : ByteArray)]) ?_ 3 _ rfl; refine SK ?_; refine blk_put (cs := #[.int .i64 t276, .int .i64 t277, .bool false, .string (⟨#[]⟩ : ByteArray)]) ?_ 2 _ rfl; refine SK ?_; refine blk_put (cs := #[.int .i64 t276, .int .i64 0, .bool false, .string (⟨#[]⟩ : ByteArray)]) ?_ 1 _ rfl; refine SK ?_; refine blk_put (cs := #[.int .i64 0, .int .i64 0, .bool false, .string (⟨#[]⟩ : ByteArray)]) ?_ 0 _ rfl; refine SK ?_; refine blk_far ?_ NB275_282.out _; exact SK BK275.out) Try.underlying35 rfl (by kernel_rfl)) rfl ?_
    exact ⟨KE, KI87, KBh87 HB.out, by repeat (first | (with_reducible first | exact HK.out | apply KeepBut.set_ | apply keep_drewN | apply keep_drew | apply keep_alloc | refine keep_far ?_ GW275.out _ | refine keep_far ?_ GW282.out _) | exact HK.out)⟩
   ·rw [if_neg c33] at H
    have c33b0 : (t283 == 2) = false := beq_eq_false_iff_ne.mpr c33
    have c33b1 : (t283 != 2) = true := bne_iff_ne.mpr c33
    by_cases c44 : t283 = 3
    ·rw [if_pos c44] at H
     have c44b0 : (t283 == 3) = true := beq_iff_eq.mpr c44
     have c44b1 : (t283 != 3) = false := bne_eq_false_iff_eq.mpr c44
     clear c44
     replace H := Option.bind_eq_some_iff.mp H
     obtain ⟨⟨t295, t296, t297⟩, A450, H⟩ := H
     replace H : (if 0 ≤ (wrap64 (40 + t295)) then (if (wrap64 (40 + t295) : Int).toNat ≤ 281474976710656 then (some (t276, t277, t278, strOfNums (List.replicate (wrap64 (40 + t295) : Int).toNat 0), t296, t297)) else (none)) else (none)) = some (r1, r2, r3, r4, r5, r6) := H
     have A45 := Aside0.mk A450
     clear A450
     obtain ⟨ji46, hji46⟩ : ∃ j_ : Int, (wrap64 (40 + t295)) = j_ := ⟨_, rfl⟩
     replace H : (if 0 ≤ (ji46) then (if (ji46 : Int).toNat ≤ 281474976710656 then (some (t276, t277, t278, strOfNums (List.replicate (ji46 : Int).toNat 0), t296, t297)) else (none)) else (none)) = some (r1, r2, r3, r4, r5, r6) := by first | (rw [hji46] at H; exact H) | (simp only [hji46] at H ⊢; exact H)
     (try rw [hji46] at A2)
     (try rw [hji46] at A3)
     (try rw [hji46] at A45)
     have hji46w : (IntKind.i64.wrap (40 + t295)) = ji46 := (i64_w _).trans hji46
     by_cases c47 : 0 ≤ (ji46)
     ·rw [if_pos c47] at H
      have c47b0 := eq_true c47
      have c47b1 : decide (0 ≤ (ji46)) = true := decide_eq_true c47
      clear c47
      by_cases c48 : (ji46 : Int).toNat ≤ 281474976710656
      ·rw [if_pos c48] at H
       have c48b0 := eq_true c48
       have c48b1 : decide ((ji46 : Int).toNat ≤ 281474976710656) = true := decide_eq_true c48
       clear c48
       obtain ⟨y298, hy298⟩ : ∃ y_ : List Int, y_ = (List.replicate (ji46 : Int).toNat 0) := ⟨_, rfl⟩
       replace H : (some (t276, t277, t278, strOfNums y298, t296, t297)) = some (r1, r2, r3, r4, r5, r6) := by first | (rw [hy298]; with_reducible exact H) | (have H2_ := (Option.bind_some _ _).symm.trans H; rw [hy298]; with_reducible exact H2_) | (have H2_ := (Option.bind_some _ _).symm.trans H; with_reducible exact H2_) | with_reducible exact H | (rw [hy298]; exact H) | exact H
       have Ny298 := Aside0.mk hy298
       clear hy298
       simp only [Option.some.injEq, Prod.mk.injEq] at H
       obtain ⟨rfl, rfl, rfl, rfl, rfl, rfl⟩ := H
       go_enter Try.func70, Try.ntmps70
       go_wp2_with (first | ((with_reducible refine gate_dst (N := 2) rfl ?_); refine BE 2 #[.int .i64 0, .int .i64 0, .bool false, .string (⟨#[]⟩ : ByteArray)] 35 ?_; intro gb275 hg w49 hbox hb; have h_ := P8 (IsS87.below (KI87) hb) (KeepBut.trans KH (KeepBut.of_below hb g none) (.inl rfl)) (below_step KB87 hb) hbox (KSg hg HK.out) (Nat.le_trans HW0.out (KSg hg HK.out)) (by rw [hg]; exact Nat.ne_of_lt (IsS87.lt (show IsS87 w0 _ g s0_0 s0_1 s0_2 from KI87)) : g ≠ gb275) (by rw [hg]; exact Nat.ne_of_gt (IsS87.lt (show IsS87 w0 _ g s0_0 s0_1 s0_2 from KI87)) : gb275 ≠ g); clear HI0 HK HB; obtain ⟨HI0, HK, HB, BK275, GW275, GE275, NB0_275, NB275_0⟩ := h_; clear hb hbox hg) | ((with_reducible refine gate_callee (f := 91) rfl ?_); refine goesL_ (some 5) rfl rfl Try.func91 (by kernel_rfl) rfl #[.pointer (some ⟨g, 0, none⟩)] rfl KL ?_; (with_reducible refine (spec_l3DrawRight.calls g s0_0 s0_1 s0_2 t276 t277 t278 t279 t280 t281 w0 _ ?side1 ?side2 A2.out).mono ?_); (case side1 => exact KI87); (case side2 => exact KBh87 HB.out); rintro e w50 ⟨rfl, hi, hb, hk⟩; refine ⟨_, rfl, ?_⟩; have h_ := P4 (KW BK275.out hk NB275_0.out) (KeepBut.trans (KHh HK.out) hk (.inl rfl)) hb hi; clear BK275 HK HB HI0; obtain ⟨BK275, HK, HB, HI0⟩ := h_; (try clear hb); (try clear hk); (try clear hi)) | ((with_reducible refine gate_dst (N := 3) rfl ?_); refine BE 3 #[.int .i64 0, .int .i64 0, .bool false, .string (⟨#[]⟩ : ByteArray)] 35 ?_; intro gb282 hg w51 hbox hb; have h_ := P11 (IsS87.below (KI87) hb) (BL BK275.out hb) (KeepBut.trans (KHh HK.out) (KeepBut.of_below hb g none) (.inl rfl)) (below_step (KBh87 HB.out) hb) hbox (KSg hg HK.out) (Nat.le_trans HW0.out (KSg hg HK.out)) (NX hg BK275.out) (Ne.symm (NX hg BK275.out)) (by rw [hg]; exact Nat.ne_of_lt (IsS87.lt (show IsS87 w0 _ g s0_0 t280 t281 from KI87)) : g ≠ gb282) (by rw [hg]; exact Nat.ne_of_gt (IsS87.lt (show IsS87 w0 _ g s0_0 t280 t281 from KI87)) : gb282 ≠ g); clear HI0 BK275 HK HB; obtain ⟨HI0, BK275, HK, HB, BK282, GW282, GE282, NB275_282, NB282_275, NB0_282, NB282_0⟩ := h_; clear hb hbox hg; have hnb52 := NB282_275.out; have hnc52 := NB275_282.out; have hnb53 := NB282_0.out; have hnc53 := NB0_282.out; obtain ⟨hcz54_0, hcz54_1, hcz54_2, hcz54_3, hfz54_0, hfz54_1, hfz54_2, hfz54_3⟩ := C4 BK282.out) | ((with_reducible refine gate_callee (f := 57) rfl ?_); refine goesL_ (some 7) rfl rfl Try.func57 (by kernel_rfl) rfl #[.pointer (some ⟨g, 0, none⟩), .int .i64 15] rfl KL ?_; (with_reducible refine (spec_l1Below.calls g s0_0 t280 t281 15 t283 t284 t285 w0 _ ?side1 ?side2 A3.out).mono ?_); (case side1 => exact KI87); (case side2 => exact KBh87 HB.out); rintro e w55 ⟨rfl, hi, hb, hk⟩; refine ⟨_, rfl, ?_⟩; have h_ := P5 (KW BK275.out hk NB275_0.out) (KeepBut.blk hk (g' := gb282) (o := .cells #[.int .i64 t276, .int .i64 t277, .bool t278, .string t279] 35 (0, 0)) (by refine SK ?_; refine blk_put (cs := #[.int .i64 t276, .int .i64 t277, .bool t278, .string (⟨#[]⟩ : ByteArray)]) ?_ 3 _ rfl; refine SK ?_; refine blk_put (cs := #[.int .i64 t276, .int .i64 t277, .bool false, .string (⟨#[]⟩ : ByteArray)]) ?_ 2 _ rfl; refine SK ?_; refine blk_put (cs := #[.int .i64 t276, .int .i64 0, .bool false, .string (⟨#[]⟩ : ByteArray)]) ?_ 1 _ rfl; refine SK ?_; refine blk_put (cs := #[.int .i64 0, .int .i64 0, .bool false, .string (⟨#[]⟩ : ByteArray)]) ?_ 0 _ rfl; exact SK BK282.out) NB282_0.out (by simp)) (KeepBut.trans (KHh HK.out) hk (.inl rfl)) hb hi; clear BK275 BK282 HK HB HI0; obtain ⟨BK275, BK282, HK, HB, HI0⟩ := h_; (try clear hb); (try clear hk); (try clear hi)) | ((with_reducible refine gate_callee (f := 57) rfl ?_); refine goesL_ (some 25) rfl rfl Try.func57 (by kernel_rfl) rfl #[.pointer (some ⟨g, 0, none⟩), .int .i64 2] rfl KL ?_; (with_reducible refine (spec_l1Below.calls g s0_0 t284 t285 2 t295 t296 t297 w0 _ ?side1 ?side2 A45.out).mono ?_); (case side1 => exact KI87); (case side2 => exact KBh87 HB.out); rintro e w56 ⟨rfl, hi, hb, hk⟩; refine ⟨_, rfl, ?_⟩; have h_ := P5 (KW BK275.out hk NB275_0.out) (KW BK282.out hk NB282_0.out) (KeepBut.trans (KHh HK.out) hk (.inl rfl)) hb hi; clear BK275 BK282 HK HB HI0; obtain ⟨BK275, BK282, HK, HB, HI0⟩ := h_; (try clear hb); (try clear hk); (try clear hi)) | ((with_reducible refine gate_dst (N := 27) rfl ?_); refine Kd.R_make (Kd.int .u8) _ 5 rfl (N := 27) rfl 42 _ _ rfl ji46 rfl rfl Try.underlying42 (.int .u8 0) 1 info5 rfl (by decide) (by omega) 0 (ok := fun _ => True) (okp := fun _ => True) rfl (fun _ hk => hk) trivial (of_decide_eq_true (by first | (with_reducible assumption) | assumption)) (Nat.le_trans (Nat.mul_le_mul_right _ (of_decide_eq_true (by first | (with_reducible assumption) | assumption) : ji46.toNat ≤ 281474976710656)) (by omega)) (Below.refl _ _) (Nat.le_refl _) ?_; intro v299 w57 ho58 hb hg_ hnew_; clear hg_ hnew_; (first | rw [← Ny298.out] at ho58 | (simp only [Int.reduceToNat] at ho58; rw [← Ny298.out] at ho58)); have h_ := P6 (Kd.R_lower ho58 (KS HK.out)) (IsS87.below (KI87) hb) (BL BK275.out hb) (BL BK282.out hb) (KeepBut.trans (KHh HK.out) (KeepBut.of_below hb g none) (.inl rfl)) (below_step (KBh87 HB.out) hb); clear HI0 BK275 BK282 HK HB; obtain ⟨HO300, HI0, BK275, BK282, HK, HB⟩ := h_; clear hb ho58; have hcv59 := fun n_ : Nat => own_string (P := Try.prog) Try.underlying42 Try.underlying5 Try.underlying9 (Kd.own_of_R (Kd.R_drewN HO300.out n_)); have hcv60 := own_string (P := Try.prog) Try.underlying42 Try.underlying5 Try.underlying9 (Kd.own_of_R HO300.out); obtain ⟨hcz61_0, hcz61_1, hcz61_2, hcz61_3, hfz61_0, hfz61_1, hfz61_2, hfz61_3⟩ := C4 BK282.out; have hnb62 := NB275_0.out; have hnc62 := NB0_275.out; obtain ⟨hcz63_0, hcz63_1, hcz63_2, hcz63_3, hfz63_0, hfz63_1, hfz63_2, hfz63_3⟩ := C4 BK275.out))
       refine bodyPost_ret (results_cell_row rfl _ _ gb275 35 #[.int .i64 t276, .int .i64 t277, .bool t278, .string (strOfNums y298)] (0, 0) _ rfl (by refine SK ?_; refine blk_put (cs := #[.int .i64 t276, .int .i64 t277, .bool t278, .string (⟨#[]⟩ : ByteArray)]) ?_ 3 _ rfl; refine SK ?_; refine blk_put (cs := #[.int .i64 t276, .int .i64 t277, .bool false, .string (⟨#[]⟩ : ByteArray)]) ?_ 2 _ rfl; refine SK ?_; refine blk_put (cs := #[.int .i64 t276, .int .i64 0, .bool false, .string (⟨#[]⟩ : ByteArray)]) ?_ 1 _ rfl; refine SK ?_; refine blk_put (cs := #[.int .i64 0, .int .i64 0, .bool false, .string (⟨#[]⟩ : ByteArray)]) ?_ 0 _ rfl; refine SK ?_; refine blk_far ?_ NB275_282.out _; exact SK BK275.out) Try.underlying35 rfl (by kernel_rfl)) rfl ?_
       exact ⟨by first | rfl | (simp [errW_none, errW_some] <;> rfl) | (simp only [← hji46]; first | rfl | (simp [errW_none, errW_some] <;> rfl)) | (simp [*, errW_none, errW_some] <;> rfl), KI87, KBh87 HB.out, by repeat (first | (with_reducible first | exact HK.out | apply KeepBut.set_ | apply keep_drewN | apply keep_drew | apply keep_alloc | refine keep_far ?_ GW275.out _ | refine keep_far ?_ GW282.out _) | exact HK.out)⟩
      ·rw [if_neg c48] at H
       exact absurd H (by simp)
     ·rw [if_neg c47] at H
      exact absurd H (by simp)
    ·rw [if_neg c44] at H
     have c44b0 : (t283 == 3) = false := beq_eq_false_iff_ne.mpr c44
     have c44b1 : (t283 != 3) = true := bne_iff_ne.mpr c44
     simp only [Option.some.injEq, Prod.mk.injEq] at H
     obtain ⟨rfl, rfl, rfl, rfl, rfl, rfl⟩ := H
     go_enter Try.func70, Try.ntmps70
     go_wp2_with (first | ((with_reducible refine gate_dst (N := 2) rfl ?_); refine BE 2 #[.int .i64 0, .int .i64 0, .bool false, .string (⟨#[]⟩ : ByteArray)] 35 ?_; intro gb275 hg w64 hbox hb; have h_ := P8 (IsS87.below (KI87) hb) (KeepBut.trans KH (KeepBut.of_below hb g none) (.inl rfl)) (below_step KB87 hb) hbox (KSg hg HK.out) (Nat.le_trans HW0.out (KSg hg HK.out)) (by rw [hg]; exact Nat.ne_of_lt (IsS87.lt (show IsS87 w0 _ g s0_0 s0_1 s0_2 from KI87)) : g ≠ gb275) (by rw [hg]; exact Nat.ne_of_gt (IsS87.lt (show IsS87 w0 _ g s0_0 s0_1 s0_2 from KI87)) : gb275 ≠ g); clear HI0 HK HB; obtain ⟨HI0, HK, HB, BK275, GW275, GE275, NB0_275, NB275_0⟩ := h_; clear hb hbox hg) | ((with_reducible refine gate_callee (f := 91) rfl ?_); refine goesL_ (some 5) rfl rfl Try.func91 (by kernel_rfl) rfl #[.pointer (some ⟨g, 0, none⟩)] rfl KL ?_; (with_reducible refine (spec_l3DrawRight.calls g s0_0 s0_1 s0_2 t276 t277 t278 t279 t280 t281 w0 _ ?side1 ?side2 A2.out).mono ?_); (case side1 => exact KI87); (case side2 => exact KBh87 HB.out); rintro e w65 ⟨rfl, hi, hb, hk⟩; refine ⟨_, rfl, ?_⟩; have h_ := P4 (KW BK275.out hk NB275_0.out) (KeepBut.trans (KHh HK.out) hk (.inl rfl)) hb hi; clear BK275 HK HB HI0; obtain ⟨BK275, HK, HB, HI0⟩ := h_; (try clear hb); (try clear hk); (try clear hi)) | ((with_reducible refine gate_dst (N := 3) rfl ?_); refine BE 3 #[.int .i64 0, .int .i64 0, .bool false, .string (⟨#[]⟩ : ByteArray)] 35 ?_; intro gb282 hg w66 hbox hb; have h_ := P11 (IsS87.below (KI87) hb) (BL BK275.out hb) (KeepBut.trans (KHh HK.out) (KeepBut.of_below hb g none) (.inl rfl)) (below_step (KBh87 HB.out) hb) hbox (KSg hg HK.out) (Nat.le_trans HW0.out (KSg hg HK.out)) (NX hg BK275.out) (Ne.symm (NX hg BK275.out)) (by rw [hg]; exact Nat.ne_of_lt (IsS87.lt (show IsS87 w0 _ g s0_0 t280 t281 from KI87)) : g ≠ gb282) (by rw [hg]; exact Nat.ne_of_gt (IsS87.lt (show IsS87 w0 _ g s0_0 t280 t281 from KI87)) : gb282 ≠ g); clear HI0 BK275 HK HB; obtain ⟨HI0, BK275, HK, HB, BK282, GW282, GE282, NB275_282, NB282_275, NB0_282, NB282_0⟩ := h_; clear hb hbox hg; have hnb67 := NB282_275.out; have hnc67 := NB275_282.out; have hnb68 := NB282_0.out; have hnc68 := NB0_282.out; obtain ⟨hcz69_0, hcz69_1, hcz69_2, hcz69_3, hfz69_0, hfz69_1, hfz69_2, hfz69_3⟩ := C4 BK282.out) | ((with_reducible refine gate_callee (f := 57) rfl ?_); refine goesL_ (some 7) rfl rfl Try.func57 (by kernel_rfl) rfl #[.pointer (some ⟨g, 0, none⟩), .int .i64 15] rfl KL ?_; (with_reducible refine (spec_l1Below.calls g s0_0 t280 t281 15 t283 t284 t285 w0 _ ?side1 ?side2 A3.out).mono ?_); (case side1 => exact KI87); (case side2 => exact KBh87 HB.out); rintro e w70 ⟨rfl, hi, hb, hk⟩; refine ⟨_, rfl, ?_⟩; have h_ := P5 (KW BK275.out hk NB275_0.out) (KeepBut.blk hk (g' := gb282) (o := .cells #[.int .i64 t276, .int .i64 t277, .bool t278, .string t279] 35 (0, 0)) (by refine SK ?_; refine blk_put (cs := #[.int .i64 t276, .int .i64 t277, .bool t278, .string (⟨#[]⟩ : ByteArray)]) ?_ 3 _ rfl; refine SK ?_; refine blk_put (cs := #[.int .i64 t276, .int .i64 t277, .bool false, .string (⟨#[]⟩ : ByteArray)]) ?_ 2 _ rfl; refine SK ?_; refine blk_put (cs := #[.int .i64 t276, .int .i64 0, .bool false, .string (⟨#[]⟩ : ByteArray)]) ?_ 1 _ rfl; refine SK ?_; refine blk_put (cs := #[.int .i64 0, .int .i64 0, .bool false, .string (⟨#[]⟩ : ByteArray)]) ?_ 0 _ rfl; exact SK BK282.out) NB282_0.out (by simp)) (KeepBut.trans (KHh HK.out) hk (.inl rfl)) hb hi; clear BK275 BK282 HK HB HI0; obtain ⟨BK275, BK282, HK, HB, HI0⟩ := h_; (try clear hb); (try clear hk); (try clear hi); obtain ⟨hcz71_0, hcz71_1, hcz71_2, hcz71_3, hfz71_0, hfz71_1, hfz71_2, hfz71_3⟩ := C4 BK282.out; have hnb72 := NB275_0.out; have hnc72 := NB0_275.out; obtain ⟨hcz73_0, hcz73_1, hcz73_2, hcz73_3, hfz73_0, hfz73_1, hfz73_2, hfz73_3⟩ := C4 BK275.out))
     refine bodyPost_ret (results_cell_row rfl _ _ gb275 35 #[.int .i64 t276, .int .i64 t277, .bool t278, .string t279] (0, 0) _ rfl (by refine SK ?_; refine blk_put (cs := #[.int .i64 t276, .int .i64 t277, .bool t278, .string (⟨#[]⟩ : ByteArray)]) ?_ 3 _ rfl; refine SK ?_; refine blk_put (cs := #[.int .i64 t276, .int .i64 t277, .bool false, .string (⟨#[]⟩ : ByteArray)]) ?_ 2 _ rfl; refine SK ?_; refine blk_put (cs := #[.int .i64 t276, .int .i64 0, .bool false, .string (⟨#[]⟩ : ByteArray)]) ?_ 1 _ rfl; refine SK ?_; refine blk_put (cs := #[.int .i64 0, .int .i64 0, .bool false, .string (⟨#[]⟩ : ByteArray)]) ?_ 0 _ rfl; exact SK BK275.out) Try.underlying35 rfl (by kernel_rfl)) rfl ?_
     exact ⟨KE, KI87, KBh87 HB.out, by repeat (first | (with_reducible first | exact HK.out | apply KeepBut.set_ | apply keep_drewN | apply keep_drew | apply keep_alloc | refine keep_far ?_ GW275.out _ | refine keep_far ?_ GW282.out _) | exact HK.out)⟩

/-! ### spec_EntryOk: function 42 -/
def spec_EntryOk.f (a0_0 : Int) (a0_1 : Int) (a0_2 : Bool) (a0_3 : ByteArray) : Option (Bool) := (spec_PlaceOk.f a0_0).bind fun t302 => (if t302 = true then ((spec_l1In.f a0_1 0 30).bind fun t303 => (if t303 = true then (if a0_1 > 0 then ((spec_EpochOf.f a0_0).bind fun t304 => (if a0_1 ≤ t304 then (some false) else (if (a0_3.size : Int) > 40 then (some false) else (if a0_2 = true then (some (a0_3.toList == ([] : List UInt8))) else (some true))))) else (if (a0_3.size : Int) > 40 then (some false) else (if a0_2 = true then (some false) else (some true)))) else (some false))) else (some false))
set_option maxHeartbeats 8000000 in
set_option maxRecDepth 100000 in
theorem spec_EntryOk.calls (a0_0 : Int) (a0_1 : Int) (a0_2 : Bool) (a0_3 : ByteArray) (r : Bool) (w : World) (h : spec_EntryOk.f a0_0 a0_1 a0_2 a0_3 = some r) :
  Calls Try.prog 42 #[.agg #[.int .i64 a0_0, .int .i64 a0_1, .bool a0_2, .string a0_3]] w fun e w' => e = .returned (.bool r) ∧ Below w.heap.size w w' := by
 have hu35 := Try.underlying35
 have HB := Aside0.mk (Below.refl w.heap.size w)
 have H : ((spec_PlaceOk.f a0_0).bind fun t302 => (if t302 = true then ((spec_l1In.f a0_1 0 30).bind fun t303 => (if t303 = true then (if a0_1 > 0 then ((spec_EpochOf.f a0_0).bind fun t304 => (if a0_1 ≤ t304 then (some false) else (if (a0_3.size : Int) > 40 then (some false) else (if a0_2 = true then (some (a0_3.toList == ([] : List UInt8))) else (some true))))) else (if (a0_3.size : Int) > 40 then (some false) else (if a0_2 = true then (some false) else (some true)))) else (some false))) else (some false))) = some r := h
 clear h
 replace H := Option.bind_eq_some_iff.mp H
 obtain ⟨t302, A20, H⟩ := H
 replace H : (if t302 = true then ((spec_l1In.f a0_1 0 30).bind fun t303 => (if t303 = true then (if a0_1 > 0 then ((spec_EpochOf.f a0_0).bind fun t304 => (if a0_1 ≤ t304 then (some false) else (if (a0_3.size : Int) > 40 then (some false) else (if a0_2 = true then (some (a0_3.toList == ([] : List UInt8))) else (some true))))) else (if (a0_3.size : Int) > 40 then (some false) else (if a0_2 = true then (some false) else (some true)))) else (some false))) else (some false)) = some r := H
 have A2 := Aside0.mk A20
 clear A20
 by_cases c3 : t302 = true
 ·subst c3
  have H1 : ((spec_l1In.f a0_1 0 30).bind fun t303 => (if t303 = true then (if a0_1 > 0 then ((spec_EpochOf.f a0_0).bind fun t304 => (if a0_1 ≤ t304 then (some false) else (if (a0_3.size : Int) > 40 then (some false) else (if a0_2 = true then (some (a0_3.toList == ([] : List UInt8))) else (some true))))) else (if (a0_3.size : Int) > 40 then (some false) else (if a0_2 = true then (some false) else (some true)))) else (some false))) = some r := by rw [if_pos rfl] at H; exact H
  clear H
  have H := H1
  clear H1
  replace H := Option.bind_eq_some_iff.mp H
  obtain ⟨t303, A40, H⟩ := H
  replace H : (if t303 = true then (if a0_1 > 0 then ((spec_EpochOf.f a0_0).bind fun t304 => (if a0_1 ≤ t304 then (some false) else (if (a0_3.size : Int) > 40 then (some false) else (if a0_2 = true then (some (a0_3.toList == ([] : List UInt8))) else (some true))))) else (if (a0_3.size : Int) > 40 then (some false) else (if a0_2 = true then (some false) else (some true)))) else (some false)) = some r := H
  have A4 := Aside0.mk A40
  clear A40
  by_cases c5 : t303 = true
  ·subst c5
   have H1 : (if a0_1 > 0 then ((spec_EpochOf.f a0_0).bind fun t304 => (if a0_1 ≤ t304 then (some false) else (if (a0_3.size : Int) > 40 then (some false) else (if a0_2 = true then (some (a0_3.toList == ([] : List UInt8))) else (some true))))) else (if (a0_3.size : Int) > 40 then (some false) else (if a0_2 = true then (some false) else (some true)))) = some r := by rw [if_pos rfl] at H; exact H
   clear H
   have H := H1
   clear H1
   by_cases c6 : a0_1 > 0
   ·rw [if_pos c6] at H
    have c6b0 : decide (0 < a0_1) = true := decide_eq_true c6
    clear c6
    replace H := Option.bind_eq_some_iff.mp H
    obtain ⟨t304, A70, H⟩ := H
    replace H : (if a0_1 ≤ t304 then (some false) else (if (a0_3.size : Int) > 40 then (some false) else (if a0_2 = true then (some (a0_3.toList == ([] : List UInt8))) else (some true)))) = some r := H
    have A7 := Aside0.mk A70
    clear A70
    by_cases c8 : a0_1 ≤ t304
    ·rw [if_pos c8] at H
     have c8b0 : decide (a0_1 ≤ t304) = true := decide_eq_true c8
     clear c8
     obtain rfl := Option.some.inj H
     go_enter Try.func42, Try.ntmps42
     go_wp2_with (first | ((with_reducible refine gate_dst (N := 1) rfl ?_); (try (refine gate_guard (by rfl) ?_; dsimp only)); refine BE 1 #[.int .i64 a0_0, .int .i64 a0_1, .bool a0_2, .string a0_3] 35 ?_; intro gb301 hg w9 hbox hb; have h_ := P4 (below_step KB hb) hbox (KG hg : w.heap.size ≤ gb301) (KG hg : w.heap.size ≤ gb301); clear HB; obtain ⟨HB, BK301, GW301, GE301⟩ := h_; clear hb hbox hg; obtain ⟨hcz10_0, hcz10_1, hcz10_2, hcz10_3, hfz10_0, hfz10_1, hfz10_2, hfz10_3⟩ := C4 BK301.out) | (go_at_call 51; (with_reducible refine (spec_PlaceOk.calls a0_0 true _ A2.out).mono ?_); rintro e w' ⟨rfl, ⟨nd, rfl⟩⟩; (try exact KT)) | (go_at_call 66; (with_reducible refine (spec_l1In.calls a0_1 0 30 true _ A4.out).mono ?_); rintro e w' ⟨rfl, ⟨nd, rfl⟩⟩; (try exact KT)) | (go_at_call 58; (with_reducible refine (spec_EpochOf.calls a0_0 t304 _ A7.out).mono ?_); rintro e w' ⟨rfl, ⟨nd, rfl⟩⟩; (try exact KT)))
     repeat (go_quiet (first | (go_at_call 51; (with_reducible refine (spec_PlaceOk.calls a0_0 true _ A2.out).mono ?_); rintro e w' ⟨rfl, ⟨nd, rfl⟩⟩; (try exact KT)) | (go_at_call 66; (with_reducible refine (spec_l1In.calls a0_1 0 30 true _ A4.out).mono ?_); rintro e w' ⟨rfl, ⟨nd, rfl⟩⟩; (try exact KT)) | (go_at_call 58; (with_reducible refine (spec_EpochOf.calls a0_0 t304 _ A7.out).mono ?_); rintro e w' ⟨rfl, ⟨nd, rfl⟩⟩; (try exact KT))); try go_wp2_with (first | ((with_reducible refine gate_dst (N := 1) rfl ?_); (try (refine gate_guard (by rfl) ?_; dsimp only)); refine BE 1 #[.int .i64 a0_0, .int .i64 a0_1, .bool a0_2, .string a0_3] 35 ?_; intro gb301 hg w9 hbox hb; have h_ := P4 (below_step KB hb) hbox (KG hg : w.heap.size ≤ gb301) (KG hg : w.heap.size ≤ gb301); clear HB; obtain ⟨HB, BK301, GW301, GE301⟩ := h_; clear hb hbox hg; obtain ⟨hcz10_0, hcz10_1, hcz10_2, hcz10_3, hfz10_0, hfz10_1, hfz10_2, hfz10_3⟩ := C4 BK301.out) | (go_at_call 51; (with_reducible refine (spec_PlaceOk.calls a0_0 true _ A2.out).mono ?_); rintro e w' ⟨rfl, ⟨nd, rfl⟩⟩; (try exact KT)) | (go_at_call 66; (with_reducible refine (spec_l1In.calls a0_1 0 30 true _ A4.out).mono ?_); rintro e w' ⟨rfl, ⟨nd, rfl⟩⟩; (try exact KT)) | (go_at_call 58; (with_reducible refine (spec_EpochOf.calls a0_0 t304 _ A7.out).mono ?_); rintro e w' ⟨rfl, ⟨nd, rfl⟩⟩; (try exact KT))))
     go_ret
     exact ⟨KE, KB⟩
    ·rw [if_neg c8] at H
     have c8b0 : decide (a0_1 ≤ t304) = false := decide_eq_false c8
     clear c8
     by_cases c11 : (a0_3.size : Int) > 40
     ·rw [if_pos c11] at H
      have c11b0 : decide (40 < (a0_3.size : Int)) = true := decide_eq_true c11
      have c11b1 : decide (40 < a0_3.size) = true := decide_eq_true (by omega)
      clear c11
      obtain rfl := Option.some.inj H
      go_enter Try.func42, Try.ntmps42
      go_wp2_with (first | ((with_reducible refine gate_dst (N := 1) rfl ?_); (try (refine gate_guard (by rfl) ?_; dsimp only)); refine BE 1 #[.int .i64 a0_0, .int .i64 a0_1, .bool a0_2, .string a0_3] 35 ?_; intro gb301 hg w12 hbox hb; have h_ := P4 (below_step KB hb) hbox (KG hg : w.heap.size ≤ gb301) (KG hg : w.heap.size ≤ gb301); clear HB; obtain ⟨HB, BK301, GW301, GE301⟩ := h_; clear hb hbox hg; obtain ⟨hcz13_0, hcz13_1, hcz13_2, hcz13_3, hfz13_0, hfz13_1, hfz13_2, hfz13_3⟩ := C4 BK301.out) | (go_at_call 51; (with_reducible refine (spec_PlaceOk.calls a0_0 true _ A2.out).mono ?_); rintro e w' ⟨rfl, ⟨nd, rfl⟩⟩; (try exact KT)) | (go_at_call 66; (with_reducible refine (spec_l1In.calls a0_1 0 30 true _ A4.out).mono ?_); rintro e w' ⟨rfl, ⟨nd, rfl⟩⟩; (try exact KT)) | (go_at_call 58; (with_reducible refine (spec_EpochOf.calls a0_0 t304 _ A7.out).mono ?_); rintro e w' ⟨rfl, ⟨nd, rfl⟩⟩; (try exact KT)))
      repeat (go_quiet (first | (go_at_call 51; (with_reducible refine (spec_PlaceOk.calls a0_0 true _ A2.out).mono ?_); rintro e w' ⟨rfl, ⟨nd, rfl⟩⟩; (try exact KT)) | (go_at_call 66; (with_reducible refine (spec_l1In.calls a0_1 0 30 true _ A4.out).mono ?_); rintro e w' ⟨rfl, ⟨nd, rfl⟩⟩; (try exact KT)) | (go_at_call 58; (with_reducible refine (spec_EpochOf.calls a0_0 t304 _ A7.out).mono ?_); rintro e w' ⟨rfl, ⟨nd, rfl⟩⟩; (try exact KT))); try go_wp2_with (first | ((with_reducible refine gate_dst (N := 1) rfl ?_); (try (refine gate_guard (by rfl) ?_; dsimp only)); refine BE 1 #[.int .i64 a0_0, .int .i64 a0_1, .bool a0_2, .string a0_3] 35 ?_; intro gb301 hg w12 hbox hb; have h_ := P4 (below_step KB hb) hbox (KG hg : w.heap.size ≤ gb301) (KG hg : w.heap.size ≤ gb301); clear HB; obtain ⟨HB, BK301, GW301, GE301⟩ := h_; clear hb hbox hg; obtain ⟨hcz13_0, hcz13_1, hcz13_2, hcz13_3, hfz13_0, hfz13_1, hfz13_2, hfz13_3⟩ := C4 BK301.out) | (go_at_call 51; (with_reducible refine (spec_PlaceOk.calls a0_0 true _ A2.out).mono ?_); rintro e w' ⟨rfl, ⟨nd, rfl⟩⟩; (try exact KT)) | (go_at_call 66; (with_reducible refine (spec_l1In.calls a0_1 0 30 true _ A4.out).mono ?_); rintro e w' ⟨rfl, ⟨nd, rfl⟩⟩; (try exact KT)) | (go_at_call 58; (with_reducible refine (spec_EpochOf.calls a0_0 t304 _ A7.out).mono ?_); rintro e w' ⟨rfl, ⟨nd, rfl⟩⟩; (try exact KT))))
      go_ret
      exact ⟨KE, KB⟩
     ·rw [if_neg c11] at H
      have c11b0 : decide (40 < (a0_3.size : Int)) = false := decide_eq_false c11
      have c11b1 : decide (40 < a0_3.size) = false := decide_eq_false (by omega)
      clear c11
      by_cases c14 : a0_2 = true
      ·subst c14
       have H1 : (some (a0_3.toList == ([] : List UInt8))) = some r := by rw [if_pos rfl] at H; exact H
       clear H
       have H := H1
       clear H1
       obtain rfl := Option.some.inj H
       go_enter Try.func42, Try.ntmps42
       go_wp2_with (first | ((with_reducible refine gate_dst (N := 1) rfl ?_); (try (refine gate_guard (by rfl) ?_; dsimp only)); refine BE 1 #[.int .i64 a0_0, .int .i64 a0_1, .bool true, .string a0_3] 35 ?_; intro gb301 hg w15 hbox hb; have h_ := P4 (below_step KB hb) hbox (KG hg : w.heap.size ≤ gb301) (KG hg : w.heap.size ≤ gb301); clear HB; obtain ⟨HB, BK301, GW301, GE301⟩ := h_; clear hb hbox hg; obtain ⟨hcz16_0, hcz16_1, hcz16_2, hcz16_3, hfz16_0, hfz16_1, hfz16_2, hfz16_3⟩ := C4 BK301.out) | (go_at_call 51; (with_reducible refine (spec_PlaceOk.calls a0_0 true _ A2.out).mono ?_); rintro e w' ⟨rfl, ⟨nd, rfl⟩⟩; (try exact KT)) | (go_at_call 66; (with_reducible refine (spec_l1In.calls a0_1 0 30 true _ A4.out).mono ?_); rintro e w' ⟨rfl, ⟨nd, rfl⟩⟩; (try exact KT)) | (go_at_call 58; (with_reducible refine (spec_EpochOf.calls a0_0 t304 _ A7.out).mono ?_); rintro e w' ⟨rfl, ⟨nd, rfl⟩⟩; (try exact KT)))
       repeat (go_quiet (first | (go_at_call 51; (with_reducible refine (spec_PlaceOk.calls a0_0 true _ A2.out).mono ?_); rintro e w' ⟨rfl, ⟨nd, rfl⟩⟩; (try exact KT)) | (go_at_call 66; (with_reducible refine (spec_l1In.calls a0_1 0 30 true _ A4.out).mono ?_); rintro e w' ⟨rfl, ⟨nd, rfl⟩⟩; (try exact KT)) | (go_at_call 58; (with_reducible refine (spec_EpochOf.calls a0_0 t304 _ A7.out).mono ?_); rintro e w' ⟨rfl, ⟨nd, rfl⟩⟩; (try exact KT))); try go_wp2_with (first | ((with_reducible refine gate_dst (N := 1) rfl ?_); (try (refine gate_guard (by rfl) ?_; dsimp only)); refine BE 1 #[.int .i64 a0_0, .int .i64 a0_1, .bool true, .string a0_3] 35 ?_; intro gb301 hg w15 hbox hb; have h_ := P4 (below_step KB hb) hbox (KG hg : w.heap.size ≤ gb301) (KG hg : w.heap.size ≤ gb301); clear HB; obtain ⟨HB, BK301, GW301, GE301⟩ := h_; clear hb hbox hg; obtain ⟨hcz16_0, hcz16_1, hcz16_2, hcz16_3, hfz16_0, hfz16_1, hfz16_2, hfz16_3⟩ := C4 BK301.out) | (go_at_call 51; (with_reducible refine (spec_PlaceOk.calls a0_0 true _ A2.out).mono ?_); rintro e w' ⟨rfl, ⟨nd, rfl⟩⟩; (try exact KT)) | (go_at_call 66; (with_reducible refine (spec_l1In.calls a0_1 0 30 true _ A4.out).mono ?_); rintro e w' ⟨rfl, ⟨nd, rfl⟩⟩; (try exact KT)) | (go_at_call 58; (with_reducible refine (spec_EpochOf.calls a0_0 t304 _ A7.out).mono ?_); rintro e w' ⟨rfl, ⟨nd, rfl⟩⟩; (try exact KT))))
       go_ret
       exact ⟨KE, KB⟩
      ·replace c14 := Bool.eq_false_iff.mpr c14
       subst c14
       have H1 : (some true) = some r := by rw [if_neg (show ¬ (false = true) by decide)] at H; exact H
       clear H
       have H := H1
       clear H1
       obtain rfl := Option.some.inj H
       go_enter Try.func42, Try.ntmps42
       go_wp2_with (first | ((with_reducible refine gate_dst (N := 1) rfl ?_); (try (refine gate_guard (by rfl) ?_; dsimp only)); refine BE 1 #[.int .i64 a0_0, .int .i64 a0_1, .bool false, .string a0_3] 35 ?_; intro gb301 hg w17 hbox hb; have h_ := P4 (below_step KB hb) hbox (KG hg : w.heap.size ≤ gb301) (KG hg : w.heap.size ≤ gb301); clear HB; obtain ⟨HB, BK301, GW301, GE301⟩ := h_; clear hb hbox hg; obtain ⟨hcz18_0, hcz18_1, hcz18_2, hcz18_3, hfz18_0, hfz18_1, hfz18_2, hfz18_3⟩ := C4 BK301.out) | (go_at_call 51; (with_reducible refine (spec_PlaceOk.calls a0_0 true _ A2.out).mono ?_); rintro e w' ⟨rfl, ⟨nd, rfl⟩⟩; (try exact KT)) | (go_at_call 66; (with_reducible refine (spec_l1In.calls a0_1 0 30 true _ A4.out).mono ?_); rintro e w' ⟨rfl, ⟨nd, rfl⟩⟩; (try exact KT)) | (go_at_call 58; (with_reducible refine (spec_EpochOf.calls a0_0 t304 _ A7.out).mono ?_); rintro e w' ⟨rfl, ⟨nd, rfl⟩⟩; (try exact KT)))
       repeat (go_quiet (first | (go_at_call 51; (with_reducible refine (spec_PlaceOk.calls a0_0 true _ A2.out).mono ?_); rintro e w' ⟨rfl, ⟨nd, rfl⟩⟩; (try exact KT)) | (go_at_call 66; (with_reducible refine (spec_l1In.calls a0_1 0 30 true _ A4.out).mono ?_); rintro e w' ⟨rfl, ⟨nd, rfl⟩⟩; (try exact KT)) | (go_at_call 58; (with_reducible refine (spec_EpochOf.calls a0_0 t304 _ A7.out).mono ?_); rintro e w' ⟨rfl, ⟨nd, rfl⟩⟩; (try exact KT))); try go_wp2_with (first | ((with_reducible refine gate_dst (N := 1) rfl ?_); (try (refine gate_guard (by rfl) ?_; dsimp only)); refine BE 1 #[.int .i64 a0_0, .int .i64 a0_1, .bool false, .string a0_3] 35 ?_; intro gb301 hg w17 hbox hb; have h_ := P4 (below_step KB hb) hbox (KG hg : w.heap.size ≤ gb301) (KG hg : w.heap.size ≤ gb301); clear HB; obtain ⟨HB, BK301, GW301, GE301⟩ := h_; clear hb hbox hg; obtain ⟨hcz18_0, hcz18_1, hcz18_2, hcz18_3, hfz18_0, hfz18_1, hfz18_2, hfz18_3⟩ := C4 BK301.out) | (go_at_call 51; (with_reducible refine (spec_PlaceOk.calls a0_0 true _ A2.out).mono ?_); rintro e w' ⟨rfl, ⟨nd, rfl⟩⟩; (try exact KT)) | (go_at_call 66; (with_reducible refine (spec_l1In.calls a0_1 0 30 true _ A4.out).mono ?_); rintro e w' ⟨rfl, ⟨nd, rfl⟩⟩; (try exact KT)) | (go_at_call 58; (with_reducible refine (spec_EpochOf.calls a0_0 t304 _ A7.out).mono ?_); rintro e w' ⟨rfl, ⟨nd, rfl⟩⟩; (try exact KT))))
       go_ret
       exact ⟨KE, KB⟩
   ·rw [if_neg c6] at H
    have c6b0 : decide (0 < a0_1) = false := decide_eq_false c6
    clear c6
    by_cases c19 : (a0_3.size : Int) > 40
    ·rw [if_pos c19] at H
     have c19b0 : decide (40 < (a0_3.size : Int)) = true := decide_eq_true c19
     have c19b1 : decide (40 < a0_3.size) = true := decide_eq_true (by omega)
     clear c19
     obtain rfl := Option.some.inj H
     go_enter Try.func42, Try.ntmps42
     go_wp2_with (first | ((with_reducible refine gate_dst (N := 1) rfl ?_); (try (refine gate_guard (by rfl) ?_; dsimp only)); refine BE 1 #[.int .i64 a0_0, .int .i64 a0_1, .bool a0_2, .string a0_3] 35 ?_; intro gb301 hg w20 hbox hb; have h_ := P4 (below_step KB hb) hbox (KG hg : w.heap.size ≤ gb301) (KG hg : w.heap.size ≤ gb301); clear HB; obtain ⟨HB, BK301, GW301, GE301⟩ := h_; clear hb hbox hg; obtain ⟨hcz21_0, hcz21_1, hcz21_2, hcz21_3, hfz21_0, hfz21_1, hfz21_2, hfz21_3⟩ := C4 BK301.out) | (go_at_call 51; (with_reducible refine (spec_PlaceOk.calls a0_0 true _ A2.out).mono ?_); rintro e w' ⟨rfl, ⟨nd, rfl⟩⟩; (try exact KT)) | (go_at_call 66; (with_reducible refine (spec_l1In.calls a0_1 0 30 true _ A4.out).mono ?_); rintro e w' ⟨rfl, ⟨nd, rfl⟩⟩; (try exact KT)))
     repeat (go_quiet (first | (go_at_call 51; (with_reducible refine (spec_PlaceOk.calls a0_0 true _ A2.out).mono ?_); rintro e w' ⟨rfl, ⟨nd, rfl⟩⟩; (try exact KT)) | (go_at_call 66; (with_reducible refine (spec_l1In.calls a0_1 0 30 true _ A4.out).mono ?_); rintro e w' ⟨rfl, ⟨nd, rfl⟩⟩; (try exact KT))); try go_wp2_with (first | ((with_reducible refine gate_dst (N := 1) rfl ?_); (try (refine gate_guard (by rfl) ?_; dsimp only)); refine BE 1 #[.int .i64 a0_0, .int .i64 a0_1, .bool a0_2, .string a0_3] 35 ?_; intro gb301 hg w20 hbox hb; have h_ := P4 (below_step KB hb) hbox (KG hg : w.heap.size ≤ gb301) (KG hg : w.heap.size ≤ gb301); clear HB; obtain ⟨HB, BK301, GW301, GE301⟩ := h_; clear hb hbox hg; obtain ⟨hcz21_0, hcz21_1, hcz21_2, hcz21_3, hfz21_0, hfz21_1, hfz21_2, hfz21_3⟩ := C4 BK301.out) | (go_at_call 51; (with_reducible refine (spec_PlaceOk.calls a0_0 true _ A2.out).mono ?_); rintro e w' ⟨rfl, ⟨nd, rfl⟩⟩; (try exact KT)) | (go_at_call 66; (with_reducible refine (spec_l1In.calls a0_1 0 30 true _ A4.out).mono ?_); rintro e w' ⟨rfl, ⟨nd, rfl⟩⟩; (try exact KT))))
     go_ret
     exact ⟨KE, KB⟩
    ·rw [if_neg c19] at H
     have c19b0 : decide (40 < (a0_3.size : Int)) = false := decide_eq_false c19
     have c19b1 : decide (40 < a0_3.size) = false := decide_eq_false (by omega)
     clear c19
     by_cases c22 : a0_2 = true
     ·subst c22
      have H1 : (some false) = some r := by rw [if_pos rfl] at H; exact H
      clear H
      have H := H1
      clear H1
      obtain rfl := Option.some.inj H
      go_enter Try.func42, Try.ntmps42
      go_wp2_with (first | ((with_reducible refine gate_dst (N := 1) rfl ?_); (try (refine gate_guard (by rfl) ?_; dsimp only)); refine BE 1 #[.int .i64 a0_0, .int .i64 a0_1, .bool true, .string a0_3] 35 ?_; intro gb301 hg w23 hbox hb; have h_ := P4 (below_step KB hb) hbox (KG hg : w.heap.size ≤ gb301) (KG hg : w.heap.size ≤ gb301); clear HB; obtain ⟨HB, BK301, GW301, GE301⟩ := h_; clear hb hbox hg; obtain ⟨hcz24_0, hcz24_1, hcz24_2, hcz24_3, hfz24_0, hfz24_1, hfz24_2, hfz24_3⟩ := C4 BK301.out) | (go_at_call 51; (with_reducible refine (spec_PlaceOk.calls a0_0 true _ A2.out).mono ?_); rintro e w' ⟨rfl, ⟨nd, rfl⟩⟩; (try exact KT)) | (go_at_call 66; (with_reducible refine (spec_l1In.calls a0_1 0 30 true _ A4.out).mono ?_); rintro e w' ⟨rfl, ⟨nd, rfl⟩⟩; (try exact KT)))
      repeat (go_quiet (first | (go_at_call 51; (with_reducible refine (spec_PlaceOk.calls a0_0 true _ A2.out).mono ?_); rintro e w' ⟨rfl, ⟨nd, rfl⟩⟩; (try exact KT)) | (go_at_call 66; (with_reducible refine (spec_l1In.calls a0_1 0 30 true _ A4.out).mono ?_); rintro e w' ⟨rfl, ⟨nd, rfl⟩⟩; (try exact KT))); try go_wp2_with (first | ((with_reducible refine gate_dst (N := 1) rfl ?_); (try (refine gate_guard (by rfl) ?_; dsimp only)); refine BE 1 #[.int .i64 a0_0, .int .i64 a0_1, .bool true, .string a0_3] 35 ?_; intro gb301 hg w23 hbox hb; have h_ := P4 (below_step KB hb) hbox (KG hg : w.heap.size ≤ gb301) (KG hg : w.heap.size ≤ gb301); clear HB; obtain ⟨HB, BK301, GW301, GE301⟩ := h_; clear hb hbox hg; obtain ⟨hcz24_0, hcz24_1, hcz24_2, hcz24_3, hfz24_0, hfz24_1, hfz24_2, hfz24_3⟩ := C4 BK301.out) | (go_at_call 51; (with_reducible refine (spec_PlaceOk.calls a0_0 true _ A2.out).mono ?_); rintro e w' ⟨rfl, ⟨nd, rfl⟩⟩; (try exact KT)) | (go_at_call 66; (with_reducible refine (spec_l1In.calls a0_1 0 30 true _ A4.out).mono ?_); rintro e w' ⟨rfl, ⟨nd, rfl⟩⟩; (try exact KT))))
      go_ret
      exact ⟨KE, KB⟩
     ·replace c22 := Bool.eq_false_iff.mpr c22
      subst c22
      have H1 : (some true) = some r := by rw [if_neg (show ¬ (false = true) by decide)] at H; exact H
      clear H
      have H := H1
      clear H1
      obtain rfl := Option.some.inj H
      go_enter Try.func42, Try.ntmps42
      go_wp2_with (first | ((with_reducible refine gate_dst (N := 1) rfl ?_); (try (refine gate_guard (by rfl) ?_; dsimp only)); refine BE 1 #[.int .i64 a0_0, .int .i64 a0_1, .bool false, .string a0_3] 35 ?_; intro gb301 hg w25 hbox hb; have h_ := P4 (below_step KB hb) hbox (KG hg : w.heap.size ≤ gb301) (KG hg : w.heap.size ≤ gb301); clear HB; obtain ⟨HB, BK301, GW301, GE301⟩ := h_; clear hb hbox hg; obtain ⟨hcz26_0, hcz26_1, hcz26_2, hcz26_3, hfz26_0, hfz26_1, hfz26_2, hfz26_3⟩ := C4 BK301.out) | (go_at_call 51; (with_reducible refine (spec_PlaceOk.calls a0_0 true _ A2.out).mono ?_); rintro e w' ⟨rfl, ⟨nd, rfl⟩⟩; (try exact KT)) | (go_at_call 66; (with_reducible refine (spec_l1In.calls a0_1 0 30 true _ A4.out).mono ?_); rintro e w' ⟨rfl, ⟨nd, rfl⟩⟩; (try exact KT)))
      repeat (go_quiet (first | (go_at_call 51; (with_reducible refine (spec_PlaceOk.calls a0_0 true _ A2.out).mono ?_); rintro e w' ⟨rfl, ⟨nd, rfl⟩⟩; (try exact KT)) | (go_at_call 66; (with_reducible refine (spec_l1In.calls a0_1 0 30 true _ A4.out).mono ?_); rintro e w' ⟨rfl, ⟨nd, rfl⟩⟩; (try exact KT))); try go_wp2_with (first | ((with_reducible refine gate_dst (N := 1) rfl ?_); (try (refine gate_guard (by rfl) ?_; dsimp only)); refine BE 1 #[.int .i64 a0_0, .int .i64 a0_1, .bool false, .string a0_3] 35 ?_; intro gb301 hg w25 hbox hb; have h_ := P4 (below_step KB hb) hbox (KG hg : w.heap.size ≤ gb301) (KG hg : w.heap.size ≤ gb301); clear HB; obtain ⟨HB, BK301, GW301, GE301⟩ := h_; clear hb hbox hg; obtain ⟨hcz26_0, hcz26_1, hcz26_2, hcz26_3, hfz26_0, hfz26_1, hfz26_2, hfz26_3⟩ := C4 BK301.out) | (go_at_call 51; (with_reducible refine (spec_PlaceOk.calls a0_0 true _ A2.out).mono ?_); rintro e w' ⟨rfl, ⟨nd, rfl⟩⟩; (try exact KT)) | (go_at_call 66; (with_reducible refine (spec_l1In.calls a0_1 0 30 true _ A4.out).mono ?_); rintro e w' ⟨rfl, ⟨nd, rfl⟩⟩; (try exact KT))))
      go_ret
      exact ⟨KE, KB⟩
  ·replace c5 := Bool.eq_false_iff.mpr c5
   subst c5
   have H1 : (some false) = some r := by rw [if_neg (show ¬ (false = true) by decide)] at H; exact H
   clear H
   have H := H1
   clear H1
   obtain rfl := Option.some.inj H
   go_enter Try.func42, Try.ntmps42
   go_wp2_with (first | ((with_reducible refine gate_dst (N := 1) rfl ?_); (try (refine gate_guard (by rfl) ?_; dsimp only)); refine BE 1 #[.int .i64 a0_0, .int .i64 a0_1, .bool a0_2, .string a0_3] 35 ?_; intro gb301 hg w27 hbox hb; have h_ := P4 (below_step KB hb) hbox (KG hg : w.heap.size ≤ gb301) (KG hg : w.heap.size ≤ gb301); clear HB; obtain ⟨HB, BK301, GW301, GE301⟩ := h_; clear hb hbox hg; obtain ⟨hcz28_0, hcz28_1, hcz28_2, hcz28_3, hfz28_0, hfz28_1, hfz28_2, hfz28_3⟩ := C4 BK301.out) | (go_at_call 51; (with_reducible refine (spec_PlaceOk.calls a0_0 true _ A2.out).mono ?_); rintro e w' ⟨rfl, ⟨nd, rfl⟩⟩; (try exact KT)) | (go_at_call 66; (with_reducible refine (spec_l1In.calls a0_1 0 30 false _ A4.out).mono ?_); rintro e w' ⟨rfl, ⟨nd, rfl⟩⟩; (try exact KT)))
   repeat (go_quiet (first | (go_at_call 51; (with_reducible refine (spec_PlaceOk.calls a0_0 true _ A2.out).mono ?_); rintro e w' ⟨rfl, ⟨nd, rfl⟩⟩; (try exact KT)) | (go_at_call 66; (with_reducible refine (spec_l1In.calls a0_1 0 30 false _ A4.out).mono ?_); rintro e w' ⟨rfl, ⟨nd, rfl⟩⟩; (try exact KT))); try go_wp2_with (first | ((with_reducible refine gate_dst (N := 1) rfl ?_); (try (refine gate_guard (by rfl) ?_; dsimp only)); refine BE 1 #[.int .i64 a0_0, .int .i64 a0_1, .bool a0_2, .string a0_3] 35 ?_; intro gb301 hg w27 hbox hb; have h_ := P4 (below_step KB hb) hbox (KG hg : w.heap.size ≤ gb301) (KG hg : w.heap.size ≤ gb301); clear HB; obtain ⟨HB, BK301, GW301, GE301⟩ := h_; clear hb hbox hg; obtain ⟨hcz28_0, hcz28_1, hcz28_2, hcz28_3, hfz28_0, hfz28_1, hfz28_2, hfz28_3⟩ := C4 BK301.out) | (go_at_call 51; (with_reducible refine (spec_PlaceOk.calls a0_0 true _ A2.out).mono ?_); rintro e w' ⟨rfl, ⟨nd, rfl⟩⟩; (try exact KT)) | (go_at_call 66; (with_reducible refine (spec_l1In.calls a0_1 0 30 false _ A4.out).mono ?_); rintro e w' ⟨rfl, ⟨nd, rfl⟩⟩; (try exact KT))))
   go_ret
   exact ⟨KE, KB⟩
 ·replace c3 := Bool.eq_false_iff.mpr c3
  subst c3
  have H1 : (some false) = some r := by rw [if_neg (show ¬ (false = true) by decide)] at H; exact H
  clear H
  have H := H1
  clear H1
  obtain rfl := Option.some.inj H
  go_enter Try.func42, Try.ntmps42
  go_wp2_with (first | ((with_reducible refine gate_dst (N := 1) rfl ?_); (try (refine gate_guard (by rfl) ?_; dsimp only)); refine BE 1 #[.int .i64 a0_0, .int .i64 a0_1, .bool a0_2, .string a0_3] 35 ?_; intro gb301 hg w29 hbox hb; have h_ := P4 (below_step KB hb) hbox (KG hg : w.heap.size ≤ gb301) (KG hg : w.heap.size ≤ gb301); clear HB; obtain ⟨HB, BK301, GW301, GE301⟩ := h_; clear hb hbox hg; obtain ⟨hcz30_0, hcz30_1, hcz30_2, hcz30_3, hfz30_0, hfz30_1, hfz30_2, hfz30_3⟩ := C4 BK301.out) | (go_at_call 51; (with_reducible refine (spec_PlaceOk.calls a0_0 false _ A2.out).mono ?_); rintro e w' ⟨rfl, ⟨nd, rfl⟩⟩; (try exact KT)))
  repeat (go_quiet (first | (go_at_call 51; (with_reducible refine (spec_PlaceOk.calls a0_0 false _ A2.out).mono ?_); rintro e w' ⟨rfl, ⟨nd, rfl⟩⟩; (try exact KT))); try go_wp2_with (first | ((with_reducible refine gate_dst (N := 1) rfl ?_); (try (refine gate_guard (by rfl) ?_; dsimp only)); refine BE 1 #[.int .i64 a0_0, .int .i64 a0_1, .bool a0_2, .string a0_3] 35 ?_; intro gb301 hg w29 hbox hb; have h_ := P4 (below_step KB hb) hbox (KG hg : w.heap.size ≤ gb301) (KG hg : w.heap.size ≤ gb301); clear HB; obtain ⟨HB, BK301, GW301, GE301⟩ := h_; clear hb hbox hg; obtain ⟨hcz30_0, hcz30_1, hcz30_2, hcz30_3, hfz30_0, hfz30_1, hfz30_2, hfz30_3⟩ := C4 BK301.out) | (go_at_call 51; (with_reducible refine (spec_PlaceOk.calls a0_0 false _ A2.out).mono ?_); rintro e w' ⟨rfl, ⟨nd, rfl⟩⟩; (try exact KT))))
  go_ret
  exact ⟨KE, KB⟩

end Go.Proofs.Ytnoghojlpicecaa.PFnSealed
