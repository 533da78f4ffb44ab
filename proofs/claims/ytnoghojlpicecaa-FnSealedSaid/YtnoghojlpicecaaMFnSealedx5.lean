-- What each Go function that this law reaches comes to: written by a program out of the translation.
import Derived.Test.YtnoghojlpicecaaMFnSealedx0
import Derived.Test.YtnoghojlpicecaaMFnSealedx4
namespace Go.Proofs.Ytnoghojlpicecaa.PFnSealed
open Go.RowKit Go.Proofs.YtnoghojlpicecaaW.PrintWords Go.Proofs.YtnoghojlpicecaaW.PrintLast Go.Proofs.YtnoghojlpicecaaW.PrintMore
attribute [local go_sem] max2_int min2_int max_two min_two max_three min_three max_four min_four   -- for this text's walks alone
set_option linter.unusedVariables false
set_option linter.unusedSimpArgs false

/-! ### spec_l6List: function 71 -/
def spec_l6List.l0 : Nat → List (S35) → Int → Option (Bool)
 | 0, _, _ => none
 | k + 1, x0, x5 => if x5 < (x0.length : Int) then (if 0 ≤ x5 then ((spec_EntryOk.f ((rd_T35 x0 x5).f0) ((rd_T35 x0 x5).f1) ((rd_T35 x0 x5).f2) ((rd_T35 x0 x5).f3)).bind fun t306 => (if t306 = true then (spec_l6List.l0 k x0 (wrap64 (x5 + 1))) else (some false))) else (none)) else (some true)
def spec_l6List.f (k : Nat) (l0 : List (S35)) (a1 : Int) : Option (Bool) := if (l0.length : Int) > a1 then (some false) else (spec_l6List.l0 k l0 0)
theorem spec_l6List.mono_l : ∀ k, (∀ y0 y1, LeO (spec_l6List.l0 k y0 y1) (spec_l6List.l0 (k + 1) y0 y1))
 | 0 => fun _ _ r h => by simp [spec_l6List.l0] at h
 | k + 1 => by
  have ih0 := spec_l6List.mono_l k
  ·intro y0 y1
   unfold spec_l6List.l0
   repeat' first
   | (with_reducible exact ih0 _ _)
   | (with_reducible exact LeO.refl _)
   | (with_reducible exact LeO.none _)
   | (with_reducible refine LeO.ite ?_ ?_)
   | (with_reducible refine LeO.bind ?_ (fun _ => ?_))
   | exact ih0 _ _
   | exact LeO.none _
   | refine LeO.ite ?_ ?_
   | refine LeO.bind ?_ (fun _ => ?_)
theorem spec_l6List.mono : ∀ a0 a1 k, LeO (spec_l6List.f k a0 a1) (spec_l6List.f (k + 1) a0 a1) := by
 intro a0 a1 k
 have ih0 := spec_l6List.mono_l k
 unfold spec_l6List.f
 repeat' first
   | (with_reducible exact ih0 _ _)
   | (with_reducible exact LeO.refl _)
   | (with_reducible exact LeO.none _)
   | (with_reducible refine LeO.ite ?_ ?_)
   | (with_reducible refine LeO.bind ?_ (fun _ => ?_))
   | exact ih0 _ _
   | exact LeO.none _
   | refine LeO.ite ?_ ?_
   | refine LeO.bind ?_ (fun _ => ?_)
set_option maxHeartbeats 8000000 in
set_option maxRecDepth 100000 in
theorem spec_l6List.calls (k : Nat) (A0 : Option Addr) (c0 : Nat) (l0 : List (S35)) (a1 : Int) (r : Bool) (w : World) (hr0 : Kd.C k35 w A0 l0.length l0) (hc0 : l0.length ≤ c0) (h : spec_l6List.f k l0 a1 = some r) :
  Calls Try.prog 71 #[.slice A0 l0.length c0, .int .i64 a1] w fun e w' => e = .returned (.bool r) ∧ Below w.heap.size w w' := by
 have hu35 := Try.underlying35
 have HR0 := Aside0.mk hr0
 have HC0 := Aside0.mk hc0
 clear hr0 hc0
 have HB := Aside0.mk (Below.refl w.heap.size w)
 have H : (if (l0.length : Int) > a1 then (some false) else (spec_l6List.l0 k l0 0)) = some r := h
 clear h
 by_cases c3 : (l0.length : Int) > a1
 ·rw [if_pos c3] at H
  have c3b0 : decide (a1 < (l0.length : Int)) = true := decide_eq_true c3
  clear c3
  obtain rfl := Option.some.inj H
  go_enter Try.func71, Try.ntmps71
  go_wp2
  go_ret
  exact ⟨KE, KB⟩
 ·rw [if_neg c3] at H
  have c3b0 : decide (a1 < (l0.length : Int)) = false := decide_eq_false c3
  clear c3
  have H' := Aside0.mk H
  clear H
  go_enter Try.func71, Try.ntmps71
  go_wp2
  go_loopg [5] k (fun kq v5 w' => ∃ (x5_1 : Int), v5 = .int .i64 x5_1 ∧ Aside0 (spec_l6List.l0 kq l0 x5_1 = some r) ∧ Aside0 (kq ≤ k) ∧ Aside0 (Below w.heap.size w w'))
  case atStart => exact ⟨(0), (by first | rfl | (simp; done) | (simp [*]; done)), H', ⟨Nat.le_refl _⟩, ⟨KB⟩⟩
  case round =>
   clear H'
   try clear p2
   try clear c3
   try clear c3b0
   obtain ⟨x5_1, rfl, HA, HK1, HB⟩ := hrel
   cases gk with
   | zero => exact absurd HA.out (by simp [spec_l6List.l0])
   | succ k1 =>
    have H := HA.out
    clear HA
    simp only [spec_l6List.l0] at H
    by_cases c4 : x5_1 < (l0.length : Int)
    ·rw [if_pos c4] at H
     have c4b0 : decide (x5_1 < (l0.length : Int)) = true := decide_eq_true c4
     clear c4
     by_cases c5 : 0 ≤ x5_1
     ·rw [if_pos c5] at H
      have c5b0 : decide (0 ≤ x5_1) = true := decide_eq_true c5
      clear c5
      replace H := Option.bind_eq_some_iff.mp H
      obtain ⟨t306, A60, H⟩ := H
      replace H : (if t306 = true then (spec_l6List.l0 k1 l0 (wrap64 (x5_1 + 1))) else (some false)) = some r := H
      have A6 := Aside0.mk A60
      clear A60
      by_cases c7 : t306 = true
      ·subst c7
       have H1 : (spec_l6List.l0 k1 l0 (wrap64 (x5_1 + 1))) = some r := by rw [if_pos rfl] at H; exact H
       clear H
       have H := H1
       clear H1
       have H' := Aside0.mk H
       clear H
       have p305 : 0 ≤ (x5_1 : Int) := of_decide_eq_true (by first | (with_reducible assumption) | assumption)
       have q305 : x5_1 < (l0.length : Int) := of_decide_eq_true (by first | (with_reducible assumption) | assumption)
       obtain ⟨ad305, e305, hx305_0, hx305_1, hx305_2, hx305_3⟩ := at_T35 HR0.out x5_1 p305 q305
       cases e305
       replace hx305_0 := (HB.out.cell (World.block_lt_of_cell? w _ hx305_0)).trans hx305_0
       replace hx305_1 := (HB.out.cell (World.block_lt_of_cell? w _ hx305_1)).trans hx305_1
       replace hx305_2 := (HB.out.cell (World.block_lt_of_cell? w _ hx305_2)).trans hx305_2
       replace hx305_3 := (HB.out.cell (World.block_lt_of_cell? w _ hx305_3)).trans hx305_3
       replace p305 := eq_true p305
       replace q305 := eq_true q305
       go_wp2_with (first | ((with_reducible refine gate_callee (f := 42) rfl ?_); refine goesL_ (some 20) rfl rfl Try.func42 (by kernel_rfl) rfl #[.agg #[.int .i64 ((rd_T35 l0 x5_1).f0), .int .i64 ((rd_T35 l0 x5_1).f1), .bool ((rd_T35 l0 x5_1).f2), .string ((rd_T35 l0 x5_1).f3)]] rfl KL ?_; (with_reducible refine (spec_EntryOk.calls ((rd_T35 l0 x5_1).f0) ((rd_T35 l0 x5_1).f1) ((rd_T35 l0 x5_1).f2) ((rd_T35 l0 x5_1).f3) true _ A6.out).mono ?_); rintro e w8 ⟨rfl, hb⟩; refine ⟨_, rfl, ?_⟩; have h_ := Aside0.mk (below_step KB hb); clear HB; have HB := h_; clear h_; (try clear hb); (try clear hk); (try clear hi)))
       go_roundg k1
       case measure => have := HK1.out; omega
       case rel => exact ⟨(wrap64 (x5_1 + 1)), (by first | rfl | (simp; done) | (simp [*]; done)), H', ⟨by have := HK1.out; omega⟩, ⟨KB⟩⟩
      ·replace c7 := Bool.eq_false_iff.mpr c7
       subst c7
       have H1 : (some false) = some r := by rw [if_neg (show ¬ (false = true) by decide)] at H; exact H
       clear H
       have H := H1
       clear H1
       obtain rfl := Option.some.inj H
       have p305 : 0 ≤ (x5_1 : Int) := of_decide_eq_true (by first | (with_reducible assumption) | assumption)
       have q305 : x5_1 < (l0.length : Int) := of_decide_eq_true (by first | (with_reducible assumption) | assumption)
       obtain ⟨ad305, e305, hx305_0, hx305_1, hx305_2, hx305_3⟩ := at_T35 HR0.out x5_1 p305 q305
       cases e305
       replace hx305_0 := (HB.out.cell (World.block_lt_of_cell? w _ hx305_0)).trans hx305_0
       replace hx305_1 := (HB.out.cell (World.block_lt_of_cell? w _ hx305_1)).trans hx305_1
       replace hx305_2 := (HB.out.cell (World.block_lt_of_cell? w _ hx305_2)).trans hx305_2
       replace hx305_3 := (HB.out.cell (World.block_lt_of_cell? w _ hx305_3)).trans hx305_3
       replace p305 := eq_true p305
       replace q305 := eq_true q305
       go_wp2_with (first | ((with_reducible refine gate_callee (f := 42) rfl ?_); refine goesL_ (some 20) rfl rfl Try.func42 (by kernel_rfl) rfl #[.agg #[.int .i64 ((rd_T35 l0 x5_1).f0), .int .i64 ((rd_T35 l0 x5_1).f1), .bool ((rd_T35 l0 x5_1).f2), .string ((rd_T35 l0 x5_1).f3)]] rfl KL ?_; (with_reducible refine (spec_EntryOk.calls ((rd_T35 l0 x5_1).f0) ((rd_T35 l0 x5_1).f1) ((rd_T35 l0 x5_1).f2) ((rd_T35 l0 x5_1).f3) false _ A6.out).mono ?_); rintro e w9 ⟨rfl, hb⟩; refine ⟨_, rfl, ?_⟩; have h_ := Aside0.mk (below_step KB hb); clear HB; have HB := h_; clear h_; (try clear hb); (try clear hk); (try clear hi)))
       go_ret
       exact ⟨KE, KB⟩
     ·rw [if_neg c5] at H
      exact absurd H (by simp)
    ·rw [if_neg c4] at H
     have c4b0 : decide (x5_1 < (l0.length : Int)) = false := decide_eq_false c4
     clear c4
     obtain rfl := Option.some.inj H
     go_wp2
     go_ret
     exact ⟨KE, KB⟩

/-! ### spec_l6Asc: function 72 -/
def spec_l6Asc.l0 : Nat → List (S35) → Int → Option (Bool)
 | 0, _, _ => none
 | k + 1, x0, x3 => if x3 < (x0.length : Int) then (if 0 ≤ (wrap64 (x3 - 1)) then (if (wrap64 (x3 - 1)) < (x0.length : Int) then (if 0 ≤ x3 then (if ((rd_T35 x0 (wrap64 (x3 - 1))).f0) ≥ ((rd_T35 x0 x3).f0) then (some false) else (spec_l6Asc.l0 k x0 (wrap64 (x3 + 1)))) else (none)) else (none)) else (none)) else (some true)
def spec_l6Asc.f (k : Nat) (l0 : List (S35)) : Option (Bool) := spec_l6Asc.l0 k l0 1
theorem spec_l6Asc.mono_l : ∀ k, (∀ y0 y1, LeO (spec_l6Asc.l0 k y0 y1) (spec_l6Asc.l0 (k + 1) y0 y1))
 | 0 => fun _ _ r h => by simp [spec_l6Asc.l0] at h
 | k + 1 => by
  have ih0 := spec_l6Asc.mono_l k
  ·intro y0 y1
   unfold spec_l6Asc.l0
   repeat' first
   | (with_reducible exact ih0 _ _)
   | (with_reducible exact LeO.refl _)
   | (with_reducible exact LeO.none _)
   | (with_reducible refine LeO.ite ?_ ?_)
   | (with_reducible refine LeO.bind ?_ (fun _ => ?_))
   | exact ih0 _ _
   | exact LeO.none _
   | refine LeO.ite ?_ ?_
   | refine LeO.bind ?_ (fun _ => ?_)
theorem spec_l6Asc.mono : ∀ a0 k, LeO (spec_l6Asc.f k a0) (spec_l6Asc.f (k + 1) a0) := by
 intro a0 k
 have ih0 := spec_l6Asc.mono_l k
 unfold spec_l6Asc.f
 repeat' first
   | (with_reducible exact ih0 _ _)
   | (with_reducible exact LeO.refl _)
   | (with_reducible exact LeO.none _)
   | (with_reducible refine LeO.ite ?_ ?_)
   | (with_reducible refine LeO.bind ?_ (fun _ => ?_))
   | exact ih0 _ _
   | exact LeO.none _
   | refine LeO.ite ?_ ?_
   | refine LeO.bind ?_ (fun _ => ?_)
set_option maxHeartbeats 8000000 in
set_option maxRecDepth 100000 in
theorem spec_l6Asc.calls (k : Nat) (A0 : Option Addr) (c0 : Nat) (l0 : List (S35)) (r : Bool) (w : World) (hr0 : Kd.C k35 w A0 l0.length l0) (hc0 : l0.length ≤ c0) (h : spec_l6Asc.f k l0 = some r) :
  Calls Try.prog 72 #[.slice A0 l0.length c0] w fun e w' => e = .returned (.bool r) ∧ Drawn0 w w' := by
 have HR0 := Aside0.mk hr0
 have HC0 := Aside0.mk hc0
 clear hr0 hc0
 have H : (spec_l6Asc.l0 k l0 1) = some r := h
 clear h
 have H' := Aside0.mk H
 clear H
 go_enter Try.func72, Try.ntmps72
 go_wp2
 repeat (go_quiet (fail); try go_wp2)
 go_loopg [3] k (fun kq v3 w' => ∃ (x3_1 : Int), v3 = .int .i64 x3_1 ∧ Aside0 (spec_l6Asc.l0 kq l0 x3_1 = some r) ∧ Aside0 (kq ≤ k) ∧ Drawn0 w w')
 case atStart => exact ⟨(1), (by first | rfl | (simp; done) | (simp [*]; done)), H', ⟨Nat.le_refl _⟩, by repeat (first | exact Drawn0.refl _ | apply Drawn0.step)⟩
 case round =>
  clear H'
  obtain ⟨x3_1, rfl, HA, HK1, ⟨m1, rfl⟩⟩ := hrel
  cases gk with
  | zero => exact absurd HA.out (by simp [spec_l6Asc.l0])
  | succ k1 =>
   have H := HA.out
   clear HA
   simp only [spec_l6Asc.l0] at H
   by_cases c2 : x3_1 < (l0.length : Int)
   ·rw [if_pos c2] at H
    have c2b0 : decide (x3_1 < (l0.length : Int)) = true := decide_eq_true c2
    clear c2
    obtain ⟨ji3, hji3⟩ : ∃ j_ : Int, (wrap64 (x3_1 - 1)) = j_ := ⟨_, rfl⟩
    replace H : (if 0 ≤ (ji3) then (if (ji3) < (l0.length : Int) then (if 0 ≤ x3_1 then (if ((rd_T35 l0 (ji3)).f0) ≥ ((rd_T35 l0 x3_1).f0) then (some false) else (spec_l6Asc.l0 k1 l0 (wrap64 (x3_1 + 1)))) else (none)) else (none)) else (none)) = some r := by first | (rw [hji3] at H; exact H) | (simp only [hji3] at H ⊢; exact H)
    have hji3w : (IntKind.i64.wrap (x3_1 - 1)) = ji3 := (i64_w _).trans hji3
    by_cases c4 : 0 ≤ (ji3)
    ·rw [if_pos c4] at H
     have c4b0 : decide (0 ≤ (ji3)) = true := decide_eq_true c4
     clear c4
     by_cases c5 : (ji3) < (l0.length : Int)
     ·rw [if_pos c5] at H
      have c5b0 : decide ((ji3) < (l0.length : Int)) = true := decide_eq_true c5
      clear c5
      by_cases c6 : 0 ≤ x3_1
      ·rw [if_pos c6] at H
       have c6b0 : decide (0 ≤ x3_1) = true := decide_eq_true c6
       clear c6
       by_cases c7 : ((rd_T35 l0 (ji3)).f0) ≥ ((rd_T35 l0 x3_1).f0)
       ·rw [if_pos c7] at H
        have c7b0 : decide (((rd_T35 l0 x3_1).f0) ≤ ((rd_T35 l0 (ji3)).f0)) = true := decide_eq_true c7
        clear c7
        obtain rfl := Option.some.inj H
        have p307 : 0 ≤ ((ji3) : Int) := of_decide_eq_true (by first | (with_reducible assumption) | assumption)
        have q307 : (ji3) < (l0.length : Int) := of_decide_eq_true (by first | (with_reducible assumption) | assumption)
        obtain ⟨ad307, e307, hx307_0, hx307_1, hx307_2, hx307_3⟩ := at_T35 HR0.out (ji3) p307 q307
        cases e307
        replace p307 := eq_true p307
        replace q307 := eq_true q307
        have p308 : 0 ≤ (x3_1 : Int) := of_decide_eq_true (by first | (with_reducible assumption) | assumption)
        have q308 : x3_1 < (l0.length : Int) := of_decide_eq_true (by first | (with_reducible assumption) | assumption)
        obtain ⟨ad308, e308, hx308_0, hx308_1, hx308_2, hx308_3⟩ := at_T35 HR0.out x3_1 p308 q308
        obtain rfl : ad307 = ad308 := (by injection e308)
        replace p308 := eq_true p308
        replace q308 := eq_true q308
        go_wp2
        repeat (go_quiet (fail); try go_wp2)
        go_ret
        exact ⟨by first | rfl | (simp; done) | (simp only [← hji3] <;> (first | rfl | simp)) | (simp [*]; done), by repeat (first | exact Drawn0.refl _ | apply Drawn0.step)⟩
       ·rw [if_neg c7] at H
        have c7b0 : decide (((rd_T35 l0 x3_1).f0) ≤ ((rd_T35 l0 (ji3)).f0)) = false := decide_eq_false c7
        clear c7
        have H' := Aside0.mk H
        clear H
        have p307 : 0 ≤ ((ji3) : Int) := of_decide_eq_true (by first | (with_reducible assumption) | assumption)
        have q307 : (ji3) < (l0.length : Int) := of_decide_eq_true (by first | (with_reducible assumption) | assumption)
        obtain ⟨ad307, e307, hx307_0, hx307_1, hx307_2, hx307_3⟩ := at_T35 HR0.out (ji3) p307 q307
        cases e307
        replace p307 := eq_true p307
        replace q307 := eq_true q307
        have p308 : 0 ≤ (x3_1 : Int) := of_decide_eq_true (by first | (with_reducible assumption) | assumption)
        have q308 : x3_1 < (l0.length : Int) := of_decide_eq_true (by first | (with_reducible assumption) | assumption)
        obtain ⟨ad308, e308, hx308_0, hx308_1, hx308_2, hx308_3⟩ := at_T35 HR0.out x3_1 p308 q308
        obtain rfl : ad307 = ad308 := (by injection e308)
        replace p308 := eq_true p308
        replace q308 := eq_true q308
        go_wp2
        repeat (go_quiet (fail); try go_wp2)
        go_roundg k1
        case measure => have := HK1.out; omega
        case rel => exact ⟨(wrap64 (x3_1 + 1)), (by first | rfl | (simp; done) | (simp [*]; done)), H', ⟨by have := HK1.out; omega⟩, by repeat (first | exact Drawn0.refl _ | apply Drawn0.step)⟩
      ·rw [if_neg c6] at H
       exact absurd H (by simp)
     ·rw [if_neg c5] at H
      exact absurd H (by simp)
    ·rw [if_neg c4] at H
     exact absurd H (by simp)
   ·rw [if_neg c2] at H
    have c2b0 : decide (x3_1 < (l0.length : Int)) = false := decide_eq_false c2
    clear c2
    obtain rfl := Option.some.inj H
    go_wp2
    repeat (go_quiet (fail); try go_wp2)
    go_ret
    exact ⟨by first | rfl | (simp; done) | (simp [*]; done), by repeat (first | exact Drawn0.refl _ | apply Drawn0.step)⟩

/-! ### spec_StoreOk: function 34 -/
def spec_StoreOk.f (k : Nat) (l0_0 : List (S35)) (l0_1 : List (S35)) (a0_2 : Int) : Option (Bool) := (spec_l6List.f k l0_0 200).bind fun t310 => (if t310 = true then ((spec_l6List.f k l0_1 20).bind fun t311 => (if t311 = true then ((spec_l6Asc.f k l0_0).bind fun t312 => (if t312 = true then ((spec_l1In.f a0_2 0 30).bind fun t313 => (some t313)) else (some false))) else (some false))) else (some false))
theorem spec_StoreOk.mono : ∀ a0 a1 a2 k, LeO (spec_StoreOk.f k a0 a1 a2) (spec_StoreOk.f (k + 1) a0 a1 a2) := by
 intro a0 a1 a2 k
 unfold spec_StoreOk.f
 repeat' first
   | (with_reducible exact spec_l6Asc.mono _ _)
   | (with_reducible exact spec_l6List.mono _ _ _)
   | (with_reducible exact LeO.refl _)
   | (with_reducible exact LeO.none _)
   | (with_reducible refine LeO.ite ?_ ?_)
   | (with_reducible refine LeO.bind ?_ (fun _ => ?_))
   | exact spec_l6Asc.mono _ _
   | exact spec_l6List.mono _ _ _
   | exact LeO.none _
   | refine LeO.ite ?_ ?_
   | refine LeO.bind ?_ (fun _ => ?_)
set_option maxHeartbeats 8000000 in
set_option maxRecDepth 100000 in
theorem spec_StoreOk.calls (k : Nat) (A0_0 : Option Addr) (c0_0 : Nat) (l0_0 : List (S35)) (A0_1 : Option Addr) (c0_1 : Nat) (l0_1 : List (S35)) (a0_2 : Int) (r : Bool) (w : World) (hr0_0 : Kd.C k35 w A0_0 l0_0.length l0_0) (hc0_0 : l0_0.length ≤ c0_0) (hr0_1 : Kd.C k35 w A0_1 l0_1.length l0_1) (hc0_1 : l0_1.length ≤ c0_1) (h : spec_StoreOk.f k l0_0 l0_1 a0_2 = some r) :
  Calls Try.prog 34 #[.agg #[.slice A0_0 l0_0.length c0_0, .slice A0_1 l0_1.length c0_1, .int .i64 a0_2]] w fun e w' => e = .returned (.bool r) ∧ Below w.heap.size w w' := by
 have hu31 := Try.underlying31
 have HR0_0 := Aside0.mk hr0_0
 have HC0_0 := Aside0.mk hc0_0
 clear hr0_0 hc0_0
 have HR0_1 := Aside0.mk hr0_1
 have HC0_1 := Aside0.mk hc0_1
 clear hr0_1 hc0_1
 have HB := Aside0.mk (Below.refl w.heap.size w)
 have H : ((spec_l6List.f k l0_0 200).bind fun t310 => (if t310 = true then ((spec_l6List.f k l0_1 20).bind fun t311 => (if t311 = true then ((spec_l6Asc.f k l0_0).bind fun t312 => (if t312 = true then ((spec_l1In.f a0_2 0 30).bind fun t313 => (some t313)) else (some false))) else (some false))) else (some false))) = some r := h
 clear h
 replace H := Option.bind_eq_some_iff.mp H
 obtain ⟨t310, A20, H⟩ := H
 replace H : (if t310 = true then ((spec_l6List.f k l0_1 20).bind fun t311 => (if t311 = true then ((spec_l6Asc.f k l0_0).bind fun t312 => (if t312 = true then ((spec_l1In.f a0_2 0 30).bind fun t313 => (some t313)) else (some false))) else (some false))) else (some false)) = some r := H
 have A2 := Aside0.mk A20
 clear A20
 by_cases c3 : t310 = true
 ·subst c3
  have H1 : ((spec_l6List.f k l0_1 20).bind fun t311 => (if t311 = true then ((spec_l6Asc.f k l0_0).bind fun t312 => (if t312 = true then ((spec_l1In.f a0_2 0 30).bind fun t313 => (some t313)) else (some false))) else (some false))) = some r := by rw [if_pos rfl] at H; exact H
  clear H
  have H := H1
  clear H1
  replace H := Option.bind_eq_some_iff.mp H
  obtain ⟨t311, A40, H⟩ := H
  replace H : (if t311 = true then ((spec_l6Asc.f k l0_0).bind fun t312 => (if t312 = true then ((spec_l1In.f a0_2 0 30).bind fun t313 => (some t313)) else (some false))) else (some false)) = some r := H
  have A4 := Aside0.mk A40
  clear A40
  by_cases c5 : t311 = true
  ·subst c5
   have H1 : ((spec_l6Asc.f k l0_0).bind fun t312 => (if t312 = true then ((spec_l1In.f a0_2 0 30).bind fun t313 => (some t313)) else (some false))) = some r := by rw [if_pos rfl] at H; exact H
   clear H
   have H := H1
   clear H1
   replace H := Option.bind_eq_some_iff.mp H
   obtain ⟨t312, A60, H⟩ := H
   replace H : (if t312 = true then ((spec_l1In.f a0_2 0 30).bind fun t313 => (some t313)) else (some false)) = some r := H
   have A6 := Aside0.mk A60
   clear A60
   by_cases c7 : t312 = true
   ·subst c7
    have H1 : ((spec_l1In.f a0_2 0 30).bind fun t313 => (some t313)) = some r := by rw [if_pos rfl] at H; exact H
    clear H
    have H := H1
    clear H1
    replace H := Option.bind_eq_some_iff.mp H
    obtain ⟨t313, A80, H⟩ := H
    replace H : (some t313) = some r := H
    have A8 := Aside0.mk A80
    clear A80
    obtain rfl := Option.some.inj H
    go_enter Try.func34, Try.ntmps34
    go_wp2_with (first | ((with_reducible refine gate_dst (N := 1) rfl ?_); refine BE 1 #[.slice A0_0 l0_0.length c0_0, .slice A0_1 l0_1.length c0_1, .int .i64 a0_2] 31 ?_; intro gb309 hg w9 hbox hb; have h_ := P4 (below_step KB hb) hbox (KG hg : w.heap.size ≤ gb309) (KG hg : w.heap.size ≤ gb309); clear HB; obtain ⟨HB, BK309, GW309, GE309⟩ := h_; clear hb hbox hg; obtain ⟨hcz10_0, hcz10_1, hcz10_2, hfz10_0, hfz10_1, hfz10_2⟩ := C3 BK309.out) | ((with_reducible refine gate_callee (f := 71) rfl ?_); refine goesL_ (some 5) rfl rfl Try.func71 (by kernel_rfl) rfl #[.slice A0_0 l0_0.length c0_0, .int .i64 200] rfl KL ?_; (with_reducible refine (spec_l6List.calls k _ _ l0_0 200 true _ ?side1 ?side2 A2.out).mono ?_); (case side1 => exact KD (Kd.C_below HR0_0.out HB.out)); (case side2 => exact HC0_0.out); rintro e w11 ⟨rfl, hb⟩; refine ⟨_, rfl, ?_⟩; have h_ := P2 (BL BK309.out hb) (below_step KB hb); clear BK309 HB; obtain ⟨BK309, HB⟩ := h_; (try clear hb); (try clear hk); (try clear hi); obtain ⟨hcz12_0, hcz12_1, hcz12_2, hfz12_0, hfz12_1, hfz12_2⟩ := C3 BK309.out) | (go_at_call 71; (with_reducible refine (spec_l6List.calls k _ _ l0_1 20 true _ ?side1 ?side2 A4.out).mono ?_); (case side1 => exact KD (Kd.C_below HR0_1.out HB.out)); (case side2 => exact HC0_1.out); rintro e w13 ⟨rfl, hb⟩; have h_ := P2 (BL BK309.out hb) (below_step KB hb); clear BK309 HB; obtain ⟨BK309, HB⟩ := h_; (try clear hb); (try clear hk); (try clear hi); obtain ⟨hcz14_0, hcz14_1, hcz14_2, hfz14_0, hfz14_1, hfz14_2⟩ := C3 BK309.out) | (go_at_call 72; (with_reducible refine (spec_l6Asc.calls k _ _ l0_0 true _ ?side1 ?side2 A6.out).mono ?_); (case side1 => exact KD (Kd.C_below HR0_0.out HB.out)); (case side2 => exact HC0_0.out); rintro e w' ⟨rfl, ⟨nd, rfl⟩⟩) | (go_at_call 66; (with_reducible refine (spec_l1In.calls a0_2 0 30 t313 _ A8.out).mono ?_); rintro e w' ⟨rfl, ⟨nd, rfl⟩⟩))
    go_ret
    exact ⟨KE, KB⟩
   ·replace c7 := Bool.eq_false_iff.mpr c7
    subst c7
    have H1 : (some false) = some r := by rw [if_neg (show ¬ (false = true) by decide)] at H; exact H
    clear H
    have H := H1
    clear H1
    obtain rfl := Option.some.inj H
    go_enter Try.func34, Try.ntmps34
    go_wp2_with (first | ((with_reducible refine gate_dst (N := 1) rfl ?_); refine BE 1 #[.slice A0_0 l0_0.length c0_0, .slice A0_1 l0_1.length c0_1, .int .i64 a0_2] 31 ?_; intro gb309 hg w15 hbox hb; have h_ := P4 (below_step KB hb) hbox (KG hg : w.heap.size ≤ gb309) (KG hg : w.heap.size ≤ gb309); clear HB; obtain ⟨HB, BK309, GW309, GE309⟩ := h_; clear hb hbox hg; obtain ⟨hcz16_0, hcz16_1, hcz16_2, hfz16_0, hfz16_1, hfz16_2⟩ := C3 BK309.out) | ((with_reducible refine gate_callee (f := 71) rfl ?_); refine goesL_ (some 5) rfl rfl Try.func71 (by kernel_rfl) rfl #[.slice A0_0 l0_0.length c0_0, .int .i64 200] rfl KL ?_; (with_reducible refine (spec_l6List.calls k _ _ l0_0 200 true _ ?side1 ?side2 A2.out).mono ?_); (case side1 => exact KD (Kd.C_below HR0_0.out HB.out)); (case side2 => exact HC0_0.out); rintro e w17 ⟨rfl, hb⟩; refine ⟨_, rfl, ?_⟩; have h_ := P2 (BL BK309.out hb) (below_step KB hb); clear BK309 HB; obtain ⟨BK309, HB⟩ := h_; (try clear hb); (try clear hk); (try clear hi); obtain ⟨hcz18_0, hcz18_1, hcz18_2, hfz18_0, hfz18_1, hfz18_2⟩ := C3 BK309.out) | (go_at_call 71; (with_reducible refine (spec_l6List.calls k _ _ l0_1 20 true _ ?side1 ?side2 A4.out).mono ?_); (case side1 => exact KD (Kd.C_below HR0_1.out HB.out)); (case side2 => exact HC0_1.out); rintro e w19 ⟨rfl, hb⟩; have h_ := P2 (BL BK309.out hb) (below_step KB hb); clear BK309 HB; obtain ⟨BK309, HB⟩ := h_; (try clear hb); (try clear hk); (try clear hi); obtain ⟨hcz20_0, hcz20_1, hcz20_2, hfz20_0, hfz20_1, hfz20_2⟩ := C3 BK309.out) | (go_at_call 72; (with_reducible refine (spec_l6Asc.calls k _ _ l0_0 false _ ?side1 ?side2 A6.out).mono ?_); (case side1 => exact KD (Kd.C_below HR0_0.out HB.out)); (case side2 => exact HC0_0.out); rintro e w' ⟨rfl, ⟨nd, rfl⟩⟩))
    go_ret
    exact ⟨KE, KB⟩
  ·replace c5 := Bool.eq_false_iff.mpr c5
   subst c5
   have H1 : (some false) = some r := by rw [if_neg (show ¬ (false = true) by decide)] at H; exact H
   clear H
   have H := H1
   clear H1
   obtain rfl := Option.some.inj H
   go_enter Try.func34, Try.ntmps34
   go_wp2_with (first | ((with_reducible refine gate_dst (N := 1) rfl ?_); refine BE 1 #[.slice A0_0 l0_0.length c0_0, .slice A0_1 l0_1.length c0_1, .int .i64 a0_2] 31 ?_; intro gb309 hg w21 hbox hb; have h_ := P4 (below_step KB hb) hbox (KG hg : w.heap.size ≤ gb309) (KG hg : w.heap.size ≤ gb309); clear HB; obtain ⟨HB, BK309, GW309, GE309⟩ := h_; clear hb hbox hg; obtain ⟨hcz22_0, hcz22_1, hcz22_2, hfz22_0, hfz22_1, hfz22_2⟩ := C3 BK309.out) | ((with_reducible refine gate_callee (f := 71) rfl ?_); refine goesL_ (some 5) rfl rfl Try.func71 (by kernel_rfl) rfl #[.slice A0_0 l0_0.length c0_0, .int .i64 200] rfl KL ?_; (with_reducible refine (spec_l6List.calls k _ _ l0_0 200 true _ ?side1 ?side2 A2.out).mono ?_); (case side1 => exact KD (Kd.C_below HR0_0.out HB.out)); (case side2 => exact HC0_0.out); rintro e w23 ⟨rfl, hb⟩; refine ⟨_, rfl, ?_⟩; have h_ := P2 (BL BK309.out hb) (below_step KB hb); clear BK309 HB; obtain ⟨BK309, HB⟩ := h_; (try clear hb); (try clear hk); (try clear hi); obtain ⟨hcz24_0, hcz24_1, hcz24_2, hfz24_0, hfz24_1, hfz24_2⟩ := C3 BK309.out) | (go_at_call 71; (with_reducible refine (spec_l6List.calls k _ _ l0_1 20 false _ ?side1 ?side2 A4.out).mono ?_); (case side1 => exact KD (Kd.C_below HR0_1.out HB.out)); (case side2 => exact HC0_1.out); rintro e w25 ⟨rfl, hb⟩; have h_ := P2 (BL BK309.out hb) (below_step KB hb); clear BK309 HB; obtain ⟨BK309, HB⟩ := h_; (try clear hb); (try clear hk); (try clear hi)))
   go_ret
   exact ⟨KE, KB⟩
 ·replace c3 := Bool.eq_false_iff.mpr c3
  subst c3
  have H1 : (some false) = some r := by rw [if_neg (show ¬ (false = true) by decide)] at H; exact H
  clear H
  have H := H1
  clear H1
  obtain rfl := Option.some.inj H
  go_enter Try.func34, Try.ntmps34
  go_wp2_with (first | ((with_reducible refine gate_dst (N := 1) rfl ?_); refine BE 1 #[.slice A0_0 l0_0.length c0_0, .slice A0_1 l0_1.length c0_1, .int .i64 a0_2] 31 ?_; intro gb309 hg w26 hbox hb; have h_ := P4 (below_step KB hb) hbox (KG hg : w.heap.size ≤ gb309) (KG hg : w.heap.size ≤ gb309); clear HB; obtain ⟨HB, BK309, GW309, GE309⟩ := h_; clear hb hbox hg; obtain ⟨hcz27_0, hcz27_1, hcz27_2, hfz27_0, hfz27_1, hfz27_2⟩ := C3 BK309.out) | ((with_reducible refine gate_callee (f := 71) rfl ?_); refine goesL_ (some 5) rfl rfl Try.func71 (by kernel_rfl) rfl #[.slice A0_0 l0_0.length c0_0, .int .i64 200] rfl KL ?_; (with_reducible refine (spec_l6List.calls k _ _ l0_0 200 false _ ?side1 ?side2 A2.out).mono ?_); (case side1 => exact KD (Kd.C_below HR0_0.out HB.out)); (case side2 => exact HC0_0.out); rintro e w28 ⟨rfl, hb⟩; refine ⟨_, rfl, ?_⟩; have h_ := P2 (BL BK309.out hb) (below_step KB hb); clear BK309 HB; obtain ⟨BK309, HB⟩ := h_; (try clear hb); (try clear hk); (try clear hi)))
  go_ret
  exact ⟨KE, KB⟩

/-! ### spec_l6Copy: function 41 -/
def spec_l6Copy.f (l0_0 : List (S35)) (l0_1 : List (S35)) (a0_2 : Int) : Option ((List (S35)) × (List (S35)) × Int) := (some (([] : List (S35)) : List (S35))).bind fun y316 => (if y316.length + l0_0.length < 3518437208883 then ((some (([] : List (S35)) : List (S35))).bind fun y322 => (if y322.length + l0_1.length < 3518437208883 then (some ((y316 ++ l0_0), (y322 ++ l0_1), a0_2)) else (none))) else (none))
def spec_l6Copy.T1 : Bool × List (List Nat × List Nat) := (true, [([], []), ([], []), ([1], [1]), ([0, 2], [0, 2]), ([], []), ([], []), ([5], [5]), ([4, 6, 3], [4, 6]), ([], []), ([8], [8]), ([3, 7, 9], [3, 7, 9]), ([10, 7, 0, 1, 2, 3, 4, 5, 6, 7, 8, 9, 10], [10])])
def spec_l6Copy.B1 : List Nat := [0, 0, 2, 7, 0, 0, 32, 127, 0, 256, 1023, 2047]
theorem spec_l6Copy.tab1 : rtab .any (opsOf Try.f41 1) = spec_l6Copy.T1 := by kernel_rfl
theorem spec_l6Copy.bits1 : waitsOk spec_l6Copy.T1.2 spec_l6Copy.B1 = true := by kernel_rfl
set_option maxHeartbeats 8000000 in
set_option maxRecDepth 100000 in
theorem spec_l6Copy.calls (A0_0 : Option Addr) (c0_0 : Nat) (l0_0 : List (S35)) (A0_1 : Option Addr) (c0_1 : Nat) (l0_1 : List (S35)) (a0_2 : Int) (r1 : List (S35)) (r2 : List (S35)) (r3 : Int) (w : World) (hr0_0 : Kd.C k35 w A0_0 l0_0.length l0_0) (hc0_0 : l0_0.length ≤ c0_0) (hr0_1 : Kd.C k35 w A0_1 l0_1.length l0_1) (hc0_1 : l0_1.length ≤ c0_1) (h : spec_l6Copy.f l0_0 l0_1 a0_2 = some (r1, r2, r3)) :
  Calls Try.prog 41 #[.agg #[.slice A0_0 l0_0.length c0_0, .slice A0_1 l0_1.length c0_1, .int .i64 a0_2]] w fun e w' => ∃ v0_ v1_ : Value, e = .returned (.agg #[v0_, v1_, .int .i64 r3]) ∧ Kd.R k35 35 w' w.heap.size (fun k_ => some k_ ≠ (v1_ : Value).ownBlock) v0_ r1 ∧ Kd.R k35 35 w' w.heap.size (fun k_ => some k_ ≠ (v0_ : Value).ownBlock) v1_ r2 ∧ Below w.heap.size w w' := by
 have hu31 := Try.underlying31
 have HR0_0 := Aside0.mk hr0_0
 have HC0_0 := Aside0.mk hc0_0
 clear hr0_0 hc0_0
 have HR0_1 := Aside0.mk hr0_1
 have HC0_1 := Aside0.mk hc0_1
 clear hr0_1 hc0_1
 have HB := Aside0.mk (Below.refl w.heap.size w)
 have H : ((some (([] : List (S35)) : List (S35))).bind fun y316 => (if y316.length + l0_0.length < 3518437208883 then ((some (([] : List (S35)) : List (S35))).bind fun y322 => (if y322.length + l0_1.length < 3518437208883 then (some ((y316 ++ l0_0), (y322 ++ l0_1), a0_2)) else (none))) else (none))) = some (r1, r2, r3) := h
 clear h
 obtain ⟨y316, hy316⟩ : ∃ y_ : List (S35), y_ = (([] : List (S35))) := ⟨_, rfl⟩
 replace H : (if y316.length + l0_0.length < 3518437208883 then ((some (([] : List (S35)) : List (S35))).bind fun y322 => (if y322.length + l0_1.length < 3518437208883 then (some ((y316 ++ l0_0), (y322 ++ l0_1), a0_2)) else (none))) else (none)) = some (r1, r2, r3) := by first | (rw [hy316]; with_reducible exact H) | (have H2_ := (Option.bind_some _ _).symm.trans H; rw [hy316]; with_reducible exact H2_) | (have H2_ := (Option.bind_some _ _).symm.trans H; with_reducible exact H2_) | with_reducible exact H | (rw [hy316]; exact H) | exact H
 have Ny316 := Aside0.mk hy316
 clear hy316
 by_cases c2 : y316.length + l0_0.length < 3518437208883
 ·rw [if_pos c2] at H
  have LMc2 := Aside0.mk c2
  clear c2
  obtain ⟨y319, hy319⟩ : ∃ y_ : List (S35), y_ = (y316 ++ l0_0) := ⟨_, rfl⟩
  replace H : ((some (([] : List (S35)) : List (S35))).bind fun y322 => (if y322.length + l0_1.length < 3518437208883 then (some (y319, (y322 ++ l0_1), a0_2)) else (none))) = some (r1, r2, r3) := by first | (rw [hy319]; with_reducible exact H) | (have H2_ := (Option.bind_some _ _).symm.trans H; rw [hy319]; with_reducible exact H2_) | (have H2_ := (Option.bind_some _ _).symm.trans H; with_reducible exact H2_) | with_reducible exact H | (rw [hy319]; exact H) | exact H
  have Ny319 := Aside0.mk hy319
  clear hy319
  obtain ⟨y322, hy322⟩ : ∃ y_ : List (S35), y_ = (([] : List (S35))) := ⟨_, rfl⟩
  replace H : (if y322.length + l0_1.length < 3518437208883 then (some (y319, (y322 ++ l0_1), a0_2)) else (none)) = some (r1, r2, r3) := by first | (rw [hy322]; with_reducible exact H) | (have H2_ := (Option.bind_some _ _).symm.trans H; rw [hy322]; with_reducible exact H2_) | (have H2_ := (Option.bind_some _ _).symm.trans H; with_reducible exact H2_) | with_reducible exact H | (rw [hy322]; exact H) | exact H
  have Ny322 := Aside0.mk hy322
  clear hy322
  by_cases c3 : y322.length + l0_1.length < 3518437208883
  ·rw [if_pos c3] at H
   have LMc3 := Aside0.mk c3
   clear c3
   obtain ⟨y325, hy325⟩ : ∃ y_ : List (S35), y_ = (y322 ++ l0_1) := ⟨_, rfl⟩
   replace H : (some (y319, y325, a0_2)) = some (r1, r2, r3) := by first | (rw [hy325]; with_reducible exact H) | (have H2_ := (Option.bind_some _ _).symm.trans H; rw [hy325]; with_reducible exact H2_) | (have H2_ := (Option.bind_some _ _).symm.trans H; with_reducible exact H2_) | with_reducible exact H | (rw [hy325]; exact H) | exact H
   have Ny325 := Aside0.mk hy325
   clear hy325
   simp only [Option.some.injEq, Prod.mk.injEq] at H
   obtain ⟨rfl, rfl, rfl⟩ := H
   go_enter Try.func41, Try.ntmps41
   try go_wp2_with (first | ((with_reducible refine gate_dst (N := 1) rfl ?_); refine BE 1 #[.slice A0_0 l0_0.length c0_0, .slice A0_1 l0_1.length c0_1, .int .i64 a0_2] 31 ?_; intro gb314 hg w4 hbox hb; have h_ := P4 (below_step KB hb) hbox (KG hg : w.heap.size ≤ gb314) (KG hg : w.heap.size ≤ gb314); clear HB; obtain ⟨HB, BK314, GW314, GE314⟩ := h_; clear hb hbox hg) | ((with_reducible refine gate_dst (N := 2) rfl ?_); refine BE 2 #[.slice none 0 0, .slice none 0 0, .int .i64 0] 31 ?_; intro gb315 hg w5 hbox hb; have h_ := P7 (BL BK314.out hb) (below_step KB hb) hbox (KG hg : w.heap.size ≤ gb315) (KG hg : w.heap.size ≤ gb315) (NX hg BK314.out) (Ne.symm (NX hg BK314.out)); clear BK314 HB; obtain ⟨BK314, HB, BK315, GW315, GE315, NB314_315, NB315_314⟩ := h_; clear hb hbox hg))
   have h_ := P3 (blk_drew BK314.out) (blk_drew BK315.out) (below_drew1 HB.out)
   clear BK314 BK315 HB
   obtain ⟨BK314, BK315, HB⟩ := h_
   refine start_ (n := 12) (S := fun w' => w'.cell? ⟨gb314, 0, none⟩ = some (.slice A0_0 l0_0.length c0_0) ∧ w'.cell? ⟨gb314, 1, none⟩ = some (.slice A0_1 l0_1.length c0_1) ∧ w'.cell? ⟨gb314, 2, none⟩ = some (.int .i64 a0_2)) (ds := []) #[false, false, false, false, false, false, false, false, false, false, false, false] (by kernel_rfl) rfl rfl ⟨(blk_cell BK314.out 0).trans rfl, (blk_cell BK314.out 1).trans rfl, (blk_cell BK314.out 2).trans rfl⟩ (fun hHeld => ?_); refine with_tabW spec_l6Copy.tab1 spec_l6Copy.bits1 (fun HT_ HW_ => ?_)
   generalize w5.drew = w6 at BK314 BK315 HB hHeld ⊢
   refine pure_ (i := 1) (N := some 4) (v := ?_) (a' := ?_) #[false, true, false, false, false, false, false, false, false, false, false, false] rfl rfl (any_of HT_.out (by kernel_rfl)) (fun _ _ _ h => h) (Or.inl ⟨by rfl, ?_⟩) ?_ ?_
   rotate_left
   ·intro w'
    go_simp
    with_reducible rfl
   rotate_left
   ·exact KA
   refine pure_ (i := 5) (N := some 8) (v := ?_) (a' := ?_) #[false, true, false, false, false, true, false, false, false, false, false, false] rfl rfl (any_of HT_.out (by kernel_rfl)) (fun _ _ _ h => h) (Or.inl ⟨by rfl, ?_⟩) ?_ ?_
   rotate_left
   ·intro w'
    go_simp
    with_reducible rfl
   rotate_left
   ·exact KA
   refine pure_ (i := 8) (N := some 11) (v := ?_) (a' := ?_) #[false, true, false, false, false, true, false, false, true, false, false, false] rfl rfl (any_of HT_.out (by kernel_rfl)) (fun _ _ _ h => h) (Or.inl ⟨by rfl, ?_⟩) ?_ ?_
   rotate_left
   ·intro w'
    go_simp
    with_reducible rfl
   rotate_left
   ·exact KA
   refine take_ (i := 2) (N := some 5) (v := ?_) (a' := ?_) #[false, true, true, false, false, true, false, false, true, false, false, false] rfl rfl (take_ofW HT_.out HW_.out (by kernel_rfl)) (fun _ _ _ h => h) (Or.inl ⟨by rfl, ?_⟩) hHeld ?_ ?_
   rotate_left
   ·rintro w' ⟨s0, s1, s2⟩
    go_simp
    with_reducible rfl
   rotate_left
   ·exact KA
   refine take_ (i := 6) (N := some 9) (v := ?_) (a' := ?_) #[false, true, true, false, false, true, true, false, true, false, false, false] rfl rfl (take_ofW HT_.out HW_.out (by kernel_rfl)) (fun _ _ _ h => h) (Or.inl ⟨by rfl, ?_⟩) hHeld ?_ ?_
   rotate_left
   ·rintro w' ⟨s0, s1, s2⟩
    go_simp
    with_reducible rfl
   rotate_left
   ·exact KA
   refine take_ (i := 9) (N := some 12) (v := ?_) (a' := ?_) #[false, true, true, false, false, true, true, false, true, true, false, false] rfl rfl (take_ofW HT_.out HW_.out (by kernel_rfl)) (fun _ _ _ h => h) (Or.inl ⟨by rfl, ?_⟩) hHeld ?_ ?_
   rotate_left
   ·rintro w' ⟨s0, s1, s2⟩
    go_simp
    with_reducible rfl
   rotate_left
   ·exact KA
   refine join_ (σ := Value × Value × Value) 3 #[true, true, true, true, true, true, true, false, true, true, false, false] (fun s_ => [(3, s_.1), (6, s_.2.1), (7, s_.2.2)]) (fun s_ w' => (w'.cell? ⟨gb314, 0, none⟩ = some (.slice A0_0 l0_0.length c0_0) ∧ w'.cell? ⟨gb314, 1, none⟩ = some (.slice A0_1 l0_1.length c0_1) ∧ w'.cell? ⟨gb314, 2, none⟩ = some (.int .i64 a0_2)) ∧ (Kd.R k35 35 w' w.heap.size (fun k_ => some k_ ≠ (s_.2.2 : Value).ownBlock) s_.2.1 y319) ∧ (Kd.R k35 35 w' w.heap.size (fun k_ => some k_ ≠ (s_.2.1 : Value).ownBlock) s_.2.2 y322) ∧ (w'.heap[gb314]? = some (.cells #[.slice A0_0 l0_0.length c0_0, .slice A0_1 l0_1.length c0_1, .int .i64 a0_2] 31 (0, 0))) ∧ (w'.heap[gb315]? = some (.cells #[.slice none 0 0, .slice none 0 0, .int .i64 0] 31 (0, 0))) ∧ (Below w.heap.size w w')) ?_ ?_
   rotate_left
   ·intro hCont
    refine two_ (i := 0) (j := 4) (Ni := some 3) (Nj := some 7) #[true, true, true, false, false, true, true, false, true, true, false, false] #[false, true, true, false, true, true, true, false, true, true, false, false] rfl rfl rfl rfl (two_of HT_.out (by kernel_rfl)) (by decide) (by decide) (fun K hK => ?_) (fun K hK => ?_)
    ·skip
     refine Kd.R_lit_step k35 _ 35 ?hg (N := 3) ?hd (xs := ([] : List (S35))) (inner := []) (ok := fun _ => True) (okp := fun _ => True) ?hr ?hp (fun _ hk => hk) trivial (Below.refl _ _) (Nat.le_refl _) (by simp) ?_; (case hd => rfl); (case hg => rfl); (case hr => first | (go_simp; done) | (go_simp; rfl)); (case hp => exact (Reps.none _ _))
     intro v317 w7 ho8 hb hg_ hnew_
     clear hg_ hnew_
     (first | rw [← Ny316.out] at ho8 | (simp only [Int.reduceToNat] at ho8; rw [← Ny316.out] at ho8))
     have h_ := P4 (Kd.R_lower ho8 (below_size KB)) (BL BK314.out hb) (BL BK315.out hb) (below_step KB hb)
     clear BK314 BK315 HB
     obtain ⟨HO318, BK314, BK315, HB⟩ := h_
     clear hb ho8
     refine hK.out _ _ ⟨(blk_cell BK314.out 0).trans rfl, (blk_cell BK314.out 1).trans rfl, (blk_cell BK314.out 2).trans rfl⟩ (fun hHeld => ?_)
     clear hK K
     refine norm_ (a' := ?_) ?_ ?_
     rotate_left
     ·show Act.put _ (some 3) _ = _; exact KA
     refine two_ (i := 3) (j := 4) (Ni := some 6) (Nj := some 7) #[true, true, true, true, false, true, true, false, true, true, false, false] #[true, true, true, false, true, true, true, false, true, true, false, false] rfl rfl rfl rfl (two_of HT_.out (by kernel_rfl)) (by decide) (by decide) (fun K hK => ?_) (fun K hK => ?_)
     ·skip
      refine Kd.R_append_rows_step k35 (w0 := w) w.heap.size (by rfl) (.tmp 3) (.tmp 5) 29 35 (.agg #[(.int .i64 0), (.int .i64 0), (.bool false), (.string ⟨#[]⟩)]) 40 rfl Try.underlying29 info35 rfl (by decide) (by omega) v317 y316 l0_0 _ _ _ (fun _ => True) (fun _ => False) rfl rfl ?aO ?aR (fun _ _ h => h) (fun _ h => h.elim) ?aF ?aB ?aS ?aL ?_
      (case aR => repeat (first | exact (Kd.C_below HR0_0.out HB.out) | (with_reducible refine Kd.C_alloc ?_ _) | (with_reducible refine Kd.C_drewN ?_ _) | (with_reducible refine Kd.C_drew ?_)))
      (case aB => exact KB)
      (case aF => exact (fun _ _ => trivial))
      (case aO => exact (KR HO318.out))
      (case aS => exact (below_size KB))
      (case aL => have := LMc2.out; omega)
      intro v320 w9 ho hb hg hat
      rw [← Ny319.out] at ho
      have h_ := P4 (BW BK314.out hg (Kd.R_ne HO318.out BK314.out (by decide))) (BW BK315.out hg (Kd.R_ne HO318.out BK315.out (by decide))) hb ho
      clear BK314 BK315 HB HO318
      obtain ⟨BK314, BK315, HB, HO321⟩ := h_
      clear ho hb hg hat
      refine hK.out _ _ ⟨(blk_cell BK314.out 0).trans rfl, (blk_cell BK314.out 1).trans rfl, (blk_cell BK314.out 2).trans rfl⟩ (fun hHeld => ?_)
      clear hK K
      refine norm_ (a' := ?_) ?_ ?_
      rotate_left
      ·show Act.put _ (some 6) _ = _; exact KA
      refine one_ (i := 4) (N := some 7) #[true, true, true, true, true, true, true, false, true, true, false, false] rfl rfl (one_of HT_.out (by kernel_rfl)) (by decide) (fun K hK => ?_)
      refine Kd.R_lit_step k35 _ 35 ?hg (N := 7) ?hd (xs := ([] : List (S35))) (inner := []) (ok := fun _ => True) (okp := fun _ => True) ?hr ?hp (fun _ hk => hk) trivial (Below.refl _ _) (Nat.le_refl _) (by simp) ?_; (case hd => rfl); (case hg => rfl); (case hr => first | (go_simp; done) | (go_simp; rfl)); (case hp => exact (Reps.none _ _))
      intro v323 w10 ho11 hb hg_ hnew_
      clear hg_ hnew_
      (first | rw [← Ny322.out] at ho11 | (simp only [Int.reduceToNat] at ho11; rw [← Ny322.out] at ho11))
      have h_ := P5 (Kd.R_elder' (KR HO321.out) (Kd.R_base ho11) hb) (Kd.R_lower (Kd.R_new' ho11 (Kd.R_lt (KR HO321.out))) (below_size KB)) (BL BK314.out hb) (BL BK315.out hb) (below_step KB hb)
      clear HO321 BK314 BK315 HB
      obtain ⟨HO321, HO324, BK314, BK315, HB⟩ := h_
      clear hb ho11
      refine hK.out _ _ ⟨(blk_cell BK314.out 0).trans rfl, (blk_cell BK314.out 1).trans rfl, (blk_cell BK314.out 2).trans rfl⟩ (fun hHeld => ?_)
      clear hK K
      refine norm_ (a' := ?_) ?_ ?_
      rotate_left
      ·show Act.put _ (some 7) _ = _; exact KA
      exact norm_ (by simp only [putAll, Act.put, List.setIfInBounds_toArray, List.set_cons_zero, List.set_cons_succ]) (hCont (v317, v320, v323) _ ⟨hHeld, (by (with_reducible repeat (first | apply Kd.R_alloc | apply Kd.R_drewN | apply Kd.R_drew)); exact Kd.R_mono HO321.out (fun _ hk => hk.2)), (by (with_reducible repeat (first | apply Kd.R_alloc | apply Kd.R_drewN | apply Kd.R_drew)); exact Kd.R_mono HO324.out (fun _ hk => hk.2)), KK, KK, KB⟩)
     ·skip
      refine Kd.R_lit_step k35 _ 35 ?hg (N := 7) ?hd (xs := ([] : List (S35))) (inner := []) (ok := fun _ => True) (okp := fun _ => True) ?hr ?hp (fun _ hk => hk) trivial (Below.refl _ _) (Nat.le_refl _) (by simp) ?_; (case hd => rfl); (case hg => rfl); (case hr => first | (go_simp; done) | (go_simp; rfl)); (case hp => exact (Reps.none _ _))
      intro v323 w9 ho10 hb hg_ hnew_
      clear hg_ hnew_
      (first | rw [← Ny322.out] at ho10 | (simp only [Int.reduceToNat] at ho10; rw [← Ny322.out] at ho10))
      have h_ := P5 (Kd.R_elder' (KR HO318.out) (Kd.R_base ho10) hb) (Kd.R_lower (Kd.R_new' ho10 (Kd.R_lt (KR HO318.out))) (below_size KB)) (BL BK314.out hb) (BL BK315.out hb) (below_step KB hb)
      clear HO318 BK314 BK315 HB
      obtain ⟨HO318, HO324, BK314, BK315, HB⟩ := h_
      clear hb ho10
      refine hK.out _ _ ⟨(blk_cell BK314.out 0).trans rfl, (blk_cell BK314.out 1).trans rfl, (blk_cell BK314.out 2).trans rfl⟩ (fun hHeld => ?_)
      clear hK K
      refine norm_ (a' := ?_) ?_ ?_
      rotate_left
      ·show Act.put _ (some 7) _ = _; exact KA
      refine one_ (i := 3) (N := some 6) #[true, true, true, true, true, true, true, false, true, true, false, false] rfl rfl (one_of HT_.out (by kernel_rfl)) (by decide) (fun K hK => ?_)
      refine Kd.R_append_rows_step k35 (w0 := w) w.heap.size (by rfl) (.tmp 3) (.tmp 5) 29 35 (.agg #[(.int .i64 0), (.int .i64 0), (.bool false), (.string ⟨#[]⟩)]) 40 rfl Try.underlying29 info35 rfl (by decide) (by omega) v317 y316 l0_0 _ _ _ (fun k_ => some k_ ≠ (v323 : Value).ownBlock) (fun _ => False) rfl rfl ?aO ?aR (fun _ _ h => h) (fun _ h => h.elim) ?aF ?aB ?aS ?aL ?_
      (case aR => repeat (first | exact (Kd.C_below HR0_0.out HB.out) | (with_reducible refine Kd.C_alloc ?_ _) | (with_reducible refine Kd.C_drewN ?_ _) | (with_reducible refine Kd.C_drew ?_)))
      (case aB => exact KB)
      (case aF => exact (fun k_ hk => Kd.fresh' (Kd.R_lt (KR HO324.out)) k_ hk))
      (case aO => exact (by (with_reducible repeat (first | apply Kd.R_alloc | apply Kd.R_drewN | apply Kd.R_drew)); exact Kd.R_mono HO318.out (fun _ hk => hk.2)))
      (case aS => exact (below_size KB))
      (case aL => have := LMc2.out; omega)
      intro v320 w11 ho hb hg hat
      rw [← Ny319.out] at ho
      have h_ := P5 (BW BK314.out hg (Kd.R_ne HO318.out BK314.out (by decide))) (BW BK315.out hg (Kd.R_ne HO318.out BK315.out (by decide))) (Kd.R_after (ok := (fun _ => True)) (KR HO324.out) hg hat) hb ho
      clear BK314 BK315 HO324 HB HO318
      obtain ⟨BK314, BK315, HO324, HB, HO321⟩ := h_
      clear ho hb hg hat
      refine hK.out _ _ ⟨(blk_cell BK314.out 0).trans rfl, (blk_cell BK314.out 1).trans rfl, (blk_cell BK314.out 2).trans rfl⟩ (fun hHeld => ?_)
      clear hK K
      refine norm_ (a' := ?_) ?_ ?_
      rotate_left
      ·show Act.put _ (some 6) _ = _; exact KA
      exact norm_ (by simp only [putAll, Act.put, List.setIfInBounds_toArray, List.set_cons_zero, List.set_cons_succ]) (hCont (v317, v320, v323) _ ⟨hHeld, (KR HO321.out), (by (with_reducible repeat (first | apply Kd.R_alloc | apply Kd.R_drewN | apply Kd.R_drew)); exact Kd.R_mono HO324.out (fun _ hk => hk.2)), KK, KK, KB⟩)
    ·skip
     refine Kd.R_lit_step k35 _ 35 ?hg (N := 7) ?hd (xs := ([] : List (S35))) (inner := []) (ok := fun _ => True) (okp := fun _ => True) ?hr ?hp (fun _ hk => hk) trivial (Below.refl _ _) (Nat.le_refl _) (by simp) ?_; (case hd => rfl); (case hg => rfl); (case hr => first | (go_simp; done) | (go_simp; rfl)); (case hp => exact (Reps.none _ _))
     intro v323 w7 ho8 hb hg_ hnew_
     clear hg_ hnew_
     (first | rw [← Ny322.out] at ho8 | (simp only [Int.reduceToNat] at ho8; rw [← Ny322.out] at ho8))
     have h_ := P4 (Kd.R_lower ho8 (below_size KB)) (BL BK314.out hb) (BL BK315.out hb) (below_step KB hb)
     clear BK314 BK315 HB
     obtain ⟨HO324, BK314, BK315, HB⟩ := h_
     clear hb ho8
     refine hK.out _ _ ⟨(blk_cell BK314.out 0).trans rfl, (blk_cell BK314.out 1).trans rfl, (blk_cell BK314.out 2).trans rfl⟩ (fun hHeld => ?_)
     clear hK K
     refine norm_ (a' := ?_) ?_ ?_
     rotate_left
     ·show Act.put _ (some 7) _ = _; exact KA
     refine one_ (i := 0) (N := some 3) #[true, true, true, false, true, true, true, false, true, true, false, false] rfl rfl (one_of HT_.out (by kernel_rfl)) (by decide) (fun K hK => ?_)
     refine Kd.R_lit_step k35 _ 35 ?hg (N := 3) ?hd (xs := ([] : List (S35))) (inner := []) (ok := fun _ => True) (okp := fun _ => True) ?hr ?hp (fun _ hk => hk) trivial (Below.refl _ _) (Nat.le_refl _) (by simp) ?_; (case hd => rfl); (case hg => rfl); (case hr => first | (go_simp; done) | (go_simp; rfl)); (case hp => exact (Reps.none _ _))
     intro v317 w9 ho10 hb hg_ hnew_
     clear hg_ hnew_
     (first | rw [← Ny316.out] at ho10 | (simp only [Int.reduceToNat] at ho10; rw [← Ny316.out] at ho10))
     have h_ := P5 (Kd.R_elder' (KR HO324.out) (Kd.R_base ho10) hb) (Kd.R_lower (Kd.R_new' ho10 (Kd.R_lt (KR HO324.out))) (below_size KB)) (BL BK314.out hb) (BL BK315.out hb) (below_step KB hb)
     clear HO324 BK314 BK315 HB
     obtain ⟨HO324, HO318, BK314, BK315, HB⟩ := h_
     clear hb ho10
     refine hK.out _ _ ⟨(blk_cell BK314.out 0).trans rfl, (blk_cell BK314.out 1).trans rfl, (blk_cell BK314.out 2).trans rfl⟩ (fun hHeld => ?_)
     clear hK K
     refine norm_ (a' := ?_) ?_ ?_
     rotate_left
     ·show Act.put _ (some 3) _ = _; exact KA
     refine one_ (i := 3) (N := some 6) #[true, true, true, true, true, true, true, false, true, true, false, false] rfl rfl (one_of HT_.out (by kernel_rfl)) (by decide) (fun K hK => ?_)
     refine Kd.R_append_rows_step k35 (w0 := w) w.heap.size (by rfl) (.tmp 3) (.tmp 5) 29 35 (.agg #[(.int .i64 0), (.int .i64 0), (.bool false), (.string ⟨#[]⟩)]) 40 rfl Try.underlying29 info35 rfl (by decide) (by omega) v317 y316 l0_0 _ _ _ (fun k_ => some k_ ≠ (v323 : Value).ownBlock) (fun _ => False) rfl rfl ?aO ?aR (fun _ _ h => h) (fun _ h => h.elim) ?aF ?aB ?aS ?aL ?_
     (case aR => repeat (first | exact (Kd.C_below HR0_0.out HB.out) | (with_reducible refine Kd.C_alloc ?_ _) | (with_reducible refine Kd.C_drewN ?_ _) | (with_reducible refine Kd.C_drew ?_)))
     (case aB => exact KB)
     (case aF => exact (fun k_ hk => Kd.fresh' (Kd.R_lt (KR HO324.out)) k_ hk))
     (case aO => exact (by (with_reducible repeat (first | apply Kd.R_alloc | apply Kd.R_drewN | apply Kd.R_drew)); exact Kd.R_mono HO318.out (fun _ hk => hk.2)))
     (case aS => exact (below_size KB))
     (case aL => have := LMc2.out; omega)
     intro v320 w11 ho hb hg hat
     rw [← Ny319.out] at ho
     have h_ := P5 (BW BK314.out hg (Kd.R_ne HO318.out BK314.out (by decide))) (BW BK315.out hg (Kd.R_ne HO318.out BK315.out (by decide))) (Kd.R_after (ok := (fun _ => True)) (KR HO324.out) hg hat) hb ho
     clear BK314 BK315 HO324 HB HO318
     obtain ⟨BK314, BK315, HO324, HB, HO321⟩ := h_
     clear ho hb hg hat
     refine hK.out _ _ ⟨(blk_cell BK314.out 0).trans rfl, (blk_cell BK314.out 1).trans rfl, (blk_cell BK314.out 2).trans rfl⟩ (fun hHeld => ?_)
     clear hK K
     refine norm_ (a' := ?_) ?_ ?_
     rotate_left
     ·show Act.put _ (some 6) _ = _; exact KA
     exact norm_ (by simp only [putAll, Act.put, List.setIfInBounds_toArray, List.set_cons_zero, List.set_cons_succ]) (hCont (v317, v320, v323) _ ⟨hHeld, (KR HO321.out), (by (with_reducible repeat (first | apply Kd.R_alloc | apply Kd.R_drewN | apply Kd.R_drew)); exact Kd.R_mono HO324.out (fun _ hk => hk.2)), KK, KK, KB⟩)
   rintro ⟨v317, v320, v323⟩ w12 ⟨hS_, h0_, h1_, h2_, h3_, h4_⟩
   have n0_ : Aside0 (Kd.R k35 35 w12 w.heap.size (fun k_ => some k_ ≠ (v323 : Value).ownBlock) v320 y319) := ⟨h0_⟩
   have n1_ : Aside0 (Kd.R k35 35 w12 w.heap.size (fun k_ => some k_ ≠ (v320 : Value).ownBlock) v323 y322) := ⟨h1_⟩
   have n2_ : Aside0 (w12.heap[gb314]? = some (.cells #[.slice A0_0 l0_0.length c0_0, .slice A0_1 l0_1.length c0_1, .int .i64 a0_2] 31 (0, 0))) := ⟨h2_⟩
   have n3_ : Aside0 (w12.heap[gb315]? = some (.cells #[.slice none 0 0, .slice none 0 0, .int .i64 0] 31 (0, 0))) := ⟨h3_⟩
   have n4_ : Aside0 (Below w.heap.size w w12) := ⟨h4_⟩
   clear BK314
   clear BK315
   clear HB
   clear h0_ h1_ h2_ h3_ h4_
   have HO321 := n0_
   have HO324 := n1_
   have BK314 := n2_
   have BK315 := n3_
   have HB := n4_
   clear n0_ n1_ n2_ n3_ n4_
   have hHeld : w12.cell? ⟨gb314, 0, none⟩ = some (.slice A0_0 l0_0.length c0_0) ∧ w12.cell? ⟨gb314, 1, none⟩ = some (.slice A0_1 l0_1.length c0_1) ∧ w12.cell? ⟨gb314, 2, none⟩ = some (.int .i64 a0_2) := hS_
   refine norm_ (a' := ?_) ?_ ?_
   rotate_left
   ·simp only [putAll, Act.put, List.setIfInBounds_toArray, List.set_cons_zero, List.set_cons_succ]
    rfl
   refine one_ (i := 7) (N := some 10) #[true, true, true, true, true, true, true, true, true, true, false, false] rfl rfl (one_of HT_.out (by kernel_rfl)) (by decide) (fun K hK => ?_)
   refine Kd.R_append_rows_step k35 (w0 := w) w.heap.size (by rfl) (.tmp 7) (.tmp 9) 29 35 (.agg #[(.int .i64 0), (.int .i64 0), (.bool false), (.string ⟨#[]⟩)]) 40 rfl Try.underlying29 info35 rfl (by decide) (by omega) v323 y322 l0_1 _ _ _ (fun k_ => some k_ ≠ (v320 : Value).ownBlock) (fun _ => False) rfl rfl ?aO ?aR (fun _ _ h => h) (fun _ h => h.elim) ?aF ?aB ?aS ?aL ?_
   (case aR => repeat (first | exact (Kd.C_below HR0_1.out HB.out) | (with_reducible refine Kd.C_alloc ?_ _) | (with_reducible refine Kd.C_drewN ?_ _) | (with_reducible refine Kd.C_drew ?_)))
   (case aB => exact KB)
   (case aF => exact (fun k_ hk => Kd.fresh' (Kd.R_lt (KR HO321.out)) k_ hk))
   (case aO => exact (KR HO324.out))
   (case aS => exact (below_size KB))
   (case aL => have := LMc3.out; omega)
   intro v326 w13 ho hb hg hat
   rw [← Ny325.out] at ho
   have h_ := P5 (BW BK314.out hg (Kd.R_ne HO324.out BK314.out (by decide))) (BW BK315.out hg (Kd.R_ne HO324.out BK315.out (by decide))) (Kd.R_after (ok := (fun _ => True)) (by (with_reducible repeat (first | apply Kd.R_alloc | apply Kd.R_drewN | apply Kd.R_drew)); exact Kd.R_mono HO321.out (fun _ hk => ⟨trivial, hk⟩)) hg hat) hb ho
   clear BK314 BK315 HO321 HB HO324
   obtain ⟨BK314, BK315, HO321, HB, HO327⟩ := h_
   clear ho hb hg hat
   obtain ⟨Ao14, co14, eo14⟩ := Kd.R_slice HO327.out
   (first | subst eo14 | (injection eo14 with f1_ f2_ f3_; have f4_ := f1_.symm; have f5_ := f3_.symm; clear f1_ f2_ f3_; subst f4_; subst f5_))
   obtain ⟨Ao15, co15, eo15⟩ := Kd.R_slice HO321.out
   (first | subst eo15 | (injection eo15 with f1_ f2_ f3_; have f4_ := f1_.symm; have f5_ := f3_.symm; clear f1_ f2_ f3_; subst f4_; subst f5_))
   refine hK.out _ _ ⟨(blk_cell BK314.out 0).trans rfl, (blk_cell BK314.out 1).trans rfl, (blk_cell BK314.out 2).trans rfl⟩ (fun hHeld => ?_)
   clear hK K
   refine norm_ (a' := ?_) ?_ ?_
   rotate_left
   ·show Act.put _ (some 10) _ = _; exact KA
   refine pure_ (i := 10) (N := some 13) (v := ?_) (a' := ?_) #[true, true, true, true, true, true, true, true, true, true, true, false] rfl rfl (any_of HT_.out (by kernel_rfl)) (fun _ _ _ h => h) (Or.inl ⟨by rfl, ?_⟩) ?_ ?_
   rotate_left
   ·intro w'
    go_simp
    with_reducible rfl
   rotate_left
   ·exact KA
   refine one_ (i := 11) (N := none) #[true, true, true, true, true, true, true, true, true, true, true, true] rfl rfl (one_of HT_.out (by kernel_rfl)) (by decide) (fun K hK => ?_)
   have hs16 : w13.cell? ⟨gb315, 0, none⟩ = some (.slice none 0 0) := (blk_cell BK315.out 0).trans rfl
   have hfs16 := blk_frozen BK315.out 0
   have hns16_0 := NB314_315.out
   have hms16_0 := NB315_314.out
   have hs17 : w13.cell? ⟨gb315, 1, none⟩ = some (.slice none 0 0) := (blk_cell BK315.out 1).trans rfl
   have hfs17 := blk_frozen BK315.out 1
   have hns17_0 := NB314_315.out
   have hms17_0 := NB315_314.out
   have hs18 : w13.cell? ⟨gb315, 2, none⟩ = some (.int .i64 0) := (blk_cell BK315.out 2).trans rfl
   have hfs18 := blk_frozen BK315.out 2
   have hns18_0 := NB314_315.out
   have hms18_0 := NB315_314.out
   refine skip_ (w1 := ?_) (by rfl) rfl ?_ ?_
   rotate_left
   ·go_simp
    rfl
   refine hK.out _ _ ⟨((cell_far (p := ⟨gb315, _, none⟩) NB314_315.out _).trans (((cell_far (p := ⟨gb315, _, none⟩) NB314_315.out _).trans (((cell_far (p := ⟨gb315, _, none⟩) NB314_315.out _).trans (hHeld.1)))))), ((cell_far (p := ⟨gb315, _, none⟩) NB314_315.out _).trans (((cell_far (p := ⟨gb315, _, none⟩) NB314_315.out _).trans (((cell_far (p := ⟨gb315, _, none⟩) NB314_315.out _).trans (hHeld.2.1)))))), ((cell_far (p := ⟨gb315, _, none⟩) NB314_315.out _).trans (((cell_far (p := ⟨gb315, _, none⟩) NB314_315.out _).trans (((cell_far (p := ⟨gb315, _, none⟩) NB314_315.out _).trans (hHeld.2.2))))))⟩ (fun hHeld => ?_)
   clear hK K
   refine done_ (done_of HT_.out (by kernel_rfl)) ?_
   try go_wp2
   refine bodyPost_ret (results_cell_row rfl _ _ gb315 31 #[.slice Ao15 y319.length co15, .slice Ao14 y325.length co14, .int .i64 a0_2] (0, 0) _ rfl (by refine SK ?_; refine blk_put (cs := #[.slice Ao15 y319.length co15, .slice Ao14 y325.length co14, .int .i64 0]) ?_ 2 _ rfl; refine SK ?_; refine blk_put (cs := #[.slice Ao15 y319.length co15, .slice none 0 0, .int .i64 0]) ?_ 1 _ rfl; refine SK ?_; refine blk_put (cs := #[.slice none 0 0, .slice none 0 0, .int .i64 0]) ?_ 0 _ rfl; exact SK BK315.out) Try.underlying31 rfl (by kernel_rfl)) rfl ?_
   exact ⟨_, _, KE, RQ (RT HO321.out BK315.out) (hm := fun _ h => h.1.2), RQ (RT HO327.out BK315.out), KB⟩
  ·rw [if_neg c3] at H
   exact absurd H (by simp)
 ·rw [if_neg c2] at H
  exact absurd H (by simp)

/-! ### spec_l6Takes: function 43 -/
def spec_l6Takes.f (l0_0 : List (S35)) (l0_1 : List (S35)) (a0_2 : Int) (a1_0 : Int) (a1_1 : Int) (a1_2 : Bool) (a1_3 : ByteArray) : Option (Bool) := if a1_1 = 0 then ((spec_EpochOf.f a1_0).bind fun t330 => (some (decide (t330 > a0_2)))) else (some (decide (a1_1 > a0_2)))
set_option maxHeartbeats 8000000 in
set_option maxRecDepth 100000 in
theorem spec_l6Takes.calls (A0_0 : Option Addr) (c0_0 : Nat) (l0_0 : List (S35)) (A0_1 : Option Addr) (c0_1 : Nat) (l0_1 : List (S35)) (a0_2 : Int) (a1_0 : Int) (a1_1 : Int) (a1_2 : Bool) (a1_3 : ByteArray) (r : Bool) (w : World) (hr0_0 : Kd.C k35 w A0_0 l0_0.length l0_0) (hc0_0 : l0_0.length ≤ c0_0) (hr0_1 : Kd.C k35 w A0_1 l0_1.length l0_1) (hc0_1 : l0_1.length ≤ c0_1) (h : spec_l6Takes.f l0_0 l0_1 a0_2 a1_0 a1_1 a1_2 a1_3 = some r) :
  Calls Try.prog 43 #[.agg #[.slice A0_0 l0_0.length c0_0, .slice A0_1 l0_1.length c0_1, .int .i64 a0_2], .agg #[.int .i64 a1_0, .int .i64 a1_1, .bool a1_2, .string a1_3]] w fun e w' => e = .returned (.bool r) ∧ Below w.heap.size w w' := by
 have hu31 := Try.underlying31
 have hu35 := Try.underlying35
 have HR0_0 := Aside0.mk hr0_0
 have HC0_0 := Aside0.mk hc0_0
 clear hr0_0 hc0_0
 have HR0_1 := Aside0.mk hr0_1
 have HC0_1 := Aside0.mk hc0_1
 clear hr0_1 hc0_1
 have HB := Aside0.mk (Below.refl w.heap.size w)
 have H : (if a1_1 = 0 then ((spec_EpochOf.f a1_0).bind fun t330 => (some (decide (t330 > a0_2)))) else (some (decide (a1_1 > a0_2)))) = some r := h
 clear h
 by_cases c3 : a1_1 = 0
 ·rw [if_pos c3] at H
  have c3b0 : (a1_1 == 0) = true := beq_iff_eq.mpr c3
  have c3b1 : (a1_1 != 0) = false := bne_eq_false_iff_eq.mpr c3
  clear c3
  replace H := Option.bind_eq_some_iff.mp H
  obtain ⟨t330, A40, H⟩ := H
  replace H : (some (decide (t330 > a0_2))) = some r := H
  have A4 := Aside0.mk A40
  clear A40
  obtain rfl := Option.some.inj H
  go_enter Try.func43, Try.ntmps43
  go_wp2_with (first | ((with_reducible refine gate_dst (N := 2) rfl ?_); refine BE 2 #[.slice A0_0 l0_0.length c0_0, .slice A0_1 l0_1.length c0_1, .int .i64 a0_2] 31 ?_; intro gb328 hg w5 hbox hb; have h_ := P4 (below_step KB hb) hbox (KG hg : w.heap.size ≤ gb328) (KG hg : w.heap.size ≤ gb328); clear HB; obtain ⟨HB, BK328, GW328, GE328⟩ := h_; clear hb hbox hg) | ((with_reducible refine gate_dst (N := 3) rfl ?_); refine BE 3 #[.int .i64 a1_0, .int .i64 a1_1, .bool a1_2, .string a1_3] 35 ?_; intro gb329 hg w6 hbox hb; have h_ := P7 (BL BK328.out hb) (below_step KB hb) hbox (KG hg : w.heap.size ≤ gb329) (KG hg : w.heap.size ≤ gb329) (NX hg BK328.out) (Ne.symm (NX hg BK328.out)); clear BK328 HB; obtain ⟨BK328, HB, BK329, GW329, GE329, NB328_329, NB329_328⟩ := h_; clear hb hbox hg; have hnb7 := NB329_328.out; have hnc7 := NB328_329.out; obtain ⟨hcz8_0, hcz8_1, hcz8_2, hcz8_3, hfz8_0, hfz8_1, hfz8_2, hfz8_3⟩ := C4 BK329.out) | (go_at_call 58; (with_reducible refine (spec_EpochOf.calls a1_0 t330 _ A4.out).mono ?_); rintro e w' ⟨rfl, ⟨nd, rfl⟩⟩; (try exact KT); obtain ⟨hcz9_0, hcz9_1, hcz9_2, hfz9_0, hfz9_1, hfz9_2⟩ := C3 BK328.out))
  repeat (go_quiet (first | (go_at_call 58; (with_reducible refine (spec_EpochOf.calls a1_0 t330 _ A4.out).mono ?_); rintro e w' ⟨rfl, ⟨nd, rfl⟩⟩; (try exact KT); obtain ⟨hcz9_0, hcz9_1, hcz9_2, hfz9_0, hfz9_1, hfz9_2⟩ := C3 BK328.out)); try go_wp2_with (first | ((with_reducible refine gate_dst (N := 2) rfl ?_); refine BE 2 #[.slice A0_0 l0_0.length c0_0, .slice A0_1 l0_1.length c0_1, .int .i64 a0_2] 31 ?_; intro gb328 hg w5 hbox hb; have h_ := P4 (below_step KB hb) hbox (KG hg : w.heap.size ≤ gb328) (KG hg : w.heap.size ≤ gb328); clear HB; obtain ⟨HB, BK328, GW328, GE328⟩ := h_; clear hb hbox hg) | ((with_reducible refine gate_dst (N := 3) rfl ?_); refine BE 3 #[.int .i64 a1_0, .int .i64 a1_1, .bool a1_2, .string a1_3] 35 ?_; intro gb329 hg w6 hbox hb; have h_ := P7 (BL BK328.out hb) (below_step KB hb) hbox (KG hg : w.heap.size ≤ gb329) (KG hg : w.heap.size ≤ gb329) (NX hg BK328.out) (Ne.symm (NX hg BK328.out)); clear BK328 HB; obtain ⟨BK328, HB, BK329, GW329, GE329, NB328_329, NB329_328⟩ := h_; clear hb hbox hg; have hnb7 := NB329_328.out; have hnc7 := NB328_329.out; obtain ⟨hcz8_0, hcz8_1, hcz8_2, hcz8_3, hfz8_0, hfz8_1, hfz8_2, hfz8_3⟩ := C4 BK329.out) | (go_at_call 58; (with_reducible refine (spec_EpochOf.calls a1_0 t330 _ A4.out).mono ?_); rintro e w' ⟨rfl, ⟨nd, rfl⟩⟩; (try exact KT); obtain ⟨hcz9_0, hcz9_1, hcz9_2, hfz9_0, hfz9_1, hfz9_2⟩ := C3 BK328.out)))
  go_ret
  exact ⟨KE, KB⟩
 ·rw [if_neg c3] at H
  have c3b0 : (a1_1 == 0) = false := beq_eq_false_iff_ne.mpr c3
  have c3b1 : (a1_1 != 0) = true := bne_iff_ne.mpr c3
  obtain rfl := Option.some.inj H
  go_enter Try.func43, Try.ntmps43
  go_wp2_with (first | ((with_reducible refine gate_dst (N := 2) rfl ?_); refine BE 2 #[.slice A0_0 l0_0.length c0_0, .slice A0_1 l0_1.length c0_1, .int .i64 a0_2] 31 ?_; intro gb328 hg w10 hbox hb; have h_ := P4 (below_step KB hb) hbox (KG hg : w.heap.size ≤ gb328) (KG hg : w.heap.size ≤ gb328); clear HB; obtain ⟨HB, BK328, GW328, GE328⟩ := h_; clear hb hbox hg) | ((with_reducible refine gate_dst (N := 3) rfl ?_); refine BE 3 #[.int .i64 a1_0, .int .i64 a1_1, .bool a1_2, .string a1_3] 35 ?_; intro gb329 hg w11 hbox hb; have h_ := P7 (BL BK328.out hb) (below_step KB hb) hbox (KG hg : w.heap.size ≤ gb329) (KG hg : w.heap.size ≤ gb329) (NX hg BK328.out) (Ne.symm (NX hg BK328.out)); clear BK328 HB; obtain ⟨BK328, HB, BK329, GW329, GE329, NB328_329, NB329_328⟩ := h_; clear hb hbox hg; have hnb12 := NB329_328.out; have hnc12 := NB328_329.out; obtain ⟨hcz13_0, hcz13_1, hcz13_2, hcz13_3, hfz13_0, hfz13_1, hfz13_2, hfz13_3⟩ := C4 BK329.out; obtain ⟨hcz14_0, hcz14_1, hcz14_2, hfz14_0, hfz14_1, hfz14_2⟩ := C3 BK328.out))
  repeat (go_quiet (fail); try go_wp2_with (first | ((with_reducible refine gate_dst (N := 2) rfl ?_); refine BE 2 #[.slice A0_0 l0_0.length c0_0, .slice A0_1 l0_1.length c0_1, .int .i64 a0_2] 31 ?_; intro gb328 hg w10 hbox hb; have h_ := P4 (below_step KB hb) hbox (KG hg : w.heap.size ≤ gb328) (KG hg : w.heap.size ≤ gb328); clear HB; obtain ⟨HB, BK328, GW328, GE328⟩ := h_; clear hb hbox hg) | ((with_reducible refine gate_dst (N := 3) rfl ?_); refine BE 3 #[.int .i64 a1_0, .int .i64 a1_1, .bool a1_2, .string a1_3] 35 ?_; intro gb329 hg w11 hbox hb; have h_ := P7 (BL BK328.out hb) (below_step KB hb) hbox (KG hg : w.heap.size ≤ gb329) (KG hg : w.heap.size ≤ gb329) (NX hg BK328.out) (Ne.symm (NX hg BK328.out)); clear BK328 HB; obtain ⟨BK328, HB, BK329, GW329, GE329, NB328_329, NB329_328⟩ := h_; clear hb hbox hg; have hnb12 := NB329_328.out; have hnc12 := NB328_329.out; obtain ⟨hcz13_0, hcz13_1, hcz13_2, hcz13_3, hfz13_0, hfz13_1, hfz13_2, hfz13_3⟩ := C4 BK329.out; obtain ⟨hcz14_0, hcz14_1, hcz14_2, hfz14_0, hfz14_1, hfz14_2⟩ := C3 BK328.out)))
  go_ret
  exact ⟨KE, KB⟩

end Go.Proofs.Ytnoghojlpicecaa.PFnSealed
