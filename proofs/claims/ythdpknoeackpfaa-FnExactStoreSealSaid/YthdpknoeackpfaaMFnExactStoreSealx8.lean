-- What each Go function that this law reaches comes to: written by a program out of the translation.
import Derived.Test.YthdpknoeackpfaaMFnExactStoreSealx0
import Derived.Test.YthdpknoeackpfaaMFnExactStoreSealx7
namespace Go.Proofs.Ythdpknoeackpfaa.PFnExactStoreSeal
open Go.RowKit Go.Proofs.YthdpknoeackpfaaW.PrintWords Go.Proofs.YthdpknoeackpfaaW.PrintLast Go.Proofs.YthdpknoeackpfaaW.PrintMore
attribute [local go_sem] max2_int min2_int max_two min_two max_three min_three max_four min_four   -- for this text's walks alone
set_option linter.unusedVariables false
set_option linter.unusedSimpArgs false

/-! ### impl_entriesOk: function 66 -/
def impl_entriesOk.l0 : Nat → List (S34) → Int → Int → Option (Bool)
 | 0, _, _, _ => none
 | k + 1, x5, x6, x7 => if x7 < x6 then (if 0 ≤ x7 then (if x7 < (x5.length : Int) then ((impl_EntryOk.f ((rd_T34 x5 x7).f0) ((rd_T34 x5 x7).f1) ((rd_T34 x5 x7).f2) ((rd_T34 x5 x7).f3)).bind fun t306 => (if t306 = true then (impl_entriesOk.l0 k x5 x6 (wrap64 (x7 + 1))) else (some false))) else (none)) else (none)) else (some true)
def impl_entriesOk.f (k : Nat) (l0 : List (S34)) : Option (Bool) := impl_entriesOk.l0 k l0 (l0.length : Int) 0
theorem impl_entriesOk.mono_l : ∀ k, (∀ y0 y1 y2, LeO (impl_entriesOk.l0 k y0 y1 y2) (impl_entriesOk.l0 (k + 1) y0 y1 y2))
 | 0 => fun _ _ _ r h => by simp [impl_entriesOk.l0] at h
 | k + 1 => by
  have ih0 := impl_entriesOk.mono_l k
  ·intro y0 y1 y2
   unfold impl_entriesOk.l0
   repeat' first
   | (with_reducible exact ih0 _ _ _)
   | (with_reducible exact LeO.refl _)
   | (with_reducible exact LeO.none _)
   | (with_reducible refine LeO.ite ?_ ?_)
   | (with_reducible refine LeO.bind ?_ (fun _ => ?_))
   | exact ih0 _ _ _
   | exact LeO.none _
   | refine LeO.ite ?_ ?_
   | refine LeO.bind ?_ (fun _ => ?_)
theorem impl_entriesOk.mono : ∀ a0 k, LeO (impl_entriesOk.f k a0) (impl_entriesOk.f (k + 1) a0) := by
 intro a0 k
 have ih0 := impl_entriesOk.mono_l k
 unfold impl_entriesOk.f
 repeat' first
   | (with_reducible exact ih0 _ _ _)
   | (with_reducible exact LeO.refl _)
   | (with_reducible exact LeO.none _)
   | (with_reducible refine LeO.ite ?_ ?_)
   | (with_reducible refine LeO.bind ?_ (fun _ => ?_))
   | exact ih0 _ _ _
   | exact LeO.none _
   | refine LeO.ite ?_ ?_
   | refine LeO.bind ?_ (fun _ => ?_)
set_option maxHeartbeats 8000000 in
set_option maxRecDepth 100000 in
theorem impl_entriesOk.calls (k : Nat) (A0 : Option Addr) (c0 : Nat) (l0 : List (S34)) (r : Bool) (w : World) (hr0 : Kd.C k34 w A0 l0.length l0) (hc0 : l0.length ≤ c0) (h : impl_entriesOk.f k l0 = some r) :
  Calls Try.prog 66 #[.slice A0 l0.length c0] w fun e w' => e = .returned (.bool r) ∧ Below w.heap.size w w' := by
 have hu34 := Try.underlying34
 have HR0 := Aside0.mk hr0
 have HC0 := Aside0.mk hc0
 clear hr0 hc0
 have HB := Aside0.mk (Below.refl w.heap.size w)
 have H : (impl_entriesOk.l0 k l0 (l0.length : Int) 0) = some r := h
 clear h
 have H' := Aside0.mk H
 clear H
 go_enter Try.func66, Try.ntmps66
 go_wp2
 go_loopg [7] k (fun kq v7 w' => ∃ (x7_1 : Int), v7 = .int .i64 x7_1 ∧ Aside0 (impl_entriesOk.l0 kq l0 (l0.length : Int) x7_1 = some r) ∧ Aside0 (kq ≤ k) ∧ Aside0 (Below w.heap.size w w'))
 case atStart => exact ⟨(0), (by first | rfl | (simp; done) | (simp [*]; done)), H', ⟨Nat.le_refl _⟩, ⟨KB⟩⟩
 case round =>
  clear H'
  obtain ⟨x7_1, rfl, HA, HK1, HB⟩ := hrel
  cases gk with
  | zero => exact absurd HA.out (by simp [impl_entriesOk.l0])
  | succ k1 =>
   have H := HA.out
   clear HA
   simp only [impl_entriesOk.l0] at H
   by_cases c2 : x7_1 < (l0.length : Int)
   ·rw [if_pos c2] at H
    have c2b0 : decide (x7_1 < (l0.length : Int)) = true := decide_eq_true c2
    clear c2
    by_cases c3 : 0 ≤ x7_1
    ·rw [if_pos c3] at H
     have c3b0 : decide (0 ≤ x7_1) = true := decide_eq_true c3
     clear c3
     by_cases c4 : x7_1 < (l0.length : Int)
     ·rw [if_pos c4] at H
      have c4b0 : decide (x7_1 < (l0.length : Int)) = true := decide_eq_true c4
      clear c4
      replace H := Option.bind_eq_some_iff.mp H
      obtain ⟨t306, A50, H⟩ := H
      replace H : (if t306 = true then (impl_entriesOk.l0 k1 l0 (l0.length : Int) (wrap64 (x7_1 + 1))) else (some false)) = some r := H
      have A5 := Aside0.mk A50
      clear A50
      by_cases c6 : t306 = true
      ·subst c6
       have H1 : (impl_entriesOk.l0 k1 l0 (l0.length : Int) (wrap64 (x7_1 + 1))) = some r := by rw [if_pos rfl] at H; exact H
       clear H
       have H := H1
       clear H1
       have H' := Aside0.mk H
       clear H
       have p304 : 0 ≤ (x7_1 : Int) := of_decide_eq_true (by first | (with_reducible assumption) | assumption)
       have q304 : x7_1 < (l0.length : Int) := of_decide_eq_true (by first | (with_reducible assumption) | assumption)
       obtain ⟨ad304, e304, hx304_0, hx304_1, hx304_2, hx304_3⟩ := at_T34 HR0.out x7_1 p304 q304
       cases e304
       replace hx304_0 := (HB.out.cell (World.block_lt_of_cell? w _ hx304_0)).trans hx304_0
       replace hx304_1 := (HB.out.cell (World.block_lt_of_cell? w _ hx304_1)).trans hx304_1
       replace hx304_2 := (HB.out.cell (World.block_lt_of_cell? w _ hx304_2)).trans hx304_2
       replace hx304_3 := (HB.out.cell (World.block_lt_of_cell? w _ hx304_3)).trans hx304_3
       replace p304 := eq_true p304
       replace q304 := eq_true q304
       go_wp2_with (first | ((with_reducible refine gate_dst (N := 4) rfl ?_); refine box_event ?hg (N := 4) ?hd (cs := #[.int .i64 0, .int .i64 0, .bool false, .string (⟨#[]⟩ : ByteArray)]) (t := 34) ?hr ?_; (case hd => rfl); (case hg => rfl); (case hr => first | (go_simp; done) | (go_simp; rfl)); intro gb305 hg w7 hbox hb; have n0_ := Aside0.mk (below_step KB hb); have n1_ := Aside0.mk (hbox); have n2_ := Aside0.mk ((KG hg : w.heap.size ≤ gb305)); have n3_ := Aside0.mk ((KG hg : w.heap.size ≤ gb305)); clear HB; have HB := n0_; have BK305 := n1_; have GW305 := n2_; have GE305 := n3_; clear n0_ n1_ n2_ n3_; clear hb hbox hg; have hcz8_0 : w7.cell? ⟨gb305, 0, none⟩ = some (.int .i64 0) := (blk_cell BK305.out 0).trans rfl; have hcz8_1 : w7.cell? ⟨gb305, 1, none⟩ = some (.int .i64 0) := (blk_cell BK305.out 1).trans rfl; have hcz8_2 : w7.cell? ⟨gb305, 2, none⟩ = some (.bool false) := (blk_cell BK305.out 2).trans rfl; have hcz8_3 : w7.cell? ⟨gb305, 3, none⟩ = some (.string (⟨#[]⟩ : ByteArray)) := (blk_cell BK305.out 3).trans rfl; have hfz8_0 := blk_frozen BK305.out 0; have hfz8_1 := blk_frozen BK305.out 1; have hfz8_2 := blk_frozen BK305.out 2; have hfz8_3 := blk_frozen BK305.out 3) | ((with_reducible refine gate_callee (f := 76) rfl ?_); refine goesL_ (some 12) rfl rfl Try.func76 (by kernel_rfl) rfl #[.agg #[.int .i64 ((rd_T34 l0 x7_1).f0), .int .i64 ((rd_T34 l0 x7_1).f1), .bool ((rd_T34 l0 x7_1).f2), .string ((rd_T34 l0 x7_1).f3)]] rfl KL ?_; (with_reducible refine (impl_EntryOk.calls ((rd_T34 l0 x7_1).f0) ((rd_T34 l0 x7_1).f1) ((rd_T34 l0 x7_1).f2) ((rd_T34 l0 x7_1).f3) true _ A5.out).mono ?_); rintro e w9 ⟨rfl, hb⟩; refine ⟨_, rfl, ?_⟩; have n0_ := Aside0.mk (blk_below (g := gb305) (o := .cells #[.int .i64 ((rd_T34 l0 x7_1).f0), .int .i64 ((rd_T34 l0 x7_1).f1), .bool ((rd_T34 l0 x7_1).f2), .string ((rd_T34 l0 x7_1).f3)] 34 (0, 0)) (by (with_reducible repeat (first | refine blk_drewN ?_ _ | refine blk_drew ?_ | refine blk_alloc ?_ _)); refine blk_put (cs := #[.int .i64 ((rd_T34 l0 x7_1).f0), .int .i64 ((rd_T34 l0 x7_1).f1), .bool ((rd_T34 l0 x7_1).f2), .string (⟨#[]⟩ : ByteArray)]) ?_ 3 _ rfl; (with_reducible repeat (first | refine blk_drewN ?_ _ | refine blk_drew ?_ | refine blk_alloc ?_ _)); refine blk_put (cs := #[.int .i64 ((rd_T34 l0 x7_1).f0), .int .i64 ((rd_T34 l0 x7_1).f1), .bool false, .string (⟨#[]⟩ : ByteArray)]) ?_ 2 _ rfl; (with_reducible repeat (first | refine blk_drewN ?_ _ | refine blk_drew ?_ | refine blk_alloc ?_ _)); refine blk_put (cs := #[.int .i64 ((rd_T34 l0 x7_1).f0), .int .i64 0, .bool false, .string (⟨#[]⟩ : ByteArray)]) ?_ 1 _ rfl; (with_reducible repeat (first | refine blk_drewN ?_ _ | refine blk_drew ?_ | refine blk_alloc ?_ _)); refine blk_put (cs := #[.int .i64 0, .int .i64 0, .bool false, .string (⟨#[]⟩ : ByteArray)]) ?_ 0 _ rfl; (with_reducible repeat (first | refine blk_drewN ?_ _ | refine blk_drew ?_ | refine blk_alloc ?_ _)); exact BK305.out) hb); have n1_ := Aside0.mk (below_step KB hb); clear BK305; clear HB; have BK305 := n0_; have HB := n1_; clear n0_ n1_; (try clear hb); (try clear hb2); (try clear hk); (try clear hi)))
       go_roundg k1
       case measure => have := HK1.out; omega
       case rel => exact ⟨(wrap64 (x7_1 + 1)), (by first | rfl | (simp; done) | (simp [*]; done)), H', ⟨by have := HK1.out; omega⟩, ⟨KB⟩⟩
      ·replace c6 := Bool.eq_false_iff.mpr c6
       subst c6
       have H1 : (some false) = some r := by rw [if_neg (show ¬ (false = true) by decide)] at H; exact H
       clear H
       have H := H1
       clear H1
       obtain rfl := Option.some.inj H
       have p304 : 0 ≤ (x7_1 : Int) := of_decide_eq_true (by first | (with_reducible assumption) | assumption)
       have q304 : x7_1 < (l0.length : Int) := of_decide_eq_true (by first | (with_reducible assumption) | assumption)
       obtain ⟨ad304, e304, hx304_0, hx304_1, hx304_2, hx304_3⟩ := at_T34 HR0.out x7_1 p304 q304
       cases e304
       replace hx304_0 := (HB.out.cell (World.block_lt_of_cell? w _ hx304_0)).trans hx304_0
       replace hx304_1 := (HB.out.cell (World.block_lt_of_cell? w _ hx304_1)).trans hx304_1
       replace hx304_2 := (HB.out.cell (World.block_lt_of_cell? w _ hx304_2)).trans hx304_2
       replace hx304_3 := (HB.out.cell (World.block_lt_of_cell? w _ hx304_3)).trans hx304_3
       replace p304 := eq_true p304
       replace q304 := eq_true q304
       go_wp2_with (first | ((with_reducible refine gate_dst (N := 4) rfl ?_); refine box_event ?hg (N := 4) ?hd (cs := #[.int .i64 0, .int .i64 0, .bool false, .string (⟨#[]⟩ : ByteArray)]) (t := 34) ?hr ?_; (case hd => rfl); (case hg => rfl); (case hr => first | (go_simp; done) | (go_simp; rfl)); intro gb305 hg w10 hbox hb; have n0_ := Aside0.mk (below_step KB hb); have n1_ := Aside0.mk (hbox); have n2_ := Aside0.mk ((KG hg : w.heap.size ≤ gb305)); have n3_ := Aside0.mk ((KG hg : w.heap.size ≤ gb305)); clear HB; have HB := n0_; have BK305 := n1_; have GW305 := n2_; have GE305 := n3_; clear n0_ n1_ n2_ n3_; clear hb hbox hg; have hcz11_0 : w10.cell? ⟨gb305, 0, none⟩ = some (.int .i64 0) := (blk_cell BK305.out 0).trans rfl; have hcz11_1 : w10.cell? ⟨gb305, 1, none⟩ = some (.int .i64 0) := (blk_cell BK305.out 1).trans rfl; have hcz11_2 : w10.cell? ⟨gb305, 2, none⟩ = some (.bool false) := (blk_cell BK305.out 2).trans rfl; have hcz11_3 : w10.cell? ⟨gb305, 3, none⟩ = some (.string (⟨#[]⟩ : ByteArray)) := (blk_cell BK305.out 3).trans rfl; have hfz11_0 := blk_frozen BK305.out 0; have hfz11_1 := blk_frozen BK305.out 1; have hfz11_2 := blk_frozen BK305.out 2; have hfz11_3 := blk_frozen BK305.out 3) | ((with_reducible refine gate_callee (f := 76) rfl ?_); refine goesL_ (some 12) rfl rfl Try.func76 (by kernel_rfl) rfl #[.agg #[.int .i64 ((rd_T34 l0 x7_1).f0), .int .i64 ((rd_T34 l0 x7_1).f1), .bool ((rd_T34 l0 x7_1).f2), .string ((rd_T34 l0 x7_1).f3)]] rfl KL ?_; (with_reducible refine (impl_EntryOk.calls ((rd_T34 l0 x7_1).f0) ((rd_T34 l0 x7_1).f1) ((rd_T34 l0 x7_1).f2) ((rd_T34 l0 x7_1).f3) false _ A5.out).mono ?_); rintro e w12 ⟨rfl, hb⟩; refine ⟨_, rfl, ?_⟩; have n0_ := Aside0.mk (blk_below (g := gb305) (o := .cells #[.int .i64 ((rd_T34 l0 x7_1).f0), .int .i64 ((rd_T34 l0 x7_1).f1), .bool ((rd_T34 l0 x7_1).f2), .string ((rd_T34 l0 x7_1).f3)] 34 (0, 0)) (by (with_reducible repeat (first | refine blk_drewN ?_ _ | refine blk_drew ?_ | refine blk_alloc ?_ _)); refine blk_put (cs := #[.int .i64 ((rd_T34 l0 x7_1).f0), .int .i64 ((rd_T34 l0 x7_1).f1), .bool ((rd_T34 l0 x7_1).f2), .string (⟨#[]⟩ : ByteArray)]) ?_ 3 _ rfl; (with_reducible repeat (first | refine blk_drewN ?_ _ | refine blk_drew ?_ | refine blk_alloc ?_ _)); refine blk_put (cs := #[.int .i64 ((rd_T34 l0 x7_1).f0), .int .i64 ((rd_T34 l0 x7_1).f1), .bool false, .string (⟨#[]⟩ : ByteArray)]) ?_ 2 _ rfl; (with_reducible repeat (first | refine blk_drewN ?_ _ | refine blk_drew ?_ | refine blk_alloc ?_ _)); refine blk_put (cs := #[.int .i64 ((rd_T34 l0 x7_1).f0), .int .i64 0, .bool false, .string (⟨#[]⟩ : ByteArray)]) ?_ 1 _ rfl; (with_reducible repeat (first | refine blk_drewN ?_ _ | refine blk_drew ?_ | refine blk_alloc ?_ _)); refine blk_put (cs := #[.int .i64 0, .int .i64 0, .bool false, .string (⟨#[]⟩ : ByteArray)]) ?_ 0 _ rfl; (with_reducible repeat (first | refine blk_drewN ?_ _ | refine blk_drew ?_ | refine blk_alloc ?_ _)); exact BK305.out) hb); have n1_ := Aside0.mk (below_step KB hb); clear BK305; clear HB; have BK305 := n0_; have HB := n1_; clear n0_ n1_; (try clear hb); (try clear hb2); (try clear hk); (try clear hi)))
       go_ret
       exact ⟨KE, KB⟩
     ·rw [if_neg c4] at H
      exact absurd H (by simp)
    ·rw [if_neg c3] at H
     exact absurd H (by simp)
   ·rw [if_neg c2] at H
    have c2b0 : decide (x7_1 < (l0.length : Int)) = false := decide_eq_false c2
    clear c2
    obtain rfl := Option.some.inj H
    go_wp2
    go_ret
    exact ⟨KE, KB⟩

/-! ### impl_placesAscend: function 67 -/
def impl_placesAscend.l0 : Nat → List (S34) → List (S34) → Int → Int → Option (Bool)
 | 0, _, _, _, _ => none
 | k + 1, x0, x5, x6, x7 => if x7 < x6 then (if 0 ≤ x7 then (if x7 < (x5.length : Int) then (if x7 > 0 then (if 0 ≤ (wrap64 (x7 - 1)) then (if (wrap64 (x7 - 1)) < (x0.length : Int) then (if ((rd_T34 x0 (wrap64 (x7 - 1))).f0) ≥ ((rd_T34 x5 x7).f0) then (some false) else (impl_placesAscend.l0 k x0 x5 x6 (wrap64 (x7 + 1)))) else (none)) else (none)) else (impl_placesAscend.l0 k x0 x5 x6 (wrap64 (x7 + 1)))) else (none)) else (none)) else (some true)
def impl_placesAscend.f (k : Nat) (l0 : List (S34)) : Option (Bool) := impl_placesAscend.l0 k l0 l0 (l0.length : Int) 0
theorem impl_placesAscend.mono_l : ∀ k, (∀ y0 y1 y2 y3, LeO (impl_placesAscend.l0 k y0 y1 y2 y3) (impl_placesAscend.l0 (k + 1) y0 y1 y2 y3))
 | 0 => fun _ _ _ _ r h => by simp [impl_placesAscend.l0] at h
 | k + 1 => by
  have ih0 := impl_placesAscend.mono_l k
  ·intro y0 y1 y2 y3
   unfold impl_placesAscend.l0
   repeat' first
   | (with_reducible exact ih0 _ _ _ _)
   | (with_reducible exact LeO.refl _)
   | (with_reducible exact LeO.none _)
   | (with_reducible refine LeO.ite ?_ ?_)
   | (with_reducible refine LeO.bind ?_ (fun _ => ?_))
   | exact ih0 _ _ _ _
   | exact LeO.none _
   | refine LeO.ite ?_ ?_
   | refine LeO.bind ?_ (fun _ => ?_)
theorem impl_placesAscend.mono : ∀ a0 k, LeO (impl_placesAscend.f k a0) (impl_placesAscend.f (k + 1) a0) := by
 intro a0 k
 have ih0 := impl_placesAscend.mono_l k
 unfold impl_placesAscend.f
 repeat' first
   | (with_reducible exact ih0 _ _ _ _)
   | (with_reducible exact LeO.refl _)
   | (with_reducible exact LeO.none _)
   | (with_reducible refine LeO.ite ?_ ?_)
   | (with_reducible refine LeO.bind ?_ (fun _ => ?_))
   | exact ih0 _ _ _ _
   | exact LeO.none _
   | refine LeO.ite ?_ ?_
   | refine LeO.bind ?_ (fun _ => ?_)
set_option maxHeartbeats 8000000 in
set_option maxRecDepth 100000 in
theorem impl_placesAscend.calls (k : Nat) (A0 : Option Addr) (c0 : Nat) (l0 : List (S34)) (r : Bool) (w : World) (hr0 : Kd.C k34 w A0 l0.length l0) (hc0 : l0.length ≤ c0) (h : impl_placesAscend.f k l0 = some r) :
  Calls Try.prog 67 #[.slice A0 l0.length c0] w fun e w' => e = .returned (.bool r) ∧ Below w.heap.size w w' := by
 have hu34 := Try.underlying34
 have HR0 := Aside0.mk hr0
 have HC0 := Aside0.mk hc0
 clear hr0 hc0
 have HB := Aside0.mk (Below.refl w.heap.size w)
 have H : (impl_placesAscend.l0 k l0 l0 (l0.length : Int) 0) = some r := h
 clear h
 have H' := Aside0.mk H
 clear H
 go_enter Try.func67, Try.ntmps67
 go_wp2
 repeat (go_quiet (fail); try go_wp2)
 go_loopg [7] k (fun kq v7 w' => ∃ (x7_1 : Int), v7 = .int .i64 x7_1 ∧ Aside0 (impl_placesAscend.l0 kq l0 l0 (l0.length : Int) x7_1 = some r) ∧ Aside0 (kq ≤ k) ∧ Aside0 (Below w.heap.size w w'))
 case atStart => exact ⟨(0), (by first | rfl | (simp; done) | (simp [*]; done)), H', ⟨Nat.le_refl _⟩, ⟨KB⟩⟩
 case round =>
  clear H'
  obtain ⟨x7_1, rfl, HA, HK1, HB⟩ := hrel
  cases gk with
  | zero => exact absurd HA.out (by simp [impl_placesAscend.l0])
  | succ k1 =>
   have H := HA.out
   clear HA
   simp only [impl_placesAscend.l0] at H
   by_cases c2 : x7_1 < (l0.length : Int)
   ·rw [if_pos c2] at H
    have c2b0 : decide (x7_1 < (l0.length : Int)) = true := decide_eq_true c2
    clear c2
    by_cases c3 : 0 ≤ x7_1
    ·rw [if_pos c3] at H
     have c3b0 : decide (0 ≤ x7_1) = true := decide_eq_true c3
     clear c3
     by_cases c4 : x7_1 < (l0.length : Int)
     ·rw [if_pos c4] at H
      have c4b0 : decide (x7_1 < (l0.length : Int)) = true := decide_eq_true c4
      clear c4
      by_cases c5 : x7_1 > 0
      ·rw [if_pos c5] at H
       have c5b0 : decide (0 < x7_1) = true := decide_eq_true c5
       clear c5
       obtain ⟨ji6, hji6⟩ : ∃ j_ : Int, (wrap64 (x7_1 - 1)) = j_ := ⟨_, rfl⟩
       replace H : (if 0 ≤ (ji6) then (if (ji6) < (l0.length : Int) then (if ((rd_T34 l0 (ji6)).f0) ≥ ((rd_T34 l0 x7_1).f0) then (some false) else (impl_placesAscend.l0 k1 l0 l0 (l0.length : Int) (wrap64 (x7_1 + 1)))) else (none)) else (none)) = some r := by first | (rw [hji6] at H; exact H) | (simp only [hji6] at H ⊢; exact H)
       have hji6w : (IntKind.i64.wrap (x7_1 - 1)) = ji6 := (i64_w _).trans hji6
       by_cases c7 : 0 ≤ (ji6)
       ·rw [if_pos c7] at H
        have c7b0 : decide (0 ≤ (ji6)) = true := decide_eq_true c7
        clear c7
        by_cases c8 : (ji6) < (l0.length : Int)
        ·rw [if_pos c8] at H
         have c8b0 : decide ((ji6) < (l0.length : Int)) = true := decide_eq_true c8
         clear c8
         by_cases c9 : ((rd_T34 l0 (ji6)).f0) ≥ ((rd_T34 l0 x7_1).f0)
         ·rw [if_pos c9] at H
          have c9b0 : decide (((rd_T34 l0 x7_1).f0) ≤ ((rd_T34 l0 (ji6)).f0)) = true := decide_eq_true c9
          clear c9
          obtain rfl := Option.some.inj H
          have p307 : 0 ≤ (x7_1 : Int) := of_decide_eq_true (by first | (with_reducible assumption) | assumption)
          have q307 : x7_1 < (l0.length : Int) := of_decide_eq_true (by first | (with_reducible assumption) | assumption)
          obtain ⟨ad307, e307, hx307_0, hx307_1, hx307_2, hx307_3⟩ := at_T34 HR0.out x7_1 p307 q307
          cases e307
          replace hx307_0 := (HB.out.cell (World.block_lt_of_cell? w _ hx307_0)).trans hx307_0
          replace hx307_1 := (HB.out.cell (World.block_lt_of_cell? w _ hx307_1)).trans hx307_1
          replace hx307_2 := (HB.out.cell (World.block_lt_of_cell? w _ hx307_2)).trans hx307_2
          replace hx307_3 := (HB.out.cell (World.block_lt_of_cell? w _ hx307_3)).trans hx307_3
          replace p307 := eq_true p307
          replace q307 := eq_true q307
          go_wp2_with (first | ((with_reducible refine gate_dst (N := 4) rfl ?_); refine box_event ?hg (N := 4) ?hd (cs := #[.int .i64 0, .int .i64 0, .bool false, .string (⟨#[]⟩ : ByteArray)]) (t := 34) ?hr ?_; (case hd => rfl); (case hg => rfl); (case hr => first | (go_simp; done) | (go_simp; rfl)); intro gb308 hg w10 hbox hb; have n0_ := Aside0.mk (below_step KB hb); have n1_ := Aside0.mk (hbox); have n2_ := Aside0.mk ((KG hg : w.heap.size ≤ gb308)); have n3_ := Aside0.mk ((KG hg : w.heap.size ≤ gb308)); clear HB; have HB := n0_; have BK308 := n1_; have GW308 := n2_; have GE308 := n3_; clear n0_ n1_ n2_ n3_; clear hb hbox hg; have hcz11_0 : w10.cell? ⟨gb308, 0, none⟩ = some (.int .i64 0) := (blk_cell BK308.out 0).trans rfl; have hcz11_1 : w10.cell? ⟨gb308, 1, none⟩ = some (.int .i64 0) := (blk_cell BK308.out 1).trans rfl; have hcz11_2 : w10.cell? ⟨gb308, 2, none⟩ = some (.bool false) := (blk_cell BK308.out 2).trans rfl; have hcz11_3 : w10.cell? ⟨gb308, 3, none⟩ = some (.string (⟨#[]⟩ : ByteArray)) := (blk_cell BK308.out 3).trans rfl; have hfz11_0 := blk_frozen BK308.out 0; have hfz11_1 := blk_frozen BK308.out 1; have hfz11_2 := blk_frozen BK308.out 2; have hfz11_3 := blk_frozen BK308.out 3; have p309 : 0 ≤ ((ji6) : Int) := of_decide_eq_true (by first | (with_reducible assumption) | assumption); have q309 : (ji6) < (l0.length : Int) := of_decide_eq_true (by first | (with_reducible assumption) | assumption); obtain ⟨ad309, e309, hx309_0, hx309_1, hx309_2, hx309_3⟩ := at_T34 HR0.out (ji6) p309 q309; obtain rfl : ad307 = ad309 := (by injection e309); have hn309_0 : ad307.block ≠ gb308 := Nat.ne_of_lt (Nat.lt_of_lt_of_le (by have := World.block_lt_of_cell? _ _ hx309_0; first | rwa [add_block] at this | exact this) GW308.out); have hn309_1 : ad307.block ≠ gb308 := Nat.ne_of_lt (Nat.lt_of_lt_of_le (by have := World.block_lt_of_cell? _ _ hx309_0; first | rwa [add_block] at this | exact this) GW308.out); have hn309_2 : ad307.block ≠ gb308 := Nat.ne_of_lt (Nat.lt_of_lt_of_le (by have := World.block_lt_of_cell? _ _ hx309_0; first | rwa [add_block] at this | exact this) GW308.out); have hn309_3 : ad307.block ≠ gb308 := Nat.ne_of_lt (Nat.lt_of_lt_of_le (by have := World.block_lt_of_cell? _ _ hx309_0; first | rwa [add_block] at this | exact this) GW308.out); replace hx309_0 := (HB.out.cell (World.block_lt_of_cell? w _ hx309_0)).trans hx309_0; replace hx309_1 := (HB.out.cell (World.block_lt_of_cell? w _ hx309_1)).trans hx309_1; replace hx309_2 := (HB.out.cell (World.block_lt_of_cell? w _ hx309_2)).trans hx309_2; replace hx309_3 := (HB.out.cell (World.block_lt_of_cell? w _ hx309_3)).trans hx309_3; replace hx309_0 := (cell_far (p := ⟨gb308, 0, none⟩) (by first | (rw [add_block]; exact hn309_0) | (show (Addr.add _ _).block ≠ _; rw [add_block]; exact hn309_0) | exact hn309_0) (.int .i64 ((rd_T34 l0 x7_1).f0))).trans hx309_0; replace hx309_1 := (cell_far (p := ⟨gb308, 0, none⟩) (by first | (rw [add_block]; exact hn309_0) | (show (Addr.add _ _).block ≠ _; rw [add_block]; exact hn309_0) | exact hn309_0) (.int .i64 ((rd_T34 l0 x7_1).f0))).trans hx309_1; replace hx309_2 := (cell_far (p := ⟨gb308, 0, none⟩) (by first | (rw [add_block]; exact hn309_0) | (show (Addr.add _ _).block ≠ _; rw [add_block]; exact hn309_0) | exact hn309_0) (.int .i64 ((rd_T34 l0 x7_1).f0))).trans hx309_2; replace hx309_3 := (cell_far (p := ⟨gb308, 0, none⟩) (by first | (rw [add_block]; exact hn309_0) | (show (Addr.add _ _).block ≠ _; rw [add_block]; exact hn309_0) | exact hn309_0) (.int .i64 ((rd_T34 l0 x7_1).f0))).trans hx309_3; replace hx309_0 := (cell_far (p := ⟨gb308, 1, none⟩) (by first | (rw [add_block]; exact hn309_1) | (show (Addr.add _ _).block ≠ _; rw [add_block]; exact hn309_1) | exact hn309_1) (.int .i64 ((rd_T34 l0 x7_1).f1))).trans hx309_0; replace hx309_1 := (cell_far (p := ⟨gb308, 1, none⟩) (by first | (rw [add_block]; exact hn309_1) | (show (Addr.add _ _).block ≠ _; rw [add_block]; exact hn309_1) | exact hn309_1) (.int .i64 ((rd_T34 l0 x7_1).f1))).trans hx309_1; replace hx309_2 := (cell_far (p := ⟨gb308, 1, none⟩) (by first | (rw [add_block]; exact hn309_1) | (show (Addr.add _ _).block ≠ _; rw [add_block]; exact hn309_1) | exact hn309_1) (.int .i64 ((rd_T34 l0 x7_1).f1))).trans hx309_2; replace hx309_3 := (cell_far (p := ⟨gb308, 1, none⟩) (by first | (rw [add_block]; exact hn309_1) | (show (Addr.add _ _).block ≠ _; rw [add_block]; exact hn309_1) | exact hn309_1) (.int .i64 ((rd_T34 l0 x7_1).f1))).trans hx309_3; replace hx309_0 := (cell_far (p := ⟨gb308, 2, none⟩) (by first | (rw [add_block]; exact hn309_2) | (show (Addr.add _ _).block ≠ _; rw [add_block]; exact hn309_2) | exact hn309_2) (.bool ((rd_T34 l0 x7_1).f2))).trans hx309_0; replace hx309_1 := (cell_far (p := ⟨gb308, 2, none⟩) (by first | (rw [add_block]; exact hn309_2) | (show (Addr.add _ _).block ≠ _; rw [add_block]; exact hn309_2) | exact hn309_2) (.bool ((rd_T34 l0 x7_1).f2))).trans hx309_1; replace hx309_2 := (cell_far (p := ⟨gb308, 2, none⟩) (by first | (rw [add_block]; exact hn309_2) | (show (Addr.add _ _).block ≠ _; rw [add_block]; exact hn309_2) | exact hn309_2) (.bool ((rd_T34 l0 x7_1).f2))).trans hx309_2; replace hx309_3 := (cell_far (p := ⟨gb308, 2, none⟩) (by first | (rw [add_block]; exact hn309_2) | (show (Addr.add _ _).block ≠ _; rw [add_block]; exact hn309_2) | exact hn309_2) (.bool ((rd_T34 l0 x7_1).f2))).trans hx309_3; replace hx309_0 := (cell_far (p := ⟨gb308, 3, none⟩) (by first | (rw [add_block]; exact hn309_3) | (show (Addr.add _ _).block ≠ _; rw [add_block]; exact hn309_3) | exact hn309_3) (.string ((rd_T34 l0 x7_1).f3))).trans hx309_0; replace hx309_1 := (cell_far (p := ⟨gb308, 3, none⟩) (by first | (rw [add_block]; exact hn309_3) | (show (Addr.add _ _).block ≠ _; rw [add_block]; exact hn309_3) | exact hn309_3) (.string ((rd_T34 l0 x7_1).f3))).trans hx309_1; replace hx309_2 := (cell_far (p := ⟨gb308, 3, none⟩) (by first | (rw [add_block]; exact hn309_3) | (show (Addr.add _ _).block ≠ _; rw [add_block]; exact hn309_3) | exact hn309_3) (.string ((rd_T34 l0 x7_1).f3))).trans hx309_2; replace hx309_3 := (cell_far (p := ⟨gb308, 3, none⟩) (by first | (rw [add_block]; exact hn309_3) | (show (Addr.add _ _).block ≠ _; rw [add_block]; exact hn309_3) | exact hn309_3) (.string ((rd_T34 l0 x7_1).f3))).trans hx309_3; (try have hy309_0 := fun (n_ : Nat) => (show ((((((w10.drewN n_).setCell ⟨gb308, 0, none⟩ (.int .i64 ((rd_T34 l0 x7_1).f0))).setCell ⟨gb308, 1, none⟩ (.int .i64 ((rd_T34 l0 x7_1).f1))).setCell ⟨gb308, 2, none⟩ (.bool ((rd_T34 l0 x7_1).f2))).setCell ⟨gb308, 3, none⟩ (.string ((rd_T34 l0 x7_1).f3)))).cell? _ = some _ from hx309_0)); (try have hy309_1 := fun (n_ : Nat) => (show ((((((w10.drewN n_).setCell ⟨gb308, 0, none⟩ (.int .i64 ((rd_T34 l0 x7_1).f0))).setCell ⟨gb308, 1, none⟩ (.int .i64 ((rd_T34 l0 x7_1).f1))).setCell ⟨gb308, 2, none⟩ (.bool ((rd_T34 l0 x7_1).f2))).setCell ⟨gb308, 3, none⟩ (.string ((rd_T34 l0 x7_1).f3)))).cell? _ = some _ from hx309_1)); (try have hy309_2 := fun (n_ : Nat) => (show ((((((w10.drewN n_).setCell ⟨gb308, 0, none⟩ (.int .i64 ((rd_T34 l0 x7_1).f0))).setCell ⟨gb308, 1, none⟩ (.int .i64 ((rd_T34 l0 x7_1).f1))).setCell ⟨gb308, 2, none⟩ (.bool ((rd_T34 l0 x7_1).f2))).setCell ⟨gb308, 3, none⟩ (.string ((rd_T34 l0 x7_1).f3)))).cell? _ = some _ from hx309_2)); (try have hy309_3 := fun (n_ : Nat) => (show ((((((w10.drewN n_).setCell ⟨gb308, 0, none⟩ (.int .i64 ((rd_T34 l0 x7_1).f0))).setCell ⟨gb308, 1, none⟩ (.int .i64 ((rd_T34 l0 x7_1).f1))).setCell ⟨gb308, 2, none⟩ (.bool ((rd_T34 l0 x7_1).f2))).setCell ⟨gb308, 3, none⟩ (.string ((rd_T34 l0 x7_1).f3)))).cell? _ = some _ from hx309_3)); clear hn309_0; clear hn309_1; clear hn309_2; clear hn309_3; replace p309 := eq_true p309; replace q309 := eq_true q309))
          repeat (go_quiet (fail); try go_wp2_with (first | ((with_reducible refine gate_dst (N := 4) rfl ?_); refine box_event ?hg (N := 4) ?hd (cs := #[.int .i64 0, .int .i64 0, .bool false, .string (⟨#[]⟩ : ByteArray)]) (t := 34) ?hr ?_; (case hd => rfl); (case hg => rfl); (case hr => first | (go_simp; done) | (go_simp; rfl)); intro gb308 hg w10 hbox hb; have n0_ := Aside0.mk (below_step KB hb); have n1_ := Aside0.mk (hbox); have n2_ := Aside0.mk ((KG hg : w.heap.size ≤ gb308)); have n3_ := Aside0.mk ((KG hg : w.heap.size ≤ gb308)); clear HB; have HB := n0_; have BK308 := n1_; have GW308 := n2_; have GE308 := n3_; clear n0_ n1_ n2_ n3_; clear hb hbox hg; have hcz11_0 : w10.cell? ⟨gb308, 0, none⟩ = some (.int .i64 0) := (blk_cell BK308.out 0).trans rfl; have hcz11_1 : w10.cell? ⟨gb308, 1, none⟩ = some (.int .i64 0) := (blk_cell BK308.out 1).trans rfl; have hcz11_2 : w10.cell? ⟨gb308, 2, none⟩ = some (.bool false) := (blk_cell BK308.out 2).trans rfl; have hcz11_3 : w10.cell? ⟨gb308, 3, none⟩ = some (.string (⟨#[]⟩ : ByteArray)) := (blk_cell BK308.out 3).trans rfl; have hfz11_0 := blk_frozen BK308.out 0; have hfz11_1 := blk_frozen BK308.out 1; have hfz11_2 := blk_frozen BK308.out 2; have hfz11_3 := blk_frozen BK308.out 3; have p309 : 0 ≤ ((ji6) : Int) := of_decide_eq_true (by first | (with_reducible assumption) | assumption); have q309 : (ji6) < (l0.length : Int) := of_decide_eq_true (by first | (with_reducible assumption) | assumption); obtain ⟨ad309, e309, hx309_0, hx309_1, hx309_2, hx309_3⟩ := at_T34 HR0.out (ji6) p309 q309; obtain rfl : ad307 = ad309 := (by injection e309); have hn309_0 : ad307.block ≠ gb308 := Nat.ne_of_lt (Nat.lt_of_lt_of_le (by have := World.block_lt_of_cell? _ _ hx309_0; first | rwa [add_block] at this | exact this) GW308.out); have hn309_1 : ad307.block ≠ gb308 := Nat.ne_of_lt (Nat.lt_of_lt_of_le (by have := World.block_lt_of_cell? _ _ hx309_0; first | rwa [add_block] at this | exact this) GW308.out); have hn309_2 : ad307.block ≠ gb308 := Nat.ne_of_lt (Nat.lt_of_lt_of_le (by have := World.block_lt_of_cell? _ _ hx309_0; first | rwa [add_block] at this | exact this) GW308.out); have hn309_3 : ad307.block ≠ gb308 := Nat.ne_of_lt (Nat.lt_of_lt_of_le (by have := World.block_lt_of_cell? _ _ hx309_0; first | rwa [add_block] at this | exact this) GW308.out); replace hx309_0 := (HB.out.cell (World.block_lt_of_cell? w _ hx309_0)).trans hx309_0; replace hx309_1 := (HB.out.cell (World.block_lt_of_cell? w _ hx309_1)).trans hx309_1; replace hx309_2 := (HB.out.cell (World.block_lt_of_cell? w _ hx309_2)).trans hx309_2; replace hx309_3 := (HB.out.cell (World.block_lt_of_cell? w _ hx309_3)).trans hx309_3; replace hx309_0 := (cell_far (p := ⟨gb308, 0, none⟩) (by first | (rw [add_block]; exact hn309_0) | (show (Addr.add _ _).block ≠ _; rw [add_block]; exact hn309_0) | exact hn309_0) (.int .i64 ((rd_T34 l0 x7_1).f0))).trans hx309_0; replace hx309_1 := (cell_far (p := ⟨gb308, 0, none⟩) (by first | (rw [add_block]; exact hn309_0) | (show (Addr.add _ _).block ≠ _; rw [add_block]; exact hn309_0) | exact hn309_0) (.int .i64 ((rd_T34 l0 x7_1).f0))).trans hx309_1; replace hx309_2 := (cell_far (p := ⟨gb308, 0, none⟩) (by first | (rw [add_block]; exact hn309_0) | (show (Addr.add _ _).block ≠ _; rw [add_block]; exact hn309_0) | exact hn309_0) (.int .i64 ((rd_T34 l0 x7_1).f0))).trans hx309_2; replace hx309_3 := (cell_far (p := ⟨gb308, 0, none⟩) (by first | (rw [add_block]; exact hn309_0) | (show (Addr.add _ _).block ≠ _; rw [add_block]; exact hn309_0) | exact hn309_0) (.int .i64 ((rd_T34 l0 x7_1).f0))).trans hx309_3; replace hx309_0 := (cell_far (p := ⟨gb308, 1, none⟩) (by first | (rw [add_block]; exact hn309_1) | (show (Addr.add _ _).block ≠ _; rw [add_block]; exact hn309_1) | exact hn309_1) (.int .i64 ((rd_T34 l0 x7_1).f1))).trans hx309_0; replace hx309_1 := (cell_far (p := ⟨gb308, 1, none⟩) (by first | (rw [add_block]; exact hn309_1) | (show (Addr.add _ _).block ≠ _; rw [add_block]; exact hn309_1) | exact hn309_1) (.int .i64 ((rd_T34 l0 x7_1).f1))).trans hx309_1; replace hx309_2 := (cell_far (p := ⟨gb308, 1, none⟩) (by first | (rw [add_block]; exact hn309_1) | (show (Addr.add _ _).block ≠ _; rw [add_block]; exact hn309_1) | exact hn309_1) (.int .i64 ((rd_T34 l0 x7_1).f1))).trans hx309_2; replace hx309_3 := (cell_far (p := ⟨gb308, 1, none⟩) (by first | (rw [add_block]; exact hn309_1) | (show (Addr.add _ _).block ≠ _; rw [add_block]; exact hn309_1) | exact hn309_1) (.int .i64 ((rd_T34 l0 x7_1).f1))).trans hx309_3; replace hx309_0 := (cell_far (p := ⟨gb308, 2, none⟩) (by first | (rw [add_block]; exact hn309_2) | (show (Addr.add _ _).block ≠ _; rw [add_block]; exact hn309_2) | exact hn309_2) (.bool ((rd_T34 l0 x7_1).f2))).trans hx309_0; replace hx309_1 := (cell_far (p := ⟨gb308, 2, none⟩) (by first | (rw [add_block]; exact hn309_2) | (show (Addr.add _ _).block ≠ _; rw [add_block]; exact hn309_2) | exact hn309_2) (.bool ((rd_T34 l0 x7_1).f2))).trans hx309_1; replace hx309_2 := (cell_far (p := ⟨gb308, 2, none⟩) (by first | (rw [add_block]; exact hn309_2) | (show (Addr.add _ _).block ≠ _; rw [add_block]; exact hn309_2) | exact hn309_2) (.bool ((rd_T34 l0 x7_1).f2))).trans hx309_2; replace hx309_3 := (cell_far (p := ⟨gb308, 2, none⟩) (by first | (rw [add_block]; exact hn309_2) | (show (Addr.add _ _).block ≠ _; rw [add_block]; exact hn309_2) | exact hn309_2) (.bool ((rd_T34 l0 x7_1).f2))).trans hx309_3; replace hx309_0 := (cell_far (p := ⟨gb308, 3, none⟩) (by first | (rw [add_block]; exact hn309_3) | (show (Addr.add _ _).block ≠ _; rw [add_block]; exact hn309_3) | exact hn309_3) (.string ((rd_T34 l0 x7_1).f3))).trans hx309_0; replace hx309_1 := (cell_far (p := ⟨gb308, 3, none⟩) (by first | (rw [add_block]; exact hn309_3) | (show (Addr.add _ _).block ≠ _; rw [add_block]; exact hn309_3) | exact hn309_3) (.string ((rd_T34 l0 x7_1).f3))).trans hx309_1; replace hx309_2 := (cell_far (p := ⟨gb308, 3, none⟩) (by first | (rw [add_block]; exact hn309_3) | (show (Addr.add _ _).block ≠ _; rw [add_block]; exact hn309_3) | exact hn309_3) (.string ((rd_T34 l0 x7_1).f3))).trans hx309_2; replace hx309_3 := (cell_far (p := ⟨gb308, 3, none⟩) (by first | (rw [add_block]; exact hn309_3) | (show (Addr.add _ _).block ≠ _; rw [add_block]; exact hn309_3) | exact hn309_3) (.string ((rd_T34 l0 x7_1).f3))).trans hx309_3; (try have hy309_0 := fun (n_ : Nat) => (show ((((((w10.drewN n_).setCell ⟨gb308, 0, none⟩ (.int .i64 ((rd_T34 l0 x7_1).f0))).setCell ⟨gb308, 1, none⟩ (.int .i64 ((rd_T34 l0 x7_1).f1))).setCell ⟨gb308, 2, none⟩ (.bool ((rd_T34 l0 x7_1).f2))).setCell ⟨gb308, 3, none⟩ (.string ((rd_T34 l0 x7_1).f3)))).cell? _ = some _ from hx309_0)); (try have hy309_1 := fun (n_ : Nat) => (show ((((((w10.drewN n_).setCell ⟨gb308, 0, none⟩ (.int .i64 ((rd_T34 l0 x7_1).f0))).setCell ⟨gb308, 1, none⟩ (.int .i64 ((rd_T34 l0 x7_1).f1))).setCell ⟨gb308, 2, none⟩ (.bool ((rd_T34 l0 x7_1).f2))).setCell ⟨gb308, 3, none⟩ (.string ((rd_T34 l0 x7_1).f3)))).cell? _ = some _ from hx309_1)); (try have hy309_2 := fun (n_ : Nat) => (show ((((((w10.drewN n_).setCell ⟨gb308, 0, none⟩ (.int .i64 ((rd_T34 l0 x7_1).f0))).setCell ⟨gb308, 1, none⟩ (.int .i64 ((rd_T34 l0 x7_1).f1))).setCell ⟨gb308, 2, none⟩ (.bool ((rd_T34 l0 x7_1).f2))).setCell ⟨gb308, 3, none⟩ (.string ((rd_T34 l0 x7_1).f3)))).cell? _ = some _ from hx309_2)); (try have hy309_3 := fun (n_ : Nat) => (show ((((((w10.drewN n_).setCell ⟨gb308, 0, none⟩ (.int .i64 ((rd_T34 l0 x7_1).f0))).setCell ⟨gb308, 1, none⟩ (.int .i64 ((rd_T34 l0 x7_1).f1))).setCell ⟨gb308, 2, none⟩ (.bool ((rd_T34 l0 x7_1).f2))).setCell ⟨gb308, 3, none⟩ (.string ((rd_T34 l0 x7_1).f3)))).cell? _ = some _ from hx309_3)); clear hn309_0; clear hn309_1; clear hn309_2; clear hn309_3; replace p309 := eq_true p309; replace q309 := eq_true q309)))
          go_ret
          exact ⟨by first | rfl | (simp [errW_none, errW_some] <;> rfl) | (simp only [← hji6]; first | rfl | (simp [errW_none, errW_some] <;> rfl)) | (simp [*, errW_none, errW_some] <;> rfl), KB⟩
         ·rw [if_neg c9] at H
          have c9b0 : decide (((rd_T34 l0 x7_1).f0) ≤ ((rd_T34 l0 (ji6)).f0)) = false := decide_eq_false c9
          clear c9
          have H' := Aside0.mk H
          clear H
          have p307 : 0 ≤ (x7_1 : Int) := of_decide_eq_true (by first | (with_reducible assumption) | assumption)
          have q307 : x7_1 < (l0.length : Int) := of_decide_eq_true (by first | (with_reducible assumption) | assumption)
          obtain ⟨ad307, e307, hx307_0, hx307_1, hx307_2, hx307_3⟩ := at_T34 HR0.out x7_1 p307 q307
          cases e307
          replace hx307_0 := (HB.out.cell (World.block_lt_of_cell? w _ hx307_0)).trans hx307_0
          replace hx307_1 := (HB.out.cell (World.block_lt_of_cell? w _ hx307_1)).trans hx307_1
          replace hx307_2 := (HB.out.cell (World.block_lt_of_cell? w _ hx307_2)).trans hx307_2
          replace hx307_3 := (HB.out.cell (World.block_lt_of_cell? w _ hx307_3)).trans hx307_3
          replace p307 := eq_true p307
          replace q307 := eq_true q307
          go_wp2_with (first | ((with_reducible refine gate_dst (N := 4) rfl ?_); refine box_event ?hg (N := 4) ?hd (cs := #[.int .i64 0, .int .i64 0, .bool false, .string (⟨#[]⟩ : ByteArray)]) (t := 34) ?hr ?_; (case hd => rfl); (case hg => rfl); (case hr => first | (go_simp; done) | (go_simp; rfl)); intro gb308 hg w12 hbox hb; have n0_ := Aside0.mk (below_step KB hb); have n1_ := Aside0.mk (hbox); have n2_ := Aside0.mk ((KG hg : w.heap.size ≤ gb308)); have n3_ := Aside0.mk ((KG hg : w.heap.size ≤ gb308)); clear HB; have HB := n0_; have BK308 := n1_; have GW308 := n2_; have GE308 := n3_; clear n0_ n1_ n2_ n3_; clear hb hbox hg; have hcz13_0 : w12.cell? ⟨gb308, 0, none⟩ = some (.int .i64 0) := (blk_cell BK308.out 0).trans rfl; have hcz13_1 : w12.cell? ⟨gb308, 1, none⟩ = some (.int .i64 0) := (blk_cell BK308.out 1).trans rfl; have hcz13_2 : w12.cell? ⟨gb308, 2, none⟩ = some (.bool false) := (blk_cell BK308.out 2).trans rfl; have hcz13_3 : w12.cell? ⟨gb308, 3, none⟩ = some (.string (⟨#[]⟩ : ByteArray)) := (blk_cell BK308.out 3).trans rfl; have hfz13_0 := blk_frozen BK308.out 0; have hfz13_1 := blk_frozen BK308.out 1; have hfz13_2 := blk_frozen BK308.out 2; have hfz13_3 := blk_frozen BK308.out 3; have p309 : 0 ≤ ((ji6) : Int) := of_decide_eq_true (by first | (with_reducible assumption) | assumption); have q309 : (ji6) < (l0.length : Int) := of_decide_eq_true (by first | (with_reducible assumption) | assumption); obtain ⟨ad309, e309, hx309_0, hx309_1, hx309_2, hx309_3⟩ := at_T34 HR0.out (ji6) p309 q309; obtain rfl : ad307 = ad309 := (by injection e309); have hn309_0 : ad307.block ≠ gb308 := Nat.ne_of_lt (Nat.lt_of_lt_of_le (by have := World.block_lt_of_cell? _ _ hx309_0; first | rwa [add_block] at this | exact this) GW308.out); have hn309_1 : ad307.block ≠ gb308 := Nat.ne_of_lt (Nat.lt_of_lt_of_le (by have := World.block_lt_of_cell? _ _ hx309_0; first | rwa [add_block] at this | exact this) GW308.out); have hn309_2 : ad307.block ≠ gb308 := Nat.ne_of_lt (Nat.lt_of_lt_of_le (by have := World.block_lt_of_cell? _ _ hx309_0; first | rwa [add_block] at this | exact this) GW308.out); have hn309_3 : ad307.block ≠ gb308 := Nat.ne_of_lt (Nat.lt_of_lt_of_le (by have := World.block_lt_of_cell? _ _ hx309_0; first | rwa [add_block] at this | exact this) GW308.out); replace hx309_0 := (HB.out.cell (World.block_lt_of_cell? w _ hx309_0)).trans hx309_0; replace hx309_1 := (HB.out.cell (World.block_lt_of_cell? w _ hx309_1)).trans hx309_1; replace hx309_2 := (HB.out.cell (World.block_lt_of_cell? w _ hx309_2)).trans hx309_2; replace hx309_3 := (HB.out.cell (World.block_lt_of_cell? w _ hx309_3)).trans hx309_3; replace hx309_0 := (cell_far (p := ⟨gb308, 0, none⟩) (by first | (rw [add_block]; exact hn309_0) | (show (Addr.add _ _).block ≠ _; rw [add_block]; exact hn309_0) | exact hn309_0) (.int .i64 ((rd_T34 l0 x7_1).f0))).trans hx309_0; replace hx309_1 := (cell_far (p := ⟨gb308, 0, none⟩) (by first | (rw [add_block]; exact hn309_0) | (show (Addr.add _ _).block ≠ _; rw [add_block]; exact hn309_0) | exact hn309_0) (.int .i64 ((rd_T34 l0 x7_1).f0))).trans hx309_1; replace hx309_2 := (cell_far (p := ⟨gb308, 0, none⟩) (by first | (rw [add_block]; exact hn309_0) | (show (Addr.add _ _).block ≠ _; rw [add_block]; exact hn309_0) | exact hn309_0) (.int .i64 ((rd_T34 l0 x7_1).f0))).trans hx309_2; replace hx309_3 := (cell_far (p := ⟨gb308, 0, none⟩) (by first | (rw [add_block]; exact hn309_0) | (show (Addr.add _ _).block ≠ _; rw [add_block]; exact hn309_0) | exact hn309_0) (.int .i64 ((rd_T34 l0 x7_1).f0))).trans hx309_3; replace hx309_0 := (cell_far (p := ⟨gb308, 1, none⟩) (by first | (rw [add_block]; exact hn309_1) | (show (Addr.add _ _).block ≠ _; rw [add_block]; exact hn309_1) | exact hn309_1) (.int .i64 ((rd_T34 l0 x7_1).f1))).trans hx309_0; replace hx309_1 := (cell_far (p := ⟨gb308, 1, none⟩) (by first | (rw [add_block]; exact hn309_1) | (show (Addr.add _ _).block ≠ _; rw [add_block]; exact hn309_1) | exact hn309_1) (.int .i64 ((rd_T34 l0 x7_1).f1))).trans hx309_1; replace hx309_2 := (cell_far (p := ⟨gb308, 1, none⟩) (by first | (rw [add_block]; exact hn309_1) | (show (Addr.add _ _).block ≠ _; rw [add_block]; exact hn309_1) | exact hn309_1) (.int .i64 ((rd_T34 l0 x7_1).f1))).trans hx309_2; replace hx309_3 := (cell_far (p := ⟨gb308, 1, none⟩) (by first | (rw [add_block]; exact hn309_1) | (show (Addr.add _ _).block ≠ _; rw [add_block]; exact hn309_1) | exact hn309_1) (.int .i64 ((rd_T34 l0 x7_1).f1))).trans hx309_3; replace hx309_0 := (cell_far (p := ⟨gb308, 2, none⟩) (by first | (rw [add_block]; exact hn309_2) | (show (Addr.add _ _).block ≠ _; rw [add_block]; exact hn309_2) | exact hn309_2) (.bool ((rd_T34 l0 x7_1).f2))).trans hx309_0; replace hx309_1 := (cell_far (p := ⟨gb308, 2, none⟩) (by first | (rw [add_block]; exact hn309_2) | (show (Addr.add _ _).block ≠ _; rw [add_block]; exact hn309_2) | exact hn309_2) (.bool ((rd_T34 l0 x7_1).f2))).trans hx309_1; replace hx309_2 := (cell_far (p := ⟨gb308, 2, none⟩) (by first | (rw [add_block]; exact hn309_2) | (show (Addr.add _ _).block ≠ _; rw [add_block]; exact hn309_2) | exact hn309_2) (.bool ((rd_T34 l0 x7_1).f2))).trans hx309_2; replace hx309_3 := (cell_far (p := ⟨gb308, 2, none⟩) (by first | (rw [add_block]; exact hn309_2) | (show (Addr.add _ _).block ≠ _; rw [add_block]; exact hn309_2) | exact hn309_2) (.bool ((rd_T34 l0 x7_1).f2))).trans hx309_3; replace hx309_0 := (cell_far (p := ⟨gb308, 3, none⟩) (by first | (rw [add_block]; exact hn309_3) | (show (Addr.add _ _).block ≠ _; rw [add_block]; exact hn309_3) | exact hn309_3) (.string ((rd_T34 l0 x7_1).f3))).trans hx309_0; replace hx309_1 := (cell_far (p := ⟨gb308, 3, none⟩) (by first | (rw [add_block]; exact hn309_3) | (show (Addr.add _ _).block ≠ _; rw [add_block]; exact hn309_3) | exact hn309_3) (.string ((rd_T34 l0 x7_1).f3))).trans hx309_1; replace hx309_2 := (cell_far (p := ⟨gb308, 3, none⟩) (by first | (rw [add_block]; exact hn309_3) | (show (Addr.add _ _).block ≠ _; rw [add_block]; exact hn309_3) | exact hn309_3) (.string ((rd_T34 l0 x7_1).f3))).trans hx309_2; replace hx309_3 := (cell_far (p := ⟨gb308, 3, none⟩) (by first | (rw [add_block]; exact hn309_3) | (show (Addr.add _ _).block ≠ _; rw [add_block]; exact hn309_3) | exact hn309_3) (.string ((rd_T34 l0 x7_1).f3))).trans hx309_3; (try have hy309_0 := fun (n_ : Nat) => (show ((((((w12.drewN n_).setCell ⟨gb308, 0, none⟩ (.int .i64 ((rd_T34 l0 x7_1).f0))).setCell ⟨gb308, 1, none⟩ (.int .i64 ((rd_T34 l0 x7_1).f1))).setCell ⟨gb308, 2, none⟩ (.bool ((rd_T34 l0 x7_1).f2))).setCell ⟨gb308, 3, none⟩ (.string ((rd_T34 l0 x7_1).f3)))).cell? _ = some _ from hx309_0)); (try have hy309_1 := fun (n_ : Nat) => (show ((((((w12.drewN n_).setCell ⟨gb308, 0, none⟩ (.int .i64 ((rd_T34 l0 x7_1).f0))).setCell ⟨gb308, 1, none⟩ (.int .i64 ((rd_T34 l0 x7_1).f1))).setCell ⟨gb308, 2, none⟩ (.bool ((rd_T34 l0 x7_1).f2))).setCell ⟨gb308, 3, none⟩ (.string ((rd_T34 l0 x7_1).f3)))).cell? _ = some _ from hx309_1)); (try have hy309_2 := fun (n_ : Nat) => (show ((((((w12.drewN n_).setCell ⟨gb308, 0, none⟩ (.int .i64 ((rd_T34 l0 x7_1).f0))).setCell ⟨gb308, 1, none⟩ (.int .i64 ((rd_T34 l0 x7_1).f1))).setCell ⟨gb308, 2, none⟩ (.bool ((rd_T34 l0 x7_1).f2))).setCell ⟨gb308, 3, none⟩ (.string ((rd_T34 l0 x7_1).f3)))).cell? _ = some _ from hx309_2)); (try have hy309_3 := fun (n_ : Nat) => (show ((((((w12.drewN n_).setCell ⟨gb308, 0, none⟩ (.int .i64 ((rd_T34 l0 x7_1).f0))).setCell ⟨gb308, 1, none⟩ (.int .i64 ((rd_T34 l0 x7_1).f1))).setCell ⟨gb308, 2, none⟩ (.bool ((rd_T34 l0 x7_1).f2))).setCell ⟨gb308, 3, none⟩ (.string ((rd_T34 l0 x7_1).f3)))).cell? _ = some _ from hx309_3)); clear hn309_0; clear hn309_1; clear hn309_2; clear hn309_3; replace p309 := eq_true p309; replace q309 := eq_true q309))
          repeat (go_quiet (fail); try go_wp2_with (first | ((with_reducible refine gate_dst (N := 4) rfl ?_); refine box_event ?hg (N := 4) ?hd (cs := #[.int .i64 0, .int .i64 0, .bool false, .string (⟨#[]⟩ : ByteArray)]) (t := 34) ?hr ?_; (case hd => rfl); (case hg => rfl); (case hr => first | (go_simp; done) | (go_simp; rfl)); intro gb308 hg w12 hbox hb; have n0_ := Aside0.mk (below_step KB hb); have n1_ := Aside0.mk (hbox); have n2_ := Aside0.mk ((KG hg : w.heap.size ≤ gb308)); have n3_ := Aside0.mk ((KG hg : w.heap.size ≤ gb308)); clear HB; have HB := n0_; have BK308 := n1_; have GW308 := n2_; have GE308 := n3_; clear n0_ n1_ n2_ n3_; clear hb hbox hg; have hcz13_0 : w12.cell? ⟨gb308, 0, none⟩ = some (.int .i64 0) := (blk_cell BK308.out 0).trans rfl; have hcz13_1 : w12.cell? ⟨gb308, 1, none⟩ = some (.int .i64 0) := (blk_cell BK308.out 1).trans rfl; have hcz13_2 : w12.cell? ⟨gb308, 2, none⟩ = some (.bool false) := (blk_cell BK308.out 2).trans rfl; have hcz13_3 : w12.cell? ⟨gb308, 3, none⟩ = some (.string (⟨#[]⟩ : ByteArray)) := (blk_cell BK308.out 3).trans rfl; have hfz13_0 := blk_frozen BK308.out 0; have hfz13_1 := blk_frozen BK308.out 1; have hfz13_2 := blk_frozen BK308.out 2; have hfz13_3 := blk_frozen BK308.out 3; have p309 : 0 ≤ ((ji6) : Int) := of_decide_eq_true (by first | (with_reducible assumption) | assumption); have q309 : (ji6) < (l0.length : Int) := of_decide_eq_true (by first | (with_reducible assumption) | assumption); obtain ⟨ad309, e309, hx309_0, hx309_1, hx309_2, hx309_3⟩ := at_T34 HR0.out (ji6) p309 q309; obtain rfl : ad307 = ad309 := (by injection e309); have hn309_0 : ad307.block ≠ gb308 := Nat.ne_of_lt (Nat.lt_of_lt_of_le (by have := World.block_lt_of_cell? _ _ hx309_0; first | rwa [add_block] at this | exact this) GW308.out); have hn309_1 : ad307.block ≠ gb308 := Nat.ne_of_lt (Nat.lt_of_lt_of_le (by have := World.block_lt_of_cell? _ _ hx309_0; first | rwa [add_block] at this | exact this) GW308.out); have hn309_2 : ad307.block ≠ gb308 := Nat.ne_of_lt (Nat.lt_of_lt_of_le (by have := World.block_lt_of_cell? _ _ hx309_0; first | rwa [add_block] at this | exact this) GW308.out); have hn309_3 : ad307.block ≠ gb308 := Nat.ne_of_lt (Nat.lt_of_lt_of_le (by have := World.block_lt_of_cell? _ _ hx309_0; first | rwa [add_block] at this | exact this) GW308.out); replace hx309_0 := (HB.out.cell (World.block_lt_of_cell? w _ hx309_0)).trans hx309_0; replace hx309_1 := (HB.out.cell (World.block_lt_of_cell? w _ hx309_1)).trans hx309_1; replace hx309_2 := (HB.out.cell (World.block_lt_of_cell? w _ hx309_2)).trans hx309_2; replace hx309_3 := (HB.out.cell (World.block_lt_of_cell? w _ hx309_3)).trans hx309_3; replace hx309_0 := (cell_far (p := ⟨gb308, 0, none⟩) (by first | (rw [add_block]; exact hn309_0) | (show (Addr.add _ _).block ≠ _; rw [add_block]; exact hn309_0) | exact hn309_0) (.int .i64 ((rd_T34 l0 x7_1).f0))).trans hx309_0; replace hx309_1 := (cell_far (p := ⟨gb308, 0, none⟩) (by first | (rw [add_block]; exact hn309_0) | (show (Addr.add _ _).block ≠ _; rw [add_block]; exact hn309_0) | exact hn309_0) (.int .i64 ((rd_T34 l0 x7_1).f0))).trans hx309_1; replace hx309_2 := (cell_far (p := ⟨gb308, 0, none⟩) (by first | (rw [add_block]; exact hn309_0) | (show (Addr.add _ _).block ≠ _; rw [add_block]; exact hn309_0) | exact hn309_0) (.int .i64 ((rd_T34 l0 x7_1).f0))).trans hx309_2; replace hx309_3 := (cell_far (p := ⟨gb308, 0, none⟩) (by first | (rw [add_block]; exact hn309_0) | (show (Addr.add _ _).block ≠ _; rw [add_block]; exact hn309_0) | exact hn309_0) (.int .i64 ((rd_T34 l0 x7_1).f0))).trans hx309_3; replace hx309_0 := (cell_far (p := ⟨gb308, 1, none⟩) (by first | (rw [add_block]; exact hn309_1) | (show (Addr.add _ _).block ≠ _; rw [add_block]; exact hn309_1) | exact hn309_1) (.int .i64 ((rd_T34 l0 x7_1).f1))).trans hx309_0; replace hx309_1 := (cell_far (p := ⟨gb308, 1, none⟩) (by first | (rw [add_block]; exact hn309_1) | (show (Addr.add _ _).block ≠ _; rw [add_block]; exact hn309_1) | exact hn309_1) (.int .i64 ((rd_T34 l0 x7_1).f1))).trans hx309_1; replace hx309_2 := (cell_far (p := ⟨gb308, 1, none⟩) (by first | (rw [add_block]; exact hn309_1) | (show (Addr.add _ _).block ≠ _; rw [add_block]; exact hn309_1) | exact hn309_1) (.int .i64 ((rd_T34 l0 x7_1).f1))).trans hx309_2; replace hx309_3 := (cell_far (p := ⟨gb308, 1, none⟩) (by first | (rw [add_block]; exact hn309_1) | (show (Addr.add _ _).block ≠ _; rw [add_block]; exact hn309_1) | exact hn309_1) (.int .i64 ((rd_T34 l0 x7_1).f1))).trans hx309_3; replace hx309_0 := (cell_far (p := ⟨gb308, 2, none⟩) (by first | (rw [add_block]; exact hn309_2) | (show (Addr.add _ _).block ≠ _; rw [add_block]; exact hn309_2) | exact hn309_2) (.bool ((rd_T34 l0 x7_1).f2))).trans hx309_0; replace hx309_1 := (cell_far (p := ⟨gb308, 2, none⟩) (by first | (rw [add_block]; exact hn309_2) | (show (Addr.add _ _).block ≠ _; rw [add_block]; exact hn309_2) | exact hn309_2) (.bool ((rd_T34 l0 x7_1).f2))).trans hx309_1; replace hx309_2 := (cell_far (p := ⟨gb308, 2, none⟩) (by first | (rw [add_block]; exact hn309_2) | (show (Addr.add _ _).block ≠ _; rw [add_block]; exact hn309_2) | exact hn309_2) (.bool ((rd_T34 l0 x7_1).f2))).trans hx309_2; replace hx309_3 := (cell_far (p := ⟨gb308, 2, none⟩) (by first | (rw [add_block]; exact hn309_2) | (show (Addr.add _ _).block ≠ _; rw [add_block]; exact hn309_2) | exact hn309_2) (.bool ((rd_T34 l0 x7_1).f2))).trans hx309_3; replace hx309_0 := (cell_far (p := ⟨gb308, 3, none⟩) (by first | (rw [add_block]; exact hn309_3) | (show (Addr.add _ _).block ≠ _; rw [add_block]; exact hn309_3) | exact hn309_3) (.string ((rd_T34 l0 x7_1).f3))).trans hx309_0; replace hx309_1 := (cell_far (p := ⟨gb308, 3, none⟩) (by first | (rw [add_block]; exact hn309_3) | (show (Addr.add _ _).block ≠ _; rw [add_block]; exact hn309_3) | exact hn309_3) (.string ((rd_T34 l0 x7_1).f3))).trans hx309_1; replace hx309_2 := (cell_far (p := ⟨gb308, 3, none⟩) (by first | (rw [add_block]; exact hn309_3) | (show (Addr.add _ _).block ≠ _; rw [add_block]; exact hn309_3) | exact hn309_3) (.string ((rd_T34 l0 x7_1).f3))).trans hx309_2; replace hx309_3 := (cell_far (p := ⟨gb308, 3, none⟩) (by first | (rw [add_block]; exact hn309_3) | (show (Addr.add _ _).block ≠ _; rw [add_block]; exact hn309_3) | exact hn309_3) (.string ((rd_T34 l0 x7_1).f3))).trans hx309_3; (try have hy309_0 := fun (n_ : Nat) => (show ((((((w12.drewN n_).setCell ⟨gb308, 0, none⟩ (.int .i64 ((rd_T34 l0 x7_1).f0))).setCell ⟨gb308, 1, none⟩ (.int .i64 ((rd_T34 l0 x7_1).f1))).setCell ⟨gb308, 2, none⟩ (.bool ((rd_T34 l0 x7_1).f2))).setCell ⟨gb308, 3, none⟩ (.string ((rd_T34 l0 x7_1).f3)))).cell? _ = some _ from hx309_0)); (try have hy309_1 := fun (n_ : Nat) => (show ((((((w12.drewN n_).setCell ⟨gb308, 0, none⟩ (.int .i64 ((rd_T34 l0 x7_1).f0))).setCell ⟨gb308, 1, none⟩ (.int .i64 ((rd_T34 l0 x7_1).f1))).setCell ⟨gb308, 2, none⟩ (.bool ((rd_T34 l0 x7_1).f2))).setCell ⟨gb308, 3, none⟩ (.string ((rd_T34 l0 x7_1).f3)))).cell? _ = some _ from hx309_1)); (try have hy309_2 := fun (n_ : Nat) => (show ((((((w12.drewN n_).setCell ⟨gb308, 0, none⟩ (.int .i64 ((rd_T34 l0 x7_1).f0))).setCell ⟨gb308, 1, none⟩ (.int .i64 ((rd_T34 l0 x7_1).f1))).setCell ⟨gb308, 2, none⟩ (.bool ((rd_T34 l0 x7_1).f2))).setCell ⟨gb308, 3, none⟩ (.string ((rd_T34 l0 x7_1).f3)))).cell? _ = some _ from hx309_2)); (try have hy309_3 := fun (n_ : Nat) => (show ((((((w12.drewN n_).setCell ⟨gb308, 0, none⟩ (.int .i64 ((rd_T34 l0 x7_1).f0))).setCell ⟨gb308, 1, none⟩ (.int .i64 ((rd_T34 l0 x7_1).f1))).setCell ⟨gb308, 2, none⟩ (.bool ((rd_T34 l0 x7_1).f2))).setCell ⟨gb308, 3, none⟩ (.string ((rd_T34 l0 x7_1).f3)))).cell? _ = some _ from hx309_3)); clear hn309_0; clear hn309_1; clear hn309_2; clear hn309_3; replace p309 := eq_true p309; replace q309 := eq_true q309)))
          go_roundg k1
          case measure => have := HK1.out; omega
          case rel => exact ⟨(wrap64 (x7_1 + 1)), (by first | rfl | (simp; done) | (simp [*]; done)), H', ⟨by have := HK1.out; omega⟩, ⟨KB⟩⟩
        ·rw [if_neg c8] at H
         exact absurd H (by simp)
       ·rw [if_neg c7] at H
        exact absurd H (by simp)
      ·rw [if_neg c5] at H
       have c5b0 : decide (0 < x7_1) = false := decide_eq_false c5
       clear c5
       have H' := Aside0.mk H
       clear H
       have p307 : 0 ≤ (x7_1 : Int) := of_decide_eq_true (by first | (with_reducible assumption) | assumption)
       have q307 : x7_1 < (l0.length : Int) := of_decide_eq_true (by first | (with_reducible assumption) | assumption)
       obtain ⟨ad307, e307, hx307_0, hx307_1, hx307_2, hx307_3⟩ := at_T34 HR0.out x7_1 p307 q307
       cases e307
       replace hx307_0 := (HB.out.cell (World.block_lt_of_cell? w _ hx307_0)).trans hx307_0
       replace hx307_1 := (HB.out.cell (World.block_lt_of_cell? w _ hx307_1)).trans hx307_1
       replace hx307_2 := (HB.out.cell (World.block_lt_of_cell? w _ hx307_2)).trans hx307_2
       replace hx307_3 := (HB.out.cell (World.block_lt_of_cell? w _ hx307_3)).trans hx307_3
       replace p307 := eq_true p307
       replace q307 := eq_true q307
       go_wp2_with (first | ((with_reducible refine gate_dst (N := 4) rfl ?_); refine box_event ?hg (N := 4) ?hd (cs := #[.int .i64 0, .int .i64 0, .bool false, .string (⟨#[]⟩ : ByteArray)]) (t := 34) ?hr ?_; (case hd => rfl); (case hg => rfl); (case hr => first | (go_simp; done) | (go_simp; rfl)); intro gb308 hg w14 hbox hb; have n0_ := Aside0.mk (below_step KB hb); have n1_ := Aside0.mk (hbox); have n2_ := Aside0.mk ((KG hg : w.heap.size ≤ gb308)); have n3_ := Aside0.mk ((KG hg : w.heap.size ≤ gb308)); clear HB; have HB := n0_; have BK308 := n1_; have GW308 := n2_; have GE308 := n3_; clear n0_ n1_ n2_ n3_; clear hb hbox hg; have hcz15_0 : w14.cell? ⟨gb308, 0, none⟩ = some (.int .i64 0) := (blk_cell BK308.out 0).trans rfl; have hcz15_1 : w14.cell? ⟨gb308, 1, none⟩ = some (.int .i64 0) := (blk_cell BK308.out 1).trans rfl; have hcz15_2 : w14.cell? ⟨gb308, 2, none⟩ = some (.bool false) := (blk_cell BK308.out 2).trans rfl; have hcz15_3 : w14.cell? ⟨gb308, 3, none⟩ = some (.string (⟨#[]⟩ : ByteArray)) := (blk_cell BK308.out 3).trans rfl; have hfz15_0 := blk_frozen BK308.out 0; have hfz15_1 := blk_frozen BK308.out 1; have hfz15_2 := blk_frozen BK308.out 2; have hfz15_3 := blk_frozen BK308.out 3))
       repeat (go_quiet (fail); try go_wp2_with (first | ((with_reducible refine gate_dst (N := 4) rfl ?_); refine box_event ?hg (N := 4) ?hd (cs := #[.int .i64 0, .int .i64 0, .bool false, .string (⟨#[]⟩ : ByteArray)]) (t := 34) ?hr ?_; (case hd => rfl); (case hg => rfl); (case hr => first | (go_simp; done) | (go_simp; rfl)); intro gb308 hg w14 hbox hb; have n0_ := Aside0.mk (below_step KB hb); have n1_ := Aside0.mk (hbox); have n2_ := Aside0.mk ((KG hg : w.heap.size ≤ gb308)); have n3_ := Aside0.mk ((KG hg : w.heap.size ≤ gb308)); clear HB; have HB := n0_; have BK308 := n1_; have GW308 := n2_; have GE308 := n3_; clear n0_ n1_ n2_ n3_; clear hb hbox hg; have hcz15_0 : w14.cell? ⟨gb308, 0, none⟩ = some (.int .i64 0) := (blk_cell BK308.out 0).trans rfl; have hcz15_1 : w14.cell? ⟨gb308, 1, none⟩ = some (.int .i64 0) := (blk_cell BK308.out 1).trans rfl; have hcz15_2 : w14.cell? ⟨gb308, 2, none⟩ = some (.bool false) := (blk_cell BK308.out 2).trans rfl; have hcz15_3 : w14.cell? ⟨gb308, 3, none⟩ = some (.string (⟨#[]⟩ : ByteArray)) := (blk_cell BK308.out 3).trans rfl; have hfz15_0 := blk_frozen BK308.out 0; have hfz15_1 := blk_frozen BK308.out 1; have hfz15_2 := blk_frozen BK308.out 2; have hfz15_3 := blk_frozen BK308.out 3)))
       go_roundg k1
       case measure => have := HK1.out; omega
       case rel => exact ⟨(wrap64 (x7_1 + 1)), (by first | rfl | (simp; done) | (simp [*]; done)), H', ⟨by have := HK1.out; omega⟩, ⟨KB⟩⟩
     ·rw [if_neg c4] at H
      exact absurd H (by simp)
    ·rw [if_neg c3] at H
     exact absurd H (by simp)
   ·rw [if_neg c2] at H
    have c2b0 : decide (x7_1 < (l0.length : Int)) = false := decide_eq_false c2
    clear c2
    obtain rfl := Option.some.inj H
    go_wp2
    repeat (go_quiet (fail); try go_wp2)
    go_ret
    exact ⟨KE, KB⟩

/-! ### impl_StoreOk: function 18 -/
def impl_StoreOk.j0 : Nat → Bool → List (S34) → List (S34) → Int → Option (Bool)
 | 0, _, _, _, _ => none
 | k + 1, x12, x311000, x311001, x311002 => if x12 = true then (some false) else ((impl_entriesOk.f k x311000).bind fun t311 => (if t311 = true then ((impl_entriesOk.f k x311001).bind fun t312 => (if t312 = true then ((impl_placesAscend.f k x311000).bind fun t313 => (if t313 = true then ((impl_within.f x311002 0 30).bind fun t314 => (some t314)) else (some false))) else (some false))) else (some false)))
def impl_StoreOk.f (k : Nat) (l0_0 : List (S34)) (l0_1 : List (S34)) (a0_2 : Int) : Option (Bool) := if (l0_0.length : Int) > 200 then (impl_StoreOk.j0 k true l0_0 l0_1 a0_2) else (impl_StoreOk.j0 k (decide ((l0_1.length : Int) > 20)) l0_0 l0_1 a0_2)
theorem impl_StoreOk.mono_l : ∀ k, (∀ y0 y1 y2 y3, LeO (impl_StoreOk.j0 k y0 y1 y2 y3) (impl_StoreOk.j0 (k + 1) y0 y1 y2 y3))
 | 0 => fun _ _ _ _ r h => by simp [impl_StoreOk.j0] at h
 | k + 1 => by
  have ih0 := impl_StoreOk.mono_l k
  ·intro y0 y1 y2 y3
   unfold impl_StoreOk.j0
   repeat' first
   | (with_reducible exact ih0 _ _ _ _)
   | (with_reducible exact impl_entriesOk.mono _ _)
   | (with_reducible exact impl_placesAscend.mono _ _)
   | (with_reducible exact LeO.refl _)
   | (with_reducible exact LeO.none _)
   | (with_reducible refine LeO.ite ?_ ?_)
   | (with_reducible refine LeO.bind ?_ (fun _ => ?_))
   | exact ih0 _ _ _ _
   | exact impl_entriesOk.mono _ _
   | exact impl_placesAscend.mono _ _
   | exact LeO.none _
   | refine LeO.ite ?_ ?_
   | refine LeO.bind ?_ (fun _ => ?_)
theorem impl_StoreOk.mono : ∀ a0 a1 a2 k, LeO (impl_StoreOk.f k a0 a1 a2) (impl_StoreOk.f (k + 1) a0 a1 a2) := by
 intro a0 a1 a2 k
 have ih0 := impl_StoreOk.mono_l k
 unfold impl_StoreOk.f
 repeat' first
   | (with_reducible exact ih0 _ _ _ _)
   | (with_reducible exact impl_entriesOk.mono _ _)
   | (with_reducible exact impl_placesAscend.mono _ _)
   | (with_reducible exact LeO.refl _)
   | (with_reducible exact LeO.none _)
   | (with_reducible refine LeO.ite ?_ ?_)
   | (with_reducible refine LeO.bind ?_ (fun _ => ?_))
   | exact ih0 _ _ _ _
   | exact impl_entriesOk.mono _ _
   | exact impl_placesAscend.mono _ _
   | exact LeO.none _
   | refine LeO.ite ?_ ?_
   | refine LeO.bind ?_ (fun _ => ?_)
set_option maxHeartbeats 8000000 in
set_option maxRecDepth 100000 in
theorem impl_StoreOk.calls (k : Nat) (A0_0 : Option Addr) (c0_0 : Nat) (l0_0 : List (S34)) (A0_1 : Option Addr) (c0_1 : Nat) (l0_1 : List (S34)) (a0_2 : Int) (r : Bool) (w : World) (hr0_0 : Kd.C k34 w A0_0 l0_0.length l0_0) (hc0_0 : l0_0.length ≤ c0_0) (hr0_1 : Kd.C k34 w A0_1 l0_1.length l0_1) (hc0_1 : l0_1.length ≤ c0_1) (h : impl_StoreOk.f k l0_0 l0_1 a0_2 = some r) :
  Calls Try.prog 18 #[.agg #[.slice A0_0 l0_0.length c0_0, .slice A0_1 l0_1.length c0_1, .int .i64 a0_2]] w fun e w' => e = .returned (.bool r) ∧ Below w.heap.size w w' := by
 have hu29 := Try.underlying29
 have HR0_0 := Aside0.mk hr0_0
 have HC0_0 := Aside0.mk hc0_0
 clear hr0_0 hc0_0
 have HR0_1 := Aside0.mk hr0_1
 have HC0_1 := Aside0.mk hc0_1
 clear hr0_1 hc0_1
 have HB := Aside0.mk (Below.refl w.heap.size w)
 have H : (if (l0_0.length : Int) > 200 then (impl_StoreOk.j0 k true l0_0 l0_1 a0_2) else (impl_StoreOk.j0 k (decide ((l0_1.length : Int) > 20)) l0_0 l0_1 a0_2)) = some r := h
 clear h
 have HC2 := Aside0.mk H
 clear H
 go_enter Try.func18, Try.ntmps18
 go_upto_region 1 with (first | ((with_reducible refine gate_dst (N := 1) rfl ?_); (try (refine gate_guard (by rfl) ?_; dsimp only)); refine box_event ?hg (N := 1) ?hd (cs := #[.slice A0_0 l0_0.length c0_0, .slice A0_1 l0_1.length c0_1, .int .i64 a0_2]) (t := 29) ?hr ?_; (case hd => rfl); (case hg => rfl); (case hr => first | (go_simp; done) | (go_simp; rfl)); intro gb310 hg w3 hbox hb; have n0_ := Aside0.mk (below_step KB hb); have n1_ := Aside0.mk (hbox); have n2_ := Aside0.mk ((KG hg : w.heap.size ≤ gb310)); have n3_ := Aside0.mk ((KG hg : w.heap.size ≤ gb310)); clear HB; have HB := n0_; have BK310 := n1_; have GW310 := n2_; have GE310 := n3_; clear n0_ n1_ n2_ n3_; clear hb hbox hg))
 (try simp only [Act.put, List.setIfInBounds_toArray, List.set_cons_zero, List.set_cons_succ])
 go_cut [12] (fun v12 wc => ∃ (kq : Nat) (x12_1 : Bool), v12 = .bool x12_1 ∧ Aside0 (impl_StoreOk.j0 kq x12_1 l0_0 l0_1 a0_2 = some r) ∧ Aside0 (kq ≤ k) ∧ Aside0 (wc.heap[gb310]? = some (.cells #[(.slice A0_0 l0_0.length c0_0), (.slice A0_1 l0_1.length c0_1), .int .i64 a0_2] 29 (0, 0))) ∧ Aside0 (Below w.heap.size w wc))
 case first =>
  have H := HC2.out
  clear HC2
  by_cases c4 : (l0_0.length : Int) > 200
  ·rw [if_pos c4] at H
   have c4b0 : decide (200 < (l0_0.length : Int)) = true := decide_eq_true c4
   have c4b1 : decide (200 < l0_0.length) = true := decide_eq_true (by omega)
   clear c4
   (first | rw [c4b0] | (simp only [i64_w, i32_w]; rw [c4b0]) | skip)
   have H' := Aside0.mk H
   clear H
   have hcz5_0 : w3.cell? ⟨gb310, 0, none⟩ = some (.slice A0_0 l0_0.length c0_0) := (blk_cell BK310.out 0).trans rfl
   have hcz5_1 : w3.cell? ⟨gb310, 1, none⟩ = some (.slice A0_1 l0_1.length c0_1) := (blk_cell BK310.out 1).trans rfl
   have hcz5_2 : w3.cell? ⟨gb310, 2, none⟩ = some (.int .i64 a0_2) := (blk_cell BK310.out 2).trans rfl
   have hfz5_0 := blk_frozen BK310.out 0
   have hfz5_1 := blk_frozen BK310.out 1
   have hfz5_2 := blk_frozen BK310.out 2
   go_wp2
   go_meet
   case rel => exact ⟨_, (true), (by first | rfl | (simp; done) | (simp [*]; done)), H', ⟨by first | omega | exact Nat.le_refl _⟩, ⟨KK⟩, ⟨KB⟩⟩
  ·rw [if_neg c4] at H
   have c4b0 : decide (200 < (l0_0.length : Int)) = false := decide_eq_false c4
   have c4b1 : decide (200 < l0_0.length) = false := decide_eq_false (by omega)
   clear c4
   (first | rw [c4b0] | (simp only [i64_w, i32_w]; rw [c4b0]) | skip)
   have H' := Aside0.mk H
   clear H
   have hcz6_0 : w3.cell? ⟨gb310, 0, none⟩ = some (.slice A0_0 l0_0.length c0_0) := (blk_cell BK310.out 0).trans rfl
   have hcz6_1 : w3.cell? ⟨gb310, 1, none⟩ = some (.slice A0_1 l0_1.length c0_1) := (blk_cell BK310.out 1).trans rfl
   have hcz6_2 : w3.cell? ⟨gb310, 2, none⟩ = some (.int .i64 a0_2) := (blk_cell BK310.out 2).trans rfl
   have hfz6_0 := blk_frozen BK310.out 0
   have hfz6_1 := blk_frozen BK310.out 1
   have hfz6_2 := blk_frozen BK310.out 2
   go_wp2
   go_meet
   case rel => exact ⟨_, (decide ((l0_1.length : Int) > 20)), (by first | rfl | (simp; done) | (simp [*]; done)), H', ⟨by first | omega | exact Nat.le_refl _⟩, ⟨KK⟩, ⟨KB⟩⟩
 case rest =>
  clear HC2
  try clear c1
  try clear p2
  try clear c4
  try clear c4b0
  try clear c4b1
  try clear hcz5_0
  try clear hcz5_1
  try clear hcz5_2
  try clear hcz6_0
  try clear hcz6_1
  try clear hcz6_2
  try clear hfz5_0
  try clear hfz5_1
  try clear hfz5_2
  try clear hfz6_0
  try clear hfz6_1
  try clear hfz6_2
  obtain ⟨kq, x12_1, rfl, HA, HJ1, BK310, HB⟩ := hcut
  cases kq with
  | zero => exact absurd HA.out (by simp [impl_StoreOk.j0])
  | succ kj1 =>
   have H := HA.out
   clear HA
   simp only [impl_StoreOk.j0] at H
   by_cases c7 : x12_1 = true
   ·subst c7
    have H1 : (some false) = some r := by rw [if_pos rfl] at H; exact H
    clear H
    have H := H1
    clear H1
    obtain rfl := Option.some.inj H
    go_wp2
    go_ret
    exact ⟨KE, KB⟩
   ·replace c7 := Bool.eq_false_iff.mpr c7
    subst c7
    have H1 : ((impl_entriesOk.f kj1 l0_0).bind fun t311 => (if t311 = true then ((impl_entriesOk.f kj1 l0_1).bind fun t312 => (if t312 = true then ((impl_placesAscend.f kj1 l0_0).bind fun t313 => (if t313 = true then ((impl_within.f a0_2 0 30).bind fun t314 => (some t314)) else (some false))) else (some false))) else (some false))) = some r := by rw [if_neg (show ¬ (false = true) by decide)] at H; exact H
    clear H
    have H := H1
    clear H1
    replace H := Option.bind_eq_some_iff.mp H
    obtain ⟨t311, A80, H⟩ := H
    replace H : (if t311 = true then ((impl_entriesOk.f kj1 l0_1).bind fun t312 => (if t312 = true then ((impl_placesAscend.f kj1 l0_0).bind fun t313 => (if t313 = true then ((impl_within.f a0_2 0 30).bind fun t314 => (some t314)) else (some false))) else (some false))) else (some false)) = some r := H
    have A8 := Aside0.mk A80
    clear A80
    by_cases c9 : t311 = true
    ·subst c9
     have H1 : ((impl_entriesOk.f kj1 l0_1).bind fun t312 => (if t312 = true then ((impl_placesAscend.f kj1 l0_0).bind fun t313 => (if t313 = true then ((impl_within.f a0_2 0 30).bind fun t314 => (some t314)) else (some false))) else (some false))) = some r := by rw [if_pos rfl] at H; exact H
     clear H
     have H := H1
     clear H1
     replace H := Option.bind_eq_some_iff.mp H
     obtain ⟨t312, A100, H⟩ := H
     replace H : (if t312 = true then ((impl_placesAscend.f kj1 l0_0).bind fun t313 => (if t313 = true then ((impl_within.f a0_2 0 30).bind fun t314 => (some t314)) else (some false))) else (some false)) = some r := H
     have A10 := Aside0.mk A100
     clear A100
     by_cases c11 : t312 = true
     ·subst c11
      have H1 : ((impl_placesAscend.f kj1 l0_0).bind fun t313 => (if t313 = true then ((impl_within.f a0_2 0 30).bind fun t314 => (some t314)) else (some false))) = some r := by rw [if_pos rfl] at H; exact H
      clear H
      have H := H1
      clear H1
      replace H := Option.bind_eq_some_iff.mp H
      obtain ⟨t313, A120, H⟩ := H
      replace H : (if t313 = true then ((impl_within.f a0_2 0 30).bind fun t314 => (some t314)) else (some false)) = some r := H
      have A12 := Aside0.mk A120
      clear A120
      by_cases c13 : t313 = true
      ·subst c13
       have H1 : ((impl_within.f a0_2 0 30).bind fun t314 => (some t314)) = some r := by rw [if_pos rfl] at H; exact H
       clear H
       have H := H1
       clear H1
       replace H := Option.bind_eq_some_iff.mp H
       obtain ⟨t314, A140, H⟩ := H
       replace H : (some t314) = some r := H
       have A14 := Aside0.mk A140
       clear A140
       obtain rfl := Option.some.inj H
       have hcz15_0 : wc.cell? ⟨gb310, 0, none⟩ = some (.slice A0_0 l0_0.length c0_0) := (blk_cell BK310.out 0).trans rfl
       have hcz15_1 : wc.cell? ⟨gb310, 1, none⟩ = some (.slice A0_1 l0_1.length c0_1) := (blk_cell BK310.out 1).trans rfl
       have hcz15_2 : wc.cell? ⟨gb310, 2, none⟩ = some (.int .i64 a0_2) := (blk_cell BK310.out 2).trans rfl
       have hfz15_0 := blk_frozen BK310.out 0
       have hfz15_1 := blk_frozen BK310.out 1
       have hfz15_2 := blk_frozen BK310.out 2
       go_wp2_with (first | ((with_reducible refine gate_callee (f := 66) rfl ?_); refine goesL_ (some 15) rfl rfl Try.func66 (by kernel_rfl) rfl #[.slice A0_0 l0_0.length c0_0] rfl KL ?_; (with_reducible refine (impl_entriesOk.calls kj1 _ _ l0_0 true _ ?side1 ?side2 A8.out).mono ?_); (case side1 => exact KD (Kd.C_below HR0_0.out HB.out)); (case side2 => exact HC0_0.out); rintro e w16 ⟨rfl, hb⟩; refine ⟨_, rfl, ?_⟩; have n0_ := Aside0.mk (blk_below (g := gb310) (o := .cells #[.slice A0_0 l0_0.length c0_0, .slice A0_1 l0_1.length c0_1, .int .i64 a0_2] 29 (0, 0)) KK hb); have n1_ := Aside0.mk (below_step KB hb); clear BK310; clear HB; have BK310 := n0_; have HB := n1_; clear n0_ n1_; (try clear hb); (try clear hb2); (try clear hk); (try clear hi); have hcz17_0 : w16.cell? ⟨gb310, 0, none⟩ = some (.slice A0_0 l0_0.length c0_0) := (blk_cell BK310.out 0).trans rfl; have hcz17_1 : w16.cell? ⟨gb310, 1, none⟩ = some (.slice A0_1 l0_1.length c0_1) := (blk_cell BK310.out 1).trans rfl; have hcz17_2 : w16.cell? ⟨gb310, 2, none⟩ = some (.int .i64 a0_2) := (blk_cell BK310.out 2).trans rfl; have hfz17_0 := blk_frozen BK310.out 0; have hfz17_1 := blk_frozen BK310.out 1; have hfz17_2 := blk_frozen BK310.out 2) | (go_at_call 66; (with_reducible refine (impl_entriesOk.calls kj1 _ _ l0_1 true _ ?side1 ?side2 A10.out).mono ?_); (case side1 => exact KD (Kd.C_below HR0_1.out HB.out)); (case side2 => exact HC0_1.out); rintro e w18 ⟨rfl, hb⟩; have n0_ := Aside0.mk (blk_below (g := gb310) (o := .cells #[.slice A0_0 l0_0.length c0_0, .slice A0_1 l0_1.length c0_1, .int .i64 a0_2] 29 (0, 0)) KK hb); have n1_ := Aside0.mk (below_step KB hb); clear BK310; clear HB; have BK310 := n0_; have HB := n1_; clear n0_ n1_; (try clear hb); (try clear hb2); (try clear hk); (try clear hi); have hcz19_0 : w18.cell? ⟨gb310, 0, none⟩ = some (.slice A0_0 l0_0.length c0_0) := (blk_cell BK310.out 0).trans rfl; have hcz19_1 : w18.cell? ⟨gb310, 1, none⟩ = some (.slice A0_1 l0_1.length c0_1) := (blk_cell BK310.out 1).trans rfl; have hcz19_2 : w18.cell? ⟨gb310, 2, none⟩ = some (.int .i64 a0_2) := (blk_cell BK310.out 2).trans rfl; have hfz19_0 := blk_frozen BK310.out 0; have hfz19_1 := blk_frozen BK310.out 1; have hfz19_2 := blk_frozen BK310.out 2) | (go_at_call 67; (with_reducible refine (impl_placesAscend.calls kj1 _ _ l0_0 true _ ?side1 ?side2 A12.out).mono ?_); (case side1 => exact KD (Kd.C_below HR0_0.out HB.out)); (case side2 => exact HC0_0.out); rintro e w20 ⟨rfl, hb⟩; have n0_ := Aside0.mk (blk_below (g := gb310) (o := .cells #[.slice A0_0 l0_0.length c0_0, .slice A0_1 l0_1.length c0_1, .int .i64 a0_2] 29 (0, 0)) KK hb); have n1_ := Aside0.mk (below_step KB hb); clear BK310; clear HB; have BK310 := n0_; have HB := n1_; clear n0_ n1_; (try clear hb); (try clear hb2); (try clear hk); (try clear hi); have hcz21_0 : w20.cell? ⟨gb310, 0, none⟩ = some (.slice A0_0 l0_0.length c0_0) := (blk_cell BK310.out 0).trans rfl; have hcz21_1 : w20.cell? ⟨gb310, 1, none⟩ = some (.slice A0_1 l0_1.length c0_1) := (blk_cell BK310.out 1).trans rfl; have hcz21_2 : w20.cell? ⟨gb310, 2, none⟩ = some (.int .i64 a0_2) := (blk_cell BK310.out 2).trans rfl; have hfz21_0 := blk_frozen BK310.out 0; have hfz21_1 := blk_frozen BK310.out 1; have hfz21_2 := blk_frozen BK310.out 2) | (go_at_call 68; (with_reducible refine (impl_within.calls a0_2 0 30 t314 _ A14.out).mono ?_); rintro e w' ⟨rfl, ⟨nd, rfl⟩⟩))
       go_ret
       exact ⟨KE, KB⟩
      ·replace c13 := Bool.eq_false_iff.mpr c13
       subst c13
       have H1 : (some false) = some r := by rw [if_neg (show ¬ (false = true) by decide)] at H; exact H
       clear H
       have H := H1
       clear H1
       obtain rfl := Option.some.inj H
       have hcz22_0 : wc.cell? ⟨gb310, 0, none⟩ = some (.slice A0_0 l0_0.length c0_0) := (blk_cell BK310.out 0).trans rfl
       have hcz22_1 : wc.cell? ⟨gb310, 1, none⟩ = some (.slice A0_1 l0_1.length c0_1) := (blk_cell BK310.out 1).trans rfl
       have hcz22_2 : wc.cell? ⟨gb310, 2, none⟩ = some (.int .i64 a0_2) := (blk_cell BK310.out 2).trans rfl
       have hfz22_0 := blk_frozen BK310.out 0
       have hfz22_1 := blk_frozen BK310.out 1
       have hfz22_2 := blk_frozen BK310.out 2
       go_wp2_with (first | ((with_reducible refine gate_callee (f := 66) rfl ?_); refine goesL_ (some 15) rfl rfl Try.func66 (by kernel_rfl) rfl #[.slice A0_0 l0_0.length c0_0] rfl KL ?_; (with_reducible refine (impl_entriesOk.calls kj1 _ _ l0_0 true _ ?side1 ?side2 A8.out).mono ?_); (case side1 => exact KD (Kd.C_below HR0_0.out HB.out)); (case side2 => exact HC0_0.out); rintro e w23 ⟨rfl, hb⟩; refine ⟨_, rfl, ?_⟩; have n0_ := Aside0.mk (blk_below (g := gb310) (o := .cells #[.slice A0_0 l0_0.length c0_0, .slice A0_1 l0_1.length c0_1, .int .i64 a0_2] 29 (0, 0)) KK hb); have n1_ := Aside0.mk (below_step KB hb); clear BK310; clear HB; have BK310 := n0_; have HB := n1_; clear n0_ n1_; (try clear hb); (try clear hb2); (try clear hk); (try clear hi); have hcz24_0 : w23.cell? ⟨gb310, 0, none⟩ = some (.slice A0_0 l0_0.length c0_0) := (blk_cell BK310.out 0).trans rfl; have hcz24_1 : w23.cell? ⟨gb310, 1, none⟩ = some (.slice A0_1 l0_1.length c0_1) := (blk_cell BK310.out 1).trans rfl; have hcz24_2 : w23.cell? ⟨gb310, 2, none⟩ = some (.int .i64 a0_2) := (blk_cell BK310.out 2).trans rfl; have hfz24_0 := blk_frozen BK310.out 0; have hfz24_1 := blk_frozen BK310.out 1; have hfz24_2 := blk_frozen BK310.out 2) | (go_at_call 66; (with_reducible refine (impl_entriesOk.calls kj1 _ _ l0_1 true _ ?side1 ?side2 A10.out).mono ?_); (case side1 => exact KD (Kd.C_below HR0_1.out HB.out)); (case side2 => exact HC0_1.out); rintro e w25 ⟨rfl, hb⟩; have n0_ := Aside0.mk (blk_below (g := gb310) (o := .cells #[.slice A0_0 l0_0.length c0_0, .slice A0_1 l0_1.length c0_1, .int .i64 a0_2] 29 (0, 0)) KK hb); have n1_ := Aside0.mk (below_step KB hb); clear BK310; clear HB; have BK310 := n0_; have HB := n1_; clear n0_ n1_; (try clear hb); (try clear hb2); (try clear hk); (try clear hi); have hcz26_0 : w25.cell? ⟨gb310, 0, none⟩ = some (.slice A0_0 l0_0.length c0_0) := (blk_cell BK310.out 0).trans rfl; have hcz26_1 : w25.cell? ⟨gb310, 1, none⟩ = some (.slice A0_1 l0_1.length c0_1) := (blk_cell BK310.out 1).trans rfl; have hcz26_2 : w25.cell? ⟨gb310, 2, none⟩ = some (.int .i64 a0_2) := (blk_cell BK310.out 2).trans rfl; have hfz26_0 := blk_frozen BK310.out 0; have hfz26_1 := blk_frozen BK310.out 1; have hfz26_2 := blk_frozen BK310.out 2) | (go_at_call 67; (with_reducible refine (impl_placesAscend.calls kj1 _ _ l0_0 false _ ?side1 ?side2 A12.out).mono ?_); (case side1 => exact KD (Kd.C_below HR0_0.out HB.out)); (case side2 => exact HC0_0.out); rintro e w27 ⟨rfl, hb⟩; have n0_ := Aside0.mk (blk_below (g := gb310) (o := .cells #[.slice A0_0 l0_0.length c0_0, .slice A0_1 l0_1.length c0_1, .int .i64 a0_2] 29 (0, 0)) KK hb); have n1_ := Aside0.mk (below_step KB hb); clear BK310; clear HB; have BK310 := n0_; have HB := n1_; clear n0_ n1_; (try clear hb); (try clear hb2); (try clear hk); (try clear hi)))
       go_ret
       exact ⟨KE, KB⟩
     ·replace c11 := Bool.eq_false_iff.mpr c11
      subst c11
      have H1 : (some false) = some r := by rw [if_neg (show ¬ (false = true) by decide)] at H; exact H
      clear H
      have H := H1
      clear H1
      obtain rfl := Option.some.inj H
      have hcz28_0 : wc.cell? ⟨gb310, 0, none⟩ = some (.slice A0_0 l0_0.length c0_0) := (blk_cell BK310.out 0).trans rfl
      have hcz28_1 : wc.cell? ⟨gb310, 1, none⟩ = some (.slice A0_1 l0_1.length c0_1) := (blk_cell BK310.out 1).trans rfl
      have hcz28_2 : wc.cell? ⟨gb310, 2, none⟩ = some (.int .i64 a0_2) := (blk_cell BK310.out 2).trans rfl
      have hfz28_0 := blk_frozen BK310.out 0
      have hfz28_1 := blk_frozen BK310.out 1
      have hfz28_2 := blk_frozen BK310.out 2
      go_wp2_with (first | ((with_reducible refine gate_callee (f := 66) rfl ?_); refine goesL_ (some 15) rfl rfl Try.func66 (by kernel_rfl) rfl #[.slice A0_0 l0_0.length c0_0] rfl KL ?_; (with_reducible refine (impl_entriesOk.calls kj1 _ _ l0_0 true _ ?side1 ?side2 A8.out).mono ?_); (case side1 => exact KD (Kd.C_below HR0_0.out HB.out)); (case side2 => exact HC0_0.out); rintro e w29 ⟨rfl, hb⟩; refine ⟨_, rfl, ?_⟩; have n0_ := Aside0.mk (blk_below (g := gb310) (o := .cells #[.slice A0_0 l0_0.length c0_0, .slice A0_1 l0_1.length c0_1, .int .i64 a0_2] 29 (0, 0)) KK hb); have n1_ := Aside0.mk (below_step KB hb); clear BK310; clear HB; have BK310 := n0_; have HB := n1_; clear n0_ n1_; (try clear hb); (try clear hb2); (try clear hk); (try clear hi); have hcz30_0 : w29.cell? ⟨gb310, 0, none⟩ = some (.slice A0_0 l0_0.length c0_0) := (blk_cell BK310.out 0).trans rfl; have hcz30_1 : w29.cell? ⟨gb310, 1, none⟩ = some (.slice A0_1 l0_1.length c0_1) := (blk_cell BK310.out 1).trans rfl; have hcz30_2 : w29.cell? ⟨gb310, 2, none⟩ = some (.int .i64 a0_2) := (blk_cell BK310.out 2).trans rfl; have hfz30_0 := blk_frozen BK310.out 0; have hfz30_1 := blk_frozen BK310.out 1; have hfz30_2 := blk_frozen BK310.out 2) | (go_at_call 66; (with_reducible refine (impl_entriesOk.calls kj1 _ _ l0_1 false _ ?side1 ?side2 A10.out).mono ?_); (case side1 => exact KD (Kd.C_below HR0_1.out HB.out)); (case side2 => exact HC0_1.out); rintro e w31 ⟨rfl, hb⟩; have n0_ := Aside0.mk (blk_below (g := gb310) (o := .cells #[.slice A0_0 l0_0.length c0_0, .slice A0_1 l0_1.length c0_1, .int .i64 a0_2] 29 (0, 0)) KK hb); have n1_ := Aside0.mk (below_step KB hb); clear BK310; clear HB; have BK310 := n0_; have HB := n1_; clear n0_ n1_; (try clear hb); (try clear hb2); (try clear hk); (try clear hi)))
      go_ret
      exact ⟨KE, KB⟩
    ·replace c9 := Bool.eq_false_iff.mpr c9
     subst c9
     have H1 : (some false) = some r := by rw [if_neg (show ¬ (false = true) by decide)] at H; exact H
     clear H
     have H := H1
     clear H1
     obtain rfl := Option.some.inj H
     have hcz32_0 : wc.cell? ⟨gb310, 0, none⟩ = some (.slice A0_0 l0_0.length c0_0) := (blk_cell BK310.out 0).trans rfl
     have hcz32_1 : wc.cell? ⟨gb310, 1, none⟩ = some (.slice A0_1 l0_1.length c0_1) := (blk_cell BK310.out 1).trans rfl
     have hcz32_2 : wc.cell? ⟨gb310, 2, none⟩ = some (.int .i64 a0_2) := (blk_cell BK310.out 2).trans rfl
     have hfz32_0 := blk_frozen BK310.out 0
     have hfz32_1 := blk_frozen BK310.out 1
     have hfz32_2 := blk_frozen BK310.out 2
     go_wp2_with (first | ((with_reducible refine gate_callee (f := 66) rfl ?_); refine goesL_ (some 15) rfl rfl Try.func66 (by kernel_rfl) rfl #[.slice A0_0 l0_0.length c0_0] rfl KL ?_; (with_reducible refine (impl_entriesOk.calls kj1 _ _ l0_0 false _ ?side1 ?side2 A8.out).mono ?_); (case side1 => exact KD (Kd.C_below HR0_0.out HB.out)); (case side2 => exact HC0_0.out); rintro e w33 ⟨rfl, hb⟩; refine ⟨_, rfl, ?_⟩; have n0_ := Aside0.mk (blk_below (g := gb310) (o := .cells #[.slice A0_0 l0_0.length c0_0, .slice A0_1 l0_1.length c0_1, .int .i64 a0_2] 29 (0, 0)) KK hb); have n1_ := Aside0.mk (below_step KB hb); clear BK310; clear HB; have BK310 := n0_; have HB := n1_; clear n0_ n1_; (try clear hb); (try clear hb2); (try clear hk); (try clear hi)))
     go_ret
     exact ⟨KE, KB⟩

/-! ### impl_copyEntries: function 101 -/
def impl_copyEntries.f (l0 : List (S34)) : Option ((List (S34))) := (some (([] : List (S34)) : List (S34))).bind fun y315 => (if y315.length + l0.length < 3518437208883 then (some (y315 ++ l0)) else (none))
set_option maxHeartbeats 8000000 in
set_option maxRecDepth 100000 in
theorem impl_copyEntries.calls (A0 : Option Addr) (c0 : Nat) (l0 : List (S34)) (r : List (S34)) (w : World) (hr0 : Kd.C k34 w A0 l0.length l0) (hc0 : l0.length ≤ c0) (h : impl_copyEntries.f l0 = some r) :
  Calls Try.prog 101 #[.slice A0 l0.length c0] w fun e w' => ∃ v0_ : Value, e = .returned (v0_) ∧ Kd.R k34 34 w' w.heap.size (fun _ => True) v0_ r ∧ Below w.heap.size w w' := by
 have HR0 := Aside0.mk hr0
 have HC0 := Aside0.mk hc0
 clear hr0 hc0
 have HB := Aside0.mk (Below.refl w.heap.size w)
 have H : ((some (([] : List (S34)) : List (S34))).bind fun y315 => (if y315.length + l0.length < 3518437208883 then (some (y315 ++ l0)) else (none))) = some r := h
 clear h
 obtain ⟨y315, hy315⟩ : ∃ y_ : List (S34), y_ = (([] : List (S34))) := ⟨_, rfl⟩
 replace H : (if y315.length + l0.length < 3518437208883 then (some (y315 ++ l0)) else (none)) = some r := by first | (rw [hy315]; with_reducible exact H) | (have H2_ := (Option.bind_some _ _).symm.trans H; rw [hy315]; with_reducible exact H2_) | (have H2_ := (Option.bind_some _ _).symm.trans H; with_reducible exact H2_) | with_reducible exact H | (rw [hy315]; exact H) | exact H
 have Ny315 := Aside0.mk hy315
 clear hy315
 by_cases c2 : y315.length + l0.length < 3518437208883
 ·rw [if_pos c2] at H
  have LMc2 := Aside0.mk c2
  clear c2
  obtain ⟨y318, hy318⟩ : ∃ y_ : List (S34), y_ = (y315 ++ l0) := ⟨_, rfl⟩
  replace H : (some y318) = some r := by first | (rw [hy318]; with_reducible exact H) | (have H2_ := (Option.bind_some _ _).symm.trans H; rw [hy318]; with_reducible exact H2_) | (have H2_ := (Option.bind_some _ _).symm.trans H; with_reducible exact H2_) | with_reducible exact H | (rw [hy318]; exact H) | exact H
  have Ny318 := Aside0.mk hy318
  clear hy318
  obtain rfl := Option.some.inj H
  go_enter Try.func101, Try.ntmps101
  go_wp2_with (first | ((with_reducible refine gate_dst (N := 3) rfl ?_); refine Kd.R_lit k34 _ 34 ?hg (N := 3) ?hd (xs := ([] : List (S34))) (inner := []) (ok := fun _ => True) (okp := fun _ => True) ?hr ?hp (fun _ hk => hk) trivial (Below.refl _ _) (Nat.le_refl _) (by simp) ?_; (case hd => rfl); (case hg => rfl); (case hr => first | (go_simp; done) | (go_simp; rfl)); (case hp => exact (Reps.none _ _)); intro v316 w3 ho4 hb hg_ hnew_; clear hg_ hnew_; (first | rw [← Ny315.out] at ho4 | (simp only [Int.reduceToNat] at ho4; rw [← Ny315.out] at ho4)); have n0_ := Aside0.mk (Kd.R_lower ho4 (below_size KB)); have n1_ := Aside0.mk (below_step KB hb); clear HB; have HO317 := n0_; have HB := n1_; clear n0_ n1_; clear hb ho4) | ((with_reducible refine gate_builtin (b := .append) (xs := #[.tmp 3, .tmp 4]) rfl ?_); at_builtin; refine Kd.R_append_rows k34 (w0 := w) w.heap.size rfl (.tmp 3) (.tmp 4) 27 34 (.agg #[(.int .i64 0), (.int .i64 0), (.bool false), (.string ⟨#[]⟩)]) 40 rfl Try.underlying27 info34 rfl (by decide) (by omega) v316 y315 l0 _ _ _ (fun _ => True) (fun _ => False) rfl rfl ?aO ?aR (fun _ _ h => h) (fun _ h => h.elim) ?aF ?aB ?aS ?aL ?_; (case aR => repeat (first | exact (Kd.C_below HR0.out HB.out) | (with_reducible refine Kd.C_alloc ?_ _) | (with_reducible refine Kd.C_drewN ?_ _) | (with_reducible refine Kd.C_drew ?_))); (case aB => exact KB); (case aF => exact (fun _ _ => trivial)); (case aO => exact (KR HO317.out)); (case aS => exact (below_size KB)); (case aL => have := LMc2.out; omega); intro v319 w5 ho hb hg hat; rw [← Ny318.out] at ho; have n0_ := Aside0.mk (hb); have n1_ := Aside0.mk (ho); clear HB; clear HO317; have HB := n0_; have HO320 := n1_; clear n0_ n1_; clear ho hb hg hat))
  go_ret
  exact ⟨_, KE, by (with_reducible repeat (first | apply Kd.R_alloc | apply Kd.R_drewN | apply Kd.R_drew)); exact HO320.out, KB⟩
 ·rw [if_neg c2] at H
  exact absurd H (by simp)

/-! ### impl_copyStore: function 78 -/
def impl_copyStore.f (l0_0 : List (S34)) (l0_1 : List (S34)) (a0_2 : Int) : Option ((List (S34)) × (List (S34)) × Int) := (impl_copyEntries.f l0_0).bind fun t323 => ((impl_copyEntries.f l0_1).bind fun t326 => (some (t323, t326, a0_2)))
def impl_copyStore.T1 : Bool × List (List Nat × List Nat) := (true, [([], []), ([0], [0]), ([1], [1]), ([], []), ([3], [3]), ([4, 2], [4]), ([], []), ([6], [6]), ([2, 5, 7], [2, 5, 7]), ([8, 5, 0, 1, 2, 3, 4, 5, 6, 7, 8], [8])])
def impl_copyStore.B1 : List Nat := [0, 1, 3, 0, 8, 31, 0, 64, 255, 511]
theorem impl_copyStore.tab1 : rtab .any (opsOf Try.f78 1) = impl_copyStore.T1 := by kernel_rfl
theorem impl_copyStore.bits1 : waitsOk impl_copyStore.T1.2 impl_copyStore.B1 = true := by kernel_rfl
set_option maxHeartbeats 8000000 in
set_option maxRecDepth 100000 in
theorem impl_copyStore.calls (A0_0 : Option Addr) (c0_0 : Nat) (l0_0 : List (S34)) (A0_1 : Option Addr) (c0_1 : Nat) (l0_1 : List (S34)) (a0_2 : Int) (r1 : List (S34)) (r2 : List (S34)) (r3 : Int) (w : World) (hr0_0 : Kd.C k34 w A0_0 l0_0.length l0_0) (hc0_0 : l0_0.length ≤ c0_0) (hr0_1 : Kd.C k34 w A0_1 l0_1.length l0_1) (hc0_1 : l0_1.length ≤ c0_1) (h : impl_copyStore.f l0_0 l0_1 a0_2 = some (r1, r2, r3)) :
  Calls Try.prog 78 #[.agg #[.slice A0_0 l0_0.length c0_0, .slice A0_1 l0_1.length c0_1, .int .i64 a0_2]] w fun e w' => ∃ v0_ v1_ : Value, e = .returned (.agg #[v0_, v1_, .int .i64 r3]) ∧ Kd.R k34 34 w' w.heap.size (fun k_ => some k_ ≠ (v1_ : Value).ownBlock) v0_ r1 ∧ Kd.R k34 34 w' w.heap.size (fun k_ => some k_ ≠ (v0_ : Value).ownBlock) v1_ r2 ∧ Below w.heap.size w w' := by
 have hu29 := Try.underlying29
 have HR0_0 := Aside0.mk hr0_0
 have HC0_0 := Aside0.mk hc0_0
 clear hr0_0 hc0_0
 have HR0_1 := Aside0.mk hr0_1
 have HC0_1 := Aside0.mk hc0_1
 clear hr0_1 hc0_1
 have HB := Aside0.mk (Below.refl w.heap.size w)
 have H : ((impl_copyEntries.f l0_0).bind fun t323 => ((impl_copyEntries.f l0_1).bind fun t326 => (some (t323, t326, a0_2)))) = some (r1, r2, r3) := h
 clear h
 replace H := Option.bind_eq_some_iff.mp H
 obtain ⟨t323, A20, H⟩ := H
 replace H : ((impl_copyEntries.f l0_1).bind fun t326 => (some (t323, t326, a0_2))) = some (r1, r2, r3) := H
 have A2 := Aside0.mk A20
 clear A20
 replace H := Option.bind_eq_some_iff.mp H
 obtain ⟨t326, A30, H⟩ := H
 replace H : (some (t323, t326, a0_2)) = some (r1, r2, r3) := H
 have A3 := Aside0.mk A30
 clear A30
 simp only [Option.some.injEq, Prod.mk.injEq] at H
 obtain ⟨rfl, rfl, rfl⟩ := H
 go_enter Try.func78, Try.ntmps78
 try go_wp2_with (first | ((with_reducible refine gate_dst (N := 1) rfl ?_); refine box_event ?hg (N := 1) ?hd (cs := #[.slice A0_0 l0_0.length c0_0, .slice A0_1 l0_1.length c0_1, .int .i64 a0_2]) (t := 29) ?hr ?_; (case hd => rfl); (case hg => rfl); (case hr => first | (go_simp; done) | (go_simp; rfl)); intro gb321 hg w4 hbox hb; have n0_ := Aside0.mk (below_step KB hb); have n1_ := Aside0.mk (hbox); have n2_ := Aside0.mk ((KG hg : w.heap.size ≤ gb321)); have n3_ := Aside0.mk ((KG hg : w.heap.size ≤ gb321)); clear HB; have HB := n0_; have BK321 := n1_; have GW321 := n2_; have GE321 := n3_; clear n0_ n1_ n2_ n3_; clear hb hbox hg) | ((with_reducible refine gate_dst (N := 2) rfl ?_); refine box_event ?hg (N := 2) ?hd (cs := #[.slice none 0 0, .slice none 0 0, .int .i64 0]) (t := 29) ?hr ?_; (case hd => rfl); (case hg => rfl); (case hr => first | (go_simp; done) | (go_simp; rfl)); intro gb322 hg w5 hbox hb; have n0_ := Aside0.mk (blk_below (g := gb321) (o := .cells #[.slice A0_0 l0_0.length c0_0, .slice A0_1 l0_1.length c0_1, .int .i64 a0_2] 29 (0, 0)) KK hb); have n1_ := Aside0.mk (below_step KB hb); have n2_ := Aside0.mk (hbox); have n3_ := Aside0.mk ((KG hg : w.heap.size ≤ gb322)); have n4_ := Aside0.mk ((KG hg : w.heap.size ≤ gb322)); have n5_ := Aside0.mk ((by rw [hg]; exact Nat.ne_of_lt (blk_lt (g := gb321) (o := .cells #[.slice A0_0 l0_0.length c0_0, .slice A0_1 l0_1.length c0_1, .int .i64 a0_2] 29 (0, 0)) KK) : gb321 ≠ gb322)); have n6_ := Aside0.mk ((by rw [hg]; exact Nat.ne_of_gt (blk_lt (g := gb321) (o := .cells #[.slice A0_0 l0_0.length c0_0, .slice A0_1 l0_1.length c0_1, .int .i64 a0_2] 29 (0, 0)) KK) : gb322 ≠ gb321)); clear BK321; clear HB; have BK321 := n0_; have HB := n1_; have BK322 := n2_; have GW322 := n3_; have GE322 := n4_; have NB321_322 := n5_; have NB322_321 := n6_; clear n0_ n1_ n2_ n3_ n4_ n5_ n6_; clear hb hbox hg))
 have n0_ := Aside0.mk (blk_drew BK321.out)
 have n1_ := Aside0.mk (blk_drew BK322.out)
 have n2_ := Aside0.mk (below_drew1 HB.out)
 clear BK321
 clear BK322
 clear HB
 have BK321 := n0_
 have BK322 := n1_
 have HB := n2_
 clear n0_ n1_ n2_
 refine start_ (n := 10) (S := fun w' => w'.cell? ⟨gb321, 0, none⟩ = some (.slice A0_0 l0_0.length c0_0) ∧ w'.cell? ⟨gb321, 1, none⟩ = some (.slice A0_1 l0_1.length c0_1) ∧ w'.cell? ⟨gb321, 2, none⟩ = some (.int .i64 a0_2)) (ds := []) #[false, false, false, false, false, false, false, false, false, false] (by kernel_rfl) rfl rfl ⟨(blk_cell BK321.out 0).trans rfl, (blk_cell BK321.out 1).trans rfl, (blk_cell BK321.out 2).trans rfl⟩ (fun hHeld => ?_); refine with_tabW impl_copyStore.tab1 impl_copyStore.bits1 (fun HT_ HW_ => ?_)
 generalize w5.drew = w6 at BK321 BK322 HB hHeld ⊢
 refine pure_ (i := 0) (N := some 3) (v := ?_) (a' := ?_) #[true, false, false, false, false, false, false, false, false, false] rfl rfl (any_of HT_.out (by kernel_rfl)) (fun _ _ _ h => h) (Or.inl ⟨by rfl, ?_⟩) ?_ ?_
 rotate_left
 ·intro w'
  go_simp
  with_reducible rfl
 rotate_left
 ·simp only [Act.put, List.setIfInBounds_toArray, List.set_cons_zero, List.set_cons_succ, i64_w, i32_w]
  rfl
 refine pure_ (i := 3) (N := some 6) (v := ?_) (a' := ?_) #[true, false, false, true, false, false, false, false, false, false] rfl rfl (any_of HT_.out (by kernel_rfl)) (fun _ _ _ h => h) (Or.inl ⟨by rfl, ?_⟩) ?_ ?_
 rotate_left
 ·intro w'
  go_simp
  with_reducible rfl
 rotate_left
 ·simp only [Act.put, List.setIfInBounds_toArray, List.set_cons_zero, List.set_cons_succ, i64_w, i32_w]
  rfl
 refine pure_ (i := 6) (N := some 9) (v := ?_) (a' := ?_) #[true, false, false, true, false, false, true, false, false, false] rfl rfl (any_of HT_.out (by kernel_rfl)) (fun _ _ _ h => h) (Or.inl ⟨by rfl, ?_⟩) ?_ ?_
 rotate_left
 ·intro w'
  go_simp
  with_reducible rfl
 rotate_left
 ·simp only [Act.put, List.setIfInBounds_toArray, List.set_cons_zero, List.set_cons_succ, i64_w, i32_w]
  rfl
 refine take_ (i := 1) (N := some 4) (v := ?_) (a' := ?_) #[true, true, false, true, false, false, true, false, false, false] rfl rfl (take_ofW HT_.out HW_.out (by kernel_rfl)) (fun _ _ _ h => h) (Or.inl ⟨by rfl, ?_⟩) hHeld ?_ ?_
 rotate_left
 ·rintro w' ⟨s0, s1, s2⟩
  go_simp
  with_reducible rfl
 rotate_left
 ·simp only [Act.put, List.setIfInBounds_toArray, List.set_cons_zero, List.set_cons_succ, i64_w, i32_w]
  rfl
 refine take_ (i := 4) (N := some 7) (v := ?_) (a' := ?_) #[true, true, false, true, true, false, true, false, false, false] rfl rfl (take_ofW HT_.out HW_.out (by kernel_rfl)) (fun _ _ _ h => h) (Or.inl ⟨by rfl, ?_⟩) hHeld ?_ ?_
 rotate_left
 ·rintro w' ⟨s0, s1, s2⟩
  go_simp
  with_reducible rfl
 rotate_left
 ·simp only [Act.put, List.setIfInBounds_toArray, List.set_cons_zero, List.set_cons_succ, i64_w, i32_w]
  rfl
 refine take_ (i := 7) (N := some 10) (v := ?_) (a' := ?_) #[true, true, false, true, true, false, true, true, false, false] rfl rfl (take_ofW HT_.out HW_.out (by kernel_rfl)) (fun _ _ _ h => h) (Or.inl ⟨by rfl, ?_⟩) hHeld ?_ ?_
 rotate_left
 ·rintro w' ⟨s0, s1, s2⟩
  go_simp
  with_reducible rfl
 rotate_left
 ·simp only [Act.put, List.setIfInBounds_toArray, List.set_cons_zero, List.set_cons_succ, i64_w, i32_w]
  rfl
 refine one_ (i := 2) (N := some 5) #[true, true, true, true, true, false, true, true, false, false] rfl rfl (one_of HT_.out (by kernel_rfl)) (by decide) (fun K hK => ?_)
 refine goes_ Try.func101 (by kernel_rfl) rfl #[.slice A0_0 l0_0.length c0_0] (by rfl) rfl rfl KL ?_
 with_reducible refine (impl_copyEntries.calls _ _ l0_0 t323 _ ?side1 ?side2 A2.out).mono ?_
 (case side1 => exact KD (Kd.C_below HR0_0.out HB.out))
 (case side2 => exact HC0_0.out)
 rintro e w7 ⟨v324, rfl, ho0, hb⟩
 refine ⟨_, rfl, ?_⟩
 have n0_ := Aside0.mk (Kd.R_lower ho0 (below_size KB))
 have n1_ := Aside0.mk (blk_below (g := gb321) (o := .cells #[.slice A0_0 l0_0.length c0_0, .slice A0_1 l0_1.length c0_1, .int .i64 a0_2] 29 (0, 0)) KK hb)
 have n2_ := Aside0.mk (blk_below (g := gb322) (o := .cells #[.slice none 0 0, .slice none 0 0, .int .i64 0] 29 (0, 0)) KK hb)
 have n3_ := Aside0.mk (below_step KB hb)
 clear BK321
 clear BK322
 clear HB
 have HO325 := n0_
 have BK321 := n1_
 have BK322 := n2_
 have HB := n3_
 clear n0_ n1_ n2_ n3_
 (try clear hb)
 (try clear hb2)
 (try clear hk)
 (try clear hi)
 (try clear ho0)
 refine hK.out _ _ ⟨(blk_cell BK321.out 0).trans rfl, (blk_cell BK321.out 1).trans rfl, (blk_cell BK321.out 2).trans rfl⟩ (fun hHeld => ?_)
 clear hK K
 refine norm_ (a' := ?_) ?_ ?_
 rotate_left
 ·show Act.put _ (some 5) _ = _
  simp only [Act.put, List.setIfInBounds_toArray, List.set_cons_zero, List.set_cons_succ, i64_w, i32_w]
  rfl
 refine one_ (i := 5) (N := some 8) #[true, true, true, true, true, true, true, true, false, false] rfl rfl (one_of HT_.out (by kernel_rfl)) (by decide) (fun K hK => ?_)
 refine goes_ Try.func101 (by kernel_rfl) rfl #[.slice A0_1 l0_1.length c0_1] (by rfl) rfl rfl KL ?_
 with_reducible refine (impl_copyEntries.calls _ _ l0_1 t326 _ ?side1 ?side2 A3.out).mono ?_
 (case side1 => exact KD (Kd.C_below HR0_1.out HB.out))
 (case side2 => exact HC0_1.out)
 rintro e w8 ⟨v327, rfl, ho0, hb⟩
 refine ⟨_, rfl, ?_⟩
 have n0_ := Aside0.mk (Kd.R_elder' (KR HO325.out) (Kd.R_base ho0) hb)
 have n1_ := Aside0.mk (Kd.R_lower (Kd.R_new' ho0 (Kd.R_lt (KR HO325.out))) (below_size KB))
 have n2_ := Aside0.mk (blk_below (g := gb321) (o := .cells #[.slice A0_0 l0_0.length c0_0, .slice A0_1 l0_1.length c0_1, .int .i64 a0_2] 29 (0, 0)) KK hb)
 have n3_ := Aside0.mk (blk_below (g := gb322) (o := .cells #[.slice none 0 0, .slice none 0 0, .int .i64 0] 29 (0, 0)) KK hb)
 have n4_ := Aside0.mk (below_step KB hb)
 clear HO325
 clear BK321
 clear BK322
 clear HB
 have HO325 := n0_
 have HO328 := n1_
 have BK321 := n2_
 have BK322 := n3_
 have HB := n4_
 clear n0_ n1_ n2_ n3_ n4_
 (try clear hb)
 (try clear hb2)
 (try clear hk)
 (try clear hi)
 (try clear ho0)
 obtain ⟨Ao9, co9, eo9⟩ := Kd.R_slice HO328.out
 (first | subst eo9 | (injection eo9 with f1_ f2_ f3_; have f4_ := f1_.symm; have f5_ := f3_.symm; clear f1_ f2_ f3_; subst f4_; subst f5_))
 obtain ⟨Ao10, co10, eo10⟩ := Kd.R_slice HO325.out
 (first | subst eo10 | (injection eo10 with f1_ f2_ f3_; have f4_ := f1_.symm; have f5_ := f3_.symm; clear f1_ f2_ f3_; subst f4_; subst f5_))
 refine hK.out _ _ ⟨(blk_cell BK321.out 0).trans rfl, (blk_cell BK321.out 1).trans rfl, (blk_cell BK321.out 2).trans rfl⟩ (fun hHeld => ?_)
 clear hK K
 refine norm_ (a' := ?_) ?_ ?_
 rotate_left
 ·show Act.put _ (some 8) _ = _
  simp only [Act.put, List.setIfInBounds_toArray, List.set_cons_zero, List.set_cons_succ, i64_w, i32_w]
  rfl
 refine pure_ (i := 8) (N := some 11) (v := ?_) (a' := ?_) #[true, true, true, true, true, true, true, true, true, false] rfl rfl (any_of HT_.out (by kernel_rfl)) (fun _ _ _ h => h) (Or.inl ⟨by rfl, ?_⟩) ?_ ?_
 rotate_left
 ·intro w'
  go_simp
  with_reducible rfl
 rotate_left
 ·simp only [Act.put, List.setIfInBounds_toArray, List.set_cons_zero, List.set_cons_succ, i64_w, i32_w]
  rfl
 refine one_ (i := 9) (N := none) #[true, true, true, true, true, true, true, true, true, true] rfl rfl (one_of HT_.out (by kernel_rfl)) (by decide) (fun K hK => ?_)
 have hs11 : w8.cell? ⟨gb322, 0, none⟩ = some (.slice none 0 0) := (blk_cell BK322.out 0).trans rfl
 have hfs11 := blk_frozen BK322.out 0
 have hns11_0 := NB321_322.out
 have hms11_0 := NB322_321.out
 have hs12 : w8.cell? ⟨gb322, 1, none⟩ = some (.slice none 0 0) := (blk_cell BK322.out 1).trans rfl
 have hfs12 := blk_frozen BK322.out 1
 have hns12_0 := NB321_322.out
 have hms12_0 := NB322_321.out
 have hs13 : w8.cell? ⟨gb322, 2, none⟩ = some (.int .i64 0) := (blk_cell BK322.out 2).trans rfl
 have hfs13 := blk_frozen BK322.out 2
 have hns13_0 := NB321_322.out
 have hms13_0 := NB322_321.out
 refine skip_ (w1 := ?_) (by rfl) rfl ?_ ?_
 rotate_left
 ·go_simp
  rfl
 refine hK.out _ _ ⟨((cell_far (p := ⟨gb322, _, none⟩) NB321_322.out _).trans (((cell_far (p := ⟨gb322, _, none⟩) NB321_322.out _).trans (((cell_far (p := ⟨gb322, _, none⟩) NB321_322.out _).trans (hHeld.1)))))), ((cell_far (p := ⟨gb322, _, none⟩) NB321_322.out _).trans (((cell_far (p := ⟨gb322, _, none⟩) NB321_322.out _).trans (((cell_far (p := ⟨gb322, _, none⟩) NB321_322.out _).trans (hHeld.2.1)))))), ((cell_far (p := ⟨gb322, _, none⟩) NB321_322.out _).trans (((cell_far (p := ⟨gb322, _, none⟩) NB321_322.out _).trans (((cell_far (p := ⟨gb322, _, none⟩) NB321_322.out _).trans (hHeld.2.2))))))⟩ (fun hHeld => ?_)
 clear hK K
 refine done_ (done_of HT_.out (by kernel_rfl)) ?_
 try go_wp2
 refine bodyPost_ret (results_cell_row rfl _ _ gb322 29 #[.slice Ao10 t323.length co10, .slice Ao9 t326.length co9, .int .i64 a0_2] (0, 0) _ rfl (by (with_reducible repeat (first | refine blk_drewN ?_ _ | refine blk_drew ?_ | refine blk_alloc ?_ _)); refine blk_put (cs := #[.slice Ao10 t323.length co10, .slice Ao9 t326.length co9, .int .i64 0]) ?_ 2 _ rfl; (with_reducible repeat (first | refine blk_drewN ?_ _ | refine blk_drew ?_ | refine blk_alloc ?_ _)); refine blk_put (cs := #[.slice Ao10 t323.length co10, .slice none 0 0, .int .i64 0]) ?_ 1 _ rfl; (with_reducible repeat (first | refine blk_drewN ?_ _ | refine blk_drew ?_ | refine blk_alloc ?_ _)); refine blk_put (cs := #[.slice none 0 0, .slice none 0 0, .int .i64 0]) ?_ 0 _ rfl; (with_reducible repeat (first | refine blk_drewN ?_ _ | refine blk_drew ?_ | refine blk_alloc ?_ _)); exact BK322.out) Try.underlying29 rfl (by kernel_rfl)) rfl ?_
 exact ⟨_, _, KE, by (with_reducible repeat (first | apply Kd.R_alloc | apply Kd.R_drewN | apply Kd.R_drew)); exact Kd.R_mono (Kd.R_far (p := ⟨gb322, 2, none⟩) (Kd.R_far (p := ⟨gb322, 1, none⟩) (Kd.R_far (p := ⟨gb322, 0, none⟩) (Kd.R_types HO325.out BK322.out (by decide)) (fun _ hk => hk.2) (.slice Ao10 t323.length co10)) (fun _ hk => hk.2) (.slice Ao9 t326.length co9)) (fun _ hk => hk.2) (.int .i64 a0_2)) (fun _ hk => hk.1.2), by (with_reducible repeat (first | apply Kd.R_alloc | apply Kd.R_drewN | apply Kd.R_drew)); exact Kd.R_mono (Kd.R_far (p := ⟨gb322, 2, none⟩) (Kd.R_far (p := ⟨gb322, 1, none⟩) (Kd.R_far (p := ⟨gb322, 0, none⟩) (Kd.R_types HO328.out BK322.out (by decide)) (fun _ hk => hk.2) (.slice Ao10 t323.length co10)) (fun _ hk => hk.2) (.slice Ao9 t326.length co9)) (fun _ hk => hk.2) (.int .i64 a0_2)) (fun _ hk => hk.1.2), KB⟩

/-! ### impl_storeAsWas: function 77 -/
def impl_storeAsWas.f (k : Nat) (l0_0 : List (S34)) (l0_1 : List (S34)) (a0_2 : Int) : Option ((List (S34)) × (List (S34)) × Int) := (impl_StoreOk.f k l0_0 l0_1 a0_2).bind fun t331 => (if t331 = true then ((impl_copyStore.f l0_0 l0_1 a0_2).bind fun bt332 => (some (bt332.1, bt332.2.1, bt332.2.2))) else (some (([] : List (S34)), ([] : List (S34)), 0)))
theorem impl_storeAsWas.mono : ∀ a0 a1 a2 k, LeO (impl_storeAsWas.f k a0 a1 a2) (impl_storeAsWas.f (k + 1) a0 a1 a2) := by
 intro a0 a1 a2 k
 unfold impl_storeAsWas.f
 repeat' first
   | (with_reducible exact impl_StoreOk.mono _ _ _ _)
   | (with_reducible exact LeO.refl _)
   | (with_reducible exact LeO.none _)
   | (with_reducible refine LeO.ite ?_ ?_)
   | (with_reducible refine LeO.bind ?_ (fun _ => ?_))
   | exact impl_StoreOk.mono _ _ _ _
   | exact LeO.none _
   | refine LeO.ite ?_ ?_
   | refine LeO.bind ?_ (fun _ => ?_)
set_option maxHeartbeats 8000000 in
set_option maxRecDepth 100000 in
theorem impl_storeAsWas.calls (k : Nat) (A0_0 : Option Addr) (c0_0 : Nat) (l0_0 : List (S34)) (A0_1 : Option Addr) (c0_1 : Nat) (l0_1 : List (S34)) (a0_2 : Int) (r1 : List (S34)) (r2 : List (S34)) (r3 : Int) (w : World) (hr0_0 : Kd.C k34 w A0_0 l0_0.length l0_0) (hc0_0 : l0_0.length ≤ c0_0) (hr0_1 : Kd.C k34 w A0_1 l0_1.length l0_1) (hc0_1 : l0_1.length ≤ c0_1) (h : impl_storeAsWas.f k l0_0 l0_1 a0_2 = some (r1, r2, r3)) :
  Calls Try.prog 77 #[.agg #[.slice A0_0 l0_0.length c0_0, .slice A0_1 l0_1.length c0_1, .int .i64 a0_2]] w fun e w' => ∃ v0_ v1_ : Value, e = .returned (.agg #[v0_, v1_, .int .i64 r3]) ∧ Kd.R k34 34 w' w.heap.size (fun k_ => some k_ ≠ (v1_ : Value).ownBlock) v0_ r1 ∧ Kd.R k34 34 w' w.heap.size (fun k_ => some k_ ≠ (v0_ : Value).ownBlock) v1_ r2 ∧ Below w.heap.size w w' := by
 have hu29 := Try.underlying29
 have HR0_0 := Aside0.mk hr0_0
 have HC0_0 := Aside0.mk hc0_0
 clear hr0_0 hc0_0
 have HR0_1 := Aside0.mk hr0_1
 have HC0_1 := Aside0.mk hc0_1
 clear hr0_1 hc0_1
 have HB := Aside0.mk (Below.refl w.heap.size w)
 have H : ((impl_StoreOk.f k l0_0 l0_1 a0_2).bind fun t331 => (if t331 = true then ((impl_copyStore.f l0_0 l0_1 a0_2).bind fun bt332 => (some (bt332.1, bt332.2.1, bt332.2.2))) else (some (([] : List (S34)), ([] : List (S34)), 0)))) = some (r1, r2, r3) := h
 clear h
 replace H := Option.bind_eq_some_iff.mp H
 obtain ⟨t331, A20, H⟩ := H
 replace H : (if t331 = true then ((impl_copyStore.f l0_0 l0_1 a0_2).bind fun bt332 => (some (bt332.1, bt332.2.1, bt332.2.2))) else (some (([] : List (S34)), ([] : List (S34)), 0))) = some (r1, r2, r3) := H
 have A2 := Aside0.mk A20
 clear A20
 by_cases c3 : t331 = true
 ·subst c3
  have H1 : ((impl_copyStore.f l0_0 l0_1 a0_2).bind fun bt332 => (some (bt332.1, bt332.2.1, bt332.2.2))) = some (r1, r2, r3) := by rw [if_pos rfl] at H; exact H
  clear H
  have H := H1
  clear H1
  replace H := Option.bind_eq_some_iff.mp H
  obtain ⟨⟨t332, t335, t338⟩, A40, H⟩ := H
  replace H : (some (t332, t335, t338)) = some (r1, r2, r3) := H
  have A4 := Aside0.mk A40
  clear A40
  simp only [Option.some.injEq, Prod.mk.injEq] at H
  obtain ⟨rfl, rfl, rfl⟩ := H
  go_enter Try.func77, Try.ntmps77
  go_wp2_with (first | ((with_reducible refine gate_dst (N := 1) rfl ?_); refine box_event ?hg (N := 1) ?hd (cs := #[.slice A0_0 l0_0.length c0_0, .slice A0_1 l0_1.length c0_1, .int .i64 a0_2]) (t := 29) ?hr ?_; (case hd => rfl); (case hg => rfl); (case hr => first | (go_simp; done) | (go_simp; rfl)); intro gb329 hg w5 hbox hb; have n0_ := Aside0.mk (below_step KB hb); have n1_ := Aside0.mk (hbox); have n2_ := Aside0.mk ((KG hg : w.heap.size ≤ gb329)); have n3_ := Aside0.mk ((KG hg : w.heap.size ≤ gb329)); clear HB; have HB := n0_; have BK329 := n1_; have GW329 := n2_; have GE329 := n3_; clear n0_ n1_ n2_ n3_; clear hb hbox hg) | ((with_reducible refine gate_dst (N := 2) rfl ?_); refine box_event ?hg (N := 2) ?hd (cs := #[.slice none 0 0, .slice none 0 0, .int .i64 0]) (t := 29) ?hr ?_; (case hd => rfl); (case hg => rfl); (case hr => first | (go_simp; done) | (go_simp; rfl)); intro gb330 hg w6 hbox hb; have n0_ := Aside0.mk (blk_below (g := gb329) (o := .cells #[.slice A0_0 l0_0.length c0_0, .slice A0_1 l0_1.length c0_1, .int .i64 a0_2] 29 (0, 0)) KK hb); have n1_ := Aside0.mk (below_step KB hb); have n2_ := Aside0.mk (hbox); have n3_ := Aside0.mk ((KG hg : w.heap.size ≤ gb330)); have n4_ := Aside0.mk ((KG hg : w.heap.size ≤ gb330)); have n5_ := Aside0.mk ((by rw [hg]; exact Nat.ne_of_lt (blk_lt (g := gb329) (o := .cells #[.slice A0_0 l0_0.length c0_0, .slice A0_1 l0_1.length c0_1, .int .i64 a0_2] 29 (0, 0)) KK) : gb329 ≠ gb330)); have n6_ := Aside0.mk ((by rw [hg]; exact Nat.ne_of_gt (blk_lt (g := gb329) (o := .cells #[.slice A0_0 l0_0.length c0_0, .slice A0_1 l0_1.length c0_1, .int .i64 a0_2] 29 (0, 0)) KK) : gb330 ≠ gb329)); clear BK329; clear HB; have BK329 := n0_; have HB := n1_; have BK330 := n2_; have GW330 := n3_; have GE330 := n4_; have NB329_330 := n5_; have NB330_329 := n6_; clear n0_ n1_ n2_ n3_ n4_ n5_ n6_; clear hb hbox hg; have hnb7 := NB329_330.out; have hnc7 := NB330_329.out; have hcz8_0 : w6.cell? ⟨gb329, 0, none⟩ = some (.slice A0_0 l0_0.length c0_0) := (blk_cell BK329.out 0).trans rfl; have hcz8_1 : w6.cell? ⟨gb329, 1, none⟩ = some (.slice A0_1 l0_1.length c0_1) := (blk_cell BK329.out 1).trans rfl; have hcz8_2 : w6.cell? ⟨gb329, 2, none⟩ = some (.int .i64 a0_2) := (blk_cell BK329.out 2).trans rfl; have hfz8_0 := blk_frozen BK329.out 0; have hfz8_1 := blk_frozen BK329.out 1; have hfz8_2 := blk_frozen BK329.out 2) | ((with_reducible refine gate_callee (f := 18) rfl ?_); refine goesL_ (some 4) rfl rfl Try.func18 (by kernel_rfl) rfl #[.agg #[.slice A0_0 l0_0.length c0_0, .slice A0_1 l0_1.length c0_1, .int .i64 a0_2]] rfl KL ?_; (with_reducible refine (impl_StoreOk.calls k _ _ l0_0 _ _ l0_1 a0_2 true _ ?side1 ?side2 ?side3 ?side4 A2.out).mono ?_); (case side1 => exact KD (Kd.C_below HR0_0.out HB.out)); (case side2 => exact HC0_0.out); (case side3 => exact KD (Kd.C_below HR0_1.out HB.out)); (case side4 => exact HC0_1.out); rintro e w9 ⟨rfl, hb⟩; refine ⟨_, rfl, ?_⟩; have n0_ := Aside0.mk (blk_below (g := gb329) (o := .cells #[.slice A0_0 l0_0.length c0_0, .slice A0_1 l0_1.length c0_1, .int .i64 a0_2] 29 (0, 0)) KK hb); have n1_ := Aside0.mk (blk_below (g := gb330) (o := .cells #[.slice none 0 0, .slice none 0 0, .int .i64 0] 29 (0, 0)) KK hb); have n2_ := Aside0.mk (below_step KB hb); clear BK329; clear BK330; clear HB; have BK329 := n0_; have BK330 := n1_; have HB := n2_; clear n0_ n1_ n2_; (try clear hb); (try clear hb2); (try clear hk); (try clear hi); have hcz10_0 : w9.cell? ⟨gb329, 0, none⟩ = some (.slice A0_0 l0_0.length c0_0) := (blk_cell BK329.out 0).trans rfl; have hcz10_1 : w9.cell? ⟨gb329, 1, none⟩ = some (.slice A0_1 l0_1.length c0_1) := (blk_cell BK329.out 1).trans rfl; have hcz10_2 : w9.cell? ⟨gb329, 2, none⟩ = some (.int .i64 a0_2) := (blk_cell BK329.out 2).trans rfl; have hfz10_0 := blk_frozen BK329.out 0; have hfz10_1 := blk_frozen BK329.out 1; have hfz10_2 := blk_frozen BK329.out 2) | ((with_reducible refine gate_callee (f := 78) rfl ?_); refine goesL_ (some 8) rfl rfl Try.func78 (by kernel_rfl) rfl #[.agg #[.slice A0_0 l0_0.length c0_0, .slice A0_1 l0_1.length c0_1, .int .i64 a0_2]] rfl KL ?_; (with_reducible refine (impl_copyStore.calls _ _ l0_0 _ _ l0_1 a0_2 t332 t335 t338 _ ?side1 ?side2 ?side3 ?side4 A4.out).mono ?_); (case side1 => exact KD (Kd.C_below HR0_0.out HB.out)); (case side2 => exact HC0_0.out); (case side3 => exact KD (Kd.C_below HR0_1.out HB.out)); (case side4 => exact HC0_1.out); rintro e w11 ⟨v333, v336, rfl, ho0, ho1, hb⟩; refine ⟨_, rfl, ?_⟩; have n0_ := Aside0.mk (Kd.R_lower ho0 (below_size KB)); have n1_ := Aside0.mk (Kd.R_lower ho1 (below_size KB)); have n2_ := Aside0.mk (blk_below (g := gb329) (o := .cells #[.slice A0_0 l0_0.length c0_0, .slice A0_1 l0_1.length c0_1, .int .i64 a0_2] 29 (0, 0)) KK hb); have n3_ := Aside0.mk (blk_below (g := gb330) (o := .cells #[.slice none 0 0, .slice none 0 0, .int .i64 0] 29 (0, 0)) KK hb); have n4_ := Aside0.mk (below_step KB hb); clear BK329; clear BK330; clear HB; have HO334 := n0_; have HO337 := n1_; have BK329 := n2_; have BK330 := n3_; have HB := n4_; clear n0_ n1_ n2_ n3_ n4_; (try clear hb); (try clear hb2); (try clear hk); (try clear hi); (try clear ho0); (try clear ho1); obtain ⟨Ao12, co12, eo12⟩ := Kd.R_slice HO334.out; subst eo12; have hcz13_0 : w11.cell? ⟨gb330, 0, none⟩ = some (.slice none 0 0) := (blk_cell BK330.out 0).trans rfl; have hcz13_1 : w11.cell? ⟨gb330, 1, none⟩ = some (.slice none 0 0) := (blk_cell BK330.out 1).trans rfl; have hcz13_2 : w11.cell? ⟨gb330, 2, none⟩ = some (.int .i64 0) := (blk_cell BK330.out 2).trans rfl; have hfz13_0 := blk_frozen BK330.out 0; have hfz13_1 := blk_frozen BK330.out 1; have hfz13_2 := blk_frozen BK330.out 2; obtain ⟨Ao14, co14, eo14⟩ := Kd.R_slice HO337.out; subst eo14))
  refine bodyPost_ret (results_cell_row rfl _ _ gb330 29 #[.slice Ao12 t332.length co12, .slice Ao14 t335.length co14, .int .i64 t338] (0, 0) _ rfl (by (with_reducible repeat (first | refine blk_drewN ?_ _ | refine blk_drew ?_ | refine blk_alloc ?_ _)); refine blk_put (cs := #[.slice Ao12 t332.length co12, .slice Ao14 t335.length co14, .int .i64 0]) ?_ 2 _ rfl; (with_reducible repeat (first | refine blk_drewN ?_ _ | refine blk_drew ?_ | refine blk_alloc ?_ _)); refine blk_put (cs := #[.slice Ao12 t332.length co12, .slice none 0 0, .int .i64 0]) ?_ 1 _ rfl; (with_reducible repeat (first | refine blk_drewN ?_ _ | refine blk_drew ?_ | refine blk_alloc ?_ _)); refine blk_put (cs := #[.slice none 0 0, .slice none 0 0, .int .i64 0]) ?_ 0 _ rfl; (with_reducible repeat (first | refine blk_drewN ?_ _ | refine blk_drew ?_ | refine blk_alloc ?_ _)); exact BK330.out) Try.underlying29 rfl (by kernel_rfl)) rfl ?_
  exact ⟨_, _, KE, by (with_reducible repeat (first | apply Kd.R_alloc | apply Kd.R_drewN | apply Kd.R_drew)); exact Kd.R_mono (Kd.R_far (p := ⟨gb330, 2, none⟩) (Kd.R_far (p := ⟨gb330, 1, none⟩) (Kd.R_far (p := ⟨gb330, 0, none⟩) (Kd.R_types HO334.out BK330.out (by decide)) (fun _ hk => hk.2) (.slice Ao12 t332.length co12)) (fun _ hk => hk.2) (.slice Ao14 t335.length co14)) (fun _ hk => hk.2) (.int .i64 t338)) (fun _ hk => hk.1), by (with_reducible repeat (first | apply Kd.R_alloc | apply Kd.R_drewN | apply Kd.R_drew)); exact Kd.R_mono (Kd.R_far (p := ⟨gb330, 2, none⟩) (Kd.R_far (p := ⟨gb330, 1, none⟩) (Kd.R_far (p := ⟨gb330, 0, none⟩) (Kd.R_types HO337.out BK330.out (by decide)) (fun _ hk => hk.2) (.slice Ao12 t332.length co12)) (fun _ hk => hk.2) (.slice Ao14 t335.length co14)) (fun _ hk => hk.2) (.int .i64 t338)) (fun _ hk => hk.1), KB⟩
 ·replace c3 := Bool.eq_false_iff.mpr c3
  subst c3
  have H1 : (some (([] : List (S34)), ([] : List (S34)), 0)) = some (r1, r2, r3) := by rw [if_neg (show ¬ (false = true) by decide)] at H; exact H
  clear H
  have H := H1
  clear H1
  simp only [Option.some.injEq, Prod.mk.injEq] at H
  obtain ⟨rfl, rfl, rfl⟩ := H
  go_enter Try.func77, Try.ntmps77
  go_wp2_with (first | ((with_reducible refine gate_dst (N := 1) rfl ?_); refine box_event ?hg (N := 1) ?hd (cs := #[.slice A0_0 l0_0.length c0_0, .slice A0_1 l0_1.length c0_1, .int .i64 a0_2]) (t := 29) ?hr ?_; (case hd => rfl); (case hg => rfl); (case hr => first | (go_simp; done) | (go_simp; rfl)); intro gb329 hg w15 hbox hb; have n0_ := Aside0.mk (below_step KB hb); have n1_ := Aside0.mk (hbox); have n2_ := Aside0.mk ((KG hg : w.heap.size ≤ gb329)); have n3_ := Aside0.mk ((KG hg : w.heap.size ≤ gb329)); clear HB; have HB := n0_; have BK329 := n1_; have GW329 := n2_; have GE329 := n3_; clear n0_ n1_ n2_ n3_; clear hb hbox hg) | ((with_reducible refine gate_dst (N := 2) rfl ?_); refine box_event ?hg (N := 2) ?hd (cs := #[.slice none 0 0, .slice none 0 0, .int .i64 0]) (t := 29) ?hr ?_; (case hd => rfl); (case hg => rfl); (case hr => first | (go_simp; done) | (go_simp; rfl)); intro gb330 hg w16 hbox hb; have n0_ := Aside0.mk (blk_below (g := gb329) (o := .cells #[.slice A0_0 l0_0.length c0_0, .slice A0_1 l0_1.length c0_1, .int .i64 a0_2] 29 (0, 0)) KK hb); have n1_ := Aside0.mk (below_step KB hb); have n2_ := Aside0.mk (hbox); have n3_ := Aside0.mk ((KG hg : w.heap.size ≤ gb330)); have n4_ := Aside0.mk ((KG hg : w.heap.size ≤ gb330)); have n5_ := Aside0.mk ((by rw [hg]; exact Nat.ne_of_lt (blk_lt (g := gb329) (o := .cells #[.slice A0_0 l0_0.length c0_0, .slice A0_1 l0_1.length c0_1, .int .i64 a0_2] 29 (0, 0)) KK) : gb329 ≠ gb330)); have n6_ := Aside0.mk ((by rw [hg]; exact Nat.ne_of_gt (blk_lt (g := gb329) (o := .cells #[.slice A0_0 l0_0.length c0_0, .slice A0_1 l0_1.length c0_1, .int .i64 a0_2] 29 (0, 0)) KK) : gb330 ≠ gb329)); clear BK329; clear HB; have BK329 := n0_; have HB := n1_; have BK330 := n2_; have GW330 := n3_; have GE330 := n4_; have NB329_330 := n5_; have NB330_329 := n6_; clear n0_ n1_ n2_ n3_ n4_ n5_ n6_; clear hb hbox hg; have hnb17 := NB329_330.out; have hnc17 := NB330_329.out; have hcz18_0 : w16.cell? ⟨gb329, 0, none⟩ = some (.slice A0_0 l0_0.length c0_0) := (blk_cell BK329.out 0).trans rfl; have hcz18_1 : w16.cell? ⟨gb329, 1, none⟩ = some (.slice A0_1 l0_1.length c0_1) := (blk_cell BK329.out 1).trans rfl; have hcz18_2 : w16.cell? ⟨gb329, 2, none⟩ = some (.int .i64 a0_2) := (blk_cell BK329.out 2).trans rfl; have hfz18_0 := blk_frozen BK329.out 0; have hfz18_1 := blk_frozen BK329.out 1; have hfz18_2 := blk_frozen BK329.out 2) | ((with_reducible refine gate_callee (f := 18) rfl ?_); refine goesL_ (some 4) rfl rfl Try.func18 (by kernel_rfl) rfl #[.agg #[.slice A0_0 l0_0.length c0_0, .slice A0_1 l0_1.length c0_1, .int .i64 a0_2]] rfl KL ?_; (with_reducible refine (impl_StoreOk.calls k _ _ l0_0 _ _ l0_1 a0_2 false _ ?side1 ?side2 ?side3 ?side4 A2.out).mono ?_); (case side1 => exact KD (Kd.C_below HR0_0.out HB.out)); (case side2 => exact HC0_0.out); (case side3 => exact KD (Kd.C_below HR0_1.out HB.out)); (case side4 => exact HC0_1.out); rintro e w19 ⟨rfl, hb⟩; refine ⟨_, rfl, ?_⟩; have n0_ := Aside0.mk (blk_below (g := gb329) (o := .cells #[.slice A0_0 l0_0.length c0_0, .slice A0_1 l0_1.length c0_1, .int .i64 a0_2] 29 (0, 0)) KK hb); have n1_ := Aside0.mk (blk_below (g := gb330) (o := .cells #[.slice none 0 0, .slice none 0 0, .int .i64 0] 29 (0, 0)) KK hb); have n2_ := Aside0.mk (below_step KB hb); clear BK329; clear BK330; clear HB; have BK329 := n0_; have BK330 := n1_; have HB := n2_; clear n0_ n1_ n2_; (try clear hb); (try clear hb2); (try clear hk); (try clear hi); have hcz20_0 : w19.cell? ⟨gb330, 0, none⟩ = some (.slice none 0 0) := (blk_cell BK330.out 0).trans rfl; have hcz20_1 : w19.cell? ⟨gb330, 1, none⟩ = some (.slice none 0 0) := (blk_cell BK330.out 1).trans rfl; have hcz20_2 : w19.cell? ⟨gb330, 2, none⟩ = some (.int .i64 0) := (blk_cell BK330.out 2).trans rfl; have hfz20_0 := blk_frozen BK330.out 0; have hfz20_1 := blk_frozen BK330.out 1; have hfz20_2 := blk_frozen BK330.out 2))
  refine bodyPost_ret (results_cell_row rfl _ _ gb330 29 #[.slice none 0 0, .slice none 0 0, .int .i64 0] (0, 0) _ rfl (by (with_reducible repeat (first | refine blk_drewN ?_ _ | refine blk_drew ?_ | refine blk_alloc ?_ _)); refine blk_put (cs := #[.slice none 0 0, .slice none 0 0, .int .i64 0]) ?_ 2 _ rfl; (with_reducible repeat (first | refine blk_drewN ?_ _ | refine blk_drew ?_ | refine blk_alloc ?_ _)); refine blk_put (cs := #[.slice none 0 0, .slice none 0 0, .int .i64 0]) ?_ 1 _ rfl; (with_reducible repeat (first | refine blk_drewN ?_ _ | refine blk_drew ?_ | refine blk_alloc ?_ _)); refine blk_put (cs := #[.slice none 0 0, .slice none 0 0, .int .i64 0]) ?_ 0 _ rfl; (with_reducible repeat (first | refine blk_drewN ?_ _ | refine blk_drew ?_ | refine blk_alloc ?_ _)); exact BK330.out) Try.underlying29 rfl (by kernel_rfl)) rfl ?_
  exact ⟨_, _, KE, by first | exact Kd.R_nil _ _ _ _ _ | exact Kd.N_nil _ _ _ _ _ | exact Kd.V_nil _ _ _ _ _ | exact Kd.Q_nil _ _ _ _ _ | exact Kd.S_nil _ _ _ _ _, by first | exact Kd.R_nil _ _ _ _ _ | exact Kd.N_nil _ _ _ _ _ | exact Kd.V_nil _ _ _ _ _ | exact Kd.Q_nil _ _ _ _ _ | exact Kd.S_nil _ _ _ _ _, KB⟩

/-! ### impl_Better: function 54 -/
def impl_Better.f (a0_0 : Int) (a0_1 : Int) (a0_2 : Bool) (a0_3 : ByteArray) (a1_0 : Int) (a1_1 : Int) (a1_2 : Bool) (a1_3 : ByteArray) : Option (Int × Int × Bool × ByteArray) := if a1_1 > a0_1 then (some (a1_0, a1_1, a1_2, a1_3)) else (some (a0_0, a0_1, a0_2, a0_3))
set_option maxHeartbeats 8000000 in
set_option maxRecDepth 100000 in
theorem impl_Better.calls (a0_0 : Int) (a0_1 : Int) (a0_2 : Bool) (a0_3 : ByteArray) (a1_0 : Int) (a1_1 : Int) (a1_2 : Bool) (a1_3 : ByteArray) (r1 : Int) (r2 : Int) (r3 : Bool) (r4 : ByteArray) (w : World) (h : impl_Better.f a0_0 a0_1 a0_2 a0_3 a1_0 a1_1 a1_2 a1_3 = some (r1, r2, r3, r4)) :
  Calls Try.prog 54 #[.agg #[.int .i64 a0_0, .int .i64 a0_1, .bool a0_2, .string a0_3], .agg #[.int .i64 a1_0, .int .i64 a1_1, .bool a1_2, .string a1_3]] w fun e w' => e = .returned (.agg #[.int .i64 r1, .int .i64 r2, .bool r3, .string r4]) ∧ Below w.heap.size w w' := by
 have hu34 := Try.underlying34
 have HB := Aside0.mk (Below.refl w.heap.size w)
 have H : (if a1_1 > a0_1 then (some (a1_0, a1_1, a1_2, a1_3)) else (some (a0_0, a0_1, a0_2, a0_3))) = some (r1, r2, r3, r4) := h
 clear h
 by_cases c3 : a1_1 > a0_1
 ·rw [if_pos c3] at H
  have c3b0 : decide (a0_1 < a1_1) = true := decide_eq_true c3
  clear c3
  simp only [Option.some.injEq, Prod.mk.injEq] at H
  obtain ⟨rfl, rfl, rfl, rfl⟩ := H
  go_enter Try.func54, Try.ntmps54
  go_wp2_with (first | ((with_reducible refine gate_dst (N := 2) rfl ?_); refine box_event ?hg (N := 2) ?hd (cs := #[.int .i64 a0_0, .int .i64 a0_1, .bool a0_2, .string a0_3]) (t := 34) ?hr ?_; (case hd => rfl); (case hg => rfl); (case hr => first | (go_simp; done) | (go_simp; rfl)); intro gb339 hg w4 hbox hb; have n0_ := Aside0.mk (below_step KB hb); have n1_ := Aside0.mk (hbox); have n2_ := Aside0.mk ((KG hg : w.heap.size ≤ gb339)); have n3_ := Aside0.mk ((KG hg : w.heap.size ≤ gb339)); clear HB; have HB := n0_; have BK339 := n1_; have GW339 := n2_; have GE339 := n3_; clear n0_ n1_ n2_ n3_; clear hb hbox hg) | ((with_reducible refine gate_dst (N := 3) rfl ?_); refine box_event ?hg (N := 3) ?hd (cs := #[.int .i64 a1_0, .int .i64 a1_1, .bool a1_2, .string a1_3]) (t := 34) ?hr ?_; (case hd => rfl); (case hg => rfl); (case hr => first | (go_simp; done) | (go_simp; rfl)); intro gb340 hg w5 hbox hb; have n0_ := Aside0.mk (blk_below (g := gb339) (o := .cells #[.int .i64 a0_0, .int .i64 a0_1, .bool a0_2, .string a0_3] 34 (0, 0)) KK hb); have n1_ := Aside0.mk (below_step KB hb); have n2_ := Aside0.mk (hbox); have n3_ := Aside0.mk ((KG hg : w.heap.size ≤ gb340)); have n4_ := Aside0.mk ((KG hg : w.heap.size ≤ gb340)); have n5_ := Aside0.mk ((by rw [hg]; exact Nat.ne_of_lt (blk_lt (g := gb339) (o := .cells #[.int .i64 a0_0, .int .i64 a0_1, .bool a0_2, .string a0_3] 34 (0, 0)) KK) : gb339 ≠ gb340)); have n6_ := Aside0.mk ((by rw [hg]; exact Nat.ne_of_gt (blk_lt (g := gb339) (o := .cells #[.int .i64 a0_0, .int .i64 a0_1, .bool a0_2, .string a0_3] 34 (0, 0)) KK) : gb340 ≠ gb339)); clear BK339; clear HB; have BK339 := n0_; have HB := n1_; have BK340 := n2_; have GW340 := n3_; have GE340 := n4_; have NB339_340 := n5_; have NB340_339 := n6_; clear n0_ n1_ n2_ n3_ n4_ n5_ n6_; clear hb hbox hg) | ((with_reducible refine gate_dst (N := 4) rfl ?_); refine box_event ?hg (N := 4) ?hd (cs := #[.int .i64 0, .int .i64 0, .bool false, .string (⟨#[]⟩ : ByteArray)]) (t := 34) ?hr ?_; (case hd => rfl); (case hg => rfl); (case hr => first | (go_simp; done) | (go_simp; rfl)); intro gb341 hg w6 hbox hb; have n0_ := Aside0.mk (blk_below (g := gb339) (o := .cells #[.int .i64 a0_0, .int .i64 a0_1, .bool a0_2, .string a0_3] 34 (0, 0)) KK hb); have n1_ := Aside0.mk (blk_below (g := gb340) (o := .cells #[.int .i64 a1_0, .int .i64 a1_1, .bool a1_2, .string a1_3] 34 (0, 0)) KK hb); have n2_ := Aside0.mk (below_step KB hb); have n3_ := Aside0.mk (hbox); have n4_ := Aside0.mk ((KG hg : w.heap.size ≤ gb341)); have n5_ := Aside0.mk ((KG hg : w.heap.size ≤ gb341)); have n6_ := Aside0.mk ((by rw [hg]; exact Nat.ne_of_lt (blk_lt (g := gb339) (o := .cells #[.int .i64 a0_0, .int .i64 a0_1, .bool a0_2, .string a0_3] 34 (0, 0)) KK) : gb339 ≠ gb341)); have n7_ := Aside0.mk ((by rw [hg]; exact Nat.ne_of_gt (blk_lt (g := gb339) (o := .cells #[.int .i64 a0_0, .int .i64 a0_1, .bool a0_2, .string a0_3] 34 (0, 0)) KK) : gb341 ≠ gb339)); have n8_ := Aside0.mk ((by rw [hg]; exact Nat.ne_of_lt (blk_lt (g := gb340) (o := .cells #[.int .i64 a1_0, .int .i64 a1_1, .bool a1_2, .string a1_3] 34 (0, 0)) KK) : gb340 ≠ gb341)); have n9_ := Aside0.mk ((by rw [hg]; exact Nat.ne_of_gt (blk_lt (g := gb340) (o := .cells #[.int .i64 a1_0, .int .i64 a1_1, .bool a1_2, .string a1_3] 34 (0, 0)) KK) : gb341 ≠ gb340)); clear BK339; clear BK340; clear HB; have BK339 := n0_; have BK340 := n1_; have HB := n2_; have BK341 := n3_; have GW341 := n4_; have GE341 := n5_; have NB339_341 := n6_; have NB341_339 := n7_; have NB340_341 := n8_; have NB341_340 := n9_; clear n0_ n1_ n2_ n3_ n4_ n5_ n6_ n7_ n8_ n9_; clear hb hbox hg; have hnb7 := NB340_339.out; have hnc7 := NB339_340.out; have hnb8 := NB340_341.out; have hnc8 := NB341_340.out; have hcz9_0 : w6.cell? ⟨gb340, 0, none⟩ = some (.int .i64 a1_0) := (blk_cell BK340.out 0).trans rfl; have hcz9_1 : w6.cell? ⟨gb340, 1, none⟩ = some (.int .i64 a1_1) := (blk_cell BK340.out 1).trans rfl; have hcz9_2 : w6.cell? ⟨gb340, 2, none⟩ = some (.bool a1_2) := (blk_cell BK340.out 2).trans rfl; have hcz9_3 : w6.cell? ⟨gb340, 3, none⟩ = some (.string a1_3) := (blk_cell BK340.out 3).trans rfl; have hfz9_0 := blk_frozen BK340.out 0; have hfz9_1 := blk_frozen BK340.out 1; have hfz9_2 := blk_frozen BK340.out 2; have hfz9_3 := blk_frozen BK340.out 3; have hnb10 := NB339_341.out; have hnc10 := NB341_339.out; have hcz11_0 : w6.cell? ⟨gb339, 0, none⟩ = some (.int .i64 a0_0) := (blk_cell BK339.out 0).trans rfl; have hcz11_1 : w6.cell? ⟨gb339, 1, none⟩ = some (.int .i64 a0_1) := (blk_cell BK339.out 1).trans rfl; have hcz11_2 : w6.cell? ⟨gb339, 2, none⟩ = some (.bool a0_2) := (blk_cell BK339.out 2).trans rfl; have hcz11_3 : w6.cell? ⟨gb339, 3, none⟩ = some (.string a0_3) := (blk_cell BK339.out 3).trans rfl; have hfz11_0 := blk_frozen BK339.out 0; have hfz11_1 := blk_frozen BK339.out 1; have hfz11_2 := blk_frozen BK339.out 2; have hfz11_3 := blk_frozen BK339.out 3; have hcz12_0 : w6.cell? ⟨gb341, 0, none⟩ = some (.int .i64 0) := (blk_cell BK341.out 0).trans rfl; have hcz12_1 : w6.cell? ⟨gb341, 1, none⟩ = some (.int .i64 0) := (blk_cell BK341.out 1).trans rfl; have hcz12_2 : w6.cell? ⟨gb341, 2, none⟩ = some (.bool false) := (blk_cell BK341.out 2).trans rfl; have hcz12_3 : w6.cell? ⟨gb341, 3, none⟩ = some (.string (⟨#[]⟩ : ByteArray)) := (blk_cell BK341.out 3).trans rfl; have hfz12_0 := blk_frozen BK341.out 0; have hfz12_1 := blk_frozen BK341.out 1; have hfz12_2 := blk_frozen BK341.out 2; have hfz12_3 := blk_frozen BK341.out 3))
  refine bodyPost_ret (results_cell_row rfl _ _ gb341 34 #[.int .i64 a1_0, .int .i64 a1_1, .bool a1_2, .string a1_3] (0, 0) _ rfl (by (with_reducible repeat (first | refine blk_drewN ?_ _ | refine blk_drew ?_ | refine blk_alloc ?_ _)); refine blk_put (cs := #[.int .i64 a1_0, .int .i64 a1_1, .bool a1_2, .string (⟨#[]⟩ : ByteArray)]) ?_ 3 _ rfl; (with_reducible repeat (first | refine blk_drewN ?_ _ | refine blk_drew ?_ | refine blk_alloc ?_ _)); refine blk_put (cs := #[.int .i64 a1_0, .int .i64 a1_1, .bool false, .string (⟨#[]⟩ : ByteArray)]) ?_ 2 _ rfl; (with_reducible repeat (first | refine blk_drewN ?_ _ | refine blk_drew ?_ | refine blk_alloc ?_ _)); refine blk_put (cs := #[.int .i64 a1_0, .int .i64 0, .bool false, .string (⟨#[]⟩ : ByteArray)]) ?_ 1 _ rfl; (with_reducible repeat (first | refine blk_drewN ?_ _ | refine blk_drew ?_ | refine blk_alloc ?_ _)); refine blk_put (cs := #[.int .i64 0, .int .i64 0, .bool false, .string (⟨#[]⟩ : ByteArray)]) ?_ 0 _ rfl; (with_reducible repeat (first | refine blk_drewN ?_ _ | refine blk_drew ?_ | refine blk_alloc ?_ _)); exact BK341.out) Try.underlying34 rfl (by kernel_rfl)) rfl ?_
  exact ⟨KE, KB⟩
 ·rw [if_neg c3] at H
  have c3b0 : decide (a0_1 < a1_1) = false := decide_eq_false c3
  clear c3
  simp only [Option.some.injEq, Prod.mk.injEq] at H
  obtain ⟨rfl, rfl, rfl, rfl⟩ := H
  go_enter Try.func54, Try.ntmps54
  go_wp2_with (first | ((with_reducible refine gate_dst (N := 2) rfl ?_); refine box_event ?hg (N := 2) ?hd (cs := #[.int .i64 a0_0, .int .i64 a0_1, .bool a0_2, .string a0_3]) (t := 34) ?hr ?_; (case hd => rfl); (case hg => rfl); (case hr => first | (go_simp; done) | (go_simp; rfl)); intro gb339 hg w13 hbox hb; have n0_ := Aside0.mk (below_step KB hb); have n1_ := Aside0.mk (hbox); have n2_ := Aside0.mk ((KG hg : w.heap.size ≤ gb339)); have n3_ := Aside0.mk ((KG hg : w.heap.size ≤ gb339)); clear HB; have HB := n0_; have BK339 := n1_; have GW339 := n2_; have GE339 := n3_; clear n0_ n1_ n2_ n3_; clear hb hbox hg) | ((with_reducible refine gate_dst (N := 3) rfl ?_); refine box_event ?hg (N := 3) ?hd (cs := #[.int .i64 a1_0, .int .i64 a1_1, .bool a1_2, .string a1_3]) (t := 34) ?hr ?_; (case hd => rfl); (case hg => rfl); (case hr => first | (go_simp; done) | (go_simp; rfl)); intro gb340 hg w14 hbox hb; have n0_ := Aside0.mk (blk_below (g := gb339) (o := .cells #[.int .i64 a0_0, .int .i64 a0_1, .bool a0_2, .string a0_3] 34 (0, 0)) KK hb); have n1_ := Aside0.mk (below_step KB hb); have n2_ := Aside0.mk (hbox); have n3_ := Aside0.mk ((KG hg : w.heap.size ≤ gb340)); have n4_ := Aside0.mk ((KG hg : w.heap.size ≤ gb340)); have n5_ := Aside0.mk ((by rw [hg]; exact Nat.ne_of_lt (blk_lt (g := gb339) (o := .cells #[.int .i64 a0_0, .int .i64 a0_1, .bool a0_2, .string a0_3] 34 (0, 0)) KK) : gb339 ≠ gb340)); have n6_ := Aside0.mk ((by rw [hg]; exact Nat.ne_of_gt (blk_lt (g := gb339) (o := .cells #[.int .i64 a0_0, .int .i64 a0_1, .bool a0_2, .string a0_3] 34 (0, 0)) KK) : gb340 ≠ gb339)); clear BK339; clear HB; have BK339 := n0_; have HB := n1_; have BK340 := n2_; have GW340 := n3_; have GE340 := n4_; have NB339_340 := n5_; have NB340_339 := n6_; clear n0_ n1_ n2_ n3_ n4_ n5_ n6_; clear hb hbox hg) | ((with_reducible refine gate_dst (N := 4) rfl ?_); refine box_event ?hg (N := 4) ?hd (cs := #[.int .i64 0, .int .i64 0, .bool false, .string (⟨#[]⟩ : ByteArray)]) (t := 34) ?hr ?_; (case hd => rfl); (case hg => rfl); (case hr => first | (go_simp; done) | (go_simp; rfl)); intro gb341 hg w15 hbox hb; have n0_ := Aside0.mk (blk_below (g := gb339) (o := .cells #[.int .i64 a0_0, .int .i64 a0_1, .bool a0_2, .string a0_3] 34 (0, 0)) KK hb); have n1_ := Aside0.mk (blk_below (g := gb340) (o := .cells #[.int .i64 a1_0, .int .i64 a1_1, .bool a1_2, .string a1_3] 34 (0, 0)) KK hb); have n2_ := Aside0.mk (below_step KB hb); have n3_ := Aside0.mk (hbox); have n4_ := Aside0.mk ((KG hg : w.heap.size ≤ gb341)); have n5_ := Aside0.mk ((KG hg : w.heap.size ≤ gb341)); have n6_ := Aside0.mk ((by rw [hg]; exact Nat.ne_of_lt (blk_lt (g := gb339) (o := .cells #[.int .i64 a0_0, .int .i64 a0_1, .bool a0_2, .string a0_3] 34 (0, 0)) KK) : gb339 ≠ gb341)); have n7_ := Aside0.mk ((by rw [hg]; exact Nat.ne_of_gt (blk_lt (g := gb339) (o := .cells #[.int .i64 a0_0, .int .i64 a0_1, .bool a0_2, .string a0_3] 34 (0, 0)) KK) : gb341 ≠ gb339)); have n8_ := Aside0.mk ((by rw [hg]; exact Nat.ne_of_lt (blk_lt (g := gb340) (o := .cells #[.int .i64 a1_0, .int .i64 a1_1, .bool a1_2, .string a1_3] 34 (0, 0)) KK) : gb340 ≠ gb341)); have n9_ := Aside0.mk ((by rw [hg]; exact Nat.ne_of_gt (blk_lt (g := gb340) (o := .cells #[.int .i64 a1_0, .int .i64 a1_1, .bool a1_2, .string a1_3] 34 (0, 0)) KK) : gb341 ≠ gb340)); clear BK339; clear BK340; clear HB; have BK339 := n0_; have BK340 := n1_; have HB := n2_; have BK341 := n3_; have GW341 := n4_; have GE341 := n5_; have NB339_341 := n6_; have NB341_339 := n7_; have NB340_341 := n8_; have NB341_340 := n9_; clear n0_ n1_ n2_ n3_ n4_ n5_ n6_ n7_ n8_ n9_; clear hb hbox hg; have hnb16 := NB340_339.out; have hnc16 := NB339_340.out; have hnb17 := NB340_341.out; have hnc17 := NB341_340.out; have hcz18_0 : w15.cell? ⟨gb340, 0, none⟩ = some (.int .i64 a1_0) := (blk_cell BK340.out 0).trans rfl; have hcz18_1 : w15.cell? ⟨gb340, 1, none⟩ = some (.int .i64 a1_1) := (blk_cell BK340.out 1).trans rfl; have hcz18_2 : w15.cell? ⟨gb340, 2, none⟩ = some (.bool a1_2) := (blk_cell BK340.out 2).trans rfl; have hcz18_3 : w15.cell? ⟨gb340, 3, none⟩ = some (.string a1_3) := (blk_cell BK340.out 3).trans rfl; have hfz18_0 := blk_frozen BK340.out 0; have hfz18_1 := blk_frozen BK340.out 1; have hfz18_2 := blk_frozen BK340.out 2; have hfz18_3 := blk_frozen BK340.out 3; have hnb19 := NB339_341.out; have hnc19 := NB341_339.out; have hcz20_0 : w15.cell? ⟨gb339, 0, none⟩ = some (.int .i64 a0_0) := (blk_cell BK339.out 0).trans rfl; have hcz20_1 : w15.cell? ⟨gb339, 1, none⟩ = some (.int .i64 a0_1) := (blk_cell BK339.out 1).trans rfl; have hcz20_2 : w15.cell? ⟨gb339, 2, none⟩ = some (.bool a0_2) := (blk_cell BK339.out 2).trans rfl; have hcz20_3 : w15.cell? ⟨gb339, 3, none⟩ = some (.string a0_3) := (blk_cell BK339.out 3).trans rfl; have hfz20_0 := blk_frozen BK339.out 0; have hfz20_1 := blk_frozen BK339.out 1; have hfz20_2 := blk_frozen BK339.out 2; have hfz20_3 := blk_frozen BK339.out 3; have hcz21_0 : w15.cell? ⟨gb341, 0, none⟩ = some (.int .i64 0) := (blk_cell BK341.out 0).trans rfl; have hcz21_1 : w15.cell? ⟨gb341, 1, none⟩ = some (.int .i64 0) := (blk_cell BK341.out 1).trans rfl; have hcz21_2 : w15.cell? ⟨gb341, 2, none⟩ = some (.bool false) := (blk_cell BK341.out 2).trans rfl; have hcz21_3 : w15.cell? ⟨gb341, 3, none⟩ = some (.string (⟨#[]⟩ : ByteArray)) := (blk_cell BK341.out 3).trans rfl; have hfz21_0 := blk_frozen BK341.out 0; have hfz21_1 := blk_frozen BK341.out 1; have hfz21_2 := blk_frozen BK341.out 2; have hfz21_3 := blk_frozen BK341.out 3))
  refine bodyPost_ret (results_cell_row rfl _ _ gb341 34 #[.int .i64 a0_0, .int .i64 a0_1, .bool a0_2, .string a0_3] (0, 0) _ rfl (by (with_reducible repeat (first | refine blk_drewN ?_ _ | refine blk_drew ?_ | refine blk_alloc ?_ _)); refine blk_put (cs := #[.int .i64 a0_0, .int .i64 a0_1, .bool a0_2, .string (⟨#[]⟩ : ByteArray)]) ?_ 3 _ rfl; (with_reducible repeat (first | refine blk_drewN ?_ _ | refine blk_drew ?_ | refine blk_alloc ?_ _)); refine blk_put (cs := #[.int .i64 a0_0, .int .i64 a0_1, .bool false, .string (⟨#[]⟩ : ByteArray)]) ?_ 2 _ rfl; (with_reducible repeat (first | refine blk_drewN ?_ _ | refine blk_drew ?_ | refine blk_alloc ?_ _)); refine blk_put (cs := #[.int .i64 a0_0, .int .i64 0, .bool false, .string (⟨#[]⟩ : ByteArray)]) ?_ 1 _ rfl; (with_reducible repeat (first | refine blk_drewN ?_ _ | refine blk_drew ?_ | refine blk_alloc ?_ _)); refine blk_put (cs := #[.int .i64 0, .int .i64 0, .bool false, .string (⟨#[]⟩ : ByteArray)]) ?_ 0 _ rfl; (with_reducible repeat (first | refine blk_drewN ?_ _ | refine blk_drew ?_ | refine blk_alloc ?_ _)); exact BK341.out) Try.underlying34 rfl (by kernel_rfl)) rfl ?_
  exact ⟨KE, KB⟩

end Go.Proofs.Ythdpknoeackpfaa.PFnExactStoreSeal
