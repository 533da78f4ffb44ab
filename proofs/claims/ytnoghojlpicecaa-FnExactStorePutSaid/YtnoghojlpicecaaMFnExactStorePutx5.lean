-- What each Go function that this law reaches comes to: written by a program out of the translation.
import Derived.Test.YtnoghojlpicecaaMFnExactStorePutx0
import Derived.Test.YtnoghojlpicecaaMFnExactStorePutx3
import Derived.Test.YtnoghojlpicecaaMFnExactStorePutx4
namespace Go.Proofs.Ytnoghojlpicecaa.PFnExactStorePut
open Go.RowKit Go.Proofs.YtnoghojlpicecaaW.PrintWords Go.Proofs.YtnoghojlpicecaaW.PrintLast Go.Proofs.YtnoghojlpicecaaW.PrintMore
attribute [local go_sem] max2_int min2_int max_two min_two max_three min_three max_four min_four   -- for this text's walks alone
set_option linter.unusedVariables false
set_option linter.unusedSimpArgs false

/-! ### impl_StorePut: function 14 -/
mutual
def impl_StorePut.j0 : Nat → Bool → List (S35) → List (S35) → Int → Int → Int → Bool → ByteArray → Option ((List (S35)) × (List (S35)) × Int × Bool)
 | 0, _, _, _, _, _, _, _, _ => none
 | k + 1, x20, x235000, x235001, x235002, x236000, x236001, x236002, x236003 => if x20 = true then ((impl_storeAsWas.f k x235000 x235001 x235002).bind fun bt239 => (some (bt239.1, bt239.2.1, bt239.2.2, false))) else (if x236001 = 0 then ((impl_EpochOf.f x236000).bind fun t246 => (if t246 ≤ x235002 then (impl_StorePut.j1 k true x235000 x235001 x235002 x236000 x236001 x236002 x236003) else (if x236001 > 0 then (impl_StorePut.j1 k (decide (x236001 ≤ x235002)) x235000 x235001 x235002 x236000 x236001 x236002 x236003) else (impl_StorePut.j1 k false x235000 x235001 x235002 x236000 x236001 x236002 x236003)))) else (if x236001 > 0 then (impl_StorePut.j1 k (decide (x236001 ≤ x235002)) x235000 x235001 x235002 x236000 x236001 x236002 x236003) else (impl_StorePut.j1 k false x235000 x235001 x235002 x236000 x236001 x236002 x236003)))
def impl_StorePut.j1 : Nat → Bool → List (S35) → List (S35) → Int → Int → Int → Bool → ByteArray → Option ((List (S35)) × (List (S35)) × Int × Bool)
 | 0, _, _, _, _, _, _, _, _ => none
 | k + 1, x45, x235000, x235001, x235002, x236000, x236001, x236002, x236003 => if x45 = true then ((impl_copyStore.f x235000 x235001 x235002).bind fun bt247 => (some (bt247.1, bt247.2.1, bt247.2.2, false))) else ((impl_copyStore.f x235000 x235001 x235002).bind fun bt254 => (if bt254.2.1.length < 3518437208883 then (some (bt254.1, (bt254.2.1 ++ [(⟨x236000, x236001, x236002, x236003⟩ : S35)]), bt254.2.2, true)) else (none)))
end
def impl_StorePut.f (k : Nat) (l0_0 : List (S35)) (l0_1 : List (S35)) (a0_2 : Int) (a1_0 : Int) (a1_1 : Int) (a1_2 : Bool) (a1_3 : ByteArray) : Option ((List (S35)) × (List (S35)) × Int × Bool) := (impl_StoreOk.f k l0_0 l0_1 a0_2).bind fun t237 => (if t237 = true then ((impl_EntryOk.f a1_0 a1_1 a1_2 a1_3).bind fun t238 => (if t238 = true then (impl_StorePut.j0 k ((l0_1.length : Int) == 20) l0_0 l0_1 a0_2 a1_0 a1_1 a1_2 a1_3) else (impl_StorePut.j0 k true l0_0 l0_1 a0_2 a1_0 a1_1 a1_2 a1_3))) else (impl_StorePut.j0 k true l0_0 l0_1 a0_2 a1_0 a1_1 a1_2 a1_3))
theorem impl_StorePut.mono_l : ∀ k, (∀ y0 y1 y2 y3 y4 y5 y6 y7, LeO (impl_StorePut.j0 k y0 y1 y2 y3 y4 y5 y6 y7) (impl_StorePut.j0 (k + 1) y0 y1 y2 y3 y4 y5 y6 y7)) ∧ (∀ y0 y1 y2 y3 y4 y5 y6 y7, LeO (impl_StorePut.j1 k y0 y1 y2 y3 y4 y5 y6 y7) (impl_StorePut.j1 (k + 1) y0 y1 y2 y3 y4 y5 y6 y7))
 | 0 => ⟨fun _ _ _ _ _ _ _ _ r h => by simp [impl_StorePut.j0] at h, fun _ _ _ _ _ _ _ _ r h => by simp [impl_StorePut.j1] at h⟩
 | k + 1 => by
  obtain ⟨ih0, ih1⟩ := impl_StorePut.mono_l k
  refine ⟨?_, ?_⟩
  ·intro y0 y1 y2 y3 y4 y5 y6 y7
   unfold impl_StorePut.j0
   repeat' first
   | (with_reducible exact ih0 _ _ _ _ _ _ _ _)
   | (with_reducible exact ih1 _ _ _ _ _ _ _ _)
   | (with_reducible exact impl_StoreOk.mono _ _ _ _)
   | (with_reducible exact impl_storeAsWas.mono _ _ _ _)
   | (with_reducible exact LeO.refl _)
   | (with_reducible exact LeO.none _)
   | (with_reducible refine LeO.ite ?_ ?_)
   | (with_reducible refine LeO.bind ?_ (fun _ => ?_))
   | exact ih0 _ _ _ _ _ _ _ _
   | exact ih1 _ _ _ _ _ _ _ _
   | exact impl_StoreOk.mono _ _ _ _
   | exact impl_storeAsWas.mono _ _ _ _
   | exact LeO.none _
   | refine LeO.ite ?_ ?_
   | refine LeO.bind ?_ (fun _ => ?_)
  ·intro y0 y1 y2 y3 y4 y5 y6 y7
   unfold impl_StorePut.j1
   repeat' first
   | (with_reducible exact ih0 _ _ _ _ _ _ _ _)
   | (with_reducible exact ih1 _ _ _ _ _ _ _ _)
   | (with_reducible exact impl_StoreOk.mono _ _ _ _)
   | (with_reducible exact impl_storeAsWas.mono _ _ _ _)
   | (with_reducible exact LeO.refl _)
   | (with_reducible exact LeO.none _)
   | (with_reducible refine LeO.ite ?_ ?_)
   | (with_reducible refine LeO.bind ?_ (fun _ => ?_))
   | exact ih0 _ _ _ _ _ _ _ _
   | exact ih1 _ _ _ _ _ _ _ _
   | exact impl_StoreOk.mono _ _ _ _
   | exact impl_storeAsWas.mono _ _ _ _
   | exact LeO.none _
   | refine LeO.ite ?_ ?_
   | refine LeO.bind ?_ (fun _ => ?_)
theorem impl_StorePut.mono : ∀ a0 a1 a2 a3 a4 a5 a6 k, LeO (impl_StorePut.f k a0 a1 a2 a3 a4 a5 a6) (impl_StorePut.f (k + 1) a0 a1 a2 a3 a4 a5 a6) := by
 intro a0 a1 a2 a3 a4 a5 a6 k
 obtain ⟨ih0, ih1⟩ := impl_StorePut.mono_l k
 unfold impl_StorePut.f
 repeat' first
   | (with_reducible exact ih0 _ _ _ _ _ _ _ _)
   | (with_reducible exact ih1 _ _ _ _ _ _ _ _)
   | (with_reducible exact impl_StoreOk.mono _ _ _ _)
   | (with_reducible exact impl_storeAsWas.mono _ _ _ _)
   | (with_reducible exact LeO.refl _)
   | (with_reducible exact LeO.none _)
   | (with_reducible refine LeO.ite ?_ ?_)
   | (with_reducible refine LeO.bind ?_ (fun _ => ?_))
   | exact ih0 _ _ _ _ _ _ _ _
   | exact ih1 _ _ _ _ _ _ _ _
   | exact impl_StoreOk.mono _ _ _ _
   | exact impl_storeAsWas.mono _ _ _ _
   | exact LeO.none _
   | refine LeO.ite ?_ ?_
   | refine LeO.bind ?_ (fun _ => ?_)
set_option maxHeartbeats 8000000 in
set_option maxRecDepth 100000 in
theorem impl_StorePut.calls (k : Nat) (A0_0 : Option Addr) (c0_0 : Nat) (l0_0 : List (S35)) (A0_1 : Option Addr) (c0_1 : Nat) (l0_1 : List (S35)) (a0_2 : Int) (a1_0 : Int) (a1_1 : Int) (a1_2 : Bool) (a1_3 : ByteArray) (r1 : List (S35)) (r2 : List (S35)) (r3 : Int) (r4 : Bool) (w : World) (hr0_0 : Kd.C k35 w A0_0 l0_0.length l0_0) (hc0_0 : l0_0.length ≤ c0_0) (hr0_1 : Kd.C k35 w A0_1 l0_1.length l0_1) (hc0_1 : l0_1.length ≤ c0_1) (h : impl_StorePut.f k l0_0 l0_1 a0_2 a1_0 a1_1 a1_2 a1_3 = some (r1, r2, r3, r4)) :
  Calls Try.prog 14 #[.agg #[.slice A0_0 l0_0.length c0_0, .slice A0_1 l0_1.length c0_1, .int .i64 a0_2], .agg #[.int .i64 a1_0, .int .i64 a1_1, .bool a1_2, .string a1_3]] w fun e w' => ∃ v0_ v1_ : Value, e = .returned (.tuple #[.agg #[v0_, v1_, .int .i64 r3], .bool r4]) ∧ Kd.R k35 35 w' w.heap.size (fun k_ => some k_ ≠ (v1_ : Value).ownBlock) v0_ r1 ∧ Kd.R k35 35 w' w.heap.size (fun k_ => some k_ ≠ (v0_ : Value).ownBlock) v1_ r2 ∧ Below w.heap.size w w' := by
 have hu31 := Try.underlying31
 have hu35 := Try.underlying35
 have HR0_0 := Aside0.mk hr0_0
 have HC0_0 := Aside0.mk hc0_0
 clear hr0_0 hc0_0
 have HR0_1 := Aside0.mk hr0_1
 have HC0_1 := Aside0.mk hc0_1
 clear hr0_1 hc0_1
 have HB := Aside0.mk (Below.refl w.heap.size w)
 have H : ((impl_StoreOk.f k l0_0 l0_1 a0_2).bind fun t237 => (if t237 = true then ((impl_EntryOk.f a1_0 a1_1 a1_2 a1_3).bind fun t238 => (if t238 = true then (impl_StorePut.j0 k ((l0_1.length : Int) == 20) l0_0 l0_1 a0_2 a1_0 a1_1 a1_2 a1_3) else (impl_StorePut.j0 k true l0_0 l0_1 a0_2 a1_0 a1_1 a1_2 a1_3))) else (impl_StorePut.j0 k true l0_0 l0_1 a0_2 a1_0 a1_1 a1_2 a1_3))) = some (r1, r2, r3, r4) := h
 clear h
 have HC3 := Aside0.mk H
 clear H
 go_enter Try.func14, Try.ntmps14
 go_upto_region 1 with (first | ((with_reducible refine gate_dst (N := 2) rfl ?_); (try (refine gate_guard (by rfl) ?_; dsimp only)); refine box_event ?hg (N := 2) ?hd (cs := #[.slice A0_0 l0_0.length c0_0, .slice A0_1 l0_1.length c0_1, .int .i64 a0_2]) (t := 31) ?hr ?_; (case hd => rfl); (case hg => rfl); (case hr => first | (go_simp; done) | (go_simp; rfl)); intro gb234 hg w4 hbox hb; have n0_ := Aside0.mk (below_step KB hb); have n1_ := Aside0.mk (hbox); have n2_ := Aside0.mk ((KG hg : w.heap.size ≤ gb234)); have n3_ := Aside0.mk ((KG hg : w.heap.size ≤ gb234)); clear HB; have HB := n0_; have BK234 := n1_; have GW234 := n2_; have GE234 := n3_; clear n0_ n1_ n2_ n3_; clear hb hbox hg) | ((with_reducible refine gate_dst (N := 3) rfl ?_); (try (refine gate_guard (by rfl) ?_; dsimp only)); refine box_event ?hg (N := 3) ?hd (cs := #[.int .i64 a1_0, .int .i64 a1_1, .bool a1_2, .string a1_3]) (t := 35) ?hr ?_; (case hd => rfl); (case hg => rfl); (case hr => first | (go_simp; done) | (go_simp; rfl)); intro gb235 hg w5 hbox hb; have n0_ := Aside0.mk (blk_below (g := gb234) (o := .cells #[.slice A0_0 l0_0.length c0_0, .slice A0_1 l0_1.length c0_1, .int .i64 a0_2] 31 (0, 0)) KK hb); have n1_ := Aside0.mk (below_step KB hb); have n2_ := Aside0.mk (hbox); have n3_ := Aside0.mk ((KG hg : w.heap.size ≤ gb235)); have n4_ := Aside0.mk ((KG hg : w.heap.size ≤ gb235)); have n5_ := Aside0.mk ((by rw [hg]; exact Nat.ne_of_lt (blk_lt (g := gb234) (o := .cells #[.slice A0_0 l0_0.length c0_0, .slice A0_1 l0_1.length c0_1, .int .i64 a0_2] 31 (0, 0)) KK) : gb234 ≠ gb235)); have n6_ := Aside0.mk ((by rw [hg]; exact Nat.ne_of_gt (blk_lt (g := gb234) (o := .cells #[.slice A0_0 l0_0.length c0_0, .slice A0_1 l0_1.length c0_1, .int .i64 a0_2] 31 (0, 0)) KK) : gb235 ≠ gb234)); clear BK234; clear HB; have BK234 := n0_; have HB := n1_; have BK235 := n2_; have GW235 := n3_; have GE235 := n4_; have NB234_235 := n5_; have NB235_234 := n6_; clear n0_ n1_ n2_ n3_ n4_ n5_ n6_; clear hb hbox hg) | ((with_reducible refine gate_dst (N := 4) rfl ?_); (try (refine gate_guard (by rfl) ?_; dsimp only)); refine box_event ?hg (N := 4) ?hd (cs := #[.slice none 0 0, .slice none 0 0, .int .i64 0]) (t := 31) ?hr ?_; (case hd => rfl); (case hg => rfl); (case hr => first | (go_simp; done) | (go_simp; rfl)); intro gb236 hg w6 hbox hb; have n0_ := Aside0.mk (blk_below (g := gb234) (o := .cells #[.slice A0_0 l0_0.length c0_0, .slice A0_1 l0_1.length c0_1, .int .i64 a0_2] 31 (0, 0)) KK hb); have n1_ := Aside0.mk (blk_below (g := gb235) (o := .cells #[.int .i64 a1_0, .int .i64 a1_1, .bool a1_2, .string a1_3] 35 (0, 0)) KK hb); have n2_ := Aside0.mk (below_step KB hb); have n3_ := Aside0.mk (hbox); have n4_ := Aside0.mk ((KG hg : w.heap.size ≤ gb236)); have n5_ := Aside0.mk ((KG hg : w.heap.size ≤ gb236)); have n6_ := Aside0.mk ((by rw [hg]; exact Nat.ne_of_lt (blk_lt (g := gb234) (o := .cells #[.slice A0_0 l0_0.length c0_0, .slice A0_1 l0_1.length c0_1, .int .i64 a0_2] 31 (0, 0)) KK) : gb234 ≠ gb236)); have n7_ := Aside0.mk ((by rw [hg]; exact Nat.ne_of_gt (blk_lt (g := gb234) (o := .cells #[.slice A0_0 l0_0.length c0_0, .slice A0_1 l0_1.length c0_1, .int .i64 a0_2] 31 (0, 0)) KK) : gb236 ≠ gb234)); have n8_ := Aside0.mk ((by rw [hg]; exact Nat.ne_of_lt (blk_lt (g := gb235) (o := .cells #[.int .i64 a1_0, .int .i64 a1_1, .bool a1_2, .string a1_3] 35 (0, 0)) KK) : gb235 ≠ gb236)); have n9_ := Aside0.mk ((by rw [hg]; exact Nat.ne_of_gt (blk_lt (g := gb235) (o := .cells #[.int .i64 a1_0, .int .i64 a1_1, .bool a1_2, .string a1_3] 35 (0, 0)) KK) : gb236 ≠ gb235)); clear BK234; clear BK235; clear HB; have BK234 := n0_; have BK235 := n1_; have HB := n2_; have BK236 := n3_; have GW236 := n4_; have GE236 := n5_; have NB234_236 := n6_; have NB236_234 := n7_; have NB235_236 := n8_; have NB236_235 := n9_; clear n0_ n1_ n2_ n3_ n4_ n5_ n6_ n7_ n8_ n9_; clear hb hbox hg))
 repeat (go_quiet (first | ((with_reducible refine gate_dst (N := 2) rfl ?_); (try (refine gate_guard (by rfl) ?_; dsimp only)); refine box_event ?hg (N := 2) ?hd (cs := #[.slice A0_0 l0_0.length c0_0, .slice A0_1 l0_1.length c0_1, .int .i64 a0_2]) (t := 31) ?hr ?_; (case hd => rfl); (case hg => rfl); (case hr => first | (go_simp; done) | (go_simp; rfl)); intro gb234 hg w4 hbox hb; have n0_ := Aside0.mk (below_step KB hb); have n1_ := Aside0.mk (hbox); have n2_ := Aside0.mk ((KG hg : w.heap.size ≤ gb234)); have n3_ := Aside0.mk ((KG hg : w.heap.size ≤ gb234)); clear HB; have HB := n0_; have BK234 := n1_; have GW234 := n2_; have GE234 := n3_; clear n0_ n1_ n2_ n3_; clear hb hbox hg) | ((with_reducible refine gate_dst (N := 3) rfl ?_); (try (refine gate_guard (by rfl) ?_; dsimp only)); refine box_event ?hg (N := 3) ?hd (cs := #[.int .i64 a1_0, .int .i64 a1_1, .bool a1_2, .string a1_3]) (t := 35) ?hr ?_; (case hd => rfl); (case hg => rfl); (case hr => first | (go_simp; done) | (go_simp; rfl)); intro gb235 hg w5 hbox hb; have n0_ := Aside0.mk (blk_below (g := gb234) (o := .cells #[.slice A0_0 l0_0.length c0_0, .slice A0_1 l0_1.length c0_1, .int .i64 a0_2] 31 (0, 0)) KK hb); have n1_ := Aside0.mk (below_step KB hb); have n2_ := Aside0.mk (hbox); have n3_ := Aside0.mk ((KG hg : w.heap.size ≤ gb235)); have n4_ := Aside0.mk ((KG hg : w.heap.size ≤ gb235)); have n5_ := Aside0.mk ((by rw [hg]; exact Nat.ne_of_lt (blk_lt (g := gb234) (o := .cells #[.slice A0_0 l0_0.length c0_0, .slice A0_1 l0_1.length c0_1, .int .i64 a0_2] 31 (0, 0)) KK) : gb234 ≠ gb235)); have n6_ := Aside0.mk ((by rw [hg]; exact Nat.ne_of_gt (blk_lt (g := gb234) (o := .cells #[.slice A0_0 l0_0.length c0_0, .slice A0_1 l0_1.length c0_1, .int .i64 a0_2] 31 (0, 0)) KK) : gb235 ≠ gb234)); clear BK234; clear HB; have BK234 := n0_; have HB := n1_; have BK235 := n2_; have GW235 := n3_; have GE235 := n4_; have NB234_235 := n5_; have NB235_234 := n6_; clear n0_ n1_ n2_ n3_ n4_ n5_ n6_; clear hb hbox hg) | ((with_reducible refine gate_dst (N := 4) rfl ?_); (try (refine gate_guard (by rfl) ?_; dsimp only)); refine box_event ?hg (N := 4) ?hd (cs := #[.slice none 0 0, .slice none 0 0, .int .i64 0]) (t := 31) ?hr ?_; (case hd => rfl); (case hg => rfl); (case hr => first | (go_simp; done) | (go_simp; rfl)); intro gb236 hg w6 hbox hb; have n0_ := Aside0.mk (blk_below (g := gb234) (o := .cells #[.slice A0_0 l0_0.length c0_0, .slice A0_1 l0_1.length c0_1, .int .i64 a0_2] 31 (0, 0)) KK hb); have n1_ := Aside0.mk (blk_below (g := gb235) (o := .cells #[.int .i64 a1_0, .int .i64 a1_1, .bool a1_2, .string a1_3] 35 (0, 0)) KK hb); have n2_ := Aside0.mk (below_step KB hb); have n3_ := Aside0.mk (hbox); have n4_ := Aside0.mk ((KG hg : w.heap.size ≤ gb236)); have n5_ := Aside0.mk ((KG hg : w.heap.size ≤ gb236)); have n6_ := Aside0.mk ((by rw [hg]; exact Nat.ne_of_lt (blk_lt (g := gb234) (o := .cells #[.slice A0_0 l0_0.length c0_0, .slice A0_1 l0_1.length c0_1, .int .i64 a0_2] 31 (0, 0)) KK) : gb234 ≠ gb236)); have n7_ := Aside0.mk ((by rw [hg]; exact Nat.ne_of_gt (blk_lt (g := gb234) (o := .cells #[.slice A0_0 l0_0.length c0_0, .slice A0_1 l0_1.length c0_1, .int .i64 a0_2] 31 (0, 0)) KK) : gb236 ≠ gb234)); have n8_ := Aside0.mk ((by rw [hg]; exact Nat.ne_of_lt (blk_lt (g := gb235) (o := .cells #[.int .i64 a1_0, .int .i64 a1_1, .bool a1_2, .string a1_3] 35 (0, 0)) KK) : gb235 ≠ gb236)); have n9_ := Aside0.mk ((by rw [hg]; exact Nat.ne_of_gt (blk_lt (g := gb235) (o := .cells #[.int .i64 a1_0, .int .i64 a1_1, .bool a1_2, .string a1_3] 35 (0, 0)) KK) : gb236 ≠ gb235)); clear BK234; clear BK235; clear HB; have BK234 := n0_; have BK235 := n1_; have HB := n2_; have BK236 := n3_; have GW236 := n4_; have GE236 := n5_; have NB234_236 := n6_; have NB236_234 := n7_; have NB235_236 := n8_; have NB236_235 := n9_; clear n0_ n1_ n2_ n3_ n4_ n5_ n6_ n7_ n8_ n9_; clear hb hbox hg)); go_upto_region 1 with (first | ((with_reducible refine gate_dst (N := 2) rfl ?_); (try (refine gate_guard (by rfl) ?_; dsimp only)); refine box_event ?hg (N := 2) ?hd (cs := #[.slice A0_0 l0_0.length c0_0, .slice A0_1 l0_1.length c0_1, .int .i64 a0_2]) (t := 31) ?hr ?_; (case hd => rfl); (case hg => rfl); (case hr => first | (go_simp; done) | (go_simp; rfl)); intro gb234 hg w4 hbox hb; have n0_ := Aside0.mk (below_step KB hb); have n1_ := Aside0.mk (hbox); have n2_ := Aside0.mk ((KG hg : w.heap.size ≤ gb234)); have n3_ := Aside0.mk ((KG hg : w.heap.size ≤ gb234)); clear HB; have HB := n0_; have BK234 := n1_; have GW234 := n2_; have GE234 := n3_; clear n0_ n1_ n2_ n3_; clear hb hbox hg) | ((with_reducible refine gate_dst (N := 3) rfl ?_); (try (refine gate_guard (by rfl) ?_; dsimp only)); refine box_event ?hg (N := 3) ?hd (cs := #[.int .i64 a1_0, .int .i64 a1_1, .bool a1_2, .string a1_3]) (t := 35) ?hr ?_; (case hd => rfl); (case hg => rfl); (case hr => first | (go_simp; done) | (go_simp; rfl)); intro gb235 hg w5 hbox hb; have n0_ := Aside0.mk (blk_below (g := gb234) (o := .cells #[.slice A0_0 l0_0.length c0_0, .slice A0_1 l0_1.length c0_1, .int .i64 a0_2] 31 (0, 0)) KK hb); have n1_ := Aside0.mk (below_step KB hb); have n2_ := Aside0.mk (hbox); have n3_ := Aside0.mk ((KG hg : w.heap.size ≤ gb235)); have n4_ := Aside0.mk ((KG hg : w.heap.size ≤ gb235)); have n5_ := Aside0.mk ((by rw [hg]; exact Nat.ne_of_lt (blk_lt (g := gb234) (o := .cells #[.slice A0_0 l0_0.length c0_0, .slice A0_1 l0_1.length c0_1, .int .i64 a0_2] 31 (0, 0)) KK) : gb234 ≠ gb235)); have n6_ := Aside0.mk ((by rw [hg]; exact Nat.ne_of_gt (blk_lt (g := gb234) (o := .cells #[.slice A0_0 l0_0.length c0_0, .slice A0_1 l0_1.length c0_1, .int .i64 a0_2] 31 (0, 0)) KK) : gb235 ≠ gb234)); clear BK234; clear HB; have BK234 := n0_; have HB := n1_; have BK235 := n2_; have GW235 := n3_; have GE235 := n4_; have NB234_235 := n5_; have NB235_234 := n6_; clear n0_ n1_ n2_ n3_ n4_ n5_ n6_; clear hb hbox hg) | ((with_reducible refine gate_dst (N := 4) rfl ?_); (try (refine gate_guard (by rfl) ?_; dsimp only)); refine box_event ?hg (N := 4) ?hd (cs := #[.slice none 0 0, .slice none 0 0, .int .i64 0]) (t := 31) ?hr ?_; (case hd => rfl); (case hg => rfl); (case hr => first | (go_simp; done) | (go_simp; rfl)); intro gb236 hg w6 hbox hb; have n0_ := Aside0.mk (blk_below (g := gb234) (o := .cells #[.slice A0_0 l0_0.length c0_0, .slice A0_1 l0_1.length c0_1, .int .i64 a0_2] 31 (0, 0)) KK hb); have n1_ := Aside0.mk (blk_below (g := gb235) (o := .cells #[.int .i64 a1_0, .int .i64 a1_1, .bool a1_2, .string a1_3] 35 (0, 0)) KK hb); have n2_ := Aside0.mk (below_step KB hb); have n3_ := Aside0.mk (hbox); have n4_ := Aside0.mk ((KG hg : w.heap.size ≤ gb236)); have n5_ := Aside0.mk ((KG hg : w.heap.size ≤ gb236)); have n6_ := Aside0.mk ((by rw [hg]; exact Nat.ne_of_lt (blk_lt (g := gb234) (o := .cells #[.slice A0_0 l0_0.length c0_0, .slice A0_1 l0_1.length c0_1, .int .i64 a0_2] 31 (0, 0)) KK) : gb234 ≠ gb236)); have n7_ := Aside0.mk ((by rw [hg]; exact Nat.ne_of_gt (blk_lt (g := gb234) (o := .cells #[.slice A0_0 l0_0.length c0_0, .slice A0_1 l0_1.length c0_1, .int .i64 a0_2] 31 (0, 0)) KK) : gb236 ≠ gb234)); have n8_ := Aside0.mk ((by rw [hg]; exact Nat.ne_of_lt (blk_lt (g := gb235) (o := .cells #[.int .i64 a1_0, .int .i64 a1_1, .bool a1_2, .string a1_3] 35 (0, 0)) KK) : gb235 ≠ gb236)); have n9_ := Aside0.mk ((by rw [hg]; exact Nat.ne_of_gt (blk_lt (g := gb235) (o := .cells #[.int .i64 a1_0, .int .i64 a1_1, .bool a1_2, .string a1_3] 35 (0, 0)) KK) : gb236 ≠ gb235)); clear BK234; clear BK235; clear HB; have BK234 := n0_; have BK235 := n1_; have HB := n2_; have BK236 := n3_; have GW236 := n4_; have GE236 := n5_; have NB234_236 := n6_; have NB236_234 := n7_; have NB235_236 := n8_; have NB236_235 := n9_; clear n0_ n1_ n2_ n3_ n4_ n5_ n6_ n7_ n8_ n9_; clear hb hbox hg)))
 (try simp only [Act.put, List.setIfInBounds_toArray, List.set_cons_zero, List.set_cons_succ])
 go_cut [20] (fun v20 wc => ∃ (kq : Nat) (x20_2 : Bool), v20 = .bool x20_2 ∧ Aside0 (impl_StorePut.j0 kq x20_2 l0_0 l0_1 a0_2 a1_0 a1_1 a1_2 a1_3 = some (r1, r2, r3, r4)) ∧ Aside0 (kq ≤ k) ∧ Aside0 (wc.heap[gb234]? = some (.cells #[(.slice A0_0 l0_0.length c0_0), (.slice A0_1 l0_1.length c0_1), .int .i64 a0_2] 31 (0, 0))) ∧ Aside0 (wc.heap[gb235]? = some (.cells #[.int .i64 a1_0, .int .i64 a1_1, .bool a1_2, .string a1_3] 35 (0, 0))) ∧ Aside0 (wc.heap[gb236]? = some (.cells #[(.slice none 0 0), (.slice none 0 0), .int .i64 0] 31 (0, 0))) ∧ Aside0 (Below w.heap.size w wc))
 case first =>
  have H := HC3.out
  clear HC3
  replace H := Option.bind_eq_some_iff.mp H
  obtain ⟨t237, A70, H⟩ := H
  replace H : (if t237 = true then ((impl_EntryOk.f a1_0 a1_1 a1_2 a1_3).bind fun t238 => (if t238 = true then (impl_StorePut.j0 k ((l0_1.length : Int) == 20) l0_0 l0_1 a0_2 a1_0 a1_1 a1_2 a1_3) else (impl_StorePut.j0 k true l0_0 l0_1 a0_2 a1_0 a1_1 a1_2 a1_3))) else (impl_StorePut.j0 k true l0_0 l0_1 a0_2 a1_0 a1_1 a1_2 a1_3)) = some (r1, r2, r3, r4) := H
  have A7 := Aside0.mk A70
  clear A70
  by_cases c8 : t237 = true
  ·subst c8
   have H1 : ((impl_EntryOk.f a1_0 a1_1 a1_2 a1_3).bind fun t238 => (if t238 = true then (impl_StorePut.j0 k ((l0_1.length : Int) == 20) l0_0 l0_1 a0_2 a1_0 a1_1 a1_2 a1_3) else (impl_StorePut.j0 k true l0_0 l0_1 a0_2 a1_0 a1_1 a1_2 a1_3))) = some (r1, r2, r3, r4) := by rw [if_pos rfl] at H; exact H
   clear H
   have H := H1
   clear H1
   replace H := Option.bind_eq_some_iff.mp H
   obtain ⟨t238, A90, H⟩ := H
   replace H : (if t238 = true then (impl_StorePut.j0 k ((l0_1.length : Int) == 20) l0_0 l0_1 a0_2 a1_0 a1_1 a1_2 a1_3) else (impl_StorePut.j0 k true l0_0 l0_1 a0_2 a1_0 a1_1 a1_2 a1_3)) = some (r1, r2, r3, r4) := H
   have A9 := Aside0.mk A90
   clear A90
   by_cases c10 : t238 = true
   ·subst c10
    have H1 : (impl_StorePut.j0 k ((l0_1.length : Int) == 20) l0_0 l0_1 a0_2 a1_0 a1_1 a1_2 a1_3) = some (r1, r2, r3, r4) := by rw [if_pos rfl] at H; exact H
    clear H
    have H := H1
    clear H1
    have H' := Aside0.mk H
    clear H
    have hnb11 := NB234_235.out
    have hnc11 := NB235_234.out
    have hnb12 := NB234_236.out
    have hnc12 := NB236_234.out
    have hcz13_0 : w6.cell? ⟨gb234, 0, none⟩ = some (.slice A0_0 l0_0.length c0_0) := (blk_cell BK234.out 0).trans rfl
    have hcz13_1 : w6.cell? ⟨gb234, 1, none⟩ = some (.slice A0_1 l0_1.length c0_1) := (blk_cell BK234.out 1).trans rfl
    have hcz13_2 : w6.cell? ⟨gb234, 2, none⟩ = some (.int .i64 a0_2) := (blk_cell BK234.out 2).trans rfl
    have hfz13_0 := blk_frozen BK234.out 0
    have hfz13_1 := blk_frozen BK234.out 1
    have hfz13_2 := blk_frozen BK234.out 2
    go_wp2_with (first | (go_at_call 32; (with_reducible refine (impl_StoreOk.calls k _ _ l0_0 _ _ l0_1 a0_2 true _ ?side1 ?side2 ?side3 ?side4 A7.out).mono ?_); (case side1 => exact KD (Kd.C_below HR0_0.out HB.out)); (case side2 => exact HC0_0.out); (case side3 => exact KD (Kd.C_below HR0_1.out HB.out)); (case side4 => exact HC0_1.out); rintro e w14 ⟨rfl, hb⟩; have n0_ := Aside0.mk (blk_below (g := gb234) (o := .cells #[.slice A0_0 l0_0.length c0_0, .slice A0_1 l0_1.length c0_1, .int .i64 a0_2] 31 (0, 0)) KK hb); have n1_ := Aside0.mk (blk_below (g := gb235) (o := .cells #[.int .i64 a1_0, .int .i64 a1_1, .bool a1_2, .string a1_3] 35 (0, 0)) KK hb); have n2_ := Aside0.mk (blk_below (g := gb236) (o := .cells #[.slice none 0 0, .slice none 0 0, .int .i64 0] 31 (0, 0)) KK hb); have n3_ := Aside0.mk (below_step KB hb); clear BK234; clear BK235; clear BK236; clear HB; have BK234 := n0_; have BK235 := n1_; have BK236 := n2_; have HB := n3_; clear n0_ n1_ n2_ n3_; (try clear hb); (try clear hb2); (try clear hk); (try clear hi); have hnb15 := NB235_236.out; have hnc15 := NB236_235.out; have hcz16_0 : w14.cell? ⟨gb235, 0, none⟩ = some (.int .i64 a1_0) := (blk_cell BK235.out 0).trans rfl; have hcz16_1 : w14.cell? ⟨gb235, 1, none⟩ = some (.int .i64 a1_1) := (blk_cell BK235.out 1).trans rfl; have hcz16_2 : w14.cell? ⟨gb235, 2, none⟩ = some (.bool a1_2) := (blk_cell BK235.out 2).trans rfl; have hcz16_3 : w14.cell? ⟨gb235, 3, none⟩ = some (.string a1_3) := (blk_cell BK235.out 3).trans rfl; have hfz16_0 := blk_frozen BK235.out 0; have hfz16_1 := blk_frozen BK235.out 1; have hfz16_2 := blk_frozen BK235.out 2; have hfz16_3 := blk_frozen BK235.out 3) | (go_at_call 45; (with_reducible refine (impl_EntryOk.calls a1_0 a1_1 a1_2 a1_3 true _ A9.out).mono ?_); rintro e w17 ⟨rfl, hb⟩; have n0_ := Aside0.mk (blk_below (g := gb234) (o := .cells #[.slice A0_0 l0_0.length c0_0, .slice A0_1 l0_1.length c0_1, .int .i64 a0_2] 31 (0, 0)) KK hb); have n1_ := Aside0.mk (blk_below (g := gb235) (o := .cells #[.int .i64 a1_0, .int .i64 a1_1, .bool a1_2, .string a1_3] 35 (0, 0)) KK hb); have n2_ := Aside0.mk (blk_below (g := gb236) (o := .cells #[.slice none 0 0, .slice none 0 0, .int .i64 0] 31 (0, 0)) KK hb); have n3_ := Aside0.mk (below_step KB hb); clear BK234; clear BK235; clear BK236; clear HB; have BK234 := n0_; have BK235 := n1_; have BK236 := n2_; have HB := n3_; clear n0_ n1_ n2_ n3_; (try clear hb); (try clear hb2); (try clear hk); (try clear hi); have hcz18_0 : w17.cell? ⟨gb234, 0, none⟩ = some (.slice A0_0 l0_0.length c0_0) := (blk_cell BK234.out 0).trans rfl; have hcz18_1 : w17.cell? ⟨gb234, 1, none⟩ = some (.slice A0_1 l0_1.length c0_1) := (blk_cell BK234.out 1).trans rfl; have hcz18_2 : w17.cell? ⟨gb234, 2, none⟩ = some (.int .i64 a0_2) := (blk_cell BK234.out 2).trans rfl; have hfz18_0 := blk_frozen BK234.out 0; have hfz18_1 := blk_frozen BK234.out 1; have hfz18_2 := blk_frozen BK234.out 2))
    repeat (go_quiet (fail); try go_wp2_with (first | (go_at_call 32; (with_reducible refine (impl_StoreOk.calls k _ _ l0_0 _ _ l0_1 a0_2 true _ ?side1 ?side2 ?side3 ?side4 A7.out).mono ?_); (case side1 => exact KD (Kd.C_below HR0_0.out HB.out)); (case side2 => exact HC0_0.out); (case side3 => exact KD (Kd.C_below HR0_1.out HB.out)); (case side4 => exact HC0_1.out); rintro e w14 ⟨rfl, hb⟩; have n0_ := Aside0.mk (blk_below (g := gb234) (o := .cells #[.slice A0_0 l0_0.length c0_0, .slice A0_1 l0_1.length c0_1, .int .i64 a0_2] 31 (0, 0)) KK hb); have n1_ := Aside0.mk (blk_below (g := gb235) (o := .cells #[.int .i64 a1_0, .int .i64 a1_1, .bool a1_2, .string a1_3] 35 (0, 0)) KK hb); have n2_ := Aside0.mk (blk_below (g := gb236) (o := .cells #[.slice none 0 0, .slice none 0 0, .int .i64 0] 31 (0, 0)) KK hb); have n3_ := Aside0.mk (below_step KB hb); clear BK234; clear BK235; clear BK236; clear HB; have BK234 := n0_; have BK235 := n1_; have BK236 := n2_; have HB := n3_; clear n0_ n1_ n2_ n3_; (try clear hb); (try clear hb2); (try clear hk); (try clear hi); have hnb15 := NB235_236.out; have hnc15 := NB236_235.out; have hcz16_0 : w14.cell? ⟨gb235, 0, none⟩ = some (.int .i64 a1_0) := (blk_cell BK235.out 0).trans rfl; have hcz16_1 : w14.cell? ⟨gb235, 1, none⟩ = some (.int .i64 a1_1) := (blk_cell BK235.out 1).trans rfl; have hcz16_2 : w14.cell? ⟨gb235, 2, none⟩ = some (.bool a1_2) := (blk_cell BK235.out 2).trans rfl; have hcz16_3 : w14.cell? ⟨gb235, 3, none⟩ = some (.string a1_3) := (blk_cell BK235.out 3).trans rfl; have hfz16_0 := blk_frozen BK235.out 0; have hfz16_1 := blk_frozen BK235.out 1; have hfz16_2 := blk_frozen BK235.out 2; have hfz16_3 := blk_frozen BK235.out 3) | (go_at_call 45; (with_reducible refine (impl_EntryOk.calls a1_0 a1_1 a1_2 a1_3 true _ A9.out).mono ?_); rintro e w17 ⟨rfl, hb⟩; have n0_ := Aside0.mk (blk_below (g := gb234) (o := .cells #[.slice A0_0 l0_0.length c0_0, .slice A0_1 l0_1.length c0_1, .int .i64 a0_2] 31 (0, 0)) KK hb); have n1_ := Aside0.mk (blk_below (g := gb235) (o := .cells #[.int .i64 a1_0, .int .i64 a1_1, .bool a1_2, .string a1_3] 35 (0, 0)) KK hb); have n2_ := Aside0.mk (blk_below (g := gb236) (o := .cells #[.slice none 0 0, .slice none 0 0, .int .i64 0] 31 (0, 0)) KK hb); have n3_ := Aside0.mk (below_step KB hb); clear BK234; clear BK235; clear BK236; clear HB; have BK234 := n0_; have BK235 := n1_; have BK236 := n2_; have HB := n3_; clear n0_ n1_ n2_ n3_; (try clear hb); (try clear hb2); (try clear hk); (try clear hi); have hcz18_0 : w17.cell? ⟨gb234, 0, none⟩ = some (.slice A0_0 l0_0.length c0_0) := (blk_cell BK234.out 0).trans rfl; have hcz18_1 : w17.cell? ⟨gb234, 1, none⟩ = some (.slice A0_1 l0_1.length c0_1) := (blk_cell BK234.out 1).trans rfl; have hcz18_2 : w17.cell? ⟨gb234, 2, none⟩ = some (.int .i64 a0_2) := (blk_cell BK234.out 2).trans rfl; have hfz18_0 := blk_frozen BK234.out 0; have hfz18_1 := blk_frozen BK234.out 1; have hfz18_2 := blk_frozen BK234.out 2)))
    go_meet
    case rel => exact ⟨_, (((l0_1.length : Int) == 20)), (by first | rfl | (simp; done) | (simp [*]; done)), H', ⟨by first | omega | exact Nat.le_refl _⟩, ⟨KK⟩, ⟨KK⟩, ⟨KK⟩, ⟨KB⟩⟩
   ·replace c10 := Bool.eq_false_iff.mpr c10
    subst c10
    have H1 : (impl_StorePut.j0 k true l0_0 l0_1 a0_2 a1_0 a1_1 a1_2 a1_3) = some (r1, r2, r3, r4) := by rw [if_neg (show ¬ (false = true) by decide)] at H; exact H
    clear H
    have H := H1
    clear H1
    have H' := Aside0.mk H
    clear H
    have hnb19 := NB234_235.out
    have hnc19 := NB235_234.out
    have hnb20 := NB234_236.out
    have hnc20 := NB236_234.out
    have hcz21_0 : w6.cell? ⟨gb234, 0, none⟩ = some (.slice A0_0 l0_0.length c0_0) := (blk_cell BK234.out 0).trans rfl
    have hcz21_1 : w6.cell? ⟨gb234, 1, none⟩ = some (.slice A0_1 l0_1.length c0_1) := (blk_cell BK234.out 1).trans rfl
    have hcz21_2 : w6.cell? ⟨gb234, 2, none⟩ = some (.int .i64 a0_2) := (blk_cell BK234.out 2).trans rfl
    have hfz21_0 := blk_frozen BK234.out 0
    have hfz21_1 := blk_frozen BK234.out 1
    have hfz21_2 := blk_frozen BK234.out 2
    go_wp2_with (first | (go_at_call 32; (with_reducible refine (impl_StoreOk.calls k _ _ l0_0 _ _ l0_1 a0_2 true _ ?side1 ?side2 ?side3 ?side4 A7.out).mono ?_); (case side1 => exact KD (Kd.C_below HR0_0.out HB.out)); (case side2 => exact HC0_0.out); (case side3 => exact KD (Kd.C_below HR0_1.out HB.out)); (case side4 => exact HC0_1.out); rintro e w22 ⟨rfl, hb⟩; have n0_ := Aside0.mk (blk_below (g := gb234) (o := .cells #[.slice A0_0 l0_0.length c0_0, .slice A0_1 l0_1.length c0_1, .int .i64 a0_2] 31 (0, 0)) KK hb); have n1_ := Aside0.mk (blk_below (g := gb235) (o := .cells #[.int .i64 a1_0, .int .i64 a1_1, .bool a1_2, .string a1_3] 35 (0, 0)) KK hb); have n2_ := Aside0.mk (blk_below (g := gb236) (o := .cells #[.slice none 0 0, .slice none 0 0, .int .i64 0] 31 (0, 0)) KK hb); have n3_ := Aside0.mk (below_step KB hb); clear BK234; clear BK235; clear BK236; clear HB; have BK234 := n0_; have BK235 := n1_; have BK236 := n2_; have HB := n3_; clear n0_ n1_ n2_ n3_; (try clear hb); (try clear hb2); (try clear hk); (try clear hi); have hnb23 := NB235_236.out; have hnc23 := NB236_235.out; have hcz24_0 : w22.cell? ⟨gb235, 0, none⟩ = some (.int .i64 a1_0) := (blk_cell BK235.out 0).trans rfl; have hcz24_1 : w22.cell? ⟨gb235, 1, none⟩ = some (.int .i64 a1_1) := (blk_cell BK235.out 1).trans rfl; have hcz24_2 : w22.cell? ⟨gb235, 2, none⟩ = some (.bool a1_2) := (blk_cell BK235.out 2).trans rfl; have hcz24_3 : w22.cell? ⟨gb235, 3, none⟩ = some (.string a1_3) := (blk_cell BK235.out 3).trans rfl; have hfz24_0 := blk_frozen BK235.out 0; have hfz24_1 := blk_frozen BK235.out 1; have hfz24_2 := blk_frozen BK235.out 2; have hfz24_3 := blk_frozen BK235.out 3) | (go_at_call 45; (with_reducible refine (impl_EntryOk.calls a1_0 a1_1 a1_2 a1_3 false _ A9.out).mono ?_); rintro e w25 ⟨rfl, hb⟩; have n0_ := Aside0.mk (blk_below (g := gb234) (o := .cells #[.slice A0_0 l0_0.length c0_0, .slice A0_1 l0_1.length c0_1, .int .i64 a0_2] 31 (0, 0)) KK hb); have n1_ := Aside0.mk (blk_below (g := gb235) (o := .cells #[.int .i64 a1_0, .int .i64 a1_1, .bool a1_2, .string a1_3] 35 (0, 0)) KK hb); have n2_ := Aside0.mk (blk_below (g := gb236) (o := .cells #[.slice none 0 0, .slice none 0 0, .int .i64 0] 31 (0, 0)) KK hb); have n3_ := Aside0.mk (below_step KB hb); clear BK234; clear BK235; clear BK236; clear HB; have BK234 := n0_; have BK235 := n1_; have BK236 := n2_; have HB := n3_; clear n0_ n1_ n2_ n3_; (try clear hb); (try clear hb2); (try clear hk); (try clear hi)))
    repeat (go_quiet (fail); try go_wp2_with (first | (go_at_call 32; (with_reducible refine (impl_StoreOk.calls k _ _ l0_0 _ _ l0_1 a0_2 true _ ?side1 ?side2 ?side3 ?side4 A7.out).mono ?_); (case side1 => exact KD (Kd.C_below HR0_0.out HB.out)); (case side2 => exact HC0_0.out); (case side3 => exact KD (Kd.C_below HR0_1.out HB.out)); (case side4 => exact HC0_1.out); rintro e w22 ⟨rfl, hb⟩; have n0_ := Aside0.mk (blk_below (g := gb234) (o := .cells #[.slice A0_0 l0_0.length c0_0, .slice A0_1 l0_1.length c0_1, .int .i64 a0_2] 31 (0, 0)) KK hb); have n1_ := Aside0.mk (blk_below (g := gb235) (o := .cells #[.int .i64 a1_0, .int .i64 a1_1, .bool a1_2, .string a1_3] 35 (0, 0)) KK hb); have n2_ := Aside0.mk (blk_below (g := gb236) (o := .cells #[.slice none 0 0, .slice none 0 0, .int .i64 0] 31 (0, 0)) KK hb); have n3_ := Aside0.mk (below_step KB hb); clear BK234; clear BK235; clear BK236; clear HB; have BK234 := n0_; have BK235 := n1_; have BK236 := n2_; have HB := n3_; clear n0_ n1_ n2_ n3_; (try clear hb); (try clear hb2); (try clear hk); (try clear hi); have hnb23 := NB235_236.out; have hnc23 := NB236_235.out; have hcz24_0 : w22.cell? ⟨gb235, 0, none⟩ = some (.int .i64 a1_0) := (blk_cell BK235.out 0).trans rfl; have hcz24_1 : w22.cell? ⟨gb235, 1, none⟩ = some (.int .i64 a1_1) := (blk_cell BK235.out 1).trans rfl; have hcz24_2 : w22.cell? ⟨gb235, 2, none⟩ = some (.bool a1_2) := (blk_cell BK235.out 2).trans rfl; have hcz24_3 : w22.cell? ⟨gb235, 3, none⟩ = some (.string a1_3) := (blk_cell BK235.out 3).trans rfl; have hfz24_0 := blk_frozen BK235.out 0; have hfz24_1 := blk_frozen BK235.out 1; have hfz24_2 := blk_frozen BK235.out 2; have hfz24_3 := blk_frozen BK235.out 3) | (go_at_call 45; (with_reducible refine (impl_EntryOk.calls a1_0 a1_1 a1_2 a1_3 false _ A9.out).mono ?_); rintro e w25 ⟨rfl, hb⟩; have n0_ := Aside0.mk (blk_below (g := gb234) (o := .cells #[.slice A0_0 l0_0.length c0_0, .slice A0_1 l0_1.length c0_1, .int .i64 a0_2] 31 (0, 0)) KK hb); have n1_ := Aside0.mk (blk_below (g := gb235) (o := .cells #[.int .i64 a1_0, .int .i64 a1_1, .bool a1_2, .string a1_3] 35 (0, 0)) KK hb); have n2_ := Aside0.mk (blk_below (g := gb236) (o := .cells #[.slice none 0 0, .slice none 0 0, .int .i64 0] 31 (0, 0)) KK hb); have n3_ := Aside0.mk (below_step KB hb); clear BK234; clear BK235; clear BK236; clear HB; have BK234 := n0_; have BK235 := n1_; have BK236 := n2_; have HB := n3_; clear n0_ n1_ n2_ n3_; (try clear hb); (try clear hb2); (try clear hk); (try clear hi))))
    go_meet
    case rel => exact ⟨_, (true), (by first | rfl | (simp; done) | (simp [*]; done)), H', ⟨by first | omega | exact Nat.le_refl _⟩, ⟨KK⟩, ⟨KK⟩, ⟨KK⟩, ⟨KB⟩⟩
  ·replace c8 := Bool.eq_false_iff.mpr c8
   subst c8
   have H1 : (impl_StorePut.j0 k true l0_0 l0_1 a0_2 a1_0 a1_1 a1_2 a1_3) = some (r1, r2, r3, r4) := by rw [if_neg (show ¬ (false = true) by decide)] at H; exact H
   clear H
   have H := H1
   clear H1
   have H' := Aside0.mk H
   clear H
   have hnb26 := NB234_235.out
   have hnc26 := NB235_234.out
   have hnb27 := NB234_236.out
   have hnc27 := NB236_234.out
   have hcz28_0 : w6.cell? ⟨gb234, 0, none⟩ = some (.slice A0_0 l0_0.length c0_0) := (blk_cell BK234.out 0).trans rfl
   have hcz28_1 : w6.cell? ⟨gb234, 1, none⟩ = some (.slice A0_1 l0_1.length c0_1) := (blk_cell BK234.out 1).trans rfl
   have hcz28_2 : w6.cell? ⟨gb234, 2, none⟩ = some (.int .i64 a0_2) := (blk_cell BK234.out 2).trans rfl
   have hfz28_0 := blk_frozen BK234.out 0
   have hfz28_1 := blk_frozen BK234.out 1
   have hfz28_2 := blk_frozen BK234.out 2
   go_wp2_with (first | (go_at_call 32; (with_reducible refine (impl_StoreOk.calls k _ _ l0_0 _ _ l0_1 a0_2 false _ ?side1 ?side2 ?side3 ?side4 A7.out).mono ?_); (case side1 => exact KD (Kd.C_below HR0_0.out HB.out)); (case side2 => exact HC0_0.out); (case side3 => exact KD (Kd.C_below HR0_1.out HB.out)); (case side4 => exact HC0_1.out); rintro e w29 ⟨rfl, hb⟩; have n0_ := Aside0.mk (blk_below (g := gb234) (o := .cells #[.slice A0_0 l0_0.length c0_0, .slice A0_1 l0_1.length c0_1, .int .i64 a0_2] 31 (0, 0)) KK hb); have n1_ := Aside0.mk (blk_below (g := gb235) (o := .cells #[.int .i64 a1_0, .int .i64 a1_1, .bool a1_2, .string a1_3] 35 (0, 0)) KK hb); have n2_ := Aside0.mk (blk_below (g := gb236) (o := .cells #[.slice none 0 0, .slice none 0 0, .int .i64 0] 31 (0, 0)) KK hb); have n3_ := Aside0.mk (below_step KB hb); clear BK234; clear BK235; clear BK236; clear HB; have BK234 := n0_; have BK235 := n1_; have BK236 := n2_; have HB := n3_; clear n0_ n1_ n2_ n3_; (try clear hb); (try clear hb2); (try clear hk); (try clear hi)))
   repeat (go_quiet (fail); try go_wp2_with (first | (go_at_call 32; (with_reducible refine (impl_StoreOk.calls k _ _ l0_0 _ _ l0_1 a0_2 false _ ?side1 ?side2 ?side3 ?side4 A7.out).mono ?_); (case side1 => exact KD (Kd.C_below HR0_0.out HB.out)); (case side2 => exact HC0_0.out); (case side3 => exact KD (Kd.C_below HR0_1.out HB.out)); (case side4 => exact HC0_1.out); rintro e w29 ⟨rfl, hb⟩; have n0_ := Aside0.mk (blk_below (g := gb234) (o := .cells #[.slice A0_0 l0_0.length c0_0, .slice A0_1 l0_1.length c0_1, .int .i64 a0_2] 31 (0, 0)) KK hb); have n1_ := Aside0.mk (blk_below (g := gb235) (o := .cells #[.int .i64 a1_0, .int .i64 a1_1, .bool a1_2, .string a1_3] 35 (0, 0)) KK hb); have n2_ := Aside0.mk (blk_below (g := gb236) (o := .cells #[.slice none 0 0, .slice none 0 0, .int .i64 0] 31 (0, 0)) KK hb); have n3_ := Aside0.mk (below_step KB hb); clear BK234; clear BK235; clear BK236; clear HB; have BK234 := n0_; have BK235 := n1_; have BK236 := n2_; have HB := n3_; clear n0_ n1_ n2_ n3_; (try clear hb); (try clear hb2); (try clear hk); (try clear hi))))
   go_meet
   case rel => exact ⟨_, (true), (by first | rfl | (simp; done) | (simp [*]; done)), H', ⟨by first | omega | exact Nat.le_refl _⟩, ⟨KK⟩, ⟨KK⟩, ⟨KK⟩, ⟨KB⟩⟩
 case rest =>
  clear HC3
  try clear c1
  try clear c2
  try clear p2
  try clear c8
  try clear c10
  try clear c11
  try clear c12
  try clear c14
  try clear c15
  try clear c19
  try clear c20
  try clear c23
  try clear c26
  try clear c27
  try clear hcz13_0
  try clear hcz13_1
  try clear hcz13_2
  try clear hcz16_0
  try clear hcz16_1
  try clear hcz16_2
  try clear hcz16_3
  try clear hcz18_0
  try clear hcz18_1
  try clear hcz18_2
  try clear hcz21_0
  try clear hcz21_1
  try clear hcz21_2
  try clear hcz24_0
  try clear hcz24_1
  try clear hcz24_2
  try clear hcz24_3
  try clear hcz28_0
  try clear hcz28_1
  try clear hcz28_2
  try clear hfz13_0
  try clear hfz13_1
  try clear hfz13_2
  try clear hfz16_0
  try clear hfz16_1
  try clear hfz16_2
  try clear hfz16_3
  try clear hfz18_0
  try clear hfz18_1
  try clear hfz18_2
  try clear hfz21_0
  try clear hfz21_1
  try clear hfz21_2
  try clear hfz24_0
  try clear hfz24_1
  try clear hfz24_2
  try clear hfz24_3
  try clear hfz28_0
  try clear hfz28_1
  try clear hfz28_2
  obtain ⟨kq, x20_2, rfl, HA, HJ2, BK234, BK235, BK236, HB⟩ := hcut
  cases kq with
  | zero => exact absurd HA.out (by simp [impl_StorePut.j0])
  | succ kj2 =>
   have H := HA.out
   clear HA
   simp only [impl_StorePut.j0] at H
   by_cases c30 : x20_2 = true
   ·subst c30
    have H1 : ((impl_storeAsWas.f kj2 l0_0 l0_1 a0_2).bind fun bt239 => (some (bt239.1, bt239.2.1, bt239.2.2, false))) = some (r1, r2, r3, r4) := by rw [if_pos rfl] at H; exact H
    clear H
    have H := H1
    clear H1
    replace H := Option.bind_eq_some_iff.mp H
    obtain ⟨⟨t239, t242, t245⟩, A310, H⟩ := H
    replace H : (some (t239, t242, t245, false)) = some (r1, r2, r3, r4) := H
    have A31 := Aside0.mk A310
    clear A310
    simp only [Option.some.injEq, Prod.mk.injEq] at H
    obtain ⟨rfl, rfl, rfl, rfl⟩ := H
    have hnb32 := NB234_235.out
    have hnc32 := NB235_234.out
    have hnb33 := NB234_236.out
    have hnc33 := NB236_234.out
    have hcz34_0 : wc.cell? ⟨gb234, 0, none⟩ = some (.slice A0_0 l0_0.length c0_0) := (blk_cell BK234.out 0).trans rfl
    have hcz34_1 : wc.cell? ⟨gb234, 1, none⟩ = some (.slice A0_1 l0_1.length c0_1) := (blk_cell BK234.out 1).trans rfl
    have hcz34_2 : wc.cell? ⟨gb234, 2, none⟩ = some (.int .i64 a0_2) := (blk_cell BK234.out 2).trans rfl
    have hfz34_0 := blk_frozen BK234.out 0
    have hfz34_1 := blk_frozen BK234.out 1
    have hfz34_2 := blk_frozen BK234.out 2
    go_wp2_with (first | (go_at_call 46; (with_reducible refine (impl_storeAsWas.calls kj2 _ _ l0_0 _ _ l0_1 a0_2 t239 t242 t245 _ ?side1 ?side2 ?side3 ?side4 A31.out).mono ?_); (case side1 => exact KD (Kd.C_below HR0_0.out HB.out)); (case side2 => exact HC0_0.out); (case side3 => exact KD (Kd.C_below HR0_1.out HB.out)); (case side4 => exact HC0_1.out); rintro e w35 ⟨v240, v243, rfl, ho0, ho1, hb⟩; have n0_ := Aside0.mk (Kd.R_lower (Kd.R_newB ho0 (g := gb235) (o := .cells #[.int .i64 a1_0, .int .i64 a1_1, .bool a1_2, .string a1_3] 35 (0, 0)) KK) (below_size KB)); have n1_ := Aside0.mk (Kd.R_lower (Kd.R_newB ho1 (g := gb235) (o := .cells #[.int .i64 a1_0, .int .i64 a1_1, .bool a1_2, .string a1_3] 35 (0, 0)) KK) (below_size KB)); have n2_ := Aside0.mk (blk_below (g := gb234) (o := .cells #[.slice A0_0 l0_0.length c0_0, .slice A0_1 l0_1.length c0_1, .int .i64 a0_2] 31 (0, 0)) KK hb); have n3_ := Aside0.mk (blk_below (g := gb235) (o := .cells #[.int .i64 a1_0, .int .i64 a1_1, .bool a1_2, .string a1_3] 35 (0, 0)) KK hb); have n4_ := Aside0.mk (blk_below (g := gb236) (o := .cells #[.slice none 0 0, .slice none 0 0, .int .i64 0] 31 (0, 0)) KK hb); have n5_ := Aside0.mk (below_step KB hb); clear BK234; clear BK235; clear BK236; clear HB; have HO241 := n0_; have HO244 := n1_; have BK234 := n2_; have BK235 := n3_; have BK236 := n4_; have HB := n5_; clear n0_ n1_ n2_ n3_ n4_ n5_; (try clear hb); (try clear hb2); (try clear hk); (try clear hi); (try clear ho0); (try clear ho1); obtain ⟨Ao36, co36, eo36⟩ := Kd.R_slice HO241.out; subst eo36; have hnb37 := NB236_235.out; have hnc37 := NB235_236.out; have hcz38_0 : w35.cell? ⟨gb236, 0, none⟩ = some (.slice none 0 0) := (blk_cell BK236.out 0).trans rfl; have hcz38_1 : w35.cell? ⟨gb236, 1, none⟩ = some (.slice none 0 0) := (blk_cell BK236.out 1).trans rfl; have hcz38_2 : w35.cell? ⟨gb236, 2, none⟩ = some (.int .i64 0) := (blk_cell BK236.out 2).trans rfl; have hfz38_0 := blk_frozen BK236.out 0; have hfz38_1 := blk_frozen BK236.out 1; have hfz38_2 := blk_frozen BK236.out 2; obtain ⟨Ao39, co39, eo39⟩ := Kd.R_slice HO244.out; subst eo39))
    repeat (go_quiet (fail); try go_wp2_with (first | (go_at_call 46; (with_reducible refine (impl_storeAsWas.calls kj2 _ _ l0_0 _ _ l0_1 a0_2 t239 t242 t245 _ ?side1 ?side2 ?side3 ?side4 A31.out).mono ?_); (case side1 => exact KD (Kd.C_below HR0_0.out HB.out)); (case side2 => exact HC0_0.out); (case side3 => exact KD (Kd.C_below HR0_1.out HB.out)); (case side4 => exact HC0_1.out); rintro e w35 ⟨v240, v243, rfl, ho0, ho1, hb⟩; have n0_ := Aside0.mk (Kd.R_lower (Kd.R_newB ho0 (g := gb235) (o := .cells #[.int .i64 a1_0, .int .i64 a1_1, .bool a1_2, .string a1_3] 35 (0, 0)) KK) (below_size KB)); have n1_ := Aside0.mk (Kd.R_lower (Kd.R_newB ho1 (g := gb235) (o := .cells #[.int .i64 a1_0, .int .i64 a1_1, .bool a1_2, .string a1_3] 35 (0, 0)) KK) (below_size KB)); have n2_ := Aside0.mk (blk_below (g := gb234) (o := .cells #[.slice A0_0 l0_0.length c0_0, .slice A0_1 l0_1.length c0_1, .int .i64 a0_2] 31 (0, 0)) KK hb); have n3_ := Aside0.mk (blk_below (g := gb235) (o := .cells #[.int .i64 a1_0, .int .i64 a1_1, .bool a1_2, .string a1_3] 35 (0, 0)) KK hb); have n4_ := Aside0.mk (blk_below (g := gb236) (o := .cells #[.slice none 0 0, .slice none 0 0, .int .i64 0] 31 (0, 0)) KK hb); have n5_ := Aside0.mk (below_step KB hb); clear BK234; clear BK235; clear BK236; clear HB; have HO241 := n0_; have HO244 := n1_; have BK234 := n2_; have BK235 := n3_; have BK236 := n4_; have HB := n5_; clear n0_ n1_ n2_ n3_ n4_ n5_; (try clear hb); (try clear hb2); (try clear hk); (try clear hi); (try clear ho0); (try clear ho1); obtain ⟨Ao36, co36, eo36⟩ := Kd.R_slice HO241.out; subst eo36; have hnb37 := NB236_235.out; have hnc37 := NB235_236.out; have hcz38_0 : w35.cell? ⟨gb236, 0, none⟩ = some (.slice none 0 0) := (blk_cell BK236.out 0).trans rfl; have hcz38_1 : w35.cell? ⟨gb236, 1, none⟩ = some (.slice none 0 0) := (blk_cell BK236.out 1).trans rfl; have hcz38_2 : w35.cell? ⟨gb236, 2, none⟩ = some (.int .i64 0) := (blk_cell BK236.out 2).trans rfl; have hfz38_0 := blk_frozen BK236.out 0; have hfz38_1 := blk_frozen BK236.out 1; have hfz38_2 := blk_frozen BK236.out 2; obtain ⟨Ao39, co39, eo39⟩ := Kd.R_slice HO244.out; subst eo39)))
    refine bodyPost_ret (results_ct rfl _ _ gb236 31 #[.slice Ao36 t239.length co36, .slice Ao39 t242.length co39, .int .i64 t245] (0, 0) _ rfl (by (with_reducible repeat (first | refine blk_drewN ?_ _ | refine blk_drew ?_ | refine blk_alloc ?_ _)); refine blk_put (cs := #[.slice Ao36 t239.length co36, .slice Ao39 t242.length co39, .int .i64 0]) ?_ 2 _ rfl; (with_reducible repeat (first | refine blk_drewN ?_ _ | refine blk_drew ?_ | refine blk_alloc ?_ _)); refine blk_put (cs := #[.slice Ao36 t239.length co36, .slice none 0 0, .int .i64 0]) ?_ 1 _ rfl; (with_reducible repeat (first | refine blk_drewN ?_ _ | refine blk_drew ?_ | refine blk_alloc ?_ _)); refine blk_put (cs := #[.slice none 0 0, .slice none 0 0, .int .i64 0]) ?_ 0 _ rfl; (with_reducible repeat (first | refine blk_drewN ?_ _ | refine blk_drew ?_ | refine blk_alloc ?_ _)); exact BK236.out) Try.underlying31 rfl (by kernel_rfl)) rfl ?_
    exact ⟨_, _, KE, by (with_reducible repeat (first | apply Kd.R_alloc | apply Kd.R_drewN | apply Kd.R_drew)); exact Kd.R_mono (Kd.R_far (p := ⟨gb236, 2, none⟩) (Kd.R_far (p := ⟨gb236, 1, none⟩) (Kd.R_far (p := ⟨gb236, 0, none⟩) (Kd.R_types HO241.out BK236.out (by decide)) (fun _ hk => hk.2) (.slice Ao36 t239.length co36)) (fun _ hk => hk.2) (.slice Ao39 t242.length co39)) (fun _ hk => hk.2) (.int .i64 t245)) (fun _ hk => hk.1.1), by (with_reducible repeat (first | apply Kd.R_alloc | apply Kd.R_drewN | apply Kd.R_drew)); exact Kd.R_mono (Kd.R_far (p := ⟨gb236, 2, none⟩) (Kd.R_far (p := ⟨gb236, 1, none⟩) (Kd.R_far (p := ⟨gb236, 0, none⟩) (Kd.R_types HO244.out BK236.out (by decide)) (fun _ hk => hk.2) (.slice Ao36 t239.length co36)) (fun _ hk => hk.2) (.slice Ao39 t242.length co39)) (fun _ hk => hk.2) (.int .i64 t245)) (fun _ hk => hk.1.1), KB⟩
   ·replace c30 := Bool.eq_false_iff.mpr c30
    subst c30
    have H1 : (if a1_1 = 0 then ((impl_EpochOf.f a1_0).bind fun t246 => (if t246 ≤ a0_2 then (impl_StorePut.j1 kj2 true l0_0 l0_1 a0_2 a1_0 a1_1 a1_2 a1_3) else (if a1_1 > 0 then (impl_StorePut.j1 kj2 (decide (a1_1 ≤ a0_2)) l0_0 l0_1 a0_2 a1_0 a1_1 a1_2 a1_3) else (impl_StorePut.j1 kj2 false l0_0 l0_1 a0_2 a1_0 a1_1 a1_2 a1_3)))) else (if a1_1 > 0 then (impl_StorePut.j1 kj2 (decide (a1_1 ≤ a0_2)) l0_0 l0_1 a0_2 a1_0 a1_1 a1_2 a1_3) else (impl_StorePut.j1 kj2 false l0_0 l0_1 a0_2 a1_0 a1_1 a1_2 a1_3))) = some (r1, r2, r3, r4) := by rw [if_neg (show ¬ (false = true) by decide)] at H; exact H
    clear H
    have H := H1
    clear H1
    have HC40 := Aside0.mk H
    clear H
    go_upto_region 3 with (fail)
    repeat (go_quiet (fail); go_upto_region 3 with (fail))
    go_cut [45] (fun v45 wc => ∃ (kq : Nat) (x45_39 : Bool), v45 = .bool x45_39 ∧ Aside0 (impl_StorePut.j1 kq x45_39 l0_0 l0_1 a0_2 a1_0 a1_1 a1_2 a1_3 = some (r1, r2, r3, r4)) ∧ Aside0 (kq ≤ kj2) ∧ Aside0 (wc.heap[gb234]? = some (.cells #[(.slice A0_0 l0_0.length c0_0), (.slice A0_1 l0_1.length c0_1), .int .i64 a0_2] 31 (0, 0))) ∧ Aside0 (wc.heap[gb235]? = some (.cells #[.int .i64 a1_0, .int .i64 a1_1, .bool a1_2, .string a1_3] 35 (0, 0))) ∧ Aside0 (wc.heap[gb236]? = some (.cells #[(.slice none 0 0), (.slice none 0 0), .int .i64 0] 31 (0, 0))) ∧ Aside0 (Below w.heap.size w wc))
    case first =>
     have H := HC40.out
     clear HC40
     by_cases c41 : a1_1 = 0
     ·rw [if_pos c41] at H
      have c41b0 : (a1_1 == 0) = true := beq_iff_eq.mpr c41
      have c41b1 : (a1_1 != 0) = false := bne_eq_false_iff_eq.mpr c41
      clear c41
      (first | rw [c41b0] | (simp only [i64_w, i32_w]; rw [c41b0]) | skip)
      replace H := Option.bind_eq_some_iff.mp H
      obtain ⟨t246, A420, H⟩ := H
      replace H : (if t246 ≤ a0_2 then (impl_StorePut.j1 kj2 true l0_0 l0_1 a0_2 a1_0 a1_1 a1_2 a1_3) else (if a1_1 > 0 then (impl_StorePut.j1 kj2 (decide (a1_1 ≤ a0_2)) l0_0 l0_1 a0_2 a1_0 a1_1 a1_2 a1_3) else (impl_StorePut.j1 kj2 false l0_0 l0_1 a0_2 a1_0 a1_1 a1_2 a1_3))) = some (r1, r2, r3, r4) := H
      have A42 := Aside0.mk A420
      clear A420
      by_cases c43 : t246 ≤ a0_2
      ·rw [if_pos c43] at H
       have c43b0 : decide (t246 ≤ a0_2) = true := decide_eq_true c43
       clear c43
       have H' := Aside0.mk H
       clear H
       have hnb44 := NB235_234.out
       have hnc44 := NB234_235.out
       have hnb45 := NB235_236.out
       have hnc45 := NB236_235.out
       have hcz46_0 : wc.cell? ⟨gb235, 0, none⟩ = some (.int .i64 a1_0) := (blk_cell BK235.out 0).trans rfl
       have hcz46_1 : wc.cell? ⟨gb235, 1, none⟩ = some (.int .i64 a1_1) := (blk_cell BK235.out 1).trans rfl
       have hcz46_2 : wc.cell? ⟨gb235, 2, none⟩ = some (.bool a1_2) := (blk_cell BK235.out 2).trans rfl
       have hcz46_3 : wc.cell? ⟨gb235, 3, none⟩ = some (.string a1_3) := (blk_cell BK235.out 3).trans rfl
       have hfz46_0 := blk_frozen BK235.out 0
       have hfz46_1 := blk_frozen BK235.out 1
       have hfz46_2 := blk_frozen BK235.out 2
       have hfz46_3 := blk_frozen BK235.out 3
       have hnb47 := NB234_236.out
       have hnc47 := NB236_234.out
       have hcz48_0 : wc.cell? ⟨gb234, 0, none⟩ = some (.slice A0_0 l0_0.length c0_0) := (blk_cell BK234.out 0).trans rfl
       have hcz48_1 : wc.cell? ⟨gb234, 1, none⟩ = some (.slice A0_1 l0_1.length c0_1) := (blk_cell BK234.out 1).trans rfl
       have hcz48_2 : wc.cell? ⟨gb234, 2, none⟩ = some (.int .i64 a0_2) := (blk_cell BK234.out 2).trans rfl
       have hfz48_0 := blk_frozen BK234.out 0
       have hfz48_1 := blk_frozen BK234.out 1
       have hfz48_2 := blk_frozen BK234.out 2
       go_wp2_with (first | (go_at_call 26; (with_reducible refine (impl_EpochOf.calls a1_0 t246 _ A42.out).mono ?_); rintro e w' ⟨rfl, ⟨nd, rfl⟩⟩; (try exact KT)))
       repeat (go_quiet (first | (go_at_call 26; (with_reducible refine (impl_EpochOf.calls a1_0 t246 _ A42.out).mono ?_); rintro e w' ⟨rfl, ⟨nd, rfl⟩⟩; (try exact KT))); try go_wp2_with (first | (go_at_call 26; (with_reducible refine (impl_EpochOf.calls a1_0 t246 _ A42.out).mono ?_); rintro e w' ⟨rfl, ⟨nd, rfl⟩⟩; (try exact KT))))
       go_meet
       case rel => exact ⟨_, (true), (by first | rfl | (simp; done) | (simp [*]; done)), H', ⟨by have := HJ2.out; first | omega | exact Nat.le_refl _⟩, ⟨KK⟩, ⟨KK⟩, ⟨KK⟩, ⟨KB⟩⟩
      ·rw [if_neg c43] at H
       have c43b0 : decide (t246 ≤ a0_2) = false := decide_eq_false c43
       clear c43
       by_cases c49 : a1_1 > 0
       ·rw [if_pos c49] at H
        have c49b0 : decide (0 < a1_1) = true := decide_eq_true c49
        clear c49
        have H' := Aside0.mk H
        clear H
        have hnb50 := NB235_234.out
        have hnc50 := NB234_235.out
        have hnb51 := NB235_236.out
        have hnc51 := NB236_235.out
        have hcz52_0 : wc.cell? ⟨gb235, 0, none⟩ = some (.int .i64 a1_0) := (blk_cell BK235.out 0).trans rfl
        have hcz52_1 : wc.cell? ⟨gb235, 1, none⟩ = some (.int .i64 a1_1) := (blk_cell BK235.out 1).trans rfl
        have hcz52_2 : wc.cell? ⟨gb235, 2, none⟩ = some (.bool a1_2) := (blk_cell BK235.out 2).trans rfl
        have hcz52_3 : wc.cell? ⟨gb235, 3, none⟩ = some (.string a1_3) := (blk_cell BK235.out 3).trans rfl
        have hfz52_0 := blk_frozen BK235.out 0
        have hfz52_1 := blk_frozen BK235.out 1
        have hfz52_2 := blk_frozen BK235.out 2
        have hfz52_3 := blk_frozen BK235.out 3
        have hnb53 := NB234_236.out
        have hnc53 := NB236_234.out
        have hcz54_0 : wc.cell? ⟨gb234, 0, none⟩ = some (.slice A0_0 l0_0.length c0_0) := (blk_cell BK234.out 0).trans rfl
        have hcz54_1 : wc.cell? ⟨gb234, 1, none⟩ = some (.slice A0_1 l0_1.length c0_1) := (blk_cell BK234.out 1).trans rfl
        have hcz54_2 : wc.cell? ⟨gb234, 2, none⟩ = some (.int .i64 a0_2) := (blk_cell BK234.out 2).trans rfl
        have hfz54_0 := blk_frozen BK234.out 0
        have hfz54_1 := blk_frozen BK234.out 1
        have hfz54_2 := blk_frozen BK234.out 2
        go_wp2_with (first | (go_at_call 26; (with_reducible refine (impl_EpochOf.calls a1_0 t246 _ A42.out).mono ?_); rintro e w' ⟨rfl, ⟨nd, rfl⟩⟩; (try exact KT)))
        repeat (go_quiet (first | (go_at_call 26; (with_reducible refine (impl_EpochOf.calls a1_0 t246 _ A42.out).mono ?_); rintro e w' ⟨rfl, ⟨nd, rfl⟩⟩; (try exact KT))); try go_wp2_with (first | (go_at_call 26; (with_reducible refine (impl_EpochOf.calls a1_0 t246 _ A42.out).mono ?_); rintro e w' ⟨rfl, ⟨nd, rfl⟩⟩; (try exact KT))))
        go_meet
        case rel => exact ⟨_, (decide (a1_1 ≤ a0_2)), (by first | rfl | (simp; done) | (simp [*]; done)), H', ⟨by have := HJ2.out; first | omega | exact Nat.le_refl _⟩, ⟨KK⟩, ⟨KK⟩, ⟨KK⟩, ⟨KB⟩⟩
       ·rw [if_neg c49] at H
        have c49b0 : decide (0 < a1_1) = false := decide_eq_false c49
        clear c49
        have H' := Aside0.mk H
        clear H
        have hnb55 := NB235_234.out
        have hnc55 := NB234_235.out
        have hnb56 := NB235_236.out
        have hnc56 := NB236_235.out
        have hcz57_0 : wc.cell? ⟨gb235, 0, none⟩ = some (.int .i64 a1_0) := (blk_cell BK235.out 0).trans rfl
        have hcz57_1 : wc.cell? ⟨gb235, 1, none⟩ = some (.int .i64 a1_1) := (blk_cell BK235.out 1).trans rfl
        have hcz57_2 : wc.cell? ⟨gb235, 2, none⟩ = some (.bool a1_2) := (blk_cell BK235.out 2).trans rfl
        have hcz57_3 : wc.cell? ⟨gb235, 3, none⟩ = some (.string a1_3) := (blk_cell BK235.out 3).trans rfl
        have hfz57_0 := blk_frozen BK235.out 0
        have hfz57_1 := blk_frozen BK235.out 1
        have hfz57_2 := blk_frozen BK235.out 2
        have hfz57_3 := blk_frozen BK235.out 3
        have hnb58 := NB234_236.out
        have hnc58 := NB236_234.out
        have hcz59_0 : wc.cell? ⟨gb234, 0, none⟩ = some (.slice A0_0 l0_0.length c0_0) := (blk_cell BK234.out 0).trans rfl
        have hcz59_1 : wc.cell? ⟨gb234, 1, none⟩ = some (.slice A0_1 l0_1.length c0_1) := (blk_cell BK234.out 1).trans rfl
        have hcz59_2 : wc.cell? ⟨gb234, 2, none⟩ = some (.int .i64 a0_2) := (blk_cell BK234.out 2).trans rfl
        have hfz59_0 := blk_frozen BK234.out 0
        have hfz59_1 := blk_frozen BK234.out 1
        have hfz59_2 := blk_frozen BK234.out 2
        go_wp2_with (first | (go_at_call 26; (with_reducible refine (impl_EpochOf.calls a1_0 t246 _ A42.out).mono ?_); rintro e w' ⟨rfl, ⟨nd, rfl⟩⟩; (try exact KT)))
        repeat (go_quiet (first | (go_at_call 26; (with_reducible refine (impl_EpochOf.calls a1_0 t246 _ A42.out).mono ?_); rintro e w' ⟨rfl, ⟨nd, rfl⟩⟩; (try exact KT))); try go_wp2_with (first | (go_at_call 26; (with_reducible refine (impl_EpochOf.calls a1_0 t246 _ A42.out).mono ?_); rintro e w' ⟨rfl, ⟨nd, rfl⟩⟩; (try exact KT))))
        go_meet
        case rel => exact ⟨_, (false), (by first | rfl | (simp; done) | (simp [*]; done)), H', ⟨by have := HJ2.out; first | omega | exact Nat.le_refl _⟩, ⟨KK⟩, ⟨KK⟩, ⟨KK⟩, ⟨KB⟩⟩
     ·rw [if_neg c41] at H
      have c41b0 : (a1_1 == 0) = false := beq_eq_false_iff_ne.mpr c41
      have c41b1 : (a1_1 != 0) = true := bne_iff_ne.mpr c41
      (first | rw [c41b0] | (simp only [i64_w, i32_w]; rw [c41b0]) | skip)
      by_cases c60 : a1_1 > 0
      ·rw [if_pos c60] at H
       have c60b0 : decide (0 < a1_1) = true := decide_eq_true c60
       clear c60
       have H' := Aside0.mk H
       clear H
       have hnb61 := NB235_234.out
       have hnc61 := NB234_235.out
       have hnb62 := NB235_236.out
       have hnc62 := NB236_235.out
       have hcz63_0 : wc.cell? ⟨gb235, 0, none⟩ = some (.int .i64 a1_0) := (blk_cell BK235.out 0).trans rfl
       have hcz63_1 : wc.cell? ⟨gb235, 1, none⟩ = some (.int .i64 a1_1) := (blk_cell BK235.out 1).trans rfl
       have hcz63_2 : wc.cell? ⟨gb235, 2, none⟩ = some (.bool a1_2) := (blk_cell BK235.out 2).trans rfl
       have hcz63_3 : wc.cell? ⟨gb235, 3, none⟩ = some (.string a1_3) := (blk_cell BK235.out 3).trans rfl
       have hfz63_0 := blk_frozen BK235.out 0
       have hfz63_1 := blk_frozen BK235.out 1
       have hfz63_2 := blk_frozen BK235.out 2
       have hfz63_3 := blk_frozen BK235.out 3
       have hnb64 := NB234_236.out
       have hnc64 := NB236_234.out
       have hcz65_0 : wc.cell? ⟨gb234, 0, none⟩ = some (.slice A0_0 l0_0.length c0_0) := (blk_cell BK234.out 0).trans rfl
       have hcz65_1 : wc.cell? ⟨gb234, 1, none⟩ = some (.slice A0_1 l0_1.length c0_1) := (blk_cell BK234.out 1).trans rfl
       have hcz65_2 : wc.cell? ⟨gb234, 2, none⟩ = some (.int .i64 a0_2) := (blk_cell BK234.out 2).trans rfl
       have hfz65_0 := blk_frozen BK234.out 0
       have hfz65_1 := blk_frozen BK234.out 1
       have hfz65_2 := blk_frozen BK234.out 2
       go_wp2
       repeat (go_quiet (fail); try go_wp2)
       go_meet
       case rel => exact ⟨_, (decide (a1_1 ≤ a0_2)), (by first | rfl | (simp; done) | (simp [*]; done)), H', ⟨by have := HJ2.out; first | omega | exact Nat.le_refl _⟩, ⟨KK⟩, ⟨KK⟩, ⟨KK⟩, ⟨KB⟩⟩
      ·rw [if_neg c60] at H
       have c60b0 : decide (0 < a1_1) = false := decide_eq_false c60
       clear c60
       have H' := Aside0.mk H
       clear H
       have hnb66 := NB235_234.out
       have hnc66 := NB234_235.out
       have hnb67 := NB235_236.out
       have hnc67 := NB236_235.out
       have hcz68_0 : wc.cell? ⟨gb235, 0, none⟩ = some (.int .i64 a1_0) := (blk_cell BK235.out 0).trans rfl
       have hcz68_1 : wc.cell? ⟨gb235, 1, none⟩ = some (.int .i64 a1_1) := (blk_cell BK235.out 1).trans rfl
       have hcz68_2 : wc.cell? ⟨gb235, 2, none⟩ = some (.bool a1_2) := (blk_cell BK235.out 2).trans rfl
       have hcz68_3 : wc.cell? ⟨gb235, 3, none⟩ = some (.string a1_3) := (blk_cell BK235.out 3).trans rfl
       have hfz68_0 := blk_frozen BK235.out 0
       have hfz68_1 := blk_frozen BK235.out 1
       have hfz68_2 := blk_frozen BK235.out 2
       have hfz68_3 := blk_frozen BK235.out 3
       go_wp2
       repeat (go_quiet (fail); try go_wp2)
       go_meet
       case rel => exact ⟨_, (false), (by first | rfl | (simp; done) | (simp [*]; done)), H', ⟨by have := HJ2.out; first | omega | exact Nat.le_refl _⟩, ⟨KK⟩, ⟨KK⟩, ⟨KK⟩, ⟨KB⟩⟩
    case rest =>
     clear HC40
     try clear c1
     try clear c2
     try clear p2
     try clear c3
     try clear c4
     try clear c5
     try clear c6
     try clear c8
     try clear c10
     try clear c11
     try clear c12
     try clear c14
     try clear c15
     try clear c19
     try clear c20
     try clear c23
     try clear c26
     try clear c27
     try clear c30
     try clear c32
     try clear c33
     try clear c37
     try clear c41
     try clear c41b0
     try clear c41b1
     try clear c43
     try clear c43b0
     try clear c44
     try clear c45
     try clear c47
     try clear c49
     try clear c49b0
     try clear c50
     try clear c51
     try clear c53
     try clear c55
     try clear c56
     try clear c58
     try clear c60
     try clear c60b0
     try clear c61
     try clear c62
     try clear c64
     try clear c66
     try clear c67
     try clear hcz13_0
     try clear hcz13_1
     try clear hcz13_2
     try clear hcz16_0
     try clear hcz16_1
     try clear hcz16_2
     try clear hcz16_3
     try clear hcz18_0
     try clear hcz18_1
     try clear hcz18_2
     try clear hcz21_0
     try clear hcz21_1
     try clear hcz21_2
     try clear hcz24_0
     try clear hcz24_1
     try clear hcz24_2
     try clear hcz24_3
     try clear hcz28_0
     try clear hcz28_1
     try clear hcz28_2
     try clear hcz34_0
     try clear hcz34_1
     try clear hcz34_2
     try clear hcz38_0
     try clear hcz38_1
     try clear hcz38_2
     try clear hcz46_0
     try clear hcz46_1
     try clear hcz46_2
     try clear hcz46_3
     try clear hcz48_0
     try clear hcz48_1
     try clear hcz48_2
     try clear hcz52_0
     try clear hcz52_1
     try clear hcz52_2
     try clear hcz52_3
     try clear hcz54_0
     try clear hcz54_1
     try clear hcz54_2
     try clear hcz57_0
     try clear hcz57_1
     try clear hcz57_2
     try clear hcz57_3
     try clear hcz59_0
     try clear hcz59_1
     try clear hcz59_2
     try clear hcz63_0
     try clear hcz63_1
     try clear hcz63_2
     try clear hcz63_3
     try clear hcz65_0
     try clear hcz65_1
     try clear hcz65_2
     try clear hcz68_0
     try clear hcz68_1
     try clear hcz68_2
     try clear hcz68_3
     try clear hfz13_0
     try clear hfz13_1
     try clear hfz13_2
     try clear hfz16_0
     try clear hfz16_1
     try clear hfz16_2
     try clear hfz16_3
     try clear hfz18_0
     try clear hfz18_1
     try clear hfz18_2
     try clear hfz21_0
     try clear hfz21_1
     try clear hfz21_2
     try clear hfz24_0
     try clear hfz24_1
     try clear hfz24_2
     try clear hfz24_3
     try clear hfz28_0
     try clear hfz28_1
     try clear hfz28_2
     try clear hfz34_0
     try clear hfz34_1
     try clear hfz34_2
     try clear hfz38_0
     try clear hfz38_1
     try clear hfz38_2
     try clear hfz46_0
     try clear hfz46_1
     try clear hfz46_2
     try clear hfz46_3
     try clear hfz48_0
     try clear hfz48_1
     try clear hfz48_2
     try clear hfz52_0
     try clear hfz52_1
     try clear hfz52_2
     try clear hfz52_3
     try clear hfz54_0
     try clear hfz54_1
     try clear hfz54_2
     try clear hfz57_0
     try clear hfz57_1
     try clear hfz57_2
     try clear hfz57_3
     try clear hfz59_0
     try clear hfz59_1
     try clear hfz59_2
     try clear hfz63_0
     try clear hfz63_1
     try clear hfz63_2
     try clear hfz63_3
     try clear hfz65_0
     try clear hfz65_1
     try clear hfz65_2
     try clear hfz68_0
     try clear hfz68_1
     try clear hfz68_2
     try clear hfz68_3
     try clear p2
     obtain ⟨kq, x45_39, rfl, HA, HJ39, BK234, BK235, BK236, HB⟩ := hcut
     cases kq with
     | zero => exact absurd HA.out (by simp [impl_StorePut.j1])
     | succ kj39 =>
      have H := HA.out
      clear HA
      simp only [impl_StorePut.j1] at H
      by_cases c69 : x45_39 = true
      ·subst c69
       have H1 : ((impl_copyStore.f l0_0 l0_1 a0_2).bind fun bt247 => (some (bt247.1, bt247.2.1, bt247.2.2, false))) = some (r1, r2, r3, r4) := by rw [if_pos rfl] at H; exact H
       clear H
       have H := H1
       clear H1
       replace H := Option.bind_eq_some_iff.mp H
       obtain ⟨⟨t247, t250, t253⟩, A700, H⟩ := H
       replace H : (some (t247, t250, t253, false)) = some (r1, r2, r3, r4) := H
       have A70 := Aside0.mk A700
       clear A700
       simp only [Option.some.injEq, Prod.mk.injEq] at H
       obtain ⟨rfl, rfl, rfl, rfl⟩ := H
       have hnb71 := NB234_235.out
       have hnc71 := NB235_234.out
       have hnb72 := NB234_236.out
       have hnc72 := NB236_234.out
       have hcz73_0 : wc.cell? ⟨gb234, 0, none⟩ = some (.slice A0_0 l0_0.length c0_0) := (blk_cell BK234.out 0).trans rfl
       have hcz73_1 : wc.cell? ⟨gb234, 1, none⟩ = some (.slice A0_1 l0_1.length c0_1) := (blk_cell BK234.out 1).trans rfl
       have hcz73_2 : wc.cell? ⟨gb234, 2, none⟩ = some (.int .i64 a0_2) := (blk_cell BK234.out 2).trans rfl
       have hfz73_0 := blk_frozen BK234.out 0
       have hfz73_1 := blk_frozen BK234.out 1
       have hfz73_2 := blk_frozen BK234.out 2
       go_wp2_with (first | (go_at_call 47; (with_reducible refine (impl_copyStore.calls _ _ l0_0 _ _ l0_1 a0_2 t247 t250 t253 _ ?side1 ?side2 ?side3 ?side4 A70.out).mono ?_); (case side1 => exact KD (Kd.C_below HR0_0.out HB.out)); (case side2 => exact HC0_0.out); (case side3 => exact KD (Kd.C_below HR0_1.out HB.out)); (case side4 => exact HC0_1.out); rintro e w74 ⟨v248, v251, rfl, ho0, ho1, hb⟩; have n0_ := Aside0.mk (Kd.R_lower (Kd.R_newB ho0 (g := gb235) (o := .cells #[.int .i64 a1_0, .int .i64 a1_1, .bool a1_2, .string a1_3] 35 (0, 0)) KK) (below_size KB)); have n1_ := Aside0.mk (Kd.R_lower (Kd.R_newB ho1 (g := gb235) (o := .cells #[.int .i64 a1_0, .int .i64 a1_1, .bool a1_2, .string a1_3] 35 (0, 0)) KK) (below_size KB)); have n2_ := Aside0.mk (blk_below (g := gb234) (o := .cells #[.slice A0_0 l0_0.length c0_0, .slice A0_1 l0_1.length c0_1, .int .i64 a0_2] 31 (0, 0)) KK hb); have n3_ := Aside0.mk (blk_below (g := gb235) (o := .cells #[.int .i64 a1_0, .int .i64 a1_1, .bool a1_2, .string a1_3] 35 (0, 0)) KK hb); have n4_ := Aside0.mk (blk_below (g := gb236) (o := .cells #[.slice none 0 0, .slice none 0 0, .int .i64 0] 31 (0, 0)) KK hb); have n5_ := Aside0.mk (below_step KB hb); clear BK234; clear BK235; clear BK236; clear HB; have HO249 := n0_; have HO252 := n1_; have BK234 := n2_; have BK235 := n3_; have BK236 := n4_; have HB := n5_; clear n0_ n1_ n2_ n3_ n4_ n5_; (try clear hb); (try clear hb2); (try clear hk); (try clear hi); (try clear ho0); (try clear ho1); obtain ⟨Ao75, co75, eo75⟩ := Kd.R_slice HO249.out; subst eo75; have hnb76 := NB236_235.out; have hnc76 := NB235_236.out; have hcz77_0 : w74.cell? ⟨gb236, 0, none⟩ = some (.slice none 0 0) := (blk_cell BK236.out 0).trans rfl; have hcz77_1 : w74.cell? ⟨gb236, 1, none⟩ = some (.slice none 0 0) := (blk_cell BK236.out 1).trans rfl; have hcz77_2 : w74.cell? ⟨gb236, 2, none⟩ = some (.int .i64 0) := (blk_cell BK236.out 2).trans rfl; have hfz77_0 := blk_frozen BK236.out 0; have hfz77_1 := blk_frozen BK236.out 1; have hfz77_2 := blk_frozen BK236.out 2; obtain ⟨Ao78, co78, eo78⟩ := Kd.R_slice HO252.out; subst eo78))
       repeat (go_quiet (fail); try go_wp2_with (first | (go_at_call 47; (with_reducible refine (impl_copyStore.calls _ _ l0_0 _ _ l0_1 a0_2 t247 t250 t253 _ ?side1 ?side2 ?side3 ?side4 A70.out).mono ?_); (case side1 => exact KD (Kd.C_below HR0_0.out HB.out)); (case side2 => exact HC0_0.out); (case side3 => exact KD (Kd.C_below HR0_1.out HB.out)); (case side4 => exact HC0_1.out); rintro e w74 ⟨v248, v251, rfl, ho0, ho1, hb⟩; have n0_ := Aside0.mk (Kd.R_lower (Kd.R_newB ho0 (g := gb235) (o := .cells #[.int .i64 a1_0, .int .i64 a1_1, .bool a1_2, .string a1_3] 35 (0, 0)) KK) (below_size KB)); have n1_ := Aside0.mk (Kd.R_lower (Kd.R_newB ho1 (g := gb235) (o := .cells #[.int .i64 a1_0, .int .i64 a1_1, .bool a1_2, .string a1_3] 35 (0, 0)) KK) (below_size KB)); have n2_ := Aside0.mk (blk_below (g := gb234) (o := .cells #[.slice A0_0 l0_0.length c0_0, .slice A0_1 l0_1.length c0_1, .int .i64 a0_2] 31 (0, 0)) KK hb); have n3_ := Aside0.mk (blk_below (g := gb235) (o := .cells #[.int .i64 a1_0, .int .i64 a1_1, .bool a1_2, .string a1_3] 35 (0, 0)) KK hb); have n4_ := Aside0.mk (blk_below (g := gb236) (o := .cells #[.slice none 0 0, .slice none 0 0, .int .i64 0] 31 (0, 0)) KK hb); have n5_ := Aside0.mk (below_step KB hb); clear BK234; clear BK235; clear BK236; clear HB; have HO249 := n0_; have HO252 := n1_; have BK234 := n2_; have BK235 := n3_; have BK236 := n4_; have HB := n5_; clear n0_ n1_ n2_ n3_ n4_ n5_; (try clear hb); (try clear hb2); (try clear hk); (try clear hi); (try clear ho0); (try clear ho1); obtain ⟨Ao75, co75, eo75⟩ := Kd.R_slice HO249.out; subst eo75; have hnb76 := NB236_235.out; have hnc76 := NB235_236.out; have hcz77_0 : w74.cell? ⟨gb236, 0, none⟩ = some (.slice none 0 0) := (blk_cell BK236.out 0).trans rfl; have hcz77_1 : w74.cell? ⟨gb236, 1, none⟩ = some (.slice none 0 0) := (blk_cell BK236.out 1).trans rfl; have hcz77_2 : w74.cell? ⟨gb236, 2, none⟩ = some (.int .i64 0) := (blk_cell BK236.out 2).trans rfl; have hfz77_0 := blk_frozen BK236.out 0; have hfz77_1 := blk_frozen BK236.out 1; have hfz77_2 := blk_frozen BK236.out 2; obtain ⟨Ao78, co78, eo78⟩ := Kd.R_slice HO252.out; subst eo78)))
       refine bodyPost_ret (results_ct rfl _ _ gb236 31 #[.slice Ao75 t247.length co75, .slice Ao78 t250.length co78, .int .i64 t253] (0, 0) _ rfl (by (with_reducible repeat (first | refine blk_drewN ?_ _ | refine blk_drew ?_ | refine blk_alloc ?_ _)); refine blk_put (cs := #[.slice Ao75 t247.length co75, .slice Ao78 t250.length co78, .int .i64 0]) ?_ 2 _ rfl; (with_reducible repeat (first | refine blk_drewN ?_ _ | refine blk_drew ?_ | refine blk_alloc ?_ _)); refine blk_put (cs := #[.slice Ao75 t247.length co75, .slice none 0 0, .int .i64 0]) ?_ 1 _ rfl; (with_reducible repeat (first | refine blk_drewN ?_ _ | refine blk_drew ?_ | refine blk_alloc ?_ _)); refine blk_put (cs := #[.slice none 0 0, .slice none 0 0, .int .i64 0]) ?_ 0 _ rfl; (with_reducible repeat (first | refine blk_drewN ?_ _ | refine blk_drew ?_ | refine blk_alloc ?_ _)); exact BK236.out) Try.underlying31 rfl (by kernel_rfl)) rfl ?_
       exact ⟨_, _, KE, by (with_reducible repeat (first | apply Kd.R_alloc | apply Kd.R_drewN | apply Kd.R_drew)); exact Kd.R_mono (Kd.R_far (p := ⟨gb236, 2, none⟩) (Kd.R_far (p := ⟨gb236, 1, none⟩) (Kd.R_far (p := ⟨gb236, 0, none⟩) (Kd.R_types HO249.out BK236.out (by decide)) (fun _ hk => hk.2) (.slice Ao75 t247.length co75)) (fun _ hk => hk.2) (.slice Ao78 t250.length co78)) (fun _ hk => hk.2) (.int .i64 t253)) (fun _ hk => hk.1.1), by (with_reducible repeat (first | apply Kd.R_alloc | apply Kd.R_drewN | apply Kd.R_drew)); exact Kd.R_mono (Kd.R_far (p := ⟨gb236, 2, none⟩) (Kd.R_far (p := ⟨gb236, 1, none⟩) (Kd.R_far (p := ⟨gb236, 0, none⟩) (Kd.R_types HO252.out BK236.out (by decide)) (fun _ hk => hk.2) (.slice Ao75 t247.length co75)) (fun _ hk => hk.2) (.slice Ao78 t250.length co78)) (fun _ hk => hk.2) (.int .i64 t253)) (fun _ hk => hk.1.1), KB⟩
      ·replace c69 := Bool.eq_false_iff.mpr c69
       subst c69
       have H1 : ((impl_copyStore.f l0_0 l0_1 a0_2).bind fun bt254 => (if bt254.2.1.length < 3518437208883 then (some (bt254.1, (bt254.2.1 ++ [(⟨a1_0, a1_1, a1_2, a1_3⟩ : S35)]), bt254.2.2, true)) else (none))) = some (r1, r2, r3, r4) := by rw [if_neg (show ¬ (false = true) by decide)] at H; exact H
       clear H
       have H := H1
       clear H1
       replace H := Option.bind_eq_some_iff.mp H
       obtain ⟨⟨t254, t257, t260⟩, A790, H⟩ := H
       replace H : (if t257.length < 3518437208883 then (some (t254, (t257 ++ [(⟨a1_0, a1_1, a1_2, a1_3⟩ : S35)]), t260, true)) else (none)) = some (r1, r2, r3, r4) := H
       have A79 := Aside0.mk A790
       clear A790
       by_cases c80 : t257.length < 3518437208883
       ·rw [if_pos c80] at H
        have LMc80 := Aside0.mk c80
        clear c80
        obtain ⟨y262, hy262⟩ : ∃ y_ : List (S35), y_ = (t257 ++ [(⟨a1_0, a1_1, a1_2, a1_3⟩ : S35)]) := ⟨_, rfl⟩
        replace H : (some (t254, y262, t260, true)) = some (r1, r2, r3, r4) := by first | (rw [hy262]; with_reducible exact H) | (have H2_ := (Option.bind_some _ _).symm.trans H; rw [hy262]; with_reducible exact H2_) | (have H2_ := (Option.bind_some _ _).symm.trans H; with_reducible exact H2_) | with_reducible exact H | (rw [hy262]; exact H) | exact H
        have Ny262 := Aside0.mk hy262
        clear hy262
        simp only [Option.some.injEq, Prod.mk.injEq] at H
        obtain ⟨rfl, rfl, rfl, rfl⟩ := H
        have hnb81 := NB234_235.out
        have hnc81 := NB235_234.out
        have hnb82 := NB234_236.out
        have hnc82 := NB236_234.out
        have hcz83_0 : wc.cell? ⟨gb234, 0, none⟩ = some (.slice A0_0 l0_0.length c0_0) := (blk_cell BK234.out 0).trans rfl
        have hcz83_1 : wc.cell? ⟨gb234, 1, none⟩ = some (.slice A0_1 l0_1.length c0_1) := (blk_cell BK234.out 1).trans rfl
        have hcz83_2 : wc.cell? ⟨gb234, 2, none⟩ = some (.int .i64 a0_2) := (blk_cell BK234.out 2).trans rfl
        have hfz83_0 := blk_frozen BK234.out 0
        have hfz83_1 := blk_frozen BK234.out 1
        have hfz83_2 := blk_frozen BK234.out 2
        go_wp2_with (first | (go_at_call 47; (with_reducible refine (impl_copyStore.calls _ _ l0_0 _ _ l0_1 a0_2 t254 t257 t260 _ ?side1 ?side2 ?side3 ?side4 A79.out).mono ?_); (case side1 => exact KD (Kd.C_below HR0_0.out HB.out)); (case side2 => exact HC0_0.out); (case side3 => exact KD (Kd.C_below HR0_1.out HB.out)); (case side4 => exact HC0_1.out); rintro e w84 ⟨v255, v258, rfl, ho0, ho1, hb⟩; have n0_ := Aside0.mk (Kd.R_lower (Kd.R_newB ho0 (g := gb235) (o := .cells #[.int .i64 a1_0, .int .i64 a1_1, .bool a1_2, .string a1_3] 35 (0, 0)) KK) (below_size KB)); have n1_ := Aside0.mk (Kd.R_lower (Kd.R_newB ho1 (g := gb235) (o := .cells #[.int .i64 a1_0, .int .i64 a1_1, .bool a1_2, .string a1_3] 35 (0, 0)) KK) (below_size KB)); have n2_ := Aside0.mk (blk_below (g := gb234) (o := .cells #[.slice A0_0 l0_0.length c0_0, .slice A0_1 l0_1.length c0_1, .int .i64 a0_2] 31 (0, 0)) KK hb); have n3_ := Aside0.mk (blk_below (g := gb235) (o := .cells #[.int .i64 a1_0, .int .i64 a1_1, .bool a1_2, .string a1_3] 35 (0, 0)) KK hb); have n4_ := Aside0.mk (blk_below (g := gb236) (o := .cells #[.slice none 0 0, .slice none 0 0, .int .i64 0] 31 (0, 0)) KK hb); have n5_ := Aside0.mk (below_step KB hb); clear BK234; clear BK235; clear BK236; clear HB; have HO256 := n0_; have HO259 := n1_; have BK234 := n2_; have BK235 := n3_; have BK236 := n4_; have HB := n5_; clear n0_ n1_ n2_ n3_ n4_ n5_; (try clear hb); (try clear hb2); (try clear hk); (try clear hi); (try clear ho0); (try clear ho1)) | ((with_reducible refine gate_dst (N := 6) rfl ?_); (try (refine gate_guard (by rfl) ?_; dsimp only)); refine box_event ?hg (N := 6) ?hd (cs := #[.slice none 0 0, .slice none 0 0, .int .i64 0]) (t := 31) ?hr ?_; (case hd => rfl); (case hg => rfl); (case hr => first | (go_simp; done) | (go_simp; rfl)); intro gb261 hg w85 hbox hb; have n0_ := Aside0.mk (Kd.R_below (KR HO256.out) hb); have n1_ := Aside0.mk (Kd.R_below (KR HO259.out) hb); have n2_ := Aside0.mk (blk_below (g := gb234) (o := .cells #[.slice A0_0 l0_0.length c0_0, .slice A0_1 l0_1.length c0_1, .int .i64 a0_2] 31 (0, 0)) KK hb); have n3_ := Aside0.mk (blk_below (g := gb235) (o := .cells #[.int .i64 a1_0, .int .i64 a1_1, .bool a1_2, .string a1_3] 35 (0, 0)) KK hb); have n4_ := Aside0.mk (blk_below (g := gb236) (o := .cells #[.slice none 0 0, .slice none 0 0, .int .i64 0] 31 (0, 0)) KK hb); have n5_ := Aside0.mk (below_step KB hb); have n6_ := Aside0.mk (hbox); have n7_ := Aside0.mk ((KG hg : w.heap.size ≤ gb261)); have n8_ := Aside0.mk ((KG hg : w.heap.size ≤ gb261)); have n9_ := Aside0.mk ((by rw [hg]; exact Nat.ne_of_lt (blk_lt (g := gb234) (o := .cells #[.slice A0_0 l0_0.length c0_0, .slice A0_1 l0_1.length c0_1, .int .i64 a0_2] 31 (0, 0)) KK) : gb234 ≠ gb261)); have n10_ := Aside0.mk ((by rw [hg]; exact Nat.ne_of_gt (blk_lt (g := gb234) (o := .cells #[.slice A0_0 l0_0.length c0_0, .slice A0_1 l0_1.length c0_1, .int .i64 a0_2] 31 (0, 0)) KK) : gb261 ≠ gb234)); have n11_ := Aside0.mk ((by rw [hg]; exact Nat.ne_of_lt (blk_lt (g := gb235) (o := .cells #[.int .i64 a1_0, .int .i64 a1_1, .bool a1_2, .string a1_3] 35 (0, 0)) KK) : gb235 ≠ gb261)); have n12_ := Aside0.mk ((by rw [hg]; exact Nat.ne_of_gt (blk_lt (g := gb235) (o := .cells #[.int .i64 a1_0, .int .i64 a1_1, .bool a1_2, .string a1_3] 35 (0, 0)) KK) : gb261 ≠ gb235)); have n13_ := Aside0.mk ((by rw [hg]; exact Nat.ne_of_lt (blk_lt (g := gb236) (o := .cells #[.slice none 0 0, .slice none 0 0, .int .i64 0] 31 (0, 0)) KK) : gb236 ≠ gb261)); have n14_ := Aside0.mk ((by rw [hg]; exact Nat.ne_of_gt (blk_lt (g := gb236) (o := .cells #[.slice none 0 0, .slice none 0 0, .int .i64 0] 31 (0, 0)) KK) : gb261 ≠ gb236)); clear HO256; clear HO259; clear BK234; clear BK235; clear BK236; clear HB; have HO256 := n0_; have HO259 := n1_; have BK234 := n2_; have BK235 := n3_; have BK236 := n4_; have HB := n5_; have BK261 := n6_; have GW261 := n7_; have GE261 := n8_; have NB234_261 := n9_; have NB261_234 := n10_; have NB235_261 := n11_; have NB261_235 := n12_; have NB236_261 := n13_; have NB261_236 := n14_; clear n0_ n1_ n2_ n3_ n4_ n5_ n6_ n7_ n8_ n9_ n10_ n11_ n12_ n13_ n14_; clear hb hbox hg; obtain ⟨Ao86, co86, eo86⟩ := Kd.R_slice HO256.out; subst eo86; have hnb87 := NB261_234.out; have hnc87 := NB234_261.out; have hnb88 := NB261_235.out; have hnc88 := NB235_261.out; have hnb89 := NB261_236.out; have hnc89 := NB236_261.out; have hcz90_0 : w85.cell? ⟨gb261, 0, none⟩ = some (.slice none 0 0) := (blk_cell BK261.out 0).trans rfl; have hcz90_1 : w85.cell? ⟨gb261, 1, none⟩ = some (.slice none 0 0) := (blk_cell BK261.out 1).trans rfl; have hcz90_2 : w85.cell? ⟨gb261, 2, none⟩ = some (.int .i64 0) := (blk_cell BK261.out 2).trans rfl; have hfz90_0 := blk_frozen BK261.out 0; have hfz90_1 := blk_frozen BK261.out 1; have hfz90_2 := blk_frozen BK261.out 2; obtain ⟨Ao91, co91, eo91⟩ := Kd.R_slice HO259.out; subst eo91; have hnb92 := NB235_236.out; have hnc92 := NB236_235.out; have hcz93_0 : w85.cell? ⟨gb235, 0, none⟩ = some (.int .i64 a1_0) := (blk_cell BK235.out 0).trans rfl; have hcz93_1 : w85.cell? ⟨gb235, 1, none⟩ = some (.int .i64 a1_1) := (blk_cell BK235.out 1).trans rfl; have hcz93_2 : w85.cell? ⟨gb235, 2, none⟩ = some (.bool a1_2) := (blk_cell BK235.out 2).trans rfl; have hcz93_3 : w85.cell? ⟨gb235, 3, none⟩ = some (.string a1_3) := (blk_cell BK235.out 3).trans rfl; have hfz93_0 := blk_frozen BK235.out 0; have hfz93_1 := blk_frozen BK235.out 1; have hfz93_2 := blk_frozen BK235.out 2; have hfz93_3 := blk_frozen BK235.out 3) | ((with_reducible refine gate_builtin (b := .append) (xs := #[.tmp 51, .tmp 53]) rfl ?_); (try (refine gate_guard (by rfl) ?_; dsimp only)); at_builtin; refine Kd.R_append k35 (w0 := w) w.heap.size rfl (.tmp 51) (.tmp 53) 29 35 (.agg #[(.int .i64 0), (.int .i64 0), (.bool false), (.string ⟨#[]⟩)]) 40 rfl Try.underlying29 info35 rfl (by decide) (by omega) (.slice Ao91 t257.length co91) t257 (⟨a1_0, a1_1, a1_2, a1_3⟩ : S35) [.int .i64 a1_0, .int .i64 a1_1, .bool a1_2, .string a1_3] (fun k_ => some k_ ≠ (.slice Ao86 t254.length co86 : Value).ownBlock ∧ k_ ≠ gb235) (fun _ => False) rfl (by first | (go_simp; done) | (go_simp; rfl)) ?aP (fun _ hk => hk.elim) ?aF ?aO ?aB ?aS ?aL ?_; (case aP => exact k35_mkM _ _ _ (⟨a1_0, a1_1, a1_2, a1_3⟩ : S35)); (case aB => exact KB); (case aF => exact (fun k_ hk => ⟨Kd.fresh' (Kd.R_lt (by (with_reducible repeat (first | apply Kd.R_alloc | apply Kd.R_drewN | apply Kd.R_drew)); exact (Kd.R_mono (Kd.R_far (p := ⟨gb261, 2, none⟩) (Kd.R_far (p := ⟨gb261, 1, none⟩) (Kd.R_far (p := ⟨gb261, 0, none⟩) (Kd.R_types HO256.out BK261.out (by decide)) (fun _ hk => hk.2) (.slice Ao86 t254.length co86)) (fun _ hk => hk.2) (.slice Ao91 t257.length co91)) (fun _ hk => hk.2) (.int .i64 t260)) (fun _ h_ => h_.1)))) k_ hk, Kd.freshB (g := gb235) (o := .cells #[.int .i64 a1_0, .int .i64 a1_1, .bool a1_2, .string a1_3] 35 (0, 0)) KK k_ hk⟩)); (case aO => exact (by (with_reducible repeat (first | apply Kd.R_alloc | apply Kd.R_drewN | apply Kd.R_drew)); exact Kd.R_mono (Kd.R_far (p := ⟨gb261, 2, none⟩) (Kd.R_far (p := ⟨gb261, 1, none⟩) (Kd.R_far (p := ⟨gb261, 0, none⟩) (Kd.R_types HO259.out BK261.out (by decide)) (fun _ hk => hk.2) (.slice Ao86 t254.length co86)) (fun _ hk => hk.2) (.slice Ao91 t257.length co91)) (fun _ hk => hk.2) (.int .i64 t260)) (fun _ hk => ⟨hk.1.1, hk.1.2⟩))); (case aS => exact (below_size KB)); (case aL => have := LMc80.out; omega); intro v263 w94 ho hb hg hat; rw [← Ny262.out] at ho; have n0_ := Aside0.mk (blk_grown (g := gb234) (o := .cells #[.slice A0_0 l0_0.length c0_0, .slice A0_1 l0_1.length c0_1, .int .i64 a0_2] 31 (0, 0)) KK hg (Kd.R_ne HO259.out BK234.out (by decide))); have n1_ := Aside0.mk (blk_grown (g := gb235) (o := .cells #[.int .i64 a1_0, .int .i64 a1_1, .bool a1_2, .string a1_3] 35 (0, 0)) KK hg (Kd.R_away HO259.out (fun _ hk => hk.2))); have n2_ := Aside0.mk (blk_grown (g := gb236) (o := .cells #[.slice none 0 0, .slice none 0 0, .int .i64 0] 31 (0, 0)) KK hg (Kd.R_ne HO259.out BK236.out (by decide))); have n3_ := Aside0.mk (Kd.R_after (ok := (fun k_ => k_ ≠ gb235)) (by (with_reducible repeat (first | apply Kd.R_alloc | apply Kd.R_drewN | apply Kd.R_drew)); exact Kd.R_mono (Kd.R_far (p := ⟨gb261, 2, none⟩) (Kd.R_far (p := ⟨gb261, 1, none⟩) (Kd.R_far (p := ⟨gb261, 0, none⟩) (Kd.R_types HO256.out BK261.out (by decide)) (fun _ hk => hk.2) (.slice Ao86 t254.length co86)) (fun _ hk => hk.2) (.slice Ao91 t257.length co91)) (fun _ hk => hk.2) (.int .i64 t260)) (fun _ hk => ⟨hk.1.2, hk.1.1⟩)) hg hat); have n4_ := Aside0.mk (blk_grown (g := gb261) (o := .cells #[.slice Ao86 t254.length co86, .slice Ao91 t257.length co91, .int .i64 t260] 31 (0, 0)) (by (with_reducible repeat (first | refine blk_drewN ?_ _ | refine blk_drew ?_ | refine blk_alloc ?_ _)); refine blk_put (cs := #[.slice Ao86 t254.length co86, .slice Ao91 t257.length co91, .int .i64 0]) ?_ 2 _ rfl; (with_reducible repeat (first | refine blk_drewN ?_ _ | refine blk_drew ?_ | refine blk_alloc ?_ _)); refine blk_put (cs := #[.slice Ao86 t254.length co86, .slice none 0 0, .int .i64 0]) ?_ 1 _ rfl; (with_reducible repeat (first | refine blk_drewN ?_ _ | refine blk_drew ?_ | refine blk_alloc ?_ _)); refine blk_put (cs := #[.slice none 0 0, .slice none 0 0, .int .i64 0]) ?_ 0 _ rfl; (with_reducible repeat (first | refine blk_drewN ?_ _ | refine blk_drew ?_ | refine blk_alloc ?_ _)); exact BK261.out) hg (Kd.R_ne HO259.out BK261.out (by decide))); have n5_ := Aside0.mk (hb); have n6_ := Aside0.mk (ho); clear BK234; clear BK235; clear BK236; clear HO256; clear BK261; clear HB; clear HO259; have BK234 := n0_; have BK235 := n1_; have BK236 := n2_; have HO256 := n3_; have BK261 := n4_; have HB := n5_; have HO264 := n6_; clear n0_ n1_ n2_ n3_ n4_ n5_ n6_; clear ho hb hg hat; obtain ⟨Ao95, co95, eo95⟩ := Kd.R_slice HO264.out; subst eo95; have hcz96_0 : w94.cell? ⟨gb261, 0, none⟩ = some (.slice Ao86 t254.length co86) := (blk_cell BK261.out 0).trans rfl; have hcz96_1 : w94.cell? ⟨gb261, 1, none⟩ = some (.slice Ao91 t257.length co91) := (blk_cell BK261.out 1).trans rfl; have hcz96_2 : w94.cell? ⟨gb261, 2, none⟩ = some (.int .i64 t260) := (blk_cell BK261.out 2).trans rfl; have hfz96_0 := blk_frozen BK261.out 0; have hfz96_1 := blk_frozen BK261.out 1; have hfz96_2 := blk_frozen BK261.out 2; have hcz97_0 : w94.cell? ⟨gb236, 0, none⟩ = some (.slice none 0 0) := (blk_cell BK236.out 0).trans rfl; have hcz97_1 : w94.cell? ⟨gb236, 1, none⟩ = some (.slice none 0 0) := (blk_cell BK236.out 1).trans rfl; have hcz97_2 : w94.cell? ⟨gb236, 2, none⟩ = some (.int .i64 0) := (blk_cell BK236.out 2).trans rfl; have hfz97_0 := blk_frozen BK236.out 0; have hfz97_1 := blk_frozen BK236.out 1; have hfz97_2 := blk_frozen BK236.out 2))
        repeat (go_quiet (fail); try go_wp2_with (first | (go_at_call 47; (with_reducible refine (impl_copyStore.calls _ _ l0_0 _ _ l0_1 a0_2 t254 t257 t260 _ ?side1 ?side2 ?side3 ?side4 A79.out).mono ?_); (case side1 => exact KD (Kd.C_below HR0_0.out HB.out)); (case side2 => exact HC0_0.out); (case side3 => exact KD (Kd.C_below HR0_1.out HB.out)); (case side4 => exact HC0_1.out); rintro e w84 ⟨v255, v258, rfl, ho0, ho1, hb⟩; have n0_ := Aside0.mk (Kd.R_lower (Kd.R_newB ho0 (g := gb235) (o := .cells #[.int .i64 a1_0, .int .i64 a1_1, .bool a1_2, .string a1_3] 35 (0, 0)) KK) (below_size KB)); have n1_ := Aside0.mk (Kd.R_lower (Kd.R_newB ho1 (g := gb235) (o := .cells #[.int .i64 a1_0, .int .i64 a1_1, .bool a1_2, .string a1_3] 35 (0, 0)) KK) (below_size KB)); have n2_ := Aside0.mk (blk_below (g := gb234) (o := .cells #[.slice A0_0 l0_0.length c0_0, .slice A0_1 l0_1.length c0_1, .int .i64 a0_2] 31 (0, 0)) KK hb); have n3_ := Aside0.mk (blk_below (g := gb235) (o := .cells #[.int .i64 a1_0, .int .i64 a1_1, .bool a1_2, .string a1_3] 35 (0, 0)) KK hb); have n4_ := Aside0.mk (blk_below (g := gb236) (o := .cells #[.slice none 0 0, .slice none 0 0, .int .i64 0] 31 (0, 0)) KK hb); have n5_ := Aside0.mk (below_step KB hb); clear BK234; clear BK235; clear BK236; clear HB; have HO256 := n0_; have HO259 := n1_; have BK234 := n2_; have BK235 := n3_; have BK236 := n4_; have HB := n5_; clear n0_ n1_ n2_ n3_ n4_ n5_; (try clear hb); (try clear hb2); (try clear hk); (try clear hi); (try clear ho0); (try clear ho1)) | ((with_reducible refine gate_dst (N := 6) rfl ?_); (try (refine gate_guard (by rfl) ?_; dsimp only)); refine box_event ?hg (N := 6) ?hd (cs := #[.slice none 0 0, .slice none 0 0, .int .i64 0]) (t := 31) ?hr ?_; (case hd => rfl); (case hg => rfl); (case hr => first | (go_simp; done) | (go_simp; rfl)); intro gb261 hg w85 hbox hb; have n0_ := Aside0.mk (Kd.R_below (KR HO256.out) hb); have n1_ := Aside0.mk (Kd.R_below (KR HO259.out) hb); have n2_ := Aside0.mk (blk_below (g := gb234) (o := .cells #[.slice A0_0 l0_0.length c0_0, .slice A0_1 l0_1.length c0_1, .int .i64 a0_2] 31 (0, 0)) KK hb); have n3_ := Aside0.mk (blk_below (g := gb235) (o := .cells #[.int .i64 a1_0, .int .i64 a1_1, .bool a1_2, .string a1_3] 35 (0, 0)) KK hb); have n4_ := Aside0.mk (blk_below (g := gb236) (o := .cells #[.slice none 0 0, .slice none 0 0, .int .i64 0] 31 (0, 0)) KK hb); have n5_ := Aside0.mk (below_step KB hb); have n6_ := Aside0.mk (hbox); have n7_ := Aside0.mk ((KG hg : w.heap.size ≤ gb261)); have n8_ := Aside0.mk ((KG hg : w.heap.size ≤ gb261)); have n9_ := Aside0.mk ((by rw [hg]; exact Nat.ne_of_lt (blk_lt (g := gb234) (o := .cells #[.slice A0_0 l0_0.length c0_0, .slice A0_1 l0_1.length c0_1, .int .i64 a0_2] 31 (0, 0)) KK) : gb234 ≠ gb261)); have n10_ := Aside0.mk ((by rw [hg]; exact Nat.ne_of_gt (blk_lt (g := gb234) (o := .cells #[.slice A0_0 l0_0.length c0_0, .slice A0_1 l0_1.length c0_1, .int .i64 a0_2] 31 (0, 0)) KK) : gb261 ≠ gb234)); have n11_ := Aside0.mk ((by rw [hg]; exact Nat.ne_of_lt (blk_lt (g := gb235) (o := .cells #[.int .i64 a1_0, .int .i64 a1_1, .bool a1_2, .string a1_3] 35 (0, 0)) KK) : gb235 ≠ gb261)); have n12_ := Aside0.mk ((by rw [hg]; exact Nat.ne_of_gt (blk_lt (g := gb235) (o := .cells #[.int .i64 a1_0, .int .i64 a1_1, .bool a1_2, .string a1_3] 35 (0, 0)) KK) : gb261 ≠ gb235)); have n13_ := Aside0.mk ((by rw [hg]; exact Nat.ne_of_lt (blk_lt (g := gb236) (o := .cells #[.slice none 0 0, .slice none 0 0, .int .i64 0] 31 (0, 0)) KK) : gb236 ≠ gb261)); have n14_ := Aside0.mk ((by rw [hg]; exact Nat.ne_of_gt (blk_lt (g := gb236) (o := .cells #[.slice none 0 0, .slice none 0 0, .int .i64 0] 31 (0, 0)) KK) : gb261 ≠ gb236)); clear HO256; clear HO259; clear BK234; clear BK235; clear BK236; clear HB; have HO256 := n0_; have HO259 := n1_; have BK234 := n2_; have BK235 := n3_; have BK236 := n4_; have HB := n5_; have BK261 := n6_; have GW261 := n7_; have GE261 := n8_; have NB234_261 := n9_; have NB261_234 := n10_; have NB235_261 := n11_; have NB261_235 := n12_; have NB236_261 := n13_; have NB261_236 := n14_; clear n0_ n1_ n2_ n3_ n4_ n5_ n6_ n7_ n8_ n9_ n10_ n11_ n12_ n13_ n14_; clear hb hbox hg; obtain ⟨Ao86, co86, eo86⟩ := Kd.R_slice HO256.out; subst eo86; have hnb87 := NB261_234.out; have hnc87 := NB234_261.out; have hnb88 := NB261_235.out; have hnc88 := NB235_261.out; have hnb89 := NB261_236.out; have hnc89 := NB236_261.out; have hcz90_0 : w85.cell? ⟨gb261, 0, none⟩ = some (.slice none 0 0) := (blk_cell BK261.out 0).trans rfl; have hcz90_1 : w85.cell? ⟨gb261, 1, none⟩ = some (.slice none 0 0) := (blk_cell BK261.out 1).trans rfl; have hcz90_2 : w85.cell? ⟨gb261, 2, none⟩ = some (.int .i64 0) := (blk_cell BK261.out 2).trans rfl; have hfz90_0 := blk_frozen BK261.out 0; have hfz90_1 := blk_frozen BK261.out 1; have hfz90_2 := blk_frozen BK261.out 2; obtain ⟨Ao91, co91, eo91⟩ := Kd.R_slice HO259.out; subst eo91; have hnb92 := NB235_236.out; have hnc92 := NB236_235.out; have hcz93_0 : w85.cell? ⟨gb235, 0, none⟩ = some (.int .i64 a1_0) := (blk_cell BK235.out 0).trans rfl; have hcz93_1 : w85.cell? ⟨gb235, 1, none⟩ = some (.int .i64 a1_1) := (blk_cell BK235.out 1).trans rfl; have hcz93_2 : w85.cell? ⟨gb235, 2, none⟩ = some (.bool a1_2) := (blk_cell BK235.out 2).trans rfl; have hcz93_3 : w85.cell? ⟨gb235, 3, none⟩ = some (.string a1_3) := (blk_cell BK235.out 3).trans rfl; have hfz93_0 := blk_frozen BK235.out 0; have hfz93_1 := blk_frozen BK235.out 1; have hfz93_2 := blk_frozen BK235.out 2; have hfz93_3 := blk_frozen BK235.out 3) | ((with_reducible refine gate_builtin (b := .append) (xs := #[.tmp 51, .tmp 53]) rfl ?_); (try (refine gate_guard (by rfl) ?_; dsimp only)); at_builtin; refine Kd.R_append k35 (w0 := w) w.heap.size rfl (.tmp 51) (.tmp 53) 29 35 (.agg #[(.int .i64 0), (.int .i64 0), (.bool false), (.string ⟨#[]⟩)]) 40 rfl Try.underlying29 info35 rfl (by decide) (by omega) (.slice Ao91 t257.length co91) t257 (⟨a1_0, a1_1, a1_2, a1_3⟩ : S35) [.int .i64 a1_0, .int .i64 a1_1, .bool a1_2, .string a1_3] (fun k_ => some k_ ≠ (.slice Ao86 t254.length co86 : Value).ownBlock ∧ k_ ≠ gb235) (fun _ => False) rfl (by first | (go_simp; done) | (go_simp; rfl)) ?aP (fun _ hk => hk.elim) ?aF ?aO ?aB ?aS ?aL ?_; (case aP => exact k35_mkM _ _ _ (⟨a1_0, a1_1, a1_2, a1_3⟩ : S35)); (case aB => exact KB); (case aF => exact (fun k_ hk => ⟨Kd.fresh' (Kd.R_lt (by (with_reducible repeat (first | apply Kd.R_alloc | apply Kd.R_drewN | apply Kd.R_drew)); exact (Kd.R_mono (Kd.R_far (p := ⟨gb261, 2, none⟩) (Kd.R_far (p := ⟨gb261, 1, none⟩) (Kd.R_far (p := ⟨gb261, 0, none⟩) (Kd.R_types HO256.out BK261.out (by decide)) (fun _ hk => hk.2) (.slice Ao86 t254.length co86)) (fun _ hk => hk.2) (.slice Ao91 t257.length co91)) (fun _ hk => hk.2) (.int .i64 t260)) (fun _ h_ => h_.1)))) k_ hk, Kd.freshB (g := gb235) (o := .cells #[.int .i64 a1_0, .int .i64 a1_1, .bool a1_2, .string a1_3] 35 (0, 0)) KK k_ hk⟩)); (case aO => exact (by (with_reducible repeat (first | apply Kd.R_alloc | apply Kd.R_drewN | apply Kd.R_drew)); exact Kd.R_mono (Kd.R_far (p := ⟨gb261, 2, none⟩) (Kd.R_far (p := ⟨gb261, 1, none⟩) (Kd.R_far (p := ⟨gb261, 0, none⟩) (Kd.R_types HO259.out BK261.out (by decide)) (fun _ hk => hk.2) (.slice Ao86 t254.length co86)) (fun _ hk => hk.2) (.slice Ao91 t257.length co91)) (fun _ hk => hk.2) (.int .i64 t260)) (fun _ hk => ⟨hk.1.1, hk.1.2⟩))); (case aS => exact (below_size KB)); (case aL => have := LMc80.out; omega); intro v263 w94 ho hb hg hat; rw [← Ny262.out] at ho; have n0_ := Aside0.mk (blk_grown (g := gb234) (o := .cells #[.slice A0_0 l0_0.length c0_0, .slice A0_1 l0_1.length c0_1, .int .i64 a0_2] 31 (0, 0)) KK hg (Kd.R_ne HO259.out BK234.out (by decide))); have n1_ := Aside0.mk (blk_grown (g := gb235) (o := .cells #[.int .i64 a1_0, .int .i64 a1_1, .bool a1_2, .string a1_3] 35 (0, 0)) KK hg (Kd.R_away HO259.out (fun _ hk => hk.2))); have n2_ := Aside0.mk (blk_grown (g := gb236) (o := .cells #[.slice none 0 0, .slice none 0 0, .int .i64 0] 31 (0, 0)) KK hg (Kd.R_ne HO259.out BK236.out (by decide))); have n3_ := Aside0.mk (Kd.R_after (ok := (fun k_ => k_ ≠ gb235)) (by (with_reducible repeat (first | apply Kd.R_alloc | apply Kd.R_drewN | apply Kd.R_drew)); exact Kd.R_mono (Kd.R_far (p := ⟨gb261, 2, none⟩) (Kd.R_far (p := ⟨gb261, 1, none⟩) (Kd.R_far (p := ⟨gb261, 0, none⟩) (Kd.R_types HO256.out BK261.out (by decide)) (fun _ hk => hk.2) (.slice Ao86 t254.length co86)) (fun _ hk => hk.2) (.slice Ao91 t257.length co91)) (fun _ hk => hk.2) (.int .i64 t260)) (fun _ hk => ⟨hk.1.2, hk.1.1⟩)) hg hat); have n4_ := Aside0.mk (blk_grown (g := gb261) (o := .cells #[.slice Ao86 t254.length co86, .slice Ao91 t257.length co91, .int .i64 t260] 31 (0, 0)) (by (with_reducible repeat (first | refine blk_drewN ?_ _ | refine blk_drew ?_ | refine blk_alloc ?_ _)); refine blk_put (cs := #[.slice Ao86 t254.length co86, .slice Ao91 t257.length co91, .int .i64 0]) ?_ 2 _ rfl; (with_reducible repeat (first | refine blk_drewN ?_ _ | refine blk_drew ?_ | refine blk_alloc ?_ _)); refine blk_put (cs := #[.slice Ao86 t254.length co86, .slice none 0 0, .int .i64 0]) ?_ 1 _ rfl; (with_reducible repeat (first | refine blk_drewN ?_ _ | refine blk_drew ?_ | refine blk_alloc ?_ _)); refine blk_put (cs := #[.slice none 0 0, .slice none 0 0, .int .i64 0]) ?_ 0 _ rfl; (with_reducible repeat (first | refine blk_drewN ?_ _ | refine blk_drew ?_ | refine blk_alloc ?_ _)); exact BK261.out) hg (Kd.R_ne HO259.out BK261.out (by decide))); have n5_ := Aside0.mk (hb); have n6_ := Aside0.mk (ho); clear BK234; clear BK235; clear BK236; clear HO256; clear BK261; clear HB; clear HO259; have BK234 := n0_; have BK235 := n1_; have BK236 := n2_; have HO256 := n3_; have BK261 := n4_; have HB := n5_; have HO264 := n6_; clear n0_ n1_ n2_ n3_ n4_ n5_ n6_; clear ho hb hg hat; obtain ⟨Ao95, co95, eo95⟩ := Kd.R_slice HO264.out; subst eo95; have hcz96_0 : w94.cell? ⟨gb261, 0, none⟩ = some (.slice Ao86 t254.length co86) := (blk_cell BK261.out 0).trans rfl; have hcz96_1 : w94.cell? ⟨gb261, 1, none⟩ = some (.slice Ao91 t257.length co91) := (blk_cell BK261.out 1).trans rfl; have hcz96_2 : w94.cell? ⟨gb261, 2, none⟩ = some (.int .i64 t260) := (blk_cell BK261.out 2).trans rfl; have hfz96_0 := blk_frozen BK261.out 0; have hfz96_1 := blk_frozen BK261.out 1; have hfz96_2 := blk_frozen BK261.out 2; have hcz97_0 : w94.cell? ⟨gb236, 0, none⟩ = some (.slice none 0 0) := (blk_cell BK236.out 0).trans rfl; have hcz97_1 : w94.cell? ⟨gb236, 1, none⟩ = some (.slice none 0 0) := (blk_cell BK236.out 1).trans rfl; have hcz97_2 : w94.cell? ⟨gb236, 2, none⟩ = some (.int .i64 0) := (blk_cell BK236.out 2).trans rfl; have hfz97_0 := blk_frozen BK236.out 0; have hfz97_1 := blk_frozen BK236.out 1; have hfz97_2 := blk_frozen BK236.out 2)))
        refine bodyPost_ret (results_ct rfl _ _ gb236 31 #[.slice Ao86 t254.length co86, .slice Ao95 y262.length co95, .int .i64 t260] (0, 0) _ rfl (by (with_reducible repeat (first | refine blk_drewN ?_ _ | refine blk_drew ?_ | refine blk_alloc ?_ _)); refine blk_put (cs := #[.slice Ao86 t254.length co86, .slice Ao95 y262.length co95, .int .i64 0]) ?_ 2 _ rfl; (with_reducible repeat (first | refine blk_drewN ?_ _ | refine blk_drew ?_ | refine blk_alloc ?_ _)); refine blk_put (cs := #[.slice Ao86 t254.length co86, .slice none 0 0, .int .i64 0]) ?_ 1 _ rfl; (with_reducible repeat (first | refine blk_drewN ?_ _ | refine blk_drew ?_ | refine blk_alloc ?_ _)); refine blk_put (cs := #[.slice none 0 0, .slice none 0 0, .int .i64 0]) ?_ 0 _ rfl; (with_reducible repeat (first | refine blk_drewN ?_ _ | refine blk_drew ?_ | refine blk_alloc ?_ _)); refine blk_far ?_ NB236_261.out _; (with_reducible repeat (first | refine blk_drewN ?_ _ | refine blk_drew ?_ | refine blk_alloc ?_ _)); exact BK236.out) Try.underlying31 rfl (by kernel_rfl)) rfl ?_
        exact ⟨_, _, KE, by (with_reducible repeat (first | apply Kd.R_alloc | apply Kd.R_drewN | apply Kd.R_drew)); exact Kd.R_mono (Kd.R_far (p := ⟨gb236, 2, none⟩) (Kd.R_far (p := ⟨gb236, 1, none⟩) (Kd.R_far (p := ⟨gb236, 0, none⟩) (Kd.R_far (p := ⟨gb261, 1, none⟩) (Kd.R_types (Kd.R_types HO256.out BK261.out (by decide)) BK236.out (by decide)) (fun _ hk => hk.1.2) (.slice Ao95 y262.length co95)) (fun _ hk => hk.2) (.slice Ao86 t254.length co86)) (fun _ hk => hk.2) (.slice Ao95 y262.length co95)) (fun _ hk => hk.2) (.int .i64 t260)) (fun _ hk => hk.1.1.2), by (with_reducible repeat (first | apply Kd.R_alloc | apply Kd.R_drewN | apply Kd.R_drew)); exact Kd.R_mono (Kd.R_far (p := ⟨gb236, 2, none⟩) (Kd.R_far (p := ⟨gb236, 1, none⟩) (Kd.R_far (p := ⟨gb236, 0, none⟩) (Kd.R_far (p := ⟨gb261, 1, none⟩) (Kd.R_types (Kd.R_types HO264.out BK261.out (by decide)) BK236.out (by decide)) (fun _ hk => hk.1.2) (.slice Ao95 y262.length co95)) (fun _ hk => hk.2) (.slice Ao86 t254.length co86)) (fun _ hk => hk.2) (.slice Ao95 y262.length co95)) (fun _ hk => hk.2) (.int .i64 t260)) (fun _ hk => hk.1.1.1), KB⟩
       ·rw [if_neg c80] at H
        exact absurd H (by simp)

/-! ### laws_eqEntry: function 79 -/
def laws_eqEntry.f (a0_0 : Int) (a0_1 : Int) (a0_2 : Bool) (a0_3 : ByteArray) (a1_0 : Int) (a1_1 : Int) (a1_2 : Bool) (a1_3 : ByteArray) : Option (Bool) := if a0_0 = a1_0 then (if a0_1 = a1_1 then (if (a0_2 != a1_2) = true then (some false) else (if a0_3.toList = a1_3.toList then (some true) else (some false))) else (some false)) else (some false)
set_option maxHeartbeats 8000000 in
set_option maxRecDepth 100000 in
theorem laws_eqEntry.calls (a0_0 : Int) (a0_1 : Int) (a0_2 : Bool) (a0_3 : ByteArray) (a1_0 : Int) (a1_1 : Int) (a1_2 : Bool) (a1_3 : ByteArray) (r : Bool) (w : World) (h : laws_eqEntry.f a0_0 a0_1 a0_2 a0_3 a1_0 a1_1 a1_2 a1_3 = some r) :
  Calls Try.prog 79 #[.agg #[.int .i64 a0_0, .int .i64 a0_1, .bool a0_2, .string a0_3], .agg #[.int .i64 a1_0, .int .i64 a1_1, .bool a1_2, .string a1_3]] w fun e w' => e = .returned (.bool r) ∧ Below w.heap.size w w' := by
 have hu35 := Try.underlying35
 have HB := Aside0.mk (Below.refl w.heap.size w)
 have H : (if a0_0 = a1_0 then (if a0_1 = a1_1 then (if (a0_2 != a1_2) = true then (some false) else (if a0_3.toList = a1_3.toList then (some true) else (some false))) else (some false)) else (some false)) = some r := h
 clear h
 by_cases c3 : a0_0 = a1_0
 ·rw [if_pos c3] at H
  have c3b0 : (a0_0 == a1_0) = true := beq_iff_eq.mpr c3
  have c3b1 : (a0_0 != a1_0) = false := bne_eq_false_iff_eq.mpr c3
  clear c3
  by_cases c4 : a0_1 = a1_1
  ·rw [if_pos c4] at H
   have c4b0 : (a0_1 == a1_1) = true := beq_iff_eq.mpr c4
   have c4b1 : (a0_1 != a1_1) = false := bne_eq_false_iff_eq.mpr c4
   clear c4
   by_cases c5 : (a0_2 != a1_2) = true
   ·rw [if_pos c5] at H
    have c5b0 : (a0_2 != a1_2) = true := c5
    (try (have c5b1 : decide (a0_2 = a1_2) = false := by simpa using c5))
    (try (have c5b2 : (a0_2 == a1_2) = false := by simpa using c5))
    (try (have c5b3 : ¬ (a0_2 = a1_2) := by simpa using c5))
    clear c5
    obtain rfl := Option.some.inj H
    go_enter Try.func79, Try.ntmps79
    go_wp2_with (first | ((with_reducible refine gate_dst (N := 2) rfl ?_); refine box_event ?hg (N := 2) ?hd (cs := #[.int .i64 a0_0, .int .i64 a0_1, .bool a0_2, .string a0_3]) (t := 35) ?hr ?_; (case hd => rfl); (case hg => rfl); (case hr => first | (go_simp; done) | (go_simp; rfl)); intro gb265 hg w6 hbox hb; have n0_ := Aside0.mk (below_step KB hb); have n1_ := Aside0.mk (hbox); have n2_ := Aside0.mk ((KG hg : w.heap.size ≤ gb265)); have n3_ := Aside0.mk ((KG hg : w.heap.size ≤ gb265)); clear HB; have HB := n0_; have BK265 := n1_; have GW265 := n2_; have GE265 := n3_; clear n0_ n1_ n2_ n3_; clear hb hbox hg) | ((with_reducible refine gate_dst (N := 3) rfl ?_); refine box_event ?hg (N := 3) ?hd (cs := #[.int .i64 a1_0, .int .i64 a1_1, .bool a1_2, .string a1_3]) (t := 35) ?hr ?_; (case hd => rfl); (case hg => rfl); (case hr => first | (go_simp; done) | (go_simp; rfl)); intro gb266 hg w7 hbox hb; have n0_ := Aside0.mk (blk_below (g := gb265) (o := .cells #[.int .i64 a0_0, .int .i64 a0_1, .bool a0_2, .string a0_3] 35 (0, 0)) KK hb); have n1_ := Aside0.mk (below_step KB hb); have n2_ := Aside0.mk (hbox); have n3_ := Aside0.mk ((KG hg : w.heap.size ≤ gb266)); have n4_ := Aside0.mk ((KG hg : w.heap.size ≤ gb266)); have n5_ := Aside0.mk ((by rw [hg]; exact Nat.ne_of_lt (blk_lt (g := gb265) (o := .cells #[.int .i64 a0_0, .int .i64 a0_1, .bool a0_2, .string a0_3] 35 (0, 0)) KK) : gb265 ≠ gb266)); have n6_ := Aside0.mk ((by rw [hg]; exact Nat.ne_of_gt (blk_lt (g := gb265) (o := .cells #[.int .i64 a0_0, .int .i64 a0_1, .bool a0_2, .string a0_3] 35 (0, 0)) KK) : gb266 ≠ gb265)); clear BK265; clear HB; have BK265 := n0_; have HB := n1_; have BK266 := n2_; have GW266 := n3_; have GE266 := n4_; have NB265_266 := n5_; have NB266_265 := n6_; clear n0_ n1_ n2_ n3_ n4_ n5_ n6_; clear hb hbox hg; have hnb8 := NB265_266.out; have hnc8 := NB266_265.out; have hcz9_0 : w7.cell? ⟨gb265, 0, none⟩ = some (.int .i64 a0_0) := (blk_cell BK265.out 0).trans rfl; have hcz9_1 : w7.cell? ⟨gb265, 1, none⟩ = some (.int .i64 a0_1) := (blk_cell BK265.out 1).trans rfl; have hcz9_2 : w7.cell? ⟨gb265, 2, none⟩ = some (.bool a0_2) := (blk_cell BK265.out 2).trans rfl; have hcz9_3 : w7.cell? ⟨gb265, 3, none⟩ = some (.string a0_3) := (blk_cell BK265.out 3).trans rfl; have hfz9_0 := blk_frozen BK265.out 0; have hfz9_1 := blk_frozen BK265.out 1; have hfz9_2 := blk_frozen BK265.out 2; have hfz9_3 := blk_frozen BK265.out 3; have hcz10_0 : w7.cell? ⟨gb266, 0, none⟩ = some (.int .i64 a1_0) := (blk_cell BK266.out 0).trans rfl; have hcz10_1 : w7.cell? ⟨gb266, 1, none⟩ = some (.int .i64 a1_1) := (blk_cell BK266.out 1).trans rfl; have hcz10_2 : w7.cell? ⟨gb266, 2, none⟩ = some (.bool a1_2) := (blk_cell BK266.out 2).trans rfl; have hcz10_3 : w7.cell? ⟨gb266, 3, none⟩ = some (.string a1_3) := (blk_cell BK266.out 3).trans rfl; have hfz10_0 := blk_frozen BK266.out 0; have hfz10_1 := blk_frozen BK266.out 1; have hfz10_2 := blk_frozen BK266.out 2; have hfz10_3 := blk_frozen BK266.out 3))
    go_ret
    exact ⟨KE, KB⟩
   ·rw [if_neg c5] at H
    have c5b0 : (a0_2 != a1_2) = false := by simpa using c5
    (try (have c5b1 : decide (a0_2 = a1_2) = true := by simpa using c5))
    (try (have c5b2 : (a0_2 == a1_2) = true := by simpa using c5))
    clear c5
    by_cases c11 : a0_3.toList = a1_3.toList
    ·rw [if_pos c11] at H
     have c11b0 : (a0_3.toList == a1_3.toList) = true := beq_iff_eq.mpr c11
     have c11b1 : (a0_3.toList != a1_3.toList) = false := bne_eq_false_iff_eq.mpr c11
     clear c11
     obtain rfl := Option.some.inj H
     go_enter Try.func79, Try.ntmps79
     go_wp2_with (first | ((with_reducible refine gate_dst (N := 2) rfl ?_); refine box_event ?hg (N := 2) ?hd (cs := #[.int .i64 a0_0, .int .i64 a0_1, .bool a0_2, .string a0_3]) (t := 35) ?hr ?_; (case hd => rfl); (case hg => rfl); (case hr => first | (go_simp; done) | (go_simp; rfl)); intro gb265 hg w12 hbox hb; have n0_ := Aside0.mk (below_step KB hb); have n1_ := Aside0.mk (hbox); have n2_ := Aside0.mk ((KG hg : w.heap.size ≤ gb265)); have n3_ := Aside0.mk ((KG hg : w.heap.size ≤ gb265)); clear HB; have HB := n0_; have BK265 := n1_; have GW265 := n2_; have GE265 := n3_; clear n0_ n1_ n2_ n3_; clear hb hbox hg) | ((with_reducible refine gate_dst (N := 3) rfl ?_); refine box_event ?hg (N := 3) ?hd (cs := #[.int .i64 a1_0, .int .i64 a1_1, .bool a1_2, .string a1_3]) (t := 35) ?hr ?_; (case hd => rfl); (case hg => rfl); (case hr => first | (go_simp; done) | (go_simp; rfl)); intro gb266 hg w13 hbox hb; have n0_ := Aside0.mk (blk_below (g := gb265) (o := .cells #[.int .i64 a0_0, .int .i64 a0_1, .bool a0_2, .string a0_3] 35 (0, 0)) KK hb); have n1_ := Aside0.mk (below_step KB hb); have n2_ := Aside0.mk (hbox); have n3_ := Aside0.mk ((KG hg : w.heap.size ≤ gb266)); have n4_ := Aside0.mk ((KG hg : w.heap.size ≤ gb266)); have n5_ := Aside0.mk ((by rw [hg]; exact Nat.ne_of_lt (blk_lt (g := gb265) (o := .cells #[.int .i64 a0_0, .int .i64 a0_1, .bool a0_2, .string a0_3] 35 (0, 0)) KK) : gb265 ≠ gb266)); have n6_ := Aside0.mk ((by rw [hg]; exact Nat.ne_of_gt (blk_lt (g := gb265) (o := .cells #[.int .i64 a0_0, .int .i64 a0_1, .bool a0_2, .string a0_3] 35 (0, 0)) KK) : gb266 ≠ gb265)); clear BK265; clear HB; have BK265 := n0_; have HB := n1_; have BK266 := n2_; have GW266 := n3_; have GE266 := n4_; have NB265_266 := n5_; have NB266_265 := n6_; clear n0_ n1_ n2_ n3_ n4_ n5_ n6_; clear hb hbox hg; have hnb14 := NB265_266.out; have hnc14 := NB266_265.out; have hcz15_0 : w13.cell? ⟨gb265, 0, none⟩ = some (.int .i64 a0_0) := (blk_cell BK265.out 0).trans rfl; have hcz15_1 : w13.cell? ⟨gb265, 1, none⟩ = some (.int .i64 a0_1) := (blk_cell BK265.out 1).trans rfl; have hcz15_2 : w13.cell? ⟨gb265, 2, none⟩ = some (.bool a0_2) := (blk_cell BK265.out 2).trans rfl; have hcz15_3 : w13.cell? ⟨gb265, 3, none⟩ = some (.string a0_3) := (blk_cell BK265.out 3).trans rfl; have hfz15_0 := blk_frozen BK265.out 0; have hfz15_1 := blk_frozen BK265.out 1; have hfz15_2 := blk_frozen BK265.out 2; have hfz15_3 := blk_frozen BK265.out 3; have hcz16_0 : w13.cell? ⟨gb266, 0, none⟩ = some (.int .i64 a1_0) := (blk_cell BK266.out 0).trans rfl; have hcz16_1 : w13.cell? ⟨gb266, 1, none⟩ = some (.int .i64 a1_1) := (blk_cell BK266.out 1).trans rfl; have hcz16_2 : w13.cell? ⟨gb266, 2, none⟩ = some (.bool a1_2) := (blk_cell BK266.out 2).trans rfl; have hcz16_3 : w13.cell? ⟨gb266, 3, none⟩ = some (.string a1_3) := (blk_cell BK266.out 3).trans rfl; have hfz16_0 := blk_frozen BK266.out 0; have hfz16_1 := blk_frozen BK266.out 1; have hfz16_2 := blk_frozen BK266.out 2; have hfz16_3 := blk_frozen BK266.out 3))
     go_ret
     exact ⟨KE, KB⟩
    ·rw [if_neg c11] at H
     have c11b0 : (a0_3.toList == a1_3.toList) = false := beq_eq_false_iff_ne.mpr c11
     have c11b1 : (a0_3.toList != a1_3.toList) = true := bne_iff_ne.mpr c11
     obtain rfl := Option.some.inj H
     go_enter Try.func79, Try.ntmps79
     go_wp2_with (first | ((with_reducible refine gate_dst (N := 2) rfl ?_); refine box_event ?hg (N := 2) ?hd (cs := #[.int .i64 a0_0, .int .i64 a0_1, .bool a0_2, .string a0_3]) (t := 35) ?hr ?_; (case hd => rfl); (case hg => rfl); (case hr => first | (go_simp; done) | (go_simp; rfl)); intro gb265 hg w17 hbox hb; have n0_ := Aside0.mk (below_step KB hb); have n1_ := Aside0.mk (hbox); have n2_ := Aside0.mk ((KG hg : w.heap.size ≤ gb265)); have n3_ := Aside0.mk ((KG hg : w.heap.size ≤ gb265)); clear HB; have HB := n0_; have BK265 := n1_; have GW265 := n2_; have GE265 := n3_; clear n0_ n1_ n2_ n3_; clear hb hbox hg) | ((with_reducible refine gate_dst (N := 3) rfl ?_); refine box_event ?hg (N := 3) ?hd (cs := #[.int .i64 a1_0, .int .i64 a1_1, .bool a1_2, .string a1_3]) (t := 35) ?hr ?_; (case hd => rfl); (case hg => rfl); (case hr => first | (go_simp; done) | (go_simp; rfl)); intro gb266 hg w18 hbox hb; have n0_ := Aside0.mk (blk_below (g := gb265) (o := .cells #[.int .i64 a0_0, .int .i64 a0_1, .bool a0_2, .string a0_3] 35 (0, 0)) KK hb); have n1_ := Aside0.mk (below_step KB hb); have n2_ := Aside0.mk (hbox); have n3_ := Aside0.mk ((KG hg : w.heap.size ≤ gb266)); have n4_ := Aside0.mk ((KG hg : w.heap.size ≤ gb266)); have n5_ := Aside0.mk ((by rw [hg]; exact Nat.ne_of_lt (blk_lt (g := gb265) (o := .cells #[.int .i64 a0_0, .int .i64 a0_1, .bool a0_2, .string a0_3] 35 (0, 0)) KK) : gb265 ≠ gb266)); have n6_ := Aside0.mk ((by rw [hg]; exact Nat.ne_of_gt (blk_lt (g := gb265) (o := .cells #[.int .i64 a0_0, .int .i64 a0_1, .bool a0_2, .string a0_3] 35 (0, 0)) KK) : gb266 ≠ gb265)); clear BK265; clear HB; have BK265 := n0_; have HB := n1_; have BK266 := n2_; have GW266 := n3_; have GE266 := n4_; have NB265_266 := n5_; have NB266_265 := n6_; clear n0_ n1_ n2_ n3_ n4_ n5_ n6_; clear hb hbox hg; have hnb19 := NB265_266.out; have hnc19 := NB266_265.out; have hcz20_0 : w18.cell? ⟨gb265, 0, none⟩ = some (.int .i64 a0_0) := (blk_cell BK265.out 0).trans rfl; have hcz20_1 : w18.cell? ⟨gb265, 1, none⟩ = some (.int .i64 a0_1) := (blk_cell BK265.out 1).trans rfl; have hcz20_2 : w18.cell? ⟨gb265, 2, none⟩ = some (.bool a0_2) := (blk_cell BK265.out 2).trans rfl; have hcz20_3 : w18.cell? ⟨gb265, 3, none⟩ = some (.string a0_3) := (blk_cell BK265.out 3).trans rfl; have hfz20_0 := blk_frozen BK265.out 0; have hfz20_1 := blk_frozen BK265.out 1; have hfz20_2 := blk_frozen BK265.out 2; have hfz20_3 := blk_frozen BK265.out 3; have hcz21_0 : w18.cell? ⟨gb266, 0, none⟩ = some (.int .i64 a1_0) := (blk_cell BK266.out 0).trans rfl; have hcz21_1 : w18.cell? ⟨gb266, 1, none⟩ = some (.int .i64 a1_1) := (blk_cell BK266.out 1).trans rfl; have hcz21_2 : w18.cell? ⟨gb266, 2, none⟩ = some (.bool a1_2) := (blk_cell BK266.out 2).trans rfl; have hcz21_3 : w18.cell? ⟨gb266, 3, none⟩ = some (.string a1_3) := (blk_cell BK266.out 3).trans rfl; have hfz21_0 := blk_frozen BK266.out 0; have hfz21_1 := blk_frozen BK266.out 1; have hfz21_2 := blk_frozen BK266.out 2; have hfz21_3 := blk_frozen BK266.out 3))
     go_ret
     exact ⟨KE, KB⟩
  ·rw [if_neg c4] at H
   have c4b0 : (a0_1 == a1_1) = false := beq_eq_false_iff_ne.mpr c4
   have c4b1 : (a0_1 != a1_1) = true := bne_iff_ne.mpr c4
   obtain rfl := Option.some.inj H
   go_enter Try.func79, Try.ntmps79
   go_wp2_with (first | ((with_reducible refine gate_dst (N := 2) rfl ?_); refine box_event ?hg (N := 2) ?hd (cs := #[.int .i64 a0_0, .int .i64 a0_1, .bool a0_2, .string a0_3]) (t := 35) ?hr ?_; (case hd => rfl); (case hg => rfl); (case hr => first | (go_simp; done) | (go_simp; rfl)); intro gb265 hg w22 hbox hb; have n0_ := Aside0.mk (below_step KB hb); have n1_ := Aside0.mk (hbox); have n2_ := Aside0.mk ((KG hg : w.heap.size ≤ gb265)); have n3_ := Aside0.mk ((KG hg : w.heap.size ≤ gb265)); clear HB; have HB := n0_; have BK265 := n1_; have GW265 := n2_; have GE265 := n3_; clear n0_ n1_ n2_ n3_; clear hb hbox hg) | ((with_reducible refine gate_dst (N := 3) rfl ?_); refine box_event ?hg (N := 3) ?hd (cs := #[.int .i64 a1_0, .int .i64 a1_1, .bool a1_2, .string a1_3]) (t := 35) ?hr ?_; (case hd => rfl); (case hg => rfl); (case hr => first | (go_simp; done) | (go_simp; rfl)); intro gb266 hg w23 hbox hb; have n0_ := Aside0.mk (blk_below (g := gb265) (o := .cells #[.int .i64 a0_0, .int .i64 a0_1, .bool a0_2, .string a0_3] 35 (0, 0)) KK hb); have n1_ := Aside0.mk (below_step KB hb); have n2_ := Aside0.mk (hbox); have n3_ := Aside0.mk ((KG hg : w.heap.size ≤ gb266)); have n4_ := Aside0.mk ((KG hg : w.heap.size ≤ gb266)); have n5_ := Aside0.mk ((by rw [hg]; exact Nat.ne_of_lt (blk_lt (g := gb265) (o := .cells #[.int .i64 a0_0, .int .i64 a0_1, .bool a0_2, .string a0_3] 35 (0, 0)) KK) : gb265 ≠ gb266)); have n6_ := Aside0.mk ((by rw [hg]; exact Nat.ne_of_gt (blk_lt (g := gb265) (o := .cells #[.int .i64 a0_0, .int .i64 a0_1, .bool a0_2, .string a0_3] 35 (0, 0)) KK) : gb266 ≠ gb265)); clear BK265; clear HB; have BK265 := n0_; have HB := n1_; have BK266 := n2_; have GW266 := n3_; have GE266 := n4_; have NB265_266 := n5_; have NB266_265 := n6_; clear n0_ n1_ n2_ n3_ n4_ n5_ n6_; clear hb hbox hg; have hnb24 := NB265_266.out; have hnc24 := NB266_265.out; have hcz25_0 : w23.cell? ⟨gb265, 0, none⟩ = some (.int .i64 a0_0) := (blk_cell BK265.out 0).trans rfl; have hcz25_1 : w23.cell? ⟨gb265, 1, none⟩ = some (.int .i64 a0_1) := (blk_cell BK265.out 1).trans rfl; have hcz25_2 : w23.cell? ⟨gb265, 2, none⟩ = some (.bool a0_2) := (blk_cell BK265.out 2).trans rfl; have hcz25_3 : w23.cell? ⟨gb265, 3, none⟩ = some (.string a0_3) := (blk_cell BK265.out 3).trans rfl; have hfz25_0 := blk_frozen BK265.out 0; have hfz25_1 := blk_frozen BK265.out 1; have hfz25_2 := blk_frozen BK265.out 2; have hfz25_3 := blk_frozen BK265.out 3; have hcz26_0 : w23.cell? ⟨gb266, 0, none⟩ = some (.int .i64 a1_0) := (blk_cell BK266.out 0).trans rfl; have hcz26_1 : w23.cell? ⟨gb266, 1, none⟩ = some (.int .i64 a1_1) := (blk_cell BK266.out 1).trans rfl; have hcz26_2 : w23.cell? ⟨gb266, 2, none⟩ = some (.bool a1_2) := (blk_cell BK266.out 2).trans rfl; have hcz26_3 : w23.cell? ⟨gb266, 3, none⟩ = some (.string a1_3) := (blk_cell BK266.out 3).trans rfl; have hfz26_0 := blk_frozen BK266.out 0; have hfz26_1 := blk_frozen BK266.out 1; have hfz26_2 := blk_frozen BK266.out 2; have hfz26_3 := blk_frozen BK266.out 3))
   go_ret
   exact ⟨KE, KB⟩
 ·rw [if_neg c3] at H
  have c3b0 : (a0_0 == a1_0) = false := beq_eq_false_iff_ne.mpr c3
  have c3b1 : (a0_0 != a1_0) = true := bne_iff_ne.mpr c3
  obtain rfl := Option.some.inj H
  go_enter Try.func79, Try.ntmps79
  go_wp2_with (first | ((with_reducible refine gate_dst (N := 2) rfl ?_); refine box_event ?hg (N := 2) ?hd (cs := #[.int .i64 a0_0, .int .i64 a0_1, .bool a0_2, .string a0_3]) (t := 35) ?hr ?_; (case hd => rfl); (case hg => rfl); (case hr => first | (go_simp; done) | (go_simp; rfl)); intro gb265 hg w27 hbox hb; have n0_ := Aside0.mk (below_step KB hb); have n1_ := Aside0.mk (hbox); have n2_ := Aside0.mk ((KG hg : w.heap.size ≤ gb265)); have n3_ := Aside0.mk ((KG hg : w.heap.size ≤ gb265)); clear HB; have HB := n0_; have BK265 := n1_; have GW265 := n2_; have GE265 := n3_; clear n0_ n1_ n2_ n3_; clear hb hbox hg) | ((with_reducible refine gate_dst (N := 3) rfl ?_); refine box_event ?hg (N := 3) ?hd (cs := #[.int .i64 a1_0, .int .i64 a1_1, .bool a1_2, .string a1_3]) (t := 35) ?hr ?_; (case hd => rfl); (case hg => rfl); (case hr => first | (go_simp; done) | (go_simp; rfl)); intro gb266 hg w28 hbox hb; have n0_ := Aside0.mk (blk_below (g := gb265) (o := .cells #[.int .i64 a0_0, .int .i64 a0_1, .bool a0_2, .string a0_3] 35 (0, 0)) KK hb); have n1_ := Aside0.mk (below_step KB hb); have n2_ := Aside0.mk (hbox); have n3_ := Aside0.mk ((KG hg : w.heap.size ≤ gb266)); have n4_ := Aside0.mk ((KG hg : w.heap.size ≤ gb266)); have n5_ := Aside0.mk ((by rw [hg]; exact Nat.ne_of_lt (blk_lt (g := gb265) (o := .cells #[.int .i64 a0_0, .int .i64 a0_1, .bool a0_2, .string a0_3] 35 (0, 0)) KK) : gb265 ≠ gb266)); have n6_ := Aside0.mk ((by rw [hg]; exact Nat.ne_of_gt (blk_lt (g := gb265) (o := .cells #[.int .i64 a0_0, .int .i64 a0_1, .bool a0_2, .string a0_3] 35 (0, 0)) KK) : gb266 ≠ gb265)); clear BK265; clear HB; have BK265 := n0_; have HB := n1_; have BK266 := n2_; have GW266 := n3_; have GE266 := n4_; have NB265_266 := n5_; have NB266_265 := n6_; clear n0_ n1_ n2_ n3_ n4_ n5_ n6_; clear hb hbox hg; have hnb29 := NB265_266.out; have hnc29 := NB266_265.out; have hcz30_0 : w28.cell? ⟨gb265, 0, none⟩ = some (.int .i64 a0_0) := (blk_cell BK265.out 0).trans rfl; have hcz30_1 : w28.cell? ⟨gb265, 1, none⟩ = some (.int .i64 a0_1) := (blk_cell BK265.out 1).trans rfl; have hcz30_2 : w28.cell? ⟨gb265, 2, none⟩ = some (.bool a0_2) := (blk_cell BK265.out 2).trans rfl; have hcz30_3 : w28.cell? ⟨gb265, 3, none⟩ = some (.string a0_3) := (blk_cell BK265.out 3).trans rfl; have hfz30_0 := blk_frozen BK265.out 0; have hfz30_1 := blk_frozen BK265.out 1; have hfz30_2 := blk_frozen BK265.out 2; have hfz30_3 := blk_frozen BK265.out 3; have hcz31_0 : w28.cell? ⟨gb266, 0, none⟩ = some (.int .i64 a1_0) := (blk_cell BK266.out 0).trans rfl; have hcz31_1 : w28.cell? ⟨gb266, 1, none⟩ = some (.int .i64 a1_1) := (blk_cell BK266.out 1).trans rfl; have hcz31_2 : w28.cell? ⟨gb266, 2, none⟩ = some (.bool a1_2) := (blk_cell BK266.out 2).trans rfl; have hcz31_3 : w28.cell? ⟨gb266, 3, none⟩ = some (.string a1_3) := (blk_cell BK266.out 3).trans rfl; have hfz31_0 := blk_frozen BK266.out 0; have hfz31_1 := blk_frozen BK266.out 1; have hfz31_2 := blk_frozen BK266.out 2; have hfz31_3 := blk_frozen BK266.out 3))
  go_ret
  exact ⟨KE, KB⟩

end Go.Proofs.Ytnoghojlpicecaa.PFnExactStorePut
