-- What each Go function that this law reaches comes to: written by a program out of the translation.
import Derived.Test.YtnoghojlpicecaaMFnSealedx0
import Derived.Test.YtnoghojlpicecaaMFnSealedx1
import Derived.Test.YtnoghojlpicecaaMFnSealedx2
namespace Go.Proofs.Ytnoghojlpicecaa.PFnSealed
open Go.RowKit Go.Proofs.YtnoghojlpicecaaW.PrintWords Go.Proofs.YtnoghojlpicecaaW.PrintLast Go.Proofs.YtnoghojlpicecaaW.PrintMore
attribute [local go_sem] max2_int min2_int max_two min_two max_three min_three max_four min_four   -- for this text's walks alone
set_option linter.unusedVariables false
set_option linter.unusedSimpArgs false

/-! ### impl_StorePut: function 14 -/
mutual
def impl_StorePut.j0 : Nat → Bool → List (S35) → List (S35) → Int → Int → Int → Bool → ByteArray → Option ((List (S35)) × (List (S35)) × Int × Bool)
 | 0, _, _, _, _, _, _, _, _ => none
 | k + 1, x20, x158000, x158001, x158002, x159000, x159001, x159002, x159003 => if x20 = true then ((impl_storeAsWas.f k x158000 x158001 x158002).bind fun bt162 => (some (bt162.1, bt162.2.1, bt162.2.2, false))) else (if x159001 = 0 then ((impl_EpochOf.f x159000).bind fun t169 => (if t169 ≤ x158002 then (impl_StorePut.j1 k true x158000 x158001 x158002 x159000 x159001 x159002 x159003) else (if x159001 > 0 then (impl_StorePut.j1 k (decide (x159001 ≤ x158002)) x158000 x158001 x158002 x159000 x159001 x159002 x159003) else (impl_StorePut.j1 k false x158000 x158001 x158002 x159000 x159001 x159002 x159003)))) else (if x159001 > 0 then (impl_StorePut.j1 k (decide (x159001 ≤ x158002)) x158000 x158001 x158002 x159000 x159001 x159002 x159003) else (impl_StorePut.j1 k false x158000 x158001 x158002 x159000 x159001 x159002 x159003)))
def impl_StorePut.j1 : Nat → Bool → List (S35) → List (S35) → Int → Int → Int → Bool → ByteArray → Option ((List (S35)) × (List (S35)) × Int × Bool)
 | 0, _, _, _, _, _, _, _, _ => none
 | k + 1, x45, x158000, x158001, x158002, x159000, x159001, x159002, x159003 => if x45 = true then ((impl_copyStore.f x158000 x158001 x158002).bind fun bt170 => (some (bt170.1, bt170.2.1, bt170.2.2, false))) else ((impl_copyStore.f x158000 x158001 x158002).bind fun bt177 => (if bt177.2.1.length < 3518437208883 then (some (bt177.1, (bt177.2.1 ++ [(⟨x159000, x159001, x159002, x159003⟩ : S35)]), bt177.2.2, true)) else (none)))
end
def impl_StorePut.f (k : Nat) (l0_0 : List (S35)) (l0_1 : List (S35)) (a0_2 : Int) (a1_0 : Int) (a1_1 : Int) (a1_2 : Bool) (a1_3 : ByteArray) : Option ((List (S35)) × (List (S35)) × Int × Bool) := (impl_StoreOk.f k l0_0 l0_1 a0_2).bind fun t160 => (if t160 = true then ((impl_EntryOk.f a1_0 a1_1 a1_2 a1_3).bind fun t161 => (if t161 = true then (impl_StorePut.j0 k ((l0_1.length : Int) == 20) l0_0 l0_1 a0_2 a1_0 a1_1 a1_2 a1_3) else (impl_StorePut.j0 k true l0_0 l0_1 a0_2 a1_0 a1_1 a1_2 a1_3))) else (impl_StorePut.j0 k true l0_0 l0_1 a0_2 a1_0 a1_1 a1_2 a1_3))
theorem impl_StorePut.mono_l : ∀ k, (∀ y0 y1 y2 y3 y4 y5 y6 y7, LeO (impl_StorePut.j0 k y0 y1 y2 y3 y4 y5 y6 y7) (impl_StorePut.j0 (k + 1) y0 y1 y2 y3 y4 y5 y6 y7)) ∧ (∀ y0 y1 y2 y3 y4 y5 y6 y7, LeO (impl_StorePut.j1 k y0 y1 y2 y3 y4 y5 y6 y7) (impl_StorePut.j1 (k + 1) y0 y1 y2 y3 y4 y5 y6 y7))
 | 0 => ⟨fun _ _ _ _ _ _ _ _ r h => by simp [impl_StorePut.j0] at h, fun _ _ _ _ _ _ _ _ r h => by simp [impl_StorePut.j1] at h⟩
 | k + 1 => by
  obtain ⟨ih0, ih1⟩ := impl_StorePut.mono_l k
  refine ⟨?_, ?_⟩
  ·intro y0 y1 y2 y3 y4 y5 y6 y7
   unfold impl_StorePut.j0
   repeat' first
   | (with_reducible exact ih0 _ _ _ _ _ _ _ _)
   | (with_reducible exact ih1 _ _ _ _ _ _ _ _)
   | (with_reducible exact impl_StoreOk.mono _ _ _ _)
   | (with_reducible exact impl_storeAsWas.mono _ _ _ _)
   | (with_reducible exact LeO.refl _)
   | (with_reducible exact LeO.none _)
   | (with_reducible refine LeO.ite ?_ ?_)
   | (with_reducible refine LeO.bind ?_ (fun _ => ?_))
   | exact ih0 _ _ _ _ _ _ _ _
   | exact ih1 _ _ _ _ _ _ _ _
   | exact impl_StoreOk.mono _ _ _ _
   | exact impl_storeAsWas.mono _ _ _ _
   | exact LeO.none _
   | refine LeO.ite ?_ ?_
   | refine LeO.bind ?_ (fun _ => ?_)
  ·intro y0 y1 y2 y3 y4 y5 y6 y7
   unfold impl_StorePut.j1
   repeat' first
   | (with_reducible exact ih0 _ _ _ _ _ _ _ _)
   | (with_reducible exact ih1 _ _ _ _ _ _ _ _)
   | (with_reducible exact impl_StoreOk.mono _ _ _ _)
   | (with_reducible exact impl_storeAsWas.mono _ _ _ _)
   | (with_reducible exact LeO.refl _)
   | (with_reducible exact LeO.none _)
   | (with_reducible refine LeO.ite ?_ ?_)
   | (with_reducible refine LeO.bind ?_ (fun _ => ?_))
   | exact ih0 _ _ _ _ _ _ _ _
   | exact ih1 _ _ _ _ _ _ _ _
   | exact impl_StoreOk.mono _ _ _ _
   | exact impl_storeAsWas.mono _ _ _ _
   | exact LeO.none _
   | refine LeO.ite ?_ ?_
   | refine LeO.bind ?_ (fun _ => ?_)
theorem impl_StorePut.mono : ∀ a0 a1 a2 a3 a4 a5 a6 k, LeO (impl_StorePut.f k a0 a1 a2 a3 a4 a5 a6) (impl_StorePut.f (k + 1) a0 a1 a2 a3 a4 a5 a6) := by
 intro a0 a1 a2 a3 a4 a5 a6 k
 obtain ⟨ih0, ih1⟩ := impl_StorePut.mono_l k
 unfold impl_StorePut.f
 repeat' first
   | (with_reducible exact ih0 _ _ _ _ _ _ _ _)
   | (with_reducible exact ih1 _ _ _ _ _ _ _ _)
   | (with_reducible exact impl_StoreOk.mono _ _ _ _)
   | (with_reducible exact impl_storeAsWas.mono _ _ _ _)
   | (with_reducible exact LeO.refl _)
   | (with_reducible exact LeO.none _)
   | (with_reducible refine LeO.ite ?_ ?_)
   | (with_reducible refine LeO.bind ?_ (fun _ => ?_))
   | exact ih0 _ _ _ _ _ _ _ _
   | exact ih1 _ _ _ _ _ _ _ _
   | exact impl_StoreOk.mono _ _ _ _
   | exact impl_storeAsWas.mono _ _ _ _
   | exact LeO.none _
   | refine LeO.ite ?_ ?_
   | refine LeO.bind ?_ (fun _ => ?_)
set_option maxHeartbeats 8000000 in
set_option maxRecDepth 100000 in
theorem impl_StorePut.calls (k : Nat) (A0_0 : Option Addr) (c0_0 : Nat) (l0_0 : List (S35)) (A0_1 : Option Addr) (c0_1 : Nat) (l0_1 : List (S35)) (a0_2 : Int) (a1_0 : Int) (a1_1 : Int) (a1_2 : Bool) (a1_3 : ByteArray) (r1 : List (S35)) (r2 : List (S35)) (r3 : Int) (r4 : Bool) (w : World) (hr0_0 : Kd.C k35 w A0_0 l0_0.length l0_0) (hc0_0 : l0_0.length ≤ c0_0) (hr0_1 : Kd.C k35 w A0_1 l0_1.length l0_1) (hc0_1 : l0_1.length ≤ c0_1) (h : impl_StorePut.f k l0_0 l0_1 a0_2 a1_0 a1_1 a1_2 a1_3 = some (r1, r2, r3, r4)) :
  Calls Try.prog 14 #[.agg #[.slice A0_0 l0_0.length c0_0, .slice A0_1 l0_1.length c0_1, .int .i64 a0_2], .agg #[.int .i64 a1_0, .int .i64 a1_1, .bool a1_2, .string a1_3]] w fun e w' => ∃ v0_ v1_ : Value, e = .returned (.tuple #[.agg #[v0_, v1_, .int .i64 r3], .bool r4]) ∧ Kd.R k35 35 w' w.heap.size (fun k_ => some k_ ≠ (v1_ : Value).ownBlock) v0_ r1 ∧ Kd.R k35 35 w' w.heap.size (fun k_ => some k_ ≠ (v0_ : Value).ownBlock) v1_ r2 ∧ Below w.heap.size w w' := by
 have hu31 := Try.underlying31
 have hu35 := Try.underlying35
 have HR0_0 := Aside0.mk hr0_0
 have HC0_0 := Aside0.mk hc0_0
 clear hr0_0 hc0_0
 have HR0_1 := Aside0.mk hr0_1
 have HC0_1 := Aside0.mk hc0_1
 clear hr0_1 hc0_1
 have HB := Aside0.mk (Below.refl w.heap.size w)
 have H : ((impl_StoreOk.f k l0_0 l0_1 a0_2).bind fun t160 => (if t160 = true then ((impl_EntryOk.f a1_0 a1_1 a1_2 a1_3).bind fun t161 => (if t161 = true then (impl_StorePut.j0 k ((l0_1.length : Int) == 20) l0_0 l0_1 a0_2 a1_0 a1_1 a1_2 a1_3) else (impl_StorePut.j0 k true l0_0 l0_1 a0_2 a1_0 a1_1 a1_2 a1_3))) else (impl_StorePut.j0 k true l0_0 l0_1 a0_2 a1_0 a1_1 a1_2 a1_3))) = some (r1, r2, r3, r4) := h
 clear h
 have HC3 := Aside0.mk H
 clear H
 go_enter Try.func14, Try.ntmps14
 go_upto_region 1 with (first | ((with_reducible refine gate_dst (N := 2) rfl ?_); (try (refine gate_guard (by rfl) ?_; dsimp only)); refine BE 2 #[.slice A0_0 l0_0.length c0_0, .slice A0_1 l0_1.length c0_1, .int .i64 a0_2] 31 ?_; intro gb157 hg w4 hbox hb; have h_ := P4 (below_step KB hb) hbox (KG hg : w.heap.size ≤ gb157) (KG hg : w.heap.size ≤ gb157); clear HB; obtain ⟨HB, BK157, GW157, GE157⟩ := h_; clear hb hbox hg) | ((with_reducible refine gate_dst (N := 3) rfl ?_); (try (refine gate_guard (by rfl) ?_; dsimp only)); refine BE 3 #[.int .i64 a1_0, .int .i64 a1_1, .bool a1_2, .string a1_3] 35 ?_; intro gb158 hg w5 hbox hb; have h_ := P7 (BL BK157.out hb) (below_step KB hb) hbox (KG hg : w.heap.size ≤ gb158) (KG hg : w.heap.size ≤ gb158) (NX hg BK157.out) (Ne.symm (NX hg BK157.out)); clear BK157 HB; obtain ⟨BK157, HB, BK158, GW158, GE158, NB157_158, NB158_157⟩ := h_; clear hb hbox hg) | ((with_reducible refine gate_dst (N := 4) rfl ?_); (try (refine gate_guard (by rfl) ?_; dsimp only)); refine BE 4 #[.slice none 0 0, .slice none 0 0, .int .i64 0] 31 ?_; intro gb159 hg w6 hbox hb; have h_ := P10 (BL BK157.out hb) (BL BK158.out hb) (below_step KB hb) hbox (KG hg : w.heap.size ≤ gb159) (KG hg : w.heap.size ≤ gb159) (NX hg BK157.out) (Ne.symm (NX hg BK157.out)) (NX hg BK158.out) (Ne.symm (NX hg BK158.out)); clear BK157 BK158 HB; obtain ⟨BK157, BK158, HB, BK159, GW159, GE159, NB157_159, NB159_157, NB158_159, NB159_158⟩ := h_; clear hb hbox hg))
 repeat (go_quiet (first | ((with_reducible refine gate_dst (N := 2) rfl ?_); (try (refine gate_guard (by rfl) ?_; dsimp only)); refine BE 2 #[.slice A0_0 l0_0.length c0_0, .slice A0_1 l0_1.length c0_1, .int .i64 a0_2] 31 ?_; intro gb157 hg w4 hbox hb; have h_ := P4 (below_step KB hb) hbox (KG hg : w.heap.size ≤ gb157) (KG hg : w.heap.size ≤ gb157); clear HB; obtain ⟨HB, BK157, GW157, GE157⟩ := h_; clear hb hbox hg) | ((with_reducible refine gate_dst (N := 3) rfl ?_); (try (refine gate_guard (by rfl) ?_; dsimp only)); refine BE 3 #[.int .i64 a1_0, .int .i64 a1_1, .bool a1_2, .string a1_3] 35 ?_; intro gb158 hg w5 hbox hb; have h_ := P7 (BL BK157.out hb) (below_step KB hb) hbox (KG hg : w.heap.size ≤ gb158) (KG hg : w.heap.size ≤ gb158) (NX hg BK157.out) (Ne.symm (NX hg BK157.out)); clear BK157 HB; obtain ⟨BK157, HB, BK158, GW158, GE158, NB157_158, NB158_157⟩ := h_; clear hb hbox hg) | ((with_reducible refine gate_dst (N := 4) rfl ?_); (try (refine gate_guard (by rfl) ?_; dsimp only)); refine BE 4 #[.slice none 0 0, .slice none 0 0, .int .i64 0] 31 ?_; intro gb159 hg w6 hbox hb; have h_ := P10 (BL BK157.out hb) (BL BK158.out hb) (below_step KB hb) hbox (KG hg : w.heap.size ≤ gb159) (KG hg : w.heap.size ≤ gb159) (NX hg BK157.out) (Ne.symm (NX hg BK157.out)) (NX hg BK158.out) (Ne.symm (NX hg BK158.out)); clear BK157 BK158 HB; obtain ⟨BK157, BK158, HB, BK159, GW159, GE159, NB157_159, NB159_157, NB158_159, NB159_158⟩ := h_; clear hb hbox hg)); go_upto_region 1 with (first | ((with_reducible refine gate_dst (N := 2) rfl ?_); (try (refine gate_guard (by rfl) ?_; dsimp only)); refine BE 2 #[.slice A0_0 l0_0.length c0_0, .slice A0_1 l0_1.length c0_1, .int .i64 a0_2] 31 ?_; intro gb157 hg w4 hbox hb; have h_ := P4 (below_step KB hb) hbox (KG hg : w.heap.size ≤ gb157) (KG hg : w.heap.size ≤ gb157); clear HB; obtain ⟨HB, BK157, GW157, GE157⟩ := h_; clear hb hbox hg) | ((with_reducible refine gate_dst (N := 3) rfl ?_); (try (refine gate_guard (by rfl) ?_; dsimp only)); refine BE 3 #[.int .i64 a1_0, .int .i64 a1_1, .bool a1_2, .string a1_3] 35 ?_; intro gb158 hg w5 hbox hb; have h_ := P7 (BL BK157.out hb) (below_step KB hb) hbox (KG hg : w.heap.size ≤ gb158) (KG hg : w.heap.size ≤ gb158) (NX hg BK157.out) (Ne.symm (NX hg BK157.out)); clear BK157 HB; obtain ⟨BK157, HB, BK158, GW158, GE158, NB157_158, NB158_157⟩ := h_; clear hb hbox hg) | ((with_reducible refine gate_dst (N := 4) rfl ?_); (try (refine gate_guard (by rfl) ?_; dsimp only)); refine BE 4 #[.slice none 0 0, .slice none 0 0, .int .i64 0] 31 ?_; intro gb159 hg w6 hbox hb; have h_ := P10 (BL BK157.out hb) (BL BK158.out hb) (below_step KB hb) hbox (KG hg : w.heap.size ≤ gb159) (KG hg : w.heap.size ≤ gb159) (NX hg BK157.out) (Ne.symm (NX hg BK157.out)) (NX hg BK158.out) (Ne.symm (NX hg BK158.out)); clear BK157 BK158 HB; obtain ⟨BK157, BK158, HB, BK159, GW159, GE159, NB157_159, NB159_157, NB158_159, NB159_158⟩ := h_; clear hb hbox hg)))
 (try simp only [Act.put, List.setIfInBounds_toArray, List.set_cons_zero, List.set_cons_succ])
 go_cut [20] (fun v20 wc => ∃ (kq : Nat) (x20_2 : Bool), v20 = .bool x20_2 ∧ Aside0 (impl_StorePut.j0 kq x20_2 l0_0 l0_1 a0_2 a1_0 a1_1 a1_2 a1_3 = some (r1, r2, r3, r4)) ∧ Aside0 (kq ≤ k) ∧ Aside0 (wc.heap[gb157]? = some (.cells #[(.slice A0_0 l0_0.length c0_0), (.slice A0_1 l0_1.length c0_1), .int .i64 a0_2] 31 (0, 0))) ∧ Aside0 (wc.heap[gb158]? = some (.cells #[.int .i64 a1_0, .int .i64 a1_1, .bool a1_2, .string a1_3] 35 (0, 0))) ∧ Aside0 (wc.heap[gb159]? = some (.cells #[(.slice none 0 0), (.slice none 0 0), .int .i64 0] 31 (0, 0))) ∧ Aside0 (Below w.heap.size w wc))
 case first =>
  have H := HC3.out
  clear HC3
  replace H := Option.bind_eq_some_iff.mp H
  obtain ⟨t160, A70, H⟩ := H
  replace H : (if t160 = true then ((impl_EntryOk.f a1_0 a1_1 a1_2 a1_3).bind fun t161 => (if t161 = true then (impl_StorePut.j0 k ((l0_1.length : Int) == 20) l0_0 l0_1 a0_2 a1_0 a1_1 a1_2 a1_3) else (impl_StorePut.j0 k true l0_0 l0_1 a0_2 a1_0 a1_1 a1_2 a1_3))) else (impl_StorePut.j0 k true l0_0 l0_1 a0_2 a1_0 a1_1 a1_2 a1_3)) = some (r1, r2, r3, r4) := H
  have A7 := Aside0.mk A70
  clear A70
  by_cases c8 : t160 = true
  ·subst c8
   have H1 : ((impl_EntryOk.f a1_0 a1_1 a1_2 a1_3).bind fun t161 => (if t161 = true then (impl_StorePut.j0 k ((l0_1.length : Int) == 20) l0_0 l0_1 a0_2 a1_0 a1_1 a1_2 a1_3) else (impl_StorePut.j0 k true l0_0 l0_1 a0_2 a1_0 a1_1 a1_2 a1_3))) = some (r1, r2, r3, r4) := by rw [if_pos rfl] at H; exact H
   clear H
   have H := H1
   clear H1
   replace H := Option.bind_eq_some_iff.mp H
   obtain ⟨t161, A90, H⟩ := H
   replace H : (if t161 = true then (impl_StorePut.j0 k ((l0_1.length : Int) == 20) l0_0 l0_1 a0_2 a1_0 a1_1 a1_2 a1_3) else (impl_StorePut.j0 k true l0_0 l0_1 a0_2 a1_0 a1_1 a1_2 a1_3)) = some (r1, r2, r3, r4) := H
   have A9 := Aside0.mk A90
   clear A90
   by_cases c10 : t161 = true
   ·subst c10
    have H1 : (impl_StorePut.j0 k ((l0_1.length : Int) == 20) l0_0 l0_1 a0_2 a1_0 a1_1 a1_2 a1_3) = some (r1, r2, r3, r4) := by rw [if_pos rfl] at H; exact H
    clear H
    have H := H1
    clear H1
    have H' := Aside0.mk H
    clear H
    have hnb11 := NB157_158.out
    have hnc11 := NB158_157.out
    have hnb12 := NB157_159.out
    have hnc12 := NB159_157.out
    obtain ⟨hcz13_0, hcz13_1, hcz13_2, hfz13_0, hfz13_1, hfz13_2⟩ := C3 BK157.out
    go_wp2_with (first | (go_at_call 32; (with_reducible refine (impl_StoreOk.calls k _ _ l0_0 _ _ l0_1 a0_2 true _ ?side1 ?side2 ?side3 ?side4 A7.out).mono ?_); (case side1 => exact KD (Kd.C_below HR0_0.out HB.out)); (case side2 => exact HC0_0.out); (case side3 => exact KD (Kd.C_below HR0_1.out HB.out)); (case side4 => exact HC0_1.out); rintro e w14 ⟨rfl, hb⟩; have h_ := P4 (BL BK157.out hb) (BL BK158.out hb) (BL BK159.out hb) (below_step KB hb); clear BK157 BK158 BK159 HB; obtain ⟨BK157, BK158, BK159, HB⟩ := h_; (try clear hb); (try clear hk); (try clear hi); have hnb15 := NB158_159.out; have hnc15 := NB159_158.out; obtain ⟨hcz16_0, hcz16_1, hcz16_2, hcz16_3, hfz16_0, hfz16_1, hfz16_2, hfz16_3⟩ := C4 BK158.out) | (go_at_call 45; (with_reducible refine (impl_EntryOk.calls a1_0 a1_1 a1_2 a1_3 true _ A9.out).mono ?_); rintro e w17 ⟨rfl, hb⟩; have h_ := P4 (BL BK157.out hb) (BL BK158.out hb) (BL BK159.out hb) (below_step KB hb); clear BK157 BK158 BK159 HB; obtain ⟨BK157, BK158, BK159, HB⟩ := h_; (try clear hb); (try clear hk); (try clear hi); obtain ⟨hcz18_0, hcz18_1, hcz18_2, hfz18_0, hfz18_1, hfz18_2⟩ := C3 BK157.out))
    repeat (go_quiet (fail); try go_wp2_with (first | (go_at_call 32; (with_reducible refine (impl_StoreOk.calls k _ _ l0_0 _ _ l0_1 a0_2 true _ ?side1 ?side2 ?side3 ?side4 A7.out).mono ?_); (case side1 => exact KD (Kd.C_below HR0_0.out HB.out)); (case side2 => exact HC0_0.out); (case side3 => exact KD (Kd.C_below HR0_1.out HB.out)); (case side4 => exact HC0_1.out); rintro e w14 ⟨rfl, hb⟩; have h_ := P4 (BL BK157.out hb) (BL BK158.out hb) (BL BK159.out hb) (below_step KB hb); clear BK157 BK158 BK159 HB; obtain ⟨BK157, BK158, BK159, HB⟩ := h_; (try clear hb); (try clear hk); (try clear hi); have hnb15 := NB158_159.out; have hnc15 := NB159_158.out; obtain ⟨hcz16_0, hcz16_1, hcz16_2, hcz16_3, hfz16_0, hfz16_1, hfz16_2, hfz16_3⟩ := C4 BK158.out) | (go_at_call 45; (with_reducible refine (impl_EntryOk.calls a1_0 a1_1 a1_2 a1_3 true _ A9.out).mono ?_); rintro e w17 ⟨rfl, hb⟩; have h_ := P4 (BL BK157.out hb) (BL BK158.out hb) (BL BK159.out hb) (below_step KB hb); clear BK157 BK158 BK159 HB; obtain ⟨BK157, BK158, BK159, HB⟩ := h_; (try clear hb); (try clear hk); (try clear hi); obtain ⟨hcz18_0, hcz18_1, hcz18_2, hfz18_0, hfz18_1, hfz18_2⟩ := C3 BK157.out)))
    go_meet
    case rel => exact ⟨_, (((l0_1.length : Int) == 20)), (by first | rfl | (simp; done) | (simp [*]; done)), H', ⟨by first | omega | exact Nat.le_refl _⟩, ⟨KK⟩, ⟨KK⟩, ⟨KK⟩, ⟨KB⟩⟩
   ·replace c10 := Bool.eq_false_iff.mpr c10
    subst c10
    have H1 : (impl_StorePut.j0 k true l0_0 l0_1 a0_2 a1_0 a1_1 a1_2 a1_3) = some (r1, r2, r3, r4) := by rw [if_neg (show ¬ (false = true) by decide)] at H; exact H
    clear H
    have H := H1
    clear H1
    have H' := Aside0.mk H
    clear H
    have hnb19 := NB157_158.out
    have hnc19 := NB158_157.out
    have hnb20 := NB157_159.out
    have hnc20 := NB159_157.out
    obtain ⟨hcz21_0, hcz21_1, hcz21_2, hfz21_0, hfz21_1, hfz21_2⟩ := C3 BK157.out
    go_wp2_with (first | (go_at_call 32; (with_reducible refine (impl_StoreOk.calls k _ _ l0_0 _ _ l0_1 a0_2 true _ ?side1 ?side2 ?side3 ?side4 A7.out).mono ?_); (case side1 => exact KD (Kd.C_below HR0_0.out HB.out)); (case side2 => exact HC0_0.out); (case side3 => exact KD (Kd.C_below HR0_1.out HB.out)); (case side4 => exact HC0_1.out); rintro e w22 ⟨rfl, hb⟩; have h_ := P4 (BL BK157.out hb) (BL BK158.out hb) (BL BK159.out hb) (below_step KB hb); clear BK157 BK158 BK159 HB; obtain ⟨BK157, BK158, BK159, HB⟩ := h_; (try clear hb); (try clear hk); (try clear hi); have hnb23 := NB158_159.out; have hnc23 := NB159_158.out; obtain ⟨hcz24_0, hcz24_1, hcz24_2, hcz24_3, hfz24_0, hfz24_1, hfz24_2, hfz24_3⟩ := C4 BK158.out) | (go_at_call 45; (with_reducible refine (impl_EntryOk.calls a1_0 a1_1 a1_2 a1_3 false _ A9.out).mono ?_); rintro e w25 ⟨rfl, hb⟩; have h_ := P4 (BL BK157.out hb) (BL BK158.out hb) (BL BK159.out hb) (below_step KB hb); clear BK157 BK158 BK159 HB; obtain ⟨BK157, BK158, BK159, HB⟩ := h_; (try clear hb); (try clear hk); (try clear hi)))
    repeat (go_quiet (fail); try go_wp2_with (first | (go_at_call 32; (with_reducible refine (impl_StoreOk.calls k _ _ l0_0 _ _ l0_1 a0_2 true _ ?side1 ?side2 ?side3 ?side4 A7.out).mono ?_); (case side1 => exact KD (Kd.C_below HR0_0.out HB.out)); (case side2 => exact HC0_0.out); (case side3 => exact KD (Kd.C_below HR0_1.out HB.out)); (case side4 => exact HC0_1.out); rintro e w22 ⟨rfl, hb⟩; have h_ := P4 (BL BK157.out hb) (BL BK158.out hb) (BL BK159.out hb) (below_step KB hb); clear BK157 BK158 BK159 HB; obtain ⟨BK157, BK158, BK159, HB⟩ := h_; (try clear hb); (try clear hk); (try clear hi); have hnb23 := NB158_159.out; have hnc23 := NB159_158.out; obtain ⟨hcz24_0, hcz24_1, hcz24_2, hcz24_3, hfz24_0, hfz24_1, hfz24_2, hfz24_3⟩ := C4 BK158.out) | (go_at_call 45; (with_reducible refine (impl_EntryOk.calls a1_0 a1_1 a1_2 a1_3 false _ A9.out).mono ?_); rintro e w25 ⟨rfl, hb⟩; have h_ := P4 (BL BK157.out hb) (BL BK158.out hb) (BL BK159.out hb) (below_step KB hb); clear BK157 BK158 BK159 HB; obtain ⟨BK157, BK158, BK159, HB⟩ := h_; (try clear hb); (try clear hk); (try clear hi))))
    go_meet
    case rel => exact ⟨_, (true), (by first | rfl | (simp; done) | (simp [*]; done)), H', ⟨by first | omega | exact Nat.le_refl _⟩, ⟨KK⟩, ⟨KK⟩, ⟨KK⟩, ⟨KB⟩⟩
  ·replace c8 := Bool.eq_false_iff.mpr c8
   subst c8
   have H1 : (impl_StorePut.j0 k true l0_0 l0_1 a0_2 a1_0 a1_1 a1_2 a1_3) = some (r1, r2, r3, r4) := by rw [if_neg (show ¬ (false = true) by decide)] at H; exact H
   clear H
   have H := H1
   clear H1
   have H' := Aside0.mk H
   clear H
   have hnb26 := NB157_158.out
   have hnc26 := NB158_157.out
   have hnb27 := NB157_159.out
   have hnc27 := NB159_157.out
   obtain ⟨hcz28_0, hcz28_1, hcz28_2, hfz28_0, hfz28_1, hfz28_2⟩ := C3 BK157.out
   go_wp2_with (first | (go_at_call 32; (with_reducible refine (impl_StoreOk.calls k _ _ l0_0 _ _ l0_1 a0_2 false _ ?side1 ?side2 ?side3 ?side4 A7.out).mono ?_); (case side1 => exact KD (Kd.C_below HR0_0.out HB.out)); (case side2 => exact HC0_0.out); (case side3 => exact KD (Kd.C_below HR0_1.out HB.out)); (case side4 => exact HC0_1.out); rintro e w29 ⟨rfl, hb⟩; have h_ := P4 (BL BK157.out hb) (BL BK158.out hb) (BL BK159.out hb) (below_step KB hb); clear BK157 BK158 BK159 HB; obtain ⟨BK157, BK158, BK159, HB⟩ := h_; (try clear hb); (try clear hk); (try clear hi)))
   repeat (go_quiet (fail); try go_wp2_with (first | (go_at_call 32; (with_reducible refine (impl_StoreOk.calls k _ _ l0_0 _ _ l0_1 a0_2 false _ ?side1 ?side2 ?side3 ?side4 A7.out).mono ?_); (case side1 => exact KD (Kd.C_below HR0_0.out HB.out)); (case side2 => exact HC0_0.out); (case side3 => exact KD (Kd.C_below HR0_1.out HB.out)); (case side4 => exact HC0_1.out); rintro e w29 ⟨rfl, hb⟩; have h_ := P4 (BL BK157.out hb) (BL BK158.out hb) (BL BK159.out hb) (below_step KB hb); clear BK157 BK158 BK159 HB; obtain ⟨BK157, BK158, BK159, HB⟩ := h_; (try clear hb); (try clear hk); (try clear hi))))
   go_meet
   case rel => exact ⟨_, (true), (by first | rfl | (simp; done) | (simp [*]; done)), H', ⟨by first | omega | exact Nat.le_refl _⟩, ⟨KK⟩, ⟨KK⟩, ⟨KK⟩, ⟨KB⟩⟩
 case rest =>
  clear HC3
  try clear c1
  try clear c2
  try clear p2
  try clear c8
  try clear c10
  try clear c11
  try clear c12
  try clear c14
  try clear c15
  try clear c19
  try clear c20
  try clear c23
  try clear c26
  try clear c27
  try clear hcz13_0
  try clear hcz13_1
  try clear hcz13_2
  try clear hcz16_0
  try clear hcz16_1
  try clear hcz16_2
  try clear hcz16_3
  try clear hcz18_0
  try clear hcz18_1
  try clear hcz18_2
  try clear hcz21_0
  try clear hcz21_1
  try clear hcz21_2
  try clear hcz24_0
  try clear hcz24_1
  try clear hcz24_2
  try clear hcz24_3
  try clear hcz28_0
  try clear hcz28_1
  try clear hcz28_2
  try clear hfz13_0
  try clear hfz13_1
  try clear hfz13_2
  try clear hfz16_0
  try clear hfz16_1
  try clear hfz16_2
  try clear hfz16_3
  try clear hfz18_0
  try clear hfz18_1
  try clear hfz18_2
  try clear hfz21_0
  try clear hfz21_1
  try clear hfz21_2
  try clear hfz24_0
  try clear hfz24_1
  try clear hfz24_2
  try clear hfz24_3
  try clear hfz28_0
  try clear hfz28_1
  try clear hfz28_2
  obtain ⟨kq, x20_2, rfl, HA, HJ2, BK157, BK158, BK159, HB⟩ := hcut
  cases kq with
  | zero => exact absurd HA.out (by simp [impl_StorePut.j0])
  | succ kj2 =>
   have H := HA.out
   clear HA
   simp only [impl_StorePut.j0] at H
   by_cases c30 : x20_2 = true
   ·subst c30
    have H1 : ((impl_storeAsWas.f kj2 l0_0 l0_1 a0_2).bind fun bt162 => (some (bt162.1, bt162.2.1, bt162.2.2, false))) = some (r1, r2, r3, r4) := by rw [if_pos rfl] at H; exact H
    clear H
    have H := H1
    clear H1
    replace H := Option.bind_eq_some_iff.mp H
    obtain ⟨⟨t162, t165, t168⟩, A310, H⟩ := H
    replace H : (some (t162, t165, t168, false)) = some (r1, r2, r3, r4) := H
    have A31 := Aside0.mk A310
    clear A310
    simp only [Option.some.injEq, Prod.mk.injEq] at H
    obtain ⟨rfl, rfl, rfl, rfl⟩ := H
    have hnb32 := NB157_158.out
    have hnc32 := NB158_157.out
    have hnb33 := NB157_159.out
    have hnc33 := NB159_157.out
    obtain ⟨hcz34_0, hcz34_1, hcz34_2, hfz34_0, hfz34_1, hfz34_2⟩ := C3 BK157.out
    go_wp2_with (first | (go_at_call 46; (with_reducible refine (impl_storeAsWas.calls kj2 _ _ l0_0 _ _ l0_1 a0_2 t162 t165 t168 _ ?side1 ?side2 ?side3 ?side4 A31.out).mono ?_); (case side1 => exact KD (Kd.C_below HR0_0.out HB.out)); (case side2 => exact HC0_0.out); (case side3 => exact KD (Kd.C_below HR0_1.out HB.out)); (case side4 => exact HC0_1.out); rintro e w35 ⟨v163, v166, rfl, ho0, ho1, hb⟩; have h_ := P6 (Kd.R_lower (Kd.R_newB ho0 (g := gb158) (o := .cells #[.int .i64 a1_0, .int .i64 a1_1, .bool a1_2, .string a1_3] 35 (0, 0)) KK) (below_size KB)) (Kd.R_lower (Kd.R_newB ho1 (g := gb158) (o := .cells #[.int .i64 a1_0, .int .i64 a1_1, .bool a1_2, .string a1_3] 35 (0, 0)) KK) (below_size KB)) (BL BK157.out hb) (BL BK158.out hb) (BL BK159.out hb) (below_step KB hb); clear BK157 BK158 BK159 HB; obtain ⟨HO164, HO167, BK157, BK158, BK159, HB⟩ := h_; (try clear hb); (try clear hk); (try clear hi); (try clear ho0); (try clear ho1); obtain ⟨Ao36, co36, eo36⟩ := Kd.R_slice HO164.out; subst eo36; have hnb37 := NB159_158.out; have hnc37 := NB158_159.out; obtain ⟨hcz38_0, hcz38_1, hcz38_2, hfz38_0, hfz38_1, hfz38_2⟩ := C3 BK159.out; obtain ⟨Ao39, co39, eo39⟩ := Kd.R_slice HO167.out; subst eo39))
    repeat (go_quiet (fail); try go_wp2_with (first | (go_at_call 46; (with_reducible refine (impl_storeAsWas.calls kj2 _ _ l0_0 _ _ l0_1 a0_2 t162 t165 t168 _ ?side1 ?side2 ?side3 ?side4 A31.out).mono ?_); (case side1 => exact KD (Kd.C_below HR0_0.out HB.out)); (case side2 => exact HC0_0.out); (case side3 => exact KD (Kd.C_below HR0_1.out HB.out)); (case side4 => exact HC0_1.out); rintro e w35 ⟨v163, v166, rfl, ho0, ho1, hb⟩; have h_ := P6 (Kd.R_lower (Kd.R_newB ho0 (g := gb158) (o := .cells #[.int .i64 a1_0, .int .i64 a1_1, .bool a1_2, .string a1_3] 35 (0, 0)) KK) (below_size KB)) (Kd.R_lower (Kd.R_newB ho1 (g := gb158) (o := .cells #[.int .i64 a1_0, .int .i64 a1_1, .bool a1_2, .string a1_3] 35 (0, 0)) KK) (below_size KB)) (BL BK157.out hb) (BL BK158.out hb) (BL BK159.out hb) (below_step KB hb); clear BK157 BK158 BK159 HB; obtain ⟨HO164, HO167, BK157, BK158, BK159, HB⟩ := h_; (try clear hb); (try clear hk); (try clear hi); (try clear ho0); (try clear ho1); obtain ⟨Ao36, co36, eo36⟩ := Kd.R_slice HO164.out; subst eo36; have hnb37 := NB159_158.out; have hnc37 := NB158_159.out; obtain ⟨hcz38_0, hcz38_1, hcz38_2, hfz38_0, hfz38_1, hfz38_2⟩ := C3 BK159.out; obtain ⟨Ao39, co39, eo39⟩ := Kd.R_slice HO167.out; subst eo39)))
    refine bodyPost_ret (results_ct rfl _ _ gb159 31 #[.slice Ao36 t162.length co36, .slice Ao39 t165.length co39, .int .i64 t168] (0, 0) _ rfl (by refine SK ?_; refine blk_put (cs := #[.slice Ao36 t162.length co36, .slice Ao39 t165.length co39, .int .i64 0]) ?_ 2 _ rfl; refine SK ?_; refine blk_put (cs := #[.slice Ao36 t162.length co36, .slice none 0 0, .int .i64 0]) ?_ 1 _ rfl; refine SK ?_; refine blk_put (cs := #[.slice none 0 0, .slice none 0 0, .int .i64 0]) ?_ 0 _ rfl; exact SK BK159.out) Try.underlying31 rfl (by kernel_rfl)) rfl ?_
    exact ⟨_, _, KE, RQ (RT HO164.out BK159.out) (hm := fun _ h => h.1.1), RQ (RT HO167.out BK159.out) (hm := fun _ h => h.1.1), KB⟩
   ·replace c30 := Bool.eq_false_iff.mpr c30
    subst c30
    have H1 : (if a1_1 = 0 then ((impl_EpochOf.f a1_0).bind fun t169 => (if t169 ≤ a0_2 then (impl_StorePut.j1 kj2 true l0_0 l0_1 a0_2 a1_0 a1_1 a1_2 a1_3) else (if a1_1 > 0 then (impl_StorePut.j1 kj2 (decide (a1_1 ≤ a0_2)) l0_0 l0_1 a0_2 a1_0 a1_1 a1_2 a1_3) else (impl_StorePut.j1 kj2 false l0_0 l0_1 a0_2 a1_0 a1_1 a1_2 a1_3)))) else (if a1_1 > 0 then (impl_StorePut.j1 kj2 (decide (a1_1 ≤ a0_2)) l0_0 l0_1 a0_2 a1_0 a1_1 a1_2 a1_3) else (impl_StorePut.j1 kj2 false l0_0 l0_1 a0_2 a1_0 a1_1 a1_2 a1_3))) = some (r1, r2, r3, r4) := by rw [if_neg (show ¬ (false = true) by decide)] at H; exact H
    clear H
    have H := H1
    clear H1
    have HC40 := Aside0.mk H
    clear H
    go_upto_region 3 with (fail)
    repeat (go_quiet (fail); go_upto_region 3 with (fail))
    go_cut [45] (fun v45 wc => ∃ (kq : Nat) (x45_39 : Bool), v45 = .bool x45_39 ∧ Aside0 (impl_StorePut.j1 kq x45_39 l0_0 l0_1 a0_2 a1_0 a1_1 a1_2 a1_3 = some (r1, r2, r3, r4)) ∧ Aside0 (kq ≤ kj2) ∧ Aside0 (wc.heap[gb157]? = some (.cells #[(.slice A0_0 l0_0.length c0_0), (.slice A0_1 l0_1.length c0_1), .int .i64 a0_2] 31 (0, 0))) ∧ Aside0 (wc.heap[gb158]? = some (.cells #[.int .i64 a1_0, .int .i64 a1_1, .bool a1_2, .string a1_3] 35 (0, 0))) ∧ Aside0 (wc.heap[gb159]? = some (.cells #[(.slice none 0 0), (.slice none 0 0), .int .i64 0] 31 (0, 0))) ∧ Aside0 (Below w.heap.size w wc))
    case first =>
     have H := HC40.out
     clear HC40
     by_cases c41 : a1_1 = 0
     ·rw [if_pos c41] at H
      have c41b0 : (a1_1 == 0) = true := beq_iff_eq.mpr c41
      have c41b1 : (a1_1 != 0) = false := bne_eq_false_iff_eq.mpr c41
      clear c41
      (first | rw [c41b0] | (simp only [i64_w, i32_w]; rw [c41b0]) | skip)
      replace H := Option.bind_eq_some_iff.mp H
      obtain ⟨t169, A420, H⟩ := H
      replace H : (if t169 ≤ a0_2 then (impl_StorePut.j1 kj2 true l0_0 l0_1 a0_2 a1_0 a1_1 a1_2 a1_3) else (if a1_1 > 0 then (impl_StorePut.j1 kj2 (decide (a1_1 ≤ a0_2)) l0_0 l0_1 a0_2 a1_0 a1_1 a1_2 a1_3) else (impl_StorePut.j1 kj2 false l0_0 l0_1 a0_2 a1_0 a1_1 a1_2 a1_3))) = some (r1, r2, r3, r4) := H
      have A42 := Aside0.mk A420
      clear A420
      by_cases c43 : t169 ≤ a0_2
      ·rw [if_pos c43] at H
       have c43b0 : decide (t169 ≤ a0_2) = true := decide_eq_true c43
       clear c43
       have H' := Aside0.mk H
       clear H
       have hnb44 := NB158_157.out
       have hnc44 := NB157_158.out
       have hnb45 := NB158_159.out
       have hnc45 := NB159_158.out
       obtain ⟨hcz46_0, hcz46_1, hcz46_2, hcz46_3, hfz46_0, hfz46_1, hfz46_2, hfz46_3⟩ := C4 BK158.out
       have hnb47 := NB157_159.out
       have hnc47 := NB159_157.out
       obtain ⟨hcz48_0, hcz48_1, hcz48_2, hfz48_0, hfz48_1, hfz48_2⟩ := C3 BK157.out
       go_wp2_with (first | (go_at_call 26; (with_reducible refine (impl_EpochOf.calls a1_0 t169 _ A42.out).mono ?_); rintro e w' ⟨rfl, ⟨nd, rfl⟩⟩; (try exact KT)))
       repeat (go_quiet (first | (go_at_call 26; (with_reducible refine (impl_EpochOf.calls a1_0 t169 _ A42.out).mono ?_); rintro e w' ⟨rfl, ⟨nd, rfl⟩⟩; (try exact KT))); try go_wp2_with (first | (go_at_call 26; (with_reducible refine (impl_EpochOf.calls a1_0 t169 _ A42.out).mono ?_); rintro e w' ⟨rfl, ⟨nd, rfl⟩⟩; (try exact KT))))
       go_meet
       case rel => exact ⟨_, (true), (by first | rfl | (simp; done) | (simp [*]; done)), H', ⟨by have := HJ2.out; first | omega | exact Nat.le_refl _⟩, ⟨KK⟩, ⟨KK⟩, ⟨KK⟩, ⟨KB⟩⟩
      ·rw [if_neg c43] at H
       have c43b0 : decide (t169 ≤ a0_2) = false := decide_eq_false c43
       clear c43
       by_cases c49 : a1_1 > 0
       ·rw [if_pos c49] at H
        have c49b0 : decide (0 < a1_1) = true := decide_eq_true c49
        clear c49
        have H' := Aside0.mk H
        clear H
        have hnb50 := NB158_157.out
        have hnc50 := NB157_158.out
        have hnb51 := NB158_159.out
        have hnc51 := NB159_158.out
        obtain ⟨hcz52_0, hcz52_1, hcz52_2, hcz52_3, hfz52_0, hfz52_1, hfz52_2, hfz52_3⟩ := C4 BK158.out
        have hnb53 := NB157_159.out
        have hnc53 := NB159_157.out
        obtain ⟨hcz54_0, hcz54_1, hcz54_2, hfz54_0, hfz54_1, hfz54_2⟩ := C3 BK157.out
        go_wp2_with (first | (go_at_call 26; (with_reducible refine (impl_EpochOf.calls a1_0 t169 _ A42.out).mono ?_); rintro e w' ⟨rfl, ⟨nd, rfl⟩⟩; (try exact KT)))
        repeat (go_quiet (first | (go_at_call 26; (with_reducible refine (impl_EpochOf.calls a1_0 t169 _ A42.out).mono ?_); rintro e w' ⟨rfl, ⟨nd, rfl⟩⟩; (try exact KT))); try go_wp2_with (first | (go_at_call 26; (with_reducible refine (impl_EpochOf.calls a1_0 t169 _ A42.out).mono ?_); rintro e w' ⟨rfl, ⟨nd, rfl⟩⟩; (try exact KT))))
        go_meet
        case rel => exact ⟨_, (decide (a1_1 ≤ a0_2)), (by first | rfl | (simp; done) | (simp [*]; done)), H', ⟨by have := HJ2.out; first | omega | exact Nat.le_refl _⟩, ⟨KK⟩, ⟨KK⟩, ⟨KK⟩, ⟨KB⟩⟩
       ·rw [if_neg c49] at H
        have c49b0 : decide (0 < a1_1) = false := decide_eq_false c49
        clear c49
        have H' := Aside0.mk H
        clear H
        have hnb55 := NB158_157.out
        have hnc55 := NB157_158.out
        have hnb56 := NB158_159.out
        have hnc56 := NB159_158.out
        obtain ⟨hcz57_0, hcz57_1, hcz57_2, hcz57_3, hfz57_0, hfz57_1, hfz57_2, hfz57_3⟩ := C4 BK158.out
        have hnb58 := NB157_159.out
        have hnc58 := NB159_157.out
        obtain ⟨hcz59_0, hcz59_1, hcz59_2, hfz59_0, hfz59_1, hfz59_2⟩ := C3 BK157.out
        go_wp2_with (first | (go_at_call 26; (with_reducible refine (impl_EpochOf.calls a1_0 t169 _ A42.out).mono ?_); rintro e w' ⟨rfl, ⟨nd, rfl⟩⟩; (try exact KT)))
        repeat (go_quiet (first | (go_at_call 26; (with_reducible refine (impl_EpochOf.calls a1_0 t169 _ A42.out).mono ?_); rintro e w' ⟨rfl, ⟨nd, rfl⟩⟩; (try exact KT))); try go_wp2_with (first | (go_at_call 26; (with_reducible refine (impl_EpochOf.calls a1_0 t169 _ A42.out).mono ?_); rintro e w' ⟨rfl, ⟨nd, rfl⟩⟩; (try exact KT))))
        go_meet
        case rel => exact ⟨_, (false), (by first | rfl | (simp; done) | (simp [*]; done)), H', ⟨by have := HJ2.out; first | omega | exact Nat.le_refl _⟩, ⟨KK⟩, ⟨KK⟩, ⟨KK⟩, ⟨KB⟩⟩
     ·rw [if_neg c41] at H
      have c41b0 : (a1_1 == 0) = false := beq_eq_false_iff_ne.mpr c41
      have c41b1 : (a1_1 != 0) = true := bne_iff_ne.mpr c41
      (first | rw [c41b0] | (simp only [i64_w, i32_w]; rw [c41b0]) | skip)
      by_cases c60 : a1_1 > 0
      ·rw [if_pos c60] at H
       have c60b0 : decide (0 < a1_1) = true := decide_eq_true c60
       clear c60
       have H' := Aside0.mk H
       clear H
       have hnb61 := NB158_157.out
       have hnc61 := NB157_158.out
       have hnb62 := NB158_159.out
       have hnc62 := NB159_158.out
       obtain ⟨hcz63_0, hcz63_1, hcz63_2, hcz63_3, hfz63_0, hfz63_1, hfz63_2, hfz63_3⟩ := C4 BK158.out
       have hnb64 := NB157_159.out
       have hnc64 := NB159_157.out
       obtain ⟨hcz65_0, hcz65_1, hcz65_2, hfz65_0, hfz65_1, hfz65_2⟩ := C3 BK157.out
       go_wp2
       repeat (go_quiet (fail); try go_wp2)
       go_meet
       case rel => exact ⟨_, (decide (a1_1 ≤ a0_2)), (by first | rfl | (simp; done) | (simp [*]; done)), H', ⟨by have := HJ2.out; first | omega | exact Nat.le_refl _⟩, ⟨KK⟩, ⟨KK⟩, ⟨KK⟩, ⟨KB⟩⟩
      ·rw [if_neg c60] at H
       have c60b0 : decide (0 < a1_1) = false := decide_eq_false c60
       clear c60
       have H' := Aside0.mk H
       clear H
       have hnb66 := NB158_157.out
       have hnc66 := NB157_158.out
       have hnb67 := NB158_159.out
       have hnc67 := NB159_158.out
       obtain ⟨hcz68_0, hcz68_1, hcz68_2, hcz68_3, hfz68_0, hfz68_1, hfz68_2, hfz68_3⟩ := C4 BK158.out
       go_wp2
       repeat (go_quiet (fail); try go_wp2)
       go_meet
       case rel => exact ⟨_, (false), (by first | rfl | (simp; done) | (simp [*]; done)), H', ⟨by have := HJ2.out; first | omega | exact Nat.le_refl _⟩, ⟨KK⟩, ⟨KK⟩, ⟨KK⟩, ⟨KB⟩⟩
    case rest =>
     clear HC40
     try clear c1
     try clear c2
     try clear p2
     try clear c3
     try clear c4
     try clear c5
     try clear c6
     try clear c8
     try clear c10
     try clear c11
     try clear c12
     try clear c14
     try clear c15
     try clear c19
     try clear c20
     try clear c23
     try clear c26
     try clear c27
     try clear c30
     try clear c32
     try clear c33
     try clear c37
     try clear c41
     try clear c41b0
     try clear c41b1
     try clear c43
     try clear c43b0
     try clear c44
     try clear c45
     try clear c47
     try clear c49
     try clear c49b0
     try clear c50
     try clear c51
     try clear c53
     try clear c55
     try clear c56
     try clear c58
     try clear c60
     try clear c60b0
     try clear c61
     try clear c62
     try clear c64
     try clear c66
     try clear c67
     try clear hcz13_0
     try clear hcz13_1
     try clear hcz13_2
     try clear hcz16_0
     try clear hcz16_1
     try clear hcz16_2
     try clear hcz16_3
     try clear hcz18_0
     try clear hcz18_1
     try clear hcz18_2
     try clear hcz21_0
     try clear hcz21_1
     try clear hcz21_2
     try clear hcz24_0
     try clear hcz24_1
     try clear hcz24_2
     try clear hcz24_3
     try clear hcz28_0
     try clear hcz28_1
     try clear hcz28_2
     try clear hcz34_0
     try clear hcz34_1
     try clear hcz34_2
     try clear hcz38_0
     try clear hcz38_1
     try clear hcz38_2
     try clear hcz46_0
     try clear hcz46_1
     try clear hcz46_2
     try clear hcz46_3
     try clear hcz48_0
     try clear hcz48_1
     try clear hcz48_2
     try clear hcz52_0
     try clear hcz52_1
     try clear hcz52_2
     try clear hcz52_3
     try clear hcz54_0
     try clear hcz54_1
     try clear hcz54_2
     try clear hcz57_0
     try clear hcz57_1
     try clear hcz57_2
     try clear hcz57_3
     try clear hcz59_0
     try clear hcz59_1
     try clear hcz59_2
     try clear hcz63_0
     try clear hcz63_1
     try clear hcz63_2
     try clear hcz63_3
     try clear hcz65_0
     try clear hcz65_1
     try clear hcz65_2
     try clear hcz68_0
     try clear hcz68_1
     try clear hcz68_2
     try clear hcz68_3
     try clear hfz13_0
     try clear hfz13_1
     try clear hfz13_2
     try clear hfz16_0
     try clear hfz16_1
     try clear hfz16_2
     try clear hfz16_3
     try clear hfz18_0
     try clear hfz18_1
     try clear hfz18_2
     try clear hfz21_0
     try clear hfz21_1
     try clear hfz21_2
     try clear hfz24_0
     try clear hfz24_1
     try clear hfz24_2
     try clear hfz24_3
     try clear hfz28_0
     try clear hfz28_1
     try clear hfz28_2
     try clear hfz34_0
     try clear hfz34_1
     try clear hfz34_2
     try clear hfz38_0
     try clear hfz38_1
     try clear hfz38_2
     try clear hfz46_0
     try clear hfz46_1
     try clear hfz46_2
     try clear hfz46_3
     try clear hfz48_0
     try clear hfz48_1
     try clear hfz48_2
     try clear hfz52_0
     try clear hfz52_1
     try clear hfz52_2
     try clear hfz52_3
     try clear hfz54_0
     try clear hfz54_1
     try clear hfz54_2
     try clear hfz57_0
     try clear hfz57_1
     try clear hfz57_2
     try clear hfz57_3
     try clear hfz59_0
     try clear hfz59_1
     try clear hfz59_2
     try clear hfz63_0
     try clear hfz63_1
     try clear hfz63_2
     try clear hfz63_3
     try clear hfz65_0
     try clear hfz65_1
     try clear hfz65_2
     try clear hfz68_0
     try clear hfz68_1
     try clear hfz68_2
     try clear hfz68_3
     try clear p2
     obtain ⟨kq, x45_39, rfl, HA, HJ39, BK157, BK158, BK159, HB⟩ := hcut
     cases kq with
     | zero => exact absurd HA.out (by simp [impl_StorePut.j1])
     | succ kj39 =>
      have H := HA.out
      clear HA
      simp only [impl_StorePut.j1] at H
      by_cases c69 : x45_39 = true
      ·subst c69
       have H1 : ((impl_copyStore.f l0_0 l0_1 a0_2).bind fun bt170 => (some (bt170.1, bt170.2.1, bt170.2.2, false))) = some (r1, r2, r3, r4) := by rw [if_pos rfl] at H; exact H
       clear H
       have H := H1
       clear H1
       replace H := Option.bind_eq_some_iff.mp H
       obtain ⟨⟨t170, t173, t176⟩, A700, H⟩ := H
       replace H : (some (t170, t173, t176, false)) = some (r1, r2, r3, r4) := H
       have A70 := Aside0.mk A700
       clear A700
       simp only [Option.some.injEq, Prod.mk.injEq] at H
       obtain ⟨rfl, rfl, rfl, rfl⟩ := H
       have hnb71 := NB157_158.out
       have hnc71 := NB158_157.out
       have hnb72 := NB157_159.out
       have hnc72 := NB159_157.out
       obtain ⟨hcz73_0, hcz73_1, hcz73_2, hfz73_0, hfz73_1, hfz73_2⟩ := C3 BK157.out
       go_wp2_with (first | (go_at_call 47; (with_reducible refine (impl_copyStore.calls _ _ l0_0 _ _ l0_1 a0_2 t170 t173 t176 _ ?side1 ?side2 ?side3 ?side4 A70.out).mono ?_); (case side1 => exact KD (Kd.C_below HR0_0.out HB.out)); (case side2 => exact HC0_0.out); (case side3 => exact KD (Kd.C_below HR0_1.out HB.out)); (case side4 => exact HC0_1.out); rintro e w74 ⟨v171, v174, rfl, ho0, ho1, hb⟩; have h_ := P6 (Kd.R_lower (Kd.R_newB ho0 (g := gb158) (o := .cells #[.int .i64 a1_0, .int .i64 a1_1, .bool a1_2, .string a1_3] 35 (0, 0)) KK) (below_size KB)) (Kd.R_lower (Kd.R_newB ho1 (g := gb158) (o := .cells #[.int .i64 a1_0, .int .i64 a1_1, .bool a1_2, .string a1_3] 35 (0, 0)) KK) (below_size KB)) (BL BK157.out hb) (BL BK158.out hb) (BL BK159.out hb) (below_step KB hb); clear BK157 BK158 BK159 HB; obtain ⟨HO172, HO175, BK157, BK158, BK159, HB⟩ := h_; (try clear hb); (try clear hk); (try clear hi); (try clear ho0); (try clear ho1); obtain ⟨Ao75, co75, eo75⟩ := Kd.R_slice HO172.out; subst eo75; have hnb76 := NB159_158.out; have hnc76 := NB158_159.out; obtain ⟨hcz77_0, hcz77_1, hcz77_2, hfz77_0, hfz77_1, hfz77_2⟩ := C3 BK159.out; obtain ⟨Ao78, co78, eo78⟩ := Kd.R_slice HO175.out; subst eo78))
       repeat (go_quiet (fail); try go_wp2_with (first | (go_at_call 47; (with_reducible refine (impl_copyStore.calls _ _ l0_0 _ _ l0_1 a0_2 t170 t173 t176 _ ?side1 ?side2 ?side3 ?side4 A70.out).mono ?_); (case side1 => exact KD (Kd.C_below HR0_0.out HB.out)); (case side2 => exact HC0_0.out); (case side3 => exact KD (Kd.C_below HR0_1.out HB.out)); (case side4 => exact HC0_1.out); rintro e w74 ⟨v171, v174, rfl, ho0, ho1, hb⟩; have h_ := P6 (Kd.R_lower (Kd.R_newB ho0 (g := gb158) (o := .cells #[.int .i64 a1_0, .int .i64 a1_1, .bool a1_2, .string a1_3] 35 (0, 0)) KK) (below_size KB)) (Kd.R_lower (Kd.R_newB ho1 (g := gb158) (o := .cells #[.int .i64 a1_0, .int .i64 a1_1, .bool a1_2, .string a1_3] 35 (0, 0)) KK) (below_size KB)) (BL BK157.out hb) (BL BK158.out hb) (BL BK159.out hb) (below_step KB hb); clear BK157 BK158 BK159 HB; obtain ⟨HO172, HO175, BK157, BK158, BK159, HB⟩ := h_; (try clear hb); (try clear hk); (try clear hi); (try clear ho0); (try clear ho1); obtain ⟨Ao75, co75, eo75⟩ := Kd.R_slice HO172.out; subst eo75; have hnb76 := NB159_158.out; have hnc76 := NB158_159.out; obtain ⟨hcz77_0, hcz77_1, hcz77_2, hfz77_0, hfz77_1, hfz77_2⟩ := C3 BK159.out; obtain ⟨Ao78, co78, eo78⟩ := Kd.R_slice HO175.out; subst eo78)))
       refine bodyPost_ret (results_ct rfl _ _ gb159 31 #[.slice Ao75 t170.length co75, .slice Ao78 t173.length co78, .int .i64 t176] (0, 0) _ rfl (by refine SK ?_; refine blk_put (cs := #[.slice Ao75 t170.length co75, .slice Ao78 t173.length co78, .int .i64 0]) ?_ 2 _ rfl; refine SK ?_; refine blk_put (cs := #[.slice Ao75 t170.length co75, .slice none 0 0, .int .i64 0]) ?_ 1 _ rfl; refine SK ?_; refine blk_put (cs := #[.slice none 0 0, .slice none 0 0, .int .i64 0]) ?_ 0 _ rfl; exact SK BK159.out) Try.underlying31 rfl (by kernel_rfl)) rfl ?_
       exact ⟨_, _, KE, RQ (RT HO172.out BK159.out) (hm := fun _ h => h.1.1), RQ (RT HO175.out BK159.out) (hm := fun _ h => h.1.1), KB⟩
      ·replace c69 := Bool.eq_false_iff.mpr c69
       subst c69
       have H1 : ((impl_copyStore.f l0_0 l0_1 a0_2).bind fun bt177 => (if bt177.2.1.length < 3518437208883 then (some (bt177.1, (bt177.2.1 ++ [(⟨a1_0, a1_1, a1_2, a1_3⟩ : S35)]), bt177.2.2, true)) else (none))) = some (r1, r2, r3, r4) := by rw [if_neg (show ¬ (false = true) by decide)] at H; exact H
       clear H
       have H := H1
       clear H1
       replace H := Option.bind_eq_some_iff.mp H
       obtain ⟨⟨t177, t180, t183⟩, A790, H⟩ := H
       replace H : (if t180.length < 3518437208883 then (some (t177, (t180 ++ [(⟨a1_0, a1_1, a1_2, a1_3⟩ : S35)]), t183, true)) else (none)) = some (r1, r2, r3, r4) := H
       have A79 := Aside0.mk A790
       clear A790
       by_cases c80 : t180.length < 3518437208883
       ·rw [if_pos c80] at H
        have LMc80 := Aside0.mk c80
        clear c80
        obtain ⟨y185, hy185⟩ : ∃ y_ : List (S35), y_ = (t180 ++ [(⟨a1_0, a1_1, a1_2, a1_3⟩ : S35)]) := ⟨_, rfl⟩
        replace H : (some (t177, y185, t183, true)) = some (r1, r2, r3, r4) := by first | (rw [hy185]; with_reducible exact H) | (have H2_ := (Option.bind_some _ _).symm.trans H; rw [hy185]; with_reducible exact H2_) | (have H2_ := (Option.bind_some _ _).symm.trans H; with_reducible exact H2_) | with_reducible exact H | (rw [hy185]; exact H) | exact H
        have Ny185 := Aside0.mk hy185
        clear hy185
        simp only [Option.some.injEq, Prod.mk.injEq] at H
        obtain ⟨rfl, rfl, rfl, rfl⟩ := H
        have hnb81 := NB157_158.out
        have hnc81 := NB158_157.out
        have hnb82 := NB157_159.out
        have hnc82 := NB159_157.out
        obtain ⟨hcz83_0, hcz83_1, hcz83_2, hfz83_0, hfz83_1, hfz83_2⟩ := C3 BK157.out
        go_wp2_with (first | (go_at_call 47; (with_reducible refine (impl_copyStore.calls _ _ l0_0 _ _ l0_1 a0_2 t177 t180 t183 _ ?side1 ?side2 ?side3 ?side4 A79.out).mono ?_); (case side1 => exact KD (Kd.C_below HR0_0.out HB.out)); (case side2 => exact HC0_0.out); (case side3 => exact KD (Kd.C_below HR0_1.out HB.out)); (case side4 => exact HC0_1.out); rintro e w84 ⟨v178, v181, rfl, ho0, ho1, hb⟩; have h_ := P6 (Kd.R_lower (Kd.R_newB ho0 (g := gb158) (o := .cells #[.int .i64 a1_0, .int .i64 a1_1, .bool a1_2, .string a1_3] 35 (0, 0)) KK) (below_size KB)) (Kd.R_lower (Kd.R_newB ho1 (g := gb158) (o := .cells #[.int .i64 a1_0, .int .i64 a1_1, .bool a1_2, .string a1_3] 35 (0, 0)) KK) (below_size KB)) (BL BK157.out hb) (BL BK158.out hb) (BL BK159.out hb) (below_step KB hb); clear BK157 BK158 BK159 HB; obtain ⟨HO179, HO182, BK157, BK158, BK159, HB⟩ := h_; (try clear hb); (try clear hk); (try clear hi); (try clear ho0); (try clear ho1)) | ((with_reducible refine gate_dst (N := 6) rfl ?_); (try (refine gate_guard (by rfl) ?_; dsimp only)); refine BE 6 #[.slice none 0 0, .slice none 0 0, .int .i64 0] 31 ?_; intro gb184 hg w85 hbox hb; have h_ := P15 (Kd.R_below (KR HO179.out) hb) (Kd.R_below (KR HO182.out) hb) (BL BK157.out hb) (BL BK158.out hb) (BL BK159.out hb) (below_step KB hb) hbox (KG hg : w.heap.size ≤ gb184) (KG hg : w.heap.size ≤ gb184) (NX hg BK157.out) (Ne.symm (NX hg BK157.out)) (NX hg BK158.out) (Ne.symm (NX hg BK158.out)) (NX hg BK159.out) (Ne.symm (NX hg BK159.out)); clear HO179 HO182 BK157 BK158 BK159 HB; obtain ⟨HO179, HO182, BK157, BK158, BK159, HB, BK184, GW184, GE184, NB157_184, NB184_157, NB158_184, NB184_158, NB159_184, NB184_159⟩ := h_; clear hb hbox hg; obtain ⟨Ao86, co86, eo86⟩ := Kd.R_slice HO179.out; subst eo86; have hnb87 := NB184_157.out; have hnc87 := NB157_184.out; have hnb88 := NB184_158.out; have hnc88 := NB158_184.out; have hnb89 := NB184_159.out; have hnc89 := NB159_184.out; obtain ⟨hcz90_0, hcz90_1, hcz90_2, hfz90_0, hfz90_1, hfz90_2⟩ := C3 BK184.out; obtain ⟨Ao91, co91, eo91⟩ := Kd.R_slice HO182.out; subst eo91; have hnb92 := NB158_159.out; have hnc92 := NB159_158.out; obtain ⟨hcz93_0, hcz93_1, hcz93_2, hcz93_3, hfz93_0, hfz93_1, hfz93_2, hfz93_3⟩ := C4 BK158.out) | ((with_reducible refine gate_builtin (b := .append) (xs := #[.tmp 51, .tmp 53]) rfl ?_); (try (refine gate_guard (by rfl) ?_; dsimp only)); at_builtin; refine Kd.R_append k35 (w0 := w) w.heap.size rfl (.tmp 51) (.tmp 53) 29 35 (.agg #[(.int .i64 0), (.int .i64 0), (.bool false), (.string ⟨#[]⟩)]) 40 rfl Try.underlying29 info35 rfl (by decide) (by omega) (.slice Ao91 t180.length co91) t180 (⟨a1_0, a1_1, a1_2, a1_3⟩ : S35) [.int .i64 a1_0, .int .i64 a1_1, .bool a1_2, .string a1_3] (fun k_ => some k_ ≠ (.slice Ao86 t177.length co86 : Value).ownBlock ∧ k_ ≠ gb158) (fun _ => False) rfl (by first | (go_simp; done) | (go_simp; rfl)) ?aP (fun _ hk => hk.elim) ?aF ?aO ?aB ?aS ?aL ?_; (case aP => exact k35_mkM _ _ _ (⟨a1_0, a1_1, a1_2, a1_3⟩ : S35)); (case aB => exact KB); (case aF => exact (fun k_ hk => ⟨Kd.fresh' (Kd.R_lt (RQ (RT HO179.out BK184.out))) k_ hk, Kd.freshB (g := gb158) (o := .cells #[.int .i64 a1_0, .int .i64 a1_1, .bool a1_2, .string a1_3] 35 (0, 0)) KK k_ hk⟩)); (case aO => exact (by (with_reducible repeat (first | apply Kd.R_alloc | apply Kd.R_drewN | apply Kd.R_drew)); exact Kd.R_mono (Kd.R_far (p := ⟨gb184, 2, none⟩) (Kd.R_far (p := ⟨gb184, 1, none⟩) (Kd.R_far (p := ⟨gb184, 0, none⟩) (RT HO182.out BK184.out) (fun _ hk => hk.2) (.slice Ao86 t177.length co86)) (fun _ hk => hk.2) (.slice Ao91 t180.length co91)) (fun _ hk => hk.2) (.int .i64 t183)) (fun _ hk => ⟨hk.1.1, hk.1.2⟩))); (case aS => exact (below_size KB)); (case aL => have := LMc80.out; omega); intro v186 w94 ho hb hg hat; rw [← Ny185.out] at ho; have h_ := P7 (BW BK157.out hg (Kd.R_ne HO182.out BK157.out (by decide))) (BW BK158.out hg (Kd.R_away HO182.out (fun _ hk => hk.2))) (BW BK159.out hg (Kd.R_ne HO182.out BK159.out (by decide))) (Kd.R_after (ok := (fun k_ => k_ ≠ gb158)) (by (with_reducible repeat (first | apply Kd.R_alloc | apply Kd.R_drewN | apply Kd.R_drew)); exact Kd.R_mono (Kd.R_far (p := ⟨gb184, 2, none⟩) (Kd.R_far (p := ⟨gb184, 1, none⟩) (Kd.R_far (p := ⟨gb184, 0, none⟩) (RT HO179.out BK184.out) (fun _ hk => hk.2) (.slice Ao86 t177.length co86)) (fun _ hk => hk.2) (.slice Ao91 t180.length co91)) (fun _ hk => hk.2) (.int .i64 t183)) (fun _ hk => ⟨hk.1.2, hk.1.1⟩)) hg hat) (blk_grown (g := gb184) (o := .cells #[.slice Ao86 t177.length co86, .slice Ao91 t180.length co91, .int .i64 t183] 31 (0, 0)) (by refine SK ?_; refine blk_put (cs := #[.slice Ao86 t177.length co86, .slice Ao91 t180.length co91, .int .i64 0]) ?_ 2 _ rfl; refine SK ?_; refine blk_put (cs := #[.slice Ao86 t177.length co86, .slice none 0 0, .int .i64 0]) ?_ 1 _ rfl; refine SK ?_; refine blk_put (cs := #[.slice none 0 0, .slice none 0 0, .int .i64 0]) ?_ 0 _ rfl; exact SK BK184.out) hg (Kd.R_ne HO182.out BK184.out (by decide))) hb ho; clear BK157 BK158 BK159 HO179 BK184 HB HO182; obtain ⟨BK157, BK158, BK159, HO179, BK184, HB, HO187⟩ := h_; clear ho hb hg hat; obtain ⟨Ao95, co95, eo95⟩ := Kd.R_slice HO187.out; subst eo95; obtain ⟨hcz96_0, hcz96_1, hcz96_2, hfz96_0, hfz96_1, hfz96_2⟩ := C3 BK184.out; obtain ⟨hcz97_0, hcz97_1, hcz97_2, hfz97_0, hfz97_1, hfz97_2⟩ := C3 BK159.out))
        repeat (go_quiet (fail); try go_wp2_with (first | (go_at_call 47; (with_reducible refine (impl_copyStore.calls _ _ l0_0 _ _ l0_1 a0_2 t177 t180 t183 _ ?side1 ?side2 ?side3 ?side4 A79.out).mono ?_); (case side1 => exact KD (Kd.C_below HR0_0.out HB.out)); (case side2 => exact HC0_0.out); (case side3 => exact KD (Kd.C_below HR0_1.out HB.out)); (case side4 => exact HC0_1.out); rintro e w84 ⟨v178, v181, rfl, ho0, ho1, hb⟩; have h_ := P6 (Kd.R_lower (Kd.R_newB ho0 (g := gb158) (o := .cells #[.int .i64 a1_0, .int .i64 a1_1, .bool a1_2, .string a1_3] 35 (0, 0)) KK) (below_size KB)) (Kd.R_lower (Kd.R_newB ho1 (g := gb158) (o := .cells #[.int .i64 a1_0, .int .i64 a1_1, .bool a1_2, .string a1_3] 35 (0, 0)) KK) (below_size KB)) (BL BK157.out hb) (BL BK158.out hb) (BL BK159.out hb) (below_step KB hb); clear BK157 BK158 BK159 HB; obtain ⟨HO179, HO182, BK157, BK158, BK159, HB⟩ := h_; (try clear hb); (try clear hk); (try clear hi); (try clear ho0); (try clear ho1)) | ((with_reducible refine gate_dst (N := 6) rfl ?_); (try (refine gate_guard (by rfl) ?_; dsimp only)); refine BE 6 #[.slice none 0 0, .slice none 0 0, .int .i64 0] 31 ?_; intro gb184 hg w85 hbox hb; have h_ := P15 (Kd.R_below (KR HO179.out) hb) (Kd.R_below (KR HO182.out) hb) (BL BK157.out hb) (BL BK158.out hb) (BL BK159.out hb) (below_step KB hb) hbox (KG hg : w.heap.size ≤ gb184) (KG hg : w.heap.size ≤ gb184) (NX hg BK157.out) (Ne.symm (NX hg BK157.out)) (NX hg BK158.out) (Ne.symm (NX hg BK158.out)) (NX hg BK159.out) (Ne.symm (NX hg BK159.out)); clear HO179 HO182 BK157 BK158 BK159 HB; obtain ⟨HO179, HO182, BK157, BK158, BK159, HB, BK184, GW184, GE184, NB157_184, NB184_157, NB158_184, NB184_158, NB159_184, NB184_159⟩ := h_; clear hb hbox hg; obtain ⟨Ao86, co86, eo86⟩ := Kd.R_slice HO179.out; subst eo86; have hnb87 := NB184_157.out; have hnc87 := NB157_184.out; have hnb88 := NB184_158.out; have hnc88 := NB158_184.out; have hnb89 := NB184_159.out; have hnc89 := NB159_184.out; obtain ⟨hcz90_0, hcz90_1, hcz90_2, hfz90_0, hfz90_1, hfz90_2⟩ := C3 BK184.out; obtain ⟨Ao91, co91, eo91⟩ := Kd.R_slice HO182.out; subst eo91; have hnb92 := NB158_159.out; have hnc92 := NB159_158.out; obtain ⟨hcz93_0, hcz93_1, hcz93_2, hcz93_3, hfz93_0, hfz93_1, hfz93_2, hfz93_3⟩ := C4 BK158.out) | ((with_reducible refine gate_builtin (b := .append) (xs := #[.tmp 51, .tmp 53]) rfl ?_); (try (refine gate_guard (by rfl) ?_; dsimp only)); at_builtin; refine Kd.R_append k35 (w0 := w) w.heap.size rfl (.tmp 51) (.tmp 53) 29 35 (.agg #[(.int .i64 0), (.int .i64 0), (.bool false), (.string ⟨#[]⟩)]) 40 rfl Try.underlying29 info35 rfl (by decide) (by omega) (.slice Ao91 t180.length co91) t180 (⟨a1_0, a1_1, a1_2, a1_3⟩ : S35) [.int .i64 a1_0, .int .i64 a1_1, .bool a1_2, .string a1_3] (fun k_ => some k_ ≠ (.slice Ao86 t177.length co86 : Value).ownBlock ∧ k_ ≠ gb158) (fun _ => False) rfl (by first | (go_simp; done) | (go_simp; rfl)) ?aP (fun _ hk => hk.elim) ?aF ?aO ?aB ?aS ?aL ?_; (case aP => exact k35_mkM _ _ _ (⟨a1_0, a1_1, a1_2, a1_3⟩ : S35)); (case aB => exact KB); (case aF => exact (fun k_ hk => ⟨Kd.fresh' (Kd.R_lt (RQ (RT HO179.out BK184.out))) k_ hk, Kd.freshB (g := gb158) (o := .cells #[.int .i64 a1_0, .int .i64 a1_1, .bool a1_2, .string a1_3] 35 (0, 0)) KK k_ hk⟩)); (case aO => exact (by (with_reducible repeat (first | apply Kd.R_alloc | apply Kd.R_drewN | apply Kd.R_drew)); exact Kd.R_mono (Kd.R_far (p := ⟨gb184, 2, none⟩) (Kd.R_far (p := ⟨gb184, 1, none⟩) (Kd.R_far (p := ⟨gb184, 0, none⟩) (RT HO182.out BK184.out) (fun _ hk => hk.2) (.slice Ao86 t177.length co86)) (fun _ hk => hk.2) (.slice Ao91 t180.length co91)) (fun _ hk => hk.2) (.int .i64 t183)) (fun _ hk => ⟨hk.1.1, hk.1.2⟩))); (case aS => exact (below_size KB)); (case aL => have := LMc80.out; omega); intro v186 w94 ho hb hg hat; rw [← Ny185.out] at ho; have h_ := P7 (BW BK157.out hg (Kd.R_ne HO182.out BK157.out (by decide))) (BW BK158.out hg (Kd.R_away HO182.out (fun _ hk => hk.2))) (BW BK159.out hg (Kd.R_ne HO182.out BK159.out (by decide))) (Kd.R_after (ok := (fun k_ => k_ ≠ gb158)) (by (with_reducible repeat (first | apply Kd.R_alloc | apply Kd.R_drewN | apply Kd.R_drew)); exact Kd.R_mono (Kd.R_far (p := ⟨gb184, 2, none⟩) (Kd.R_far (p := ⟨gb184, 1, none⟩) (Kd.R_far (p := ⟨gb184, 0, none⟩) (RT HO179.out BK184.out) (fun _ hk => hk.2) (.slice Ao86 t177.length co86)) (fun _ hk => hk.2) (.slice Ao91 t180.length co91)) (fun _ hk => hk.2) (.int .i64 t183)) (fun _ hk => ⟨hk.1.2, hk.1.1⟩)) hg hat) (blk_grown (g := gb184) (o := .cells #[.slice Ao86 t177.length co86, .slice Ao91 t180.length co91, .int .i64 t183] 31 (0, 0)) (by refine SK ?_; refine blk_put (cs := #[.slice Ao86 t177.length co86, .slice Ao91 t180.length co91, .int .i64 0]) ?_ 2 _ rfl; refine SK ?_; refine blk_put (cs := #[.slice Ao86 t177.length co86, .slice none 0 0, .int .i64 0]) ?_ 1 _ rfl; refine SK ?_; refine blk_put (cs := #[.slice none 0 0, .slice none 0 0, .int .i64 0]) ?_ 0 _ rfl; exact SK BK184.out) hg (Kd.R_ne HO182.out BK184.out (by decide))) hb ho; clear BK157 BK158 BK159 HO179 BK184 HB HO182; obtain ⟨BK157, BK158, BK159, HO179, BK184, HB, HO187⟩ := h_; clear ho hb hg hat; obtain ⟨Ao95, co95, eo95⟩ := Kd.R_slice HO187.out; subst eo95; obtain ⟨hcz96_0, hcz96_1, hcz96_2, hfz96_0, hfz96_1, hfz96_2⟩ := C3 BK184.out; obtain ⟨hcz97_0, hcz97_1, hcz97_2, hfz97_0, hfz97_1, hfz97_2⟩ := C3 BK159.out)))
        refine bodyPost_ret (results_ct rfl _ _ gb159 31 #[.slice Ao86 t177.length co86, .slice Ao95 y185.length co95, .int .i64 t183] (0, 0) _ rfl (by refine SK ?_; refine blk_put (cs := #[.slice Ao86 t177.length co86, .slice Ao95 y185.length co95, .int .i64 0]) ?_ 2 _ rfl; refine SK ?_; refine blk_put (cs := #[.slice Ao86 t177.length co86, .slice none 0 0, .int .i64 0]) ?_ 1 _ rfl; refine SK ?_; refine blk_put (cs := #[.slice none 0 0, .slice none 0 0, .int .i64 0]) ?_ 0 _ rfl; refine SK ?_; refine blk_far ?_ NB159_184.out _; exact SK BK159.out) Try.underlying31 rfl (by kernel_rfl)) rfl ?_
        exact ⟨_, _, KE, RQ (RT (RT HO179.out BK184.out) BK159.out) (hm := fun _ h => h.1.1.2), RQ (RT (RT HO187.out BK184.out) BK159.out) (hm := fun _ h => h.1.1.1), KB⟩
       ·rw [if_neg c80] at H
        exact absurd H (by simp)

/-! ### laws_big: function 20 -/
def laws_big.f (l0 : List Int) : Option (Bool) := some (decide ((l0.length : Int) > 1048576))
set_option maxHeartbeats 8000000 in
set_option maxRecDepth 100000 in
theorem laws_big.calls (A0 : Option Addr) (c0 : Nat) (l0 : List Int) (r : Bool) (w : World) (hr0 : Kd.C (Kd.int .u8) w A0 l0.length l0) (hc0 : l0.length ≤ c0) (h : laws_big.f l0 = some r) :
  Calls Try.prog 20 #[.slice A0 l0.length c0] w fun e w' => e = .returned (.bool r) ∧ Drawn0 w w' := by
 have HR0 := Aside0.mk hr0
 have HC0 := Aside0.mk hc0
 clear hr0 hc0
 have H : (some (decide ((l0.length : Int) > 1048576))) = some r := h
 clear h
 obtain rfl := Option.some.inj H
 go_enter Try.func20, Try.ntmps20
 go_wp2
 go_ret
 exact ⟨by first | rfl | (simp; done) | (simp [*]; done), by repeat (first | exact Drawn0.refl _ | apply Drawn0.step)⟩

/-- A state of type 87 at block g of W; what its slices lead to came in by w0. -/
def IsS87 (w0 W : World) (g : Nat) (f0 : List Int) (f1 : Int) (f2 : Int) : Prop := ∃ A0 c0, W.heap[g]? = some (.cells #[.slice A0 f0.length c0, .int .i64 f1, .int .i64 f2] 87 (0, 0)) ∧ w0.heap.size ≤ g ∧ (Kd.C (Kd.int .u8) w0 A0 f0.length f0 ∧ f0.length ≤ c0)
theorem IsS87.grown {w0 W : World} {g : Nat} {f0 : List Int} {f1 : Int} {f2 : Int} {W1 : World} {row : Option Nat} (h : IsS87 w0 W g f0 f1 f2) (hw : W.grownBy W1 row) (hne : some g ≠ row) : IsS87 w0 W1 g f0 f1 f2 := by
 obtain ⟨A0, c0, hb, hg, hr0⟩ := h
 exact ⟨A0, c0, blk_grown hb hw hne, hg, hr0⟩
theorem IsS87.own_neN {w0 W : World} {g : Nat} {f0 : List Int} {f1 : Int} {f2 : Int} {α : Type} {d : Kd α} {e : Nat} {base : Nat} {ok : Nat → Prop} {v : Value} {xs : List α} (h : IsS87 w0 W g f0 f1 f2) (ho : Kd.N d e W base ok v xs) (ht : e ≠ 87) : some g ≠ v.ownBlock := by
 obtain ⟨A0, c0, hb, hg, hr0⟩ := h
 exact Kd.N_ne ho hb ht
theorem IsS87.fresh {w0 W : World} {g : Nat} {f0 : List Int} {f1 : Int} {f2 : Int} (h : IsS87 w0 W g f0 f1 f2) : ∀ k, W.heap.size ≤ k → k ≠ g := by
 obtain ⟨A0, c0, hb, hg, hr0⟩ := h
 exact Kd.freshB hb
theorem IsS87.kept {w0 W : World} {g : Nat} {f0 : List Int} {f1 : Int} {f2 : Int} {W1 : World} {S : Nat → Prop} (h : IsS87 w0 W g f0 f1 f2) (hk : Kept W W1 S) (hne : ¬ S g) : IsS87 w0 W1 g f0 f1 f2 := by
 obtain ⟨A0, c0, hb, hg, hr0⟩ := h
 exact ⟨A0, c0, blk_kept hb hk hne, hg, hr0⟩
theorem IsS87.below {w0 W : World} {g : Nat} {f0 : List Int} {f1 : Int} {f2 : Int} {W1 : World} (h : IsS87 w0 W g f0 f1 f2) (hw : Below W.heap.size W W1) : IsS87 w0 W1 g f0 f1 f2 := h.grown (grown_of_below hw none) (by simp)
theorem IsS87.alloc {w0 W : World} {g : Nat} {f0 : List Int} {f1 : Int} {f2 : Int} (h : IsS87 w0 W g f0 f1 f2) (o : Obj) : IsS87 w0 (W.alloc o) g f0 f1 f2 := h.below (below_alloc (Below.refl _ _) o)
theorem IsS87.drewN {w0 W : World} {g : Nat} {f0 : List Int} {f1 : Int} {f2 : Int} (h : IsS87 w0 W g f0 f1 f2) (m : Nat) : IsS87 w0 (W.drewN m) g f0 f1 f2 := h
theorem IsS87.drew {w0 W : World} {g : Nat} {f0 : List Int} {f1 : Int} {f2 : Int} (h : IsS87 w0 W g f0 f1 f2) : IsS87 w0 W.drew g f0 f1 f2 := h
theorem IsS87.at_ {w0 W : World} {g : Nat} {f0 : List Int} {f1 : Int} {f2 : Int} {w' : World} {m : Nat} (hq : W.drewN m = w') (h : IsS87 w0 W g f0 f1 f2) : IsS87 w0 w' g f0 f1 f2 := by subst hq; exact IsS87.drewN h m
theorem IsS87.apart {w0 W : World} {g : Nat} {f0 : List Int} {f1 : Int} {f2 : Int} {α : Type} {d : Kd α} {e : Nat} {base : Nat} {ok : Nat → Prop} {v : Value} {xs : List α} (h : IsS87 w0 W g f0 f1 f2) (ho : d.R e W base ok v xs) (ht : ∀ q, q ∈ e :: d.E → q ≠ 87) : d.R e W base (fun k => ok k ∧ k ≠ g) v xs := by
 obtain ⟨A0, c0, hb, hg, hr0⟩ := h
 exact Kd.R_types ho hb ht
theorem IsS87.own_ne {w0 W : World} {g : Nat} {f0 : List Int} {f1 : Int} {f2 : Int} {α : Type} {d : Kd α} {e : Nat} {base : Nat} {ok : Nat → Prop} {v : Value} {xs : List α} (h : IsS87 w0 W g f0 f1 f2) (ho : d.R e W base ok v xs) (ht : e ≠ 87) : some g ≠ v.ownBlock := by
 obtain ⟨A0, c0, hb, hg, hr0⟩ := h
 exact Kd.R_ne ho hb ht
theorem IsS87.apartQ {w0 W : World} {g : Nat} {f0 : List Int} {f1 : Int} {f2 : Int} {α : Type} {d : Kd α} {e : Nat} {base : Nat} {ok : Nat → Prop} {v : Value} {xs : List α} (h : IsS87 w0 W g f0 f1 f2) (ho : d.Q e W base ok v xs) (ht : ∀ q, q ∈ e :: d.E → q ≠ 87) : d.Q e W base (fun k => ok k ∧ k ≠ g) v xs := by
 obtain ⟨A0, c0, hb, hg, hr0⟩ := h
 exact Kd.Q_types ho hb ht
theorem IsS87.own_neQ {w0 W : World} {g : Nat} {f0 : List Int} {f1 : Int} {f2 : Int} {α : Type} {d : Kd α} {e : Nat} {base : Nat} {ok : Nat → Prop} {v : Value} {xs : List α} (h : IsS87 w0 W g f0 f1 f2) (ho : d.Q e W base ok v xs) (ht : e ≠ 87) : some g ≠ v.ownBlock := by
 obtain ⟨A0, c0, hb, hg, hr0⟩ := h
 exact Kd.Q_ne ho hb ht
theorem IsS87.apartS {w0 W : World} {g : Nat} {f0 : List Int} {f1 : Int} {f2 : Int} {α : Type} {d : Kd α} {e : Nat} {base : Nat} {ok : Nat → Prop} {v : Value} {xs : List α} (h : IsS87 w0 W g f0 f1 f2) (ho : d.S e W base ok v xs) (ht : ∀ q, q ∈ e :: d.E → q ≠ 87) : d.S e W base (fun k => ok k ∧ k ≠ g) v xs := by
 obtain ⟨A0, c0, hb, hg, hr0⟩ := h
 exact Kd.S_types ho hb ht
theorem IsS87.own_neS {w0 W : World} {g : Nat} {f0 : List Int} {f1 : Int} {f2 : Int} {α : Type} {d : Kd α} {e : Nat} {base : Nat} {ok : Nat → Prop} {v : Value} {xs : List α} (h : IsS87 w0 W g f0 f1 f2) (ho : d.S e W base ok v xs) (ht : e ≠ 87) : some g ≠ v.ownBlock := by
 obtain ⟨A0, c0, hb, hg, hr0⟩ := h
 exact Kd.S_ne ho hb ht
theorem IsS87.lt {w0 W : World} {g : Nat} {f0 : List Int} {f1 : Int} {f2 : Int} (h : IsS87 w0 W g f0 f1 f2) : g < W.heap.size := by
 obtain ⟨A0, c0, hb, hg, hr0⟩ := h
 exact blk_lt hb
theorem IsS87.ge {w0 W : World} {g : Nat} {f0 : List Int} {f1 : Int} {f2 : Int} (h : IsS87 w0 W g f0 f1 f2) : w0.heap.size ≤ g := by
 obtain ⟨A0, c0, hb, hg, hr0⟩ := h
 exact hg
theorem IsS87.ne_blk {w0 W : World} {g : Nat} {f0 : List Int} {f1 : Int} {f2 : Int} {a : Nat} {cs : Array Value} {t : TypeId} {fr : Nat × Nat} (h : IsS87 w0 W g f0 f1 f2) (hb2 : W.heap[a]? = some (.cells cs t fr)) (ht : t ≠ 87) : g ≠ a := by
 obtain ⟨A0, c0, hb, hg, hr0⟩ := h
 rintro rfl
 rw [hb] at hb2
 injection hb2 with hb2
 injection hb2 with _ ht2
 exact ht ht2.symm
theorem IsS87.far {w0 W : World} {g : Nat} {f0 : List Int} {f1 : Int} {f2 : Int} {p : Addr} (h : IsS87 w0 W g f0 f1 f2) (hne : g ≠ p.block) (u : Value) : IsS87 w0 (W.setCell p u) g f0 f1 f2 := by
 obtain ⟨A0, c0, hb, hg, hr0⟩ := h
 exact ⟨A0, c0, blk_far hb hne u, hg, hr0⟩
theorem cellS87_0 {W : World} {g : Nat} {A0 : Option Addr} {c0 : Nat} {f0 : List Int} {f1 : Int} {f2 : Int} (h : W.heap[g]? = some (.cells #[.slice A0 f0.length c0, .int .i64 f1, .int .i64 f2] 87 (0, 0))) : W.cell? ⟨g, 0, none⟩ = some (.slice A0 f0.length c0) := (blk_cell h 0).trans rfl
theorem cellS87_1 {W : World} {g : Nat} {A0 : Option Addr} {c0 : Nat} {f0 : List Int} {f1 : Int} {f2 : Int} (h : W.heap[g]? = some (.cells #[.slice A0 f0.length c0, .int .i64 f1, .int .i64 f2] 87 (0, 0))) : W.cell? ⟨g, 1, none⟩ = some (.int .i64 f1) := (blk_cell h 1).trans rfl
theorem IsS87.set_1 {w0 W : World} {g : Nat} {f0 : List Int} {f1 : Int} {f2 : Int} (h : IsS87 w0 W g f0 f1 f2) (x : Int) : IsS87 w0 (W.setCell ⟨g, 1, none⟩ (.int .i64 x)) g f0 x f2 := by
 obtain ⟨A0, c0, hb, hg, hr0⟩ := h
 exact ⟨A0, c0, by simpa using blk_set hb 1 (.int .i64 x), hg, hr0⟩
theorem cellS87_2 {W : World} {g : Nat} {A0 : Option Addr} {c0 : Nat} {f0 : List Int} {f1 : Int} {f2 : Int} (h : W.heap[g]? = some (.cells #[.slice A0 f0.length c0, .int .i64 f1, .int .i64 f2] 87 (0, 0))) : W.cell? ⟨g, 2, none⟩ = some (.int .i64 f2) := (blk_cell h 2).trans rfl
theorem IsS87.set_2 {w0 W : World} {g : Nat} {f0 : List Int} {f1 : Int} {f2 : Int} (h : IsS87 w0 W g f0 f1 f2) (x : Int) : IsS87 w0 (W.setCell ⟨g, 2, none⟩ (.int .i64 x)) g f0 f1 x := by
 obtain ⟨A0, c0, hb, hg, hr0⟩ := h
 exact ⟨A0, c0, by simpa using blk_set hb 2 (.int .i64 x), hg, hr0⟩
theorem IsS87.new (w0 W : World) (A0 : Option Addr) (c0 : Nat) (f0 : List Int) (f1 : Int) (f2 : Int) (hB : Below w0.heap.size w0 W) (hr0 : Kd.C (Kd.int .u8) w0 A0 f0.length f0 ∧ f0.length ≤ c0) : IsS87 w0 (W.alloc (.cells #[.slice A0 f0.length c0, .int .i64 f1, .int .i64 f2] 87)) W.heap.size f0 f1 f2 := ⟨A0, c0, by simpa using heap_alloc_new W _, hB.size, hr0⟩
theorem KI87 {p : Prop} (h : p := by repeat (first | (with_reducible first | exact Aside0.out (by assumption) | apply IsS87.alloc | apply IsS87.drewN | apply IsS87.drew | apply IsS87.set_1 | apply IsS87.set_2 | refine IsS87.far ?_ (Aside0.out (by assumption)) _) | exact Aside0.out (by assumption))) : p := h
theorem KBh87 {w W W' : World} (h0 : Below w.heap.size w W') (h : Below w.heap.size w W' → Below w.heap.size w W := by intro hq_; repeat (first | (with_reducible first | exact hq_ | apply below_alloc | apply pw_below_drewN | apply below_drew1 | refine below_set ?_ (Aside0.out (by assumption)) | refine below_set ?_ (IsS87.ge (Aside0.out (by assumption)))) | exact hq_)) : Below w.heap.size w W := h h0
theorem KB87 {p : Prop} (h : p := by repeat (first | (with_reducible first | exact Aside0.out (by assumption) | apply below_alloc | apply pw_below_drewN | apply below_drew1 | refine below_set ?_ (Aside0.out (by assumption)) | refine below_set ?_ (IsS87.ge (Aside0.out (by assumption)))) | exact Aside0.out (by assumption))) : p := h

/-! ### spec_l1New: function 55 -/
def spec_l1New.l0 : Nat → List Int → Int → Int → Option (List Int × Int × Int)
 | 0, _, _, _ => none
 | k + 1, x0, x3, x4 => if x4 < (x0.length : Int) then (if x4 < 4000 then (if 0 ≤ x4 then (spec_l1New.l0 k x0 (Go.bits .and .i64 (wrap64 ((wrap64 ((wrap64 (x3 * 131)) + (wrap64 (rd x0 x4)))) + 7)) 1073741823) (wrap64 (x4 + 1))) else (none)) else (some (x0, 0, x3))) else (some (x0, 0, x3))
def spec_l1New.f (k : Nat) (l0 : List Int) : Option (List Int × Int × Int) := spec_l1New.l0 k l0 (wrap64 (17817 + (l0.length : Int))) 0
theorem spec_l1New.mono_l : ∀ k, (∀ y0 y1 y2, LeO (spec_l1New.l0 k y0 y1 y2) (spec_l1New.l0 (k + 1) y0 y1 y2))
 | 0 => fun _ _ _ r h => by simp [spec_l1New.l0] at h
 | k + 1 => by
  have ih0 := spec_l1New.mono_l k
  ·intro y0 y1 y2
   unfold spec_l1New.l0
   repeat' first
   | (with_reducible exact ih0 _ _ _)
   | (with_reducible exact LeO.refl _)
   | (with_reducible exact LeO.none _)
   | (with_reducible refine LeO.ite ?_ ?_)
   | (with_reducible refine LeO.bind ?_ (fun _ => ?_))
   | exact ih0 _ _ _
   | exact LeO.none _
   | refine LeO.ite ?_ ?_
   | refine LeO.bind ?_ (fun _ => ?_)
theorem spec_l1New.mono : ∀ a0 k, LeO (spec_l1New.f k a0) (spec_l1New.f (k + 1) a0) := by
 intro a0 k
 have ih0 := spec_l1New.mono_l k
 unfold spec_l1New.f
 repeat' first
   | (with_reducible exact ih0 _ _ _)
   | (with_reducible exact LeO.refl _)
   | (with_reducible exact LeO.none _)
   | (with_reducible refine LeO.ite ?_ ?_)
   | (with_reducible refine LeO.bind ?_ (fun _ => ?_))
   | exact ih0 _ _ _
   | exact LeO.none _
   | refine LeO.ite ?_ ?_
   | refine LeO.bind ?_ (fun _ => ?_)
set_option maxHeartbeats 8000000 in
set_option maxRecDepth 100000 in
theorem spec_l1New.calls (k : Nat) (A0 : Option Addr) (c0 : Nat) (l0 : List Int) (r1 : List Int) (r2 : Int) (r3 : Int) (w0 w : World) (hB : Below w0.heap.size w0 w) (hr0 : Kd.C (Kd.int .u8) w0 A0 l0.length l0) (hc0 : l0.length ≤ c0) (h : spec_l1New.f k l0 = some (r1, r2, r3)) :
  Calls Try.prog 55 #[.slice A0 l0.length c0] w fun e w' => ∃ g_ : Nat, e = .returned (.pointer (some ⟨g_, 0, none⟩)) ∧ IsS87 w0 w' g_ r1 r2 r3 ∧ Below w0.heap.size w0 w' ∧ Below w.heap.size w w' := by
 have hu87 := Try.underlying87
 have HR0 := Aside0.mk hr0
 have HC0 := Aside0.mk hc0
 clear hr0 hc0
 have HBW := Aside0.mk (Below.refl w.heap.size w)
 have HW0 := Aside0.mk hB.size
 have HB := Aside0.mk hB
 clear hB
 have H : (spec_l1New.l0 k l0 (wrap64 (17817 + (l0.length : Int))) 0) = some (r1, r2, r3) := h
 clear h
 have H' := Aside0.mk H
 clear H
 go_enter Try.func55, Try.ntmps55
 go_wp2
 go_loopg [3, 4] k (fun kq v3 v4 w' => ∃ (x3_1 : Int) (x4_1 : Int), v3 = .int .i64 x3_1 ∧ v4 = .int .i64 x4_1 ∧ Aside0 (spec_l1New.l0 kq l0 x3_1 x4_1 = some (r1, r2, r3)) ∧ Aside0 (kq ≤ k) ∧ Aside0 (Below w0.heap.size w0 w') ∧ Aside0 (Below w.heap.size w w'))
 case atStart => exact ⟨(wrap64 (17817 + (l0.length : Int))), (0), (by first | rfl | (simp; done) | (simp [*]; done)), (by first | rfl | (simp; done) | (simp [*]; done)), H', ⟨Nat.le_refl _⟩, ⟨KB⟩, HBW⟩
 case round =>
  clear H'
  obtain ⟨x3_1, x4_1, rfl, rfl, HA, HK1, HB, HBW⟩ := hrel
  cases gk with
  | zero => exact absurd HA.out (by simp [spec_l1New.l0])
  | succ k1 =>
   have H := HA.out
   clear HA
   simp only [spec_l1New.l0] at H
   by_cases c2 : x4_1 < (l0.length : Int)
   ·rw [if_pos c2] at H
    have c2b0 : decide (x4_1 < (l0.length : Int)) = true := decide_eq_true c2
    clear c2
    by_cases c3 : x4_1 < 4000
    ·rw [if_pos c3] at H
     have c3b0 : decide (x4_1 < 4000) = true := decide_eq_true c3
     clear c3
     by_cases c4 : 0 ≤ x4_1
     ·rw [if_pos c4] at H
      have c4b0 : decide (0 ≤ x4_1) = true := decide_eq_true c4
      clear c4
      have H' := Aside0.mk H
      clear H
      have p188 : 0 ≤ (x4_1 : Int) := of_decide_eq_true (by first | (with_reducible assumption) | assumption)
      have q188 : x4_1 < (l0.length : Int) := of_decide_eq_true (by first | (with_reducible assumption) | assumption)
      obtain ⟨ad188, e188, hx188_0⟩ := Kd.at_int HR0.out x4_1 p188 q188
      cases e188
      replace hx188_0 := pw_cell_below HB.out hx188_0
      replace p188 := eq_true p188
      replace q188 := eq_true q188
      go_wp2
      go_roundg k1
      case measure => have := HK1.out; omega
      case rel => exact ⟨(Go.bits .and .i64 (wrap64 ((wrap64 ((wrap64 (x3_1 * 131)) + (wrap64 (rd l0 x4_1)))) + 7)) 1073741823), (wrap64 (x4_1 + 1)), (by first | rfl | (simp; done) | (simp [*]; done)), (by first | rfl | (simp; done) | (simp [*]; done)), H', ⟨by have := HK1.out; omega⟩, ⟨KB⟩, ⟨by repeat (first | (with_reducible first | exact HBW.out | apply below_alloc | apply pw_below_drewN | apply below_drew1) | exact HBW.out)⟩⟩
     ·rw [if_neg c4] at H
      exact absurd H (by simp)
    ·rw [if_neg c3] at H
     have c3b0 : decide (x4_1 < 4000) = false := decide_eq_false c3
     clear c3
     simp only [Option.some.injEq, Prod.mk.injEq] at H
     obtain ⟨rfl, rfl, rfl⟩ := H
     go_wp2
     go_ret
     exact ⟨wr.heap.size, rfl, (show IsS87 w0 _ wr.heap.size l0 0 x3_1 from ⟨_, _, heap_alloc_new _ _, below_size HB.out, ⟨HR0.out, HC0.out⟩⟩), below_alloc HB.out _, below_alloc HBW.out _⟩
   ·rw [if_neg c2] at H
    have c2b0 : decide (x4_1 < (l0.length : Int)) = false := decide_eq_false c2
    clear c2
    simp only [Option.some.injEq, Prod.mk.injEq] at H
    obtain ⟨rfl, rfl, rfl⟩ := H
    go_wp2
    go_ret
    exact ⟨wr.heap.size, rfl, (show IsS87 w0 _ wr.heap.size l0 0 x3_1 from ⟨_, _, heap_alloc_new _ _, below_size HB.out, ⟨HR0.out, HC0.out⟩⟩), below_alloc HB.out _, below_alloc HBW.out _⟩

end Go.Proofs.Ytnoghojlpicecaa.PFnSealed
