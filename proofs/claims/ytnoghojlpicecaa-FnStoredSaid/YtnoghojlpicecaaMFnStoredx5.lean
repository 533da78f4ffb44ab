-- What each Go function that this law reaches comes to: written by a program out of the translation.
import Derived.Test.YtnoghojlpicecaaMFnStoredx0
import Derived.Test.YtnoghojlpicecaaMFnStoredx2
import Derived.Test.YtnoghojlpicecaaMFnStoredx3
import Derived.Test.YtnoghojlpicecaaMFnStoredx4
namespace Go.Proofs.Ytnoghojlpicecaa.PFnStored
open Go.RowKit Go.Proofs.YtnoghojlpicecaaW.PrintWords Go.Proofs.YtnoghojlpicecaaW.PrintLast Go.Proofs.YtnoghojlpicecaaW.PrintMore
attribute [local go_sem] max2_int min2_int max_two min_two max_three min_three max_four min_four   -- for this text's walks alone
set_option linter.unusedVariables false
set_option linter.unusedSimpArgs false

/-! ### impl_StorePut: function 14 -/
mutual
def impl_StorePut.j0 : Nat → Bool → List (S35) → List (S35) → Int → Int → Int → Bool → ByteArray → Option ((List (S35)) × (List (S35)) × Int × Bool)
 | 0, _, _, _, _, _, _, _, _ => none
 | k + 1, x20, x208000, x208001, x208002, x209000, x209001, x209002, x209003 => if x20 = true then ((impl_storeAsWas.f k x208000 x208001 x208002).bind fun bt212 => (some (bt212.1, bt212.2.1, bt212.2.2, false))) else (if x209001 = 0 then ((impl_EpochOf.f x209000).bind fun t219 => (if t219 ≤ x208002 then (impl_StorePut.j1 k true x208000 x208001 x208002 x209000 x209001 x209002 x209003) else (if x209001 > 0 then (impl_StorePut.j1 k (decide (x209001 ≤ x208002)) x208000 x208001 x208002 x209000 x209001 x209002 x209003) else (impl_StorePut.j1 k false x208000 x208001 x208002 x209000 x209001 x209002 x209003)))) else (if x209001 > 0 then (impl_StorePut.j1 k (decide (x209001 ≤ x208002)) x208000 x208001 x208002 x209000 x209001 x209002 x209003) else (impl_StorePut.j1 k false x208000 x208001 x208002 x209000 x209001 x209002 x209003)))
def impl_StorePut.j1 : Nat → Bool → List (S35) → List (S35) → Int → Int → Int → Bool → ByteArray → Option ((List (S35)) × (List (S35)) × Int × Bool)
 | 0, _, _, _, _, _, _, _, _ => none
 | k + 1, x45, x208000, x208001, x208002, x209000, x209001, x209002, x209003 => if x45 = true then ((impl_copyStore.f x208000 x208001 x208002).bind fun bt220 => (some (bt220.1, bt220.2.1, bt220.2.2, false))) else ((impl_copyStore.f x208000 x208001 x208002).bind fun bt227 => (if bt227.2.1.length < 3518437208883 then (some (bt227.1, (bt227.2.1 ++ [(⟨x209000, x209001, x209002, x209003⟩ : S35)]), bt227.2.2, true)) else (none)))
end
def impl_StorePut.f (k : Nat) (l0_0 : List (S35)) (l0_1 : List (S35)) (a0_2 : Int) (a1_0 : Int) (a1_1 : Int) (a1_2 : Bool) (a1_3 : ByteArray) : Option ((List (S35)) × (List (S35)) × Int × Bool) := (impl_StoreOk.f k l0_0 l0_1 a0_2).bind fun t210 => (if t210 = true then ((impl_EntryOk.f a1_0 a1_1 a1_2 a1_3).bind fun t211 => (if t211 = true then (impl_StorePut.j0 k ((l0_1.length : Int) == 20) l0_0 l0_1 a0_2 a1_0 a1_1 a1_2 a1_3) else (impl_StorePut.j0 k true l0_0 l0_1 a0_2 a1_0 a1_1 a1_2 a1_3))) else (impl_StorePut.j0 k true l0_0 l0_1 a0_2 a1_0 a1_1 a1_2 a1_3))
theorem impl_StorePut.mono_l : ∀ k, (∀ y0 y1 y2 y3 y4 y5 y6 y7, LeO (impl_StorePut.j0 k y0 y1 y2 y3 y4 y5 y6 y7) (impl_StorePut.j0 (k + 1) y0 y1 y2 y3 y4 y5 y6 y7)) ∧ (∀ y0 y1 y2 y3 y4 y5 y6 y7, LeO (impl_StorePut.j1 k y0 y1 y2 y3 y4 y5 y6 y7) (impl_StorePut.j1 (k + 1) y0 y1 y2 y3 y4 y5 y6 y7))
 | 0 => ⟨fun _ _ _ _ _ _ _ _ r h => by simp [impl_StorePut.j0] at h, fun _ _ _ _ _ _ _ _ r h => by simp [impl_StorePut.j1] at h⟩
 | k + 1 => by
  obtain ⟨ih0, ih1⟩ := impl_StorePut.mono_l k; refine ⟨?_, ?_⟩
  ·intro y0 y1 y2 y3 y4 y5 y6 y7
   unfold impl_StorePut.j0
   repeat' first
   | (with_reducible exact ih0 _ _ _ _ _ _ _ _)
   | (with_reducible exact ih1 _ _ _ _ _ _ _ _)
   | (with_reducible exact impl_StoreOk.mono _ _ _ _)
   | (with_reducible exact impl_storeAsWas.mono _ _ _ _)
   | (with_reducible exact LeO.refl _)
   | (with_reducible exact LeO.none _)
   | (with_reducible refine LeO.ite ?_ ?_)
   | (with_reducible refine LeO.bind ?_ (fun _ => ?_))
   | exact ih0 _ _ _ _ _ _ _ _
   | exact ih1 _ _ _ _ _ _ _ _
   | exact impl_StoreOk.mono _ _ _ _
   | exact impl_storeAsWas.mono _ _ _ _
   | exact LeO.none _
   | refine LeO.ite ?_ ?_
   | refine LeO.bind ?_ (fun _ => ?_)
  ·intro y0 y1 y2 y3 y4 y5 y6 y7
   unfold impl_StorePut.j1
   repeat' first
   | (with_reducible exact ih0 _ _ _ _ _ _ _ _)
   | (with_reducible exact ih1 _ _ _ _ _ _ _ _)
   | (with_reducible exact impl_StoreOk.mono _ _ _ _)
   | (with_reducible exact impl_storeAsWas.mono _ _ _ _)
   | (with_reducible exact LeO.refl _)
   | (with_reducible exact LeO.none _)
   | (with_reducible refine LeO.ite ?_ ?_)
   | (with_reducible refine LeO.bind ?_ (fun _ => ?_))
   | exact ih0 _ _ _ _ _ _ _ _
   | exact ih1 _ _ _ _ _ _ _ _
   | exact impl_StoreOk.mono _ _ _ _
   | exact impl_storeAsWas.mono _ _ _ _
   | exact LeO.none _
   | refine LeO.ite ?_ ?_
   | refine LeO.bind ?_ (fun _ => ?_)
theorem impl_StorePut.mono : ∀ a0 a1 a2 a3 a4 a5 a6 k, LeO (impl_StorePut.f k a0 a1 a2 a3 a4 a5 a6) (impl_StorePut.f (k + 1) a0 a1 a2 a3 a4 a5 a6) := by
 intro a0 a1 a2 a3 a4 a5 a6 k; obtain ⟨ih0, ih1⟩ := impl_StorePut.mono_l k
 unfold impl_StorePut.f
 repeat' first
   | (with_reducible exact ih0 _ _ _ _ _ _ _ _)
   | (with_reducible exact ih1 _ _ _ _ _ _ _ _)
   | (with_reducible exact impl_StoreOk.mono _ _ _ _)
   | (with_reducible exact impl_storeAsWas.mono _ _ _ _)
   | (with_reducible exact LeO.refl _)
   | (with_reducible exact LeO.none _)
   | (with_reducible refine LeO.ite ?_ ?_)
   | (with_reducible refine LeO.bind ?_ (fun _ => ?_))
   | exact ih0 _ _ _ _ _ _ _ _
   | exact ih1 _ _ _ _ _ _ _ _
   | exact impl_StoreOk.mono _ _ _ _
   | exact impl_storeAsWas.mono _ _ _ _
   | exact LeO.none _
   | refine LeO.ite ?_ ?_
   | refine LeO.bind ?_ (fun _ => ?_)
set_option maxHeartbeats 8000000 in
set_option maxRecDepth 100000 in
theorem impl_StorePut.calls (k : Nat) (A0_0 : Option Addr) (c0_0 : Nat) (l0_0 : List (S35)) (A0_1 : Option Addr) (c0_1 : Nat) (l0_1 : List (S35)) (a0_2 : Int) (a1_0 : Int) (a1_1 : Int) (a1_2 : Bool) (a1_3 : ByteArray) (r1 : List (S35)) (r2 : List (S35)) (r3 : Int) (r4 : Bool) (w : World) (hr0_0 : Kd.C k35 w A0_0 l0_0.length l0_0) (hc0_0 : l0_0.length ≤ c0_0) (hr0_1 : Kd.C k35 w A0_1 l0_1.length l0_1) (hc0_1 : l0_1.length ≤ c0_1) (h : impl_StorePut.f k l0_0 l0_1 a0_2 a1_0 a1_1 a1_2 a1_3 = some (r1, r2, r3, r4)) :
  Calls Try.prog 14 #[.agg #[.slice A0_0 l0_0.length c0_0, .slice A0_1 l0_1.length c0_1, .int .i64 a0_2], .agg #[.int .i64 a1_0, .int .i64 a1_1, .bool a1_2, .string a1_3]] w fun e w' => ∃ v0_ v1_ : Value, e = .returned (.tuple #[.agg #[v0_, v1_, .int .i64 r3], .bool r4]) ∧ Kd.R k35 35 w' w.heap.size (fun k_ => some k_ ≠ (v1_ : Value).ownBlock) v0_ r1 ∧ Kd.R k35 35 w' w.heap.size (fun k_ => some k_ ≠ (v0_ : Value).ownBlock) v1_ r2 ∧ Below w.heap.size w w' := by
 have hu31 := Try.underlying31; have hu35 := Try.underlying35; have HR0_0 := Aside0.mk hr0_0; have HC0_0 := Aside0.mk hc0_0; clear hr0_0 hc0_0; have HR0_1 := Aside0.mk hr0_1; have HC0_1 := Aside0.mk hc0_1; clear hr0_1 hc0_1; have HB := Aside0.mk (Below.refl w.heap.size w); have H : ((impl_StoreOk.f k l0_0 l0_1 a0_2).bind fun t210 => (if t210 = true then ((impl_EntryOk.f a1_0 a1_1 a1_2 a1_3).bind fun t211 => (if t211 = true then (impl_StorePut.j0 k ((l0_1.length : Int) == 20) l0_0 l0_1 a0_2 a1_0 a1_1 a1_2 a1_3) else (impl_StorePut.j0 k true l0_0 l0_1 a0_2 a1_0 a1_1 a1_2 a1_3))) else (impl_StorePut.j0 k true l0_0 l0_1 a0_2 a1_0 a1_1 a1_2 a1_3))) = some (r1, r2, r3, r4) := h; clear h; have HC3 := Aside0.mk H; clear H
 go_enter Try.func14, Try.ntmps14
 go_upto_region 1 with (first | ((with_reducible refine GD 2 ?_); (try (refine gate_guard (by rfl) ?_; dsimp only)); refine BE 2 #[.slice A0_0 l0_0.length c0_0, .slice A0_1 l0_1.length c0_1, .int .i64 a0_2] 31 ?_; intro gb207 hg w4 hbox hb; have h_ := P4 (below_step KB hb) hbox (Kg w hg) (Kg w hg); clear HB; obtain ⟨HB, BK207, GW207, GE207⟩ := h_; clear hb hbox hg) | ((with_reducible refine GD 3 ?_); (try (refine gate_guard (by rfl) ?_; dsimp only)); refine BE 3 #[.int .i64 a1_0, .int .i64 a1_1, .bool a1_2, .string a1_3] 35 ?_; intro gb208 hg w5 hbox hb; have h_ := P7 (BL BK207.out hb) (below_step KB hb) hbox (Kg w hg) (Kg w hg) (NX hg BK207.out) (NY hg BK207.out); clear BK207 HB; obtain ⟨BK207, HB, BK208, GW208, GE208, NB207_208, NB208_207⟩ := h_; clear hb hbox hg) | ((with_reducible refine GD 4 ?_); (try (refine gate_guard (by rfl) ?_; dsimp only)); refine BE 4 #[.slice none 0 0, .slice none 0 0, .int .i64 0] 31 ?_; intro gb209 hg w6 hbox hb; have h_ := P10 (BL BK207.out hb) (BL BK208.out hb) (below_step KB hb) hbox (Kg w hg) (Kg w hg) (NX hg BK207.out) (NY hg BK207.out) (NX hg BK208.out) (NY hg BK208.out); clear BK207 BK208 HB; obtain ⟨BK207, BK208, HB, BK209, GW209, GE209, NB207_209, NB209_207, NB208_209, NB209_208⟩ := h_; clear hb hbox hg))
 repeat (go_quiet (first | ((with_reducible refine GD 2 ?_); (try (refine gate_guard (by rfl) ?_; dsimp only)); refine BE 2 #[.slice A0_0 l0_0.length c0_0, .slice A0_1 l0_1.length c0_1, .int .i64 a0_2] 31 ?_; intro gb207 hg w4 hbox hb; have h_ := P4 (below_step KB hb) hbox (Kg w hg) (Kg w hg); clear HB; obtain ⟨HB, BK207, GW207, GE207⟩ := h_; clear hb hbox hg) | ((with_reducible refine GD 3 ?_); (try (refine gate_guard (by rfl) ?_; dsimp only)); refine BE 3 #[.int .i64 a1_0, .int .i64 a1_1, .bool a1_2, .string a1_3] 35 ?_; intro gb208 hg w5 hbox hb; have h_ := P7 (BL BK207.out hb) (below_step KB hb) hbox (Kg w hg) (Kg w hg) (NX hg BK207.out) (NY hg BK207.out); clear BK207 HB; obtain ⟨BK207, HB, BK208, GW208, GE208, NB207_208, NB208_207⟩ := h_; clear hb hbox hg) | ((with_reducible refine GD 4 ?_); (try (refine gate_guard (by rfl) ?_; dsimp only)); refine BE 4 #[.slice none 0 0, .slice none 0 0, .int .i64 0] 31 ?_; intro gb209 hg w6 hbox hb; have h_ := P10 (BL BK207.out hb) (BL BK208.out hb) (below_step KB hb) hbox (Kg w hg) (Kg w hg) (NX hg BK207.out) (NY hg BK207.out) (NX hg BK208.out) (NY hg BK208.out); clear BK207 BK208 HB; obtain ⟨BK207, BK208, HB, BK209, GW209, GE209, NB207_209, NB209_207, NB208_209, NB209_208⟩ := h_; clear hb hbox hg)); go_upto_region 1 with (first | ((with_reducible refine GD 2 ?_); (try (refine gate_guard (by rfl) ?_; dsimp only)); refine BE 2 #[.slice A0_0 l0_0.length c0_0, .slice A0_1 l0_1.length c0_1, .int .i64 a0_2] 31 ?_; intro gb207 hg w4 hbox hb; have h_ := P4 (below_step KB hb) hbox (Kg w hg) (Kg w hg); clear HB; obtain ⟨HB, BK207, GW207, GE207⟩ := h_; clear hb hbox hg) | ((with_reducible refine GD 3 ?_); (try (refine gate_guard (by rfl) ?_; dsimp only)); refine BE 3 #[.int .i64 a1_0, .int .i64 a1_1, .bool a1_2, .string a1_3] 35 ?_; intro gb208 hg w5 hbox hb; have h_ := P7 (BL BK207.out hb) (below_step KB hb) hbox (Kg w hg) (Kg w hg) (NX hg BK207.out) (NY hg BK207.out); clear BK207 HB; obtain ⟨BK207, HB, BK208, GW208, GE208, NB207_208, NB208_207⟩ := h_; clear hb hbox hg) | ((with_reducible refine GD 4 ?_); (try (refine gate_guard (by rfl) ?_; dsimp only)); refine BE 4 #[.slice none 0 0, .slice none 0 0, .int .i64 0] 31 ?_; intro gb209 hg w6 hbox hb; have h_ := P10 (BL BK207.out hb) (BL BK208.out hb) (below_step KB hb) hbox (Kg w hg) (Kg w hg) (NX hg BK207.out) (NY hg BK207.out) (NX hg BK208.out) (NY hg BK208.out); clear BK207 BK208 HB; obtain ⟨BK207, BK208, HB, BK209, GW209, GE209, NB207_209, NB209_207, NB208_209, NB209_208⟩ := h_; clear hb hbox hg)))
 (try simp only [Act.put, List.setIfInBounds_toArray, List.set_cons_zero, List.set_cons_succ])
 go_cut [20] (fun v20 wc => ∃ (kq : Nat) (x20_2 : Bool), v20 = .bool x20_2 ∧ Aside0 (impl_StorePut.j0 kq x20_2 l0_0 l0_1 a0_2 a1_0 a1_1 a1_2 a1_3 = some (r1, r2, r3, r4)) ∧ Aside0 (kq ≤ k) ∧ Aside0 (wc.heap[gb207]? = some (.cells #[(.slice A0_0 l0_0.length c0_0), (.slice A0_1 l0_1.length c0_1), .int .i64 a0_2] 31 (0, 0))) ∧ Aside0 (wc.heap[gb208]? = some (.cells #[.int .i64 a1_0, .int .i64 a1_1, .bool a1_2, .string a1_3] 35 (0, 0))) ∧ Aside0 (wc.heap[gb209]? = some (.cells #[(.slice none 0 0), (.slice none 0 0), .int .i64 0] 31 (0, 0))) ∧ Aside0 (Below w.heap.size w wc))
 case first =>
  have H := HC3.out; clear HC3; replace H := Option.bind_eq_some_iff.mp H; obtain ⟨t210, A70, H⟩ := H
  try dsimp only at H
  have A7 := Aside0.mk A70; clear A70
  by_cases c8 : t210 = true
  ·subst c8
   have H1 : ((impl_EntryOk.f a1_0 a1_1 a1_2 a1_3).bind fun t211 => (if t211 = true then (impl_StorePut.j0 k ((l0_1.length : Int) == 20) l0_0 l0_1 a0_2 a1_0 a1_1 a1_2 a1_3) else (impl_StorePut.j0 k true l0_0 l0_1 a0_2 a1_0 a1_1 a1_2 a1_3))) = some (r1, r2, r3, r4) := by rw [if_pos rfl] at H; exact H
   clear H; have H := H1; clear H1; replace H := Option.bind_eq_some_iff.mp H; obtain ⟨t211, A90, H⟩ := H
   try dsimp only at H
   have A9 := Aside0.mk A90; clear A90
   by_cases c10 : t211 = true
   ·subst c10
    have H1 : (impl_StorePut.j0 k ((l0_1.length : Int) == 20) l0_0 l0_1 a0_2 a1_0 a1_1 a1_2 a1_3) = some (r1, r2, r3, r4) := by rw [if_pos rfl] at H; exact H
    clear H; have H := H1; clear H1; have H' := Aside0.mk H; clear H; have hnb11 := NB207_208.out; have hnc11 := NB208_207.out; have hnb12 := NB207_209.out; have hnc12 := NB209_207.out; obtain ⟨hcz13_0, hcz13_1, hcz13_2, hfz13_0, hfz13_1, hfz13_2⟩ := C3 BK207.out
    go_wp2_with (first | (go_at_call 32; (with_reducible refine (impl_StoreOk.calls k _ _ l0_0 _ _ l0_1 a0_2 true _ ?side1 ?side2 ?side3 ?side4 A7.out).mono ?_); (case side1 => exact KD (Kd.C_below HR0_0.out HB.out)); (case side2 => exact HC0_0.out); (case side3 => exact KD (Kd.C_below HR0_1.out HB.out)); (case side4 => exact HC0_1.out); rintro e w14 ⟨rfl, hb⟩; have h_ := P4 (BL BK207.out hb) (BL BK208.out hb) (BL BK209.out hb) (below_step KB hb); clear BK207 BK208 BK209 HB; obtain ⟨BK207, BK208, BK209, HB⟩ := h_; (try clear hb); (try clear hk); (try clear hi); have hnb15 := NB208_209.out; have hnc15 := NB209_208.out; obtain ⟨hcz16_0, hcz16_1, hcz16_2, hcz16_3, hfz16_0, hfz16_1, hfz16_2, hfz16_3⟩ := C4 BK208.out) | (go_at_call 45; (with_reducible refine (impl_EntryOk.calls a1_0 a1_1 a1_2 a1_3 true _ A9.out).mono ?_); rintro e w17 ⟨rfl, hb⟩; have h_ := P4 (BL BK207.out hb) (BL BK208.out hb) (BL BK209.out hb) (below_step KB hb); clear BK207 BK208 BK209 HB; obtain ⟨BK207, BK208, BK209, HB⟩ := h_; (try clear hb); (try clear hk); (try clear hi); obtain ⟨hcz18_0, hcz18_1, hcz18_2, hfz18_0, hfz18_1, hfz18_2⟩ := C3 BK207.out))
    repeat (go_quiet (fail); try go_wp2_with (first | (go_at_call 32; (with_reducible refine (impl_StoreOk.calls k _ _ l0_0 _ _ l0_1 a0_2 true _ ?side1 ?side2 ?side3 ?side4 A7.out).mono ?_); (case side1 => exact KD (Kd.C_below HR0_0.out HB.out)); (case side2 => exact HC0_0.out); (case side3 => exact KD (Kd.C_below HR0_1.out HB.out)); (case side4 => exact HC0_1.out); rintro e w14 ⟨rfl, hb⟩; have h_ := P4 (BL BK207.out hb) (BL BK208.out hb) (BL BK209.out hb) (below_step KB hb); clear BK207 BK208 BK209 HB; obtain ⟨BK207, BK208, BK209, HB⟩ := h_; (try clear hb); (try clear hk); (try clear hi); have hnb15 := NB208_209.out; have hnc15 := NB209_208.out; obtain ⟨hcz16_0, hcz16_1, hcz16_2, hcz16_3, hfz16_0, hfz16_1, hfz16_2, hfz16_3⟩ := C4 BK208.out) | (go_at_call 45; (with_reducible refine (impl_EntryOk.calls a1_0 a1_1 a1_2 a1_3 true _ A9.out).mono ?_); rintro e w17 ⟨rfl, hb⟩; have h_ := P4 (BL BK207.out hb) (BL BK208.out hb) (BL BK209.out hb) (below_step KB hb); clear BK207 BK208 BK209 HB; obtain ⟨BK207, BK208, BK209, HB⟩ := h_; (try clear hb); (try clear hk); (try clear hi); obtain ⟨hcz18_0, hcz18_1, hcz18_2, hfz18_0, hfz18_1, hfz18_2⟩ := C3 BK207.out)))
    go_meet
    case rel => exact ⟨_, (((l0_1.length : Int) == 20)), (by first | rfl | (simp; done) | (simp [*]; done)), H', ⟨by first | omega | exact Nat.le_refl _⟩, ⟨KK⟩, ⟨KK⟩, ⟨KK⟩, ⟨KB⟩⟩
   ·replace c10 := Bool.eq_false_iff.mpr c10
    subst c10; have H1 : (impl_StorePut.j0 k true l0_0 l0_1 a0_2 a1_0 a1_1 a1_2 a1_3) = some (r1, r2, r3, r4) := by rw [if_neg (show ¬ (false = true) by decide)] at H; exact H
    clear H; have H := H1; clear H1; have H' := Aside0.mk H; clear H; have hnb19 := NB207_208.out; have hnc19 := NB208_207.out; have hnb20 := NB207_209.out; have hnc20 := NB209_207.out; obtain ⟨hcz21_0, hcz21_1, hcz21_2, hfz21_0, hfz21_1, hfz21_2⟩ := C3 BK207.out
    go_wp2_with (first | (go_at_call 32; (with_reducible refine (impl_StoreOk.calls k _ _ l0_0 _ _ l0_1 a0_2 true _ ?side1 ?side2 ?side3 ?side4 A7.out).mono ?_); (case side1 => exact KD (Kd.C_below HR0_0.out HB.out)); (case side2 => exact HC0_0.out); (case side3 => exact KD (Kd.C_below HR0_1.out HB.out)); (case side4 => exact HC0_1.out); rintro e w22 ⟨rfl, hb⟩; have h_ := P4 (BL BK207.out hb) (BL BK208.out hb) (BL BK209.out hb) (below_step KB hb); clear BK207 BK208 BK209 HB; obtain ⟨BK207, BK208, BK209, HB⟩ := h_; (try clear hb); (try clear hk); (try clear hi); have hnb23 := NB208_209.out; have hnc23 := NB209_208.out; obtain ⟨hcz24_0, hcz24_1, hcz24_2, hcz24_3, hfz24_0, hfz24_1, hfz24_2, hfz24_3⟩ := C4 BK208.out) | (go_at_call 45; (with_reducible refine (impl_EntryOk.calls a1_0 a1_1 a1_2 a1_3 false _ A9.out).mono ?_); rintro e w25 ⟨rfl, hb⟩; have h_ := P4 (BL BK207.out hb) (BL BK208.out hb) (BL BK209.out hb) (below_step KB hb); clear BK207 BK208 BK209 HB; obtain ⟨BK207, BK208, BK209, HB⟩ := h_; (try clear hb); (try clear hk); (try clear hi)))
    repeat (go_quiet (fail); try go_wp2_with (first | (go_at_call 32; (with_reducible refine (impl_StoreOk.calls k _ _ l0_0 _ _ l0_1 a0_2 true _ ?side1 ?side2 ?side3 ?side4 A7.out).mono ?_); (case side1 => exact KD (Kd.C_below HR0_0.out HB.out)); (case side2 => exact HC0_0.out); (case side3 => exact KD (Kd.C_below HR0_1.out HB.out)); (case side4 => exact HC0_1.out); rintro e w22 ⟨rfl, hb⟩; have h_ := P4 (BL BK207.out hb) (BL BK208.out hb) (BL BK209.out hb) (below_step KB hb); clear BK207 BK208 BK209 HB; obtain ⟨BK207, BK208, BK209, HB⟩ := h_; (try clear hb); (try clear hk); (try clear hi); have hnb23 := NB208_209.out; have hnc23 := NB209_208.out; obtain ⟨hcz24_0, hcz24_1, hcz24_2, hcz24_3, hfz24_0, hfz24_1, hfz24_2, hfz24_3⟩ := C4 BK208.out) | (go_at_call 45; (with_reducible refine (impl_EntryOk.calls a1_0 a1_1 a1_2 a1_3 false _ A9.out).mono ?_); rintro e w25 ⟨rfl, hb⟩; have h_ := P4 (BL BK207.out hb) (BL BK208.out hb) (BL BK209.out hb) (below_step KB hb); clear BK207 BK208 BK209 HB; obtain ⟨BK207, BK208, BK209, HB⟩ := h_; (try clear hb); (try clear hk); (try clear hi))))
    go_meet
    case rel => exact ⟨_, (true), (by first | rfl | (simp; done) | (simp [*]; done)), H', ⟨by first | omega | exact Nat.le_refl _⟩, ⟨KK⟩, ⟨KK⟩, ⟨KK⟩, ⟨KB⟩⟩
  ·replace c8 := Bool.eq_false_iff.mpr c8
   subst c8; have H1 : (impl_StorePut.j0 k true l0_0 l0_1 a0_2 a1_0 a1_1 a1_2 a1_3) = some (r1, r2, r3, r4) := by rw [if_neg (show ¬ (false = true) by decide)] at H; exact H
   clear H; have H := H1; clear H1; have H' := Aside0.mk H; clear H; have hnb26 := NB207_208.out; have hnc26 := NB208_207.out; have hnb27 := NB207_209.out; have hnc27 := NB209_207.out; obtain ⟨hcz28_0, hcz28_1, hcz28_2, hfz28_0, hfz28_1, hfz28_2⟩ := C3 BK207.out
   go_wp2_with (first | (go_at_call 32; (with_reducible refine (impl_StoreOk.calls k _ _ l0_0 _ _ l0_1 a0_2 false _ ?side1 ?side2 ?side3 ?side4 A7.out).mono ?_); (case side1 => exact KD (Kd.C_below HR0_0.out HB.out)); (case side2 => exact HC0_0.out); (case side3 => exact KD (Kd.C_below HR0_1.out HB.out)); (case side4 => exact HC0_1.out); rintro e w29 ⟨rfl, hb⟩; have h_ := P4 (BL BK207.out hb) (BL BK208.out hb) (BL BK209.out hb) (below_step KB hb); clear BK207 BK208 BK209 HB; obtain ⟨BK207, BK208, BK209, HB⟩ := h_; (try clear hb); (try clear hk); (try clear hi)))
   repeat (go_quiet (fail); try go_wp2_with (first | (go_at_call 32; (with_reducible refine (impl_StoreOk.calls k _ _ l0_0 _ _ l0_1 a0_2 false _ ?side1 ?side2 ?side3 ?side4 A7.out).mono ?_); (case side1 => exact KD (Kd.C_below HR0_0.out HB.out)); (case side2 => exact HC0_0.out); (case side3 => exact KD (Kd.C_below HR0_1.out HB.out)); (case side4 => exact HC0_1.out); rintro e w29 ⟨rfl, hb⟩; have h_ := P4 (BL BK207.out hb) (BL BK208.out hb) (BL BK209.out hb) (below_step KB hb); clear BK207 BK208 BK209 HB; obtain ⟨BK207, BK208, BK209, HB⟩ := h_; (try clear hb); (try clear hk); (try clear hi))))
   go_meet
   case rel => exact ⟨_, (true), (by first | rfl | (simp; done) | (simp [*]; done)), H', ⟨by first | omega | exact Nat.le_refl _⟩, ⟨KK⟩, ⟨KK⟩, ⟨KK⟩, ⟨KB⟩⟩
 case rest =>
  clear HC3
  try clear c1
  try clear c2
  try clear p2
  try clear c8
  try clear c10
  try clear c11
  try clear c12
  try clear c14
  try clear c15
  try clear c19
  try clear c20
  try clear c23
  try clear c26
  try clear c27
  try clear hcz13_0
  try clear hcz13_1
  try clear hcz13_2
  try clear hcz16_0
  try clear hcz16_1
  try clear hcz16_2
  try clear hcz16_3
  try clear hcz18_0
  try clear hcz18_1
  try clear hcz18_2
  try clear hcz21_0
  try clear hcz21_1
  try clear hcz21_2
  try clear hcz24_0
  try clear hcz24_1
  try clear hcz24_2
  try clear hcz24_3
  try clear hcz28_0
  try clear hcz28_1
  try clear hcz28_2
  try clear hfz13_0
  try clear hfz13_1
  try clear hfz13_2
  try clear hfz16_0
  try clear hfz16_1
  try clear hfz16_2
  try clear hfz16_3
  try clear hfz18_0
  try clear hfz18_1
  try clear hfz18_2
  try clear hfz21_0
  try clear hfz21_1
  try clear hfz21_2
  try clear hfz24_0
  try clear hfz24_1
  try clear hfz24_2
  try clear hfz24_3
  try clear hfz28_0
  try clear hfz28_1
  try clear hfz28_2
  obtain ⟨kq, x20_2, rfl, HA, HJ2, BK207, BK208, BK209, HB⟩ := hcut
  cases kq with
  | zero => exact absurd HA.out (by simp [impl_StorePut.j0])
  | succ kj2 =>
   have H := HA.out; clear HA; simp only [impl_StorePut.j0] at H
   by_cases c30 : x20_2 = true
   ·subst c30
    have H1 : ((impl_storeAsWas.f kj2 l0_0 l0_1 a0_2).bind fun bt212 => (some (bt212.1, bt212.2.1, bt212.2.2, false))) = some (r1, r2, r3, r4) := by rw [if_pos rfl] at H; exact H
    clear H; have H := H1; clear H1; replace H := Option.bind_eq_some_iff.mp H; obtain ⟨⟨t212, t215, t218⟩, A310, H⟩ := H
    try dsimp only at H
    have A31 := Aside0.mk A310; clear A310; simp only [Option.some.injEq, Prod.mk.injEq] at H; obtain ⟨rfl, rfl, rfl, rfl⟩ := H; have hnb32 := NB207_208.out; have hnc32 := NB208_207.out; have hnb33 := NB207_209.out; have hnc33 := NB209_207.out; obtain ⟨hcz34_0, hcz34_1, hcz34_2, hfz34_0, hfz34_1, hfz34_2⟩ := C3 BK207.out
    go_wp2_with (first | (go_at_call 46; (with_reducible refine (impl_storeAsWas.calls kj2 _ _ l0_0 _ _ l0_1 a0_2 t212 t215 t218 _ ?side1 ?side2 ?side3 ?side4 A31.out).mono ?_); (case side1 => exact KD (Kd.C_below HR0_0.out HB.out)); (case side2 => exact HC0_0.out); (case side3 => exact KD (Kd.C_below HR0_1.out HB.out)); (case side4 => exact HC0_1.out); rintro e w35 ⟨v213, v216, rfl, ho0, ho1, hb⟩; have h_ := P6 (Kd.R_lower (Kd.R_newB ho0 (g := gb208) (o := .cells #[.int .i64 a1_0, .int .i64 a1_1, .bool a1_2, .string a1_3] 35 (0, 0)) KK) (below_size KB)) (Kd.R_lower (Kd.R_newB ho1 (g := gb208) (o := .cells #[.int .i64 a1_0, .int .i64 a1_1, .bool a1_2, .string a1_3] 35 (0, 0)) KK) (below_size KB)) (BL BK207.out hb) (BL BK208.out hb) (BL BK209.out hb) (below_step KB hb); clear BK207 BK208 BK209 HB; obtain ⟨HO214, HO217, BK207, BK208, BK209, HB⟩ := h_; (try clear hb); (try clear hk); (try clear hi); (try clear ho0); (try clear ho1); obtain ⟨Ao36, co36, eo36⟩ := Kd.R_slice HO214.out; subst eo36; have hnb37 := NB209_208.out; have hnc37 := NB208_209.out; obtain ⟨hcz38_0, hcz38_1, hcz38_2, hfz38_0, hfz38_1, hfz38_2⟩ := C3 BK209.out; obtain ⟨Ao39, co39, eo39⟩ := Kd.R_slice HO217.out; subst eo39))
    repeat (go_quiet (fail); try go_wp2_with (first | (go_at_call 46; (with_reducible refine (impl_storeAsWas.calls kj2 _ _ l0_0 _ _ l0_1 a0_2 t212 t215 t218 _ ?side1 ?side2 ?side3 ?side4 A31.out).mono ?_); (case side1 => exact KD (Kd.C_below HR0_0.out HB.out)); (case side2 => exact HC0_0.out); (case side3 => exact KD (Kd.C_below HR0_1.out HB.out)); (case side4 => exact HC0_1.out); rintro e w35 ⟨v213, v216, rfl, ho0, ho1, hb⟩; have h_ := P6 (Kd.R_lower (Kd.R_newB ho0 (g := gb208) (o := .cells #[.int .i64 a1_0, .int .i64 a1_1, .bool a1_2, .string a1_3] 35 (0, 0)) KK) (below_size KB)) (Kd.R_lower (Kd.R_newB ho1 (g := gb208) (o := .cells #[.int .i64 a1_0, .int .i64 a1_1, .bool a1_2, .string a1_3] 35 (0, 0)) KK) (below_size KB)) (BL BK207.out hb) (BL BK208.out hb) (BL BK209.out hb) (below_step KB hb); clear BK207 BK208 BK209 HB; obtain ⟨HO214, HO217, BK207, BK208, BK209, HB⟩ := h_; (try clear hb); (try clear hk); (try clear hi); (try clear ho0); (try clear ho1); obtain ⟨Ao36, co36, eo36⟩ := Kd.R_slice HO214.out; subst eo36; have hnb37 := NB209_208.out; have hnc37 := NB208_209.out; obtain ⟨hcz38_0, hcz38_1, hcz38_2, hfz38_0, hfz38_1, hfz38_2⟩ := C3 BK209.out; obtain ⟨Ao39, co39, eo39⟩ := Kd.R_slice HO217.out; subst eo39)))
    refine bodyPost_ret (results_ct rfl _ _ gb209 31 #[.slice Ao36 t212.length co36, .slice Ao39 t215.length co39, .int .i64 t218] (0, 0) _ rfl (by refine SK ?_; refine BP #[.slice Ao36 t212.length co36, .slice Ao39 t215.length co39, .int .i64 0] ?_ 2; refine SK ?_; refine BP #[.slice Ao36 t212.length co36, .slice none 0 0, .int .i64 0] ?_ 1; refine SK ?_; refine BP #[.slice none 0 0, .slice none 0 0, .int .i64 0] ?_ 0; exact SK BK209.out) Try.underlying31 rfl (by kernel_rfl)) rfl ?_; exact ⟨_, _, KE, RQ (RT HO214.out BK209.out) (hm := fun _ h => h.1.1), RQ (RT HO217.out BK209.out) (hm := fun _ h => h.1.1), KB⟩
   ·replace c30 := Bool.eq_false_iff.mpr c30
    subst c30; have H1 : (if a1_1 = 0 then ((impl_EpochOf.f a1_0).bind fun t219 => (if t219 ≤ a0_2 then (impl_StorePut.j1 kj2 true l0_0 l0_1 a0_2 a1_0 a1_1 a1_2 a1_3) else (if a1_1 > 0 then (impl_StorePut.j1 kj2 (decide (a1_1 ≤ a0_2)) l0_0 l0_1 a0_2 a1_0 a1_1 a1_2 a1_3) else (impl_StorePut.j1 kj2 false l0_0 l0_1 a0_2 a1_0 a1_1 a1_2 a1_3)))) else (if a1_1 > 0 then (impl_StorePut.j1 kj2 (decide (a1_1 ≤ a0_2)) l0_0 l0_1 a0_2 a1_0 a1_1 a1_2 a1_3) else (impl_StorePut.j1 kj2 false l0_0 l0_1 a0_2 a1_0 a1_1 a1_2 a1_3))) = some (r1, r2, r3, r4) := by rw [if_neg (show ¬ (false = true) by decide)] at H; exact H
    clear H; have H := H1; clear H1; have HC40 := Aside0.mk H; clear H
    go_upto_region 3 with (fail)
    repeat (go_quiet (fail); go_upto_region 3 with (fail))
    go_cut [45] (fun v45 wc => ∃ (kq : Nat) (x45_39 : Bool), v45 = .bool x45_39 ∧ Aside0 (impl_StorePut.j1 kq x45_39 l0_0 l0_1 a0_2 a1_0 a1_1 a1_2 a1_3 = some (r1, r2, r3, r4)) ∧ Aside0 (kq ≤ kj2) ∧ Aside0 (wc.heap[gb207]? = some (.cells #[(.slice A0_0 l0_0.length c0_0), (.slice A0_1 l0_1.length c0_1), .int .i64 a0_2] 31 (0, 0))) ∧ Aside0 (wc.heap[gb208]? = some (.cells #[.int .i64 a1_0, .int .i64 a1_1, .bool a1_2, .string a1_3] 35 (0, 0))) ∧ Aside0 (wc.heap[gb209]? = some (.cells #[(.slice none 0 0), (.slice none 0 0), .int .i64 0] 31 (0, 0))) ∧ Aside0 (Below w.heap.size w wc))
    case first =>
     have H := HC40.out; clear HC40
     by_cases c41 : a1_1 = 0
     ·rw [if_pos c41] at H
      have c41b0 : (a1_1 == 0) = true := beq_iff_eq.mpr c41; have c41b1 : (a1_1 != 0) = false := bne_eq_false_iff_eq.mpr c41; clear c41; (first | rw [c41b0] | (simp only [i64_w, i32_w]; rw [c41b0]) | skip); replace H := Option.bind_eq_some_iff.mp H; obtain ⟨t219, A420, H⟩ := H
      try dsimp only at H
      have A42 := Aside0.mk A420; clear A420
      by_cases c43 : t219 ≤ a0_2
      ·rw [if_pos c43] at H
       have c43b0 : decide (t219 ≤ a0_2) = true := decide_eq_true c43; clear c43; have H' := Aside0.mk H; clear H; have hnb44 := NB208_207.out; have hnc44 := NB207_208.out; have hnb45 := NB208_209.out; have hnc45 := NB209_208.out; obtain ⟨hcz46_0, hcz46_1, hcz46_2, hcz46_3, hfz46_0, hfz46_1, hfz46_2, hfz46_3⟩ := C4 BK208.out; have hnb47 := NB207_209.out; have hnc47 := NB209_207.out; obtain ⟨hcz48_0, hcz48_1, hcz48_2, hfz48_0, hfz48_1, hfz48_2⟩ := C3 BK207.out
       go_wp2_with (first | (go_at_call 26; (with_reducible refine (impl_EpochOf.calls a1_0 t219 _ A42.out).mono ?_); rintro e w' ⟨rfl, ⟨nd, rfl⟩⟩; (try exact KT)))
       repeat (go_quiet (first | (go_at_call 26; (with_reducible refine (impl_EpochOf.calls a1_0 t219 _ A42.out).mono ?_); rintro e w' ⟨rfl, ⟨nd, rfl⟩⟩; (try exact KT))); try go_wp2_with (first | (go_at_call 26; (with_reducible refine (impl_EpochOf.calls a1_0 t219 _ A42.out).mono ?_); rintro e w' ⟨rfl, ⟨nd, rfl⟩⟩; (try exact KT))))
       go_meet
       case rel => exact ⟨_, (true), (by first | rfl | (simp; done) | (simp [*]; done)), H', ⟨by have := HJ2.out; first | omega | exact Nat.le_refl _⟩, ⟨KK⟩, ⟨KK⟩, ⟨KK⟩, ⟨KB⟩⟩
      ·rw [if_neg c43] at H
       have c43b0 : decide (t219 ≤ a0_2) = false := decide_eq_false c43; clear c43
       by_cases c49 : a1_1 > 0
       ·rw [if_pos c49] at H
        have c49b0 : decide (0 < a1_1) = true := decide_eq_true c49; clear c49; have H' := Aside0.mk H; clear H; have hnb50 := NB208_207.out; have hnc50 := NB207_208.out; have hnb51 := NB208_209.out; have hnc51 := NB209_208.out; obtain ⟨hcz52_0, hcz52_1, hcz52_2, hcz52_3, hfz52_0, hfz52_1, hfz52_2, hfz52_3⟩ := C4 BK208.out; have hnb53 := NB207_209.out; have hnc53 := NB209_207.out; obtain ⟨hcz54_0, hcz54_1, hcz54_2, hfz54_0, hfz54_1, hfz54_2⟩ := C3 BK207.out
        go_wp2_with (first | (go_at_call 26; (with_reducible refine (impl_EpochOf.calls a1_0 t219 _ A42.out).mono ?_); rintro e w' ⟨rfl, ⟨nd, rfl⟩⟩; (try exact KT)))
        repeat (go_quiet (first | (go_at_call 26; (with_reducible refine (impl_EpochOf.calls a1_0 t219 _ A42.out).mono ?_); rintro e w' ⟨rfl, ⟨nd, rfl⟩⟩; (try exact KT))); try go_wp2_with (first | (go_at_call 26; (with_reducible refine (impl_EpochOf.calls a1_0 t219 _ A42.out).mono ?_); rintro e w' ⟨rfl, ⟨nd, rfl⟩⟩; (try exact KT))))
        go_meet
        case rel => exact ⟨_, (decide (a1_1 ≤ a0_2)), (by first | rfl | (simp; done) | (simp [*]; done)), H', ⟨by have := HJ2.out; first | omega | exact Nat.le_refl _⟩, ⟨KK⟩, ⟨KK⟩, ⟨KK⟩, ⟨KB⟩⟩
       ·rw [if_neg c49] at H
        have c49b0 : decide (0 < a1_1) = false := decide_eq_false c49; clear c49; have H' := Aside0.mk H; clear H; have hnb55 := NB208_207.out; have hnc55 := NB207_208.out; have hnb56 := NB208_209.out; have hnc56 := NB209_208.out; obtain ⟨hcz57_0, hcz57_1, hcz57_2, hcz57_3, hfz57_0, hfz57_1, hfz57_2, hfz57_3⟩ := C4 BK208.out; have hnb58 := NB207_209.out; have hnc58 := NB209_207.out; obtain ⟨hcz59_0, hcz59_1, hcz59_2, hfz59_0, hfz59_1, hfz59_2⟩ := C3 BK207.out
        go_wp2_with (first | (go_at_call 26; (with_reducible refine (impl_EpochOf.calls a1_0 t219 _ A42.out).mono ?_); rintro e w' ⟨rfl, ⟨nd, rfl⟩⟩; (try exact KT)))
        repeat (go_quiet (first | (go_at_call 26; (with_reducible refine (impl_EpochOf.calls a1_0 t219 _ A42.out).mono ?_); rintro e w' ⟨rfl, ⟨nd, rfl⟩⟩; (try exact KT))); try go_wp2_with (first | (go_at_call 26; (with_reducible refine (impl_EpochOf.calls a1_0 t219 _ A42.out).mono ?_); rintro e w' ⟨rfl, ⟨nd, rfl⟩⟩; (try exact KT))))
        go_meet
        case rel => exact ⟨_, (false), (by first | rfl | (simp; done) | (simp [*]; done)), H', ⟨by have := HJ2.out; first | omega | exact Nat.le_refl _⟩, ⟨KK⟩, ⟨KK⟩, ⟨KK⟩, ⟨KB⟩⟩
     ·rw [if_neg c41] at H
      have c41b0 : (a1_1 == 0) = false := beq_eq_false_iff_ne.mpr c41; have c41b1 : (a1_1 != 0) = true := bne_iff_ne.mpr c41; (first | rw [c41b0] | (simp only [i64_w, i32_w]; rw [c41b0]) | skip)
      by_cases c60 : a1_1 > 0
      ·rw [if_pos c60] at H
       have c60b0 : decide (0 < a1_1) = true := decide_eq_true c60; clear c60; have H' := Aside0.mk H; clear H; have hnb61 := NB208_207.out; have hnc61 := NB207_208.out; have hnb62 := NB208_209.out; have hnc62 := NB209_208.out; obtain ⟨hcz63_0, hcz63_1, hcz63_2, hcz63_3, hfz63_0, hfz63_1, hfz63_2, hfz63_3⟩ := C4 BK208.out; have hnb64 := NB207_209.out; have hnc64 := NB209_207.out; obtain ⟨hcz65_0, hcz65_1, hcz65_2, hfz65_0, hfz65_1, hfz65_2⟩ := C3 BK207.out
       go_wp2
       repeat (go_quiet (fail); try go_wp2)
       go_meet
       case rel => exact ⟨_, (decide (a1_1 ≤ a0_2)), (by first | rfl | (simp; done) | (simp [*]; done)), H', ⟨by have := HJ2.out; first | omega | exact Nat.le_refl _⟩, ⟨KK⟩, ⟨KK⟩, ⟨KK⟩, ⟨KB⟩⟩
      ·rw [if_neg c60] at H
       have c60b0 : decide (0 < a1_1) = false := decide_eq_false c60; clear c60; have H' := Aside0.mk H; clear H; have hnb66 := NB208_207.out; have hnc66 := NB207_208.out; have hnb67 := NB208_209.out; have hnc67 := NB209_208.out; obtain ⟨hcz68_0, hcz68_1, hcz68_2, hcz68_3, hfz68_0, hfz68_1, hfz68_2, hfz68_3⟩ := C4 BK208.out
       go_wp2
       repeat (go_quiet (fail); try go_wp2)
       go_meet
       case rel => exact ⟨_, (false), (by first | rfl | (simp; done) | (simp [*]; done)), H', ⟨by have := HJ2.out; first | omega | exact Nat.le_refl _⟩, ⟨KK⟩, ⟨KK⟩, ⟨KK⟩, ⟨KB⟩⟩
    case rest =>
     clear HC40
     try clear c1
     try clear c2
     try clear p2
     try clear c3
     try clear c4
     try clear c5
     try clear c6
     try clear c8
     try clear c10
     try clear c11
     try clear c12
     try clear c14
     try clear c15
     try clear c19
     try clear c20
     try clear c23
     try clear c26
     try clear c27
     try clear c30
     try clear c32
     try clear c33
     try clear c37
     try clear c41
     try clear c41b0
     try clear c41b1
     try clear c43
     try clear c43b0
     try clear c44
     try clear c45
     try clear c47
     try clear c49
     try clear c49b0
     try clear c50
     try clear c51
     try clear c53
     try clear c55
     try clear c56
     try clear c58
     try clear c60
     try clear c60b0
     try clear c61
     try clear c62
     try clear c64
     try clear c66
     try clear c67
     try clear hcz13_0
     try clear hcz13_1
     try clear hcz13_2
     try clear hcz16_0
     try clear hcz16_1
     try clear hcz16_2
     try clear hcz16_3
     try clear hcz18_0
     try clear hcz18_1
     try clear hcz18_2
     try clear hcz21_0
     try clear hcz21_1
     try clear hcz21_2
     try clear hcz24_0
     try clear hcz24_1
     try clear hcz24_2
     try clear hcz24_3
     try clear hcz28_0
     try clear hcz28_1
     try clear hcz28_2
     try clear hcz34_0
     try clear hcz34_1
     try clear hcz34_2
     try clear hcz38_0
     try clear hcz38_1
     try clear hcz38_2
     try clear hcz46_0
     try clear hcz46_1
     try clear hcz46_2
     try clear hcz46_3
     try clear hcz48_0
     try clear hcz48_1
     try clear hcz48_2
     try clear hcz52_0
     try clear hcz52_1
     try clear hcz52_2
     try clear hcz52_3
     try clear hcz54_0
     try clear hcz54_1
     try clear hcz54_2
     try clear hcz57_0
     try clear hcz57_1
     try clear hcz57_2
     try clear hcz57_3
     try clear hcz59_0
     try clear hcz59_1
     try clear hcz59_2
     try clear hcz63_0
     try clear hcz63_1
     try clear hcz63_2
     try clear hcz63_3
     try clear hcz65_0
     try clear hcz65_1
     try clear hcz65_2
     try clear hcz68_0
     try clear hcz68_1
     try clear hcz68_2
     try clear hcz68_3
     try clear hfz13_0
     try clear hfz13_1
     try clear hfz13_2
     try clear hfz16_0
     try clear hfz16_1
     try clear hfz16_2
     try clear hfz16_3
     try clear hfz18_0
     try clear hfz18_1
     try clear hfz18_2
     try clear hfz21_0
     try clear hfz21_1
     try clear hfz21_2
     try clear hfz24_0
     try clear hfz24_1
     try clear hfz24_2
     try clear hfz24_3
     try clear hfz28_0
     try clear hfz28_1
     try clear hfz28_2
     try clear hfz34_0
     try clear hfz34_1
     try clear hfz34_2
     try clear hfz38_0
     try clear hfz38_1
     try clear hfz38_2
     try clear hfz46_0
     try clear hfz46_1
     try clear hfz46_2
     try clear hfz46_3
     try clear hfz48_0
     try clear hfz48_1
     try clear hfz48_2
     try clear hfz52_0
     try clear hfz52_1
     try clear hfz52_2
     try clear hfz52_3
     try clear hfz54_0
     try clear hfz54_1
     try clear hfz54_2
     try clear hfz57_0
     try clear hfz57_1
     try clear hfz57_2
     try clear hfz57_3
     try clear hfz59_0
     try clear hfz59_1
     try clear hfz59_2
     try clear hfz63_0
     try clear hfz63_1
     try clear hfz63_2
     try clear hfz63_3
     try clear hfz65_0
     try clear hfz65_1
     try clear hfz65_2
     try clear hfz68_0
     try clear hfz68_1
     try clear hfz68_2
     try clear hfz68_3
     try clear p2
     obtain ⟨kq, x45_39, rfl, HA, HJ39, BK207, BK208, BK209, HB⟩ := hcut
     cases kq with
     | zero => exact absurd HA.out (by simp [impl_StorePut.j1])
     | succ kj39 =>
      have H := HA.out; clear HA; simp only [impl_StorePut.j1] at H
      by_cases c69 : x45_39 = true
      ·subst c69
       have H1 : ((impl_copyStore.f l0_0 l0_1 a0_2).bind fun bt220 => (some (bt220.1, bt220.2.1, bt220.2.2, false))) = some (r1, r2, r3, r4) := by rw [if_pos rfl] at H; exact H
       clear H; have H := H1; clear H1; replace H := Option.bind_eq_some_iff.mp H; obtain ⟨⟨t220, t223, t226⟩, A700, H⟩ := H
       try dsimp only at H
       have A70 := Aside0.mk A700; clear A700; simp only [Option.some.injEq, Prod.mk.injEq] at H; obtain ⟨rfl, rfl, rfl, rfl⟩ := H; have hnb71 := NB207_208.out; have hnc71 := NB208_207.out; have hnb72 := NB207_209.out; have hnc72 := NB209_207.out; obtain ⟨hcz73_0, hcz73_1, hcz73_2, hfz73_0, hfz73_1, hfz73_2⟩ := C3 BK207.out
       go_wp2_with (first | (go_at_call 47; (with_reducible refine (impl_copyStore.calls _ _ l0_0 _ _ l0_1 a0_2 t220 t223 t226 _ ?side1 ?side2 ?side3 ?side4 A70.out).mono ?_); (case side1 => exact KD (Kd.C_below HR0_0.out HB.out)); (case side2 => exact HC0_0.out); (case side3 => exact KD (Kd.C_below HR0_1.out HB.out)); (case side4 => exact HC0_1.out); rintro e w74 ⟨v221, v224, rfl, ho0, ho1, hb⟩; have h_ := P6 (Kd.R_lower (Kd.R_newB ho0 (g := gb208) (o := .cells #[.int .i64 a1_0, .int .i64 a1_1, .bool a1_2, .string a1_3] 35 (0, 0)) KK) (below_size KB)) (Kd.R_lower (Kd.R_newB ho1 (g := gb208) (o := .cells #[.int .i64 a1_0, .int .i64 a1_1, .bool a1_2, .string a1_3] 35 (0, 0)) KK) (below_size KB)) (BL BK207.out hb) (BL BK208.out hb) (BL BK209.out hb) (below_step KB hb); clear BK207 BK208 BK209 HB; obtain ⟨HO222, HO225, BK207, BK208, BK209, HB⟩ := h_; (try clear hb); (try clear hk); (try clear hi); (try clear ho0); (try clear ho1); obtain ⟨Ao75, co75, eo75⟩ := Kd.R_slice HO222.out; subst eo75; have hnb76 := NB209_208.out; have hnc76 := NB208_209.out; obtain ⟨hcz77_0, hcz77_1, hcz77_2, hfz77_0, hfz77_1, hfz77_2⟩ := C3 BK209.out; obtain ⟨Ao78, co78, eo78⟩ := Kd.R_slice HO225.out; subst eo78))
       repeat (go_quiet (fail); try go_wp2_with (first | (go_at_call 47; (with_reducible refine (impl_copyStore.calls _ _ l0_0 _ _ l0_1 a0_2 t220 t223 t226 _ ?side1 ?side2 ?side3 ?side4 A70.out).mono ?_); (case side1 => exact KD (Kd.C_below HR0_0.out HB.out)); (case side2 => exact HC0_0.out); (case side3 => exact KD (Kd.C_below HR0_1.out HB.out)); (case side4 => exact HC0_1.out); rintro e w74 ⟨v221, v224, rfl, ho0, ho1, hb⟩; have h_ := P6 (Kd.R_lower (Kd.R_newB ho0 (g := gb208) (o := .cells #[.int .i64 a1_0, .int .i64 a1_1, .bool a1_2, .string a1_3] 35 (0, 0)) KK) (below_size KB)) (Kd.R_lower (Kd.R_newB ho1 (g := gb208) (o := .cells #[.int .i64 a1_0, .int .i64 a1_1, .bool a1_2, .string a1_3] 35 (0, 0)) KK) (below_size KB)) (BL BK207.out hb) (BL BK208.out hb) (BL BK209.out hb) (below_step KB hb); clear BK207 BK208 BK209 HB; obtain ⟨HO222, HO225, BK207, BK208, BK209, HB⟩ := h_; (try clear hb); (try clear hk); (try clear hi); (try clear ho0); (try clear ho1); obtain ⟨Ao75, co75, eo75⟩ := Kd.R_slice HO222.out; subst eo75; have hnb76 := NB209_208.out; have hnc76 := NB208_209.out; obtain ⟨hcz77_0, hcz77_1, hcz77_2, hfz77_0, hfz77_1, hfz77_2⟩ := C3 BK209.out; obtain ⟨Ao78, co78, eo78⟩ := Kd.R_slice HO225.out; subst eo78)))
       refine bodyPost_ret (results_ct rfl _ _ gb209 31 #[.slice Ao75 t220.length co75, .slice Ao78 t223.length co78, .int .i64 t226] (0, 0) _ rfl (by refine SK ?_; refine BP #[.slice Ao75 t220.length co75, .slice Ao78 t223.length co78, .int .i64 0] ?_ 2; refine SK ?_; refine BP #[.slice Ao75 t220.length co75, .slice none 0 0, .int .i64 0] ?_ 1; refine SK ?_; refine BP #[.slice none 0 0, .slice none 0 0, .int .i64 0] ?_ 0; exact SK BK209.out) Try.underlying31 rfl (by kernel_rfl)) rfl ?_; exact ⟨_, _, KE, RQ (RT HO222.out BK209.out) (hm := fun _ h => h.1.1), RQ (RT HO225.out BK209.out) (hm := fun _ h => h.1.1), KB⟩
      ·replace c69 := Bool.eq_false_iff.mpr c69
       subst c69; have H1 : ((impl_copyStore.f l0_0 l0_1 a0_2).bind fun bt227 => (if bt227.2.1.length < 3518437208883 then (some (bt227.1, (bt227.2.1 ++ [(⟨a1_0, a1_1, a1_2, a1_3⟩ : S35)]), bt227.2.2, true)) else (none))) = some (r1, r2, r3, r4) := by rw [if_neg (show ¬ (false = true) by decide)] at H; exact H
       clear H; have H := H1; clear H1; replace H := Option.bind_eq_some_iff.mp H; obtain ⟨⟨t227, t230, t233⟩, A790, H⟩ := H
       try dsimp only at H
       have A79 := Aside0.mk A790; clear A790
       by_cases c80 : t230.length < 3518437208883
       ·rw [if_pos c80] at H
        have LMc80 := Aside0.mk c80; clear c80; obtain ⟨y235, hy235⟩ : ∃ y_ : List (S35), y_ = (t230 ++ [(⟨a1_0, a1_1, a1_2, a1_3⟩ : S35)]) := ⟨_, rfl⟩; replace H : (some (t227, y235, t233, true)) = some (r1, r2, r3, r4) := by first | (rw [hy235]; with_reducible exact H) | (have H2_ := (Option.bind_some _ _).symm.trans H; rw [hy235]; with_reducible exact H2_) | (have H2_ := (Option.bind_some _ _).symm.trans H; with_reducible exact H2_) | with_reducible exact H | (rw [hy235]; exact H) | exact H
        have Ny235 := Aside0.mk hy235; clear hy235; simp only [Option.some.injEq, Prod.mk.injEq] at H; obtain ⟨rfl, rfl, rfl, rfl⟩ := H; have hnb81 := NB207_208.out; have hnc81 := NB208_207.out; have hnb82 := NB207_209.out; have hnc82 := NB209_207.out; obtain ⟨hcz83_0, hcz83_1, hcz83_2, hfz83_0, hfz83_1, hfz83_2⟩ := C3 BK207.out
        go_wp2_with (first | (go_at_call 47; (with_reducible refine (impl_copyStore.calls _ _ l0_0 _ _ l0_1 a0_2 t227 t230 t233 _ ?side1 ?side2 ?side3 ?side4 A79.out).mono ?_); (case side1 => exact KD (Kd.C_below HR0_0.out HB.out)); (case side2 => exact HC0_0.out); (case side3 => exact KD (Kd.C_below HR0_1.out HB.out)); (case side4 => exact HC0_1.out); rintro e w84 ⟨v228, v231, rfl, ho0, ho1, hb⟩; have h_ := P6 (Kd.R_lower (Kd.R_newB ho0 (g := gb208) (o := .cells #[.int .i64 a1_0, .int .i64 a1_1, .bool a1_2, .string a1_3] 35 (0, 0)) KK) (below_size KB)) (Kd.R_lower (Kd.R_newB ho1 (g := gb208) (o := .cells #[.int .i64 a1_0, .int .i64 a1_1, .bool a1_2, .string a1_3] 35 (0, 0)) KK) (below_size KB)) (BL BK207.out hb) (BL BK208.out hb) (BL BK209.out hb) (below_step KB hb); clear BK207 BK208 BK209 HB; obtain ⟨HO229, HO232, BK207, BK208, BK209, HB⟩ := h_; (try clear hb); (try clear hk); (try clear hi); (try clear ho0); (try clear ho1)) | ((with_reducible refine GD 6 ?_); (try (refine gate_guard (by rfl) ?_; dsimp only)); refine BE 6 #[.slice none 0 0, .slice none 0 0, .int .i64 0] 31 ?_; intro gb234 hg w85 hbox hb; have h_ := P15 (Kd.R_below (KR HO229.out) hb) (Kd.R_below (KR HO232.out) hb) (BL BK207.out hb) (BL BK208.out hb) (BL BK209.out hb) (below_step KB hb) hbox (Kg w hg) (Kg w hg) (NX hg BK207.out) (NY hg BK207.out) (NX hg BK208.out) (NY hg BK208.out) (NX hg BK209.out) (NY hg BK209.out); clear HO229 HO232 BK207 BK208 BK209 HB; obtain ⟨HO229, HO232, BK207, BK208, BK209, HB, BK234, GW234, GE234, NB207_234, NB234_207, NB208_234, NB234_208, NB209_234, NB234_209⟩ := h_; clear hb hbox hg; obtain ⟨Ao86, co86, eo86⟩ := Kd.R_slice HO229.out; subst eo86; have hnb87 := NB234_207.out; have hnc87 := NB207_234.out; have hnb88 := NB234_208.out; have hnc88 := NB208_234.out; have hnb89 := NB234_209.out; have hnc89 := NB209_234.out; obtain ⟨hcz90_0, hcz90_1, hcz90_2, hfz90_0, hfz90_1, hfz90_2⟩ := C3 BK234.out; obtain ⟨Ao91, co91, eo91⟩ := Kd.R_slice HO232.out; subst eo91; have hnb92 := NB208_209.out; have hnc92 := NB209_208.out; obtain ⟨hcz93_0, hcz93_1, hcz93_2, hcz93_3, hfz93_0, hfz93_1, hfz93_2, hfz93_3⟩ := C4 BK208.out) | ((with_reducible refine gate_builtin (b := .append) (xs := #[.tmp 51, .tmp 53]) rfl ?_); (try (refine gate_guard (by rfl) ?_; dsimp only)); at_builtin; refine Kd.R_append k35 (w0 := w) w.heap.size rfl (.tmp 51) (.tmp 53) 29 35 (.agg #[(.int .i64 0), (.int .i64 0), (.bool false), (.string ⟨#[]⟩)]) 40 rfl Try.underlying29 info35 rfl (by decide) (by omega) (.slice Ao91 t230.length co91) t230 (⟨a1_0, a1_1, a1_2, a1_3⟩ : S35) [.int .i64 a1_0, .int .i64 a1_1, .bool a1_2, .string a1_3] (fun k_ => some k_ ≠ (.slice Ao86 t227.length co86 : Value).ownBlock ∧ k_ ≠ gb208) (fun _ => False) rfl (by first | (go_simp; done) | (go_simp; rfl)) ?aP (fun _ hk => hk.elim) ?aF ?aO ?aB ?aS ?aL ?_; (case aP => exact k35_mkM _ _ _ (⟨a1_0, a1_1, a1_2, a1_3⟩ : S35)); (case aB => exact KB); (case aF => exact (fun k_ hk => ⟨Kd.fresh' (Kd.R_lt (RQ (RT HO229.out BK234.out))) k_ hk, Kd.freshB (g := gb208) (o := .cells #[.int .i64 a1_0, .int .i64 a1_1, .bool a1_2, .string a1_3] 35 (0, 0)) KK k_ hk⟩)); (case aO => exact (Kd.R_mono (RF (RT HO232.out BK234.out)) (fun _ hk => ⟨hk.1.1, hk.1.2⟩))); (case aS => exact (below_size KB)); (case aL => have := LMc80.out; omega); intro v236 w94 ho hb hg hat; rw [← Ny235.out] at ho; have h_ := P7 (BW BK207.out hg (Kd.R_ne HO232.out BK207.out (by decide))) (BW BK208.out hg (Kd.R_away HO232.out (fun _ hk => hk.2))) (BW BK209.out hg (Kd.R_ne HO232.out BK209.out (by decide))) (Kd.R_after (ok := (fun k_ => k_ ≠ gb208)) (Kd.R_mono (RF (RT HO229.out BK234.out)) (fun _ hk => ⟨hk.1.2, hk.1.1⟩)) hg hat) (blk_grown (g := gb234) (o := .cells #[.slice Ao86 t227.length co86, .slice Ao91 t230.length co91, .int .i64 t233] 31 (0, 0)) (by refine SK ?_; refine BP #[.slice Ao86 t227.length co86, .slice Ao91 t230.length co91, .int .i64 0] ?_ 2; refine SK ?_; refine BP #[.slice Ao86 t227.length co86, .slice none 0 0, .int .i64 0] ?_ 1; refine SK ?_; refine BP #[.slice none 0 0, .slice none 0 0, .int .i64 0] ?_ 0; exact SK BK234.out) hg (Kd.R_ne HO232.out BK234.out (by decide))) hb ho; clear BK207 BK208 BK209 HO229 BK234 HB HO232; obtain ⟨BK207, BK208, BK209, HO229, BK234, HB, HO237⟩ := h_; clear ho hb hg hat; obtain ⟨Ao95, co95, eo95⟩ := Kd.R_slice HO237.out; subst eo95; obtain ⟨hcz96_0, hcz96_1, hcz96_2, hfz96_0, hfz96_1, hfz96_2⟩ := C3 BK234.out; obtain ⟨hcz97_0, hcz97_1, hcz97_2, hfz97_0, hfz97_1, hfz97_2⟩ := C3 BK209.out))
        repeat (go_quiet (fail); try go_wp2_with (first | (go_at_call 47; (with_reducible refine (impl_copyStore.calls _ _ l0_0 _ _ l0_1 a0_2 t227 t230 t233 _ ?side1 ?side2 ?side3 ?side4 A79.out).mono ?_); (case side1 => exact KD (Kd.C_below HR0_0.out HB.out)); (case side2 => exact HC0_0.out); (case side3 => exact KD (Kd.C_below HR0_1.out HB.out)); (case side4 => exact HC0_1.out); rintro e w84 ⟨v228, v231, rfl, ho0, ho1, hb⟩; have h_ := P6 (Kd.R_lower (Kd.R_newB ho0 (g := gb208) (o := .cells #[.int .i64 a1_0, .int .i64 a1_1, .bool a1_2, .string a1_3] 35 (0, 0)) KK) (below_size KB)) (Kd.R_lower (Kd.R_newB ho1 (g := gb208) (o := .cells #[.int .i64 a1_0, .int .i64 a1_1, .bool a1_2, .string a1_3] 35 (0, 0)) KK) (below_size KB)) (BL BK207.out hb) (BL BK208.out hb) (BL BK209.out hb) (below_step KB hb); clear BK207 BK208 BK209 HB; obtain ⟨HO229, HO232, BK207, BK208, BK209, HB⟩ := h_; (try clear hb); (try clear hk); (try clear hi); (try clear ho0); (try clear ho1)) | ((with_reducible refine GD 6 ?_); (try (refine gate_guard (by rfl) ?_; dsimp only)); refine BE 6 #[.slice none 0 0, .slice none 0 0, .int .i64 0] 31 ?_; intro gb234 hg w85 hbox hb; have h_ := P15 (Kd.R_below (KR HO229.out) hb) (Kd.R_below (KR HO232.out) hb) (BL BK207.out hb) (BL BK208.out hb) (BL BK209.out hb) (below_step KB hb) hbox (Kg w hg) (Kg w hg) (NX hg BK207.out) (NY hg BK207.out) (NX hg BK208.out) (NY hg BK208.out) (NX hg BK209.out) (NY hg BK209.out); clear HO229 HO232 BK207 BK208 BK209 HB; obtain ⟨HO229, HO232, BK207, BK208, BK209, HB, BK234, GW234, GE234, NB207_234, NB234_207, NB208_234, NB234_208, NB209_234, NB234_209⟩ := h_; clear hb hbox hg; obtain ⟨Ao86, co86, eo86⟩ := Kd.R_slice HO229.out; subst eo86; have hnb87 := NB234_207.out; have hnc87 := NB207_234.out; have hnb88 := NB234_208.out; have hnc88 := NB208_234.out; have hnb89 := NB234_209.out; have hnc89 := NB209_234.out; obtain ⟨hcz90_0, hcz90_1, hcz90_2, hfz90_0, hfz90_1, hfz90_2⟩ := C3 BK234.out; obtain ⟨Ao91, co91, eo91⟩ := Kd.R_slice HO232.out; subst eo91; have hnb92 := NB208_209.out; have hnc92 := NB209_208.out; obtain ⟨hcz93_0, hcz93_1, hcz93_2, hcz93_3, hfz93_0, hfz93_1, hfz93_2, hfz93_3⟩ := C4 BK208.out) | ((with_reducible refine gate_builtin (b := .append) (xs := #[.tmp 51, .tmp 53]) rfl ?_); (try (refine gate_guard (by rfl) ?_; dsimp only)); at_builtin; refine Kd.R_append k35 (w0 := w) w.heap.size rfl (.tmp 51) (.tmp 53) 29 35 (.agg #[(.int .i64 0), (.int .i64 0), (.bool false), (.string ⟨#[]⟩)]) 40 rfl Try.underlying29 info35 rfl (by decide) (by omega) (.slice Ao91 t230.length co91) t230 (⟨a1_0, a1_1, a1_2, a1_3⟩ : S35) [.int .i64 a1_0, .int .i64 a1_1, .bool a1_2, .string a1_3] (fun k_ => some k_ ≠ (.slice Ao86 t227.length co86 : Value).ownBlock ∧ k_ ≠ gb208) (fun _ => False) rfl (by first | (go_simp; done) | (go_simp; rfl)) ?aP (fun _ hk => hk.elim) ?aF ?aO ?aB ?aS ?aL ?_; (case aP => exact k35_mkM _ _ _ (⟨a1_0, a1_1, a1_2, a1_3⟩ : S35)); (case aB => exact KB); (case aF => exact (fun k_ hk => ⟨Kd.fresh' (Kd.R_lt (RQ (RT HO229.out BK234.out))) k_ hk, Kd.freshB (g := gb208) (o := .cells #[.int .i64 a1_0, .int .i64 a1_1, .bool a1_2, .string a1_3] 35 (0, 0)) KK k_ hk⟩)); (case aO => exact (Kd.R_mono (RF (RT HO232.out BK234.out)) (fun _ hk => ⟨hk.1.1, hk.1.2⟩))); (case aS => exact (below_size KB)); (case aL => have := LMc80.out; omega); intro v236 w94 ho hb hg hat; rw [← Ny235.out] at ho; have h_ := P7 (BW BK207.out hg (Kd.R_ne HO232.out BK207.out (by decide))) (BW BK208.out hg (Kd.R_away HO232.out (fun _ hk => hk.2))) (BW BK209.out hg (Kd.R_ne HO232.out BK209.out (by decide))) (Kd.R_after (ok := (fun k_ => k_ ≠ gb208)) (Kd.R_mono (RF (RT HO229.out BK234.out)) (fun _ hk => ⟨hk.1.2, hk.1.1⟩)) hg hat) (blk_grown (g := gb234) (o := .cells #[.slice Ao86 t227.length co86, .slice Ao91 t230.length co91, .int .i64 t233] 31 (0, 0)) (by refine SK ?_; refine BP #[.slice Ao86 t227.length co86, .slice Ao91 t230.length co91, .int .i64 0] ?_ 2; refine SK ?_; refine BP #[.slice Ao86 t227.length co86, .slice none 0 0, .int .i64 0] ?_ 1; refine SK ?_; refine BP #[.slice none 0 0, .slice none 0 0, .int .i64 0] ?_ 0; exact SK BK234.out) hg (Kd.R_ne HO232.out BK234.out (by decide))) hb ho; clear BK207 BK208 BK209 HO229 BK234 HB HO232; obtain ⟨BK207, BK208, BK209, HO229, BK234, HB, HO237⟩ := h_; clear ho hb hg hat; obtain ⟨Ao95, co95, eo95⟩ := Kd.R_slice HO237.out; subst eo95; obtain ⟨hcz96_0, hcz96_1, hcz96_2, hfz96_0, hfz96_1, hfz96_2⟩ := C3 BK234.out; obtain ⟨hcz97_0, hcz97_1, hcz97_2, hfz97_0, hfz97_1, hfz97_2⟩ := C3 BK209.out)))
        refine bodyPost_ret (results_ct rfl _ _ gb209 31 #[.slice Ao86 t227.length co86, .slice Ao95 y235.length co95, .int .i64 t233] (0, 0) _ rfl (by refine SK ?_; refine BP #[.slice Ao86 t227.length co86, .slice Ao95 y235.length co95, .int .i64 0] ?_ 2; refine SK ?_; refine BP #[.slice Ao86 t227.length co86, .slice none 0 0, .int .i64 0] ?_ 1; refine SK ?_; refine BP #[.slice none 0 0, .slice none 0 0, .int .i64 0] ?_ 0; refine SK ?_; refine blk_far ?_ NB209_234.out _; exact SK BK209.out) Try.underlying31 rfl (by kernel_rfl)) rfl ?_; exact ⟨_, _, KE, RQ (RT (RT HO229.out BK234.out) BK209.out) (hm := fun _ h => h.1.1.2), RQ (RT (RT HO237.out BK234.out) BK209.out) (hm := fun _ h => h.1.1.1), KB⟩
       ·rw [if_neg c80] at H
        exact absurd H (by simp)

/-! ### laws_big: function 20 -/
def laws_big.f (l0 : List Int) : Option (Bool) := some (decide ((l0.length : Int) > 1048576))
set_option maxHeartbeats 8000000 in
set_option maxRecDepth 100000 in
theorem laws_big.calls (A0 : Option Addr) (c0 : Nat) (l0 : List Int) (r : Bool) (w : World) (hr0 : Kd.C (Kd.int .u8) w A0 l0.length l0) (hc0 : l0.length ≤ c0) (h : laws_big.f l0 = some r) :
  Calls Try.prog 20 #[.slice A0 l0.length c0] w fun e w' => e = .returned (.bool r) ∧ Drawn0 w w' := by
 have HR0 := Aside0.mk hr0; have HC0 := Aside0.mk hc0; clear hr0 hc0; have H : (some (decide ((l0.length : Int) > 1048576))) = some r := h; clear h; obtain rfl := Option.some.inj H
 go_enter Try.func20, Try.ntmps20
 go_wp2
 go_ret
 exact ⟨by first | rfl | (simp; done) | (simp [*]; done), by repeat (first | exact Drawn0.refl _ | apply Drawn0.step)⟩

/-! ### impl_placeIn: function 59 -/
-- NOROUNDS
def cmpPl (x : S35) (a : Int) : Int := if x.f0 < a then -1 else if x.f0 > a then 1 else 0
set_option maxHeartbeats 4000000 in
theorem placeIn1_calls (x : S35) (a : Int) (W : World) : Calls Try.prog 86 #[.agg #[.int .i64 x.f0, .int .i64 x.f1, .bool x.f2, .string x.f3], .int .i64 a] W fun e w' => e = .returned (.int .i64 (cmpPl x a)) ∧ Below W.heap.size W w' := by
 have hb0 : Below W.heap.size W (W.alloc (.cells #[.int .i64 x.f0, .int .i64 x.f1, .bool x.f2, .string x.f3] 35)) := below_alloc (Below.refl _ _) _
 have HB := Aside0.mk hb0
 clear hb0
 unfold cmpPl
 by_cases h1 : x.f0 < a
 ·rw [if_pos h1]
  have c1 : decide (x.f0 < a) = true := decide_eq_true h1
  clear h1
  go_enter Try.func86, Try.ntmps86
  go_wp2
  go_ret
  exact ⟨rfl, HB.out⟩
 ·rw [if_neg h1]
  have c1 : decide (x.f0 < a) = false := decide_eq_false h1
  by_cases h2 : x.f0 > a
  ·rw [if_pos h2]
   have c2 : decide (a < x.f0) = true := decide_eq_true h2
   clear h1 h2
   go_enter Try.func86, Try.ntmps86
   go_wp2
   go_ret
   exact ⟨rfl, HB.out⟩
  ·rw [if_neg h2]
   have c2 : decide (a < x.f0) = false := decide_eq_false h2
   clear h1 h2
   go_enter Try.func86, Try.ntmps86
   go_wp2
   go_ret
   exact ⟨rfl, HB.out⟩
def ascPG : Int → List S35 → Bool
 | _, [] => true
 | p, x :: t => decide (p < x.f0) && ascPG x.f0 t
def plAscG : List S35 → Bool
 | [] => true
 | x :: t => ascPG x.f0 t
theorem ascPG_all : ∀ (l : List S35) (p : Int), ascPG p l = true → (∀ x ∈ l, p < x.f0) ∧ ∀ a b, a < b → b < l.length → (l.getD a z35).f0 < (l.getD b z35).f0
 | [], _, _ => ⟨fun x hx => by simp at hx, fun a b _ h => by simp at h⟩
 | x :: t, p, h => by
  simp only [ascPG, Bool.and_eq_true, decide_eq_true_eq] at h
  have ih := ascPG_all t x.f0 h.2
  refine ⟨fun y hy => ?_, fun a b hab hb => ?_⟩
  ·rcases List.mem_cons.1 hy with rfl | hy
   ·exact h.1
   ·have := ih.1 y hy; omega
  ·obtain ⟨b, rfl⟩ : ∃ c, b = c + 1 := ⟨b - 1, by omega⟩
   have hb' : b < t.length := by simpa using hb
   cases a with
   | zero =>
    have : t.getD b z35 ∈ t := by rw [List.getD_eq_getElem?_getD, List.getElem?_eq_getElem hb']; exact List.getElem_mem hb'
    simpa using ih.1 _ this
   | succ a => simpa using ih.2 a b (by omega) hb'
theorem plAscG_all (l : List S35) (h : plAscG l = true) : ∀ a b, a < b → b < l.length → (l.getD a z35).f0 < (l.getD b z35).f0 := by
 cases l with
 | nil => intro a b _ hb; simp at hb
 | cons x t => exact (ascPG_all (x :: t) (x.f0 - 1) (by simp only [ascPG, Bool.and_eq_true, decide_eq_true_eq]; exact ⟨by omega, h⟩)).2
def lowG (l : List S35) (a : Int) : Nat := l.countP (fun x => decide (x.f0 < a))
theorem lowG_boundary (a : Int) : ∀ (l : List S35) (i : Nat), i ≤ l.length → (∀ t, t < i → (l.getD t z35).f0 < a) → (∀ t, i ≤ t → t < l.length → a ≤ (l.getD t z35).f0) → lowG l a = i
 | [], i, hi, _, _ => by simp at hi; simp [hi, lowG]
 | x :: r, 0, _, _, h2 => by
  unfold lowG
  rw [List.countP_eq_zero]
  intro y hy
  obtain ⟨t, ht, rfl⟩ := List.getElem_of_mem hy
  have := h2 t (Nat.zero_le _) ht
  rw [List.getD_eq_getElem?_getD, List.getElem?_eq_getElem ht, Option.getD_some] at this
  simp; omega
 | x :: r, i + 1, hi, h1, h2 => by
  have ha : x.f0 < a := by simpa using h1 0 (Nat.succ_pos _)
  have ih := lowG_boundary a r i (by simpa using hi) (fun t ht => by simpa using h1 (t + 1) (by omega)) (fun t h3 h4 => by simpa using h2 (t + 1) (by omega) (by simpa using h4))
  unfold lowG at ih ⊢
  rw [List.countP_cons_of_pos (by simpa using ha), ih]
def foundG (l : List S35) (a : Int) : Bool := decide (lowG l a < l.length) && decide ((l.getD (lowG l a) z35).f0 = a)
set_option maxHeartbeats 4000000 in
set_option maxRecDepth 100000 in
theorem bsearch_calls (A0 : Option Addr) (c0 : Nat) (l0 : List S35) (a : Int) (w : World) (hr0 : Kd.C k35 w A0 l0.length l0) (hasc : plAscG l0 = true) (hsz : l0.length < 4611686018427387904) :
  Calls Try.prog 85 #[.slice A0 l0.length c0, .int .i64 a, .func (.func 86) #[] #[]] w fun e w' => e = .returned (.tuple #[.int .i64 (lowG l0 a : Nat), .bool (foundG l0 a)]) ∧ Below w.heap.size w w' := by
 have HR0 := Aside0.mk hr0
 have M := Aside0.mk (plAscG_all l0 hasc)
 have S0 := Aside0.mk (Below.refl w.heap.size w)
 clear hr0 hasc
 go_enter Try.func85, Try.ntmps85
 go_wp2
 go_loopg [9, 10] l0.length (fun kx s9 s10 wr => ∃ lo hi : Nat, s9 = .int .i64 lo ∧ s10 = .int .i64 hi ∧ lo ≤ hi ∧ hi ≤ l0.length ∧ hi - lo ≤ kx ∧ Aside0 (Below w.heap.size w wr) ∧
  Aside0 ((∀ t, t < lo → (l0.getD t z35).f0 < a) ∧ (∀ t, hi ≤ t → t < l0.length → a ≤ (l0.getD t z35).f0)))
 case atStart => exact ⟨0, l0.length, rfl, rfl, Nat.zero_le _, Nat.le_refl _, by omega, S0, ⟨fun t ht => absurd ht (Nat.not_lt_zero _), fun t h1 h2 => by omega⟩⟩
 case round =>
  clear S0
  obtain ⟨lo, hi, rfl, rfl, hlh, hin, hg, S1, I⟩ := hrel
  by_cases hlt : lo < hi
  ·obtain ⟨ad, e1, hx0, hx1, hx2, hx3⟩ := at_T35 HR0.out (((lo + hi) / 2 : Nat) : Int) (by omega) (by omega)
   cases e1
   replace hx0 := (S1.out.cell (World.block_lt_of_cell? w _ hx0)).trans hx0
   replace hx1 := (S1.out.cell (World.block_lt_of_cell? w _ hx1)).trans hx1
   replace hx2 := (S1.out.cell (World.block_lt_of_cell? w _ hx2)).trans hx2
   replace hx3 := (S1.out.cell (World.block_lt_of_cell? w _ hx3)).trans hx3
   rw [Int.toNat_natCast] at hx0 hx1 hx2 hx3
   have hrd : rd_T35 l0 (((lo + hi) / 2 : Nat) : Int) = l0.getD ((lo + hi) / 2) z35 := by rw [rd_T35, Int.toNat_natCast]
   rw [hrd] at hx0 hx1 hx2 hx3
   have hc := placeIn1_calls (l0.getD ((lo + hi) / 2) z35) a
   generalize hy : l0.getD ((lo + hi) / 2) z35 = y at hx0 hx1 hx2 hx3 hc
   have Y := Aside0.mk hy
   have HC := Aside0.mk hc
   clear hy hrd hc
   by_cases hyx : y.f0 < a
   ·have hcv : cmpPl y a = -1 := by unfold cmpPl; rw [if_pos hyx]
    rw [hcv] at HC
    clear hcv
    go_wp2_with fail
    refine (HC.out _).mono ?_
    rintro e w' ⟨rfl, hb⟩
    have HB := Aside0.mk hb
    clear hb
    go_wp2
    go_roundg (hi - ((lo + hi) / 2 + 1))
    case measure => omega
    case rel =>
     refine ⟨(lo + hi) / 2 + 1, hi, by rw [show ((lo : Int) + (hi : Int)) / 2 + 1 = (((lo + hi) / 2 + 1 : Nat) : Int) by omega], rfl, by omega, hin, Nat.le_refl _, ⟨below_then S1.out S1.out.size HB.out⟩, ⟨fun t ht => ?_, I.out.2⟩⟩
     by_cases htm : t = (lo + hi) / 2
     ·rw [htm, Y.out]; exact hyx
     ·have := M.out t ((lo + hi) / 2) (by omega) (by omega)
      rw [Y.out] at this
      omega
   ·have hcv : cmpPl y a = 1 ∨ cmpPl y a = 0 := by
     unfold cmpPl; rw [if_neg hyx]
     by_cases h2 : y.f0 > a
     ·rw [if_pos h2]; exact .inl rfl
     ·rw [if_neg h2]; exact .inr rfl
    rcases hcv with hcv | hcv
    all_goals
     rw [hcv] at HC
     clear hcv
     go_wp2_with fail
     refine (HC.out _).mono ?_
     rintro e w' ⟨rfl, hb⟩
     have HB := Aside0.mk hb
     clear hb
     go_wp2
     go_roundg ((lo + hi) / 2 - lo)
     case measure => omega
     case rel =>
      refine ⟨lo, (lo + hi) / 2, rfl, by rw [show ((lo : Int) + (hi : Int)) / 2 = (((lo + hi) / 2 : Nat) : Int) by omega], by omega, by omega, Nat.le_refl _, ⟨below_then S1.out S1.out.size HB.out⟩, ⟨I.out.1, fun t ht htn => ?_⟩⟩
      by_cases htm : t = (lo + hi) / 2
      ·rw [htm, Y.out]; omega
      ·have := M.out ((lo + hi) / 2) t (by omega) htn
       rw [Y.out] at this
       omega
  ·obtain rfl : hi = lo := by omega
   have ecnt : lowG l0 a = hi := lowG_boundary a l0 hi hin I.out.1 I.out.2
   have EC := Aside0.mk ecnt
   have FD : foundG l0 a = (decide (hi < l0.length) && decide ((l0.getD hi z35).f0 = a)) := by unfold foundG; rw [ecnt]
   have FD := Aside0.mk FD
   clear ecnt
   by_cases hn : hi < l0.length
   ·obtain ⟨ad, e1, hx0, hx1, hx2, hx3⟩ := at_T35 HR0.out ((hi : Nat) : Int) (by omega) (by omega)
    cases e1
    replace hx0 := (S1.out.cell (World.block_lt_of_cell? w _ hx0)).trans hx0
    replace hx1 := (S1.out.cell (World.block_lt_of_cell? w _ hx1)).trans hx1
    replace hx2 := (S1.out.cell (World.block_lt_of_cell? w _ hx2)).trans hx2
    replace hx3 := (S1.out.cell (World.block_lt_of_cell? w _ hx3)).trans hx3
    rw [Int.toNat_natCast] at hx0 hx1 hx2 hx3
    have hrd : rd_T35 l0 ((hi : Nat) : Int) = l0.getD hi z35 := by rw [rd_T35, Int.toNat_natCast]
    rw [hrd] at hx0 hx1 hx2 hx3
    have hc := placeIn1_calls (l0.getD hi z35) a
    generalize l0.getD hi z35 = y at hx0 hx1 hx2 hx3 hc FD
    have HC := Aside0.mk hc
    clear hrd hc
    have hcv : (cmpPl y a = -1 ∧ decide (y.f0 = a) = false) ∨ (cmpPl y a = 1 ∧ decide (y.f0 = a) = false) ∨ (cmpPl y a = 0 ∧ decide (y.f0 = a) = true) := by
     unfold cmpPl
     by_cases h1 : y.f0 < a
     ·rw [if_pos h1]; exact .inl ⟨rfl, decide_eq_false (by omega)⟩
     ·rw [if_neg h1]
      by_cases h2 : y.f0 > a
      ·rw [if_pos h2]; exact .inr (.inl ⟨rfl, decide_eq_false (by omega)⟩)
      ·rw [if_neg h2]; exact .inr (.inr ⟨rfl, decide_eq_true (by omega)⟩)
    rcases hcv with ⟨hcv, hd⟩ | ⟨hcv, hd⟩ | ⟨hcv, hd⟩
    all_goals
     rw [hcv] at HC
     rw [hd, decide_eq_true hn] at FD
     clear hcv hd
     go_wp2_with fail
     refine (HC.out _).mono ?_
     rintro e w' ⟨rfl, hb⟩
     have HB := Aside0.mk hb
     clear hb
     go_wp2
     go_ret2
     rw [EC.out, FD.out]
     exact ⟨rfl, below_then S1.out S1.out.size HB.out⟩
   ·rw [decide_eq_false hn, Bool.false_and] at FD
    go_wp2
    go_ret2
    rw [EC.out, FD.out]
    exact ⟨rfl, S1.out⟩
def impl_placeIn.f (l0 : List S35) (a1 : Int) : Option (Int × Bool) := if plAscG l0 = true ∧ l0.length < 4611686018427387904 then (some ((lowG l0 a1 : Nat), foundG l0 a1)) else (none)
set_option maxHeartbeats 4000000 in
set_option maxRecDepth 100000 in
theorem impl_placeIn.calls (A0 : Option Addr) (c0 : Nat) (l0 : List S35) (a1 : Int) (r1 : Int) (r2 : Bool) (w : World) (hr0 : Kd.C k35 w A0 l0.length l0) (hc0 : l0.length ≤ c0) (h : impl_placeIn.f l0 a1 = some (r1, r2)) :
  Calls Try.prog 59 #[.slice A0 l0.length c0, .int .i64 a1] w fun e w' => e = .returned (.tuple #[.int .i64 r1, .bool r2]) ∧ Below w.heap.size w w' := by
 unfold impl_placeIn.f at h
 by_cases hl : plAscG l0 = true ∧ l0.length < 4611686018427387904
 ·rw [if_pos hl] at h
  simp only [Option.some.injEq, Prod.mk.injEq] at h
  obtain ⟨rfl, rfl⟩ := h
  have HC := Aside0.mk (bsearch_calls A0 c0 l0 a1 w hr0 hl.1 hl.2)
  clear hr0 hl
  generalize lowG l0 a1 = i at HC ⊢
  generalize foundG l0 a1 = b at HC ⊢
  go_enter Try.func59, Try.ntmps59
  go_wp2_with (go_at_call 85; refine HC.out.mono ?_; rintro e w1 ⟨rfl, hb⟩; have HB := Aside0.mk hb; clear hb)
  go_ret2
  exact ⟨rfl, HB.out⟩
 ·rw [if_neg hl] at h
  exact absurd h (by simp)

end Go.Proofs.Ytnoghojlpicecaa.PFnStored
