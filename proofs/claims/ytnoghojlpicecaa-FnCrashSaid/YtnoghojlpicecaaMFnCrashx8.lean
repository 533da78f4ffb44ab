-- What each Go function that this law reaches comes to: written by a program out of the translation.
import Derived.Test.YtnoghojlpicecaaMFnCrashx0
import Derived.Test.YtnoghojlpicecaaMFnCrashx2
import Derived.Test.YtnoghojlpicecaaMFnCrashx4
import Derived.Test.YtnoghojlpicecaaMFnCrashx6
import Derived.Test.YtnoghojlpicecaaMFnCrashx7
namespace Go.Proofs.Ytnoghojlpicecaa.PFnCrash
open Go.RowKit Go.Proofs.YtnoghojlpicecaaW.PrintWords Go.Proofs.YtnoghojlpicecaaW.PrintLast Go.Proofs.YtnoghojlpicecaaW.PrintMore
attribute [local go_sem] max2_int min2_int max_two min_two max_three min_three max_four min_four   -- for this text's walks alone
set_option linter.unusedVariables false
set_option linter.unusedSimpArgs false

/-! ### spec_l6DrawRight: function 82 -/
mutual
def spec_l6DrawRight.l0 : Nat → Int → Int → List Int → Int → Int → List (S35) → List (S35) → Int → Option ((List (S35)) × (List (S35)) × Int × Int × Int)
 | 0, _, _, _, _, _, _, _, _ => none
 | k + 1, x4, x5, x1000, x1001, x1002, x358000, x358001, x358002 => if x5 < x4 then ((spec_l3DrawRight.f x1000 x1001 x1002).bind fun bt361 => ((spec_StorePut.f k x358000 x358001 x358002 bt361.1 bt361.2.1 bt361.2.2.1 bt361.2.2.2.1).bind fun bt367 => ((spec_l1Below.f x1000 bt361.2.2.2.2.1 bt361.2.2.2.2.2 6).bind fun bt376 => (if bt376.1 = 0 then ((spec_StoreSync.f k x358000 x358001 x358002).bind fun bt379 => (spec_l6DrawRight.j1 k x4 x5 bt379.2.2.2 x1000 bt376.2.1 bt376.2.2 x358000 x358001 x358002 bt379.1 bt379.2.1 bt379.2.2.1)) else (if bt376.1 = 1 then ((spec_StoreSync.f k bt367.1 bt367.2.1 bt367.2.2.1).bind fun bt387 => (spec_l6DrawRight.j1 k x4 x5 bt387.2.2.2 x1000 bt376.2.1 bt376.2.2 x358000 x358001 x358002 bt387.1 bt387.2.1 bt387.2.2.1)) else (if bt376.1 = 2 then ((spec_l1Once.f x1000 bt376.2.1 bt376.2.2 3).bind fun bt395 => (if bt395.1 = true then ((spec_l1Below.f x1000 bt395.2.1 bt395.2.2 4).bind fun bt398 => ((spec_StoreSeal.f k x358000 x358001 x358002 bt398.1).bind fun bt401 => (spec_l6DrawRight.j1 k x4 x5 bt401.2.2.2 x1000 bt398.2.1 bt398.2.2 x358000 x358001 x358002 bt401.1 bt401.2.1 bt401.2.2.1))) else (spec_l6DrawRight.j1 k x4 x5 bt367.2.2.2 x1000 bt395.2.1 bt395.2.2 x358000 x358001 x358002 bt367.1 bt367.2.1 bt367.2.2.1))) else (spec_l6DrawRight.j1 k x4 x5 bt367.2.2.2 x1000 bt376.2.1 bt376.2.2 x358000 x358001 x358002 bt367.1 bt367.2.1 bt367.2.2.1))))))) else ((spec_l1Once.f x1000 x1001 x1002 40).bind fun bt409 => (if bt409.1 = true then (spec_l6DrawRight.l1 k 1 x1000 bt409.2.1 bt409.2.2 ([] : List (S35)) x358001 x358002) else (some (x358000, x358001, x358002, bt409.2.1, bt409.2.2))))
def spec_l6DrawRight.j1 : Nat → Int → Int → Bool → List Int → Int → Int → List (S35) → List (S35) → Int → List (S35) → List (S35) → Int → Option ((List (S35)) × (List (S35)) × Int × Int × Int)
 | 0, _, _, _, _, _, _, _, _, _, _, _, _ => none
 | k + 1, x4, x5, x7, x1000, x1001, x1002, x358000, x358001, x358002, x376000, x376001, x376002 => if x7 = true then (spec_l6DrawRight.l0 k x4 (wrap64 (x5 + 1)) x1000 x1001 x1002 x376000 x376001 x376002) else (spec_l6DrawRight.l0 k x4 (wrap64 (x5 + 1)) x1000 x1001 x1002 x358000 x358001 x358002)
def spec_l6DrawRight.l1 : Nat → Int → List Int → Int → Int → List (S35) → List (S35) → Int → Option ((List (S35)) × (List (S35)) × Int × Int × Int)
 | 0, _, _, _, _, _, _, _ => none
 | k + 1, x8, x1000, x1001, x1002, x358000, x358001, x358002 => if x8 ≤ 4 then (spec_l6DrawRight.l2 k x8 1 x1000 x1001 x1002 x358000 x358001 x358002) else (some (x358000, x358001, x358002, x1001, x1002))
def spec_l6DrawRight.l2 : Nat → Int → Int → List Int → Int → Int → List (S35) → List (S35) → Int → Option ((List (S35)) × (List (S35)) × Int × Int × Int)
 | 0, _, _, _, _, _, _, _, _ => none
 | k + 1, x8, x9, x1000, x1001, x1002, x358000, x358001, x358002 => if x9 ≤ 50 then ((spec_l1Place.f x8 x9).bind fun t412 => (if x358000.length < 3518437208883 then (spec_l6DrawRight.l2 k x8 (wrap64 (x9 + 1)) x1000 x1001 x1002 (x358000 ++ [(⟨t412, 0, false, (⟨#[]⟩ : ByteArray)⟩ : S35)]) x358001 x358002) else (none))) else (spec_l6DrawRight.l1 k (wrap64 (x8 + 1)) x1000 x1001 x1002 x358000 x358001 x358002)
end
def spec_l6DrawRight.f (k : Nat) (s0_0 : List Int) (s0_1 : Int) (s0_2 : Int) : Option ((List (S35)) × (List (S35)) × Int × Int × Int) := (spec_l1Below.f s0_0 s0_1 s0_2 8).bind fun bt358 => (spec_l6DrawRight.l0 k bt358.1 0 s0_0 bt358.2.1 bt358.2.2 ([] : List (S35)) ([] : List (S35)) 0)
theorem spec_l6DrawRight.mono_l : ∀ k, (∀ y0 y1 y2 y3 y4 y5 y6 y7, LeO (spec_l6DrawRight.l0 k y0 y1 y2 y3 y4 y5 y6 y7) (spec_l6DrawRight.l0 (k + 1) y0 y1 y2 y3 y4 y5 y6 y7)) ∧ (∀ y0 y1 y2 y3 y4 y5 y6 y7 y8 y9 y10 y11, LeO (spec_l6DrawRight.j1 k y0 y1 y2 y3 y4 y5 y6 y7 y8 y9 y10 y11) (spec_l6DrawRight.j1 (k + 1) y0 y1 y2 y3 y4 y5 y6 y7 y8 y9 y10 y11)) ∧ (∀ y0 y1 y2 y3 y4 y5 y6, LeO (spec_l6DrawRight.l1 k y0 y1 y2 y3 y4 y5 y6) (spec_l6DrawRight.l1 (k + 1) y0 y1 y2 y3 y4 y5 y6)) ∧ (∀ y0 y1 y2 y3 y4 y5 y6 y7, LeO (spec_l6DrawRight.l2 k y0 y1 y2 y3 y4 y5 y6 y7) (spec_l6DrawRight.l2 (k + 1) y0 y1 y2 y3 y4 y5 y6 y7))
 | 0 => ⟨fun _ _ _ _ _ _ _ _ r h => by simp [spec_l6DrawRight.l0] at h, fun _ _ _ _ _ _ _ _ _ _ _ _ r h => by simp [spec_l6DrawRight.j1] at h, fun _ _ _ _ _ _ _ r h => by simp [spec_l6DrawRight.l1] at h, fun _ _ _ _ _ _ _ _ r h => by simp [spec_l6DrawRight.l2] at h⟩
 | k + 1 => by
  obtain ⟨ih0, ih1, ih2, ih3⟩ := spec_l6DrawRight.mono_l k
  refine ⟨?_, ?_, ?_, ?_⟩
  ·intro y0 y1 y2 y3 y4 y5 y6 y7
   unfold spec_l6DrawRight.l0
   repeat' first
   | (with_reducible exact ih0 _ _ _ _ _ _ _ _)
   | (with_reducible exact ih1 _ _ _ _ _ _ _ _ _ _ _ _)
   | (with_reducible exact ih2 _ _ _ _ _ _ _)
   | (with_reducible exact ih3 _ _ _ _ _ _ _ _)
   | (with_reducible exact spec_StorePut.mono _ _ _ _ _ _ _ _)
   | (with_reducible exact spec_StoreSeal.mono _ _ _ _ _)
   | (with_reducible exact spec_StoreSync.mono _ _ _ _)
   | (with_reducible exact LeO.refl _)
   | (with_reducible exact LeO.none _)
   | (with_reducible refine LeO.ite ?_ ?_)
   | (with_reducible refine LeO.bind ?_ (fun _ => ?_))
   | exact ih0 _ _ _ _ _ _ _ _
   | exact ih1 _ _ _ _ _ _ _ _ _ _ _ _
   | exact ih2 _ _ _ _ _ _ _
   | exact ih3 _ _ _ _ _ _ _ _
   | exact spec_StorePut.mono _ _ _ _ _ _ _ _
   | exact spec_StoreSeal.mono _ _ _ _ _
   | exact spec_StoreSync.mono _ _ _ _
   | exact LeO.none _
   | refine LeO.ite ?_ ?_
   | refine LeO.bind ?_ (fun _ => ?_)
  ·intro y0 y1 y2 y3 y4 y5 y6 y7 y8 y9 y10 y11
   unfold spec_l6DrawRight.j1
   repeat' first
   | (with_reducible exact ih0 _ _ _ _ _ _ _ _)
   | (with_reducible exact ih1 _ _ _ _ _ _ _ _ _ _ _ _)
   | (with_reducible exact ih2 _ _ _ _ _ _ _)
   | (with_reducible exact ih3 _ _ _ _ _ _ _ _)
   | (with_reducible exact spec_StorePut.mono _ _ _ _ _ _ _ _)
   | (with_reducible exact spec_StoreSeal.mono _ _ _ _ _)
   | (with_reducible exact spec_StoreSync.mono _ _ _ _)
   | (with_reducible exact LeO.refl _)
   | (with_reducible exact LeO.none _)
   | (with_reducible refine LeO.ite ?_ ?_)
   | (with_reducible refine LeO.bind ?_ (fun _ => ?_))
   | exact ih0 _ _ _ _ _ _ _ _
   | exact ih1 _ _ _ _ _ _ _ _ _ _ _ _
   | exact ih2 _ _ _ _ _ _ _
   | exact ih3 _ _ _ _ _ _ _ _
   | exact spec_StorePut.mono _ _ _ _ _ _ _ _
   | exact spec_StoreSeal.mono _ _ _ _ _
   | exact spec_StoreSync.mono _ _ _ _
   | exact LeO.none _
   | refine LeO.ite ?_ ?_
   | refine LeO.bind ?_ (fun _ => ?_)
  ·intro y0 y1 y2 y3 y4 y5 y6
   unfold spec_l6DrawRight.l1
   repeat' first
   | (with_reducible exact ih0 _ _ _ _ _ _ _ _)
   | (with_reducible exact ih1 _ _ _ _ _ _ _ _ _ _ _ _)
   | (with_reducible exact ih2 _ _ _ _ _ _ _)
   | (with_reducible exact ih3 _ _ _ _ _ _ _ _)
   | (with_reducible exact spec_StorePut.mono _ _ _ _ _ _ _ _)
   | (with_reducible exact spec_StoreSeal.mono _ _ _ _ _)
   | (with_reducible exact spec_StoreSync.mono _ _ _ _)
   | (with_reducible exact LeO.refl _)
   | (with_reducible exact LeO.none _)
   | (with_reducible refine LeO.ite ?_ ?_)
   | (with_reducible refine LeO.bind ?_ (fun _ => ?_))
   | exact ih0 _ _ _ _ _ _ _ _
   | exact ih1 _ _ _ _ _ _ _ _ _ _ _ _
   | exact ih2 _ _ _ _ _ _ _
   | exact ih3 _ _ _ _ _ _ _ _
   | exact spec_StorePut.mono _ _ _ _ _ _ _ _
   | exact spec_StoreSeal.mono _ _ _ _ _
   | exact spec_StoreSync.mono _ _ _ _
   | exact LeO.none _
   | refine LeO.ite ?_ ?_
   | refine LeO.bind ?_ (fun _ => ?_)
  ·intro y0 y1 y2 y3 y4 y5 y6 y7
   unfold spec_l6DrawRight.l2
   repeat' first
   | (with_reducible exact ih0 _ _ _ _ _ _ _ _)
   | (with_reducible exact ih1 _ _ _ _ _ _ _ _ _ _ _ _)
   | (with_reducible exact ih2 _ _ _ _ _ _ _)
   | (with_reducible exact ih3 _ _ _ _ _ _ _ _)
   | (with_reducible exact spec_StorePut.mono _ _ _ _ _ _ _ _)
   | (with_reducible exact spec_StoreSeal.mono _ _ _ _ _)
   | (with_reducible exact spec_StoreSync.mono _ _ _ _)
   | (with_reducible exact LeO.refl _)
   | (with_reducible exact LeO.none _)
   | (with_reducible refine LeO.ite ?_ ?_)
   | (with_reducible refine LeO.bind ?_ (fun _ => ?_))
   | exact ih0 _ _ _ _ _ _ _ _
   | exact ih1 _ _ _ _ _ _ _ _ _ _ _ _
   | exact ih2 _ _ _ _ _ _ _
   | exact ih3 _ _ _ _ _ _ _ _
   | exact spec_StorePut.mono _ _ _ _ _ _ _ _
   | exact spec_StoreSeal.mono _ _ _ _ _
   | exact spec_StoreSync.mono _ _ _ _
   | exact LeO.none _
   | refine LeO.ite ?_ ?_
   | refine LeO.bind ?_ (fun _ => ?_)
theorem spec_l6DrawRight.mono : ∀ a0 a1 a2 k, LeO (spec_l6DrawRight.f k a0 a1 a2) (spec_l6DrawRight.f (k + 1) a0 a1 a2) := by
 intro a0 a1 a2 k
 obtain ⟨ih0, ih1, ih2, ih3⟩ := spec_l6DrawRight.mono_l k
 unfold spec_l6DrawRight.f
 repeat' first
   | (with_reducible exact ih0 _ _ _ _ _ _ _ _)
   | (with_reducible exact ih1 _ _ _ _ _ _ _ _ _ _ _ _)
   | (with_reducible exact ih2 _ _ _ _ _ _ _)
   | (with_reducible exact ih3 _ _ _ _ _ _ _ _)
   | (with_reducible exact spec_StorePut.mono _ _ _ _ _ _ _ _)
   | (with_reducible exact spec_StoreSeal.mono _ _ _ _ _)
   | (with_reducible exact spec_StoreSync.mono _ _ _ _)
   | (with_reducible exact LeO.refl _)
   | (with_reducible exact LeO.none _)
   | (with_reducible refine LeO.ite ?_ ?_)
   | (with_reducible refine LeO.bind ?_ (fun _ => ?_))
   | exact ih0 _ _ _ _ _ _ _ _
   | exact ih1 _ _ _ _ _ _ _ _ _ _ _ _
   | exact ih2 _ _ _ _ _ _ _
   | exact ih3 _ _ _ _ _ _ _ _
   | exact spec_StorePut.mono _ _ _ _ _ _ _ _
   | exact spec_StoreSeal.mono _ _ _ _ _
   | exact spec_StoreSync.mono _ _ _ _
   | exact LeO.none _
   | refine LeO.ite ?_ ?_
   | refine LeO.bind ?_ (fun _ => ?_)
def spec_l6DrawRight.T6 : Bool × List (List Nat × List Nat) := (true, [([], []), ([], []), ([1], [1]), ([0, 2, 2], [0, 2]), ([3], [3]), ([4], [4]), ([4], [4]), ([], []), ([7, 5, 3, 0, 1, 2, 3, 4, 5, 7], [5, 7]), ([6, 8, 0, 1, 2, 3, 4, 5, 6, 7, 8], [6])])
def spec_l6DrawRight.B6 : List Nat := [0, 0, 2, 7, 15, 31, 31, 0, 191, 511]
theorem spec_l6DrawRight.tab6 : rtab .any (opsOf Try.f82 6) = spec_l6DrawRight.T6 := by kernel_rfl
theorem spec_l6DrawRight.bits6 : waitsOk spec_l6DrawRight.T6.2 spec_l6DrawRight.B6 = true := by kernel_rfl
def spec_l6DrawRight.T14 : Bool × List (List Nat × List Nat) := (true, [([], []), ([], []), ([1], [1]), ([0, 2, 2], [0, 2]), ([3], [3]), ([4], [4]), ([4], [4]), ([5, 3, 0, 1, 2, 3, 4, 5], [5]), ([6, 7, 0, 1, 2, 3, 4, 5, 6, 7], [6])])
def spec_l6DrawRight.B14 : List Nat := [0, 0, 2, 7, 15, 31, 31, 63, 255]
theorem spec_l6DrawRight.tab14 : rtab .any (opsOf Try.f82 14) = spec_l6DrawRight.T14 := by kernel_rfl
theorem spec_l6DrawRight.bits14 : waitsOk spec_l6DrawRight.T14.2 spec_l6DrawRight.B14 = true := by kernel_rfl
def spec_l6DrawRight.T25 : Bool × List (List Nat × List Nat) := (true, [([], []), ([0], [0]), ([], []), ([], []), ([2, 3], [2, 3]), ([4], [4]), ([5], [5]), ([1, 6, 4], [1, 6]), ([0, 1, 2, 3, 4, 5, 6, 7], []), ([8, 7, 7, 0, 1, 2, 3, 4, 5, 6, 7], [7, 8])])
def spec_l6DrawRight.B25 : List Nat := [0, 1, 0, 0, 12, 28, 60, 127, 255, 511]
theorem spec_l6DrawRight.tab25 : rtab .any (opsOf Try.f82 25) = spec_l6DrawRight.T25 := by kernel_rfl
theorem spec_l6DrawRight.bits25 : waitsOk spec_l6DrawRight.T25.2 spec_l6DrawRight.B25 = true := by kernel_rfl
set_option maxHeartbeats 8000000 in
set_option maxRecDepth 100000 in
theorem spec_l6DrawRight.calls (k : Nat) (g : Nat) (s0_0 : List Int) (s0_1 : Int) (s0_2 : Int) (r1 : List (S35)) (r2 : List (S35)) (r3 : Int) (r4 : Int) (r5 : Int) (w0 w : World) (hI : IsS87 w0 w g s0_0 s0_1 s0_2) (hB : Below w0.heap.size w0 w) (h : spec_l6DrawRight.f k s0_0 s0_1 s0_2 = some (r1, r2, r3, r4, r5)) :
  Calls Try.prog 82 #[.pointer (some ⟨g, 0, none⟩)] w fun e w' => ∃ v0_ v1_ : Value, e = .returned (.agg #[v0_, v1_, .int .i64 r3]) ∧ Kd.R k35 35 w' w.heap.size (fun k_ => some k_ ≠ (v1_ : Value).ownBlock) v0_ r1 ∧ Kd.R k35 35 w' w.heap.size (fun k_ => some k_ ≠ (v0_ : Value).ownBlock) v1_ r2 ∧ IsS87 w0 w' g s0_0 r4 r5 ∧ Below w0.heap.size w0 w' ∧ KeepBut w w' g none := by
 have hu31 := Try.underlying31
 have hu35 := Try.underlying35
 have HI0 := Aside0.mk hI
 have HK := Aside0.mk (KeepBut.refl w g none)
 have HL := Aside0.mk hB.size
 clear hI
 have HW0 := Aside0.mk hB.size
 have HB := Aside0.mk hB
 clear hB
 have H : ((spec_l1Below.f s0_0 s0_1 s0_2 8).bind fun bt358 => (spec_l6DrawRight.l0 k bt358.1 0 s0_0 bt358.2.1 bt358.2.2 ([] : List (S35)) ([] : List (S35)) 0)) = some (r1, r2, r3, r4, r5) := h
 clear h
 replace H := Option.bind_eq_some_iff.mp H
 obtain ⟨⟨t358, t359, t360⟩, A20, H⟩ := H
 replace H : (spec_l6DrawRight.l0 k t358 0 s0_0 t359 t360 ([] : List (S35)) ([] : List (S35)) 0) = some (r1, r2, r3, r4, r5) := H
 have A2 := Aside0.mk A20
 clear A20
 have H' := Aside0.mk H
 clear H
 go_enter Try.func82, Try.ntmps82
 go_wp2_with (first | ((with_reducible refine gate_dst (N := 2) rfl ?_); refine BE 2 #[.slice none 0 0, .slice none 0 0, .int .i64 0] 31 ?_; intro gb356 hg w3 hbox hb; have h_ := P8 (IsS87.below (KI87) hb) (KeepBut.trans KH (KeepBut.of_below hb g none) (.inl rfl)) (below_step KB87 hb) hbox (KSg hg HK.out) (Nat.le_trans HW0.out (KSg hg HK.out)) (by rw [hg]; exact Nat.ne_of_lt (IsS87.lt (show IsS87 w0 _ g s0_0 s0_1 s0_2 from KI87)) : g ≠ gb356) (by rw [hg]; exact Nat.ne_of_gt (IsS87.lt (show IsS87 w0 _ g s0_0 s0_1 s0_2 from KI87)) : gb356 ≠ g); clear HI0 HK HB; obtain ⟨HI0, HK, HB, BK356, GW356, GE356, NB0_356, NB356_0⟩ := h_; clear hb hbox hg) | ((with_reducible refine gate_dst (N := 3) rfl ?_); refine BE 3 #[.slice none 0 0, .slice none 0 0, .int .i64 0] 31 ?_; intro gb357 hg w4 hbox hb; have h_ := P11 (IsS87.below (KI87) hb) (BL BK356.out hb) (KeepBut.trans (KHh HK.out) (KeepBut.of_below hb g none) (.inl rfl)) (below_step (KBh87 HB.out) hb) hbox (KSg hg HK.out) (Nat.le_trans HW0.out (KSg hg HK.out)) (NX hg BK356.out) (Ne.symm (NX hg BK356.out)) (by rw [hg]; exact Nat.ne_of_lt (IsS87.lt (show IsS87 w0 _ g s0_0 s0_1 s0_2 from KI87)) : g ≠ gb357) (by rw [hg]; exact Nat.ne_of_gt (IsS87.lt (show IsS87 w0 _ g s0_0 s0_1 s0_2 from KI87)) : gb357 ≠ g); clear HI0 BK356 HK HB; obtain ⟨HI0, BK356, HK, HB, BK357, GW357, GE357, NB356_357, NB357_356, NB0_357, NB357_0⟩ := h_; clear hb hbox hg; have hnb5 := NB357_356.out; have hnc5 := NB356_357.out; have hnb6 := NB357_0.out; have hnc6 := NB0_357.out; obtain ⟨hcz7_0, hcz7_1, hcz7_2, hfz7_0, hfz7_1, hfz7_2⟩ := C3 BK357.out) | ((with_reducible refine gate_callee (f := 57) rfl ?_); refine goesL_ (some 12) rfl rfl Try.func57 (by kernel_rfl) rfl #[.pointer (some ⟨g, 0, none⟩), .int .i64 8] rfl KL ?_; (with_reducible refine (spec_l1Below.calls g s0_0 s0_1 s0_2 8 t358 t359 t360 w0 _ ?side1 ?side2 A2.out).mono ?_); (case side1 => exact KI87); (case side2 => exact KBh87 HB.out); rintro e w8 ⟨rfl, hi, hb, hk⟩; refine ⟨_, rfl, ?_⟩; have h_ := P5 (KW BK356.out hk NB356_0.out) (KeepBut.blk hk (g' := gb357) (o := .cells #[.slice none 0 0, .slice none 0 0, .int .i64 0] 31 (0, 0)) (by refine SK ?_; refine blk_put (cs := #[.slice none 0 0, .slice none 0 0, .int .i64 0]) ?_ 2 _ rfl; refine SK ?_; refine blk_put (cs := #[.slice none 0 0, .slice none 0 0, .int .i64 0]) ?_ 1 _ rfl; refine SK ?_; refine blk_put (cs := #[.slice none 0 0, .slice none 0 0, .int .i64 0]) ?_ 0 _ rfl; exact SK BK357.out) NB357_0.out (by simp)) (KeepBut.trans (KHh HK.out) hk (.inl rfl)) hb hi; clear BK356 BK357 HK HB HI0; obtain ⟨BK356, BK357, HK, HB, HI0⟩ := h_; (try clear hb); (try clear hk); (try clear hi)))
 go_loopg [5] k (fun kq v5 w' => ∃ (x5_1 : Int) (x1001_1 : Int) (x1002_1 : Int) (x358000_1 : List (S35)) (x358001_1 : List (S35)) (x358002_1 : Int) (u358000 : Value) (u358001 : Value), v5 = .int .i64 x5_1 ∧ Aside0 (spec_l6DrawRight.l0 kq t358 x5_1 s0_0 x1001_1 x1002_1 x358000_1 x358001_1 x358002_1 = some (r1, r2, r3, r4, r5)) ∧ Aside0 (kq ≤ k) ∧ Aside0 (Kd.R k35 35 w' w.heap.size (fun k_ => some k_ ≠ (u358001 : Value).ownBlock) u358000 x358000_1) ∧ Aside0 (Kd.R k35 35 w' w.heap.size (fun k_ => some k_ ≠ (u358000 : Value).ownBlock) u358001 x358001_1) ∧ Aside0 (w'.heap[gb356]? = some (.cells #[(.slice none 0 0), (.slice none 0 0), .int .i64 0] 31 (0, 0))) ∧ Aside0 (w'.heap[gb357]? = some (.cells #[u358000, u358001, .int .i64 x358002_1] 31 (0, 0))) ∧ Aside0 (IsS87 w0 w' g s0_0 x1001_1 x1002_1) ∧ Aside0 (KeepBut w w' g none) ∧ Aside0 (Below w0.heap.size w0 w'))
 case atStart => exact ⟨(0), (t359), (t360), (([] : List (S35))), (([] : List (S35))), (0), (.slice none 0 0), (.slice none 0 0), (by first | rfl | (simp; done) | (simp [*]; done)), H', ⟨Nat.le_refl _⟩, ⟨by first | exact Kd.R_nil _ _ _ _ _ | exact Kd.N_nil _ _ _ _ _ | exact Kd.V_nil _ _ _ _ _ | exact Kd.Q_nil _ _ _ _ _ | exact Kd.S_nil _ _ _ _ _⟩, ⟨by first | exact Kd.R_nil _ _ _ _ _ | exact Kd.N_nil _ _ _ _ _ | exact Kd.V_nil _ _ _ _ _ | exact Kd.Q_nil _ _ _ _ _ | exact Kd.S_nil _ _ _ _ _⟩, ⟨KK⟩, ⟨KK⟩, ⟨KI87⟩, ⟨by repeat (first | (with_reducible first | exact HK.out | apply KeepBut.set_ | apply keep_drewN | apply keep_drew | apply keep_alloc | refine keep_far ?_ GW356.out _ | refine keep_far ?_ GW357.out _) | exact HK.out)⟩, ⟨KBh87 HB.out⟩⟩
 case round =>
  clear H'
  try clear p2
  try clear c5
  try clear c6
  try clear c8
  try clear hcz7_0
  try clear hcz7_1
  try clear hcz7_2
  try clear hfz7_0
  try clear hfz7_1
  try clear hfz7_2
  obtain ⟨x5_1, x1001_1, x1002_1, x358000_1, x358001_1, x358002_1, u358000, u358001, rfl, HA, HK1, HO_358000, HO_358001, BK356, BK357, HI0, HK, HB⟩ := hrel
  cases gk with
  | zero => exact absurd HA.out (by simp [spec_l6DrawRight.l0])
  | succ k1 =>
   have H := HA.out
   clear HA
   simp only [spec_l6DrawRight.l0] at H
   by_cases c9 : x5_1 < t358
   ·rw [if_pos c9] at H
    have c9b0 : decide (x5_1 < t358) = true := decide_eq_true c9
    clear c9
    replace H := Option.bind_eq_some_iff.mp H
    obtain ⟨⟨t361, t362, t363, t364, t365, t366⟩, A100, H⟩ := H
    replace H : ((spec_StorePut.f k1 x358000_1 x358001_1 x358002_1 t361 t362 t363 t364).bind fun bt367 => ((spec_l1Below.f s0_0 t365 t366 6).bind fun bt376 => (if bt376.1 = 0 then ((spec_StoreSync.f k1 x358000_1 x358001_1 x358002_1).bind fun bt379 => (spec_l6DrawRight.j1 k1 t358 x5_1 bt379.2.2.2 s0_0 bt376.2.1 bt376.2.2 x358000_1 x358001_1 x358002_1 bt379.1 bt379.2.1 bt379.2.2.1)) else (if bt376.1 = 1 then ((spec_StoreSync.f k1 bt367.1 bt367.2.1 bt367.2.2.1).bind fun bt387 => (spec_l6DrawRight.j1 k1 t358 x5_1 bt387.2.2.2 s0_0 bt376.2.1 bt376.2.2 x358000_1 x358001_1 x358002_1 bt387.1 bt387.2.1 bt387.2.2.1)) else (if bt376.1 = 2 then ((spec_l1Once.f s0_0 bt376.2.1 bt376.2.2 3).bind fun bt395 => (if bt395.1 = true then ((spec_l1Below.f s0_0 bt395.2.1 bt395.2.2 4).bind fun bt398 => ((spec_StoreSeal.f k1 x358000_1 x358001_1 x358002_1 bt398.1).bind fun bt401 => (spec_l6DrawRight.j1 k1 t358 x5_1 bt401.2.2.2 s0_0 bt398.2.1 bt398.2.2 x358000_1 x358001_1 x358002_1 bt401.1 bt401.2.1 bt401.2.2.1))) else (spec_l6DrawRight.j1 k1 t358 x5_1 bt367.2.2.2 s0_0 bt395.2.1 bt395.2.2 x358000_1 x358001_1 x358002_1 bt367.1 bt367.2.1 bt367.2.2.1))) else (spec_l6DrawRight.j1 k1 t358 x5_1 bt367.2.2.2 s0_0 bt376.2.1 bt376.2.2 x358000_1 x358001_1 x358002_1 bt367.1 bt367.2.1 bt367.2.2.1)))))) = some (r1, r2, r3, r4, r5) := H
    have A10 := Aside0.mk A100
    clear A100
    replace H := Option.bind_eq_some_iff.mp H
    obtain ⟨⟨t367, t370, t373, t374⟩, A110, H⟩ := H
    replace H : ((spec_l1Below.f s0_0 t365 t366 6).bind fun bt376 => (if bt376.1 = 0 then ((spec_StoreSync.f k1 x358000_1 x358001_1 x358002_1).bind fun bt379 => (spec_l6DrawRight.j1 k1 t358 x5_1 bt379.2.2.2 s0_0 bt376.2.1 bt376.2.2 x358000_1 x358001_1 x358002_1 bt379.1 bt379.2.1 bt379.2.2.1)) else (if bt376.1 = 1 then ((spec_StoreSync.f k1 t367 t370 t373).bind fun bt387 => (spec_l6DrawRight.j1 k1 t358 x5_1 bt387.2.2.2 s0_0 bt376.2.1 bt376.2.2 x358000_1 x358001_1 x358002_1 bt387.1 bt387.2.1 bt387.2.2.1)) else (if bt376.1 = 2 then ((spec_l1Once.f s0_0 bt376.2.1 bt376.2.2 3).bind fun bt395 => (if bt395.1 = true then ((spec_l1Below.f s0_0 bt395.2.1 bt395.2.2 4).bind fun bt398 => ((spec_StoreSeal.f k1 x358000_1 x358001_1 x358002_1 bt398.1).bind fun bt401 => (spec_l6DrawRight.j1 k1 t358 x5_1 bt401.2.2.2 s0_0 bt398.2.1 bt398.2.2 x358000_1 x358001_1 x358002_1 bt401.1 bt401.2.1 bt401.2.2.1))) else (spec_l6DrawRight.j1 k1 t358 x5_1 t374 s0_0 bt395.2.1 bt395.2.2 x358000_1 x358001_1 x358002_1 t367 t370 t373))) else (spec_l6DrawRight.j1 k1 t358 x5_1 t374 s0_0 bt376.2.1 bt376.2.2 x358000_1 x358001_1 x358002_1 t367 t370 t373))))) = some (r1, r2, r3, r4, r5) := H
    have A11 := Aside0.mk A110
    clear A110
    replace H := Option.bind_eq_some_iff.mp H
    obtain ⟨⟨t376, t377, t378⟩, A120, H⟩ := H
    replace H : (if t376 = 0 then ((spec_StoreSync.f k1 x358000_1 x358001_1 x358002_1).bind fun bt379 => (spec_l6DrawRight.j1 k1 t358 x5_1 bt379.2.2.2 s0_0 t377 t378 x358000_1 x358001_1 x358002_1 bt379.1 bt379.2.1 bt379.2.2.1)) else (if t376 = 1 then ((spec_StoreSync.f k1 t367 t370 t373).bind fun bt387 => (spec_l6DrawRight.j1 k1 t358 x5_1 bt387.2.2.2 s0_0 t377 t378 x358000_1 x358001_1 x358002_1 bt387.1 bt387.2.1 bt387.2.2.1)) else (if t376 = 2 then ((spec_l1Once.f s0_0 t377 t378 3).bind fun bt395 => (if bt395.1 = true then ((spec_l1Below.f s0_0 bt395.2.1 bt395.2.2 4).bind fun bt398 => ((spec_StoreSeal.f k1 x358000_1 x358001_1 x358002_1 bt398.1).bind fun bt401 => (spec_l6DrawRight.j1 k1 t358 x5_1 bt401.2.2.2 s0_0 bt398.2.1 bt398.2.2 x358000_1 x358001_1 x358002_1 bt401.1 bt401.2.1 bt401.2.2.1))) else (spec_l6DrawRight.j1 k1 t358 x5_1 t374 s0_0 bt395.2.1 bt395.2.2 x358000_1 x358001_1 x358002_1 t367 t370 t373))) else (spec_l6DrawRight.j1 k1 t358 x5_1 t374 s0_0 t377 t378 x358000_1 x358001_1 x358002_1 t367 t370 t373)))) = some (r1, r2, r3, r4, r5) := H
    have A12 := Aside0.mk A120
    clear A120
    have HC13 := Aside0.mk H
    clear H
    obtain ⟨Ao14, co14, eo14⟩ := Kd.R_slice HO_358000.out
    subst eo14
    obtain ⟨Ao15, co15, eo15⟩ := Kd.R_slice HO_358001.out
    subst eo15
    try go_wp2
    have h_ := P7 (Kd.R_drew HO_358000.out) (Kd.R_drew HO_358001.out) (blk_drew BK356.out) (blk_drew BK357.out) (IsS87.drew HI0.out) (keep_drew HK.out) (below_drew1 HB.out)
    clear HO_358000 HO_358001 BK356 BK357 HI0 HK HB
    obtain ⟨HO_358000, HO_358001, BK356, BK357, HI0, HK, HB⟩ := h_
    refine start_ (n := 10) (S := fun w' => w'.cell? ⟨gb357, 0, none⟩ = some (.slice Ao14 x358000_1.length co14) ∧ w'.cell? ⟨gb357, 1, none⟩ = some (.slice Ao15 x358001_1.length co15) ∧ w'.cell? ⟨gb357, 2, none⟩ = some (.int .i64 x358002_1)) (ds := []) #[false, false, false, false, false, false, false, false, false, false] (by kernel_rfl) rfl rfl ⟨(blk_cell BK357.out 0).trans rfl, (blk_cell BK357.out 1).trans rfl, (blk_cell BK357.out 2).trans rfl⟩ (fun hHeld => ?_); refine with_tabW spec_l6DrawRight.tab6 spec_l6DrawRight.bits6 (fun HT_ HW_ => ?_)
    generalize wr.drew = w16 at HO_358000 HO_358001 BK356 BK357 HI0 HK HB hHeld ⊢
    refine pure_ (i := 1) (N := some 20) (v := ?_) (a' := ?_) #[false, true, false, false, false, false, false, false, false, false] rfl rfl (any_of HT_.out (by kernel_rfl)) (fun _ _ _ h => h) (Or.inl ⟨by rfl, ?_⟩) ?_ ?_
    rotate_left
    ·intro w'
     go_simp
     with_reducible rfl
    rotate_left
    ·exact KA
    refine take_ (i := 0) (N := some 19) (v := ?_) (a' := ?_) #[true, true, false, false, false, false, false, false, false, false] rfl rfl (take_ofW HT_.out HW_.out (by kernel_rfl)) (fun _ _ _ h => h) (Or.inl ⟨by rfl, ?_⟩) hHeld ?_ ?_
    rotate_left
    ·rintro w' ⟨s0, s1, s2⟩
     go_simp
     with_reducible rfl
    rotate_left
    ·exact KA
    refine join_ (σ := Value × Value × Nat) 2 #[true, true, true, true, true, true, true, true, false, false] (fun s_ => [(21, .agg #[.int .i64 t361, .int .i64 t362, .bool t363, .string t364]), (22, .tuple #[.agg #[s_.1, s_.2.1, .int .i64 t373], .bool t374]), (6, .pointer (some ⟨s_.2.2, 0, none⟩)), (18, .tuple #[.agg #[s_.1, s_.2.1, .int .i64 t373], .bool t374]), (23, .agg #[s_.1, s_.2.1, .int .i64 t373]), (24, .bool t374)]) (fun s_ w' => (w'.cell? ⟨gb357, 0, none⟩ = some (.slice Ao14 x358000_1.length co14) ∧ w'.cell? ⟨gb357, 1, none⟩ = some (.slice Ao15 x358001_1.length co15) ∧ w'.cell? ⟨gb357, 2, none⟩ = some (.int .i64 x358002_1)) ∧ (Kd.R k35 35 w' w.heap.size (fun k_ => some k_ ≠ (s_.2.1 : Value).ownBlock ∧ some k_ ≠ (.slice Ao14 x358000_1.length co14 : Value).ownBlock ∧ some k_ ≠ (.slice Ao15 x358001_1.length co15 : Value).ownBlock) s_.1 t367) ∧ (Kd.R k35 35 w' w.heap.size (fun k_ => some k_ ≠ (s_.1 : Value).ownBlock ∧ some k_ ≠ (.slice Ao14 x358000_1.length co14 : Value).ownBlock ∧ some k_ ≠ (.slice Ao15 x358001_1.length co15 : Value).ownBlock) s_.2.1 t370) ∧ (Kd.R k35 35 w' w.heap.size (fun k_ => some k_ ≠ (s_.1 : Value).ownBlock ∧ some k_ ≠ (s_.2.1 : Value).ownBlock ∧ some k_ ≠ (.slice Ao15 x358001_1.length co15 : Value).ownBlock) (.slice Ao14 x358000_1.length co14) x358000_1) ∧ (Kd.R k35 35 w' w.heap.size (fun k_ => some k_ ≠ (s_.1 : Value).ownBlock ∧ some k_ ≠ (s_.2.1 : Value).ownBlock ∧ some k_ ≠ (.slice Ao14 x358000_1.length co14 : Value).ownBlock) (.slice Ao15 x358001_1.length co15) x358001_1) ∧ (w'.heap[gb356]? = some (.cells #[.slice none 0 0, .slice none 0 0, .int .i64 0] 31 (0, 0))) ∧ (w'.heap[gb357]? = some (.cells #[.slice Ao14 x358000_1.length co14, .slice Ao15 x358001_1.length co15, .int .i64 x358002_1] 31 (0, 0))) ∧ (w'.heap[s_.2.2]? = some (.cells #[.slice none 0 0, .slice none 0 0, .int .i64 0] 31 (0, 0))) ∧ (w.heap.size ≤ s_.2.2) ∧ (w0.heap.size ≤ s_.2.2) ∧ (g ≠ s_.2.2) ∧ (s_.2.2 ≠ g) ∧ (gb356 ≠ s_.2.2) ∧ (s_.2.2 ≠ gb356) ∧ (gb357 ≠ s_.2.2) ∧ (s_.2.2 ≠ gb357) ∧ (IsS87 w0 w' g s0_0 t365 t366) ∧ (KeepBut w w' g none) ∧ (Below w0.heap.size w0 w')) ?_ ?_
    rotate_left
    ·intro hCont
     refine two_ (i := 2) (j := 7) (Ni := some 21) (Nj := some 6) #[true, true, true, false, false, false, false, false, false, false] #[true, true, false, false, false, false, false, true, false, false] rfl rfl rfl rfl (two_of HT_.out (by kernel_rfl)) (by decide) (by decide) (fun K hK => ?_) (fun K hK => ?_)
     ·skip
      refine goes_ Try.func91 (by kernel_rfl) rfl #[.pointer (some ⟨g, 0, none⟩)] (by rfl) rfl rfl KL ?_
      with_reducible refine (spec_l3DrawRight.calls g s0_0 x1001_1 x1002_1 t361 t362 t363 t364 t365 t366 w0 _ ?side1 ?side2 A10.out).mono ?_
      (case side1 => exact KI87)
      (case side2 => exact KBh87 HB.out)
      rintro e w17 ⟨rfl, hi, hb, hk⟩
      refine ⟨_, rfl, ?_⟩
      have h_ := P7 (Kd.R_mono (Kd.R_keep (IsS87.apart (show IsS87 w0 _ g s0_0 x1001_1 x1002_1 from KI87) (KR HO_358000.out) (by decide)) hk (fun _ h => h.2)) (fun _ h => h.1)) (Kd.R_mono (Kd.R_keep (IsS87.apart (show IsS87 w0 _ g s0_0 x1001_1 x1002_1 from KI87) (KR HO_358001.out) (by decide)) hk (fun _ h => h.2)) (fun _ h => h.1)) (KW BK356.out hk NB356_0.out) (KW BK357.out hk NB357_0.out) (KeepBut.trans (KHh HK.out) hk (.inl rfl)) hb hi
      clear HO_358000 HO_358001 BK356 BK357 HK HB HI0
      obtain ⟨HO_358000, HO_358001, BK356, BK357, HK, HB, HI0⟩ := h_
      (try clear hb); (try clear hk); (try clear hi)
      refine hK.out _ _ ⟨(blk_cell BK357.out 0).trans rfl, (blk_cell BK357.out 1).trans rfl, (blk_cell BK357.out 2).trans rfl⟩ (fun hHeld => ?_)
      clear hK K
      refine norm_ (a' := ?_) ?_ ?_
      rotate_left
      ·show Act.put _ (some 21) _ = _; exact KA
      refine two_ (i := 3) (j := 7) (Ni := some 22) (Nj := some 6) #[true, true, true, true, false, false, false, false, false, false] #[true, true, true, false, false, false, false, true, false, false] rfl rfl rfl rfl (two_of HT_.out (by kernel_rfl)) (by decide) (by decide) (fun K hK => ?_) (fun K hK => ?_)
      ·skip
       refine goes_ Try.func11 (by kernel_rfl) rfl #[.agg #[.slice Ao14 x358000_1.length co14, .slice Ao15 x358001_1.length co15, .int .i64 x358002_1], .agg #[.int .i64 t361, .int .i64 t362, .bool t363, .string t364]] (by rfl) rfl rfl KL ?_
       with_reducible refine (spec_StorePut.calls k1 _ _ x358000_1 _ _ x358001_1 x358002_1 t361 t362 t363 t364 t367 t370 t373 t374 _ ?side1 ?side2 ?side3 ?side4 A11.out).mono ?_
       (case side1 => repeat (first | exact (Kd.R_reads' HO_358000.out).2.2 | (with_reducible refine Kd.C_alloc ?_ _) | (with_reducible refine Kd.C_drewN ?_ _) | (with_reducible refine Kd.C_drew ?_)))
       (case side2 => exact (Kd.R_reads' HO_358000.out).2.1)
       (case side3 => repeat (first | exact (Kd.R_reads' HO_358001.out).2.2 | (with_reducible refine Kd.C_alloc ?_ _) | (with_reducible refine Kd.C_drewN ?_ _) | (with_reducible refine Kd.C_drew ?_)))
       (case side4 => exact (Kd.R_reads' HO_358001.out).2.1)
       rintro e w18 ⟨v368, v371, rfl, ho0, ho1, hb⟩
       refine ⟨_, rfl, ?_⟩
       have h_ := P9 (Kd.R_mono (Kd.R_told (Kd.R_told (Kd.R_old (KR HO_358000.out) hb) (Kd.R_base ho0)) (Kd.R_base ho1)) (fun _ h_ => h_.1)) (Kd.R_mono (Kd.R_told (Kd.R_told (Kd.R_old (KR HO_358001.out) hb) (Kd.R_base ho0)) (Kd.R_base ho1)) (fun _ h_ => h_.1)) (Kd.R_lower (Kd.R_new' (Kd.R_new' ho0 (Kd.R_lt (KR HO_358000.out))) (Kd.R_lt (KR HO_358001.out))) (KS HK.out)) (Kd.R_lower (Kd.R_new' (Kd.R_new' ho1 (Kd.R_lt (KR HO_358000.out))) (Kd.R_lt (KR HO_358001.out))) (KS HK.out)) (BL BK356.out hb) (BL BK357.out hb) (IsS87.below (KI87) hb) (KeepBut.trans (KHh HK.out) (KeepBut.of_below hb g none) (.inl rfl)) (below_step (KBh87 HB.out) hb)
       clear HO_358000 HO_358001 BK356 BK357 HI0 HK HB
       obtain ⟨HO_358000, HO_358001, HO369, HO372, BK356, BK357, HI0, HK, HB⟩ := h_
       (try clear hb); (try clear hk); (try clear hi)
       (try clear ho0)
       (try clear ho1)
       refine hK.out _ _ ⟨(blk_cell BK357.out 0).trans rfl, (blk_cell BK357.out 1).trans rfl, (blk_cell BK357.out 2).trans rfl⟩ (fun hHeld => ?_)
       clear hK K
       refine norm_ (a' := ?_) ?_ ?_
       rotate_left
       ·show Act.put _ (some 22) _ = _; exact KA
       refine pure_ (i := 4) (N := some 18) (v := ?_) (a' := ?_) #[true, true, true, true, true, false, false, false, false, false] rfl rfl (any_of HT_.out (by kernel_rfl)) (fun _ _ _ h => h) (Or.inl ⟨by rfl, ?_⟩) ?_ ?_
       rotate_left
       ·intro w'
        go_simp
        with_reducible rfl
       rotate_left
       ·exact KA
       refine pure_ (i := 5) (N := some 23) (v := ?_) (a' := ?_) #[true, true, true, true, true, true, false, false, false, false] rfl rfl (any_of HT_.out (by kernel_rfl)) (fun _ _ _ h => h) (Or.inl ⟨by rfl, ?_⟩) ?_ ?_
       rotate_left
       ·intro w'
        go_simp
        with_reducible rfl
       rotate_left
       ·exact KA
       refine pure_ (i := 6) (N := some 24) (v := ?_) (a' := ?_) #[true, true, true, true, true, true, true, false, false, false] rfl rfl (any_of HT_.out (by kernel_rfl)) (fun _ _ _ h => h) (Or.inl ⟨by rfl, ?_⟩) ?_ ?_
       rotate_left
       ·intro w'
        go_simp
        with_reducible rfl
       rotate_left
       ·exact KA
       refine one_ (i := 7) (N := some 6) #[true, true, true, true, true, true, true, true, false, false] rfl rfl (one_of HT_.out (by kernel_rfl)) (by decide) (fun K hK => ?_)
       refine box_step ?hg (N := 6) ?hd (cs := #[.slice none 0 0, .slice none 0 0, .int .i64 0]) (t := 31) ?hr ?_; (case hd => rfl); (case hg => rfl); (case hr => first | (go_simp; done) | (go_simp; rfl))
       intro gb375 hg w19 hbox hb
       have h_ := P18 (Kd.R_below (KR HO_358000.out) hb) (Kd.R_below (KR HO_358001.out) hb) (Kd.R_below (KR HO369.out) hb) (Kd.R_below (KR HO372.out) hb) (BL BK356.out hb) (BL BK357.out hb) (IsS87.below (KI87) hb) (KeepBut.trans (KHh HK.out) (KeepBut.of_below hb g none) (.inl rfl)) (below_step (KBh87 HB.out) hb) hbox (KSg hg HK.out) (Nat.le_trans HW0.out (KSg hg HK.out)) (NX hg BK356.out) (Ne.symm (NX hg BK356.out)) (NX hg BK357.out) (Ne.symm (NX hg BK357.out)) (by rw [hg]; exact Nat.ne_of_lt (IsS87.lt (show IsS87 w0 _ g s0_0 t365 t366 from KI87)) : g ≠ gb375) (by rw [hg]; exact Nat.ne_of_gt (IsS87.lt (show IsS87 w0 _ g s0_0 t365 t366 from KI87)) : gb375 ≠ g)
       clear HO_358000 HO_358001 HO369 HO372 BK356 BK357 HI0 HK HB
       obtain ⟨HO_358000, HO_358001, HO369, HO372, BK356, BK357, HI0, HK, HB, BK375, GW375, GE375, NB356_375, NB375_356, NB357_375, NB375_357, NB0_375, NB375_0⟩ := h_
       clear hb hbox hg
       refine hK.out _ _ ⟨(blk_cell BK357.out 0).trans rfl, (blk_cell BK357.out 1).trans rfl, (blk_cell BK357.out 2).trans rfl⟩ (fun hHeld => ?_)
       clear hK K
       refine norm_ (a' := ?_) ?_ ?_
       rotate_left
       ·show Act.put _ (some 6) _ = _; exact KA
       exact norm_ (by simp only [putAll, Act.put, List.setIfInBounds_toArray, List.set_cons_zero, List.set_cons_succ]) (hCont (v368, v371, gb375) _ ⟨hHeld, (by (with_reducible repeat (first | apply Kd.R_alloc | apply Kd.R_drewN | apply Kd.R_drew)); exact Kd.R_mono HO369.out (fun _ hk => ⟨hk.1.1, ⟨hk.1.2, hk.2⟩⟩)), (by (with_reducible repeat (first | apply Kd.R_alloc | apply Kd.R_drewN | apply Kd.R_drew)); exact Kd.R_mono HO372.out (fun _ hk => ⟨hk.1.1, ⟨hk.1.2, hk.2⟩⟩)), (by (with_reducible repeat (first | apply Kd.R_alloc | apply Kd.R_drewN | apply Kd.R_drew)); exact Kd.R_mono HO_358000.out (fun _ hk => ⟨hk.1.2, ⟨hk.2, hk.1.1⟩⟩)), (by (with_reducible repeat (first | apply Kd.R_alloc | apply Kd.R_drewN | apply Kd.R_drew)); exact Kd.R_mono HO_358001.out (fun _ hk => ⟨hk.1.2, ⟨hk.2, hk.1.1⟩⟩)), KK, KK, KK, GW375.out, GE375.out, NB0_375.out, NB375_0.out, NB356_375.out, NB375_356.out, NB357_375.out, NB375_357.out, (KI87), (KHh HK.out), (KBh87 HB.out)⟩)
      ·skip
       refine box_step ?hg (N := 6) ?hd (cs := #[.slice none 0 0, .slice none 0 0, .int .i64 0]) (t := 31) ?hr ?_; (case hd => rfl); (case hg => rfl); (case hr => first | (go_simp; done) | (go_simp; rfl))
       intro gb375 hg w18 hbox hb
       have h_ := P16 (Kd.R_below (KR HO_358000.out) hb) (Kd.R_below (KR HO_358001.out) hb) (BL BK356.out hb) (BL BK357.out hb) (IsS87.below (KI87) hb) (KeepBut.trans (KHh HK.out) (KeepBut.of_below hb g none) (.inl rfl)) (below_step (KBh87 HB.out) hb) hbox (KSg hg HK.out) (Nat.le_trans HW0.out (KSg hg HK.out)) (NX hg BK356.out) (Ne.symm (NX hg BK356.out)) (NX hg BK357.out) (Ne.symm (NX hg BK357.out)) (by rw [hg]; exact Nat.ne_of_lt (IsS87.lt (show IsS87 w0 _ g s0_0 t365 t366 from KI87)) : g ≠ gb375) (by rw [hg]; exact Nat.ne_of_gt (IsS87.lt (show IsS87 w0 _ g s0_0 t365 t366 from KI87)) : gb375 ≠ g)
       clear HO_358000 HO_358001 BK356 BK357 HI0 HK HB
       obtain ⟨HO_358000, HO_358001, BK356, BK357, HI0, HK, HB, BK375, GW375, GE375, NB356_375, NB375_356, NB357_375, NB375_357, NB0_375, NB375_0⟩ := h_
       clear hb hbox hg
       refine hK.out _ _ ⟨(blk_cell BK357.out 0).trans rfl, (blk_cell BK357.out 1).trans rfl, (blk_cell BK357.out 2).trans rfl⟩ (fun hHeld => ?_)
       clear hK K
       refine norm_ (a' := ?_) ?_ ?_
       rotate_left
       ·show Act.put _ (some 6) _ = _; exact KA
       refine one_ (i := 3) (N := some 22) #[true, true, true, true, false, false, false, true, false, false] rfl rfl (one_of HT_.out (by kernel_rfl)) (by decide) (fun K hK => ?_)
       refine goes_ Try.func11 (by kernel_rfl) rfl #[.agg #[.slice Ao14 x358000_1.length co14, .slice Ao15 x358001_1.length co15, .int .i64 x358002_1], .agg #[.int .i64 t361, .int .i64 t362, .bool t363, .string t364]] (by rfl) rfl rfl KL ?_
       with_reducible refine (spec_StorePut.calls k1 _ _ x358000_1 _ _ x358001_1 x358002_1 t361 t362 t363 t364 t367 t370 t373 t374 _ ?side1 ?side2 ?side3 ?side4 A11.out).mono ?_
       (case side1 => repeat (first | exact (Kd.R_reads' HO_358000.out).2.2 | (with_reducible refine Kd.C_alloc ?_ _) | (with_reducible refine Kd.C_drewN ?_ _) | (with_reducible refine Kd.C_drew ?_)))
       (case side2 => exact (Kd.R_reads' HO_358000.out).2.1)
       (case side3 => repeat (first | exact (Kd.R_reads' HO_358001.out).2.2 | (with_reducible refine Kd.C_alloc ?_ _) | (with_reducible refine Kd.C_drewN ?_ _) | (with_reducible refine Kd.C_drew ?_)))
       (case side4 => exact (Kd.R_reads' HO_358001.out).2.1)
       rintro e w19 ⟨v368, v371, rfl, ho0, ho1, hb⟩
       refine ⟨_, rfl, ?_⟩
       have h_ := P10 (Kd.R_mono (Kd.R_told (Kd.R_told (Kd.R_old (KR HO_358000.out) hb) (Kd.R_base ho0)) (Kd.R_base ho1)) (fun _ h_ => h_.1)) (Kd.R_mono (Kd.R_told (Kd.R_told (Kd.R_old (KR HO_358001.out) hb) (Kd.R_base ho0)) (Kd.R_base ho1)) (fun _ h_ => h_.1)) (Kd.R_lower (Kd.R_new' (Kd.R_new' ho0 (Kd.R_lt (KR HO_358000.out))) (Kd.R_lt (KR HO_358001.out))) (KS HK.out)) (Kd.R_lower (Kd.R_new' (Kd.R_new' ho1 (Kd.R_lt (KR HO_358000.out))) (Kd.R_lt (KR HO_358001.out))) (KS HK.out)) (BL BK356.out hb) (BL BK357.out hb) (IsS87.below (KI87) hb) (BL BK375.out hb) (KeepBut.trans (KHh HK.out) (KeepBut.of_below hb g none) (.inl rfl)) (below_step (KBh87 HB.out) hb)
       clear HO_358000 HO_358001 BK356 BK357 HI0 BK375 HK HB
       obtain ⟨HO_358000, HO_358001, HO369, HO372, BK356, BK357, HI0, BK375, HK, HB⟩ := h_
       (try clear hb); (try clear hk); (try clear hi)
       (try clear ho0)
       (try clear ho1)
       refine hK.out _ _ ⟨(blk_cell BK357.out 0).trans rfl, (blk_cell BK357.out 1).trans rfl, (blk_cell BK357.out 2).trans rfl⟩ (fun hHeld => ?_)
       clear hK K
       refine norm_ (a' := ?_) ?_ ?_
       rotate_left
       ·show Act.put _ (some 22) _ = _; exact KA
       refine pure_ (i := 4) (N := some 18) (v := ?_) (a' := ?_) #[true, true, true, true, true, false, false, true, false, false] rfl rfl (any_of HT_.out (by kernel_rfl)) (fun _ _ _ h => h) (Or.inl ⟨by rfl, ?_⟩) ?_ ?_
       rotate_left
       ·intro w'
        go_simp
        with_reducible rfl
       rotate_left
       ·exact KA
       refine pure_ (i := 5) (N := some 23) (v := ?_) (a' := ?_) #[true, true, true, true, true, true, false, true, false, false] rfl rfl (any_of HT_.out (by kernel_rfl)) (fun _ _ _ h => h) (Or.inl ⟨by rfl, ?_⟩) ?_ ?_
       rotate_left
       ·intro w'
        go_simp
        with_reducible rfl
       rotate_left
       ·exact KA
       refine pure_ (i := 6) (N := some 24) (v := ?_) (a' := ?_) #[true, true, true, true, true, true, true, true, false, false] rfl rfl (any_of HT_.out (by kernel_rfl)) (fun _ _ _ h => h) (Or.inl ⟨by rfl, ?_⟩) ?_ ?_
       rotate_left
       ·intro w'
        go_simp
        with_reducible rfl
       rotate_left
       ·exact KA
       exact norm_ (by simp only [putAll, Act.put, List.setIfInBounds_toArray, List.set_cons_zero, List.set_cons_succ]) (hCont (v368, v371, gb375) _ ⟨hHeld, (by (with_reducible repeat (first | apply Kd.R_alloc | apply Kd.R_drewN | apply Kd.R_drew)); exact Kd.R_mono HO369.out (fun _ hk => ⟨hk.1.1, ⟨hk.1.2, hk.2⟩⟩)), (by (with_reducible repeat (first | apply Kd.R_alloc | apply Kd.R_drewN | apply Kd.R_drew)); exact Kd.R_mono HO372.out (fun _ hk => ⟨hk.1.1, ⟨hk.1.2, hk.2⟩⟩)), (by (with_reducible repeat (first | apply Kd.R_alloc | apply Kd.R_drewN | apply Kd.R_drew)); exact Kd.R_mono HO_358000.out (fun _ hk => ⟨hk.1.2, ⟨hk.2, hk.1.1⟩⟩)), (by (with_reducible repeat (first | apply Kd.R_alloc | apply Kd.R_drewN | apply Kd.R_drew)); exact Kd.R_mono HO_358001.out (fun _ hk => ⟨hk.1.2, ⟨hk.2, hk.1.1⟩⟩)), KK, KK, KK, GW375.out, GE375.out, NB0_375.out, NB375_0.out, NB356_375.out, NB375_356.out, NB357_375.out, NB375_357.out, (KI87), (KHh HK.out), (KBh87 HB.out)⟩)
     ·skip
      refine box_step ?hg (N := 6) ?hd (cs := #[.slice none 0 0, .slice none 0 0, .int .i64 0]) (t := 31) ?hr ?_; (case hd => rfl); (case hg => rfl); (case hr => first | (go_simp; done) | (go_simp; rfl))
      intro gb375 hg w17 hbox hb
      have h_ := P16 (Kd.R_below (KR HO_358000.out) hb) (Kd.R_below (KR HO_358001.out) hb) (BL BK356.out hb) (BL BK357.out hb) (IsS87.below (KI87) hb) (KeepBut.trans (KHh HK.out) (KeepBut.of_below hb g none) (.inl rfl)) (below_step (KBh87 HB.out) hb) hbox (KSg hg HK.out) (Nat.le_trans HW0.out (KSg hg HK.out)) (NX hg BK356.out) (Ne.symm (NX hg BK356.out)) (NX hg BK357.out) (Ne.symm (NX hg BK357.out)) (by rw [hg]; exact Nat.ne_of_lt (IsS87.lt (show IsS87 w0 _ g s0_0 x1001_1 x1002_1 from KI87)) : g ≠ gb375) (by rw [hg]; exact Nat.ne_of_gt (IsS87.lt (show IsS87 w0 _ g s0_0 x1001_1 x1002_1 from KI87)) : gb375 ≠ g)
      clear HO_358000 HO_358001 BK356 BK357 HI0 HK HB
      obtain ⟨HO_358000, HO_358001, BK356, BK357, HI0, HK, HB, BK375, GW375, GE375, NB356_375, NB375_356, NB357_375, NB375_357, NB0_375, NB375_0⟩ := h_
      clear hb hbox hg
      refine hK.out _ _ ⟨(blk_cell BK357.out 0).trans rfl, (blk_cell BK357.out 1).trans rfl, (blk_cell BK357.out 2).trans rfl⟩ (fun hHeld => ?_)
      clear hK K
      refine norm_ (a' := ?_) ?_ ?_
      rotate_left
      ·show Act.put _ (some 6) _ = _; exact KA
      refine one_ (i := 2) (N := some 21) #[true, true, true, false, false, false, false, true, false, false] rfl rfl (one_of HT_.out (by kernel_rfl)) (by decide) (fun K hK => ?_)
      refine goes_ Try.func91 (by kernel_rfl) rfl #[.pointer (some ⟨g, 0, none⟩)] (by rfl) rfl rfl KL ?_
      with_reducible refine (spec_l3DrawRight.calls g s0_0 x1001_1 x1002_1 t361 t362 t363 t364 t365 t366 w0 _ ?side1 ?side2 A10.out).mono ?_
      (case side1 => exact KI87)
      (case side2 => exact KBh87 HB.out)
      rintro e w18 ⟨rfl, hi, hb, hk⟩
      refine ⟨_, rfl, ?_⟩
      have h_ := P8 (Kd.R_mono (Kd.R_keep (IsS87.apart (show IsS87 w0 _ g s0_0 x1001_1 x1002_1 from KI87) (KR HO_358000.out) (by decide)) hk (fun _ h => h.2)) (fun _ h => h.1)) (Kd.R_mono (Kd.R_keep (IsS87.apart (show IsS87 w0 _ g s0_0 x1001_1 x1002_1 from KI87) (KR HO_358001.out) (by decide)) hk (fun _ h => h.2)) (fun _ h => h.1)) (KW BK356.out hk NB356_0.out) (KW BK357.out hk NB357_0.out) (KW BK375.out hk NB375_0.out) (KeepBut.trans (KHh HK.out) hk (.inl rfl)) hb hi
      clear HO_358000 HO_358001 BK356 BK357 BK375 HK HB HI0
      obtain ⟨HO_358000, HO_358001, BK356, BK357, BK375, HK, HB, HI0⟩ := h_
      (try clear hb); (try clear hk); (try clear hi)
      refine hK.out _ _ ⟨(blk_cell BK357.out 0).trans rfl, (blk_cell BK357.out 1).trans rfl, (blk_cell BK357.out 2).trans rfl⟩ (fun hHeld => ?_)
      clear hK K
      refine norm_ (a' := ?_) ?_ ?_
      rotate_left
      ·show Act.put _ (some 21) _ = _; exact KA
      refine one_ (i := 3) (N := some 22) #[true, true, true, true, false, false, false, true, false, false] rfl rfl (one_of HT_.out (by kernel_rfl)) (by decide) (fun K hK => ?_)
      refine goes_ Try.func11 (by kernel_rfl) rfl #[.agg #[.slice Ao14 x358000_1.length co14, .slice Ao15 x358001_1.length co15, .int .i64 x358002_1], .agg #[.int .i64 t361, .int .i64 t362, .bool t363, .string t364]] (by rfl) rfl rfl KL ?_
      with_reducible refine (spec_StorePut.calls k1 _ _ x358000_1 _ _ x358001_1 x358002_1 t361 t362 t363 t364 t367 t370 t373 t374 _ ?side1 ?side2 ?side3 ?side4 A11.out).mono ?_
      (case side1 => repeat (first | exact (Kd.R_reads' HO_358000.out).2.2 | (with_reducible refine Kd.C_alloc ?_ _) | (with_reducible refine Kd.C_drewN ?_ _) | (with_reducible refine Kd.C_drew ?_)))
      (case side2 => exact (Kd.R_reads' HO_358000.out).2.1)
      (case side3 => repeat (first | exact (Kd.R_reads' HO_358001.out).2.2 | (with_reducible refine Kd.C_alloc ?_ _) | (with_reducible refine Kd.C_drewN ?_ _) | (with_reducible refine Kd.C_drew ?_)))
      (case side4 => exact (Kd.R_reads' HO_358001.out).2.1)
      rintro e w19 ⟨v368, v371, rfl, ho0, ho1, hb⟩
      refine ⟨_, rfl, ?_⟩
      have h_ := P10 (Kd.R_mono (Kd.R_told (Kd.R_told (Kd.R_old (KR HO_358000.out) hb) (Kd.R_base ho0)) (Kd.R_base ho1)) (fun _ h_ => h_.1)) (Kd.R_mono (Kd.R_told (Kd.R_told (Kd.R_old (KR HO_358001.out) hb) (Kd.R_base ho0)) (Kd.R_base ho1)) (fun _ h_ => h_.1)) (Kd.R_lower (Kd.R_new' (Kd.R_new' ho0 (Kd.R_lt (KR HO_358000.out))) (Kd.R_lt (KR HO_358001.out))) (KS HK.out)) (Kd.R_lower (Kd.R_new' (Kd.R_new' ho1 (Kd.R_lt (KR HO_358000.out))) (Kd.R_lt (KR HO_358001.out))) (KS HK.out)) (BL BK356.out hb) (BL BK357.out hb) (IsS87.below (KI87) hb) (BL BK375.out hb) (KeepBut.trans (KHh HK.out) (KeepBut.of_below hb g none) (.inl rfl)) (below_step (KBh87 HB.out) hb)
      clear HO_358000 HO_358001 BK356 BK357 HI0 BK375 HK HB
      obtain ⟨HO_358000, HO_358001, HO369, HO372, BK356, BK357, HI0, BK375, HK, HB⟩ := h_
      (try clear hb); (try clear hk); (try clear hi)
      (try clear ho0)
      (try clear ho1)
      refine hK.out _ _ ⟨(blk_cell BK357.out 0).trans rfl, (blk_cell BK357.out 1).trans rfl, (blk_cell BK357.out 2).trans rfl⟩ (fun hHeld => ?_)
      clear hK K
      refine norm_ (a' := ?_) ?_ ?_
      rotate_left
      ·show Act.put _ (some 22) _ = _; exact KA
      refine pure_ (i := 4) (N := some 18) (v := ?_) (a' := ?_) #[true, true, true, true, true, false, false, true, false, false] rfl rfl (any_of HT_.out (by kernel_rfl)) (fun _ _ _ h => h) (Or.inl ⟨by rfl, ?_⟩) ?_ ?_
      rotate_left
      ·intro w'
       go_simp
       with_reducible rfl
      rotate_left
      ·exact KA
      refine pure_ (i := 5) (N := some 23) (v := ?_) (a' := ?_) #[true, true, true, true, true, true, false, true, false, false] rfl rfl (any_of HT_.out (by kernel_rfl)) (fun _ _ _ h => h) (Or.inl ⟨by rfl, ?_⟩) ?_ ?_
      rotate_left
      ·intro w'
       go_simp
       with_reducible rfl
      rotate_left
      ·exact KA
      refine pure_ (i := 6) (N := some 24) (v := ?_) (a' := ?_) #[true, true, true, true, true, true, true, true, false, false] rfl rfl (any_of HT_.out (by kernel_rfl)) (fun _ _ _ h => h) (Or.inl ⟨by rfl, ?_⟩) ?_ ?_
      rotate_left
      ·intro w'
       go_simp
       with_reducible rfl
      rotate_left
      ·exact KA
      exact norm_ (by simp only [putAll, Act.put, List.setIfInBounds_toArray, List.set_cons_zero, List.set_cons_succ]) (hCont (v368, v371, gb375) _ ⟨hHeld, (by (with_reducible repeat (first | apply Kd.R_alloc | apply Kd.R_drewN | apply Kd.R_drew)); exact Kd.R_mono HO369.out (fun _ hk => ⟨hk.1.1, ⟨hk.1.2, hk.2⟩⟩)), (by (with_reducible repeat (first | apply Kd.R_alloc | apply Kd.R_drewN | apply Kd.R_drew)); exact Kd.R_mono HO372.out (fun _ hk => ⟨hk.1.1, ⟨hk.1.2, hk.2⟩⟩)), (by (with_reducible repeat (first | apply Kd.R_alloc | apply Kd.R_drewN | apply Kd.R_drew)); exact Kd.R_mono HO_358000.out (fun _ hk => ⟨hk.1.2, ⟨hk.2, hk.1.1⟩⟩)), (by (with_reducible repeat (first | apply Kd.R_alloc | apply Kd.R_drewN | apply Kd.R_drew)); exact Kd.R_mono HO_358001.out (fun _ hk => ⟨hk.1.2, ⟨hk.2, hk.1.1⟩⟩)), KK, KK, KK, GW375.out, GE375.out, NB0_375.out, NB375_0.out, NB356_375.out, NB375_356.out, NB357_375.out, NB375_357.out, (KI87), (KHh HK.out), (KBh87 HB.out)⟩)
    rintro ⟨v368, v371, gb375⟩ w20 ⟨hS_, h0_, h1_, h2_, h3_, h4_, h5_, h6_, h7_, h8_, h9_, h10_, h11_, h12_, h13_, h14_, h15_, h16_, h17_⟩
    have n0_ : Aside0 (Kd.R k35 35 w20 w.heap.size (fun k_ => some k_ ≠ (v371 : Value).ownBlock ∧ some k_ ≠ (.slice Ao14 x358000_1.length co14 : Value).ownBlock ∧ some k_ ≠ (.slice Ao15 x358001_1.length co15 : Value).ownBlock) v368 t367) := ⟨h0_⟩
    have n1_ : Aside0 (Kd.R k35 35 w20 w.heap.size (fun k_ => some k_ ≠ (v368 : Value).ownBlock ∧ some k_ ≠ (.slice Ao14 x358000_1.length co14 : Value).ownBlock ∧ some k_ ≠ (.slice Ao15 x358001_1.length co15 : Value).ownBlock) v371 t370) := ⟨h1_⟩
    have n2_ : Aside0 (Kd.R k35 35 w20 w.heap.size (fun k_ => some k_ ≠ (v368 : Value).ownBlock ∧ some k_ ≠ (v371 : Value).ownBlock ∧ some k_ ≠ (.slice Ao15 x358001_1.length co15 : Value).ownBlock) (.slice Ao14 x358000_1.length co14) x358000_1) := ⟨h2_⟩
    have n3_ : Aside0 (Kd.R k35 35 w20 w.heap.size (fun k_ => some k_ ≠ (v368 : Value).ownBlock ∧ some k_ ≠ (v371 : Value).ownBlock ∧ some k_ ≠ (.slice Ao14 x358000_1.length co14 : Value).ownBlock) (.slice Ao15 x358001_1.length co15) x358001_1) := ⟨h3_⟩
    have n4_ : Aside0 (w20.heap[gb356]? = some (.cells #[.slice none 0 0, .slice none 0 0, .int .i64 0] 31 (0, 0))) := ⟨h4_⟩
    have n5_ : Aside0 (w20.heap[gb357]? = some (.cells #[.slice Ao14 x358000_1.length co14, .slice Ao15 x358001_1.length co15, .int .i64 x358002_1] 31 (0, 0))) := ⟨h5_⟩
    have n6_ : Aside0 (w20.heap[gb375]? = some (.cells #[.slice none 0 0, .slice none 0 0, .int .i64 0] 31 (0, 0))) := ⟨h6_⟩
    have n7_ : Aside0 (w.heap.size ≤ gb375) := ⟨h7_⟩
    have n8_ : Aside0 (w0.heap.size ≤ gb375) := ⟨h8_⟩
    have n9_ : Aside0 (g ≠ gb375) := ⟨h9_⟩
    have n10_ : Aside0 (gb375 ≠ g) := ⟨h10_⟩
    have n11_ : Aside0 (gb356 ≠ gb375) := ⟨h11_⟩
    have n12_ : Aside0 (gb375 ≠ gb356) := ⟨h12_⟩
    have n13_ : Aside0 (gb357 ≠ gb375) := ⟨h13_⟩
    have n14_ : Aside0 (gb375 ≠ gb357) := ⟨h14_⟩
    have n15_ : Aside0 (IsS87 w0 w20 g s0_0 t365 t366) := ⟨h15_⟩
    have n16_ : Aside0 (KeepBut w w20 g none) := ⟨h16_⟩
    have n17_ : Aside0 (Below w0.heap.size w0 w20) := ⟨h17_⟩
    clear HO_358000
    clear HO_358001
    clear BK356
    clear BK357
    clear HI0
    clear HK
    clear HB
    clear h0_ h1_ h2_ h3_ h4_ h5_ h6_ h7_ h8_ h9_ h10_ h11_ h12_ h13_ h14_ h15_ h16_ h17_
    have HO369 := n0_
    have HO372 := n1_
    have HO_358000 := n2_
    have HO_358001 := n3_
    have BK356 := n4_
    have BK357 := n5_
    have BK375 := n6_
    have GW375 := n7_
    have GE375 := n8_
    have NB0_375 := n9_
    have NB375_0 := n10_
    have NB356_375 := n11_
    have NB375_356 := n12_
    have NB357_375 := n13_
    have NB375_357 := n14_
    have HI0 := n15_
    have HK := n16_
    have HB := n17_
    clear n0_ n1_ n2_ n3_ n4_ n5_ n6_ n7_ n8_ n9_ n10_ n11_ n12_ n13_ n14_ n15_ n16_ n17_
    have hHeld : w20.cell? ⟨gb357, 0, none⟩ = some (.slice Ao14 x358000_1.length co14) ∧ w20.cell? ⟨gb357, 1, none⟩ = some (.slice Ao15 x358001_1.length co15) ∧ w20.cell? ⟨gb357, 2, none⟩ = some (.int .i64 x358002_1) := hS_
    obtain ⟨Ao21, co21, eo21⟩ := Kd.R_slice HO369.out
    (first | subst eo21 | (injection eo21 with f1_ f2_ f3_; have f4_ := f1_.symm; have f5_ := f3_.symm; clear f1_ f2_ f3_; subst f4_; subst f5_))
    obtain ⟨Ao23, co23, eo23⟩ := Kd.R_slice HO372.out
    (first | subst eo23 | (injection eo23 with f1_ f2_ f3_; have f4_ := f1_.symm; have f5_ := f3_.symm; clear f1_ f2_ f3_; subst f4_; subst f5_))
    refine norm_ (a' := ?_) ?_ ?_
    rotate_left
    ·simp only [putAll, Act.put, List.setIfInBounds_toArray, List.set_cons_zero, List.set_cons_succ]
     rfl
    refine one_ (i := 8) (N := none) #[true, true, true, true, true, true, true, true, true, false] rfl rfl (one_of HT_.out (by kernel_rfl)) (by decide) (fun K hK => ?_)
    have hs22 : w20.cell? ⟨gb375, 0, none⟩ = some (.slice none 0 0) := (blk_cell BK375.out 0).trans rfl
    have hfs22 := blk_frozen BK375.out 0
    have hns22_0 := NB356_375.out
    have hns22_1 := NB357_375.out
    have hms22_0 := NB375_356.out
    have hms22_1 := NB375_357.out
    have hs24 : w20.cell? ⟨gb375, 1, none⟩ = some (.slice none 0 0) := (blk_cell BK375.out 1).trans rfl
    have hfs24 := blk_frozen BK375.out 1
    have hns24_0 := NB356_375.out
    have hns24_1 := NB357_375.out
    have hms24_0 := NB375_356.out
    have hms24_1 := NB375_357.out
    have hs25 : w20.cell? ⟨gb375, 2, none⟩ = some (.int .i64 0) := (blk_cell BK375.out 2).trans rfl
    have hfs25 := blk_frozen BK375.out 2
    have hns25_0 := NB356_375.out
    have hns25_1 := NB357_375.out
    have hms25_0 := NB375_356.out
    have hms25_1 := NB375_357.out
    refine skip_ (w1 := ?_) (by rfl) rfl ?_ ?_
    rotate_left
    ·go_simp
     rfl
    refine hK.out _ _ ⟨((cell_far (p := ⟨gb375, _, none⟩) NB357_375.out _).trans (((cell_far (p := ⟨gb375, _, none⟩) NB357_375.out _).trans (((cell_far (p := ⟨gb375, _, none⟩) NB357_375.out _).trans (hHeld.1)))))), ((cell_far (p := ⟨gb375, _, none⟩) NB357_375.out _).trans (((cell_far (p := ⟨gb375, _, none⟩) NB357_375.out _).trans (((cell_far (p := ⟨gb375, _, none⟩) NB357_375.out _).trans (hHeld.2.1)))))), ((cell_far (p := ⟨gb375, _, none⟩) NB357_375.out _).trans (((cell_far (p := ⟨gb375, _, none⟩) NB357_375.out _).trans (((cell_far (p := ⟨gb375, _, none⟩) NB357_375.out _).trans (hHeld.2.2))))))⟩ (fun hHeld => ?_)
    clear hK K
    refine pure_ (i := 9) (N := some 7) (v := ?_) (a' := ?_) #[true, true, true, true, true, true, true, true, true, true] rfl rfl (any_of HT_.out (by kernel_rfl)) (fun _ _ _ h => h) (Or.inl ⟨by rfl, ?_⟩) ?_ ?_
    rotate_left
    ·intro w'
     go_simp
     with_reducible rfl
    rotate_left
    ·exact KA
    refine done_ (done_of HT_.out (by kernel_rfl)) ?_
    go_upto_block 2 with (first | ((with_reducible refine gate_callee (f := 57) rfl ?_); refine goesL_ (some 26) rfl rfl Try.func57 (by kernel_rfl) rfl #[.pointer (some ⟨g, 0, none⟩), .int .i64 6] rfl KL ?_; (with_reducible refine (spec_l1Below.calls g s0_0 t365 t366 6 t376 t377 t378 w0 _ ?side1 ?side2 A12.out).mono ?_); (case side1 => exact KI87); (case side2 => exact KBh87 HB.out); rintro e w26 ⟨rfl, hi, hb, hk⟩; refine ⟨_, rfl, ?_⟩; have h_ := P10 (Kd.R_mono (Kd.R_keep (IsS87.apart (show IsS87 w0 _ g s0_0 t365 t366 from KI87) (RQ (RT HO_358000.out BK375.out)) (by decide)) hk (fun _ h => h.2)) (fun _ h => h.1)) (Kd.R_mono (Kd.R_keep (IsS87.apart (show IsS87 w0 _ g s0_0 t365 t366 from KI87) (RQ (RT HO_358001.out BK375.out)) (by decide)) hk (fun _ h => h.2)) (fun _ h => h.1)) (KW BK356.out hk NB356_0.out) (KW BK357.out hk NB357_0.out) (Kd.R_mono (Kd.R_keep (IsS87.apart (show IsS87 w0 _ g s0_0 t365 t366 from KI87) (RQ (RT HO369.out BK375.out)) (by decide)) hk (fun _ h => h.2)) (fun _ h => h.1)) (Kd.R_mono (Kd.R_keep (IsS87.apart (show IsS87 w0 _ g s0_0 t365 t366 from KI87) (RQ (RT HO372.out BK375.out)) (by decide)) hk (fun _ h => h.2)) (fun _ h => h.1)) (KeepBut.blk hk (g' := gb375) (o := .cells #[.slice Ao21 t367.length co21, .slice Ao23 t370.length co23, .int .i64 t373] 31 (0, 0)) (by refine SK ?_; refine blk_put (cs := #[.slice Ao21 t367.length co21, .slice Ao23 t370.length co23, .int .i64 0]) ?_ 2 _ rfl; refine SK ?_; refine blk_put (cs := #[.slice Ao21 t367.length co21, .slice none 0 0, .int .i64 0]) ?_ 1 _ rfl; refine SK ?_; refine blk_put (cs := #[.slice none 0 0, .slice none 0 0, .int .i64 0]) ?_ 0 _ rfl; exact SK BK375.out) NB375_0.out (by simp)) (KeepBut.trans (KHh HK.out) hk (.inl rfl)) hb hi; clear HO_358000 HO_358001 BK356 BK357 HO369 HO372 BK375 HK HB HI0; obtain ⟨HO_358000, HO_358001, BK356, BK357, HO369, HO372, BK375, HK, HB, HI0⟩ := h_; (try clear hb); (try clear hk); (try clear hi)))
    (try simp only [Act.put, List.setIfInBounds_toArray, List.set_cons_zero, List.set_cons_succ])
    go_cut [7] (fun v7 wc => ∃ (kq : Nat) (x7_12 : Bool) (x1001_12 : Int) (x1002_12 : Int) (x376000_12 : List (S35)) (x376001_12 : List (S35)) (x376002_12 : Int) (u376000 : Value) (u376001 : Value), v7 = .bool x7_12 ∧ Aside0 (spec_l6DrawRight.j1 kq t358 x5_1 x7_12 s0_0 x1001_12 x1002_12 x358000_1 x358001_1 x358002_1 x376000_12 x376001_12 x376002_12 = some (r1, r2, r3, r4, r5)) ∧ Aside0 (kq ≤ k1) ∧ Aside0 (Kd.R k35 35 wc w.heap.size (fun k_ => some k_ ≠ ((.slice Ao15 x358001_1.length co15) : Value).ownBlock ∧ some k_ ≠ (u376000 : Value).ownBlock ∧ some k_ ≠ (u376001 : Value).ownBlock) (.slice Ao14 x358000_1.length co14) x358000_1) ∧ Aside0 (Kd.R k35 35 wc w.heap.size (fun k_ => some k_ ≠ ((.slice Ao14 x358000_1.length co14) : Value).ownBlock ∧ some k_ ≠ (u376000 : Value).ownBlock ∧ some k_ ≠ (u376001 : Value).ownBlock) (.slice Ao15 x358001_1.length co15) x358001_1) ∧ Aside0 (Kd.R k35 35 wc w.heap.size (fun k_ => some k_ ≠ ((.slice Ao14 x358000_1.length co14) : Value).ownBlock ∧ some k_ ≠ ((.slice Ao15 x358001_1.length co15) : Value).ownBlock ∧ some k_ ≠ (u376001 : Value).ownBlock) u376000 x376000_12) ∧ Aside0 (Kd.R k35 35 wc w.heap.size (fun k_ => some k_ ≠ ((.slice Ao14 x358000_1.length co14) : Value).ownBlock ∧ some k_ ≠ ((.slice Ao15 x358001_1.length co15) : Value).ownBlock ∧ some k_ ≠ (u376000 : Value).ownBlock) u376001 x376001_12) ∧ Aside0 (wc.heap[gb356]? = some (.cells #[(.slice none 0 0), (.slice none 0 0), .int .i64 0] 31 (0, 0))) ∧ Aside0 (wc.heap[gb357]? = some (.cells #[(.slice Ao14 x358000_1.length co14), (.slice Ao15 x358001_1.length co15), .int .i64 x358002_1] 31 (0, 0))) ∧ Aside0 (wc.heap[gb375]? = some (.cells #[u376000, u376001, .int .i64 x376002_12] 31 (0, 0))) ∧ Aside0 (IsS87 w0 wc g s0_0 x1001_12 x1002_12) ∧ Aside0 (KeepBut w wc g none) ∧ Aside0 (Below w0.heap.size w0 wc))
    case first =>
     have H := HC13.out
     clear HC13
     by_cases c27 : t376 = 0
     ·rw [if_pos c27] at H
      have c27b0 : (t376 == 0) = true := beq_iff_eq.mpr c27
      have c27b1 : (t376 != 0) = false := bne_eq_false_iff_eq.mpr c27
      clear c27
      (first | rw [c27b0] | (simp only [i64_w, i32_w]; rw [c27b0]) | skip)
      replace H := Option.bind_eq_some_iff.mp H
      obtain ⟨⟨t379, t382, t385, t386⟩, A280, H⟩ := H
      replace H : (spec_l6DrawRight.j1 k1 t358 x5_1 t386 s0_0 t377 t378 x358000_1 x358001_1 x358002_1 t379 t382 t385) = some (r1, r2, r3, r4, r5) := H
      have A28 := Aside0.mk A280
      clear A280
      have H' := Aside0.mk H
      clear H
      have hnb29 := NB357_356.out
      have hnc29 := NB356_357.out
      have hnb30 := NB357_375.out
      have hnc30 := NB375_357.out
      have hnb31 := NB357_0.out
      have hnc31 := NB0_357.out
      obtain ⟨hcz32_0, hcz32_1, hcz32_2, hfz32_0, hfz32_1, hfz32_2⟩ := C3 BK357.out
      go_wp2_with (first | ((with_reducible refine gate_callee (f := 73) rfl ?_); refine goesL_ (some 31) rfl rfl Try.func73 (by kernel_rfl) rfl #[.agg #[.slice Ao14 x358000_1.length co14, .slice Ao15 x358001_1.length co15, .int .i64 x358002_1]] rfl KL ?_; (with_reducible refine (spec_StoreSync.calls k1 _ _ x358000_1 _ _ x358001_1 x358002_1 t379 t382 t385 t386 _ ?side1 ?side2 ?side3 ?side4 A28.out).mono ?_); (case side1 => repeat (first | exact (Kd.R_reads' HO_358000.out).2.2 | (with_reducible refine Kd.C_alloc ?_ _) | (with_reducible refine Kd.C_drewN ?_ _) | (with_reducible refine Kd.C_drew ?_))); (case side2 => exact (Kd.R_reads' HO_358000.out).2.1); (case side3 => repeat (first | exact (Kd.R_reads' HO_358001.out).2.2 | (with_reducible refine Kd.C_alloc ?_ _) | (with_reducible refine Kd.C_drewN ?_ _) | (with_reducible refine Kd.C_drew ?_))); (case side4 => exact (Kd.R_reads' HO_358001.out).2.1); rintro e w33 ⟨v380, v383, rfl, ho0, ho1, hb⟩; refine ⟨_, rfl, ?_⟩; have h_ := P12 (Kd.R_mono (Kd.R_told (Kd.R_told (Kd.R_old (KR HO_358000.out) hb) (Kd.R_base ho0)) (Kd.R_base ho1)) (fun _ h_ => h_.1)) (Kd.R_mono (Kd.R_told (Kd.R_told (Kd.R_old (KR HO_358001.out) hb) (Kd.R_base ho0)) (Kd.R_base ho1)) (fun _ h_ => h_.1)) (Kd.R_mono (Kd.R_told (Kd.R_told (Kd.R_old (KR HO369.out) hb) (Kd.R_base ho0)) (Kd.R_base ho1)) (fun _ h_ => h_.1)) (Kd.R_mono (Kd.R_told (Kd.R_told (Kd.R_old (KR HO372.out) hb) (Kd.R_base ho0)) (Kd.R_base ho1)) (fun _ h_ => h_.1)) (Kd.R_lower (Kd.R_new' (Kd.R_new' (Kd.R_new' (Kd.R_new' ho0 (Kd.R_lt (KR HO_358000.out))) (Kd.R_lt (KR HO_358001.out))) (Kd.R_lt (KR HO369.out))) (Kd.R_lt (KR HO372.out))) (KS HK.out)) (Kd.R_lower (Kd.R_new' (Kd.R_new' (Kd.R_new' (Kd.R_new' ho1 (Kd.R_lt (KR HO_358000.out))) (Kd.R_lt (KR HO_358001.out))) (Kd.R_lt (KR HO369.out))) (Kd.R_lt (KR HO372.out))) (KS HK.out)) (BL BK356.out hb) (BL BK357.out hb) (IsS87.below (KI87) hb) (BL BK375.out hb) (KeepBut.trans (KHh HK.out) (KeepBut.of_below hb g none) (.inl rfl)) (below_step (KBh87 HB.out) hb); clear HO_358000 HO_358001 HO369 HO372 BK356 BK357 HI0 BK375 HK HB; obtain ⟨HO_358000, HO_358001, HO369, HO372, HO381, HO384, BK356, BK357, HI0, BK375, HK, HB⟩ := h_; (try clear hb); (try clear hk); (try clear hi); (try clear ho0); (try clear ho1); obtain ⟨Ao34, co34, eo34⟩ := Kd.R_slice HO381.out; subst eo34; have hnb35 := NB375_356.out; have hnc35 := NB356_375.out; have hnb36 := NB375_0.out; have hnc36 := NB0_375.out; obtain ⟨hcz37_0, hcz37_1, hcz37_2, hfz37_0, hfz37_1, hfz37_2⟩ := C3 BK375.out; obtain ⟨Ao38, co38, eo38⟩ := Kd.R_slice HO384.out; subst eo38))
      go_meet
      case rel => exact ⟨_, (t386), (t377), (t378), (t379), (t382), (t385), (.slice Ao34 t379.length co34), (.slice Ao38 t382.length co38), (by first | rfl | (simp; done) | (simp [*]; done)), H', ⟨by have := HK1.out; first | omega | exact Nat.le_refl _⟩, ⟨by (with_reducible repeat (first | apply Kd.R_alloc | apply Kd.R_drewN | apply Kd.R_drew)); exact Kd.R_mono (Kd.R_far (p := ⟨gb375, 2, none⟩) (Kd.R_far (p := ⟨gb375, 1, none⟩) (Kd.R_far (p := ⟨gb375, 0, none⟩) (RT HO_358000.out BK375.out) (fun _ hk => hk.2) (.slice Ao34 t379.length co34)) (fun _ hk => hk.2) (.slice Ao38 t382.length co38)) (fun _ hk => hk.2) (.int .i64 t385)) (fun _ hk => ⟨hk.1.1.1.2.2, ⟨hk.1.1.2, hk.1.2⟩⟩)⟩, ⟨by (with_reducible repeat (first | apply Kd.R_alloc | apply Kd.R_drewN | apply Kd.R_drew)); exact Kd.R_mono (Kd.R_far (p := ⟨gb375, 2, none⟩) (Kd.R_far (p := ⟨gb375, 1, none⟩) (Kd.R_far (p := ⟨gb375, 0, none⟩) (RT HO_358001.out BK375.out) (fun _ hk => hk.2) (.slice Ao34 t379.length co34)) (fun _ hk => hk.2) (.slice Ao38 t382.length co38)) (fun _ hk => hk.2) (.int .i64 t385)) (fun _ hk => ⟨hk.1.1.1.2.2, ⟨hk.1.1.2, hk.1.2⟩⟩)⟩, ⟨by (with_reducible repeat (first | apply Kd.R_alloc | apply Kd.R_drewN | apply Kd.R_drew)); exact Kd.R_mono (Kd.R_far (p := ⟨gb375, 2, none⟩) (Kd.R_far (p := ⟨gb375, 1, none⟩) (Kd.R_far (p := ⟨gb375, 0, none⟩) (RT HO381.out BK375.out) (fun _ hk => hk.2) (.slice Ao34 t379.length co34)) (fun _ hk => hk.2) (.slice Ao38 t382.length co38)) (fun _ hk => hk.2) (.int .i64 t385)) (fun _ hk => ⟨hk.1.1.1.1.2, ⟨hk.1.1.1.2, hk.1.1.1.1.1⟩⟩)⟩, ⟨by (with_reducible repeat (first | apply Kd.R_alloc | apply Kd.R_drewN | apply Kd.R_drew)); exact Kd.R_mono (Kd.R_far (p := ⟨gb375, 2, none⟩) (Kd.R_far (p := ⟨gb375, 1, none⟩) (Kd.R_far (p := ⟨gb375, 0, none⟩) (RT HO384.out BK375.out) (fun _ hk => hk.2) (.slice Ao34 t379.length co34)) (fun _ hk => hk.2) (.slice Ao38 t382.length co38)) (fun _ hk => hk.2) (.int .i64 t385)) (fun _ hk => ⟨hk.1.1.1.1.2, ⟨hk.1.1.1.2, hk.1.1.1.1.1⟩⟩)⟩, ⟨KK⟩, ⟨KK⟩, ⟨by refine SK ?_; refine blk_put (cs := #[.slice Ao34 t379.length co34, .slice Ao38 t382.length co38, .int .i64 t373]) ?_ 2 _ rfl; refine SK ?_; refine blk_put (cs := #[.slice Ao34 t379.length co34, .slice Ao23 t370.length co23, .int .i64 t373]) ?_ 1 _ rfl; refine SK ?_; refine blk_put (cs := #[.slice Ao21 t367.length co21, .slice Ao23 t370.length co23, .int .i64 t373]) ?_ 0 _ rfl; exact SK BK375.out⟩, ⟨KI87⟩, ⟨by repeat (first | (with_reducible first | exact HK.out | apply KeepBut.set_ | apply keep_drewN | apply keep_drew | apply keep_alloc | refine keep_far ?_ GW356.out _ | refine keep_far ?_ GW357.out _ | refine keep_far ?_ GW375.out _) | exact HK.out)⟩, ⟨KBh87 HB.out⟩⟩
     ·rw [if_neg c27] at H
      have c27b0 : (t376 == 0) = false := beq_eq_false_iff_ne.mpr c27
      have c27b1 : (t376 != 0) = true := bne_iff_ne.mpr c27
      (first | rw [c27b0] | (simp only [i64_w, i32_w]; rw [c27b0]) | skip)
      by_cases c39 : t376 = 1
      ·rw [if_pos c39] at H
       have c39b0 : (t376 == 1) = true := beq_iff_eq.mpr c39
       have c39b1 : (t376 != 1) = false := bne_eq_false_iff_eq.mpr c39
       clear c39
       replace H := Option.bind_eq_some_iff.mp H
       obtain ⟨⟨t387, t390, t393, t394⟩, A400, H⟩ := H
       replace H : (spec_l6DrawRight.j1 k1 t358 x5_1 t394 s0_0 t377 t378 x358000_1 x358001_1 x358002_1 t387 t390 t393) = some (r1, r2, r3, r4, r5) := H
       have A40 := Aside0.mk A400
       clear A400
       have H' := Aside0.mk H
       clear H
       have hnb41 := NB375_356.out
       have hnc41 := NB356_375.out
       have hnb42 := NB375_357.out
       have hnc42 := NB357_375.out
       have hnb43 := NB375_0.out
       have hnc43 := NB0_375.out
       obtain ⟨hcz44_0, hcz44_1, hcz44_2, hfz44_0, hfz44_1, hfz44_2⟩ := C3 BK375.out
       go_wp2_with (first | ((with_reducible refine gate_callee (f := 73) rfl ?_); refine goesL_ (some 38) rfl rfl Try.func73 (by kernel_rfl) rfl #[.agg #[.slice Ao21 t367.length co21, .slice Ao23 t370.length co23, .int .i64 t373]] rfl KL ?_; (with_reducible refine (spec_StoreSync.calls k1 _ _ t367 _ _ t370 t373 t387 t390 t393 t394 _ ?side1 ?side2 ?side3 ?side4 A40.out).mono ?_); (case side1 => repeat (first | exact (Kd.R_reads' HO369.out).2.2 | (with_reducible refine Kd.C_alloc ?_ _) | (with_reducible refine Kd.C_drewN ?_ _) | (with_reducible refine Kd.C_drew ?_))); (case side2 => exact (Kd.R_reads' HO369.out).2.1); (case side3 => repeat (first | exact (Kd.R_reads' HO372.out).2.2 | (with_reducible refine Kd.C_alloc ?_ _) | (with_reducible refine Kd.C_drewN ?_ _) | (with_reducible refine Kd.C_drew ?_))); (case side4 => exact (Kd.R_reads' HO372.out).2.1); rintro e w45 ⟨v388, v391, rfl, ho0, ho1, hb⟩; refine ⟨_, rfl, ?_⟩; have h_ := P12 (Kd.R_mono (Kd.R_told (Kd.R_told (Kd.R_old (KR HO_358000.out) hb) (Kd.R_base ho0)) (Kd.R_base ho1)) (fun _ h_ => h_.1)) (Kd.R_mono (Kd.R_told (Kd.R_told (Kd.R_old (KR HO_358001.out) hb) (Kd.R_base ho0)) (Kd.R_base ho1)) (fun _ h_ => h_.1)) (Kd.R_mono (Kd.R_told (Kd.R_told (Kd.R_old (KR HO369.out) hb) (Kd.R_base ho0)) (Kd.R_base ho1)) (fun _ h_ => h_.1)) (Kd.R_mono (Kd.R_told (Kd.R_told (Kd.R_old (KR HO372.out) hb) (Kd.R_base ho0)) (Kd.R_base ho1)) (fun _ h_ => h_.1)) (Kd.R_lower (Kd.R_new' (Kd.R_new' (Kd.R_new' (Kd.R_new' ho0 (Kd.R_lt (KR HO_358000.out))) (Kd.R_lt (KR HO_358001.out))) (Kd.R_lt (KR HO369.out))) (Kd.R_lt (KR HO372.out))) (KS HK.out)) (Kd.R_lower (Kd.R_new' (Kd.R_new' (Kd.R_new' (Kd.R_new' ho1 (Kd.R_lt (KR HO_358000.out))) (Kd.R_lt (KR HO_358001.out))) (Kd.R_lt (KR HO369.out))) (Kd.R_lt (KR HO372.out))) (KS HK.out)) (BL BK356.out hb) (BL BK357.out hb) (IsS87.below (KI87) hb) (BL BK375.out hb) (KeepBut.trans (KHh HK.out) (KeepBut.of_below hb g none) (.inl rfl)) (below_step (KBh87 HB.out) hb); clear HO_358000 HO_358001 HO369 HO372 BK356 BK357 HI0 BK375 HK HB; obtain ⟨HO_358000, HO_358001, HO369, HO372, HO389, HO392, BK356, BK357, HI0, BK375, HK, HB⟩ := h_; (try clear hb); (try clear hk); (try clear hi); (try clear ho0); (try clear ho1); obtain ⟨Ao46, co46, eo46⟩ := Kd.R_slice HO389.out; subst eo46; obtain ⟨hcz47_0, hcz47_1, hcz47_2, hfz47_0, hfz47_1, hfz47_2⟩ := C3 BK375.out; obtain ⟨Ao48, co48, eo48⟩ := Kd.R_slice HO392.out; subst eo48))
       go_meet
       case rel => exact ⟨_, (t394), (t377), (t378), (t387), (t390), (t393), (.slice Ao46 t387.length co46), (.slice Ao48 t390.length co48), (by first | rfl | (simp; done) | (simp [*]; done)), H', ⟨by have := HK1.out; first | omega | exact Nat.le_refl _⟩, ⟨by (with_reducible repeat (first | apply Kd.R_alloc | apply Kd.R_drewN | apply Kd.R_drew)); exact Kd.R_mono (Kd.R_far (p := ⟨gb375, 2, none⟩) (Kd.R_far (p := ⟨gb375, 1, none⟩) (Kd.R_far (p := ⟨gb375, 0, none⟩) (RT HO_358000.out BK375.out) (fun _ hk => hk.2) (.slice Ao46 t387.length co46)) (fun _ hk => hk.2) (.slice Ao48 t390.length co48)) (fun _ hk => hk.2) (.int .i64 t393)) (fun _ hk => ⟨hk.1.1.1.2.2, ⟨hk.1.1.2, hk.1.2⟩⟩)⟩, ⟨by (with_reducible repeat (first | apply Kd.R_alloc | apply Kd.R_drewN | apply Kd.R_drew)); exact Kd.R_mono (Kd.R_far (p := ⟨gb375, 2, none⟩) (Kd.R_far (p := ⟨gb375, 1, none⟩) (Kd.R_far (p := ⟨gb375, 0, none⟩) (RT HO_358001.out BK375.out) (fun _ hk => hk.2) (.slice Ao46 t387.length co46)) (fun _ hk => hk.2) (.slice Ao48 t390.length co48)) (fun _ hk => hk.2) (.int .i64 t393)) (fun _ hk => ⟨hk.1.1.1.2.2, ⟨hk.1.1.2, hk.1.2⟩⟩)⟩, ⟨by (with_reducible repeat (first | apply Kd.R_alloc | apply Kd.R_drewN | apply Kd.R_drew)); exact Kd.R_mono (Kd.R_far (p := ⟨gb375, 2, none⟩) (Kd.R_far (p := ⟨gb375, 1, none⟩) (Kd.R_far (p := ⟨gb375, 0, none⟩) (RT HO389.out BK375.out) (fun _ hk => hk.2) (.slice Ao46 t387.length co46)) (fun _ hk => hk.2) (.slice Ao48 t390.length co48)) (fun _ hk => hk.2) (.int .i64 t393)) (fun _ hk => ⟨hk.1.1.1.1.2, ⟨hk.1.1.1.2, hk.1.1.1.1.1⟩⟩)⟩, ⟨by (with_reducible repeat (first | apply Kd.R_alloc | apply Kd.R_drewN | apply Kd.R_drew)); exact Kd.R_mono (Kd.R_far (p := ⟨gb375, 2, none⟩) (Kd.R_far (p := ⟨gb375, 1, none⟩) (Kd.R_far (p := ⟨gb375, 0, none⟩) (RT HO392.out BK375.out) (fun _ hk => hk.2) (.slice Ao46 t387.length co46)) (fun _ hk => hk.2) (.slice Ao48 t390.length co48)) (fun _ hk => hk.2) (.int .i64 t393)) (fun _ hk => ⟨hk.1.1.1.1.2, ⟨hk.1.1.1.2, hk.1.1.1.1.1⟩⟩)⟩, ⟨KK⟩, ⟨KK⟩, ⟨by refine SK ?_; refine blk_put (cs := #[.slice Ao46 t387.length co46, .slice Ao48 t390.length co48, .int .i64 t373]) ?_ 2 _ rfl; refine SK ?_; refine blk_put (cs := #[.slice Ao46 t387.length co46, .slice Ao23 t370.length co23, .int .i64 t373]) ?_ 1 _ rfl; refine SK ?_; refine blk_put (cs := #[.slice Ao21 t367.length co21, .slice Ao23 t370.length co23, .int .i64 t373]) ?_ 0 _ rfl; exact SK BK375.out⟩, ⟨KI87⟩, ⟨by repeat (first | (with_reducible first | exact HK.out | apply KeepBut.set_ | apply keep_drewN | apply keep_drew | apply keep_alloc | refine keep_far ?_ GW356.out _ | refine keep_far ?_ GW357.out _ | refine keep_far ?_ GW375.out _) | exact HK.out)⟩, ⟨KBh87 HB.out⟩⟩
      ·rw [if_neg c39] at H
       have c39b0 : (t376 == 1) = false := beq_eq_false_iff_ne.mpr c39
       have c39b1 : (t376 != 1) = true := bne_iff_ne.mpr c39
       by_cases c49 : t376 = 2
       ·rw [if_pos c49] at H
        have c49b0 : (t376 == 2) = true := beq_iff_eq.mpr c49
        have c49b1 : (t376 != 2) = false := bne_eq_false_iff_eq.mpr c49
        clear c49
        replace H := Option.bind_eq_some_iff.mp H
        obtain ⟨⟨t395, t396, t397⟩, A500, H⟩ := H
        replace H : (if t395 = true then ((spec_l1Below.f s0_0 t396 t397 4).bind fun bt398 => ((spec_StoreSeal.f k1 x358000_1 x358001_1 x358002_1 bt398.1).bind fun bt401 => (spec_l6DrawRight.j1 k1 t358 x5_1 bt401.2.2.2 s0_0 bt398.2.1 bt398.2.2 x358000_1 x358001_1 x358002_1 bt401.1 bt401.2.1 bt401.2.2.1))) else (spec_l6DrawRight.j1 k1 t358 x5_1 t374 s0_0 t396 t397 x358000_1 x358001_1 x358002_1 t367 t370 t373)) = some (r1, r2, r3, r4, r5) := H
        have A50 := Aside0.mk A500
        clear A500
        by_cases c51 : t395 = true
        ·subst c51
         have H1 : ((spec_l1Below.f s0_0 t396 t397 4).bind fun bt398 => ((spec_StoreSeal.f k1 x358000_1 x358001_1 x358002_1 bt398.1).bind fun bt401 => (spec_l6DrawRight.j1 k1 t358 x5_1 bt401.2.2.2 s0_0 bt398.2.1 bt398.2.2 x358000_1 x358001_1 x358002_1 bt401.1 bt401.2.1 bt401.2.2.1))) = some (r1, r2, r3, r4, r5) := by rw [if_pos rfl] at H; exact H
         clear H
         have H := H1
         clear H1
         replace H := Option.bind_eq_some_iff.mp H
         obtain ⟨⟨t398, t399, t400⟩, A520, H⟩ := H
         replace H : ((spec_StoreSeal.f k1 x358000_1 x358001_1 x358002_1 t398).bind fun bt401 => (spec_l6DrawRight.j1 k1 t358 x5_1 bt401.2.2.2 s0_0 t399 t400 x358000_1 x358001_1 x358002_1 bt401.1 bt401.2.1 bt401.2.2.1)) = some (r1, r2, r3, r4, r5) := H
         have A52 := Aside0.mk A520
         clear A520
         replace H := Option.bind_eq_some_iff.mp H
         obtain ⟨⟨t401, t404, t407, t408⟩, A530, H⟩ := H
         replace H : (spec_l6DrawRight.j1 k1 t358 x5_1 t408 s0_0 t399 t400 x358000_1 x358001_1 x358002_1 t401 t404 t407) = some (r1, r2, r3, r4, r5) := H
         have A53 := Aside0.mk A530
         clear A530
         have H' := Aside0.mk H
         clear H
         try go_wp2_with (first | ((with_reducible refine gate_callee (f := 61) rfl ?_); refine goesL_ (some 44) rfl rfl Try.func61 (by kernel_rfl) rfl #[.pointer (some ⟨g, 0, none⟩), .int .i64 3] rfl KL ?_; (with_reducible refine (spec_l1Once.calls g s0_0 t377 t378 3 true t396 t397 w0 _ ?side1 ?side2 A50.out).mono ?_); (case side1 => exact KI87); (case side2 => exact KBh87 HB.out); rintro e w54 ⟨rfl, hi, hb, hk⟩; refine ⟨_, rfl, ?_⟩; have h_ := P10 (Kd.R_mono (Kd.R_keep (IsS87.apart (show IsS87 w0 _ g s0_0 t377 t378 from KI87) (KR HO_358000.out) (by decide)) hk (fun _ h => h.2)) (fun _ h => h.1)) (Kd.R_mono (Kd.R_keep (IsS87.apart (show IsS87 w0 _ g s0_0 t377 t378 from KI87) (KR HO_358001.out) (by decide)) hk (fun _ h => h.2)) (fun _ h => h.1)) (KW BK356.out hk NB356_0.out) (KW BK357.out hk NB357_0.out) (Kd.R_mono (Kd.R_keep (IsS87.apart (show IsS87 w0 _ g s0_0 t377 t378 from KI87) (KR HO369.out) (by decide)) hk (fun _ h => h.2)) (fun _ h => h.1)) (Kd.R_mono (Kd.R_keep (IsS87.apart (show IsS87 w0 _ g s0_0 t377 t378 from KI87) (KR HO372.out) (by decide)) hk (fun _ h => h.2)) (fun _ h => h.1)) (KW BK375.out hk NB375_0.out) (KeepBut.trans (KHh HK.out) hk (.inl rfl)) hb hi; clear HO_358000 HO_358001 BK356 BK357 HO369 HO372 BK375 HK HB HI0; obtain ⟨HO_358000, HO_358001, BK356, BK357, HO369, HO372, BK375, HK, HB, HI0⟩ := h_; (try clear hb); (try clear hk); (try clear hi)))
         have h_ := P10 (Kd.R_drew HO_358000.out) (Kd.R_drew HO_358001.out) (Kd.R_drew HO369.out) (Kd.R_drew HO372.out) (blk_drew BK356.out) (blk_drew BK357.out) (blk_drew BK375.out) (IsS87.drew HI0.out) (keep_drew HK.out) (below_drew1 HB.out)
         clear HO_358000 HO_358001 HO369 HO372 BK356 BK357 BK375 HI0 HK HB
         obtain ⟨HO_358000, HO_358001, HO369, HO372, BK356, BK357, BK375, HI0, HK, HB⟩ := h_
         refine start_ (n := 9) (S := fun w' => w'.cell? ⟨gb357, 0, none⟩ = some (.slice Ao14 x358000_1.length co14) ∧ w'.cell? ⟨gb357, 1, none⟩ = some (.slice Ao15 x358001_1.length co15) ∧ w'.cell? ⟨gb357, 2, none⟩ = some (.int .i64 x358002_1)) (ds := []) #[false, false, false, false, false, false, false, false, false] (by kernel_rfl) rfl rfl ⟨(blk_cell BK357.out 0).trans rfl, (blk_cell BK357.out 1).trans rfl, (blk_cell BK357.out 2).trans rfl⟩ (fun hHeld => ?_); refine with_tabW spec_l6DrawRight.tab14 spec_l6DrawRight.bits14 (fun HT_ HW_ => ?_)
         generalize w54.drew = w55 at HO_358000 HO_358001 HO369 HO372 BK356 BK357 BK375 HI0 HK HB hHeld ⊢
         refine pure_ (i := 1) (N := some 47) (v := ?_) (a' := ?_) #[false, true, false, false, false, false, false, false, false] rfl rfl (any_of HT_.out (by kernel_rfl)) (fun _ _ _ h => h) (Or.inl ⟨by rfl, ?_⟩) ?_ ?_
         rotate_left
         ·intro w'
          go_simp
          with_reducible rfl
         rotate_left
         ·exact KA
         refine take_ (i := 0) (N := some 46) (v := ?_) (a' := ?_) #[true, true, false, false, false, false, false, false, false] rfl rfl (take_ofW HT_.out HW_.out (by kernel_rfl)) (fun _ _ _ h => h) (Or.inl ⟨by rfl, ?_⟩) hHeld ?_ ?_
         rotate_left
         ·rintro w' ⟨s0, s1, s2⟩
          go_simp
          with_reducible rfl
         rotate_left
         ·exact KA
         refine one_ (i := 2) (N := some 48) #[true, true, true, false, false, false, false, false, false] rfl rfl (one_of HT_.out (by kernel_rfl)) (by decide) (fun K hK => ?_)
         refine goes_ Try.func57 (by kernel_rfl) rfl #[.pointer (some ⟨g, 0, none⟩), .int .i64 4] (by rfl) rfl rfl KL ?_
         with_reducible refine (spec_l1Below.calls g s0_0 t396 t397 4 t398 t399 t400 w0 _ ?side1 ?side2 A52.out).mono ?_
         (case side1 => exact KI87)
         (case side2 => exact KBh87 HB.out)
         rintro e w56 ⟨rfl, hi, hb, hk⟩
         refine ⟨_, rfl, ?_⟩
         have h_ := P10 (Kd.R_mono (Kd.R_keep (IsS87.apart (show IsS87 w0 _ g s0_0 t396 t397 from KI87) (KR HO_358000.out) (by decide)) hk (fun _ h => h.2)) (fun _ h => h.1)) (Kd.R_mono (Kd.R_keep (IsS87.apart (show IsS87 w0 _ g s0_0 t396 t397 from KI87) (KR HO_358001.out) (by decide)) hk (fun _ h => h.2)) (fun _ h => h.1)) (KW BK356.out hk NB356_0.out) (KW BK357.out hk NB357_0.out) (Kd.R_mono (Kd.R_keep (IsS87.apart (show IsS87 w0 _ g s0_0 t396 t397 from KI87) (KR HO369.out) (by decide)) hk (fun _ h => h.2)) (fun _ h => h.1)) (Kd.R_mono (Kd.R_keep (IsS87.apart (show IsS87 w0 _ g s0_0 t396 t397 from KI87) (KR HO372.out) (by decide)) hk (fun _ h => h.2)) (fun _ h => h.1)) (KW BK375.out hk NB375_0.out) (KeepBut.trans (KHh HK.out) hk (.inl rfl)) hb hi
         clear HO_358000 HO_358001 BK356 BK357 HO369 HO372 BK375 HK HB HI0
         obtain ⟨HO_358000, HO_358001, BK356, BK357, HO369, HO372, BK375, HK, HB, HI0⟩ := h_
         (try clear hb); (try clear hk); (try clear hi)
         refine hK.out _ _ ⟨(blk_cell BK357.out 0).trans rfl, (blk_cell BK357.out 1).trans rfl, (blk_cell BK357.out 2).trans rfl⟩ (fun hHeld => ?_)
         clear hK K
         refine norm_ (a' := ?_) ?_ ?_
         rotate_left
         ·show Act.put _ (some 48) _ = _; exact KA
         refine one_ (i := 3) (N := some 49) #[true, true, true, true, false, false, false, false, false] rfl rfl (one_of HT_.out (by kernel_rfl)) (by decide) (fun K hK => ?_)
         refine goes_ Try.func38 (by kernel_rfl) rfl #[.agg #[.slice Ao14 x358000_1.length co14, .slice Ao15 x358001_1.length co15, .int .i64 x358002_1], .int .i64 t398] (by rfl) rfl rfl KL ?_
         with_reducible refine (spec_StoreSeal.calls k1 _ _ x358000_1 _ _ x358001_1 x358002_1 t398 t401 t404 t407 t408 _ ?side1 ?side2 ?side3 ?side4 A53.out).mono ?_
         (case side1 => repeat (first | exact (Kd.R_reads' HO_358000.out).2.2 | (with_reducible refine Kd.C_alloc ?_ _) | (with_reducible refine Kd.C_drewN ?_ _) | (with_reducible refine Kd.C_drew ?_)))
         (case side2 => exact (Kd.R_reads' HO_358000.out).2.1)
         (case side3 => repeat (first | exact (Kd.R_reads' HO_358001.out).2.2 | (with_reducible refine Kd.C_alloc ?_ _) | (with_reducible refine Kd.C_drewN ?_ _) | (with_reducible refine Kd.C_drew ?_)))
         (case side4 => exact (Kd.R_reads' HO_358001.out).2.1)
         rintro e w57 ⟨v402, v405, rfl, ho0, ho1, hb⟩
         refine ⟨_, rfl, ?_⟩
         have h_ := P12 (Kd.R_mono (Kd.R_told (Kd.R_told (Kd.R_old (KR HO_358000.out) hb) (Kd.R_base ho0)) (Kd.R_base ho1)) (fun _ h_ => h_.1)) (Kd.R_mono (Kd.R_told (Kd.R_told (Kd.R_old (KR HO_358001.out) hb) (Kd.R_base ho0)) (Kd.R_base ho1)) (fun _ h_ => h_.1)) (Kd.R_mono (Kd.R_told (Kd.R_told (Kd.R_old (KR HO369.out) hb) (Kd.R_base ho0)) (Kd.R_base ho1)) (fun _ h_ => h_.1)) (Kd.R_mono (Kd.R_told (Kd.R_told (Kd.R_old (KR HO372.out) hb) (Kd.R_base ho0)) (Kd.R_base ho1)) (fun _ h_ => h_.1)) (Kd.R_lower (Kd.R_new' (Kd.R_new' (Kd.R_new' (Kd.R_new' ho0 (Kd.R_lt (KR HO_358000.out))) (Kd.R_lt (KR HO_358001.out))) (Kd.R_lt (KR HO369.out))) (Kd.R_lt (KR HO372.out))) (KS HK.out)) (Kd.R_lower (Kd.R_new' (Kd.R_new' (Kd.R_new' (Kd.R_new' ho1 (Kd.R_lt (KR HO_358000.out))) (Kd.R_lt (KR HO_358001.out))) (Kd.R_lt (KR HO369.out))) (Kd.R_lt (KR HO372.out))) (KS HK.out)) (BL BK356.out hb) (BL BK357.out hb) (IsS87.below (KI87) hb) (BL BK375.out hb) (KeepBut.trans (KHh HK.out) (KeepBut.of_below hb g none) (.inl rfl)) (below_step (KBh87 HB.out) hb)
         clear HO_358000 HO_358001 HO369 HO372 BK356 BK357 HI0 BK375 HK HB
         obtain ⟨HO_358000, HO_358001, HO369, HO372, HO403, HO406, BK356, BK357, HI0, BK375, HK, HB⟩ := h_
         (try clear hb); (try clear hk); (try clear hi)
         (try clear ho0)
         (try clear ho1)
         obtain ⟨Ao58, co58, eo58⟩ := Kd.R_slice HO403.out
         (first | subst eo58 | (injection eo58 with f1_ f2_ f3_; have f4_ := f1_.symm; have f5_ := f3_.symm; clear f1_ f2_ f3_; subst f4_; subst f5_))
         obtain ⟨Ao60, co60, eo60⟩ := Kd.R_slice HO406.out
         (first | subst eo60 | (injection eo60 with f1_ f2_ f3_; have f4_ := f1_.symm; have f5_ := f3_.symm; clear f1_ f2_ f3_; subst f4_; subst f5_))
         refine hK.out _ _ ⟨(blk_cell BK357.out 0).trans rfl, (blk_cell BK357.out 1).trans rfl, (blk_cell BK357.out 2).trans rfl⟩ (fun hHeld => ?_)
         clear hK K
         refine norm_ (a' := ?_) ?_ ?_
         rotate_left
         ·show Act.put _ (some 49) _ = _; exact KA
         refine pure_ (i := 4) (N := some 45) (v := ?_) (a' := ?_) #[true, true, true, true, true, false, false, false, false] rfl rfl (any_of HT_.out (by kernel_rfl)) (fun _ _ _ h => h) (Or.inl ⟨by rfl, ?_⟩) ?_ ?_
         rotate_left
         ·intro w'
          go_simp
          with_reducible rfl
         rotate_left
         ·exact KA
         refine pure_ (i := 5) (N := some 50) (v := ?_) (a' := ?_) #[true, true, true, true, true, true, false, false, false] rfl rfl (any_of HT_.out (by kernel_rfl)) (fun _ _ _ h => h) (Or.inl ⟨by rfl, ?_⟩) ?_ ?_
         rotate_left
         ·intro w'
          go_simp
          with_reducible rfl
         rotate_left
         ·exact KA
         refine pure_ (i := 6) (N := some 51) (v := ?_) (a' := ?_) #[true, true, true, true, true, true, true, false, false] rfl rfl (any_of HT_.out (by kernel_rfl)) (fun _ _ _ h => h) (Or.inl ⟨by rfl, ?_⟩) ?_ ?_
         rotate_left
         ·intro w'
          go_simp
          with_reducible rfl
         rotate_left
         ·exact KA
         refine one_ (i := 7) (N := none) #[true, true, true, true, true, true, true, true, false] rfl rfl (one_of HT_.out (by kernel_rfl)) (by decide) (fun K hK => ?_)
         have hs59 : w57.cell? ⟨gb375, 0, none⟩ = some (.slice Ao21 t367.length co21) := (blk_cell BK375.out 0).trans rfl
         have hfs59 := blk_frozen BK375.out 0
         have hns59_0 := NB356_375.out
         have hns59_1 := NB357_375.out
         have hms59_0 := NB375_356.out
         have hms59_1 := NB375_357.out
         have hs61 : w57.cell? ⟨gb375, 1, none⟩ = some (.slice Ao23 t370.length co23) := (blk_cell BK375.out 1).trans rfl
         have hfs61 := blk_frozen BK375.out 1
         have hns61_0 := NB356_375.out
         have hns61_1 := NB357_375.out
         have hms61_0 := NB375_356.out
         have hms61_1 := NB375_357.out
         have hs62 : w57.cell? ⟨gb375, 2, none⟩ = some (.int .i64 t373) := (blk_cell BK375.out 2).trans rfl
         have hfs62 := blk_frozen BK375.out 2
         have hns62_0 := NB356_375.out
         have hns62_1 := NB357_375.out
         have hms62_0 := NB375_356.out
         have hms62_1 := NB375_357.out
         refine skip_ (w1 := ?_) (by rfl) rfl ?_ ?_
         rotate_left
         ·go_simp
          rfl
         refine hK.out _ _ ⟨((cell_far (p := ⟨gb375, _, none⟩) NB357_375.out _).trans (((cell_far (p := ⟨gb375, _, none⟩) NB357_375.out _).trans (((cell_far (p := ⟨gb375, _, none⟩) NB357_375.out _).trans (hHeld.1)))))), ((cell_far (p := ⟨gb375, _, none⟩) NB357_375.out _).trans (((cell_far (p := ⟨gb375, _, none⟩) NB357_375.out _).trans (((cell_far (p := ⟨gb375, _, none⟩) NB357_375.out _).trans (hHeld.2.1)))))), ((cell_far (p := ⟨gb375, _, none⟩) NB357_375.out _).trans (((cell_far (p := ⟨gb375, _, none⟩) NB357_375.out _).trans (((cell_far (p := ⟨gb375, _, none⟩) NB357_375.out _).trans (hHeld.2.2))))))⟩ (fun hHeld => ?_)
         clear hK K
         refine pure_ (i := 8) (N := some 7) (v := ?_) (a' := ?_) #[true, true, true, true, true, true, true, true, true] rfl rfl (any_of HT_.out (by kernel_rfl)) (fun _ _ _ h => h) (Or.inl ⟨by rfl, ?_⟩) ?_ ?_
         rotate_left
         ·intro w'
          go_simp
          with_reducible rfl
         rotate_left
         ·exact KA
         refine done_ (done_of HT_.out (by kernel_rfl)) ?_
         try go_wp2
         go_meet
         case rel => exact ⟨_, (t408), (t399), (t400), (t401), (t404), (t407), (.slice Ao58 t401.length co58), (.slice Ao60 t404.length co60), (by first | rfl | (simp; done) | (simp [*]; done)), H', ⟨by have := HK1.out; first | omega | exact Nat.le_refl _⟩, ⟨by (with_reducible repeat (first | apply Kd.R_alloc | apply Kd.R_drewN | apply Kd.R_drew)); exact Kd.R_mono (Kd.R_far (p := ⟨gb375, 2, none⟩) (Kd.R_far (p := ⟨gb375, 1, none⟩) (Kd.R_far (p := ⟨gb375, 0, none⟩) (RT HO_358000.out BK375.out) (fun _ hk => hk.2) (.slice Ao58 t401.length co58)) (fun _ hk => hk.2) (.slice Ao60 t404.length co60)) (fun _ hk => hk.2) (.int .i64 t407)) (fun _ hk => ⟨hk.1.1.1.2.2, ⟨hk.1.1.2, hk.1.2⟩⟩)⟩, ⟨by (with_reducible repeat (first | apply Kd.R_alloc | apply Kd.R_drewN | apply Kd.R_drew)); exact Kd.R_mono (Kd.R_far (p := ⟨gb375, 2, none⟩) (Kd.R_far (p := ⟨gb375, 1, none⟩) (Kd.R_far (p := ⟨gb375, 0, none⟩) (RT HO_358001.out BK375.out) (fun _ hk => hk.2) (.slice Ao58 t401.length co58)) (fun _ hk => hk.2) (.slice Ao60 t404.length co60)) (fun _ hk => hk.2) (.int .i64 t407)) (fun _ hk => ⟨hk.1.1.1.2.2, ⟨hk.1.1.2, hk.1.2⟩⟩)⟩, ⟨by (with_reducible repeat (first | apply Kd.R_alloc | apply Kd.R_drewN | apply Kd.R_drew)); exact Kd.R_mono (Kd.R_far (p := ⟨gb375, 2, none⟩) (Kd.R_far (p := ⟨gb375, 1, none⟩) (Kd.R_far (p := ⟨gb375, 0, none⟩) (RT HO403.out BK375.out) (fun _ hk => hk.2) (.slice Ao58 t401.length co58)) (fun _ hk => hk.2) (.slice Ao60 t404.length co60)) (fun _ hk => hk.2) (.int .i64 t407)) (fun _ hk => ⟨hk.1.1.1.1.2, ⟨hk.1.1.1.2, hk.1.1.1.1.1⟩⟩)⟩, ⟨by (with_reducible repeat (first | apply Kd.R_alloc | apply Kd.R_drewN | apply Kd.R_drew)); exact Kd.R_mono (Kd.R_far (p := ⟨gb375, 2, none⟩) (Kd.R_far (p := ⟨gb375, 1, none⟩) (Kd.R_far (p := ⟨gb375, 0, none⟩) (RT HO406.out BK375.out) (fun _ hk => hk.2) (.slice Ao58 t401.length co58)) (fun _ hk => hk.2) (.slice Ao60 t404.length co60)) (fun _ hk => hk.2) (.int .i64 t407)) (fun _ hk => ⟨hk.1.1.1.1.2, ⟨hk.1.1.1.2, hk.1.1.1.1.1⟩⟩)⟩, ⟨KK⟩, ⟨KK⟩, ⟨by refine SK ?_; refine blk_put (cs := #[.slice Ao58 t401.length co58, .slice Ao60 t404.length co60, .int .i64 t373]) ?_ 2 _ rfl; refine SK ?_; refine blk_put (cs := #[.slice Ao58 t401.length co58, .slice Ao23 t370.length co23, .int .i64 t373]) ?_ 1 _ rfl; refine SK ?_; refine blk_put (cs := #[.slice Ao21 t367.length co21, .slice Ao23 t370.length co23, .int .i64 t373]) ?_ 0 _ rfl; exact SK BK375.out⟩, ⟨KI87⟩, ⟨by repeat (first | (with_reducible first | exact HK.out | apply KeepBut.set_ | apply keep_drewN | apply keep_drew | apply keep_alloc | refine keep_far ?_ GW356.out _ | refine keep_far ?_ GW357.out _ | refine keep_far ?_ GW375.out _) | exact HK.out)⟩, ⟨KBh87 HB.out⟩⟩
        ·replace c51 := Bool.eq_false_iff.mpr c51
         subst c51
         have H1 : (spec_l6DrawRight.j1 k1 t358 x5_1 t374 s0_0 t396 t397 x358000_1 x358001_1 x358002_1 t367 t370 t373) = some (r1, r2, r3, r4, r5) := by rw [if_neg (show ¬ (false = true) by decide)] at H; exact H
         clear H
         have H := H1
         clear H1
         have H' := Aside0.mk H
         clear H
         go_wp2_with (first | ((with_reducible refine gate_callee (f := 61) rfl ?_); refine goesL_ (some 44) rfl rfl Try.func61 (by kernel_rfl) rfl #[.pointer (some ⟨g, 0, none⟩), .int .i64 3] rfl KL ?_; (with_reducible refine (spec_l1Once.calls g s0_0 t377 t378 3 false t396 t397 w0 _ ?side1 ?side2 A50.out).mono ?_); (case side1 => exact KI87); (case side2 => exact KBh87 HB.out); rintro e w63 ⟨rfl, hi, hb, hk⟩; refine ⟨_, rfl, ?_⟩; have h_ := P10 (Kd.R_mono (Kd.R_keep (IsS87.apart (show IsS87 w0 _ g s0_0 t377 t378 from KI87) (KR HO_358000.out) (by decide)) hk (fun _ h => h.2)) (fun _ h => h.1)) (Kd.R_mono (Kd.R_keep (IsS87.apart (show IsS87 w0 _ g s0_0 t377 t378 from KI87) (KR HO_358001.out) (by decide)) hk (fun _ h => h.2)) (fun _ h => h.1)) (KW BK356.out hk NB356_0.out) (KW BK357.out hk NB357_0.out) (Kd.R_mono (Kd.R_keep (IsS87.apart (show IsS87 w0 _ g s0_0 t377 t378 from KI87) (KR HO369.out) (by decide)) hk (fun _ h => h.2)) (fun _ h => h.1)) (Kd.R_mono (Kd.R_keep (IsS87.apart (show IsS87 w0 _ g s0_0 t377 t378 from KI87) (KR HO372.out) (by decide)) hk (fun _ h => h.2)) (fun _ h => h.1)) (KW BK375.out hk NB375_0.out) (KeepBut.trans (KHh HK.out) hk (.inl rfl)) hb hi; clear HO_358000 HO_358001 BK356 BK357 HO369 HO372 BK375 HK HB HI0; obtain ⟨HO_358000, HO_358001, BK356, BK357, HO369, HO372, BK375, HK, HB, HI0⟩ := h_; (try clear hb); (try clear hk); (try clear hi)))
         go_meet
         case rel => exact ⟨_, (t374), (t396), (t397), (t367), (t370), (t373), (.slice Ao21 t367.length co21), (.slice Ao23 t370.length co23), (by first | rfl | (simp; done) | (simp [*]; done)), H', ⟨by have := HK1.out; first | omega | exact Nat.le_refl _⟩, ⟨by (with_reducible repeat (first | apply Kd.R_alloc | apply Kd.R_drewN | apply Kd.R_drew)); exact Kd.R_mono HO_358000.out (fun _ hk => ⟨hk.2.2, ⟨hk.1, hk.2.1⟩⟩)⟩, ⟨by (with_reducible repeat (first | apply Kd.R_alloc | apply Kd.R_drewN | apply Kd.R_drew)); exact Kd.R_mono HO_358001.out (fun _ hk => ⟨hk.2.2, ⟨hk.1, hk.2.1⟩⟩)⟩, ⟨by (with_reducible repeat (first | apply Kd.R_alloc | apply Kd.R_drewN | apply Kd.R_drew)); exact Kd.R_mono HO369.out (fun _ hk => ⟨hk.2.1, ⟨hk.2.2, hk.1⟩⟩)⟩, ⟨by (with_reducible repeat (first | apply Kd.R_alloc | apply Kd.R_drewN | apply Kd.R_drew)); exact Kd.R_mono HO372.out (fun _ hk => ⟨hk.2.1, ⟨hk.2.2, hk.1⟩⟩)⟩, ⟨KK⟩, ⟨KK⟩, ⟨KK⟩, ⟨KI87⟩, ⟨by repeat (first | (with_reducible first | exact HK.out | apply KeepBut.set_ | apply keep_drewN | apply keep_drew | apply keep_alloc | refine keep_far ?_ GW356.out _ | refine keep_far ?_ GW357.out _ | refine keep_far ?_ GW375.out _) | exact HK.out)⟩, ⟨KBh87 HB.out⟩⟩
       ·rw [if_neg c49] at H
        have c49b0 : (t376 == 2) = false := beq_eq_false_iff_ne.mpr c49
        have c49b1 : (t376 != 2) = true := bne_iff_ne.mpr c49
        have H' := Aside0.mk H
        clear H
        go_wp2
        go_meet
        case rel => exact ⟨_, (t374), (t377), (t378), (t367), (t370), (t373), (.slice Ao21 t367.length co21), (.slice Ao23 t370.length co23), (by first | rfl | (simp; done) | (simp [*]; done)), H', ⟨by have := HK1.out; first | omega | exact Nat.le_refl _⟩, ⟨by (with_reducible repeat (first | apply Kd.R_alloc | apply Kd.R_drewN | apply Kd.R_drew)); exact Kd.R_mono HO_358000.out (fun _ hk => ⟨hk.2.2, ⟨hk.1, hk.2.1⟩⟩)⟩, ⟨by (with_reducible repeat (first | apply Kd.R_alloc | apply Kd.R_drewN | apply Kd.R_drew)); exact Kd.R_mono HO_358001.out (fun _ hk => ⟨hk.2.2, ⟨hk.1, hk.2.1⟩⟩)⟩, ⟨by (with_reducible repeat (first | apply Kd.R_alloc | apply Kd.R_drewN | apply Kd.R_drew)); exact Kd.R_mono HO369.out (fun _ hk => ⟨hk.2.1, ⟨hk.2.2, hk.1⟩⟩)⟩, ⟨by (with_reducible repeat (first | apply Kd.R_alloc | apply Kd.R_drewN | apply Kd.R_drew)); exact Kd.R_mono HO372.out (fun _ hk => ⟨hk.2.1, ⟨hk.2.2, hk.1⟩⟩)⟩, ⟨KK⟩, ⟨KK⟩, ⟨KK⟩, ⟨KI87⟩, ⟨by repeat (first | (with_reducible first | exact HK.out | apply KeepBut.set_ | apply keep_drewN | apply keep_drew | apply keep_alloc | refine keep_far ?_ GW356.out _ | refine keep_far ?_ GW357.out _ | refine keep_far ?_ GW375.out _) | exact HK.out)⟩, ⟨KBh87 HB.out⟩⟩
    case rest =>
     clear HC13
     try clear c1
     try clear c2
     try clear p2
     try clear c3
     try clear c4
     try clear c5
     try clear c6
     try clear c7
     try clear c9
     try clear c11
     try clear c27
     try clear c27b0
     try clear c27b1
     try clear c29
     try clear c30
     try clear c31
     try clear c35
     try clear c36
     try clear c38
     try clear c39
     try clear c39b0
     try clear c39b1
     try clear c41
     try clear c42
     try clear c43
     try clear c49
     try clear c49b0
     try clear c49b1
     try clear c51
     try clear c57
     try clear c61
     try clear hcz32_0
     try clear hcz32_1
     try clear hcz32_2
     try clear hcz37_0
     try clear hcz37_1
     try clear hcz37_2
     try clear hcz44_0
     try clear hcz44_1
     try clear hcz44_2
     try clear hcz47_0
     try clear hcz47_1
     try clear hcz47_2
     try clear hfz32_0
     try clear hfz32_1
     try clear hfz32_2
     try clear hfz37_0
     try clear hfz37_1
     try clear hfz37_2
     try clear hfz44_0
     try clear hfz44_1
     try clear hfz44_2
     try clear hfz47_0
     try clear hfz47_1
     try clear hfz47_2
     obtain ⟨kq, x7_12, x1001_12, x1002_12, x376000_12, x376001_12, x376002_12, u376000, u376001, rfl, HA, HJ12, HO_358000, HO_358001, HO_376000, HO_376001, BK356, BK357, BK375, HI0, HK, HB⟩ := hcut
     cases kq with
     | zero => exact absurd HA.out (by simp [spec_l6DrawRight.j1])
     | succ kj12 =>
      have H := HA.out
      clear HA
      simp only [spec_l6DrawRight.j1] at H
      by_cases c64 : x7_12 = true
      ·subst c64
       have H1 : (spec_l6DrawRight.l0 kj12 t358 (wrap64 (x5_1 + 1)) s0_0 x1001_12 x1002_12 x376000_12 x376001_12 x376002_12) = some (r1, r2, r3, r4, r5) := by rw [if_pos rfl] at H; exact H
       clear H
       have H := H1
       clear H1
       have H' := Aside0.mk H
       clear H
       have hnb65 := NB375_356.out
       have hnc65 := NB356_375.out
       have hnb66 := NB375_357.out
       have hnc66 := NB357_375.out
       have hnb67 := NB375_0.out
       have hnc67 := NB0_375.out
       obtain ⟨hcz68_0, hcz68_1, hcz68_2, hfz68_0, hfz68_1, hfz68_2⟩ := C3 BK375.out
       obtain ⟨Ao69, co69, eo69⟩ := Kd.R_slice HO_376000.out
       subst eo69
       have hnb70 := NB357_356.out
       have hnc70 := NB356_357.out
       have hnb71 := NB357_0.out
       have hnc71 := NB0_357.out
       obtain ⟨hcz72_0, hcz72_1, hcz72_2, hfz72_0, hfz72_1, hfz72_2⟩ := C3 BK357.out
       obtain ⟨Ao73, co73, eo73⟩ := Kd.R_slice HO_376001.out
       subst eo73
       go_wp2
       go_roundg kj12
       case measure => have := HK1.out; have := HJ12.out; omega
       case rel => exact ⟨(wrap64 (x5_1 + 1)), (x1001_12), (x1002_12), (x376000_12), (x376001_12), (x376002_12), (.slice Ao69 x376000_12.length co69), (.slice Ao73 x376001_12.length co73), (by first | rfl | (simp; done) | (simp [*]; done)), H', ⟨by have := HK1.out; have := HJ12.out; omega⟩, ⟨RQ (RT HO_376000.out BK357.out) (hm := fun _ h => h.1.2.2)⟩, ⟨RQ (RT HO_376001.out BK357.out) (hm := fun _ h => h.1.2.2)⟩, ⟨KK⟩, ⟨by refine SK ?_; refine blk_put (cs := #[.slice Ao69 x376000_12.length co69, .slice Ao73 x376001_12.length co73, .int .i64 x358002_1]) ?_ 2 _ rfl; refine SK ?_; refine blk_put (cs := #[.slice Ao69 x376000_12.length co69, .slice Ao15 x358001_1.length co15, .int .i64 x358002_1]) ?_ 1 _ rfl; refine SK ?_; refine blk_put (cs := #[.slice Ao14 x358000_1.length co14, .slice Ao15 x358001_1.length co15, .int .i64 x358002_1]) ?_ 0 _ rfl; exact SK BK357.out⟩, ⟨KI87⟩, ⟨by repeat (first | (with_reducible first | exact HK.out | apply KeepBut.set_ | apply keep_drewN | apply keep_drew | apply keep_alloc | refine keep_far ?_ GW356.out _ | refine keep_far ?_ GW357.out _ | refine keep_far ?_ GW375.out _) | exact HK.out)⟩, ⟨KBh87 HB.out⟩⟩
      ·replace c64 := Bool.eq_false_iff.mpr c64
       subst c64
       have H1 : (spec_l6DrawRight.l0 kj12 t358 (wrap64 (x5_1 + 1)) s0_0 x1001_12 x1002_12 x358000_1 x358001_1 x358002_1) = some (r1, r2, r3, r4, r5) := by rw [if_neg (show ¬ (false = true) by decide)] at H; exact H
       clear H
       have H := H1
       clear H1
       have H' := Aside0.mk H
       clear H
       go_wp2
       go_roundg kj12
       case measure => have := HK1.out; have := HJ12.out; omega
       case rel => exact ⟨(wrap64 (x5_1 + 1)), (x1001_12), (x1002_12), (x358000_1), (x358001_1), (x358002_1), (.slice Ao14 x358000_1.length co14), (.slice Ao15 x358001_1.length co15), (by first | rfl | (simp; done) | (simp [*]; done)), H', ⟨by have := HK1.out; have := HJ12.out; omega⟩, ⟨by (with_reducible repeat (first | apply Kd.R_alloc | apply Kd.R_drewN | apply Kd.R_drew)); exact Kd.R_mono HO_358000.out (fun _ hk => hk.1)⟩, ⟨by (with_reducible repeat (first | apply Kd.R_alloc | apply Kd.R_drewN | apply Kd.R_drew)); exact Kd.R_mono HO_358001.out (fun _ hk => hk.1)⟩, ⟨KK⟩, ⟨KK⟩, ⟨KI87⟩, ⟨by repeat (first | (with_reducible first | exact HK.out | apply KeepBut.set_ | apply keep_drewN | apply keep_drew | apply keep_alloc | refine keep_far ?_ GW356.out _ | refine keep_far ?_ GW357.out _ | refine keep_far ?_ GW375.out _) | exact HK.out)⟩, ⟨KBh87 HB.out⟩⟩
   ·rw [if_neg c9] at H
    have c9b0 : decide (x5_1 < t358) = false := decide_eq_false c9
    clear c9
    replace H := Option.bind_eq_some_iff.mp H
    obtain ⟨⟨t409, t410, t411⟩, A740, H⟩ := H
    replace H : (if t409 = true then (spec_l6DrawRight.l1 k1 1 s0_0 t410 t411 ([] : List (S35)) x358001_1 x358002_1) else (some (x358000_1, x358001_1, x358002_1, t410, t411))) = some (r1, r2, r3, r4, r5) := H
    have A74 := Aside0.mk A740
    clear A740
    by_cases c75 : t409 = true
    ·subst c75
     have H1 : (spec_l6DrawRight.l1 k1 1 s0_0 t410 t411 ([] : List (S35)) x358001_1 x358002_1) = some (r1, r2, r3, r4, r5) := by rw [if_pos rfl] at H; exact H
     clear H
     have H := H1
     clear H1
     have H' := Aside0.mk H
     clear H
     go_wp2_with (first | ((with_reducible refine gate_callee (f := 61) rfl ?_); refine goesL_ (some 55) rfl rfl Try.func61 (by kernel_rfl) rfl #[.pointer (some ⟨g, 0, none⟩), .int .i64 40] rfl KL ?_; (with_reducible refine (spec_l1Once.calls g s0_0 x1001_1 x1002_1 40 true t410 t411 w0 _ ?side1 ?side2 A74.out).mono ?_); (case side1 => exact KI87); (case side2 => exact KBh87 HB.out); rintro e w76 ⟨rfl, hi, hb, hk⟩; refine ⟨_, rfl, ?_⟩; have h_ := P7 (Kd.R_mono (Kd.R_keep (IsS87.apart (show IsS87 w0 _ g s0_0 x1001_1 x1002_1 from KI87) (KR HO_358000.out) (by decide)) hk (fun _ h => h.2)) (fun _ h => h.1)) (Kd.R_mono (Kd.R_keep (IsS87.apart (show IsS87 w0 _ g s0_0 x1001_1 x1002_1 from KI87) (KR HO_358001.out) (by decide)) hk (fun _ h => h.2)) (fun _ h => h.1)) (KW BK356.out hk NB356_0.out) (KW BK357.out hk NB357_0.out) (KeepBut.trans (KHh HK.out) hk (.inl rfl)) hb hi; clear HO_358000 HO_358001 BK356 BK357 HK HB HI0; obtain ⟨HO_358000, HO_358001, BK356, BK357, HK, HB, HI0⟩ := h_; (try clear hb); (try clear hk); (try clear hi); have hnb77 := NB357_356.out; have hnc77 := NB356_357.out; have hnb78 := NB357_0.out; have hnc78 := NB0_357.out; obtain ⟨hcz79_0, hcz79_1, hcz79_2, hfz79_0, hfz79_1, hfz79_2⟩ := C3 BK357.out))
     go_loopg [8] k1 (fun kq v8 w' => ∃ (x8_2 : Int) (x358000_2 : List (S35)) (u358000 : Value), v8 = .int .i64 x8_2 ∧ Aside0 (spec_l6DrawRight.l1 kq x8_2 s0_0 t410 t411 x358000_2 x358001_1 x358002_1 = some (r1, r2, r3, r4, r5)) ∧ Aside0 (kq ≤ k1) ∧ Aside0 (Kd.R k35 35 w' w.heap.size (fun k_ => some k_ ≠ (u358001 : Value).ownBlock) u358000 x358000_2) ∧ Aside0 (Kd.R k35 35 w' w.heap.size (fun k_ => some k_ ≠ (u358000 : Value).ownBlock) u358001 x358001_1) ∧ Aside0 (w'.heap[gb356]? = some (.cells #[(.slice none 0 0), (.slice none 0 0), .int .i64 0] 31 (0, 0))) ∧ Aside0 (w'.heap[gb357]? = some (.cells #[u358000, u358001, .int .i64 x358002_1] 31 (0, 0))) ∧ Aside0 (IsS87 w0 w' g s0_0 t410 t411) ∧ Aside0 (KeepBut w w' g none) ∧ Aside0 (Below w0.heap.size w0 w'))
     case atStart => exact ⟨(1), (([] : List (S35))), (.slice none 0 0), (by first | rfl | (simp; done) | (simp [*]; done)), H', ⟨Nat.le_refl _⟩, ⟨by first | exact Kd.R_nil _ _ _ _ _ | exact Kd.N_nil _ _ _ _ _ | exact Kd.V_nil _ _ _ _ _ | exact Kd.Q_nil _ _ _ _ _ | exact Kd.S_nil _ _ _ _ _⟩, ⟨by (with_reducible repeat (first | apply Kd.R_alloc | apply Kd.R_drewN | apply Kd.R_drew)); exact Kd.R_mono (Kd.R_far (p := ⟨gb357, 0, none⟩) (RT HO_358001.out BK357.out) (fun _ hk => hk.2) (.slice none 0 0)) (fun _ hk => (by simp [Value.ownBlock]))⟩, ⟨KK⟩, ⟨by refine SK ?_; refine blk_put (cs := #[u358000, u358001, .int .i64 x358002_1]) ?_ 0 _ rfl; exact SK BK357.out⟩, ⟨KI87⟩, ⟨by repeat (first | (with_reducible first | exact HK.out | apply KeepBut.set_ | apply keep_drewN | apply keep_drew | apply keep_alloc | refine keep_far ?_ GW356.out _ | refine keep_far ?_ GW357.out _) | exact HK.out)⟩, ⟨KBh87 HB.out⟩⟩
     case round =>
      clear H'
      try clear c1
      try clear c2
      try clear p2
      try clear c3
      try clear c4
      try clear c5
      try clear c6
      try clear p6
      try clear c7
      try clear c9
      try clear c9b0
      try clear c11
      try clear c27
      try clear c27b0
      try clear c27b1
      try clear c29
      try clear c30
      try clear c31
      try clear c35
      try clear c36
      try clear c38
      try clear c39
      try clear c39b0
      try clear c39b1
      try clear c41
      try clear c42
      try clear c43
      try clear c49
      try clear c49b0
      try clear c49b1
      try clear c51
      try clear c57
      try clear c61
      try clear c64
      try clear p64
      try clear c65
      try clear c66
      try clear c67
      try clear c70
      try clear c71
      try clear c73
      try clear c75
      try clear c77
      try clear c78
      try clear hcz32_0
      try clear hcz32_1
      try clear hcz32_2
      try clear hcz37_0
      try clear hcz37_1
      try clear hcz37_2
      try clear hcz44_0
      try clear hcz44_1
      try clear hcz44_2
      try clear hcz47_0
      try clear hcz47_1
      try clear hcz47_2
      try clear hcz68_0
      try clear hcz68_1
      try clear hcz68_2
      try clear hcz72_0
      try clear hcz72_1
      try clear hcz72_2
      try clear hcz79_0
      try clear hcz79_1
      try clear hcz79_2
      try clear hfz32_0
      try clear hfz32_1
      try clear hfz32_2
      try clear hfz37_0
      try clear hfz37_1
      try clear hfz37_2
      try clear hfz44_0
      try clear hfz44_1
      try clear hfz44_2
      try clear hfz47_0
      try clear hfz47_1
      try clear hfz47_2
      try clear hfz68_0
      try clear hfz68_1
      try clear hfz68_2
      try clear hfz72_0
      try clear hfz72_1
      try clear hfz72_2
      try clear hfz79_0
      try clear hfz79_1
      try clear hfz79_2
      try clear p2
      obtain ⟨x8_2, x358000_2, u358000, rfl, HA, HK2, HO_358000, HO_358001, BK356, BK357, HI0, HK, HB⟩ := hrel
      cases gk with
      | zero => exact absurd HA.out (by simp [spec_l6DrawRight.l1])
      | succ k2 =>
       have H := HA.out
       clear HA
       simp only [spec_l6DrawRight.l1] at H
       by_cases c80 : x8_2 ≤ 4
       ·rw [if_pos c80] at H
        have c80b0 : decide (x8_2 ≤ 4) = true := decide_eq_true c80
        clear c80
        have H' := Aside0.mk H
        clear H
        go_wp2
        go_loopg [9] k2 (fun kq v9 w' => ∃ (x9_3 : Int) (x358000_3 : List (S35)) (u358000 : Value), v9 = .int .i64 x9_3 ∧ Aside0 (spec_l6DrawRight.l2 kq x8_2 x9_3 s0_0 t410 t411 x358000_3 x358001_1 x358002_1 = some (r1, r2, r3, r4, r5)) ∧ Aside0 (kq ≤ k2) ∧ Aside0 (Kd.R k35 35 w' w.heap.size (fun k_ => some k_ ≠ (u358001 : Value).ownBlock) u358000 x358000_3) ∧ Aside0 (Kd.R k35 35 w' w.heap.size (fun k_ => some k_ ≠ (u358000 : Value).ownBlock) u358001 x358001_1) ∧ Aside0 (w'.heap[gb356]? = some (.cells #[(.slice none 0 0), (.slice none 0 0), .int .i64 0] 31 (0, 0))) ∧ Aside0 (w'.heap[gb357]? = some (.cells #[u358000, u358001, .int .i64 x358002_1] 31 (0, 0))) ∧ Aside0 (IsS87 w0 w' g s0_0 t410 t411) ∧ Aside0 (KeepBut w w' g none) ∧ Aside0 (Below w0.heap.size w0 w'))
        case atStart => exact ⟨(1), (x358000_2), (u358000), (by first | rfl | (simp; done) | (simp [*]; done)), H', ⟨Nat.le_refl _⟩, ⟨by (with_reducible repeat (first | apply Kd.R_alloc | apply Kd.R_drewN | apply Kd.R_drew)); exact HO_358000.out⟩, ⟨by (with_reducible repeat (first | apply Kd.R_alloc | apply Kd.R_drewN | apply Kd.R_drew)); exact HO_358001.out⟩, ⟨KK⟩, ⟨KK⟩, ⟨KI87⟩, ⟨by repeat (first | (with_reducible first | exact HK.out | apply KeepBut.set_ | apply keep_drewN | apply keep_drew | apply keep_alloc | refine keep_far ?_ GW356.out _ | refine keep_far ?_ GW357.out _) | exact HK.out)⟩, ⟨KBh87 HB.out⟩⟩
        case round =>
         clear H'
         try clear c1
         try clear c2
         try clear p2
         try clear c3
         try clear c4
         try clear c5
         try clear c6
         try clear p6
         try clear c7
         try clear c8
         try clear c9
         try clear c9b0
         try clear c11
         try clear c27
         try clear c27b0
         try clear c27b1
         try clear c29
         try clear c30
         try clear c31
         try clear c35
         try clear c36
         try clear c38
         try clear c39
         try clear c39b0
         try clear c39b1
         try clear c41
         try clear c42
         try clear c43
         try clear c49
         try clear c49b0
         try clear c49b1
         try clear c51
         try clear c57
         try clear c61
         try clear c64
         try clear p64
         try clear c65
         try clear c66
         try clear c67
         try clear c70
         try clear c71
         try clear c73
         try clear c75
         try clear c77
         try clear c78
         try clear c80
         try clear c80b0
         try clear hcz32_0
         try clear hcz32_1
         try clear hcz32_2
         try clear hcz37_0
         try clear hcz37_1
         try clear hcz37_2
         try clear hcz44_0
         try clear hcz44_1
         try clear hcz44_2
         try clear hcz47_0
         try clear hcz47_1
         try clear hcz47_2
         try clear hcz68_0
         try clear hcz68_1
         try clear hcz68_2
         try clear hcz72_0
         try clear hcz72_1
         try clear hcz72_2
         try clear hcz79_0
         try clear hcz79_1
         try clear hcz79_2
         try clear hfz32_0
         try clear hfz32_1
         try clear hfz32_2
         try clear hfz37_0
         try clear hfz37_1
         try clear hfz37_2
         try clear hfz44_0
         try clear hfz44_1
         try clear hfz44_2
         try clear hfz47_0
         try clear hfz47_1
         try clear hfz47_2
         try clear hfz68_0
         try clear hfz68_1
         try clear hfz68_2
         try clear hfz72_0
         try clear hfz72_1
         try clear hfz72_2
         try clear hfz79_0
         try clear hfz79_1
         try clear hfz79_2
         try clear p2
         try clear p6
         try clear p64
         obtain ⟨x9_3, x358000_3, u358000, rfl, HA, HK3, HO_358000, HO_358001, BK356, BK357, HI0, HK, HB⟩ := hrel
         cases gk with
         | zero => exact absurd HA.out (by simp [spec_l6DrawRight.l2])
         | succ k3 =>
          have H := HA.out
          clear HA
          simp only [spec_l6DrawRight.l2] at H
          by_cases c81 : x9_3 ≤ 50
          ·rw [if_pos c81] at H
           have c81b0 : decide (x9_3 ≤ 50) = true := decide_eq_true c81
           clear c81
           replace H := Option.bind_eq_some_iff.mp H
           obtain ⟨t412, A820, H⟩ := H
           replace H : (if x358000_3.length < 3518437208883 then (spec_l6DrawRight.l2 k3 x8_2 (wrap64 (x9_3 + 1)) s0_0 t410 t411 (x358000_3 ++ [(⟨t412, 0, false, (⟨#[]⟩ : ByteArray)⟩ : S35)]) x358001_1 x358002_1) else (none)) = some (r1, r2, r3, r4, r5) := H
           have A82 := Aside0.mk A820
           clear A820
           by_cases c83 : x358000_3.length < 3518437208883
           ·rw [if_pos c83] at H
            have LMc83 := Aside0.mk c83
            clear c83
            obtain ⟨y413, hy413⟩ : ∃ y_ : List (S35), y_ = (x358000_3 ++ [(⟨t412, 0, false, (⟨#[]⟩ : ByteArray)⟩ : S35)]) := ⟨_, rfl⟩
            replace H : (spec_l6DrawRight.l2 k3 x8_2 (wrap64 (x9_3 + 1)) s0_0 t410 t411 y413 x358001_1 x358002_1) = some (r1, r2, r3, r4, r5) := by first | (rw [hy413]; with_reducible exact H) | (have H2_ := (Option.bind_some _ _).symm.trans H; rw [hy413]; with_reducible exact H2_) | (have H2_ := (Option.bind_some _ _).symm.trans H; with_reducible exact H2_) | with_reducible exact H | (rw [hy413]; exact H) | exact H
            have Ny413 := Aside0.mk hy413
            clear hy413
            have H' := Aside0.mk H
            clear H
            try go_wp2
            have h_ := P7 (Kd.R_drew HO_358000.out) (Kd.R_drew HO_358001.out) (blk_drew BK356.out) (blk_drew BK357.out) (IsS87.drew HI0.out) (keep_drew HK.out) (below_drew1 HB.out)
            clear HO_358000 HO_358001 BK356 BK357 HI0 HK HB
            obtain ⟨HO_358000, HO_358001, BK356, BK357, HI0, HK, HB⟩ := h_
            refine start_ (n := 10) (S := fun w' => w'.cell? ⟨gb357, 0, none⟩ = some (u358000) ∧ w'.cell? ⟨gb357, 1, none⟩ = some (u358001) ∧ w'.cell? ⟨gb357, 2, none⟩ = some (.int .i64 x358002_1)) (ds := [9]) #[false, false, false, false, false, false, false, false, false, false] (by kernel_rfl) rfl rfl ⟨(blk_cell BK357.out 0).trans rfl, (blk_cell BK357.out 1).trans rfl, (blk_cell BK357.out 2).trans rfl⟩ (fun hHeld => ?_); refine with_tabW spec_l6DrawRight.tab25 spec_l6DrawRight.bits25 (fun HT_ HW_ => ?_)
            generalize wr.drew = w84 at HO_358000 HO_358001 BK356 BK357 HI0 HK HB hHeld ⊢
            refine pure_ (i := 0) (N := some 65) (v := ?_) (a' := ?_) #[true, false, false, false, false, false, false, false, false, false] rfl rfl (any_of HT_.out (by kernel_rfl)) (fun _ _ _ h => h) (Or.inl ⟨by rfl, ?_⟩) ?_ ?_
            rotate_left
            ·intro w'
             go_simp
             with_reducible rfl
            rotate_left
            ·exact KA
            refine pure_ (i := 2) (N := some 67) (v := ?_) (a' := ?_) #[true, false, true, false, false, false, false, false, false, false] rfl rfl (any_of HT_.out (by kernel_rfl)) (fun _ _ _ h => h) (Or.inl ⟨by rfl, ?_⟩) ?_ ?_
            rotate_left
            ·intro w'
             go_simp
             with_reducible rfl
            rotate_left
            ·exact KA
            refine pure_ (i := 3) (N := some 68) (v := ?_) (a' := ?_) #[true, false, true, true, false, false, false, false, false, false] rfl rfl (any_of HT_.out (by kernel_rfl)) (fun _ _ _ h => h) (Or.inl ⟨by rfl, ?_⟩) ?_ ?_
            rotate_left
            ·intro w'
             go_simp
             with_reducible rfl
            rotate_left
            ·exact KA
            refine take_ (i := 1) (N := some 66) (v := ?_) (a' := ?_) #[true, true, true, true, false, false, false, false, false, false] rfl rfl (take_ofW HT_.out HW_.out (by kernel_rfl)) (fun _ _ _ h => h) (Or.inl ⟨by rfl, ?_⟩) hHeld ?_ ?_
            rotate_left
            ·rintro w' ⟨s0, s1, s2⟩
             go_simp
             with_reducible rfl
            rotate_left
            ·exact KA
            refine one_ (i := 4) (N := some 69) #[true, true, true, true, true, false, false, false, false, false] rfl rfl (one_of HT_.out (by kernel_rfl)) (by decide) (fun K hK => ?_)
            refine goes_ Try.func83 (by kernel_rfl) rfl #[.int .i64 x8_2, .int .i64 x9_3] (by rfl) rfl rfl KL ?_
            with_reducible refine (spec_l1Place.calls x8_2 x9_3 t412 _ A82.out).mono ?_
            rintro e w' ⟨rfl, ⟨nd, rfl⟩⟩
            refine ⟨_, rfl, ?_⟩
            refine hK.out _ _ ⟨(blk_cell BK357.out 0).trans rfl, (blk_cell BK357.out 1).trans rfl, (blk_cell BK357.out 2).trans rfl⟩ (fun hHeld => ?_)
            clear hK K
            refine norm_ (a' := ?_) ?_ ?_
            rotate_left
            ·show Act.put _ (some 69) _ = _; exact KA
            refine pure_ (i := 5) (N := some 70) (v := ?_) (a' := ?_) #[true, true, true, true, true, true, false, false, false, false] rfl rfl (any_of HT_.out (by kernel_rfl)) (fun _ _ _ h => h) (Or.inl ⟨by rfl, ?_⟩) ?_ ?_
            rotate_left
            ·intro w'
             go_simp
             with_reducible rfl
            rotate_left
            ·exact KA
            refine one_ (i := 6) (N := some 71) #[true, true, true, true, true, true, true, false, false, false] rfl rfl (one_of HT_.out (by kernel_rfl)) (by decide) (fun K hK => ?_)
            refine value_ (w1 := ?_) (v := ?_) (by rfl) rfl ?_ ?_
            rotate_left 2
            ·go_simp
             constructor
             ·rfl
             ·rfl
            refine hK.out _ _ ⟨(blk_cell (blk_alloc BK357.out _) 0).trans rfl, (blk_cell (blk_alloc BK357.out _) 1).trans rfl, (blk_cell (blk_alloc BK357.out _) 2).trans rfl⟩ (fun hHeld => ?_)
            clear hK K
            refine norm_ (a' := ?_) ?_ ?_
            rotate_left
            ·show Act.put _ (some 71) _ = _; exact KA
            refine one_ (i := 7) (N := some 72) #[true, true, true, true, true, true, true, true, false, false] rfl rfl (one_of HT_.out (by kernel_rfl)) (by decide) (fun K hK => ?_)
            refine Kd.R_append_step k35 w.heap.size (by rfl) (.tmp 66) (.tmp 71) 29 35 (.agg #[(.int .i64 0), (.int .i64 0), (.bool false), (.string ⟨#[]⟩)]) 40 rfl Try.underlying29 info35 rfl (by decide) (by omega) u358000 x358000_3 (⟨t412, 0, false, (⟨#[]⟩ : ByteArray)⟩ : S35) [.int .i64 t412, .int .i64 0, .bool false, .string (⟨#[]⟩ : ByteArray)] (fun k_ => some k_ ≠ (u358001 : Value).ownBlock) (fun _ => False) rfl rfl ?aP (fun _ hk => hk.elim) ?aF ?aO (Below.refl _ _) ?aS ?aL ?_
            (case aP => exact k35_mkM _ _ _ (⟨t412, 0, false, (⟨#[]⟩ : ByteArray)⟩ : S35))
            (case aF => exact (fun k_ hk => Kd.fresh' (Kd.R_lt (KR HO_358001.out)) k_ hk))
            (case aO => exact (KR HO_358000.out))
            (case aS => exact (KS HK.out))
            (case aL => have := LMc83.out; omega)
            intro v414 w85 ho hb hg hat
            rw [← Ny413.out] at ho
            have h_ := P7 (Kd.R_after (ok := (fun _ => True)) (by (with_reducible repeat (first | apply Kd.R_alloc | apply Kd.R_drewN | apply Kd.R_drew)); exact Kd.R_mono HO_358001.out (fun _ hk => ⟨trivial, hk⟩)) hg hat) (BW BK356.out hg (Kd.R_ne HO_358000.out BK356.out (by decide))) (BW BK357.out hg (Kd.R_ne HO_358000.out BK357.out (by decide))) (IsS87.grown (KI87) hg (IsS87.own_ne HI0.out HO_358000.out (by decide))) (below_weaken (KBh87 HB.out) HL.out hb) (KeepBut.trans (KHh HK.out) (KeepBut.of_grown hg g) (Kd.R_base2 HO_358000.out)) ho
            clear HO_358001 BK356 BK357 HI0 HB HK HO_358000
            obtain ⟨HO_358001, BK356, BK357, HI0, HB, HK, HO415⟩ := h_
            clear ho hb hg hat
            obtain ⟨Ao86, co86, eo86⟩ := Kd.R_slice HO415.out
            (first | subst eo86 | (injection eo86 with f1_ f2_ f3_; have f4_ := f1_.symm; have f5_ := f3_.symm; clear f1_ f2_ f3_; subst f4_; subst f5_))
            refine hK.out _ _ ⟨(blk_cell BK357.out 0).trans rfl, (blk_cell BK357.out 1).trans rfl, (blk_cell BK357.out 2).trans rfl⟩ (fun hHeld => ?_)
            clear hK K
            refine norm_ (a' := ?_) ?_ ?_
            rotate_left
            ·show Act.put _ (some 72) _ = _; exact KA
            refine pure_ (i := 8) (N := some 73) (v := ?_) (a' := ?_) #[true, true, true, true, true, true, true, true, true, false] rfl rfl (any_of HT_.out (by kernel_rfl)) (fun _ _ _ h => h) (Or.inl ⟨by rfl, ?_⟩) ?_ ?_
            rotate_left
            ·intro w'
             go_simp
             with_reducible rfl
            rotate_left
            ·exact KA
            refine last_ (i := 9) (N := none) #[true, true, true, true, true, true, true, true, true, true] rfl rfl (one_of HT_.out (by kernel_rfl)) (by decide) (fun K hK => ?_)
            have hs87 : w85.cell? ⟨gb357, 0, none⟩ = some (u358000) := (blk_cell BK357.out 0).trans rfl
            have hfs87 := blk_frozen BK357.out 0
            have hns87_0 := NB356_357.out
            have hms87_0 := NB357_356.out
            refine skip_ (w1 := ?_) (by rfl) rfl ?_ ?_
            rotate_left
            ·go_simp
             rfl
            refine hK.out _ _ ?_
            clear hK K
            refine done_ (done_of HT_.out (by kernel_rfl)) ?_
            try go_wp2
            go_roundg k3
            case measure => have := HK1.out; have := HK2.out; have := HK3.out; omega
            case rel => exact ⟨(wrap64 (x9_3 + 1)), (y413), (.slice Ao86 y413.length co86), (by first | rfl | (simp; done) | (simp [*]; done)), H', ⟨by have := HK1.out; have := HK2.out; have := HK3.out; omega⟩, ⟨RQ (RT HO415.out BK357.out)⟩, ⟨RQ (RT HO_358001.out BK357.out) (hm := fun _ h => h.1.2)⟩, ⟨KK⟩, ⟨by refine SK ?_; refine blk_put (cs := #[u358000, u358001, .int .i64 x358002_1]) ?_ 0 _ rfl; exact SK BK357.out⟩, ⟨KI87⟩, ⟨by repeat (first | (with_reducible first | exact HK.out | apply KeepBut.set_ | apply keep_drewN | apply keep_drew | apply keep_alloc | refine keep_far ?_ GW356.out _ | refine keep_far ?_ GW357.out _) | exact HK.out)⟩, ⟨KBh87 HB.out⟩⟩
           ·rw [if_neg c83] at H
            exact absurd H (by simp)
          ·rw [if_neg c81] at H
           have c81b0 : decide (x9_3 ≤ 50) = false := decide_eq_false c81
           clear c81
           have H' := Aside0.mk H
           clear H
           go_wp2
           go_roundg k3
           case measure => have := HK1.out; have := HK2.out; have := HK3.out; omega
           case rel => exact ⟨(wrap64 (x8_2 + 1)), (x358000_3), (u358000), (by first | rfl | (simp; done) | (simp [*]; done)), H', ⟨by have := HK1.out; have := HK2.out; have := HK3.out; omega⟩, ⟨by (with_reducible repeat (first | apply Kd.R_alloc | apply Kd.R_drewN | apply Kd.R_drew)); exact HO_358000.out⟩, ⟨by (with_reducible repeat (first | apply Kd.R_alloc | apply Kd.R_drewN | apply Kd.R_drew)); exact HO_358001.out⟩, ⟨KK⟩, ⟨KK⟩, ⟨KI87⟩, ⟨by repeat (first | (with_reducible first | exact HK.out | apply KeepBut.set_ | apply keep_drewN | apply keep_drew | apply keep_alloc | refine keep_far ?_ GW356.out _ | refine keep_far ?_ GW357.out _) | exact HK.out)⟩, ⟨KBh87 HB.out⟩⟩
       ·rw [if_neg c80] at H
        have c80b0 : decide (x8_2 ≤ 4) = false := decide_eq_false c80
        clear c80
        simp only [Option.some.injEq, Prod.mk.injEq] at H
        obtain ⟨rfl, rfl, rfl, rfl, rfl⟩ := H
        have hnb88 := NB357_356.out
        have hnc88 := NB356_357.out
        have hnb89 := NB357_0.out
        have hnc89 := NB0_357.out
        obtain ⟨hcz90_0, hcz90_1, hcz90_2, hfz90_0, hfz90_1, hfz90_2⟩ := C3 BK357.out
        obtain ⟨Ao91, co91, eo91⟩ := Kd.R_slice HO_358000.out
        subst eo91
        have hnb92 := NB356_0.out
        have hnc92 := NB0_356.out
        obtain ⟨hcz93_0, hcz93_1, hcz93_2, hfz93_0, hfz93_1, hfz93_2⟩ := C3 BK356.out
        obtain ⟨Ao94, co94, eo94⟩ := Kd.R_slice HO_358001.out
        subst eo94
        go_wp2
        refine bodyPost_ret (results_cell_row rfl _ _ gb356 31 #[.slice Ao91 x358000_2.length co91, .slice Ao94 x358001_1.length co94, .int .i64 x358002_1] (0, 0) _ rfl (by refine SK ?_; refine blk_put (cs := #[.slice Ao91 x358000_2.length co91, .slice Ao94 x358001_1.length co94, .int .i64 0]) ?_ 2 _ rfl; refine SK ?_; refine blk_put (cs := #[.slice Ao91 x358000_2.length co91, .slice none 0 0, .int .i64 0]) ?_ 1 _ rfl; refine SK ?_; refine blk_put (cs := #[.slice none 0 0, .slice none 0 0, .int .i64 0]) ?_ 0 _ rfl; exact SK BK356.out) Try.underlying31 rfl (by kernel_rfl)) rfl ?_
        exact ⟨_, _, KE, RQ (RT HO_358000.out BK356.out), RQ (RT HO_358001.out BK356.out), KI87, KBh87 HB.out, by repeat (first | (with_reducible first | exact HK.out | apply KeepBut.set_ | apply keep_drewN | apply keep_drew | apply keep_alloc | refine keep_far ?_ GW356.out _ | refine keep_far ?_ GW357.out _) | exact HK.out)⟩
    ·replace c75 := Bool.eq_false_iff.mpr c75
     subst c75
     have H1 : (some (x358000_1, x358001_1, x358002_1, t410, t411)) = some (r1, r2, r3, r4, r5) := by rw [if_neg (show ¬ (false = true) by decide)] at H; exact H
     clear H
     have H := H1
     clear H1
     simp only [Option.some.injEq, Prod.mk.injEq] at H
     obtain ⟨rfl, rfl, rfl, rfl, rfl⟩ := H
     go_wp2_with (first | ((with_reducible refine gate_callee (f := 61) rfl ?_); refine goesL_ (some 55) rfl rfl Try.func61 (by kernel_rfl) rfl #[.pointer (some ⟨g, 0, none⟩), .int .i64 40] rfl KL ?_; (with_reducible refine (spec_l1Once.calls g s0_0 x1001_1 x1002_1 40 false t410 t411 w0 _ ?side1 ?side2 A74.out).mono ?_); (case side1 => exact KI87); (case side2 => exact KBh87 HB.out); rintro e w95 ⟨rfl, hi, hb, hk⟩; refine ⟨_, rfl, ?_⟩; have h_ := P7 (Kd.R_mono (Kd.R_keep (IsS87.apart (show IsS87 w0 _ g s0_0 x1001_1 x1002_1 from KI87) (KR HO_358000.out) (by decide)) hk (fun _ h => h.2)) (fun _ h => h.1)) (Kd.R_mono (Kd.R_keep (IsS87.apart (show IsS87 w0 _ g s0_0 x1001_1 x1002_1 from KI87) (KR HO_358001.out) (by decide)) hk (fun _ h => h.2)) (fun _ h => h.1)) (KW BK356.out hk NB356_0.out) (KW BK357.out hk NB357_0.out) (KeepBut.trans (KHh HK.out) hk (.inl rfl)) hb hi; clear HO_358000 HO_358001 BK356 BK357 HK HB HI0; obtain ⟨HO_358000, HO_358001, BK356, BK357, HK, HB, HI0⟩ := h_; (try clear hb); (try clear hk); (try clear hi); have hnb96 := NB357_356.out; have hnc96 := NB356_357.out; have hnb97 := NB357_0.out; have hnc97 := NB0_357.out; obtain ⟨hcz98_0, hcz98_1, hcz98_2, hfz98_0, hfz98_1, hfz98_2⟩ := C3 BK357.out; obtain ⟨Ao99, co99, eo99⟩ := Kd.R_slice HO_358000.out; subst eo99; have hnb100 := NB356_0.out; have hnc100 := NB0_356.out; obtain ⟨hcz101_0, hcz101_1, hcz101_2, hfz101_0, hfz101_1, hfz101_2⟩ := C3 BK356.out; obtain ⟨Ao102, co102, eo102⟩ := Kd.R_slice HO_358001.out; subst eo102))
     refine bodyPost_ret (results_cell_row rfl _ _ gb356 31 #[.slice Ao99 x358000_1.length co99, .slice Ao102 x358001_1.length co102, .int .i64 x358002_1] (0, 0) _ rfl (by refine SK ?_; refine blk_put (cs := #[.slice Ao99 x358000_1.length co99, .slice Ao102 x358001_1.length co102, .int .i64 0]) ?_ 2 _ rfl; refine SK ?_; refine blk_put (cs := #[.slice Ao99 x358000_1.length co99, .slice none 0 0, .int .i64 0]) ?_ 1 _ rfl; refine SK ?_; refine blk_put (cs := #[.slice none 0 0, .slice none 0 0, .int .i64 0]) ?_ 0 _ rfl; exact SK BK356.out) Try.underlying31 rfl (by kernel_rfl)) rfl ?_
     exact ⟨_, _, KE, RQ (RT HO_358000.out BK356.out), RQ (RT HO_358001.out BK356.out), KI87, KBh87 HB.out, by repeat (first | (with_reducible first | exact HK.out | apply KeepBut.set_ | apply keep_drewN | apply keep_drew | apply keep_alloc | refine keep_far ?_ GW356.out _ | refine keep_far ?_ GW357.out _) | exact HK.out)⟩

end Go.Proofs.Ytnoghojlpicecaa.PFnCrash
