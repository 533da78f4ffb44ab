-- What each Go function that this law reaches comes to: written by a program out of the translation.
import Derived.Test.YtnoghojlpicecaaMFnErasx0
import Derived.Test.YtnoghojlpicecaaMFnErasx6
import Derived.Test.YtnoghojlpicecaaMFnErasx7
import Derived.Test.YtnoghojlpicecaaMFnErasx9
import Derived.Test.YtnoghojlpicecaaMFnErasx10
namespace Go.Proofs.Ytnoghojlpicecaa.PFnEras
open Go.RowKit Go.Proofs.YtnoghojlpicecaaW.PrintWords Go.Proofs.YtnoghojlpicecaaW.PrintLast Go.Proofs.YtnoghojlpicecaaW.PrintMore
attribute [local go_sem] max2_int min2_int max_two min_two max_three min_three max_four min_four   -- for this text's walks alone
set_option linter.unusedVariables false
set_option linter.unusedSimpArgs false

/-! ### spec_l6DrawRight: function 82 -/
mutual
def spec_l6DrawRight.l0 : Nat → Int → Int → List Int → Int → Int → List (S35) → List (S35) → Int → Option ((List (S35)) × (List (S35)) × Int × Int × Int)
 | 0, _, _, _, _, _, _, _, _ => none
 | k + 1, x4, x5, x1000, x1001, x1002, x431000, x431001, x431002 => if x5 < x4 then ((spec_l3DrawRight.f x1000 x1001 x1002).bind fun bt434 => ((spec_StorePut.f k x431000 x431001 x431002 bt434.1 bt434.2.1 bt434.2.2.1 bt434.2.2.2.1).bind fun bt440 => ((spec_l1Below.f x1000 bt434.2.2.2.2.1 bt434.2.2.2.2.2 6).bind fun bt449 => (if bt449.1 = 0 then ((spec_StoreSync.f k x431000 x431001 x431002).bind fun bt452 => (spec_l6DrawRight.j1 k x4 x5 bt452.2.2.2 x1000 bt449.2.1 bt449.2.2 x431000 x431001 x431002 bt452.1 bt452.2.1 bt452.2.2.1)) else (if bt449.1 = 1 then ((spec_StoreSync.f k bt440.1 bt440.2.1 bt440.2.2.1).bind fun bt460 => (spec_l6DrawRight.j1 k x4 x5 bt460.2.2.2 x1000 bt449.2.1 bt449.2.2 x431000 x431001 x431002 bt460.1 bt460.2.1 bt460.2.2.1)) else (if bt449.1 = 2 then ((spec_l1Once.f x1000 bt449.2.1 bt449.2.2 3).bind fun bt468 => (if bt468.1 = true then ((spec_l1Below.f x1000 bt468.2.1 bt468.2.2 4).bind fun bt471 => ((spec_StoreSeal.f k x431000 x431001 x431002 bt471.1).bind fun bt474 => (spec_l6DrawRight.j1 k x4 x5 bt474.2.2.2 x1000 bt471.2.1 bt471.2.2 x431000 x431001 x431002 bt474.1 bt474.2.1 bt474.2.2.1))) else (spec_l6DrawRight.j1 k x4 x5 bt440.2.2.2 x1000 bt468.2.1 bt468.2.2 x431000 x431001 x431002 bt440.1 bt440.2.1 bt440.2.2.1))) else (spec_l6DrawRight.j1 k x4 x5 bt440.2.2.2 x1000 bt449.2.1 bt449.2.2 x431000 x431001 x431002 bt440.1 bt440.2.1 bt440.2.2.1))))))) else ((spec_l1Once.f x1000 x1001 x1002 40).bind fun bt482 => (if bt482.1 = true then (spec_l6DrawRight.l1 k 1 x1000 bt482.2.1 bt482.2.2 ([] : List (S35)) x431001 x431002) else (some (x431000, x431001, x431002, bt482.2.1, bt482.2.2))))
def spec_l6DrawRight.j1 : Nat → Int → Int → Bool → List Int → Int → Int → List (S35) → List (S35) → Int → List (S35) → List (S35) → Int → Option ((List (S35)) × (List (S35)) × Int × Int × Int)
 | 0, _, _, _, _, _, _, _, _, _, _, _, _ => none
 | k + 1, x4, x5, x7, x1000, x1001, x1002, x431000, x431001, x431002, x449000, x449001, x449002 => if x7 = true then (spec_l6DrawRight.l0 k x4 (wrap64 (x5 + 1)) x1000 x1001 x1002 x449000 x449001 x449002) else (spec_l6DrawRight.l0 k x4 (wrap64 (x5 + 1)) x1000 x1001 x1002 x431000 x431001 x431002)
def spec_l6DrawRight.l1 : Nat → Int → List Int → Int → Int → List (S35) → List (S35) → Int → Option ((List (S35)) × (List (S35)) × Int × Int × Int)
 | 0, _, _, _, _, _, _, _ => none
 | k + 1, x8, x1000, x1001, x1002, x431000, x431001, x431002 => if x8 ≤ 4 then (spec_l6DrawRight.l2 k x8 1 x1000 x1001 x1002 x431000 x431001 x431002) else (some (x431000, x431001, x431002, x1001, x1002))
def spec_l6DrawRight.l2 : Nat → Int → Int → List Int → Int → Int → List (S35) → List (S35) → Int → Option ((List (S35)) × (List (S35)) × Int × Int × Int)
 | 0, _, _, _, _, _, _, _, _ => none
 | k + 1, x8, x9, x1000, x1001, x1002, x431000, x431001, x431002 => if x9 ≤ 50 then ((spec_l1Place.f x8 x9).bind fun t485 => (if x431000.length < 3518437208883 then (spec_l6DrawRight.l2 k x8 (wrap64 (x9 + 1)) x1000 x1001 x1002 (x431000 ++ [(⟨t485, 0, false, (⟨#[]⟩ : ByteArray)⟩ : S35)]) x431001 x431002) else (none))) else (spec_l6DrawRight.l1 k (wrap64 (x8 + 1)) x1000 x1001 x1002 x431000 x431001 x431002)
end
def spec_l6DrawRight.f (k : Nat) (s0_0 : List Int) (s0_1 : Int) (s0_2 : Int) : Option ((List (S35)) × (List (S35)) × Int × Int × Int) := (spec_l1Below.f s0_0 s0_1 s0_2 8).bind fun bt431 => (spec_l6DrawRight.l0 k bt431.1 0 s0_0 bt431.2.1 bt431.2.2 ([] : List (S35)) ([] : List (S35)) 0)
theorem spec_l6DrawRight.mono_l : ∀ k, (∀ y0 y1 y2 y3 y4 y5 y6 y7, LeO (spec_l6DrawRight.l0 k y0 y1 y2 y3 y4 y5 y6 y7) (spec_l6DrawRight.l0 (k + 1) y0 y1 y2 y3 y4 y5 y6 y7)) ∧ (∀ y0 y1 y2 y3 y4 y5 y6 y7 y8 y9 y10 y11, LeO (spec_l6DrawRight.j1 k y0 y1 y2 y3 y4 y5 y6 y7 y8 y9 y10 y11) (spec_l6DrawRight.j1 (k + 1) y0 y1 y2 y3 y4 y5 y6 y7 y8 y9 y10 y11)) ∧ (∀ y0 y1 y2 y3 y4 y5 y6, LeO (spec_l6DrawRight.l1 k y0 y1 y2 y3 y4 y5 y6) (spec_l6DrawRight.l1 (k + 1) y0 y1 y2 y3 y4 y5 y6)) ∧ (∀ y0 y1 y2 y3 y4 y5 y6 y7, LeO (spec_l6DrawRight.l2 k y0 y1 y2 y3 y4 y5 y6 y7) (spec_l6DrawRight.l2 (k + 1) y0 y1 y2 y3 y4 y5 y6 y7))
 | 0 => ⟨fun _ _ _ _ _ _ _ _ r h => by simp [spec_l6DrawRight.l0] at h, fun _ _ _ _ _ _ _ _ _ _ _ _ r h => by simp [spec_l6DrawRight.j1] at h, fun _ _ _ _ _ _ _ r h => by simp [spec_l6DrawRight.l1] at h, fun _ _ _ _ _ _ _ _ r h => by simp [spec_l6DrawRight.l2] at h⟩
 | k + 1 => by
  obtain ⟨ih0, ih1, ih2, ih3⟩ := spec_l6DrawRight.mono_l k; refine ⟨?_, ?_, ?_, ?_⟩
  ·intro y0 y1 y2 y3 y4 y5 y6 y7
   unfold spec_l6DrawRight.l0
   repeat' first
   | (with_reducible exact ih0 _ _ _ _ _ _ _ _)
   | (with_reducible exact ih1 _ _ _ _ _ _ _ _ _ _ _ _)
   | (with_reducible exact ih2 _ _ _ _ _ _ _)
   | (with_reducible exact ih3 _ _ _ _ _ _ _ _)
   | (with_reducible exact spec_StorePut.mono _ _ _ _ _ _ _ _)
   | (with_reducible exact spec_StoreSeal.mono _ _ _ _ _)
   | (with_reducible exact spec_StoreSync.mono _ _ _ _)
   | (with_reducible exact LeO.refl _)
   | (with_reducible exact LeO.none _)
   | (with_reducible refine LeO.ite ?_ ?_)
   | (with_reducible refine LeO.bind ?_ (fun _ => ?_))
   | exact ih0 _ _ _ _ _ _ _ _
   | exact ih1 _ _ _ _ _ _ _ _ _ _ _ _
   | exact ih2 _ _ _ _ _ _ _
   | exact ih3 _ _ _ _ _ _ _ _
   | exact spec_StorePut.mono _ _ _ _ _ _ _ _
   | exact spec_StoreSeal.mono _ _ _ _ _
   | exact spec_StoreSync.mono _ _ _ _
   | exact LeO.none _
   | refine LeO.ite ?_ ?_
   | refine LeO.bind ?_ (fun _ => ?_)
  ·intro y0 y1 y2 y3 y4 y5 y6 y7 y8 y9 y10 y11
   unfold spec_l6DrawRight.j1
   repeat' first
   | (with_reducible exact ih0 _ _ _ _ _ _ _ _)
   | (with_reducible exact ih1 _ _ _ _ _ _ _ _ _ _ _ _)
   | (with_reducible exact ih2 _ _ _ _ _ _ _)
   | (with_reducible exact ih3 _ _ _ _ _ _ _ _)
   | (with_reducible exact spec_StorePut.mono _ _ _ _ _ _ _ _)
   | (with_reducible exact spec_StoreSeal.mono _ _ _ _ _)
   | (with_reducible exact spec_StoreSync.mono _ _ _ _)
   | (with_reducible exact LeO.refl _)
   | (with_reducible exact LeO.none _)
   | (with_reducible refine LeO.ite ?_ ?_)
   | (with_reducible refine LeO.bind ?_ (fun _ => ?_))
   | exact ih0 _ _ _ _ _ _ _ _
   | exact ih1 _ _ _ _ _ _ _ _ _ _ _ _
   | exact ih2 _ _ _ _ _ _ _
   | exact ih3 _ _ _ _ _ _ _ _
   | exact spec_StorePut.mono _ _ _ _ _ _ _ _
   | exact spec_StoreSeal.mono _ _ _ _ _
   | exact spec_StoreSync.mono _ _ _ _
   | exact LeO.none _
   | refine LeO.ite ?_ ?_
   | refine LeO.bind ?_ (fun _ => ?_)
  ·intro y0 y1 y2 y3 y4 y5 y6
   unfold spec_l6DrawRight.l1
   repeat' first
   | (with_reducible exact ih0 _ _ _ _ _ _ _ _)
   | (with_reducible exact ih1 _ _ _ _ _ _ _ _ _ _ _ _)
   | (with_reducible exact ih2 _ _ _ _ _ _ _)
   | (with_reducible exact ih3 _ _ _ _ _ _ _ _)
   | (with_reducible exact spec_StorePut.mono _ _ _ _ _ _ _ _)
   | (with_reducible exact spec_StoreSeal.mono _ _ _ _ _)
   | (with_reducible exact spec_StoreSync.mono _ _ _ _)
   | (with_reducible exact LeO.refl _)
   | (with_reducible exact LeO.none _)
   | (with_reducible refine LeO.ite ?_ ?_)
   | (with_reducible refine LeO.bind ?_ (fun _ => ?_))
   | exact ih0 _ _ _ _ _ _ _ _
   | exact ih1 _ _ _ _ _ _ _ _ _ _ _ _
   | exact ih2 _ _ _ _ _ _ _
   | exact ih3 _ _ _ _ _ _ _ _
   | exact spec_StorePut.mono _ _ _ _ _ _ _ _
   | exact spec_StoreSeal.mono _ _ _ _ _
   | exact spec_StoreSync.mono _ _ _ _
   | exact LeO.none _
   | refine LeO.ite ?_ ?_
   | refine LeO.bind ?_ (fun _ => ?_)
  ·intro y0 y1 y2 y3 y4 y5 y6 y7
   unfold spec_l6DrawRight.l2
   repeat' first
   | (with_reducible exact ih0 _ _ _ _ _ _ _ _)
   | (with_reducible exact ih1 _ _ _ _ _ _ _ _ _ _ _ _)
   | (with_reducible exact ih2 _ _ _ _ _ _ _)
   | (with_reducible exact ih3 _ _ _ _ _ _ _ _)
   | (with_reducible exact spec_StorePut.mono _ _ _ _ _ _ _ _)
   | (with_reducible exact spec_StoreSeal.mono _ _ _ _ _)
   | (with_reducible exact spec_StoreSync.mono _ _ _ _)
   | (with_reducible exact LeO.refl _)
   | (with_reducible exact LeO.none _)
   | (with_reducible refine LeO.ite ?_ ?_)
   | (with_reducible refine LeO.bind ?_ (fun _ => ?_))
   | exact ih0 _ _ _ _ _ _ _ _
   | exact ih1 _ _ _ _ _ _ _ _ _ _ _ _
   | exact ih2 _ _ _ _ _ _ _
   | exact ih3 _ _ _ _ _ _ _ _
   | exact spec_StorePut.mono _ _ _ _ _ _ _ _
   | exact spec_StoreSeal.mono _ _ _ _ _
   | exact spec_StoreSync.mono _ _ _ _
   | exact LeO.none _
   | refine LeO.ite ?_ ?_
   | refine LeO.bind ?_ (fun _ => ?_)
theorem spec_l6DrawRight.mono : ∀ a0 a1 a2 k, LeO (spec_l6DrawRight.f k a0 a1 a2) (spec_l6DrawRight.f (k + 1) a0 a1 a2) := by
 intro a0 a1 a2 k; obtain ⟨ih0, ih1, ih2, ih3⟩ := spec_l6DrawRight.mono_l k
 unfold spec_l6DrawRight.f
 repeat' first
   | (with_reducible exact ih0 _ _ _ _ _ _ _ _)
   | (with_reducible exact ih1 _ _ _ _ _ _ _ _ _ _ _ _)
   | (with_reducible exact ih2 _ _ _ _ _ _ _)
   | (with_reducible exact ih3 _ _ _ _ _ _ _ _)
   | (with_reducible exact spec_StorePut.mono _ _ _ _ _ _ _ _)
   | (with_reducible exact spec_StoreSeal.mono _ _ _ _ _)
   | (with_reducible exact spec_StoreSync.mono _ _ _ _)
   | (with_reducible exact LeO.refl _)
   | (with_reducible exact LeO.none _)
   | (with_reducible refine LeO.ite ?_ ?_)
   | (with_reducible refine LeO.bind ?_ (fun _ => ?_))
   | exact ih0 _ _ _ _ _ _ _ _
   | exact ih1 _ _ _ _ _ _ _ _ _ _ _ _
   | exact ih2 _ _ _ _ _ _ _
   | exact ih3 _ _ _ _ _ _ _ _
   | exact spec_StorePut.mono _ _ _ _ _ _ _ _
   | exact spec_StoreSeal.mono _ _ _ _ _
   | exact spec_StoreSync.mono _ _ _ _
   | exact LeO.none _
   | refine LeO.ite ?_ ?_
   | refine LeO.bind ?_ (fun _ => ?_)
def spec_l6DrawRight.T6 : Bool × List (List Nat × List Nat) := (true, [([], []), ([], []), ([1], [1]), ([0, 2, 2], [0, 2]), ([3], [3]), ([4], [4]), ([4], [4]), ([], []), ([7, 5, 3, 0, 1, 2, 3, 4, 5, 7], [5, 7]), ([6, 8, 0, 1, 2, 3, 4, 5, 6, 7, 8], [6])])
def spec_l6DrawRight.B6 : List Nat := [0, 0, 2, 7, 15, 31, 31, 0, 191, 511]
theorem spec_l6DrawRight.tab6 : rtab .any (opsOf Try.f82 6) = spec_l6DrawRight.T6 := by kernel_rfl
theorem spec_l6DrawRight.bits6 : waitsOk spec_l6DrawRight.T6.2 spec_l6DrawRight.B6 = true := by kernel_rfl
def spec_l6DrawRight.T14 : Bool × List (List Nat × List Nat) := (true, [([], []), ([], []), ([1], [1]), ([0, 2, 2], [0, 2]), ([3], [3]), ([4], [4]), ([4], [4]), ([5, 3, 0, 1, 2, 3, 4, 5], [5]), ([6, 7, 0, 1, 2, 3, 4, 5, 6, 7], [6])])
def spec_l6DrawRight.B14 : List Nat := [0, 0, 2, 7, 15, 31, 31, 63, 255]
theorem spec_l6DrawRight.tab14 : rtab .any (opsOf Try.f82 14) = spec_l6DrawRight.T14 := by kernel_rfl
theorem spec_l6DrawRight.bits14 : waitsOk spec_l6DrawRight.T14.2 spec_l6DrawRight.B14 = true := by kernel_rfl
def spec_l6DrawRight.T25 : Bool × List (List Nat × List Nat) := (true, [([], []), ([0], [0]), ([], []), ([], []), ([2, 3], [2, 3]), ([4], [4]), ([5], [5]), ([1, 6, 4], [1, 6]), ([0, 1, 2, 3, 4, 5, 6, 7], []), ([8, 7, 7, 0, 1, 2, 3, 4, 5, 6, 7], [7, 8])])
def spec_l6DrawRight.B25 : List Nat := [0, 1, 0, 0, 12, 28, 60, 127, 255, 511]
theorem spec_l6DrawRight.tab25 : rtab .any (opsOf Try.f82 25) = spec_l6DrawRight.T25 := by kernel_rfl
theorem spec_l6DrawRight.bits25 : waitsOk spec_l6DrawRight.T25.2 spec_l6DrawRight.B25 = true := by kernel_rfl
set_option maxHeartbeats 8000000 in
set_option maxRecDepth 100000 in
theorem spec_l6DrawRight.calls (k : Nat) (g : Nat) (s0_0 : List Int) (s0_1 : Int) (s0_2 : Int) (r1 : List (S35)) (r2 : List (S35)) (r3 : Int) (r4 : Int) (r5 : Int) (w0 w : World) (hI : IsS87 w0 w g s0_0 s0_1 s0_2) (hB : Below w0.heap.size w0 w) (h : spec_l6DrawRight.f k s0_0 s0_1 s0_2 = some (r1, r2, r3, r4, r5)) :
  Calls Try.prog 82 #[.pointer (some ⟨g, 0, none⟩)] w fun e w' => ∃ v0_ v1_ : Value, e = .returned (.agg #[v0_, v1_, .int .i64 r3]) ∧ Kd.R k35 35 w' w.heap.size (fun k_ => some k_ ≠ (v1_ : Value).ownBlock) v0_ r1 ∧ Kd.R k35 35 w' w.heap.size (fun k_ => some k_ ≠ (v0_ : Value).ownBlock) v1_ r2 ∧ IsS87 w0 w' g s0_0 r4 r5 ∧ Below w0.heap.size w0 w' ∧ KeepBut w w' g none := by
 have hu31 := Try.underlying31; have hu35 := Try.underlying35; have HI0 := Aside0.mk hI; have HK := Aside0.mk (KeepBut.refl w g none); have HL := Aside0.mk hB.size; clear hI; have HW0 := Aside0.mk hB.size; have HB := Aside0.mk hB; clear hB; have H : ((spec_l1Below.f s0_0 s0_1 s0_2 8).bind fun bt431 => (spec_l6DrawRight.l0 k bt431.1 0 s0_0 bt431.2.1 bt431.2.2 ([] : List (S35)) ([] : List (S35)) 0)) = some (r1, r2, r3, r4, r5) := h; clear h; replace H := Option.bind_eq_some_iff.mp H; obtain ⟨⟨t431, t432, t433⟩, A20, H⟩ := H
 try dsimp only at H
 have A2 := Aside0.mk A20; clear A20; have H' := Aside0.mk H; clear H
 go_enter Try.func82, Try.ntmps82
 go_wp2_with (first | ((with_reducible refine GD 2 ?_); refine BE 2 #[.slice none 0 0, .slice none 0 0, .int .i64 0] 31 ?_; intro gb429 hg w3 hbox hb; have h_ := P8 (IsS87.below (KI87) hb) (KeepBut.trans KH (KeepBut.of_below hb g none) (.inl rfl)) (below_step KB87 hb) hbox (KSg hg HK.out) (Nat.le_trans HW0.out (KSg hg HK.out)) (by rw [hg]; exact Nat.ne_of_lt (IsS87.lt (show IsS87 w0 _ g s0_0 s0_1 s0_2 from KI87)) : g ≠ gb429) (by rw [hg]; exact Nat.ne_of_gt (IsS87.lt (show IsS87 w0 _ g s0_0 s0_1 s0_2 from KI87)) : gb429 ≠ g); clear HI0 HK HB; obtain ⟨HI0, HK, HB, BK429, GW429, GE429, NB0_429, NB429_0⟩ := h_; clear hb hbox hg) | ((with_reducible refine GD 3 ?_); refine BE 3 #[.slice none 0 0, .slice none 0 0, .int .i64 0] 31 ?_; intro gb430 hg w4 hbox hb; have h_ := P11 (IsS87.below (KI87) hb) (BL BK429.out hb) (KeepBut.trans (KHh HK.out) (KeepBut.of_below hb g none) (.inl rfl)) (below_step (KBh87 HB.out) hb) hbox (KSg hg HK.out) (Nat.le_trans HW0.out (KSg hg HK.out)) (NX hg BK429.out) (NY hg BK429.out) (by rw [hg]; exact Nat.ne_of_lt (IsS87.lt (show IsS87 w0 _ g s0_0 s0_1 s0_2 from KI87)) : g ≠ gb430) (by rw [hg]; exact Nat.ne_of_gt (IsS87.lt (show IsS87 w0 _ g s0_0 s0_1 s0_2 from KI87)) : gb430 ≠ g); clear HI0 BK429 HK HB; obtain ⟨HI0, BK429, HK, HB, BK430, GW430, GE430, NB429_430, NB430_429, NB0_430, NB430_0⟩ := h_; clear hb hbox hg; have hnb5 := NB430_429.out; have hnc5 := NB429_430.out; have hnb6 := NB430_0.out; have hnc6 := NB0_430.out; obtain ⟨hcz7_0, hcz7_1, hcz7_2, hfz7_0, hfz7_1, hfz7_2⟩ := C3 BK430.out) | ((with_reducible refine GC 57 ?_); refine goesL_ (some 12) rfl rfl Try.func57 (by kernel_rfl) rfl #[.pointer (some ⟨g, 0, none⟩), .int .i64 8] rfl KL ?_; (with_reducible refine (spec_l1Below.calls g s0_0 s0_1 s0_2 8 t431 t432 t433 w0 _ ?side1 ?side2 A2.out).mono ?_); (case side1 => exact KI87); (case side2 => exact KBh87 HB.out); rintro e w8 ⟨rfl, hi, hb, hk⟩; refine ⟨_, rfl, ?_⟩; have h_ := P5 (KW BK429.out hk NB429_0.out) (KeepBut.blk hk (g' := gb430) (o := .cells #[.slice none 0 0, .slice none 0 0, .int .i64 0] 31 (0, 0)) (by refine SK ?_; refine BP #[.slice none 0 0, .slice none 0 0, .int .i64 0] ?_ 2; refine SK ?_; refine BP #[.slice none 0 0, .slice none 0 0, .int .i64 0] ?_ 1; refine SK ?_; refine BP #[.slice none 0 0, .slice none 0 0, .int .i64 0] ?_ 0; exact SK BK430.out) NB430_0.out (by simp)) (KeepBut.trans (KHh HK.out) hk (.inl rfl)) hb hi; clear BK429 BK430 HK HB HI0; obtain ⟨BK429, BK430, HK, HB, HI0⟩ := h_; (try clear hb); (try clear hk); (try clear hi)))
 go_loopg [5] k (fun kq v5 w' => ∃ (x5_1 : Int) (x1001_1 : Int) (x1002_1 : Int) (x431000_1 : List (S35)) (x431001_1 : List (S35)) (x431002_1 : Int) (u431000 : Value) (u431001 : Value), v5 = .int .i64 x5_1 ∧ Aside0 (spec_l6DrawRight.l0 kq t431 x5_1 s0_0 x1001_1 x1002_1 x431000_1 x431001_1 x431002_1 = some (r1, r2, r3, r4, r5)) ∧ Aside0 (kq ≤ k) ∧ Aside0 (Kd.R k35 35 w' w.heap.size (fun k_ => some k_ ≠ (u431001 : Value).ownBlock) u431000 x431000_1) ∧ Aside0 (Kd.R k35 35 w' w.heap.size (fun k_ => some k_ ≠ (u431000 : Value).ownBlock) u431001 x431001_1) ∧ Aside0 (w'.heap[gb429]? = some (.cells #[(.slice none 0 0), (.slice none 0 0), .int .i64 0] 31 (0, 0))) ∧ Aside0 (w'.heap[gb430]? = some (.cells #[u431000, u431001, .int .i64 x431002_1] 31 (0, 0))) ∧ Aside0 (IsS87 w0 w' g s0_0 x1001_1 x1002_1) ∧ Aside0 (KeepBut w w' g none) ∧ Aside0 (Below w0.heap.size w0 w'))
 case atStart => exact ⟨(0), (t432), (t433), (([] : List (S35))), (([] : List (S35))), (0), (.slice none 0 0), (.slice none 0 0), (by first | rfl | (simp; done) | (simp [*]; done)), H', ⟨Nat.le_refl _⟩, ⟨by first | exact Kd.R_nil _ _ _ _ _ | exact Kd.N_nil _ _ _ _ _ | exact Kd.V_nil _ _ _ _ _ | exact Kd.Q_nil _ _ _ _ _ | exact Kd.S_nil _ _ _ _ _⟩, ⟨by first | exact Kd.R_nil _ _ _ _ _ | exact Kd.N_nil _ _ _ _ _ | exact Kd.V_nil _ _ _ _ _ | exact Kd.Q_nil _ _ _ _ _ | exact Kd.S_nil _ _ _ _ _⟩, ⟨KK⟩, ⟨KK⟩, ⟨KI87⟩, ⟨by repeat (first | (with_reducible first | exact HK.out | apply KeepBut.set_ | apply keep_drewN | apply keep_drew | apply keep_alloc | refine keep_far ?_ GW429.out _ | refine keep_far ?_ GW430.out _) | exact HK.out)⟩, ⟨KBh87 HB.out⟩⟩
 case round =>
  clear H'
  try clear p2
  try clear c5
  try clear c6
  try clear c8
  try clear hcz7_0
  try clear hcz7_1
  try clear hcz7_2
  try clear hfz7_0
  try clear hfz7_1
  try clear hfz7_2
  obtain ⟨x5_1, x1001_1, x1002_1, x431000_1, x431001_1, x431002_1, u431000, u431001, rfl, HA, HK1, HO_431000, HO_431001, BK429, BK430, HI0, HK, HB⟩ := hrel
  cases gk with
  | zero => exact absurd HA.out (by simp [spec_l6DrawRight.l0])
  | succ k1 =>
   have H := HA.out; clear HA; simp only [spec_l6DrawRight.l0] at H
   by_cases c9 : x5_1 < t431
   ·rw [if_pos c9] at H
    have c9b0 : decide (x5_1 < t431) = true := decide_eq_true c9; clear c9; replace H := Option.bind_eq_some_iff.mp H; obtain ⟨⟨t434, t435, t436, t437, t438, t439⟩, A100, H⟩ := H
    try dsimp only at H
    have A10 := Aside0.mk A100; clear A100; replace H := Option.bind_eq_some_iff.mp H; obtain ⟨⟨t440, t443, t446, t447⟩, A110, H⟩ := H
    try dsimp only at H
    have A11 := Aside0.mk A110; clear A110; replace H := Option.bind_eq_some_iff.mp H; obtain ⟨⟨t449, t450, t451⟩, A120, H⟩ := H
    try dsimp only at H
    have A12 := Aside0.mk A120; clear A120; have HC13 := Aside0.mk H; clear H; obtain ⟨Ao14, co14, eo14⟩ := Kd.R_slice HO_431000.out; subst eo14; obtain ⟨Ao15, co15, eo15⟩ := Kd.R_slice HO_431001.out; subst eo15
    try go_wp2
    have h_ := P7 (Kd.R_drew HO_431000.out) (Kd.R_drew HO_431001.out) (blk_drew BK429.out) (blk_drew BK430.out) (IsS87.drew HI0.out) (keep_drew HK.out) (below_drew1 HB.out); clear HO_431000 HO_431001 BK429 BK430 HI0 HK HB; obtain ⟨HO_431000, HO_431001, BK429, BK430, HI0, HK, HB⟩ := h_; refine start_ (n := 10) (S := fun w' => w'.cell? ⟨gb430, 0, none⟩ = some (.slice Ao14 x431000_1.length co14) ∧ w'.cell? ⟨gb430, 1, none⟩ = some (.slice Ao15 x431001_1.length co15) ∧ w'.cell? ⟨gb430, 2, none⟩ = some (.int .i64 x431002_1)) (ds := []) #[F, F, F, F, F, F, F, F, F, F] (by kernel_rfl) rfl rfl ⟨(blk_cell BK430.out 0).trans rfl, (blk_cell BK430.out 1).trans rfl, (blk_cell BK430.out 2).trans rfl⟩ (fun hHeld => ?_); refine with_tabW spec_l6DrawRight.tab6 spec_l6DrawRight.bits6 (fun HT_ HW_ => ?_); generalize wr.drew = w16 at HO_431000 HO_431001 BK429 BK430 HI0 HK HB hHeld ⊢; refine pure_ (i := 1) (N := some 20) (v := ?_) (a' := ?_) #[F, T, F, F, F, F, F, F, F, F] rfl rfl (any_of HT_.out (by kernel_rfl)) (fun _ _ _ h => h) (Or.inl ⟨by rfl, ?_⟩) ?_ ?_; rotate_left
    ·exact KV
    rotate_left
    ·exact KA
    refine take_ (i := 0) (N := some 19) (v := ?_) (a' := ?_) #[T, T, F, F, F, F, F, F, F, F] rfl rfl (take_ofW HT_.out HW_.out (by kernel_rfl)) (fun _ _ _ h => h) (Or.inl ⟨by rfl, ?_⟩) hHeld ?_ ?_; rotate_left
    ·rintro w' ⟨s0, s1, s2⟩
     go_simp; with_reducible rfl
    rotate_left
    ·exact KA
    refine join_ (σ := Value × Value × Nat) 2 #[T, T, T, T, T, T, T, T, F, F] (fun s_ => [(21, .agg #[.int .i64 t434, .int .i64 t435, .bool t436, .string t437]), (22, .tuple #[.agg #[s_.1, s_.2.1, .int .i64 t446], .bool t447]), (6, .pointer (some ⟨s_.2.2, 0, none⟩)), (18, .tuple #[.agg #[s_.1, s_.2.1, .int .i64 t446], .bool t447]), (23, .agg #[s_.1, s_.2.1, .int .i64 t446]), (24, .bool t447)]) (fun s_ w' => (w'.cell? ⟨gb430, 0, none⟩ = some (.slice Ao14 x431000_1.length co14) ∧ w'.cell? ⟨gb430, 1, none⟩ = some (.slice Ao15 x431001_1.length co15) ∧ w'.cell? ⟨gb430, 2, none⟩ = some (.int .i64 x431002_1)) ∧ (Kd.R k35 35 w' w.heap.size (fun k_ => some k_ ≠ (s_.2.1 : Value).ownBlock ∧ some k_ ≠ (.slice Ao14 x431000_1.length co14 : Value).ownBlock ∧ some k_ ≠ (.slice Ao15 x431001_1.length co15 : Value).ownBlock) s_.1 t440) ∧ (Kd.R k35 35 w' w.heap.size (fun k_ => some k_ ≠ (s_.1 : Value).ownBlock ∧ some k_ ≠ (.slice Ao14 x431000_1.length co14 : Value).ownBlock ∧ some k_ ≠ (.slice Ao15 x431001_1.length co15 : Value).ownBlock) s_.2.1 t443) ∧ (Kd.R k35 35 w' w.heap.size (fun k_ => some k_ ≠ (s_.1 : Value).ownBlock ∧ some k_ ≠ (s_.2.1 : Value).ownBlock ∧ some k_ ≠ (.slice Ao15 x431001_1.length co15 : Value).ownBlock) (.slice Ao14 x431000_1.length co14) x431000_1) ∧ (Kd.R k35 35 w' w.heap.size (fun k_ => some k_ ≠ (s_.1 : Value).ownBlock ∧ some k_ ≠ (s_.2.1 : Value).ownBlock ∧ some k_ ≠ (.slice Ao14 x431000_1.length co14 : Value).ownBlock) (.slice Ao15 x431001_1.length co15) x431001_1) ∧ (w'.heap[gb429]? = some (.cells #[.slice none 0 0, .slice none 0 0, .int .i64 0] 31 (0, 0))) ∧ (w'.heap[gb430]? = some (.cells #[.slice Ao14 x431000_1.length co14, .slice Ao15 x431001_1.length co15, .int .i64 x431002_1] 31 (0, 0))) ∧ (w'.heap[s_.2.2]? = some (.cells #[.slice none 0 0, .slice none 0 0, .int .i64 0] 31 (0, 0))) ∧ (w.heap.size ≤ s_.2.2) ∧ (w0.heap.size ≤ s_.2.2) ∧ (g ≠ s_.2.2) ∧ (s_.2.2 ≠ g) ∧ (gb429 ≠ s_.2.2) ∧ (s_.2.2 ≠ gb429) ∧ (gb430 ≠ s_.2.2) ∧ (s_.2.2 ≠ gb430) ∧ (IsS87 w0 w' g s0_0 t438 t439) ∧ (KeepBut w w' g none) ∧ (Below w0.heap.size w0 w')) ?_ ?_; rotate_left
    ·intro hCont
     refine two_ (i := 2) (j := 7) (Ni := some 21) (Nj := some 6) #[T, T, T, F, F, F, F, F, F, F] #[T, T, F, F, F, F, F, T, F, F] rfl rfl rfl rfl (two_of HT_.out (by kernel_rfl)) (by decide) (by decide) (fun K hK => ?_) (fun K hK => ?_)
     ·skip
      refine goes_ Try.func91 (by kernel_rfl) rfl #[.pointer (some ⟨g, 0, none⟩)] (by rfl) rfl rfl KL ?_; (with_reducible refine (spec_l3DrawRight.calls g s0_0 x1001_1 x1002_1 t434 t435 t436 t437 t438 t439 w0 _ ?side1 ?side2 A10.out).mono ?_); (case side1 => exact KI87); (case side2 => exact KBh87 HB.out); rintro e w17 ⟨rfl, hi, hb, hk⟩; refine ⟨_, rfl, ?_⟩; have h_ := P7 (Kd.R_mono (Kd.R_keep (IsS87.apart (show IsS87 w0 _ g s0_0 x1001_1 x1002_1 from KI87) (KR HO_431000.out) (by decide)) hk (fun _ h => h.2)) (fun _ h => h.1)) (Kd.R_mono (Kd.R_keep (IsS87.apart (show IsS87 w0 _ g s0_0 x1001_1 x1002_1 from KI87) (KR HO_431001.out) (by decide)) hk (fun _ h => h.2)) (fun _ h => h.1)) (KW BK429.out hk NB429_0.out) (KW BK430.out hk NB430_0.out) (KeepBut.trans (KHh HK.out) hk (.inl rfl)) hb hi; clear HO_431000 HO_431001 BK429 BK430 HK HB HI0; obtain ⟨HO_431000, HO_431001, BK429, BK430, HK, HB, HI0⟩ := h_; (try clear hb); (try clear hk); (try clear hi); refine hK.out _ _ (D3 BK430.out) (fun hHeld => ?_); clear hK K; refine norm_ (a' := ?_) ?_ ?_; rotate_left
      ·show Act.put _ (some 21) _ = _; exact KA
      refine two_ (i := 3) (j := 7) (Ni := some 22) (Nj := some 6) #[T, T, T, T, F, F, F, F, F, F] #[T, T, T, F, F, F, F, T, F, F] rfl rfl rfl rfl (two_of HT_.out (by kernel_rfl)) (by decide) (by decide) (fun K hK => ?_) (fun K hK => ?_)
      ·skip
       refine goes_ Try.func11 (by kernel_rfl) rfl #[.agg #[.slice Ao14 x431000_1.length co14, .slice Ao15 x431001_1.length co15, .int .i64 x431002_1], .agg #[.int .i64 t434, .int .i64 t435, .bool t436, .string t437]] (by rfl) rfl rfl KL ?_; (with_reducible refine (spec_StorePut.calls k1 _ _ x431000_1 _ _ x431001_1 x431002_1 t434 t435 t436 t437 t440 t443 t446 t447 _ ?side1 ?side2 ?side3 ?side4 A11.out).mono ?_); (case side1 => repeat (first | exact (Kd.R_reads' HO_431000.out).2.2 | (with_reducible refine Kd.C_alloc ?_ _) | (with_reducible refine Kd.C_drewN ?_ _) | (with_reducible refine Kd.C_drew ?_))); (case side2 => exact (Kd.R_reads' HO_431000.out).2.1); (case side3 => repeat (first | exact (Kd.R_reads' HO_431001.out).2.2 | (with_reducible refine Kd.C_alloc ?_ _) | (with_reducible refine Kd.C_drewN ?_ _) | (with_reducible refine Kd.C_drew ?_))); (case side4 => exact (Kd.R_reads' HO_431001.out).2.1); rintro e w18 ⟨v441, v444, rfl, ho0, ho1, hb⟩; refine ⟨_, rfl, ?_⟩; have h_ := P9 (Kd.R_mono (Kd.R_told (Kd.R_told (Kd.R_old (KR HO_431000.out) hb) (Kd.R_base ho0)) (Kd.R_base ho1)) (fun _ h_ => h_.1)) (Kd.R_mono (Kd.R_told (Kd.R_told (Kd.R_old (KR HO_431001.out) hb) (Kd.R_base ho0)) (Kd.R_base ho1)) (fun _ h_ => h_.1)) (Kd.R_lower (Kd.R_new' (Kd.R_new' ho0 (Kd.R_lt (KR HO_431000.out))) (Kd.R_lt (KR HO_431001.out))) (KS HK.out)) (Kd.R_lower (Kd.R_new' (Kd.R_new' ho1 (Kd.R_lt (KR HO_431000.out))) (Kd.R_lt (KR HO_431001.out))) (KS HK.out)) (BL BK429.out hb) (BL BK430.out hb) (IsS87.below (KI87) hb) (KeepBut.trans (KHh HK.out) (KeepBut.of_below hb g none) (.inl rfl)) (below_step (KBh87 HB.out) hb); clear HO_431000 HO_431001 BK429 BK430 HI0 HK HB; obtain ⟨HO_431000, HO_431001, HO442, HO445, BK429, BK430, HI0, HK, HB⟩ := h_; (try clear hb); (try clear hk); (try clear hi); (try clear ho0); (try clear ho1); refine hK.out _ _ (D3 BK430.out) (fun hHeld => ?_); clear hK K; refine norm_ (a' := ?_) ?_ ?_; rotate_left
       ·show Act.put _ (some 22) _ = _; exact KA
       refine pure_ (i := 4) (N := some 18) (v := ?_) (a' := ?_) #[T, T, T, T, T, F, F, F, F, F] rfl rfl (any_of HT_.out (by kernel_rfl)) (fun _ _ _ h => h) (Or.inl ⟨by rfl, ?_⟩) ?_ ?_; rotate_left
       ·exact KV
       rotate_left
       ·exact KA
       refine pure_ (i := 5) (N := some 23) (v := ?_) (a' := ?_) #[T, T, T, T, T, T, F, F, F, F] rfl rfl (any_of HT_.out (by kernel_rfl)) (fun _ _ _ h => h) (Or.inl ⟨by rfl, ?_⟩) ?_ ?_; rotate_left
       ·exact KV
       rotate_left
       ·exact KA
       refine pure_ (i := 6) (N := some 24) (v := ?_) (a' := ?_) #[T, T, T, T, T, T, T, F, F, F] rfl rfl (any_of HT_.out (by kernel_rfl)) (fun _ _ _ h => h) (Or.inl ⟨by rfl, ?_⟩) ?_ ?_; rotate_left
       ·exact KV
       rotate_left
       ·exact KA
       refine one_ (i := 7) (N := some 6) #[T, T, T, T, T, T, T, T, F, F] rfl rfl (one_of HT_.out (by kernel_rfl)) (by decide) (fun K hK => ?_); refine box_step ?hg (N := 6) ?hd (cs := #[.slice none 0 0, .slice none 0 0, .int .i64 0]) (t := 31) ?hr ?_; (case hd => rfl); (case hg => rfl); (case hr => first | (go_simp; done) | (go_simp; rfl)); intro gb448 hg w19 hbox hb; have h_ := P18 (Kd.R_below (KR HO_431000.out) hb) (Kd.R_below (KR HO_431001.out) hb) (Kd.R_below (KR HO442.out) hb) (Kd.R_below (KR HO445.out) hb) (BL BK429.out hb) (BL BK430.out hb) (IsS87.below (KI87) hb) (KeepBut.trans (KHh HK.out) (KeepBut.of_below hb g none) (.inl rfl)) (below_step (KBh87 HB.out) hb) hbox (KSg hg HK.out) (Nat.le_trans HW0.out (KSg hg HK.out)) (NX hg BK429.out) (NY hg BK429.out) (NX hg BK430.out) (NY hg BK430.out) (by rw [hg]; exact Nat.ne_of_lt (IsS87.lt (show IsS87 w0 _ g s0_0 t438 t439 from KI87)) : g ≠ gb448) (by rw [hg]; exact Nat.ne_of_gt (IsS87.lt (show IsS87 w0 _ g s0_0 t438 t439 from KI87)) : gb448 ≠ g); clear HO_431000 HO_431001 HO442 HO445 BK429 BK430 HI0 HK HB; obtain ⟨HO_431000, HO_431001, HO442, HO445, BK429, BK430, HI0, HK, HB, BK448, GW448, GE448, NB429_448, NB448_429, NB430_448, NB448_430, NB0_448, NB448_0⟩ := h_; clear hb hbox hg; refine hK.out _ _ (D3 BK430.out) (fun hHeld => ?_); clear hK K; refine norm_ (a' := ?_) ?_ ?_; rotate_left
       ·show Act.put _ (some 6) _ = _; exact KA
       exact norm_ (by simp only [putAll, Act.put, List.setIfInBounds_toArray, List.set_cons_zero, List.set_cons_succ]) (hCont (v441, v444, gb448) _ ⟨hHeld, (by (with_reducible repeat (first | apply Kd.R_alloc | apply Kd.R_drewN | apply Kd.R_drew)); exact Kd.R_mono HO442.out (fun _ hk => ⟨hk.1.1, ⟨hk.1.2, hk.2⟩⟩)), (by (with_reducible repeat (first | apply Kd.R_alloc | apply Kd.R_drewN | apply Kd.R_drew)); exact Kd.R_mono HO445.out (fun _ hk => ⟨hk.1.1, ⟨hk.1.2, hk.2⟩⟩)), (by (with_reducible repeat (first | apply Kd.R_alloc | apply Kd.R_drewN | apply Kd.R_drew)); exact Kd.R_mono HO_431000.out (fun _ hk => ⟨hk.1.2, ⟨hk.2, hk.1.1⟩⟩)), (by (with_reducible repeat (first | apply Kd.R_alloc | apply Kd.R_drewN | apply Kd.R_drew)); exact Kd.R_mono HO_431001.out (fun _ hk => ⟨hk.1.2, ⟨hk.2, hk.1.1⟩⟩)), KK, KK, KK, GW448.out, GE448.out, NB0_448.out, NB448_0.out, NB429_448.out, NB448_429.out, NB430_448.out, NB448_430.out, (KI87), (KHh HK.out), (KBh87 HB.out)⟩)
      ·skip
       refine box_step ?hg (N := 6) ?hd (cs := #[.slice none 0 0, .slice none 0 0, .int .i64 0]) (t := 31) ?hr ?_; (case hd => rfl); (case hg => rfl); (case hr => first | (go_simp; done) | (go_simp; rfl)); intro gb448 hg w18 hbox hb; have h_ := P16 (Kd.R_below (KR HO_431000.out) hb) (Kd.R_below (KR HO_431001.out) hb) (BL BK429.out hb) (BL BK430.out hb) (IsS87.below (KI87) hb) (KeepBut.trans (KHh HK.out) (KeepBut.of_below hb g none) (.inl rfl)) (below_step (KBh87 HB.out) hb) hbox (KSg hg HK.out) (Nat.le_trans HW0.out (KSg hg HK.out)) (NX hg BK429.out) (NY hg BK429.out) (NX hg BK430.out) (NY hg BK430.out) (by rw [hg]; exact Nat.ne_of_lt (IsS87.lt (show IsS87 w0 _ g s0_0 t438 t439 from KI87)) : g ≠ gb448) (by rw [hg]; exact Nat.ne_of_gt (IsS87.lt (show IsS87 w0 _ g s0_0 t438 t439 from KI87)) : gb448 ≠ g); clear HO_431000 HO_431001 BK429 BK430 HI0 HK HB; obtain ⟨HO_431000, HO_431001, BK429, BK430, HI0, HK, HB, BK448, GW448, GE448, NB429_448, NB448_429, NB430_448, NB448_430, NB0_448, NB448_0⟩ := h_; clear hb hbox hg; refine hK.out _ _ (D3 BK430.out) (fun hHeld => ?_); clear hK K; refine norm_ (a' := ?_) ?_ ?_; rotate_left
       ·show Act.put _ (some 6) _ = _; exact KA
       refine one_ (i := 3) (N := some 22) #[T, T, T, T, F, F, F, T, F, F] rfl rfl (one_of HT_.out (by kernel_rfl)) (by decide) (fun K hK => ?_); refine goes_ Try.func11 (by kernel_rfl) rfl #[.agg #[.slice Ao14 x431000_1.length co14, .slice Ao15 x431001_1.length co15, .int .i64 x431002_1], .agg #[.int .i64 t434, .int .i64 t435, .bool t436, .string t437]] (by rfl) rfl rfl KL ?_; (with_reducible refine (spec_StorePut.calls k1 _ _ x431000_1 _ _ x431001_1 x431002_1 t434 t435 t436 t437 t440 t443 t446 t447 _ ?side1 ?side2 ?side3 ?side4 A11.out).mono ?_); (case side1 => repeat (first | exact (Kd.R_reads' HO_431000.out).2.2 | (with_reducible refine Kd.C_alloc ?_ _) | (with_reducible refine Kd.C_drewN ?_ _) | (with_reducible refine Kd.C_drew ?_))); (case side2 => exact (Kd.R_reads' HO_431000.out).2.1); (case side3 => repeat (first | exact (Kd.R_reads' HO_431001.out).2.2 | (with_reducible refine Kd.C_alloc ?_ _) | (with_reducible refine Kd.C_drewN ?_ _) | (with_reducible refine Kd.C_drew ?_))); (case side4 => exact (Kd.R_reads' HO_431001.out).2.1); rintro e w19 ⟨v441, v444, rfl, ho0, ho1, hb⟩; refine ⟨_, rfl, ?_⟩; have h_ := P10 (Kd.R_mono (Kd.R_told (Kd.R_told (Kd.R_old (KR HO_431000.out) hb) (Kd.R_base ho0)) (Kd.R_base ho1)) (fun _ h_ => h_.1)) (Kd.R_mono (Kd.R_told (Kd.R_told (Kd.R_old (KR HO_431001.out) hb) (Kd.R_base ho0)) (Kd.R_base ho1)) (fun _ h_ => h_.1)) (Kd.R_lower (Kd.R_new' (Kd.R_new' ho0 (Kd.R_lt (KR HO_431000.out))) (Kd.R_lt (KR HO_431001.out))) (KS HK.out)) (Kd.R_lower (Kd.R_new' (Kd.R_new' ho1 (Kd.R_lt (KR HO_431000.out))) (Kd.R_lt (KR HO_431001.out))) (KS HK.out)) (BL BK429.out hb) (BL BK430.out hb) (IsS87.below (KI87) hb) (BL BK448.out hb) (KeepBut.trans (KHh HK.out) (KeepBut.of_below hb g none) (.inl rfl)) (below_step (KBh87 HB.out) hb); clear HO_431000 HO_431001 BK429 BK430 HI0 BK448 HK HB; obtain ⟨HO_431000, HO_431001, HO442, HO445, BK429, BK430, HI0, BK448, HK, HB⟩ := h_; (try clear hb); (try clear hk); (try clear hi); (try clear ho0); (try clear ho1); refine hK.out _ _ (D3 BK430.out) (fun hHeld => ?_); clear hK K; refine norm_ (a' := ?_) ?_ ?_; rotate_left
       ·show Act.put _ (some 22) _ = _; exact KA
       refine pure_ (i := 4) (N := some 18) (v := ?_) (a' := ?_) #[T, T, T, T, T, F, F, T, F, F] rfl rfl (any_of HT_.out (by kernel_rfl)) (fun _ _ _ h => h) (Or.inl ⟨by rfl, ?_⟩) ?_ ?_; rotate_left
       ·exact KV
       rotate_left
       ·exact KA
       refine pure_ (i := 5) (N := some 23) (v := ?_) (a' := ?_) #[T, T, T, T, T, T, F, T, F, F] rfl rfl (any_of HT_.out (by kernel_rfl)) (fun _ _ _ h => h) (Or.inl ⟨by rfl, ?_⟩) ?_ ?_; rotate_left
       ·exact KV
       rotate_left
       ·exact KA
       refine pure_ (i := 6) (N := some 24) (v := ?_) (a' := ?_) #[T, T, T, T, T, T, T, T, F, F] rfl rfl (any_of HT_.out (by kernel_rfl)) (fun _ _ _ h => h) (Or.inl ⟨by rfl, ?_⟩) ?_ ?_; rotate_left
       ·exact KV
       rotate_left
       ·exact KA
       exact norm_ (by simp only [putAll, Act.put, List.setIfInBounds_toArray, List.set_cons_zero, List.set_cons_succ]) (hCont (v441, v444, gb448) _ ⟨hHeld, (by (with_reducible repeat (first | apply Kd.R_alloc | apply Kd.R_drewN | apply Kd.R_drew)); exact Kd.R_mono HO442.out (fun _ hk => ⟨hk.1.1, ⟨hk.1.2, hk.2⟩⟩)), (by (with_reducible repeat (first | apply Kd.R_alloc | apply Kd.R_drewN | apply Kd.R_drew)); exact Kd.R_mono HO445.out (fun _ hk => ⟨hk.1.1, ⟨hk.1.2, hk.2⟩⟩)), (by (with_reducible repeat (first | apply Kd.R_alloc | apply Kd.R_drewN | apply Kd.R_drew)); exact Kd.R_mono HO_431000.out (fun _ hk => ⟨hk.1.2, ⟨hk.2, hk.1.1⟩⟩)), (by (with_reducible repeat (first | apply Kd.R_alloc | apply Kd.R_drewN | apply Kd.R_drew)); exact Kd.R_mono HO_431001.out (fun _ hk => ⟨hk.1.2, ⟨hk.2, hk.1.1⟩⟩)), KK, KK, KK, GW448.out, GE448.out, NB0_448.out, NB448_0.out, NB429_448.out, NB448_429.out, NB430_448.out, NB448_430.out, (KI87), (KHh HK.out), (KBh87 HB.out)⟩)
     ·skip
      refine box_step ?hg (N := 6) ?hd (cs := #[.slice none 0 0, .slice none 0 0, .int .i64 0]) (t := 31) ?hr ?_; (case hd => rfl); (case hg => rfl); (case hr => first | (go_simp; done) | (go_simp; rfl)); intro gb448 hg w17 hbox hb; have h_ := P16 (Kd.R_below (KR HO_431000.out) hb) (Kd.R_below (KR HO_431001.out) hb) (BL BK429.out hb) (BL BK430.out hb) (IsS87.below (KI87) hb) (KeepBut.trans (KHh HK.out) (KeepBut.of_below hb g none) (.inl rfl)) (below_step (KBh87 HB.out) hb) hbox (KSg hg HK.out) (Nat.le_trans HW0.out (KSg hg HK.out)) (NX hg BK429.out) (NY hg BK429.out) (NX hg BK430.out) (NY hg BK430.out) (by rw [hg]; exact Nat.ne_of_lt (IsS87.lt (show IsS87 w0 _ g s0_0 x1001_1 x1002_1 from KI87)) : g ≠ gb448) (by rw [hg]; exact Nat.ne_of_gt (IsS87.lt (show IsS87 w0 _ g s0_0 x1001_1 x1002_1 from KI87)) : gb448 ≠ g); clear HO_431000 HO_431001 BK429 BK430 HI0 HK HB; obtain ⟨HO_431000, HO_431001, BK429, BK430, HI0, HK, HB, BK448, GW448, GE448, NB429_448, NB448_429, NB430_448, NB448_430, NB0_448, NB448_0⟩ := h_; clear hb hbox hg; refine hK.out _ _ (D3 BK430.out) (fun hHeld => ?_); clear hK K; refine norm_ (a' := ?_) ?_ ?_; rotate_left
      ·show Act.put _ (some 6) _ = _; exact KA
      refine one_ (i := 2) (N := some 21) #[T, T, T, F, F, F, F, T, F, F] rfl rfl (one_of HT_.out (by kernel_rfl)) (by decide) (fun K hK => ?_); refine goes_ Try.func91 (by kernel_rfl) rfl #[.pointer (some ⟨g, 0, none⟩)] (by rfl) rfl rfl KL ?_; (with_reducible refine (spec_l3DrawRight.calls g s0_0 x1001_1 x1002_1 t434 t435 t436 t437 t438 t439 w0 _ ?side1 ?side2 A10.out).mono ?_); (case side1 => exact KI87); (case side2 => exact KBh87 HB.out); rintro e w18 ⟨rfl, hi, hb, hk⟩; refine ⟨_, rfl, ?_⟩; have h_ := P8 (Kd.R_mono (Kd.R_keep (IsS87.apart (show IsS87 w0 _ g s0_0 x1001_1 x1002_1 from KI87) (KR HO_431000.out) (by decide)) hk (fun _ h => h.2)) (fun _ h => h.1)) (Kd.R_mono (Kd.R_keep (IsS87.apart (show IsS87 w0 _ g s0_0 x1001_1 x1002_1 from KI87) (KR HO_431001.out) (by decide)) hk (fun _ h => h.2)) (fun _ h => h.1)) (KW BK429.out hk NB429_0.out) (KW BK430.out hk NB430_0.out) (KW BK448.out hk NB448_0.out) (KeepBut.trans (KHh HK.out) hk (.inl rfl)) hb hi; clear HO_431000 HO_431001 BK429 BK430 BK448 HK HB HI0; obtain ⟨HO_431000, HO_431001, BK429, BK430, BK448, HK, HB, HI0⟩ := h_; (try clear hb); (try clear hk); (try clear hi); refine hK.out _ _ (D3 BK430.out) (fun hHeld => ?_); clear hK K; refine norm_ (a' := ?_) ?_ ?_; rotate_left
      ·show Act.put _ (some 21) _ = _; exact KA
      refine one_ (i := 3) (N := some 22) #[T, T, T, T, F, F, F, T, F, F] rfl rfl (one_of HT_.out (by kernel_rfl)) (by decide) (fun K hK => ?_); refine goes_ Try.func11 (by kernel_rfl) rfl #[.agg #[.slice Ao14 x431000_1.length co14, .slice Ao15 x431001_1.length co15, .int .i64 x431002_1], .agg #[.int .i64 t434, .int .i64 t435, .bool t436, .string t437]] (by rfl) rfl rfl KL ?_; (with_reducible refine (spec_StorePut.calls k1 _ _ x431000_1 _ _ x431001_1 x431002_1 t434 t435 t436 t437 t440 t443 t446 t447 _ ?side1 ?side2 ?side3 ?side4 A11.out).mono ?_); (case side1 => repeat (first | exact (Kd.R_reads' HO_431000.out).2.2 | (with_reducible refine Kd.C_alloc ?_ _) | (with_reducible refine Kd.C_drewN ?_ _) | (with_reducible refine Kd.C_drew ?_))); (case side2 => exact (Kd.R_reads' HO_431000.out).2.1); (case side3 => repeat (first | exact (Kd.R_reads' HO_431001.out).2.2 | (with_reducible refine Kd.C_alloc ?_ _) | (with_reducible refine Kd.C_drewN ?_ _) | (with_reducible refine Kd.C_drew ?_))); (case side4 => exact (Kd.R_reads' HO_431001.out).2.1); rintro e w19 ⟨v441, v444, rfl, ho0, ho1, hb⟩; refine ⟨_, rfl, ?_⟩; have h_ := P10 (Kd.R_mono (Kd.R_told (Kd.R_told (Kd.R_old (KR HO_431000.out) hb) (Kd.R_base ho0)) (Kd.R_base ho1)) (fun _ h_ => h_.1)) (Kd.R_mono (Kd.R_told (Kd.R_told (Kd.R_old (KR HO_431001.out) hb) (Kd.R_base ho0)) (Kd.R_base ho1)) (fun _ h_ => h_.1)) (Kd.R_lower (Kd.R_new' (Kd.R_new' ho0 (Kd.R_lt (KR HO_431000.out))) (Kd.R_lt (KR HO_431001.out))) (KS HK.out)) (Kd.R_lower (Kd.R_new' (Kd.R_new' ho1 (Kd.R_lt (KR HO_431000.out))) (Kd.R_lt (KR HO_431001.out))) (KS HK.out)) (BL BK429.out hb) (BL BK430.out hb) (IsS87.below (KI87) hb) (BL BK448.out hb) (KeepBut.trans (KHh HK.out) (KeepBut.of_below hb g none) (.inl rfl)) (below_step (KBh87 HB.out) hb); clear HO_431000 HO_431001 BK429 BK430 HI0 BK448 HK HB; obtain ⟨HO_431000, HO_431001, HO442, HO445, BK429, BK430, HI0, BK448, HK, HB⟩ := h_; (try clear hb); (try clear hk); (try clear hi); (try clear ho0); (try clear ho1); refine hK.out _ _ (D3 BK430.out) (fun hHeld => ?_); clear hK K; refine norm_ (a' := ?_) ?_ ?_; rotate_left
      ·show Act.put _ (some 22) _ = _; exact KA
      refine pure_ (i := 4) (N := some 18) (v := ?_) (a' := ?_) #[T, T, T, T, T, F, F, T, F, F] rfl rfl (any_of HT_.out (by kernel_rfl)) (fun _ _ _ h => h) (Or.inl ⟨by rfl, ?_⟩) ?_ ?_; rotate_left
      ·exact KV
      rotate_left
      ·exact KA
      refine pure_ (i := 5) (N := some 23) (v := ?_) (a' := ?_) #[T, T, T, T, T, T, F, T, F, F] rfl rfl (any_of HT_.out (by kernel_rfl)) (fun _ _ _ h => h) (Or.inl ⟨by rfl, ?_⟩) ?_ ?_; rotate_left
      ·exact KV
      rotate_left
      ·exact KA
      refine pure_ (i := 6) (N := some 24) (v := ?_) (a' := ?_) #[T, T, T, T, T, T, T, T, F, F] rfl rfl (any_of HT_.out (by kernel_rfl)) (fun _ _ _ h => h) (Or.inl ⟨by rfl, ?_⟩) ?_ ?_; rotate_left
      ·exact KV
      rotate_left
      ·exact KA
      exact norm_ (by simp only [putAll, Act.put, List.setIfInBounds_toArray, List.set_cons_zero, List.set_cons_succ]) (hCont (v441, v444, gb448) _ ⟨hHeld, (by (with_reducible repeat (first | apply Kd.R_alloc | apply Kd.R_drewN | apply Kd.R_drew)); exact Kd.R_mono HO442.out (fun _ hk => ⟨hk.1.1, ⟨hk.1.2, hk.2⟩⟩)), (by (with_reducible repeat (first | apply Kd.R_alloc | apply Kd.R_drewN | apply Kd.R_drew)); exact Kd.R_mono HO445.out (fun _ hk => ⟨hk.1.1, ⟨hk.1.2, hk.2⟩⟩)), (by (with_reducible repeat (first | apply Kd.R_alloc | apply Kd.R_drewN | apply Kd.R_drew)); exact Kd.R_mono HO_431000.out (fun _ hk => ⟨hk.1.2, ⟨hk.2, hk.1.1⟩⟩)), (by (with_reducible repeat (first | apply Kd.R_alloc | apply Kd.R_drewN | apply Kd.R_drew)); exact Kd.R_mono HO_431001.out (fun _ hk => ⟨hk.1.2, ⟨hk.2, hk.1.1⟩⟩)), KK, KK, KK, GW448.out, GE448.out, NB0_448.out, NB448_0.out, NB429_448.out, NB448_429.out, NB430_448.out, NB448_430.out, (KI87), (KHh HK.out), (KBh87 HB.out)⟩)
    rintro ⟨v441, v444, gb448⟩ w20 ⟨hS_, h0_, h1_, h2_, h3_, h4_, h5_, h6_, h7_, h8_, h9_, h10_, h11_, h12_, h13_, h14_, h15_, h16_, h17_⟩; have n0_ : Aside0 (Kd.R k35 35 w20 w.heap.size (fun k_ => some k_ ≠ (v444 : Value).ownBlock ∧ some k_ ≠ (.slice Ao14 x431000_1.length co14 : Value).ownBlock ∧ some k_ ≠ (.slice Ao15 x431001_1.length co15 : Value).ownBlock) v441 t440) := ⟨h0_⟩; have n1_ : Aside0 (Kd.R k35 35 w20 w.heap.size (fun k_ => some k_ ≠ (v441 : Value).ownBlock ∧ some k_ ≠ (.slice Ao14 x431000_1.length co14 : Value).ownBlock ∧ some k_ ≠ (.slice Ao15 x431001_1.length co15 : Value).ownBlock) v444 t443) := ⟨h1_⟩; have n2_ : Aside0 (Kd.R k35 35 w20 w.heap.size (fun k_ => some k_ ≠ (v441 : Value).ownBlock ∧ some k_ ≠ (v444 : Value).ownBlock ∧ some k_ ≠ (.slice Ao15 x431001_1.length co15 : Value).ownBlock) (.slice Ao14 x431000_1.length co14) x431000_1) := ⟨h2_⟩; have n3_ : Aside0 (Kd.R k35 35 w20 w.heap.size (fun k_ => some k_ ≠ (v441 : Value).ownBlock ∧ some k_ ≠ (v444 : Value).ownBlock ∧ some k_ ≠ (.slice Ao14 x431000_1.length co14 : Value).ownBlock) (.slice Ao15 x431001_1.length co15) x431001_1) := ⟨h3_⟩; have n4_ : Aside0 (w20.heap[gb429]? = some (.cells #[.slice none 0 0, .slice none 0 0, .int .i64 0] 31 (0, 0))) := ⟨h4_⟩; have n5_ : Aside0 (w20.heap[gb430]? = some (.cells #[.slice Ao14 x431000_1.length co14, .slice Ao15 x431001_1.length co15, .int .i64 x431002_1] 31 (0, 0))) := ⟨h5_⟩; have n6_ : Aside0 (w20.heap[gb448]? = some (.cells #[.slice none 0 0, .slice none 0 0, .int .i64 0] 31 (0, 0))) := ⟨h6_⟩; have n7_ : Aside0 (w.heap.size ≤ gb448) := ⟨h7_⟩; have n8_ : Aside0 (w0.heap.size ≤ gb448) := ⟨h8_⟩; have n9_ : Aside0 (g ≠ gb448) := ⟨h9_⟩; have n10_ : Aside0 (gb448 ≠ g) := ⟨h10_⟩; have n11_ : Aside0 (gb429 ≠ gb448) := ⟨h11_⟩; have n12_ : Aside0 (gb448 ≠ gb429) := ⟨h12_⟩; have n13_ : Aside0 (gb430 ≠ gb448) := ⟨h13_⟩; have n14_ : Aside0 (gb448 ≠ gb430) := ⟨h14_⟩; have n15_ : Aside0 (IsS87 w0 w20 g s0_0 t438 t439) := ⟨h15_⟩; have n16_ : Aside0 (KeepBut w w20 g none) := ⟨h16_⟩; have n17_ : Aside0 (Below w0.heap.size w0 w20) := ⟨h17_⟩; clear HO_431000; clear HO_431001; clear BK429; clear BK430; clear HI0; clear HK; clear HB; clear h0_ h1_ h2_ h3_ h4_ h5_ h6_ h7_ h8_ h9_ h10_ h11_ h12_ h13_ h14_ h15_ h16_ h17_; have HO442 := n0_; have HO445 := n1_; have HO_431000 := n2_; have HO_431001 := n3_; have BK429 := n4_; have BK430 := n5_; have BK448 := n6_; have GW448 := n7_; have GE448 := n8_; have NB0_448 := n9_; have NB448_0 := n10_; have NB429_448 := n11_; have NB448_429 := n12_; have NB430_448 := n13_; have NB448_430 := n14_; have HI0 := n15_; have HK := n16_; have HB := n17_; clear n0_ n1_ n2_ n3_ n4_ n5_ n6_ n7_ n8_ n9_ n10_ n11_ n12_ n13_ n14_ n15_ n16_ n17_; have hHeld : w20.cell? ⟨gb430, 0, none⟩ = some (.slice Ao14 x431000_1.length co14) ∧ w20.cell? ⟨gb430, 1, none⟩ = some (.slice Ao15 x431001_1.length co15) ∧ w20.cell? ⟨gb430, 2, none⟩ = some (.int .i64 x431002_1) := hS_; obtain ⟨Ao21, co21, eo21⟩ := Kd.R_slice HO442.out; (first | subst eo21 | (injection eo21 with f1_ f2_ f3_; have f4_ := f1_.symm; have f5_ := f3_.symm; clear f1_ f2_ f3_; subst f4_; subst f5_)); obtain ⟨Ao23, co23, eo23⟩ := Kd.R_slice HO445.out; (first | subst eo23 | (injection eo23 with f1_ f2_ f3_; have f4_ := f1_.symm; have f5_ := f3_.symm; clear f1_ f2_ f3_; subst f4_; subst f5_)); refine norm_ (a' := ?_) ?_ ?_; rotate_left
    ·simp only [putAll, Act.put, List.setIfInBounds_toArray, List.set_cons_zero, List.set_cons_succ]
     rfl
    refine one_ (i := 8) (N := none) #[T, T, T, T, T, T, T, T, T, F] rfl rfl (one_of HT_.out (by kernel_rfl)) (by decide) (fun K hK => ?_); have hs22 : w20.cell? ⟨gb448, 0, none⟩ = some (.slice none 0 0) := (blk_cell BK448.out 0).trans rfl; have hfs22 := blk_frozen BK448.out 0; have hns22_0 := NB429_448.out; have hns22_1 := NB430_448.out; have hms22_0 := NB448_429.out; have hms22_1 := NB448_430.out; have hs24 : w20.cell? ⟨gb448, 1, none⟩ = some (.slice none 0 0) := (blk_cell BK448.out 1).trans rfl; have hfs24 := blk_frozen BK448.out 1; have hns24_0 := NB429_448.out; have hns24_1 := NB430_448.out; have hms24_0 := NB448_429.out; have hms24_1 := NB448_430.out; have hs25 : w20.cell? ⟨gb448, 2, none⟩ = some (.int .i64 0) := (blk_cell BK448.out 2).trans rfl; have hfs25 := blk_frozen BK448.out 2; have hns25_0 := NB429_448.out; have hns25_1 := NB430_448.out; have hms25_0 := NB448_429.out; have hms25_1 := NB448_430.out; refine skip_ (w1 := ?_) (by rfl) rfl ?_ ?_; rotate_left
    ·go_simp
     rfl
    refine hK.out _ _ ⟨((cell_far (p := ⟨gb448, _, none⟩) NB430_448.out _).trans (((cell_far (p := ⟨gb448, _, none⟩) NB430_448.out _).trans (((cell_far (p := ⟨gb448, _, none⟩) NB430_448.out _).trans (hHeld.1)))))), ((cell_far (p := ⟨gb448, _, none⟩) NB430_448.out _).trans (((cell_far (p := ⟨gb448, _, none⟩) NB430_448.out _).trans (((cell_far (p := ⟨gb448, _, none⟩) NB430_448.out _).trans (hHeld.2.1)))))), ((cell_far (p := ⟨gb448, _, none⟩) NB430_448.out _).trans (((cell_far (p := ⟨gb448, _, none⟩) NB430_448.out _).trans (((cell_far (p := ⟨gb448, _, none⟩) NB430_448.out _).trans (hHeld.2.2))))))⟩ (fun hHeld => ?_); clear hK K; refine pure_ (i := 9) (N := some 7) (v := ?_) (a' := ?_) #[T, T, T, T, T, T, T, T, T, T] rfl rfl (any_of HT_.out (by kernel_rfl)) (fun _ _ _ h => h) (Or.inl ⟨by rfl, ?_⟩) ?_ ?_; rotate_left
    ·exact KV
    rotate_left
    ·exact KA
    refine done_ (done_of HT_.out (by kernel_rfl)) ?_
    go_upto_block 2 with (first | ((with_reducible refine GC 57 ?_); refine goesL_ (some 26) rfl rfl Try.func57 (by kernel_rfl) rfl #[.pointer (some ⟨g, 0, none⟩), .int .i64 6] rfl KL ?_; (with_reducible refine (spec_l1Below.calls g s0_0 t438 t439 6 t449 t450 t451 w0 _ ?side1 ?side2 A12.out).mono ?_); (case side1 => exact KI87); (case side2 => exact KBh87 HB.out); rintro e w26 ⟨rfl, hi, hb, hk⟩; refine ⟨_, rfl, ?_⟩; have h_ := P10 (Kd.R_mono (Kd.R_keep (IsS87.apart (show IsS87 w0 _ g s0_0 t438 t439 from KI87) (RQ (RT HO_431000.out BK448.out)) (by decide)) hk (fun _ h => h.2)) (fun _ h => h.1)) (Kd.R_mono (Kd.R_keep (IsS87.apart (show IsS87 w0 _ g s0_0 t438 t439 from KI87) (RQ (RT HO_431001.out BK448.out)) (by decide)) hk (fun _ h => h.2)) (fun _ h => h.1)) (KW BK429.out hk NB429_0.out) (KW BK430.out hk NB430_0.out) (Kd.R_mono (Kd.R_keep (IsS87.apart (show IsS87 w0 _ g s0_0 t438 t439 from KI87) (RQ (RT HO442.out BK448.out)) (by decide)) hk (fun _ h => h.2)) (fun _ h => h.1)) (Kd.R_mono (Kd.R_keep (IsS87.apart (show IsS87 w0 _ g s0_0 t438 t439 from KI87) (RQ (RT HO445.out BK448.out)) (by decide)) hk (fun _ h => h.2)) (fun _ h => h.1)) (KeepBut.blk hk (g' := gb448) (o := .cells #[.slice Ao21 t440.length co21, .slice Ao23 t443.length co23, .int .i64 t446] 31 (0, 0)) (by refine SK ?_; refine BP #[.slice Ao21 t440.length co21, .slice Ao23 t443.length co23, .int .i64 0] ?_ 2; refine SK ?_; refine BP #[.slice Ao21 t440.length co21, .slice none 0 0, .int .i64 0] ?_ 1; refine SK ?_; refine BP #[.slice none 0 0, .slice none 0 0, .int .i64 0] ?_ 0; exact SK BK448.out) NB448_0.out (by simp)) (KeepBut.trans (KHh HK.out) hk (.inl rfl)) hb hi; clear HO_431000 HO_431001 BK429 BK430 HO442 HO445 BK448 HK HB HI0; obtain ⟨HO_431000, HO_431001, BK429, BK430, HO442, HO445, BK448, HK, HB, HI0⟩ := h_; (try clear hb); (try clear hk); (try clear hi)))
    (try simp only [Act.put, List.setIfInBounds_toArray, List.set_cons_zero, List.set_cons_succ])
    go_cut [7] (fun v7 wc => ∃ (kq : Nat) (x7_12 : Bool) (x1001_12 : Int) (x1002_12 : Int) (x449000_12 : List (S35)) (x449001_12 : List (S35)) (x449002_12 : Int) (u449000 : Value) (u449001 : Value), v7 = .bool x7_12 ∧ Aside0 (spec_l6DrawRight.j1 kq t431 x5_1 x7_12 s0_0 x1001_12 x1002_12 x431000_1 x431001_1 x431002_1 x449000_12 x449001_12 x449002_12 = some (r1, r2, r3, r4, r5)) ∧ Aside0 (kq ≤ k1) ∧ Aside0 (Kd.R k35 35 wc w.heap.size (fun k_ => some k_ ≠ ((.slice Ao15 x431001_1.length co15) : Value).ownBlock ∧ some k_ ≠ (u449000 : Value).ownBlock ∧ some k_ ≠ (u449001 : Value).ownBlock) (.slice Ao14 x431000_1.length co14) x431000_1) ∧ Aside0 (Kd.R k35 35 wc w.heap.size (fun k_ => some k_ ≠ ((.slice Ao14 x431000_1.length co14) : Value).ownBlock ∧ some k_ ≠ (u449000 : Value).ownBlock ∧ some k_ ≠ (u449001 : Value).ownBlock) (.slice Ao15 x431001_1.length co15) x431001_1) ∧ Aside0 (Kd.R k35 35 wc w.heap.size (fun k_ => some k_ ≠ ((.slice Ao14 x431000_1.length co14) : Value).ownBlock ∧ some k_ ≠ ((.slice Ao15 x431001_1.length co15) : Value).ownBlock ∧ some k_ ≠ (u449001 : Value).ownBlock) u449000 x449000_12) ∧ Aside0 (Kd.R k35 35 wc w.heap.size (fun k_ => some k_ ≠ ((.slice Ao14 x431000_1.length co14) : Value).ownBlock ∧ some k_ ≠ ((.slice Ao15 x431001_1.length co15) : Value).ownBlock ∧ some k_ ≠ (u449000 : Value).ownBlock) u449001 x449001_12) ∧ Aside0 (wc.heap[gb429]? = some (.cells #[(.slice none 0 0), (.slice none 0 0), .int .i64 0] 31 (0, 0))) ∧ Aside0 (wc.heap[gb430]? = some (.cells #[(.slice Ao14 x431000_1.length co14), (.slice Ao15 x431001_1.length co15), .int .i64 x431002_1] 31 (0, 0))) ∧ Aside0 (wc.heap[gb448]? = some (.cells #[u449000, u449001, .int .i64 x449002_12] 31 (0, 0))) ∧ Aside0 (IsS87 w0 wc g s0_0 x1001_12 x1002_12) ∧ Aside0 (KeepBut w wc g none) ∧ Aside0 (Below w0.heap.size w0 wc))
    case first =>
     have H := HC13.out; clear HC13
     by_cases c27 : t449 = 0
     ·rw [if_pos c27] at H
      have c27b0 : (t449 == 0) = true := beq_iff_eq.mpr c27; have c27b1 : (t449 != 0) = false := bne_eq_false_iff_eq.mpr c27; clear c27; (first | rw [c27b0] | (simp only [i64_w, i32_w]; rw [c27b0]) | skip); replace H := Option.bind_eq_some_iff.mp H; obtain ⟨⟨t452, t455, t458, t459⟩, A280, H⟩ := H
      try dsimp only at H
      have A28 := Aside0.mk A280; clear A280; have H' := Aside0.mk H; clear H; have hnb29 := NB430_429.out; have hnc29 := NB429_430.out; have hnb30 := NB430_448.out; have hnc30 := NB448_430.out; have hnb31 := NB430_0.out; have hnc31 := NB0_430.out; obtain ⟨hcz32_0, hcz32_1, hcz32_2, hfz32_0, hfz32_1, hfz32_2⟩ := C3 BK430.out
      go_wp2_with (first | ((with_reducible refine GC 73 ?_); refine goesL_ (some 31) rfl rfl Try.func73 (by kernel_rfl) rfl #[.agg #[.slice Ao14 x431000_1.length co14, .slice Ao15 x431001_1.length co15, .int .i64 x431002_1]] rfl KL ?_; (with_reducible refine (spec_StoreSync.calls k1 _ _ x431000_1 _ _ x431001_1 x431002_1 t452 t455 t458 t459 _ ?side1 ?side2 ?side3 ?side4 A28.out).mono ?_); (case side1 => repeat (first | exact (Kd.R_reads' HO_431000.out).2.2 | (with_reducible refine Kd.C_alloc ?_ _) | (with_reducible refine Kd.C_drewN ?_ _) | (with_reducible refine Kd.C_drew ?_))); (case side2 => exact (Kd.R_reads' HO_431000.out).2.1); (case side3 => repeat (first | exact (Kd.R_reads' HO_431001.out).2.2 | (with_reducible refine Kd.C_alloc ?_ _) | (with_reducible refine Kd.C_drewN ?_ _) | (with_reducible refine Kd.C_drew ?_))); (case side4 => exact (Kd.R_reads' HO_431001.out).2.1); rintro e w33 ⟨v453, v456, rfl, ho0, ho1, hb⟩; refine ⟨_, rfl, ?_⟩; have h_ := P12 (Kd.R_mono (Kd.R_told (Kd.R_told (Kd.R_old (KR HO_431000.out) hb) (Kd.R_base ho0)) (Kd.R_base ho1)) (fun _ h_ => h_.1)) (Kd.R_mono (Kd.R_told (Kd.R_told (Kd.R_old (KR HO_431001.out) hb) (Kd.R_base ho0)) (Kd.R_base ho1)) (fun _ h_ => h_.1)) (Kd.R_mono (Kd.R_told (Kd.R_told (Kd.R_old (KR HO442.out) hb) (Kd.R_base ho0)) (Kd.R_base ho1)) (fun _ h_ => h_.1)) (Kd.R_mono (Kd.R_told (Kd.R_told (Kd.R_old (KR HO445.out) hb) (Kd.R_base ho0)) (Kd.R_base ho1)) (fun _ h_ => h_.1)) (Kd.R_lower (Kd.R_new' (Kd.R_new' (Kd.R_new' (Kd.R_new' ho0 (Kd.R_lt (KR HO_431000.out))) (Kd.R_lt (KR HO_431001.out))) (Kd.R_lt (KR HO442.out))) (Kd.R_lt (KR HO445.out))) (KS HK.out)) (Kd.R_lower (Kd.R_new' (Kd.R_new' (Kd.R_new' (Kd.R_new' ho1 (Kd.R_lt (KR HO_431000.out))) (Kd.R_lt (KR HO_431001.out))) (Kd.R_lt (KR HO442.out))) (Kd.R_lt (KR HO445.out))) (KS HK.out)) (BL BK429.out hb) (BL BK430.out hb) (IsS87.below (KI87) hb) (BL BK448.out hb) (KeepBut.trans (KHh HK.out) (KeepBut.of_below hb g none) (.inl rfl)) (below_step (KBh87 HB.out) hb); clear HO_431000 HO_431001 HO442 HO445 BK429 BK430 HI0 BK448 HK HB; obtain ⟨HO_431000, HO_431001, HO442, HO445, HO454, HO457, BK429, BK430, HI0, BK448, HK, HB⟩ := h_; (try clear hb); (try clear hk); (try clear hi); (try clear ho0); (try clear ho1); obtain ⟨Ao34, co34, eo34⟩ := Kd.R_slice HO454.out; subst eo34; have hnb35 := NB448_429.out; have hnc35 := NB429_448.out; have hnb36 := NB448_0.out; have hnc36 := NB0_448.out; obtain ⟨hcz37_0, hcz37_1, hcz37_2, hfz37_0, hfz37_1, hfz37_2⟩ := C3 BK448.out; obtain ⟨Ao38, co38, eo38⟩ := Kd.R_slice HO457.out; subst eo38))
      go_meet
      case rel => exact ⟨_, (t459), (t450), (t451), (t452), (t455), (t458), (.slice Ao34 t452.length co34), (.slice Ao38 t455.length co38), (by first | rfl | (simp; done) | (simp [*]; done)), H', ⟨by have := HK1.out; first | omega | exact Nat.le_refl _⟩, ⟨Kd.R_mono (RF (RT HO_431000.out BK448.out)) (fun _ hk => ⟨hk.1.1.1.2.2, ⟨hk.1.1.2, hk.1.2⟩⟩)⟩, ⟨Kd.R_mono (RF (RT HO_431001.out BK448.out)) (fun _ hk => ⟨hk.1.1.1.2.2, ⟨hk.1.1.2, hk.1.2⟩⟩)⟩, ⟨Kd.R_mono (RF (RT HO454.out BK448.out)) (fun _ hk => ⟨hk.1.1.1.1.2, ⟨hk.1.1.1.2, hk.1.1.1.1.1⟩⟩)⟩, ⟨Kd.R_mono (RF (RT HO457.out BK448.out)) (fun _ hk => ⟨hk.1.1.1.1.2, ⟨hk.1.1.1.2, hk.1.1.1.1.1⟩⟩)⟩, ⟨KK⟩, ⟨KK⟩, ⟨by refine SK ?_; refine BP #[.slice Ao34 t452.length co34, .slice Ao38 t455.length co38, .int .i64 t446] ?_ 2; refine SK ?_; refine BP #[.slice Ao34 t452.length co34, .slice Ao23 t443.length co23, .int .i64 t446] ?_ 1; refine SK ?_; refine BP #[.slice Ao21 t440.length co21, .slice Ao23 t443.length co23, .int .i64 t446] ?_ 0; exact SK BK448.out⟩, ⟨KI87⟩, ⟨by repeat (first | (with_reducible first | exact HK.out | apply KeepBut.set_ | apply keep_drewN | apply keep_drew | apply keep_alloc | refine keep_far ?_ GW429.out _ | refine keep_far ?_ GW430.out _ | refine keep_far ?_ GW448.out _) | exact HK.out)⟩, ⟨KBh87 HB.out⟩⟩
     ·rw [if_neg c27] at H
      have c27b0 : (t449 == 0) = false := beq_eq_false_iff_ne.mpr c27; have c27b1 : (t449 != 0) = true := bne_iff_ne.mpr c27; (first | rw [c27b0] | (simp only [i64_w, i32_w]; rw [c27b0]) | skip)
      by_cases c39 : t449 = 1
      ·rw [if_pos c39] at H
       have c39b0 : (t449 == 1) = true := beq_iff_eq.mpr c39; have c39b1 : (t449 != 1) = false := bne_eq_false_iff_eq.mpr c39; clear c39; replace H := Option.bind_eq_some_iff.mp H; obtain ⟨⟨t460, t463, t466, t467⟩, A400, H⟩ := H
       try dsimp only at H
       have A40 := Aside0.mk A400; clear A400; have H' := Aside0.mk H; clear H; have hnb41 := NB448_429.out; have hnc41 := NB429_448.out; have hnb42 := NB448_430.out; have hnc42 := NB430_448.out; have hnb43 := NB448_0.out; have hnc43 := NB0_448.out; obtain ⟨hcz44_0, hcz44_1, hcz44_2, hfz44_0, hfz44_1, hfz44_2⟩ := C3 BK448.out
       go_wp2_with (first | ((with_reducible refine GC 73 ?_); refine goesL_ (some 38) rfl rfl Try.func73 (by kernel_rfl) rfl #[.agg #[.slice Ao21 t440.length co21, .slice Ao23 t443.length co23, .int .i64 t446]] rfl KL ?_; (with_reducible refine (spec_StoreSync.calls k1 _ _ t440 _ _ t443 t446 t460 t463 t466 t467 _ ?side1 ?side2 ?side3 ?side4 A40.out).mono ?_); (case side1 => repeat (first | exact (Kd.R_reads' HO442.out).2.2 | (with_reducible refine Kd.C_alloc ?_ _) | (with_reducible refine Kd.C_drewN ?_ _) | (with_reducible refine Kd.C_drew ?_))); (case side2 => exact (Kd.R_reads' HO442.out).2.1); (case side3 => repeat (first | exact (Kd.R_reads' HO445.out).2.2 | (with_reducible refine Kd.C_alloc ?_ _) | (with_reducible refine Kd.C_drewN ?_ _) | (with_reducible refine Kd.C_drew ?_))); (case side4 => exact (Kd.R_reads' HO445.out).2.1); rintro e w45 ⟨v461, v464, rfl, ho0, ho1, hb⟩; refine ⟨_, rfl, ?_⟩; have h_ := P12 (Kd.R_mono (Kd.R_told (Kd.R_told (Kd.R_old (KR HO_431000.out) hb) (Kd.R_base ho0)) (Kd.R_base ho1)) (fun _ h_ => h_.1)) (Kd.R_mono (Kd.R_told (Kd.R_told (Kd.R_old (KR HO_431001.out) hb) (Kd.R_base ho0)) (Kd.R_base ho1)) (fun _ h_ => h_.1)) (Kd.R_mono (Kd.R_told (Kd.R_told (Kd.R_old (KR HO442.out) hb) (Kd.R_base ho0)) (Kd.R_base ho1)) (fun _ h_ => h_.1)) (Kd.R_mono (Kd.R_told (Kd.R_told (Kd.R_old (KR HO445.out) hb) (Kd.R_base ho0)) (Kd.R_base ho1)) (fun _ h_ => h_.1)) (Kd.R_lower (Kd.R_new' (Kd.R_new' (Kd.R_new' (Kd.R_new' ho0 (Kd.R_lt (KR HO_431000.out))) (Kd.R_lt (KR HO_431001.out))) (Kd.R_lt (KR HO442.out))) (Kd.R_lt (KR HO445.out))) (KS HK.out)) (Kd.R_lower (Kd.R_new' (Kd.R_new' (Kd.R_new' (Kd.R_new' ho1 (Kd.R_lt (KR HO_431000.out))) (Kd.R_lt (KR HO_431001.out))) (Kd.R_lt (KR HO442.out))) (Kd.R_lt (KR HO445.out))) (KS HK.out)) (BL BK429.out hb) (BL BK430.out hb) (IsS87.below (KI87) hb) (BL BK448.out hb) (KeepBut.trans (KHh HK.out) (KeepBut.of_below hb g none) (.inl rfl)) (below_step (KBh87 HB.out) hb); clear HO_431000 HO_431001 HO442 HO445 BK429 BK430 HI0 BK448 HK HB; obtain ⟨HO_431000, HO_431001, HO442, HO445, HO462, HO465, BK429, BK430, HI0, BK448, HK, HB⟩ := h_; (try clear hb); (try clear hk); (try clear hi); (try clear ho0); (try clear ho1); obtain ⟨Ao46, co46, eo46⟩ := Kd.R_slice HO462.out; subst eo46; obtain ⟨hcz47_0, hcz47_1, hcz47_2, hfz47_0, hfz47_1, hfz47_2⟩ := C3 BK448.out; obtain ⟨Ao48, co48, eo48⟩ := Kd.R_slice HO465.out; subst eo48))
       go_meet
       case rel => exact ⟨_, (t467), (t450), (t451), (t460), (t463), (t466), (.slice Ao46 t460.length co46), (.slice Ao48 t463.length co48), (by first | rfl | (simp; done) | (simp [*]; done)), H', ⟨by have := HK1.out; first | omega | exact Nat.le_refl _⟩, ⟨Kd.R_mono (RF (RT HO_431000.out BK448.out)) (fun _ hk => ⟨hk.1.1.1.2.2, ⟨hk.1.1.2, hk.1.2⟩⟩)⟩, ⟨Kd.R_mono (RF (RT HO_431001.out BK448.out)) (fun _ hk => ⟨hk.1.1.1.2.2, ⟨hk.1.1.2, hk.1.2⟩⟩)⟩, ⟨Kd.R_mono (RF (RT HO462.out BK448.out)) (fun _ hk => ⟨hk.1.1.1.1.2, ⟨hk.1.1.1.2, hk.1.1.1.1.1⟩⟩)⟩, ⟨Kd.R_mono (RF (RT HO465.out BK448.out)) (fun _ hk => ⟨hk.1.1.1.1.2, ⟨hk.1.1.1.2, hk.1.1.1.1.1⟩⟩)⟩, ⟨KK⟩, ⟨KK⟩, ⟨by refine SK ?_; refine BP #[.slice Ao46 t460.length co46, .slice Ao48 t463.length co48, .int .i64 t446] ?_ 2; refine SK ?_; refine BP #[.slice Ao46 t460.length co46, .slice Ao23 t443.length co23, .int .i64 t446] ?_ 1; refine SK ?_; refine BP #[.slice Ao21 t440.length co21, .slice Ao23 t443.length co23, .int .i64 t446] ?_ 0; exact SK BK448.out⟩, ⟨KI87⟩, ⟨by repeat (first | (with_reducible first | exact HK.out | apply KeepBut.set_ | apply keep_drewN | apply keep_drew | apply keep_alloc | refine keep_far ?_ GW429.out _ | refine keep_far ?_ GW430.out _ | refine keep_far ?_ GW448.out _) | exact HK.out)⟩, ⟨KBh87 HB.out⟩⟩
      ·rw [if_neg c39] at H
       have c39b0 : (t449 == 1) = false := beq_eq_false_iff_ne.mpr c39; have c39b1 : (t449 != 1) = true := bne_iff_ne.mpr c39
       by_cases c49 : t449 = 2
       ·rw [if_pos c49] at H
        have c49b0 : (t449 == 2) = true := beq_iff_eq.mpr c49; have c49b1 : (t449 != 2) = false := bne_eq_false_iff_eq.mpr c49; clear c49; replace H := Option.bind_eq_some_iff.mp H; obtain ⟨⟨t468, t469, t470⟩, A500, H⟩ := H
        try dsimp only at H
        have A50 := Aside0.mk A500; clear A500
        by_cases c51 : t468 = true
        ·subst c51
         have H1 : ((spec_l1Below.f s0_0 t469 t470 4).bind fun bt471 => ((spec_StoreSeal.f k1 x431000_1 x431001_1 x431002_1 bt471.1).bind fun bt474 => (spec_l6DrawRight.j1 k1 t431 x5_1 bt474.2.2.2 s0_0 bt471.2.1 bt471.2.2 x431000_1 x431001_1 x431002_1 bt474.1 bt474.2.1 bt474.2.2.1))) = some (r1, r2, r3, r4, r5) := by rw [if_pos rfl] at H; exact H
         clear H; have H := H1; clear H1; replace H := Option.bind_eq_some_iff.mp H; obtain ⟨⟨t471, t472, t473⟩, A520, H⟩ := H
         try dsimp only at H
         have A52 := Aside0.mk A520; clear A520; replace H := Option.bind_eq_some_iff.mp H; obtain ⟨⟨t474, t477, t480, t481⟩, A530, H⟩ := H
         try dsimp only at H
         have A53 := Aside0.mk A530; clear A530; have H' := Aside0.mk H; clear H
         try go_wp2_with (first | ((with_reducible refine GC 61 ?_); refine goesL_ (some 44) rfl rfl Try.func61 (by kernel_rfl) rfl #[.pointer (some ⟨g, 0, none⟩), .int .i64 3] rfl KL ?_; (with_reducible refine (spec_l1Once.calls g s0_0 t450 t451 3 true t469 t470 w0 _ ?side1 ?side2 A50.out).mono ?_); (case side1 => exact KI87); (case side2 => exact KBh87 HB.out); rintro e w54 ⟨rfl, hi, hb, hk⟩; refine ⟨_, rfl, ?_⟩; have h_ := P10 (Kd.R_mono (Kd.R_keep (IsS87.apart (show IsS87 w0 _ g s0_0 t450 t451 from KI87) (KR HO_431000.out) (by decide)) hk (fun _ h => h.2)) (fun _ h => h.1)) (Kd.R_mono (Kd.R_keep (IsS87.apart (show IsS87 w0 _ g s0_0 t450 t451 from KI87) (KR HO_431001.out) (by decide)) hk (fun _ h => h.2)) (fun _ h => h.1)) (KW BK429.out hk NB429_0.out) (KW BK430.out hk NB430_0.out) (Kd.R_mono (Kd.R_keep (IsS87.apart (show IsS87 w0 _ g s0_0 t450 t451 from KI87) (KR HO442.out) (by decide)) hk (fun _ h => h.2)) (fun _ h => h.1)) (Kd.R_mono (Kd.R_keep (IsS87.apart (show IsS87 w0 _ g s0_0 t450 t451 from KI87) (KR HO445.out) (by decide)) hk (fun _ h => h.2)) (fun _ h => h.1)) (KW BK448.out hk NB448_0.out) (KeepBut.trans (KHh HK.out) hk (.inl rfl)) hb hi; clear HO_431000 HO_431001 BK429 BK430 HO442 HO445 BK448 HK HB HI0; obtain ⟨HO_431000, HO_431001, BK429, BK430, HO442, HO445, BK448, HK, HB, HI0⟩ := h_; (try clear hb); (try clear hk); (try clear hi)))
         have h_ := P10 (Kd.R_drew HO_431000.out) (Kd.R_drew HO_431001.out) (Kd.R_drew HO442.out) (Kd.R_drew HO445.out) (blk_drew BK429.out) (blk_drew BK430.out) (blk_drew BK448.out) (IsS87.drew HI0.out) (keep_drew HK.out) (below_drew1 HB.out); clear HO_431000 HO_431001 HO442 HO445 BK429 BK430 BK448 HI0 HK HB; obtain ⟨HO_431000, HO_431001, HO442, HO445, BK429, BK430, BK448, HI0, HK, HB⟩ := h_; refine start_ (n := 9) (S := fun w' => w'.cell? ⟨gb430, 0, none⟩ = some (.slice Ao14 x431000_1.length co14) ∧ w'.cell? ⟨gb430, 1, none⟩ = some (.slice Ao15 x431001_1.length co15) ∧ w'.cell? ⟨gb430, 2, none⟩ = some (.int .i64 x431002_1)) (ds := []) #[F, F, F, F, F, F, F, F, F] (by kernel_rfl) rfl rfl ⟨(blk_cell BK430.out 0).trans rfl, (blk_cell BK430.out 1).trans rfl, (blk_cell BK430.out 2).trans rfl⟩ (fun hHeld => ?_); refine with_tabW spec_l6DrawRight.tab14 spec_l6DrawRight.bits14 (fun HT_ HW_ => ?_); generalize w54.drew = w55 at HO_431000 HO_431001 HO442 HO445 BK429 BK430 BK448 HI0 HK HB hHeld ⊢; refine pure_ (i := 1) (N := some 47) (v := ?_) (a' := ?_) #[F, T, F, F, F, F, F, F, F] rfl rfl (any_of HT_.out (by kernel_rfl)) (fun _ _ _ h => h) (Or.inl ⟨by rfl, ?_⟩) ?_ ?_; rotate_left
         ·exact KV
         rotate_left
         ·exact KA
         refine take_ (i := 0) (N := some 46) (v := ?_) (a' := ?_) #[T, T, F, F, F, F, F, F, F] rfl rfl (take_ofW HT_.out HW_.out (by kernel_rfl)) (fun _ _ _ h => h) (Or.inl ⟨by rfl, ?_⟩) hHeld ?_ ?_; rotate_left
         ·rintro w' ⟨s0, s1, s2⟩
          go_simp; with_reducible rfl
         rotate_left
         ·exact KA
         refine one_ (i := 2) (N := some 48) #[T, T, T, F, F, F, F, F, F] rfl rfl (one_of HT_.out (by kernel_rfl)) (by decide) (fun K hK => ?_); refine goes_ Try.func57 (by kernel_rfl) rfl #[.pointer (some ⟨g, 0, none⟩), .int .i64 4] (by rfl) rfl rfl KL ?_; (with_reducible refine (spec_l1Below.calls g s0_0 t469 t470 4 t471 t472 t473 w0 _ ?side1 ?side2 A52.out).mono ?_); (case side1 => exact KI87); (case side2 => exact KBh87 HB.out); rintro e w56 ⟨rfl, hi, hb, hk⟩; refine ⟨_, rfl, ?_⟩; have h_ := P10 (Kd.R_mono (Kd.R_keep (IsS87.apart (show IsS87 w0 _ g s0_0 t469 t470 from KI87) (KR HO_431000.out) (by decide)) hk (fun _ h => h.2)) (fun _ h => h.1)) (Kd.R_mono (Kd.R_keep (IsS87.apart (show IsS87 w0 _ g s0_0 t469 t470 from KI87) (KR HO_431001.out) (by decide)) hk (fun _ h => h.2)) (fun _ h => h.1)) (KW BK429.out hk NB429_0.out) (KW BK430.out hk NB430_0.out) (Kd.R_mono (Kd.R_keep (IsS87.apart (show IsS87 w0 _ g s0_0 t469 t470 from KI87) (KR HO442.out) (by decide)) hk (fun _ h => h.2)) (fun _ h => h.1)) (Kd.R_mono (Kd.R_keep (IsS87.apart (show IsS87 w0 _ g s0_0 t469 t470 from KI87) (KR HO445.out) (by decide)) hk (fun _ h => h.2)) (fun _ h => h.1)) (KW BK448.out hk NB448_0.out) (KeepBut.trans (KHh HK.out) hk (.inl rfl)) hb hi; clear HO_431000 HO_431001 BK429 BK430 HO442 HO445 BK448 HK HB HI0; obtain ⟨HO_431000, HO_431001, BK429, BK430, HO442, HO445, BK448, HK, HB, HI0⟩ := h_; (try clear hb); (try clear hk); (try clear hi); refine hK.out _ _ (D3 BK430.out) (fun hHeld => ?_); clear hK K; refine norm_ (a' := ?_) ?_ ?_; rotate_left
         ·show Act.put _ (some 48) _ = _; exact KA
         refine one_ (i := 3) (N := some 49) #[T, T, T, T, F, F, F, F, F] rfl rfl (one_of HT_.out (by kernel_rfl)) (by decide) (fun K hK => ?_); refine goes_ Try.func38 (by kernel_rfl) rfl #[.agg #[.slice Ao14 x431000_1.length co14, .slice Ao15 x431001_1.length co15, .int .i64 x431002_1], .int .i64 t471] (by rfl) rfl rfl KL ?_; (with_reducible refine (spec_StoreSeal.calls k1 _ _ x431000_1 _ _ x431001_1 x431002_1 t471 t474 t477 t480 t481 _ ?side1 ?side2 ?side3 ?side4 A53.out).mono ?_); (case side1 => repeat (first | exact (Kd.R_reads' HO_431000.out).2.2 | (with_reducible refine Kd.C_alloc ?_ _) | (with_reducible refine Kd.C_drewN ?_ _) | (with_reducible refine Kd.C_drew ?_))); (case side2 => exact (Kd.R_reads' HO_431000.out).2.1); (case side3 => repeat (first | exact (Kd.R_reads' HO_431001.out).2.2 | (with_reducible refine Kd.C_alloc ?_ _) | (with_reducible refine Kd.C_drewN ?_ _) | (with_reducible refine Kd.C_drew ?_))); (case side4 => exact (Kd.R_reads' HO_431001.out).2.1); rintro e w57 ⟨v475, v478, rfl, ho0, ho1, hb⟩; refine ⟨_, rfl, ?_⟩; have h_ := P12 (Kd.R_mono (Kd.R_told (Kd.R_told (Kd.R_old (KR HO_431000.out) hb) (Kd.R_base ho0)) (Kd.R_base ho1)) (fun _ h_ => h_.1)) (Kd.R_mono (Kd.R_told (Kd.R_told (Kd.R_old (KR HO_431001.out) hb) (Kd.R_base ho0)) (Kd.R_base ho1)) (fun _ h_ => h_.1)) (Kd.R_mono (Kd.R_told (Kd.R_told (Kd.R_old (KR HO442.out) hb) (Kd.R_base ho0)) (Kd.R_base ho1)) (fun _ h_ => h_.1)) (Kd.R_mono (Kd.R_told (Kd.R_told (Kd.R_old (KR HO445.out) hb) (Kd.R_base ho0)) (Kd.R_base ho1)) (fun _ h_ => h_.1)) (Kd.R_lower (Kd.R_new' (Kd.R_new' (Kd.R_new' (Kd.R_new' ho0 (Kd.R_lt (KR HO_431000.out))) (Kd.R_lt (KR HO_431001.out))) (Kd.R_lt (KR HO442.out))) (Kd.R_lt (KR HO445.out))) (KS HK.out)) (Kd.R_lower (Kd.R_new' (Kd.R_new' (Kd.R_new' (Kd.R_new' ho1 (Kd.R_lt (KR HO_431000.out))) (Kd.R_lt (KR HO_431001.out))) (Kd.R_lt (KR HO442.out))) (Kd.R_lt (KR HO445.out))) (KS HK.out)) (BL BK429.out hb) (BL BK430.out hb) (IsS87.below (KI87) hb) (BL BK448.out hb) (KeepBut.trans (KHh HK.out) (KeepBut.of_below hb g none) (.inl rfl)) (below_step (KBh87 HB.out) hb); clear HO_431000 HO_431001 HO442 HO445 BK429 BK430 HI0 BK448 HK HB; obtain ⟨HO_431000, HO_431001, HO442, HO445, HO476, HO479, BK429, BK430, HI0, BK448, HK, HB⟩ := h_; (try clear hb); (try clear hk); (try clear hi); (try clear ho0); (try clear ho1); obtain ⟨Ao58, co58, eo58⟩ := Kd.R_slice HO476.out; (first | subst eo58 | (injection eo58 with f1_ f2_ f3_; have f4_ := f1_.symm; have f5_ := f3_.symm; clear f1_ f2_ f3_; subst f4_; subst f5_)); obtain ⟨Ao60, co60, eo60⟩ := Kd.R_slice HO479.out; (first | subst eo60 | (injection eo60 with f1_ f2_ f3_; have f4_ := f1_.symm; have f5_ := f3_.symm; clear f1_ f2_ f3_; subst f4_; subst f5_)); refine hK.out _ _ (D3 BK430.out) (fun hHeld => ?_); clear hK K; refine norm_ (a' := ?_) ?_ ?_; rotate_left
         ·show Act.put _ (some 49) _ = _; exact KA
         refine pure_ (i := 4) (N := some 45) (v := ?_) (a' := ?_) #[T, T, T, T, T, F, F, F, F] rfl rfl (any_of HT_.out (by kernel_rfl)) (fun _ _ _ h => h) (Or.inl ⟨by rfl, ?_⟩) ?_ ?_; rotate_left
         ·exact KV
         rotate_left
         ·exact KA
         refine pure_ (i := 5) (N := some 50) (v := ?_) (a' := ?_) #[T, T, T, T, T, T, F, F, F] rfl rfl (any_of HT_.out (by kernel_rfl)) (fun _ _ _ h => h) (Or.inl ⟨by rfl, ?_⟩) ?_ ?_; rotate_left
         ·exact KV
         rotate_left
         ·exact KA
         refine pure_ (i := 6) (N := some 51) (v := ?_) (a' := ?_) #[T, T, T, T, T, T, T, F, F] rfl rfl (any_of HT_.out (by kernel_rfl)) (fun _ _ _ h => h) (Or.inl ⟨by rfl, ?_⟩) ?_ ?_; rotate_left
         ·exact KV
         rotate_left
         ·exact KA
         refine one_ (i := 7) (N := none) #[T, T, T, T, T, T, T, T, F] rfl rfl (one_of HT_.out (by kernel_rfl)) (by decide) (fun K hK => ?_); have hs59 : w57.cell? ⟨gb448, 0, none⟩ = some (.slice Ao21 t440.length co21) := (blk_cell BK448.out 0).trans rfl; have hfs59 := blk_frozen BK448.out 0; have hns59_0 := NB429_448.out; have hns59_1 := NB430_448.out; have hms59_0 := NB448_429.out; have hms59_1 := NB448_430.out; have hs61 : w57.cell? ⟨gb448, 1, none⟩ = some (.slice Ao23 t443.length co23) := (blk_cell BK448.out 1).trans rfl; have hfs61 := blk_frozen BK448.out 1; have hns61_0 := NB429_448.out; have hns61_1 := NB430_448.out; have hms61_0 := NB448_429.out; have hms61_1 := NB448_430.out; have hs62 : w57.cell? ⟨gb448, 2, none⟩ = some (.int .i64 t446) := (blk_cell BK448.out 2).trans rfl; have hfs62 := blk_frozen BK448.out 2; have hns62_0 := NB429_448.out; have hns62_1 := NB430_448.out; have hms62_0 := NB448_429.out; have hms62_1 := NB448_430.out; refine skip_ (w1 := ?_) (by rfl) rfl ?_ ?_; rotate_left
         ·go_simp
          rfl
         refine hK.out _ _ ⟨((cell_far (p := ⟨gb448, _, none⟩) NB430_448.out _).trans (((cell_far (p := ⟨gb448, _, none⟩) NB430_448.out _).trans (((cell_far (p := ⟨gb448, _, none⟩) NB430_448.out _).trans (hHeld.1)))))), ((cell_far (p := ⟨gb448, _, none⟩) NB430_448.out _).trans (((cell_far (p := ⟨gb448, _, none⟩) NB430_448.out _).trans (((cell_far (p := ⟨gb448, _, none⟩) NB430_448.out _).trans (hHeld.2.1)))))), ((cell_far (p := ⟨gb448, _, none⟩) NB430_448.out _).trans (((cell_far (p := ⟨gb448, _, none⟩) NB430_448.out _).trans (((cell_far (p := ⟨gb448, _, none⟩) NB430_448.out _).trans (hHeld.2.2))))))⟩ (fun hHeld => ?_); clear hK K; refine pure_ (i := 8) (N := some 7) (v := ?_) (a' := ?_) #[T, T, T, T, T, T, T, T, T] rfl rfl (any_of HT_.out (by kernel_rfl)) (fun _ _ _ h => h) (Or.inl ⟨by rfl, ?_⟩) ?_ ?_; rotate_left
         ·exact KV
         rotate_left
         ·exact KA
         refine done_ (done_of HT_.out (by kernel_rfl)) ?_
         try go_wp2
         go_meet
         case rel => exact ⟨_, (t481), (t472), (t473), (t474), (t477), (t480), (.slice Ao58 t474.length co58), (.slice Ao60 t477.length co60), (by first | rfl | (simp; done) | (simp [*]; done)), H', ⟨by have := HK1.out; first | omega | exact Nat.le_refl _⟩, ⟨Kd.R_mono (RF (RT HO_431000.out BK448.out)) (fun _ hk => ⟨hk.1.1.1.2.2, ⟨hk.1.1.2, hk.1.2⟩⟩)⟩, ⟨Kd.R_mono (RF (RT HO_431001.out BK448.out)) (fun _ hk => ⟨hk.1.1.1.2.2, ⟨hk.1.1.2, hk.1.2⟩⟩)⟩, ⟨Kd.R_mono (RF (RT HO476.out BK448.out)) (fun _ hk => ⟨hk.1.1.1.1.2, ⟨hk.1.1.1.2, hk.1.1.1.1.1⟩⟩)⟩, ⟨Kd.R_mono (RF (RT HO479.out BK448.out)) (fun _ hk => ⟨hk.1.1.1.1.2, ⟨hk.1.1.1.2, hk.1.1.1.1.1⟩⟩)⟩, ⟨KK⟩, ⟨KK⟩, ⟨by refine SK ?_; refine BP #[.slice Ao58 t474.length co58, .slice Ao60 t477.length co60, .int .i64 t446] ?_ 2; refine SK ?_; refine BP #[.slice Ao58 t474.length co58, .slice Ao23 t443.length co23, .int .i64 t446] ?_ 1; refine SK ?_; refine BP #[.slice Ao21 t440.length co21, .slice Ao23 t443.length co23, .int .i64 t446] ?_ 0; exact SK BK448.out⟩, ⟨KI87⟩, ⟨by repeat (first | (with_reducible first | exact HK.out | apply KeepBut.set_ | apply keep_drewN | apply keep_drew | apply keep_alloc | refine keep_far ?_ GW429.out _ | refine keep_far ?_ GW430.out _ | refine keep_far ?_ GW448.out _) | exact HK.out)⟩, ⟨KBh87 HB.out⟩⟩
        ·replace c51 := Bool.eq_false_iff.mpr c51
         subst c51; have H1 : (spec_l6DrawRight.j1 k1 t431 x5_1 t447 s0_0 t469 t470 x431000_1 x431001_1 x431002_1 t440 t443 t446) = some (r1, r2, r3, r4, r5) := by rw [if_neg (show ¬ (false = true) by decide)] at H; exact H
         clear H; have H := H1; clear H1; have H' := Aside0.mk H; clear H
         go_wp2_with (first | ((with_reducible refine GC 61 ?_); refine goesL_ (some 44) rfl rfl Try.func61 (by kernel_rfl) rfl #[.pointer (some ⟨g, 0, none⟩), .int .i64 3] rfl KL ?_; (with_reducible refine (spec_l1Once.calls g s0_0 t450 t451 3 false t469 t470 w0 _ ?side1 ?side2 A50.out).mono ?_); (case side1 => exact KI87); (case side2 => exact KBh87 HB.out); rintro e w63 ⟨rfl, hi, hb, hk⟩; refine ⟨_, rfl, ?_⟩; have h_ := P10 (Kd.R_mono (Kd.R_keep (IsS87.apart (show IsS87 w0 _ g s0_0 t450 t451 from KI87) (KR HO_431000.out) (by decide)) hk (fun _ h => h.2)) (fun _ h => h.1)) (Kd.R_mono (Kd.R_keep (IsS87.apart (show IsS87 w0 _ g s0_0 t450 t451 from KI87) (KR HO_431001.out) (by decide)) hk (fun _ h => h.2)) (fun _ h => h.1)) (KW BK429.out hk NB429_0.out) (KW BK430.out hk NB430_0.out) (Kd.R_mono (Kd.R_keep (IsS87.apart (show IsS87 w0 _ g s0_0 t450 t451 from KI87) (KR HO442.out) (by decide)) hk (fun _ h => h.2)) (fun _ h => h.1)) (Kd.R_mono (Kd.R_keep (IsS87.apart (show IsS87 w0 _ g s0_0 t450 t451 from KI87) (KR HO445.out) (by decide)) hk (fun _ h => h.2)) (fun _ h => h.1)) (KW BK448.out hk NB448_0.out) (KeepBut.trans (KHh HK.out) hk (.inl rfl)) hb hi; clear HO_431000 HO_431001 BK429 BK430 HO442 HO445 BK448 HK HB HI0; obtain ⟨HO_431000, HO_431001, BK429, BK430, HO442, HO445, BK448, HK, HB, HI0⟩ := h_; (try clear hb); (try clear hk); (try clear hi)))
         go_meet
         case rel => exact ⟨_, (t447), (t469), (t470), (t440), (t443), (t446), (.slice Ao21 t440.length co21), (.slice Ao23 t443.length co23), (by first | rfl | (simp; done) | (simp [*]; done)), H', ⟨by have := HK1.out; first | omega | exact Nat.le_refl _⟩, ⟨by (with_reducible repeat (first | apply Kd.R_alloc | apply Kd.R_drewN | apply Kd.R_drew)); exact Kd.R_mono HO_431000.out (fun _ hk => ⟨hk.2.2, ⟨hk.1, hk.2.1⟩⟩)⟩, ⟨by (with_reducible repeat (first | apply Kd.R_alloc | apply Kd.R_drewN | apply Kd.R_drew)); exact Kd.R_mono HO_431001.out (fun _ hk => ⟨hk.2.2, ⟨hk.1, hk.2.1⟩⟩)⟩, ⟨by (with_reducible repeat (first | apply Kd.R_alloc | apply Kd.R_drewN | apply Kd.R_drew)); exact Kd.R_mono HO442.out (fun _ hk => ⟨hk.2.1, ⟨hk.2.2, hk.1⟩⟩)⟩, ⟨by (with_reducible repeat (first | apply Kd.R_alloc | apply Kd.R_drewN | apply Kd.R_drew)); exact Kd.R_mono HO445.out (fun _ hk => ⟨hk.2.1, ⟨hk.2.2, hk.1⟩⟩)⟩, ⟨KK⟩, ⟨KK⟩, ⟨KK⟩, ⟨KI87⟩, ⟨by repeat (first | (with_reducible first | exact HK.out | apply KeepBut.set_ | apply keep_drewN | apply keep_drew | apply keep_alloc | refine keep_far ?_ GW429.out _ | refine keep_far ?_ GW430.out _ | refine keep_far ?_ GW448.out _) | exact HK.out)⟩, ⟨KBh87 HB.out⟩⟩
       ·rw [if_neg c49] at H
        have c49b0 : (t449 == 2) = false := beq_eq_false_iff_ne.mpr c49; have c49b1 : (t449 != 2) = true := bne_iff_ne.mpr c49; have H' := Aside0.mk H; clear H
        go_wp2
        go_meet
        case rel => exact ⟨_, (t447), (t450), (t451), (t440), (t443), (t446), (.slice Ao21 t440.length co21), (.slice Ao23 t443.length co23), (by first | rfl | (simp; done) | (simp [*]; done)), H', ⟨by have := HK1.out; first | omega | exact Nat.le_refl _⟩, ⟨by (with_reducible repeat (first | apply Kd.R_alloc | apply Kd.R_drewN | apply Kd.R_drew)); exact Kd.R_mono HO_431000.out (fun _ hk => ⟨hk.2.2, ⟨hk.1, hk.2.1⟩⟩)⟩, ⟨by (with_reducible repeat (first | apply Kd.R_alloc | apply Kd.R_drewN | apply Kd.R_drew)); exact Kd.R_mono HO_431001.out (fun _ hk => ⟨hk.2.2, ⟨hk.1, hk.2.1⟩⟩)⟩, ⟨by (with_reducible repeat (first | apply Kd.R_alloc | apply Kd.R_drewN | apply Kd.R_drew)); exact Kd.R_mono HO442.out (fun _ hk => ⟨hk.2.1, ⟨hk.2.2, hk.1⟩⟩)⟩, ⟨by (with_reducible repeat (first | apply Kd.R_alloc | apply Kd.R_drewN | apply Kd.R_drew)); exact Kd.R_mono HO445.out (fun _ hk => ⟨hk.2.1, ⟨hk.2.2, hk.1⟩⟩)⟩, ⟨KK⟩, ⟨KK⟩, ⟨KK⟩, ⟨KI87⟩, ⟨by repeat (first | (with_reducible first | exact HK.out | apply KeepBut.set_ | apply keep_drewN | apply keep_drew | apply keep_alloc | refine keep_far ?_ GW429.out _ | refine keep_far ?_ GW430.out _ | refine keep_far ?_ GW448.out _) | exact HK.out)⟩, ⟨KBh87 HB.out⟩⟩
    case rest =>
     clear HC13
     try clear c1
     try clear c2
     try clear p2
     try clear c3
     try clear c4
     try clear c5
     try clear c6
     try clear c7
     try clear c9
     try clear c11
     try clear c27
     try clear c27b0
     try clear c27b1
     try clear c29
     try clear c30
     try clear c31
     try clear c35
     try clear c36
     try clear c38
     try clear c39
     try clear c39b0
     try clear c39b1
     try clear c41
     try clear c42
     try clear c43
     try clear c49
     try clear c49b0
     try clear c49b1
     try clear c51
     try clear c57
     try clear c61
     try clear hcz32_0
     try clear hcz32_1
     try clear hcz32_2
     try clear hcz37_0
     try clear hcz37_1
     try clear hcz37_2
     try clear hcz44_0
     try clear hcz44_1
     try clear hcz44_2
     try clear hcz47_0
     try clear hcz47_1
     try clear hcz47_2
     try clear hfz32_0
     try clear hfz32_1
     try clear hfz32_2
     try clear hfz37_0
     try clear hfz37_1
     try clear hfz37_2
     try clear hfz44_0
     try clear hfz44_1
     try clear hfz44_2
     try clear hfz47_0
     try clear hfz47_1
     try clear hfz47_2
     obtain ⟨kq, x7_12, x1001_12, x1002_12, x449000_12, x449001_12, x449002_12, u449000, u449001, rfl, HA, HJ12, HO_431000, HO_431001, HO_449000, HO_449001, BK429, BK430, BK448, HI0, HK, HB⟩ := hcut
     cases kq with
     | zero => exact absurd HA.out (by simp [spec_l6DrawRight.j1])
     | succ kj12 =>
      have H := HA.out; clear HA; simp only [spec_l6DrawRight.j1] at H
      by_cases c64 : x7_12 = true
      ·subst c64
       have H1 : (spec_l6DrawRight.l0 kj12 t431 (wrap64 (x5_1 + 1)) s0_0 x1001_12 x1002_12 x449000_12 x449001_12 x449002_12) = some (r1, r2, r3, r4, r5) := by rw [if_pos rfl] at H; exact H
       clear H; have H := H1; clear H1; have H' := Aside0.mk H; clear H; have hnb65 := NB448_429.out; have hnc65 := NB429_448.out; have hnb66 := NB448_430.out; have hnc66 := NB430_448.out; have hnb67 := NB448_0.out; have hnc67 := NB0_448.out; obtain ⟨hcz68_0, hcz68_1, hcz68_2, hfz68_0, hfz68_1, hfz68_2⟩ := C3 BK448.out; obtain ⟨Ao69, co69, eo69⟩ := Kd.R_slice HO_449000.out; subst eo69; have hnb70 := NB430_429.out; have hnc70 := NB429_430.out; have hnb71 := NB430_0.out; have hnc71 := NB0_430.out; obtain ⟨hcz72_0, hcz72_1, hcz72_2, hfz72_0, hfz72_1, hfz72_2⟩ := C3 BK430.out; obtain ⟨Ao73, co73, eo73⟩ := Kd.R_slice HO_449001.out; subst eo73
       go_wp2
       go_roundg kj12
       case measure => have := HK1.out; have := HJ12.out; omega
       case rel => exact ⟨(wrap64 (x5_1 + 1)), (x1001_12), (x1002_12), (x449000_12), (x449001_12), (x449002_12), (.slice Ao69 x449000_12.length co69), (.slice Ao73 x449001_12.length co73), (by first | rfl | (simp; done) | (simp [*]; done)), H', ⟨by have := HK1.out; have := HJ12.out; omega⟩, ⟨RQ (RT HO_449000.out BK430.out) (hm := fun _ h => h.1.2.2)⟩, ⟨RQ (RT HO_449001.out BK430.out) (hm := fun _ h => h.1.2.2)⟩, ⟨KK⟩, ⟨by refine SK ?_; refine BP #[.slice Ao69 x449000_12.length co69, .slice Ao73 x449001_12.length co73, .int .i64 x431002_1] ?_ 2; refine SK ?_; refine BP #[.slice Ao69 x449000_12.length co69, .slice Ao15 x431001_1.length co15, .int .i64 x431002_1] ?_ 1; refine SK ?_; refine BP #[.slice Ao14 x431000_1.length co14, .slice Ao15 x431001_1.length co15, .int .i64 x431002_1] ?_ 0; exact SK BK430.out⟩, ⟨KI87⟩, ⟨by repeat (first | (with_reducible first | exact HK.out | apply KeepBut.set_ | apply keep_drewN | apply keep_drew | apply keep_alloc | refine keep_far ?_ GW429.out _ | refine keep_far ?_ GW430.out _ | refine keep_far ?_ GW448.out _) | exact HK.out)⟩, ⟨KBh87 HB.out⟩⟩
      ·replace c64 := Bool.eq_false_iff.mpr c64
       subst c64; have H1 : (spec_l6DrawRight.l0 kj12 t431 (wrap64 (x5_1 + 1)) s0_0 x1001_12 x1002_12 x431000_1 x431001_1 x431002_1) = some (r1, r2, r3, r4, r5) := by rw [if_neg (show ¬ (false = true) by decide)] at H; exact H
       clear H; have H := H1; clear H1; have H' := Aside0.mk H; clear H
       go_wp2
       go_roundg kj12
       case measure => have := HK1.out; have := HJ12.out; omega
       case rel => exact ⟨(wrap64 (x5_1 + 1)), (x1001_12), (x1002_12), (x431000_1), (x431001_1), (x431002_1), (.slice Ao14 x431000_1.length co14), (.slice Ao15 x431001_1.length co15), (by first | rfl | (simp; done) | (simp [*]; done)), H', ⟨by have := HK1.out; have := HJ12.out; omega⟩, ⟨by (with_reducible repeat (first | apply Kd.R_alloc | apply Kd.R_drewN | apply Kd.R_drew)); exact Kd.R_mono HO_431000.out (fun _ hk => hk.1)⟩, ⟨by (with_reducible repeat (first | apply Kd.R_alloc | apply Kd.R_drewN | apply Kd.R_drew)); exact Kd.R_mono HO_431001.out (fun _ hk => hk.1)⟩, ⟨KK⟩, ⟨KK⟩, ⟨KI87⟩, ⟨by repeat (first | (with_reducible first | exact HK.out | apply KeepBut.set_ | apply keep_drewN | apply keep_drew | apply keep_alloc | refine keep_far ?_ GW429.out _ | refine keep_far ?_ GW430.out _ | refine keep_far ?_ GW448.out _) | exact HK.out)⟩, ⟨KBh87 HB.out⟩⟩
   ·rw [if_neg c9] at H
    have c9b0 : decide (x5_1 < t431) = false := decide_eq_false c9; clear c9; replace H := Option.bind_eq_some_iff.mp H; obtain ⟨⟨t482, t483, t484⟩, A740, H⟩ := H
    try dsimp only at H
    have A74 := Aside0.mk A740; clear A740
    by_cases c75 : t482 = true
    ·subst c75
     have H1 : (spec_l6DrawRight.l1 k1 1 s0_0 t483 t484 ([] : List (S35)) x431001_1 x431002_1) = some (r1, r2, r3, r4, r5) := by rw [if_pos rfl] at H; exact H
     clear H; have H := H1; clear H1; have H' := Aside0.mk H; clear H
     go_wp2_with (first | ((with_reducible refine GC 61 ?_); refine goesL_ (some 55) rfl rfl Try.func61 (by kernel_rfl) rfl #[.pointer (some ⟨g, 0, none⟩), .int .i64 40] rfl KL ?_; (with_reducible refine (spec_l1Once.calls g s0_0 x1001_1 x1002_1 40 true t483 t484 w0 _ ?side1 ?side2 A74.out).mono ?_); (case side1 => exact KI87); (case side2 => exact KBh87 HB.out); rintro e w76 ⟨rfl, hi, hb, hk⟩; refine ⟨_, rfl, ?_⟩; have h_ := P7 (Kd.R_mono (Kd.R_keep (IsS87.apart (show IsS87 w0 _ g s0_0 x1001_1 x1002_1 from KI87) (KR HO_431000.out) (by decide)) hk (fun _ h => h.2)) (fun _ h => h.1)) (Kd.R_mono (Kd.R_keep (IsS87.apart (show IsS87 w0 _ g s0_0 x1001_1 x1002_1 from KI87) (KR HO_431001.out) (by decide)) hk (fun _ h => h.2)) (fun _ h => h.1)) (KW BK429.out hk NB429_0.out) (KW BK430.out hk NB430_0.out) (KeepBut.trans (KHh HK.out) hk (.inl rfl)) hb hi; clear HO_431000 HO_431001 BK429 BK430 HK HB HI0; obtain ⟨HO_431000, HO_431001, BK429, BK430, HK, HB, HI0⟩ := h_; (try clear hb); (try clear hk); (try clear hi); have hnb77 := NB430_429.out; have hnc77 := NB429_430.out; have hnb78 := NB430_0.out; have hnc78 := NB0_430.out; obtain ⟨hcz79_0, hcz79_1, hcz79_2, hfz79_0, hfz79_1, hfz79_2⟩ := C3 BK430.out))
     go_loopg [8] k1 (fun kq v8 w' => ∃ (x8_2 : Int) (x431000_2 : List (S35)) (u431000 : Value), v8 = .int .i64 x8_2 ∧ Aside0 (spec_l6DrawRight.l1 kq x8_2 s0_0 t483 t484 x431000_2 x431001_1 x431002_1 = some (r1, r2, r3, r4, r5)) ∧ Aside0 (kq ≤ k1) ∧ Aside0 (Kd.R k35 35 w' w.heap.size (fun k_ => some k_ ≠ (u431001 : Value).ownBlock) u431000 x431000_2) ∧ Aside0 (Kd.R k35 35 w' w.heap.size (fun k_ => some k_ ≠ (u431000 : Value).ownBlock) u431001 x431001_1) ∧ Aside0 (w'.heap[gb429]? = some (.cells #[(.slice none 0 0), (.slice none 0 0), .int .i64 0] 31 (0, 0))) ∧ Aside0 (w'.heap[gb430]? = some (.cells #[u431000, u431001, .int .i64 x431002_1] 31 (0, 0))) ∧ Aside0 (IsS87 w0 w' g s0_0 t483 t484) ∧ Aside0 (KeepBut w w' g none) ∧ Aside0 (Below w0.heap.size w0 w'))
     case atStart => exact ⟨(1), (([] : List (S35))), (.slice none 0 0), (by first | rfl | (simp; done) | (simp [*]; done)), H', ⟨Nat.le_refl _⟩, ⟨by first | exact Kd.R_nil _ _ _ _ _ | exact Kd.N_nil _ _ _ _ _ | exact Kd.V_nil _ _ _ _ _ | exact Kd.Q_nil _ _ _ _ _ | exact Kd.S_nil _ _ _ _ _⟩, ⟨Kd.R_mono (RF (RT HO_431001.out BK430.out)) (fun _ hk => (by simp [Value.ownBlock]))⟩, ⟨KK⟩, ⟨by refine SK ?_; refine BP #[u431000, u431001, .int .i64 x431002_1] ?_ 0; exact SK BK430.out⟩, ⟨KI87⟩, ⟨by repeat (first | (with_reducible first | exact HK.out | apply KeepBut.set_ | apply keep_drewN | apply keep_drew | apply keep_alloc | refine keep_far ?_ GW429.out _ | refine keep_far ?_ GW430.out _) | exact HK.out)⟩, ⟨KBh87 HB.out⟩⟩
     case round =>
      clear H'
      try clear c1
      try clear c2
      try clear p2
      try clear c3
      try clear c4
      try clear c5
      try clear c6
      try clear p6
      try clear c7
      try clear c9
      try clear c9b0
      try clear c11
      try clear c27
      try clear c27b0
      try clear c27b1
      try clear c29
      try clear c30
      try clear c31
      try clear c35
      try clear c36
      try clear c38
      try clear c39
      try clear c39b0
      try clear c39b1
      try clear c41
      try clear c42
      try clear c43
      try clear c49
      try clear c49b0
      try clear c49b1
      try clear c51
      try clear c57
      try clear c61
      try clear c64
      try clear p64
      try clear c65
      try clear c66
      try clear c67
      try clear c70
      try clear c71
      try clear c73
      try clear c75
      try clear c77
      try clear c78
      try clear hcz32_0
      try clear hcz32_1
      try clear hcz32_2
      try clear hcz37_0
      try clear hcz37_1
      try clear hcz37_2
      try clear hcz44_0
      try clear hcz44_1
      try clear hcz44_2
      try clear hcz47_0
      try clear hcz47_1
      try clear hcz47_2
      try clear hcz68_0
      try clear hcz68_1
      try clear hcz68_2
      try clear hcz72_0
      try clear hcz72_1
      try clear hcz72_2
      try clear hcz79_0
      try clear hcz79_1
      try clear hcz79_2
      try clear hfz32_0
      try clear hfz32_1
      try clear hfz32_2
      try clear hfz37_0
      try clear hfz37_1
      try clear hfz37_2
      try clear hfz44_0
      try clear hfz44_1
      try clear hfz44_2
      try clear hfz47_0
      try clear hfz47_1
      try clear hfz47_2
      try clear hfz68_0
      try clear hfz68_1
      try clear hfz68_2
      try clear hfz72_0
      try clear hfz72_1
      try clear hfz72_2
      try clear hfz79_0
      try clear hfz79_1
      try clear hfz79_2
      try clear p2
      obtain ⟨x8_2, x431000_2, u431000, rfl, HA, HK2, HO_431000, HO_431001, BK429, BK430, HI0, HK, HB⟩ := hrel
      cases gk with
      | zero => exact absurd HA.out (by simp [spec_l6DrawRight.l1])
      | succ k2 =>
       have H := HA.out; clear HA; simp only [spec_l6DrawRight.l1] at H
       by_cases c80 : x8_2 ≤ 4
       ·rw [if_pos c80] at H
        have c80b0 : decide (x8_2 ≤ 4) = true := decide_eq_true c80; clear c80; have H' := Aside0.mk H; clear H
        go_wp2
        go_loopg [9] k2 (fun kq v9 w' => ∃ (x9_3 : Int) (x431000_3 : List (S35)) (u431000 : Value), v9 = .int .i64 x9_3 ∧ Aside0 (spec_l6DrawRight.l2 kq x8_2 x9_3 s0_0 t483 t484 x431000_3 x431001_1 x431002_1 = some (r1, r2, r3, r4, r5)) ∧ Aside0 (kq ≤ k2) ∧ Aside0 (Kd.R k35 35 w' w.heap.size (fun k_ => some k_ ≠ (u431001 : Value).ownBlock) u431000 x431000_3) ∧ Aside0 (Kd.R k35 35 w' w.heap.size (fun k_ => some k_ ≠ (u431000 : Value).ownBlock) u431001 x431001_1) ∧ Aside0 (w'.heap[gb429]? = some (.cells #[(.slice none 0 0), (.slice none 0 0), .int .i64 0] 31 (0, 0))) ∧ Aside0 (w'.heap[gb430]? = some (.cells #[u431000, u431001, .int .i64 x431002_1] 31 (0, 0))) ∧ Aside0 (IsS87 w0 w' g s0_0 t483 t484) ∧ Aside0 (KeepBut w w' g none) ∧ Aside0 (Below w0.heap.size w0 w'))
        case atStart => exact ⟨(1), (x431000_2), (u431000), (by first | rfl | (simp; done) | (simp [*]; done)), H', ⟨Nat.le_refl _⟩, ⟨by (with_reducible repeat (first | apply Kd.R_alloc | apply Kd.R_drewN | apply Kd.R_drew)); exact HO_431000.out⟩, ⟨by (with_reducible repeat (first | apply Kd.R_alloc | apply Kd.R_drewN | apply Kd.R_drew)); exact HO_431001.out⟩, ⟨KK⟩, ⟨KK⟩, ⟨KI87⟩, ⟨by repeat (first | (with_reducible first | exact HK.out | apply KeepBut.set_ | apply keep_drewN | apply keep_drew | apply keep_alloc | refine keep_far ?_ GW429.out _ | refine keep_far ?_ GW430.out _) | exact HK.out)⟩, ⟨KBh87 HB.out⟩⟩
        case round =>
         clear H'
         try clear c1
         try clear c2
         try clear p2
         try clear c3
         try clear c4
         try clear c5
         try clear c6
         try clear p6
         try clear c7
         try clear c8
         try clear c9
         try clear c9b0
         try clear c11
         try clear c27
         try clear c27b0
         try clear c27b1
         try clear c29
         try clear c30
         try clear c31
         try clear c35
         try clear c36
         try clear c38
         try clear c39
         try clear c39b0
         try clear c39b1
         try clear c41
         try clear c42
         try clear c43
         try clear c49
         try clear c49b0
         try clear c49b1
         try clear c51
         try clear c57
         try clear c61
         try clear c64
         try clear p64
         try clear c65
         try clear c66
         try clear c67
         try clear c70
         try clear c71
         try clear c73
         try clear c75
         try clear c77
         try clear c78
         try clear c80
         try clear c80b0
         try clear hcz32_0
         try clear hcz32_1
         try clear hcz32_2
         try clear hcz37_0
         try clear hcz37_1
         try clear hcz37_2
         try clear hcz44_0
         try clear hcz44_1
         try clear hcz44_2
         try clear hcz47_0
         try clear hcz47_1
         try clear hcz47_2
         try clear hcz68_0
         try clear hcz68_1
         try clear hcz68_2
         try clear hcz72_0
         try clear hcz72_1
         try clear hcz72_2
         try clear hcz79_0
         try clear hcz79_1
         try clear hcz79_2
         try clear hfz32_0
         try clear hfz32_1
         try clear hfz32_2
         try clear hfz37_0
         try clear hfz37_1
         try clear hfz37_2
         try clear hfz44_0
         try clear hfz44_1
         try clear hfz44_2
         try clear hfz47_0
         try clear hfz47_1
         try clear hfz47_2
         try clear hfz68_0
         try clear hfz68_1
         try clear hfz68_2
         try clear hfz72_0
         try clear hfz72_1
         try clear hfz72_2
         try clear hfz79_0
         try clear hfz79_1
         try clear hfz79_2
         try clear p2
         try clear p6
         try clear p64
         obtain ⟨x9_3, x431000_3, u431000, rfl, HA, HK3, HO_431000, HO_431001, BK429, BK430, HI0, HK, HB⟩ := hrel
         cases gk with
         | zero => exact absurd HA.out (by simp [spec_l6DrawRight.l2])
         | succ k3 =>
          have H := HA.out; clear HA; simp only [spec_l6DrawRight.l2] at H
          by_cases c81 : x9_3 ≤ 50
          ·rw [if_pos c81] at H
           have c81b0 : decide (x9_3 ≤ 50) = true := decide_eq_true c81; clear c81; replace H := Option.bind_eq_some_iff.mp H; obtain ⟨t485, A820, H⟩ := H
           try dsimp only at H
           have A82 := Aside0.mk A820; clear A820
           by_cases c83 : x431000_3.length < 3518437208883
           ·rw [if_pos c83] at H
            have LMc83 := Aside0.mk c83; clear c83; obtain ⟨y486, hy486⟩ : ∃ y_ : List (S35), y_ = (x431000_3 ++ [(⟨t485, 0, false, (⟨#[]⟩ : ByteArray)⟩ : S35)]) := ⟨_, rfl⟩; replace H : (spec_l6DrawRight.l2 k3 x8_2 (wrap64 (x9_3 + 1)) s0_0 t483 t484 y486 x431001_1 x431002_1) = some (r1, r2, r3, r4, r5) := by first | (rw [hy486]; with_reducible exact H) | (have H2_ := (Option.bind_some _ _).symm.trans H; rw [hy486]; with_reducible exact H2_) | (have H2_ := (Option.bind_some _ _).symm.trans H; with_reducible exact H2_) | with_reducible exact H | (rw [hy486]; exact H) | exact H
            have Ny486 := Aside0.mk hy486; clear hy486; have H' := Aside0.mk H; clear H
            try go_wp2
            have h_ := P7 (Kd.R_drew HO_431000.out) (Kd.R_drew HO_431001.out) (blk_drew BK429.out) (blk_drew BK430.out) (IsS87.drew HI0.out) (keep_drew HK.out) (below_drew1 HB.out); clear HO_431000 HO_431001 BK429 BK430 HI0 HK HB; obtain ⟨HO_431000, HO_431001, BK429, BK430, HI0, HK, HB⟩ := h_; refine start_ (n := 10) (S := fun w' => w'.cell? ⟨gb430, 0, none⟩ = some (u431000) ∧ w'.cell? ⟨gb430, 1, none⟩ = some (u431001) ∧ w'.cell? ⟨gb430, 2, none⟩ = some (.int .i64 x431002_1)) (ds := [9]) #[F, F, F, F, F, F, F, F, F, F] (by kernel_rfl) rfl rfl ⟨(blk_cell BK430.out 0).trans rfl, (blk_cell BK430.out 1).trans rfl, (blk_cell BK430.out 2).trans rfl⟩ (fun hHeld => ?_); refine with_tabW spec_l6DrawRight.tab25 spec_l6DrawRight.bits25 (fun HT_ HW_ => ?_); generalize wr.drew = w84 at HO_431000 HO_431001 BK429 BK430 HI0 HK HB hHeld ⊢; refine pure_ (i := 0) (N := some 65) (v := ?_) (a' := ?_) #[T, F, F, F, F, F, F, F, F, F] rfl rfl (any_of HT_.out (by kernel_rfl)) (fun _ _ _ h => h) (Or.inl ⟨by rfl, ?_⟩) ?_ ?_; rotate_left
            ·exact KV
            rotate_left
            ·exact KA
            refine pure_ (i := 2) (N := some 67) (v := ?_) (a' := ?_) #[T, F, T, F, F, F, F, F, F, F] rfl rfl (any_of HT_.out (by kernel_rfl)) (fun _ _ _ h => h) (Or.inl ⟨by rfl, ?_⟩) ?_ ?_; rotate_left
            ·exact KV
            rotate_left
            ·exact KA
            refine pure_ (i := 3) (N := some 68) (v := ?_) (a' := ?_) #[T, F, T, T, F, F, F, F, F, F] rfl rfl (any_of HT_.out (by kernel_rfl)) (fun _ _ _ h => h) (Or.inl ⟨by rfl, ?_⟩) ?_ ?_; rotate_left
            ·exact KV
            rotate_left
            ·exact KA
            refine take_ (i := 1) (N := some 66) (v := ?_) (a' := ?_) #[T, T, T, T, F, F, F, F, F, F] rfl rfl (take_ofW HT_.out HW_.out (by kernel_rfl)) (fun _ _ _ h => h) (Or.inl ⟨by rfl, ?_⟩) hHeld ?_ ?_; rotate_left
            ·rintro w' ⟨s0, s1, s2⟩
             go_simp; with_reducible rfl
            rotate_left
            ·exact KA
            refine one_ (i := 4) (N := some 69) #[T, T, T, T, T, F, F, F, F, F] rfl rfl (one_of HT_.out (by kernel_rfl)) (by decide) (fun K hK => ?_); refine goes_ Try.func83 (by kernel_rfl) rfl #[.int .i64 x8_2, .int .i64 x9_3] (by rfl) rfl rfl KL ?_; (with_reducible refine (spec_l1Place.calls x8_2 x9_3 t485 _ A82.out).mono ?_); rintro e w' ⟨rfl, ⟨nd, rfl⟩⟩; refine ⟨_, rfl, ?_⟩; refine hK.out _ _ (D3 BK430.out) (fun hHeld => ?_); clear hK K; refine norm_ (a' := ?_) ?_ ?_; rotate_left
            ·show Act.put _ (some 69) _ = _; exact KA
            refine pure_ (i := 5) (N := some 70) (v := ?_) (a' := ?_) #[T, T, T, T, T, T, F, F, F, F] rfl rfl (any_of HT_.out (by kernel_rfl)) (fun _ _ _ h => h) (Or.inl ⟨by rfl, ?_⟩) ?_ ?_; rotate_left
            ·exact KV
            rotate_left
            ·exact KA
            refine one_ (i := 6) (N := some 71) #[T, T, T, T, T, T, T, F, F, F] rfl rfl (one_of HT_.out (by kernel_rfl)) (by decide) (fun K hK => ?_); refine value_ (w1 := ?_) (v := ?_) (by rfl) rfl ?_ ?_; rotate_left 2
            ·go_simp
             constructor
             ·rfl
             ·rfl
            refine hK.out _ _ ⟨(blk_cell (blk_alloc BK430.out _) 0).trans rfl, (blk_cell (blk_alloc BK430.out _) 1).trans rfl, (blk_cell (blk_alloc BK430.out _) 2).trans rfl⟩ (fun hHeld => ?_); clear hK K; refine norm_ (a' := ?_) ?_ ?_; rotate_left
            ·show Act.put _ (some 71) _ = _; exact KA
            refine one_ (i := 7) (N := some 72) #[T, T, T, T, T, T, T, T, F, F] rfl rfl (one_of HT_.out (by kernel_rfl)) (by decide) (fun K hK => ?_); refine Kd.R_append_step k35 w.heap.size (by rfl) (.tmp 66) (.tmp 71) 29 35 (.agg #[(.int .i64 0), (.int .i64 0), (.bool false), (.string ⟨#[]⟩)]) 40 rfl Try.underlying29 info35 rfl (by decide) (by omega) u431000 x431000_3 (⟨t485, 0, false, (⟨#[]⟩ : ByteArray)⟩ : S35) [.int .i64 t485, .int .i64 0, .bool false, .string (⟨#[]⟩ : ByteArray)] (fun k_ => some k_ ≠ (u431001 : Value).ownBlock) (fun _ => False) rfl rfl ?aP (fun _ hk => hk.elim) ?aF ?aO (Below.refl _ _) ?aS ?aL ?_; (case aP => exact k35_mkM _ _ _ (⟨t485, 0, false, (⟨#[]⟩ : ByteArray)⟩ : S35)); (case aF => exact (fun k_ hk => Kd.fresh' (Kd.R_lt (KR HO_431001.out)) k_ hk)); (case aO => exact (KR HO_431000.out)); (case aS => exact (KS HK.out)); (case aL => have := LMc83.out; omega); intro v487 w85 ho hb hg hat; rw [← Ny486.out] at ho; have h_ := P7 (Kd.R_after (ok := (fun _ => True)) (by (with_reducible repeat (first | apply Kd.R_alloc | apply Kd.R_drewN | apply Kd.R_drew)); exact Kd.R_mono HO_431001.out (fun _ hk => ⟨trivial, hk⟩)) hg hat) (BW BK429.out hg (Kd.R_ne HO_431000.out BK429.out (by decide))) (BW BK430.out hg (Kd.R_ne HO_431000.out BK430.out (by decide))) (IsS87.grown (KI87) hg (IsS87.own_ne HI0.out HO_431000.out (by decide))) (below_weaken (KBh87 HB.out) HL.out hb) (KeepBut.trans (KHh HK.out) (KeepBut.of_grown hg g) (Kd.R_base2 HO_431000.out)) ho; clear HO_431001 BK429 BK430 HI0 HB HK HO_431000; obtain ⟨HO_431001, BK429, BK430, HI0, HB, HK, HO488⟩ := h_; clear ho hb hg hat; obtain ⟨Ao86, co86, eo86⟩ := Kd.R_slice HO488.out; (first | subst eo86 | (injection eo86 with f1_ f2_ f3_; have f4_ := f1_.symm; have f5_ := f3_.symm; clear f1_ f2_ f3_; subst f4_; subst f5_)); refine hK.out _ _ (D3 BK430.out) (fun hHeld => ?_); clear hK K; refine norm_ (a' := ?_) ?_ ?_; rotate_left
            ·show Act.put _ (some 72) _ = _; exact KA
            refine pure_ (i := 8) (N := some 73) (v := ?_) (a' := ?_) #[T, T, T, T, T, T, T, T, T, F] rfl rfl (any_of HT_.out (by kernel_rfl)) (fun _ _ _ h => h) (Or.inl ⟨by rfl, ?_⟩) ?_ ?_; rotate_left
            ·exact KV
            rotate_left
            ·exact KA
            refine last_ (i := 9) (N := none) #[T, T, T, T, T, T, T, T, T, T] rfl rfl (one_of HT_.out (by kernel_rfl)) (by decide) (fun K hK => ?_); have hs87 : w85.cell? ⟨gb430, 0, none⟩ = some (u431000) := (blk_cell BK430.out 0).trans rfl; have hfs87 := blk_frozen BK430.out 0; have hns87_0 := NB429_430.out; have hms87_0 := NB430_429.out; refine skip_ (w1 := ?_) (by rfl) rfl ?_ ?_; rotate_left
            ·go_simp
             rfl
            refine hK.out _ _ ?_; clear hK K; refine done_ (done_of HT_.out (by kernel_rfl)) ?_
            try go_wp2
            go_roundg k3
            case measure => have := HK1.out; have := HK2.out; have := HK3.out; omega
            case rel => exact ⟨(wrap64 (x9_3 + 1)), (y486), (.slice Ao86 y486.length co86), (by first | rfl | (simp; done) | (simp [*]; done)), H', ⟨by have := HK1.out; have := HK2.out; have := HK3.out; omega⟩, ⟨RQ (RT HO488.out BK430.out)⟩, ⟨RQ (RT HO_431001.out BK430.out) (hm := fun _ h => h.1.2)⟩, ⟨KK⟩, ⟨by refine SK ?_; refine BP #[u431000, u431001, .int .i64 x431002_1] ?_ 0; exact SK BK430.out⟩, ⟨KI87⟩, ⟨by repeat (first | (with_reducible first | exact HK.out | apply KeepBut.set_ | apply keep_drewN | apply keep_drew | apply keep_alloc | refine keep_far ?_ GW429.out _ | refine keep_far ?_ GW430.out _) | exact HK.out)⟩, ⟨KBh87 HB.out⟩⟩
           ·rw [if_neg c83] at H
            exact absurd H (by simp)
          ·rw [if_neg c81] at H
           have c81b0 : decide (x9_3 ≤ 50) = false := decide_eq_false c81; clear c81; have H' := Aside0.mk H; clear H
           go_wp2
           go_roundg k3
           case measure => have := HK1.out; have := HK2.out; have := HK3.out; omega
           case rel => exact ⟨(wrap64 (x8_2 + 1)), (x431000_3), (u431000), (by first | rfl | (simp; done) | (simp [*]; done)), H', ⟨by have := HK1.out; have := HK2.out; have := HK3.out; omega⟩, ⟨by (with_reducible repeat (first | apply Kd.R_alloc | apply Kd.R_drewN | apply Kd.R_drew)); exact HO_431000.out⟩, ⟨by (with_reducible repeat (first | apply Kd.R_alloc | apply Kd.R_drewN | apply Kd.R_drew)); exact HO_431001.out⟩, ⟨KK⟩, ⟨KK⟩, ⟨KI87⟩, ⟨by repeat (first | (with_reducible first | exact HK.out | apply KeepBut.set_ | apply keep_drewN | apply keep_drew | apply keep_alloc | refine keep_far ?_ GW429.out _ | refine keep_far ?_ GW430.out _) | exact HK.out)⟩, ⟨KBh87 HB.out⟩⟩
       ·rw [if_neg c80] at H
        have c80b0 : decide (x8_2 ≤ 4) = false := decide_eq_false c80; clear c80; simp only [Option.some.injEq, Prod.mk.injEq] at H; obtain ⟨rfl, rfl, rfl, rfl, rfl⟩ := H; have hnb88 := NB430_429.out; have hnc88 := NB429_430.out; have hnb89 := NB430_0.out; have hnc89 := NB0_430.out; obtain ⟨hcz90_0, hcz90_1, hcz90_2, hfz90_0, hfz90_1, hfz90_2⟩ := C3 BK430.out; obtain ⟨Ao91, co91, eo91⟩ := Kd.R_slice HO_431000.out; subst eo91; have hnb92 := NB429_0.out; have hnc92 := NB0_429.out; obtain ⟨hcz93_0, hcz93_1, hcz93_2, hfz93_0, hfz93_1, hfz93_2⟩ := C3 BK429.out; obtain ⟨Ao94, co94, eo94⟩ := Kd.R_slice HO_431001.out; subst eo94
        go_wp2
        refine bodyPost_ret (results_cell_row rfl _ _ gb429 31 #[.slice Ao91 x431000_2.length co91, .slice Ao94 x431001_1.length co94, .int .i64 x431002_1] (0, 0) _ rfl (by refine SK ?_; refine BP #[.slice Ao91 x431000_2.length co91, .slice Ao94 x431001_1.length co94, .int .i64 0] ?_ 2; refine SK ?_; refine BP #[.slice Ao91 x431000_2.length co91, .slice none 0 0, .int .i64 0] ?_ 1; refine SK ?_; refine BP #[.slice none 0 0, .slice none 0 0, .int .i64 0] ?_ 0; exact SK BK429.out) Try.underlying31 rfl (by kernel_rfl)) rfl ?_; exact ⟨_, _, KE, RQ (RT HO_431000.out BK429.out), RQ (RT HO_431001.out BK429.out), KI87, KBh87 HB.out, by repeat (first | (with_reducible first | exact HK.out | apply KeepBut.set_ | apply keep_drewN | apply keep_drew | apply keep_alloc | refine keep_far ?_ GW429.out _ | refine keep_far ?_ GW430.out _) | exact HK.out)⟩
    ·replace c75 := Bool.eq_false_iff.mpr c75
     subst c75; have H1 : (some (x431000_1, x431001_1, x431002_1, t483, t484)) = some (r1, r2, r3, r4, r5) := by rw [if_neg (show ¬ (false = true) by decide)] at H; exact H
     clear H; have H := H1; clear H1; simp only [Option.some.injEq, Prod.mk.injEq] at H; obtain ⟨rfl, rfl, rfl, rfl, rfl⟩ := H
     go_wp2_with (first | ((with_reducible refine GC 61 ?_); refine goesL_ (some 55) rfl rfl Try.func61 (by kernel_rfl) rfl #[.pointer (some ⟨g, 0, none⟩), .int .i64 40] rfl KL ?_; (with_reducible refine (spec_l1Once.calls g s0_0 x1001_1 x1002_1 40 false t483 t484 w0 _ ?side1 ?side2 A74.out).mono ?_); (case side1 => exact KI87); (case side2 => exact KBh87 HB.out); rintro e w95 ⟨rfl, hi, hb, hk⟩; refine ⟨_, rfl, ?_⟩; have h_ := P7 (Kd.R_mono (Kd.R_keep (IsS87.apart (show IsS87 w0 _ g s0_0 x1001_1 x1002_1 from KI87) (KR HO_431000.out) (by decide)) hk (fun _ h => h.2)) (fun _ h => h.1)) (Kd.R_mono (Kd.R_keep (IsS87.apart (show IsS87 w0 _ g s0_0 x1001_1 x1002_1 from KI87) (KR HO_431001.out) (by decide)) hk (fun _ h => h.2)) (fun _ h => h.1)) (KW BK429.out hk NB429_0.out) (KW BK430.out hk NB430_0.out) (KeepBut.trans (KHh HK.out) hk (.inl rfl)) hb hi; clear HO_431000 HO_431001 BK429 BK430 HK HB HI0; obtain ⟨HO_431000, HO_431001, BK429, BK430, HK, HB, HI0⟩ := h_; (try clear hb); (try clear hk); (try clear hi); have hnb96 := NB430_429.out; have hnc96 := NB429_430.out; have hnb97 := NB430_0.out; have hnc97 := NB0_430.out; obtain ⟨hcz98_0, hcz98_1, hcz98_2, hfz98_0, hfz98_1, hfz98_2⟩ := C3 BK430.out; obtain ⟨Ao99, co99, eo99⟩ := Kd.R_slice HO_431000.out; subst eo99; have hnb100 := NB429_0.out; have hnc100 := NB0_429.out; obtain ⟨hcz101_0, hcz101_1, hcz101_2, hfz101_0, hfz101_1, hfz101_2⟩ := C3 BK429.out; obtain ⟨Ao102, co102, eo102⟩ := Kd.R_slice HO_431001.out; subst eo102))
     refine bodyPost_ret (results_cell_row rfl _ _ gb429 31 #[.slice Ao99 x431000_1.length co99, .slice Ao102 x431001_1.length co102, .int .i64 x431002_1] (0, 0) _ rfl (by refine SK ?_; refine BP #[.slice Ao99 x431000_1.length co99, .slice Ao102 x431001_1.length co102, .int .i64 0] ?_ 2; refine SK ?_; refine BP #[.slice Ao99 x431000_1.length co99, .slice none 0 0, .int .i64 0] ?_ 1; refine SK ?_; refine BP #[.slice none 0 0, .slice none 0 0, .int .i64 0] ?_ 0; exact SK BK429.out) Try.underlying31 rfl (by kernel_rfl)) rfl ?_; exact ⟨_, _, KE, RQ (RT HO_431000.out BK429.out), RQ (RT HO_431001.out BK429.out), KI87, KBh87 HB.out, by repeat (first | (with_reducible first | exact HK.out | apply KeepBut.set_ | apply keep_drewN | apply keep_drew | apply keep_alloc | refine keep_far ?_ GW429.out _ | refine keep_far ?_ GW430.out _) | exact HK.out)⟩

end Go.Proofs.Ytnoghojlpicecaa.PFnEras
