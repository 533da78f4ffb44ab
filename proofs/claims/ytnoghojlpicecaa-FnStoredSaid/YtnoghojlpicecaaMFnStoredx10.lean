-- What each Go function that this law reaches comes to: written by a program out of the translation.
import Derived.Test.YtnoghojlpicecaaMFnStoredx0
import Derived.Test.YtnoghojlpicecaaMFnStoredx2
import Derived.Test.YtnoghojlpicecaaMFnStoredx6
import Derived.Test.YtnoghojlpicecaaMFnStoredx8
import Derived.Test.YtnoghojlpicecaaMFnStoredx9
namespace Go.Proofs.Ytnoghojlpicecaa.PFnStored
open Go.RowKit Go.Proofs.YtnoghojlpicecaaW.PrintWords Go.Proofs.YtnoghojlpicecaaW.PrintLast Go.Proofs.YtnoghojlpicecaaW.PrintMore
attribute [local go_sem] max2_int min2_int max_two min_two max_three min_three max_four min_four   -- for this text's walks alone
set_option linter.unusedVariables false
set_option linter.unusedSimpArgs false

/-! ### spec_l6DrawRight: function 82 -/
mutual
def spec_l6DrawRight.l0 : Nat → Int → Int → List Int → Int → Int → List (S35) → List (S35) → Int → Option ((List (S35)) × (List (S35)) × Int × Int × Int)
 | 0, _, _, _, _, _, _, _, _ => none
 | k + 1, x4, x5, x1000, x1001, x1002, x451000, x451001, x451002 => if x5 < x4 then ((spec_l3DrawRight.f x1000 x1001 x1002).bind fun bt454 => ((spec_StorePut.f k x451000 x451001 x451002 bt454.1 bt454.2.1 bt454.2.2.1 bt454.2.2.2.1).bind fun bt460 => ((spec_l1Below.f x1000 bt454.2.2.2.2.1 bt454.2.2.2.2.2 6).bind fun bt469 => (if bt469.1 = 0 then ((spec_StoreSync.f k x451000 x451001 x451002).bind fun bt472 => (spec_l6DrawRight.j1 k x4 x5 bt472.2.2.2 x1000 bt469.2.1 bt469.2.2 x451000 x451001 x451002 bt472.1 bt472.2.1 bt472.2.2.1)) else (if bt469.1 = 1 then ((spec_StoreSync.f k bt460.1 bt460.2.1 bt460.2.2.1).bind fun bt480 => (spec_l6DrawRight.j1 k x4 x5 bt480.2.2.2 x1000 bt469.2.1 bt469.2.2 x451000 x451001 x451002 bt480.1 bt480.2.1 bt480.2.2.1)) else (if bt469.1 = 2 then ((spec_l1Once.f x1000 bt469.2.1 bt469.2.2 3).bind fun bt488 => (if bt488.1 = true then ((spec_l1Below.f x1000 bt488.2.1 bt488.2.2 4).bind fun bt491 => ((spec_StoreSeal.f k x451000 x451001 x451002 bt491.1).bind fun bt494 => (spec_l6DrawRight.j1 k x4 x5 bt494.2.2.2 x1000 bt491.2.1 bt491.2.2 x451000 x451001 x451002 bt494.1 bt494.2.1 bt494.2.2.1))) else (spec_l6DrawRight.j1 k x4 x5 bt460.2.2.2 x1000 bt488.2.1 bt488.2.2 x451000 x451001 x451002 bt460.1 bt460.2.1 bt460.2.2.1))) else (spec_l6DrawRight.j1 k x4 x5 bt460.2.2.2 x1000 bt469.2.1 bt469.2.2 x451000 x451001 x451002 bt460.1 bt460.2.1 bt460.2.2.1))))))) else ((spec_l1Once.f x1000 x1001 x1002 40).bind fun bt502 => (if bt502.1 = true then (spec_l6DrawRight.l1 k 1 x1000 bt502.2.1 bt502.2.2 ([] : List (S35)) x451001 x451002) else (some (x451000, x451001, x451002, bt502.2.1, bt502.2.2))))
def spec_l6DrawRight.j1 : Nat → Int → Int → Bool → List Int → Int → Int → List (S35) → List (S35) → Int → List (S35) → List (S35) → Int → Option ((List (S35)) × (List (S35)) × Int × Int × Int)
 | 0, _, _, _, _, _, _, _, _, _, _, _, _ => none
 | k + 1, x4, x5, x7, x1000, x1001, x1002, x451000, x451001, x451002, x469000, x469001, x469002 => if x7 = true then (spec_l6DrawRight.l0 k x4 (wrap64 (x5 + 1)) x1000 x1001 x1002 x469000 x469001 x469002) else (spec_l6DrawRight.l0 k x4 (wrap64 (x5 + 1)) x1000 x1001 x1002 x451000 x451001 x451002)
def spec_l6DrawRight.l1 : Nat → Int → List Int → Int → Int → List (S35) → List (S35) → Int → Option ((List (S35)) × (List (S35)) × Int × Int × Int)
 | 0, _, _, _, _, _, _, _ => none
 | k + 1, x8, x1000, x1001, x1002, x451000, x451001, x451002 => if x8 ≤ 4 then (spec_l6DrawRight.l2 k x8 1 x1000 x1001 x1002 x451000 x451001 x451002) else (some (x451000, x451001, x451002, x1001, x1002))
def spec_l6DrawRight.l2 : Nat → Int → Int → List Int → Int → Int → List (S35) → List (S35) → Int → Option ((List (S35)) × (List (S35)) × Int × Int × Int)
 | 0, _, _, _, _, _, _, _, _ => none
 | k + 1, x8, x9, x1000, x1001, x1002, x451000, x451001, x451002 => if x9 ≤ 50 then ((spec_l1Place.f x8 x9).bind fun t505 => (if x451000.length < 3518437208883 then (spec_l6DrawRight.l2 k x8 (wrap64 (x9 + 1)) x1000 x1001 x1002 (x451000 ++ [(⟨t505, 0, false, (⟨#[]⟩ : ByteArray)⟩ : S35)]) x451001 x451002) else (none))) else (spec_l6DrawRight.l1 k (wrap64 (x8 + 1)) x1000 x1001 x1002 x451000 x451001 x451002)
end
def spec_l6DrawRight.f (k : Nat) (s0_0 : List Int) (s0_1 : Int) (s0_2 : Int) : Option ((List (S35)) × (List (S35)) × Int × Int × Int) := (spec_l1Below.f s0_0 s0_1 s0_2 8).bind fun bt451 => (spec_l6DrawRight.l0 k bt451.1 0 s0_0 bt451.2.1 bt451.2.2 ([] : List (S35)) ([] : List (S35)) 0)
theorem spec_l6DrawRight.mono_l : ∀ k, (∀ y0 y1 y2 y3 y4 y5 y6 y7, LeO (spec_l6DrawRight.l0 k y0 y1 y2 y3 y4 y5 y6 y7) (spec_l6DrawRight.l0 (k + 1) y0 y1 y2 y3 y4 y5 y6 y7)) ∧ (∀ y0 y1 y2 y3 y4 y5 y6 y7 y8 y9 y10 y11, LeO (spec_l6DrawRight.j1 k y0 y1 y2 y3 y4 y5 y6 y7 y8 y9 y10 y11) (spec_l6DrawRight.j1 (k + 1) y0 y1 y2 y3 y4 y5 y6 y7 y8 y9 y10 y11)) ∧ (∀ y0 y1 y2 y3 y4 y5 y6, LeO (spec_l6DrawRight.l1 k y0 y1 y2 y3 y4 y5 y6) (spec_l6DrawRight.l1 (k + 1) y0 y1 y2 y3 y4 y5 y6)) ∧ (∀ y0 y1 y2 y3 y4 y5 y6 y7, LeO (spec_l6DrawRight.l2 k y0 y1 y2 y3 y4 y5 y6 y7) (spec_l6DrawRight.l2 (k + 1) y0 y1 y2 y3 y4 y5 y6 y7))
 | 0 => ⟨fun _ _ _ _ _ _ _ _ r h => by simp [spec_l6DrawRight.l0] at h, fun _ _ _ _ _ _ _ _ _ _ _ _ r h => by simp [spec_l6DrawRight.j1] at h, fun _ _ _ _ _ _ _ r h => by simp [spec_l6DrawRight.l1] at h, fun _ _ _ _ _ _ _ _ r h => by simp [spec_l6DrawRight.l2] at h⟩
 | k + 1 => by
  obtain ⟨ih0, ih1, ih2, ih3⟩ := spec_l6DrawRight.mono_l k; refine ⟨?_, ?_, ?_, ?_⟩
  ·intro y0 y1 y2 y3 y4 y5 y6 y7
   unfold spec_l6DrawRight.l0
   repeat' first
   | (with_reducible exact ih0 _ _ _ _ _ _ _ _)
   | (with_reducible exact ih1 _ _ _ _ _ _ _ _ _ _ _ _)
   | (with_reducible exact ih2 _ _ _ _ _ _ _)
   | (with_reducible exact ih3 _ _ _ _ _ _ _ _)
   | (with_reducible exact spec_StorePut.mono _ _ _ _ _ _ _ _)
   | (with_reducible exact spec_StoreSeal.mono _ _ _ _ _)
   | (with_reducible exact spec_StoreSync.mono _ _ _ _)
   | (with_reducible exact LeO.refl _)
   | (with_reducible exact LeO.none _)
   | (with_reducible refine LeO.ite ?_ ?_)
   | (with_reducible refine LeO.bind ?_ (fun _ => ?_))
   | exact ih0 _ _ _ _ _ _ _ _
   | exact ih1 _ _ _ _ _ _ _ _ _ _ _ _
   | exact ih2 _ _ _ _ _ _ _
   | exact ih3 _ _ _ _ _ _ _ _
   | exact spec_StorePut.mono _ _ _ _ _ _ _ _
   | exact spec_StoreSeal.mono _ _ _ _ _
   | exact spec_StoreSync.mono _ _ _ _
   | exact LeO.none _
   | refine LeO.ite ?_ ?_
   | refine LeO.bind ?_ (fun _ => ?_)
  ·intro y0 y1 y2 y3 y4 y5 y6 y7 y8 y9 y10 y11
   unfold spec_l6DrawRight.j1
   repeat' first
   | (with_reducible exact ih0 _ _ _ _ _ _ _ _)
   | (with_reducible exact ih1 _ _ _ _ _ _ _ _ _ _ _ _)
   | (with_reducible exact ih2 _ _ _ _ _ _ _)
   | (with_reducible exact ih3 _ _ _ _ _ _ _ _)
   | (with_reducible exact spec_StorePut.mono _ _ _ _ _ _ _ _)
   | (with_reducible exact spec_StoreSeal.mono _ _ _ _ _)
   | (with_reducible exact spec_StoreSync.mono _ _ _ _)
   | (with_reducible exact LeO.refl _)
   | (with_reducible exact LeO.none _)
   | (with_reducible refine LeO.ite ?_ ?_)
   | (with_reducible refine LeO.bind ?_ (fun _ => ?_))
   | exact ih0 _ _ _ _ _ _ _ _
   | exact ih1 _ _ _ _ _ _ _ _ _ _ _ _
   | exact ih2 _ _ _ _ _ _ _
   | exact ih3 _ _ _ _ _ _ _ _
   | exact spec_StorePut.mono _ _ _ _ _ _ _ _
   | exact spec_StoreSeal.mono _ _ _ _ _
   | exact spec_StoreSync.mono _ _ _ _
   | exact LeO.none _
   | refine LeO.ite ?_ ?_
   | refine LeO.bind ?_ (fun _ => ?_)
  ·intro y0 y1 y2 y3 y4 y5 y6
   unfold spec_l6DrawRight.l1
   repeat' first
   | (with_reducible exact ih0 _ _ _ _ _ _ _ _)
   | (with_reducible exact ih1 _ _ _ _ _ _ _ _ _ _ _ _)
   | (with_reducible exact ih2 _ _ _ _ _ _ _)
   | (with_reducible exact ih3 _ _ _ _ _ _ _ _)
   | (with_reducible exact spec_StorePut.mono _ _ _ _ _ _ _ _)
   | (with_reducible exact spec_StoreSeal.mono _ _ _ _ _)
   | (with_reducible exact spec_StoreSync.mono _ _ _ _)
   | (with_reducible exact LeO.refl _)
   | (with_reducible exact LeO.none _)
   | (with_reducible refine LeO.ite ?_ ?_)
   | (with_reducible refine LeO.bind ?_ (fun _ => ?_))
   | exact ih0 _ _ _ _ _ _ _ _
   | exact ih1 _ _ _ _ _ _ _ _ _ _ _ _
   | exact ih2 _ _ _ _ _ _ _
   | exact ih3 _ _ _ _ _ _ _ _
   | exact spec_StorePut.mono _ _ _ _ _ _ _ _
   | exact spec_StoreSeal.mono _ _ _ _ _
   | exact spec_StoreSync.mono _ _ _ _
   | exact LeO.none _
   | refine LeO.ite ?_ ?_
   | refine LeO.bind ?_ (fun _ => ?_)
  ·intro y0 y1 y2 y3 y4 y5 y6 y7
   unfold spec_l6DrawRight.l2
   repeat' first
   | (with_reducible exact ih0 _ _ _ _ _ _ _ _)
   | (with_reducible exact ih1 _ _ _ _ _ _ _ _ _ _ _ _)
   | (with_reducible exact ih2 _ _ _ _ _ _ _)
   | (with_reducible exact ih3 _ _ _ _ _ _ _ _)
   | (with_reducible exact spec_StorePut.mono _ _ _ _ _ _ _ _)
   | (with_reducible exact spec_StoreSeal.mono _ _ _ _ _)
   | (with_reducible exact spec_StoreSync.mono _ _ _ _)
   | (with_reducible exact LeO.refl _)
   | (with_reducible exact LeO.none _)
   | (with_reducible refine LeO.ite ?_ ?_)
   | (with_reducible refine LeO.bind ?_ (fun _ => ?_))
   | exact ih0 _ _ _ _ _ _ _ _
   | exact ih1 _ _ _ _ _ _ _ _ _ _ _ _
   | exact ih2 _ _ _ _ _ _ _
   | exact ih3 _ _ _ _ _ _ _ _
   | exact spec_StorePut.mono _ _ _ _ _ _ _ _
   | exact spec_StoreSeal.mono _ _ _ _ _
   | exact spec_StoreSync.mono _ _ _ _
   | exact LeO.none _
   | refine LeO.ite ?_ ?_
   | refine LeO.bind ?_ (fun _ => ?_)
theorem spec_l6DrawRight.mono : ∀ a0 a1 a2 k, LeO (spec_l6DrawRight.f k a0 a1 a2) (spec_l6DrawRight.f (k + 1) a0 a1 a2) := by
 intro a0 a1 a2 k; obtain ⟨ih0, ih1, ih2, ih3⟩ := spec_l6DrawRight.mono_l k
 unfold spec_l6DrawRight.f
 repeat' first
   | (with_reducible exact ih0 _ _ _ _ _ _ _ _)
   | (with_reducible exact ih1 _ _ _ _ _ _ _ _ _ _ _ _)
   | (with_reducible exact ih2 _ _ _ _ _ _ _)
   | (with_reducible exact ih3 _ _ _ _ _ _ _ _)
   | (with_reducible exact spec_StorePut.mono _ _ _ _ _ _ _ _)
   | (with_reducible exact spec_StoreSeal.mono _ _ _ _ _)
   | (with_reducible exact spec_StoreSync.mono _ _ _ _)
   | (with_reducible exact LeO.refl _)
   | (with_reducible exact LeO.none _)
   | (with_reducible refine LeO.ite ?_ ?_)
   | (with_reducible refine LeO.bind ?_ (fun _ => ?_))
   | exact ih0 _ _ _ _ _ _ _ _
   | exact ih1 _ _ _ _ _ _ _ _ _ _ _ _
   | exact ih2 _ _ _ _ _ _ _
   | exact ih3 _ _ _ _ _ _ _ _
   | exact spec_StorePut.mono _ _ _ _ _ _ _ _
   | exact spec_StoreSeal.mono _ _ _ _ _
   | exact spec_StoreSync.mono _ _ _ _
   | exact LeO.none _
   | refine LeO.ite ?_ ?_
   | refine LeO.bind ?_ (fun _ => ?_)
def spec_l6DrawRight.T6 : Bool × List (List Nat × List Nat) := (true, [([], []), ([], []), ([1], [1]), ([0, 2, 2], [0, 2]), ([3], [3]), ([4], [4]), ([4], [4]), ([], []), ([7, 5, 3, 0, 1, 2, 3, 4, 5, 7], [5, 7]), ([6, 8, 0, 1, 2, 3, 4, 5, 6, 7, 8], [6])])
def spec_l6DrawRight.B6 : List Nat := [0, 0, 2, 7, 15, 31, 31, 0, 191, 511]
theorem spec_l6DrawRight.tab6 : rtab .any (opsOf Try.f82 6) = spec_l6DrawRight.T6 := by kernel_rfl
theorem spec_l6DrawRight.bits6 : waitsOk spec_l6DrawRight.T6.2 spec_l6DrawRight.B6 = true := by kernel_rfl
def spec_l6DrawRight.T14 : Bool × List (List Nat × List Nat) := (true, [([], []), ([], []), ([1], [1]), ([0, 2, 2], [0, 2]), ([3], [3]), ([4], [4]), ([4], [4]), ([5, 3, 0, 1, 2, 3, 4, 5], [5]), ([6, 7, 0, 1, 2, 3, 4, 5, 6, 7], [6])])
def spec_l6DrawRight.B14 : List Nat := [0, 0, 2, 7, 15, 31, 31, 63, 255]
theorem spec_l6DrawRight.tab14 : rtab .any (opsOf Try.f82 14) = spec_l6DrawRight.T14 := by kernel_rfl
theorem spec_l6DrawRight.bits14 : waitsOk spec_l6DrawRight.T14.2 spec_l6DrawRight.B14 = true := by kernel_rfl
def spec_l6DrawRight.T25 : Bool × List (List Nat × List Nat) := (true, [([], []), ([0], [0]), ([], []), ([], []), ([2, 3], [2, 3]), ([4], [4]), ([5], [5]), ([1, 6, 4], [1, 6]), ([0, 1, 2, 3, 4, 5, 6, 7], []), ([8, 7, 7, 0, 1, 2, 3, 4, 5, 6, 7], [7, 8])])
def spec_l6DrawRight.B25 : List Nat := [0, 1, 0, 0, 12, 28, 60, 127, 255, 511]
theorem spec_l6DrawRight.tab25 : rtab .any (opsOf Try.f82 25) = spec_l6DrawRight.T25 := by kernel_rfl
theorem spec_l6DrawRight.bits25 : waitsOk spec_l6DrawRight.T25.2 spec_l6DrawRight.B25 = true := by kernel_rfl
set_option maxHeartbeats 8000000 in
set_option maxRecDepth 100000 in
theorem spec_l6DrawRight.calls (k : Nat) (g : Nat) (s0_0 : List Int) (s0_1 : Int) (s0_2 : Int) (r1 : List (S35)) (r2 : List (S35)) (r3 : Int) (r4 : Int) (r5 : Int) (w0 w : World) (hI : IsS87 w0 w g s0_0 s0_1 s0_2) (hB : Below w0.heap.size w0 w) (h : spec_l6DrawRight.f k s0_0 s0_1 s0_2 = some (r1, r2, r3, r4, r5)) :
  Calls Try.prog 82 #[.pointer (some ⟨g, 0, none⟩)] w fun e w' => ∃ v0_ v1_ : Value, e = .returned (.agg #[v0_, v1_, .int .i64 r3]) ∧ Kd.R k35 35 w' w.heap.size (fun k_ => some k_ ≠ (v1_ : Value).ownBlock) v0_ r1 ∧ Kd.R k35 35 w' w.heap.size (fun k_ => some k_ ≠ (v0_ : Value).ownBlock) v1_ r2 ∧ IsS87 w0 w' g s0_0 r4 r5 ∧ Below w0.heap.size w0 w' ∧ KeepBut w w' g none := by
 have hu31 := Try.underlying31; have hu35 := Try.underlying35; have HI0 := Aside0.mk hI; have HK := Aside0.mk (KeepBut.refl w g none); have HL := Aside0.mk hB.size; clear hI; have HW0 := Aside0.mk hB.size; have HB := Aside0.mk hB; clear hB; have H : ((spec_l1Below.f s0_0 s0_1 s0_2 8).bind fun bt451 => (spec_l6DrawRight.l0 k bt451.1 0 s0_0 bt451.2.1 bt451.2.2 ([] : List (S35)) ([] : List (S35)) 0)) = some (r1, r2, r3, r4, r5) := h; clear h; replace H := Option.bind_eq_some_iff.mp H; obtain ⟨⟨t451, t452, t453⟩, A20, H⟩ := H
 try dsimp only at H
 have A2 := Aside0.mk A20; clear A20; have H' := Aside0.mk H; clear H
 go_enter Try.func82, Try.ntmps82
 go_wp2_with (first | ((with_reducible refine GD 2 ?_); refine BE 2 #[.slice none 0 0, .slice none 0 0, .int .i64 0] 31 ?_; intro gb449 hg w3 hbox hb; have h_ := P8 (IsS87.below (KI87) hb) (KeepBut.trans KH (KeepBut.of_below hb g none) (.inl rfl)) (below_step KB87 hb) hbox (KSg hg HK.out) (Nat.le_trans HW0.out (KSg hg HK.out)) (by rw [hg]; exact Nat.ne_of_lt (IsS87.lt (show IsS87 w0 _ g s0_0 s0_1 s0_2 from KI87)) : g ≠ gb449) (by rw [hg]; exact Nat.ne_of_gt (IsS87.lt (show IsS87 w0 _ g s0_0 s0_1 s0_2 from KI87)) : gb449 ≠ g); clear HI0 HK HB; obtain ⟨HI0, HK, HB, BK449, GW449, GE449, NB0_449, NB449_0⟩ := h_; clear hb hbox hg) | ((with_reducible refine GD 3 ?_); refine BE 3 #[.slice none 0 0, .slice none 0 0, .int .i64 0] 31 ?_; intro gb450 hg w4 hbox hb; have h_ := P11 (IsS87.below (KI87) hb) (BL BK449.out hb) (KeepBut.trans (KHh HK.out) (KeepBut.of_below hb g none) (.inl rfl)) (below_step (KBh87 HB.out) hb) hbox (KSg hg HK.out) (Nat.le_trans HW0.out (KSg hg HK.out)) (NX hg BK449.out) (NY hg BK449.out) (by rw [hg]; exact Nat.ne_of_lt (IsS87.lt (show IsS87 w0 _ g s0_0 s0_1 s0_2 from KI87)) : g ≠ gb450) (by rw [hg]; exact Nat.ne_of_gt (IsS87.lt (show IsS87 w0 _ g s0_0 s0_1 s0_2 from KI87)) : gb450 ≠ g); clear HI0 BK449 HK HB; obtain ⟨HI0, BK449, HK, HB, BK450, GW450, GE450, NB449_450, NB450_449, NB0_450, NB450_0⟩ := h_; clear hb hbox hg; have hnb5 := NB450_449.out; have hnc5 := NB449_450.out; have hnb6 := NB450_0.out; have hnc6 := NB0_450.out; obtain ⟨hcz7_0, hcz7_1, hcz7_2, hfz7_0, hfz7_1, hfz7_2⟩ := C3 BK450.out) | ((with_reducible refine GC 57 ?_); refine goesL_ (some 12) rfl rfl Try.func57 (by kernel_rfl) rfl #[.pointer (some ⟨g, 0, none⟩), .int .i64 8] rfl KL ?_; (with_reducible refine (spec_l1Below.calls g s0_0 s0_1 s0_2 8 t451 t452 t453 w0 _ ?side1 ?side2 A2.out).mono ?_); (case side1 => exact KI87); (case side2 => exact KBh87 HB.out); rintro e w8 ⟨rfl, hi, hb, hk⟩; refine ⟨_, rfl, ?_⟩; have h_ := P5 (KW BK449.out hk NB449_0.out) (KeepBut.blk hk (g' := gb450) (o := .cells #[.slice none 0 0, .slice none 0 0, .int .i64 0] 31 (0, 0)) (by refine SK ?_; refine BP #[.slice none 0 0, .slice none 0 0, .int .i64 0] ?_ 2; refine SK ?_; refine BP #[.slice none 0 0, .slice none 0 0, .int .i64 0] ?_ 1; refine SK ?_; refine BP #[.slice none 0 0, .slice none 0 0, .int .i64 0] ?_ 0; exact SK BK450.out) NB450_0.out (by simp)) (KeepBut.trans (KHh HK.out) hk (.inl rfl)) hb hi; clear BK449 BK450 HK HB HI0; obtain ⟨BK449, BK450, HK, HB, HI0⟩ := h_; (try clear hb); (try clear hk); (try clear hi)))
 go_loopg [5] k (fun kq v5 w' => ∃ (x5_1 : Int) (x1001_1 : Int) (x1002_1 : Int) (x451000_1 : List (S35)) (x451001_1 : List (S35)) (x451002_1 : Int) (u451000 : Value) (u451001 : Value), v5 = .int .i64 x5_1 ∧ Aside0 (spec_l6DrawRight.l0 kq t451 x5_1 s0_0 x1001_1 x1002_1 x451000_1 x451001_1 x451002_1 = some (r1, r2, r3, r4, r5)) ∧ Aside0 (kq ≤ k) ∧ Aside0 (Kd.R k35 35 w' w.heap.size (fun k_ => some k_ ≠ (u451001 : Value).ownBlock) u451000 x451000_1) ∧ Aside0 (Kd.R k35 35 w' w.heap.size (fun k_ => some k_ ≠ (u451000 : Value).ownBlock) u451001 x451001_1) ∧ Aside0 (w'.heap[gb449]? = some (.cells #[(.slice none 0 0), (.slice none 0 0), .int .i64 0] 31 (0, 0))) ∧ Aside0 (w'.heap[gb450]? = some (.cells #[u451000, u451001, .int .i64 x451002_1] 31 (0, 0))) ∧ Aside0 (IsS87 w0 w' g s0_0 x1001_1 x1002_1) ∧ Aside0 (KeepBut w w' g none) ∧ Aside0 (Below w0.heap.size w0 w'))
 case atStart => exact ⟨(0), (t452), (t453), (([] : List (S35))), (([] : List (S35))), (0), (.slice none 0 0), (.slice none 0 0), (by first | rfl | (simp; done) | (simp [*]; done)), H', ⟨Nat.le_refl _⟩, ⟨by first | exact Kd.R_nil _ _ _ _ _ | exact Kd.N_nil _ _ _ _ _ | exact Kd.V_nil _ _ _ _ _ | exact Kd.Q_nil _ _ _ _ _ | exact Kd.S_nil _ _ _ _ _⟩, ⟨by first | exact Kd.R_nil _ _ _ _ _ | exact Kd.N_nil _ _ _ _ _ | exact Kd.V_nil _ _ _ _ _ | exact Kd.Q_nil _ _ _ _ _ | exact Kd.S_nil _ _ _ _ _⟩, ⟨KK⟩, ⟨KK⟩, ⟨KI87⟩, ⟨by repeat (first | (with_reducible first | exact HK.out | apply KeepBut.set_ | apply keep_drewN | apply keep_drew | apply keep_alloc | refine keep_far ?_ GW449.out _ | refine keep_far ?_ GW450.out _) | exact HK.out)⟩, ⟨KBh87 HB.out⟩⟩
 case round =>
  clear H'
  try clear p2
  try clear c5
  try clear c6
  try clear c8
  try clear hcz7_0
  try clear hcz7_1
  try clear hcz7_2
  try clear hfz7_0
  try clear hfz7_1
  try clear hfz7_2
  obtain ⟨x5_1, x1001_1, x1002_1, x451000_1, x451001_1, x451002_1, u451000, u451001, rfl, HA, HK1, HO_451000, HO_451001, BK449, BK450, HI0, HK, HB⟩ := hrel
  cases gk with
  | zero => exact absurd HA.out (by simp [spec_l6DrawRight.l0])
  | succ k1 =>
   have H := HA.out; clear HA; simp only [spec_l6DrawRight.l0] at H
   by_cases c9 : x5_1 < t451
   ·rw [if_pos c9] at H
    have c9b0 : decide (x5_1 < t451) = true := decide_eq_true c9; clear c9; replace H := Option.bind_eq_some_iff.mp H; obtain ⟨⟨t454, t455, t456, t457, t458, t459⟩, A100, H⟩ := H
    try dsimp only at H
    have A10 := Aside0.mk A100; clear A100; replace H := Option.bind_eq_some_iff.mp H; obtain ⟨⟨t460, t463, t466, t467⟩, A110, H⟩ := H
    try dsimp only at H
    have A11 := Aside0.mk A110; clear A110; replace H := Option.bind_eq_some_iff.mp H; obtain ⟨⟨t469, t470, t471⟩, A120, H⟩ := H
    try dsimp only at H
    have A12 := Aside0.mk A120; clear A120; have HC13 := Aside0.mk H; clear H; obtain ⟨Ao14, co14, eo14⟩ := Kd.R_slice HO_451000.out; subst eo14; obtain ⟨Ao15, co15, eo15⟩ := Kd.R_slice HO_451001.out; subst eo15
    try go_wp2
    have h_ := P7 (Kd.R_drew HO_451000.out) (Kd.R_drew HO_451001.out) (blk_drew BK449.out) (blk_drew BK450.out) (IsS87.drew HI0.out) (keep_drew HK.out) (below_drew1 HB.out); clear HO_451000 HO_451001 BK449 BK450 HI0 HK HB; obtain ⟨HO_451000, HO_451001, BK449, BK450, HI0, HK, HB⟩ := h_; refine start_ (n := 10) (S := fun w' => w'.cell? ⟨gb450, 0, none⟩ = some (.slice Ao14 x451000_1.length co14) ∧ w'.cell? ⟨gb450, 1, none⟩ = some (.slice Ao15 x451001_1.length co15) ∧ w'.cell? ⟨gb450, 2, none⟩ = some (.int .i64 x451002_1)) (ds := []) #[false, false, false, false, false, false, false, false, false, false] (by kernel_rfl) rfl rfl ⟨(blk_cell BK450.out 0).trans rfl, (blk_cell BK450.out 1).trans rfl, (blk_cell BK450.out 2).trans rfl⟩ (fun hHeld => ?_); refine with_tabW spec_l6DrawRight.tab6 spec_l6DrawRight.bits6 (fun HT_ HW_ => ?_); generalize wr.drew = w16 at HO_451000 HO_451001 BK449 BK450 HI0 HK HB hHeld ⊢; refine pure_ (i := 1) (N := some 20) (v := ?_) (a' := ?_) #[false, true, false, false, false, false, false, false, false, false] rfl rfl (any_of HT_.out (by kernel_rfl)) (fun _ _ _ h => h) (Or.inl ⟨by rfl, ?_⟩) ?_ ?_; rotate_left
    ·intro w'
     go_simp; with_reducible rfl
    rotate_left
    ·exact KA
    refine take_ (i := 0) (N := some 19) (v := ?_) (a' := ?_) #[true, true, false, false, false, false, false, false, false, false] rfl rfl (take_ofW HT_.out HW_.out (by kernel_rfl)) (fun _ _ _ h => h) (Or.inl ⟨by rfl, ?_⟩) hHeld ?_ ?_; rotate_left
    ·rintro w' ⟨s0, s1, s2⟩
     go_simp; with_reducible rfl
    rotate_left
    ·exact KA
    refine join_ (σ := Value × Value × Nat) 2 #[true, true, true, true, true, true, true, true, false, false] (fun s_ => [(21, .agg #[.int .i64 t454, .int .i64 t455, .bool t456, .string t457]), (22, .tuple #[.agg #[s_.1, s_.2.1, .int .i64 t466], .bool t467]), (6, .pointer (some ⟨s_.2.2, 0, none⟩)), (18, .tuple #[.agg #[s_.1, s_.2.1, .int .i64 t466], .bool t467]), (23, .agg #[s_.1, s_.2.1, .int .i64 t466]), (24, .bool t467)]) (fun s_ w' => (w'.cell? ⟨gb450, 0, none⟩ = some (.slice Ao14 x451000_1.length co14) ∧ w'.cell? ⟨gb450, 1, none⟩ = some (.slice Ao15 x451001_1.length co15) ∧ w'.cell? ⟨gb450, 2, none⟩ = some (.int .i64 x451002_1)) ∧ (Kd.R k35 35 w' w.heap.size (fun k_ => some k_ ≠ (s_.2.1 : Value).ownBlock ∧ some k_ ≠ (.slice Ao14 x451000_1.length co14 : Value).ownBlock ∧ some k_ ≠ (.slice Ao15 x451001_1.length co15 : Value).ownBlock) s_.1 t460) ∧ (Kd.R k35 35 w' w.heap.size (fun k_ => some k_ ≠ (s_.1 : Value).ownBlock ∧ some k_ ≠ (.slice Ao14 x451000_1.length co14 : Value).ownBlock ∧ some k_ ≠ (.slice Ao15 x451001_1.length co15 : Value).ownBlock) s_.2.1 t463) ∧ (Kd.R k35 35 w' w.heap.size (fun k_ => some k_ ≠ (s_.1 : Value).ownBlock ∧ some k_ ≠ (s_.2.1 : Value).ownBlock ∧ some k_ ≠ (.slice Ao15 x451001_1.length co15 : Value).ownBlock) (.slice Ao14 x451000_1.length co14) x451000_1) ∧ (Kd.R k35 35 w' w.heap.size (fun k_ => some k_ ≠ (s_.1 : Value).ownBlock ∧ some k_ ≠ (s_.2.1 : Value).ownBlock ∧ some k_ ≠ (.slice Ao14 x451000_1.length co14 : Value).ownBlock) (.slice Ao15 x451001_1.length co15) x451001_1) ∧ (w'.heap[gb449]? = some (.cells #[.slice none 0 0, .slice none 0 0, .int .i64 0] 31 (0, 0))) ∧ (w'.heap[gb450]? = some (.cells #[.slice Ao14 x451000_1.length co14, .slice Ao15 x451001_1.length co15, .int .i64 x451002_1] 31 (0, 0))) ∧ (w'.heap[s_.2.2]? = some (.cells #[.slice none 0 0, .slice none 0 0, .int .i64 0] 31 (0, 0))) ∧ (w.heap.size ≤ s_.2.2) ∧ (w0.heap.size ≤ s_.2.2) ∧ (g ≠ s_.2.2) ∧ (s_.2.2 ≠ g) ∧ (gb449 ≠ s_.2.2) ∧ (s_.2.2 ≠ gb449) ∧ (gb450 ≠ s_.2.2) ∧ (s_.2.2 ≠ gb450) ∧ (IsS87 w0 w' g s0_0 t458 t459) ∧ (KeepBut w w' g none) ∧ (Below w0.heap.size w0 w')) ?_ ?_; rotate_left
    ·intro hCont
     refine two_ (i := 2) (j := 7) (Ni := some 21) (Nj := some 6) #[true, true, true, false, false, false, false, false, false, false] #[true, true, false, false, false, false, false, true, false, false] rfl rfl rfl rfl (two_of HT_.out (by kernel_rfl)) (by decide) (by decide) (fun K hK => ?_) (fun K hK => ?_)
     ·skip
      refine goes_ Try.func91 (by kernel_rfl) rfl #[.pointer (some ⟨g, 0, none⟩)] (by rfl) rfl rfl KL ?_; (with_reducible refine (spec_l3DrawRight.calls g s0_0 x1001_1 x1002_1 t454 t455 t456 t457 t458 t459 w0 _ ?side1 ?side2 A10.out).mono ?_); (case side1 => exact KI87); (case side2 => exact KBh87 HB.out); rintro e w17 ⟨rfl, hi, hb, hk⟩; refine ⟨_, rfl, ?_⟩; have h_ := P7 (Kd.R_mono (Kd.R_keep (IsS87.apart (show IsS87 w0 _ g s0_0 x1001_1 x1002_1 from KI87) (KR HO_451000.out) (by decide)) hk (fun _ h => h.2)) (fun _ h => h.1)) (Kd.R_mono (Kd.R_keep (IsS87.apart (show IsS87 w0 _ g s0_0 x1001_1 x1002_1 from KI87) (KR HO_451001.out) (by decide)) hk (fun _ h => h.2)) (fun _ h => h.1)) (KW BK449.out hk NB449_0.out) (KW BK450.out hk NB450_0.out) (KeepBut.trans (KHh HK.out) hk (.inl rfl)) hb hi; clear HO_451000 HO_451001 BK449 BK450 HK HB HI0; obtain ⟨HO_451000, HO_451001, BK449, BK450, HK, HB, HI0⟩ := h_; (try clear hb); (try clear hk); (try clear hi); refine hK.out _ _ ⟨(blk_cell BK450.out 0).trans rfl, (blk_cell BK450.out 1).trans rfl, (blk_cell BK450.out 2).trans rfl⟩ (fun hHeld => ?_); clear hK K; refine norm_ (a' := ?_) ?_ ?_; rotate_left
      ·show Act.put _ (some 21) _ = _; exact KA
      refine two_ (i := 3) (j := 7) (Ni := some 22) (Nj := some 6) #[true, true, true, true, false, false, false, false, false, false] #[true, true, true, false, false, false, false, true, false, false] rfl rfl rfl rfl (two_of HT_.out (by kernel_rfl)) (by decide) (by decide) (fun K hK => ?_) (fun K hK => ?_)
      ·skip
       refine goes_ Try.func11 (by kernel_rfl) rfl #[.agg #[.slice Ao14 x451000_1.length co14, .slice Ao15 x451001_1.length co15, .int .i64 x451002_1], .agg #[.int .i64 t454, .int .i64 t455, .bool t456, .string t457]] (by rfl) rfl rfl KL ?_; (with_reducible refine (spec_StorePut.calls k1 _ _ x451000_1 _ _ x451001_1 x451002_1 t454 t455 t456 t457 t460 t463 t466 t467 _ ?side1 ?side2 ?side3 ?side4 A11.out).mono ?_); (case side1 => repeat (first | exact (Kd.R_reads' HO_451000.out).2.2 | (with_reducible refine Kd.C_alloc ?_ _) | (with_reducible refine Kd.C_drewN ?_ _) | (with_reducible refine Kd.C_drew ?_))); (case side2 => exact (Kd.R_reads' HO_451000.out).2.1); (case side3 => repeat (first | exact (Kd.R_reads' HO_451001.out).2.2 | (with_reducible refine Kd.C_alloc ?_ _) | (with_reducible refine Kd.C_drewN ?_ _) | (with_reducible refine Kd.C_drew ?_))); (case side4 => exact (Kd.R_reads' HO_451001.out).2.1); rintro e w18 ⟨v461, v464, rfl, ho0, ho1, hb⟩; refine ⟨_, rfl, ?_⟩; have h_ := P9 (Kd.R_mono (Kd.R_told (Kd.R_told (Kd.R_old (KR HO_451000.out) hb) (Kd.R_base ho0)) (Kd.R_base ho1)) (fun _ h_ => h_.1)) (Kd.R_mono (Kd.R_told (Kd.R_told (Kd.R_old (KR HO_451001.out) hb) (Kd.R_base ho0)) (Kd.R_base ho1)) (fun _ h_ => h_.1)) (Kd.R_lower (Kd.R_new' (Kd.R_new' ho0 (Kd.R_lt (KR HO_451000.out))) (Kd.R_lt (KR HO_451001.out))) (KS HK.out)) (Kd.R_lower (Kd.R_new' (Kd.R_new' ho1 (Kd.R_lt (KR HO_451000.out))) (Kd.R_lt (KR HO_451001.out))) (KS HK.out)) (BL BK449.out hb) (BL BK450.out hb) (IsS87.below (KI87) hb) (KeepBut.trans (KHh HK.out) (KeepBut.of_below hb g none) (.inl rfl)) (below_step (KBh87 HB.out) hb); clear HO_451000 HO_451001 BK449 BK450 HI0 HK HB; obtain ⟨HO_451000, HO_451001, HO462, HO465, BK449, BK450, HI0, HK, HB⟩ := h_; (try clear hb); (try clear hk); (try clear hi); (try clear ho0); (try clear ho1); refine hK.out _ _ ⟨(blk_cell BK450.out 0).trans rfl, (blk_cell BK450.out 1).trans rfl, (blk_cell BK450.out 2).trans rfl⟩ (fun hHeld => ?_); clear hK K; refine norm_ (a' := ?_) ?_ ?_; rotate_left
       ·show Act.put _ (some 22) _ = _; exact KA
       refine pure_ (i := 4) (N := some 18) (v := ?_) (a' := ?_) #[true, true, true, true, true, false, false, false, false, false] rfl rfl (any_of HT_.out (by kernel_rfl)) (fun _ _ _ h => h) (Or.inl ⟨by rfl, ?_⟩) ?_ ?_; rotate_left
       ·intro w'
        go_simp; with_reducible rfl
       rotate_left
       ·exact KA
       refine pure_ (i := 5) (N := some 23) (v := ?_) (a' := ?_) #[true, true, true, true, true, true, false, false, false, false] rfl rfl (any_of HT_.out (by kernel_rfl)) (fun _ _ _ h => h) (Or.inl ⟨by rfl, ?_⟩) ?_ ?_; rotate_left
       ·intro w'
        go_simp; with_reducible rfl
       rotate_left
       ·exact KA
       refine pure_ (i := 6) (N := some 24) (v := ?_) (a' := ?_) #[true, true, true, true, true, true, true, false, false, false] rfl rfl (any_of HT_.out (by kernel_rfl)) (fun _ _ _ h => h) (Or.inl ⟨by rfl, ?_⟩) ?_ ?_; rotate_left
       ·intro w'
        go_simp; with_reducible rfl
       rotate_left
       ·exact KA
       refine one_ (i := 7) (N := some 6) #[true, true, true, true, true, true, true, true, false, false] rfl rfl (one_of HT_.out (by kernel_rfl)) (by decide) (fun K hK => ?_); refine box_step ?hg (N := 6) ?hd (cs := #[.slice none 0 0, .slice none 0 0, .int .i64 0]) (t := 31) ?hr ?_; (case hd => rfl); (case hg => rfl); (case hr => first | (go_simp; done) | (go_simp; rfl)); intro gb468 hg w19 hbox hb; have h_ := P18 (Kd.R_below (KR HO_451000.out) hb) (Kd.R_below (KR HO_451001.out) hb) (Kd.R_below (KR HO462.out) hb) (Kd.R_below (KR HO465.out) hb) (BL BK449.out hb) (BL BK450.out hb) (IsS87.below (KI87) hb) (KeepBut.trans (KHh HK.out) (KeepBut.of_below hb g none) (.inl rfl)) (below_step (KBh87 HB.out) hb) hbox (KSg hg HK.out) (Nat.le_trans HW0.out (KSg hg HK.out)) (NX hg BK449.out) (NY hg BK449.out) (NX hg BK450.out) (NY hg BK450.out) (by rw [hg]; exact Nat.ne_of_lt (IsS87.lt (show IsS87 w0 _ g s0_0 t458 t459 from KI87)) : g ≠ gb468) (by rw [hg]; exact Nat.ne_of_gt (IsS87.lt (show IsS87 w0 _ g s0_0 t458 t459 from KI87)) : gb468 ≠ g); clear HO_451000 HO_451001 HO462 HO465 BK449 BK450 HI0 HK HB; obtain ⟨HO_451000, HO_451001, HO462, HO465, BK449, BK450, HI0, HK, HB, BK468, GW468, GE468, NB449_468, NB468_449, NB450_468, NB468_450, NB0_468, NB468_0⟩ := h_; clear hb hbox hg; refine hK.out _ _ ⟨(blk_cell BK450.out 0).trans rfl, (blk_cell BK450.out 1).trans rfl, (blk_cell BK450.out 2).trans rfl⟩ (fun hHeld => ?_); clear hK K; refine norm_ (a' := ?_) ?_ ?_; rotate_left
       ·show Act.put _ (some 6) _ = _; exact KA
       exact norm_ (by simp only [putAll, Act.put, List.setIfInBounds_toArray, List.set_cons_zero, List.set_cons_succ]) (hCont (v461, v464, gb468) _ ⟨hHeld, (by (with_reducible repeat (first | apply Kd.R_alloc | apply Kd.R_drewN | apply Kd.R_drew)); exact Kd.R_mono HO462.out (fun _ hk => ⟨hk.1.1, ⟨hk.1.2, hk.2⟩⟩)), (by (with_reducible repeat (first | apply Kd.R_alloc | apply Kd.R_drewN | apply Kd.R_drew)); exact Kd.R_mono HO465.out (fun _ hk => ⟨hk.1.1, ⟨hk.1.2, hk.2⟩⟩)), (by (with_reducible repeat (first | apply Kd.R_alloc | apply Kd.R_drewN | apply Kd.R_drew)); exact Kd.R_mono HO_451000.out (fun _ hk => ⟨hk.1.2, ⟨hk.2, hk.1.1⟩⟩)), (by (with_reducible repeat (first | apply Kd.R_alloc | apply Kd.R_drewN | apply Kd.R_drew)); exact Kd.R_mono HO_451001.out (fun _ hk => ⟨hk.1.2, ⟨hk.2, hk.1.1⟩⟩)), KK, KK, KK, GW468.out, GE468.out, NB0_468.out, NB468_0.out, NB449_468.out, NB468_449.out, NB450_468.out, NB468_450.out, (KI87), (KHh HK.out), (KBh87 HB.out)⟩)
      ·skip
       refine box_step ?hg (N := 6) ?hd (cs := #[.slice none 0 0, .slice none 0 0, .int .i64 0]) (t := 31) ?hr ?_; (case hd => rfl); (case hg => rfl); (case hr => first | (go_simp; done) | (go_simp; rfl)); intro gb468 hg w18 hbox hb; have h_ := P16 (Kd.R_below (KR HO_451000.out) hb) (Kd.R_below (KR HO_451001.out) hb) (BL BK449.out hb) (BL BK450.out hb) (IsS87.below (KI87) hb) (KeepBut.trans (KHh HK.out) (KeepBut.of_below hb g none) (.inl rfl)) (below_step (KBh87 HB.out) hb) hbox (KSg hg HK.out) (Nat.le_trans HW0.out (KSg hg HK.out)) (NX hg BK449.out) (NY hg BK449.out) (NX hg BK450.out) (NY hg BK450.out) (by rw [hg]; exact Nat.ne_of_lt (IsS87.lt (show IsS87 w0 _ g s0_0 t458 t459 from KI87)) : g ≠ gb468) (by rw [hg]; exact Nat.ne_of_gt (IsS87.lt (show IsS87 w0 _ g s0_0 t458 t459 from KI87)) : gb468 ≠ g); clear HO_451000 HO_451001 BK449 BK450 HI0 HK HB; obtain ⟨HO_451000, HO_451001, BK449, BK450, HI0, HK, HB, BK468, GW468, GE468, NB449_468, NB468_449, NB450_468, NB468_450, NB0_468, NB468_0⟩ := h_; clear hb hbox hg; refine hK.out _ _ ⟨(blk_cell BK450.out 0).trans rfl, (blk_cell BK450.out 1).trans rfl, (blk_cell BK450.out 2).trans rfl⟩ (fun hHeld => ?_); clear hK K; refine norm_ (a' := ?_) ?_ ?_; rotate_left
       ·show Act.put _ (some 6) _ = _; exact KA
       refine one_ (i := 3) (N := some 22) #[true, true, true, true, false, false, false, true, false, false] rfl rfl (one_of HT_.out (by kernel_rfl)) (by decide) (fun K hK => ?_); refine goes_ Try.func11 (by kernel_rfl) rfl #[.agg #[.slice Ao14 x451000_1.length co14, .slice Ao15 x451001_1.length co15, .int .i64 x451002_1], .agg #[.int .i64 t454, .int .i64 t455, .bool t456, .string t457]] (by rfl) rfl rfl KL ?_; (with_reducible refine (spec_StorePut.calls k1 _ _ x451000_1 _ _ x451001_1 x451002_1 t454 t455 t456 t457 t460 t463 t466 t467 _ ?side1 ?side2 ?side3 ?side4 A11.out).mono ?_); (case side1 => repeat (first | exact (Kd.R_reads' HO_451000.out).2.2 | (with_reducible refine Kd.C_alloc ?_ _) | (with_reducible refine Kd.C_drewN ?_ _) | (with_reducible refine Kd.C_drew ?_))); (case side2 => exact (Kd.R_reads' HO_451000.out).2.1); (case side3 => repeat (first | exact (Kd.R_reads' HO_451001.out).2.2 | (with_reducible refine Kd.C_alloc ?_ _) | (with_reducible refine Kd.C_drewN ?_ _) | (with_reducible refine Kd.C_drew ?_))); (case side4 => exact (Kd.R_reads' HO_451001.out).2.1); rintro e w19 ⟨v461, v464, rfl, ho0, ho1, hb⟩; refine ⟨_, rfl, ?_⟩; have h_ := P10 (Kd.R_mono (Kd.R_told (Kd.R_told (Kd.R_old (KR HO_451000.out) hb) (Kd.R_base ho0)) (Kd.R_base ho1)) (fun _ h_ => h_.1)) (Kd.R_mono (Kd.R_told (Kd.R_told (Kd.R_old (KR HO_451001.out) hb) (Kd.R_base ho0)) (Kd.R_base ho1)) (fun _ h_ => h_.1)) (Kd.R_lower (Kd.R_new' (Kd.R_new' ho0 (Kd.R_lt (KR HO_451000.out))) (Kd.R_lt (KR HO_451001.out))) (KS HK.out)) (Kd.R_lower (Kd.R_new' (Kd.R_new' ho1 (Kd.R_lt (KR HO_451000.out))) (Kd.R_lt (KR HO_451001.out))) (KS HK.out)) (BL BK449.out hb) (BL BK450.out hb) (IsS87.below (KI87) hb) (BL BK468.out hb) (KeepBut.trans (KHh HK.out) (KeepBut.of_below hb g none) (.inl rfl)) (below_step (KBh87 HB.out) hb); clear HO_451000 HO_451001 BK449 BK450 HI0 BK468 HK HB; obtain ⟨HO_451000, HO_451001, HO462, HO465, BK449, BK450, HI0, BK468, HK, HB⟩ := h_; (try clear hb); (try clear hk); (try clear hi); (try clear ho0); (try clear ho1); refine hK.out _ _ ⟨(blk_cell BK450.out 0).trans rfl, (blk_cell BK450.out 1).trans rfl, (blk_cell BK450.out 2).trans rfl⟩ (fun hHeld => ?_); clear hK K; refine norm_ (a' := ?_) ?_ ?_; rotate_left
       ·show Act.put _ (some 22) _ = _; exact KA
       refine pure_ (i := 4) (N := some 18) (v := ?_) (a' := ?_) #[true, true, true, true, true, false, false, true, false, false] rfl rfl (any_of HT_.out (by kernel_rfl)) (fun _ _ _ h => h) (Or.inl ⟨by rfl, ?_⟩) ?_ ?_; rotate_left
       ·intro w'
        go_simp; with_reducible rfl
       rotate_left
       ·exact KA
       refine pure_ (i := 5) (N := some 23) (v := ?_) (a' := ?_) #[true, true, true, true, true, true, false, true, false, false] rfl rfl (any_of HT_.out (by kernel_rfl)) (fun _ _ _ h => h) (Or.inl ⟨by rfl, ?_⟩) ?_ ?_; rotate_left
       ·intro w'
        go_simp; with_reducible rfl
       rotate_left
       ·exact KA
       refine pure_ (i := 6) (N := some 24) (v := ?_) (a' := ?_) #[true, true, true, true, true, true, true, true, false, false] rfl rfl (any_of HT_.out (by kernel_rfl)) (fun _ _ _ h => h) (Or.inl ⟨by rfl, ?_⟩) ?_ ?_; rotate_left
       ·intro w'
        go_simp; with_reducible rfl
       rotate_left
       ·exact KA
       exact norm_ (by simp only [putAll, Act.put, List.setIfInBounds_toArray, List.set_cons_zero, List.set_cons_succ]) (hCont (v461, v464, gb468) _ ⟨hHeld, (by (with_reducible repeat (first | apply Kd.R_alloc | apply Kd.R_drewN | apply Kd.R_drew)); exact Kd.R_mono HO462.out (fun _ hk => ⟨hk.1.1, ⟨hk.1.2, hk.2⟩⟩)), (by (with_reducible repeat (first | apply Kd.R_alloc | apply Kd.R_drewN | apply Kd.R_drew)); exact Kd.R_mono HO465.out (fun _ hk => ⟨hk.1.1, ⟨hk.1.2, hk.2⟩⟩)), (by (with_reducible repeat (first | apply Kd.R_alloc | apply Kd.R_drewN | apply Kd.R_drew)); exact Kd.R_mono HO_451000.out (fun _ hk => ⟨hk.1.2, ⟨hk.2, hk.1.1⟩⟩)), (by (with_reducible repeat (first | apply Kd.R_alloc | apply Kd.R_drewN | apply Kd.R_drew)); exact Kd.R_mono HO_451001.out (fun _ hk => ⟨hk.1.2, ⟨hk.2, hk.1.1⟩⟩)), KK, KK, KK, GW468.out, GE468.out, NB0_468.out, NB468_0.out, NB449_468.out, NB468_449.out, NB450_468.out, NB468_450.out, (KI87), (KHh HK.out), (KBh87 HB.out)⟩)
     ·skip
      refine box_step ?hg (N := 6) ?hd (cs := #[.slice none 0 0, .slice none 0 0, .int .i64 0]) (t := 31) ?hr ?_; (case hd => rfl); (case hg => rfl); (case hr => first | (go_simp; done) | (go_simp; rfl)); intro gb468 hg w17 hbox hb; have h_ := P16 (Kd.R_below (KR HO_451000.out) hb) (Kd.R_below (KR HO_451001.out) hb) (BL BK449.out hb) (BL BK450.out hb) (IsS87.below (KI87) hb) (KeepBut.trans (KHh HK.out) (KeepBut.of_below hb g none) (.inl rfl)) (below_step (KBh87 HB.out) hb) hbox (KSg hg HK.out) (Nat.le_trans HW0.out (KSg hg HK.out)) (NX hg BK449.out) (NY hg BK449.out) (NX hg BK450.out) (NY hg BK450.out) (by rw [hg]; exact Nat.ne_of_lt (IsS87.lt (show IsS87 w0 _ g s0_0 x1001_1 x1002_1 from KI87)) : g ≠ gb468) (by rw [hg]; exact Nat.ne_of_gt (IsS87.lt (show IsS87 w0 _ g s0_0 x1001_1 x1002_1 from KI87)) : gb468 ≠ g); clear HO_451000 HO_451001 BK449 BK450 HI0 HK HB; obtain ⟨HO_451000, HO_451001, BK449, BK450, HI0, HK, HB, BK468, GW468, GE468, NB449_468, NB468_449, NB450_468, NB468_450, NB0_468, NB468_0⟩ := h_; clear hb hbox hg; refine hK.out _ _ ⟨(blk_cell BK450.out 0).trans rfl, (blk_cell BK450.out 1).trans rfl, (blk_cell BK450.out 2).trans rfl⟩ (fun hHeld => ?_); clear hK K; refine norm_ (a' := ?_) ?_ ?_; rotate_left
      ·show Act.put _ (some 6) _ = _; exact KA
      refine one_ (i := 2) (N := some 21) #[true, true, true, false, false, false, false, true, false, false] rfl rfl (one_of HT_.out (by kernel_rfl)) (by decide) (fun K hK => ?_); refine goes_ Try.func91 (by kernel_rfl) rfl #[.pointer (some ⟨g, 0, none⟩)] (by rfl) rfl rfl KL ?_; (with_reducible refine (spec_l3DrawRight.calls g s0_0 x1001_1 x1002_1 t454 t455 t456 t457 t458 t459 w0 _ ?side1 ?side2 A10.out).mono ?_); (case side1 => exact KI87); (case side2 => exact KBh87 HB.out); rintro e w18 ⟨rfl, hi, hb, hk⟩; refine ⟨_, rfl, ?_⟩; have h_ := P8 (Kd.R_mono (Kd.R_keep (IsS87.apart (show IsS87 w0 _ g s0_0 x1001_1 x1002_1 from KI87) (KR HO_451000.out) (by decide)) hk (fun _ h => h.2)) (fun _ h => h.1)) (Kd.R_mono (Kd.R_keep (IsS87.apart (show IsS87 w0 _ g s0_0 x1001_1 x1002_1 from KI87) (KR HO_451001.out) (by decide)) hk (fun _ h => h.2)) (fun _ h => h.1)) (KW BK449.out hk NB449_0.out) (KW BK450.out hk NB450_0.out) (KW BK468.out hk NB468_0.out) (KeepBut.trans (KHh HK.out) hk (.inl rfl)) hb hi; clear HO_451000 HO_451001 BK449 BK450 BK468 HK HB HI0; obtain ⟨HO_451000, HO_451001, BK449, BK450, BK468, HK, HB, HI0⟩ := h_; (try clear hb); (try clear hk); (try clear hi); refine hK.out _ _ ⟨(blk_cell BK450.out 0).trans rfl, (blk_cell BK450.out 1).trans rfl, (blk_cell BK450.out 2).trans rfl⟩ (fun hHeld => ?_); clear hK K; refine norm_ (a' := ?_) ?_ ?_; rotate_left
      ·show Act.put _ (some 21) _ = _; exact KA
      refine one_ (i := 3) (N := some 22) #[true, true, true, true, false, false, false, true, false, false] rfl rfl (one_of HT_.out (by kernel_rfl)) (by decide) (fun K hK => ?_); refine goes_ Try.func11 (by kernel_rfl) rfl #[.agg #[.slice Ao14 x451000_1.length co14, .slice Ao15 x451001_1.length co15, .int .i64 x451002_1], .agg #[.int .i64 t454, .int .i64 t455, .bool t456, .string t457]] (by rfl) rfl rfl KL ?_; (with_reducible refine (spec_StorePut.calls k1 _ _ x451000_1 _ _ x451001_1 x451002_1 t454 t455 t456 t457 t460 t463 t466 t467 _ ?side1 ?side2 ?side3 ?side4 A11.out).mono ?_); (case side1 => repeat (first | exact (Kd.R_reads' HO_451000.out).2.2 | (with_reducible refine Kd.C_alloc ?_ _) | (with_reducible refine Kd.C_drewN ?_ _) | (with_reducible refine Kd.C_drew ?_))); (case side2 => exact (Kd.R_reads' HO_451000.out).2.1); (case side3 => repeat (first | exact (Kd.R_reads' HO_451001.out).2.2 | (with_reducible refine Kd.C_alloc ?_ _) | (with_reducible refine Kd.C_drewN ?_ _) | (with_reducible refine Kd.C_drew ?_))); (case side4 => exact (Kd.R_reads' HO_451001.out).2.1); rintro e w19 ⟨v461, v464, rfl, ho0, ho1, hb⟩; refine ⟨_, rfl, ?_⟩; have h_ := P10 (Kd.R_mono (Kd.R_told (Kd.R_told (Kd.R_old (KR HO_451000.out) hb) (Kd.R_base ho0)) (Kd.R_base ho1)) (fun _ h_ => h_.1)) (Kd.R_mono (Kd.R_told (Kd.R_told (Kd.R_old (KR HO_451001.out) hb) (Kd.R_base ho0)) (Kd.R_base ho1)) (fun _ h_ => h_.1)) (Kd.R_lower (Kd.R_new' (Kd.R_new' ho0 (Kd.R_lt (KR HO_451000.out))) (Kd.R_lt (KR HO_451001.out))) (KS HK.out)) (Kd.R_lower (Kd.R_new' (Kd.R_new' ho1 (Kd.R_lt (KR HO_451000.out))) (Kd.R_lt (KR HO_451001.out))) (KS HK.out)) (BL BK449.out hb) (BL BK450.out hb) (IsS87.below (KI87) hb) (BL BK468.out hb) (KeepBut.trans (KHh HK.out) (KeepBut.of_below hb g none) (.inl rfl)) (below_step (KBh87 HB.out) hb); clear HO_451000 HO_451001 BK449 BK450 HI0 BK468 HK HB; obtain ⟨HO_451000, HO_451001, HO462, HO465, BK449, BK450, HI0, BK468, HK, HB⟩ := h_; (try clear hb); (try clear hk); (try clear hi); (try clear ho0); (try clear ho1); refine hK.out _ _ ⟨(blk_cell BK450.out 0).trans rfl, (blk_cell BK450.out 1).trans rfl, (blk_cell BK450.out 2).trans rfl⟩ (fun hHeld => ?_); clear hK K; refine norm_ (a' := ?_) ?_ ?_; rotate_left
      ·show Act.put _ (some 22) _ = _; exact KA
      refine pure_ (i := 4) (N := some 18) (v := ?_) (a' := ?_) #[true, true, true, true, true, false, false, true, false, false] rfl rfl (any_of HT_.out (by kernel_rfl)) (fun _ _ _ h => h) (Or.inl ⟨by rfl, ?_⟩) ?_ ?_; rotate_left
      ·intro w'
       go_simp; with_reducible rfl
      rotate_left
      ·exact KA
      refine pure_ (i := 5) (N := some 23) (v := ?_) (a' := ?_) #[true, true, true, true, true, true, false, true, false, false] rfl rfl (any_of HT_.out (by kernel_rfl)) (fun _ _ _ h => h) (Or.inl ⟨by rfl, ?_⟩) ?_ ?_; rotate_left
      ·intro w'
       go_simp; with_reducible rfl
      rotate_left
      ·exact KA
      refine pure_ (i := 6) (N := some 24) (v := ?_) (a' := ?_) #[true, true, true, true, true, true, true, true, false, false] rfl rfl (any_of HT_.out (by kernel_rfl)) (fun _ _ _ h => h) (Or.inl ⟨by rfl, ?_⟩) ?_ ?_; rotate_left
      ·intro w'
       go_simp; with_reducible rfl
      rotate_left
      ·exact KA
      exact norm_ (by simp only [putAll, Act.put, List.setIfInBounds_toArray, List.set_cons_zero, List.set_cons_succ]) (hCont (v461, v464, gb468) _ ⟨hHeld, (by (with_reducible repeat (first | apply Kd.R_alloc | apply Kd.R_drewN | apply Kd.R_drew)); exact Kd.R_mono HO462.out (fun _ hk => ⟨hk.1.1, ⟨hk.1.2, hk.2⟩⟩)), (by (with_reducible repeat (first | apply Kd.R_alloc | apply Kd.R_drewN | apply Kd.R_drew)); exact Kd.R_mono HO465.out (fun _ hk => ⟨hk.1.1, ⟨hk.1.2, hk.2⟩⟩)), (by (with_reducible repeat (first | apply Kd.R_alloc | apply Kd.R_drewN | apply Kd.R_drew)); exact Kd.R_mono HO_451000.out (fun _ hk => ⟨hk.1.2, ⟨hk.2, hk.1.1⟩⟩)), (by (with_reducible repeat (first | apply Kd.R_alloc | apply Kd.R_drewN | apply Kd.R_drew)); exact Kd.R_mono HO_451001.out (fun _ hk => ⟨hk.1.2, ⟨hk.2, hk.1.1⟩⟩)), KK, KK, KK, GW468.out, GE468.out, NB0_468.out, NB468_0.out, NB449_468.out, NB468_449.out, NB450_468.out, NB468_450.out, (KI87), (KHh HK.out), (KBh87 HB.out)⟩)
    rintro ⟨v461, v464, gb468⟩ w20 ⟨hS_, h0_, h1_, h2_, h3_, h4_, h5_, h6_, h7_, h8_, h9_, h10_, h11_, h12_, h13_, h14_, h15_, h16_, h17_⟩; have n0_ : Aside0 (Kd.R k35 35 w20 w.heap.size (fun k_ => some k_ ≠ (v464 : Value).ownBlock ∧ some k_ ≠ (.slice Ao14 x451000_1.length co14 : Value).ownBlock ∧ some k_ ≠ (.slice Ao15 x451001_1.length co15 : Value).ownBlock) v461 t460) := ⟨h0_⟩; have n1_ : Aside0 (Kd.R k35 35 w20 w.heap.size (fun k_ => some k_ ≠ (v461 : Value).ownBlock ∧ some k_ ≠ (.slice Ao14 x451000_1.length co14 : Value).ownBlock ∧ some k_ ≠ (.slice Ao15 x451001_1.length co15 : Value).ownBlock) v464 t463) := ⟨h1_⟩; have n2_ : Aside0 (Kd.R k35 35 w20 w.heap.size (fun k_ => some k_ ≠ (v461 : Value).ownBlock ∧ some k_ ≠ (v464 : Value).ownBlock ∧ some k_ ≠ (.slice Ao15 x451001_1.length co15 : Value).ownBlock) (.slice Ao14 x451000_1.length co14) x451000_1) := ⟨h2_⟩; have n3_ : Aside0 (Kd.R k35 35 w20 w.heap.size (fun k_ => some k_ ≠ (v461 : Value).ownBlock ∧ some k_ ≠ (v464 : Value).ownBlock ∧ some k_ ≠ (.slice Ao14 x451000_1.length co14 : Value).ownBlock) (.slice Ao15 x451001_1.length co15) x451001_1) := ⟨h3_⟩; have n4_ : Aside0 (w20.heap[gb449]? = some (.cells #[.slice none 0 0, .slice none 0 0, .int .i64 0] 31 (0, 0))) := ⟨h4_⟩; have n5_ : Aside0 (w20.heap[gb450]? = some (.cells #[.slice Ao14 x451000_1.length co14, .slice Ao15 x451001_1.length co15, .int .i64 x451002_1] 31 (0, 0))) := ⟨h5_⟩; have n6_ : Aside0 (w20.heap[gb468]? = some (.cells #[.slice none 0 0, .slice none 0 0, .int .i64 0] 31 (0, 0))) := ⟨h6_⟩; have n7_ : Aside0 (w.heap.size ≤ gb468) := ⟨h7_⟩; have n8_ : Aside0 (w0.heap.size ≤ gb468) := ⟨h8_⟩; have n9_ : Aside0 (g ≠ gb468) := ⟨h9_⟩; have n10_ : Aside0 (gb468 ≠ g) := ⟨h10_⟩; have n11_ : Aside0 (gb449 ≠ gb468) := ⟨h11_⟩; have n12_ : Aside0 (gb468 ≠ gb449) := ⟨h12_⟩; have n13_ : Aside0 (gb450 ≠ gb468) := ⟨h13_⟩; have n14_ : Aside0 (gb468 ≠ gb450) := ⟨h14_⟩; have n15_ : Aside0 (IsS87 w0 w20 g s0_0 t458 t459) := ⟨h15_⟩; have n16_ : Aside0 (KeepBut w w20 g none) := ⟨h16_⟩; have n17_ : Aside0 (Below w0.heap.size w0 w20) := ⟨h17_⟩; clear HO_451000; clear HO_451001; clear BK449; clear BK450; clear HI0; clear HK; clear HB; clear h0_ h1_ h2_ h3_ h4_ h5_ h6_ h7_ h8_ h9_ h10_ h11_ h12_ h13_ h14_ h15_ h16_ h17_; have HO462 := n0_; have HO465 := n1_; have HO_451000 := n2_; have HO_451001 := n3_; have BK449 := n4_; have BK450 := n5_; have BK468 := n6_; have GW468 := n7_; have GE468 := n8_; have NB0_468 := n9_; have NB468_0 := n10_; have NB449_468 := n11_; have NB468_449 := n12_; have NB450_468 := n13_; have NB468_450 := n14_; have HI0 := n15_; have HK := n16_; have HB := n17_; clear n0_ n1_ n2_ n3_ n4_ n5_ n6_ n7_ n8_ n9_ n10_ n11_ n12_ n13_ n14_ n15_ n16_ n17_; have hHeld : w20.cell? ⟨gb450, 0, none⟩ = some (.slice Ao14 x451000_1.length co14) ∧ w20.cell? ⟨gb450, 1, none⟩ = some (.slice Ao15 x451001_1.length co15) ∧ w20.cell? ⟨gb450, 2, none⟩ = some (.int .i64 x451002_1) := hS_; obtain ⟨Ao21, co21, eo21⟩ := Kd.R_slice HO462.out; (first | subst eo21 | (injection eo21 with f1_ f2_ f3_; have f4_ := f1_.symm; have f5_ := f3_.symm; clear f1_ f2_ f3_; subst f4_; subst f5_)); obtain ⟨Ao23, co23, eo23⟩ := Kd.R_slice HO465.out; (first | subst eo23 | (injection eo23 with f1_ f2_ f3_; have f4_ := f1_.symm; have f5_ := f3_.symm; clear f1_ f2_ f3_; subst f4_; subst f5_)); refine norm_ (a' := ?_) ?_ ?_; rotate_left
    ·simp only [putAll, Act.put, List.setIfInBounds_toArray, List.set_cons_zero, List.set_cons_succ]
     rfl
    refine one_ (i := 8) (N := none) #[true, true, true, true, true, true, true, true, true, false] rfl rfl (one_of HT_.out (by kernel_rfl)) (by decide) (fun K hK => ?_); have hs22 : w20.cell? ⟨gb468, 0, none⟩ = some (.slice none 0 0) := (blk_cell BK468.out 0).trans rfl; have hfs22 := blk_frozen BK468.out 0; have hns22_0 := NB449_468.out; have hns22_1 := NB450_468.out; have hms22_0 := NB468_449.out; have hms22_1 := NB468_450.out; have hs24 : w20.cell? ⟨gb468, 1, none⟩ = some (.slice none 0 0) := (blk_cell BK468.out 1).trans rfl; have hfs24 := blk_frozen BK468.out 1; have hns24_0 := NB449_468.out; have hns24_1 := NB450_468.out; have hms24_0 := NB468_449.out; have hms24_1 := NB468_450.out; have hs25 : w20.cell? ⟨gb468, 2, none⟩ = some (.int .i64 0) := (blk_cell BK468.out 2).trans rfl; have hfs25 := blk_frozen BK468.out 2; have hns25_0 := NB449_468.out; have hns25_1 := NB450_468.out; have hms25_0 := NB468_449.out; have hms25_1 := NB468_450.out; refine skip_ (w1 := ?_) (by rfl) rfl ?_ ?_; rotate_left
    ·go_simp
     rfl
    refine hK.out _ _ ⟨((cell_far (p := ⟨gb468, _, none⟩) NB450_468.out _).trans (((cell_far (p := ⟨gb468, _, none⟩) NB450_468.out _).trans (((cell_far (p := ⟨gb468, _, none⟩) NB450_468.out _).trans (hHeld.1)))))), ((cell_far (p := ⟨gb468, _, none⟩) NB450_468.out _).trans (((cell_far (p := ⟨gb468, _, none⟩) NB450_468.out _).trans (((cell_far (p := ⟨gb468, _, none⟩) NB450_468.out _).trans (hHeld.2.1)))))), ((cell_far (p := ⟨gb468, _, none⟩) NB450_468.out _).trans (((cell_far (p := ⟨gb468, _, none⟩) NB450_468.out _).trans (((cell_far (p := ⟨gb468, _, none⟩) NB450_468.out _).trans (hHeld.2.2))))))⟩ (fun hHeld => ?_); clear hK K; refine pure_ (i := 9) (N := some 7) (v := ?_) (a' := ?_) #[true, true, true, true, true, true, true, true, true, true] rfl rfl (any_of HT_.out (by kernel_rfl)) (fun _ _ _ h => h) (Or.inl ⟨by rfl, ?_⟩) ?_ ?_; rotate_left
    ·intro w'
     go_simp; with_reducible rfl
    rotate_left
    ·exact KA
    refine done_ (done_of HT_.out (by kernel_rfl)) ?_
    go_upto_block 2 with (first | ((with_reducible refine GC 57 ?_); refine goesL_ (some 26) rfl rfl Try.func57 (by kernel_rfl) rfl #[.pointer (some ⟨g, 0, none⟩), .int .i64 6] rfl KL ?_; (with_reducible refine (spec_l1Below.calls g s0_0 t458 t459 6 t469 t470 t471 w0 _ ?side1 ?side2 A12.out).mono ?_); (case side1 => exact KI87); (case side2 => exact KBh87 HB.out); rintro e w26 ⟨rfl, hi, hb, hk⟩; refine ⟨_, rfl, ?_⟩; have h_ := P10 (Kd.R_mono (Kd.R_keep (IsS87.apart (show IsS87 w0 _ g s0_0 t458 t459 from KI87) (RQ (RT HO_451000.out BK468.out)) (by decide)) hk (fun _ h => h.2)) (fun _ h => h.1)) (Kd.R_mono (Kd.R_keep (IsS87.apart (show IsS87 w0 _ g s0_0 t458 t459 from KI87) (RQ (RT HO_451001.out BK468.out)) (by decide)) hk (fun _ h => h.2)) (fun _ h => h.1)) (KW BK449.out hk NB449_0.out) (KW BK450.out hk NB450_0.out) (Kd.R_mono (Kd.R_keep (IsS87.apart (show IsS87 w0 _ g s0_0 t458 t459 from KI87) (RQ (RT HO462.out BK468.out)) (by decide)) hk (fun _ h => h.2)) (fun _ h => h.1)) (Kd.R_mono (Kd.R_keep (IsS87.apart (show IsS87 w0 _ g s0_0 t458 t459 from KI87) (RQ (RT HO465.out BK468.out)) (by decide)) hk (fun _ h => h.2)) (fun _ h => h.1)) (KeepBut.blk hk (g' := gb468) (o := .cells #[.slice Ao21 t460.length co21, .slice Ao23 t463.length co23, .int .i64 t466] 31 (0, 0)) (by refine SK ?_; refine BP #[.slice Ao21 t460.length co21, .slice Ao23 t463.length co23, .int .i64 0] ?_ 2; refine SK ?_; refine BP #[.slice Ao21 t460.length co21, .slice none 0 0, .int .i64 0] ?_ 1; refine SK ?_; refine BP #[.slice none 0 0, .slice none 0 0, .int .i64 0] ?_ 0; exact SK BK468.out) NB468_0.out (by simp)) (KeepBut.trans (KHh HK.out) hk (.inl rfl)) hb hi; clear HO_451000 HO_451001 BK449 BK450 HO462 HO465 BK468 HK HB HI0; obtain ⟨HO_451000, HO_451001, BK449, BK450, HO462, HO465, BK468, HK, HB, HI0⟩ := h_; (try clear hb); (try clear hk); (try clear hi)))
    (try simp only [Act.put, List.setIfInBounds_toArray, List.set_cons_zero, List.set_cons_succ])
    go_cut [7] (fun v7 wc => ∃ (kq : Nat) (x7_12 : Bool) (x1001_12 : Int) (x1002_12 : Int) (x469000_12 : List (S35)) (x469001_12 : List (S35)) (x469002_12 : Int) (u469000 : Value) (u469001 : Value), v7 = .bool x7_12 ∧ Aside0 (spec_l6DrawRight.j1 kq t451 x5_1 x7_12 s0_0 x1001_12 x1002_12 x451000_1 x451001_1 x451002_1 x469000_12 x469001_12 x469002_12 = some (r1, r2, r3, r4, r5)) ∧ Aside0 (kq ≤ k1) ∧ Aside0 (Kd.R k35 35 wc w.heap.size (fun k_ => some k_ ≠ ((.slice Ao15 x451001_1.length co15) : Value).ownBlock ∧ some k_ ≠ (u469000 : Value).ownBlock ∧ some k_ ≠ (u469001 : Value).ownBlock) (.slice Ao14 x451000_1.length co14) x451000_1) ∧ Aside0 (Kd.R k35 35 wc w.heap.size (fun k_ => some k_ ≠ ((.slice Ao14 x451000_1.length co14) : Value).ownBlock ∧ some k_ ≠ (u469000 : Value).ownBlock ∧ some k_ ≠ (u469001 : Value).ownBlock) (.slice Ao15 x451001_1.length co15) x451001_1) ∧ Aside0 (Kd.R k35 35 wc w.heap.size (fun k_ => some k_ ≠ ((.slice Ao14 x451000_1.length co14) : Value).ownBlock ∧ some k_ ≠ ((.slice Ao15 x451001_1.length co15) : Value).ownBlock ∧ some k_ ≠ (u469001 : Value).ownBlock) u469000 x469000_12) ∧ Aside0 (Kd.R k35 35 wc w.heap.size (fun k_ => some k_ ≠ ((.slice Ao14 x451000_1.length co14) : Value).ownBlock ∧ some k_ ≠ ((.slice Ao15 x451001_1.length co15) : Value).ownBlock ∧ some k_ ≠ (u469000 : Value).ownBlock) u469001 x469001_12) ∧ Aside0 (wc.heap[gb449]? = some (.cells #[(.slice none 0 0), (.slice none 0 0), .int .i64 0] 31 (0, 0))) ∧ Aside0 (wc.heap[gb450]? = some (.cells #[(.slice Ao14 x451000_1.length co14), (.slice Ao15 x451001_1.length co15), .int .i64 x451002_1] 31 (0, 0))) ∧ Aside0 (wc.heap[gb468]? = some (.cells #[u469000, u469001, .int .i64 x469002_12] 31 (0, 0))) ∧ Aside0 (IsS87 w0 wc g s0_0 x1001_12 x1002_12) ∧ Aside0 (KeepBut w wc g none) ∧ Aside0 (Below w0.heap.size w0 wc))
    case first =>
     have H := HC13.out; clear HC13
     by_cases c27 : t469 = 0
     ·rw [if_pos c27] at H
      have c27b0 : (t469 == 0) = true := beq_iff_eq.mpr c27; have c27b1 : (t469 != 0) = false := bne_eq_false_iff_eq.mpr c27; clear c27; (first | rw [c27b0] | (simp only [i64_w, i32_w]; rw [c27b0]) | skip); replace H := Option.bind_eq_some_iff.mp H; obtain ⟨⟨t472, t475, t478, t479⟩, A280, H⟩ := H
      try dsimp only at H
      have A28 := Aside0.mk A280; clear A280; have H' := Aside0.mk H; clear H; have hnb29 := NB450_449.out; have hnc29 := NB449_450.out; have hnb30 := NB450_468.out; have hnc30 := NB468_450.out; have hnb31 := NB450_0.out; have hnc31 := NB0_450.out; obtain ⟨hcz32_0, hcz32_1, hcz32_2, hfz32_0, hfz32_1, hfz32_2⟩ := C3 BK450.out
      go_wp2_with (first | ((with_reducible refine GC 73 ?_); refine goesL_ (some 31) rfl rfl Try.func73 (by kernel_rfl) rfl #[.agg #[.slice Ao14 x451000_1.length co14, .slice Ao15 x451001_1.length co15, .int .i64 x451002_1]] rfl KL ?_; (with_reducible refine (spec_StoreSync.calls k1 _ _ x451000_1 _ _ x451001_1 x451002_1 t472 t475 t478 t479 _ ?side1 ?side2 ?side3 ?side4 A28.out).mono ?_); (case side1 => repeat (first | exact (Kd.R_reads' HO_451000.out).2.2 | (with_reducible refine Kd.C_alloc ?_ _) | (with_reducible refine Kd.C_drewN ?_ _) | (with_reducible refine Kd.C_drew ?_))); (case side2 => exact (Kd.R_reads' HO_451000.out).2.1); (case side3 => repeat (first | exact (Kd.R_reads' HO_451001.out).2.2 | (with_reducible refine Kd.C_alloc ?_ _) | (with_reducible refine Kd.C_drewN ?_ _) | (with_reducible refine Kd.C_drew ?_))); (case side4 => exact (Kd.R_reads' HO_451001.out).2.1); rintro e w33 ⟨v473, v476, rfl, ho0, ho1, hb⟩; refine ⟨_, rfl, ?_⟩; have h_ := P12 (Kd.R_mono (Kd.R_told (Kd.R_told (Kd.R_old (KR HO_451000.out) hb) (Kd.R_base ho0)) (Kd.R_base ho1)) (fun _ h_ => h_.1)) (Kd.R_mono (Kd.R_told (Kd.R_told (Kd.R_old (KR HO_451001.out) hb) (Kd.R_base ho0)) (Kd.R_base ho1)) (fun _ h_ => h_.1)) (Kd.R_mono (Kd.R_told (Kd.R_told (Kd.R_old (KR HO462.out) hb) (Kd.R_base ho0)) (Kd.R_base ho1)) (fun _ h_ => h_.1)) (Kd.R_mono (Kd.R_told (Kd.R_told (Kd.R_old (KR HO465.out) hb) (Kd.R_base ho0)) (Kd.R_base ho1)) (fun _ h_ => h_.1)) (Kd.R_lower (Kd.R_new' (Kd.R_new' (Kd.R_new' (Kd.R_new' ho0 (Kd.R_lt (KR HO_451000.out))) (Kd.R_lt (KR HO_451001.out))) (Kd.R_lt (KR HO462.out))) (Kd.R_lt (KR HO465.out))) (KS HK.out)) (Kd.R_lower (Kd.R_new' (Kd.R_new' (Kd.R_new' (Kd.R_new' ho1 (Kd.R_lt (KR HO_451000.out))) (Kd.R_lt (KR HO_451001.out))) (Kd.R_lt (KR HO462.out))) (Kd.R_lt (KR HO465.out))) (KS HK.out)) (BL BK449.out hb) (BL BK450.out hb) (IsS87.below (KI87) hb) (BL BK468.out hb) (KeepBut.trans (KHh HK.out) (KeepBut.of_below hb g none) (.inl rfl)) (below_step (KBh87 HB.out) hb); clear HO_451000 HO_451001 HO462 HO465 BK449 BK450 HI0 BK468 HK HB; obtain ⟨HO_451000, HO_451001, HO462, HO465, HO474, HO477, BK449, BK450, HI0, BK468, HK, HB⟩ := h_; (try clear hb); (try clear hk); (try clear hi); (try clear ho0); (try clear ho1); obtain ⟨Ao34, co34, eo34⟩ := Kd.R_slice HO474.out; subst eo34; have hnb35 := NB468_449.out; have hnc35 := NB449_468.out; have hnb36 := NB468_0.out; have hnc36 := NB0_468.out; obtain ⟨hcz37_0, hcz37_1, hcz37_2, hfz37_0, hfz37_1, hfz37_2⟩ := C3 BK468.out; obtain ⟨Ao38, co38, eo38⟩ := Kd.R_slice HO477.out; subst eo38))
      go_meet
      case rel => exact ⟨_, (t479), (t470), (t471), (t472), (t475), (t478), (.slice Ao34 t472.length co34), (.slice Ao38 t475.length co38), (by first | rfl | (simp; done) | (simp [*]; done)), H', ⟨by have := HK1.out; first | omega | exact Nat.le_refl _⟩, ⟨Kd.R_mono (RF (RT HO_451000.out BK468.out)) (fun _ hk => ⟨hk.1.1.1.2.2, ⟨hk.1.1.2, hk.1.2⟩⟩)⟩, ⟨Kd.R_mono (RF (RT HO_451001.out BK468.out)) (fun _ hk => ⟨hk.1.1.1.2.2, ⟨hk.1.1.2, hk.1.2⟩⟩)⟩, ⟨Kd.R_mono (RF (RT HO474.out BK468.out)) (fun _ hk => ⟨hk.1.1.1.1.2, ⟨hk.1.1.1.2, hk.1.1.1.1.1⟩⟩)⟩, ⟨Kd.R_mono (RF (RT HO477.out BK468.out)) (fun _ hk => ⟨hk.1.1.1.1.2, ⟨hk.1.1.1.2, hk.1.1.1.1.1⟩⟩)⟩, ⟨KK⟩, ⟨KK⟩, ⟨by refine SK ?_; refine BP #[.slice Ao34 t472.length co34, .slice Ao38 t475.length co38, .int .i64 t466] ?_ 2; refine SK ?_; refine BP #[.slice Ao34 t472.length co34, .slice Ao23 t463.length co23, .int .i64 t466] ?_ 1; refine SK ?_; refine BP #[.slice Ao21 t460.length co21, .slice Ao23 t463.length co23, .int .i64 t466] ?_ 0; exact SK BK468.out⟩, ⟨KI87⟩, ⟨by repeat (first | (with_reducible first | exact HK.out | apply KeepBut.set_ | apply keep_drewN | apply keep_drew | apply keep_alloc | refine keep_far ?_ GW449.out _ | refine keep_far ?_ GW450.out _ | refine keep_far ?_ GW468.out _) | exact HK.out)⟩, ⟨KBh87 HB.out⟩⟩
     ·rw [if_neg c27] at H
      have c27b0 : (t469 == 0) = false := beq_eq_false_iff_ne.mpr c27; have c27b1 : (t469 != 0) = true := bne_iff_ne.mpr c27; (first | rw [c27b0] | (simp only [i64_w, i32_w]; rw [c27b0]) | skip)
      by_cases c39 : t469 = 1
      ·rw [if_pos c39] at H
       have c39b0 : (t469 == 1) = true := beq_iff_eq.mpr c39; have c39b1 : (t469 != 1) = false := bne_eq_false_iff_eq.mpr c39; clear c39; replace H := Option.bind_eq_some_iff.mp H; obtain ⟨⟨t480, t483, t486, t487⟩, A400, H⟩ := H
       try dsimp only at H
       have A40 := Aside0.mk A400; clear A400; have H' := Aside0.mk H; clear H; have hnb41 := NB468_449.out; have hnc41 := NB449_468.out; have hnb42 := NB468_450.out; have hnc42 := NB450_468.out; have hnb43 := NB468_0.out; have hnc43 := NB0_468.out; obtain ⟨hcz44_0, hcz44_1, hcz44_2, hfz44_0, hfz44_1, hfz44_2⟩ := C3 BK468.out
       go_wp2_with (first | ((with_reducible refine GC 73 ?_); refine goesL_ (some 38) rfl rfl Try.func73 (by kernel_rfl) rfl #[.agg #[.slice Ao21 t460.length co21, .slice Ao23 t463.length co23, .int .i64 t466]] rfl KL ?_; (with_reducible refine (spec_StoreSync.calls k1 _ _ t460 _ _ t463 t466 t480 t483 t486 t487 _ ?side1 ?side2 ?side3 ?side4 A40.out).mono ?_); (case side1 => repeat (first | exact (Kd.R_reads' HO462.out).2.2 | (with_reducible refine Kd.C_alloc ?_ _) | (with_reducible refine Kd.C_drewN ?_ _) | (with_reducible refine Kd.C_drew ?_))); (case side2 => exact (Kd.R_reads' HO462.out).2.1); (case side3 => repeat (first | exact (Kd.R_reads' HO465.out).2.2 | (with_reducible refine Kd.C_alloc ?_ _) | (with_reducible refine Kd.C_drewN ?_ _) | (with_reducible refine Kd.C_drew ?_))); (case side4 => exact (Kd.R_reads' HO465.out).2.1); rintro e w45 ⟨v481, v484, rfl, ho0, ho1, hb⟩; refine ⟨_, rfl, ?_⟩; have h_ := P12 (Kd.R_mono (Kd.R_told (Kd.R_told (Kd.R_old (KR HO_451000.out) hb) (Kd.R_base ho0)) (Kd.R_base ho1)) (fun _ h_ => h_.1)) (Kd.R_mono (Kd.R_told (Kd.R_told (Kd.R_old (KR HO_451001.out) hb) (Kd.R_base ho0)) (Kd.R_base ho1)) (fun _ h_ => h_.1)) (Kd.R_mono (Kd.R_told (Kd.R_told (Kd.R_old (KR HO462.out) hb) (Kd.R_base ho0)) (Kd.R_base ho1)) (fun _ h_ => h_.1)) (Kd.R_mono (Kd.R_told (Kd.R_told (Kd.R_old (KR HO465.out) hb) (Kd.R_base ho0)) (Kd.R_base ho1)) (fun _ h_ => h_.1)) (Kd.R_lower (Kd.R_new' (Kd.R_new' (Kd.R_new' (Kd.R_new' ho0 (Kd.R_lt (KR HO_451000.out))) (Kd.R_lt (KR HO_451001.out))) (Kd.R_lt (KR HO462.out))) (Kd.R_lt (KR HO465.out))) (KS HK.out)) (Kd.R_lower (Kd.R_new' (Kd.R_new' (Kd.R_new' (Kd.R_new' ho1 (Kd.R_lt (KR HO_451000.out))) (Kd.R_lt (KR HO_451001.out))) (Kd.R_lt (KR HO462.out))) (Kd.R_lt (KR HO465.out))) (KS HK.out)) (BL BK449.out hb) (BL BK450.out hb) (IsS87.below (KI87) hb) (BL BK468.out hb) (KeepBut.trans (KHh HK.out) (KeepBut.of_below hb g none) (.inl rfl)) (below_step (KBh87 HB.out) hb); clear HO_451000 HO_451001 HO462 HO465 BK449 BK450 HI0 BK468 HK HB; obtain ⟨HO_451000, HO_451001, HO462, HO465, HO482, HO485, BK449, BK450, HI0, BK468, HK, HB⟩ := h_; (try clear hb); (try clear hk); (try clear hi); (try clear ho0); (try clear ho1); obtain ⟨Ao46, co46, eo46⟩ := Kd.R_slice HO482.out; subst eo46; obtain ⟨hcz47_0, hcz47_1, hcz47_2, hfz47_0, hfz47_1, hfz47_2⟩ := C3 BK468.out; obtain ⟨Ao48, co48, eo48⟩ := Kd.R_slice HO485.out; subst eo48))
       go_meet
       case rel => exact ⟨_, (t487), (t470), (t471), (t480), (t483), (t486), (.slice Ao46 t480.length co46), (.slice Ao48 t483.length co48), (by first | rfl | (simp; done) | (simp [*]; done)), H', ⟨by have := HK1.out; first | omega | exact Nat.le_refl _⟩, ⟨Kd.R_mono (RF (RT HO_451000.out BK468.out)) (fun _ hk => ⟨hk.1.1.1.2.2, ⟨hk.1.1.2, hk.1.2⟩⟩)⟩, ⟨Kd.R_mono (RF (RT HO_451001.out BK468.out)) (fun _ hk => ⟨hk.1.1.1.2.2, ⟨hk.1.1.2, hk.1.2⟩⟩)⟩, ⟨Kd.R_mono (RF (RT HO482.out BK468.out)) (fun _ hk => ⟨hk.1.1.1.1.2, ⟨hk.1.1.1.2, hk.1.1.1.1.1⟩⟩)⟩, ⟨Kd.R_mono (RF (RT HO485.out BK468.out)) (fun _ hk => ⟨hk.1.1.1.1.2, ⟨hk.1.1.1.2, hk.1.1.1.1.1⟩⟩)⟩, ⟨KK⟩, ⟨KK⟩, ⟨by refine SK ?_; refine BP #[.slice Ao46 t480.length co46, .slice Ao48 t483.length co48, .int .i64 t466] ?_ 2; refine SK ?_; refine BP #[.slice Ao46 t480.length co46, .slice Ao23 t463.length co23, .int .i64 t466] ?_ 1; refine SK ?_; refine BP #[.slice Ao21 t460.length co21, .slice Ao23 t463.length co23, .int .i64 t466] ?_ 0; exact SK BK468.out⟩, ⟨KI87⟩, ⟨by repeat (first | (with_reducible first | exact HK.out | apply KeepBut.set_ | apply keep_drewN | apply keep_drew | apply keep_alloc | refine keep_far ?_ GW449.out _ | refine keep_far ?_ GW450.out _ | refine keep_far ?_ GW468.out _) | exact HK.out)⟩, ⟨KBh87 HB.out⟩⟩
      ·rw [if_neg c39] at H
       have c39b0 : (t469 == 1) = false := beq_eq_false_iff_ne.mpr c39; have c39b1 : (t469 != 1) = true := bne_iff_ne.mpr c39
       by_cases c49 : t469 = 2
       ·rw [if_pos c49] at H
        have c49b0 : (t469 == 2) = true := beq_iff_eq.mpr c49; have c49b1 : (t469 != 2) = false := bne_eq_false_iff_eq.mpr c49; clear c49; replace H := Option.bind_eq_some_iff.mp H; obtain ⟨⟨t488, t489, t490⟩, A500, H⟩ := H
        try dsimp only at H
        have A50 := Aside0.mk A500; clear A500
        by_cases c51 : t488 = true
        ·subst c51
         have H1 : ((spec_l1Below.f s0_0 t489 t490 4).bind fun bt491 => ((spec_StoreSeal.f k1 x451000_1 x451001_1 x451002_1 bt491.1).bind fun bt494 => (spec_l6DrawRight.j1 k1 t451 x5_1 bt494.2.2.2 s0_0 bt491.2.1 bt491.2.2 x451000_1 x451001_1 x451002_1 bt494.1 bt494.2.1 bt494.2.2.1))) = some (r1, r2, r3, r4, r5) := by rw [if_pos rfl] at H; exact H
         clear H; have H := H1; clear H1; replace H := Option.bind_eq_some_iff.mp H; obtain ⟨⟨t491, t492, t493⟩, A520, H⟩ := H
         try dsimp only at H
         have A52 := Aside0.mk A520; clear A520; replace H := Option.bind_eq_some_iff.mp H; obtain ⟨⟨t494, t497, t500, t501⟩, A530, H⟩ := H
         try dsimp only at H
         have A53 := Aside0.mk A530; clear A530; have H' := Aside0.mk H; clear H
         try go_wp2_with (first | ((with_reducible refine GC 61 ?_); refine goesL_ (some 44) rfl rfl Try.func61 (by kernel_rfl) rfl #[.pointer (some ⟨g, 0, none⟩), .int .i64 3] rfl KL ?_; (with_reducible refine (spec_l1Once.calls g s0_0 t470 t471 3 true t489 t490 w0 _ ?side1 ?side2 A50.out).mono ?_); (case side1 => exact KI87); (case side2 => exact KBh87 HB.out); rintro e w54 ⟨rfl, hi, hb, hk⟩; refine ⟨_, rfl, ?_⟩; have h_ := P10 (Kd.R_mono (Kd.R_keep (IsS87.apart (show IsS87 w0 _ g s0_0 t470 t471 from KI87) (KR HO_451000.out) (by decide)) hk (fun _ h => h.2)) (fun _ h => h.1)) (Kd.R_mono (Kd.R_keep (IsS87.apart (show IsS87 w0 _ g s0_0 t470 t471 from KI87) (KR HO_451001.out) (by decide)) hk (fun _ h => h.2)) (fun _ h => h.1)) (KW BK449.out hk NB449_0.out) (KW BK450.out hk NB450_0.out) (Kd.R_mono (Kd.R_keep (IsS87.apart (show IsS87 w0 _ g s0_0 t470 t471 from KI87) (KR HO462.out) (by decide)) hk (fun _ h => h.2)) (fun _ h => h.1)) (Kd.R_mono (Kd.R_keep (IsS87.apart (show IsS87 w0 _ g s0_0 t470 t471 from KI87) (KR HO465.out) (by decide)) hk (fun _ h => h.2)) (fun _ h => h.1)) (KW BK468.out hk NB468_0.out) (KeepBut.trans (KHh HK.out) hk (.inl rfl)) hb hi; clear HO_451000 HO_451001 BK449 BK450 HO462 HO465 BK468 HK HB HI0; obtain ⟨HO_451000, HO_451001, BK449, BK450, HO462, HO465, BK468, HK, HB, HI0⟩ := h_; (try clear hb); (try clear hk); (try clear hi)))
         have h_ := P10 (Kd.R_drew HO_451000.out) (Kd.R_drew HO_451001.out) (Kd.R_drew HO462.out) (Kd.R_drew HO465.out) (blk_drew BK449.out) (blk_drew BK450.out) (blk_drew BK468.out) (IsS87.drew HI0.out) (keep_drew HK.out) (below_drew1 HB.out); clear HO_451000 HO_451001 HO462 HO465 BK449 BK450 BK468 HI0 HK HB; obtain ⟨HO_451000, HO_451001, HO462, HO465, BK449, BK450, BK468, HI0, HK, HB⟩ := h_; refine start_ (n := 9) (S := fun w' => w'.cell? ⟨gb450, 0, none⟩ = some (.slice Ao14 x451000_1.length co14) ∧ w'.cell? ⟨gb450, 1, none⟩ = some (.slice Ao15 x451001_1.length co15) ∧ w'.cell? ⟨gb450, 2, none⟩ = some (.int .i64 x451002_1)) (ds := []) #[false, false, false, false, false, false, false, false, false] (by kernel_rfl) rfl rfl ⟨(blk_cell BK450.out 0).trans rfl, (blk_cell BK450.out 1).trans rfl, (blk_cell BK450.out 2).trans rfl⟩ (fun hHeld => ?_); refine with_tabW spec_l6DrawRight.tab14 spec_l6DrawRight.bits14 (fun HT_ HW_ => ?_); generalize w54.drew = w55 at HO_451000 HO_451001 HO462 HO465 BK449 BK450 BK468 HI0 HK HB hHeld ⊢; refine pure_ (i := 1) (N := some 47) (v := ?_) (a' := ?_) #[false, true, false, false, false, false, false, false, false] rfl rfl (any_of HT_.out (by kernel_rfl)) (fun _ _ _ h => h) (Or.inl ⟨by rfl, ?_⟩) ?_ ?_; rotate_left
         ·intro w'
          go_simp; with_reducible rfl
         rotate_left
         ·exact KA
         refine take_ (i := 0) (N := some 46) (v := ?_) (a' := ?_) #[true, true, false, false, false, false, false, false, false] rfl rfl (take_ofW HT_.out HW_.out (by kernel_rfl)) (fun _ _ _ h => h) (Or.inl ⟨by rfl, ?_⟩) hHeld ?_ ?_; rotate_left
         ·rintro w' ⟨s0, s1, s2⟩
          go_simp; with_reducible rfl
         rotate_left
         ·exact KA
         refine one_ (i := 2) (N := some 48) #[true, true, true, false, false, false, false, false, false] rfl rfl (one_of HT_.out (by kernel_rfl)) (by decide) (fun K hK => ?_); refine goes_ Try.func57 (by kernel_rfl) rfl #[.pointer (some ⟨g, 0, none⟩), .int .i64 4] (by rfl) rfl rfl KL ?_; (with_reducible refine (spec_l1Below.calls g s0_0 t489 t490 4 t491 t492 t493 w0 _ ?side1 ?side2 A52.out).mono ?_); (case side1 => exact KI87); (case side2 => exact KBh87 HB.out); rintro e w56 ⟨rfl, hi, hb, hk⟩; refine ⟨_, rfl, ?_⟩; have h_ := P10 (Kd.R_mono (Kd.R_keep (IsS87.apart (show IsS87 w0 _ g s0_0 t489 t490 from KI87) (KR HO_451000.out) (by decide)) hk (fun _ h => h.2)) (fun _ h => h.1)) (Kd.R_mono (Kd.R_keep (IsS87.apart (show IsS87 w0 _ g s0_0 t489 t490 from KI87) (KR HO_451001.out) (by decide)) hk (fun _ h => h.2)) (fun _ h => h.1)) (KW BK449.out hk NB449_0.out) (KW BK450.out hk NB450_0.out) (Kd.R_mono (Kd.R_keep (IsS87.apart (show IsS87 w0 _ g s0_0 t489 t490 from KI87) (KR HO462.out) (by decide)) hk (fun _ h => h.2)) (fun _ h => h.1)) (Kd.R_mono (Kd.R_keep (IsS87.apart (show IsS87 w0 _ g s0_0 t489 t490 from KI87) (KR HO465.out) (by decide)) hk (fun _ h => h.2)) (fun _ h => h.1)) (KW BK468.out hk NB468_0.out) (KeepBut.trans (KHh HK.out) hk (.inl rfl)) hb hi; clear HO_451000 HO_451001 BK449 BK450 HO462 HO465 BK468 HK HB HI0; obtain ⟨HO_451000, HO_451001, BK449, BK450, HO462, HO465, BK468, HK, HB, HI0⟩ := h_; (try clear hb); (try clear hk); (try clear hi); refine hK.out _ _ ⟨(blk_cell BK450.out 0).trans rfl, (blk_cell BK450.out 1).trans rfl, (blk_cell BK450.out 2).trans rfl⟩ (fun hHeld => ?_); clear hK K; refine norm_ (a' := ?_) ?_ ?_; rotate_left
         ·show Act.put _ (some 48) _ = _; exact KA
         refine one_ (i := 3) (N := some 49) #[true, true, true, true, false, false, false, false, false] rfl rfl (one_of HT_.out (by kernel_rfl)) (by decide) (fun K hK => ?_); refine goes_ Try.func38 (by kernel_rfl) rfl #[.agg #[.slice Ao14 x451000_1.length co14, .slice Ao15 x451001_1.length co15, .int .i64 x451002_1], .int .i64 t491] (by rfl) rfl rfl KL ?_; (with_reducible refine (spec_StoreSeal.calls k1 _ _ x451000_1 _ _ x451001_1 x451002_1 t491 t494 t497 t500 t501 _ ?side1 ?side2 ?side3 ?side4 A53.out).mono ?_); (case side1 => repeat (first | exact (Kd.R_reads' HO_451000.out).2.2 | (with_reducible refine Kd.C_alloc ?_ _) | (with_reducible refine Kd.C_drewN ?_ _) | (with_reducible refine Kd.C_drew ?_))); (case side2 => exact (Kd.R_reads' HO_451000.out).2.1); (case side3 => repeat (first | exact (Kd.R_reads' HO_451001.out).2.2 | (with_reducible refine Kd.C_alloc ?_ _) | (with_reducible refine Kd.C_drewN ?_ _) | (with_reducible refine Kd.C_drew ?_))); (case side4 => exact (Kd.R_reads' HO_451001.out).2.1); rintro e w57 ⟨v495, v498, rfl, ho0, ho1, hb⟩; refine ⟨_, rfl, ?_⟩; have h_ := P12 (Kd.R_mono (Kd.R_told (Kd.R_told (Kd.R_old (KR HO_451000.out) hb) (Kd.R_base ho0)) (Kd.R_base ho1)) (fun _ h_ => h_.1)) (Kd.R_mono (Kd.R_told (Kd.R_told (Kd.R_old (KR HO_451001.out) hb) (Kd.R_base ho0)) (Kd.R_base ho1)) (fun _ h_ => h_.1)) (Kd.R_mono (Kd.R_told (Kd.R_told (Kd.R_old (KR HO462.out) hb) (Kd.R_base ho0)) (Kd.R_base ho1)) (fun _ h_ => h_.1)) (Kd.R_mono (Kd.R_told (Kd.R_told (Kd.R_old (KR HO465.out) hb) (Kd.R_base ho0)) (Kd.R_base ho1)) (fun _ h_ => h_.1)) (Kd.R_lower (Kd.R_new' (Kd.R_new' (Kd.R_new' (Kd.R_new' ho0 (Kd.R_lt (KR HO_451000.out))) (Kd.R_lt (KR HO_451001.out))) (Kd.R_lt (KR HO462.out))) (Kd.R_lt (KR HO465.out))) (KS HK.out)) (Kd.R_lower (Kd.R_new' (Kd.R_new' (Kd.R_new' (Kd.R_new' ho1 (Kd.R_lt (KR HO_451000.out))) (Kd.R_lt (KR HO_451001.out))) (Kd.R_lt (KR HO462.out))) (Kd.R_lt (KR HO465.out))) (KS HK.out)) (BL BK449.out hb) (BL BK450.out hb) (IsS87.below (KI87) hb) (BL BK468.out hb) (KeepBut.trans (KHh HK.out) (KeepBut.of_below hb g none) (.inl rfl)) (below_step (KBh87 HB.out) hb); clear HO_451000 HO_451001 HO462 HO465 BK449 BK450 HI0 BK468 HK HB; obtain ⟨HO_451000, HO_451001, HO462, HO465, HO496, HO499, BK449, BK450, HI0, BK468, HK, HB⟩ := h_; (try clear hb); (try clear hk); (try clear hi); (try clear ho0); (try clear ho1); obtain ⟨Ao58, co58, eo58⟩ := Kd.R_slice HO496.out; (first | subst eo58 | (injection eo58 with f1_ f2_ f3_; have f4_ := f1_.symm; have f5_ := f3_.symm; clear f1_ f2_ f3_; subst f4_; subst f5_)); obtain ⟨Ao60, co60, eo60⟩ := Kd.R_slice HO499.out; (first | subst eo60 | (injection eo60 with f1_ f2_ f3_; have f4_ := f1_.symm; have f5_ := f3_.symm; clear f1_ f2_ f3_; subst f4_; subst f5_)); refine hK.out _ _ ⟨(blk_cell BK450.out 0).trans rfl, (blk_cell BK450.out 1).trans rfl, (blk_cell BK450.out 2).trans rfl⟩ (fun hHeld => ?_); clear hK K; refine norm_ (a' := ?_) ?_ ?_; rotate_left
         ·show Act.put _ (some 49) _ = _; exact KA
         refine pure_ (i := 4) (N := some 45) (v := ?_) (a' := ?_) #[true, true, true, true, true, false, false, false, false] rfl rfl (any_of HT_.out (by kernel_rfl)) (fun _ _ _ h => h) (Or.inl ⟨by rfl, ?_⟩) ?_ ?_; rotate_left
         ·intro w'
          go_simp; with_reducible rfl
         rotate_left
         ·exact KA
         refine pure_ (i := 5) (N := some 50) (v := ?_) (a' := ?_) #[true, true, true, true, true, true, false, false, false] rfl rfl (any_of HT_.out (by kernel_rfl)) (fun _ _ _ h => h) (Or.inl ⟨by rfl, ?_⟩) ?_ ?_; rotate_left
         ·intro w'
          go_simp; with_reducible rfl
         rotate_left
         ·exact KA
         refine pure_ (i := 6) (N := some 51) (v := ?_) (a' := ?_) #[true, true, true, true, true, true, true, false, false] rfl rfl (any_of HT_.out (by kernel_rfl)) (fun _ _ _ h => h) (Or.inl ⟨by rfl, ?_⟩) ?_ ?_; rotate_left
         ·intro w'
          go_simp; with_reducible rfl
         rotate_left
         ·exact KA
         refine one_ (i := 7) (N := none) #[true, true, true, true, true, true, true, true, false] rfl rfl (one_of HT_.out (by kernel_rfl)) (by decide) (fun K hK => ?_); have hs59 : w57.cell? ⟨gb468, 0, none⟩ = some (.slice Ao21 t460.length co21) := (blk_cell BK468.out 0).trans rfl; have hfs59 := blk_frozen BK468.out 0; have hns59_0 := NB449_468.out; have hns59_1 := NB450_468.out; have hms59_0 := NB468_449.out; have hms59_1 := NB468_450.out; have hs61 : w57.cell? ⟨gb468, 1, none⟩ = some (.slice Ao23 t463.length co23) := (blk_cell BK468.out 1).trans rfl; have hfs61 := blk_frozen BK468.out 1; have hns61_0 := NB449_468.out; have hns61_1 := NB450_468.out; have hms61_0 := NB468_449.out; have hms61_1 := NB468_450.out; have hs62 : w57.cell? ⟨gb468, 2, none⟩ = some (.int .i64 t466) := (blk_cell BK468.out 2).trans rfl; have hfs62 := blk_frozen BK468.out 2; have hns62_0 := NB449_468.out; have hns62_1 := NB450_468.out; have hms62_0 := NB468_449.out; have hms62_1 := NB468_450.out; refine skip_ (w1 := ?_) (by rfl) rfl ?_ ?_; rotate_left
         ·go_simp
          rfl
         refine hK.out _ _ ⟨((cell_far (p := ⟨gb468, _, none⟩) NB450_468.out _).trans (((cell_far (p := ⟨gb468, _, none⟩) NB450_468.out _).trans (((cell_far (p := ⟨gb468, _, none⟩) NB450_468.out _).trans (hHeld.1)))))), ((cell_far (p := ⟨gb468, _, none⟩) NB450_468.out _).trans (((cell_far (p := ⟨gb468, _, none⟩) NB450_468.out _).trans (((cell_far (p := ⟨gb468, _, none⟩) NB450_468.out _).trans (hHeld.2.1)))))), ((cell_far (p := ⟨gb468, _, none⟩) NB450_468.out _).trans (((cell_far (p := ⟨gb468, _, none⟩) NB450_468.out _).trans (((cell_far (p := ⟨gb468, _, none⟩) NB450_468.out _).trans (hHeld.2.2))))))⟩ (fun hHeld => ?_); clear hK K; refine pure_ (i := 8) (N := some 7) (v := ?_) (a' := ?_) #[true, true, true, true, true, true, true, true, true] rfl rfl (any_of HT_.out (by kernel_rfl)) (fun _ _ _ h => h) (Or.inl ⟨by rfl, ?_⟩) ?_ ?_; rotate_left
         ·intro w'
          go_simp; with_reducible rfl
         rotate_left
         ·exact KA
         refine done_ (done_of HT_.out (by kernel_rfl)) ?_
         try go_wp2
         go_meet
         case rel => exact ⟨_, (t501), (t492), (t493), (t494), (t497), (t500), (.slice Ao58 t494.length co58), (.slice Ao60 t497.length co60), (by first | rfl | (simp; done) | (simp [*]; done)), H', ⟨by have := HK1.out; first | omega | exact Nat.le_refl _⟩, ⟨Kd.R_mono (RF (RT HO_451000.out BK468.out)) (fun _ hk => ⟨hk.1.1.1.2.2, ⟨hk.1.1.2, hk.1.2⟩⟩)⟩, ⟨Kd.R_mono (RF (RT HO_451001.out BK468.out)) (fun _ hk => ⟨hk.1.1.1.2.2, ⟨hk.1.1.2, hk.1.2⟩⟩)⟩, ⟨Kd.R_mono (RF (RT HO496.out BK468.out)) (fun _ hk => ⟨hk.1.1.1.1.2, ⟨hk.1.1.1.2, hk.1.1.1.1.1⟩⟩)⟩, ⟨Kd.R_mono (RF (RT HO499.out BK468.out)) (fun _ hk => ⟨hk.1.1.1.1.2, ⟨hk.1.1.1.2, hk.1.1.1.1.1⟩⟩)⟩, ⟨KK⟩, ⟨KK⟩, ⟨by refine SK ?_; refine BP #[.slice Ao58 t494.length co58, .slice Ao60 t497.length co60, .int .i64 t466] ?_ 2; refine SK ?_; refine BP #[.slice Ao58 t494.length co58, .slice Ao23 t463.length co23, .int .i64 t466] ?_ 1; refine SK ?_; refine BP #[.slice Ao21 t460.length co21, .slice Ao23 t463.length co23, .int .i64 t466] ?_ 0; exact SK BK468.out⟩, ⟨KI87⟩, ⟨by repeat (first | (with_reducible first | exact HK.out | apply KeepBut.set_ | apply keep_drewN | apply keep_drew | apply keep_alloc | refine keep_far ?_ GW449.out _ | refine keep_far ?_ GW450.out _ | refine keep_far ?_ GW468.out _) | exact HK.out)⟩, ⟨KBh87 HB.out⟩⟩
        ·replace c51 := Bool.eq_false_iff.mpr c51
         subst c51; have H1 : (spec_l6DrawRight.j1 k1 t451 x5_1 t467 s0_0 t489 t490 x451000_1 x451001_1 x451002_1 t460 t463 t466) = some (r1, r2, r3, r4, r5) := by rw [if_neg (show ¬ (false = true) by decide)] at H; exact H
         clear H; have H := H1; clear H1; have H' := Aside0.mk H; clear H
         go_wp2_with (first | ((with_reducible refine GC 61 ?_); refine goesL_ (some 44) rfl rfl Try.func61 (by kernel_rfl) rfl #[.pointer (some ⟨g, 0, none⟩), .int .i64 3] rfl KL ?_; (with_reducible refine (spec_l1Once.calls g s0_0 t470 t471 3 false t489 t490 w0 _ ?side1 ?side2 A50.out).mono ?_); (case side1 => exact KI87); (case side2 => exact KBh87 HB.out); rintro e w63 ⟨rfl, hi, hb, hk⟩; refine ⟨_, rfl, ?_⟩; have h_ := P10 (Kd.R_mono (Kd.R_keep (IsS87.apart (show IsS87 w0 _ g s0_0 t470 t471 from KI87) (KR HO_451000.out) (by decide)) hk (fun _ h => h.2)) (fun _ h => h.1)) (Kd.R_mono (Kd.R_keep (IsS87.apart (show IsS87 w0 _ g s0_0 t470 t471 from KI87) (KR HO_451001.out) (by decide)) hk (fun _ h => h.2)) (fun _ h => h.1)) (KW BK449.out hk NB449_0.out) (KW BK450.out hk NB450_0.out) (Kd.R_mono (Kd.R_keep (IsS87.apart (show IsS87 w0 _ g s0_0 t470 t471 from KI87) (KR HO462.out) (by decide)) hk (fun _ h => h.2)) (fun _ h => h.1)) (Kd.R_mono (Kd.R_keep (IsS87.apart (show IsS87 w0 _ g s0_0 t470 t471 from KI87) (KR HO465.out) (by decide)) hk (fun _ h => h.2)) (fun _ h => h.1)) (KW BK468.out hk NB468_0.out) (KeepBut.trans (KHh HK.out) hk (.inl rfl)) hb hi; clear HO_451000 HO_451001 BK449 BK450 HO462 HO465 BK468 HK HB HI0; obtain ⟨HO_451000, HO_451001, BK449, BK450, HO462, HO465, BK468, HK, HB, HI0⟩ := h_; (try clear hb); (try clear hk); (try clear hi)))
         go_meet
         case rel => exact ⟨_, (t467), (t489), (t490), (t460), (t463), (t466), (.slice Ao21 t460.length co21), (.slice Ao23 t463.length co23), (by first | rfl | (simp; done) | (simp [*]; done)), H', ⟨by have := HK1.out; first | omega | exact Nat.le_refl _⟩, ⟨by (with_reducible repeat (first | apply Kd.R_alloc | apply Kd.R_drewN | apply Kd.R_drew)); exact Kd.R_mono HO_451000.out (fun _ hk => ⟨hk.2.2, ⟨hk.1, hk.2.1⟩⟩)⟩, ⟨by (with_reducible repeat (first | apply Kd.R_alloc | apply Kd.R_drewN | apply Kd.R_drew)); exact Kd.R_mono HO_451001.out (fun _ hk => ⟨hk.2.2, ⟨hk.1, hk.2.1⟩⟩)⟩, ⟨by (with_reducible repeat (first | apply Kd.R_alloc | apply Kd.R_drewN | apply Kd.R_drew)); exact Kd.R_mono HO462.out (fun _ hk => ⟨hk.2.1, ⟨hk.2.2, hk.1⟩⟩)⟩, ⟨by (with_reducible repeat (first | apply Kd.R_alloc | apply Kd.R_drewN | apply Kd.R_drew)); exact Kd.R_mono HO465.out (fun _ hk => ⟨hk.2.1, ⟨hk.2.2, hk.1⟩⟩)⟩, ⟨KK⟩, ⟨KK⟩, ⟨KK⟩, ⟨KI87⟩, ⟨by repeat (first | (with_reducible first | exact HK.out | apply KeepBut.set_ | apply keep_drewN | apply keep_drew | apply keep_alloc | refine keep_far ?_ GW449.out _ | refine keep_far ?_ GW450.out _ | refine keep_far ?_ GW468.out _) | exact HK.out)⟩, ⟨KBh87 HB.out⟩⟩
       ·rw [if_neg c49] at H
        have c49b0 : (t469 == 2) = false := beq_eq_false_iff_ne.mpr c49; have c49b1 : (t469 != 2) = true := bne_iff_ne.mpr c49; have H' := Aside0.mk H; clear H
        go_wp2
        go_meet
        case rel => exact ⟨_, (t467), (t470), (t471), (t460), (t463), (t466), (.slice Ao21 t460.length co21), (.slice Ao23 t463.length co23), (by first | rfl | (simp; done) | (simp [*]; done)), H', ⟨by have := HK1.out; first | omega | exact Nat.le_refl _⟩, ⟨by (with_reducible repeat (first | apply Kd.R_alloc | apply Kd.R_drewN | apply Kd.R_drew)); exact Kd.R_mono HO_451000.out (fun _ hk => ⟨hk.2.2, ⟨hk.1, hk.2.1⟩⟩)⟩, ⟨by (with_reducible repeat (first | apply Kd.R_alloc | apply Kd.R_drewN | apply Kd.R_drew)); exact Kd.R_mono HO_451001.out (fun _ hk => ⟨hk.2.2, ⟨hk.1, hk.2.1⟩⟩)⟩, ⟨by (with_reducible repeat (first | apply Kd.R_alloc | apply Kd.R_drewN | apply Kd.R_drew)); exact Kd.R_mono HO462.out (fun _ hk => ⟨hk.2.1, ⟨hk.2.2, hk.1⟩⟩)⟩, ⟨by (with_reducible repeat (first | apply Kd.R_alloc | apply Kd.R_drewN | apply Kd.R_drew)); exact Kd.R_mono HO465.out (fun _ hk => ⟨hk.2.1, ⟨hk.2.2, hk.1⟩⟩)⟩, ⟨KK⟩, ⟨KK⟩, ⟨KK⟩, ⟨KI87⟩, ⟨by repeat (first | (with_reducible first | exact HK.out | apply KeepBut.set_ | apply keep_drewN | apply keep_drew | apply keep_alloc | refine keep_far ?_ GW449.out _ | refine keep_far ?_ GW450.out _ | refine keep_far ?_ GW468.out _) | exact HK.out)⟩, ⟨KBh87 HB.out⟩⟩
    case rest =>
     clear HC13
     try clear c1
     try clear c2
     try clear p2
     try clear c3
     try clear c4
     try clear c5
     try clear c6
     try clear c7
     try clear c9
     try clear c11
     try clear c27
     try clear c27b0
     try clear c27b1
     try clear c29
     try clear c30
     try clear c31
     try clear c35
     try clear c36
     try clear c38
     try clear c39
     try clear c39b0
     try clear c39b1
     try clear c41
     try clear c42
     try clear c43
     try clear c49
     try clear c49b0
     try clear c49b1
     try clear c51
     try clear c57
     try clear c61
     try clear hcz32_0
     try clear hcz32_1
     try clear hcz32_2
     try clear hcz37_0
     try clear hcz37_1
     try clear hcz37_2
     try clear hcz44_0
     try clear hcz44_1
     try clear hcz44_2
     try clear hcz47_0
     try clear hcz47_1
     try clear hcz47_2
     try clear hfz32_0
     try clear hfz32_1
     try clear hfz32_2
     try clear hfz37_0
     try clear hfz37_1
     try clear hfz37_2
     try clear hfz44_0
     try clear hfz44_1
     try clear hfz44_2
     try clear hfz47_0
     try clear hfz47_1
     try clear hfz47_2
     obtain ⟨kq, x7_12, x1001_12, x1002_12, x469000_12, x469001_12, x469002_12, u469000, u469001, rfl, HA, HJ12, HO_451000, HO_451001, HO_469000, HO_469001, BK449, BK450, BK468, HI0, HK, HB⟩ := hcut
     cases kq with
     | zero => exact absurd HA.out (by simp [spec_l6DrawRight.j1])
     | succ kj12 =>
      have H := HA.out; clear HA; simp only [spec_l6DrawRight.j1] at H
      by_cases c64 : x7_12 = true
      ·subst c64
       have H1 : (spec_l6DrawRight.l0 kj12 t451 (wrap64 (x5_1 + 1)) s0_0 x1001_12 x1002_12 x469000_12 x469001_12 x469002_12) = some (r1, r2, r3, r4, r5) := by rw [if_pos rfl] at H; exact H
       clear H; have H := H1; clear H1; have H' := Aside0.mk H; clear H; have hnb65 := NB468_449.out; have hnc65 := NB449_468.out; have hnb66 := NB468_450.out; have hnc66 := NB450_468.out; have hnb67 := NB468_0.out; have hnc67 := NB0_468.out; obtain ⟨hcz68_0, hcz68_1, hcz68_2, hfz68_0, hfz68_1, hfz68_2⟩ := C3 BK468.out; obtain ⟨Ao69, co69, eo69⟩ := Kd.R_slice HO_469000.out; subst eo69; have hnb70 := NB450_449.out; have hnc70 := NB449_450.out; have hnb71 := NB450_0.out; have hnc71 := NB0_450.out; obtain ⟨hcz72_0, hcz72_1, hcz72_2, hfz72_0, hfz72_1, hfz72_2⟩ := C3 BK450.out; obtain ⟨Ao73, co73, eo73⟩ := Kd.R_slice HO_469001.out; subst eo73
       go_wp2
       go_roundg kj12
       case measure => have := HK1.out; have := HJ12.out; omega
       case rel => exact ⟨(wrap64 (x5_1 + 1)), (x1001_12), (x1002_12), (x469000_12), (x469001_12), (x469002_12), (.slice Ao69 x469000_12.length co69), (.slice Ao73 x469001_12.length co73), (by first | rfl | (simp; done) | (simp [*]; done)), H', ⟨by have := HK1.out; have := HJ12.out; omega⟩, ⟨RQ (RT HO_469000.out BK450.out) (hm := fun _ h => h.1.2.2)⟩, ⟨RQ (RT HO_469001.out BK450.out) (hm := fun _ h => h.1.2.2)⟩, ⟨KK⟩, ⟨by refine SK ?_; refine BP #[.slice Ao69 x469000_12.length co69, .slice Ao73 x469001_12.length co73, .int .i64 x451002_1] ?_ 2; refine SK ?_; refine BP #[.slice Ao69 x469000_12.length co69, .slice Ao15 x451001_1.length co15, .int .i64 x451002_1] ?_ 1; refine SK ?_; refine BP #[.slice Ao14 x451000_1.length co14, .slice Ao15 x451001_1.length co15, .int .i64 x451002_1] ?_ 0; exact SK BK450.out⟩, ⟨KI87⟩, ⟨by repeat (first | (with_reducible first | exact HK.out | apply KeepBut.set_ | apply keep_drewN | apply keep_drew | apply keep_alloc | refine keep_far ?_ GW449.out _ | refine keep_far ?_ GW450.out _ | refine keep_far ?_ GW468.out _) | exact HK.out)⟩, ⟨KBh87 HB.out⟩⟩
      ·replace c64 := Bool.eq_false_iff.mpr c64
       subst c64; have H1 : (spec_l6DrawRight.l0 kj12 t451 (wrap64 (x5_1 + 1)) s0_0 x1001_12 x1002_12 x451000_1 x451001_1 x451002_1) = some (r1, r2, r3, r4, r5) := by rw [if_neg (show ¬ (false = true) by decide)] at H; exact H
       clear H; have H := H1; clear H1; have H' := Aside0.mk H; clear H
       go_wp2
       go_roundg kj12
       case measure => have := HK1.out; have := HJ12.out; omega
       case rel => exact ⟨(wrap64 (x5_1 + 1)), (x1001_12), (x1002_12), (x451000_1), (x451001_1), (x451002_1), (.slice Ao14 x451000_1.length co14), (.slice Ao15 x451001_1.length co15), (by first | rfl | (simp; done) | (simp [*]; done)), H', ⟨by have := HK1.out; have := HJ12.out; omega⟩, ⟨by (with_reducible repeat (first | apply Kd.R_alloc | apply Kd.R_drewN | apply Kd.R_drew)); exact Kd.R_mono HO_451000.out (fun _ hk => hk.1)⟩, ⟨by (with_reducible repeat (first | apply Kd.R_alloc | apply Kd.R_drewN | apply Kd.R_drew)); exact Kd.R_mono HO_451001.out (fun _ hk => hk.1)⟩, ⟨KK⟩, ⟨KK⟩, ⟨KI87⟩, ⟨by repeat (first | (with_reducible first | exact HK.out | apply KeepBut.set_ | apply keep_drewN | apply keep_drew | apply keep_alloc | refine keep_far ?_ GW449.out _ | refine keep_far ?_ GW450.out _ | refine keep_far ?_ GW468.out _) | exact HK.out)⟩, ⟨KBh87 HB.out⟩⟩
   ·rw [if_neg c9] at H
    have c9b0 : decide (x5_1 < t451) = false := decide_eq_false c9; clear c9; replace H := Option.bind_eq_some_iff.mp H; obtain ⟨⟨t502, t503, t504⟩, A740, H⟩ := H
    try dsimp only at H
    have A74 := Aside0.mk A740; clear A740
    by_cases c75 : t502 = true
    ·subst c75
     have H1 : (spec_l6DrawRight.l1 k1 1 s0_0 t503 t504 ([] : List (S35)) x451001_1 x451002_1) = some (r1, r2, r3, r4, r5) := by rw [if_pos rfl] at H; exact H
     clear H; have H := H1; clear H1; have H' := Aside0.mk H; clear H
     go_wp2_with (first | ((with_reducible refine GC 61 ?_); refine goesL_ (some 55) rfl rfl Try.func61 (by kernel_rfl) rfl #[.pointer (some ⟨g, 0, none⟩), .int .i64 40] rfl KL ?_; (with_reducible refine (spec_l1Once.calls g s0_0 x1001_1 x1002_1 40 true t503 t504 w0 _ ?side1 ?side2 A74.out).mono ?_); (case side1 => exact KI87); (case side2 => exact KBh87 HB.out); rintro e w76 ⟨rfl, hi, hb, hk⟩; refine ⟨_, rfl, ?_⟩; have h_ := P7 (Kd.R_mono (Kd.R_keep (IsS87.apart (show IsS87 w0 _ g s0_0 x1001_1 x1002_1 from KI87) (KR HO_451000.out) (by decide)) hk (fun _ h => h.2)) (fun _ h => h.1)) (Kd.R_mono (Kd.R_keep (IsS87.apart (show IsS87 w0 _ g s0_0 x1001_1 x1002_1 from KI87) (KR HO_451001.out) (by decide)) hk (fun _ h => h.2)) (fun _ h => h.1)) (KW BK449.out hk NB449_0.out) (KW BK450.out hk NB450_0.out) (KeepBut.trans (KHh HK.out) hk (.inl rfl)) hb hi; clear HO_451000 HO_451001 BK449 BK450 HK HB HI0; obtain ⟨HO_451000, HO_451001, BK449, BK450, HK, HB, HI0⟩ := h_; (try clear hb); (try clear hk); (try clear hi); have hnb77 := NB450_449.out; have hnc77 := NB449_450.out; have hnb78 := NB450_0.out; have hnc78 := NB0_450.out; obtain ⟨hcz79_0, hcz79_1, hcz79_2, hfz79_0, hfz79_1, hfz79_2⟩ := C3 BK450.out))
     go_loopg [8] k1 (fun kq v8 w' => ∃ (x8_2 : Int) (x451000_2 : List (S35)) (u451000 : Value), v8 = .int .i64 x8_2 ∧ Aside0 (spec_l6DrawRight.l1 kq x8_2 s0_0 t503 t504 x451000_2 x451001_1 x451002_1 = some (r1, r2, r3, r4, r5)) ∧ Aside0 (kq ≤ k1) ∧ Aside0 (Kd.R k35 35 w' w.heap.size (fun k_ => some k_ ≠ (u451001 : Value).ownBlock) u451000 x451000_2) ∧ Aside0 (Kd.R k35 35 w' w.heap.size (fun k_ => some k_ ≠ (u451000 : Value).ownBlock) u451001 x451001_1) ∧ Aside0 (w'.heap[gb449]? = some (.cells #[(.slice none 0 0), (.slice none 0 0), .int .i64 0] 31 (0, 0))) ∧ Aside0 (w'.heap[gb450]? = some (.cells #[u451000, u451001, .int .i64 x451002_1] 31 (0, 0))) ∧ Aside0 (IsS87 w0 w' g s0_0 t503 t504) ∧ Aside0 (KeepBut w w' g none) ∧ Aside0 (Below w0.heap.size w0 w'))
     case atStart => exact ⟨(1), (([] : List (S35))), (.slice none 0 0), (by first | rfl | (simp; done) | (simp [*]; done)), H', ⟨Nat.le_refl _⟩, ⟨by first | exact Kd.R_nil _ _ _ _ _ | exact Kd.N_nil _ _ _ _ _ | exact Kd.V_nil _ _ _ _ _ | exact Kd.Q_nil _ _ _ _ _ | exact Kd.S_nil _ _ _ _ _⟩, ⟨Kd.R_mono (RF (RT HO_451001.out BK450.out)) (fun _ hk => (by simp [Value.ownBlock]))⟩, ⟨KK⟩, ⟨by refine SK ?_; refine BP #[u451000, u451001, .int .i64 x451002_1] ?_ 0; exact SK BK450.out⟩, ⟨KI87⟩, ⟨by repeat (first | (with_reducible first | exact HK.out | apply KeepBut.set_ | apply keep_drewN | apply keep_drew | apply keep_alloc | refine keep_far ?_ GW449.out _ | refine keep_far ?_ GW450.out _) | exact HK.out)⟩, ⟨KBh87 HB.out⟩⟩
     case round =>
      clear H'
      try clear c1
      try clear c2
      try clear p2
      try clear c3
      try clear c4
      try clear c5
      try clear c6
      try clear p6
      try clear c7
      try clear c9
      try clear c9b0
      try clear c11
      try clear c27
      try clear c27b0
      try clear c27b1
      try clear c29
      try clear c30
      try clear c31
      try clear c35
      try clear c36
      try clear c38
      try clear c39
      try clear c39b0
      try clear c39b1
      try clear c41
      try clear c42
      try clear c43
      try clear c49
      try clear c49b0
      try clear c49b1
      try clear c51
      try clear c57
      try clear c61
      try clear c64
      try clear p64
      try clear c65
      try clear c66
      try clear c67
      try clear c70
      try clear c71
      try clear c73
      try clear c75
      try clear c77
      try clear c78
      try clear hcz32_0
      try clear hcz32_1
      try clear hcz32_2
      try clear hcz37_0
      try clear hcz37_1
      try clear hcz37_2
      try clear hcz44_0
      try clear hcz44_1
      try clear hcz44_2
      try clear hcz47_0
      try clear hcz47_1
      try clear hcz47_2
      try clear hcz68_0
      try clear hcz68_1
      try clear hcz68_2
      try clear hcz72_0
      try clear hcz72_1
      try clear hcz72_2
      try clear hcz79_0
      try clear hcz79_1
      try clear hcz79_2
      try clear hfz32_0
      try clear hfz32_1
      try clear hfz32_2
      try clear hfz37_0
      try clear hfz37_1
      try clear hfz37_2
      try clear hfz44_0
      try clear hfz44_1
      try clear hfz44_2
      try clear hfz47_0
      try clear hfz47_1
      try clear hfz47_2
      try clear hfz68_0
      try clear hfz68_1
      try clear hfz68_2
      try clear hfz72_0
      try clear hfz72_1
      try clear hfz72_2
      try clear hfz79_0
      try clear hfz79_1
      try clear hfz79_2
      try clear p2
      obtain ⟨x8_2, x451000_2, u451000, rfl, HA, HK2, HO_451000, HO_451001, BK449, BK450, HI0, HK, HB⟩ := hrel
      cases gk with
      | zero => exact absurd HA.out (by simp [spec_l6DrawRight.l1])
      | succ k2 =>
       have H := HA.out; clear HA; simp only [spec_l6DrawRight.l1] at H
       by_cases c80 : x8_2 ≤ 4
       ·rw [if_pos c80] at H
        have c80b0 : decide (x8_2 ≤ 4) = true := decide_eq_true c80; clear c80; have H' := Aside0.mk H; clear H
        go_wp2
        go_loopg [9] k2 (fun kq v9 w' => ∃ (x9_3 : Int) (x451000_3 : List (S35)) (u451000 : Value), v9 = .int .i64 x9_3 ∧ Aside0 (spec_l6DrawRight.l2 kq x8_2 x9_3 s0_0 t503 t504 x451000_3 x451001_1 x451002_1 = some (r1, r2, r3, r4, r5)) ∧ Aside0 (kq ≤ k2) ∧ Aside0 (Kd.R k35 35 w' w.heap.size (fun k_ => some k_ ≠ (u451001 : Value).ownBlock) u451000 x451000_3) ∧ Aside0 (Kd.R k35 35 w' w.heap.size (fun k_ => some k_ ≠ (u451000 : Value).ownBlock) u451001 x451001_1) ∧ Aside0 (w'.heap[gb449]? = some (.cells #[(.slice none 0 0), (.slice none 0 0), .int .i64 0] 31 (0, 0))) ∧ Aside0 (w'.heap[gb450]? = some (.cells #[u451000, u451001, .int .i64 x451002_1] 31 (0, 0))) ∧ Aside0 (IsS87 w0 w' g s0_0 t503 t504) ∧ Aside0 (KeepBut w w' g none) ∧ Aside0 (Below w0.heap.size w0 w'))
        case atStart => exact ⟨(1), (x451000_2), (u451000), (by first | rfl | (simp; done) | (simp [*]; done)), H', ⟨Nat.le_refl _⟩, ⟨by (with_reducible repeat (first | apply Kd.R_alloc | apply Kd.R_drewN | apply Kd.R_drew)); exact HO_451000.out⟩, ⟨by (with_reducible repeat (first | apply Kd.R_alloc | apply Kd.R_drewN | apply Kd.R_drew)); exact HO_451001.out⟩, ⟨KK⟩, ⟨KK⟩, ⟨KI87⟩, ⟨by repeat (first | (with_reducible first | exact HK.out | apply KeepBut.set_ | apply keep_drewN | apply keep_drew | apply keep_alloc | refine keep_far ?_ GW449.out _ | refine keep_far ?_ GW450.out _) | exact HK.out)⟩, ⟨KBh87 HB.out⟩⟩
        case round =>
         clear H'
         try clear c1
         try clear c2
         try clear p2
         try clear c3
         try clear c4
         try clear c5
         try clear c6
         try clear p6
         try clear c7
         try clear c8
         try clear c9
         try clear c9b0
         try clear c11
         try clear c27
         try clear c27b0
         try clear c27b1
         try clear c29
         try clear c30
         try clear c31
         try clear c35
         try clear c36
         try clear c38
         try clear c39
         try clear c39b0
         try clear c39b1
         try clear c41
         try clear c42
         try clear c43
         try clear c49
         try clear c49b0
         try clear c49b1
         try clear c51
         try clear c57
         try clear c61
         try clear c64
         try clear p64
         try clear c65
         try clear c66
         try clear c67
         try clear c70
         try clear c71
         try clear c73
         try clear c75
         try clear c77
         try clear c78
         try clear c80
         try clear c80b0
         try clear hcz32_0
         try clear hcz32_1
         try clear hcz32_2
         try clear hcz37_0
         try clear hcz37_1
         try clear hcz37_2
         try clear hcz44_0
         try clear hcz44_1
         try clear hcz44_2
         try clear hcz47_0
         try clear hcz47_1
         try clear hcz47_2
         try clear hcz68_0
         try clear hcz68_1
         try clear hcz68_2
         try clear hcz72_0
         try clear hcz72_1
         try clear hcz72_2
         try clear hcz79_0
         try clear hcz79_1
         try clear hcz79_2
         try clear hfz32_0
         try clear hfz32_1
         try clear hfz32_2
         try clear hfz37_0
         try clear hfz37_1
         try clear hfz37_2
         try clear hfz44_0
         try clear hfz44_1
         try clear hfz44_2
         try clear hfz47_0
         try clear hfz47_1
         try clear hfz47_2
         try clear hfz68_0
         try clear hfz68_1
         try clear hfz68_2
         try clear hfz72_0
         try clear hfz72_1
         try clear hfz72_2
         try clear hfz79_0
         try clear hfz79_1
         try clear hfz79_2
         try clear p2
         try clear p6
         try clear p64
         obtain ⟨x9_3, x451000_3, u451000, rfl, HA, HK3, HO_451000, HO_451001, BK449, BK450, HI0, HK, HB⟩ := hrel
         cases gk with
         | zero => exact absurd HA.out (by simp [spec_l6DrawRight.l2])
         | succ k3 =>
          have H := HA.out; clear HA; simp only [spec_l6DrawRight.l2] at H
          by_cases c81 : x9_3 ≤ 50
          ·rw [if_pos c81] at H
           have c81b0 : decide (x9_3 ≤ 50) = true := decide_eq_true c81; clear c81; replace H := Option.bind_eq_some_iff.mp H; obtain ⟨t505, A820, H⟩ := H
           try dsimp only at H
           have A82 := Aside0.mk A820; clear A820
           by_cases c83 : x451000_3.length < 3518437208883
           ·rw [if_pos c83] at H
            have LMc83 := Aside0.mk c83; clear c83; obtain ⟨y506, hy506⟩ : ∃ y_ : List (S35), y_ = (x451000_3 ++ [(⟨t505, 0, false, (⟨#[]⟩ : ByteArray)⟩ : S35)]) := ⟨_, rfl⟩; replace H : (spec_l6DrawRight.l2 k3 x8_2 (wrap64 (x9_3 + 1)) s0_0 t503 t504 y506 x451001_1 x451002_1) = some (r1, r2, r3, r4, r5) := by first | (rw [hy506]; with_reducible exact H) | (have H2_ := (Option.bind_some _ _).symm.trans H; rw [hy506]; with_reducible exact H2_) | (have H2_ := (Option.bind_some _ _).symm.trans H; with_reducible exact H2_) | with_reducible exact H | (rw [hy506]; exact H) | exact H
            have Ny506 := Aside0.mk hy506; clear hy506; have H' := Aside0.mk H; clear H
            try go_wp2
            have h_ := P7 (Kd.R_drew HO_451000.out) (Kd.R_drew HO_451001.out) (blk_drew BK449.out) (blk_drew BK450.out) (IsS87.drew HI0.out) (keep_drew HK.out) (below_drew1 HB.out); clear HO_451000 HO_451001 BK449 BK450 HI0 HK HB; obtain ⟨HO_451000, HO_451001, BK449, BK450, HI0, HK, HB⟩ := h_; refine start_ (n := 10) (S := fun w' => w'.cell? ⟨gb450, 0, none⟩ = some (u451000) ∧ w'.cell? ⟨gb450, 1, none⟩ = some (u451001) ∧ w'.cell? ⟨gb450, 2, none⟩ = some (.int .i64 x451002_1)) (ds := [9]) #[false, false, false, false, false, false, false, false, false, false] (by kernel_rfl) rfl rfl ⟨(blk_cell BK450.out 0).trans rfl, (blk_cell BK450.out 1).trans rfl, (blk_cell BK450.out 2).trans rfl⟩ (fun hHeld => ?_); refine with_tabW spec_l6DrawRight.tab25 spec_l6DrawRight.bits25 (fun HT_ HW_ => ?_); generalize wr.drew = w84 at HO_451000 HO_451001 BK449 BK450 HI0 HK HB hHeld ⊢; refine pure_ (i := 0) (N := some 65) (v := ?_) (a' := ?_) #[true, false, false, false, false, false, false, false, false, false] rfl rfl (any_of HT_.out (by kernel_rfl)) (fun _ _ _ h => h) (Or.inl ⟨by rfl, ?_⟩) ?_ ?_; rotate_left
            ·intro w'
             go_simp; with_reducible rfl
            rotate_left
            ·exact KA
            refine pure_ (i := 2) (N := some 67) (v := ?_) (a' := ?_) #[true, false, true, false, false, false, false, false, false, false] rfl rfl (any_of HT_.out (by kernel_rfl)) (fun _ _ _ h => h) (Or.inl ⟨by rfl, ?_⟩) ?_ ?_; rotate_left
            ·intro w'
             go_simp; with_reducible rfl
            rotate_left
            ·exact KA
            refine pure_ (i := 3) (N := some 68) (v := ?_) (a' := ?_) #[true, false, true, true, false, false, false, false, false, false] rfl rfl (any_of HT_.out (by kernel_rfl)) (fun _ _ _ h => h) (Or.inl ⟨by rfl, ?_⟩) ?_ ?_; rotate_left
            ·intro w'
             go_simp; with_reducible rfl
            rotate_left
            ·exact KA
            refine take_ (i := 1) (N := some 66) (v := ?_) (a' := ?_) #[true, true, true, true, false, false, false, false, false, false] rfl rfl (take_ofW HT_.out HW_.out (by kernel_rfl)) (fun _ _ _ h => h) (Or.inl ⟨by rfl, ?_⟩) hHeld ?_ ?_; rotate_left
            ·rintro w' ⟨s0, s1, s2⟩
             go_simp; with_reducible rfl
            rotate_left
            ·exact KA
            refine one_ (i := 4) (N := some 69) #[true, true, true, true, true, false, false, false, false, false] rfl rfl (one_of HT_.out (by kernel_rfl)) (by decide) (fun K hK => ?_); refine goes_ Try.func83 (by kernel_rfl) rfl #[.int .i64 x8_2, .int .i64 x9_3] (by rfl) rfl rfl KL ?_; (with_reducible refine (spec_l1Place.calls x8_2 x9_3 t505 _ A82.out).mono ?_); rintro e w' ⟨rfl, ⟨nd, rfl⟩⟩; refine ⟨_, rfl, ?_⟩; refine hK.out _ _ ⟨(blk_cell BK450.out 0).trans rfl, (blk_cell BK450.out 1).trans rfl, (blk_cell BK450.out 2).trans rfl⟩ (fun hHeld => ?_); clear hK K; refine norm_ (a' := ?_) ?_ ?_; rotate_left
            ·show Act.put _ (some 69) _ = _; exact KA
            refine pure_ (i := 5) (N := some 70) (v := ?_) (a' := ?_) #[true, true, true, true, true, true, false, false, false, false] rfl rfl (any_of HT_.out (by kernel_rfl)) (fun _ _ _ h => h) (Or.inl ⟨by rfl, ?_⟩) ?_ ?_; rotate_left
            ·intro w'
             go_simp; with_reducible rfl
            rotate_left
            ·exact KA
            refine one_ (i := 6) (N := some 71) #[true, true, true, true, true, true, true, false, false, false] rfl rfl (one_of HT_.out (by kernel_rfl)) (by decide) (fun K hK => ?_); refine value_ (w1 := ?_) (v := ?_) (by rfl) rfl ?_ ?_; rotate_left 2
            ·go_simp
             constructor
             ·rfl
             ·rfl
            refine hK.out _ _ ⟨(blk_cell (blk_alloc BK450.out _) 0).trans rfl, (blk_cell (blk_alloc BK450.out _) 1).trans rfl, (blk_cell (blk_alloc BK450.out _) 2).trans rfl⟩ (fun hHeld => ?_); clear hK K; refine norm_ (a' := ?_) ?_ ?_; rotate_left
            ·show Act.put _ (some 71) _ = _; exact KA
            refine one_ (i := 7) (N := some 72) #[true, true, true, true, true, true, true, true, false, false] rfl rfl (one_of HT_.out (by kernel_rfl)) (by decide) (fun K hK => ?_); refine Kd.R_append_step k35 w.heap.size (by rfl) (.tmp 66) (.tmp 71) 29 35 (.agg #[(.int .i64 0), (.int .i64 0), (.bool false), (.string ⟨#[]⟩)]) 40 rfl Try.underlying29 info35 rfl (by decide) (by omega) u451000 x451000_3 (⟨t505, 0, false, (⟨#[]⟩ : ByteArray)⟩ : S35) [.int .i64 t505, .int .i64 0, .bool false, .string (⟨#[]⟩ : ByteArray)] (fun k_ => some k_ ≠ (u451001 : Value).ownBlock) (fun _ => False) rfl rfl ?aP (fun _ hk => hk.elim) ?aF ?aO (Below.refl _ _) ?aS ?aL ?_; (case aP => exact k35_mkM _ _ _ (⟨t505, 0, false, (⟨#[]⟩ : ByteArray)⟩ : S35)); (case aF => exact (fun k_ hk => Kd.fresh' (Kd.R_lt (KR HO_451001.out)) k_ hk)); (case aO => exact (KR HO_451000.out)); (case aS => exact (KS HK.out)); (case aL => have := LMc83.out; omega); intro v507 w85 ho hb hg hat; rw [← Ny506.out] at ho; have h_ := P7 (Kd.R_after (ok := (fun _ => True)) (by (with_reducible repeat (first | apply Kd.R_alloc | apply Kd.R_drewN | apply Kd.R_drew)); exact Kd.R_mono HO_451001.out (fun _ hk => ⟨trivial, hk⟩)) hg hat) (BW BK449.out hg (Kd.R_ne HO_451000.out BK449.out (by decide))) (BW BK450.out hg (Kd.R_ne HO_451000.out BK450.out (by decide))) (IsS87.grown (KI87) hg (IsS87.own_ne HI0.out HO_451000.out (by decide))) (below_weaken (KBh87 HB.out) HL.out hb) (KeepBut.trans (KHh HK.out) (KeepBut.of_grown hg g) (Kd.R_base2 HO_451000.out)) ho; clear HO_451001 BK449 BK450 HI0 HB HK HO_451000; obtain ⟨HO_451001, BK449, BK450, HI0, HB, HK, HO508⟩ := h_; clear ho hb hg hat; obtain ⟨Ao86, co86, eo86⟩ := Kd.R_slice HO508.out; (first | subst eo86 | (injection eo86 with f1_ f2_ f3_; have f4_ := f1_.symm; have f5_ := f3_.symm; clear f1_ f2_ f3_; subst f4_; subst f5_)); refine hK.out _ _ ⟨(blk_cell BK450.out 0).trans rfl, (blk_cell BK450.out 1).trans rfl, (blk_cell BK450.out 2).trans rfl⟩ (fun hHeld => ?_); clear hK K; refine norm_ (a' := ?_) ?_ ?_; rotate_left
            ·show Act.put _ (some 72) _ = _; exact KA
            refine pure_ (i := 8) (N := some 73) (v := ?_) (a' := ?_) #[true, true, true, true, true, true, true, true, true, false] rfl rfl (any_of HT_.out (by kernel_rfl)) (fun _ _ _ h => h) (Or.inl ⟨by rfl, ?_⟩) ?_ ?_; rotate_left
            ·intro w'
             go_simp; with_reducible rfl
            rotate_left
            ·exact KA
            refine last_ (i := 9) (N := none) #[true, true, true, true, true, true, true, true, true, true] rfl rfl (one_of HT_.out (by kernel_rfl)) (by decide) (fun K hK => ?_); have hs87 : w85.cell? ⟨gb450, 0, none⟩ = some (u451000) := (blk_cell BK450.out 0).trans rfl; have hfs87 := blk_frozen BK450.out 0; have hns87_0 := NB449_450.out; have hms87_0 := NB450_449.out; refine skip_ (w1 := ?_) (by rfl) rfl ?_ ?_; rotate_left
            ·go_simp
             rfl
            refine hK.out _ _ ?_; clear hK K; refine done_ (done_of HT_.out (by kernel_rfl)) ?_
            try go_wp2
            go_roundg k3
            case measure => have := HK1.out; have := HK2.out; have := HK3.out; omega
            case rel => exact ⟨(wrap64 (x9_3 + 1)), (y506), (.slice Ao86 y506.length co86), (by first | rfl | (simp; done) | (simp [*]; done)), H', ⟨by have := HK1.out; have := HK2.out; have := HK3.out; omega⟩, ⟨RQ (RT HO508.out BK450.out)⟩, ⟨RQ (RT HO_451001.out BK450.out) (hm := fun _ h => h.1.2)⟩, ⟨KK⟩, ⟨by refine SK ?_; refine BP #[u451000, u451001, .int .i64 x451002_1] ?_ 0; exact SK BK450.out⟩, ⟨KI87⟩, ⟨by repeat (first | (with_reducible first | exact HK.out | apply KeepBut.set_ | apply keep_drewN | apply keep_drew | apply keep_alloc | refine keep_far ?_ GW449.out _ | refine keep_far ?_ GW450.out _) | exact HK.out)⟩, ⟨KBh87 HB.out⟩⟩
           ·rw [if_neg c83] at H
            exact absurd H (by simp)
          ·rw [if_neg c81] at H
           have c81b0 : decide (x9_3 ≤ 50) = false := decide_eq_false c81; clear c81; have H' := Aside0.mk H; clear H
           go_wp2
           go_roundg k3
           case measure => have := HK1.out; have := HK2.out; have := HK3.out; omega
           case rel => exact ⟨(wrap64 (x8_2 + 1)), (x451000_3), (u451000), (by first | rfl | (simp; done) | (simp [*]; done)), H', ⟨by have := HK1.out; have := HK2.out; have := HK3.out; omega⟩, ⟨by (with_reducible repeat (first | apply Kd.R_alloc | apply Kd.R_drewN | apply Kd.R_drew)); exact HO_451000.out⟩, ⟨by (with_reducible repeat (first | apply Kd.R_alloc | apply Kd.R_drewN | apply Kd.R_drew)); exact HO_451001.out⟩, ⟨KK⟩, ⟨KK⟩, ⟨KI87⟩, ⟨by repeat (first | (with_reducible first | exact HK.out | apply KeepBut.set_ | apply keep_drewN | apply keep_drew | apply keep_alloc | refine keep_far ?_ GW449.out _ | refine keep_far ?_ GW450.out _) | exact HK.out)⟩, ⟨KBh87 HB.out⟩⟩
       ·rw [if_neg c80] at H
        have c80b0 : decide (x8_2 ≤ 4) = false := decide_eq_false c80; clear c80; simp only [Option.some.injEq, Prod.mk.injEq] at H; obtain ⟨rfl, rfl, rfl, rfl, rfl⟩ := H; have hnb88 := NB450_449.out; have hnc88 := NB449_450.out; have hnb89 := NB450_0.out; have hnc89 := NB0_450.out; obtain ⟨hcz90_0, hcz90_1, hcz90_2, hfz90_0, hfz90_1, hfz90_2⟩ := C3 BK450.out; obtain ⟨Ao91, co91, eo91⟩ := Kd.R_slice HO_451000.out; subst eo91; have hnb92 := NB449_0.out; have hnc92 := NB0_449.out; obtain ⟨hcz93_0, hcz93_1, hcz93_2, hfz93_0, hfz93_1, hfz93_2⟩ := C3 BK449.out; obtain ⟨Ao94, co94, eo94⟩ := Kd.R_slice HO_451001.out; subst eo94
        go_wp2
        refine bodyPost_ret (results_cell_row rfl _ _ gb449 31 #[.slice Ao91 x451000_2.length co91, .slice Ao94 x451001_1.length co94, .int .i64 x451002_1] (0, 0) _ rfl (by refine SK ?_; refine BP #[.slice Ao91 x451000_2.length co91, .slice Ao94 x451001_1.length co94, .int .i64 0] ?_ 2; refine SK ?_; refine BP #[.slice Ao91 x451000_2.length co91, .slice none 0 0, .int .i64 0] ?_ 1; refine SK ?_; refine BP #[.slice none 0 0, .slice none 0 0, .int .i64 0] ?_ 0; exact SK BK449.out) Try.underlying31 rfl (by kernel_rfl)) rfl ?_; exact ⟨_, _, KE, RQ (RT HO_451000.out BK449.out), RQ (RT HO_451001.out BK449.out), KI87, KBh87 HB.out, by repeat (first | (with_reducible first | exact HK.out | apply KeepBut.set_ | apply keep_drewN | apply keep_drew | apply keep_alloc | refine keep_far ?_ GW449.out _ | refine keep_far ?_ GW450.out _) | exact HK.out)⟩
    ·replace c75 := Bool.eq_false_iff.mpr c75
     subst c75; have H1 : (some (x451000_1, x451001_1, x451002_1, t503, t504)) = some (r1, r2, r3, r4, r5) := by rw [if_neg (show ¬ (false = true) by decide)] at H; exact H
     clear H; have H := H1; clear H1; simp only [Option.some.injEq, Prod.mk.injEq] at H; obtain ⟨rfl, rfl, rfl, rfl, rfl⟩ := H
     go_wp2_with (first | ((with_reducible refine GC 61 ?_); refine goesL_ (some 55) rfl rfl Try.func61 (by kernel_rfl) rfl #[.pointer (some ⟨g, 0, none⟩), .int .i64 40] rfl KL ?_; (with_reducible refine (spec_l1Once.calls g s0_0 x1001_1 x1002_1 40 false t503 t504 w0 _ ?side1 ?side2 A74.out).mono ?_); (case side1 => exact KI87); (case side2 => exact KBh87 HB.out); rintro e w95 ⟨rfl, hi, hb, hk⟩; refine ⟨_, rfl, ?_⟩; have h_ := P7 (Kd.R_mono (Kd.R_keep (IsS87.apart (show IsS87 w0 _ g s0_0 x1001_1 x1002_1 from KI87) (KR HO_451000.out) (by decide)) hk (fun _ h => h.2)) (fun _ h => h.1)) (Kd.R_mono (Kd.R_keep (IsS87.apart (show IsS87 w0 _ g s0_0 x1001_1 x1002_1 from KI87) (KR HO_451001.out) (by decide)) hk (fun _ h => h.2)) (fun _ h => h.1)) (KW BK449.out hk NB449_0.out) (KW BK450.out hk NB450_0.out) (KeepBut.trans (KHh HK.out) hk (.inl rfl)) hb hi; clear HO_451000 HO_451001 BK449 BK450 HK HB HI0; obtain ⟨HO_451000, HO_451001, BK449, BK450, HK, HB, HI0⟩ := h_; (try clear hb); (try clear hk); (try clear hi); have hnb96 := NB450_449.out; have hnc96 := NB449_450.out; have hnb97 := NB450_0.out; have hnc97 := NB0_450.out; obtain ⟨hcz98_0, hcz98_1, hcz98_2, hfz98_0, hfz98_1, hfz98_2⟩ := C3 BK450.out; obtain ⟨Ao99, co99, eo99⟩ := Kd.R_slice HO_451000.out; subst eo99; have hnb100 := NB449_0.out; have hnc100 := NB0_449.out; obtain ⟨hcz101_0, hcz101_1, hcz101_2, hfz101_0, hfz101_1, hfz101_2⟩ := C3 BK449.out; obtain ⟨Ao102, co102, eo102⟩ := Kd.R_slice HO_451001.out; subst eo102))
     refine bodyPost_ret (results_cell_row rfl _ _ gb449 31 #[.slice Ao99 x451000_1.length co99, .slice Ao102 x451001_1.length co102, .int .i64 x451002_1] (0, 0) _ rfl (by refine SK ?_; refine BP #[.slice Ao99 x451000_1.length co99, .slice Ao102 x451001_1.length co102, .int .i64 0] ?_ 2; refine SK ?_; refine BP #[.slice Ao99 x451000_1.length co99, .slice none 0 0, .int .i64 0] ?_ 1; refine SK ?_; refine BP #[.slice none 0 0, .slice none 0 0, .int .i64 0] ?_ 0; exact SK BK449.out) Try.underlying31 rfl (by kernel_rfl)) rfl ?_; exact ⟨_, _, KE, RQ (RT HO_451000.out BK449.out), RQ (RT HO_451001.out BK449.out), KI87, KBh87 HB.out, by repeat (first | (with_reducible first | exact HK.out | apply KeepBut.set_ | apply keep_drewN | apply keep_drew | apply keep_alloc | refine keep_far ?_ GW449.out _ | refine keep_far ?_ GW450.out _) | exact HK.out)⟩

end Go.Proofs.Ytnoghojlpicecaa.PFnStored
