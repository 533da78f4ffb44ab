-- What each Go function that this law reaches comes to: written by a program out of the translation.
import Derived.Test.YtnoghojlpicecaaMFnExactStorePutx0
import Derived.Test.YtnoghojlpicecaaMFnExactStorePutx1
import Derived.Test.YtnoghojlpicecaaMFnExactStorePutx2
import Derived.Test.YtnoghojlpicecaaMFnExactStorePutx5
import Derived.Test.YtnoghojlpicecaaMFnExactStorePutx6
import Derived.Test.YtnoghojlpicecaaMFnExactStorePutx7
namespace Go.Proofs.Ytnoghojlpicecaa.PFnExactStorePut
open Go.RowKit Go.Proofs.YtnoghojlpicecaaW.PrintWords Go.Proofs.YtnoghojlpicecaaW.PrintLast Go.Proofs.YtnoghojlpicecaaW.PrintMore
attribute [local go_sem] max2_int min2_int max_two min_two max_three min_three max_four min_four   -- for this text's walks alone
set_option linter.unusedVariables false
set_option linter.unusedSimpArgs false

/-! ### laws_FnExactStorePut: function 3 -/
mutual
def laws_FnExactStorePut.j0 : Nat → Bool → Bool → Bool → List (S26) → List (S26) → Int → Int → Int → Bool → ByteArray → List (S35) → List (S35) → Int → List (S35) → List (S35) → Int → List (S35) → List (S35) → Int → Option (Bool)
 | 0, _, _, _, _, _, _, _, _, _, _, _, _, _, _, _, _, _, _, _ => none
 | k + 1, x7, x10, x51, x296000, x296001, x296002, x297000, x297001, x297002, x297003, x319000, x319001, x319002, x327000, x327001, x327002, x340000, x340001, x340002 => if x51 = true then (none) else ((laws_toStore.f k x296000 x296001 x296002).bind fun bt341 => ((laws_eqStore.f k x327000 x327001 x327002 bt341.1 bt341.2.1 bt341.2.2).bind fun t348 => (if t348 = true then ((laws_markStore.f k x327000 x327001 x327002 1).bind fun bt349 => (if bt349.1 < 0 then (laws_FnExactStorePut.j1 k x7 true x296000 x296001 x296002 x297000 x297001 x297002 x297003 x319000 x319001 x319002 x340000 x340001 x340002) else ((laws_eqStore.f k x340000 x340001 x340002 x319000 x319001 x319002).bind fun t352 => (if t352 = true then (laws_FnExactStorePut.j1 k x7 (x10 != x7) x296000 x296001 x296002 x297000 x297001 x297002 x297003 x319000 x319001 x319002 x340000 x340001 x340002) else (laws_FnExactStorePut.j1 k x7 true x296000 x296001 x296002 x297000 x297001 x297002 x297003 x319000 x319001 x319002 x340000 x340001 x340002))))) else (none))))
def laws_FnExactStorePut.j1 : Nat → Bool → Bool → List (S26) → List (S26) → Int → Int → Int → Bool → ByteArray → List (S35) → List (S35) → Int → List (S35) → List (S35) → Int → Option (Bool)
 | 0, _, _, _, _, _, _, _, _, _, _, _, _, _, _, _ => none
 | k + 1, x7, x72, x296000, x296001, x296002, x297000, x297001, x297002, x297003, x319000, x319001, x319002, x340000, x340001, x340002 => if x72 = true then (none) else ((laws_markStore.f k x340000 x340001 x340002 1).bind fun bt353 => ((laws_heldStore.f k bt353.2.1 bt353.2.2 x340002 1).bind fun t356 => (if t356 < 0 then (none) else (if t356 = bt353.1 then ((laws_toStore.f k x296000 x296001 x296002).bind fun bt357 => ((laws_toEntry.f x297000 x297001 x297002 x297003).bind fun bt364 => ((impl_StorePut.f k bt357.1 bt357.2.1 bt357.2.2 bt364.1 bt364.2.1 bt364.2.2.1 bt364.2.2.2).bind fun bt368 => ((laws_eqStore.f k bt368.1 bt368.2.1 bt368.2.2.1 x319000 x319001 x319002).bind fun t377 => (if t377 = true then (laws_FnExactStorePut.j2 k bt353.1 (bt368.2.2.2 != x7) bt353.2.1 bt353.2.2 x340002) else (laws_FnExactStorePut.j2 k bt353.1 true bt353.2.1 bt353.2.2 x340002)))))) else (none)))))
def laws_FnExactStorePut.j2 : Nat → Int → Bool → List (S35) → List (S35) → Int → Option (Bool)
 | 0, _, _, _, _, _ => none
 | k + 1, x12, x100, x340000, x340001, x340002 => if x100 = true then (none) else ((laws_heldStore.f k x340000 x340001 x340002 1).bind fun t378 => (if t378 < 0 then (none) else (if t378 = x12 then (some true) else (none))))
end
def laws_FnExactStorePut.f (k : Nat) (l0_0 : List (S26)) (l0_1 : List (S26)) (a0_2 : Int) (a1_0 : Int) (a1_1 : Int) (a1_2 : Bool) (a1_3 : ByteArray) : Option (Bool) := (laws_szStore.f k l0_0 l0_1 a0_2 1048576).bind fun t297 => (if t297 < 0 then (some true) else ((laws_szEntry.f a1_0 a1_1 a1_2 a1_3 t297).bind fun t298 => (if t298 < 0 then (some true) else ((laws_toStore.f k l0_0 l0_1 a0_2).bind fun bt299 => ((laws_toEntry.f a1_0 a1_1 a1_2 a1_3).bind fun bt306 => ((spec_StorePut.f k bt299.1 bt299.2.1 bt299.2.2 bt306.1 bt306.2.1 bt306.2.2.1 bt306.2.2.2).bind fun bt310 => ((laws_toStore.f k l0_0 l0_1 a0_2).bind fun bt319 => ((laws_toEntry.f a1_0 a1_1 a1_2 a1_3).bind fun bt327 => ((impl_StorePut.f k bt319.1 bt319.2.1 bt319.2.2 bt327.1 bt327.2.1 bt327.2.2.1 bt327.2.2.2).bind fun bt331 => ((laws_eqStore.f k bt331.1 bt331.2.1 bt331.2.2.1 bt310.1 bt310.2.1 bt310.2.2.1).bind fun t340 => (if t340 = true then (laws_FnExactStorePut.j0 k bt310.2.2.2 bt331.2.2.2 (bt331.2.2.2 != bt310.2.2.2) l0_0 l0_1 a0_2 a1_0 a1_1 a1_2 a1_3 bt310.1 bt310.2.1 bt310.2.2.1 bt319.1 bt319.2.1 bt319.2.2 bt331.1 bt331.2.1 bt331.2.2.1) else (laws_FnExactStorePut.j0 k bt310.2.2.2 bt331.2.2.2 true l0_0 l0_1 a0_2 a1_0 a1_1 a1_2 a1_3 bt310.1 bt310.2.1 bt310.2.2.1 bt319.1 bt319.2.1 bt319.2.2 bt331.1 bt331.2.1 bt331.2.2.1))))))))))))
theorem laws_FnExactStorePut.mono_l : ∀ k, (∀ y0 y1 y2 y3 y4 y5 y6 y7 y8 y9 y10 y11 y12 y13 y14 y15 y16 y17 y18, LeO (laws_FnExactStorePut.j0 k y0 y1 y2 y3 y4 y5 y6 y7 y8 y9 y10 y11 y12 y13 y14 y15 y16 y17 y18) (laws_FnExactStorePut.j0 (k + 1) y0 y1 y2 y3 y4 y5 y6 y7 y8 y9 y10 y11 y12 y13 y14 y15 y16 y17 y18)) ∧ (∀ y0 y1 y2 y3 y4 y5 y6 y7 y8 y9 y10 y11 y12 y13 y14, LeO (laws_FnExactStorePut.j1 k y0 y1 y2 y3 y4 y5 y6 y7 y8 y9 y10 y11 y12 y13 y14) (laws_FnExactStorePut.j1 (k + 1) y0 y1 y2 y3 y4 y5 y6 y7 y8 y9 y10 y11 y12 y13 y14)) ∧ (∀ y0 y1 y2 y3 y4, LeO (laws_FnExactStorePut.j2 k y0 y1 y2 y3 y4) (laws_FnExactStorePut.j2 (k + 1) y0 y1 y2 y3 y4))
 | 0 => ⟨fun _ _ _ _ _ _ _ _ _ _ _ _ _ _ _ _ _ _ _ r h => by simp [laws_FnExactStorePut.j0] at h, fun _ _ _ _ _ _ _ _ _ _ _ _ _ _ _ r h => by simp [laws_FnExactStorePut.j1] at h, fun _ _ _ _ _ r h => by simp [laws_FnExactStorePut.j2] at h⟩
 | k + 1 => by
  obtain ⟨ih0, ih1, ih2⟩ := laws_FnExactStorePut.mono_l k
  refine ⟨?_, ?_, ?_⟩
  ·intro y0 y1 y2 y3 y4 y5 y6 y7 y8 y9 y10 y11 y12 y13 y14 y15 y16 y17 y18
   unfold laws_FnExactStorePut.j0
   repeat' first
   | (with_reducible exact ih0 _ _ _ _ _ _ _ _ _ _ _ _ _ _ _ _ _ _ _)
   | (with_reducible exact ih1 _ _ _ _ _ _ _ _ _ _ _ _ _ _ _)
   | (with_reducible exact ih2 _ _ _ _ _)
   | (with_reducible exact impl_StorePut.mono _ _ _ _ _ _ _ _)
   | (with_reducible exact laws_eqStore.mono _ _ _ _ _ _ _)
   | (with_reducible exact laws_heldStore.mono _ _ _ _ _)
   | (with_reducible exact laws_markStore.mono _ _ _ _ _)
   | (with_reducible exact laws_szStore.mono _ _ _ _ _)
   | (with_reducible exact laws_toStore.mono _ _ _ _)
   | (with_reducible exact spec_StorePut.mono _ _ _ _ _ _ _ _)
   | (with_reducible exact LeO.refl _)
   | (with_reducible exact LeO.none _)
   | (with_reducible refine LeO.ite ?_ ?_)
   | (with_reducible refine LeO.bind ?_ (fun _ => ?_))
   | exact ih0 _ _ _ _ _ _ _ _ _ _ _ _ _ _ _ _ _ _ _
   | exact ih1 _ _ _ _ _ _ _ _ _ _ _ _ _ _ _
   | exact ih2 _ _ _ _ _
   | exact impl_StorePut.mono _ _ _ _ _ _ _ _
   | exact laws_eqStore.mono _ _ _ _ _ _ _
   | exact laws_heldStore.mono _ _ _ _ _
   | exact laws_markStore.mono _ _ _ _ _
   | exact laws_szStore.mono _ _ _ _ _
   | exact laws_toStore.mono _ _ _ _
   | exact spec_StorePut.mono _ _ _ _ _ _ _ _
   | exact LeO.none _
   | refine LeO.ite ?_ ?_
   | refine LeO.bind ?_ (fun _ => ?_)
  ·intro y0 y1 y2 y3 y4 y5 y6 y7 y8 y9 y10 y11 y12 y13 y14
   unfold laws_FnExactStorePut.j1
   repeat' first
   | (with_reducible exact ih0 _ _ _ _ _ _ _ _ _ _ _ _ _ _ _ _ _ _ _)
   | (with_reducible exact ih1 _ _ _ _ _ _ _ _ _ _ _ _ _ _ _)
   | (with_reducible exact ih2 _ _ _ _ _)
   | (with_reducible exact impl_StorePut.mono _ _ _ _ _ _ _ _)
   | (with_reducible exact laws_eqStore.mono _ _ _ _ _ _ _)
   | (with_reducible exact laws_heldStore.mono _ _ _ _ _)
   | (with_reducible exact laws_markStore.mono _ _ _ _ _)
   | (with_reducible exact laws_szStore.mono _ _ _ _ _)
   | (with_reducible exact laws_toStore.mono _ _ _ _)
   | (with_reducible exact spec_StorePut.mono _ _ _ _ _ _ _ _)
   | (with_reducible exact LeO.refl _)
   | (with_reducible exact LeO.none _)
   | (with_reducible refine LeO.ite ?_ ?_)
   | (with_reducible refine LeO.bind ?_ (fun _ => ?_))
   | exact ih0 _ _ _ _ _ _ _ _ _ _ _ _ _ _ _ _ _ _ _
   | exact ih1 _ _ _ _ _ _ _ _ _ _ _ _ _ _ _
   | exact ih2 _ _ _ _ _
   | exact impl_StorePut.mono _ _ _ _ _ _ _ _
   | exact laws_eqStore.mono _ _ _ _ _ _ _
   | exact laws_heldStore.mono _ _ _ _ _
   | exact laws_markStore.mono _ _ _ _ _
   | exact laws_szStore.mono _ _ _ _ _
   | exact laws_toStore.mono _ _ _ _
   | exact spec_StorePut.mono _ _ _ _ _ _ _ _
   | exact LeO.none _
   | refine LeO.ite ?_ ?_
   | refine LeO.bind ?_ (fun _ => ?_)
  ·intro y0 y1 y2 y3 y4
   unfold laws_FnExactStorePut.j2
   repeat' first
   | (with_reducible exact ih0 _ _ _ _ _ _ _ _ _ _ _ _ _ _ _ _ _ _ _)
   | (with_reducible exact ih1 _ _ _ _ _ _ _ _ _ _ _ _ _ _ _)
   | (with_reducible exact ih2 _ _ _ _ _)
   | (with_reducible exact impl_StorePut.mono _ _ _ _ _ _ _ _)
   | (with_reducible exact laws_eqStore.mono _ _ _ _ _ _ _)
   | (with_reducible exact laws_heldStore.mono _ _ _ _ _)
   | (with_reducible exact laws_markStore.mono _ _ _ _ _)
   | (with_reducible exact laws_szStore.mono _ _ _ _ _)
   | (with_reducible exact laws_toStore.mono _ _ _ _)
   | (with_reducible exact spec_StorePut.mono _ _ _ _ _ _ _ _)
   | (with_reducible exact LeO.refl _)
   | (with_reducible exact LeO.none _)
   | (with_reducible refine LeO.ite ?_ ?_)
   | (with_reducible refine LeO.bind ?_ (fun _ => ?_))
   | exact ih0 _ _ _ _ _ _ _ _ _ _ _ _ _ _ _ _ _ _ _
   | exact ih1 _ _ _ _ _ _ _ _ _ _ _ _ _ _ _
   | exact ih2 _ _ _ _ _
   | exact impl_StorePut.mono _ _ _ _ _ _ _ _
   | exact laws_eqStore.mono _ _ _ _ _ _ _
   | exact laws_heldStore.mono _ _ _ _ _
   | exact laws_markStore.mono _ _ _ _ _
   | exact laws_szStore.mono _ _ _ _ _
   | exact laws_toStore.mono _ _ _ _
   | exact spec_StorePut.mono _ _ _ _ _ _ _ _
   | exact LeO.none _
   | refine LeO.ite ?_ ?_
   | refine LeO.bind ?_ (fun _ => ?_)
theorem laws_FnExactStorePut.mono : ∀ a0 a1 a2 a3 a4 a5 a6 k, LeO (laws_FnExactStorePut.f k a0 a1 a2 a3 a4 a5 a6) (laws_FnExactStorePut.f (k + 1) a0 a1 a2 a3 a4 a5 a6) := by
 intro a0 a1 a2 a3 a4 a5 a6 k
 obtain ⟨ih0, ih1, ih2⟩ := laws_FnExactStorePut.mono_l k
 unfold laws_FnExactStorePut.f
 repeat' first
   | (with_reducible exact ih0 _ _ _ _ _ _ _ _ _ _ _ _ _ _ _ _ _ _ _)
   | (with_reducible exact ih1 _ _ _ _ _ _ _ _ _ _ _ _ _ _ _)
   | (with_reducible exact ih2 _ _ _ _ _)
   | (with_reducible exact impl_StorePut.mono _ _ _ _ _ _ _ _)
   | (with_reducible exact laws_eqStore.mono _ _ _ _ _ _ _)
   | (with_reducible exact laws_heldStore.mono _ _ _ _ _)
   | (with_reducible exact laws_markStore.mono _ _ _ _ _)
   | (with_reducible exact laws_szStore.mono _ _ _ _ _)
   | (with_reducible exact laws_toStore.mono _ _ _ _)
   | (with_reducible exact spec_StorePut.mono _ _ _ _ _ _ _ _)
   | (with_reducible exact LeO.refl _)
   | (with_reducible exact LeO.none _)
   | (with_reducible refine LeO.ite ?_ ?_)
   | (with_reducible refine LeO.bind ?_ (fun _ => ?_))
   | exact ih0 _ _ _ _ _ _ _ _ _ _ _ _ _ _ _ _ _ _ _
   | exact ih1 _ _ _ _ _ _ _ _ _ _ _ _ _ _ _
   | exact ih2 _ _ _ _ _
   | exact impl_StorePut.mono _ _ _ _ _ _ _ _
   | exact laws_eqStore.mono _ _ _ _ _ _ _
   | exact laws_heldStore.mono _ _ _ _ _
   | exact laws_markStore.mono _ _ _ _ _
   | exact laws_szStore.mono _ _ _ _ _
   | exact laws_toStore.mono _ _ _ _
   | exact spec_StorePut.mono _ _ _ _ _ _ _ _
   | exact LeO.none _
   | refine LeO.ite ?_ ?_
   | refine LeO.bind ?_ (fun _ => ?_)
def laws_FnExactStorePut.T8 : Bool × List (List Nat × List Nat) := (true, [([], []), ([0], [0]), ([], []), ([2, 1], [2]), ([1, 3, 3], [1, 3]), ([4], [4]), ([5], [5]), ([5], [5]), ([], []), ([8, 6, 4, 0, 1, 2, 3, 4, 5, 6, 8], [6, 8]), ([7, 9, 0, 1, 2, 3, 4, 5, 6, 7, 8, 9], [7])])
def laws_FnExactStorePut.B8 : List Nat := [0, 1, 0, 7, 15, 31, 63, 63, 0, 383, 1023]
theorem laws_FnExactStorePut.tab8 : rtab .any (opsOf Try.f3 8) = laws_FnExactStorePut.T8 := by kernel_rfl
theorem laws_FnExactStorePut.bits8 : waitsOk laws_FnExactStorePut.T8.2 laws_FnExactStorePut.B8 = true := by kernel_rfl
def laws_FnExactStorePut.T10 : Bool × List (List Nat × List Nat) := (true, [([], []), ([], []), ([1], [1]), ([0, 2, 2], [0, 2]), ([3], [3]), ([4], [4]), ([4], [4]), ([], []), ([7, 5, 3, 0, 1, 2, 3, 4, 5, 7], [5, 7]), ([6, 8, 0, 1, 2, 3, 4, 5, 6, 7, 8], [6])])
def laws_FnExactStorePut.B10 : List Nat := [0, 0, 2, 7, 15, 31, 31, 0, 191, 511]
theorem laws_FnExactStorePut.tab10 : rtab .any (opsOf Try.f3 10) = laws_FnExactStorePut.T10 := by kernel_rfl
theorem laws_FnExactStorePut.bits10 : waitsOk laws_FnExactStorePut.T10.2 laws_FnExactStorePut.B10 = true := by kernel_rfl
def laws_FnExactStorePut.T27 : Bool × List (List Nat × List Nat) := (true, [([], []), ([0], [0]), ([], []), ([2, 1], [2]), ([1, 3, 3], [1, 3]), ([4], [4]), ([5], [5]), ([5], [5]), ([], []), ([8, 6, 4, 0, 1, 2, 3, 4, 5, 6, 8], [6, 8]), ([7, 9, 0, 1, 2, 3, 4, 5, 6, 7, 8, 9], [7])])
def laws_FnExactStorePut.B27 : List Nat := [0, 1, 0, 7, 15, 31, 63, 63, 0, 383, 1023]
theorem laws_FnExactStorePut.tab27 : rtab .any (opsOf Try.f3 27) = laws_FnExactStorePut.T27 := by kernel_rfl
theorem laws_FnExactStorePut.bits27 : waitsOk laws_FnExactStorePut.T27.2 laws_FnExactStorePut.B27 = true := by kernel_rfl
structure Rest0 (p : Prop) : Prop where mk :: (out : p)
set_option maxHeartbeats 8000000 in
set_option maxRecDepth 100000 in
noncomputable def laws_FnExactStorePut.part (k : Nat) (A0_0 : Option Addr) (c0_0 : Nat) (l0_0 : List (S26)) (A0_1 : Option Addr) (c0_1 : Nat) (l0_1 : List (S26)) (a0_2 : Int) (a1_0 : Int) (a1_1 : Int) (a1_2 : Bool) (a1_3 : ByteArray) (r : Bool) (w : World) :
  { G : Prop // Rest0 G → ∀ (hr0_0 : Kd.C k26 w A0_0 l0_0.length l0_0) (hc0_0 : l0_0.length ≤ c0_0) (hr0_1 : Kd.C k26 w A0_1 l0_1.length l0_1) (hc0_1 : l0_1.length ≤ c0_1) (h : laws_FnExactStorePut.f k l0_0 l0_1 a0_2 a1_0 a1_1 a1_2 a1_3 = some r), Calls Try.prog 3 #[.agg #[.slice A0_0 l0_0.length c0_0, .slice A0_1 l0_1.length c0_1, .int .i64 a0_2], .agg #[.int .i64 a1_0, .int .i64 a1_1, .bool a1_2, .string a1_3]] w fun e w' => e = .returned (.bool r) ∧ Below w.heap.size w w' } := by
 apply Subtype.mk
 intro hG_ hr0_0 hc0_0 hr0_1 hc0_1 h
 have hu24 := Try.underlying24
 have hu26 := Try.underlying26
 have hu31 := Try.underlying31
 have HR0_0 := Aside0.mk hr0_0
 have HC0_0 := Aside0.mk hc0_0
 clear hr0_0 hc0_0
 have HR0_1 := Aside0.mk hr0_1
 have HC0_1 := Aside0.mk hc0_1
 clear hr0_1 hc0_1
 have HB := Aside0.mk (Below.refl w.heap.size w)
 have H : ((laws_szStore.f k l0_0 l0_1 a0_2 1048576).bind fun t297 => (if t297 < 0 then (some true) else ((laws_szEntry.f a1_0 a1_1 a1_2 a1_3 t297).bind fun t298 => (if t298 < 0 then (some true) else ((laws_toStore.f k l0_0 l0_1 a0_2).bind fun bt299 => ((laws_toEntry.f a1_0 a1_1 a1_2 a1_3).bind fun bt306 => ((spec_StorePut.f k bt299.1 bt299.2.1 bt299.2.2 bt306.1 bt306.2.1 bt306.2.2.1 bt306.2.2.2).bind fun bt310 => ((laws_toStore.f k l0_0 l0_1 a0_2).bind fun bt319 => ((laws_toEntry.f a1_0 a1_1 a1_2 a1_3).bind fun bt327 => ((impl_StorePut.f k bt319.1 bt319.2.1 bt319.2.2 bt327.1 bt327.2.1 bt327.2.2.1 bt327.2.2.2).bind fun bt331 => ((laws_eqStore.f k bt331.1 bt331.2.1 bt331.2.2.1 bt310.1 bt310.2.1 bt310.2.2.1).bind fun t340 => (if t340 = true then (laws_FnExactStorePut.j0 k bt310.2.2.2 bt331.2.2.2 (bt331.2.2.2 != bt310.2.2.2) l0_0 l0_1 a0_2 a1_0 a1_1 a1_2 a1_3 bt310.1 bt310.2.1 bt310.2.2.1 bt319.1 bt319.2.1 bt319.2.2 bt331.1 bt331.2.1 bt331.2.2.1) else (laws_FnExactStorePut.j0 k bt310.2.2.2 bt331.2.2.2 true l0_0 l0_1 a0_2 a1_0 a1_1 a1_2 a1_3 bt310.1 bt310.2.1 bt310.2.2.1 bt319.1 bt319.2.1 bt319.2.2 bt331.1 bt331.2.1 bt331.2.2.1))))))))))))) = some r := h
 clear h
 replace H := Option.bind_eq_some_iff.mp H
 obtain ⟨t297, A30, H⟩ := H
 replace H : (if t297 < 0 then (some true) else ((laws_szEntry.f a1_0 a1_1 a1_2 a1_3 t297).bind fun t298 => (if t298 < 0 then (some true) else ((laws_toStore.f k l0_0 l0_1 a0_2).bind fun bt299 => ((laws_toEntry.f a1_0 a1_1 a1_2 a1_3).bind fun bt306 => ((spec_StorePut.f k bt299.1 bt299.2.1 bt299.2.2 bt306.1 bt306.2.1 bt306.2.2.1 bt306.2.2.2).bind fun bt310 => ((laws_toStore.f k l0_0 l0_1 a0_2).bind fun bt319 => ((laws_toEntry.f a1_0 a1_1 a1_2 a1_3).bind fun bt327 => ((impl_StorePut.f k bt319.1 bt319.2.1 bt319.2.2 bt327.1 bt327.2.1 bt327.2.2.1 bt327.2.2.2).bind fun bt331 => ((laws_eqStore.f k bt331.1 bt331.2.1 bt331.2.2.1 bt310.1 bt310.2.1 bt310.2.2.1).bind fun t340 => (if t340 = true then (laws_FnExactStorePut.j0 k bt310.2.2.2 bt331.2.2.2 (bt331.2.2.2 != bt310.2.2.2) l0_0 l0_1 a0_2 a1_0 a1_1 a1_2 a1_3 bt310.1 bt310.2.1 bt310.2.2.1 bt319.1 bt319.2.1 bt319.2.2 bt331.1 bt331.2.1 bt331.2.2.1) else (laws_FnExactStorePut.j0 k bt310.2.2.2 bt331.2.2.2 true l0_0 l0_1 a0_2 a1_0 a1_1 a1_2 a1_3 bt310.1 bt310.2.1 bt310.2.2.1 bt319.1 bt319.2.1 bt319.2.2 bt331.1 bt331.2.1 bt331.2.2.1)))))))))))) = some r := H
 have A3 := Aside0.mk A30
 clear A30
 by_cases c4 : t297 < 0
 ·rw [if_pos c4] at H
  have c4b0 : decide (t297 < 0) = true := decide_eq_true c4
  clear c4
  obtain rfl := Option.some.inj H
  go_enter Try.func3, Try.ntmps3
  go_wp2_with (first | ((with_reducible refine gate_dst (N := 2) rfl ?_); refine box_event ?hg (N := 2) ?hd (cs := #[.slice A0_0 l0_0.length c0_0, .slice A0_1 l0_1.length c0_1, .int .i64 a0_2]) (t := 24) ?hr ?_; (case hd => rfl); (case hg => rfl); (case hr => first | (go_simp; done) | (go_simp; rfl)); intro gb295 hg w5 hbox hb; have n0_ := Aside0.mk (below_step KB hb); have n1_ := Aside0.mk (hbox); have n2_ := Aside0.mk ((KG hg : w.heap.size ≤ gb295)); have n3_ := Aside0.mk ((KG hg : w.heap.size ≤ gb295)); clear HB; have HB := n0_; have BK295 := n1_; have GW295 := n2_; have GE295 := n3_; clear n0_ n1_ n2_ n3_; clear hb hbox hg) | ((with_reducible refine gate_dst (N := 3) rfl ?_); refine box_event ?hg (N := 3) ?hd (cs := #[.int .i64 a1_0, .int .i64 a1_1, .bool a1_2, .string a1_3]) (t := 26) ?hr ?_; (case hd => rfl); (case hg => rfl); (case hr => first | (go_simp; done) | (go_simp; rfl)); intro gb296 hg w6 hbox hb; have n0_ := Aside0.mk (blk_below (g := gb295) (o := .cells #[.slice A0_0 l0_0.length c0_0, .slice A0_1 l0_1.length c0_1, .int .i64 a0_2] 24 (0, 0)) KK hb); have n1_ := Aside0.mk (below_step KB hb); have n2_ := Aside0.mk (hbox); have n3_ := Aside0.mk ((KG hg : w.heap.size ≤ gb296)); have n4_ := Aside0.mk ((KG hg : w.heap.size ≤ gb296)); have n5_ := Aside0.mk ((by rw [hg]; exact Nat.ne_of_lt (blk_lt (g := gb295) (o := .cells #[.slice A0_0 l0_0.length c0_0, .slice A0_1 l0_1.length c0_1, .int .i64 a0_2] 24 (0, 0)) KK) : gb295 ≠ gb296)); have n6_ := Aside0.mk ((by rw [hg]; exact Nat.ne_of_gt (blk_lt (g := gb295) (o := .cells #[.slice A0_0 l0_0.length c0_0, .slice A0_1 l0_1.length c0_1, .int .i64 a0_2] 24 (0, 0)) KK) : gb296 ≠ gb295)); clear BK295; clear HB; have BK295 := n0_; have HB := n1_; have BK296 := n2_; have GW296 := n3_; have GE296 := n4_; have NB295_296 := n5_; have NB296_295 := n6_; clear n0_ n1_ n2_ n3_ n4_ n5_ n6_; clear hb hbox hg; have hnb7 := NB295_296.out; have hnc7 := NB296_295.out; have hcz8_0 : w6.cell? ⟨gb295, 0, none⟩ = some (.slice A0_0 l0_0.length c0_0) := (blk_cell BK295.out 0).trans rfl; have hcz8_1 : w6.cell? ⟨gb295, 1, none⟩ = some (.slice A0_1 l0_1.length c0_1) := (blk_cell BK295.out 1).trans rfl; have hcz8_2 : w6.cell? ⟨gb295, 2, none⟩ = some (.int .i64 a0_2) := (blk_cell BK295.out 2).trans rfl; have hfz8_0 := blk_frozen BK295.out 0; have hfz8_1 := blk_frozen BK295.out 1; have hfz8_2 := blk_frozen BK295.out 2) | ((with_reducible refine gate_callee (f := 9) rfl ?_); refine goesL_ (some 18) rfl rfl Try.func9 (by kernel_rfl) rfl #[.agg #[.slice A0_0 l0_0.length c0_0, .slice A0_1 l0_1.length c0_1, .int .i64 a0_2], .int .i64 1048576] rfl KL ?_; (with_reducible refine (laws_szStore.calls k _ _ l0_0 _ _ l0_1 a0_2 1048576 t297 _ ?side1 ?side2 ?side3 ?side4 A3.out).mono ?_); (case side1 => exact KD (Kd.C_below HR0_0.out HB.out)); (case side2 => exact HC0_0.out); (case side3 => exact KD (Kd.C_below HR0_1.out HB.out)); (case side4 => exact HC0_1.out); rintro e w9 ⟨rfl, hb⟩; refine ⟨_, rfl, ?_⟩; have n0_ := Aside0.mk (blk_below (g := gb295) (o := .cells #[.slice A0_0 l0_0.length c0_0, .slice A0_1 l0_1.length c0_1, .int .i64 a0_2] 24 (0, 0)) KK hb); have n1_ := Aside0.mk (blk_below (g := gb296) (o := .cells #[.int .i64 a1_0, .int .i64 a1_1, .bool a1_2, .string a1_3] 26 (0, 0)) KK hb); have n2_ := Aside0.mk (below_step KB hb); clear BK295; clear BK296; clear HB; have BK295 := n0_; have BK296 := n1_; have HB := n2_; clear n0_ n1_ n2_; (try clear hb); (try clear hb2); (try clear hk); (try clear hi)))
  go_ret
  exact ⟨KE, KB⟩
 ·rw [if_neg c4] at H
  have c4b0 : decide (t297 < 0) = false := decide_eq_false c4
  clear c4
  replace H := Option.bind_eq_some_iff.mp H
  obtain ⟨t298, A100, H⟩ := H
  replace H : (if t298 < 0 then (some true) else ((laws_toStore.f k l0_0 l0_1 a0_2).bind fun bt299 => ((laws_toEntry.f a1_0 a1_1 a1_2 a1_3).bind fun bt306 => ((spec_StorePut.f k bt299.1 bt299.2.1 bt299.2.2 bt306.1 bt306.2.1 bt306.2.2.1 bt306.2.2.2).bind fun bt310 => ((laws_toStore.f k l0_0 l0_1 a0_2).bind fun bt319 => ((laws_toEntry.f a1_0 a1_1 a1_2 a1_3).bind fun bt327 => ((impl_StorePut.f k bt319.1 bt319.2.1 bt319.2.2 bt327.1 bt327.2.1 bt327.2.2.1 bt327.2.2.2).bind fun bt331 => ((laws_eqStore.f k bt331.1 bt331.2.1 bt331.2.2.1 bt310.1 bt310.2.1 bt310.2.2.1).bind fun t340 => (if t340 = true then (laws_FnExactStorePut.j0 k bt310.2.2.2 bt331.2.2.2 (bt331.2.2.2 != bt310.2.2.2) l0_0 l0_1 a0_2 a1_0 a1_1 a1_2 a1_3 bt310.1 bt310.2.1 bt310.2.2.1 bt319.1 bt319.2.1 bt319.2.2 bt331.1 bt331.2.1 bt331.2.2.1) else (laws_FnExactStorePut.j0 k bt310.2.2.2 bt331.2.2.2 true l0_0 l0_1 a0_2 a1_0 a1_1 a1_2 a1_3 bt310.1 bt310.2.1 bt310.2.2.1 bt319.1 bt319.2.1 bt319.2.2 bt331.1 bt331.2.1 bt331.2.2.1)))))))))) = some r := H
  have A10 := Aside0.mk A100
  clear A100
  by_cases c11 : t298 < 0
  ·rw [if_pos c11] at H
   have c11b0 : decide (t298 < 0) = true := decide_eq_true c11
   clear c11
   obtain rfl := Option.some.inj H
   go_enter Try.func3, Try.ntmps3
   go_wp2_with (first | ((with_reducible refine gate_dst (N := 2) rfl ?_); refine box_event ?hg (N := 2) ?hd (cs := #[.slice A0_0 l0_0.length c0_0, .slice A0_1 l0_1.length c0_1, .int .i64 a0_2]) (t := 24) ?hr ?_; (case hd => rfl); (case hg => rfl); (case hr => first | (go_simp; done) | (go_simp; rfl)); intro gb295 hg w12 hbox hb; have n0_ := Aside0.mk (below_step KB hb); have n1_ := Aside0.mk (hbox); have n2_ := Aside0.mk ((KG hg : w.heap.size ≤ gb295)); have n3_ := Aside0.mk ((KG hg : w.heap.size ≤ gb295)); clear HB; have HB := n0_; have BK295 := n1_; have GW295 := n2_; have GE295 := n3_; clear n0_ n1_ n2_ n3_; clear hb hbox hg) | ((with_reducible refine gate_dst (N := 3) rfl ?_); refine box_event ?hg (N := 3) ?hd (cs := #[.int .i64 a1_0, .int .i64 a1_1, .bool a1_2, .string a1_3]) (t := 26) ?hr ?_; (case hd => rfl); (case hg => rfl); (case hr => first | (go_simp; done) | (go_simp; rfl)); intro gb296 hg w13 hbox hb; have n0_ := Aside0.mk (blk_below (g := gb295) (o := .cells #[.slice A0_0 l0_0.length c0_0, .slice A0_1 l0_1.length c0_1, .int .i64 a0_2] 24 (0, 0)) KK hb); have n1_ := Aside0.mk (below_step KB hb); have n2_ := Aside0.mk (hbox); have n3_ := Aside0.mk ((KG hg : w.heap.size ≤ gb296)); have n4_ := Aside0.mk ((KG hg : w.heap.size ≤ gb296)); have n5_ := Aside0.mk ((by rw [hg]; exact Nat.ne_of_lt (blk_lt (g := gb295) (o := .cells #[.slice A0_0 l0_0.length c0_0, .slice A0_1 l0_1.length c0_1, .int .i64 a0_2] 24 (0, 0)) KK) : gb295 ≠ gb296)); have n6_ := Aside0.mk ((by rw [hg]; exact Nat.ne_of_gt (blk_lt (g := gb295) (o := .cells #[.slice A0_0 l0_0.length c0_0, .slice A0_1 l0_1.length c0_1, .int .i64 a0_2] 24 (0, 0)) KK) : gb296 ≠ gb295)); clear BK295; clear HB; have BK295 := n0_; have HB := n1_; have BK296 := n2_; have GW296 := n3_; have GE296 := n4_; have NB295_296 := n5_; have NB296_295 := n6_; clear n0_ n1_ n2_ n3_ n4_ n5_ n6_; clear hb hbox hg; have hnb14 := NB295_296.out; have hnc14 := NB296_295.out; have hcz15_0 : w13.cell? ⟨gb295, 0, none⟩ = some (.slice A0_0 l0_0.length c0_0) := (blk_cell BK295.out 0).trans rfl; have hcz15_1 : w13.cell? ⟨gb295, 1, none⟩ = some (.slice A0_1 l0_1.length c0_1) := (blk_cell BK295.out 1).trans rfl; have hcz15_2 : w13.cell? ⟨gb295, 2, none⟩ = some (.int .i64 a0_2) := (blk_cell BK295.out 2).trans rfl; have hfz15_0 := blk_frozen BK295.out 0; have hfz15_1 := blk_frozen BK295.out 1; have hfz15_2 := blk_frozen BK295.out 2) | ((with_reducible refine gate_callee (f := 9) rfl ?_); refine goesL_ (some 18) rfl rfl Try.func9 (by kernel_rfl) rfl #[.agg #[.slice A0_0 l0_0.length c0_0, .slice A0_1 l0_1.length c0_1, .int .i64 a0_2], .int .i64 1048576] rfl KL ?_; (with_reducible refine (laws_szStore.calls k _ _ l0_0 _ _ l0_1 a0_2 1048576 t297 _ ?side1 ?side2 ?side3 ?side4 A3.out).mono ?_); (case side1 => exact KD (Kd.C_below HR0_0.out HB.out)); (case side2 => exact HC0_0.out); (case side3 => exact KD (Kd.C_below HR0_1.out HB.out)); (case side4 => exact HC0_1.out); rintro e w16 ⟨rfl, hb⟩; refine ⟨_, rfl, ?_⟩; have n0_ := Aside0.mk (blk_below (g := gb295) (o := .cells #[.slice A0_0 l0_0.length c0_0, .slice A0_1 l0_1.length c0_1, .int .i64 a0_2] 24 (0, 0)) KK hb); have n1_ := Aside0.mk (blk_below (g := gb296) (o := .cells #[.int .i64 a1_0, .int .i64 a1_1, .bool a1_2, .string a1_3] 26 (0, 0)) KK hb); have n2_ := Aside0.mk (below_step KB hb); clear BK295; clear BK296; clear HB; have BK295 := n0_; have BK296 := n1_; have HB := n2_; clear n0_ n1_ n2_; (try clear hb); (try clear hb2); (try clear hk); (try clear hi); have hcz17_0 : w16.cell? ⟨gb296, 0, none⟩ = some (.int .i64 a1_0) := (blk_cell BK296.out 0).trans rfl; have hcz17_1 : w16.cell? ⟨gb296, 1, none⟩ = some (.int .i64 a1_1) := (blk_cell BK296.out 1).trans rfl; have hcz17_2 : w16.cell? ⟨gb296, 2, none⟩ = some (.bool a1_2) := (blk_cell BK296.out 2).trans rfl; have hcz17_3 : w16.cell? ⟨gb296, 3, none⟩ = some (.string a1_3) := (blk_cell BK296.out 3).trans rfl; have hfz17_0 := blk_frozen BK296.out 0; have hfz17_1 := blk_frozen BK296.out 1; have hfz17_2 := blk_frozen BK296.out 2; have hfz17_3 := blk_frozen BK296.out 3) | ((with_reducible refine gate_callee (f := 10) rfl ?_); refine goesL_ (some 23) rfl rfl Try.func10 (by kernel_rfl) rfl #[.agg #[.int .i64 a1_0, .int .i64 a1_1, .bool a1_2, .string a1_3], .int .i64 t297] rfl KL ?_; (with_reducible refine (laws_szEntry.calls a1_0 a1_1 a1_2 a1_3 t297 t298 _ A10.out).mono ?_); rintro e w18 ⟨rfl, hb⟩; refine ⟨_, rfl, ?_⟩; have n0_ := Aside0.mk (blk_below (g := gb295) (o := .cells #[.slice A0_0 l0_0.length c0_0, .slice A0_1 l0_1.length c0_1, .int .i64 a0_2] 24 (0, 0)) KK hb); have n1_ := Aside0.mk (blk_below (g := gb296) (o := .cells #[.int .i64 a1_0, .int .i64 a1_1, .bool a1_2, .string a1_3] 26 (0, 0)) KK hb); have n2_ := Aside0.mk (below_step KB hb); clear BK295; clear BK296; clear HB; have BK295 := n0_; have BK296 := n1_; have HB := n2_; clear n0_ n1_ n2_; (try clear hb); (try clear hb2); (try clear hk); (try clear hi)))
   go_ret
   exact ⟨KE, KB⟩
  ·rw [if_neg c11] at H
   have c11b0 : decide (t298 < 0) = false := decide_eq_false c11
   clear c11
   replace H := Option.bind_eq_some_iff.mp H
   obtain ⟨⟨t299, t302, t305⟩, A190, H⟩ := H
   replace H : ((laws_toEntry.f a1_0 a1_1 a1_2 a1_3).bind fun bt306 => ((spec_StorePut.f k t299 t302 t305 bt306.1 bt306.2.1 bt306.2.2.1 bt306.2.2.2).bind fun bt310 => ((laws_toStore.f k l0_0 l0_1 a0_2).bind fun bt319 => ((laws_toEntry.f a1_0 a1_1 a1_2 a1_3).bind fun bt327 => ((impl_StorePut.f k bt319.1 bt319.2.1 bt319.2.2 bt327.1 bt327.2.1 bt327.2.2.1 bt327.2.2.2).bind fun bt331 => ((laws_eqStore.f k bt331.1 bt331.2.1 bt331.2.2.1 bt310.1 bt310.2.1 bt310.2.2.1).bind fun t340 => (if t340 = true then (laws_FnExactStorePut.j0 k bt310.2.2.2 bt331.2.2.2 (bt331.2.2.2 != bt310.2.2.2) l0_0 l0_1 a0_2 a1_0 a1_1 a1_2 a1_3 bt310.1 bt310.2.1 bt310.2.2.1 bt319.1 bt319.2.1 bt319.2.2 bt331.1 bt331.2.1 bt331.2.2.1) else (laws_FnExactStorePut.j0 k bt310.2.2.2 bt331.2.2.2 true l0_0 l0_1 a0_2 a1_0 a1_1 a1_2 a1_3 bt310.1 bt310.2.1 bt310.2.2.1 bt319.1 bt319.2.1 bt319.2.2 bt331.1 bt331.2.1 bt331.2.2.1)))))))) = some r := H
   have A19 := Aside0.mk A190
   clear A190
   replace H := Option.bind_eq_some_iff.mp H
   obtain ⟨⟨t306, t307, t308, t309⟩, A200, H⟩ := H
   replace H : ((spec_StorePut.f k t299 t302 t305 t306 t307 t308 t309).bind fun bt310 => ((laws_toStore.f k l0_0 l0_1 a0_2).bind fun bt319 => ((laws_toEntry.f a1_0 a1_1 a1_2 a1_3).bind fun bt327 => ((impl_StorePut.f k bt319.1 bt319.2.1 bt319.2.2 bt327.1 bt327.2.1 bt327.2.2.1 bt327.2.2.2).bind fun bt331 => ((laws_eqStore.f k bt331.1 bt331.2.1 bt331.2.2.1 bt310.1 bt310.2.1 bt310.2.2.1).bind fun t340 => (if t340 = true then (laws_FnExactStorePut.j0 k bt310.2.2.2 bt331.2.2.2 (bt331.2.2.2 != bt310.2.2.2) l0_0 l0_1 a0_2 a1_0 a1_1 a1_2 a1_3 bt310.1 bt310.2.1 bt310.2.2.1 bt319.1 bt319.2.1 bt319.2.2 bt331.1 bt331.2.1 bt331.2.2.1) else (laws_FnExactStorePut.j0 k bt310.2.2.2 bt331.2.2.2 true l0_0 l0_1 a0_2 a1_0 a1_1 a1_2 a1_3 bt310.1 bt310.2.1 bt310.2.2.1 bt319.1 bt319.2.1 bt319.2.2 bt331.1 bt331.2.1 bt331.2.2.1))))))) = some r := H
   have A20 := Aside0.mk A200
   clear A200
   replace H := Option.bind_eq_some_iff.mp H
   obtain ⟨⟨t310, t313, t316, t317⟩, A210, H⟩ := H
   replace H : ((laws_toStore.f k l0_0 l0_1 a0_2).bind fun bt319 => ((laws_toEntry.f a1_0 a1_1 a1_2 a1_3).bind fun bt327 => ((impl_StorePut.f k bt319.1 bt319.2.1 bt319.2.2 bt327.1 bt327.2.1 bt327.2.2.1 bt327.2.2.2).bind fun bt331 => ((laws_eqStore.f k bt331.1 bt331.2.1 bt331.2.2.1 t310 t313 t316).bind fun t340 => (if t340 = true then (laws_FnExactStorePut.j0 k t317 bt331.2.2.2 (bt331.2.2.2 != t317) l0_0 l0_1 a0_2 a1_0 a1_1 a1_2 a1_3 t310 t313 t316 bt319.1 bt319.2.1 bt319.2.2 bt331.1 bt331.2.1 bt331.2.2.1) else (laws_FnExactStorePut.j0 k t317 bt331.2.2.2 true l0_0 l0_1 a0_2 a1_0 a1_1 a1_2 a1_3 t310 t313 t316 bt319.1 bt319.2.1 bt319.2.2 bt331.1 bt331.2.1 bt331.2.2.1)))))) = some r := H
   have A21 := Aside0.mk A210
   clear A210
   replace H := Option.bind_eq_some_iff.mp H
   obtain ⟨⟨t319, t322, t325⟩, A220, H⟩ := H
   replace H : ((laws_toEntry.f a1_0 a1_1 a1_2 a1_3).bind fun bt327 => ((impl_StorePut.f k t319 t322 t325 bt327.1 bt327.2.1 bt327.2.2.1 bt327.2.2.2).bind fun bt331 => ((laws_eqStore.f k bt331.1 bt331.2.1 bt331.2.2.1 t310 t313 t316).bind fun t340 => (if t340 = true then (laws_FnExactStorePut.j0 k t317 bt331.2.2.2 (bt331.2.2.2 != t317) l0_0 l0_1 a0_2 a1_0 a1_1 a1_2 a1_3 t310 t313 t316 t319 t322 t325 bt331.1 bt331.2.1 bt331.2.2.1) else (laws_FnExactStorePut.j0 k t317 bt331.2.2.2 true l0_0 l0_1 a0_2 a1_0 a1_1 a1_2 a1_3 t310 t313 t316 t319 t322 t325 bt331.1 bt331.2.1 bt331.2.2.1))))) = some r := H
   have A22 := Aside0.mk A220
   clear A220
   replace H := Option.bind_eq_some_iff.mp H
   obtain ⟨⟨t327, t328, t329, t330⟩, A230, H⟩ := H
   replace H : ((impl_StorePut.f k t319 t322 t325 t327 t328 t329 t330).bind fun bt331 => ((laws_eqStore.f k bt331.1 bt331.2.1 bt331.2.2.1 t310 t313 t316).bind fun t340 => (if t340 = true then (laws_FnExactStorePut.j0 k t317 bt331.2.2.2 (bt331.2.2.2 != t317) l0_0 l0_1 a0_2 a1_0 a1_1 a1_2 a1_3 t310 t313 t316 t319 t322 t325 bt331.1 bt331.2.1 bt331.2.2.1) else (laws_FnExactStorePut.j0 k t317 bt331.2.2.2 true l0_0 l0_1 a0_2 a1_0 a1_1 a1_2 a1_3 t310 t313 t316 t319 t322 t325 bt331.1 bt331.2.1 bt331.2.2.1)))) = some r := H
   have A23 := Aside0.mk A230
   clear A230
   replace H := Option.bind_eq_some_iff.mp H
   obtain ⟨⟨t331, t334, t337, t338⟩, A240, H⟩ := H
   replace H : ((laws_eqStore.f k t331 t334 t337 t310 t313 t316).bind fun t340 => (if t340 = true then (laws_FnExactStorePut.j0 k t317 t338 (t338 != t317) l0_0 l0_1 a0_2 a1_0 a1_1 a1_2 a1_3 t310 t313 t316 t319 t322 t325 t331 t334 t337) else (laws_FnExactStorePut.j0 k t317 t338 true l0_0 l0_1 a0_2 a1_0 a1_1 a1_2 a1_3 t310 t313 t316 t319 t322 t325 t331 t334 t337))) = some r := H
   have A24 := Aside0.mk A240
   clear A240
   have HC25 := Aside0.mk H
   clear H
   go_enter Try.func3, Try.ntmps3
   try go_wp2_with (first | ((with_reducible refine gate_dst (N := 2) rfl ?_); refine box_event ?hg (N := 2) ?hd (cs := #[.slice A0_0 l0_0.length c0_0, .slice A0_1 l0_1.length c0_1, .int .i64 a0_2]) (t := 24) ?hr ?_; (case hd => rfl); (case hg => rfl); (case hr => first | (go_simp; done) | (go_simp; rfl)); intro gb295 hg w26 hbox hb; have n0_ := Aside0.mk (below_step KB hb); have n1_ := Aside0.mk (hbox); have n2_ := Aside0.mk ((KG hg : w.heap.size ≤ gb295)); have n3_ := Aside0.mk ((KG hg : w.heap.size ≤ gb295)); clear HB; have HB := n0_; have BK295 := n1_; have GW295 := n2_; have GE295 := n3_; clear n0_ n1_ n2_ n3_; clear hb hbox hg) | ((with_reducible refine gate_dst (N := 3) rfl ?_); refine box_event ?hg (N := 3) ?hd (cs := #[.int .i64 a1_0, .int .i64 a1_1, .bool a1_2, .string a1_3]) (t := 26) ?hr ?_; (case hd => rfl); (case hg => rfl); (case hr => first | (go_simp; done) | (go_simp; rfl)); intro gb296 hg w27 hbox hb; have n0_ := Aside0.mk (blk_below (g := gb295) (o := .cells #[.slice A0_0 l0_0.length c0_0, .slice A0_1 l0_1.length c0_1, .int .i64 a0_2] 24 (0, 0)) KK hb); have n1_ := Aside0.mk (below_step KB hb); have n2_ := Aside0.mk (hbox); have n3_ := Aside0.mk ((KG hg : w.heap.size ≤ gb296)); have n4_ := Aside0.mk ((KG hg : w.heap.size ≤ gb296)); have n5_ := Aside0.mk ((by rw [hg]; exact Nat.ne_of_lt (blk_lt (g := gb295) (o := .cells #[.slice A0_0 l0_0.length c0_0, .slice A0_1 l0_1.length c0_1, .int .i64 a0_2] 24 (0, 0)) KK) : gb295 ≠ gb296)); have n6_ := Aside0.mk ((by rw [hg]; exact Nat.ne_of_gt (blk_lt (g := gb295) (o := .cells #[.slice A0_0 l0_0.length c0_0, .slice A0_1 l0_1.length c0_1, .int .i64 a0_2] 24 (0, 0)) KK) : gb296 ≠ gb295)); clear BK295; clear HB; have BK295 := n0_; have HB := n1_; have BK296 := n2_; have GW296 := n3_; have GE296 := n4_; have NB295_296 := n5_; have NB296_295 := n6_; clear n0_ n1_ n2_ n3_ n4_ n5_ n6_; clear hb hbox hg; have hnb28 := NB295_296.out; have hnc28 := NB296_295.out; have hcz29_0 : w27.cell? ⟨gb295, 0, none⟩ = some (.slice A0_0 l0_0.length c0_0) := (blk_cell BK295.out 0).trans rfl; have hcz29_1 : w27.cell? ⟨gb295, 1, none⟩ = some (.slice A0_1 l0_1.length c0_1) := (blk_cell BK295.out 1).trans rfl; have hcz29_2 : w27.cell? ⟨gb295, 2, none⟩ = some (.int .i64 a0_2) := (blk_cell BK295.out 2).trans rfl; have hfz29_0 := blk_frozen BK295.out 0; have hfz29_1 := blk_frozen BK295.out 1; have hfz29_2 := blk_frozen BK295.out 2) | ((with_reducible refine gate_callee (f := 9) rfl ?_); refine goesL_ (some 18) rfl rfl Try.func9 (by kernel_rfl) rfl #[.agg #[.slice A0_0 l0_0.length c0_0, .slice A0_1 l0_1.length c0_1, .int .i64 a0_2], .int .i64 1048576] rfl KL ?_; (with_reducible refine (laws_szStore.calls k _ _ l0_0 _ _ l0_1 a0_2 1048576 t297 _ ?side1 ?side2 ?side3 ?side4 A3.out).mono ?_); (case side1 => exact KD (Kd.C_below HR0_0.out HB.out)); (case side2 => exact HC0_0.out); (case side3 => exact KD (Kd.C_below HR0_1.out HB.out)); (case side4 => exact HC0_1.out); rintro e w30 ⟨rfl, hb⟩; refine ⟨_, rfl, ?_⟩; have n0_ := Aside0.mk (blk_below (g := gb295) (o := .cells #[.slice A0_0 l0_0.length c0_0, .slice A0_1 l0_1.length c0_1, .int .i64 a0_2] 24 (0, 0)) KK hb); have n1_ := Aside0.mk (blk_below (g := gb296) (o := .cells #[.int .i64 a1_0, .int .i64 a1_1, .bool a1_2, .string a1_3] 26 (0, 0)) KK hb); have n2_ := Aside0.mk (below_step KB hb); clear BK295; clear BK296; clear HB; have BK295 := n0_; have BK296 := n1_; have HB := n2_; clear n0_ n1_ n2_; (try clear hb); (try clear hb2); (try clear hk); (try clear hi); have hcz31_0 : w30.cell? ⟨gb296, 0, none⟩ = some (.int .i64 a1_0) := (blk_cell BK296.out 0).trans rfl; have hcz31_1 : w30.cell? ⟨gb296, 1, none⟩ = some (.int .i64 a1_1) := (blk_cell BK296.out 1).trans rfl; have hcz31_2 : w30.cell? ⟨gb296, 2, none⟩ = some (.bool a1_2) := (blk_cell BK296.out 2).trans rfl; have hcz31_3 : w30.cell? ⟨gb296, 3, none⟩ = some (.string a1_3) := (blk_cell BK296.out 3).trans rfl; have hfz31_0 := blk_frozen BK296.out 0; have hfz31_1 := blk_frozen BK296.out 1; have hfz31_2 := blk_frozen BK296.out 2; have hfz31_3 := blk_frozen BK296.out 3) | ((with_reducible refine gate_callee (f := 10) rfl ?_); refine goesL_ (some 23) rfl rfl Try.func10 (by kernel_rfl) rfl #[.agg #[.int .i64 a1_0, .int .i64 a1_1, .bool a1_2, .string a1_3], .int .i64 t297] rfl KL ?_; (with_reducible refine (laws_szEntry.calls a1_0 a1_1 a1_2 a1_3 t297 t298 _ A10.out).mono ?_); rintro e w32 ⟨rfl, hb⟩; refine ⟨_, rfl, ?_⟩; have n0_ := Aside0.mk (blk_below (g := gb295) (o := .cells #[.slice A0_0 l0_0.length c0_0, .slice A0_1 l0_1.length c0_1, .int .i64 a0_2] 24 (0, 0)) KK hb); have n1_ := Aside0.mk (blk_below (g := gb296) (o := .cells #[.int .i64 a1_0, .int .i64 a1_1, .bool a1_2, .string a1_3] 26 (0, 0)) KK hb); have n2_ := Aside0.mk (below_step KB hb); clear BK295; clear BK296; clear HB; have BK295 := n0_; have BK296 := n1_; have HB := n2_; clear n0_ n1_ n2_; (try clear hb); (try clear hb2); (try clear hk); (try clear hi)))
   have n0_ := Aside0.mk (blk_drew BK295.out)
   have n1_ := Aside0.mk (blk_drew BK296.out)
   have n2_ := Aside0.mk (below_drew1 HB.out)
   clear BK295
   clear BK296
   clear HB
   have BK295 := n0_
   have BK296 := n1_
   have HB := n2_
   clear n0_ n1_ n2_
   refine start_ (n := 11) (S := fun w' => w'.cell? ⟨gb295, 0, none⟩ = some (.slice A0_0 l0_0.length c0_0) ∧ w'.cell? ⟨gb295, 1, none⟩ = some (.slice A0_1 l0_1.length c0_1) ∧ w'.cell? ⟨gb295, 2, none⟩ = some (.int .i64 a0_2) ∧ w'.cell? ⟨gb296, 0, none⟩ = some (.int .i64 a1_0) ∧ w'.cell? ⟨gb296, 1, none⟩ = some (.int .i64 a1_1) ∧ w'.cell? ⟨gb296, 2, none⟩ = some (.bool a1_2) ∧ w'.cell? ⟨gb296, 3, none⟩ = some (.string a1_3)) (ds := []) #[false, false, false, false, false, false, false, false, false, false, false] (by kernel_rfl) rfl rfl ⟨(blk_cell BK295.out 0).trans rfl, (blk_cell BK295.out 1).trans rfl, (blk_cell BK295.out 2).trans rfl, (blk_cell BK296.out 0).trans rfl, (blk_cell BK296.out 1).trans rfl, (blk_cell BK296.out 2).trans rfl, (blk_cell BK296.out 3).trans rfl⟩ (fun hHeld => ?_); refine with_tabW laws_FnExactStorePut.tab8 laws_FnExactStorePut.bits8 (fun HT_ HW_ => ?_)
   generalize w32.drew = w33 at BK295 BK296 HB hHeld ⊢
   refine take_ (i := 0) (N := some 27) (v := ?_) (a' := ?_) #[true, false, false, false, false, false, false, false, false, false, false] rfl rfl (take_ofW HT_.out HW_.out (by kernel_rfl)) (fun _ _ _ h => h) (Or.inl ⟨by rfl, ?_⟩) hHeld ?_ ?_
   rotate_left
   ·rintro w' ⟨s0, s1, s2, s3, s4, s5, s6⟩
    go_simp
    with_reducible rfl
   rotate_left
   ·simp only [Act.put, List.setIfInBounds_toArray, List.set_cons_zero, List.set_cons_succ, i64_w, i32_w]
    rfl
   refine take_ (i := 2) (N := some 29) (v := ?_) (a' := ?_) #[true, false, true, false, false, false, false, false, false, false, false] rfl rfl (take_ofW HT_.out HW_.out (by kernel_rfl)) (fun _ _ _ h => h) (Or.inl ⟨by rfl, ?_⟩) hHeld ?_ ?_
   rotate_left
   ·rintro w' ⟨s0, s1, s2, s3, s4, s5, s6⟩
    go_simp
    with_reducible rfl
   rotate_left
   ·simp only [Act.put, List.setIfInBounds_toArray, List.set_cons_zero, List.set_cons_succ, i64_w, i32_w]
    rfl
   refine join_ (σ := Value × Value × Value × Value × Nat) 2 #[true, true, true, true, true, true, true, true, true, false, false] (fun s_ => [(28, .agg #[s_.1, s_.2.1, .int .i64 t305]), (30, .agg #[.int .i64 t306, .int .i64 t307, .bool t308, .string t309]), (31, .tuple #[.agg #[s_.2.2.1, s_.2.2.2.1, .int .i64 t316], .bool t317]), (6, .pointer (some ⟨s_.2.2.2.2, 0, none⟩)), (26, .tuple #[.agg #[s_.2.2.1, s_.2.2.2.1, .int .i64 t316], .bool t317]), (32, .agg #[s_.2.2.1, s_.2.2.2.1, .int .i64 t316]), (33, .bool t317)]) (fun s_ w' => (w'.cell? ⟨gb295, 0, none⟩ = some (.slice A0_0 l0_0.length c0_0) ∧ w'.cell? ⟨gb295, 1, none⟩ = some (.slice A0_1 l0_1.length c0_1) ∧ w'.cell? ⟨gb295, 2, none⟩ = some (.int .i64 a0_2) ∧ w'.cell? ⟨gb296, 0, none⟩ = some (.int .i64 a1_0) ∧ w'.cell? ⟨gb296, 1, none⟩ = some (.int .i64 a1_1) ∧ w'.cell? ⟨gb296, 2, none⟩ = some (.bool a1_2) ∧ w'.cell? ⟨gb296, 3, none⟩ = some (.string a1_3)) ∧ (Kd.R k35 35 w' w.heap.size (fun k_ => some k_ ≠ (s_.2.1 : Value).ownBlock ∧ some k_ ≠ (s_.2.2.1 : Value).ownBlock ∧ some k_ ≠ (s_.2.2.2.1 : Value).ownBlock) s_.1 t299) ∧ (Kd.R k35 35 w' w.heap.size (fun k_ => some k_ ≠ (s_.1 : Value).ownBlock ∧ some k_ ≠ (s_.2.2.1 : Value).ownBlock ∧ some k_ ≠ (s_.2.2.2.1 : Value).ownBlock) s_.2.1 t302) ∧ (Kd.R k35 35 w' w.heap.size (fun k_ => some k_ ≠ (s_.1 : Value).ownBlock ∧ some k_ ≠ (s_.2.1 : Value).ownBlock ∧ some k_ ≠ (s_.2.2.2.1 : Value).ownBlock) s_.2.2.1 t310) ∧ (Kd.R k35 35 w' w.heap.size (fun k_ => some k_ ≠ (s_.1 : Value).ownBlock ∧ some k_ ≠ (s_.2.1 : Value).ownBlock ∧ some k_ ≠ (s_.2.2.1 : Value).ownBlock) s_.2.2.2.1 t313) ∧ (w'.heap[gb295]? = some (.cells #[.slice A0_0 l0_0.length c0_0, .slice A0_1 l0_1.length c0_1, .int .i64 a0_2] 24 (0, 0))) ∧ (w'.heap[gb296]? = some (.cells #[.int .i64 a1_0, .int .i64 a1_1, .bool a1_2, .string a1_3] 26 (0, 0))) ∧ (w'.heap[s_.2.2.2.2]? = some (.cells #[.slice none 0 0, .slice none 0 0, .int .i64 0] 31 (0, 0))) ∧ (w.heap.size ≤ s_.2.2.2.2) ∧ (w.heap.size ≤ s_.2.2.2.2) ∧ (gb295 ≠ s_.2.2.2.2) ∧ (s_.2.2.2.2 ≠ gb295) ∧ (gb296 ≠ s_.2.2.2.2) ∧ (s_.2.2.2.2 ≠ gb296) ∧ (Below w.heap.size w w')) ?_ ?_
   rotate_left
   ·intro hCont
    refine two_ (i := 1) (j := 8) (Ni := some 28) (Nj := some 6) #[true, true, true, false, false, false, false, false, false, false, false] #[true, false, true, false, false, false, false, false, true, false, false] rfl rfl rfl rfl (two_of HT_.out (by kernel_rfl)) (by decide) (by decide) (fun K hK => ?_) (fun K hK => ?_)
    ·skip
     refine goes_ Try.func12 (by kernel_rfl) rfl #[.agg #[.slice A0_0 l0_0.length c0_0, .slice A0_1 l0_1.length c0_1, .int .i64 a0_2]] (by rfl) rfl rfl KL ?_
     with_reducible refine (laws_toStore.calls k _ _ l0_0 _ _ l0_1 a0_2 t299 t302 t305 _ ?side1 ?side2 ?side3 ?side4 A19.out).mono ?_
     (case side1 => exact KD (Kd.C_below HR0_0.out HB.out))
     (case side2 => exact HC0_0.out)
     (case side3 => exact KD (Kd.C_below HR0_1.out HB.out))
     (case side4 => exact HC0_1.out)
     rintro e w34 ⟨v300, v303, rfl, ho0, ho1, hb⟩
     refine ⟨_, rfl, ?_⟩
     have n0_ := Aside0.mk (Kd.R_lower ho0 (below_size KB))
     have n1_ := Aside0.mk (Kd.R_lower ho1 (below_size KB))
     have n2_ := Aside0.mk (blk_below (g := gb295) (o := .cells #[.slice A0_0 l0_0.length c0_0, .slice A0_1 l0_1.length c0_1, .int .i64 a0_2] 24 (0, 0)) KK hb)
     have n3_ := Aside0.mk (blk_below (g := gb296) (o := .cells #[.int .i64 a1_0, .int .i64 a1_1, .bool a1_2, .string a1_3] 26 (0, 0)) KK hb)
     have n4_ := Aside0.mk (below_step KB hb)
     clear BK295
     clear BK296
     clear HB
     have HO301 := n0_
     have HO304 := n1_
     have BK295 := n2_
     have BK296 := n3_
     have HB := n4_
     clear n0_ n1_ n2_ n3_ n4_
     (try clear hb)
     (try clear hb2)
     (try clear hk)
     (try clear hi)
     (try clear ho0)
     (try clear ho1)
     refine hK.out _ _ ⟨(blk_cell BK295.out 0).trans rfl, (blk_cell BK295.out 1).trans rfl, (blk_cell BK295.out 2).trans rfl, (blk_cell BK296.out 0).trans rfl, (blk_cell BK296.out 1).trans rfl, (blk_cell BK296.out 2).trans rfl, (blk_cell BK296.out 3).trans rfl⟩ (fun hHeld => ?_)
     clear hK K
     refine norm_ (a' := ?_) ?_ ?_
     rotate_left
     ·show Act.put _ (some 28) _ = _
      simp only [Act.put, List.setIfInBounds_toArray, List.set_cons_zero, List.set_cons_succ, i64_w, i32_w]
      rfl
     refine two_ (i := 3) (j := 8) (Ni := some 30) (Nj := some 6) #[true, true, true, true, false, false, false, false, false, false, false] #[true, true, true, false, false, false, false, false, true, false, false] rfl rfl rfl rfl (two_of HT_.out (by kernel_rfl)) (by decide) (by decide) (fun K hK => ?_) (fun K hK => ?_)
     ·skip
      refine goes_ Try.func13 (by kernel_rfl) rfl #[.agg #[.int .i64 a1_0, .int .i64 a1_1, .bool a1_2, .string a1_3]] (by rfl) rfl rfl KL ?_
      with_reducible refine (laws_toEntry.calls a1_0 a1_1 a1_2 a1_3 t306 t307 t308 t309 _ A20.out).mono ?_
      rintro e w35 ⟨rfl, hb⟩
      refine ⟨_, rfl, ?_⟩
      have n0_ := Aside0.mk (Kd.R_below (KR HO301.out) hb)
      have n1_ := Aside0.mk (Kd.R_below (KR HO304.out) hb)
      have n2_ := Aside0.mk (blk_below (g := gb295) (o := .cells #[.slice A0_0 l0_0.length c0_0, .slice A0_1 l0_1.length c0_1, .int .i64 a0_2] 24 (0, 0)) KK hb)
      have n3_ := Aside0.mk (blk_below (g := gb296) (o := .cells #[.int .i64 a1_0, .int .i64 a1_1, .bool a1_2, .string a1_3] 26 (0, 0)) KK hb)
      have n4_ := Aside0.mk (below_step KB hb)
      clear HO301
      clear HO304
      clear BK295
      clear BK296
      clear HB
      have HO301 := n0_
      have HO304 := n1_
      have BK295 := n2_
      have BK296 := n3_
      have HB := n4_
      clear n0_ n1_ n2_ n3_ n4_
      (try clear hb)
      (try clear hb2)
      (try clear hk)
      (try clear hi)
      obtain ⟨Ao36, co36, eo36⟩ := Kd.R_slice HO301.out
      (first | subst eo36 | (injection eo36 with f1_ f2_ f3_; have f4_ := f1_.symm; have f5_ := f3_.symm; clear f1_ f2_ f3_; subst f4_; subst f5_))
      obtain ⟨Ao37, co37, eo37⟩ := Kd.R_slice HO304.out
      (first | subst eo37 | (injection eo37 with f1_ f2_ f3_; have f4_ := f1_.symm; have f5_ := f3_.symm; clear f1_ f2_ f3_; subst f4_; subst f5_))
      refine hK.out _ _ ⟨(blk_cell BK295.out 0).trans rfl, (blk_cell BK295.out 1).trans rfl, (blk_cell BK295.out 2).trans rfl, (blk_cell BK296.out 0).trans rfl, (blk_cell BK296.out 1).trans rfl, (blk_cell BK296.out 2).trans rfl, (blk_cell BK296.out 3).trans rfl⟩ (fun hHeld => ?_)
      clear hK K
      refine norm_ (a' := ?_) ?_ ?_
      rotate_left
      ·show Act.put _ (some 30) _ = _
       simp only [Act.put, List.setIfInBounds_toArray, List.set_cons_zero, List.set_cons_succ, i64_w, i32_w]
       rfl
      refine two_ (i := 4) (j := 8) (Ni := some 31) (Nj := some 6) #[true, true, true, true, true, false, false, false, false, false, false] #[true, true, true, true, false, false, false, false, true, false, false] rfl rfl rfl rfl (two_of HT_.out (by kernel_rfl)) (by decide) (by decide) (fun K hK => ?_) (fun K hK => ?_)
      ·skip
       refine goes_ Try.func11 (by kernel_rfl) rfl #[.agg #[.slice Ao36 t299.length co36, .slice Ao37 t302.length co37, .int .i64 t305], .agg #[.int .i64 t306, .int .i64 t307, .bool t308, .string t309]] (by rfl) rfl rfl KL ?_
       with_reducible refine (spec_StorePut.calls k _ _ t299 _ _ t302 t305 t306 t307 t308 t309 t310 t313 t316 t317 _ ?side1 ?side2 ?side3 ?side4 A21.out).mono ?_
       (case side1 => repeat (first | exact (Kd.R_reads' HO301.out).2.2 | (with_reducible refine Kd.C_alloc ?_ _) | (with_reducible refine Kd.C_drewN ?_ _) | (with_reducible refine Kd.C_drew ?_)))
       (case side2 => exact (Kd.R_reads' HO301.out).2.1)
       (case side3 => repeat (first | exact (Kd.R_reads' HO304.out).2.2 | (with_reducible refine Kd.C_alloc ?_ _) | (with_reducible refine Kd.C_drewN ?_ _) | (with_reducible refine Kd.C_drew ?_)))
       (case side4 => exact (Kd.R_reads' HO304.out).2.1)
       rintro e w38 ⟨v311, v314, rfl, ho0, ho1, hb⟩
       refine ⟨_, rfl, ?_⟩
       have n0_ := Aside0.mk (Kd.R_mono (Kd.R_told (Kd.R_told (Kd.R_old (KR HO301.out) hb) (Kd.R_base ho0)) (Kd.R_base ho1)) (fun _ h_ => h_.1))
       have n1_ := Aside0.mk (Kd.R_mono (Kd.R_told (Kd.R_told (Kd.R_old (KR HO304.out) hb) (Kd.R_base ho0)) (Kd.R_base ho1)) (fun _ h_ => h_.1))
       have n2_ := Aside0.mk (Kd.R_lower (Kd.R_new' (Kd.R_new' ho0 (Kd.R_lt (KR HO301.out))) (Kd.R_lt (KR HO304.out))) (below_size KB))
       have n3_ := Aside0.mk (Kd.R_lower (Kd.R_new' (Kd.R_new' ho1 (Kd.R_lt (KR HO301.out))) (Kd.R_lt (KR HO304.out))) (below_size KB))
       have n4_ := Aside0.mk (blk_below (g := gb295) (o := .cells #[.slice A0_0 l0_0.length c0_0, .slice A0_1 l0_1.length c0_1, .int .i64 a0_2] 24 (0, 0)) KK hb)
       have n5_ := Aside0.mk (blk_below (g := gb296) (o := .cells #[.int .i64 a1_0, .int .i64 a1_1, .bool a1_2, .string a1_3] 26 (0, 0)) KK hb)
       have n6_ := Aside0.mk (below_step KB hb)
       clear HO301
       clear HO304
       clear BK295
       clear BK296
       clear HB
       have HO301 := n0_
       have HO304 := n1_
       have HO312 := n2_
       have HO315 := n3_
       have BK295 := n4_
       have BK296 := n5_
       have HB := n6_
       clear n0_ n1_ n2_ n3_ n4_ n5_ n6_
       (try clear hb)
       (try clear hb2)
       (try clear hk)
       (try clear hi)
       (try clear ho0)
       (try clear ho1)
       refine hK.out _ _ ⟨(blk_cell BK295.out 0).trans rfl, (blk_cell BK295.out 1).trans rfl, (blk_cell BK295.out 2).trans rfl, (blk_cell BK296.out 0).trans rfl, (blk_cell BK296.out 1).trans rfl, (blk_cell BK296.out 2).trans rfl, (blk_cell BK296.out 3).trans rfl⟩ (fun hHeld => ?_)
       clear hK K
       refine norm_ (a' := ?_) ?_ ?_
       rotate_left
       ·show Act.put _ (some 31) _ = _
        simp only [Act.put, List.setIfInBounds_toArray, List.set_cons_zero, List.set_cons_succ, i64_w, i32_w]
        rfl
       refine pure_ (i := 5) (N := some 26) (v := ?_) (a' := ?_) #[true, true, true, true, true, true, false, false, false, false, false] rfl rfl (any_of HT_.out (by kernel_rfl)) (fun _ _ _ h => h) (Or.inl ⟨by rfl, ?_⟩) ?_ ?_
       rotate_left
       ·intro w'
        go_simp
        with_reducible rfl
       rotate_left
       ·simp only [Act.put, List.setIfInBounds_toArray, List.set_cons_zero, List.set_cons_succ, i64_w, i32_w]
        rfl
       refine pure_ (i := 6) (N := some 32) (v := ?_) (a' := ?_) #[true, true, true, true, true, true, true, false, false, false, false] rfl rfl (any_of HT_.out (by kernel_rfl)) (fun _ _ _ h => h) (Or.inl ⟨by rfl, ?_⟩) ?_ ?_
       rotate_left
       ·intro w'
        go_simp
        with_reducible rfl
       rotate_left
       ·simp only [Act.put, List.setIfInBounds_toArray, List.set_cons_zero, List.set_cons_succ, i64_w, i32_w]
        rfl
       refine pure_ (i := 7) (N := some 33) (v := ?_) (a' := ?_) #[true, true, true, true, true, true, true, true, false, false, false] rfl rfl (any_of HT_.out (by kernel_rfl)) (fun _ _ _ h => h) (Or.inl ⟨by rfl, ?_⟩) ?_ ?_
       rotate_left
       ·intro w'
        go_simp
        with_reducible rfl
       rotate_left
       ·simp only [Act.put, List.setIfInBounds_toArray, List.set_cons_zero, List.set_cons_succ, i64_w, i32_w]
        rfl
       refine one_ (i := 8) (N := some 6) #[true, true, true, true, true, true, true, true, true, false, false] rfl rfl (one_of HT_.out (by kernel_rfl)) (by decide) (fun K hK => ?_)
       refine box_step ?hg (N := 6) ?hd (cs := #[.slice none 0 0, .slice none 0 0, .int .i64 0]) (t := 31) ?hr ?_; (case hd => rfl); (case hg => rfl); (case hr => first | (go_simp; done) | (go_simp; rfl))
       intro gb318 hg w39 hbox hb
       have n0_ := Aside0.mk (Kd.R_below (KR HO301.out) hb)
       have n1_ := Aside0.mk (Kd.R_below (KR HO304.out) hb)
       have n2_ := Aside0.mk (Kd.R_below (KR HO312.out) hb)
       have n3_ := Aside0.mk (Kd.R_below (KR HO315.out) hb)
       have n4_ := Aside0.mk (blk_below (g := gb295) (o := .cells #[.slice A0_0 l0_0.length c0_0, .slice A0_1 l0_1.length c0_1, .int .i64 a0_2] 24 (0, 0)) KK hb)
       have n5_ := Aside0.mk (blk_below (g := gb296) (o := .cells #[.int .i64 a1_0, .int .i64 a1_1, .bool a1_2, .string a1_3] 26 (0, 0)) KK hb)
       have n6_ := Aside0.mk (below_step KB hb)
       have n7_ := Aside0.mk (hbox)
       have n8_ := Aside0.mk ((KG hg : w.heap.size ≤ gb318))
       have n9_ := Aside0.mk ((KG hg : w.heap.size ≤ gb318))
       have n10_ := Aside0.mk ((by rw [hg]; exact Nat.ne_of_lt (blk_lt (g := gb295) (o := .cells #[.slice A0_0 l0_0.length c0_0, .slice A0_1 l0_1.length c0_1, .int .i64 a0_2] 24 (0, 0)) KK) : gb295 ≠ gb318))
       have n11_ := Aside0.mk ((by rw [hg]; exact Nat.ne_of_gt (blk_lt (g := gb295) (o := .cells #[.slice A0_0 l0_0.length c0_0, .slice A0_1 l0_1.length c0_1, .int .i64 a0_2] 24 (0, 0)) KK) : gb318 ≠ gb295))
       have n12_ := Aside0.mk ((by rw [hg]; exact Nat.ne_of_lt (blk_lt (g := gb296) (o := .cells #[.int .i64 a1_0, .int .i64 a1_1, .bool a1_2, .string a1_3] 26 (0, 0)) KK) : gb296 ≠ gb318))
       have n13_ := Aside0.mk ((by rw [hg]; exact Nat.ne_of_gt (blk_lt (g := gb296) (o := .cells #[.int .i64 a1_0, .int .i64 a1_1, .bool a1_2, .string a1_3] 26 (0, 0)) KK) : gb318 ≠ gb296))
       clear HO301
       clear HO304
       clear HO312
       clear HO315
       clear BK295
       clear BK296
       clear HB
       have HO301 := n0_
       have HO304 := n1_
       have HO312 := n2_
       have HO315 := n3_
       have BK295 := n4_
       have BK296 := n5_
       have HB := n6_
       have BK318 := n7_
       have GW318 := n8_
       have GE318 := n9_
       have NB295_318 := n10_
       have NB318_295 := n11_
       have NB296_318 := n12_
       have NB318_296 := n13_
       clear n0_ n1_ n2_ n3_ n4_ n5_ n6_ n7_ n8_ n9_ n10_ n11_ n12_ n13_
       clear hb hbox hg
       refine hK.out _ _ ⟨(blk_cell BK295.out 0).trans rfl, (blk_cell BK295.out 1).trans rfl, (blk_cell BK295.out 2).trans rfl, (blk_cell BK296.out 0).trans rfl, (blk_cell BK296.out 1).trans rfl, (blk_cell BK296.out 2).trans rfl, (blk_cell BK296.out 3).trans rfl⟩ (fun hHeld => ?_)
       clear hK K
       refine norm_ (a' := ?_) ?_ ?_
       rotate_left
       ·show Act.put _ (some 6) _ = _
        simp only [Act.put, List.setIfInBounds_toArray, List.set_cons_zero, List.set_cons_succ, i64_w, i32_w]
        rfl
       exact norm_ (by simp only [putAll, Act.put, List.setIfInBounds_toArray, List.set_cons_zero, List.set_cons_succ]) (hCont (.slice Ao36 t299.length co36, .slice Ao37 t302.length co37, v311, v314, gb318) _ ⟨hHeld, (by (with_reducible repeat (first | apply Kd.R_alloc | apply Kd.R_drewN | apply Kd.R_drew)); exact Kd.R_mono HO301.out (fun _ hk => ⟨hk.1.1, ⟨hk.1.2, hk.2⟩⟩)), (by (with_reducible repeat (first | apply Kd.R_alloc | apply Kd.R_drewN | apply Kd.R_drew)); exact Kd.R_mono HO304.out (fun _ hk => ⟨hk.1.1, ⟨hk.1.2, hk.2⟩⟩)), (by (with_reducible repeat (first | apply Kd.R_alloc | apply Kd.R_drewN | apply Kd.R_drew)); exact Kd.R_mono HO312.out (fun _ hk => ⟨hk.1.2, ⟨hk.2, hk.1.1⟩⟩)), (by (with_reducible repeat (first | apply Kd.R_alloc | apply Kd.R_drewN | apply Kd.R_drew)); exact Kd.R_mono HO315.out (fun _ hk => ⟨hk.1.2, ⟨hk.2, hk.1.1⟩⟩)), KK, KK, KK, GW318.out, GE318.out, NB295_318.out, NB318_295.out, NB296_318.out, NB318_296.out, KB⟩)
      ·skip
       refine box_step ?hg (N := 6) ?hd (cs := #[.slice none 0 0, .slice none 0 0, .int .i64 0]) (t := 31) ?hr ?_; (case hd => rfl); (case hg => rfl); (case hr => first | (go_simp; done) | (go_simp; rfl))
       intro gb318 hg w36 hbox hb
       have n0_ := Aside0.mk (Kd.R_below (KR HO301.out) hb)
       have n1_ := Aside0.mk (Kd.R_below (KR HO304.out) hb)
       have n2_ := Aside0.mk (blk_below (g := gb295) (o := .cells #[.slice A0_0 l0_0.length c0_0, .slice A0_1 l0_1.length c0_1, .int .i64 a0_2] 24 (0, 0)) KK hb)
       have n3_ := Aside0.mk (blk_below (g := gb296) (o := .cells #[.int .i64 a1_0, .int .i64 a1_1, .bool a1_2, .string a1_3] 26 (0, 0)) KK hb)
       have n4_ := Aside0.mk (below_step KB hb)
       have n5_ := Aside0.mk (hbox)
       have n6_ := Aside0.mk ((KG hg : w.heap.size ≤ gb318))
       have n7_ := Aside0.mk ((KG hg : w.heap.size ≤ gb318))
       have n8_ := Aside0.mk ((by rw [hg]; exact Nat.ne_of_lt (blk_lt (g := gb295) (o := .cells #[.slice A0_0 l0_0.length c0_0, .slice A0_1 l0_1.length c0_1, .int .i64 a0_2] 24 (0, 0)) KK) : gb295 ≠ gb318))
       have n9_ := Aside0.mk ((by rw [hg]; exact Nat.ne_of_gt (blk_lt (g := gb295) (o := .cells #[.slice A0_0 l0_0.length c0_0, .slice A0_1 l0_1.length c0_1, .int .i64 a0_2] 24 (0, 0)) KK) : gb318 ≠ gb295))
       have n10_ := Aside0.mk ((by rw [hg]; exact Nat.ne_of_lt (blk_lt (g := gb296) (o := .cells #[.int .i64 a1_0, .int .i64 a1_1, .bool a1_2, .string a1_3] 26 (0, 0)) KK) : gb296 ≠ gb318))
       have n11_ := Aside0.mk ((by rw [hg]; exact Nat.ne_of_gt (blk_lt (g := gb296) (o := .cells #[.int .i64 a1_0, .int .i64 a1_1, .bool a1_2, .string a1_3] 26 (0, 0)) KK) : gb318 ≠ gb296))
       clear HO301
       clear HO304
       clear BK295
       clear BK296
       clear HB
       have HO301 := n0_
       have HO304 := n1_
       have BK295 := n2_
       have BK296 := n3_
       have HB := n4_
       have BK318 := n5_
       have GW318 := n6_
       have GE318 := n7_
       have NB295_318 := n8_
       have NB318_295 := n9_
       have NB296_318 := n10_
       have NB318_296 := n11_
       clear n0_ n1_ n2_ n3_ n4_ n5_ n6_ n7_ n8_ n9_ n10_ n11_
       clear hb hbox hg
       obtain ⟨Ao37, co37, eo37⟩ := Kd.R_slice HO301.out
       (first | subst eo37 | (injection eo37 with f1_ f2_ f3_; have f4_ := f1_.symm; have f5_ := f3_.symm; clear f1_ f2_ f3_; subst f4_; subst f5_))
       obtain ⟨Ao38, co38, eo38⟩ := Kd.R_slice HO304.out
       (first | subst eo38 | (injection eo38 with f1_ f2_ f3_; have f4_ := f1_.symm; have f5_ := f3_.symm; clear f1_ f2_ f3_; subst f4_; subst f5_))
       refine hK.out _ _ ⟨(blk_cell BK295.out 0).trans rfl, (blk_cell BK295.out 1).trans rfl, (blk_cell BK295.out 2).trans rfl, (blk_cell BK296.out 0).trans rfl, (blk_cell BK296.out 1).trans rfl, (blk_cell BK296.out 2).trans rfl, (blk_cell BK296.out 3).trans rfl⟩ (fun hHeld => ?_)
       clear hK K
       refine norm_ (a' := ?_) ?_ ?_
       rotate_left
       ·show Act.put _ (some 6) _ = _
        simp only [Act.put, List.setIfInBounds_toArray, List.set_cons_zero, List.set_cons_succ, i64_w, i32_w]
        rfl
       refine one_ (i := 4) (N := some 31) #[true, true, true, true, true, false, false, false, true, false, false] rfl rfl (one_of HT_.out (by kernel_rfl)) (by decide) (fun K hK => ?_)
       refine goes_ Try.func11 (by kernel_rfl) rfl #[.agg #[.slice Ao37 t299.length co37, .slice Ao38 t302.length co38, .int .i64 t305], .agg #[.int .i64 t306, .int .i64 t307, .bool t308, .string t309]] (by rfl) rfl rfl KL ?_
       with_reducible refine (spec_StorePut.calls k _ _ t299 _ _ t302 t305 t306 t307 t308 t309 t310 t313 t316 t317 _ ?side1 ?side2 ?side3 ?side4 A21.out).mono ?_
       (case side1 => repeat (first | exact (Kd.R_reads' HO301.out).2.2 | (with_reducible refine Kd.C_alloc ?_ _) | (with_reducible refine Kd.C_drewN ?_ _) | (with_reducible refine Kd.C_drew ?_)))
       (case side2 => exact (Kd.R_reads' HO301.out).2.1)
       (case side3 => repeat (first | exact (Kd.R_reads' HO304.out).2.2 | (with_reducible refine Kd.C_alloc ?_ _) | (with_reducible refine Kd.C_drewN ?_ _) | (with_reducible refine Kd.C_drew ?_)))
       (case side4 => exact (Kd.R_reads' HO304.out).2.1)
       rintro e w39 ⟨v311, v314, rfl, ho0, ho1, hb⟩
       refine ⟨_, rfl, ?_⟩
       have n0_ := Aside0.mk (Kd.R_mono (Kd.R_told (Kd.R_told (Kd.R_old (KR HO301.out) hb) (Kd.R_base ho0)) (Kd.R_base ho1)) (fun _ h_ => h_.1))
       have n1_ := Aside0.mk (Kd.R_mono (Kd.R_told (Kd.R_told (Kd.R_old (KR HO304.out) hb) (Kd.R_base ho0)) (Kd.R_base ho1)) (fun _ h_ => h_.1))
       have n2_ := Aside0.mk (Kd.R_lower (Kd.R_new' (Kd.R_new' ho0 (Kd.R_lt (KR HO301.out))) (Kd.R_lt (KR HO304.out))) (below_size KB))
       have n3_ := Aside0.mk (Kd.R_lower (Kd.R_new' (Kd.R_new' ho1 (Kd.R_lt (KR HO301.out))) (Kd.R_lt (KR HO304.out))) (below_size KB))
       have n4_ := Aside0.mk (blk_below (g := gb295) (o := .cells #[.slice A0_0 l0_0.length c0_0, .slice A0_1 l0_1.length c0_1, .int .i64 a0_2] 24 (0, 0)) KK hb)
       have n5_ := Aside0.mk (blk_below (g := gb296) (o := .cells #[.int .i64 a1_0, .int .i64 a1_1, .bool a1_2, .string a1_3] 26 (0, 0)) KK hb)
       have n6_ := Aside0.mk (blk_below (g := gb318) (o := .cells #[.slice none 0 0, .slice none 0 0, .int .i64 0] 31 (0, 0)) KK hb)
       have n7_ := Aside0.mk (below_step KB hb)
       clear HO301
       clear HO304
       clear BK295
       clear BK296
       clear BK318
       clear HB
       have HO301 := n0_
       have HO304 := n1_
       have HO312 := n2_
       have HO315 := n3_
       have BK295 := n4_
       have BK296 := n5_
       have BK318 := n6_
       have HB := n7_
       clear n0_ n1_ n2_ n3_ n4_ n5_ n6_ n7_
       (try clear hb)
       (try clear hb2)
       (try clear hk)
       (try clear hi)
       (try clear ho0)
       (try clear ho1)
       refine hK.out _ _ ⟨(blk_cell BK295.out 0).trans rfl, (blk_cell BK295.out 1).trans rfl, (blk_cell BK295.out 2).trans rfl, (blk_cell BK296.out 0).trans rfl, (blk_cell BK296.out 1).trans rfl, (blk_cell BK296.out 2).trans rfl, (blk_cell BK296.out 3).trans rfl⟩ (fun hHeld => ?_)
       clear hK K
       refine norm_ (a' := ?_) ?_ ?_
       rotate_left
       ·show Act.put _ (some 31) _ = _
        simp only [Act.put, List.setIfInBounds_toArray, List.set_cons_zero, List.set_cons_succ, i64_w, i32_w]
        rfl
       refine pure_ (i := 5) (N := some 26) (v := ?_) (a' := ?_) #[true, true, true, true, true, true, false, false, true, false, false] rfl rfl (any_of HT_.out (by kernel_rfl)) (fun _ _ _ h => h) (Or.inl ⟨by rfl, ?_⟩) ?_ ?_
       rotate_left
       ·intro w'
        go_simp
        with_reducible rfl
       rotate_left
       ·simp only [Act.put, List.setIfInBounds_toArray, List.set_cons_zero, List.set_cons_succ, i64_w, i32_w]
        rfl
       refine pure_ (i := 6) (N := some 32) (v := ?_) (a' := ?_) #[true, true, true, true, true, true, true, false, true, false, false] rfl rfl (any_of HT_.out (by kernel_rfl)) (fun _ _ _ h => h) (Or.inl ⟨by rfl, ?_⟩) ?_ ?_
       rotate_left
       ·intro w'
        go_simp
        with_reducible rfl
       rotate_left
       ·simp only [Act.put, List.setIfInBounds_toArray, List.set_cons_zero, List.set_cons_succ, i64_w, i32_w]
        rfl
       refine pure_ (i := 7) (N := some 33) (v := ?_) (a' := ?_) #[true, true, true, true, true, true, true, true, true, false, false] rfl rfl (any_of HT_.out (by kernel_rfl)) (fun _ _ _ h => h) (Or.inl ⟨by rfl, ?_⟩) ?_ ?_
       rotate_left
       ·intro w'
        go_simp
        with_reducible rfl
       rotate_left
       ·simp only [Act.put, List.setIfInBounds_toArray, List.set_cons_zero, List.set_cons_succ, i64_w, i32_w]
        rfl
       exact norm_ (by simp only [putAll, Act.put, List.setIfInBounds_toArray, List.set_cons_zero, List.set_cons_succ]) (hCont (.slice Ao37 t299.length co37, .slice Ao38 t302.length co38, v311, v314, gb318) _ ⟨hHeld, (by (with_reducible repeat (first | apply Kd.R_alloc | apply Kd.R_drewN | apply Kd.R_drew)); exact Kd.R_mono HO301.out (fun _ hk => ⟨hk.1.1, ⟨hk.1.2, hk.2⟩⟩)), (by (with_reducible repeat (first | apply Kd.R_alloc | apply Kd.R_drewN | apply Kd.R_drew)); exact Kd.R_mono HO304.out (fun _ hk => ⟨hk.1.1, ⟨hk.1.2, hk.2⟩⟩)), (by (with_reducible repeat (first | apply Kd.R_alloc | apply Kd.R_drewN | apply Kd.R_drew)); exact Kd.R_mono HO312.out (fun _ hk => ⟨hk.1.2, ⟨hk.2, hk.1.1⟩⟩)), (by (with_reducible repeat (first | apply Kd.R_alloc | apply Kd.R_drewN | apply Kd.R_drew)); exact Kd.R_mono HO315.out (fun _ hk => ⟨hk.1.2, ⟨hk.2, hk.1.1⟩⟩)), KK, KK, KK, GW318.out, GE318.out, NB295_318.out, NB318_295.out, NB296_318.out, NB318_296.out, KB⟩)
     ·skip
      refine box_step ?hg (N := 6) ?hd (cs := #[.slice none 0 0, .slice none 0 0, .int .i64 0]) (t := 31) ?hr ?_; (case hd => rfl); (case hg => rfl); (case hr => first | (go_simp; done) | (go_simp; rfl))
      intro gb318 hg w35 hbox hb
      have n0_ := Aside0.mk (Kd.R_below (KR HO301.out) hb)
      have n1_ := Aside0.mk (Kd.R_below (KR HO304.out) hb)
      have n2_ := Aside0.mk (blk_below (g := gb295) (o := .cells #[.slice A0_0 l0_0.length c0_0, .slice A0_1 l0_1.length c0_1, .int .i64 a0_2] 24 (0, 0)) KK hb)
      have n3_ := Aside0.mk (blk_below (g := gb296) (o := .cells #[.int .i64 a1_0, .int .i64 a1_1, .bool a1_2, .string a1_3] 26 (0, 0)) KK hb)
      have n4_ := Aside0.mk (below_step KB hb)
      have n5_ := Aside0.mk (hbox)
      have n6_ := Aside0.mk ((KG hg : w.heap.size ≤ gb318))
      have n7_ := Aside0.mk ((KG hg : w.heap.size ≤ gb318))
      have n8_ := Aside0.mk ((by rw [hg]; exact Nat.ne_of_lt (blk_lt (g := gb295) (o := .cells #[.slice A0_0 l0_0.length c0_0, .slice A0_1 l0_1.length c0_1, .int .i64 a0_2] 24 (0, 0)) KK) : gb295 ≠ gb318))
      have n9_ := Aside0.mk ((by rw [hg]; exact Nat.ne_of_gt (blk_lt (g := gb295) (o := .cells #[.slice A0_0 l0_0.length c0_0, .slice A0_1 l0_1.length c0_1, .int .i64 a0_2] 24 (0, 0)) KK) : gb318 ≠ gb295))
      have n10_ := Aside0.mk ((by rw [hg]; exact Nat.ne_of_lt (blk_lt (g := gb296) (o := .cells #[.int .i64 a1_0, .int .i64 a1_1, .bool a1_2, .string a1_3] 26 (0, 0)) KK) : gb296 ≠ gb318))
      have n11_ := Aside0.mk ((by rw [hg]; exact Nat.ne_of_gt (blk_lt (g := gb296) (o := .cells #[.int .i64 a1_0, .int .i64 a1_1, .bool a1_2, .string a1_3] 26 (0, 0)) KK) : gb318 ≠ gb296))
      clear HO301
      clear HO304
      clear BK295
      clear BK296
      clear HB
      have HO301 := n0_
      have HO304 := n1_
      have BK295 := n2_
      have BK296 := n3_
      have HB := n4_
      have BK318 := n5_
      have GW318 := n6_
      have GE318 := n7_
      have NB295_318 := n8_
      have NB318_295 := n9_
      have NB296_318 := n10_
      have NB318_296 := n11_
      clear n0_ n1_ n2_ n3_ n4_ n5_ n6_ n7_ n8_ n9_ n10_ n11_
      clear hb hbox hg
      refine hK.out _ _ ⟨(blk_cell BK295.out 0).trans rfl, (blk_cell BK295.out 1).trans rfl, (blk_cell BK295.out 2).trans rfl, (blk_cell BK296.out 0).trans rfl, (blk_cell BK296.out 1).trans rfl, (blk_cell BK296.out 2).trans rfl, (blk_cell BK296.out 3).trans rfl⟩ (fun hHeld => ?_)
      clear hK K
      refine norm_ (a' := ?_) ?_ ?_
      rotate_left
      ·show Act.put _ (some 6) _ = _
       simp only [Act.put, List.setIfInBounds_toArray, List.set_cons_zero, List.set_cons_succ, i64_w, i32_w]
       rfl
      refine one_ (i := 3) (N := some 30) #[true, true, true, true, false, false, false, false, true, false, false] rfl rfl (one_of HT_.out (by kernel_rfl)) (by decide) (fun K hK => ?_)
      refine goes_ Try.func13 (by kernel_rfl) rfl #[.agg #[.int .i64 a1_0, .int .i64 a1_1, .bool a1_2, .string a1_3]] (by rfl) rfl rfl KL ?_
      with_reducible refine (laws_toEntry.calls a1_0 a1_1 a1_2 a1_3 t306 t307 t308 t309 _ A20.out).mono ?_
      rintro e w36 ⟨rfl, hb⟩
      refine ⟨_, rfl, ?_⟩
      have n0_ := Aside0.mk (Kd.R_below (KR HO301.out) hb)
      have n1_ := Aside0.mk (Kd.R_below (KR HO304.out) hb)
      have n2_ := Aside0.mk (blk_below (g := gb295) (o := .cells #[.slice A0_0 l0_0.length c0_0, .slice A0_1 l0_1.length c0_1, .int .i64 a0_2] 24 (0, 0)) KK hb)
      have n3_ := Aside0.mk (blk_below (g := gb296) (o := .cells #[.int .i64 a1_0, .int .i64 a1_1, .bool a1_2, .string a1_3] 26 (0, 0)) KK hb)
      have n4_ := Aside0.mk (blk_below (g := gb318) (o := .cells #[.slice none 0 0, .slice none 0 0, .int .i64 0] 31 (0, 0)) KK hb)
      have n5_ := Aside0.mk (below_step KB hb)
      clear HO301
      clear HO304
      clear BK295
      clear BK296
      clear BK318
      clear HB
      have HO301 := n0_
      have HO304 := n1_
      have BK295 := n2_
      have BK296 := n3_
      have BK318 := n4_
      have HB := n5_
      clear n0_ n1_ n2_ n3_ n4_ n5_
      (try clear hb)
      (try clear hb2)
      (try clear hk)
      (try clear hi)
      obtain ⟨Ao37, co37, eo37⟩ := Kd.R_slice HO301.out
      (first | subst eo37 | (injection eo37 with f1_ f2_ f3_; have f4_ := f1_.symm; have f5_ := f3_.symm; clear f1_ f2_ f3_; subst f4_; subst f5_))
      obtain ⟨Ao38, co38, eo38⟩ := Kd.R_slice HO304.out
      (first | subst eo38 | (injection eo38 with f1_ f2_ f3_; have f4_ := f1_.symm; have f5_ := f3_.symm; clear f1_ f2_ f3_; subst f4_; subst f5_))
      refine hK.out _ _ ⟨(blk_cell BK295.out 0).trans rfl, (blk_cell BK295.out 1).trans rfl, (blk_cell BK295.out 2).trans rfl, (blk_cell BK296.out 0).trans rfl, (blk_cell BK296.out 1).trans rfl, (blk_cell BK296.out 2).trans rfl, (blk_cell BK296.out 3).trans rfl⟩ (fun hHeld => ?_)
      clear hK K
      refine norm_ (a' := ?_) ?_ ?_
      rotate_left
      ·show Act.put _ (some 30) _ = _
       simp only [Act.put, List.setIfInBounds_toArray, List.set_cons_zero, List.set_cons_succ, i64_w, i32_w]
       rfl
      refine one_ (i := 4) (N := some 31) #[true, true, true, true, true, false, false, false, true, false, false] rfl rfl (one_of HT_.out (by kernel_rfl)) (by decide) (fun K hK => ?_)
      refine goes_ Try.func11 (by kernel_rfl) rfl #[.agg #[.slice Ao37 t299.length co37, .slice Ao38 t302.length co38, .int .i64 t305], .agg #[.int .i64 t306, .int .i64 t307, .bool t308, .string t309]] (by rfl) rfl rfl KL ?_
      with_reducible refine (spec_StorePut.calls k _ _ t299 _ _ t302 t305 t306 t307 t308 t309 t310 t313 t316 t317 _ ?side1 ?side2 ?side3 ?side4 A21.out).mono ?_
      (case side1 => repeat (first | exact (Kd.R_reads' HO301.out).2.2 | (with_reducible refine Kd.C_alloc ?_ _) | (with_reducible refine Kd.C_drewN ?_ _) | (with_reducible refine Kd.C_drew ?_)))
      (case side2 => exact (Kd.R_reads' HO301.out).2.1)
      (case side3 => repeat (first | exact (Kd.R_reads' HO304.out).2.2 | (with_reducible refine Kd.C_alloc ?_ _) | (with_reducible refine Kd.C_drewN ?_ _) | (with_reducible refine Kd.C_drew ?_)))
      (case side4 => exact (Kd.R_reads' HO304.out).2.1)
      rintro e w39 ⟨v311, v314, rfl, ho0, ho1, hb⟩
      refine ⟨_, rfl, ?_⟩
      have n0_ := Aside0.mk (Kd.R_mono (Kd.R_told (Kd.R_told (Kd.R_old (KR HO301.out) hb) (Kd.R_base ho0)) (Kd.R_base ho1)) (fun _ h_ => h_.1))
      have n1_ := Aside0.mk (Kd.R_mono (Kd.R_told (Kd.R_told (Kd.R_old (KR HO304.out) hb) (Kd.R_base ho0)) (Kd.R_base ho1)) (fun _ h_ => h_.1))
      have n2_ := Aside0.mk (Kd.R_lower (Kd.R_new' (Kd.R_new' ho0 (Kd.R_lt (KR HO301.out))) (Kd.R_lt (KR HO304.out))) (below_size KB))
      have n3_ := Aside0.mk (Kd.R_lower (Kd.R_new' (Kd.R_new' ho1 (Kd.R_lt (KR HO301.out))) (Kd.R_lt (KR HO304.out))) (below_size KB))
      have n4_ := Aside0.mk (blk_below (g := gb295) (o := .cells #[.slice A0_0 l0_0.length c0_0, .slice A0_1 l0_1.length c0_1, .int .i64 a0_2] 24 (0, 0)) KK hb)
      have n5_ := Aside0.mk (blk_below (g := gb296) (o := .cells #[.int .i64 a1_0, .int .i64 a1_1, .bool a1_2, .string a1_3] 26 (0, 0)) KK hb)
      have n6_ := Aside0.mk (blk_below (g := gb318) (o := .cells #[.slice none 0 0, .slice none 0 0, .int .i64 0] 31 (0, 0)) KK hb)
      have n7_ := Aside0.mk (below_step KB hb)
      clear HO301
      clear HO304
      clear BK295
      clear BK296
      clear BK318
      clear HB
      have HO301 := n0_
      have HO304 := n1_
      have HO312 := n2_
      have HO315 := n3_
      have BK295 := n4_
      have BK296 := n5_
      have BK318 := n6_
      have HB := n7_
      clear n0_ n1_ n2_ n3_ n4_ n5_ n6_ n7_
      (try clear hb)
      (try clear hb2)
      (try clear hk)
      (try clear hi)
      (try clear ho0)
      (try clear ho1)
      refine hK.out _ _ ⟨(blk_cell BK295.out 0).trans rfl, (blk_cell BK295.out 1).trans rfl, (blk_cell BK295.out 2).trans rfl, (blk_cell BK296.out 0).trans rfl, (blk_cell BK296.out 1).trans rfl, (blk_cell BK296.out 2).trans rfl, (blk_cell BK296.out 3).trans rfl⟩ (fun hHeld => ?_)
      clear hK K
      refine norm_ (a' := ?_) ?_ ?_
      rotate_left
      ·show Act.put _ (some 31) _ = _
       simp only [Act.put, List.setIfInBounds_toArray, List.set_cons_zero, List.set_cons_succ, i64_w, i32_w]
       rfl
      refine pure_ (i := 5) (N := some 26) (v := ?_) (a' := ?_) #[true, true, true, true, true, true, false, false, true, false, false] rfl rfl (any_of HT_.out (by kernel_rfl)) (fun _ _ _ h => h) (Or.inl ⟨by rfl, ?_⟩) ?_ ?_
      rotate_left
      ·intro w'
       go_simp
       with_reducible rfl
      rotate_left
      ·simp only [Act.put, List.setIfInBounds_toArray, List.set_cons_zero, List.set_cons_succ, i64_w, i32_w]
       rfl
      refine pure_ (i := 6) (N := some 32) (v := ?_) (a' := ?_) #[true, true, true, true, true, true, true, false, true, false, false] rfl rfl (any_of HT_.out (by kernel_rfl)) (fun _ _ _ h => h) (Or.inl ⟨by rfl, ?_⟩) ?_ ?_
      rotate_left
      ·intro w'
       go_simp
       with_reducible rfl
      rotate_left
      ·simp only [Act.put, List.setIfInBounds_toArray, List.set_cons_zero, List.set_cons_succ, i64_w, i32_w]
       rfl
      refine pure_ (i := 7) (N := some 33) (v := ?_) (a' := ?_) #[true, true, true, true, true, true, true, true, true, false, false] rfl rfl (any_of HT_.out (by kernel_rfl)) (fun _ _ _ h => h) (Or.inl ⟨by rfl, ?_⟩) ?_ ?_
      rotate_left
      ·intro w'
       go_simp
       with_reducible rfl
      rotate_left
      ·simp only [Act.put, List.setIfInBounds_toArray, List.set_cons_zero, List.set_cons_succ, i64_w, i32_w]
       rfl
      exact norm_ (by simp only [putAll, Act.put, List.setIfInBounds_toArray, List.set_cons_zero, List.set_cons_succ]) (hCont (.slice Ao37 t299.length co37, .slice Ao38 t302.length co38, v311, v314, gb318) _ ⟨hHeld, (by (with_reducible repeat (first | apply Kd.R_alloc | apply Kd.R_drewN | apply Kd.R_drew)); exact Kd.R_mono HO301.out (fun _ hk => ⟨hk.1.1, ⟨hk.1.2, hk.2⟩⟩)), (by (with_reducible repeat (first | apply Kd.R_alloc | apply Kd.R_drewN | apply Kd.R_drew)); exact Kd.R_mono HO304.out (fun _ hk => ⟨hk.1.1, ⟨hk.1.2, hk.2⟩⟩)), (by (with_reducible repeat (first | apply Kd.R_alloc | apply Kd.R_drewN | apply Kd.R_drew)); exact Kd.R_mono HO312.out (fun _ hk => ⟨hk.1.2, ⟨hk.2, hk.1.1⟩⟩)), (by (with_reducible repeat (first | apply Kd.R_alloc | apply Kd.R_drewN | apply Kd.R_drew)); exact Kd.R_mono HO315.out (fun _ hk => ⟨hk.1.2, ⟨hk.2, hk.1.1⟩⟩)), KK, KK, KK, GW318.out, GE318.out, NB295_318.out, NB318_295.out, NB296_318.out, NB318_296.out, KB⟩)
    ·skip
     refine box_step ?hg (N := 6) ?hd (cs := #[.slice none 0 0, .slice none 0 0, .int .i64 0]) (t := 31) ?hr ?_; (case hd => rfl); (case hg => rfl); (case hr => first | (go_simp; done) | (go_simp; rfl))
     intro gb318 hg w34 hbox hb
     have n0_ := Aside0.mk (blk_below (g := gb295) (o := .cells #[.slice A0_0 l0_0.length c0_0, .slice A0_1 l0_1.length c0_1, .int .i64 a0_2] 24 (0, 0)) KK hb)
     have n1_ := Aside0.mk (blk_below (g := gb296) (o := .cells #[.int .i64 a1_0, .int .i64 a1_1, .bool a1_2, .string a1_3] 26 (0, 0)) KK hb)
     have n2_ := Aside0.mk (below_step KB hb)
     have n3_ := Aside0.mk (hbox)
     have n4_ := Aside0.mk ((KG hg : w.heap.size ≤ gb318))
     have n5_ := Aside0.mk ((KG hg : w.heap.size ≤ gb318))
     have n6_ := Aside0.mk ((by rw [hg]; exact Nat.ne_of_lt (blk_lt (g := gb295) (o := .cells #[.slice A0_0 l0_0.length c0_0, .slice A0_1 l0_1.length c0_1, .int .i64 a0_2] 24 (0, 0)) KK) : gb295 ≠ gb318))
     have n7_ := Aside0.mk ((by rw [hg]; exact Nat.ne_of_gt (blk_lt (g := gb295) (o := .cells #[.slice A0_0 l0_0.length c0_0, .slice A0_1 l0_1.length c0_1, .int .i64 a0_2] 24 (0, 0)) KK) : gb318 ≠ gb295))
     have n8_ := Aside0.mk ((by rw [hg]; exact Nat.ne_of_lt (blk_lt (g := gb296) (o := .cells #[.int .i64 a1_0, .int .i64 a1_1, .bool a1_2, .string a1_3] 26 (0, 0)) KK) : gb296 ≠ gb318))
     have n9_ := Aside0.mk ((by rw [hg]; exact Nat.ne_of_gt (blk_lt (g := gb296) (o := .cells #[.int .i64 a1_0, .int .i64 a1_1, .bool a1_2, .string a1_3] 26 (0, 0)) KK) : gb318 ≠ gb296))
     clear BK295
     clear BK296
     clear HB
     have BK295 := n0_
     have BK296 := n1_
     have HB := n2_
     have BK318 := n3_
     have GW318 := n4_
     have GE318 := n5_
     have NB295_318 := n6_
     have NB318_295 := n7_
     have NB296_318 := n8_
     have NB318_296 := n9_
     clear n0_ n1_ n2_ n3_ n4_ n5_ n6_ n7_ n8_ n9_
     clear hb hbox hg
     refine hK.out _ _ ⟨(blk_cell BK295.out 0).trans rfl, (blk_cell BK295.out 1).trans rfl, (blk_cell BK295.out 2).trans rfl, (blk_cell BK296.out 0).trans rfl, (blk_cell BK296.out 1).trans rfl, (blk_cell BK296.out 2).trans rfl, (blk_cell BK296.out 3).trans rfl⟩ (fun hHeld => ?_)
     clear hK K
     refine norm_ (a' := ?_) ?_ ?_
     rotate_left
     ·show Act.put _ (some 6) _ = _
      simp only [Act.put, List.setIfInBounds_toArray, List.set_cons_zero, List.set_cons_succ, i64_w, i32_w]
      rfl
     refine one_ (i := 1) (N := some 28) #[true, true, true, false, false, false, false, false, true, false, false] rfl rfl (one_of HT_.out (by kernel_rfl)) (by decide) (fun K hK => ?_)
     refine goes_ Try.func12 (by kernel_rfl) rfl #[.agg #[.slice A0_0 l0_0.length c0_0, .slice A0_1 l0_1.length c0_1, .int .i64 a0_2]] (by rfl) rfl rfl KL ?_
     with_reducible refine (laws_toStore.calls k _ _ l0_0 _ _ l0_1 a0_2 t299 t302 t305 _ ?side1 ?side2 ?side3 ?side4 A19.out).mono ?_
     (case side1 => exact KD (Kd.C_below HR0_0.out HB.out))
     (case side2 => exact HC0_0.out)
     (case side3 => exact KD (Kd.C_below HR0_1.out HB.out))
     (case side4 => exact HC0_1.out)
     rintro e w35 ⟨v300, v303, rfl, ho0, ho1, hb⟩
     refine ⟨_, rfl, ?_⟩
     have n0_ := Aside0.mk (Kd.R_lower ho0 (below_size KB))
     have n1_ := Aside0.mk (Kd.R_lower ho1 (below_size KB))
     have n2_ := Aside0.mk (blk_below (g := gb295) (o := .cells #[.slice A0_0 l0_0.length c0_0, .slice A0_1 l0_1.length c0_1, .int .i64 a0_2] 24 (0, 0)) KK hb)
     have n3_ := Aside0.mk (blk_below (g := gb296) (o := .cells #[.int .i64 a1_0, .int .i64 a1_1, .bool a1_2, .string a1_3] 26 (0, 0)) KK hb)
     have n4_ := Aside0.mk (blk_below (g := gb318) (o := .cells #[.slice none 0 0, .slice none 0 0, .int .i64 0] 31 (0, 0)) KK hb)
     have n5_ := Aside0.mk (below_step KB hb)
     clear BK295
     clear BK296
     clear BK318
     clear HB
     have HO301 := n0_
     have HO304 := n1_
     have BK295 := n2_
     have BK296 := n3_
     have BK318 := n4_
     have HB := n5_
     clear n0_ n1_ n2_ n3_ n4_ n5_
     (try clear hb)
     (try clear hb2)
     (try clear hk)
     (try clear hi)
     (try clear ho0)
     (try clear ho1)
     refine hK.out _ _ ⟨(blk_cell BK295.out 0).trans rfl, (blk_cell BK295.out 1).trans rfl, (blk_cell BK295.out 2).trans rfl, (blk_cell BK296.out 0).trans rfl, (blk_cell BK296.out 1).trans rfl, (blk_cell BK296.out 2).trans rfl, (blk_cell BK296.out 3).trans rfl⟩ (fun hHeld => ?_)
     clear hK K
     refine norm_ (a' := ?_) ?_ ?_
     rotate_left
     ·show Act.put _ (some 28) _ = _
      simp only [Act.put, List.setIfInBounds_toArray, List.set_cons_zero, List.set_cons_succ, i64_w, i32_w]
      rfl
     refine one_ (i := 3) (N := some 30) #[true, true, true, true, false, false, false, false, true, false, false] rfl rfl (one_of HT_.out (by kernel_rfl)) (by decide) (fun K hK => ?_)
     refine goes_ Try.func13 (by kernel_rfl) rfl #[.agg #[.int .i64 a1_0, .int .i64 a1_1, .bool a1_2, .string a1_3]] (by rfl) rfl rfl KL ?_
     with_reducible refine (laws_toEntry.calls a1_0 a1_1 a1_2 a1_3 t306 t307 t308 t309 _ A20.out).mono ?_
     rintro e w36 ⟨rfl, hb⟩
     refine ⟨_, rfl, ?_⟩
     have n0_ := Aside0.mk (Kd.R_below (KR HO301.out) hb)
     have n1_ := Aside0.mk (Kd.R_below (KR HO304.out) hb)
     have n2_ := Aside0.mk (blk_below (g := gb295) (o := .cells #[.slice A0_0 l0_0.length c0_0, .slice A0_1 l0_1.length c0_1, .int .i64 a0_2] 24 (0, 0)) KK hb)
     have n3_ := Aside0.mk (blk_below (g := gb296) (o := .cells #[.int .i64 a1_0, .int .i64 a1_1, .bool a1_2, .string a1_3] 26 (0, 0)) KK hb)
     have n4_ := Aside0.mk (blk_below (g := gb318) (o := .cells #[.slice none 0 0, .slice none 0 0, .int .i64 0] 31 (0, 0)) KK hb)
     have n5_ := Aside0.mk (below_step KB hb)
     clear HO301
     clear HO304
     clear BK295
     clear BK296
     clear BK318
     clear HB
     have HO301 := n0_
     have HO304 := n1_
     have BK295 := n2_
     have BK296 := n3_
     have BK318 := n4_
     have HB := n5_
     clear n0_ n1_ n2_ n3_ n4_ n5_
     (try clear hb)
     (try clear hb2)
     (try clear hk)
     (try clear hi)
     obtain ⟨Ao37, co37, eo37⟩ := Kd.R_slice HO301.out
     (first | subst eo37 | (injection eo37 with f1_ f2_ f3_; have f4_ := f1_.symm; have f5_ := f3_.symm; clear f1_ f2_ f3_; subst f4_; subst f5_))
     obtain ⟨Ao38, co38, eo38⟩ := Kd.R_slice HO304.out
     (first | subst eo38 | (injection eo38 with f1_ f2_ f3_; have f4_ := f1_.symm; have f5_ := f3_.symm; clear f1_ f2_ f3_; subst f4_; subst f5_))
     refine hK.out _ _ ⟨(blk_cell BK295.out 0).trans rfl, (blk_cell BK295.out 1).trans rfl, (blk_cell BK295.out 2).trans rfl, (blk_cell BK296.out 0).trans rfl, (blk_cell BK296.out 1).trans rfl, (blk_cell BK296.out 2).trans rfl, (blk_cell BK296.out 3).trans rfl⟩ (fun hHeld => ?_)
     clear hK K
     refine norm_ (a' := ?_) ?_ ?_
     rotate_left
     ·show Act.put _ (some 30) _ = _
      simp only [Act.put, List.setIfInBounds_toArray, List.set_cons_zero, List.set_cons_succ, i64_w, i32_w]
      rfl
     refine one_ (i := 4) (N := some 31) #[true, true, true, true, true, false, false, false, true, false, false] rfl rfl (one_of HT_.out (by kernel_rfl)) (by decide) (fun K hK => ?_)
     refine goes_ Try.func11 (by kernel_rfl) rfl #[.agg #[.slice Ao37 t299.length co37, .slice Ao38 t302.length co38, .int .i64 t305], .agg #[.int .i64 t306, .int .i64 t307, .bool t308, .string t309]] (by rfl) rfl rfl KL ?_
     with_reducible refine (spec_StorePut.calls k _ _ t299 _ _ t302 t305 t306 t307 t308 t309 t310 t313 t316 t317 _ ?side1 ?side2 ?side3 ?side4 A21.out).mono ?_
     (case side1 => repeat (first | exact (Kd.R_reads' HO301.out).2.2 | (with_reducible refine Kd.C_alloc ?_ _) | (with_reducible refine Kd.C_drewN ?_ _) | (with_reducible refine Kd.C_drew ?_)))
     (case side2 => exact (Kd.R_reads' HO301.out).2.1)
     (case side3 => repeat (first | exact (Kd.R_reads' HO304.out).2.2 | (with_reducible refine Kd.C_alloc ?_ _) | (with_reducible refine Kd.C_drewN ?_ _) | (with_reducible refine Kd.C_drew ?_)))
     (case side4 => exact (Kd.R_reads' HO304.out).2.1)
     rintro e w39 ⟨v311, v314, rfl, ho0, ho1, hb⟩
     refine ⟨_, rfl, ?_⟩
     have n0_ := Aside0.mk (Kd.R_mono (Kd.R_told (Kd.R_told (Kd.R_old (KR HO301.out) hb) (Kd.R_base ho0)) (Kd.R_base ho1)) (fun _ h_ => h_.1))
     have n1_ := Aside0.mk (Kd.R_mono (Kd.R_told (Kd.R_told (Kd.R_old (KR HO304.out) hb) (Kd.R_base ho0)) (Kd.R_base ho1)) (fun _ h_ => h_.1))
     have n2_ := Aside0.mk (Kd.R_lower (Kd.R_new' (Kd.R_new' ho0 (Kd.R_lt (KR HO301.out))) (Kd.R_lt (KR HO304.out))) (below_size KB))
     have n3_ := Aside0.mk (Kd.R_lower (Kd.R_new' (Kd.R_new' ho1 (Kd.R_lt (KR HO301.out))) (Kd.R_lt (KR HO304.out))) (below_size KB))
     have n4_ := Aside0.mk (blk_below (g := gb295) (o := .cells #[.slice A0_0 l0_0.length c0_0, .slice A0_1 l0_1.length c0_1, .int .i64 a0_2] 24 (0, 0)) KK hb)
     have n5_ := Aside0.mk (blk_below (g := gb296) (o := .cells #[.int .i64 a1_0, .int .i64 a1_1, .bool a1_2, .string a1_3] 26 (0, 0)) KK hb)
     have n6_ := Aside0.mk (blk_below (g := gb318) (o := .cells #[.slice none 0 0, .slice none 0 0, .int .i64 0] 31 (0, 0)) KK hb)
     have n7_ := Aside0.mk (below_step KB hb)
     clear HO301
     clear HO304
     clear BK295
     clear BK296
     clear BK318
     clear HB
     have HO301 := n0_
     have HO304 := n1_
     have HO312 := n2_
     have HO315 := n3_
     have BK295 := n4_
     have BK296 := n5_
     have BK318 := n6_
     have HB := n7_
     clear n0_ n1_ n2_ n3_ n4_ n5_ n6_ n7_
     (try clear hb)
     (try clear hb2)
     (try clear hk)
     (try clear hi)
     (try clear ho0)
     (try clear ho1)
     refine hK.out _ _ ⟨(blk_cell BK295.out 0).trans rfl, (blk_cell BK295.out 1).trans rfl, (blk_cell BK295.out 2).trans rfl, (blk_cell BK296.out 0).trans rfl, (blk_cell BK296.out 1).trans rfl, (blk_cell BK296.out 2).trans rfl, (blk_cell BK296.out 3).trans rfl⟩ (fun hHeld => ?_)
     clear hK K
     refine norm_ (a' := ?_) ?_ ?_
     rotate_left
     ·show Act.put _ (some 31) _ = _
      simp only [Act.put, List.setIfInBounds_toArray, List.set_cons_zero, List.set_cons_succ, i64_w, i32_w]
      rfl
     refine pure_ (i := 5) (N := some 26) (v := ?_) (a' := ?_) #[true, true, true, true, true, true, false, false, true, false, false] rfl rfl (any_of HT_.out (by kernel_rfl)) (fun _ _ _ h => h) (Or.inl ⟨by rfl, ?_⟩) ?_ ?_
     rotate_left
     ·intro w'
      go_simp
      with_reducible rfl
     rotate_left
     ·simp only [Act.put, List.setIfInBounds_toArray, List.set_cons_zero, List.set_cons_succ, i64_w, i32_w]
      rfl
     refine pure_ (i := 6) (N := some 32) (v := ?_) (a' := ?_) #[true, true, true, true, true, true, true, false, true, false, false] rfl rfl (any_of HT_.out (by kernel_rfl)) (fun _ _ _ h => h) (Or.inl ⟨by rfl, ?_⟩) ?_ ?_
     rotate_left
     ·intro w'
      go_simp
      with_reducible rfl
     rotate_left
     ·simp only [Act.put, List.setIfInBounds_toArray, List.set_cons_zero, List.set_cons_succ, i64_w, i32_w]
      rfl
     refine pure_ (i := 7) (N := some 33) (v := ?_) (a' := ?_) #[true, true, true, true, true, true, true, true, true, false, false] rfl rfl (any_of HT_.out (by kernel_rfl)) (fun _ _ _ h => h) (Or.inl ⟨by rfl, ?_⟩) ?_ ?_
     rotate_left
     ·intro w'
      go_simp
      with_reducible rfl
     rotate_left
     ·simp only [Act.put, List.setIfInBounds_toArray, List.set_cons_zero, List.set_cons_succ, i64_w, i32_w]
      rfl
     exact norm_ (by simp only [putAll, Act.put, List.setIfInBounds_toArray, List.set_cons_zero, List.set_cons_succ]) (hCont (.slice Ao37 t299.length co37, .slice Ao38 t302.length co38, v311, v314, gb318) _ ⟨hHeld, (by (with_reducible repeat (first | apply Kd.R_alloc | apply Kd.R_drewN | apply Kd.R_drew)); exact Kd.R_mono HO301.out (fun _ hk => ⟨hk.1.1, ⟨hk.1.2, hk.2⟩⟩)), (by (with_reducible repeat (first | apply Kd.R_alloc | apply Kd.R_drewN | apply Kd.R_drew)); exact Kd.R_mono HO304.out (fun _ hk => ⟨hk.1.1, ⟨hk.1.2, hk.2⟩⟩)), (by (with_reducible repeat (first | apply Kd.R_alloc | apply Kd.R_drewN | apply Kd.R_drew)); exact Kd.R_mono HO312.out (fun _ hk => ⟨hk.1.2, ⟨hk.2, hk.1.1⟩⟩)), (by (with_reducible repeat (first | apply Kd.R_alloc | apply Kd.R_drewN | apply Kd.R_drew)); exact Kd.R_mono HO315.out (fun _ hk => ⟨hk.1.2, ⟨hk.2, hk.1.1⟩⟩)), KK, KK, KK, GW318.out, GE318.out, NB295_318.out, NB318_295.out, NB296_318.out, NB318_296.out, KB⟩)
   rintro ⟨v300, v303, v311, v314, gb318⟩ w40 ⟨hS_, h0_, h1_, h2_, h3_, h4_, h5_, h6_, h7_, h8_, h9_, h10_, h11_, h12_, h13_⟩
   have n0_ : Aside0 (Kd.R k35 35 w40 w.heap.size (fun k_ => some k_ ≠ (v303 : Value).ownBlock ∧ some k_ ≠ (v311 : Value).ownBlock ∧ some k_ ≠ (v314 : Value).ownBlock) v300 t299) := ⟨h0_⟩
   have n1_ : Aside0 (Kd.R k35 35 w40 w.heap.size (fun k_ => some k_ ≠ (v300 : Value).ownBlock ∧ some k_ ≠ (v311 : Value).ownBlock ∧ some k_ ≠ (v314 : Value).ownBlock) v303 t302) := ⟨h1_⟩
   have n2_ : Aside0 (Kd.R k35 35 w40 w.heap.size (fun k_ => some k_ ≠ (v300 : Value).ownBlock ∧ some k_ ≠ (v303 : Value).ownBlock ∧ some k_ ≠ (v314 : Value).ownBlock) v311 t310) := ⟨h2_⟩
   have n3_ : Aside0 (Kd.R k35 35 w40 w.heap.size (fun k_ => some k_ ≠ (v300 : Value).ownBlock ∧ some k_ ≠ (v303 : Value).ownBlock ∧ some k_ ≠ (v311 : Value).ownBlock) v314 t313) := ⟨h3_⟩
   have n4_ : Aside0 (w40.heap[gb295]? = some (.cells #[.slice A0_0 l0_0.length c0_0, .slice A0_1 l0_1.length c0_1, .int .i64 a0_2] 24 (0, 0))) := ⟨h4_⟩
   have n5_ : Aside0 (w40.heap[gb296]? = some (.cells #[.int .i64 a1_0, .int .i64 a1_1, .bool a1_2, .string a1_3] 26 (0, 0))) := ⟨h5_⟩
   have n6_ : Aside0 (w40.heap[gb318]? = some (.cells #[.slice none 0 0, .slice none 0 0, .int .i64 0] 31 (0, 0))) := ⟨h6_⟩
   have n7_ : Aside0 (w.heap.size ≤ gb318) := ⟨h7_⟩
   have n8_ : Aside0 (w.heap.size ≤ gb318) := ⟨h8_⟩
   have n9_ : Aside0 (gb295 ≠ gb318) := ⟨h9_⟩
   have n10_ : Aside0 (gb318 ≠ gb295) := ⟨h10_⟩
   have n11_ : Aside0 (gb296 ≠ gb318) := ⟨h11_⟩
   have n12_ : Aside0 (gb318 ≠ gb296) := ⟨h12_⟩
   have n13_ : Aside0 (Below w.heap.size w w40) := ⟨h13_⟩
   clear BK295
   clear BK296
   clear HB
   clear h0_ h1_ h2_ h3_ h4_ h5_ h6_ h7_ h8_ h9_ h10_ h11_ h12_ h13_
   have HO301 := n0_
   have HO304 := n1_
   have HO312 := n2_
   have HO315 := n3_
   have BK295 := n4_
   have BK296 := n5_
   have BK318 := n6_
   have GW318 := n7_
   have GE318 := n8_
   have NB295_318 := n9_
   have NB318_295 := n10_
   have NB296_318 := n11_
   have NB318_296 := n12_
   have HB := n13_
   clear n0_ n1_ n2_ n3_ n4_ n5_ n6_ n7_ n8_ n9_ n10_ n11_ n12_ n13_
   have hHeld : w40.cell? ⟨gb295, 0, none⟩ = some (.slice A0_0 l0_0.length c0_0) ∧ w40.cell? ⟨gb295, 1, none⟩ = some (.slice A0_1 l0_1.length c0_1) ∧ w40.cell? ⟨gb295, 2, none⟩ = some (.int .i64 a0_2) ∧ w40.cell? ⟨gb296, 0, none⟩ = some (.int .i64 a1_0) ∧ w40.cell? ⟨gb296, 1, none⟩ = some (.int .i64 a1_1) ∧ w40.cell? ⟨gb296, 2, none⟩ = some (.bool a1_2) ∧ w40.cell? ⟨gb296, 3, none⟩ = some (.string a1_3) := hS_
   obtain ⟨Ao41, co41, eo41⟩ := Kd.R_slice HO312.out
   (first | subst eo41 | (injection eo41 with f1_ f2_ f3_; have f4_ := f1_.symm; have f5_ := f3_.symm; clear f1_ f2_ f3_; subst f4_; subst f5_))
   obtain ⟨Ao43, co43, eo43⟩ := Kd.R_slice HO315.out
   (first | subst eo43 | (injection eo43 with f1_ f2_ f3_; have f4_ := f1_.symm; have f5_ := f3_.symm; clear f1_ f2_ f3_; subst f4_; subst f5_))
   refine norm_ (a' := ?_) ?_ ?_
   rotate_left
   ·simp only [putAll, Act.put, List.setIfInBounds_toArray, List.set_cons_zero, List.set_cons_succ]
    rfl
   refine one_ (i := 9) (N := none) #[true, true, true, true, true, true, true, true, true, true, false] rfl rfl (one_of HT_.out (by kernel_rfl)) (by decide) (fun K hK => ?_)
   have hs42 : w40.cell? ⟨gb318, 0, none⟩ = some (.slice none 0 0) := (blk_cell BK318.out 0).trans rfl
   have hfs42 := blk_frozen BK318.out 0
   have hns42_0 := NB295_318.out
   have hns42_1 := NB296_318.out
   have hms42_0 := NB318_295.out
   have hms42_1 := NB318_296.out
   have hs44 : w40.cell? ⟨gb318, 1, none⟩ = some (.slice none 0 0) := (blk_cell BK318.out 1).trans rfl
   have hfs44 := blk_frozen BK318.out 1
   have hns44_0 := NB295_318.out
   have hns44_1 := NB296_318.out
   have hms44_0 := NB318_295.out
   have hms44_1 := NB318_296.out
   have hs45 : w40.cell? ⟨gb318, 2, none⟩ = some (.int .i64 0) := (blk_cell BK318.out 2).trans rfl
   have hfs45 := blk_frozen BK318.out 2
   have hns45_0 := NB295_318.out
   have hns45_1 := NB296_318.out
   have hms45_0 := NB318_295.out
   have hms45_1 := NB318_296.out
   refine skip_ (w1 := ?_) (by rfl) rfl ?_ ?_
   rotate_left
   ·go_simp
    rfl
   refine hK.out _ _ ⟨((cell_far (p := ⟨gb318, _, none⟩) NB295_318.out _).trans (((cell_far (p := ⟨gb318, _, none⟩) NB295_318.out _).trans (((cell_far (p := ⟨gb318, _, none⟩) NB295_318.out _).trans (hHeld.1)))))), ((cell_far (p := ⟨gb318, _, none⟩) NB295_318.out _).trans (((cell_far (p := ⟨gb318, _, none⟩) NB295_318.out _).trans (((cell_far (p := ⟨gb318, _, none⟩) NB295_318.out _).trans (hHeld.2.1)))))), ((cell_far (p := ⟨gb318, _, none⟩) NB295_318.out _).trans (((cell_far (p := ⟨gb318, _, none⟩) NB295_318.out _).trans (((cell_far (p := ⟨gb318, _, none⟩) NB295_318.out _).trans (hHeld.2.2.1)))))), ((cell_far (p := ⟨gb318, _, none⟩) NB296_318.out _).trans (((cell_far (p := ⟨gb318, _, none⟩) NB296_318.out _).trans (((cell_far (p := ⟨gb318, _, none⟩) NB296_318.out _).trans (hHeld.2.2.2.1)))))), ((cell_far (p := ⟨gb318, _, none⟩) NB296_318.out _).trans (((cell_far (p := ⟨gb318, _, none⟩) NB296_318.out _).trans (((cell_far (p := ⟨gb318, _, none⟩) NB296_318.out _).trans (hHeld.2.2.2.2.1)))))), ((cell_far (p := ⟨gb318, _, none⟩) NB296_318.out _).trans (((cell_far (p := ⟨gb318, _, none⟩) NB296_318.out _).trans (((cell_far (p := ⟨gb318, _, none⟩) NB296_318.out _).trans (hHeld.2.2.2.2.2.1)))))), ((cell_far (p := ⟨gb318, _, none⟩) NB296_318.out _).trans (((cell_far (p := ⟨gb318, _, none⟩) NB296_318.out _).trans (((cell_far (p := ⟨gb318, _, none⟩) NB296_318.out _).trans (hHeld.2.2.2.2.2.2))))))⟩ (fun hHeld => ?_)
   clear hK K
   refine pure_ (i := 10) (N := some 7) (v := ?_) (a' := ?_) #[true, true, true, true, true, true, true, true, true, true, true] rfl rfl (any_of HT_.out (by kernel_rfl)) (fun _ _ _ h => h) (Or.inl ⟨by rfl, ?_⟩) ?_ ?_
   rotate_left
   ·intro w'
    go_simp
    with_reducible rfl
   rotate_left
   ·simp only [Act.put, List.setIfInBounds_toArray, List.set_cons_zero, List.set_cons_succ, i64_w, i32_w]
    rfl
   refine done_ (done_of HT_.out (by kernel_rfl)) ?_
   have hnb46 := NB295_318.out
   have hnc46 := NB318_295.out
   have hcz47_0 : w40.cell? ⟨gb295, 0, none⟩ = some (.slice A0_0 l0_0.length c0_0) := (blk_cell BK295.out 0).trans rfl
   have hcz47_1 : w40.cell? ⟨gb295, 1, none⟩ = some (.slice A0_1 l0_1.length c0_1) := (blk_cell BK295.out 1).trans rfl
   have hcz47_2 : w40.cell? ⟨gb295, 2, none⟩ = some (.int .i64 a0_2) := (blk_cell BK295.out 2).trans rfl
   have hfz47_0 := blk_frozen BK295.out 0
   have hfz47_1 := blk_frozen BK295.out 1
   have hfz47_2 := blk_frozen BK295.out 2
   try go_wp2_with (first | ((with_reducible refine gate_callee (f := 12) rfl ?_); refine goesL_ (some 35) rfl rfl Try.func12 (by kernel_rfl) rfl #[.agg #[.slice A0_0 l0_0.length c0_0, .slice A0_1 l0_1.length c0_1, .int .i64 a0_2]] rfl KL ?_; (with_reducible refine (laws_toStore.calls k _ _ l0_0 _ _ l0_1 a0_2 t319 t322 t325 _ ?side1 ?side2 ?side3 ?side4 A22.out).mono ?_); (case side1 => exact Kd.C_below HR0_0.out KB); (case side2 => exact HC0_0.out); (case side3 => exact Kd.C_below HR0_1.out KB); (case side4 => exact HC0_1.out); rintro e w48 ⟨v320, v323, rfl, ho0, ho1, hb⟩; refine ⟨_, rfl, ?_⟩; have n0_ := Aside0.mk (Kd.R_mono (Kd.R_told (Kd.R_told (Kd.R_old (by (with_reducible repeat (first | apply Kd.R_alloc | apply Kd.R_drewN | apply Kd.R_drew)); exact (Kd.R_mono (Kd.R_far (p := ⟨gb318, 2, none⟩) (Kd.R_far (p := ⟨gb318, 1, none⟩) (Kd.R_far (p := ⟨gb318, 0, none⟩) (Kd.R_types HO301.out BK318.out (by decide)) (fun _ hk => hk.2) (.slice Ao41 t310.length co41)) (fun _ hk => hk.2) (.slice Ao43 t313.length co43)) (fun _ hk => hk.2) (.int .i64 t316)) (fun _ h_ => h_.1))) hb) (Kd.R_base ho0)) (Kd.R_base ho1)) (fun _ h_ => h_.1)); have n1_ := Aside0.mk (Kd.R_mono (Kd.R_told (Kd.R_told (Kd.R_old (by (with_reducible repeat (first | apply Kd.R_alloc | apply Kd.R_drewN | apply Kd.R_drew)); exact (Kd.R_mono (Kd.R_far (p := ⟨gb318, 2, none⟩) (Kd.R_far (p := ⟨gb318, 1, none⟩) (Kd.R_far (p := ⟨gb318, 0, none⟩) (Kd.R_types HO304.out BK318.out (by decide)) (fun _ hk => hk.2) (.slice Ao41 t310.length co41)) (fun _ hk => hk.2) (.slice Ao43 t313.length co43)) (fun _ hk => hk.2) (.int .i64 t316)) (fun _ h_ => h_.1))) hb) (Kd.R_base ho0)) (Kd.R_base ho1)) (fun _ h_ => h_.1)); have n2_ := Aside0.mk (Kd.R_mono (Kd.R_told (Kd.R_told (Kd.R_old (by (with_reducible repeat (first | apply Kd.R_alloc | apply Kd.R_drewN | apply Kd.R_drew)); exact (Kd.R_mono (Kd.R_far (p := ⟨gb318, 2, none⟩) (Kd.R_far (p := ⟨gb318, 1, none⟩) (Kd.R_far (p := ⟨gb318, 0, none⟩) (Kd.R_types HO312.out BK318.out (by decide)) (fun _ hk => hk.2) (.slice Ao41 t310.length co41)) (fun _ hk => hk.2) (.slice Ao43 t313.length co43)) (fun _ hk => hk.2) (.int .i64 t316)) (fun _ h_ => h_.1))) hb) (Kd.R_base ho0)) (Kd.R_base ho1)) (fun _ h_ => h_.1)); have n3_ := Aside0.mk (Kd.R_mono (Kd.R_told (Kd.R_told (Kd.R_old (by (with_reducible repeat (first | apply Kd.R_alloc | apply Kd.R_drewN | apply Kd.R_drew)); exact (Kd.R_mono (Kd.R_far (p := ⟨gb318, 2, none⟩) (Kd.R_far (p := ⟨gb318, 1, none⟩) (Kd.R_far (p := ⟨gb318, 0, none⟩) (Kd.R_types HO315.out BK318.out (by decide)) (fun _ hk => hk.2) (.slice Ao41 t310.length co41)) (fun _ hk => hk.2) (.slice Ao43 t313.length co43)) (fun _ hk => hk.2) (.int .i64 t316)) (fun _ h_ => h_.1))) hb) (Kd.R_base ho0)) (Kd.R_base ho1)) (fun _ h_ => h_.1)); have n4_ := Aside0.mk (Kd.R_lower (Kd.R_new' (Kd.R_new' (Kd.R_new' (Kd.R_new' ho0 (Kd.R_lt (by (with_reducible repeat (first | apply Kd.R_alloc | apply Kd.R_drewN | apply Kd.R_drew)); exact (Kd.R_mono (Kd.R_far (p := ⟨gb318, 2, none⟩) (Kd.R_far (p := ⟨gb318, 1, none⟩) (Kd.R_far (p := ⟨gb318, 0, none⟩) (Kd.R_types HO301.out BK318.out (by decide)) (fun _ hk => hk.2) (.slice Ao41 t310.length co41)) (fun _ hk => hk.2) (.slice Ao43 t313.length co43)) (fun _ hk => hk.2) (.int .i64 t316)) (fun _ h_ => h_.1))))) (Kd.R_lt (by (with_reducible repeat (first | apply Kd.R_alloc | apply Kd.R_drewN | apply Kd.R_drew)); exact (Kd.R_mono (Kd.R_far (p := ⟨gb318, 2, none⟩) (Kd.R_far (p := ⟨gb318, 1, none⟩) (Kd.R_far (p := ⟨gb318, 0, none⟩) (Kd.R_types HO304.out BK318.out (by decide)) (fun _ hk => hk.2) (.slice Ao41 t310.length co41)) (fun _ hk => hk.2) (.slice Ao43 t313.length co43)) (fun _ hk => hk.2) (.int .i64 t316)) (fun _ h_ => h_.1))))) (Kd.R_lt (by (with_reducible repeat (first | apply Kd.R_alloc | apply Kd.R_drewN | apply Kd.R_drew)); exact (Kd.R_mono (Kd.R_far (p := ⟨gb318, 2, none⟩) (Kd.R_far (p := ⟨gb318, 1, none⟩) (Kd.R_far (p := ⟨gb318, 0, none⟩) (Kd.R_types HO312.out BK318.out (by decide)) (fun _ hk => hk.2) (.slice Ao41 t310.length co41)) (fun _ hk => hk.2) (.slice Ao43 t313.length co43)) (fun _ hk => hk.2) (.int .i64 t316)) (fun _ h_ => h_.1))))) (Kd.R_lt (by (with_reducible repeat (first | apply Kd.R_alloc | apply Kd.R_drewN | apply Kd.R_drew)); exact (Kd.R_mono (Kd.R_far (p := ⟨gb318, 2, none⟩) (Kd.R_far (p := ⟨gb318, 1, none⟩) (Kd.R_far (p := ⟨gb318, 0, none⟩) (Kd.R_types HO315.out BK318.out (by decide)) (fun _ hk => hk.2) (.slice Ao41 t310.length co41)) (fun _ hk => hk.2) (.slice Ao43 t313.length co43)) (fun _ hk => hk.2) (.int .i64 t316)) (fun _ h_ => h_.1))))) (below_size KB)); have n5_ := Aside0.mk (Kd.R_lower (Kd.R_new' (Kd.R_new' (Kd.R_new' (Kd.R_new' ho1 (Kd.R_lt (by (with_reducible repeat (first | apply Kd.R_alloc | apply Kd.R_drewN | apply Kd.R_drew)); exact (Kd.R_mono (Kd.R_far (p := ⟨gb318, 2, none⟩) (Kd.R_far (p := ⟨gb318, 1, none⟩) (Kd.R_far (p := ⟨gb318, 0, none⟩) (Kd.R_types HO301.out BK318.out (by decide)) (fun _ hk => hk.2) (.slice Ao41 t310.length co41)) (fun _ hk => hk.2) (.slice Ao43 t313.length co43)) (fun _ hk => hk.2) (.int .i64 t316)) (fun _ h_ => h_.1))))) (Kd.R_lt (by (with_reducible repeat (first | apply Kd.R_alloc | apply Kd.R_drewN | apply Kd.R_drew)); exact (Kd.R_mono (Kd.R_far (p := ⟨gb318, 2, none⟩) (Kd.R_far (p := ⟨gb318, 1, none⟩) (Kd.R_far (p := ⟨gb318, 0, none⟩) (Kd.R_types HO304.out BK318.out (by decide)) (fun _ hk => hk.2) (.slice Ao41 t310.length co41)) (fun _ hk => hk.2) (.slice Ao43 t313.length co43)) (fun _ hk => hk.2) (.int .i64 t316)) (fun _ h_ => h_.1))))) (Kd.R_lt (by (with_reducible repeat (first | apply Kd.R_alloc | apply Kd.R_drewN | apply Kd.R_drew)); exact (Kd.R_mono (Kd.R_far (p := ⟨gb318, 2, none⟩) (Kd.R_far (p := ⟨gb318, 1, none⟩) (Kd.R_far (p := ⟨gb318, 0, none⟩) (Kd.R_types HO312.out BK318.out (by decide)) (fun _ hk => hk.2) (.slice Ao41 t310.length co41)) (fun _ hk => hk.2) (.slice Ao43 t313.length co43)) (fun _ hk => hk.2) (.int .i64 t316)) (fun _ h_ => h_.1))))) (Kd.R_lt (by (with_reducible repeat (first | apply Kd.R_alloc | apply Kd.R_drewN | apply Kd.R_drew)); exact (Kd.R_mono (Kd.R_far (p := ⟨gb318, 2, none⟩) (Kd.R_far (p := ⟨gb318, 1, none⟩) (Kd.R_far (p := ⟨gb318, 0, none⟩) (Kd.R_types HO315.out BK318.out (by decide)) (fun _ hk => hk.2) (.slice Ao41 t310.length co41)) (fun _ hk => hk.2) (.slice Ao43 t313.length co43)) (fun _ hk => hk.2) (.int .i64 t316)) (fun _ h_ => h_.1))))) (below_size KB)); have n6_ := Aside0.mk (blk_below (g := gb295) (o := .cells #[.slice A0_0 l0_0.length c0_0, .slice A0_1 l0_1.length c0_1, .int .i64 a0_2] 24 (0, 0)) KK hb); have n7_ := Aside0.mk (blk_below (g := gb296) (o := .cells #[.int .i64 a1_0, .int .i64 a1_1, .bool a1_2, .string a1_3] 26 (0, 0)) KK hb); have n8_ := Aside0.mk (blk_below (g := gb318) (o := .cells #[.slice Ao41 t310.length co41, .slice Ao43 t313.length co43, .int .i64 t316] 31 (0, 0)) (by (with_reducible repeat (first | refine blk_drewN ?_ _ | refine blk_drew ?_ | refine blk_alloc ?_ _)); refine blk_put (cs := #[.slice Ao41 t310.length co41, .slice Ao43 t313.length co43, .int .i64 0]) ?_ 2 _ rfl; (with_reducible repeat (first | refine blk_drewN ?_ _ | refine blk_drew ?_ | refine blk_alloc ?_ _)); refine blk_put (cs := #[.slice Ao41 t310.length co41, .slice none 0 0, .int .i64 0]) ?_ 1 _ rfl; (with_reducible repeat (first | refine blk_drewN ?_ _ | refine blk_drew ?_ | refine blk_alloc ?_ _)); refine blk_put (cs := #[.slice none 0 0, .slice none 0 0, .int .i64 0]) ?_ 0 _ rfl; (with_reducible repeat (first | refine blk_drewN ?_ _ | refine blk_drew ?_ | refine blk_alloc ?_ _)); exact BK318.out) hb); have n9_ := Aside0.mk (below_step KB hb); clear HO301; clear HO304; clear HO312; clear HO315; clear BK295; clear BK296; clear BK318; clear HB; have HO301 := n0_; have HO304 := n1_; have HO312 := n2_; have HO315 := n3_; have HO321 := n4_; have HO324 := n5_; have BK295 := n6_; have BK296 := n7_; have BK318 := n8_; have HB := n9_; clear n0_ n1_ n2_ n3_ n4_ n5_ n6_ n7_ n8_ n9_; (try clear hb); (try clear hb2); (try clear hk); (try clear hi); (try clear ho0); (try clear ho1)) | ((with_reducible refine gate_dst (N := 8) rfl ?_); refine box_event ?hg (N := 8) ?hd (cs := #[.slice none 0 0, .slice none 0 0, .int .i64 0]) (t := 31) ?hr ?_; (case hd => rfl); (case hg => rfl); (case hr => first | (go_simp; done) | (go_simp; rfl)); intro gb326 hg w49 hbox hb; have n0_ := Aside0.mk (Kd.R_below (KR HO301.out) hb); have n1_ := Aside0.mk (Kd.R_below (KR HO304.out) hb); have n2_ := Aside0.mk (Kd.R_below (KR HO312.out) hb); have n3_ := Aside0.mk (Kd.R_below (KR HO315.out) hb); have n4_ := Aside0.mk (Kd.R_below (KR HO321.out) hb); have n5_ := Aside0.mk (Kd.R_below (KR HO324.out) hb); have n6_ := Aside0.mk (blk_below (g := gb295) (o := .cells #[.slice A0_0 l0_0.length c0_0, .slice A0_1 l0_1.length c0_1, .int .i64 a0_2] 24 (0, 0)) KK hb); have n7_ := Aside0.mk (blk_below (g := gb296) (o := .cells #[.int .i64 a1_0, .int .i64 a1_1, .bool a1_2, .string a1_3] 26 (0, 0)) KK hb); have n8_ := Aside0.mk (blk_below (g := gb318) (o := .cells #[.slice Ao41 t310.length co41, .slice Ao43 t313.length co43, .int .i64 t316] 31 (0, 0)) KK hb); have n9_ := Aside0.mk (below_step KB hb); have n10_ := Aside0.mk (hbox); have n11_ := Aside0.mk ((KG hg : w.heap.size ≤ gb326)); have n12_ := Aside0.mk ((KG hg : w.heap.size ≤ gb326)); have n13_ := Aside0.mk ((by rw [hg]; exact Nat.ne_of_lt (blk_lt (g := gb295) (o := .cells #[.slice A0_0 l0_0.length c0_0, .slice A0_1 l0_1.length c0_1, .int .i64 a0_2] 24 (0, 0)) KK) : gb295 ≠ gb326)); have n14_ := Aside0.mk ((by rw [hg]; exact Nat.ne_of_gt (blk_lt (g := gb295) (o := .cells #[.slice A0_0 l0_0.length c0_0, .slice A0_1 l0_1.length c0_1, .int .i64 a0_2] 24 (0, 0)) KK) : gb326 ≠ gb295)); have n15_ := Aside0.mk ((by rw [hg]; exact Nat.ne_of_lt (blk_lt (g := gb296) (o := .cells #[.int .i64 a1_0, .int .i64 a1_1, .bool a1_2, .string a1_3] 26 (0, 0)) KK) : gb296 ≠ gb326)); have n16_ := Aside0.mk ((by rw [hg]; exact Nat.ne_of_gt (blk_lt (g := gb296) (o := .cells #[.int .i64 a1_0, .int .i64 a1_1, .bool a1_2, .string a1_3] 26 (0, 0)) KK) : gb326 ≠ gb296)); have n17_ := Aside0.mk ((by rw [hg]; exact Nat.ne_of_lt (blk_lt (g := gb318) (o := .cells #[.slice Ao41 t310.length co41, .slice Ao43 t313.length co43, .int .i64 t316] 31 (0, 0)) KK) : gb318 ≠ gb326)); have n18_ := Aside0.mk ((by rw [hg]; exact Nat.ne_of_gt (blk_lt (g := gb318) (o := .cells #[.slice Ao41 t310.length co41, .slice Ao43 t313.length co43, .int .i64 t316] 31 (0, 0)) KK) : gb326 ≠ gb318)); clear HO301; clear HO304; clear HO312; clear HO315; clear HO321; clear HO324; clear BK295; clear BK296; clear BK318; clear HB; have HO301 := n0_; have HO304 := n1_; have HO312 := n2_; have HO315 := n3_; have HO321 := n4_; have HO324 := n5_; have BK295 := n6_; have BK296 := n7_; have BK318 := n8_; have HB := n9_; have BK326 := n10_; have GW326 := n11_; have GE326 := n12_; have NB295_326 := n13_; have NB326_295 := n14_; have NB296_326 := n15_; have NB326_296 := n16_; have NB318_326 := n17_; have NB326_318 := n18_; clear n0_ n1_ n2_ n3_ n4_ n5_ n6_ n7_ n8_ n9_ n10_ n11_ n12_ n13_ n14_ n15_ n16_ n17_ n18_; clear hb hbox hg; obtain ⟨Ao50, co50, eo50⟩ := Kd.R_slice HO321.out; subst eo50; have hnb51 := NB326_295.out; have hnc51 := NB295_326.out; have hnb52 := NB326_296.out; have hnc52 := NB296_326.out; have hnb53 := NB326_318.out; have hnc53 := NB318_326.out; have hcz54_0 : w49.cell? ⟨gb326, 0, none⟩ = some (.slice none 0 0) := (blk_cell BK326.out 0).trans rfl; have hcz54_1 : w49.cell? ⟨gb326, 1, none⟩ = some (.slice none 0 0) := (blk_cell BK326.out 1).trans rfl; have hcz54_2 : w49.cell? ⟨gb326, 2, none⟩ = some (.int .i64 0) := (blk_cell BK326.out 2).trans rfl; have hfz54_0 := blk_frozen BK326.out 0; have hfz54_1 := blk_frozen BK326.out 1; have hfz54_2 := blk_frozen BK326.out 2; obtain ⟨Ao55, co55, eo55⟩ := Kd.R_slice HO324.out; subst eo55))
   have n0_ : Aside0 (Kd.R k35 35 (((w49.setCell ⟨gb326, 0, none⟩ (.slice Ao50 t319.length co50)).setCell ⟨gb326, 1, none⟩ (.slice Ao55 t322.length co55)).setCell ⟨gb326, 2, none⟩ (.int .i64 t325)) w.heap.size (fun k_ => some k_ ≠ (v303 : Value).ownBlock ∧ some k_ ≠ (.slice Ao41 t310.length co41 : Value).ownBlock ∧ some k_ ≠ (.slice Ao43 t313.length co43 : Value).ownBlock ∧ some k_ ≠ (.slice Ao50 t319.length co50 : Value).ownBlock ∧ some k_ ≠ (.slice Ao55 t322.length co55 : Value).ownBlock) v300 t299) := ⟨by (with_reducible repeat (first | apply Kd.R_alloc | apply Kd.R_drewN | apply Kd.R_drew)); exact Kd.R_mono (Kd.R_far (p := ⟨gb326, 2, none⟩) (Kd.R_far (p := ⟨gb326, 1, none⟩) (Kd.R_far (p := ⟨gb326, 0, none⟩) (Kd.R_types HO301.out BK326.out (by decide)) (fun _ hk => hk.2) (.slice Ao50 t319.length co50)) (fun _ hk => hk.2) (.slice Ao55 t322.length co55)) (fun _ hk => hk.2) (.int .i64 t325)) (fun _ hk => ⟨hk.1.1.1.1, ⟨hk.1.1.1.2.1, ⟨hk.1.1.1.2.2, ⟨hk.1.1.2, hk.1.2⟩⟩⟩⟩)⟩
   have n1_ : Aside0 (Kd.R k35 35 (((w49.setCell ⟨gb326, 0, none⟩ (.slice Ao50 t319.length co50)).setCell ⟨gb326, 1, none⟩ (.slice Ao55 t322.length co55)).setCell ⟨gb326, 2, none⟩ (.int .i64 t325)) w.heap.size (fun k_ => some k_ ≠ (v300 : Value).ownBlock ∧ some k_ ≠ (.slice Ao41 t310.length co41 : Value).ownBlock ∧ some k_ ≠ (.slice Ao43 t313.length co43 : Value).ownBlock ∧ some k_ ≠ (.slice Ao50 t319.length co50 : Value).ownBlock ∧ some k_ ≠ (.slice Ao55 t322.length co55 : Value).ownBlock) v303 t302) := ⟨by (with_reducible repeat (first | apply Kd.R_alloc | apply Kd.R_drewN | apply Kd.R_drew)); exact Kd.R_mono (Kd.R_far (p := ⟨gb326, 2, none⟩) (Kd.R_far (p := ⟨gb326, 1, none⟩) (Kd.R_far (p := ⟨gb326, 0, none⟩) (Kd.R_types HO304.out BK326.out (by decide)) (fun _ hk => hk.2) (.slice Ao50 t319.length co50)) (fun _ hk => hk.2) (.slice Ao55 t322.length co55)) (fun _ hk => hk.2) (.int .i64 t325)) (fun _ hk => ⟨hk.1.1.1.1, ⟨hk.1.1.1.2.1, ⟨hk.1.1.1.2.2, ⟨hk.1.1.2, hk.1.2⟩⟩⟩⟩)⟩
   have n2_ : Aside0 (Kd.R k35 35 (((w49.setCell ⟨gb326, 0, none⟩ (.slice Ao50 t319.length co50)).setCell ⟨gb326, 1, none⟩ (.slice Ao55 t322.length co55)).setCell ⟨gb326, 2, none⟩ (.int .i64 t325)) w.heap.size (fun k_ => some k_ ≠ (v300 : Value).ownBlock ∧ some k_ ≠ (v303 : Value).ownBlock ∧ some k_ ≠ (.slice Ao43 t313.length co43 : Value).ownBlock ∧ some k_ ≠ (.slice Ao50 t319.length co50 : Value).ownBlock ∧ some k_ ≠ (.slice Ao55 t322.length co55 : Value).ownBlock) (.slice Ao41 t310.length co41) t310) := ⟨by (with_reducible repeat (first | apply Kd.R_alloc | apply Kd.R_drewN | apply Kd.R_drew)); exact Kd.R_mono (Kd.R_far (p := ⟨gb326, 2, none⟩) (Kd.R_far (p := ⟨gb326, 1, none⟩) (Kd.R_far (p := ⟨gb326, 0, none⟩) (Kd.R_types HO312.out BK326.out (by decide)) (fun _ hk => hk.2) (.slice Ao50 t319.length co50)) (fun _ hk => hk.2) (.slice Ao55 t322.length co55)) (fun _ hk => hk.2) (.int .i64 t325)) (fun _ hk => ⟨hk.1.1.1.1, ⟨hk.1.1.1.2.1, ⟨hk.1.1.1.2.2, ⟨hk.1.1.2, hk.1.2⟩⟩⟩⟩)⟩
   have n3_ : Aside0 (Kd.R k35 35 (((w49.setCell ⟨gb326, 0, none⟩ (.slice Ao50 t319.length co50)).setCell ⟨gb326, 1, none⟩ (.slice Ao55 t322.length co55)).setCell ⟨gb326, 2, none⟩ (.int .i64 t325)) w.heap.size (fun k_ => some k_ ≠ (v300 : Value).ownBlock ∧ some k_ ≠ (v303 : Value).ownBlock ∧ some k_ ≠ (.slice Ao41 t310.length co41 : Value).ownBlock ∧ some k_ ≠ (.slice Ao50 t319.length co50 : Value).ownBlock ∧ some k_ ≠ (.slice Ao55 t322.length co55 : Value).ownBlock) (.slice Ao43 t313.length co43) t313) := ⟨by (with_reducible repeat (first | apply Kd.R_alloc | apply Kd.R_drewN | apply Kd.R_drew)); exact Kd.R_mono (Kd.R_far (p := ⟨gb326, 2, none⟩) (Kd.R_far (p := ⟨gb326, 1, none⟩) (Kd.R_far (p := ⟨gb326, 0, none⟩) (Kd.R_types HO315.out BK326.out (by decide)) (fun _ hk => hk.2) (.slice Ao50 t319.length co50)) (fun _ hk => hk.2) (.slice Ao55 t322.length co55)) (fun _ hk => hk.2) (.int .i64 t325)) (fun _ hk => ⟨hk.1.1.1.1, ⟨hk.1.1.1.2.1, ⟨hk.1.1.1.2.2, ⟨hk.1.1.2, hk.1.2⟩⟩⟩⟩)⟩
   have n4_ : Aside0 (Kd.R k35 35 (((w49.setCell ⟨gb326, 0, none⟩ (.slice Ao50 t319.length co50)).setCell ⟨gb326, 1, none⟩ (.slice Ao55 t322.length co55)).setCell ⟨gb326, 2, none⟩ (.int .i64 t325)) w.heap.size (fun k_ => some k_ ≠ (v300 : Value).ownBlock ∧ some k_ ≠ (v303 : Value).ownBlock ∧ some k_ ≠ (.slice Ao41 t310.length co41 : Value).ownBlock ∧ some k_ ≠ (.slice Ao43 t313.length co43 : Value).ownBlock ∧ some k_ ≠ (.slice Ao55 t322.length co55 : Value).ownBlock) (.slice Ao50 t319.length co50) t319) := ⟨by (with_reducible repeat (first | apply Kd.R_alloc | apply Kd.R_drewN | apply Kd.R_drew)); exact Kd.R_mono (Kd.R_far (p := ⟨gb326, 2, none⟩) (Kd.R_far (p := ⟨gb326, 1, none⟩) (Kd.R_far (p := ⟨gb326, 0, none⟩) (Kd.R_types HO321.out BK326.out (by decide)) (fun _ hk => hk.2) (.slice Ao50 t319.length co50)) (fun _ hk => hk.2) (.slice Ao55 t322.length co55)) (fun _ hk => hk.2) (.int .i64 t325)) (fun _ hk => ⟨hk.1.1.1.1.2, ⟨hk.1.1.1.2, ⟨hk.1.1.2, ⟨hk.1.2, hk.1.1.1.1.1⟩⟩⟩⟩)⟩
   have n5_ : Aside0 (Kd.R k35 35 (((w49.setCell ⟨gb326, 0, none⟩ (.slice Ao50 t319.length co50)).setCell ⟨gb326, 1, none⟩ (.slice Ao55 t322.length co55)).setCell ⟨gb326, 2, none⟩ (.int .i64 t325)) w.heap.size (fun k_ => some k_ ≠ (v300 : Value).ownBlock ∧ some k_ ≠ (v303 : Value).ownBlock ∧ some k_ ≠ (.slice Ao41 t310.length co41 : Value).ownBlock ∧ some k_ ≠ (.slice Ao43 t313.length co43 : Value).ownBlock ∧ some k_ ≠ (.slice Ao50 t319.length co50 : Value).ownBlock) (.slice Ao55 t322.length co55) t322) := ⟨by (with_reducible repeat (first | apply Kd.R_alloc | apply Kd.R_drewN | apply Kd.R_drew)); exact Kd.R_mono (Kd.R_far (p := ⟨gb326, 2, none⟩) (Kd.R_far (p := ⟨gb326, 1, none⟩) (Kd.R_far (p := ⟨gb326, 0, none⟩) (Kd.R_types HO324.out BK326.out (by decide)) (fun _ hk => hk.2) (.slice Ao50 t319.length co50)) (fun _ hk => hk.2) (.slice Ao55 t322.length co55)) (fun _ hk => hk.2) (.int .i64 t325)) (fun _ hk => ⟨hk.1.1.1.1.2, ⟨hk.1.1.1.2, ⟨hk.1.1.2, ⟨hk.1.2, hk.1.1.1.1.1⟩⟩⟩⟩)⟩
   have n6_ : Aside0 ((((w49.setCell ⟨gb326, 0, none⟩ (.slice Ao50 t319.length co50)).setCell ⟨gb326, 1, none⟩ (.slice Ao55 t322.length co55)).setCell ⟨gb326, 2, none⟩ (.int .i64 t325)).heap[gb295]? = some (.cells #[.slice A0_0 l0_0.length c0_0, .slice A0_1 l0_1.length c0_1, .int .i64 a0_2] 24 (0, 0))) := ⟨KK⟩
   have n7_ : Aside0 ((((w49.setCell ⟨gb326, 0, none⟩ (.slice Ao50 t319.length co50)).setCell ⟨gb326, 1, none⟩ (.slice Ao55 t322.length co55)).setCell ⟨gb326, 2, none⟩ (.int .i64 t325)).heap[gb296]? = some (.cells #[.int .i64 a1_0, .int .i64 a1_1, .bool a1_2, .string a1_3] 26 (0, 0))) := ⟨KK⟩
   have n8_ : Aside0 ((((w49.setCell ⟨gb326, 0, none⟩ (.slice Ao50 t319.length co50)).setCell ⟨gb326, 1, none⟩ (.slice Ao55 t322.length co55)).setCell ⟨gb326, 2, none⟩ (.int .i64 t325)).heap[gb318]? = some (.cells #[.slice Ao41 t310.length co41, .slice Ao43 t313.length co43, .int .i64 t316] 31 (0, 0))) := ⟨KK⟩
   have n9_ : Aside0 ((((w49.setCell ⟨gb326, 0, none⟩ (.slice Ao50 t319.length co50)).setCell ⟨gb326, 1, none⟩ (.slice Ao55 t322.length co55)).setCell ⟨gb326, 2, none⟩ (.int .i64 t325)).heap[gb326]? = some (.cells #[.slice Ao50 t319.length co50, .slice Ao55 t322.length co55, .int .i64 t325] 31 (0, 0))) := ⟨by (with_reducible repeat (first | refine blk_drewN ?_ _ | refine blk_drew ?_ | refine blk_alloc ?_ _)); refine blk_put (cs := #[.slice Ao50 t319.length co50, .slice Ao55 t322.length co55, .int .i64 0]) ?_ 2 _ rfl; (with_reducible repeat (first | refine blk_drewN ?_ _ | refine blk_drew ?_ | refine blk_alloc ?_ _)); refine blk_put (cs := #[.slice Ao50 t319.length co50, .slice none 0 0, .int .i64 0]) ?_ 1 _ rfl; (with_reducible repeat (first | refine blk_drewN ?_ _ | refine blk_drew ?_ | refine blk_alloc ?_ _)); refine blk_put (cs := #[.slice none 0 0, .slice none 0 0, .int .i64 0]) ?_ 0 _ rfl; (with_reducible repeat (first | refine blk_drewN ?_ _ | refine blk_drew ?_ | refine blk_alloc ?_ _)); exact BK326.out⟩
   have n10_ : Aside0 (Below w.heap.size w (((w49.setCell ⟨gb326, 0, none⟩ (.slice Ao50 t319.length co50)).setCell ⟨gb326, 1, none⟩ (.slice Ao55 t322.length co55)).setCell ⟨gb326, 2, none⟩ (.int .i64 t325))) := ⟨KB⟩
   (try clear HO301)
   (try clear HO304)
   (try clear HO312)
   (try clear HO315)
   (try clear HO321)
   (try clear HO324)
   (try clear BK295)
   (try clear BK296)
   (try clear BK318)
   (try clear BK326)
   (try clear HB)
   generalize (((w49.setCell ⟨gb326, 0, none⟩ (.slice Ao50 t319.length co50)).setCell ⟨gb326, 1, none⟩ (.slice Ao55 t322.length co55)).setCell ⟨gb326, 2, none⟩ (.int .i64 t325)) = w56 at n0_ n1_ n2_ n3_ n4_ n5_ n6_ n7_ n8_ n9_ n10_ ⊢
   have HO301 := n0_
   have HO304 := n1_
   have HO312 := n2_
   have HO315 := n3_
   have HO321 := n4_
   have HO324 := n5_
   have BK295 := n6_
   have BK296 := n7_
   have BK318 := n8_
   have BK326 := n9_
   have HB := n10_
   clear n0_ n1_ n2_ n3_ n4_ n5_ n6_ n7_ n8_ n9_ n10_
   have n0_ := Aside0.mk (Kd.R_drew HO301.out)
   have n1_ := Aside0.mk (Kd.R_drew HO304.out)
   have n2_ := Aside0.mk (Kd.R_drew HO312.out)
   have n3_ := Aside0.mk (Kd.R_drew HO315.out)
   have n4_ := Aside0.mk (Kd.R_drew HO321.out)
   have n5_ := Aside0.mk (Kd.R_drew HO324.out)
   have n6_ := Aside0.mk (blk_drew BK295.out)
   have n7_ := Aside0.mk (blk_drew BK296.out)
   have n8_ := Aside0.mk (blk_drew BK318.out)
   have n9_ := Aside0.mk (blk_drew BK326.out)
   have n10_ := Aside0.mk (below_drew1 HB.out)
   clear HO301
   clear HO304
   clear HO312
   clear HO315
   clear HO321
   clear HO324
   clear BK295
   clear BK296
   clear BK318
   clear BK326
   clear HB
   have HO301 := n0_
   have HO304 := n1_
   have HO312 := n2_
   have HO315 := n3_
   have HO321 := n4_
   have HO324 := n5_
   have BK295 := n6_
   have BK296 := n7_
   have BK318 := n8_
   have BK326 := n9_
   have HB := n10_
   clear n0_ n1_ n2_ n3_ n4_ n5_ n6_ n7_ n8_ n9_ n10_
   refine start_ (n := 10) (S := fun w' => w'.cell? ⟨gb326, 0, none⟩ = some (.slice Ao50 t319.length co50) ∧ w'.cell? ⟨gb326, 1, none⟩ = some (.slice Ao55 t322.length co55) ∧ w'.cell? ⟨gb326, 2, none⟩ = some (.int .i64 t325) ∧ w'.cell? ⟨gb296, 0, none⟩ = some (.int .i64 a1_0) ∧ w'.cell? ⟨gb296, 1, none⟩ = some (.int .i64 a1_1) ∧ w'.cell? ⟨gb296, 2, none⟩ = some (.bool a1_2) ∧ w'.cell? ⟨gb296, 3, none⟩ = some (.string a1_3)) (ds := []) #[false, false, false, false, false, false, false, false, false, false] (by kernel_rfl) rfl rfl ⟨(blk_cell BK326.out 0).trans rfl, (blk_cell BK326.out 1).trans rfl, (blk_cell BK326.out 2).trans rfl, (blk_cell BK296.out 0).trans rfl, (blk_cell BK296.out 1).trans rfl, (blk_cell BK296.out 2).trans rfl, (blk_cell BK296.out 3).trans rfl⟩ (fun hHeld => ?_); refine with_tabW laws_FnExactStorePut.tab10 laws_FnExactStorePut.bits10 (fun HT_ HW_ => ?_)
   generalize w56.drew = w57 at HO301 HO304 HO312 HO315 HO321 HO324 BK295 BK296 BK318 BK326 HB hHeld ⊢
   refine take_ (i := 0) (N := some 37) (v := ?_) (a' := ?_) #[true, false, false, false, false, false, false, false, false, false] rfl rfl (take_ofW HT_.out HW_.out (by kernel_rfl)) (fun _ _ _ h => h) (Or.inl ⟨by rfl, ?_⟩) hHeld ?_ ?_
   rotate_left
   ·rintro w' ⟨s0, s1, s2, s3, s4, s5, s6⟩
    go_simp
    with_reducible rfl
   rotate_left
   ·simp only [Act.put, List.setIfInBounds_toArray, List.set_cons_zero, List.set_cons_succ, i64_w, i32_w]
    rfl
   refine take_ (i := 1) (N := some 38) (v := ?_) (a' := ?_) #[true, true, false, false, false, false, false, false, false, false] rfl rfl (take_ofW HT_.out HW_.out (by kernel_rfl)) (fun _ _ _ h => h) (Or.inl ⟨by rfl, ?_⟩) hHeld ?_ ?_
   rotate_left
   ·rintro w' ⟨s0, s1, s2, s3, s4, s5, s6⟩
    go_simp
    with_reducible rfl
   rotate_left
   ·simp only [Act.put, List.setIfInBounds_toArray, List.set_cons_zero, List.set_cons_succ, i64_w, i32_w]
    rfl
   refine join_ (σ := Value × Value × Nat) 2 #[true, true, true, true, true, true, true, true, false, false] (fun s_ => [(39, .agg #[.int .i64 t327, .int .i64 t328, .bool t329, .string t330]), (40, .tuple #[.agg #[s_.1, s_.2.1, .int .i64 t337], .bool t338]), (9, .pointer (some ⟨s_.2.2, 0, none⟩)), (36, .tuple #[.agg #[s_.1, s_.2.1, .int .i64 t337], .bool t338]), (41, .agg #[s_.1, s_.2.1, .int .i64 t337]), (42, .bool t338)]) (fun s_ w' => (w'.cell? ⟨gb326, 0, none⟩ = some (.slice Ao50 t319.length co50) ∧ w'.cell? ⟨gb326, 1, none⟩ = some (.slice Ao55 t322.length co55) ∧ w'.cell? ⟨gb326, 2, none⟩ = some (.int .i64 t325) ∧ w'.cell? ⟨gb296, 0, none⟩ = some (.int .i64 a1_0) ∧ w'.cell? ⟨gb296, 1, none⟩ = some (.int .i64 a1_1) ∧ w'.cell? ⟨gb296, 2, none⟩ = some (.bool a1_2) ∧ w'.cell? ⟨gb296, 3, none⟩ = some (.string a1_3)) ∧ (Kd.R k35 35 w' w.heap.size (fun k_ => some k_ ≠ (v303 : Value).ownBlock ∧ some k_ ≠ (.slice Ao41 t310.length co41 : Value).ownBlock ∧ some k_ ≠ (.slice Ao43 t313.length co43 : Value).ownBlock ∧ some k_ ≠ (.slice Ao50 t319.length co50 : Value).ownBlock ∧ some k_ ≠ (.slice Ao55 t322.length co55 : Value).ownBlock ∧ some k_ ≠ (s_.1 : Value).ownBlock ∧ some k_ ≠ (s_.2.1 : Value).ownBlock) v300 t299) ∧ (Kd.R k35 35 w' w.heap.size (fun k_ => some k_ ≠ (v300 : Value).ownBlock ∧ some k_ ≠ (.slice Ao41 t310.length co41 : Value).ownBlock ∧ some k_ ≠ (.slice Ao43 t313.length co43 : Value).ownBlock ∧ some k_ ≠ (.slice Ao50 t319.length co50 : Value).ownBlock ∧ some k_ ≠ (.slice Ao55 t322.length co55 : Value).ownBlock ∧ some k_ ≠ (s_.1 : Value).ownBlock ∧ some k_ ≠ (s_.2.1 : Value).ownBlock) v303 t302) ∧ (Kd.R k35 35 w' w.heap.size (fun k_ => some k_ ≠ (v300 : Value).ownBlock ∧ some k_ ≠ (v303 : Value).ownBlock ∧ some k_ ≠ (.slice Ao43 t313.length co43 : Value).ownBlock ∧ some k_ ≠ (.slice Ao50 t319.length co50 : Value).ownBlock ∧ some k_ ≠ (.slice Ao55 t322.length co55 : Value).ownBlock ∧ some k_ ≠ (s_.1 : Value).ownBlock ∧ some k_ ≠ (s_.2.1 : Value).ownBlock) (.slice Ao41 t310.length co41) t310) ∧ (Kd.R k35 35 w' w.heap.size (fun k_ => some k_ ≠ (v300 : Value).ownBlock ∧ some k_ ≠ (v303 : Value).ownBlock ∧ some k_ ≠ (.slice Ao41 t310.length co41 : Value).ownBlock ∧ some k_ ≠ (.slice Ao50 t319.length co50 : Value).ownBlock ∧ some k_ ≠ (.slice Ao55 t322.length co55 : Value).ownBlock ∧ some k_ ≠ (s_.1 : Value).ownBlock ∧ some k_ ≠ (s_.2.1 : Value).ownBlock) (.slice Ao43 t313.length co43) t313) ∧ (Kd.R k35 35 w' w.heap.size (fun k_ => some k_ ≠ (v300 : Value).ownBlock ∧ some k_ ≠ (v303 : Value).ownBlock ∧ some k_ ≠ (.slice Ao41 t310.length co41 : Value).ownBlock ∧ some k_ ≠ (.slice Ao43 t313.length co43 : Value).ownBlock ∧ some k_ ≠ (.slice Ao55 t322.length co55 : Value).ownBlock ∧ some k_ ≠ (s_.1 : Value).ownBlock ∧ some k_ ≠ (s_.2.1 : Value).ownBlock) (.slice Ao50 t319.length co50) t319) ∧ (Kd.R k35 35 w' w.heap.size (fun k_ => some k_ ≠ (v300 : Value).ownBlock ∧ some k_ ≠ (v303 : Value).ownBlock ∧ some k_ ≠ (.slice Ao41 t310.length co41 : Value).ownBlock ∧ some k_ ≠ (.slice Ao43 t313.length co43 : Value).ownBlock ∧ some k_ ≠ (.slice Ao50 t319.length co50 : Value).ownBlock ∧ some k_ ≠ (s_.1 : Value).ownBlock ∧ some k_ ≠ (s_.2.1 : Value).ownBlock) (.slice Ao55 t322.length co55) t322) ∧ (Kd.R k35 35 w' w.heap.size (fun k_ => some k_ ≠ (v300 : Value).ownBlock ∧ some k_ ≠ (v303 : Value).ownBlock ∧ some k_ ≠ (.slice Ao41 t310.length co41 : Value).ownBlock ∧ some k_ ≠ (.slice Ao43 t313.length co43 : Value).ownBlock ∧ some k_ ≠ (.slice Ao50 t319.length co50 : Value).ownBlock ∧ some k_ ≠ (.slice Ao55 t322.length co55 : Value).ownBlock ∧ some k_ ≠ (s_.2.1 : Value).ownBlock) s_.1 t331) ∧ (Kd.R k35 35 w' w.heap.size (fun k_ => some k_ ≠ (v300 : Value).ownBlock ∧ some k_ ≠ (v303 : Value).ownBlock ∧ some k_ ≠ (.slice Ao41 t310.length co41 : Value).ownBlock ∧ some k_ ≠ (.slice Ao43 t313.length co43 : Value).ownBlock ∧ some k_ ≠ (.slice Ao50 t319.length co50 : Value).ownBlock ∧ some k_ ≠ (.slice Ao55 t322.length co55 : Value).ownBlock ∧ some k_ ≠ (s_.1 : Value).ownBlock) s_.2.1 t334) ∧ (w'.heap[gb295]? = some (.cells #[.slice A0_0 l0_0.length c0_0, .slice A0_1 l0_1.length c0_1, .int .i64 a0_2] 24 (0, 0))) ∧ (w'.heap[gb296]? = some (.cells #[.int .i64 a1_0, .int .i64 a1_1, .bool a1_2, .string a1_3] 26 (0, 0))) ∧ (w'.heap[gb318]? = some (.cells #[.slice Ao41 t310.length co41, .slice Ao43 t313.length co43, .int .i64 t316] 31 (0, 0))) ∧ (w'.heap[gb326]? = some (.cells #[.slice Ao50 t319.length co50, .slice Ao55 t322.length co55, .int .i64 t325] 31 (0, 0))) ∧ (w'.heap[s_.2.2]? = some (.cells #[.slice none 0 0, .slice none 0 0, .int .i64 0] 31 (0, 0))) ∧ (w.heap.size ≤ s_.2.2) ∧ (w.heap.size ≤ s_.2.2) ∧ (gb295 ≠ s_.2.2) ∧ (s_.2.2 ≠ gb295) ∧ (gb296 ≠ s_.2.2) ∧ (s_.2.2 ≠ gb296) ∧ (gb318 ≠ s_.2.2) ∧ (s_.2.2 ≠ gb318) ∧ (gb326 ≠ s_.2.2) ∧ (s_.2.2 ≠ gb326) ∧ (Below w.heap.size w w')) ?_ ?_
   rotate_left
   ·intro hCont
    refine two_ (i := 2) (j := 7) (Ni := some 39) (Nj := some 9) #[true, true, true, false, false, false, false, false, false, false] #[true, true, false, false, false, false, false, true, false, false] rfl rfl rfl rfl (two_of HT_.out (by kernel_rfl)) (by decide) (by decide) (fun K hK => ?_) (fun K hK => ?_)
    ·skip
     refine goes_ Try.func13 (by kernel_rfl) rfl #[.agg #[.int .i64 a1_0, .int .i64 a1_1, .bool a1_2, .string a1_3]] (by rfl) rfl rfl KL ?_
     with_reducible refine (laws_toEntry.calls a1_0 a1_1 a1_2 a1_3 t327 t328 t329 t330 _ A23.out).mono ?_
     rintro e w58 ⟨rfl, hb⟩
     refine ⟨_, rfl, ?_⟩
     have n0_ := Aside0.mk (Kd.R_below (KR HO301.out) hb)
     have n1_ := Aside0.mk (Kd.R_below (KR HO304.out) hb)
     have n2_ := Aside0.mk (Kd.R_below (KR HO312.out) hb)
     have n3_ := Aside0.mk (Kd.R_below (KR HO315.out) hb)
     have n4_ := Aside0.mk (Kd.R_below (KR HO321.out) hb)
     have n5_ := Aside0.mk (Kd.R_below (KR HO324.out) hb)
     have n6_ := Aside0.mk (blk_below (g := gb295) (o := .cells #[.slice A0_0 l0_0.length c0_0, .slice A0_1 l0_1.length c0_1, .int .i64 a0_2] 24 (0, 0)) KK hb)
     have n7_ := Aside0.mk (blk_below (g := gb296) (o := .cells #[.int .i64 a1_0, .int .i64 a1_1, .bool a1_2, .string a1_3] 26 (0, 0)) KK hb)
     have n8_ := Aside0.mk (blk_below (g := gb318) (o := .cells #[.slice Ao41 t310.length co41, .slice Ao43 t313.length co43, .int .i64 t316] 31 (0, 0)) KK hb)
     have n9_ := Aside0.mk (blk_below (g := gb326) (o := .cells #[.slice Ao50 t319.length co50, .slice Ao55 t322.length co55, .int .i64 t325] 31 (0, 0)) KK hb)
     have n10_ := Aside0.mk (below_step KB hb)
     clear HO301
     clear HO304
     clear HO312
     clear HO315
     clear HO321
     clear HO324
     clear BK295
     clear BK296
     clear BK318
     clear BK326
     clear HB
     have HO301 := n0_
     have HO304 := n1_
     have HO312 := n2_
     have HO315 := n3_
     have HO321 := n4_
     have HO324 := n5_
     have BK295 := n6_
     have BK296 := n7_
     have BK318 := n8_
     have BK326 := n9_
     have HB := n10_
     clear n0_ n1_ n2_ n3_ n4_ n5_ n6_ n7_ n8_ n9_ n10_
     (try clear hb)
     (try clear hb2)
     (try clear hk)
     (try clear hi)
     refine hK.out _ _ ⟨(blk_cell BK326.out 0).trans rfl, (blk_cell BK326.out 1).trans rfl, (blk_cell BK326.out 2).trans rfl, (blk_cell BK296.out 0).trans rfl, (blk_cell BK296.out 1).trans rfl, (blk_cell BK296.out 2).trans rfl, (blk_cell BK296.out 3).trans rfl⟩ (fun hHeld => ?_)
     clear hK K
     refine norm_ (a' := ?_) ?_ ?_
     rotate_left
     ·show Act.put _ (some 39) _ = _
      simp only [Act.put, List.setIfInBounds_toArray, List.set_cons_zero, List.set_cons_succ, i64_w, i32_w]
      rfl
     refine two_ (i := 3) (j := 7) (Ni := some 40) (Nj := some 9) #[true, true, true, true, false, false, false, false, false, false] #[true, true, true, false, false, false, false, true, false, false] rfl rfl rfl rfl (two_of HT_.out (by kernel_rfl)) (by decide) (by decide) (fun K hK => ?_) (fun K hK => ?_)
     ·skip
      refine goes_ Try.func14 (by kernel_rfl) rfl #[.agg #[.slice Ao50 t319.length co50, .slice Ao55 t322.length co55, .int .i64 t325], .agg #[.int .i64 t327, .int .i64 t328, .bool t329, .string t330]] (by rfl) rfl rfl KL ?_
      with_reducible refine (impl_StorePut.calls k _ _ t319 _ _ t322 t325 t327 t328 t329 t330 t331 t334 t337 t338 _ ?side1 ?side2 ?side3 ?side4 A24.out).mono ?_
      (case side1 => repeat (first | exact (Kd.R_reads' HO321.out).2.2 | (with_reducible refine Kd.C_alloc ?_ _) | (with_reducible refine Kd.C_drewN ?_ _) | (with_reducible refine Kd.C_drew ?_)))
      (case side2 => exact (Kd.R_reads' HO321.out).2.1)
      (case side3 => repeat (first | exact (Kd.R_reads' HO324.out).2.2 | (with_reducible refine Kd.C_alloc ?_ _) | (with_reducible refine Kd.C_drewN ?_ _) | (with_reducible refine Kd.C_drew ?_)))
      (case side4 => exact (Kd.R_reads' HO324.out).2.1)
      rintro e w59 ⟨v332, v335, rfl, ho0, ho1, hb⟩
      refine ⟨_, rfl, ?_⟩
      have n0_ := Aside0.mk (Kd.R_mono (Kd.R_told (Kd.R_told (Kd.R_old (KR HO301.out) hb) (Kd.R_base ho0)) (Kd.R_base ho1)) (fun _ h_ => h_.1))
      have n1_ := Aside0.mk (Kd.R_mono (Kd.R_told (Kd.R_told (Kd.R_old (KR HO304.out) hb) (Kd.R_base ho0)) (Kd.R_base ho1)) (fun _ h_ => h_.1))
      have n2_ := Aside0.mk (Kd.R_mono (Kd.R_told (Kd.R_told (Kd.R_old (KR HO312.out) hb) (Kd.R_base ho0)) (Kd.R_base ho1)) (fun _ h_ => h_.1))
      have n3_ := Aside0.mk (Kd.R_mono (Kd.R_told (Kd.R_told (Kd.R_old (KR HO315.out) hb) (Kd.R_base ho0)) (Kd.R_base ho1)) (fun _ h_ => h_.1))
      have n4_ := Aside0.mk (Kd.R_mono (Kd.R_told (Kd.R_told (Kd.R_old (KR HO321.out) hb) (Kd.R_base ho0)) (Kd.R_base ho1)) (fun _ h_ => h_.1))
      have n5_ := Aside0.mk (Kd.R_mono (Kd.R_told (Kd.R_told (Kd.R_old (KR HO324.out) hb) (Kd.R_base ho0)) (Kd.R_base ho1)) (fun _ h_ => h_.1))
      have n6_ := Aside0.mk (Kd.R_lower (Kd.R_new' (Kd.R_new' (Kd.R_new' (Kd.R_new' (Kd.R_new' (Kd.R_new' ho0 (Kd.R_lt (KR HO301.out))) (Kd.R_lt (KR HO304.out))) (Kd.R_lt (KR HO312.out))) (Kd.R_lt (KR HO315.out))) (Kd.R_lt (KR HO321.out))) (Kd.R_lt (KR HO324.out))) (below_size KB))
      have n7_ := Aside0.mk (Kd.R_lower (Kd.R_new' (Kd.R_new' (Kd.R_new' (Kd.R_new' (Kd.R_new' (Kd.R_new' ho1 (Kd.R_lt (KR HO301.out))) (Kd.R_lt (KR HO304.out))) (Kd.R_lt (KR HO312.out))) (Kd.R_lt (KR HO315.out))) (Kd.R_lt (KR HO321.out))) (Kd.R_lt (KR HO324.out))) (below_size KB))
      have n8_ := Aside0.mk (blk_below (g := gb295) (o := .cells #[.slice A0_0 l0_0.length c0_0, .slice A0_1 l0_1.length c0_1, .int .i64 a0_2] 24 (0, 0)) KK hb)
      have n9_ := Aside0.mk (blk_below (g := gb296) (o := .cells #[.int .i64 a1_0, .int .i64 a1_1, .bool a1_2, .string a1_3] 26 (0, 0)) KK hb)
      have n10_ := Aside0.mk (blk_below (g := gb318) (o := .cells #[.slice Ao41 t310.length co41, .slice Ao43 t313.length co43, .int .i64 t316] 31 (0, 0)) KK hb)
      have n11_ := Aside0.mk (blk_below (g := gb326) (o := .cells #[.slice Ao50 t319.length co50, .slice Ao55 t322.length co55, .int .i64 t325] 31 (0, 0)) KK hb)
      have n12_ := Aside0.mk (below_step KB hb)
      clear HO301
      clear HO304
      clear HO312
      clear HO315
      clear HO321
      clear HO324
      clear BK295
      clear BK296
      clear BK318
      clear BK326
      clear HB
      have HO301 := n0_
      have HO304 := n1_
      have HO312 := n2_
      have HO315 := n3_
      have HO321 := n4_
      have HO324 := n5_
      have HO333 := n6_
      have HO336 := n7_
      have BK295 := n8_
      have BK296 := n9_
      have BK318 := n10_
      have BK326 := n11_
      have HB := n12_
      clear n0_ n1_ n2_ n3_ n4_ n5_ n6_ n7_ n8_ n9_ n10_ n11_ n12_
      (try clear hb)
      (try clear hb2)
      (try clear hk)
      (try clear hi)
      (try clear ho0)
      (try clear ho1)
      refine hK.out _ _ ⟨(blk_cell BK326.out 0).trans rfl, (blk_cell BK326.out 1).trans rfl, (blk_cell BK326.out 2).trans rfl, (blk_cell BK296.out 0).trans rfl, (blk_cell BK296.out 1).trans rfl, (blk_cell BK296.out 2).trans rfl, (blk_cell BK296.out 3).trans rfl⟩ (fun hHeld => ?_)
      clear hK K
      refine norm_ (a' := ?_) ?_ ?_
      rotate_left
      ·show Act.put _ (some 40) _ = _
       simp only [Act.put, List.setIfInBounds_toArray, List.set_cons_zero, List.set_cons_succ, i64_w, i32_w]
       rfl
      refine pure_ (i := 4) (N := some 36) (v := ?_) (a' := ?_) #[true, true, true, true, true, false, false, false, false, false] rfl rfl (any_of HT_.out (by kernel_rfl)) (fun _ _ _ h => h) (Or.inl ⟨by rfl, ?_⟩) ?_ ?_
      rotate_left
      ·intro w'
       go_simp
       with_reducible rfl
      rotate_left
      ·simp only [Act.put, List.setIfInBounds_toArray, List.set_cons_zero, List.set_cons_succ, i64_w, i32_w]
       rfl
      refine pure_ (i := 5) (N := some 41) (v := ?_) (a' := ?_) #[true, true, true, true, true, true, false, false, false, false] rfl rfl (any_of HT_.out (by kernel_rfl)) (fun _ _ _ h => h) (Or.inl ⟨by rfl, ?_⟩) ?_ ?_
      rotate_left
      ·intro w'
       go_simp
       with_reducible rfl
      rotate_left
      ·simp only [Act.put, List.setIfInBounds_toArray, List.set_cons_zero, List.set_cons_succ, i64_w, i32_w]
       rfl
      refine pure_ (i := 6) (N := some 42) (v := ?_) (a' := ?_) #[true, true, true, true, true, true, true, false, false, false] rfl rfl (any_of HT_.out (by kernel_rfl)) (fun _ _ _ h => h) (Or.inl ⟨by rfl, ?_⟩) ?_ ?_
      rotate_left
      ·intro w'
       go_simp
       with_reducible rfl
      rotate_left
      ·simp only [Act.put, List.setIfInBounds_toArray, List.set_cons_zero, List.set_cons_succ, i64_w, i32_w]
       rfl
      refine one_ (i := 7) (N := some 9) #[true, true, true, true, true, true, true, true, false, false] rfl rfl (one_of HT_.out (by kernel_rfl)) (by decide) (fun K hK => ?_)
      refine box_step ?hg (N := 9) ?hd (cs := #[.slice none 0 0, .slice none 0 0, .int .i64 0]) (t := 31) ?hr ?_; (case hd => rfl); (case hg => rfl); (case hr => first | (go_simp; done) | (go_simp; rfl))
      intro gb339 hg w60 hbox hb
      have n0_ := Aside0.mk (Kd.R_below (KR HO301.out) hb)
      have n1_ := Aside0.mk (Kd.R_below (KR HO304.out) hb)
      have n2_ := Aside0.mk (Kd.R_below (KR HO312.out) hb)
      have n3_ := Aside0.mk (Kd.R_below (KR HO315.out) hb)
      have n4_ := Aside0.mk (Kd.R_below (KR HO321.out) hb)
      have n5_ := Aside0.mk (Kd.R_below (KR HO324.out) hb)
      have n6_ := Aside0.mk (Kd.R_below (KR HO333.out) hb)
      have n7_ := Aside0.mk (Kd.R_below (KR HO336.out) hb)
      have n8_ := Aside0.mk (blk_below (g := gb295) (o := .cells #[.slice A0_0 l0_0.length c0_0, .slice A0_1 l0_1.length c0_1, .int .i64 a0_2] 24 (0, 0)) KK hb)
      have n9_ := Aside0.mk (blk_below (g := gb296) (o := .cells #[.int .i64 a1_0, .int .i64 a1_1, .bool a1_2, .string a1_3] 26 (0, 0)) KK hb)
      have n10_ := Aside0.mk (blk_below (g := gb318) (o := .cells #[.slice Ao41 t310.length co41, .slice Ao43 t313.length co43, .int .i64 t316] 31 (0, 0)) KK hb)
      have n11_ := Aside0.mk (blk_below (g := gb326) (o := .cells #[.slice Ao50 t319.length co50, .slice Ao55 t322.length co55, .int .i64 t325] 31 (0, 0)) KK hb)
      have n12_ := Aside0.mk (below_step KB hb)
      have n13_ := Aside0.mk (hbox)
      have n14_ := Aside0.mk ((KG hg : w.heap.size ≤ gb339))
      have n15_ := Aside0.mk ((KG hg : w.heap.size ≤ gb339))
      have n16_ := Aside0.mk ((by rw [hg]; exact Nat.ne_of_lt (blk_lt (g := gb295) (o := .cells #[.slice A0_0 l0_0.length c0_0, .slice A0_1 l0_1.length c0_1, .int .i64 a0_2] 24 (0, 0)) KK) : gb295 ≠ gb339))
      have n17_ := Aside0.mk ((by rw [hg]; exact Nat.ne_of_gt (blk_lt (g := gb295) (o := .cells #[.slice A0_0 l0_0.length c0_0, .slice A0_1 l0_1.length c0_1, .int .i64 a0_2] 24 (0, 0)) KK) : gb339 ≠ gb295))
      have n18_ := Aside0.mk ((by rw [hg]; exact Nat.ne_of_lt (blk_lt (g := gb296) (o := .cells #[.int .i64 a1_0, .int .i64 a1_1, .bool a1_2, .string a1_3] 26 (0, 0)) KK) : gb296 ≠ gb339))
      have n19_ := Aside0.mk ((by rw [hg]; exact Nat.ne_of_gt (blk_lt (g := gb296) (o := .cells #[.int .i64 a1_0, .int .i64 a1_1, .bool a1_2, .string a1_3] 26 (0, 0)) KK) : gb339 ≠ gb296))
      have n20_ := Aside0.mk ((by rw [hg]; exact Nat.ne_of_lt (blk_lt (g := gb318) (o := .cells #[.slice Ao41 t310.length co41, .slice Ao43 t313.length co43, .int .i64 t316] 31 (0, 0)) KK) : gb318 ≠ gb339))
      have n21_ := Aside0.mk ((by rw [hg]; exact Nat.ne_of_gt (blk_lt (g := gb318) (o := .cells #[.slice Ao41 t310.length co41, .slice Ao43 t313.length co43, .int .i64 t316] 31 (0, 0)) KK) : gb339 ≠ gb318))
      have n22_ := Aside0.mk ((by rw [hg]; exact Nat.ne_of_lt (blk_lt (g := gb326) (o := .cells #[.slice Ao50 t319.length co50, .slice Ao55 t322.length co55, .int .i64 t325] 31 (0, 0)) KK) : gb326 ≠ gb339))
      have n23_ := Aside0.mk ((by rw [hg]; exact Nat.ne_of_gt (blk_lt (g := gb326) (o := .cells #[.slice Ao50 t319.length co50, .slice Ao55 t322.length co55, .int .i64 t325] 31 (0, 0)) KK) : gb339 ≠ gb326))
      clear HO301
      clear HO304
      clear HO312
      clear HO315
      clear HO321
      clear HO324
      clear HO333
      clear HO336
      clear BK295
      clear BK296
      clear BK318
      clear BK326
      clear HB
      have HO301 := n0_
      have HO304 := n1_
      have HO312 := n2_
      have HO315 := n3_
      have HO321 := n4_
      have HO324 := n5_
      have HO333 := n6_
      have HO336 := n7_
      have BK295 := n8_
      have BK296 := n9_
      have BK318 := n10_
      have BK326 := n11_
      have HB := n12_
      have BK339 := n13_
      have GW339 := n14_
      have GE339 := n15_
      have NB295_339 := n16_
      have NB339_295 := n17_
      have NB296_339 := n18_
      have NB339_296 := n19_
      have NB318_339 := n20_
      have NB339_318 := n21_
      have NB326_339 := n22_
      have NB339_326 := n23_
      clear n0_ n1_ n2_ n3_ n4_ n5_ n6_ n7_ n8_ n9_ n10_ n11_ n12_ n13_ n14_ n15_ n16_ n17_ n18_ n19_ n20_ n21_ n22_ n23_
      clear hb hbox hg
      refine hK.out _ _ ⟨(blk_cell BK326.out 0).trans rfl, (blk_cell BK326.out 1).trans rfl, (blk_cell BK326.out 2).trans rfl, (blk_cell BK296.out 0).trans rfl, (blk_cell BK296.out 1).trans rfl, (blk_cell BK296.out 2).trans rfl, (blk_cell BK296.out 3).trans rfl⟩ (fun hHeld => ?_)
      clear hK K
      refine norm_ (a' := ?_) ?_ ?_
      rotate_left
      ·show Act.put _ (some 9) _ = _
       simp only [Act.put, List.setIfInBounds_toArray, List.set_cons_zero, List.set_cons_succ, i64_w, i32_w]
       rfl
      exact norm_ (by simp only [putAll, Act.put, List.setIfInBounds_toArray, List.set_cons_zero, List.set_cons_succ]) (hCont (v332, v335, gb339) _ ⟨hHeld, (by (with_reducible repeat (first | apply Kd.R_alloc | apply Kd.R_drewN | apply Kd.R_drew)); exact Kd.R_mono HO301.out (fun _ hk => ⟨hk.1.1.1, ⟨hk.1.1.2.1, ⟨hk.1.1.2.2.1, ⟨hk.1.1.2.2.2.1, ⟨hk.1.1.2.2.2.2, ⟨hk.1.2, hk.2⟩⟩⟩⟩⟩⟩)), (by (with_reducible repeat (first | apply Kd.R_alloc | apply Kd.R_drewN | apply Kd.R_drew)); exact Kd.R_mono HO304.out (fun _ hk => ⟨hk.1.1.1, ⟨hk.1.1.2.1, ⟨hk.1.1.2.2.1, ⟨hk.1.1.2.2.2.1, ⟨hk.1.1.2.2.2.2, ⟨hk.1.2, hk.2⟩⟩⟩⟩⟩⟩)), (by (with_reducible repeat (first | apply Kd.R_alloc | apply Kd.R_drewN | apply Kd.R_drew)); exact Kd.R_mono HO312.out (fun _ hk => ⟨hk.1.1.1, ⟨hk.1.1.2.1, ⟨hk.1.1.2.2.1, ⟨hk.1.1.2.2.2.1, ⟨hk.1.1.2.2.2.2, ⟨hk.1.2, hk.2⟩⟩⟩⟩⟩⟩)), (by (with_reducible repeat (first | apply Kd.R_alloc | apply Kd.R_drewN | apply Kd.R_drew)); exact Kd.R_mono HO315.out (fun _ hk => ⟨hk.1.1.1, ⟨hk.1.1.2.1, ⟨hk.1.1.2.2.1, ⟨hk.1.1.2.2.2.1, ⟨hk.1.1.2.2.2.2, ⟨hk.1.2, hk.2⟩⟩⟩⟩⟩⟩)), (by (with_reducible repeat (first | apply Kd.R_alloc | apply Kd.R_drewN | apply Kd.R_drew)); exact Kd.R_mono HO321.out (fun _ hk => ⟨hk.1.1.1, ⟨hk.1.1.2.1, ⟨hk.1.1.2.2.1, ⟨hk.1.1.2.2.2.1, ⟨hk.1.1.2.2.2.2, ⟨hk.1.2, hk.2⟩⟩⟩⟩⟩⟩)), (by (with_reducible repeat (first | apply Kd.R_alloc | apply Kd.R_drewN | apply Kd.R_drew)); exact Kd.R_mono HO324.out (fun _ hk => ⟨hk.1.1.1, ⟨hk.1.1.2.1, ⟨hk.1.1.2.2.1, ⟨hk.1.1.2.2.2.1, ⟨hk.1.1.2.2.2.2, ⟨hk.1.2, hk.2⟩⟩⟩⟩⟩⟩)), (by (with_reducible repeat (first | apply Kd.R_alloc | apply Kd.R_drewN | apply Kd.R_drew)); exact Kd.R_mono HO333.out (fun _ hk => ⟨hk.1.1.1.1.1.2, ⟨hk.1.1.1.1.2, ⟨hk.1.1.1.2, ⟨hk.1.1.2, ⟨hk.1.2, ⟨hk.2, hk.1.1.1.1.1.1⟩⟩⟩⟩⟩⟩)), (by (with_reducible repeat (first | apply Kd.R_alloc | apply Kd.R_drewN | apply Kd.R_drew)); exact Kd.R_mono HO336.out (fun _ hk => ⟨hk.1.1.1.1.1.2, ⟨hk.1.1.1.1.2, ⟨hk.1.1.1.2, ⟨hk.1.1.2, ⟨hk.1.2, ⟨hk.2, hk.1.1.1.1.1.1⟩⟩⟩⟩⟩⟩)), KK, KK, KK, KK, KK, GW339.out, GE339.out, NB295_339.out, NB339_295.out, NB296_339.out, NB339_296.out, NB318_339.out, NB339_318.out, NB326_339.out, NB339_326.out, KB⟩)
     ·skip
      refine box_step ?hg (N := 9) ?hd (cs := #[.slice none 0 0, .slice none 0 0, .int .i64 0]) (t := 31) ?hr ?_; (case hd => rfl); (case hg => rfl); (case hr => first | (go_simp; done) | (go_simp; rfl))
      intro gb339 hg w59 hbox hb
      have n0_ := Aside0.mk (Kd.R_below (KR HO301.out) hb)
      have n1_ := Aside0.mk (Kd.R_below (KR HO304.out) hb)
      have n2_ := Aside0.mk (Kd.R_below (KR HO312.out) hb)
      have n3_ := Aside0.mk (Kd.R_below (KR HO315.out) hb)
      have n4_ := Aside0.mk (Kd.R_below (KR HO321.out) hb)
      have n5_ := Aside0.mk (Kd.R_below (KR HO324.out) hb)
      have n6_ := Aside0.mk (blk_below (g := gb295) (o := .cells #[.slice A0_0 l0_0.length c0_0, .slice A0_1 l0_1.length c0_1, .int .i64 a0_2] 24 (0, 0)) KK hb)
      have n7_ := Aside0.mk (blk_below (g := gb296) (o := .cells #[.int .i64 a1_0, .int .i64 a1_1, .bool a1_2, .string a1_3] 26 (0, 0)) KK hb)
      have n8_ := Aside0.mk (blk_below (g := gb318) (o := .cells #[.slice Ao41 t310.length co41, .slice Ao43 t313.length co43, .int .i64 t316] 31 (0, 0)) KK hb)
      have n9_ := Aside0.mk (blk_below (g := gb326) (o := .cells #[.slice Ao50 t319.length co50, .slice Ao55 t322.length co55, .int .i64 t325] 31 (0, 0)) KK hb)
      have n10_ := Aside0.mk (below_step KB hb)
      have n11_ := Aside0.mk (hbox)
      have n12_ := Aside0.mk ((KG hg : w.heap.size ≤ gb339))
      have n13_ := Aside0.mk ((KG hg : w.heap.size ≤ gb339))
      have n14_ := Aside0.mk ((by rw [hg]; exact Nat.ne_of_lt (blk_lt (g := gb295) (o := .cells #[.slice A0_0 l0_0.length c0_0, .slice A0_1 l0_1.length c0_1, .int .i64 a0_2] 24 (0, 0)) KK) : gb295 ≠ gb339))
      have n15_ := Aside0.mk ((by rw [hg]; exact Nat.ne_of_gt (blk_lt (g := gb295) (o := .cells #[.slice A0_0 l0_0.length c0_0, .slice A0_1 l0_1.length c0_1, .int .i64 a0_2] 24 (0, 0)) KK) : gb339 ≠ gb295))
      have n16_ := Aside0.mk ((by rw [hg]; exact Nat.ne_of_lt (blk_lt (g := gb296) (o := .cells #[.int .i64 a1_0, .int .i64 a1_1, .bool a1_2, .string a1_3] 26 (0, 0)) KK) : gb296 ≠ gb339))
      have n17_ := Aside0.mk ((by rw [hg]; exact Nat.ne_of_gt (blk_lt (g := gb296) (o := .cells #[.int .i64 a1_0, .int .i64 a1_1, .bool a1_2, .string a1_3] 26 (0, 0)) KK) : gb339 ≠ gb296))
      have n18_ := Aside0.mk ((by rw [hg]; exact Nat.ne_of_lt (blk_lt (g := gb318) (o := .cells #[.slice Ao41 t310.length co41, .slice Ao43 t313.length co43, .int .i64 t316] 31 (0, 0)) KK) : gb318 ≠ gb339))
      have n19_ := Aside0.mk ((by rw [hg]; exact Nat.ne_of_gt (blk_lt (g := gb318) (o := .cells #[.slice Ao41 t310.length co41, .slice Ao43 t313.length co43, .int .i64 t316] 31 (0, 0)) KK) : gb339 ≠ gb318))
      have n20_ := Aside0.mk ((by rw [hg]; exact Nat.ne_of_lt (blk_lt (g := gb326) (o := .cells #[.slice Ao50 t319.length co50, .slice Ao55 t322.length co55, .int .i64 t325] 31 (0, 0)) KK) : gb326 ≠ gb339))
      have n21_ := Aside0.mk ((by rw [hg]; exact Nat.ne_of_gt (blk_lt (g := gb326) (o := .cells #[.slice Ao50 t319.length co50, .slice Ao55 t322.length co55, .int .i64 t325] 31 (0, 0)) KK) : gb339 ≠ gb326))
      clear HO301
      clear HO304
      clear HO312
      clear HO315
      clear HO321
      clear HO324
      clear BK295
      clear BK296
      clear BK318
      clear BK326
      clear HB
      have HO301 := n0_
      have HO304 := n1_
      have HO312 := n2_
      have HO315 := n3_
      have HO321 := n4_
      have HO324 := n5_
      have BK295 := n6_
      have BK296 := n7_
      have BK318 := n8_
      have BK326 := n9_
      have HB := n10_
      have BK339 := n11_
      have GW339 := n12_
      have GE339 := n13_
      have NB295_339 := n14_
      have NB339_295 := n15_
      have NB296_339 := n16_
      have NB339_296 := n17_
      have NB318_339 := n18_
      have NB339_318 := n19_
      have NB326_339 := n20_
      have NB339_326 := n21_
      clear n0_ n1_ n2_ n3_ n4_ n5_ n6_ n7_ n8_ n9_ n10_ n11_ n12_ n13_ n14_ n15_ n16_ n17_ n18_ n19_ n20_ n21_
      clear hb hbox hg
      refine hK.out _ _ ⟨(blk_cell BK326.out 0).trans rfl, (blk_cell BK326.out 1).trans rfl, (blk_cell BK326.out 2).trans rfl, (blk_cell BK296.out 0).trans rfl, (blk_cell BK296.out 1).trans rfl, (blk_cell BK296.out 2).trans rfl, (blk_cell BK296.out 3).trans rfl⟩ (fun hHeld => ?_)
      clear hK K
      refine norm_ (a' := ?_) ?_ ?_
      rotate_left
      ·show Act.put _ (some 9) _ = _
       simp only [Act.put, List.setIfInBounds_toArray, List.set_cons_zero, List.set_cons_succ, i64_w, i32_w]
       rfl
      refine one_ (i := 3) (N := some 40) #[true, true, true, true, false, false, false, true, false, false] rfl rfl (one_of HT_.out (by kernel_rfl)) (by decide) (fun K hK => ?_)
      refine goes_ Try.func14 (by kernel_rfl) rfl #[.agg #[.slice Ao50 t319.length co50, .slice Ao55 t322.length co55, .int .i64 t325], .agg #[.int .i64 t327, .int .i64 t328, .bool t329, .string t330]] (by rfl) rfl rfl KL ?_
      with_reducible refine (impl_StorePut.calls k _ _ t319 _ _ t322 t325 t327 t328 t329 t330 t331 t334 t337 t338 _ ?side1 ?side2 ?side3 ?side4 A24.out).mono ?_
      (case side1 => repeat (first | exact (Kd.R_reads' HO321.out).2.2 | (with_reducible refine Kd.C_alloc ?_ _) | (with_reducible refine Kd.C_drewN ?_ _) | (with_reducible refine Kd.C_drew ?_)))
      (case side2 => exact (Kd.R_reads' HO321.out).2.1)
      (case side3 => repeat (first | exact (Kd.R_reads' HO324.out).2.2 | (with_reducible refine Kd.C_alloc ?_ _) | (with_reducible refine Kd.C_drewN ?_ _) | (with_reducible refine Kd.C_drew ?_)))
      (case side4 => exact (Kd.R_reads' HO324.out).2.1)
      rintro e w60 ⟨v332, v335, rfl, ho0, ho1, hb⟩
      refine ⟨_, rfl, ?_⟩
      have n0_ := Aside0.mk (Kd.R_mono (Kd.R_told (Kd.R_told (Kd.R_old (KR HO301.out) hb) (Kd.R_base ho0)) (Kd.R_base ho1)) (fun _ h_ => h_.1))
      have n1_ := Aside0.mk (Kd.R_mono (Kd.R_told (Kd.R_told (Kd.R_old (KR HO304.out) hb) (Kd.R_base ho0)) (Kd.R_base ho1)) (fun _ h_ => h_.1))
      have n2_ := Aside0.mk (Kd.R_mono (Kd.R_told (Kd.R_told (Kd.R_old (KR HO312.out) hb) (Kd.R_base ho0)) (Kd.R_base ho1)) (fun _ h_ => h_.1))
      have n3_ := Aside0.mk (Kd.R_mono (Kd.R_told (Kd.R_told (Kd.R_old (KR HO315.out) hb) (Kd.R_base ho0)) (Kd.R_base ho1)) (fun _ h_ => h_.1))
      have n4_ := Aside0.mk (Kd.R_mono (Kd.R_told (Kd.R_told (Kd.R_old (KR HO321.out) hb) (Kd.R_base ho0)) (Kd.R_base ho1)) (fun _ h_ => h_.1))
      have n5_ := Aside0.mk (Kd.R_mono (Kd.R_told (Kd.R_told (Kd.R_old (KR HO324.out) hb) (Kd.R_base ho0)) (Kd.R_base ho1)) (fun _ h_ => h_.1))
      have n6_ := Aside0.mk (Kd.R_lower (Kd.R_new' (Kd.R_new' (Kd.R_new' (Kd.R_new' (Kd.R_new' (Kd.R_new' ho0 (Kd.R_lt (KR HO301.out))) (Kd.R_lt (KR HO304.out))) (Kd.R_lt (KR HO312.out))) (Kd.R_lt (KR HO315.out))) (Kd.R_lt (KR HO321.out))) (Kd.R_lt (KR HO324.out))) (below_size KB))
      have n7_ := Aside0.mk (Kd.R_lower (Kd.R_new' (Kd.R_new' (Kd.R_new' (Kd.R_new' (Kd.R_new' (Kd.R_new' ho1 (Kd.R_lt (KR HO301.out))) (Kd.R_lt (KR HO304.out))) (Kd.R_lt (KR HO312.out))) (Kd.R_lt (KR HO315.out))) (Kd.R_lt (KR HO321.out))) (Kd.R_lt (KR HO324.out))) (below_size KB))
      have n8_ := Aside0.mk (blk_below (g := gb295) (o := .cells #[.slice A0_0 l0_0.length c0_0, .slice A0_1 l0_1.length c0_1, .int .i64 a0_2] 24 (0, 0)) KK hb)
      have n9_ := Aside0.mk (blk_below (g := gb296) (o := .cells #[.int .i64 a1_0, .int .i64 a1_1, .bool a1_2, .string a1_3] 26 (0, 0)) KK hb)
      have n10_ := Aside0.mk (blk_below (g := gb318) (o := .cells #[.slice Ao41 t310.length co41, .slice Ao43 t313.length co43, .int .i64 t316] 31 (0, 0)) KK hb)
      have n11_ := Aside0.mk (blk_below (g := gb326) (o := .cells #[.slice Ao50 t319.length co50, .slice Ao55 t322.length co55, .int .i64 t325] 31 (0, 0)) KK hb)
      have n12_ := Aside0.mk (blk_below (g := gb339) (o := .cells #[.slice none 0 0, .slice none 0 0, .int .i64 0] 31 (0, 0)) KK hb)
      have n13_ := Aside0.mk (below_step KB hb)
      clear HO301
      clear HO304
      clear HO312
      clear HO315
      clear HO321
      clear HO324
      clear BK295
      clear BK296
      clear BK318
      clear BK326
      clear BK339
      clear HB
      have HO301 := n0_
      have HO304 := n1_
      have HO312 := n2_
      have HO315 := n3_
      have HO321 := n4_
      have HO324 := n5_
      have HO333 := n6_
      have HO336 := n7_
      have BK295 := n8_
      have BK296 := n9_
      have BK318 := n10_
      have BK326 := n11_
      have BK339 := n12_
      have HB := n13_
      clear n0_ n1_ n2_ n3_ n4_ n5_ n6_ n7_ n8_ n9_ n10_ n11_ n12_ n13_
      (try clear hb)
      (try clear hb2)
      (try clear hk)
      (try clear hi)
      (try clear ho0)
      (try clear ho1)
      refine hK.out _ _ ⟨(blk_cell BK326.out 0).trans rfl, (blk_cell BK326.out 1).trans rfl, (blk_cell BK326.out 2).trans rfl, (blk_cell BK296.out 0).trans rfl, (blk_cell BK296.out 1).trans rfl, (blk_cell BK296.out 2).trans rfl, (blk_cell BK296.out 3).trans rfl⟩ (fun hHeld => ?_)
      clear hK K
      refine norm_ (a' := ?_) ?_ ?_
      rotate_left
      ·show Act.put _ (some 40) _ = _
       simp only [Act.put, List.setIfInBounds_toArray, List.set_cons_zero, List.set_cons_succ, i64_w, i32_w]
       rfl
      refine pure_ (i := 4) (N := some 36) (v := ?_) (a' := ?_) #[true, true, true, true, true, false, false, true, false, false] rfl rfl (any_of HT_.out (by kernel_rfl)) (fun _ _ _ h => h) (Or.inl ⟨by rfl, ?_⟩) ?_ ?_
      rotate_left
      ·intro w'
       go_simp
       with_reducible rfl
      rotate_left
      ·simp only [Act.put, List.setIfInBounds_toArray, List.set_cons_zero, List.set_cons_succ, i64_w, i32_w]
       rfl
      refine pure_ (i := 5) (N := some 41) (v := ?_) (a' := ?_) #[true, true, true, true, true, true, false, true, false, false] rfl rfl (any_of HT_.out (by kernel_rfl)) (fun _ _ _ h => h) (Or.inl ⟨by rfl, ?_⟩) ?_ ?_
      rotate_left
      ·intro w'
       go_simp
       with_reducible rfl
      rotate_left
      ·simp only [Act.put, List.setIfInBounds_toArray, List.set_cons_zero, List.set_cons_succ, i64_w, i32_w]
       rfl
      refine pure_ (i := 6) (N := some 42) (v := ?_) (a' := ?_) #[true, true, true, true, true, true, true, true, false, false] rfl rfl (any_of HT_.out (by kernel_rfl)) (fun _ _ _ h => h) (Or.inl ⟨by rfl, ?_⟩) ?_ ?_
      rotate_left
      ·intro w'
       go_simp
       with_reducible rfl
      rotate_left
      ·simp only [Act.put, List.setIfInBounds_toArray, List.set_cons_zero, List.set_cons_succ, i64_w, i32_w]
       rfl
      exact norm_ (by simp only [putAll, Act.put, List.setIfInBounds_toArray, List.set_cons_zero, List.set_cons_succ]) (hCont (v332, v335, gb339) _ ⟨hHeld, (by (with_reducible repeat (first | apply Kd.R_alloc | apply Kd.R_drewN | apply Kd.R_drew)); exact Kd.R_mono HO301.out (fun _ hk => ⟨hk.1.1.1, ⟨hk.1.1.2.1, ⟨hk.1.1.2.2.1, ⟨hk.1.1.2.2.2.1, ⟨hk.1.1.2.2.2.2, ⟨hk.1.2, hk.2⟩⟩⟩⟩⟩⟩)), (by (with_reducible repeat (first | apply Kd.R_alloc | apply Kd.R_drewN | apply Kd.R_drew)); exact Kd.R_mono HO304.out (fun _ hk => ⟨hk.1.1.1, ⟨hk.1.1.2.1, ⟨hk.1.1.2.2.1, ⟨hk.1.1.2.2.2.1, ⟨hk.1.1.2.2.2.2, ⟨hk.1.2, hk.2⟩⟩⟩⟩⟩⟩)), (by (with_reducible repeat (first | apply Kd.R_alloc | apply Kd.R_drewN | apply Kd.R_drew)); exact Kd.R_mono HO312.out (fun _ hk => ⟨hk.1.1.1, ⟨hk.1.1.2.1, ⟨hk.1.1.2.2.1, ⟨hk.1.1.2.2.2.1, ⟨hk.1.1.2.2.2.2, ⟨hk.1.2, hk.2⟩⟩⟩⟩⟩⟩)), (by (with_reducible repeat (first | apply Kd.R_alloc | apply Kd.R_drewN | apply Kd.R_drew)); exact Kd.R_mono HO315.out (fun _ hk => ⟨hk.1.1.1, ⟨hk.1.1.2.1, ⟨hk.1.1.2.2.1, ⟨hk.1.1.2.2.2.1, ⟨hk.1.1.2.2.2.2, ⟨hk.1.2, hk.2⟩⟩⟩⟩⟩⟩)), (by (with_reducible repeat (first | apply Kd.R_alloc | apply Kd.R_drewN | apply Kd.R_drew)); exact Kd.R_mono HO321.out (fun _ hk => ⟨hk.1.1.1, ⟨hk.1.1.2.1, ⟨hk.1.1.2.2.1, ⟨hk.1.1.2.2.2.1, ⟨hk.1.1.2.2.2.2, ⟨hk.1.2, hk.2⟩⟩⟩⟩⟩⟩)), (by (with_reducible repeat (first | apply Kd.R_alloc | apply Kd.R_drewN | apply Kd.R_drew)); exact Kd.R_mono HO324.out (fun _ hk => ⟨hk.1.1.1, ⟨hk.1.1.2.1, ⟨hk.1.1.2.2.1, ⟨hk.1.1.2.2.2.1, ⟨hk.1.1.2.2.2.2, ⟨hk.1.2, hk.2⟩⟩⟩⟩⟩⟩)), (by (with_reducible repeat (first | apply Kd.R_alloc | apply Kd.R_drewN | apply Kd.R_drew)); exact Kd.R_mono HO333.out (fun _ hk => ⟨hk.1.1.1.1.1.2, ⟨hk.1.1.1.1.2, ⟨hk.1.1.1.2, ⟨hk.1.1.2, ⟨hk.1.2, ⟨hk.2, hk.1.1.1.1.1.1⟩⟩⟩⟩⟩⟩)), (by (with_reducible repeat (first | apply Kd.R_alloc | apply Kd.R_drewN | apply Kd.R_drew)); exact Kd.R_mono HO336.out (fun _ hk => ⟨hk.1.1.1.1.1.2, ⟨hk.1.1.1.1.2, ⟨hk.1.1.1.2, ⟨hk.1.1.2, ⟨hk.1.2, ⟨hk.2, hk.1.1.1.1.1.1⟩⟩⟩⟩⟩⟩)), KK, KK, KK, KK, KK, GW339.out, GE339.out, NB295_339.out, NB339_295.out, NB296_339.out, NB339_296.out, NB318_339.out, NB339_318.out, NB326_339.out, NB339_326.out, KB⟩)
    ·skip
     refine box_step ?hg (N := 9) ?hd (cs := #[.slice none 0 0, .slice none 0 0, .int .i64 0]) (t := 31) ?hr ?_; (case hd => rfl); (case hg => rfl); (case hr => first | (go_simp; done) | (go_simp; rfl))
     intro gb339 hg w58 hbox hb
     have n0_ := Aside0.mk (Kd.R_below (KR HO301.out) hb)
     have n1_ := Aside0.mk (Kd.R_below (KR HO304.out) hb)
     have n2_ := Aside0.mk (Kd.R_below (KR HO312.out) hb)
     have n3_ := Aside0.mk (Kd.R_below (KR HO315.out) hb)
     have n4_ := Aside0.mk (Kd.R_below (KR HO321.out) hb)
     have n5_ := Aside0.mk (Kd.R_below (KR HO324.out) hb)
     have n6_ := Aside0.mk (blk_below (g := gb295) (o := .cells #[.slice A0_0 l0_0.length c0_0, .slice A0_1 l0_1.length c0_1, .int .i64 a0_2] 24 (0, 0)) KK hb)
     have n7_ := Aside0.mk (blk_below (g := gb296) (o := .cells #[.int .i64 a1_0, .int .i64 a1_1, .bool a1_2, .string a1_3] 26 (0, 0)) KK hb)
     have n8_ := Aside0.mk (blk_below (g := gb318) (o := .cells #[.slice Ao41 t310.length co41, .slice Ao43 t313.length co43, .int .i64 t316] 31 (0, 0)) KK hb)
     have n9_ := Aside0.mk (blk_below (g := gb326) (o := .cells #[.slice Ao50 t319.length co50, .slice Ao55 t322.length co55, .int .i64 t325] 31 (0, 0)) KK hb)
     have n10_ := Aside0.mk (below_step KB hb)
     have n11_ := Aside0.mk (hbox)
     have n12_ := Aside0.mk ((KG hg : w.heap.size ≤ gb339))
     have n13_ := Aside0.mk ((KG hg : w.heap.size ≤ gb339))
     have n14_ := Aside0.mk ((by rw [hg]; exact Nat.ne_of_lt (blk_lt (g := gb295) (o := .cells #[.slice A0_0 l0_0.length c0_0, .slice A0_1 l0_1.length c0_1, .int .i64 a0_2] 24 (0, 0)) KK) : gb295 ≠ gb339))
     have n15_ := Aside0.mk ((by rw [hg]; exact Nat.ne_of_gt (blk_lt (g := gb295) (o := .cells #[.slice A0_0 l0_0.length c0_0, .slice A0_1 l0_1.length c0_1, .int .i64 a0_2] 24 (0, 0)) KK) : gb339 ≠ gb295))
     have n16_ := Aside0.mk ((by rw [hg]; exact Nat.ne_of_lt (blk_lt (g := gb296) (o := .cells #[.int .i64 a1_0, .int .i64 a1_1, .bool a1_2, .string a1_3] 26 (0, 0)) KK) : gb296 ≠ gb339))
     have n17_ := Aside0.mk ((by rw [hg]; exact Nat.ne_of_gt (blk_lt (g := gb296) (o := .cells #[.int .i64 a1_0, .int .i64 a1_1, .bool a1_2, .string a1_3] 26 (0, 0)) KK) : gb339 ≠ gb296))
     have n18_ := Aside0.mk ((by rw [hg]; exact Nat.ne_of_lt (blk_lt (g := gb318) (o := .cells #[.slice Ao41 t310.length co41, .slice Ao43 t313.length co43, .int .i64 t316] 31 (0, 0)) KK) : gb318 ≠ gb339))
     have n19_ := Aside0.mk ((by rw [hg]; exact Nat.ne_of_gt (blk_lt (g := gb318) (o := .cells #[.slice Ao41 t310.length co41, .slice Ao43 t313.length co43, .int .i64 t316] 31 (0, 0)) KK) : gb339 ≠ gb318))
     have n20_ := Aside0.mk ((by rw [hg]; exact Nat.ne_of_lt (blk_lt (g := gb326) (o := .cells #[.slice Ao50 t319.length co50, .slice Ao55 t322.length co55, .int .i64 t325] 31 (0, 0)) KK) : gb326 ≠ gb339))
     have n21_ := Aside0.mk ((by rw [hg]; exact Nat.ne_of_gt (blk_lt (g := gb326) (o := .cells #[.slice Ao50 t319.length co50, .slice Ao55 t322.length co55, .int .i64 t325] 31 (0, 0)) KK) : gb339 ≠ gb326))
     clear HO301
     clear HO304
     clear HO312
     clear HO315
     clear HO321
     clear HO324
     clear BK295
     clear BK296
     clear BK318
     clear BK326
     clear HB
     have HO301 := n0_
     have HO304 := n1_
     have HO312 := n2_
     have HO315 := n3_
     have HO321 := n4_
     have HO324 := n5_
     have BK295 := n6_
     have BK296 := n7_
     have BK318 := n8_
     have BK326 := n9_
     have HB := n10_
     have BK339 := n11_
     have GW339 := n12_
     have GE339 := n13_
     have NB295_339 := n14_
     have NB339_295 := n15_
     have NB296_339 := n16_
     have NB339_296 := n17_
     have NB318_339 := n18_
     have NB339_318 := n19_
     have NB326_339 := n20_
     have NB339_326 := n21_
     clear n0_ n1_ n2_ n3_ n4_ n5_ n6_ n7_ n8_ n9_ n10_ n11_ n12_ n13_ n14_ n15_ n16_ n17_ n18_ n19_ n20_ n21_
     clear hb hbox hg
     refine hK.out _ _ ⟨(blk_cell BK326.out 0).trans rfl, (blk_cell BK326.out 1).trans rfl, (blk_cell BK326.out 2).trans rfl, (blk_cell BK296.out 0).trans rfl, (blk_cell BK296.out 1).trans rfl, (blk_cell BK296.out 2).trans rfl, (blk_cell BK296.out 3).trans rfl⟩ (fun hHeld => ?_)
     clear hK K
     refine norm_ (a' := ?_) ?_ ?_
     rotate_left
     ·show Act.put _ (some 9) _ = _
      simp only [Act.put, List.setIfInBounds_toArray, List.set_cons_zero, List.set_cons_succ, i64_w, i32_w]
      rfl
     refine one_ (i := 2) (N := some 39) #[true, true, true, false, false, false, false, true, false, false] rfl rfl (one_of HT_.out (by kernel_rfl)) (by decide) (fun K hK => ?_)
     refine goes_ Try.func13 (by kernel_rfl) rfl #[.agg #[.int .i64 a1_0, .int .i64 a1_1, .bool a1_2, .string a1_3]] (by rfl) rfl rfl KL ?_
     with_reducible refine (laws_toEntry.calls a1_0 a1_1 a1_2 a1_3 t327 t328 t329 t330 _ A23.out).mono ?_
     rintro e w59 ⟨rfl, hb⟩
     refine ⟨_, rfl, ?_⟩
     have n0_ := Aside0.mk (Kd.R_below (KR HO301.out) hb)
     have n1_ := Aside0.mk (Kd.R_below (KR HO304.out) hb)
     have n2_ := Aside0.mk (Kd.R_below (KR HO312.out) hb)
     have n3_ := Aside0.mk (Kd.R_below (KR HO315.out) hb)
     have n4_ := Aside0.mk (Kd.R_below (KR HO321.out) hb)
     have n5_ := Aside0.mk (Kd.R_below (KR HO324.out) hb)
     have n6_ := Aside0.mk (blk_below (g := gb295) (o := .cells #[.slice A0_0 l0_0.length c0_0, .slice A0_1 l0_1.length c0_1, .int .i64 a0_2] 24 (0, 0)) KK hb)
     have n7_ := Aside0.mk (blk_below (g := gb296) (o := .cells #[.int .i64 a1_0, .int .i64 a1_1, .bool a1_2, .string a1_3] 26 (0, 0)) KK hb)
     have n8_ := Aside0.mk (blk_below (g := gb318) (o := .cells #[.slice Ao41 t310.length co41, .slice Ao43 t313.length co43, .int .i64 t316] 31 (0, 0)) KK hb)
     have n9_ := Aside0.mk (blk_below (g := gb326) (o := .cells #[.slice Ao50 t319.length co50, .slice Ao55 t322.length co55, .int .i64 t325] 31 (0, 0)) KK hb)
     have n10_ := Aside0.mk (blk_below (g := gb339) (o := .cells #[.slice none 0 0, .slice none 0 0, .int .i64 0] 31 (0, 0)) KK hb)
     have n11_ := Aside0.mk (below_step KB hb)
     clear HO301
     clear HO304
     clear HO312
     clear HO315
     clear HO321
     clear HO324
     clear BK295
     clear BK296
     clear BK318
     clear BK326
     clear BK339
     clear HB
     have HO301 := n0_
     have HO304 := n1_
     have HO312 := n2_
     have HO315 := n3_
     have HO321 := n4_
     have HO324 := n5_
     have BK295 := n6_
     have BK296 := n7_
     have BK318 := n8_
     have BK326 := n9_
     have BK339 := n10_
     have HB := n11_
     clear n0_ n1_ n2_ n3_ n4_ n5_ n6_ n7_ n8_ n9_ n10_ n11_
     (try clear hb)
     (try clear hb2)
     (try clear hk)
     (try clear hi)
     refine hK.out _ _ ⟨(blk_cell BK326.out 0).trans rfl, (blk_cell BK326.out 1).trans rfl, (blk_cell BK326.out 2).trans rfl, (blk_cell BK296.out 0).trans rfl, (blk_cell BK296.out 1).trans rfl, (blk_cell BK296.out 2).trans rfl, (blk_cell BK296.out 3).trans rfl⟩ (fun hHeld => ?_)
     clear hK K
     refine norm_ (a' := ?_) ?_ ?_
     rotate_left
     ·show Act.put _ (some 39) _ = _
      simp only [Act.put, List.setIfInBounds_toArray, List.set_cons_zero, List.set_cons_succ, i64_w, i32_w]
      rfl
     refine one_ (i := 3) (N := some 40) #[true, true, true, true, false, false, false, true, false, false] rfl rfl (one_of HT_.out (by kernel_rfl)) (by decide) (fun K hK => ?_)
     refine goes_ Try.func14 (by kernel_rfl) rfl #[.agg #[.slice Ao50 t319.length co50, .slice Ao55 t322.length co55, .int .i64 t325], .agg #[.int .i64 t327, .int .i64 t328, .bool t329, .string t330]] (by rfl) rfl rfl KL ?_
     with_reducible refine (impl_StorePut.calls k _ _ t319 _ _ t322 t325 t327 t328 t329 t330 t331 t334 t337 t338 _ ?side1 ?side2 ?side3 ?side4 A24.out).mono ?_
     (case side1 => repeat (first | exact (Kd.R_reads' HO321.out).2.2 | (with_reducible refine Kd.C_alloc ?_ _) | (with_reducible refine Kd.C_drewN ?_ _) | (with_reducible refine Kd.C_drew ?_)))
     (case side2 => exact (Kd.R_reads' HO321.out).2.1)
     (case side3 => repeat (first | exact (Kd.R_reads' HO324.out).2.2 | (with_reducible refine Kd.C_alloc ?_ _) | (with_reducible refine Kd.C_drewN ?_ _) | (with_reducible refine Kd.C_drew ?_)))
     (case side4 => exact (Kd.R_reads' HO324.out).2.1)
     rintro e w60 ⟨v332, v335, rfl, ho0, ho1, hb⟩
     refine ⟨_, rfl, ?_⟩
     have n0_ := Aside0.mk (Kd.R_mono (Kd.R_told (Kd.R_told (Kd.R_old (KR HO301.out) hb) (Kd.R_base ho0)) (Kd.R_base ho1)) (fun _ h_ => h_.1))
     have n1_ := Aside0.mk (Kd.R_mono (Kd.R_told (Kd.R_told (Kd.R_old (KR HO304.out) hb) (Kd.R_base ho0)) (Kd.R_base ho1)) (fun _ h_ => h_.1))
     have n2_ := Aside0.mk (Kd.R_mono (Kd.R_told (Kd.R_told (Kd.R_old (KR HO312.out) hb) (Kd.R_base ho0)) (Kd.R_base ho1)) (fun _ h_ => h_.1))
     have n3_ := Aside0.mk (Kd.R_mono (Kd.R_told (Kd.R_told (Kd.R_old (KR HO315.out) hb) (Kd.R_base ho0)) (Kd.R_base ho1)) (fun _ h_ => h_.1))
     have n4_ := Aside0.mk (Kd.R_mono (Kd.R_told (Kd.R_told (Kd.R_old (KR HO321.out) hb) (Kd.R_base ho0)) (Kd.R_base ho1)) (fun _ h_ => h_.1))
     have n5_ := Aside0.mk (Kd.R_mono (Kd.R_told (Kd.R_told (Kd.R_old (KR HO324.out) hb) (Kd.R_base ho0)) (Kd.R_base ho1)) (fun _ h_ => h_.1))
     have n6_ := Aside0.mk (Kd.R_lower (Kd.R_new' (Kd.R_new' (Kd.R_new' (Kd.R_new' (Kd.R_new' (Kd.R_new' ho0 (Kd.R_lt (KR HO301.out))) (Kd.R_lt (KR HO304.out))) (Kd.R_lt (KR HO312.out))) (Kd.R_lt (KR HO315.out))) (Kd.R_lt (KR HO321.out))) (Kd.R_lt (KR HO324.out))) (below_size KB))
     have n7_ := Aside0.mk (Kd.R_lower (Kd.R_new' (Kd.R_new' (Kd.R_new' (Kd.R_new' (Kd.R_new' (Kd.R_new' ho1 (Kd.R_lt (KR HO301.out))) (Kd.R_lt (KR HO304.out))) (Kd.R_lt (KR HO312.out))) (Kd.R_lt (KR HO315.out))) (Kd.R_lt (KR HO321.out))) (Kd.R_lt (KR HO324.out))) (below_size KB))
     have n8_ := Aside0.mk (blk_below (g := gb295) (o := .cells #[.slice A0_0 l0_0.length c0_0, .slice A0_1 l0_1.length c0_1, .int .i64 a0_2] 24 (0, 0)) KK hb)
     have n9_ := Aside0.mk (blk_below (g := gb296) (o := .cells #[.int .i64 a1_0, .int .i64 a1_1, .bool a1_2, .string a1_3] 26 (0, 0)) KK hb)
     have n10_ := Aside0.mk (blk_below (g := gb318) (o := .cells #[.slice Ao41 t310.length co41, .slice Ao43 t313.length co43, .int .i64 t316] 31 (0, 0)) KK hb)
     have n11_ := Aside0.mk (blk_below (g := gb326) (o := .cells #[.slice Ao50 t319.length co50, .slice Ao55 t322.length co55, .int .i64 t325] 31 (0, 0)) KK hb)
     have n12_ := Aside0.mk (blk_below (g := gb339) (o := .cells #[.slice none 0 0, .slice none 0 0, .int .i64 0] 31 (0, 0)) KK hb)
     have n13_ := Aside0.mk (below_step KB hb)
     clear HO301
     clear HO304
     clear HO312
     clear HO315
     clear HO321
     clear HO324
     clear BK295
     clear BK296
     clear BK318
     clear BK326
     clear BK339
     clear HB
     have HO301 := n0_
     have HO304 := n1_
     have HO312 := n2_
     have HO315 := n3_
     have HO321 := n4_
     have HO324 := n5_
     have HO333 := n6_
     have HO336 := n7_
     have BK295 := n8_
     have BK296 := n9_
     have BK318 := n10_
     have BK326 := n11_
     have BK339 := n12_
     have HB := n13_
     clear n0_ n1_ n2_ n3_ n4_ n5_ n6_ n7_ n8_ n9_ n10_ n11_ n12_ n13_
     (try clear hb)
     (try clear hb2)
     (try clear hk)
     (try clear hi)
     (try clear ho0)
     (try clear ho1)
     refine hK.out _ _ ⟨(blk_cell BK326.out 0).trans rfl, (blk_cell BK326.out 1).trans rfl, (blk_cell BK326.out 2).trans rfl, (blk_cell BK296.out 0).trans rfl, (blk_cell BK296.out 1).trans rfl, (blk_cell BK296.out 2).trans rfl, (blk_cell BK296.out 3).trans rfl⟩ (fun hHeld => ?_)
     clear hK K
     refine norm_ (a' := ?_) ?_ ?_
     rotate_left
     ·show Act.put _ (some 40) _ = _
      simp only [Act.put, List.setIfInBounds_toArray, List.set_cons_zero, List.set_cons_succ, i64_w, i32_w]
      rfl
     refine pure_ (i := 4) (N := some 36) (v := ?_) (a' := ?_) #[true, true, true, true, true, false, false, true, false, false] rfl rfl (any_of HT_.out (by kernel_rfl)) (fun _ _ _ h => h) (Or.inl ⟨by rfl, ?_⟩) ?_ ?_
     rotate_left
     ·intro w'
      go_simp
      with_reducible rfl
     rotate_left
     ·simp only [Act.put, List.setIfInBounds_toArray, List.set_cons_zero, List.set_cons_succ, i64_w, i32_w]
      rfl
     refine pure_ (i := 5) (N := some 41) (v := ?_) (a' := ?_) #[true, true, true, true, true, true, false, true, false, false] rfl rfl (any_of HT_.out (by kernel_rfl)) (fun _ _ _ h => h) (Or.inl ⟨by rfl, ?_⟩) ?_ ?_
     rotate_left
     ·intro w'
      go_simp
      with_reducible rfl
     rotate_left
     ·simp only [Act.put, List.setIfInBounds_toArray, List.set_cons_zero, List.set_cons_succ, i64_w, i32_w]
      rfl
     refine pure_ (i := 6) (N := some 42) (v := ?_) (a' := ?_) #[true, true, true, true, true, true, true, true, false, false] rfl rfl (any_of HT_.out (by kernel_rfl)) (fun _ _ _ h => h) (Or.inl ⟨by rfl, ?_⟩) ?_ ?_
     rotate_left
     ·intro w'
      go_simp
      with_reducible rfl
     rotate_left
     ·simp only [Act.put, List.setIfInBounds_toArray, List.set_cons_zero, List.set_cons_succ, i64_w, i32_w]
      rfl
     exact norm_ (by simp only [putAll, Act.put, List.setIfInBounds_toArray, List.set_cons_zero, List.set_cons_succ]) (hCont (v332, v335, gb339) _ ⟨hHeld, (by (with_reducible repeat (first | apply Kd.R_alloc | apply Kd.R_drewN | apply Kd.R_drew)); exact Kd.R_mono HO301.out (fun _ hk => ⟨hk.1.1.1, ⟨hk.1.1.2.1, ⟨hk.1.1.2.2.1, ⟨hk.1.1.2.2.2.1, ⟨hk.1.1.2.2.2.2, ⟨hk.1.2, hk.2⟩⟩⟩⟩⟩⟩)), (by (with_reducible repeat (first | apply Kd.R_alloc | apply Kd.R_drewN | apply Kd.R_drew)); exact Kd.R_mono HO304.out (fun _ hk => ⟨hk.1.1.1, ⟨hk.1.1.2.1, ⟨hk.1.1.2.2.1, ⟨hk.1.1.2.2.2.1, ⟨hk.1.1.2.2.2.2, ⟨hk.1.2, hk.2⟩⟩⟩⟩⟩⟩)), (by (with_reducible repeat (first | apply Kd.R_alloc | apply Kd.R_drewN | apply Kd.R_drew)); exact Kd.R_mono HO312.out (fun _ hk => ⟨hk.1.1.1, ⟨hk.1.1.2.1, ⟨hk.1.1.2.2.1, ⟨hk.1.1.2.2.2.1, ⟨hk.1.1.2.2.2.2, ⟨hk.1.2, hk.2⟩⟩⟩⟩⟩⟩)), (by (with_reducible repeat (first | apply Kd.R_alloc | apply Kd.R_drewN | apply Kd.R_drew)); exact Kd.R_mono HO315.out (fun _ hk => ⟨hk.1.1.1, ⟨hk.1.1.2.1, ⟨hk.1.1.2.2.1, ⟨hk.1.1.2.2.2.1, ⟨hk.1.1.2.2.2.2, ⟨hk.1.2, hk.2⟩⟩⟩⟩⟩⟩)), (by (with_reducible repeat (first | apply Kd.R_alloc | apply Kd.R_drewN | apply Kd.R_drew)); exact Kd.R_mono HO321.out (fun _ hk => ⟨hk.1.1.1, ⟨hk.1.1.2.1, ⟨hk.1.1.2.2.1, ⟨hk.1.1.2.2.2.1, ⟨hk.1.1.2.2.2.2, ⟨hk.1.2, hk.2⟩⟩⟩⟩⟩⟩)), (by (with_reducible repeat (first | apply Kd.R_alloc | apply Kd.R_drewN | apply Kd.R_drew)); exact Kd.R_mono HO324.out (fun _ hk => ⟨hk.1.1.1, ⟨hk.1.1.2.1, ⟨hk.1.1.2.2.1, ⟨hk.1.1.2.2.2.1, ⟨hk.1.1.2.2.2.2, ⟨hk.1.2, hk.2⟩⟩⟩⟩⟩⟩)), (by (with_reducible repeat (first | apply Kd.R_alloc | apply Kd.R_drewN | apply Kd.R_drew)); exact Kd.R_mono HO333.out (fun _ hk => ⟨hk.1.1.1.1.1.2, ⟨hk.1.1.1.1.2, ⟨hk.1.1.1.2, ⟨hk.1.1.2, ⟨hk.1.2, ⟨hk.2, hk.1.1.1.1.1.1⟩⟩⟩⟩⟩⟩)), (by (with_reducible repeat (first | apply Kd.R_alloc | apply Kd.R_drewN | apply Kd.R_drew)); exact Kd.R_mono HO336.out (fun _ hk => ⟨hk.1.1.1.1.1.2, ⟨hk.1.1.1.1.2, ⟨hk.1.1.1.2, ⟨hk.1.1.2, ⟨hk.1.2, ⟨hk.2, hk.1.1.1.1.1.1⟩⟩⟩⟩⟩⟩)), KK, KK, KK, KK, KK, GW339.out, GE339.out, NB295_339.out, NB339_295.out, NB296_339.out, NB339_296.out, NB318_339.out, NB339_318.out, NB326_339.out, NB339_326.out, KB⟩)
   rintro ⟨v332, v335, gb339⟩ w61 ⟨hS_, h0_, h1_, h2_, h3_, h4_, h5_, h6_, h7_, h8_, h9_, h10_, h11_, h12_, h13_, h14_, h15_, h16_, h17_, h18_, h19_, h20_, h21_, h22_, h23_⟩
   have n0_ : Aside0 (Kd.R k35 35 w61 w.heap.size (fun k_ => some k_ ≠ (v303 : Value).ownBlock ∧ some k_ ≠ (.slice Ao41 t310.length co41 : Value).ownBlock ∧ some k_ ≠ (.slice Ao43 t313.length co43 : Value).ownBlock ∧ some k_ ≠ (.slice Ao50 t319.length co50 : Value).ownBlock ∧ some k_ ≠ (.slice Ao55 t322.length co55 : Value).ownBlock ∧ some k_ ≠ (v332 : Value).ownBlock ∧ some k_ ≠ (v335 : Value).ownBlock) v300 t299) := ⟨h0_⟩
   have n1_ : Aside0 (Kd.R k35 35 w61 w.heap.size (fun k_ => some k_ ≠ (v300 : Value).ownBlock ∧ some k_ ≠ (.slice Ao41 t310.length co41 : Value).ownBlock ∧ some k_ ≠ (.slice Ao43 t313.length co43 : Value).ownBlock ∧ some k_ ≠ (.slice Ao50 t319.length co50 : Value).ownBlock ∧ some k_ ≠ (.slice Ao55 t322.length co55 : Value).ownBlock ∧ some k_ ≠ (v332 : Value).ownBlock ∧ some k_ ≠ (v335 : Value).ownBlock) v303 t302) := ⟨h1_⟩
   have n2_ : Aside0 (Kd.R k35 35 w61 w.heap.size (fun k_ => some k_ ≠ (v300 : Value).ownBlock ∧ some k_ ≠ (v303 : Value).ownBlock ∧ some k_ ≠ (.slice Ao43 t313.length co43 : Value).ownBlock ∧ some k_ ≠ (.slice Ao50 t319.length co50 : Value).ownBlock ∧ some k_ ≠ (.slice Ao55 t322.length co55 : Value).ownBlock ∧ some k_ ≠ (v332 : Value).ownBlock ∧ some k_ ≠ (v335 : Value).ownBlock) (.slice Ao41 t310.length co41) t310) := ⟨h2_⟩
   have n3_ : Aside0 (Kd.R k35 35 w61 w.heap.size (fun k_ => some k_ ≠ (v300 : Value).ownBlock ∧ some k_ ≠ (v303 : Value).ownBlock ∧ some k_ ≠ (.slice Ao41 t310.length co41 : Value).ownBlock ∧ some k_ ≠ (.slice Ao50 t319.length co50 : Value).ownBlock ∧ some k_ ≠ (.slice Ao55 t322.length co55 : Value).ownBlock ∧ some k_ ≠ (v332 : Value).ownBlock ∧ some k_ ≠ (v335 : Value).ownBlock) (.slice Ao43 t313.length co43) t313) := ⟨h3_⟩
   have n4_ : Aside0 (Kd.R k35 35 w61 w.heap.size (fun k_ => some k_ ≠ (v300 : Value).ownBlock ∧ some k_ ≠ (v303 : Value).ownBlock ∧ some k_ ≠ (.slice Ao41 t310.length co41 : Value).ownBlock ∧ some k_ ≠ (.slice Ao43 t313.length co43 : Value).ownBlock ∧ some k_ ≠ (.slice Ao55 t322.length co55 : Value).ownBlock ∧ some k_ ≠ (v332 : Value).ownBlock ∧ some k_ ≠ (v335 : Value).ownBlock) (.slice Ao50 t319.length co50) t319) := ⟨h4_⟩
   have n5_ : Aside0 (Kd.R k35 35 w61 w.heap.size (fun k_ => some k_ ≠ (v300 : Value).ownBlock ∧ some k_ ≠ (v303 : Value).ownBlock ∧ some k_ ≠ (.slice Ao41 t310.length co41 : Value).ownBlock ∧ some k_ ≠ (.slice Ao43 t313.length co43 : Value).ownBlock ∧ some k_ ≠ (.slice Ao50 t319.length co50 : Value).ownBlock ∧ some k_ ≠ (v332 : Value).ownBlock ∧ some k_ ≠ (v335 : Value).ownBlock) (.slice Ao55 t322.length co55) t322) := ⟨h5_⟩
   have n6_ : Aside0 (Kd.R k35 35 w61 w.heap.size (fun k_ => some k_ ≠ (v300 : Value).ownBlock ∧ some k_ ≠ (v303 : Value).ownBlock ∧ some k_ ≠ (.slice Ao41 t310.length co41 : Value).ownBlock ∧ some k_ ≠ (.slice Ao43 t313.length co43 : Value).ownBlock ∧ some k_ ≠ (.slice Ao50 t319.length co50 : Value).ownBlock ∧ some k_ ≠ (.slice Ao55 t322.length co55 : Value).ownBlock ∧ some k_ ≠ (v335 : Value).ownBlock) v332 t331) := ⟨h6_⟩
   have n7_ : Aside0 (Kd.R k35 35 w61 w.heap.size (fun k_ => some k_ ≠ (v300 : Value).ownBlock ∧ some k_ ≠ (v303 : Value).ownBlock ∧ some k_ ≠ (.slice Ao41 t310.length co41 : Value).ownBlock ∧ some k_ ≠ (.slice Ao43 t313.length co43 : Value).ownBlock ∧ some k_ ≠ (.slice Ao50 t319.length co50 : Value).ownBlock ∧ some k_ ≠ (.slice Ao55 t322.length co55 : Value).ownBlock ∧ some k_ ≠ (v332 : Value).ownBlock) v335 t334) := ⟨h7_⟩
   have n8_ : Aside0 (w61.heap[gb295]? = some (.cells #[.slice A0_0 l0_0.length c0_0, .slice A0_1 l0_1.length c0_1, .int .i64 a0_2] 24 (0, 0))) := ⟨h8_⟩
   have n9_ : Aside0 (w61.heap[gb296]? = some (.cells #[.int .i64 a1_0, .int .i64 a1_1, .bool a1_2, .string a1_3] 26 (0, 0))) := ⟨h9_⟩
   have n10_ : Aside0 (w61.heap[gb318]? = some (.cells #[.slice Ao41 t310.length co41, .slice Ao43 t313.length co43, .int .i64 t316] 31 (0, 0))) := ⟨h10_⟩
   have n11_ : Aside0 (w61.heap[gb326]? = some (.cells #[.slice Ao50 t319.length co50, .slice Ao55 t322.length co55, .int .i64 t325] 31 (0, 0))) := ⟨h11_⟩
   have n12_ : Aside0 (w61.heap[gb339]? = some (.cells #[.slice none 0 0, .slice none 0 0, .int .i64 0] 31 (0, 0))) := ⟨h12_⟩
   have n13_ : Aside0 (w.heap.size ≤ gb339) := ⟨h13_⟩
   have n14_ : Aside0 (w.heap.size ≤ gb339) := ⟨h14_⟩
   have n15_ : Aside0 (gb295 ≠ gb339) := ⟨h15_⟩
   have n16_ : Aside0 (gb339 ≠ gb295) := ⟨h16_⟩
   have n17_ : Aside0 (gb296 ≠ gb339) := ⟨h17_⟩
   have n18_ : Aside0 (gb339 ≠ gb296) := ⟨h18_⟩
   have n19_ : Aside0 (gb318 ≠ gb339) := ⟨h19_⟩
   have n20_ : Aside0 (gb339 ≠ gb318) := ⟨h20_⟩
   have n21_ : Aside0 (gb326 ≠ gb339) := ⟨h21_⟩
   have n22_ : Aside0 (gb339 ≠ gb326) := ⟨h22_⟩
   have n23_ : Aside0 (Below w.heap.size w w61) := ⟨h23_⟩
   clear HO301
   clear HO304
   clear HO312
   clear HO315
   clear HO321
   clear HO324
   clear BK295
   clear BK296
   clear BK318
   clear BK326
   clear HB
   clear h0_ h1_ h2_ h3_ h4_ h5_ h6_ h7_ h8_ h9_ h10_ h11_ h12_ h13_ h14_ h15_ h16_ h17_ h18_ h19_ h20_ h21_ h22_ h23_
   have HO301 := n0_
   have HO304 := n1_
   have HO312 := n2_
   have HO315 := n3_
   have HO321 := n4_
   have HO324 := n5_
   have HO333 := n6_
   have HO336 := n7_
   have BK295 := n8_
   have BK296 := n9_
   have BK318 := n10_
   have BK326 := n11_
   have BK339 := n12_
   have GW339 := n13_
   have GE339 := n14_
   have NB295_339 := n15_
   have NB339_295 := n16_
   have NB296_339 := n17_
   have NB339_296 := n18_
   have NB318_339 := n19_
   have NB339_318 := n20_
   have NB326_339 := n21_
   have NB339_326 := n22_
   have HB := n23_
   clear n0_ n1_ n2_ n3_ n4_ n5_ n6_ n7_ n8_ n9_ n10_ n11_ n12_ n13_ n14_ n15_ n16_ n17_ n18_ n19_ n20_ n21_ n22_ n23_
   have hHeld : w61.cell? ⟨gb326, 0, none⟩ = some (.slice Ao50 t319.length co50) ∧ w61.cell? ⟨gb326, 1, none⟩ = some (.slice Ao55 t322.length co55) ∧ w61.cell? ⟨gb326, 2, none⟩ = some (.int .i64 t325) ∧ w61.cell? ⟨gb296, 0, none⟩ = some (.int .i64 a1_0) ∧ w61.cell? ⟨gb296, 1, none⟩ = some (.int .i64 a1_1) ∧ w61.cell? ⟨gb296, 2, none⟩ = some (.bool a1_2) ∧ w61.cell? ⟨gb296, 3, none⟩ = some (.string a1_3) := hS_
   obtain ⟨Ao62, co62, eo62⟩ := Kd.R_slice HO333.out
   (first | subst eo62 | (injection eo62 with f1_ f2_ f3_; have f4_ := f1_.symm; have f5_ := f3_.symm; clear f1_ f2_ f3_; subst f4_; subst f5_))
   obtain ⟨Ao64, co64, eo64⟩ := Kd.R_slice HO336.out
   (first | subst eo64 | (injection eo64 with f1_ f2_ f3_; have f4_ := f1_.symm; have f5_ := f3_.symm; clear f1_ f2_ f3_; subst f4_; subst f5_))
   refine norm_ (a' := ?_) ?_ ?_
   rotate_left
   ·simp only [putAll, Act.put, List.setIfInBounds_toArray, List.set_cons_zero, List.set_cons_succ]
    rfl
   refine one_ (i := 8) (N := none) #[true, true, true, true, true, true, true, true, true, false] rfl rfl (one_of HT_.out (by kernel_rfl)) (by decide) (fun K hK => ?_)
   have hs63 : w61.cell? ⟨gb339, 0, none⟩ = some (.slice none 0 0) := (blk_cell BK339.out 0).trans rfl
   have hfs63 := blk_frozen BK339.out 0
   have hns63_0 := NB295_339.out
   have hns63_1 := NB296_339.out
   have hns63_2 := NB318_339.out
   have hns63_3 := NB326_339.out
   have hms63_0 := NB339_295.out
   have hms63_1 := NB339_296.out
   have hms63_2 := NB339_318.out
   have hms63_3 := NB339_326.out
   have hs65 : w61.cell? ⟨gb339, 1, none⟩ = some (.slice none 0 0) := (blk_cell BK339.out 1).trans rfl
   have hfs65 := blk_frozen BK339.out 1
   have hns65_0 := NB295_339.out
   have hns65_1 := NB296_339.out
   have hns65_2 := NB318_339.out
   have hns65_3 := NB326_339.out
   have hms65_0 := NB339_295.out
   have hms65_1 := NB339_296.out
   have hms65_2 := NB339_318.out
   have hms65_3 := NB339_326.out
   have hs66 : w61.cell? ⟨gb339, 2, none⟩ = some (.int .i64 0) := (blk_cell BK339.out 2).trans rfl
   have hfs66 := blk_frozen BK339.out 2
   have hns66_0 := NB295_339.out
   have hns66_1 := NB296_339.out
   have hns66_2 := NB318_339.out
   have hns66_3 := NB326_339.out
   have hms66_0 := NB339_295.out
   have hms66_1 := NB339_296.out
   have hms66_2 := NB339_318.out
   have hms66_3 := NB339_326.out
   refine skip_ (w1 := ?_) (by rfl) rfl ?_ ?_
   rotate_left
   ·go_simp
    rfl
   refine hK.out _ _ ⟨((cell_far (p := ⟨gb339, _, none⟩) NB326_339.out _).trans (((cell_far (p := ⟨gb339, _, none⟩) NB326_339.out _).trans (((cell_far (p := ⟨gb339, _, none⟩) NB326_339.out _).trans (hHeld.1)))))), ((cell_far (p := ⟨gb339, _, none⟩) NB326_339.out _).trans (((cell_far (p := ⟨gb339, _, none⟩) NB326_339.out _).trans (((cell_far (p := ⟨gb339, _, none⟩) NB326_339.out _).trans (hHeld.2.1)))))), ((cell_far (p := ⟨gb339, _, none⟩) NB326_339.out _).trans (((cell_far (p := ⟨gb339, _, none⟩) NB326_339.out _).trans (((cell_far (p := ⟨gb339, _, none⟩) NB326_339.out _).trans (hHeld.2.2.1)))))), ((cell_far (p := ⟨gb339, _, none⟩) NB296_339.out _).trans (((cell_far (p := ⟨gb339, _, none⟩) NB296_339.out _).trans (((cell_far (p := ⟨gb339, _, none⟩) NB296_339.out _).trans (hHeld.2.2.2.1)))))), ((cell_far (p := ⟨gb339, _, none⟩) NB296_339.out _).trans (((cell_far (p := ⟨gb339, _, none⟩) NB296_339.out _).trans (((cell_far (p := ⟨gb339, _, none⟩) NB296_339.out _).trans (hHeld.2.2.2.2.1)))))), ((cell_far (p := ⟨gb339, _, none⟩) NB296_339.out _).trans (((cell_far (p := ⟨gb339, _, none⟩) NB296_339.out _).trans (((cell_far (p := ⟨gb339, _, none⟩) NB296_339.out _).trans (hHeld.2.2.2.2.2.1)))))), ((cell_far (p := ⟨gb339, _, none⟩) NB296_339.out _).trans (((cell_far (p := ⟨gb339, _, none⟩) NB296_339.out _).trans (((cell_far (p := ⟨gb339, _, none⟩) NB296_339.out _).trans (hHeld.2.2.2.2.2.2))))))⟩ (fun hHeld => ?_)
   clear hK K
   refine pure_ (i := 9) (N := some 10) (v := ?_) (a' := ?_) #[true, true, true, true, true, true, true, true, true, true] rfl rfl (any_of HT_.out (by kernel_rfl)) (fun _ _ _ h => h) (Or.inl ⟨by rfl, ?_⟩) ?_ ?_
   rotate_left
   ·intro w'
    go_simp
    with_reducible rfl
   rotate_left
   ·simp only [Act.put, List.setIfInBounds_toArray, List.set_cons_zero, List.set_cons_succ, i64_w, i32_w]
    rfl
   refine done_ (done_of HT_.out (by kernel_rfl)) ?_
   go_upto_region 11 with (fail)
   go_cut [51] (fun v51 wc => ∃ (kq : Nat) (x51_24 : Bool), v51 = .bool x51_24 ∧ Aside0 (laws_FnExactStorePut.j0 kq t317 t338 x51_24 l0_0 l0_1 a0_2 a1_0 a1_1 a1_2 a1_3 t310 t313 t316 t319 t322 t325 t331 t334 t337 = some r) ∧ Aside0 (kq ≤ k) ∧ Aside0 (Kd.R k35 35 wc w.heap.size (fun k_ => some k_ ≠ ((.slice Ao43 t313.length co43) : Value).ownBlock ∧ some k_ ≠ ((.slice Ao50 t319.length co50) : Value).ownBlock ∧ some k_ ≠ ((.slice Ao55 t322.length co55) : Value).ownBlock ∧ some k_ ≠ ((.slice Ao62 t331.length co62) : Value).ownBlock ∧ some k_ ≠ ((.slice Ao64 t334.length co64) : Value).ownBlock) (.slice Ao41 t310.length co41) t310) ∧ Aside0 (Kd.R k35 35 wc w.heap.size (fun k_ => some k_ ≠ ((.slice Ao41 t310.length co41) : Value).ownBlock ∧ some k_ ≠ ((.slice Ao50 t319.length co50) : Value).ownBlock ∧ some k_ ≠ ((.slice Ao55 t322.length co55) : Value).ownBlock ∧ some k_ ≠ ((.slice Ao62 t331.length co62) : Value).ownBlock ∧ some k_ ≠ ((.slice Ao64 t334.length co64) : Value).ownBlock) (.slice Ao43 t313.length co43) t313) ∧ Aside0 (Kd.R k35 35 wc w.heap.size (fun k_ => some k_ ≠ ((.slice Ao41 t310.length co41) : Value).ownBlock ∧ some k_ ≠ ((.slice Ao43 t313.length co43) : Value).ownBlock ∧ some k_ ≠ ((.slice Ao55 t322.length co55) : Value).ownBlock ∧ some k_ ≠ ((.slice Ao62 t331.length co62) : Value).ownBlock ∧ some k_ ≠ ((.slice Ao64 t334.length co64) : Value).ownBlock) (.slice Ao50 t319.length co50) t319) ∧ Aside0 (Kd.R k35 35 wc w.heap.size (fun k_ => some k_ ≠ ((.slice Ao41 t310.length co41) : Value).ownBlock ∧ some k_ ≠ ((.slice Ao43 t313.length co43) : Value).ownBlock ∧ some k_ ≠ ((.slice Ao50 t319.length co50) : Value).ownBlock ∧ some k_ ≠ ((.slice Ao62 t331.length co62) : Value).ownBlock ∧ some k_ ≠ ((.slice Ao64 t334.length co64) : Value).ownBlock) (.slice Ao55 t322.length co55) t322) ∧ Aside0 (Kd.R k35 35 wc w.heap.size (fun k_ => some k_ ≠ ((.slice Ao41 t310.length co41) : Value).ownBlock ∧ some k_ ≠ ((.slice Ao43 t313.length co43) : Value).ownBlock ∧ some k_ ≠ ((.slice Ao50 t319.length co50) : Value).ownBlock ∧ some k_ ≠ ((.slice Ao55 t322.length co55) : Value).ownBlock ∧ some k_ ≠ ((.slice Ao64 t334.length co64) : Value).ownBlock) (.slice Ao62 t331.length co62) t331) ∧ Aside0 (Kd.R k35 35 wc w.heap.size (fun k_ => some k_ ≠ ((.slice Ao41 t310.length co41) : Value).ownBlock ∧ some k_ ≠ ((.slice Ao43 t313.length co43) : Value).ownBlock ∧ some k_ ≠ ((.slice Ao50 t319.length co50) : Value).ownBlock ∧ some k_ ≠ ((.slice Ao55 t322.length co55) : Value).ownBlock ∧ some k_ ≠ ((.slice Ao62 t331.length co62) : Value).ownBlock) (.slice Ao64 t334.length co64) t334) ∧ Aside0 (wc.heap[gb295]? = some (.cells #[(.slice A0_0 l0_0.length c0_0), (.slice A0_1 l0_1.length c0_1), .int .i64 a0_2] 24 (0, 0))) ∧ Aside0 (wc.heap[gb296]? = some (.cells #[.int .i64 a1_0, .int .i64 a1_1, .bool a1_2, .string a1_3] 26 (0, 0))) ∧ Aside0 (wc.heap[gb318]? = some (.cells #[(.slice Ao41 t310.length co41), (.slice Ao43 t313.length co43), .int .i64 t316] 31 (0, 0))) ∧ Aside0 (wc.heap[gb326]? = some (.cells #[(.slice Ao50 t319.length co50), (.slice Ao55 t322.length co55), .int .i64 t325] 31 (0, 0))) ∧ Aside0 (wc.heap[gb339]? = some (.cells #[(.slice Ao62 t331.length co62), (.slice Ao64 t334.length co64), .int .i64 t337] 31 (0, 0))) ∧ Aside0 (Below w.heap.size w wc))
   case first =>
    have H := HC25.out
    clear HC25
    replace H := Option.bind_eq_some_iff.mp H
    obtain ⟨t340, A670, H⟩ := H
    replace H : (if t340 = true then (laws_FnExactStorePut.j0 k t317 t338 (t338 != t317) l0_0 l0_1 a0_2 a1_0 a1_1 a1_2 a1_3 t310 t313 t316 t319 t322 t325 t331 t334 t337) else (laws_FnExactStorePut.j0 k t317 t338 true l0_0 l0_1 a0_2 a1_0 a1_1 a1_2 a1_3 t310 t313 t316 t319 t322 t325 t331 t334 t337)) = some r := H
    have A67 := Aside0.mk A670
    clear A670
    by_cases c68 : t340 = true
    ·subst c68
     have H1 : (laws_FnExactStorePut.j0 k t317 t338 (t338 != t317) l0_0 l0_1 a0_2 a1_0 a1_1 a1_2 a1_3 t310 t313 t316 t319 t322 t325 t331 t334 t337) = some r := by rw [if_pos rfl] at H; exact H
     clear H
     have H := H1
     clear H1
     have H' := Aside0.mk H
     clear H
     have hnb69 := NB339_295.out
     have hnc69 := NB295_339.out
     have hnb70 := NB339_296.out
     have hnc70 := NB296_339.out
     have hnb71 := NB339_318.out
     have hnc71 := NB318_339.out
     have hnb72 := NB339_326.out
     have hnc72 := NB326_339.out
     have hcz73_0 : w61.cell? ⟨gb339, 0, none⟩ = some (.slice none 0 0) := (blk_cell BK339.out 0).trans rfl
     have hcz73_1 : w61.cell? ⟨gb339, 1, none⟩ = some (.slice none 0 0) := (blk_cell BK339.out 1).trans rfl
     have hcz73_2 : w61.cell? ⟨gb339, 2, none⟩ = some (.int .i64 0) := (blk_cell BK339.out 2).trans rfl
     have hfz73_0 := blk_frozen BK339.out 0
     have hfz73_1 := blk_frozen BK339.out 1
     have hfz73_2 := blk_frozen BK339.out 2
     have hnb74 := NB318_295.out
     have hnc74 := NB295_318.out
     have hnb75 := NB318_296.out
     have hnc75 := NB296_318.out
     have hnb76 := NB318_326.out
     have hnc76 := NB326_318.out
     have hcz77_0 : w61.cell? ⟨gb318, 0, none⟩ = some (.slice Ao41 t310.length co41) := (blk_cell BK318.out 0).trans rfl
     have hcz77_1 : w61.cell? ⟨gb318, 1, none⟩ = some (.slice Ao43 t313.length co43) := (blk_cell BK318.out 1).trans rfl
     have hcz77_2 : w61.cell? ⟨gb318, 2, none⟩ = some (.int .i64 t316) := (blk_cell BK318.out 2).trans rfl
     have hfz77_0 := blk_frozen BK318.out 0
     have hfz77_1 := blk_frozen BK318.out 1
     have hfz77_2 := blk_frozen BK318.out 2
     go_wp2_with (first | ((with_reducible refine gate_callee (f := 15) rfl ?_); refine goesL_ (some 45) rfl rfl Try.func15 (by kernel_rfl) rfl #[.agg #[.slice Ao62 t331.length co62, .slice Ao64 t334.length co64, .int .i64 t337], .agg #[.slice Ao41 t310.length co41, .slice Ao43 t313.length co43, .int .i64 t316]] rfl KL ?_; (with_reducible refine (laws_eqStore.calls k _ _ t331 _ _ t334 t337 _ _ t310 _ _ t313 t316 true _ ?side1 ?side2 ?side3 ?side4 ?side5 ?side6 ?side7 ?side8 A67.out).mono ?_); (case side1 => refine (Kd.R_reads' (e := 35) (base := w.heap.size) (ok := fun k_ => (some k_ ≠ (v300 : Value).ownBlock ∧ (some k_ ≠ (v303 : Value).ownBlock ∧ (some k_ ≠ (.slice Ao41 t310.length co41 : Value).ownBlock ∧ (some k_ ≠ (.slice Ao43 t313.length co43 : Value).ownBlock ∧ (some k_ ≠ (.slice Ao50 t319.length co50 : Value).ownBlock ∧ (some k_ ≠ (.slice Ao55 t322.length co55 : Value).ownBlock ∧ some k_ ≠ (.slice Ao64 t334.length co64 : Value).ownBlock))))))) (n := t331.length) (c := co62) ?_).2.2; exact (by (with_reducible repeat (first | apply Kd.R_alloc | apply Kd.R_drewN | apply Kd.R_drew)); exact (Kd.R_mono (Kd.R_far (p := ⟨gb339, 2, none⟩) (Kd.R_far (p := ⟨gb339, 1, none⟩) (Kd.R_far (p := ⟨gb339, 0, none⟩) (Kd.R_types HO333.out BK339.out (by decide)) (fun _ hk => hk.2) (.slice Ao62 t331.length co62)) (fun _ hk => hk.2) (.slice Ao64 t334.length co64)) (fun _ hk => hk.2) (.int .i64 t337)) (fun _ h_ => h_.1)))); (case side2 => exact (Kd.R_reads' HO333.out).2.1); (case side3 => refine (Kd.R_reads' (e := 35) (base := w.heap.size) (ok := fun k_ => (some k_ ≠ (v300 : Value).ownBlock ∧ (some k_ ≠ (v303 : Value).ownBlock ∧ (some k_ ≠ (.slice Ao41 t310.length co41 : Value).ownBlock ∧ (some k_ ≠ (.slice Ao43 t313.length co43 : Value).ownBlock ∧ (some k_ ≠ (.slice Ao50 t319.length co50 : Value).ownBlock ∧ (some k_ ≠ (.slice Ao55 t322.length co55 : Value).ownBlock ∧ some k_ ≠ (.slice Ao62 t331.length co62 : Value).ownBlock))))))) (n := t334.length) (c := co64) ?_).2.2; exact (by (with_reducible repeat (first | apply Kd.R_alloc | apply Kd.R_drewN | apply Kd.R_drew)); exact (Kd.R_mono (Kd.R_far (p := ⟨gb339, 2, none⟩) (Kd.R_far (p := ⟨gb339, 1, none⟩) (Kd.R_far (p := ⟨gb339, 0, none⟩) (Kd.R_types HO336.out BK339.out (by decide)) (fun _ hk => hk.2) (.slice Ao62 t331.length co62)) (fun _ hk => hk.2) (.slice Ao64 t334.length co64)) (fun _ hk => hk.2) (.int .i64 t337)) (fun _ h_ => h_.1)))); (case side4 => exact (Kd.R_reads' HO336.out).2.1); (case side5 => refine (Kd.R_reads' (e := 35) (base := w.heap.size) (ok := fun k_ => (some k_ ≠ (v300 : Value).ownBlock ∧ (some k_ ≠ (v303 : Value).ownBlock ∧ (some k_ ≠ (.slice Ao43 t313.length co43 : Value).ownBlock ∧ (some k_ ≠ (.slice Ao50 t319.length co50 : Value).ownBlock ∧ (some k_ ≠ (.slice Ao55 t322.length co55 : Value).ownBlock ∧ (some k_ ≠ (.slice Ao62 t331.length co62 : Value).ownBlock ∧ some k_ ≠ (.slice Ao64 t334.length co64 : Value).ownBlock))))))) (n := t310.length) (c := co41) ?_).2.2; exact (by (with_reducible repeat (first | apply Kd.R_alloc | apply Kd.R_drewN | apply Kd.R_drew)); exact (Kd.R_mono (Kd.R_far (p := ⟨gb339, 2, none⟩) (Kd.R_far (p := ⟨gb339, 1, none⟩) (Kd.R_far (p := ⟨gb339, 0, none⟩) (Kd.R_types HO312.out BK339.out (by decide)) (fun _ hk => hk.2) (.slice Ao62 t331.length co62)) (fun _ hk => hk.2) (.slice Ao64 t334.length co64)) (fun _ hk => hk.2) (.int .i64 t337)) (fun _ h_ => h_.1)))); (case side6 => exact (Kd.R_reads' HO312.out).2.1); (case side7 => refine (Kd.R_reads' (e := 35) (base := w.heap.size) (ok := fun k_ => (some k_ ≠ (v300 : Value).ownBlock ∧ (some k_ ≠ (v303 : Value).ownBlock ∧ (some k_ ≠ (.slice Ao41 t310.length co41 : Value).ownBlock ∧ (some k_ ≠ (.slice Ao50 t319.length co50 : Value).ownBlock ∧ (some k_ ≠ (.slice Ao55 t322.length co55 : Value).ownBlock ∧ (some k_ ≠ (.slice Ao62 t331.length co62 : Value).ownBlock ∧ some k_ ≠ (.slice Ao64 t334.length co64 : Value).ownBlock))))))) (n := t313.length) (c := co43) ?_).2.2; exact (by (with_reducible repeat (first | apply Kd.R_alloc | apply Kd.R_drewN | apply Kd.R_drew)); exact (Kd.R_mono (Kd.R_far (p := ⟨gb339, 2, none⟩) (Kd.R_far (p := ⟨gb339, 1, none⟩) (Kd.R_far (p := ⟨gb339, 0, none⟩) (Kd.R_types HO315.out BK339.out (by decide)) (fun _ hk => hk.2) (.slice Ao62 t331.length co62)) (fun _ hk => hk.2) (.slice Ao64 t334.length co64)) (fun _ hk => hk.2) (.int .i64 t337)) (fun _ h_ => h_.1)))); (case side8 => exact (Kd.R_reads' HO315.out).2.1); rintro e w78 ⟨rfl, hb⟩; refine ⟨_, rfl, ?_⟩; have n0_ := Aside0.mk (Kd.R_below (by (with_reducible repeat (first | apply Kd.R_alloc | apply Kd.R_drewN | apply Kd.R_drew)); exact (Kd.R_mono (Kd.R_far (p := ⟨gb339, 2, none⟩) (Kd.R_far (p := ⟨gb339, 1, none⟩) (Kd.R_far (p := ⟨gb339, 0, none⟩) (Kd.R_types HO301.out BK339.out (by decide)) (fun _ hk => hk.2) (.slice Ao62 t331.length co62)) (fun _ hk => hk.2) (.slice Ao64 t334.length co64)) (fun _ hk => hk.2) (.int .i64 t337)) (fun _ h_ => h_.1))) hb); have n1_ := Aside0.mk (Kd.R_below (by (with_reducible repeat (first | apply Kd.R_alloc | apply Kd.R_drewN | apply Kd.R_drew)); exact (Kd.R_mono (Kd.R_far (p := ⟨gb339, 2, none⟩) (Kd.R_far (p := ⟨gb339, 1, none⟩) (Kd.R_far (p := ⟨gb339, 0, none⟩) (Kd.R_types HO304.out BK339.out (by decide)) (fun _ hk => hk.2) (.slice Ao62 t331.length co62)) (fun _ hk => hk.2) (.slice Ao64 t334.length co64)) (fun _ hk => hk.2) (.int .i64 t337)) (fun _ h_ => h_.1))) hb); have n2_ := Aside0.mk (Kd.R_below (by (with_reducible repeat (first | apply Kd.R_alloc | apply Kd.R_drewN | apply Kd.R_drew)); exact (Kd.R_mono (Kd.R_far (p := ⟨gb339, 2, none⟩) (Kd.R_far (p := ⟨gb339, 1, none⟩) (Kd.R_far (p := ⟨gb339, 0, none⟩) (Kd.R_types HO312.out BK339.out (by decide)) (fun _ hk => hk.2) (.slice Ao62 t331.length co62)) (fun _ hk => hk.2) (.slice Ao64 t334.length co64)) (fun _ hk => hk.2) (.int .i64 t337)) (fun _ h_ => h_.1))) hb); have n3_ := Aside0.mk (Kd.R_below (by (with_reducible repeat (first | apply Kd.R_alloc | apply Kd.R_drewN | apply Kd.R_drew)); exact (Kd.R_mono (Kd.R_far (p := ⟨gb339, 2, none⟩) (Kd.R_far (p := ⟨gb339, 1, none⟩) (Kd.R_far (p := ⟨gb339, 0, none⟩) (Kd.R_types HO315.out BK339.out (by decide)) (fun _ hk => hk.2) (.slice Ao62 t331.length co62)) (fun _ hk => hk.2) (.slice Ao64 t334.length co64)) (fun _ hk => hk.2) (.int .i64 t337)) (fun _ h_ => h_.1))) hb); have n4_ := Aside0.mk (Kd.R_below (by (with_reducible repeat (first | apply Kd.R_alloc | apply Kd.R_drewN | apply Kd.R_drew)); exact (Kd.R_mono (Kd.R_far (p := ⟨gb339, 2, none⟩) (Kd.R_far (p := ⟨gb339, 1, none⟩) (Kd.R_far (p := ⟨gb339, 0, none⟩) (Kd.R_types HO321.out BK339.out (by decide)) (fun _ hk => hk.2) (.slice Ao62 t331.length co62)) (fun _ hk => hk.2) (.slice Ao64 t334.length co64)) (fun _ hk => hk.2) (.int .i64 t337)) (fun _ h_ => h_.1))) hb); have n5_ := Aside0.mk (Kd.R_below (by (with_reducible repeat (first | apply Kd.R_alloc | apply Kd.R_drewN | apply Kd.R_drew)); exact (Kd.R_mono (Kd.R_far (p := ⟨gb339, 2, none⟩) (Kd.R_far (p := ⟨gb339, 1, none⟩) (Kd.R_far (p := ⟨gb339, 0, none⟩) (Kd.R_types HO324.out BK339.out (by decide)) (fun _ hk => hk.2) (.slice Ao62 t331.length co62)) (fun _ hk => hk.2) (.slice Ao64 t334.length co64)) (fun _ hk => hk.2) (.int .i64 t337)) (fun _ h_ => h_.1))) hb); have n6_ := Aside0.mk (Kd.R_below (by (with_reducible repeat (first | apply Kd.R_alloc | apply Kd.R_drewN | apply Kd.R_drew)); exact (Kd.R_mono (Kd.R_far (p := ⟨gb339, 2, none⟩) (Kd.R_far (p := ⟨gb339, 1, none⟩) (Kd.R_far (p := ⟨gb339, 0, none⟩) (Kd.R_types HO333.out BK339.out (by decide)) (fun _ hk => hk.2) (.slice Ao62 t331.length co62)) (fun _ hk => hk.2) (.slice Ao64 t334.length co64)) (fun _ hk => hk.2) (.int .i64 t337)) (fun _ h_ => h_.1))) hb); have n7_ := Aside0.mk (Kd.R_below (by (with_reducible repeat (first | apply Kd.R_alloc | apply Kd.R_drewN | apply Kd.R_drew)); exact (Kd.R_mono (Kd.R_far (p := ⟨gb339, 2, none⟩) (Kd.R_far (p := ⟨gb339, 1, none⟩) (Kd.R_far (p := ⟨gb339, 0, none⟩) (Kd.R_types HO336.out BK339.out (by decide)) (fun _ hk => hk.2) (.slice Ao62 t331.length co62)) (fun _ hk => hk.2) (.slice Ao64 t334.length co64)) (fun _ hk => hk.2) (.int .i64 t337)) (fun _ h_ => h_.1))) hb); have n8_ := Aside0.mk (blk_below (g := gb295) (o := .cells #[.slice A0_0 l0_0.length c0_0, .slice A0_1 l0_1.length c0_1, .int .i64 a0_2] 24 (0, 0)) KK hb); have n9_ := Aside0.mk (blk_below (g := gb296) (o := .cells #[.int .i64 a1_0, .int .i64 a1_1, .bool a1_2, .string a1_3] 26 (0, 0)) KK hb); have n10_ := Aside0.mk (blk_below (g := gb318) (o := .cells #[.slice Ao41 t310.length co41, .slice Ao43 t313.length co43, .int .i64 t316] 31 (0, 0)) KK hb); have n11_ := Aside0.mk (blk_below (g := gb326) (o := .cells #[.slice Ao50 t319.length co50, .slice Ao55 t322.length co55, .int .i64 t325] 31 (0, 0)) KK hb); have n12_ := Aside0.mk (blk_below (g := gb339) (o := .cells #[.slice Ao62 t331.length co62, .slice Ao64 t334.length co64, .int .i64 t337] 31 (0, 0)) (by (with_reducible repeat (first | refine blk_drewN ?_ _ | refine blk_drew ?_ | refine blk_alloc ?_ _)); refine blk_put (cs := #[.slice Ao62 t331.length co62, .slice Ao64 t334.length co64, .int .i64 0]) ?_ 2 _ rfl; (with_reducible repeat (first | refine blk_drewN ?_ _ | refine blk_drew ?_ | refine blk_alloc ?_ _)); refine blk_put (cs := #[.slice Ao62 t331.length co62, .slice none 0 0, .int .i64 0]) ?_ 1 _ rfl; (with_reducible repeat (first | refine blk_drewN ?_ _ | refine blk_drew ?_ | refine blk_alloc ?_ _)); refine blk_put (cs := #[.slice none 0 0, .slice none 0 0, .int .i64 0]) ?_ 0 _ rfl; (with_reducible repeat (first | refine blk_drewN ?_ _ | refine blk_drew ?_ | refine blk_alloc ?_ _)); exact BK339.out) hb); have n13_ := Aside0.mk (below_step KB hb); clear HO301; clear HO304; clear HO312; clear HO315; clear HO321; clear HO324; clear HO333; clear HO336; clear BK295; clear BK296; clear BK318; clear BK326; clear BK339; clear HB; have HO301 := n0_; have HO304 := n1_; have HO312 := n2_; have HO315 := n3_; have HO321 := n4_; have HO324 := n5_; have HO333 := n6_; have HO336 := n7_; have BK295 := n8_; have BK296 := n9_; have BK318 := n10_; have BK326 := n11_; have BK339 := n12_; have HB := n13_; clear n0_ n1_ n2_ n3_ n4_ n5_ n6_ n7_ n8_ n9_ n10_ n11_ n12_ n13_; (try clear hb); (try clear hb2); (try clear hk); (try clear hi)))
     go_meet
     case rel => exact ⟨_, ((t338 != t317)), (by first | rfl | (simp; done) | (simp [*]; done)), H', ⟨by first | omega | exact Nat.le_refl _⟩, ⟨by (with_reducible repeat (first | apply Kd.R_alloc | apply Kd.R_drewN | apply Kd.R_drew)); exact Kd.R_mono HO312.out (fun _ hk => ⟨hk.2.2.1, ⟨hk.2.2.2.1, ⟨hk.2.2.2.2.1, ⟨hk.2.2.2.2.2.1, hk.2.2.2.2.2.2⟩⟩⟩⟩)⟩, ⟨by (with_reducible repeat (first | apply Kd.R_alloc | apply Kd.R_drewN | apply Kd.R_drew)); exact Kd.R_mono HO315.out (fun _ hk => ⟨hk.2.2.1, ⟨hk.2.2.2.1, ⟨hk.2.2.2.2.1, ⟨hk.2.2.2.2.2.1, hk.2.2.2.2.2.2⟩⟩⟩⟩)⟩, ⟨by (with_reducible repeat (first | apply Kd.R_alloc | apply Kd.R_drewN | apply Kd.R_drew)); exact Kd.R_mono HO321.out (fun _ hk => ⟨hk.2.2.1, ⟨hk.2.2.2.1, ⟨hk.2.2.2.2.1, ⟨hk.2.2.2.2.2.1, hk.2.2.2.2.2.2⟩⟩⟩⟩)⟩, ⟨by (with_reducible repeat (first | apply Kd.R_alloc | apply Kd.R_drewN | apply Kd.R_drew)); exact Kd.R_mono HO324.out (fun _ hk => ⟨hk.2.2.1, ⟨hk.2.2.2.1, ⟨hk.2.2.2.2.1, ⟨hk.2.2.2.2.2.1, hk.2.2.2.2.2.2⟩⟩⟩⟩)⟩, ⟨by (with_reducible repeat (first | apply Kd.R_alloc | apply Kd.R_drewN | apply Kd.R_drew)); exact Kd.R_mono HO333.out (fun _ hk => ⟨hk.2.2.1, ⟨hk.2.2.2.1, ⟨hk.2.2.2.2.1, ⟨hk.2.2.2.2.2.1, hk.2.2.2.2.2.2⟩⟩⟩⟩)⟩, ⟨by (with_reducible repeat (first | apply Kd.R_alloc | apply Kd.R_drewN | apply Kd.R_drew)); exact Kd.R_mono HO336.out (fun _ hk => ⟨hk.2.2.1, ⟨hk.2.2.2.1, ⟨hk.2.2.2.2.1, ⟨hk.2.2.2.2.2.1, hk.2.2.2.2.2.2⟩⟩⟩⟩)⟩, ⟨KK⟩, ⟨KK⟩, ⟨KK⟩, ⟨KK⟩, ⟨KK⟩, ⟨KB⟩⟩
    ·replace c68 := Bool.eq_false_iff.mpr c68
     subst c68
     have H1 : (laws_FnExactStorePut.j0 k t317 t338 true l0_0 l0_1 a0_2 a1_0 a1_1 a1_2 a1_3 t310 t313 t316 t319 t322 t325 t331 t334 t337) = some r := by rw [if_neg (show ¬ (false = true) by decide)] at H; exact H
     clear H
     have H := H1
     clear H1
     have H' := Aside0.mk H
     clear H
     have hnb79 := NB339_295.out
     have hnc79 := NB295_339.out
     have hnb80 := NB339_296.out
     have hnc80 := NB296_339.out
     have hnb81 := NB339_318.out
     have hnc81 := NB318_339.out
     have hnb82 := NB339_326.out
     have hnc82 := NB326_339.out
     have hcz83_0 : w61.cell? ⟨gb339, 0, none⟩ = some (.slice none 0 0) := (blk_cell BK339.out 0).trans rfl
     have hcz83_1 : w61.cell? ⟨gb339, 1, none⟩ = some (.slice none 0 0) := (blk_cell BK339.out 1).trans rfl
     have hcz83_2 : w61.cell? ⟨gb339, 2, none⟩ = some (.int .i64 0) := (blk_cell BK339.out 2).trans rfl
     have hfz83_0 := blk_frozen BK339.out 0
     have hfz83_1 := blk_frozen BK339.out 1
     have hfz83_2 := blk_frozen BK339.out 2
     have hnb84 := NB318_295.out
     have hnc84 := NB295_318.out
     have hnb85 := NB318_296.out
     have hnc85 := NB296_318.out
     have hnb86 := NB318_326.out
     have hnc86 := NB326_318.out
     have hcz87_0 : w61.cell? ⟨gb318, 0, none⟩ = some (.slice Ao41 t310.length co41) := (blk_cell BK318.out 0).trans rfl
     have hcz87_1 : w61.cell? ⟨gb318, 1, none⟩ = some (.slice Ao43 t313.length co43) := (blk_cell BK318.out 1).trans rfl
     have hcz87_2 : w61.cell? ⟨gb318, 2, none⟩ = some (.int .i64 t316) := (blk_cell BK318.out 2).trans rfl
     have hfz87_0 := blk_frozen BK318.out 0
     have hfz87_1 := blk_frozen BK318.out 1
     have hfz87_2 := blk_frozen BK318.out 2
     go_wp2_with (first | ((with_reducible refine gate_callee (f := 15) rfl ?_); refine goesL_ (some 45) rfl rfl Try.func15 (by kernel_rfl) rfl #[.agg #[.slice Ao62 t331.length co62, .slice Ao64 t334.length co64, .int .i64 t337], .agg #[.slice Ao41 t310.length co41, .slice Ao43 t313.length co43, .int .i64 t316]] rfl KL ?_; (with_reducible refine (laws_eqStore.calls k _ _ t331 _ _ t334 t337 _ _ t310 _ _ t313 t316 false _ ?side1 ?side2 ?side3 ?side4 ?side5 ?side6 ?side7 ?side8 A67.out).mono ?_); (case side1 => refine (Kd.R_reads' (e := 35) (base := w.heap.size) (ok := fun k_ => (some k_ ≠ (v300 : Value).ownBlock ∧ (some k_ ≠ (v303 : Value).ownBlock ∧ (some k_ ≠ (.slice Ao41 t310.length co41 : Value).ownBlock ∧ (some k_ ≠ (.slice Ao43 t313.length co43 : Value).ownBlock ∧ (some k_ ≠ (.slice Ao50 t319.length co50 : Value).ownBlock ∧ (some k_ ≠ (.slice Ao55 t322.length co55 : Value).ownBlock ∧ some k_ ≠ (.slice Ao64 t334.length co64 : Value).ownBlock))))))) (n := t331.length) (c := co62) ?_).2.2; exact (by (with_reducible repeat (first | apply Kd.R_alloc | apply Kd.R_drewN | apply Kd.R_drew)); exact (Kd.R_mono (Kd.R_far (p := ⟨gb339, 2, none⟩) (Kd.R_far (p := ⟨gb339, 1, none⟩) (Kd.R_far (p := ⟨gb339, 0, none⟩) (Kd.R_types HO333.out BK339.out (by decide)) (fun _ hk => hk.2) (.slice Ao62 t331.length co62)) (fun _ hk => hk.2) (.slice Ao64 t334.length co64)) (fun _ hk => hk.2) (.int .i64 t337)) (fun _ h_ => h_.1)))); (case side2 => exact (Kd.R_reads' HO333.out).2.1); (case side3 => refine (Kd.R_reads' (e := 35) (base := w.heap.size) (ok := fun k_ => (some k_ ≠ (v300 : Value).ownBlock ∧ (some k_ ≠ (v303 : Value).ownBlock ∧ (some k_ ≠ (.slice Ao41 t310.length co41 : Value).ownBlock ∧ (some k_ ≠ (.slice Ao43 t313.length co43 : Value).ownBlock ∧ (some k_ ≠ (.slice Ao50 t319.length co50 : Value).ownBlock ∧ (some k_ ≠ (.slice Ao55 t322.length co55 : Value).ownBlock ∧ some k_ ≠ (.slice Ao62 t331.length co62 : Value).ownBlock))))))) (n := t334.length) (c := co64) ?_).2.2; exact (by (with_reducible repeat (first | apply Kd.R_alloc | apply Kd.R_drewN | apply Kd.R_drew)); exact (Kd.R_mono (Kd.R_far (p := ⟨gb339, 2, none⟩) (Kd.R_far (p := ⟨gb339, 1, none⟩) (Kd.R_far (p := ⟨gb339, 0, none⟩) (Kd.R_types HO336.out BK339.out (by decide)) (fun _ hk => hk.2) (.slice Ao62 t331.length co62)) (fun _ hk => hk.2) (.slice Ao64 t334.length co64)) (fun _ hk => hk.2) (.int .i64 t337)) (fun _ h_ => h_.1)))); (case side4 => exact (Kd.R_reads' HO336.out).2.1); (case side5 => refine (Kd.R_reads' (e := 35) (base := w.heap.size) (ok := fun k_ => (some k_ ≠ (v300 : Value).ownBlock ∧ (some k_ ≠ (v303 : Value).ownBlock ∧ (some k_ ≠ (.slice Ao43 t313.length co43 : Value).ownBlock ∧ (some k_ ≠ (.slice Ao50 t319.length co50 : Value).ownBlock ∧ (some k_ ≠ (.slice Ao55 t322.length co55 : Value).ownBlock ∧ (some k_ ≠ (.slice Ao62 t331.length co62 : Value).ownBlock ∧ some k_ ≠ (.slice Ao64 t334.length co64 : Value).ownBlock))))))) (n := t310.length) (c := co41) ?_).2.2; exact (by (with_reducible repeat (first | apply Kd.R_alloc | apply Kd.R_drewN | apply Kd.R_drew)); exact (Kd.R_mono (Kd.R_far (p := ⟨gb339, 2, none⟩) (Kd.R_far (p := ⟨gb339, 1, none⟩) (Kd.R_far (p := ⟨gb339, 0, none⟩) (Kd.R_types HO312.out BK339.out (by decide)) (fun _ hk => hk.2) (.slice Ao62 t331.length co62)) (fun _ hk => hk.2) (.slice Ao64 t334.length co64)) (fun _ hk => hk.2) (.int .i64 t337)) (fun _ h_ => h_.1)))); (case side6 => exact (Kd.R_reads' HO312.out).2.1); (case side7 => refine (Kd.R_reads' (e := 35) (base := w.heap.size) (ok := fun k_ => (some k_ ≠ (v300 : Value).ownBlock ∧ (some k_ ≠ (v303 : Value).ownBlock ∧ (some k_ ≠ (.slice Ao41 t310.length co41 : Value).ownBlock ∧ (some k_ ≠ (.slice Ao50 t319.length co50 : Value).ownBlock ∧ (some k_ ≠ (.slice Ao55 t322.length co55 : Value).ownBlock ∧ (some k_ ≠ (.slice Ao62 t331.length co62 : Value).ownBlock ∧ some k_ ≠ (.slice Ao64 t334.length co64 : Value).ownBlock))))))) (n := t313.length) (c := co43) ?_).2.2; exact (by (with_reducible repeat (first | apply Kd.R_alloc | apply Kd.R_drewN | apply Kd.R_drew)); exact (Kd.R_mono (Kd.R_far (p := ⟨gb339, 2, none⟩) (Kd.R_far (p := ⟨gb339, 1, none⟩) (Kd.R_far (p := ⟨gb339, 0, none⟩) (Kd.R_types HO315.out BK339.out (by decide)) (fun _ hk => hk.2) (.slice Ao62 t331.length co62)) (fun _ hk => hk.2) (.slice Ao64 t334.length co64)) (fun _ hk => hk.2) (.int .i64 t337)) (fun _ h_ => h_.1)))); (case side8 => exact (Kd.R_reads' HO315.out).2.1); rintro e w88 ⟨rfl, hb⟩; refine ⟨_, rfl, ?_⟩; have n0_ := Aside0.mk (Kd.R_below (by (with_reducible repeat (first | apply Kd.R_alloc | apply Kd.R_drewN | apply Kd.R_drew)); exact (Kd.R_mono (Kd.R_far (p := ⟨gb339, 2, none⟩) (Kd.R_far (p := ⟨gb339, 1, none⟩) (Kd.R_far (p := ⟨gb339, 0, none⟩) (Kd.R_types HO301.out BK339.out (by decide)) (fun _ hk => hk.2) (.slice Ao62 t331.length co62)) (fun _ hk => hk.2) (.slice Ao64 t334.length co64)) (fun _ hk => hk.2) (.int .i64 t337)) (fun _ h_ => h_.1))) hb); have n1_ := Aside0.mk (Kd.R_below (by (with_reducible repeat (first | apply Kd.R_alloc | apply Kd.R_drewN | apply Kd.R_drew)); exact (Kd.R_mono (Kd.R_far (p := ⟨gb339, 2, none⟩) (Kd.R_far (p := ⟨gb339, 1, none⟩) (Kd.R_far (p := ⟨gb339, 0, none⟩) (Kd.R_types HO304.out BK339.out (by decide)) (fun _ hk => hk.2) (.slice Ao62 t331.length co62)) (fun _ hk => hk.2) (.slice Ao64 t334.length co64)) (fun _ hk => hk.2) (.int .i64 t337)) (fun _ h_ => h_.1))) hb); have n2_ := Aside0.mk (Kd.R_below (by (with_reducible repeat (first | apply Kd.R_alloc | apply Kd.R_drewN | apply Kd.R_drew)); exact (Kd.R_mono (Kd.R_far (p := ⟨gb339, 2, none⟩) (Kd.R_far (p := ⟨gb339, 1, none⟩) (Kd.R_far (p := ⟨gb339, 0, none⟩) (Kd.R_types HO312.out BK339.out (by decide)) (fun _ hk => hk.2) (.slice Ao62 t331.length co62)) (fun _ hk => hk.2) (.slice Ao64 t334.length co64)) (fun _ hk => hk.2) (.int .i64 t337)) (fun _ h_ => h_.1))) hb); have n3_ := Aside0.mk (Kd.R_below (by (with_reducible repeat (first | apply Kd.R_alloc | apply Kd.R_drewN | apply Kd.R_drew)); exact (Kd.R_mono (Kd.R_far (p := ⟨gb339, 2, none⟩) (Kd.R_far (p := ⟨gb339, 1, none⟩) (Kd.R_far (p := ⟨gb339, 0, none⟩) (Kd.R_types HO315.out BK339.out (by decide)) (fun _ hk => hk.2) (.slice Ao62 t331.length co62)) (fun _ hk => hk.2) (.slice Ao64 t334.length co64)) (fun _ hk => hk.2) (.int .i64 t337)) (fun _ h_ => h_.1))) hb); have n4_ := Aside0.mk (Kd.R_below (by (with_reducible repeat (first | apply Kd.R_alloc | apply Kd.R_drewN | apply Kd.R_drew)); exact (Kd.R_mono (Kd.R_far (p := ⟨gb339, 2, none⟩) (Kd.R_far (p := ⟨gb339, 1, none⟩) (Kd.R_far (p := ⟨gb339, 0, none⟩) (Kd.R_types HO321.out BK339.out (by decide)) (fun _ hk => hk.2) (.slice Ao62 t331.length co62)) (fun _ hk => hk.2) (.slice Ao64 t334.length co64)) (fun _ hk => hk.2) (.int .i64 t337)) (fun _ h_ => h_.1))) hb); have n5_ := Aside0.mk (Kd.R_below (by (with_reducible repeat (first | apply Kd.R_alloc | apply Kd.R_drewN | apply Kd.R_drew)); exact (Kd.R_mono (Kd.R_far (p := ⟨gb339, 2, none⟩) (Kd.R_far (p := ⟨gb339, 1, none⟩) (Kd.R_far (p := ⟨gb339, 0, none⟩) (Kd.R_types HO324.out BK339.out (by decide)) (fun _ hk => hk.2) (.slice Ao62 t331.length co62)) (fun _ hk => hk.2) (.slice Ao64 t334.length co64)) (fun _ hk => hk.2) (.int .i64 t337)) (fun _ h_ => h_.1))) hb); have n6_ := Aside0.mk (Kd.R_below (by (with_reducible repeat (first | apply Kd.R_alloc | apply Kd.R_drewN | apply Kd.R_drew)); exact (Kd.R_mono (Kd.R_far (p := ⟨gb339, 2, none⟩) (Kd.R_far (p := ⟨gb339, 1, none⟩) (Kd.R_far (p := ⟨gb339, 0, none⟩) (Kd.R_types HO333.out BK339.out (by decide)) (fun _ hk => hk.2) (.slice Ao62 t331.length co62)) (fun _ hk => hk.2) (.slice Ao64 t334.length co64)) (fun _ hk => hk.2) (.int .i64 t337)) (fun _ h_ => h_.1))) hb); have n7_ := Aside0.mk (Kd.R_below (by (with_reducible repeat (first | apply Kd.R_alloc | apply Kd.R_drewN | apply Kd.R_drew)); exact (Kd.R_mono (Kd.R_far (p := ⟨gb339, 2, none⟩) (Kd.R_far (p := ⟨gb339, 1, none⟩) (Kd.R_far (p := ⟨gb339, 0, none⟩) (Kd.R_types HO336.out BK339.out (by decide)) (fun _ hk => hk.2) (.slice Ao62 t331.length co62)) (fun _ hk => hk.2) (.slice Ao64 t334.length co64)) (fun _ hk => hk.2) (.int .i64 t337)) (fun _ h_ => h_.1))) hb); have n8_ := Aside0.mk (blk_below (g := gb295) (o := .cells #[.slice A0_0 l0_0.length c0_0, .slice A0_1 l0_1.length c0_1, .int .i64 a0_2] 24 (0, 0)) KK hb); have n9_ := Aside0.mk (blk_below (g := gb296) (o := .cells #[.int .i64 a1_0, .int .i64 a1_1, .bool a1_2, .string a1_3] 26 (0, 0)) KK hb); have n10_ := Aside0.mk (blk_below (g := gb318) (o := .cells #[.slice Ao41 t310.length co41, .slice Ao43 t313.length co43, .int .i64 t316] 31 (0, 0)) KK hb); have n11_ := Aside0.mk (blk_below (g := gb326) (o := .cells #[.slice Ao50 t319.length co50, .slice Ao55 t322.length co55, .int .i64 t325] 31 (0, 0)) KK hb); have n12_ := Aside0.mk (blk_below (g := gb339) (o := .cells #[.slice Ao62 t331.length co62, .slice Ao64 t334.length co64, .int .i64 t337] 31 (0, 0)) (by (with_reducible repeat (first | refine blk_drewN ?_ _ | refine blk_drew ?_ | refine blk_alloc ?_ _)); refine blk_put (cs := #[.slice Ao62 t331.length co62, .slice Ao64 t334.length co64, .int .i64 0]) ?_ 2 _ rfl; (with_reducible repeat (first | refine blk_drewN ?_ _ | refine blk_drew ?_ | refine blk_alloc ?_ _)); refine blk_put (cs := #[.slice Ao62 t331.length co62, .slice none 0 0, .int .i64 0]) ?_ 1 _ rfl; (with_reducible repeat (first | refine blk_drewN ?_ _ | refine blk_drew ?_ | refine blk_alloc ?_ _)); refine blk_put (cs := #[.slice none 0 0, .slice none 0 0, .int .i64 0]) ?_ 0 _ rfl; (with_reducible repeat (first | refine blk_drewN ?_ _ | refine blk_drew ?_ | refine blk_alloc ?_ _)); exact BK339.out) hb); have n13_ := Aside0.mk (below_step KB hb); clear HO301; clear HO304; clear HO312; clear HO315; clear HO321; clear HO324; clear HO333; clear HO336; clear BK295; clear BK296; clear BK318; clear BK326; clear BK339; clear HB; have HO301 := n0_; have HO304 := n1_; have HO312 := n2_; have HO315 := n3_; have HO321 := n4_; have HO324 := n5_; have HO333 := n6_; have HO336 := n7_; have BK295 := n8_; have BK296 := n9_; have BK318 := n10_; have BK326 := n11_; have BK339 := n12_; have HB := n13_; clear n0_ n1_ n2_ n3_ n4_ n5_ n6_ n7_ n8_ n9_ n10_ n11_ n12_ n13_; (try clear hb); (try clear hb2); (try clear hk); (try clear hi)))
     go_meet
     case rel => exact ⟨_, (true), (by first | rfl | (simp; done) | (simp [*]; done)), H', ⟨by first | omega | exact Nat.le_refl _⟩, ⟨by (with_reducible repeat (first | apply Kd.R_alloc | apply Kd.R_drewN | apply Kd.R_drew)); exact Kd.R_mono HO312.out (fun _ hk => ⟨hk.2.2.1, ⟨hk.2.2.2.1, ⟨hk.2.2.2.2.1, ⟨hk.2.2.2.2.2.1, hk.2.2.2.2.2.2⟩⟩⟩⟩)⟩, ⟨by (with_reducible repeat (first | apply Kd.R_alloc | apply Kd.R_drewN | apply Kd.R_drew)); exact Kd.R_mono HO315.out (fun _ hk => ⟨hk.2.2.1, ⟨hk.2.2.2.1, ⟨hk.2.2.2.2.1, ⟨hk.2.2.2.2.2.1, hk.2.2.2.2.2.2⟩⟩⟩⟩)⟩, ⟨by (with_reducible repeat (first | apply Kd.R_alloc | apply Kd.R_drewN | apply Kd.R_drew)); exact Kd.R_mono HO321.out (fun _ hk => ⟨hk.2.2.1, ⟨hk.2.2.2.1, ⟨hk.2.2.2.2.1, ⟨hk.2.2.2.2.2.1, hk.2.2.2.2.2.2⟩⟩⟩⟩)⟩, ⟨by (with_reducible repeat (first | apply Kd.R_alloc | apply Kd.R_drewN | apply Kd.R_drew)); exact Kd.R_mono HO324.out (fun _ hk => ⟨hk.2.2.1, ⟨hk.2.2.2.1, ⟨hk.2.2.2.2.1, ⟨hk.2.2.2.2.2.1, hk.2.2.2.2.2.2⟩⟩⟩⟩)⟩, ⟨by (with_reducible repeat (first | apply Kd.R_alloc | apply Kd.R_drewN | apply Kd.R_drew)); exact Kd.R_mono HO333.out (fun _ hk => ⟨hk.2.2.1, ⟨hk.2.2.2.1, ⟨hk.2.2.2.2.1, ⟨hk.2.2.2.2.2.1, hk.2.2.2.2.2.2⟩⟩⟩⟩)⟩, ⟨by (with_reducible repeat (first | apply Kd.R_alloc | apply Kd.R_drewN | apply Kd.R_drew)); exact Kd.R_mono HO336.out (fun _ hk => ⟨hk.2.2.1, ⟨hk.2.2.2.1, ⟨hk.2.2.2.2.1, ⟨hk.2.2.2.2.2.1, hk.2.2.2.2.2.2⟩⟩⟩⟩)⟩, ⟨KK⟩, ⟨KK⟩, ⟨KK⟩, ⟨KK⟩, ⟨KK⟩, ⟨KB⟩⟩
   case rest =>
    revert hu24 hu26 hu31 HR0_0 HC0_0 HR0_1 HC0_1 t297 A3 c4b0 t298 A10 c11b0 t299 t302 t305 A19 t306 t307 t308 t309 A20 t310 t313 t316 t317 A21 t319 t322 t325 A22 t327 t328 t329 t330 A23 t331 t334 t337 t338 A24 gb295 w26 GW295 GE295 gb296 w27 GW296 GE296 NB295_296 NB296_295 hnb28 hnc28 hcz29_0 hcz29_1 hcz29_2 hfz29_0 hfz29_1 hfz29_2 w30 hcz31_0 hcz31_1 hcz31_2 hcz31_3 hfz31_0 hfz31_1 hfz31_2 hfz31_3 w32 w33 v300 v303 gb318 w40 GW318 GE318 NB295_318 NB318_295 NB296_318 NB318_296 Ao41 co41 Ao43 co43 hs42 hfs42 hns42_0 hns42_1 hms42_0 hms42_1 hs44 hfs44 hns44_0 hns44_1 hms44_0 hms44_1 hs45 hfs45 hns45_0 hns45_1 hms45_0 hms45_1 hnb46 hnc46 hcz47_0 hcz47_1 hcz47_2 hfz47_0 hfz47_1 hfz47_2 w48 gb326 w49 GW326 GE326 NB295_326 NB326_295 NB296_326 NB326_296 NB318_326 NB326_318 Ao50 co50 hnb51 hnc51 hnb52 hnc52 hnb53 hnc53 hcz54_0 hcz54_1 hcz54_2 hfz54_0 hfz54_1 hfz54_2 Ao55 co55 w56 HT_ HW_ w57 gb339 w61 hS_ BK295 BK296 BK318 BK326 BK339 GW339 GE339 NB295_339 NB339_295 NB296_339 NB339_296 NB318_339 NB339_318 NB326_339 NB339_326 HB Ao62 co62 Ao64 co64 HO301 HO304 HO312 HO315 HO321 HO324 HO333 HO336 hs63 hfs63 hns63_0 hns63_1 hns63_2 hns63_3 hms63_0 hms63_1 hms63_2 hms63_3 hs65 hfs65 hns65_0 hns65_1 hns65_2 hns65_3 hms65_0 hms65_1 hms65_2 hms65_3 hs66 hfs66 hns66_0 hns66_1 hns66_2 hns66_3 hms66_0 hms66_1 hms66_2 hms66_3 hHeld wc u16 u17 u18 u19 u20 u21 u22 u23 u24 u25 u26 u27 u28 u29 u30 u31 u32 u33 u34 u35 u36 u37 u38 u39 u40 u41 u42 u43 u44 u45 u46 u47 u48 u49 u50 u51 u52 u53 u54 u55 u56 u57 u58 u59 u60 u61 u62 u63 u64 u65 u66 u67 u68 u69 u70 u71 u72 u73 u74 u75 u76 u77 u78 u79 u80 u81 u82 u83 u84 u85 u86 u87 u88 u89 u90 u91 u92 u93 u94 u95 u96 u97 u98 u99 u100 u101 u102 u103 u104 u105 u106 u107 u108 hcut
    repeat (rename_i x_; revert x_)
    exact hG_.out

end Go.Proofs.Ytnoghojlpicecaa.PFnExactStorePut
