-- What each Go function that this law reaches comes to: written by a program out of the translation.
import Derived.Test.YtnoghojlpicecaaMFnErasx0
import Derived.Test.YtnoghojlpicecaaMFnErasx5
import Derived.Test.YtnoghojlpicecaaMFnErasx6
import Derived.Test.YtnoghojlpicecaaMFnErasx7
import Derived.Test.YtnoghojlpicecaaMFnErasx12
namespace Go.Proofs.Ytnoghojlpicecaa.PFnEras
open Go.RowKit Go.Proofs.YtnoghojlpicecaaW.PrintWords Go.Proofs.YtnoghojlpicecaaW.PrintLast Go.Proofs.YtnoghojlpicecaaW.PrintMore
attribute [local go_sem] max2_int min2_int max_two min_two max_three min_three max_four min_four   -- for this text's walks alone
set_option linter.unusedVariables false
set_option linter.unusedSimpArgs false

/-! ### impl_placeIn: function 59 -/
-- NOROUNDS
def cmpPl (x : S35) (a : Int) : Int := if x.f0 < a then -1 else if x.f0 > a then 1 else 0
set_option maxHeartbeats 4000000 in
theorem placeIn1_calls (x : S35) (a : Int) (W : World) : Calls Try.prog 86 #[.agg #[.int .i64 x.f0, .int .i64 x.f1, .bool x.f2, .string x.f3], .int .i64 a] W fun e w' => e = .returned (.int .i64 (cmpPl x a)) ∧ Below W.heap.size W w' := by
 have hb0 : Below W.heap.size W (W.alloc (.cells #[.int .i64 x.f0, .int .i64 x.f1, .bool x.f2, .string x.f3] 35)) := below_alloc (Below.refl _ _) _
 have HB := Aside0.mk hb0
 clear hb0
 unfold cmpPl
 by_cases h1 : x.f0 < a
 ·rw [if_pos h1]
  have c1 : decide (x.f0 < a) = true := decide_eq_true h1
  clear h1
  go_enter Try.func86, Try.ntmps86
  go_wp2
  go_ret
  exact ⟨rfl, HB.out⟩
 ·rw [if_neg h1]
  have c1 : decide (x.f0 < a) = false := decide_eq_false h1
  by_cases h2 : x.f0 > a
  ·rw [if_pos h2]
   have c2 : decide (a < x.f0) = true := decide_eq_true h2
   clear h1 h2
   go_enter Try.func86, Try.ntmps86
   go_wp2
   go_ret
   exact ⟨rfl, HB.out⟩
  ·rw [if_neg h2]
   have c2 : decide (a < x.f0) = false := decide_eq_false h2
   clear h1 h2
   go_enter Try.func86, Try.ntmps86
   go_wp2
   go_ret
   exact ⟨rfl, HB.out⟩
def ascPG : Int → List S35 → Bool
 | _, [] => true
 | p, x :: t => decide (p < x.f0) && ascPG x.f0 t
def plAscG : List S35 → Bool
 | [] => true
 | x :: t => ascPG x.f0 t
theorem ascPG_all : ∀ (l : List S35) (p : Int), ascPG p l = true → (∀ x ∈ l, p < x.f0) ∧ ∀ a b, a < b → b < l.length → (l.getD a z35).f0 < (l.getD b z35).f0
 | [], _, _ => ⟨fun x hx => by simp at hx, fun a b _ h => by simp at h⟩
 | x :: t, p, h => by
  simp only [ascPG, Bool.and_eq_true, decide_eq_true_eq] at h
  have ih := ascPG_all t x.f0 h.2
  refine ⟨fun y hy => ?_, fun a b hab hb => ?_⟩
  ·rcases List.mem_cons.1 hy with rfl | hy
   ·exact h.1
   ·have := ih.1 y hy; omega
  ·obtain ⟨b, rfl⟩ : ∃ c, b = c + 1 := ⟨b - 1, by omega⟩
   have hb' : b < t.length := by simpa using hb
   cases a with
   | zero =>
    have : t.getD b z35 ∈ t := by rw [List.getD_eq_getElem?_getD, List.getElem?_eq_getElem hb']; exact List.getElem_mem hb'
    simpa using ih.1 _ this
   | succ a => simpa using ih.2 a b (by omega) hb'
theorem plAscG_all (l : List S35) (h : plAscG l = true) : ∀ a b, a < b → b < l.length → (l.getD a z35).f0 < (l.getD b z35).f0 := by
 cases l with
 | nil => intro a b _ hb; simp at hb
 | cons x t => exact (ascPG_all (x :: t) (x.f0 - 1) (by simp only [ascPG, Bool.and_eq_true, decide_eq_true_eq]; exact ⟨by omega, h⟩)).2
def lowG (l : List S35) (a : Int) : Nat := l.countP (fun x => decide (x.f0 < a))
theorem lowG_boundary (a : Int) : ∀ (l : List S35) (i : Nat), i ≤ l.length → (∀ t, t < i → (l.getD t z35).f0 < a) → (∀ t, i ≤ t → t < l.length → a ≤ (l.getD t z35).f0) → lowG l a = i
 | [], i, hi, _, _ => by simp at hi; simp [hi, lowG]
 | x :: r, 0, _, _, h2 => by
  unfold lowG
  rw [List.countP_eq_zero]
  intro y hy
  obtain ⟨t, ht, rfl⟩ := List.getElem_of_mem hy
  have := h2 t (Nat.zero_le _) ht
  rw [List.getD_eq_getElem?_getD, List.getElem?_eq_getElem ht, Option.getD_some] at this
  simp; omega
 | x :: r, i + 1, hi, h1, h2 => by
  have ha : x.f0 < a := by simpa using h1 0 (Nat.succ_pos _)
  have ih := lowG_boundary a r i (by simpa using hi) (fun t ht => by simpa using h1 (t + 1) (by omega)) (fun t h3 h4 => by simpa using h2 (t + 1) (by omega) (by simpa using h4))
  unfold lowG at ih ⊢
  rw [List.countP_cons_of_pos (by simpa using ha), ih]
def foundG (l : List S35) (a : Int) : Bool := decide (lowG l a < l.length) && decide ((l.getD (lowG l a) z35).f0 = a)
set_option maxHeartbeats 4000000 in
set_option maxRecDepth 100000 in
theorem bsearch_calls (A0 : Option Addr) (c0 : Nat) (l0 : List S35) (a : Int) (w : World) (hr0 : Kd.C k35 w A0 l0.length l0) (hasc : plAscG l0 = true) (hsz : l0.length < 4611686018427387904) :
  Calls Try.prog 85 #[.slice A0 l0.length c0, .int .i64 a, .func (.func 86) #[] #[]] w fun e w' => e = .returned (.tuple #[.int .i64 (lowG l0 a : Nat), .bool (foundG l0 a)]) ∧ Below w.heap.size w w' := by
 have HR0 := Aside0.mk hr0
 have M := Aside0.mk (plAscG_all l0 hasc)
 have S0 := Aside0.mk (Below.refl w.heap.size w)
 clear hr0 hasc
 go_enter Try.func85, Try.ntmps85
 go_wp2
 go_loopg [9, 10] l0.length (fun kx s9 s10 wr => ∃ lo hi : Nat, s9 = .int .i64 lo ∧ s10 = .int .i64 hi ∧ lo ≤ hi ∧ hi ≤ l0.length ∧ hi - lo ≤ kx ∧ Aside0 (Below w.heap.size w wr) ∧
  Aside0 ((∀ t, t < lo → (l0.getD t z35).f0 < a) ∧ (∀ t, hi ≤ t → t < l0.length → a ≤ (l0.getD t z35).f0)))
 case atStart => exact ⟨0, l0.length, rfl, rfl, Nat.zero_le _, Nat.le_refl _, by omega, S0, ⟨fun t ht => absurd ht (Nat.not_lt_zero _), fun t h1 h2 => by omega⟩⟩
 case round =>
  clear S0
  obtain ⟨lo, hi, rfl, rfl, hlh, hin, hg, S1, I⟩ := hrel
  by_cases hlt : lo < hi
  ·obtain ⟨ad, e1, hx0, hx1, hx2, hx3⟩ := at_T35 HR0.out (((lo + hi) / 2 : Nat) : Int) (by omega) (by omega)
   cases e1
   replace hx0 := (S1.out.cell (World.block_lt_of_cell? w _ hx0)).trans hx0
   replace hx1 := (S1.out.cell (World.block_lt_of_cell? w _ hx1)).trans hx1
   replace hx2 := (S1.out.cell (World.block_lt_of_cell? w _ hx2)).trans hx2
   replace hx3 := (S1.out.cell (World.block_lt_of_cell? w _ hx3)).trans hx3
   rw [Int.toNat_natCast] at hx0 hx1 hx2 hx3
   have hrd : rd_T35 l0 (((lo + hi) / 2 : Nat) : Int) = l0.getD ((lo + hi) / 2) z35 := by rw [rd_T35, Int.toNat_natCast]
   rw [hrd] at hx0 hx1 hx2 hx3
   have hc := placeIn1_calls (l0.getD ((lo + hi) / 2) z35) a
   generalize hy : l0.getD ((lo + hi) / 2) z35 = y at hx0 hx1 hx2 hx3 hc
   have Y := Aside0.mk hy
   have HC := Aside0.mk hc
   clear hy hrd hc
   by_cases hyx : y.f0 < a
   ·have hcv : cmpPl y a = -1 := by unfold cmpPl; rw [if_pos hyx]
    rw [hcv] at HC
    clear hcv
    go_wp2_with fail
    refine (HC.out _).mono ?_
    rintro e w' ⟨rfl, hb⟩
    have HB := Aside0.mk hb
    clear hb
    go_wp2
    go_roundg (hi - ((lo + hi) / 2 + 1))
    case measure => omega
    case rel =>
     refine ⟨(lo + hi) / 2 + 1, hi, by rw [show ((lo : Int) + (hi : Int)) / 2 + 1 = (((lo + hi) / 2 + 1 : Nat) : Int) by omega], rfl, by omega, hin, Nat.le_refl _, ⟨below_then S1.out S1.out.size HB.out⟩, ⟨fun t ht => ?_, I.out.2⟩⟩
     by_cases htm : t = (lo + hi) / 2
     ·rw [htm, Y.out]; exact hyx
     ·have := M.out t ((lo + hi) / 2) (by omega) (by omega)
      rw [Y.out] at this
      omega
   ·have hcv : cmpPl y a = 1 ∨ cmpPl y a = 0 := by
     unfold cmpPl; rw [if_neg hyx]
     by_cases h2 : y.f0 > a
     ·rw [if_pos h2]; exact .inl rfl
     ·rw [if_neg h2]; exact .inr rfl
    rcases hcv with hcv | hcv
    all_goals
     rw [hcv] at HC
     clear hcv
     go_wp2_with fail
     refine (HC.out _).mono ?_
     rintro e w' ⟨rfl, hb⟩
     have HB := Aside0.mk hb
     clear hb
     go_wp2
     go_roundg ((lo + hi) / 2 - lo)
     case measure => omega
     case rel =>
      refine ⟨lo, (lo + hi) / 2, rfl, by rw [show ((lo : Int) + (hi : Int)) / 2 = (((lo + hi) / 2 : Nat) : Int) by omega], by omega, by omega, Nat.le_refl _, ⟨below_then S1.out S1.out.size HB.out⟩, ⟨I.out.1, fun t ht htn => ?_⟩⟩
      by_cases htm : t = (lo + hi) / 2
      ·rw [htm, Y.out]; omega
      ·have := M.out ((lo + hi) / 2) t (by omega) htn
       rw [Y.out] at this
       omega
  ·obtain rfl : hi = lo := by omega
   have ecnt : lowG l0 a = hi := lowG_boundary a l0 hi hin I.out.1 I.out.2
   have EC := Aside0.mk ecnt
   have FD : foundG l0 a = (decide (hi < l0.length) && decide ((l0.getD hi z35).f0 = a)) := by unfold foundG; rw [ecnt]
   have FD := Aside0.mk FD
   clear ecnt
   by_cases hn : hi < l0.length
   ·obtain ⟨ad, e1, hx0, hx1, hx2, hx3⟩ := at_T35 HR0.out ((hi : Nat) : Int) (by omega) (by omega)
    cases e1
    replace hx0 := (S1.out.cell (World.block_lt_of_cell? w _ hx0)).trans hx0
    replace hx1 := (S1.out.cell (World.block_lt_of_cell? w _ hx1)).trans hx1
    replace hx2 := (S1.out.cell (World.block_lt_of_cell? w _ hx2)).trans hx2
    replace hx3 := (S1.out.cell (World.block_lt_of_cell? w _ hx3)).trans hx3
    rw [Int.toNat_natCast] at hx0 hx1 hx2 hx3
    have hrd : rd_T35 l0 ((hi : Nat) : Int) = l0.getD hi z35 := by rw [rd_T35, Int.toNat_natCast]
    rw [hrd] at hx0 hx1 hx2 hx3
    have hc := placeIn1_calls (l0.getD hi z35) a
    generalize l0.getD hi z35 = y at hx0 hx1 hx2 hx3 hc FD
    have HC := Aside0.mk hc
    clear hrd hc
    have hcv : (cmpPl y a = -1 ∧ decide (y.f0 = a) = false) ∨ (cmpPl y a = 1 ∧ decide (y.f0 = a) = false) ∨ (cmpPl y a = 0 ∧ decide (y.f0 = a) = true) := by
     unfold cmpPl
     by_cases h1 : y.f0 < a
     ·rw [if_pos h1]; exact .inl ⟨rfl, decide_eq_false (by omega)⟩
     ·rw [if_neg h1]
      by_cases h2 : y.f0 > a
      ·rw [if_pos h2]; exact .inr (.inl ⟨rfl, decide_eq_false (by omega)⟩)
      ·rw [if_neg h2]; exact .inr (.inr ⟨rfl, decide_eq_true (by omega)⟩)
    rcases hcv with ⟨hcv, hd⟩ | ⟨hcv, hd⟩ | ⟨hcv, hd⟩
    all_goals
     rw [hcv] at HC
     rw [hd, decide_eq_true hn] at FD
     clear hcv hd
     go_wp2_with fail
     refine (HC.out _).mono ?_
     rintro e w' ⟨rfl, hb⟩
     have HB := Aside0.mk hb
     clear hb
     go_wp2
     go_ret2
     rw [EC.out, FD.out]
     exact ⟨rfl, below_then S1.out S1.out.size HB.out⟩
   ·rw [decide_eq_false hn, Bool.false_and] at FD
    go_wp2
    go_ret2
    rw [EC.out, FD.out]
    exact ⟨rfl, S1.out⟩
def impl_placeIn.f (l0 : List S35) (a1 : Int) : Option (Int × Bool) := if plAscG l0 = true ∧ l0.length < 4611686018427387904 then (some ((lowG l0 a1 : Nat), foundG l0 a1)) else (none)
set_option maxHeartbeats 4000000 in
set_option maxRecDepth 100000 in
theorem impl_placeIn.calls (A0 : Option Addr) (c0 : Nat) (l0 : List S35) (a1 : Int) (r1 : Int) (r2 : Bool) (w : World) (hr0 : Kd.C k35 w A0 l0.length l0) (hc0 : l0.length ≤ c0) (h : impl_placeIn.f l0 a1 = some (r1, r2)) :
  Calls Try.prog 59 #[.slice A0 l0.length c0, .int .i64 a1] w fun e w' => e = .returned (.tuple #[.int .i64 r1, .bool r2]) ∧ Below w.heap.size w w' := by
 unfold impl_placeIn.f at h
 by_cases hl : plAscG l0 = true ∧ l0.length < 4611686018427387904
 ·rw [if_pos hl] at h
  simp only [Option.some.injEq, Prod.mk.injEq] at h
  obtain ⟨rfl, rfl⟩ := h
  have HC := Aside0.mk (bsearch_calls A0 c0 l0 a1 w hr0 hl.1 hl.2)
  clear hr0 hl
  generalize lowG l0 a1 = i at HC ⊢
  generalize foundG l0 a1 = b at HC ⊢
  go_enter Try.func59, Try.ntmps59
  go_wp2_with (go_at_call 85; refine HC.out.mono ?_; rintro e w1 ⟨rfl, hb⟩; have HB := Aside0.mk hb; clear hb)
  go_ret2
  exact ⟨rfl, HB.out⟩
 ·rw [if_neg hl] at h
  exact absurd h (by simp)

/-! ### impl_StoreGet: function 25 -/
def impl_StoreGet.f (k : Nat) (l0_0 : List (S35)) (l0_1 : List (S35)) (a0_2 : Int) (a1 : Int) : Option (Int × Int × Bool × ByteArray × Bool) := (impl_StoreOk.f k l0_0 l0_1 a0_2).bind fun t578 => (if t578 = true then ((impl_placeIn.f l0_0 a1).bind fun bt579 => (if bt579.2 = true then (if 0 ≤ bt579.1 then (if bt579.1 < (l0_0.length : Int) then (some ((rd_T35 l0_0 bt579.1).f0, (rd_T35 l0_0 bt579.1).f1, (rd_T35 l0_0 bt579.1).f2, (rd_T35 l0_0 bt579.1).f3, true)) else (none)) else (none)) else (some (0, 0, false, (⟨#[]⟩ : ByteArray), false)))) else (some (0, 0, false, (⟨#[]⟩ : ByteArray), false)))
theorem impl_StoreGet.mono : ∀ a0 a1 a2 a3 k, LeO (impl_StoreGet.f k a0 a1 a2 a3) (impl_StoreGet.f (k + 1) a0 a1 a2 a3) := by
 intro a0 a1 a2 a3 k
 unfold impl_StoreGet.f
 repeat' first
   | (with_reducible exact impl_StoreOk.mono _ _ _ _)
   | (with_reducible exact LeO.refl _)
   | (with_reducible exact LeO.none _)
   | (with_reducible refine LeO.ite ?_ ?_)
   | (with_reducible refine LeO.bind ?_ (fun _ => ?_))
   | exact impl_StoreOk.mono _ _ _ _
   | exact LeO.none _
   | refine LeO.ite ?_ ?_
   | refine LeO.bind ?_ (fun _ => ?_)
set_option maxHeartbeats 8000000 in
set_option maxRecDepth 100000 in
theorem impl_StoreGet.calls (k : Nat) (A0_0 : Option Addr) (c0_0 : Nat) (l0_0 : List (S35)) (A0_1 : Option Addr) (c0_1 : Nat) (l0_1 : List (S35)) (a0_2 : Int) (a1 : Int) (r1 : Int) (r2 : Int) (r3 : Bool) (r4 : ByteArray) (r5 : Bool) (w : World) (hr0_0 : Kd.C k35 w A0_0 l0_0.length l0_0) (hc0_0 : l0_0.length ≤ c0_0) (hr0_1 : Kd.C k35 w A0_1 l0_1.length l0_1) (hc0_1 : l0_1.length ≤ c0_1) (h : impl_StoreGet.f k l0_0 l0_1 a0_2 a1 = some (r1, r2, r3, r4, r5)) :
  Calls Try.prog 25 #[.agg #[.slice A0_0 l0_0.length c0_0, .slice A0_1 l0_1.length c0_1, .int .i64 a0_2], .int .i64 a1] w fun e w' => e = .returned (.tuple #[.agg #[.int .i64 r1, .int .i64 r2, .bool r3, .string r4], .bool r5]) ∧ Below w.heap.size w w' := by
 have hu31 := Try.underlying31; have hu35 := Try.underlying35; have HR0_0 := Aside0.mk hr0_0; have HC0_0 := Aside0.mk hc0_0; clear hr0_0 hc0_0; have HR0_1 := Aside0.mk hr0_1; have HC0_1 := Aside0.mk hc0_1; clear hr0_1 hc0_1; have HB := Aside0.mk (Below.refl w.heap.size w); have H : ((impl_StoreOk.f k l0_0 l0_1 a0_2).bind fun t578 => (if t578 = true then ((impl_placeIn.f l0_0 a1).bind fun bt579 => (if bt579.2 = true then (if 0 ≤ bt579.1 then (if bt579.1 < (l0_0.length : Int) then (some ((rd_T35 l0_0 bt579.1).f0, (rd_T35 l0_0 bt579.1).f1, (rd_T35 l0_0 bt579.1).f2, (rd_T35 l0_0 bt579.1).f3, true)) else (none)) else (none)) else (some (0, 0, false, (⟨#[]⟩ : ByteArray), false)))) else (some (0, 0, false, (⟨#[]⟩ : ByteArray), false)))) = some (r1, r2, r3, r4, r5) := h; clear h; replace H := Option.bind_eq_some_iff.mp H; obtain ⟨t578, A30, H⟩ := H
 try dsimp only at H
 have A3 := Aside0.mk A30; clear A30
 by_cases c4 : t578 = true
 ·subst c4
  have H1 : ((impl_placeIn.f l0_0 a1).bind fun bt579 => (if bt579.2 = true then (if 0 ≤ bt579.1 then (if bt579.1 < (l0_0.length : Int) then (some ((rd_T35 l0_0 bt579.1).f0, (rd_T35 l0_0 bt579.1).f1, (rd_T35 l0_0 bt579.1).f2, (rd_T35 l0_0 bt579.1).f3, true)) else (none)) else (none)) else (some (0, 0, false, (⟨#[]⟩ : ByteArray), false)))) = some (r1, r2, r3, r4, r5) := by rw [if_pos rfl] at H; exact H
  clear H; have H := H1; clear H1; replace H := Option.bind_eq_some_iff.mp H; obtain ⟨⟨t579, t580⟩, A50, H⟩ := H
  try dsimp only at H
  have A5 := Aside0.mk A50; clear A50
  by_cases c6 : t580 = true
  ·subst c6
   have H1 : (if 0 ≤ t579 then (if t579 < (l0_0.length : Int) then (some ((rd_T35 l0_0 t579).f0, (rd_T35 l0_0 t579).f1, (rd_T35 l0_0 t579).f2, (rd_T35 l0_0 t579).f3, true)) else (none)) else (none)) = some (r1, r2, r3, r4, r5) := by rw [if_pos rfl] at H; exact H
   clear H; have H := H1; clear H1
   by_cases c7 : 0 ≤ t579
   ·rw [if_pos c7] at H
    have c7b0 : decide (0 ≤ t579) = true := decide_eq_true c7; clear c7
    by_cases c8 : t579 < (l0_0.length : Int)
    ·rw [if_pos c8] at H
     have c8b0 : decide (t579 < (l0_0.length : Int)) = true := decide_eq_true c8; clear c8; simp only [Option.some.injEq, Prod.mk.injEq] at H; obtain ⟨rfl, rfl, rfl, rfl, rfl⟩ := H
     go_enter Try.func25, Try.ntmps25
     go_wp2_with (first | ((with_reducible refine GD 2 ?_); refine BE 2 #[.slice A0_0 l0_0.length c0_0, .slice A0_1 l0_1.length c0_1, .int .i64 a0_2] 31 ?_; intro gb576 hg w9 hbox hb; have h_ := PB w hb hbox hg; clear HB; obtain ⟨HB, BK576, GW576, GE576⟩ := h_; clear hb hbox hg) | ((with_reducible refine GD 4 ?_); refine BE 4 #[.int .i64 0, .int .i64 0, .bool false, .string (⟨#[]⟩ : ByteArray)] 35 ?_; intro gb577 hg w10 hbox hb; have h_ := P7 (BL BK576.out hb) (below_step KB hb) hbox (Kg w hg) (Kg w hg) (NX hg BK576.out) (NY hg BK576.out); clear BK576 HB; obtain ⟨BK576, HB, BK577, GW577, GE577, NB576_577, NB577_576⟩ := h_; clear hb hbox hg; have hnb11 := NB576_577.out; have hnc11 := NB577_576.out; obtain ⟨hcz12_0, hcz12_1, hcz12_2, hfz12_0, hfz12_1, hfz12_2⟩ := C3 BK576.out) | ((with_reducible refine GC 32 ?_); refine goesL_ (some 9) rfl rfl Try.func32 (by kernel_rfl) rfl #[.agg #[.slice A0_0 l0_0.length c0_0, .slice A0_1 l0_1.length c0_1, .int .i64 a0_2]] rfl KL ?_; (with_reducible refine (impl_StoreOk.calls k _ _ l0_0 _ _ l0_1 a0_2 true _ ?side1 ?side2 ?side3 ?side4 A3.out).mono ?_); (case side1 => exact KD (Kd.C_below HR0_0.out HB.out)); (case side2 => exact HC0_0.out); (case side3 => exact KD (Kd.C_below HR0_1.out HB.out)); (case side4 => exact HC0_1.out); rintro e w13 ⟨rfl, hb⟩; refine ⟨_, rfl, ?_⟩; have h_ := P3 (BL BK576.out hb) (BL BK577.out hb) (below_step KB hb); clear BK576 BK577 HB; obtain ⟨BK576, BK577, HB⟩ := h_; (try clear hb); (try clear hk); (try clear hi); obtain ⟨hcz14_0, hcz14_1, hcz14_2, hfz14_0, hfz14_1, hfz14_2⟩ := C3 BK576.out) | ((with_reducible refine GC 59 ?_); refine goesL_ (some 16) rfl rfl Try.func59 (by kernel_rfl) rfl #[.slice A0_0 l0_0.length c0_0, .int .i64 a1] rfl KL ?_; (with_reducible refine (impl_placeIn.calls _ _ l0_0 a1 t579 true _ ?side1 ?side2 A5.out).mono ?_); (case side1 => exact KD (Kd.C_below HR0_0.out HB.out)); (case side2 => exact HC0_0.out); rintro e w15 ⟨rfl, hb⟩; refine ⟨_, rfl, ?_⟩; have h_ := P3 (BL BK576.out hb) (BL BK577.out hb) (below_step KB hb); clear BK576 BK577 HB; obtain ⟨BK576, BK577, HB⟩ := h_; (try clear hb); (try clear hk); (try clear hi); obtain ⟨hcz16_0, hcz16_1, hcz16_2, hfz16_0, hfz16_1, hfz16_2⟩ := C3 BK576.out; have p581 : 0 ≤ (t579 : Int) := of_decide_eq_true (by first | (with_reducible assumption) | assumption); have q581 : t579 < (l0_0.length : Int) := of_decide_eq_true (by first | (with_reducible assumption) | assumption); obtain ⟨ad581, e581, hx581_0, hx581_1, hx581_2, hx581_3⟩ := at_T35 HR0_0.out t579 p581 q581; cases e581; replace hx581_0 := CB HB.out hx581_0; replace hx581_1 := CB HB.out hx581_1; replace hx581_2 := CB HB.out hx581_2; replace hx581_3 := CB HB.out hx581_3; replace p581 := eq_true p581; replace q581 := eq_true q581; obtain ⟨hcz17_0, hcz17_1, hcz17_2, hcz17_3, hfz17_0, hfz17_1, hfz17_2, hfz17_3⟩ := C4 BK577.out))
     refine bodyPost_ret (results_ct rfl _ _ gb577 35 #[.int .i64 ((rd_T35 l0_0 t579).f0), .int .i64 ((rd_T35 l0_0 t579).f1), .bool ((rd_T35 l0_0 t579).f2), .string ((rd_T35 l0_0 t579).f3)] (0, 0) _ rfl (by refine SK ?_; refine BP #[.int .i64 ((rd_T35 l0_0 t579).f0), .int .i64 ((rd_T35 l0_0 t579).f1), .bool ((rd_T35 l0_0 t579).f2), .string (⟨#[]⟩ : ByteArray)] ?_ 3; refine SK ?_; refine BP #[.int .i64 ((rd_T35 l0_0 t579).f0), .int .i64 ((rd_T35 l0_0 t579).f1), .bool false, .string (⟨#[]⟩ : ByteArray)] ?_ 2; refine SK ?_; refine BP #[.int .i64 ((rd_T35 l0_0 t579).f0), .int .i64 0, .bool false, .string (⟨#[]⟩ : ByteArray)] ?_ 1; refine SK ?_; refine BP #[.int .i64 0, .int .i64 0, .bool false, .string (⟨#[]⟩ : ByteArray)] ?_ 0; exact SK BK577.out) Try.underlying35 rfl (by kernel_rfl)) rfl ?_; exact ⟨KE, KB⟩
    ·rw [if_neg c8] at H
     exact absurd H (by simp)
   ·rw [if_neg c7] at H
    exact absurd H (by simp)
  ·replace c6 := Bool.eq_false_iff.mpr c6
   subst c6; have H1 : (some (0, 0, false, (⟨#[]⟩ : ByteArray), false)) = some (r1, r2, r3, r4, r5) := by rw [if_neg (show ¬ (false = true) by decide)] at H; exact H
   clear H; have H := H1; clear H1; simp only [Option.some.injEq, Prod.mk.injEq] at H; obtain ⟨rfl, rfl, rfl, rfl, rfl⟩ := H
   go_enter Try.func25, Try.ntmps25
   go_wp2_with (first | ((with_reducible refine GD 2 ?_); refine BE 2 #[.slice A0_0 l0_0.length c0_0, .slice A0_1 l0_1.length c0_1, .int .i64 a0_2] 31 ?_; intro gb576 hg w18 hbox hb; have h_ := PB w hb hbox hg; clear HB; obtain ⟨HB, BK576, GW576, GE576⟩ := h_; clear hb hbox hg) | ((with_reducible refine GD 4 ?_); refine BE 4 #[.int .i64 0, .int .i64 0, .bool false, .string (⟨#[]⟩ : ByteArray)] 35 ?_; intro gb577 hg w19 hbox hb; have h_ := P7 (BL BK576.out hb) (below_step KB hb) hbox (Kg w hg) (Kg w hg) (NX hg BK576.out) (NY hg BK576.out); clear BK576 HB; obtain ⟨BK576, HB, BK577, GW577, GE577, NB576_577, NB577_576⟩ := h_; clear hb hbox hg; have hnb20 := NB576_577.out; have hnc20 := NB577_576.out; obtain ⟨hcz21_0, hcz21_1, hcz21_2, hfz21_0, hfz21_1, hfz21_2⟩ := C3 BK576.out) | ((with_reducible refine GC 32 ?_); refine goesL_ (some 9) rfl rfl Try.func32 (by kernel_rfl) rfl #[.agg #[.slice A0_0 l0_0.length c0_0, .slice A0_1 l0_1.length c0_1, .int .i64 a0_2]] rfl KL ?_; (with_reducible refine (impl_StoreOk.calls k _ _ l0_0 _ _ l0_1 a0_2 true _ ?side1 ?side2 ?side3 ?side4 A3.out).mono ?_); (case side1 => exact KD (Kd.C_below HR0_0.out HB.out)); (case side2 => exact HC0_0.out); (case side3 => exact KD (Kd.C_below HR0_1.out HB.out)); (case side4 => exact HC0_1.out); rintro e w22 ⟨rfl, hb⟩; refine ⟨_, rfl, ?_⟩; have h_ := P3 (BL BK576.out hb) (BL BK577.out hb) (below_step KB hb); clear BK576 BK577 HB; obtain ⟨BK576, BK577, HB⟩ := h_; (try clear hb); (try clear hk); (try clear hi); obtain ⟨hcz23_0, hcz23_1, hcz23_2, hfz23_0, hfz23_1, hfz23_2⟩ := C3 BK576.out) | ((with_reducible refine GC 59 ?_); refine goesL_ (some 16) rfl rfl Try.func59 (by kernel_rfl) rfl #[.slice A0_0 l0_0.length c0_0, .int .i64 a1] rfl KL ?_; (with_reducible refine (impl_placeIn.calls _ _ l0_0 a1 t579 false _ ?side1 ?side2 A5.out).mono ?_); (case side1 => exact KD (Kd.C_below HR0_0.out HB.out)); (case side2 => exact HC0_0.out); rintro e w24 ⟨rfl, hb⟩; refine ⟨_, rfl, ?_⟩; have h_ := P3 (BL BK576.out hb) (BL BK577.out hb) (below_step KB hb); clear BK576 BK577 HB; obtain ⟨BK576, BK577, HB⟩ := h_; (try clear hb); (try clear hk); (try clear hi); obtain ⟨hcz25_0, hcz25_1, hcz25_2, hcz25_3, hfz25_0, hfz25_1, hfz25_2, hfz25_3⟩ := C4 BK577.out))
   refine bodyPost_ret (results_ct rfl _ _ gb577 35 #[.int .i64 0, .int .i64 0, .bool false, .string (⟨#[]⟩ : ByteArray)] (0, 0) _ rfl (by refine SK ?_; refine BP #[.int .i64 0, .int .i64 0, .bool false, .string (⟨#[]⟩ : ByteArray)] ?_ 3; refine SK ?_; refine BP #[.int .i64 0, .int .i64 0, .bool false, .string (⟨#[]⟩ : ByteArray)] ?_ 2; refine SK ?_; refine BP #[.int .i64 0, .int .i64 0, .bool false, .string (⟨#[]⟩ : ByteArray)] ?_ 1; refine SK ?_; refine BP #[.int .i64 0, .int .i64 0, .bool false, .string (⟨#[]⟩ : ByteArray)] ?_ 0; exact SK BK577.out) Try.underlying35 rfl (by kernel_rfl)) rfl ?_; exact ⟨KE, KB⟩
 ·replace c4 := Bool.eq_false_iff.mpr c4
  subst c4; have H1 : (some (0, 0, false, (⟨#[]⟩ : ByteArray), false)) = some (r1, r2, r3, r4, r5) := by rw [if_neg (show ¬ (false = true) by decide)] at H; exact H
  clear H; have H := H1; clear H1; simp only [Option.some.injEq, Prod.mk.injEq] at H; obtain ⟨rfl, rfl, rfl, rfl, rfl⟩ := H
  go_enter Try.func25, Try.ntmps25
  go_wp2_with (first | ((with_reducible refine GD 2 ?_); refine BE 2 #[.slice A0_0 l0_0.length c0_0, .slice A0_1 l0_1.length c0_1, .int .i64 a0_2] 31 ?_; intro gb576 hg w26 hbox hb; have h_ := PB w hb hbox hg; clear HB; obtain ⟨HB, BK576, GW576, GE576⟩ := h_; clear hb hbox hg) | ((with_reducible refine GD 4 ?_); refine BE 4 #[.int .i64 0, .int .i64 0, .bool false, .string (⟨#[]⟩ : ByteArray)] 35 ?_; intro gb577 hg w27 hbox hb; have h_ := P7 (BL BK576.out hb) (below_step KB hb) hbox (Kg w hg) (Kg w hg) (NX hg BK576.out) (NY hg BK576.out); clear BK576 HB; obtain ⟨BK576, HB, BK577, GW577, GE577, NB576_577, NB577_576⟩ := h_; clear hb hbox hg; have hnb28 := NB576_577.out; have hnc28 := NB577_576.out; obtain ⟨hcz29_0, hcz29_1, hcz29_2, hfz29_0, hfz29_1, hfz29_2⟩ := C3 BK576.out) | ((with_reducible refine GC 32 ?_); refine goesL_ (some 9) rfl rfl Try.func32 (by kernel_rfl) rfl #[.agg #[.slice A0_0 l0_0.length c0_0, .slice A0_1 l0_1.length c0_1, .int .i64 a0_2]] rfl KL ?_; (with_reducible refine (impl_StoreOk.calls k _ _ l0_0 _ _ l0_1 a0_2 false _ ?side1 ?side2 ?side3 ?side4 A3.out).mono ?_); (case side1 => exact KD (Kd.C_below HR0_0.out HB.out)); (case side2 => exact HC0_0.out); (case side3 => exact KD (Kd.C_below HR0_1.out HB.out)); (case side4 => exact HC0_1.out); rintro e w30 ⟨rfl, hb⟩; refine ⟨_, rfl, ?_⟩; have h_ := P3 (BL BK576.out hb) (BL BK577.out hb) (below_step KB hb); clear BK576 BK577 HB; obtain ⟨BK576, BK577, HB⟩ := h_; (try clear hb); (try clear hk); (try clear hi); obtain ⟨hcz31_0, hcz31_1, hcz31_2, hcz31_3, hfz31_0, hfz31_1, hfz31_2, hfz31_3⟩ := C4 BK577.out))
  refine bodyPost_ret (results_ct rfl _ _ gb577 35 #[.int .i64 0, .int .i64 0, .bool false, .string (⟨#[]⟩ : ByteArray)] (0, 0) _ rfl (by refine SK ?_; refine BP #[.int .i64 0, .int .i64 0, .bool false, .string (⟨#[]⟩ : ByteArray)] ?_ 3; refine SK ?_; refine BP #[.int .i64 0, .int .i64 0, .bool false, .string (⟨#[]⟩ : ByteArray)] ?_ 2; refine SK ?_; refine BP #[.int .i64 0, .int .i64 0, .bool false, .string (⟨#[]⟩ : ByteArray)] ?_ 1; refine SK ?_; refine BP #[.int .i64 0, .int .i64 0, .bool false, .string (⟨#[]⟩ : ByteArray)] ?_ 0; exact SK BK577.out) Try.underlying35 rfl (by kernel_rfl)) rfl ?_; exact ⟨KE, KB⟩

/-! ### spec_l6DrawAt: function 60 -/
def spec_l6DrawAt.j0 : Nat → Bool → List Int → Int → Int → List (S35) → List (S35) → Int → Option (Int × Int × Int)
 | 0, _, _, _, _, _, _, _ => none
 | k + 1, x13, x1000, x1001, x1002, x583000, x583001, x583002 => if x13 = true then ((spec_l1Below.f x1000 x1001 x1002 (x583000.length : Int)).bind fun bt586 => (if 0 ≤ bt586.1 then (if bt586.1 < (x583000.length : Int) then (some ((rd_T35 x583000 bt586.1).f0, bt586.2.1, bt586.2.2)) else (none)) else (none))) else ((spec_l1DrawPlace.f x1000 x1001 x1002).bind fun bt590 => (some (bt590.1, bt590.2.1, bt590.2.2)))
def spec_l6DrawAt.f (k : Nat) (s0_0 : List Int) (s0_1 : Int) (s0_2 : Int) (l1_0 : List (S35)) (l1_1 : List (S35)) (a1_2 : Int) : Option (Int × Int × Int) := if (l1_0.length : Int) > 0 then ((spec_l1Once.f s0_0 s0_1 s0_2 4).bind fun bt583 => (spec_l6DrawAt.j0 k (!bt583.1) s0_0 bt583.2.1 bt583.2.2 l1_0 l1_1 a1_2)) else (spec_l6DrawAt.j0 k false s0_0 s0_1 s0_2 l1_0 l1_1 a1_2)
theorem spec_l6DrawAt.mono_l : ∀ k, (∀ y0 y1 y2 y3 y4 y5 y6, LeO (spec_l6DrawAt.j0 k y0 y1 y2 y3 y4 y5 y6) (spec_l6DrawAt.j0 (k + 1) y0 y1 y2 y3 y4 y5 y6))
 | 0 => fun _ _ _ _ _ _ _ r h => by simp [spec_l6DrawAt.j0] at h
 | k + 1 => by
  have ih0 := spec_l6DrawAt.mono_l k
  ·intro y0 y1 y2 y3 y4 y5 y6
   unfold spec_l6DrawAt.j0
   repeat' first
   | (with_reducible exact ih0 _ _ _ _ _ _ _)
   | (with_reducible exact LeO.refl _)
   | (with_reducible exact LeO.none _)
   | (with_reducible refine LeO.ite ?_ ?_)
   | (with_reducible refine LeO.bind ?_ (fun _ => ?_))
   | exact ih0 _ _ _ _ _ _ _
   | exact LeO.none _
   | refine LeO.ite ?_ ?_
   | refine LeO.bind ?_ (fun _ => ?_)
theorem spec_l6DrawAt.mono : ∀ a0 a1 a2 a3 a4 a5 k, LeO (spec_l6DrawAt.f k a0 a1 a2 a3 a4 a5) (spec_l6DrawAt.f (k + 1) a0 a1 a2 a3 a4 a5) := by
 intro a0 a1 a2 a3 a4 a5 k; have ih0 := spec_l6DrawAt.mono_l k
 unfold spec_l6DrawAt.f
 repeat' first
   | (with_reducible exact ih0 _ _ _ _ _ _ _)
   | (with_reducible exact LeO.refl _)
   | (with_reducible exact LeO.none _)
   | (with_reducible refine LeO.ite ?_ ?_)
   | (with_reducible refine LeO.bind ?_ (fun _ => ?_))
   | exact ih0 _ _ _ _ _ _ _
   | exact LeO.none _
   | refine LeO.ite ?_ ?_
   | refine LeO.bind ?_ (fun _ => ?_)
def spec_l6DrawAt.T2 : Bool × List (List Nat × List Nat) := (true, [([], []), ([0], [0]), ([], []), ([], []), ([3], [3]), ([4], [4]), ([2, 5], [2, 5]), ([1, 6], [1, 6]), ([7], [7]), ([8], [8]), ([9, 6, 0, 1, 2, 3, 4, 5, 6, 7, 8, 9], [9])])
def spec_l6DrawAt.B2 : List Nat := [0, 1, 0, 0, 8, 24, 60, 127, 255, 511, 1023]
theorem spec_l6DrawAt.tab2 : rtab .any (opsOf Try.f60 2) = spec_l6DrawAt.T2 := by kernel_rfl
theorem spec_l6DrawAt.bits2 : waitsOk spec_l6DrawAt.T2.2 spec_l6DrawAt.B2 = true := by kernel_rfl
set_option maxHeartbeats 8000000 in
set_option maxRecDepth 100000 in
theorem spec_l6DrawAt.calls (k : Nat) (g : Nat) (s0_0 : List Int) (s0_1 : Int) (s0_2 : Int) (A1_0 : Option Addr) (c1_0 : Nat) (l1_0 : List (S35)) (A1_1 : Option Addr) (c1_1 : Nat) (l1_1 : List (S35)) (a1_2 : Int) (r1 : Int) (r2 : Int) (r3 : Int) (w0 w : World) (hI : IsS87 w0 w g s0_0 s0_1 s0_2) (hB : Below w0.heap.size w0 w) (hr1_0 : ∀ W_, KeepBut w W_ g none → Kd.C k35 W_ A1_0 l1_0.length l1_0) (hc1_0 : l1_0.length ≤ c1_0) (hr1_1 : ∀ W_, KeepBut w W_ g none → Kd.C k35 W_ A1_1 l1_1.length l1_1) (hc1_1 : l1_1.length ≤ c1_1) (h : spec_l6DrawAt.f k s0_0 s0_1 s0_2 l1_0 l1_1 a1_2 = some (r1, r2, r3)) :
  Calls Try.prog 60 #[.pointer (some ⟨g, 0, none⟩), .agg #[.slice A1_0 l1_0.length c1_0, .slice A1_1 l1_1.length c1_1, .int .i64 a1_2]] w fun e w' => e = .returned (.int .i64 r1) ∧ IsS87 w0 w' g s0_0 r2 r3 ∧ Below w0.heap.size w0 w' ∧ KeepBut w w' g none := by
 have hu31 := Try.underlying31; have HR1_0 := Aside0.mk hr1_0; have HC1_0 := Aside0.mk hc1_0; clear hr1_0 hc1_0; have HR1_1 := Aside0.mk hr1_1; have HC1_1 := Aside0.mk hc1_1; clear hr1_1 hc1_1; have HI0 := Aside0.mk hI; have HK := Aside0.mk (KeepBut.refl w g none); have HL := Aside0.mk hB.size; clear hI; have HW0 := Aside0.mk hB.size; have HB := Aside0.mk hB; clear hB; have H : (if (l1_0.length : Int) > 0 then ((spec_l1Once.f s0_0 s0_1 s0_2 4).bind fun bt583 => (spec_l6DrawAt.j0 k (!bt583.1) s0_0 bt583.2.1 bt583.2.2 l1_0 l1_1 a1_2)) else (spec_l6DrawAt.j0 k false s0_0 s0_1 s0_2 l1_0 l1_1 a1_2)) = some (r1, r2, r3) := h; clear h; have HC3 := Aside0.mk H; clear H
 go_enter Try.func60, Try.ntmps60
 go_upto_region 1 with (first | ((with_reducible refine GD 3 ?_); refine BE 3 #[.slice A1_0 l1_0.length c1_0, .slice A1_1 l1_1.length c1_1, .int .i64 a1_2] 31 ?_; intro gb582 hg w4 hbox hb; have h_ := P8 (IsS87.below (KI87) hb) (KeepBut.trans KH (KeepBut.of_below hb g none) (.inl rfl)) (below_step KB87 hb) hbox (KSg hg HK.out) (Nat.le_trans HW0.out (KSg hg HK.out)) (by rw [hg]; exact Nat.ne_of_lt (IsS87.lt (show IsS87 w0 _ g s0_0 s0_1 s0_2 from KI87)) : g ≠ gb582) (by rw [hg]; exact Nat.ne_of_gt (IsS87.lt (show IsS87 w0 _ g s0_0 s0_1 s0_2 from KI87)) : gb582 ≠ g); clear HI0 HK HB; obtain ⟨HI0, HK, HB, BK582, GW582, GE582, NB0_582, NB582_0⟩ := h_; clear hb hbox hg))
 (try simp only [Act.put, List.setIfInBounds_toArray, List.set_cons_zero, List.set_cons_succ])
 go_cut [13] (fun v13 wc => ∃ (kq : Nat) (x13_2 : Bool) (x1001_2 : Int) (x1002_2 : Int), v13 = .bool x13_2 ∧ Aside0 (spec_l6DrawAt.j0 kq x13_2 s0_0 x1001_2 x1002_2 l1_0 l1_1 a1_2 = some (r1, r2, r3)) ∧ Aside0 (kq ≤ k) ∧ Aside0 (wc.heap[gb582]? = some (.cells #[(.slice A1_0 l1_0.length c1_0), (.slice A1_1 l1_1.length c1_1), .int .i64 a1_2] 31 (0, 0))) ∧ Aside0 (IsS87 w0 wc g s0_0 x1001_2 x1002_2) ∧ Aside0 (KeepBut w wc g none) ∧ Aside0 (Below w0.heap.size w0 wc))
 case first =>
  have H := HC3.out; clear HC3
  by_cases c5 : (l1_0.length : Int) > 0
  ·rw [if_pos c5] at H
   have c5b0 : decide (0 < (l1_0.length : Int)) = true := decide_eq_true c5; have c5b1 : decide (0 < l1_0.length) = true := decide_eq_true (by omega); clear c5; (first | rw [c5b0] | (simp only [i64_w, i32_w]; rw [c5b0]) | skip); replace H := Option.bind_eq_some_iff.mp H; obtain ⟨⟨t583, t584, t585⟩, A60, H⟩ := H
   try dsimp only at H
   have A6 := Aside0.mk A60; clear A60; have H' := Aside0.mk H; clear H; have hnb7 := NB582_0.out; have hnc7 := NB0_582.out; obtain ⟨hcz8_0, hcz8_1, hcz8_2, hfz8_0, hfz8_1, hfz8_2⟩ := C3 BK582.out
   go_wp2_with (first | (go_at_call 61; (with_reducible refine (spec_l1Once.calls g s0_0 s0_1 s0_2 4 t583 t584 t585 w0 _ ?side1 ?side2 A6.out).mono ?_); (case side1 => exact KI87); (case side2 => exact KBh87 HB.out); rintro e w9 ⟨rfl, hi, hb, hk⟩; have h_ := P4 (KW BK582.out hk NB582_0.out) (KeepBut.trans (KHh HK.out) hk (.inl rfl)) hb hi; clear BK582 HK HB HI0; obtain ⟨BK582, HK, HB, HI0⟩ := h_; (try clear hb); (try clear hk); (try clear hi)))
   go_meet
   case rel => exact ⟨_, (!t583), (t584), (t585), (by first | rfl | (simp; done) | (simp [*]; done)), H', ⟨by first | omega | exact Nat.le_refl _⟩, ⟨KK⟩, ⟨KI87⟩, ⟨by repeat (first | (with_reducible first | exact HK.out | apply KeepBut.set_ | apply keep_drewN | apply keep_drew | apply keep_alloc | refine keep_far ?_ GW582.out _) | exact HK.out)⟩, ⟨KBh87 HB.out⟩⟩
  ·rw [if_neg c5] at H
   have c5b0 : decide (0 < (l1_0.length : Int)) = false := decide_eq_false c5; have c5b1 : decide (0 < l1_0.length) = false := decide_eq_false (by omega); clear c5; (first | rw [c5b0] | (simp only [i64_w, i32_w]; rw [c5b0]) | skip); have H' := Aside0.mk H; clear H; have hnb10 := NB582_0.out; have hnc10 := NB0_582.out; obtain ⟨hcz11_0, hcz11_1, hcz11_2, hfz11_0, hfz11_1, hfz11_2⟩ := C3 BK582.out
   go_wp2
   go_meet
   case rel => exact ⟨_, (false), (s0_1), (s0_2), (by first | rfl | (simp; done) | (simp [*]; done)), H', ⟨by first | omega | exact Nat.le_refl _⟩, ⟨KK⟩, ⟨KI87⟩, ⟨by repeat (first | (with_reducible first | exact HK.out | apply KeepBut.set_ | apply keep_drewN | apply keep_drew | apply keep_alloc | refine keep_far ?_ GW582.out _) | exact HK.out)⟩, ⟨KBh87 HB.out⟩⟩
 case rest =>
  clear HC3
  try clear c1
  try clear p2
  try clear c5
  try clear c5b0
  try clear c5b1
  try clear c6
  try clear c7
  try clear c10
  try clear hcz11_0
  try clear hcz11_1
  try clear hcz11_2
  try clear hcz8_0
  try clear hcz8_1
  try clear hcz8_2
  try clear hfz11_0
  try clear hfz11_1
  try clear hfz11_2
  try clear hfz8_0
  try clear hfz8_1
  try clear hfz8_2
  obtain ⟨kq, x13_2, x1001_2, x1002_2, rfl, HA, HJ2, BK582, HI0, HK, HB⟩ := hcut
  cases kq with
  | zero => exact absurd HA.out (by simp [spec_l6DrawAt.j0])
  | succ kj2 =>
   have H := HA.out; clear HA; simp only [spec_l6DrawAt.j0] at H
   by_cases c12 : x13_2 = true
   ·subst c12
    have H1 : ((spec_l1Below.f s0_0 x1001_2 x1002_2 (l1_0.length : Int)).bind fun bt586 => (if 0 ≤ bt586.1 then (if bt586.1 < (l1_0.length : Int) then (some ((rd_T35 l1_0 bt586.1).f0, bt586.2.1, bt586.2.2)) else (none)) else (none))) = some (r1, r2, r3) := by rw [if_pos rfl] at H; exact H
    clear H; have H := H1; clear H1; replace H := Option.bind_eq_some_iff.mp H; obtain ⟨⟨t586, t587, t588⟩, A130, H⟩ := H
    try dsimp only at H
    have A13 := Aside0.mk A130; clear A130
    by_cases c14 : 0 ≤ t586
    ·rw [if_pos c14] at H
     have c14b0 : decide (0 ≤ t586) = true := decide_eq_true c14; clear c14
     by_cases c15 : t586 < (l1_0.length : Int)
     ·rw [if_pos c15] at H
      have c15b0 : decide (t586 < (l1_0.length : Int)) = true := decide_eq_true c15; clear c15; simp only [Option.some.injEq, Prod.mk.injEq] at H; obtain ⟨rfl, rfl, rfl⟩ := H
      try go_wp2
      have h_ := P4 (blk_drew BK582.out) (IsS87.drew HI0.out) (keep_drew HK.out) (below_drew1 HB.out); clear BK582 HI0 HK HB; obtain ⟨BK582, HI0, HK, HB⟩ := h_; have p589 : 0 ≤ (t586 : Int) := of_decide_eq_true (by first | (with_reducible assumption) | assumption); have q589 : t586 < (l1_0.length : Int) := of_decide_eq_true (by first | (with_reducible assumption) | assumption); obtain ⟨ad589, e589, hx589_0, hx589_1, hx589_2, hx589_3⟩ := at_T35 (Kd.C_foot_now HR1_0.out HK.out) t586 p589 q589; have hw589_3 := hx589_3; have hw589_2 := hx589_2; have hw589_1 := hx589_1; have hw589_0 := hx589_0
      cases e589
      have hne589_3 := (show (⟨(ad589.add ((t586).toNat * 4)).block, (ad589.add ((t586).toNat * 4)).off + 3, none⟩ : Addr).block ≠ g from by first | (rw [add_block]; exact Kd.foot_ne HR1_0.out (by omega) (by decide)) | (show (Addr.add _ _).block ≠ _; rw [add_block]; exact Kd.foot_ne HR1_0.out (by omega) (by decide)) | exact Kd.foot_ne HR1_0.out (by omega) (by decide) | (dsimp only; exact Kd.foot_ne HR1_0.out (by omega) (by decide))); have hlt589_3 := (Kd.foot_lt HR1_0.out (by omega) (by decide)); have hne589_2 := (show (⟨(ad589.add ((t586).toNat * 4)).block, (ad589.add ((t586).toNat * 4)).off + 2, none⟩ : Addr).block ≠ g from by first | (rw [add_block]; exact Kd.foot_ne HR1_0.out (by omega) (by decide)) | (show (Addr.add _ _).block ≠ _; rw [add_block]; exact Kd.foot_ne HR1_0.out (by omega) (by decide)) | exact Kd.foot_ne HR1_0.out (by omega) (by decide) | (dsimp only; exact Kd.foot_ne HR1_0.out (by omega) (by decide))); have hlt589_2 := (Kd.foot_lt HR1_0.out (by omega) (by decide)); have hne589_1 := (show (⟨(ad589.add ((t586).toNat * 4)).block, (ad589.add ((t586).toNat * 4)).off + 1, none⟩ : Addr).block ≠ g from by first | (rw [add_block]; exact Kd.foot_ne HR1_0.out (by omega) (by decide)) | (show (Addr.add _ _).block ≠ _; rw [add_block]; exact Kd.foot_ne HR1_0.out (by omega) (by decide)) | exact Kd.foot_ne HR1_0.out (by omega) (by decide) | (dsimp only; exact Kd.foot_ne HR1_0.out (by omega) (by decide))); have hlt589_1 := (Kd.foot_lt HR1_0.out (by omega) (by decide)); have hne589_0 := (show ((ad589.add ((t586).toNat * 4)) : Addr).block ≠ g from by first | (rw [add_block]; exact Kd.foot_ne HR1_0.out (by omega) (by decide)) | (show (Addr.add _ _).block ≠ _; rw [add_block]; exact Kd.foot_ne HR1_0.out (by omega) (by decide)) | exact Kd.foot_ne HR1_0.out (by omega) (by decide) | (dsimp only; exact Kd.foot_ne HR1_0.out (by omega) (by decide))); have hlt589_0 := (Kd.foot_lt HR1_0.out (by omega) (by decide)); replace p589 := eq_true p589; replace q589 := eq_true q589; refine start_ (n := 11) (S := fun w' => w'.cell? ⟨gb582, 0, none⟩ = some (.slice (some ad589) l1_0.length c1_0) ∧ w'.cell? ⟨gb582, 1, none⟩ = some (.slice A1_1 l1_1.length c1_1) ∧ w'.cell? ⟨gb582, 2, none⟩ = some (.int .i64 a1_2) ∧ w'.cell? (ad589.add ((t586).toNat * 4)) = some (.int .i64 ((rd_T35 l1_0 t586).f0)) ∧ w'.cell? ⟨(ad589.add ((t586).toNat * 4)).block, (ad589.add ((t586).toNat * 4)).off + 1, none⟩ = some (.int .i64 ((rd_T35 l1_0 t586).f1)) ∧ w'.cell? ⟨(ad589.add ((t586).toNat * 4)).block, (ad589.add ((t586).toNat * 4)).off + 2, none⟩ = some (.bool ((rd_T35 l1_0 t586).f2)) ∧ w'.cell? ⟨(ad589.add ((t586).toNat * 4)).block, (ad589.add ((t586).toNat * 4)).off + 3, none⟩ = some (.string ((rd_T35 l1_0 t586).f3))) (ds := []) #[F, F, F, F, F, F, F, F, F, F, F] (by kernel_rfl) rfl rfl ⟨(blk_cell BK582.out 0).trans rfl, (blk_cell BK582.out 1).trans rfl, (blk_cell BK582.out 2).trans rfl, hx589_0, hx589_1, hx589_2, hx589_3⟩ (fun hHeld => ?_); refine with_tabW spec_l6DrawAt.tab2 spec_l6DrawAt.bits2 (fun HT_ HW_ => ?_); generalize wc.drew = w16 at BK582 HI0 HK HB hx589_0 hx589_1 hx589_2 hx589_3 hHeld ⊢; refine pure_ (i := 0) (N := some 14) (v := ?_) (a' := ?_) #[T, F, F, F, F, F, F, F, F, F, F] rfl rfl (any_of HT_.out (by kernel_rfl)) (fun _ _ _ h => h) (Or.inl ⟨by rfl, ?_⟩) ?_ ?_; rotate_left
      ·exact KV
      rotate_left
      ·exact KA
      refine pure_ (i := 2) (N := some 16) (v := ?_) (a' := ?_) #[T, F, T, F, F, F, F, F, F, F, F] rfl rfl (any_of HT_.out (by kernel_rfl)) (fun _ _ _ h => h) (Or.inl ⟨by rfl, ?_⟩) ?_ ?_; rotate_left
      ·exact KV
      rotate_left
      ·exact KA
      refine pure_ (i := 3) (N := some 17) (v := ?_) (a' := ?_) #[T, F, T, T, F, F, F, F, F, F, F] rfl rfl (any_of HT_.out (by kernel_rfl)) (fun _ _ _ h => h) (Or.inl ⟨by rfl, ?_⟩) ?_ ?_; rotate_left
      ·exact KV
      rotate_left
      ·exact KA
      refine take_ (i := 1) (N := some 15) (v := ?_) (a' := ?_) #[T, T, T, T, F, F, F, F, F, F, F] rfl rfl (take_ofW HT_.out HW_.out (by kernel_rfl)) (fun _ _ _ h => h) (Or.inl ⟨by rfl, ?_⟩) hHeld ?_ ?_; rotate_left
      ·rintro w' ⟨s0, s1, s2, s3, s4, s5, s6⟩
       go_simp; with_reducible rfl
      rotate_left
      ·exact KA
      refine take_ (i := 4) (N := some 18) (v := ?_) (a' := ?_) #[T, T, T, T, T, F, F, F, F, F, F] rfl rfl (take_ofW HT_.out HW_.out (by kernel_rfl)) (fun _ _ _ h => h) (Or.inl ⟨by rfl, ?_⟩) hHeld ?_ ?_; rotate_left
      ·rintro w' ⟨s0, s1, s2, s3, s4, s5, s6⟩
       go_simp; with_reducible rfl
      rotate_left
      ·exact KA
      refine pure_ (i := 5) (N := some 19) (v := ?_) (a' := ?_) #[T, T, T, T, T, T, F, F, F, F, F] rfl rfl (any_of HT_.out (by kernel_rfl)) (fun _ _ _ h => h) (Or.inl ⟨by rfl, ?_⟩) ?_ ?_; rotate_left
      ·exact KV
      rotate_left
      ·exact KA
      refine one_ (i := 6) (N := some 20) #[T, T, T, T, T, T, T, F, F, F, F] rfl rfl (one_of HT_.out (by kernel_rfl)) (by decide) (fun K hK => ?_); refine goes_ Try.func57 (by kernel_rfl) rfl #[.pointer (some ⟨g, 0, none⟩), .int .i64 (l1_0.length : Int)] (by rfl) rfl rfl KL ?_; (with_reducible refine (spec_l1Below.calls g s0_0 x1001_2 x1002_2 (l1_0.length : Int) t586 t587 t588 w0 _ ?side1 ?side2 A13.out).mono ?_); (case side1 => exact KI87); (case side2 => exact KBh87 HB.out); rintro e w17 ⟨rfl, hi, hb, hk⟩; have HS3_ := keep_cell hk (hHeld.2.2.2.1) (by first | (rw [add_block]; exact hne589_0) | (show (Addr.add _ _).block ≠ _; rw [add_block]; exact hne589_0) | exact hne589_0); have HS4_ := keep_cell hk (hHeld.2.2.2.2.1) (by first | (rw [add_block]; exact hne589_1) | (show (Addr.add _ _).block ≠ _; rw [add_block]; exact hne589_1) | exact hne589_1); have HS5_ := keep_cell hk (hHeld.2.2.2.2.2.1) (by first | (rw [add_block]; exact hne589_2) | (show (Addr.add _ _).block ≠ _; rw [add_block]; exact hne589_2) | exact hne589_2); have HS6_ := keep_cell hk (hHeld.2.2.2.2.2.2) (by first | (rw [add_block]; exact hne589_3) | (show (Addr.add _ _).block ≠ _; rw [add_block]; exact hne589_3) | exact hne589_3); refine ⟨_, rfl, ?_⟩; have h_ := P4 (KW BK582.out hk NB582_0.out) (KeepBut.trans (KHh HK.out) hk (.inl rfl)) hb hi; clear BK582 HK HB HI0; obtain ⟨BK582, HK, HB, HI0⟩ := h_; (try clear hb); (try clear hk); (try clear hi); refine hK.out _ _ ⟨(blk_cell BK582.out 0).trans rfl, (blk_cell BK582.out 1).trans rfl, (blk_cell BK582.out 2).trans rfl, HS3_, HS4_, HS5_, HS6_⟩ (fun hHeld => ?_); clear hK K; refine norm_ (a' := ?_) ?_ ?_; rotate_left
      ·show Act.put _ (some 20) _ = _; exact KA
      refine pure_ (i := 7) (N := some 21) (v := ?_) (a' := ?_) #[T, T, T, T, T, T, T, T, F, F, F] rfl rfl (any_of HT_.out (by kernel_rfl)) (fun _ _ _ h => h) (Or.inl ⟨by rfl, ?_⟩) ?_ ?_; rotate_left
      ·exact KV
      rotate_left
      ·exact KA
      refine pure_ (i := 8) (N := some 22) (v := ?_) (a' := ?_) #[T, T, T, T, T, T, T, T, T, F, F] rfl rfl (any_of HT_.out (by kernel_rfl)) (fun _ _ _ h => h) (Or.inl ⟨by rfl, ?_⟩) ?_ ?_; rotate_left
      ·exact KV
      rotate_left
      ·exact KA
      refine take_ (i := 9) (N := some 23) (v := ?_) (a' := ?_) #[T, T, T, T, T, T, T, T, T, T, F] rfl rfl (take_ofW HT_.out HW_.out (by kernel_rfl)) (fun _ _ _ h => h) (Or.inl ⟨by rfl, ?_⟩) hHeld ?_ ?_; rotate_left
      ·rintro w' ⟨s0, s1, s2, s3, s4, s5, s6⟩
       go_simp; with_reducible rfl
      rotate_left
      ·exact KA
      refine pure_ (i := 10) (N := some 4) (v := ?_) (a' := ?_) #[T, T, T, T, T, T, T, T, T, T, T] rfl rfl (any_of HT_.out (by kernel_rfl)) (fun _ _ _ h => h) (Or.inl ⟨by rfl, ?_⟩) ?_ ?_; rotate_left
      ·exact KV
      rotate_left
      ·exact KA
      refine done_ (done_of HT_.out (by kernel_rfl)) ?_
      try go_wp2
      go_ret
      exact ⟨KE, KI87, KBh87 HB.out, by repeat (first | (with_reducible first | exact HK.out | apply KeepBut.set_ | apply keep_drewN | apply keep_drew | apply keep_alloc | refine keep_far ?_ GW582.out _) | exact HK.out)⟩
     ·rw [if_neg c15] at H
      exact absurd H (by simp)
    ·rw [if_neg c14] at H
     exact absurd H (by simp)
   ·replace c12 := Bool.eq_false_iff.mpr c12
    subst c12; have H1 : ((spec_l1DrawPlace.f s0_0 x1001_2 x1002_2).bind fun bt590 => (some (bt590.1, bt590.2.1, bt590.2.2))) = some (r1, r2, r3) := by rw [if_neg (show ¬ (false = true) by decide)] at H; exact H
    clear H; have H := H1; clear H1; replace H := Option.bind_eq_some_iff.mp H; obtain ⟨⟨t590, t591, t592⟩, A180, H⟩ := H
    try dsimp only at H
    have A18 := Aside0.mk A180; clear A180; simp only [Option.some.injEq, Prod.mk.injEq] at H; obtain ⟨rfl, rfl, rfl⟩ := H
    go_wp2_with (first | ((with_reducible refine GC 87 ?_); refine goesL_ (some 25) rfl rfl Try.func87 (by kernel_rfl) rfl #[.pointer (some ⟨g, 0, none⟩)] rfl KL ?_; (with_reducible refine (spec_l1DrawPlace.calls g s0_0 x1001_2 x1002_2 t590 t591 t592 w0 _ ?side1 ?side2 A18.out).mono ?_); (case side1 => exact KI87); (case side2 => exact KBh87 HB.out); rintro e w19 ⟨rfl, hi, hb, hk⟩; refine ⟨_, rfl, ?_⟩; have h_ := P4 (KW BK582.out hk NB582_0.out) (KeepBut.trans (KHh HK.out) hk (.inl rfl)) hb hi; clear BK582 HK HB HI0; obtain ⟨BK582, HK, HB, HI0⟩ := h_; (try clear hb); (try clear hk); (try clear hi)))
    go_ret
    exact ⟨KE, KI87, KBh87 HB.out, by repeat (first | (with_reducible first | exact HK.out | apply KeepBut.set_ | apply keep_drewN | apply keep_drew | apply keep_alloc | refine keep_far ?_ GW582.out _) | exact HK.out)⟩

/-! ### spec_DrawStoreTrim: function 27 -/
def spec_DrawStoreTrim.f (k : Nat) (l0 : List Int) : Option ((List (S35)) × (List (S35)) × Int × Int) := (spec_l1New.f k l0).bind fun bt594 => ((spec_l6Draw.f k bt594.1 bt594.2.1 bt594.2.2).bind fun bt598 => ((spec_l6DrawAt.f k bt594.1 bt598.2.2.2.1 bt598.2.2.2.2 bt598.1 bt598.2.1 bt598.2.2.1).bind fun bt608 => (some (bt598.1, bt598.2.1, bt598.2.2.1, bt608.1))))
theorem spec_DrawStoreTrim.mono : ∀ a0 k, LeO (spec_DrawStoreTrim.f k a0) (spec_DrawStoreTrim.f (k + 1) a0) := by
 intro a0 k
 unfold spec_DrawStoreTrim.f
 repeat' first
   | (with_reducible exact spec_l1New.mono _ _)
   | (with_reducible exact spec_l6Draw.mono _ _ _ _)
   | (with_reducible exact spec_l6DrawAt.mono _ _ _ _ _ _ _)
   | (with_reducible exact LeO.refl _)
   | (with_reducible exact LeO.none _)
   | (with_reducible refine LeO.ite ?_ ?_)
   | (with_reducible refine LeO.bind ?_ (fun _ => ?_))
   | exact spec_l1New.mono _ _
   | exact spec_l6Draw.mono _ _ _ _
   | exact spec_l6DrawAt.mono _ _ _ _ _ _ _
   | exact LeO.none _
   | refine LeO.ite ?_ ?_
   | refine LeO.bind ?_ (fun _ => ?_)
set_option maxHeartbeats 8000000 in
set_option maxRecDepth 100000 in
theorem spec_DrawStoreTrim.calls (k : Nat) (A0 : Option Addr) (c0 : Nat) (l0 : List Int) (r1 : List (S35)) (r2 : List (S35)) (r3 : Int) (r4 : Int) (w : World) (hr0 : Kd.C (Kd.int .u8) w A0 l0.length l0) (hc0 : l0.length ≤ c0) (h : spec_DrawStoreTrim.f k l0 = some (r1, r2, r3, r4)) :
  Calls Try.prog 27 #[.slice A0 l0.length c0] w fun e w' => ∃ v0_ v1_ : Value, e = .returned (.tuple #[.agg #[v0_, v1_, .int .i64 r3], .int .i64 r4]) ∧ Kd.R k35 35 w' w.heap.size (fun k_ => some k_ ≠ (v1_ : Value).ownBlock) v0_ r1 ∧ Kd.R k35 35 w' w.heap.size (fun k_ => some k_ ≠ (v0_ : Value).ownBlock) v1_ r2 ∧ Below w.heap.size w w' := by
 have hu31 := Try.underlying31; have HR0 := Aside0.mk hr0; have HC0 := Aside0.mk hc0; clear hr0 hc0; have HB := Aside0.mk (Below.refl w.heap.size w); have H : ((spec_l1New.f k l0).bind fun bt594 => ((spec_l6Draw.f k bt594.1 bt594.2.1 bt594.2.2).bind fun bt598 => ((spec_l6DrawAt.f k bt594.1 bt598.2.2.2.1 bt598.2.2.2.2 bt598.1 bt598.2.1 bt598.2.2.1).bind fun bt608 => (some (bt598.1, bt598.2.1, bt598.2.2.1, bt608.1))))) = some (r1, r2, r3, r4) := h; clear h; replace H := Option.bind_eq_some_iff.mp H; obtain ⟨⟨t594, t595, t596⟩, A20, H⟩ := H
 try dsimp only at H
 have A2 := Aside0.mk A20; clear A20; replace H := Option.bind_eq_some_iff.mp H; obtain ⟨⟨t598, t601, t604, t605, t606⟩, A30, H⟩ := H
 try dsimp only at H
 have A3 := Aside0.mk A30; clear A30; replace H := Option.bind_eq_some_iff.mp H; obtain ⟨⟨t608, t609, t610⟩, A40, H⟩ := H
 try dsimp only at H
 have A4 := Aside0.mk A40; clear A40; simp only [Option.some.injEq, Prod.mk.injEq] at H; obtain ⟨rfl, rfl, rfl, rfl⟩ := H
 go_enter Try.func27, Try.ntmps27
 try go_wp2_with (first | ((with_reducible refine GD 2 ?_); refine BE 2 #[.slice none 0 0, .slice none 0 0, .int .i64 0] 31 ?_; intro gb593 hg w5 hbox hb; have h_ := PB w hb hbox hg; clear HB; obtain ⟨HB, BK593, GW593, GE593⟩ := h_; clear hb hbox hg) | ((with_reducible refine GC 55 ?_); refine goesL_ (some 7) rfl rfl Try.func55 (by kernel_rfl) rfl #[.slice A0 l0.length c0] rfl KL ?_; (with_reducible refine (spec_l1New.calls k _ _ l0 t594 t595 t596 w _ ?side1 ?side2 ?side3 A2.out).mono ?_); (case side1 => exact KB); (case side2 => exact HR0.out); (case side3 => exact HC0.out); rintro e w6 ⟨g597, rfl, hi, hb, hb2⟩; refine ⟨_, rfl, ?_⟩; have h_ := P5 (BL BK593.out hb2) hb hi (IsS87.ne_blk hi (BL BK593.out hb2) (by decide)) (Ne.symm (IsS87.ne_blk hi (BL BK593.out hb2) (by decide))); clear BK593 HB; obtain ⟨BK593, HB, HI597, NB597_593, NB593_597⟩ := h_; (try clear hb); (try clear hk); (try clear hi)) | ((with_reducible refine GC 56 ?_); refine goesL_ (some 9) rfl rfl Try.func56 (by kernel_rfl) rfl #[.pointer (some ⟨g597, 0, none⟩)] rfl KL ?_; (with_reducible refine (spec_l6Draw.calls k g597 t594 t595 t596 t598 t601 t604 t605 t606 w _ ?side1 ?side2 A3.out).mono ?_); (case side1 => exact KI87); (case side2 => exact KB87); rintro e w7 ⟨v599, v602, rfl, ho0, ho1, hi, hb, hk⟩; refine ⟨_, rfl, ?_⟩; have h_ := P5 (KW BK593.out hk NB593_597.out) (Kd.R_lower ho0 (below_size KB87)) (Kd.R_lower ho1 (below_size KB87)) hb hi; clear BK593 HB HI597; obtain ⟨BK593, HO600, HO603, HB, HI597⟩ := h_; (try clear hb); (try clear hk); (try clear hi); (try clear ho0); (try clear ho1)) | ((with_reducible refine GD 5 ?_); refine BE 5 #[.slice none 0 0, .slice none 0 0, .int .i64 0] 31 ?_; intro gb607 hg w8 hbox hb; have h_ := P12 (Kd.R_below (KR HO600.out) hb) (Kd.R_below (KR HO603.out) hb) (BL BK593.out hb) (IsS87.below (KI87) hb) (below_step KB87 hb) hbox (by rw [hg]; exact (below_size KB87) : w.heap.size ≤ gb607) (by rw [hg]; exact (below_size KB87) : w.heap.size ≤ gb607) (NX hg BK593.out) (NY hg BK593.out) (by rw [hg]; exact Nat.ne_of_lt (IsS87.lt (show IsS87 w _ g597 t594 t605 t606 from KI87)) : g597 ≠ gb607) (by rw [hg]; exact Nat.ne_of_gt (IsS87.lt (show IsS87 w _ g597 t594 t605 t606 from KI87)) : gb607 ≠ g597); clear HO600 HO603 BK593 HI597 HB; obtain ⟨HO600, HO603, BK593, HI597, HB, BK607, GW607, GE607, NB593_607, NB607_593, NB597_607, NB607_597⟩ := h_; clear hb hbox hg; obtain ⟨Ao9, co9, eo9⟩ := Kd.R_slice HO600.out; subst eo9; have hnb10 := NB607_593.out; have hnc10 := NB593_607.out; have hnb11 := NB607_597.out; have hnc11 := NB597_607.out; obtain ⟨hcz12_0, hcz12_1, hcz12_2, hfz12_0, hfz12_1, hfz12_2⟩ := C3 BK607.out; obtain ⟨Ao13, co13, eo13⟩ := Kd.R_slice HO603.out; subst eo13))
 have n0_ : Aside0 (Kd.R k35 35 (((w8.setCell ⟨gb607, 0, none⟩ (.slice Ao9 t598.length co9)).setCell ⟨gb607, 1, none⟩ (.slice Ao13 t601.length co13)).setCell ⟨gb607, 2, none⟩ (.int .i64 t604)) w.heap.size (fun k_ => some k_ ≠ (.slice Ao13 t601.length co13 : Value).ownBlock) (.slice Ao9 t598.length co9) t598) := ⟨RQ (RT HO600.out BK607.out)⟩; have n1_ : Aside0 (Kd.R k35 35 (((w8.setCell ⟨gb607, 0, none⟩ (.slice Ao9 t598.length co9)).setCell ⟨gb607, 1, none⟩ (.slice Ao13 t601.length co13)).setCell ⟨gb607, 2, none⟩ (.int .i64 t604)) w.heap.size (fun k_ => some k_ ≠ (.slice Ao9 t598.length co9 : Value).ownBlock) (.slice Ao13 t601.length co13) t601) := ⟨RQ (RT HO603.out BK607.out)⟩; have n2_ : Aside0 ((((w8.setCell ⟨gb607, 0, none⟩ (.slice Ao9 t598.length co9)).setCell ⟨gb607, 1, none⟩ (.slice Ao13 t601.length co13)).setCell ⟨gb607, 2, none⟩ (.int .i64 t604)).heap[gb593]? = some (.cells #[.slice none 0 0, .slice none 0 0, .int .i64 0] 31 (0, 0))) := ⟨KK⟩; have n3_ : Aside0 ((((w8.setCell ⟨gb607, 0, none⟩ (.slice Ao9 t598.length co9)).setCell ⟨gb607, 1, none⟩ (.slice Ao13 t601.length co13)).setCell ⟨gb607, 2, none⟩ (.int .i64 t604)).heap[gb607]? = some (.cells #[.slice Ao9 t598.length co9, .slice Ao13 t601.length co13, .int .i64 t604] 31 (0, 0))) := ⟨by refine SK ?_; refine BP #[.slice Ao9 t598.length co9, .slice Ao13 t601.length co13, .int .i64 0] ?_ 2; refine SK ?_; refine BP #[.slice Ao9 t598.length co9, .slice none 0 0, .int .i64 0] ?_ 1; refine SK ?_; refine BP #[.slice none 0 0, .slice none 0 0, .int .i64 0] ?_ 0; exact SK BK607.out⟩; have n4_ : Aside0 (IsS87 w (((w8.setCell ⟨gb607, 0, none⟩ (.slice Ao9 t598.length co9)).setCell ⟨gb607, 1, none⟩ (.slice Ao13 t601.length co13)).setCell ⟨gb607, 2, none⟩ (.int .i64 t604)) g597 t594 t605 t606) := ⟨KI87⟩; have n5_ : Aside0 (Below w.heap.size w (((w8.setCell ⟨gb607, 0, none⟩ (.slice Ao9 t598.length co9)).setCell ⟨gb607, 1, none⟩ (.slice Ao13 t601.length co13)).setCell ⟨gb607, 2, none⟩ (.int .i64 t604))) := ⟨KB87⟩; (try clear HO600); (try clear HO603); (try clear BK593); (try clear BK607); (try clear HI597); (try clear HB); generalize (((w8.setCell ⟨gb607, 0, none⟩ (.slice Ao9 t598.length co9)).setCell ⟨gb607, 1, none⟩ (.slice Ao13 t601.length co13)).setCell ⟨gb607, 2, none⟩ (.int .i64 t604)) = w14 at n0_ n1_ n2_ n3_ n4_ n5_ ⊢; have HO600 := n0_; have HO603 := n1_; have BK593 := n2_; have BK607 := n3_; have HI597 := n4_; have HB := n5_; clear n0_ n1_ n2_ n3_ n4_ n5_; have h_ := P6 (Kd.R_drew HO600.out) (Kd.R_drew HO603.out) (blk_drew BK593.out) (blk_drew BK607.out) (IsS87.drew HI597.out) (below_drew1 HB.out); clear HO600 HO603 BK593 BK607 HI597 HB; obtain ⟨HO600, HO603, BK593, BK607, HI597, HB⟩ := h_; refine start_ (n := 6) (S := fun w' => w'.cell? ⟨gb607, 0, none⟩ = some (.slice Ao9 t598.length co9) ∧ w'.cell? ⟨gb607, 1, none⟩ = some (.slice Ao13 t601.length co13) ∧ w'.cell? ⟨gb607, 2, none⟩ = some (.int .i64 t604)) (ds := []) #[F, F, F, F, F, F] (by kernel_rfl) rfl rfl ⟨(blk_cell BK607.out 0).trans rfl, (blk_cell BK607.out 1).trans rfl, (blk_cell BK607.out 2).trans rfl⟩ (fun hHeld => ?_); generalize w14.drew = w15 at HO600 HO603 BK593 BK607 HI597 HB hHeld ⊢; refine pure_ (i := 1) (N := some 11) (v := ?_) (a' := ?_) #[F, T, F, F, F, F] rfl rfl (by kernel_rfl) (fun _ _ _ h => h) (Or.inl ⟨by rfl, ?_⟩) ?_ ?_; rotate_left
 ·exact KV
 rotate_left
 ·exact KA
 refine take_ (i := 0) (N := some 10) (v := ?_) (a' := ?_) #[T, T, F, F, F, F] rfl rfl (by kernel_rfl) (fun _ _ _ h => h) (Or.inl ⟨by rfl, ?_⟩) hHeld ?_ ?_; rotate_left
 ·rintro w' ⟨s0, s1, s2⟩
  go_simp; with_reducible rfl
 rotate_left
 ·exact KA
 refine take_ (i := 2) (N := some 12) (v := ?_) (a' := ?_) #[T, T, T, F, F, F] rfl rfl (by kernel_rfl) (fun _ _ _ h => h) (Or.inl ⟨by rfl, ?_⟩) hHeld ?_ ?_; rotate_left
 ·rintro w' ⟨s0, s1, s2⟩
  go_simp; with_reducible rfl
 rotate_left
 ·exact KA
 refine one_ (i := 3) (N := some 13) #[T, T, T, T, F, F] rfl rfl (by kernel_rfl) (by decide) (fun K hK => ?_); refine goes_ Try.func60 (by kernel_rfl) rfl #[.pointer (some ⟨g597, 0, none⟩), .agg #[.slice Ao9 t598.length co9, .slice Ao13 t601.length co13, .int .i64 t604]] (by rfl) rfl rfl KL ?_; (with_reducible refine (spec_l6DrawAt.calls k g597 t594 t605 t606 _ _ t598 _ _ t601 t604 t608 t609 t610 w _ ?side1 ?side2 ?side3 ?side4 ?side5 ?side6 A4.out).mono ?_); (case side1 => exact KI87); (case side2 => exact KB87); (case side3 => exact Kd.C_foot_own (IsS87.apart (show IsS87 w _ g597 t594 t605 t606 from KI87) (KR HO600.out) (by decide)) (fun _ h_ => h_.2)); (case side4 => exact (Kd.R_reads' HO600.out).2.1); (case side5 => exact Kd.C_foot_own (IsS87.apart (show IsS87 w _ g597 t594 t605 t606 from KI87) (KR HO603.out) (by decide)) (fun _ h_ => h_.2)); (case side6 => exact (Kd.R_reads' HO603.out).2.1); rintro e w16 ⟨rfl, hi, hb, hk⟩; refine ⟨_, rfl, ?_⟩; have h_ := P6 (KW BK593.out hk NB593_597.out) (Kd.R_mono (Kd.R_keep (IsS87.apart (show IsS87 w _ g597 t594 t605 t606 from KI87) (KR HO600.out) (by decide)) hk (fun _ h => h.2)) (fun _ h => h.1)) (Kd.R_mono (Kd.R_keep (IsS87.apart (show IsS87 w _ g597 t594 t605 t606 from KI87) (KR HO603.out) (by decide)) hk (fun _ h => h.2)) (fun _ h => h.1)) (KW BK607.out hk NB607_597.out) hb hi; clear BK593 HO600 HO603 BK607 HB HI597; obtain ⟨BK593, HO600, HO603, BK607, HB, HI597⟩ := h_; (try clear hb); (try clear hk); (try clear hi); refine hK.out _ _ (D3 BK607.out) (fun hHeld => ?_); clear hK K; refine norm_ (a' := ?_) ?_ ?_; rotate_left
 ·show Act.put _ (some 13) _ = _; exact KA
 refine one_ (i := 4) (N := none) #[T, T, T, T, T, F] rfl rfl (by kernel_rfl) (by decide) (fun K hK => ?_); have hs17 : w16.cell? ⟨gb593, 0, none⟩ = some (.slice none 0 0) := (blk_cell BK593.out 0).trans rfl; have hfs17 := blk_frozen BK593.out 0; have hns17_1 := NB607_593.out; have hms17_1 := NB593_607.out; have hs18 : w16.cell? ⟨gb593, 1, none⟩ = some (.slice none 0 0) := (blk_cell BK593.out 1).trans rfl; have hfs18 := blk_frozen BK593.out 1; have hns18_1 := NB607_593.out; have hms18_1 := NB593_607.out; have hs19 : w16.cell? ⟨gb593, 2, none⟩ = some (.int .i64 0) := (blk_cell BK593.out 2).trans rfl; have hfs19 := blk_frozen BK593.out 2; have hns19_1 := NB607_593.out; have hms19_1 := NB593_607.out; refine skip_ (w1 := ?_) (by rfl) rfl ?_ ?_; rotate_left
 ·go_simp
  rfl
 refine hK.out _ _ ⟨((cell_far (p := ⟨gb593, _, none⟩) NB607_593.out _).trans (((cell_far (p := ⟨gb593, _, none⟩) NB607_593.out _).trans (((cell_far (p := ⟨gb593, _, none⟩) NB607_593.out _).trans (hHeld.1)))))), ((cell_far (p := ⟨gb593, _, none⟩) NB607_593.out _).trans (((cell_far (p := ⟨gb593, _, none⟩) NB607_593.out _).trans (((cell_far (p := ⟨gb593, _, none⟩) NB607_593.out _).trans (hHeld.2.1)))))), ((cell_far (p := ⟨gb593, _, none⟩) NB607_593.out _).trans (((cell_far (p := ⟨gb593, _, none⟩) NB607_593.out _).trans (((cell_far (p := ⟨gb593, _, none⟩) NB607_593.out _).trans (hHeld.2.2))))))⟩ (fun hHeld => ?_); clear hK K; refine pure_ (i := 5) (N := some 3) (v := ?_) (a' := ?_) #[T, T, T, T, T, T] rfl rfl (by kernel_rfl) (fun _ _ _ h => h) (Or.inl ⟨by rfl, ?_⟩) ?_ ?_; rotate_left
 ·exact KV
 rotate_left
 ·exact KA
 refine done_ (by kernel_rfl) ?_
 try go_wp2
 refine bodyPost_ret (results_ct rfl _ _ gb593 31 #[.slice Ao9 t598.length co9, .slice Ao13 t601.length co13, .int .i64 t604] (0, 0) _ rfl (by refine SK ?_; refine BP #[.slice Ao9 t598.length co9, .slice Ao13 t601.length co13, .int .i64 0] ?_ 2; refine SK ?_; refine BP #[.slice Ao9 t598.length co9, .slice none 0 0, .int .i64 0] ?_ 1; refine SK ?_; refine BP #[.slice none 0 0, .slice none 0 0, .int .i64 0] ?_ 0; exact SK BK593.out) Try.underlying31 rfl (by kernel_rfl)) rfl ?_; exact ⟨_, _, KE, RQ (RT HO600.out BK593.out), RQ (RT HO603.out BK593.out), KB87⟩

end Go.Proofs.Ytnoghojlpicecaa.PFnEras
