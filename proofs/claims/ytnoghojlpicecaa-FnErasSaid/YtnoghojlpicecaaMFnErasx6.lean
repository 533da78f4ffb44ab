-- What each Go function that this law reaches comes to: written by a program out of the translation.
import Derived.Test.YtnoghojlpicecaaMFnErasx0
import Derived.Test.YtnoghojlpicecaaMFnErasx4
import Derived.Test.YtnoghojlpicecaaMFnErasx5
namespace Go.Proofs.Ytnoghojlpicecaa.PFnEras
open Go.RowKit Go.Proofs.YtnoghojlpicecaaW.PrintWords Go.Proofs.YtnoghojlpicecaaW.PrintLast Go.Proofs.YtnoghojlpicecaaW.PrintMore
attribute [local go_sem] max2_int min2_int max_two min_two max_three min_three max_four min_four   -- for this text's walks alone
set_option linter.unusedVariables false
set_option linter.unusedSimpArgs false

/-! ### impl_StoreTrim: function 19 -/
-- needs 32 52 46 47 (the numbers below are those of the seat Ytnoghojlpicecaa)
def encE (x : S35) : List Value := [.int .i64 x.f0, .int .i64 x.f1, .bool x.f2, .string x.f3]
def flatE : List S35 → List Value
 | [] => []
 | x :: t => encE x ++ flatE t
theorem flatE_len (l : List S35) : (flatE l).length = l.length * 4 := by
 induction l with
 | nil => rfl
 | cons x t ih => simp only [flatE, encE, List.length_append, List.length_cons, List.length_nil, ih]; omega
theorem flatE_append (l m : List S35) : flatE (l ++ m) = flatE l ++ flatE m := by
 induction l with
 | nil => rfl
 | cons x t ih => simp only [flatE, List.cons_append, ih, List.append_assoc]
theorem flatE_one (x : S35) : flatE [x] = encE x := by simp [flatE]
theorem encE_one (x : S35) : ∀ u ∈ encE x, u.oneCell' = true := by
 intro u hu
 simp only [encE, List.mem_cons, List.not_mem_nil, or_false] at hu
 rcases hu with rfl | rfl | rfl | rfl <;> rfl
theorem flatE_one' (l : List S35) : ∀ u ∈ flatE l, u.oneCell' = true := by
 induction l with
 | nil => intro u hu; simp [flatE] at hu
 | cons x t ih =>
  intro u hu
  rcases List.mem_append.1 (show u ∈ encE x ++ flatE t from hu) with h | h
  ·exact encE_one x u h
  ·exact ih u h
theorem flatE_take (l : List S35) (i : Nat) : (flatE l).take (i * 4) = flatE (l.take i) := by
 induction l generalizing i with
 | nil => simp [flatE]
 | cons x t ih =>
  cases i with
  | zero => simp [flatE]
  | succ i =>
   rw [List.take_succ_cons, flatE, flatE, ← ih, List.take_append, show (encE x).length = 4 from rfl, List.take_of_length_le (by rw [show (encE x).length = 4 from rfl]; omega), show (i + 1) * 4 - 4 = i * 4 by omega]
theorem flatE_drop (l : List S35) (i : Nat) : (flatE l).drop (i * 4) = flatE (l.drop i) := by
 induction l generalizing i with
 | nil => simp [flatE]
 | cons x t ih =>
  cases i with
  | zero => simp
  | succ i =>
   rw [List.drop_succ_cons, flatE, ← ih, List.drop_append, show (encE x).length = 4 from rfl, List.drop_of_length_le (by rw [show (encE x).length = 4 from rfl]; omega), show (i + 1) * 4 - 4 = i * 4 by omega, List.nil_append]
theorem reps_flat (w : World) (base : Nat) (ok : Nat → Prop) (l : List S35) : Reps (k35.M w base ok) 4 l (flatE l) := by
 refine ⟨flatE_len l, fun j p hj => ?_⟩
 have hlt := (List.getElem?_eq_some_iff.1 hj).1
 rw [flatE_drop, List.drop_eq_getElem_cons hlt]
 have hp : l[j] = p := (List.getElem?_eq_some_iff.1 hj).2
 rw [hp, flatE, List.take_append_of_le_length (by rw [show (encE p).length = 4 from rfl]; exact Nat.le_refl _), List.take_of_length_le (by rw [show (encE p).length = 4 from rfl]; exact Nat.le_refl _)]
 exact k35_mkM w base ok p
theorem flat_of_reps (w : World) (base : Nat) (ok : Nat → Prop) : ∀ (l : List S35) (cs : List Value), Reps (k35.M w base ok) 4 l cs → cs = flatE l
 | [], cs, h => by have := h.1; simp at this; rw [this]; rfl
 | x :: t, cs, h => by
  have h0 := k35_openM (h.2 0 x rfl)
  rw [Nat.zero_mul, List.drop_zero] at h0
  have ht : Reps (k35.M w base ok) 4 t (cs.drop 4) := by
   refine ⟨by rw [List.length_drop, h.1, List.length_cons]; omega, fun j p hj => ?_⟩
   have := h.2 (j + 1) p (by simpa using hj)
   rw [List.drop_drop, show 4 + j * 4 = (j + 1) * 4 by omega]
   exact this
  have ih := flat_of_reps w base ok t _ ht
  rw [flatE, ← ih, ← List.take_append_drop 4 cs, h0]
  simp [encE]
theorem own_of_RE {e : Nat} {w : World} {base : Nat} {ok : Nat → Prop} {v : Value} {l : List S35} (h : Kd.R k35 e w base ok v l) : w.ownsRow base e 4 v l.length (flatE l) := by
 obtain ⟨_, inner, ho, hr⟩ := h
 rw [← flat_of_reps _ _ _ _ _ hr]; exact ho
theorem R_of_ownE {e : Nat} {w : World} {base : Nat} {ok : Nat → Prop} {v : Value} {l : List S35} (ho : w.ownsRow base e 4 v l.length (flatE l)) (hok : ∀ k, v.ownBlock = some k → ok k) : Kd.R k35 e w base ok v l := ⟨hok, flatE l, ho, reps_flat _ _ _ _⟩
set_option maxHeartbeats 4000000 in
theorem trim1_calls (x : S35) (a : Int) (g : Nat) (W : World) (hU : W.heap[g]? = some (.cells #[.int .i64 a] 3 (0, 0))) : Calls Try.prog 54 #[.agg #[.int .i64 x.f0, .int .i64 x.f1, .bool x.f2, .string x.f3], .pointer (some ⟨g, 0, none⟩)] W fun e w' => e = .returned (.bool (decide (x.f0 ≤ a))) ∧ Below W.heap.size W w' := by
 have hb0 : Below W.heap.size W (W.alloc (.cells #[.int .i64 x.f0, .int .i64 x.f1, .bool x.f2, .string x.f3] 35)) := below_alloc (Below.refl _ _) _
 have HB := Aside0.mk hb0
 clear hb0
 have hne : g ≠ W.heap.size := Nat.ne_of_lt (blk_lt hU)
 have hne2 : W.heap.size ≠ g := Nat.ne_of_gt (blk_lt hU)
 have hcu : W.cell? ⟨g, 0, none⟩ = some (.int .i64 a) := (blk_cell hU 0).trans rfl
 have hfu := blk_frozen hU 0
 have hcu2 : (W.alloc (.cells #[.int .i64 x.f0, .int .i64 x.f1, .bool x.f2, .string x.f3] 35)).cell? ⟨g, 0, none⟩ = some (.int .i64 a) := (blk_cell (blk_alloc hU _) 0).trans rfl
 go_enter Try.func54, Try.ntmps54
 go_wp2
 go_ret
 exact ⟨rfl, HB.out⟩
set_option maxHeartbeats 4000000 in
set_option maxRecDepth 100000 in
theorem idx_calls (A0 : Option Addr) (c0 : Nat) (l0 : List S35) (a : Int) (g : Nat) (w : World) (hr0 : Kd.C k35 w A0 l0.length l0) (hU : w.heap[g]? = some (.cells #[.int .i64 a] 3 (0, 0))) (hsz : l0.length < 4611686018427387904) :
  Calls Try.prog 81 #[.slice A0 l0.length c0, .func (.func 54) #[] #[.pointer (some ⟨g, 0, none⟩)]] w fun e w' => (∃ k : Int, e = .returned (.int .i64 k) ∧ ((k = -1 ∧ ∀ x ∈ l0, ¬ x.f0 ≤ a) ∨ ∃ i : Nat, k = i ∧ i < l0.length ∧ (l0.getD i z35).f0 ≤ a ∧ ∀ j, j < i → ¬ (l0.getD j z35).f0 ≤ a)) ∧ Below w.heap.size w w' := by
 have HR0 := Aside0.mk hr0
 have HU := Aside0.mk hU
 have S0 := Aside0.mk (Below.refl w.heap.size w)
 clear hr0 hU
 go_enter Try.func81, Try.ntmps81
 go_wp2
 go_loopg [5, 8] l0.length (fun kx _ s8 wr => ∃ i : Nat, s8 = .int .i64 i ∧ i ≤ l0.length ∧ l0.length - i ≤ kx ∧ Aside0 (Below w.heap.size w wr) ∧ Aside0 (∀ t, t < i → ¬ (l0.getD t z35).f0 ≤ a))
 case atStart => exact ⟨0, rfl, Nat.zero_le _, by omega, S0, ⟨fun t ht => absurd ht (Nat.not_lt_zero _)⟩⟩
 case round =>
  clear S0
  obtain ⟨i, rfl, hin, hg, S1, I⟩ := hrel
  by_cases hlt : i < l0.length
  ·have hltz : (i : Int) < (l0.length : Int) := by omega
   obtain ⟨ad, e1, hx0, hx1, hx2, hx3⟩ := at_T35 HR0.out (i : Int) (by omega) (by omega)
   cases e1
   replace hx0 := (S1.out.cell (World.block_lt_of_cell? w _ hx0)).trans hx0
   replace hx1 := (S1.out.cell (World.block_lt_of_cell? w _ hx1)).trans hx1
   replace hx2 := (S1.out.cell (World.block_lt_of_cell? w _ hx2)).trans hx2
   replace hx3 := (S1.out.cell (World.block_lt_of_cell? w _ hx3)).trans hx3
   rw [Int.toNat_natCast] at hx0 hx1 hx2 hx3
   have hrd : rd_T35 l0 (i : Int) = l0.getD i z35 := by rw [rd_T35, Int.toNat_natCast]
   rw [hrd] at hx0 hx1 hx2 hx3
   have hc := trim1_calls (l0.getD i z35) a g
   generalize hy : l0.getD i z35 = y at hx0 hx1 hx2 hx3 hc
   have Y := Aside0.mk hy
   have HC := Aside0.mk hc
   clear hy hrd hc
   cases hq : decide (y.f0 ≤ a) with
   | true =>
    rw [hq] at HC
    have Q := Aside0.mk hq
    clear hq
    go_wp2_with fail
    refine (HC.out _ ((S1.out.block g (blk_lt HU.out)).trans HU.out)).mono ?_
    rintro e w' ⟨rfl, hb⟩
    have HB := Aside0.mk hb
    clear hb
    go_wp2
    go_ret
    exact ⟨⟨_, rfl, .inr ⟨i, rfl, hlt, by rw [← List.getD_eq_getElem?_getD, Y.out]; exact of_decide_eq_true Q.out, fun j hj => by have := I.out j hj; rw [← List.getD_eq_getElem?_getD]; omega⟩⟩, below_then S1.out S1.out.size HB.out⟩
   | false =>
    rw [hq] at HC
    have Q := Aside0.mk hq
    clear hq
    go_wp2_with fail
    refine (HC.out _ ((S1.out.block g (blk_lt HU.out)).trans HU.out)).mono ?_
    rintro e w' ⟨rfl, hb⟩
    have HB := Aside0.mk hb
    clear hb
    go_wp2
    go_roundg (l0.length - (i + 1))
    case measure => omega
    case rel =>
     refine ⟨i + 1, by go_num, by omega, Nat.le_refl _, ⟨below_then S1.out S1.out.size HB.out⟩, ⟨fun t ht => ?_⟩⟩
     by_cases e : t = i
     ·have := of_decide_eq_false Q.out; rw [e, Y.out]; omega
     ·exact I.out t (by omega)
  ·have hltz : ¬ (i : Int) < (l0.length : Int) := by omega
   go_wp2
   go_ret
   refine ⟨⟨_, rfl, .inl ⟨rfl, fun x hx => ?_⟩⟩, S1.out⟩
   obtain ⟨t, ht, rfl⟩ := List.getElem_of_mem hx
   have := I.out t (by omega)
   rwa [show l0.getD t z35 = l0[t] by simp [List.getD_eq_getElem?_getD, List.getElem?_eq_getElem ht]] at this
theorem flatE_set (xs : List S35) (y : S35) : ∀ i, i < xs.length → flatE (xs.set i y) = ((((flatE xs).set (i * 4) (.int .i64 y.f0)).set (i * 4 + 1) (.int .i64 y.f1)).set (i * 4 + 2) (.bool y.f2)).set (i * 4 + 3) (.string y.f3) := by
 induction xs with
 | nil => intro i hi; simp at hi
 | cons x t ih =>
  intro i hi
  cases i with
  | zero => simp [flatE, encE]
  | succ i =>
   rw [List.set_cons_succ, flatE, ih i (by simpa using hi), flatE, show (i + 1) * 4 = i * 4 + 4 by omega]
   simp only [encE, List.cons_append, List.nil_append, List.set_cons_succ, show i * 4 + 4 + 1 = i * 4 + 1 + 4 by omega, show i * 4 + 4 + 2 = i * 4 + 2 + 4 by omega, show i * 4 + 4 + 3 = i * 4 + 3 + 4 by omega]
theorem set4_take (cur : Array Value) (xs : List S35) (y : S35) (n i : Nat) (h : cur.toList.take (n * 4) = flatE xs) (hi : i < xs.length) :
  ((((cur.setIfInBounds (i * 4) (.int .i64 y.f0)).setIfInBounds (i * 4 + 1) (.int .i64 y.f1)).setIfInBounds (i * 4 + 2) (.bool y.f2)).setIfInBounds (i * 4 + 3) (.string y.f3)).toList.take (n * 4) = flatE (xs.set i y) := by
 rw [flatE_set xs y i hi, ← h]
 simp only [Array.toList_setIfInBounds, List.take_set]
def keepE (a : Int) (x : S35) : Bool := !decide (x.f0 ≤ a)
theorem take_set_snoc {α : Type} (xs : List α) (y : α) (i : Nat) (hi : i < xs.length) : (xs.set i y).take (i + 1) = xs.take i ++ [y] := by
 rw [List.take_succ_eq_append_getElem (by simpa using hi)]
 simp only [List.take_set, List.getElem_set_self]
 rw [List.set_eq_of_length_le (by rw [List.length_take]; omega)]
theorem dl_filt1 {a : Int} {x : S35} (h : ¬ x.f0 ≤ a) : [x].filter (keepE a) = [x] := by rw [List.filter_cons_of_pos (by unfold keepE; rw [decide_eq_false h]; rfl)]; rfl
theorem dl_filt0 {a : Int} {x : S35} (h : x.f0 ≤ a) : [x].filter (keepE a) = [] := by rw [List.filter_cons_of_neg (by unfold keepE; rw [decide_eq_true h]; decide)]; rfl
theorem take_snocE (l : List S35) (j : Nat) (hj : j < l.length) : l.take (j + 1) = l.take j ++ [l.getD j z35] := by
 rw [List.take_succ_eq_append_getElem hj]
 simp [List.getD_eq_getElem?_getD, List.getElem?_eq_getElem hj]
/-- What holds of the row while it is gone through: the first i are what is kept of the first j; from j on nothing has turned. -/
structure DelInv (a : Int) (l xs : List S35) (i j : Nat) : Prop where
 len : xs.length = l.length
 lt : i < j
 le : j ≤ l.length
 kept : xs.take i = (l.take j).filter (keepE a)
 rest : ∀ t, j ≤ t → t < l.length → xs.getD t z35 = l.getD t z35
theorem DelInv.keep {a : Int} {l xs : List S35} {i j : Nat} (h : DelInv a l xs i j) (hj : j < l.length) (hk : ¬ (l.getD j z35).f0 ≤ a) : DelInv a l (xs.set i (l.getD j z35)) (i + 1) (j + 1) where
 len := by rw [List.length_set]; exact h.len
 lt := by have := h.lt; omega
 le := hj
 kept := by
  have h1 := h.lt; have h2 := h.len
  rw [take_set_snoc _ _ _ (by omega), h.kept, take_snocE l j hj, List.filter_append, dl_filt1 hk]
 rest := fun t h1 h2 => by
  have h3 := h.lt
  rw [List.getD_eq_getElem?_getD, List.getElem?_set_ne (by omega), ← List.getD_eq_getElem?_getD]
  exact h.rest t (by omega) h2
theorem DelInv.skip {a : Int} {l xs : List S35} {i j : Nat} (h : DelInv a l xs i j) (hj : j < l.length) (hk : (l.getD j z35).f0 ≤ a) : DelInv a l xs i (j + 1) where
 len := h.len
 lt := by have := h.lt; omega
 le := hj
 kept := by rw [h.kept, take_snocE l j hj, List.filter_append, dl_filt0 hk, List.append_nil]
 rest := fun t h1 h2 => h.rest t (by omega) h2
theorem DelInv.start {a : Int} {l : List S35} {i : Nat} (hi : i < l.length) (hlow : ∀ j, j < i → ¬ (l.getD j z35).f0 ≤ a) (hk : (l.getD i z35).f0 ≤ a) : DelInv a l l i (i + 1) where
 len := rfl
 lt := Nat.lt_succ_self i
 le := hi
 kept := by
  rw [take_snocE l i hi, List.filter_append, dl_filt0 hk, List.append_nil, List.filter_eq_self.2 (fun x hx => ?_)]
  obtain ⟨t, ht, rfl⟩ := List.getElem_of_mem hx
  rw [List.length_take] at ht
  have := hlow t (by omega)
  rw [List.getElem_take]
  rw [show l.getD t z35 = l[t] by simp [List.getD_eq_getElem?_getD, List.getElem?_eq_getElem (show t < l.length by omega)]] at this
  unfold keepE; rw [decide_eq_false this]; rfl
 rest := fun t _ _ => rfl
theorem DelInv.done {a : Int} {l xs : List S35} {i : Nat} (h : DelInv a l xs i l.length) : xs.take i = l.filter (keepE a) ∧ (l.filter (keepE a)).length = i := by
 have h1 := h.kept
 rw [List.take_length] at h1
 refine ⟨h1, ?_⟩
 rw [← h1, List.length_take]
 have := h.lt; have := h.len; omega
theorem dl_below {W w1 : World} {row : Option Nat} (h : Below W.heap.size W w1) : W.grownBy w1 row := ⟨h.os, h.tape, h.output, h.size, fun k hk _ => h.block k hk⟩
theorem dl_then {W w1 w2 : World} {row : Option Nat} (h : W.grownBy w1 row) (k : Below w1.heap.size w1 w2) : W.grownBy w2 row := h.trans (dl_below k)
theorem dl_set {W w : World} {g : Nat} (h : W.grownBy w (some g)) (j : Nat) (u : Value) : W.grownBy (w.setCell ⟨g, j, none⟩ u) (some g) := h.trans ⟨rfl, rfl, rfl, by simp [World.setCell], fun k hk hne => Below.heap_setCell w ⟨g, j, none⟩ u k (fun e => hne (by rw [e]))⟩
theorem dl_own {w : World} {g cap base : Nat} {cur : Array Value} {xs : List S35} (hb : base ≤ g) (hg : w.heap[g]? = some (.cells cur 35 (0, 0))) (h1 : xs.length ≤ cap) (h2 : cap ≤ maxLen) (h3 : cur.size = cap * 4) (h4 : cur.toList.take (xs.length * 4) = flatE xs) : w.ownsRow base 35 4 (.slice (some ⟨g, 0, none⟩) xs.length cap) xs.length (flatE xs) := ⟨flatE_len xs, .inr ⟨g, cap, cur, rfl, hb, hg, h1, h2, h3, h4⟩⟩
theorem dl_C {w : World} {g cap : Nat} {cur : Array Value} {xs : List S35} (hg : w.heap[g]? = some (.cells cur 35 (0, 0))) (h1 : xs.length ≤ cap) (h2 : cap ≤ maxLen) (h3 : cur.size = cap * 4) (h4 : cur.toList.take (xs.length * 4) = flatE xs) : Kd.C k35 w (some ⟨g, 0, none⟩) xs.length xs :=
 (Kd.R_reads' (R_of_ownE (ok := fun _ => True) (dl_own (base := 0) (Nat.zero_le _) hg h1 h2 h3 h4) (fun _ _ => trivial))).2.2
theorem dl_at {w : World} {g cap : Nat} {cur : Array Value} {xs : List S35} (hg : w.heap[g]? = some (.cells cur 35 (0, 0))) (h1 : xs.length ≤ cap) (h2 : cap ≤ maxLen) (h3 : cur.size = cap * 4) (h4 : cur.toList.take (xs.length * 4) = flatE xs) (i : Nat) (hi : i < xs.length) :
  w.cell? ⟨g, i * 4, none⟩ = some (.int .i64 (xs.getD i z35).f0) ∧ w.cell? ⟨g, i * 4 + 1, none⟩ = some (.int .i64 (xs.getD i z35).f1) ∧ w.cell? ⟨g, i * 4 + 2, none⟩ = some (.bool (xs.getD i z35).f2) ∧ w.cell? ⟨g, i * 4 + 3, none⟩ = some (.string (xs.getD i z35).f3) := by
 obtain ⟨ad, e1, hx0, hx1, hx2, hx3⟩ := at_T35 (dl_C hg h1 h2 h3 h4) (i : Int) (by omega) (by omega)
 cases e1
 rw [Int.toNat_natCast] at hx0 hx1 hx2 hx3
 have hrd : rd_T35 xs (i : Int) = xs.getD i z35 := by rw [rd_T35, Int.toNat_natCast]
 rw [hrd] at hx0 hx1 hx2 hx3
 simp only [Addr.add_lit, Nat.zero_add] at hx0 hx1 hx2 hx3
 exact ⟨hx0, hx1, hx2, hx3⟩
theorem zc_len (n : Nat) : (Builtin.zeroCells (Value.agg #[.int .i64 0, .int .i64 0, .bool false, .string ⟨#[]⟩]).cells n).toList.length = n * 4 := by
 simp [Builtin.zeroCells, Value.cells]
theorem zc_one (n : Nat) : ∀ v ∈ (Builtin.zeroCells (Value.agg #[.int .i64 0, .int .i64 0, .bool false, .string ⟨#[]⟩]).cells n).toList, v.oneCell' = true := by
 intro v hv
 simp only [Builtin.zeroCells, Value.cells, Array.toList_map, List.mem_map] at hv
 obtain ⟨i, _, rfl⟩ := hv
 have h : i % 4 < 4 := Nat.mod_lt _ (by omega)
 show (#[Value.int .i64 0, .int .i64 0, .bool false, .string ⟨#[]⟩][i % 4]!).oneCell' = true
 generalize i % 4 = k at h
 match k, h with
 | 0, _ => rfl
 | 1, _ => rfl
 | 2, _ => rfl
 | 3, _ => rfl
theorem run_clear4 (w : World) (ty : TypeId) (b o n c : Nat) (hn : 0 < n) (hc : ∀ j, j < n * 4 → (w.cell? ⟨b, o + j, none⟩).isSome = true) (hf : ∀ j, j < n * 4 → w.frozen? ⟨b, o + j, none⟩ = false) :
  (Builtin.clear_ #[29] ty #[.slice (some ⟨b, o, none⟩) n c]).run Try.prog w = .ok (.tuple #[]) (w.setCells b o (Builtin.zeroCells (Value.agg #[.int .i64 0, .int .i64 0, .bool false, .string ⟨#[]⟩]).cells n).toList) := by
 have hst := run_storeCells_cells (P := Try.prog) b o (Builtin.zeroCells (Value.agg #[.int .i64 0, .int .i64 0, .bool false, .string ⟨#[]⟩]).cells n).toList 0 w (by rw [zc_len]; simpa using hc) (by rw [zc_len]; simpa using hf) (zc_one n)
 simp only [Nat.add_zero] at hst
 obtain ⟨m, rfl⟩ : ∃ m, n = m + 1 := ⟨n - 1, by omega⟩
 have hv := Try.zeroValue35 (w := w)
 simp [Builtin.clear_, run_underlying Try.underlying29, hv, hst]
theorem dl_cells {W w : World} {g : Nat} (h : W.grownBy w (some g)) (o : Nat) (vs : List Value) : W.grownBy (w.setCells g o vs) (some g) := by
 obtain ⟨h1, h2, h3, h4⟩ := setCells_same g vs o w
 exact h.trans ⟨h1, h2, h3, by omega, fun k hk hne => setCells_far vs o k (fun e => hne (by rw [e]))⟩
set_option maxHeartbeats 8000000 in
set_option maxRecDepth 100000 in
theorem del_calls (g cap : Nat) (cur : Array Value) (l : List S35) (a : Int) (gU : Nat) (W : World) (base : Nat) (hl : l.length < 1000000) (hbase : base ≤ g) (hg : W.heap[g]? = some (.cells cur 35 (0, 0))) (h1 : l.length ≤ cap) (h2 : cap ≤ maxLen) (h3 : cur.size = cap * 4) (h4 : cur.toList.take (l.length * 4) = flatE l) (hU : W.heap[gU]? = some (.cells #[.int .i64 a] 3 (0, 0))) :
  Calls Try.prog 53 #[.slice (some ⟨g, 0, none⟩) l.length cap, .func (.func 54) #[] #[.pointer (some ⟨gU, 0, none⟩)]] W fun e w' => ∃ v', e = .returned v' ∧ w'.ownsRow base 35 4 v' (l.filter (keepE a)).length (flatE (l.filter (keepE a))) ∧ W.grownBy w' (some g) ∧ v'.ownBlock = some g := by
 have hne : gU ≠ g := by
  rintro rfl
  rw [hU] at hg
  injection hg with hg
  injection hg with _ hg
  exact absurd hg (by decide)
 have hH := h2
 unfold maxLen at hH
 have HI := Aside0.mk (idx_calls (some ⟨g, 0, none⟩) cap l a gU W (dl_C hg h1 h2 h3 h4) hU (by omega))
 have HU := Aside0.mk hU
 have HG := Aside0.mk hg
 have H2 := Aside0.mk h2
 have H3 := Aside0.mk h3
 have H4 := Aside0.mk h4
 have HN := Aside0.mk hne
 clear hU hg h2 h3 h4 hne
 go_enter Try.func53, Try.ntmps53
 go_wp2_with fail
 refine HI.out.mono ?_
 rintro e w1 ⟨⟨k, rfl, hk⟩, hb⟩
 have HB := Aside0.mk hb
 clear hb HI
 rcases hk with ⟨rfl, hall⟩ | ⟨i, rfl, hi, hia, hlow⟩
 ·have ALL := Aside0.mk hall
  clear hall
  go_wp2
  go_ret
  have hf : l.filter (keepE a) = l := List.filter_eq_self.2 (fun x hx => by unfold keepE; rw [decide_eq_false (Int.not_le.2 (ALL.out x hx))]; rfl)
  rw [hf]
  exact ⟨_, rfl, dl_own hbase ((HB.out.block g (blk_lt HG.out)).trans HG.out) h1 H2.out H3.out H4.out, dl_below HB.out, rfl⟩
 ·have ST := Aside0.mk (DelInv.start (a := a) hi (fun j hj => Int.not_le.2 (hlow j hj)) hia)
  have hik : ¬ ((i : Int) = -1) := by omega
  have hiz : ((i : Int) == -1) = false := beq_eq_false_iff_ne.2 hik
  have hwi : IntKind.i64.wrap ((i : Int) + 1) = (i : Int) + 1 := by rw [IntKind.wrap_i64]; omega
  clear hia hlow
  go_wp2
  go_loopg [5, 6, 7] l.length (fun gg s5 s6 _ wr => ∃ (i j : Nat) (cur' : Array Value) (xs : List S35), s5 = .int .i64 i ∧ s6 = .int .i64 j ∧ l.length - j ≤ gg ∧ Aside0 (wr.heap[g]? = some (.cells cur' 35 (0, 0))) ∧ Aside0 (cur'.size = cap * 4) ∧ Aside0 (cur'.toList.take (l.length * 4) = flatE xs) ∧ Aside0 (W.grownBy wr (some g)) ∧ Aside0 (DelInv a l xs i j))
  case atStart => exact ⟨i, i + 1, cur, l, rfl, by go_num, by omega, ⟨(HB.out.block g (blk_lt HG.out)).trans HG.out⟩, H3, H4, ⟨dl_below HB.out⟩, ST⟩
  case round =>
   clear ST hik hiz hwi hi
   obtain ⟨i, j, cur', xs, rfl, rfl, hgg, BG, BS, BT, GR, IV⟩ := hrel
   have hlen := IV.out.len
   have hij := IV.out.lt
   have hjl := IV.out.le
   by_cases hlt : j < l.length
   ·have hltz : (j : Int) < (l.length : Int) := by omega
    obtain ⟨hx0, hx1, hx2, hx3⟩ := dl_at (xs := xs) BG.out (by omega) H2.out BS.out (by rw [hlen]; exact BT.out) j (by omega)
    obtain ⟨hi0, hi1, hi2, hi3⟩ := dl_at (xs := xs) BG.out (by omega) H2.out BS.out (by rw [hlen]; exact BT.out) i (by omega)
    have hrd : xs.getD j z35 = l.getD j z35 := IV.out.rest j (Nat.le_refl _) hlt
    rw [hrd] at hx0 hx1 hx2 hx3
    generalize hy : l.getD j z35 = y at hx0 hx1 hx2 hx3
    have Y := Aside0.mk hy
    clear hy hrd
    generalize xs.getD i z35 = o at hi0 hi1 hi2 hi3
    have hz0 := blk_frozen BG.out (i * 4)
    have hz1 := blk_frozen BG.out (i * 4 + 1)
    have hz2 := blk_frozen BG.out (i * 4 + 2)
    have hz3 := blk_frozen BG.out (i * 4 + 3)
    have hgs := blk_lt BG.out
    have hus0 : gU < W.heap.size := blk_lt HU.out
    have hus : gU < wr.heap.size := Nat.lt_of_lt_of_le hus0 GR.out.size
    have hUr : wr.heap[gU]? = some (.cells #[.int .i64 a] 3 (0, 0)) := (GR.out.block gU hus0 (fun e => HN.out (by simpa using e))).trans HU.out
    have hu0 : wr.cell? ⟨gU, 0, none⟩ = some (.int .i64 a) := (blk_cell hUr 0).trans rfl
    have hun : gU ≠ g := HN.out
    have hun2 : g ≠ gU := Ne.symm HN.out
    have hn1 : gU ≠ wr.heap.size := Nat.ne_of_lt hus
    have hn2 : gU ≠ wr.heap.size + 1 := by omega
    have hn3 : g ≠ wr.heap.size := Nat.ne_of_lt hgs
    have hn4 : g ≠ wr.heap.size + 1 := by omega
    have hwj : IntKind.i64.wrap ((j : Int) + 1) = (j : Int) + 1 := by rw [IntKind.wrap_i64]; omega
    have hwi : IntKind.i64.wrap ((i : Int) + 1) = (i : Int) + 1 := by rw [IntKind.wrap_i64]; omega
    have hil : (i : Int) < (l.length : Int) := by omega
    cases hq : decide (y.f0 ≤ a) with
    | true =>
     have Q := Aside0.mk hq
     go_wp2
     go_roundg (l.length - (j + 1))
     case measure => omega
     case rel =>
      refine ⟨i, j + 1, cur', xs, rfl, by go_num, Nat.le_refl _, ⟨blk_alloc (blk_alloc BG.out _) _⟩, BS, BT, ⟨dl_then GR.out (below_alloc (below_alloc (Below.refl _ _) _) _)⟩, ⟨IV.out.skip hlt (by rw [Y.out]; exact of_decide_eq_true Q.out)⟩⟩
    | false =>
     have Q := Aside0.mk hq
     go_wp2
     go_roundg (l.length - (j + 1))
     case measure => omega
     case rel =>
      have hk := IV.out.keep hlt (by rw [Y.out]; exact of_decide_eq_false Q.out)
      rw [Y.out] at hk
      have h0 := blk_set (blk_set (blk_set (blk_set BG.out (i * 4) (.int .i64 y.f0)) (i * 4 + 1) (.int .i64 y.f1)) (i * 4 + 2) (.bool y.f2)) (i * 4 + 3) (.string y.f3)
      have hgr := dl_set (dl_set (dl_set (dl_set GR.out (i * 4) (.int .i64 y.f0)) (i * 4 + 1) (.int .i64 y.f1)) (i * 4 + 2) (.bool y.f2)) (i * 4 + 3) (.string y.f3)
      refine ⟨i + 1, j + 1, _, xs.set i y, by go_num, by go_num, Nat.le_refl _, ⟨blk_alloc (blk_alloc h0 _) _⟩, ⟨?_⟩, ⟨set4_take cur' xs y l.length i BT.out (by omega)⟩, ⟨dl_then hgr (below_alloc (below_alloc (Below.refl _ _) _) _)⟩, ⟨hk⟩⟩
      simp only [Array.size_setIfInBounds]
      exact BS.out
   ·obtain rfl : j = l.length := by omega
    have hltz : ¬ (l.length : Int) < (l.length : Int) := by omega
    have hcl : ∀ ty, (Builtin.clear_ #[29] ty #[.slice (some ⟨g, i * 4, none⟩) (l.length - i) (cap - i)]).run Try.prog wr = .ok (.tuple #[]) (wr.setCells g (i * 4) (Builtin.zeroCells (Value.agg #[.int .i64 0, .int .i64 0, .bool false, .string ⟨#[]⟩]).cells (l.length - i)).toList) := fun ty =>
     run_clear4 wr ty g (i * 4) (l.length - i) (cap - i) (by omega) (fun t ht => by
      rw [blk_cell BG.out, Array.getElem?_eq_getElem (show i * 4 + t < cur'.size by have := BS.out; omega)]; rfl) (fun t ht => blk_frozen BG.out _)
    go_wp2
    go_ret
    obtain ⟨hd1, hd2⟩ := IV.out.done
    have hsz := BS.out
    obtain ⟨cur2, hc1, hc2, hc3⟩ := setCells_row (Builtin.zeroCells #[Value.int IntKind.i64 0, Value.int IntKind.i64 0, Value.bool false, Value.string { data := #[] }] (l.length - i)).toList (i * 4) wr cur' BG.out (by have := zc_len (l.length - i); simp only [Value.cells] at this; omega)
    refine ⟨_, rfl, ?_, dl_cells GR.out _ _, rfl⟩
    have e : Value.slice (some ⟨g, 0, none⟩) i cap = .slice (some ⟨g, 0, none⟩) (l.filter (keepE a)).length cap := by rw [hd2]
    rw [e]
    refine dl_own hbase hc1 (by omega) H2.out (by rw [hc2]; exact BS.out) ?_
    have hcl : cur'.toList.length = cur'.size := Array.length_toList
    rw [hd2, hc3, List.append_assoc, List.take_append_of_le_length (by rw [List.length_take]; omega), List.take_take, Nat.min_self, ← hd1, ← flatE_take, ← BT.out, List.take_take, Nat.min_eq_left (by omega)]
set_option maxHeartbeats 8000000 in
set_option maxRecDepth 100000 in
theorem del_nil (c : Nat) (a : Int) (gU : Nat) (W : World) (hU : W.heap[gU]? = some (.cells #[.int .i64 a] 3 (0, 0))) :
  Calls Try.prog 53 #[.slice none 0 c, .func (.func 54) #[] #[.pointer (some ⟨gU, 0, none⟩)]] W fun e w' => e = .returned (.slice none 0 c) ∧ Below W.heap.size W w' := by
 have HI := Aside0.mk (idx_calls none c ([] : List S35) a gU W (Kd.C_nil _ _) hU (by simp))
 have HU := Aside0.mk hU
 clear hU
 go_enter Try.func53, Try.ntmps53
 go_wp2_with fail
 refine HI.out.mono ?_
 rintro e w1 ⟨⟨k, rfl, hk⟩, hb⟩
 have HB := Aside0.mk hb
 clear hb HI
 rcases hk with ⟨rfl, _⟩ | ⟨i, rfl, hi, _⟩
 ·go_wp2
  go_ret
  exact ⟨rfl, HB.out⟩
 ·exact absurd hi (by simp)
theorem del_R (P0_ : Nat → Prop) (u : Value) (l0 : List S35) (a1 : Int) (gU : Nat) (w0 w : World) (hB : Below w0.heap.size w0 w) (ho0 : Kd.R k35 35 w w0.heap.size P0_ u l0) (hU : w.heap[gU]? = some (.cells #[.int .i64 a1] 3 (0, 0))) (hl : l0.length < 1000000) :
  Calls Try.prog 53 #[u, .func (.func 54) #[] #[.pointer (some ⟨gU, 0, none⟩)]] w fun e w' => ∃ v0_ : Value, e = .returned v0_ ∧ Kd.R k35 35 w' w0.heap.size (fun k_ => P0_ k_ ∨ w.heap.size ≤ k_) v0_ (l0.filter (keepE a1)) ∧ Below w0.heap.size w0 w' ∧ Kept w w' P0_ := by
 have hO := own_of_RE ho0
 obtain ⟨_, ⟨hv, h0⟩ | ⟨g, cap, cur, hv, hg, hb, h1, h2, h3, h4⟩⟩ := hO
 ·have hl0 : l0 = [] := List.length_eq_zero_iff.1 h0
  subst hl0
  subst hv
  refine Calls.mono (del_nil _ a1 gU w hU) ?_
  rintro e w' ⟨rfl, hb⟩
  exact ⟨_, rfl, Kd.R_mono (Kd.R_below ho0 hb) (fun k hk => .inl hk), below_then hB hB.size hb, ⟨hb.size, fun k hk _ => hb.block k hk⟩⟩
 ·subst hv
  refine Calls.mono (del_calls g cap cur l0 a1 gU w w0.heap.size hl hg hb h1 h2 h3 h4 hU) ?_
  rintro e w' ⟨v', rfl, ho, hgr, hob⟩
  have hp : P0_ g := ho0.1 g rfl
  refine ⟨v', rfl, R_of_ownE ho (fun k hk => ?_), pw_below_grown hB (some g) hB.size hgr (fun k hk => by cases hk; exact hg), hgr.size, fun k hk hnp => hgr.block k hk (fun e => hnp (by cases e; exact hp))⟩
  rw [hob] at hk
  cases hk
  exact .inl hp
def trimDel.f (l0 : List S35) (a1 : Int) : Option (List S35) := if l0.length < 1000000 then (some (l0.filter (keepE a1))) else (none)
theorem trimDel.calls (P0_ : Nat → Prop) (u : Value) (l0 : List S35) (a1 : Int) (r1 : List S35) (gU : Nat) (w0 w : World) (hB : Below w0.heap.size w0 w) (ho0 : Kd.R k35 35 w w0.heap.size P0_ u l0) (hU : w.heap[gU]? = some (.cells #[.int .i64 a1] 3 (0, 0))) (h : trimDel.f l0 a1 = some r1) :
  Calls Try.prog 53 #[u, .func (.func 54) #[] #[.pointer (some ⟨gU, 0, none⟩)]] w fun e w' => ∃ v0_ : Value, e = .returned v0_ ∧ Kd.R k35 35 w' w0.heap.size (fun k_ => P0_ k_ ∨ w.heap.size ≤ k_) v0_ r1 ∧ Below w0.heap.size w0 w' ∧ Kept w w' P0_ := by
 unfold trimDel.f at h
 by_cases hl : l0.length < 1000000
 ·rw [if_pos hl] at h
  obtain rfl := Option.some.inj h
  exact del_R P0_ u l0 a1 gU w0 w hB ho0 hU hl
 ·rw [if_neg hl] at h
  exact absurd h (by simp)
def impl_StoreTrim.j0 : Nat → Int → Bool → List (S35) → List (S35) → Int → Option ((List (S35)) × (List (S35)) × Int × Bool)
 | 0, _, _, _, _, _ => none
 | k + 1, x3, x14, x262000, x262001, x262002 => if x14 = true then ((impl_storeAsWas.f k x262000 x262001 x262002).bind fun bt265 => (some (bt265.1, bt265.2.1, bt265.2.2, false))) else ((impl_copyStore.f x262000 x262001 x262002).bind fun bt272 => ((trimDel.f bt272.1 x3).bind fun t280 => (some (t280, bt272.2.1, bt272.2.2, true))))
def impl_StoreTrim.f (k : Nat) (l0_0 : List (S35)) (l0_1 : List (S35)) (a0_2 : Int) (a1 : Int) : Option ((List (S35)) × (List (S35)) × Int × Bool) := (impl_StoreOk.f k l0_0 l0_1 a0_2).bind fun t263 => (if t263 = true then ((impl_PlaceOk.f a1).bind fun t264 => (impl_StoreTrim.j0 k a1 (!t264) l0_0 l0_1 a0_2)) else (impl_StoreTrim.j0 k a1 true l0_0 l0_1 a0_2))
theorem impl_StoreTrim.mono_l : ∀ k, (∀ y0 y1 y2 y3 y4, LeO (impl_StoreTrim.j0 k y0 y1 y2 y3 y4) (impl_StoreTrim.j0 (k + 1) y0 y1 y2 y3 y4))
 | 0 => fun _ _ _ _ _ r h => by simp [impl_StoreTrim.j0] at h
 | k + 1 => by
  have ih0 := impl_StoreTrim.mono_l k
  ·intro y0 y1 y2 y3 y4
   unfold impl_StoreTrim.j0
   repeat' first
   | (with_reducible exact ih0 _ _ _ _ _)
   | (with_reducible exact impl_StoreOk.mono _ _ _ _)
   | (with_reducible exact impl_storeAsWas.mono _ _ _ _)
   | (with_reducible exact LeO.refl _)
   | (with_reducible exact LeO.none _)
   | (with_reducible refine LeO.ite ?_ ?_)
   | (with_reducible refine LeO.bind ?_ (fun _ => ?_))
   | exact ih0 _ _ _ _ _
   | exact impl_StoreOk.mono _ _ _ _
   | exact impl_storeAsWas.mono _ _ _ _
   | exact LeO.none _
   | refine LeO.ite ?_ ?_
   | refine LeO.bind ?_ (fun _ => ?_)
theorem impl_StoreTrim.mono : ∀ a0 a1 a2 a3 k, LeO (impl_StoreTrim.f k a0 a1 a2 a3) (impl_StoreTrim.f (k + 1) a0 a1 a2 a3) := by
 intro a0 a1 a2 a3 k
 have ih0 := impl_StoreTrim.mono_l k
 unfold impl_StoreTrim.f
 repeat' first
   | (with_reducible exact ih0 _ _ _ _ _)
   | (with_reducible exact impl_StoreOk.mono _ _ _ _)
   | (with_reducible exact impl_storeAsWas.mono _ _ _ _)
   | (with_reducible exact LeO.refl _)
   | (with_reducible exact LeO.none _)
   | (with_reducible refine LeO.ite ?_ ?_)
   | (with_reducible refine LeO.bind ?_ (fun _ => ?_))
   | exact ih0 _ _ _ _ _
   | exact impl_StoreOk.mono _ _ _ _
   | exact impl_storeAsWas.mono _ _ _ _
   | exact LeO.none _
   | refine LeO.ite ?_ ?_
   | refine LeO.bind ?_ (fun _ => ?_)
set_option maxHeartbeats 8000000 in
set_option maxRecDepth 100000 in
theorem impl_StoreTrim.calls (k : Nat) (A0_0 : Option Addr) (c0_0 : Nat) (l0_0 : List (S35)) (A0_1 : Option Addr) (c0_1 : Nat) (l0_1 : List (S35)) (a0_2 : Int) (a1 : Int) (r1 : List (S35)) (r2 : List (S35)) (r3 : Int) (r4 : Bool) (w : World) (hr0_0 : Kd.C k35 w A0_0 l0_0.length l0_0) (hc0_0 : l0_0.length ≤ c0_0) (hr0_1 : Kd.C k35 w A0_1 l0_1.length l0_1) (hc0_1 : l0_1.length ≤ c0_1) (h : impl_StoreTrim.f k l0_0 l0_1 a0_2 a1 = some (r1, r2, r3, r4)) :
  Calls Try.prog 19 #[.agg #[.slice A0_0 l0_0.length c0_0, .slice A0_1 l0_1.length c0_1, .int .i64 a0_2], .int .i64 a1] w fun e w' => ∃ v0_ v1_ : Value, e = .returned (.tuple #[.agg #[v0_, v1_, .int .i64 r3], .bool r4]) ∧ Kd.R k35 35 w' w.heap.size (fun k_ => some k_ ≠ (v1_ : Value).ownBlock) v0_ r1 ∧ Kd.R k35 35 w' w.heap.size (fun k_ => some k_ ≠ (v0_ : Value).ownBlock) v1_ r2 ∧ Below w.heap.size w w' := by
 have hu31 := Try.underlying31
 have HR0_0 := Aside0.mk hr0_0
 have HC0_0 := Aside0.mk hc0_0
 clear hr0_0 hc0_0
 have HR0_1 := Aside0.mk hr0_1
 have HC0_1 := Aside0.mk hc0_1
 clear hr0_1 hc0_1
 have HB := Aside0.mk (Below.refl w.heap.size w)
 have H : ((impl_StoreOk.f k l0_0 l0_1 a0_2).bind fun t263 => (if t263 = true then ((impl_PlaceOk.f a1).bind fun t264 => (impl_StoreTrim.j0 k a1 (!t264) l0_0 l0_1 a0_2)) else (impl_StoreTrim.j0 k a1 true l0_0 l0_1 a0_2))) = some (r1, r2, r3, r4) := h
 clear h
 have HC3 := Aside0.mk H
 clear H
 go_enter Try.func19, Try.ntmps19
 go_upto_region 1 with (first | ((with_reducible refine GD 2 ?_); refine BE 2 #[.slice A0_0 l0_0.length c0_0, .slice A0_1 l0_1.length c0_1, .int .i64 a0_2] 31 ?_; intro gb261 hg w4 hbox hb; have h_ := PB w hb hbox hg; clear HB; obtain ⟨HB, BK261, GW261, GE261⟩ := h_; clear hb hbox hg) | ((with_reducible refine GD 3 ?_); refine BE 3 #[.int .i64 a1] 3 ?_; intro gbU hg wU hbox hb; have h_ := P4 (BL BK261.out hb) (below_step KB hb) hbox (Kg w hg); clear BK261 HB; obtain ⟨BK261, HB, BKU, GWU⟩ := h_; clear hb hbox hg) | ((with_reducible refine GD 4 ?_); refine BE 4 #[.slice none 0 0, .slice none 0 0, .int .i64 0] 31 ?_; intro gb262 hg w5 hbox hb; have h_ := P7 (BL BK261.out hb) (below_step KB hb) hbox (Kg w hg) (Kg w hg) (NX hg BK261.out) (NY hg BK261.out); clear BK261 HB; obtain ⟨BK261, HB, BK262, GW262, GE262, NB261_262, NB262_261⟩ := h_; have NBU_262 := Aside0.mk (NX hg BKU.out); have NB262_U := Aside0.mk (NY hg BKU.out); have h_ := Aside0.mk (BL BKU.out hb); clear BKU; have BKU := h_; clear h_; clear hb hbox hg))
 (try simp only [Act.put, List.setIfInBounds_toArray, List.set_cons_zero, List.set_cons_succ])
 go_cut [14] (fun v14 wc => ∃ (kq : Nat) (x14_2 : Bool), v14 = .bool x14_2 ∧ Aside0 (impl_StoreTrim.j0 kq a1 x14_2 l0_0 l0_1 a0_2 = some (r1, r2, r3, r4)) ∧ Aside0 (kq ≤ k) ∧ Aside0 (wc.heap[gb261]? = some (.cells #[(.slice A0_0 l0_0.length c0_0), (.slice A0_1 l0_1.length c0_1), .int .i64 a0_2] 31 (0, 0))) ∧ Aside0 (wc.heap[gb262]? = some (.cells #[(.slice none 0 0), (.slice none 0 0), .int .i64 0] 31 (0, 0))) ∧ Aside0 (wc.heap[gbU]? = some (.cells #[.int .i64 a1] 3 (0, 0))) ∧ Aside0 (Below w.heap.size w wc))
 case first =>
  have H := HC3.out
  clear HC3
  replace H := Option.bind_eq_some_iff.mp H
  obtain ⟨t263, A60, H⟩ := H
  try dsimp only at H
  have A6 := Aside0.mk A60
  clear A60
  by_cases c7 : t263 = true
  ·subst c7
   have H1 : ((impl_PlaceOk.f a1).bind fun t264 => (impl_StoreTrim.j0 k a1 (!t264) l0_0 l0_1 a0_2)) = some (r1, r2, r3, r4) := by rw [if_pos rfl] at H; exact H
   clear H
   have H := H1
   clear H1
   replace H := Option.bind_eq_some_iff.mp H
   obtain ⟨t264, A80, H⟩ := H
   try dsimp only at H
   have A8 := Aside0.mk A80
   clear A80
   have H' := Aside0.mk H
   clear H
   have hcu_a : w5.cell? ⟨gbU, 0, none⟩ = some (.int .i64 a1) := (blk_cell BKU.out 0).trans rfl
   have hfu_a := blk_frozen BKU.out 0
   have hnu_a := NBU_262.out
   have hnv_a := NB262_U.out
   have hnb9 := NB261_262.out
   have hnc9 := NB262_261.out
   obtain ⟨hcz10_0, hcz10_1, hcz10_2, hfz10_0, hfz10_1, hfz10_2⟩ := C3 BK261.out
   go_wp2_with (first | ((with_reducible refine GC 32 ?_); refine goesL_ (some 8) rfl rfl Try.func32 (by kernel_rfl) rfl #[.agg #[.slice A0_0 l0_0.length c0_0, .slice A0_1 l0_1.length c0_1, .int .i64 a0_2]] rfl KL ?_; (with_reducible refine (impl_StoreOk.calls k _ _ l0_0 _ _ l0_1 a0_2 true _ ?side1 ?side2 ?side3 ?side4 A6.out).mono ?_); (case side1 => exact KD (Kd.C_below HR0_0.out HB.out)); (case side2 => exact HC0_0.out); (case side3 => exact KD (Kd.C_below HR0_1.out HB.out)); (case side4 => exact HC0_1.out); rintro e w11 ⟨rfl, hb⟩; refine ⟨_, rfl, ?_⟩; have h_ := P3 (BL BK261.out hb) (BL BK262.out hb) (below_step KB hb); clear BK261 BK262 HB; obtain ⟨BK261, BK262, HB⟩ := h_; have h_ := Aside0.mk (BL BKU.out hb); clear BKU; have BKU := h_; clear h_; have hcu_w11 : w11.cell? ⟨gbU, 0, none⟩ = some (.int .i64 a1) := (blk_cell BKU.out 0).trans rfl; have hfu_w11 := blk_frozen BKU.out 0; (try clear hb); (try clear hk); (try clear hi)) | (go_at_call 52; (with_reducible refine (impl_PlaceOk.calls a1 t264 _ A8.out).mono ?_); rintro e w' ⟨rfl, ⟨nd, rfl⟩⟩))
   go_meet
   case rel => exact ⟨_, (!t264), (by first | rfl | (simp; done) | (simp [*]; done)), H', ⟨by first | omega | exact Nat.le_refl _⟩, ⟨KK⟩, ⟨KK⟩, ⟨KK⟩, ⟨KB⟩⟩
  ·replace c7 := Bool.eq_false_iff.mpr c7
   subst c7
   have H1 : (impl_StoreTrim.j0 k a1 true l0_0 l0_1 a0_2) = some (r1, r2, r3, r4) := by rw [if_neg (show ¬ (false = true) by decide)] at H; exact H
   clear H
   have H := H1
   clear H1
   have H' := Aside0.mk H
   clear H
   have hcu_a : w5.cell? ⟨gbU, 0, none⟩ = some (.int .i64 a1) := (blk_cell BKU.out 0).trans rfl
   have hfu_a := blk_frozen BKU.out 0
   have hnu_a := NBU_262.out
   have hnv_a := NB262_U.out
   have hnb12 := NB261_262.out
   have hnc12 := NB262_261.out
   obtain ⟨hcz13_0, hcz13_1, hcz13_2, hfz13_0, hfz13_1, hfz13_2⟩ := C3 BK261.out
   go_wp2_with (first | ((with_reducible refine GC 32 ?_); refine goesL_ (some 8) rfl rfl Try.func32 (by kernel_rfl) rfl #[.agg #[.slice A0_0 l0_0.length c0_0, .slice A0_1 l0_1.length c0_1, .int .i64 a0_2]] rfl KL ?_; (with_reducible refine (impl_StoreOk.calls k _ _ l0_0 _ _ l0_1 a0_2 false _ ?side1 ?side2 ?side3 ?side4 A6.out).mono ?_); (case side1 => exact KD (Kd.C_below HR0_0.out HB.out)); (case side2 => exact HC0_0.out); (case side3 => exact KD (Kd.C_below HR0_1.out HB.out)); (case side4 => exact HC0_1.out); rintro e w14 ⟨rfl, hb⟩; refine ⟨_, rfl, ?_⟩; have h_ := P3 (BL BK261.out hb) (BL BK262.out hb) (below_step KB hb); clear BK261 BK262 HB; obtain ⟨BK261, BK262, HB⟩ := h_; have h_ := Aside0.mk (BL BKU.out hb); clear BKU; have BKU := h_; clear h_; have hcu_w14 : w14.cell? ⟨gbU, 0, none⟩ = some (.int .i64 a1) := (blk_cell BKU.out 0).trans rfl; have hfu_w14 := blk_frozen BKU.out 0; (try clear hb); (try clear hk); (try clear hi)))
   go_meet
   case rel => exact ⟨_, (true), (by first | rfl | (simp; done) | (simp [*]; done)), H', ⟨by first | omega | exact Nat.le_refl _⟩, ⟨KK⟩, ⟨KK⟩, ⟨KK⟩, ⟨KB⟩⟩
 case rest =>
  clear HC3
  try clear c1
  try clear p2
  try clear c3
  try clear c7
  try clear c9
  try clear c12
  try clear hcz10_0
  try clear hcz10_1
  try clear hcz10_2
  try clear hcz13_0
  try clear hcz13_1
  try clear hcz13_2
  try clear hfz10_0
  try clear hfz10_1
  try clear hfz10_2
  try clear hfz13_0
  try clear hfz13_1
  try clear hfz13_2
  obtain ⟨kq, x14_2, rfl, HA, HJ2, BK261, BK262, BKU, HB⟩ := hcut
  cases kq with
  | zero => exact absurd HA.out (by simp [impl_StoreTrim.j0])
  | succ kj2 =>
   have H := HA.out
   clear HA
   simp only [impl_StoreTrim.j0] at H
   by_cases c15 : x14_2 = true
   ·subst c15
    have H1 : ((impl_storeAsWas.f kj2 l0_0 l0_1 a0_2).bind fun bt265 => (some (bt265.1, bt265.2.1, bt265.2.2, false))) = some (r1, r2, r3, r4) := by rw [if_pos rfl] at H; exact H
    clear H
    have H := H1
    clear H1
    replace H := Option.bind_eq_some_iff.mp H
    obtain ⟨⟨t265, t268, t271⟩, A160, H⟩ := H
    try dsimp only at H
    have A16 := Aside0.mk A160
    clear A160
    simp only [Option.some.injEq, Prod.mk.injEq] at H
    obtain ⟨rfl, rfl, rfl, rfl⟩ := H
    have hnb17 := NB261_262.out
    have hnc17 := NB262_261.out
    obtain ⟨hcz18_0, hcz18_1, hcz18_2, hfz18_0, hfz18_1, hfz18_2⟩ := C3 BK261.out
    go_wp2_with (first | ((with_reducible refine GC 46 ?_); refine goesL_ (some 16) rfl rfl Try.func46 (by kernel_rfl) rfl #[.agg #[.slice A0_0 l0_0.length c0_0, .slice A0_1 l0_1.length c0_1, .int .i64 a0_2]] rfl KL ?_; (with_reducible refine (impl_storeAsWas.calls kj2 _ _ l0_0 _ _ l0_1 a0_2 t265 t268 t271 _ ?side1 ?side2 ?side3 ?side4 A16.out).mono ?_); (case side1 => exact KD (Kd.C_below HR0_0.out HB.out)); (case side2 => exact HC0_0.out); (case side3 => exact KD (Kd.C_below HR0_1.out HB.out)); (case side4 => exact HC0_1.out); rintro e w19 ⟨v266, v269, rfl, ho0, ho1, hb⟩; refine ⟨_, rfl, ?_⟩; have h_ := P5 (Kd.R_lower ho0 (below_size KB)) (Kd.R_lower ho1 (below_size KB)) (BL BK261.out hb) (BL BK262.out hb) (below_step KB hb); clear BK261 BK262 HB; obtain ⟨HO267, HO270, BK261, BK262, HB⟩ := h_; (try clear hb); (try clear hk); (try clear hi); (try clear ho0); (try clear ho1); obtain ⟨Ao20, co20, eo20⟩ := Kd.R_slice HO267.out; subst eo20; obtain ⟨hcz21_0, hcz21_1, hcz21_2, hfz21_0, hfz21_1, hfz21_2⟩ := C3 BK262.out; obtain ⟨Ao22, co22, eo22⟩ := Kd.R_slice HO270.out; subst eo22))
    refine bodyPost_ret (results_ct rfl _ _ gb262 31 #[.slice Ao20 t265.length co20, .slice Ao22 t268.length co22, .int .i64 t271] (0, 0) _ rfl (by refine SK ?_; refine BP #[.slice Ao20 t265.length co20, .slice Ao22 t268.length co22, .int .i64 0] ?_ 2; refine SK ?_; refine BP #[.slice Ao20 t265.length co20, .slice none 0 0, .int .i64 0] ?_ 1; refine SK ?_; refine BP #[.slice none 0 0, .slice none 0 0, .int .i64 0] ?_ 0; exact SK BK262.out) Try.underlying31 rfl (by kernel_rfl)) rfl ?_
    exact ⟨_, _, KE, RQ (RT HO267.out BK262.out), RQ (RT HO270.out BK262.out), KB⟩
   ·replace c15 := Bool.eq_false_iff.mpr c15
    subst c15
    have H1 : ((impl_copyStore.f l0_0 l0_1 a0_2).bind fun bt272 => ((trimDel.f bt272.1 a1).bind fun t280 => (some (t280, bt272.2.1, bt272.2.2, true)))) = some (r1, r2, r3, r4) := by rw [if_neg (show ¬ (false = true) by decide)] at H; exact H
    clear H
    have H := H1
    clear H1
    replace H := Option.bind_eq_some_iff.mp H
    obtain ⟨⟨t272, t275, t278⟩, A230, H⟩ := H
    try dsimp only at H
    have A23 := Aside0.mk A230
    clear A230
    replace H := Option.bind_eq_some_iff.mp H
    obtain ⟨t280, A240, H⟩ := H
    try dsimp only at H
    have A24 := Aside0.mk A240
    clear A240
    simp only [Option.some.injEq, Prod.mk.injEq] at H
    obtain ⟨rfl, rfl, rfl, rfl⟩ := H
    have hnb25 := NB261_262.out
    have hnc25 := NB262_261.out
    obtain ⟨hcz26_0, hcz26_1, hcz26_2, hfz26_0, hfz26_1, hfz26_2⟩ := C3 BK261.out
    go_wp2_with (first | ((with_reducible refine GC 47 ?_); refine goesL_ (some 18) rfl rfl Try.func47 (by kernel_rfl) rfl #[.agg #[.slice A0_0 l0_0.length c0_0, .slice A0_1 l0_1.length c0_1, .int .i64 a0_2]] rfl KL ?_; (with_reducible refine (impl_copyStore.calls _ _ l0_0 _ _ l0_1 a0_2 t272 t275 t278 _ ?side1 ?side2 ?side3 ?side4 A23.out).mono ?_); (case side1 => exact KD (Kd.C_below HR0_0.out HB.out)); (case side2 => exact HC0_0.out); (case side3 => exact KD (Kd.C_below HR0_1.out HB.out)); (case side4 => exact HC0_1.out); rintro e w27 ⟨v273, v276, rfl, ho0, ho1, hb⟩; refine ⟨_, rfl, ?_⟩; have h_ := P5 (Kd.R_lower ho0 (below_size KB)) (Kd.R_lower ho1 (below_size KB)) (BL BK261.out hb) (BL BK262.out hb) (below_step KB hb); clear BK261 BK262 HB; obtain ⟨HO274, HO277, BK261, BK262, HB⟩ := h_; have h_ := Aside0.mk (BL BKU.out hb); clear BKU; have BKU := h_; clear h_; have hcu_w27 : w27.cell? ⟨gbU, 0, none⟩ = some (.int .i64 a1) := (blk_cell BKU.out 0).trans rfl; have hfu_w27 := blk_frozen BKU.out 0; (try clear hb); (try clear hk); (try clear hi); (try clear ho0); (try clear ho1)) | ((with_reducible refine GD 6 ?_); refine BE 6 #[.slice none 0 0, .slice none 0 0, .int .i64 0] 31 ?_; intro gb279 hg w28 hbox hb; have h_ := P12 (Kd.R_below (KR HO274.out) hb) (Kd.R_below (KR HO277.out) hb) (BL BK261.out hb) (BL BK262.out hb) (below_step KB hb) hbox (Kg w hg) (Kg w hg) (NX hg BK261.out) (NY hg BK261.out) (NX hg BK262.out) (NY hg BK262.out); clear HO274 HO277 BK261 BK262 HB; obtain ⟨HO274, HO277, BK261, BK262, HB, BK279, GW279, GE279, NB261_279, NB279_261, NB262_279, NB279_262⟩ := h_; have NBU_279 := Aside0.mk (NX hg BKU.out); have NB279_U := Aside0.mk (NY hg BKU.out); have h_ := Aside0.mk (BL BKU.out hb); clear BKU; have BKU := h_; clear h_; have hcu_w28 : w28.cell? ⟨gbU, 0, none⟩ = some (.int .i64 a1) := (blk_cell BKU.out 0).trans rfl; have hfu_w28 := blk_frozen BKU.out 0; have hnu_b := NBU_279.out; have hnv_b := NB279_U.out; clear hb hbox hg; obtain ⟨Ao29, co29, eo29⟩ := Kd.R_slice HO274.out; subst eo29; have hnb30 := NB279_261.out; have hnc30 := NB261_279.out; have hnb31 := NB279_262.out; have hnc31 := NB262_279.out; obtain ⟨hcz32_0, hcz32_1, hcz32_2, hfz32_0, hfz32_1, hfz32_2⟩ := C3 BK279.out; obtain ⟨Ao33, co33, eo33⟩ := Kd.R_slice HO277.out; subst eo33) | ((with_reducible refine gate_store (t := 31) (p := 6) rfl ?_); refine store_event (t := 31) (p := 6) (v := ?vo_w34) (w1 := (((w28.setCell ⟨gb279, 0, none⟩ (.slice Ao29 t272.length co29)).setCell ⟨gb279, 1, none⟩ (.slice Ao33 t275.length co33)).setCell ⟨gb279, 2, none⟩ (.int .i64 t278))) ?hg ?ho ?hn ?hr ?_; (case ho => rfl); (case hg => rfl); (case hn => rfl); (case hr => first | (go_simp; done) | (go_simp; rfl)); intro w34 hw; have n0_ : Aside0 (Kd.R k35 35 w34 w.heap.size (fun k_ => some k_ ≠ (.slice Ao33 t275.length co33 : Value).ownBlock) (.slice Ao29 t272.length co29) t272) := ⟨(by rw [hw]; exact (RQ (RT HO274.out BK279.out)))⟩; have n1_ : Aside0 (Kd.R k35 35 w34 w.heap.size (fun k_ => some k_ ≠ (.slice Ao29 t272.length co29 : Value).ownBlock) (.slice Ao33 t275.length co33) t275) := ⟨(by rw [hw]; exact (RQ (RT HO277.out BK279.out)))⟩; have n2_ : Aside0 (w34.heap[gb261]? = some (.cells #[.slice A0_0 l0_0.length c0_0, .slice A0_1 l0_1.length c0_1, .int .i64 a0_2] 31 (0, 0))) := ⟨(by rw [hw]; exact KK)⟩; have n3_ : Aside0 (w34.heap[gb262]? = some (.cells #[.slice none 0 0, .slice none 0 0, .int .i64 0] 31 (0, 0))) := ⟨(by rw [hw]; exact KK)⟩; have n4_ : Aside0 (w34.heap[gb279]? = some (.cells #[.slice Ao29 t272.length co29, .slice Ao33 t275.length co33, .int .i64 t278] 31 (0, 0))) := ⟨(by rw [hw]; exact (by refine SK ?_; refine BP #[.slice Ao29 t272.length co29, .slice Ao33 t275.length co33, .int .i64 0] ?_ 2; refine SK ?_; refine BP #[.slice Ao29 t272.length co29, .slice none 0 0, .int .i64 0] ?_ 1; refine SK ?_; refine BP #[.slice none 0 0, .slice none 0 0, .int .i64 0] ?_ 0; exact SK BK279.out))⟩; have n5_ : Aside0 (Below w.heap.size w w34) := ⟨(by rw [hw]; exact KB)⟩; have nU_ : Aside0 (w34.heap[gbU]? = some (.cells #[.int .i64 a1] 3 (0, 0))) := ⟨(by rw [hw]; exact KK)⟩; clear BKU; have BKU := nU_; clear nU_; clear hw; clear HO274; clear HO277; clear BK261; clear BK262; clear BK279; clear HB; have HO274 := n0_; have HO277 := n1_; have BK261 := n2_; have BK262 := n3_; have BK279 := n4_; have HB := n5_; clear n0_ n1_ n2_ n3_ n4_ n5_; obtain ⟨hcz35_0, hcz35_1, hcz35_2, hfz35_0, hfz35_1, hfz35_2⟩ := C3 BK279.out) | ((with_reducible refine GC 53 ?_); refine goesL_ (some 22) rfl rfl Try.func53 (by kernel_rfl) rfl #[.slice Ao29 t272.length co29, .func (.func 54) #[] #[.pointer (some ⟨gbU, 0, none⟩)]] rfl KL ?_; (with_reducible refine (trimDel.calls (fun k_ => some k_ = (.slice Ao29 t272.length co29 : Value).ownBlock) (.slice Ao29 t272.length co29) t272 a1 t280 gbU w _ ?side1 ?side2 ?side3 A24.out).mono ?_); (case side1 => exact KB); (case side2 => exact Kd.R_tight rfl HO274.out); (case side3 => exact SK BKU.out); rintro e w36 ⟨v281, rfl, ho0, hb, hkp⟩; refine ⟨_, rfl, ?_⟩; have h_ := P6 (blk_kept KK hkp (fun hs_ => (fun e_ => (Kd.R_ne HO274.out BK261.out (by decide)) e_) hs_)) (blk_kept KK hkp (fun hs_ => (fun e_ => (Kd.R_ne HO274.out BK262.out (by decide)) e_) hs_)) (Kd.R_mono (ok' := fun k_ => some k_ ≠ (v281 : Value).ownBlock) (Kd.R_keptB (HO277.out) hkp (fun k_ hk_ hs_ => (hk_) hs_)) (fun k_ hk_ => fun e_ => Or.elim (ho0.1 k_ e_.symm) (fun hs_ => hk_.2.1 hs_) (fun hn_ => Nat.not_le.2 hk_.2.2 hn_))) (blk_kept KK hkp (fun hs_ => (fun e_ => (Kd.R_ne HO274.out BK279.out (by decide)) e_) hs_)) (Kd.R_mono (ok' := fun k_ => some k_ ≠ (.slice Ao33 t275.length co33 : Value).ownBlock) ho0 (fun k_ hk_ => Or.elim hk_ (fun hs_ => fun e_ => (((HO277.out).1 k_ e_.symm)) hs_) (fun hn_ => (Kd.fresh' (Kd.R_lt (KR HO277.out)) k_ hn_)))) hb; clear BK261 BK262 HO277 BK279 HB HO274; obtain ⟨BK261, BK262, HO277, BK279, HO282, HB⟩ := h_; (try clear hb); (try clear hkp); (try clear ho0); obtain ⟨Ao37, co37, eo37⟩ := Kd.R_slice HO282.out; subst eo37; obtain ⟨hcz38_0, hcz38_1, hcz38_2, hfz38_0, hfz38_1, hfz38_2⟩ := C3 BK279.out; obtain ⟨hcz39_0, hcz39_1, hcz39_2, hfz39_0, hfz39_1, hfz39_2⟩ := C3 BK262.out))
    refine bodyPost_ret (results_ct rfl _ _ gb262 31 #[.slice Ao37 t280.length co37, .slice Ao33 t275.length co33, .int .i64 t278] (0, 0) _ rfl (by refine SK ?_; refine BP #[.slice Ao37 t280.length co37, .slice Ao33 t275.length co33, .int .i64 0] ?_ 2; refine SK ?_; refine BP #[.slice Ao37 t280.length co37, .slice none 0 0, .int .i64 0] ?_ 1; refine SK ?_; refine BP #[.slice none 0 0, .slice none 0 0, .int .i64 0] ?_ 0; refine SK ?_; refine blk_far ?_ NB262_279.out _; exact SK BK262.out) Try.underlying31 rfl (by kernel_rfl)) rfl ?_
    exact ⟨_, _, KE, RQ (RT (RT HO282.out BK279.out) BK262.out) (hm := fun _ h => h.1.1), RQ (RT (RT HO277.out BK279.out) BK262.out) (hm := fun _ h => h.1.1), KB⟩

/-! ### laws_big: function 20 -/
def laws_big.f (l0 : List Int) : Option (Bool) := some (decide ((l0.length : Int) > 1048576))
set_option maxHeartbeats 8000000 in
set_option maxRecDepth 100000 in
theorem laws_big.calls (A0 : Option Addr) (c0 : Nat) (l0 : List Int) (r : Bool) (w : World) (hr0 : Kd.C (Kd.int .u8) w A0 l0.length l0) (hc0 : l0.length ≤ c0) (h : laws_big.f l0 = some r) :
  Calls Try.prog 20 #[.slice A0 l0.length c0] w fun e w' => e = .returned (.bool r) ∧ Drawn0 w w' := by
 have HR0 := Aside0.mk hr0; have HC0 := Aside0.mk hc0; clear hr0 hc0; have H : (some (decide ((l0.length : Int) > 1048576))) = some r := h; clear h; obtain rfl := Option.some.inj H
 go_enter Try.func20, Try.ntmps20
 go_wp2
 go_ret
 exact ⟨by first | rfl | (simp; done) | (simp [*]; done), by repeat (first | exact Drawn0.refl _ | apply Drawn0.step)⟩

/-- A state of type 87 at block g of W; what its slices lead to came in by w0. -/
def IsS87 (w0 W : World) (g : Nat) (f0 : List Int) (f1 : Int) (f2 : Int) : Prop := ∃ A0 c0, W.heap[g]? = some (.cells #[.slice A0 f0.length c0, .int .i64 f1, .int .i64 f2] 87 (0, 0)) ∧ w0.heap.size ≤ g ∧ (Kd.C (Kd.int .u8) w0 A0 f0.length f0 ∧ f0.length ≤ c0)
theorem IsS87.grown {w0 W : World} {g : Nat} {f0 : List Int} {f1 : Int} {f2 : Int} {W1 : World} {row : Option Nat} (h : IsS87 w0 W g f0 f1 f2) (hw : W.grownBy W1 row) (hne : some g ≠ row) : IsS87 w0 W1 g f0 f1 f2 := by
 obtain ⟨A0, c0, hb, hg, hr0⟩ := h; exact ⟨A0, c0, blk_grown hb hw hne, hg, hr0⟩
theorem IsS87.own_neN {w0 W : World} {g : Nat} {f0 : List Int} {f1 : Int} {f2 : Int} {α : Type} {d : Kd α} {e : Nat} {base : Nat} {ok : Nat → Prop} {v : Value} {xs : List α} (h : IsS87 w0 W g f0 f1 f2) (ho : Kd.N d e W base ok v xs) (ht : e ≠ 87) : some g ≠ v.ownBlock := by
 obtain ⟨A0, c0, hb, hg, hr0⟩ := h; exact Kd.N_ne ho hb ht
theorem IsS87.fresh {w0 W : World} {g : Nat} {f0 : List Int} {f1 : Int} {f2 : Int} (h : IsS87 w0 W g f0 f1 f2) : ∀ k, W.heap.size ≤ k → k ≠ g := by
 obtain ⟨A0, c0, hb, hg, hr0⟩ := h; exact Kd.freshB hb
theorem IsS87.kept {w0 W : World} {g : Nat} {f0 : List Int} {f1 : Int} {f2 : Int} {W1 : World} {S : Nat → Prop} (h : IsS87 w0 W g f0 f1 f2) (hk : Kept W W1 S) (hne : ¬ S g) : IsS87 w0 W1 g f0 f1 f2 := by
 obtain ⟨A0, c0, hb, hg, hr0⟩ := h; exact ⟨A0, c0, blk_kept hb hk hne, hg, hr0⟩
theorem IsS87.below {w0 W : World} {g : Nat} {f0 : List Int} {f1 : Int} {f2 : Int} {W1 : World} (h : IsS87 w0 W g f0 f1 f2) (hw : Below W.heap.size W W1) : IsS87 w0 W1 g f0 f1 f2 := h.grown (grown_of_below hw none) (by simp)
theorem IsS87.alloc {w0 W : World} {g : Nat} {f0 : List Int} {f1 : Int} {f2 : Int} (h : IsS87 w0 W g f0 f1 f2) (o : Obj) : IsS87 w0 (W.alloc o) g f0 f1 f2 := h.below (below_alloc (Below.refl _ _) o)
theorem IsS87.drewN {w0 W : World} {g : Nat} {f0 : List Int} {f1 : Int} {f2 : Int} (h : IsS87 w0 W g f0 f1 f2) (m : Nat) : IsS87 w0 (W.drewN m) g f0 f1 f2 := h
theorem IsS87.drew {w0 W : World} {g : Nat} {f0 : List Int} {f1 : Int} {f2 : Int} (h : IsS87 w0 W g f0 f1 f2) : IsS87 w0 W.drew g f0 f1 f2 := h
theorem IsS87.at_ {w0 W : World} {g : Nat} {f0 : List Int} {f1 : Int} {f2 : Int} {w' : World} {m : Nat} (hq : W.drewN m = w') (h : IsS87 w0 W g f0 f1 f2) : IsS87 w0 w' g f0 f1 f2 := by subst hq; exact IsS87.drewN h m
theorem IsS87.apart {w0 W : World} {g : Nat} {f0 : List Int} {f1 : Int} {f2 : Int} {α : Type} {d : Kd α} {e : Nat} {base : Nat} {ok : Nat → Prop} {v : Value} {xs : List α} (h : IsS87 w0 W g f0 f1 f2) (ho : d.R e W base ok v xs) (ht : ∀ q, q ∈ e :: d.E → q ≠ 87) : d.R e W base (fun k => ok k ∧ k ≠ g) v xs := by
 obtain ⟨A0, c0, hb, hg, hr0⟩ := h; exact Kd.R_types ho hb ht
theorem IsS87.own_ne {w0 W : World} {g : Nat} {f0 : List Int} {f1 : Int} {f2 : Int} {α : Type} {d : Kd α} {e : Nat} {base : Nat} {ok : Nat → Prop} {v : Value} {xs : List α} (h : IsS87 w0 W g f0 f1 f2) (ho : d.R e W base ok v xs) (ht : e ≠ 87) : some g ≠ v.ownBlock := by
 obtain ⟨A0, c0, hb, hg, hr0⟩ := h; exact Kd.R_ne ho hb ht
theorem IsS87.apartQ {w0 W : World} {g : Nat} {f0 : List Int} {f1 : Int} {f2 : Int} {α : Type} {d : Kd α} {e : Nat} {base : Nat} {ok : Nat → Prop} {v : Value} {xs : List α} (h : IsS87 w0 W g f0 f1 f2) (ho : d.Q e W base ok v xs) (ht : ∀ q, q ∈ e :: d.E → q ≠ 87) : d.Q e W base (fun k => ok k ∧ k ≠ g) v xs := by
 obtain ⟨A0, c0, hb, hg, hr0⟩ := h; exact Kd.Q_types ho hb ht
theorem IsS87.own_neQ {w0 W : World} {g : Nat} {f0 : List Int} {f1 : Int} {f2 : Int} {α : Type} {d : Kd α} {e : Nat} {base : Nat} {ok : Nat → Prop} {v : Value} {xs : List α} (h : IsS87 w0 W g f0 f1 f2) (ho : d.Q e W base ok v xs) (ht : e ≠ 87) : some g ≠ v.ownBlock := by
 obtain ⟨A0, c0, hb, hg, hr0⟩ := h; exact Kd.Q_ne ho hb ht
theorem IsS87.apartS {w0 W : World} {g : Nat} {f0 : List Int} {f1 : Int} {f2 : Int} {α : Type} {d : Kd α} {e : Nat} {base : Nat} {ok : Nat → Prop} {v : Value} {xs : List α} (h : IsS87 w0 W g f0 f1 f2) (ho : d.S e W base ok v xs) (ht : ∀ q, q ∈ e :: d.E → q ≠ 87) : d.S e W base (fun k => ok k ∧ k ≠ g) v xs := by
 obtain ⟨A0, c0, hb, hg, hr0⟩ := h; exact Kd.S_types ho hb ht
theorem IsS87.own_neS {w0 W : World} {g : Nat} {f0 : List Int} {f1 : Int} {f2 : Int} {α : Type} {d : Kd α} {e : Nat} {base : Nat} {ok : Nat → Prop} {v : Value} {xs : List α} (h : IsS87 w0 W g f0 f1 f2) (ho : d.S e W base ok v xs) (ht : e ≠ 87) : some g ≠ v.ownBlock := by
 obtain ⟨A0, c0, hb, hg, hr0⟩ := h; exact Kd.S_ne ho hb ht
theorem IsS87.lt {w0 W : World} {g : Nat} {f0 : List Int} {f1 : Int} {f2 : Int} (h : IsS87 w0 W g f0 f1 f2) : g < W.heap.size := by
 obtain ⟨A0, c0, hb, hg, hr0⟩ := h; exact blk_lt hb
theorem IsS87.ge {w0 W : World} {g : Nat} {f0 : List Int} {f1 : Int} {f2 : Int} (h : IsS87 w0 W g f0 f1 f2) : w0.heap.size ≤ g := by
 obtain ⟨A0, c0, hb, hg, hr0⟩ := h; exact hg
theorem IsS87.ne_blk {w0 W : World} {g : Nat} {f0 : List Int} {f1 : Int} {f2 : Int} {a : Nat} {cs : Array Value} {t : TypeId} {fr : Nat × Nat} (h : IsS87 w0 W g f0 f1 f2) (hb2 : W.heap[a]? = some (.cells cs t fr)) (ht : t ≠ 87) : g ≠ a := by
 obtain ⟨A0, c0, hb, hg, hr0⟩ := h; rintro rfl; rw [hb] at hb2
 injection hb2 with hb2
 injection hb2 with _ ht2
 exact ht ht2.symm
theorem IsS87.far {w0 W : World} {g : Nat} {f0 : List Int} {f1 : Int} {f2 : Int} {p : Addr} (h : IsS87 w0 W g f0 f1 f2) (hne : g ≠ p.block) (u : Value) : IsS87 w0 (W.setCell p u) g f0 f1 f2 := by
 obtain ⟨A0, c0, hb, hg, hr0⟩ := h; exact ⟨A0, c0, blk_far hb hne u, hg, hr0⟩
theorem cellS87_0 {W : World} {g : Nat} {A0 : Option Addr} {c0 : Nat} {f0 : List Int} {f1 : Int} {f2 : Int} (h : W.heap[g]? = some (.cells #[.slice A0 f0.length c0, .int .i64 f1, .int .i64 f2] 87 (0, 0))) : W.cell? ⟨g, 0, none⟩ = some (.slice A0 f0.length c0) := (blk_cell h 0).trans rfl
theorem cellS87_1 {W : World} {g : Nat} {A0 : Option Addr} {c0 : Nat} {f0 : List Int} {f1 : Int} {f2 : Int} (h : W.heap[g]? = some (.cells #[.slice A0 f0.length c0, .int .i64 f1, .int .i64 f2] 87 (0, 0))) : W.cell? ⟨g, 1, none⟩ = some (.int .i64 f1) := (blk_cell h 1).trans rfl
theorem IsS87.set_1 {w0 W : World} {g : Nat} {f0 : List Int} {f1 : Int} {f2 : Int} (h : IsS87 w0 W g f0 f1 f2) (x : Int) : IsS87 w0 (W.setCell ⟨g, 1, none⟩ (.int .i64 x)) g f0 x f2 := by
 obtain ⟨A0, c0, hb, hg, hr0⟩ := h; exact ⟨A0, c0, by simpa using blk_set hb 1 (.int .i64 x), hg, hr0⟩
theorem cellS87_2 {W : World} {g : Nat} {A0 : Option Addr} {c0 : Nat} {f0 : List Int} {f1 : Int} {f2 : Int} (h : W.heap[g]? = some (.cells #[.slice A0 f0.length c0, .int .i64 f1, .int .i64 f2] 87 (0, 0))) : W.cell? ⟨g, 2, none⟩ = some (.int .i64 f2) := (blk_cell h 2).trans rfl
theorem IsS87.set_2 {w0 W : World} {g : Nat} {f0 : List Int} {f1 : Int} {f2 : Int} (h : IsS87 w0 W g f0 f1 f2) (x : Int) : IsS87 w0 (W.setCell ⟨g, 2, none⟩ (.int .i64 x)) g f0 f1 x := by
 obtain ⟨A0, c0, hb, hg, hr0⟩ := h; exact ⟨A0, c0, by simpa using blk_set hb 2 (.int .i64 x), hg, hr0⟩
theorem IsS87.new (w0 W : World) (A0 : Option Addr) (c0 : Nat) (f0 : List Int) (f1 : Int) (f2 : Int) (hB : Below w0.heap.size w0 W) (hr0 : Kd.C (Kd.int .u8) w0 A0 f0.length f0 ∧ f0.length ≤ c0) : IsS87 w0 (W.alloc (.cells #[.slice A0 f0.length c0, .int .i64 f1, .int .i64 f2] 87)) W.heap.size f0 f1 f2 := ⟨A0, c0, by simpa using heap_alloc_new W _, hB.size, hr0⟩
theorem KI87 {p : Prop} (h : p := by repeat (first | (with_reducible first | exact Aside0.out (by assumption) | apply IsS87.alloc | apply IsS87.drewN | apply IsS87.drew | apply IsS87.set_1 | apply IsS87.set_2 | refine IsS87.far ?_ (Aside0.out (by assumption)) _) | exact Aside0.out (by assumption))) : p := h
theorem KBh87 {w W W' : World} (h0 : Below w.heap.size w W') (h : Below w.heap.size w W' → Below w.heap.size w W := by intro hq_; repeat (first | (with_reducible first | exact hq_ | apply below_alloc | apply pw_below_drewN | apply below_drew1 | refine below_set ?_ (Aside0.out (by assumption)) | refine below_set ?_ (IsS87.ge (Aside0.out (by assumption)))) | exact hq_)) : Below w.heap.size w W := h h0
theorem KB87 {p : Prop} (h : p := by repeat (first | (with_reducible first | exact Aside0.out (by assumption) | apply below_alloc | apply pw_below_drewN | apply below_drew1 | refine below_set ?_ (Aside0.out (by assumption)) | refine below_set ?_ (IsS87.ge (Aside0.out (by assumption)))) | exact Aside0.out (by assumption))) : p := h

/-! ### spec_l1New: function 55 -/
def spec_l1New.l0 : Nat → List Int → Int → Int → Option (List Int × Int × Int)
 | 0, _, _, _ => none
 | k + 1, x0, x3, x4 => if x4 < (x0.length : Int) then (if x4 < 4000 then (if 0 ≤ x4 then (spec_l1New.l0 k x0 (Go.bits .and .i64 (wrap64 ((wrap64 ((wrap64 (x3 * 131)) + (wrap64 (rd x0 x4)))) + 7)) 1073741823) (wrap64 (x4 + 1))) else (none)) else (some (x0, 0, x3))) else (some (x0, 0, x3))
def spec_l1New.f (k : Nat) (l0 : List Int) : Option (List Int × Int × Int) := spec_l1New.l0 k l0 (wrap64 (17817 + (l0.length : Int))) 0
theorem spec_l1New.mono_l : ∀ k, (∀ y0 y1 y2, LeO (spec_l1New.l0 k y0 y1 y2) (spec_l1New.l0 (k + 1) y0 y1 y2))
 | 0 => fun _ _ _ r h => by simp [spec_l1New.l0] at h
 | k + 1 => by
  have ih0 := spec_l1New.mono_l k
  ·intro y0 y1 y2
   unfold spec_l1New.l0
   repeat' first
   | (with_reducible exact ih0 _ _ _)
   | (with_reducible exact LeO.refl _)
   | (with_reducible exact LeO.none _)
   | (with_reducible refine LeO.ite ?_ ?_)
   | (with_reducible refine LeO.bind ?_ (fun _ => ?_))
   | exact ih0 _ _ _
   | exact LeO.none _
   | refine LeO.ite ?_ ?_
   | refine LeO.bind ?_ (fun _ => ?_)
theorem spec_l1New.mono : ∀ a0 k, LeO (spec_l1New.f k a0) (spec_l1New.f (k + 1) a0) := by
 intro a0 k; have ih0 := spec_l1New.mono_l k
 unfold spec_l1New.f
 repeat' first
   | (with_reducible exact ih0 _ _ _)
   | (with_reducible exact LeO.refl _)
   | (with_reducible exact LeO.none _)
   | (with_reducible refine LeO.ite ?_ ?_)
   | (with_reducible refine LeO.bind ?_ (fun _ => ?_))
   | exact ih0 _ _ _
   | exact LeO.none _
   | refine LeO.ite ?_ ?_
   | refine LeO.bind ?_ (fun _ => ?_)
set_option maxHeartbeats 8000000 in
set_option maxRecDepth 100000 in
theorem spec_l1New.calls (k : Nat) (A0 : Option Addr) (c0 : Nat) (l0 : List Int) (r1 : List Int) (r2 : Int) (r3 : Int) (w0 w : World) (hB : Below w0.heap.size w0 w) (hr0 : Kd.C (Kd.int .u8) w0 A0 l0.length l0) (hc0 : l0.length ≤ c0) (h : spec_l1New.f k l0 = some (r1, r2, r3)) :
  Calls Try.prog 55 #[.slice A0 l0.length c0] w fun e w' => ∃ g_ : Nat, e = .returned (.pointer (some ⟨g_, 0, none⟩)) ∧ IsS87 w0 w' g_ r1 r2 r3 ∧ Below w0.heap.size w0 w' ∧ Below w.heap.size w w' := by
 have hu87 := Try.underlying87; have HR0 := Aside0.mk hr0; have HC0 := Aside0.mk hc0; clear hr0 hc0; have HBW := Aside0.mk (Below.refl w.heap.size w); have HW0 := Aside0.mk hB.size; have HB := Aside0.mk hB; clear hB; have H : (spec_l1New.l0 k l0 (wrap64 (17817 + (l0.length : Int))) 0) = some (r1, r2, r3) := h; clear h; have H' := Aside0.mk H; clear H
 go_enter Try.func55, Try.ntmps55
 go_wp2
 go_loopg [3, 4] k (fun kq v3 v4 w' => ∃ (x3_1 : Int) (x4_1 : Int), v3 = .int .i64 x3_1 ∧ v4 = .int .i64 x4_1 ∧ Aside0 (spec_l1New.l0 kq l0 x3_1 x4_1 = some (r1, r2, r3)) ∧ Aside0 (kq ≤ k) ∧ Aside0 (Below w0.heap.size w0 w') ∧ Aside0 (Below w.heap.size w w'))
 case atStart => exact ⟨(wrap64 (17817 + (l0.length : Int))), (0), (by first | rfl | (simp; done) | (simp [*]; done)), (by first | rfl | (simp; done) | (simp [*]; done)), H', ⟨Nat.le_refl _⟩, ⟨KB⟩, HBW⟩
 case round =>
  clear H'; obtain ⟨x3_1, x4_1, rfl, rfl, HA, HK1, HB, HBW⟩ := hrel
  cases gk with
  | zero => exact absurd HA.out (by simp [spec_l1New.l0])
  | succ k1 =>
   have H := HA.out; clear HA; simp only [spec_l1New.l0] at H
   by_cases c2 : x4_1 < (l0.length : Int)
   ·rw [if_pos c2] at H
    have c2b0 : decide (x4_1 < (l0.length : Int)) = true := decide_eq_true c2; clear c2
    by_cases c3 : x4_1 < 4000
    ·rw [if_pos c3] at H
     have c3b0 : decide (x4_1 < 4000) = true := decide_eq_true c3; clear c3
     by_cases c4 : 0 ≤ x4_1
     ·rw [if_pos c4] at H
      have c4b0 : decide (0 ≤ x4_1) = true := decide_eq_true c4; clear c4; have H' := Aside0.mk H; clear H; have p204 : 0 ≤ (x4_1 : Int) := of_decide_eq_true (by first | (with_reducible assumption) | assumption); have q204 : x4_1 < (l0.length : Int) := of_decide_eq_true (by first | (with_reducible assumption) | assumption); obtain ⟨ad204, e204, hx204_0⟩ := Kd.at_int HR0.out x4_1 p204 q204
      cases e204
      replace hx204_0 := pw_cell_below HB.out hx204_0; replace p204 := eq_true p204; replace q204 := eq_true q204
      go_wp2
      go_roundg k1
      case measure => have := HK1.out; omega
      case rel => exact ⟨(Go.bits .and .i64 (wrap64 ((wrap64 ((wrap64 (x3_1 * 131)) + (wrap64 (rd l0 x4_1)))) + 7)) 1073741823), (wrap64 (x4_1 + 1)), (by first | rfl | (simp; done) | (simp [*]; done)), (by first | rfl | (simp; done) | (simp [*]; done)), H', ⟨by have := HK1.out; omega⟩, ⟨KB⟩, ⟨by repeat (first | (with_reducible first | exact HBW.out | apply below_alloc | apply pw_below_drewN | apply below_drew1) | exact HBW.out)⟩⟩
     ·rw [if_neg c4] at H
      exact absurd H (by simp)
    ·rw [if_neg c3] at H
     have c3b0 : decide (x4_1 < 4000) = false := decide_eq_false c3; clear c3; simp only [Option.some.injEq, Prod.mk.injEq] at H; obtain ⟨rfl, rfl, rfl⟩ := H
     go_wp2
     go_ret
     exact ⟨wr.heap.size, rfl, (show IsS87 w0 _ wr.heap.size l0 0 x3_1 from ⟨_, _, heap_alloc_new _ _, below_size HB.out, ⟨HR0.out, HC0.out⟩⟩), below_alloc HB.out _, below_alloc HBW.out _⟩
   ·rw [if_neg c2] at H
    have c2b0 : decide (x4_1 < (l0.length : Int)) = false := decide_eq_false c2; clear c2; simp only [Option.some.injEq, Prod.mk.injEq] at H; obtain ⟨rfl, rfl, rfl⟩ := H
    go_wp2
    go_ret
    exact ⟨wr.heap.size, rfl, (show IsS87 w0 _ wr.heap.size l0 0 x3_1 from ⟨_, _, heap_alloc_new _ _, below_size HB.out, ⟨HR0.out, HC0.out⟩⟩), below_alloc HB.out _, below_alloc HBW.out _⟩

/-! ### spec_l1Byte: function 84 -/
def spec_l1Byte.f (s0_0 : List Int) (s0_1 : Int) (s0_2 : Int) : Option (Int × Int × Int) := if s0_1 < (s0_0.length : Int) then (if 0 ≤ s0_1 then (some (Go.bits .and .i64 (wrap64 ((Go.bits .and .i64 (Go.bits .xor .i64 ((wrap64 ((wrap64 (s0_2 * 6364136223846793005)) + 1442695040888963407)) / 8589934592) ((wrap64 ((wrap64 (s0_2 * 6364136223846793005)) + 1442695040888963407)) / 35184372088832)) 255) + (wrap64 (rd s0_0 s0_1)))) 255, wrap64 (s0_1 + 1), wrap64 ((wrap64 (s0_2 * 6364136223846793005)) + 1442695040888963407))) else (none)) else (some (Go.bits .and .i64 (Go.bits .xor .i64 ((wrap64 ((wrap64 (s0_2 * 6364136223846793005)) + 1442695040888963407)) / 8589934592) ((wrap64 ((wrap64 (s0_2 * 6364136223846793005)) + 1442695040888963407)) / 35184372088832)) 255, s0_1, wrap64 ((wrap64 (s0_2 * 6364136223846793005)) + 1442695040888963407)))
set_option maxHeartbeats 8000000 in
set_option maxRecDepth 100000 in
theorem spec_l1Byte.calls (g : Nat) (s0_0 : List Int) (s0_1 : Int) (s0_2 : Int) (r1 : Int) (r2 : Int) (r3 : Int) (w0 w : World) (hI : IsS87 w0 w g s0_0 s0_1 s0_2) (hB : Below w0.heap.size w0 w) (h : spec_l1Byte.f s0_0 s0_1 s0_2 = some (r1, r2, r3)) :
  Calls Try.prog 84 #[.pointer (some ⟨g, 0, none⟩)] w fun e w' => e = .returned (.int .i64 r1) ∧ IsS87 w0 w' g s0_0 r2 r3 ∧ Below w0.heap.size w0 w' ∧ KeepBut w w' g none := by
 have HI0 := Aside0.mk hI; have HK := Aside0.mk (KeepBut.refl w g none); have HL := Aside0.mk hB.size; clear hI; have HW0 := Aside0.mk hB.size; have HB := Aside0.mk hB; clear hB; have H : (if s0_1 < (s0_0.length : Int) then (if 0 ≤ s0_1 then (some (Go.bits .and .i64 (wrap64 ((Go.bits .and .i64 (Go.bits .xor .i64 ((wrap64 ((wrap64 (s0_2 * 6364136223846793005)) + 1442695040888963407)) / 8589934592) ((wrap64 ((wrap64 (s0_2 * 6364136223846793005)) + 1442695040888963407)) / 35184372088832)) 255) + (wrap64 (rd s0_0 s0_1)))) 255, wrap64 (s0_1 + 1), wrap64 ((wrap64 (s0_2 * 6364136223846793005)) + 1442695040888963407))) else (none)) else (some (Go.bits .and .i64 (Go.bits .xor .i64 ((wrap64 ((wrap64 (s0_2 * 6364136223846793005)) + 1442695040888963407)) / 8589934592) ((wrap64 ((wrap64 (s0_2 * 6364136223846793005)) + 1442695040888963407)) / 35184372088832)) 255, s0_1, wrap64 ((wrap64 (s0_2 * 6364136223846793005)) + 1442695040888963407)))) = some (r1, r2, r3) := h; clear h
 by_cases c2 : s0_1 < (s0_0.length : Int)
 ·rw [if_pos c2] at H
  have c2b0 : decide (s0_1 < (s0_0.length : Int)) = true := decide_eq_true c2; clear c2
  by_cases c3 : 0 ≤ s0_1
  ·rw [if_pos c3] at H
   have c3b0 : decide (0 ≤ s0_1) = true := decide_eq_true c3; clear c3; simp only [Option.some.injEq, Prod.mk.injEq] at H; obtain ⟨rfl, rfl, rfl⟩ := H; obtain ⟨ASz4_0, cSz4_0, HGz4, hgz4, ⟨HSz4_0, HMz4_0⟩⟩ := HI0.out; have hcz4_0 := cellS87_0 HGz4; have hcz4_1 := cellS87_1 HGz4; have hcz4_2 := cellS87_2 HGz4; have hfz4_1 := blk_frozen HGz4 1; have hfz4_2 := blk_frozen HGz4 2; clear HGz4 hgz4; have p207 : 0 ≤ (s0_1 : Int) := of_decide_eq_true (by first | (with_reducible assumption) | assumption); have q207 : s0_1 < (s0_0.length : Int) := of_decide_eq_true (by first | (with_reducible assumption) | assumption); obtain ⟨ad207, e207, hx207_0⟩ := Kd.at_int HSz4_0 s0_1 p207 q207
   cases e207
   have hn207_0 : ad207.block ≠ g := Nat.ne_of_lt (Nat.lt_of_lt_of_le (by have := World.block_lt_of_cell? _ _ hx207_0; first | rwa [add_block] at this | exact this) (IsS87.ge HI0.out)); replace hx207_0 := pw_cell_below HB.out hx207_0; replace hx207_0 := (cell_far (p := ⟨g, 2, none⟩) (by first | (rw [add_block]; exact hn207_0) | (show (Addr.add _ _).block ≠ _; rw [add_block]; exact hn207_0) | exact hn207_0) (.int .i64 (wrap64 ((wrap64 (s0_2 * 6364136223846793005)) + 1442695040888963407)))).trans hx207_0; (try have hy207_0 := fun (n_ : Nat) => (show (((w.drewN n_).setCell ⟨g, 2, none⟩ (.int .i64 (wrap64 ((wrap64 (s0_2 * 6364136223846793005)) + 1442695040888963407))))).cell? _ = some _ from hx207_0)); clear hn207_0; replace p207 := eq_true p207; replace q207 := eq_true q207
   go_enter Try.func84, Try.ntmps84
   go_wp2
   repeat (go_quiet (fail); try go_wp2)
   go_ret
   exact ⟨KE, KI87, KB87, KH⟩
  ·rw [if_neg c3] at H
   exact absurd H (by simp)
 ·rw [if_neg c2] at H
  have c2b0 : decide (s0_1 < (s0_0.length : Int)) = false := decide_eq_false c2; clear c2; simp only [Option.some.injEq, Prod.mk.injEq] at H; obtain ⟨rfl, rfl, rfl⟩ := H; obtain ⟨ASz5_0, cSz5_0, HGz5, hgz5, ⟨HSz5_0, HMz5_0⟩⟩ := HI0.out; have hcz5_0 := cellS87_0 HGz5; have hcz5_1 := cellS87_1 HGz5; have hcz5_2 := cellS87_2 HGz5; have hfz5_1 := blk_frozen HGz5 1; have hfz5_2 := blk_frozen HGz5 2; clear HGz5 hgz5
  go_enter Try.func84, Try.ntmps84
  go_wp2
  repeat (go_quiet (fail); try go_wp2)
  go_ret
  exact ⟨KE, KI87, KB87, KH⟩

end Go.Proofs.Ytnoghojlpicecaa.PFnEras
