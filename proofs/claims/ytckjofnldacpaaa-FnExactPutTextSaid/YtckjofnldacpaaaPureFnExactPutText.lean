/- The program's PutText and the reference's give the same bytes at every text, each time in new memory. Conditions: none beyond the given statement. -/
import Derived.Test.YtckjofnldacpaaaMFnExactPutTextx1
import Derived.OpenShut
import Derived.Laws.BitsLemmas
namespace Go.Proofs.Ytckjofnldacpaaa.Pure
open Go.RowKit Go.Proofs.Ytckjofnldacpaaa.PFnExactPutText Go.Proofs.YtckjofnldacpaaaW.PrintWords Go.Proofs.YtckjofnldacpaaaW.PrintLast Go.Proofs.YtckjofnldacpaaaW.PrintMore
set_option linter.unusedVariables false
set_option linter.unusedSimpArgs false
/-! base -/
theorem w64 {n : Int} (h : -9223372036854775808 ≤ n) (h2 : n ≤ 9223372036854775807) : wrap64 n = n := by unfold wrap64; omega
theorem wsucc (i : Nat) (h : i < 4611686018427387904) : wrap64 ((i : Int) + 1) = ((i + 1 : Nat) : Int) := by unfold wrap64; omega
theorem wf64 {n : Int} (h : (Lit.int .i64 n).wf = true) : -9223372036854775808 ≤ n ∧ n ≤ 9223372036854775807 := bounds_i64 h
theorem Evpos {α : Type} {c : Prop} [Decidable c] {a b : Nat → Option α} {r : α} (h : c) (e : Ev a r) : Ev (fun k => if c then a k else b k) r := Ev.congr (fun _ => if_pos h) e
theorem Evneg {α : Type} {c : Prop} [Decidable c] {a b : Nat → Option α} {r : α} (h : ¬ c) (e : Ev b r) : Ev (fun k => if c then a k else b k) r := Ev.congr (fun _ => if_neg h) e
theorem Evsome {α β : Type} {a : α} {f : Nat → α → Option β} {r : β} (e : Ev (fun k => f k a) r) : Ev (fun k => (some a).bind (f k)) r := e
theorem Evbind {α β : Type} {g : Nat → Option α} {f : Nat → α → Option β} {a : α} {r : β} (h : Ev g a) (e : Ev (fun n => f n a) r) : Ev (fun n => (g n).bind (f n)) r := Ev.bind h e
theorem Evconst {α : Type} {g : Option α} {r : α} (h : g = some r) : Ev (fun _ => g) r := ⟨0, fun _ _ => h⟩
theorem Evto {α : Type} {g : Nat → Option α} {r r' : α} (h : r = r') (e : Ev g r) : Ev g r' := h ▸ e
theorem rd_nat (xs : List Int) (i : Nat) : rd xs (i : Int) = xs.getD i 0 := by simp [rd]
theorem getD_get (xs : List Int) (i : Nat) (h : i < xs.length) : xs.getD i 0 = xs[i] := by simp [List.getD_eq_getElem?_getD, List.getElem?_eq_getElem h]
theorem get_getD (xs : List Int) (i : Nat) (h : i < xs.length) : xs[i]? = some (xs.getD i 0) := by simp [List.getD_eq_getElem?_getD, List.getElem?_eq_getElem h]
theorem wf_getD {kd : IntKind} (xs : List Int) (hw : ∀ x ∈ xs, (Lit.int kd x).wf = true) (i : Nat) (h : i < xs.length) : (Lit.int kd (xs.getD i 0)).wf = true := by
  rw [getD_get xs i h]; exact hw _ (List.getElem_mem h)
theorem wf_iff (k : IntKind) (n : Int) : (Lit.int k n).wf = true ↔ k.min ≤ n ∧ n ≤ k.max := by simp [Lit.wf]
theorem wf8 {n : Int} (h : (Lit.int .u8 n).wf = true) : 0 ≤ n ∧ n ≤ 255 := by
  have := (wf_iff .u8 n).1 h
  simpa [IntKind.min, IntKind.max, IntKind.bits, IntKind.signed] using this
theorem wf_mk8 {n : Int} (h : 0 ≤ n) (h2 : n ≤ 255) : (Lit.int .u8 n).wf = true :=
  (wf_iff .u8 n).2 (by simp [IntKind.min, IntKind.max, IntKind.bits, IntKind.signed]; omega)
theorem wf_mk64 {n : Int} (h : -9223372036854775808 ≤ n) (h2 : n ≤ 9223372036854775807) : (Lit.int .i64 n).wf = true :=
  (wf_iff .i64 n).2 (by simp [IntKind.min, IntKind.max, IntKind.bits, IntKind.signed]; omega)
theorem drop_at (b : List Int) (j : Nat) (h : j < b.length) : b.drop j = b.getD j 0 :: b.drop (j + 1) := by
  rw [List.drop_eq_getElem_cons h, getD_get b j h]
theorem p63 : (2 : Int) ^ 63 = 9223372036854775808 := by decide
theorem p1289 : (128 : Nat) ^ 9 = 9223372036854775808 := by decide
theorem p27 : (2 : Int) ^ 7 = 128 := by decide
theorem natpos (i : Nat) : ((i : Int) > 0) ↔ 0 < i := by omega

/-! bits -/
theorem wraps63 (n : Int) (h₀ : 0 ≤ n) (h₁ : n < 2 ^ 63) : IntKind.i64.wrap n = n := by
  have e := p63
  rw [IntKind.wrap_i64]; omega
theorem and127 (x : Int) (h0 : 0 ≤ x) (h1 : x < 9223372036854775808) : Go.bits .and .i64 x 127 = x % 128 :=
  bits_mask .i64 63 (by decide) wraps63 7 (by decide) x h0 (by rw [p63]; exact h1)
theorem and1 (x : Int) (h0 : 0 ≤ x) (h1 : x < 9223372036854775808) : Go.bits .and .i64 x 1 = x % 2 :=
  bits_mask .i64 63 (by decide) wraps63 1 (by decide) x h0 (by rw [p63]; exact h1)
theorem or_comm64 (x y : Int) : Go.bits .or .i64 x y = Go.bits .or .i64 y x := by
  unfold Go.bits; simp only []; rw [BitVec.or_comm]
theorem or_low (i : Nat) (x z : Int) (hx : 0 ≤ x) (hx' : x < 2 ^ i) (hz : 0 ≤ z) (hz' : z < 9223372036854775808) (hm : z % 2 ^ i = 0) (hx2 : x < 9223372036854775808) : Go.bits .or .i64 x z = x + z := by
  have e := p63
  rw [or_comm64, bits_join .i64 63 (by decide) wraps63 i z x hz hm (by omega) hx hx' (by omega)]; omega

/-! pnumm -/
def pnum (x : Nat) : List Int := if 127 < x then ((x % 128 + 128 : Nat) : Int) :: pnum (x / 128) else [(x : Int)]
termination_by x
decreasing_by omega
def putNum (x : Int) : List Int := if x < 0 then [] else pnum x.toNat
theorem pnum_big (x : Nat) (h : 127 < x) : pnum x = ((x % 128 + 128 : Nat) : Int) :: pnum (x / 128) := by rw [pnum, if_pos h]
theorem pnum_small (x : Nat) (h : ¬ 127 < x) : pnum x = [(x : Int)] := by rw [pnum, if_neg h]
theorem pnum_bd (x : Nat) : ∀ c ∈ pnum x, 0 ≤ c ∧ c ≤ 255 := by
  induction x using Nat.strongRecOn with
  | ind x ih =>
    intro c hc
    by_cases h : 127 < x
    · rw [pnum_big x h] at hc
      rcases List.mem_cons.1 hc with rfl | hc
      · omega
      · exact ih (x / 128) (by omega) c hc
    · rw [pnum_small x h] at hc
      have := List.mem_singleton.1 hc
      omega
theorem pnum_len (d : Nat) : ∀ x : Nat, x < 128 ^ (d + 1) → 1 ≤ (pnum x).length ∧ (pnum x).length ≤ d + 1 := by
  induction d with
  | zero => intro x hx; rw [pnum_small x (by omega)]; simp
  | succ d ih =>
    intro x hx
    by_cases h : 127 < x
    · rw [pnum_big x h]
      have := ih (x / 128) (by rw [Nat.div_lt_iff_lt_mul (by decide)]; rw [Nat.pow_succ] at hx; exact hx)
      simp; omega
    · rw [pnum_small x h]; simp
theorem pnum_len9 (x : Nat) (h : x < 9223372036854775808) : 1 ≤ (pnum x).length ∧ (pnum x).length ≤ 9 := pnum_len 8 x (by rw [p1289]; exact h)
theorem putNum_len (x : Int) (h : x ≤ 9223372036854775807) : (putNum x).length ≤ 9 := by
  unfold putNum
  by_cases h0 : x < 0
  · rw [if_pos h0]; simp
  · rw [if_neg h0]; exact (pnum_len9 x.toNat (by omega)).2
theorem putNum_wf (x : Int) : ∀ c ∈ putNum x, (Lit.int .u8 c).wf = true := by
  intro c hc
  unfold putNum at hc
  have : 0 ≤ c ∧ c ≤ 255 := by
    by_cases h0 : x < 0
    · rw [if_pos h0] at hc; simp at hc
    · rw [if_neg h0] at hc; exact pnum_bd _ c hc
  exact wf_mk8 this.1 this.2

/-! ipnum -/
theorem impl_PutNum_l0 (d : Nat) : ∀ (x : Nat) (out : List Int), x < 128 ^ (d + 1) → x < 9223372036854775808 → out.length + d < 140737488355328 → Ev (fun k => impl_PutNum.l0 k (x : Int) out) (out ++ pnum x) := by
  induction d with
  | zero =>
    intro x out hx hx' hl
    have hs : (x : Int) % 256 = x := by omega
    refine Ev.step (f := fun _ => some (out ++ [(x : Int)])) (fun k => ?_) (Evto ?_ (Ev.now _))
    · rw [impl_PutNum.l0, if_neg (by omega), if_pos (by omega), hs]
    · rw [pnum_small x (by omega)]
  | succ d ih =>
    intro x out hx hx' hl
    by_cases h : 127 < x
    · refine Ev.step (f := fun k => impl_PutNum.l0 k ((x / 128 : Nat) : Int) (out ++ [((x % 128 + 128 : Nat) : Int)])) (fun k => ?_) (Evto ?_ (ih (x / 128) (out ++ [((x % 128 + 128 : Nat) : Int)]) (by rw [Nat.div_lt_iff_lt_mul (by decide)]; rw [Nat.pow_succ] at hx; exact hx) (by omega) (by simp; omega)))
      · have e1 : (x : Int) / 128 = ((x / 128 : Nat) : Int) := by omega
        have e2 : (Go.bits .or .i64 (Go.bits .and .i64 (x : Int) 127) 128) % 256 = ((x % 128 + 128 : Nat) : Int) := by
          rw [and127 _ (by omega) (by omega), or_low 7 _ 128 (by omega) (by rw [p27]; omega) (by decide) (by decide) (by decide) (by omega)]; omega
        rw [impl_PutNum.l0, if_pos (by omega), if_pos (by omega), e1, e2]
      · rw [pnum_big x h]; simp
    · have hs : (x : Int) % 256 = x := by omega
      refine Ev.step (f := fun _ => some (out ++ [(x : Int)])) (fun k => ?_) (Evto ?_ (Ev.now _))
      · rw [impl_PutNum.l0, if_neg (by omega), if_pos (by omega), hs]
      · rw [pnum_small x h]
theorem impl_PutNum_f (x : Int) (hx : x ≤ 9223372036854775807) : Ev (fun k => impl_PutNum.f k x) (putNum x) := by
  unfold putNum
  by_cases h0 : x < 0
  · rw [if_pos h0]
    exact Ev.congr (f := fun _ => some []) (fun k => by simp only [impl_PutNum.f, Option.bind_some]; rw [if_pos h0]) (Ev.now _)
  · rw [if_neg h0]
    obtain ⟨n, rfl⟩ := Int.eq_ofNat_of_zero_le (show 0 ≤ x by omega)
    exact Ev.congr (f := fun k => impl_PutNum.l0 k (n : Int) []) (fun k => by simp only [impl_PutNum.f, Option.bind_some]; rw [if_neg h0]) (impl_PutNum_l0 8 n [] (by rw [p1289]; omega) (by omega) (by simp))

/-! spnum -/
theorem spec_PutNum_l0 (d : Nat) : ∀ (x : Nat) (out : List Int), x < 128 ^ (d + 1) → x < 9223372036854775808 → out.length + d < 140737488355328 → Ev (fun k => spec_PutNum.l0 k (x : Int) out) (out ++ pnum x) := by
  induction d with
  | zero =>
    intro x out hx hx' hl
    have hs : (x : Int) % 256 = x := by omega
    refine Ev.step (f := fun _ => some (out ++ [(x : Int)])) (fun k => ?_) (Evto ?_ (Ev.now _))
    · rw [spec_PutNum.l0, if_neg (by omega), if_pos (by omega), hs]
    · rw [pnum_small x (by omega)]
  | succ d ih =>
    intro x out hx hx' hl
    by_cases h : 127 < x
    · refine Ev.step (f := fun k => spec_PutNum.l0 k ((x / 128 : Nat) : Int) (out ++ [((x % 128 + 128 : Nat) : Int)])) (fun k => ?_) (Evto ?_ (ih (x / 128) (out ++ [((x % 128 + 128 : Nat) : Int)]) (by rw [Nat.div_lt_iff_lt_mul (by decide)]; rw [Nat.pow_succ] at hx; exact hx) (by omega) (by simp; omega)))
      · have e1 : wrap64 (Int.tdiv (x : Int) 128) = ((x / 128 : Nat) : Int) := by rw [Int.tdiv_eq_ediv_of_nonneg (by omega), w64 (by omega) (by omega)]; omega
        have e2 : (wrap64 (Int.tmod (x : Int) 128 + 128)) % 256 = ((x % 128 + 128 : Nat) : Int) := by rw [Int.tmod_eq_emod_of_nonneg (by omega), w64 (by omega) (by omega)]; omega
        rw [spec_PutNum.l0, if_pos (by omega), if_pos (by omega), e1, e2]
      · rw [pnum_big x h]; simp
    · have hs : (x : Int) % 256 = x := by omega
      refine Ev.step (f := fun _ => some (out ++ [(x : Int)])) (fun k => ?_) (Evto ?_ (Ev.now _))
      · rw [spec_PutNum.l0, if_neg (by omega), if_pos (by omega), hs]
      · rw [pnum_small x h]
theorem spec_PutNum_f (x : Int) (hx : x ≤ 9223372036854775807) : Ev (fun k => spec_PutNum.f k x) (putNum x) := by
  unfold putNum
  by_cases h0 : x < 0
  · rw [if_pos h0]
    exact Ev.congr (f := fun _ => some []) (fun k => by simp only [spec_PutNum.f, Option.bind_some]; rw [if_pos h0]) (Ev.now _)
  · rw [if_neg h0]
    obtain ⟨n, rfl⟩ := Int.eq_ofNat_of_zero_le (show 0 ≤ x by omega)
    exact Ev.congr (f := fun k => spec_PutNum.l0 k (n : Int) []) (fun k => by simp only [spec_PutNum.f, Option.bind_some]; rw [if_neg h0]) (spec_PutNum_l0 8 n [] (by rw [p1289]; omega) (by omega) (by simp))

/-! puttext -/
def putText (s : ByteArray) : List Int := putNum (s.size : Int) ++ bytesOf s
theorem putText_len (s : ByteArray) (h : s.size ≤ 9223372036854775807) : (putText s).length ≤ 9 + s.size := by
  have := putNum_len (s.size : Int) (by omega)
  unfold putText
  rw [List.length_append, bytesOf_length]; omega
theorem spec_PutText_f (s : ByteArray) (h : s.size < 140737488355000) : Ev (fun k => spec_PutText.f k s) (putText s) := by
  have hl := putNum_len (s.size : Int) (by omega)
  unfold spec_PutText.f
  exact Evbind (spec_PutNum_f (s.size : Int) (by omega)) (Evpos (by omega) (Ev.now _))
theorem impl_PutText_f (s : ByteArray) (h : s.size < 140737488355000) : Ev (fun k => impl_PutText.f k s) (putText s) := by
  have hl := putNum_len (s.size : Int) (by omega)
  unfold impl_PutText.f
  exact Evbind (impl_PutNum_f (s.size : Int) (by omega)) (Evpos (by omega) (Ev.now _))

/-! eqByte -/
theorem eqByteS_l0 (x y : List Int) (hl : x.length = y.length) (hn : x.length < 4611686018427387904) (d : Nat) : ∀ i : Nat, i + d = x.length → Ev (fun k => laws_eqByteS.l0 k x y (i : Int)) (decide (x.drop i = y.drop i)) := by
  induction d with
  | zero =>
    intro i hi
    refine Ev.step (f := fun _ => some true) (fun k => ?_) ?_
    · rw [laws_eqByteS.l0, if_neg (by omega)]
    · rw [List.drop_eq_nil_of_le (by omega), List.drop_eq_nil_of_le (by omega)]; exact Ev.now _
  | succ d ih =>
    intro i hi
    have hx : i < x.length := by omega
    have hy : i < y.length := by omega
    have dx := List.drop_eq_getElem_cons hx
    have dy := List.drop_eq_getElem_cons hy
    by_cases e : x.getD i 0 = y.getD i 0
    · refine Ev.step (f := fun k => laws_eqByteS.l0 k x y ((i + 1 : Nat) : Int)) (fun k => ?_) (Evto ?_ (ih (i + 1) (by omega)))
      · rw [laws_eqByteS.l0, if_pos (by omega), if_pos (by omega), if_pos (by omega), rd_nat, rd_nat, if_pos e, wsucc i (by omega)]
      · rw [getD_get x i hx, getD_get y i hy] at e
        rw [dx, dy, e]; exact decide_eq_decide.2 ⟨fun h => by rw [h], fun h => (List.cons.inj h).2⟩
    · refine Ev.step (f := fun _ => some false) (fun k => ?_) (Evto ?_ (Ev.now _))
      · rw [laws_eqByteS.l0, if_pos (by omega), if_pos (by omega), if_pos (by omega), rd_nat, rd_nat, if_neg e]
      · rw [getD_get x i hx, getD_get y i hy] at e
        symm; apply decide_eq_false
        rw [dx, dy]; intro h; exact e (List.cons.inj h).1
theorem eqByteS_f (x y : List Int) (hn : x.length < 4611686018427387904) : Ev (fun k => laws_eqByteS.f k x y) (decide (x = y)) := by
  by_cases h : x.length = y.length
  · exact Ev.congr (fun k => by rw [laws_eqByteS.f, if_pos (by omega)]; rfl) (Evto (by simp) (eqByteS_l0 x y h hn x.length 0 (by omega)))
  · refine Ev.congr (g := fun k => laws_eqByteS.f k x y) (f := fun _ => some false) (fun k => by rw [laws_eqByteS.f, if_neg (by omega)]) (Evto ?_ (Ev.now _))
    symm; apply decide_eq_false; intro e; exact h (by rw [e])
theorem eqByteS_refl (x : List Int) (hn : x.length < 4611686018427387904) : Ev (fun k => laws_eqByteS.f k x x) true := Evto (by simp) (eqByteS_f x x hn)

/-! markByte -/
def marksByte (n : Nat) (a : Int) : List Int := (List.range n).map (fun j : Nat => (a + (j : Int)) % 256)
theorem marksByte_len (n : Nat) (a : Int) : (marksByte n a).length = n := by simp [marksByte]
theorem marksByte_get (n : Nat) (a : Int) (j : Nat) (h : j < n) : (marksByte n a)[j]? = some ((a + (j : Int)) % 256) := by simp [marksByte, List.getElem?_range h]
theorem markByteS_l0 (n : Nat) (a : Int) (ha : 0 ≤ a) (hn : a + n < 4611686018427387904) (d : Nat) : ∀ (i : Nat) (x : List Int), i + d = n → x.length = n → (∀ j, j < i → x[j]? = some ((a + (j : Int)) % 256)) → Ev (fun k => laws_markByteS.l0 k x (a + i) (i : Int)) (a + n, marksByte n a) := by
  induction d with
  | zero =>
    intro i x hi hx h
    refine Ev.step (f := fun _ => some (a + i, x)) (fun k => ?_) (Evto ?_ (Ev.now _))
    · rw [laws_markByteS.l0, if_neg (by omega)]
    · have : x = marksByte n a := by
        apply List.ext_getElem?; intro j
        by_cases hj : j < i
        · rw [h j hj, marksByte_get n a j (by omega)]
        · rw [List.getElem?_eq_none (by omega), List.getElem?_eq_none (by rw [marksByte_len]; omega)]
      rw [this, show i = n by omega]
  | succ d ih =>
    intro i x hi hx h
    refine Ev.step (f := fun k => laws_markByteS.l0 k (x.set i ((a + (i : Int)) % 256)) (a + ((i + 1 : Nat) : Int)) ((i + 1 : Nat) : Int)) (fun k => ?_) (ih (i + 1) _ (by omega) (by simp [hx]) ?_)
    · rw [laws_markByteS.l0, if_pos (by omega), if_pos (by omega), wsucc i (by omega), Int.toNat_natCast, w64 (n := a + i + 1) (by omega) (by omega)]
      rw [show a + (i : Int) + 1 = a + ((i + 1 : Nat) : Int) by omega]
    · intro j hj
      rw [List.getElem?_set]
      by_cases e : i = j
      · subst e; rw [if_pos rfl, if_pos (by omega)]
      · rw [if_neg e]; exact h j (by omega)
theorem markByteS_f (x : List Int) (a : Int) (ha : 0 ≤ a) (hn : a + x.length < 4611686018427387904) : Ev (fun k => laws_markByteS.f k x a) (a + x.length, marksByte x.length a) :=
  Ev.congr (fun k => by rw [laws_markByteS.f]; simp) (markByteS_l0 x.length a ha hn x.length 0 x (by omega) rfl (fun j hj => by omega))
theorem heldByteS_l0 (n : Nat) (a : Int) (ha : 0 ≤ a) (hn : a + n < 4611686018427387904) (d : Nat) : ∀ (i : Nat), i + d = n → Ev (fun k => laws_heldByteS.l0 k (marksByte n a) (a + i) (i : Int)) (a + n) := by
  induction d with
  | zero =>
    intro i hi
    refine Ev.step (f := fun _ => some (a + i)) (fun k => ?_) (Evto ?_ (Ev.now _))
    · rw [laws_heldByteS.l0, marksByte_len, if_neg (by omega)]
    · rw [show i = n by omega]
  | succ d ih =>
    intro i hi
    refine Ev.step (f := fun k => laws_heldByteS.l0 k (marksByte n a) (a + ((i + 1 : Nat) : Int)) ((i + 1 : Nat) : Int)) (fun k => ?_) (ih (i + 1) (by omega))
    · rw [laws_heldByteS.l0, marksByte_len, if_pos (by omega), if_pos (by omega), rd_nat, if_pos, wsucc i (by omega), w64 (n := a + i + 1) (by omega) (by omega)]
      · rw [show a + (i : Int) + 1 = a + ((i + 1 : Nat) : Int) by omega]
      · rw [List.getD_eq_getElem?_getD, marksByte_get n a i (by omega)]; rfl
theorem heldByteS_f (n : Nat) (a : Int) (ha : 0 ≤ a) (hn : a + n < 4611686018427387904) : Ev (fun k => laws_heldByteS.f k (marksByte n a) a) (a + n) :=
  Ev.congr (fun k => by rw [laws_heldByteS.f]; simp) (heldByteS_l0 n a ha hn n 0 (by omega))

theorem FnExactPutText (a0 : ByteArray) (ha0 : a0.size ≤ maxLen) : ∃ k, laws_FnExactPutText.f k a0 = some true := by
  refine Ev.rounds (g := fun k => laws_FnExactPutText.f k a0) ?_
  unfold laws_FnExactPutText.f
  by_cases hbig : (a0.size : Int) > 1048576
  · exact Evpos hbig (Ev.now _)
  refine Evneg hbig ?_
  have hl := putText_len a0 (by omega)
  have hi := impl_PutText_f a0 (by omega)
  have he := eqByteS_refl (putText a0) (by omega)
  have hh := heldByteS_f (putText a0).length 1 (by decide) (by omega)
  refine Evbind (spec_PutText_f a0 (by omega)) (Evbind hi (Evbind he (Evpos rfl ?_)))
  refine Evbind (markByteS_f (putText a0) 1 (by decide) (by omega)) (Evbind hh (Evneg (by omega) (Evpos rfl ?_)))
  exact Evbind hi (Evbind he (Evpos rfl (Evbind hh (Evneg (by omega) (Evpos rfl (Ev.now _))))))

end Go.Proofs.Ytckjofnldacpaaa.Pure
