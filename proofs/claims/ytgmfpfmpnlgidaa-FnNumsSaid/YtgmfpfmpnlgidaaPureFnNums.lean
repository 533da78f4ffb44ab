/- Drawn numbers and texts are read from their bytes as they were, whatever stands behind them. Conditions: none beyond the given statement. -/
import Derived.Test.YtgmfpfmpnlgidaaMFnNumsx2
import Derived.OpenShut
import Derived.Laws.BitsLemmas
namespace Go.Proofs.Ytgmfpfmpnlgidaa.Pure
open Go.RowKit Go.Proofs.Ytgmfpfmpnlgidaa.PFnNums Go.Proofs.YtgmfpfmpnlgidaaW.PrintWords Go.Proofs.YtgmfpfmpnlgidaaW.PrintLast Go.Proofs.YtgmfpfmpnlgidaaW.PrintMore
set_option linter.unusedVariables false
set_option linter.unusedSimpArgs false
/-! base -/
theorem w64 {n : Int} (h : -9223372036854775808 ≤ n) (h2 : n ≤ 9223372036854775807) : wrap64 n = n := by unfold wrap64; omega
theorem wsucc (i : Nat) (h : i < 4611686018427387904) : wrap64 ((i : Int) + 1) = ((i + 1 : Nat) : Int) := by unfold wrap64; omega
theorem wf64 {n : Int} (h : (Lit.int .i64 n).wf = true) : -9223372036854775808 ≤ n ∧ n ≤ 9223372036854775807 := bounds_i64 h
theorem Evpos {α : Type} {c : Prop} [Decidable c] {a b : Nat → Option α} {r : α} (h : c) (e : Ev a r) : Ev (fun k => if c then a k else b k) r := Ev.congr (fun _ => if_pos h) e
theorem Evneg {α : Type} {c : Prop} [Decidable c] {a b : Nat → Option α} {r : α} (h : ¬ c) (e : Ev b r) : Ev (fun k => if c then a k else b k) r := Ev.congr (fun _ => if_neg h) e
theorem Evsome {α β : Type} {a : α} {f : Nat → α → Option β} {r : β} (e : Ev (fun k => f k a) r) : Ev (fun k => (some a).bind (f k)) r := e
theorem Evbind {α β : Type} {g : Nat → Option α} {f : Nat → α → Option β} {a : α} {r : β} (h : Ev g a) (e : Ev (fun n => f n a) r) : Ev (fun n => (g n).bind (f n)) r := Ev.bind h e
theorem Evconst {α : Type} {g : Option α} {r : α} (h : g = some r) : Ev (fun _ => g) r := ⟨0, fun _ _ => h⟩
theorem Evto {α : Type} {g : Nat → Option α} {r r' : α} (h : r = r') (e : Ev g r) : Ev g r' := h ▸ e
theorem rd_nat (xs : List Int) (i : Nat) : rd xs (i : Int) = xs.getD i 0 := by simp [rd]
theorem getD_get (xs : List Int) (i : Nat) (h : i < xs.length) : xs.getD i 0 = xs[i] := by simp [List.getD_eq_getElem?_getD, List.getElem?_eq_getElem h]
theorem get_getD (xs : List Int) (i : Nat) (h : i < xs.length) : xs[i]? = some (xs.getD i 0) := by simp [List.getD_eq_getElem?_getD, List.getElem?_eq_getElem h]
theorem wf_getD {kd : IntKind} (xs : List Int) (hw : ∀ x ∈ xs, (Lit.int kd x).wf = true) (i : Nat) (h : i < xs.length) : (Lit.int kd (xs.getD i 0)).wf = true := by
  rw [getD_get xs i h]; exact hw _ (List.getElem_mem h)
theorem wf_iff (k : IntKind) (n : Int) : (Lit.int k n).wf = true ↔ k.min ≤ n ∧ n ≤ k.max := by simp [Lit.wf]
theorem wf8 {n : Int} (h : (Lit.int .u8 n).wf = true) : 0 ≤ n ∧ n ≤ 255 := by
  have := (wf_iff .u8 n).1 h
  simpa [IntKind.min, IntKind.max, IntKind.bits, IntKind.signed] using this
theorem wf_mk8 {n : Int} (h : 0 ≤ n) (h2 : n ≤ 255) : (Lit.int .u8 n).wf = true :=
  (wf_iff .u8 n).2 (by simp [IntKind.min, IntKind.max, IntKind.bits, IntKind.signed]; omega)
theorem wf_mk64 {n : Int} (h : -9223372036854775808 ≤ n) (h2 : n ≤ 9223372036854775807) : (Lit.int .i64 n).wf = true :=
  (wf_iff .i64 n).2 (by simp [IntKind.min, IntKind.max, IntKind.bits, IntKind.signed]; omega)
theorem drop_at (b : List Int) (j : Nat) (h : j < b.length) : b.drop j = b.getD j 0 :: b.drop (j + 1) := by
  rw [List.drop_eq_getElem_cons h, getD_get b j h]
theorem p63 : (2 : Int) ^ 63 = 9223372036854775808 := by decide
theorem p1289 : (128 : Nat) ^ 9 = 9223372036854775808 := by decide
theorem p27 : (2 : Int) ^ 7 = 128 := by decide
theorem natpos (i : Nat) : ((i : Int) > 0) ↔ 0 < i := by omega

/-! bits -/
theorem wraps63 (n : Int) (h₀ : 0 ≤ n) (h₁ : n < 2 ^ 63) : IntKind.i64.wrap n = n := by
  have e := p63
  rw [IntKind.wrap_i64]; omega
theorem and127 (x : Int) (h0 : 0 ≤ x) (h1 : x < 9223372036854775808) : Go.bits .and .i64 x 127 = x % 128 :=
  bits_mask .i64 63 (by decide) wraps63 7 (by decide) x h0 (by rw [p63]; exact h1)
theorem and1 (x : Int) (h0 : 0 ≤ x) (h1 : x < 9223372036854775808) : Go.bits .and .i64 x 1 = x % 2 :=
  bits_mask .i64 63 (by decide) wraps63 1 (by decide) x h0 (by rw [p63]; exact h1)
theorem or_comm64 (x y : Int) : Go.bits .or .i64 x y = Go.bits .or .i64 y x := by
  unfold Go.bits; simp only []; rw [BitVec.or_comm]
theorem or_low (i : Nat) (x z : Int) (hx : 0 ≤ x) (hx' : x < 2 ^ i) (hz : 0 ≤ z) (hz' : z < 9223372036854775808) (hm : z % 2 ^ i = 0) (hx2 : x < 9223372036854775808) : Go.bits .or .i64 x z = x + z := by
  have e := p63
  rw [or_comm64, bits_join .i64 63 (by decide) wraps63 i z x hz hm (by omega) hx hx' (by omega)]; omega

/-! down -/
theorem down {p : Nat → Prop} (n : Nat) (h0 : p n) (hs : ∀ i, i < n → p (i + 1) → p i) (i : Nat) (hi : i ≤ n) : p i := by
  obtain ⟨d, hd⟩ : ∃ d, i + d = n := ⟨n - i, by omega⟩
  induction d generalizing i with
  | zero => obtain rfl : i = n := by omega
            exact h0
  | succ d ih => exact hs i (by omega) (ih (i + 1) (by omega) (by omega))
theorem getD_mem (l : List Int) (i : Nat) (h : i < l.length) : l.getD i 0 ∈ l := by
  rw [getD_get l i h]; exact List.getElem_mem h

/-! drawnew -/
theorem l1New_l0 (b : List Int) (hb : b.length < 4611686018427387904) : ∀ i, i ≤ b.length → ∀ h : Int, ∃ h', Ev (fun k => spec_l1New.l0 k b h (i : Int)) (b, 0, h') := by
  refine down b.length ?_ ?_
  · intro h
    exact ⟨h, Ev.step (f := fun _ => some (b, 0, h)) (fun k => by rw [spec_l1New.l0, if_neg (by omega)]) (Ev.now _)⟩
  · intro i hi ih h
    by_cases c : (i : Int) < 4000
    · obtain ⟨h', e⟩ := ih (Go.bits .and .i64 (wrap64 ((wrap64 ((wrap64 (h * 131)) + (wrap64 (rd b i)))) + 7)) 1073741823)
      exact ⟨h', Ev.step (f := fun k => spec_l1New.l0 k b (Go.bits .and .i64 (wrap64 ((wrap64 ((wrap64 (h * 131)) + (wrap64 (rd b i)))) + 7)) 1073741823) ((i + 1 : Nat) : Int)) (fun k => by rw [spec_l1New.l0, if_pos (by omega), if_pos c, if_pos (by omega), wsucc i (by omega)]) e⟩
    · exact ⟨h, Ev.step (f := fun _ => some (b, 0, h)) (fun k => by rw [spec_l1New.l0, if_pos (by omega), if_neg c]) (Ev.now _)⟩
theorem l1New_f (b : List Int) (hb : b.length < 4611686018427387904) : ∃ h', Ev (fun k => spec_l1New.f k b) (b, 0, h') := by
  obtain ⟨h', e⟩ := l1New_l0 b hb 0 (by omega) (wrap64 (17817 + (b.length : Int)))
  exact ⟨h', Ev.congr (fun k => by rw [spec_l1New.f]; rfl) e⟩

/-! andbd -/
theorem and_bd (x : Int) (m : Nat) (hm : m < 9223372036854775808) : 0 ≤ Go.bits .and .i64 x (m : Int) ∧ Go.bits .and .i64 x (m : Int) ≤ m := by
  have hb : IntKind.bits .i64 = 64 := rfl
  have key : ((BitVec.ofInt 64 x) &&& (BitVec.ofInt 64 (m : Int))).toNat ≤ m := by
    rw [BitVec.toNat_and, BitVec.ofInt_natCast, BitVec.toNat_ofNat]
    exact Nat.le_trans Nat.and_le_right (Nat.mod_le _ _)
  have e : Go.bits .and .i64 x (m : Int) = IntKind.i64.wrap ((((BitVec.ofInt 64 x) &&& (BitVec.ofInt 64 (m : Int))).toNat : Nat) : Int) := rfl
  rw [e, IntKind.wrap_i64]
  generalize ((BitVec.ofInt 64 x) &&& (BitVec.ofInt 64 (m : Int))).toNat = z at *
  omega

/-! drawbyte -/
theorem l1Byte_f (b : List Int) (i h : Int) (h0 : 0 ≤ i) (h1 : i ≤ b.length) (hb : b.length < 4611686018427387904) : ∃ x i' h', spec_l1Byte.f b i h = some (x, i', h') ∧ 0 ≤ x ∧ x ≤ 255 ∧ 0 ≤ i' ∧ i' ≤ b.length := by
  unfold spec_l1Byte.f
  by_cases hc : i < (b.length : Int)
  · rw [if_pos hc, if_pos h0]
    have e : wrap64 (i + 1) = i + 1 := w64 (by omega) (by omega)
    have a := fun x => and_bd x 255 (by omega)
    exact ⟨_, _, _, rfl, (a _).1, (a _).2, by rw [e]; omega, by rw [e]; omega⟩
  · rw [if_neg hc]
    have a := fun x => and_bd x 255 (by omega)
    exact ⟨_, _, _, rfl, (a _).1, (a _).2, h0, h1⟩
theorem l1Below_f (b : List Int) (i h n : Int) (h0 : 0 ≤ i) (h1 : i ≤ b.length) (hb : b.length < 4611686018427387904) : ∃ x i' h', spec_l1Below.f b i h n = some (x, i', h') ∧ 0 ≤ x ∧ (0 < n → x < n) ∧ (n ≤ 0 → x = 0) ∧ x ≤ 4294967295 ∧ 0 ≤ i' ∧ i' ≤ b.length := by
  unfold spec_l1Below.f
  by_cases c1 : n ≤ 0
  · rw [if_pos c1]; exact ⟨_, _, _, rfl, by omega, by omega, fun _ => rfl, by omega, h0, h1⟩
  rw [if_neg c1]
  obtain ⟨x, i1, hh1, e1, b1⟩ := l1Byte_f b i h h0 h1 hb
  by_cases c2 : n ≤ 256
  · rw [if_pos c2, e1, Option.bind_some, if_neg (by omega)]
    have hm : Int.tmod x n = x % n := Int.tmod_eq_emod_of_nonneg (by omega)
    have hm1 := Int.emod_lt_of_pos x (show 0 < n by omega)
    have hm0 := Int.emod_nonneg x (show n ≠ 0 by omega)
    refine ⟨_, _, _, rfl, ?_⟩
    show 0 ≤ Int.tmod x n ∧ (0 < n → Int.tmod x n < n) ∧ (n ≤ 0 → Int.tmod x n = 0) ∧ Int.tmod x n ≤ 4294967295 ∧ 0 ≤ i1 ∧ i1 ≤ b.length
    rw [hm]
    exact ⟨hm0, fun _ => hm1, fun hh => absurd hh c1, by omega, b1.2.2.1, b1.2.2.2⟩
  · obtain ⟨y, i2, hh2, e2, b2⟩ := l1Byte_f b i1 hh1 b1.2.2.1 b1.2.2.2 hb
    obtain ⟨z, i3, hh3, e3, b3⟩ := l1Byte_f b i2 hh2 b2.2.2.1 b2.2.2.2 hb
    obtain ⟨w, i4, hh4, e4, b4⟩ := l1Byte_f b i3 hh3 b3.2.2.1 b3.2.2.2 hb
    rw [if_neg c2, e1, Option.bind_some]
    simp only [e2, e3, e4, Option.bind_some]
    rw [if_neg (by omega)]
    have w1 : wrap64 (x * 16777216) = x * 16777216 := w64 (by omega) (by omega)
    have w2 : wrap64 (y * 65536) = y * 65536 := w64 (by omega) (by omega)
    have w3 : wrap64 (x * 16777216 + y * 65536) = x * 16777216 + y * 65536 := w64 (by omega) (by omega)
    have w4 : wrap64 (z * 256) = z * 256 := w64 (by omega) (by omega)
    have w5 : wrap64 (x * 16777216 + y * 65536 + z * 256) = x * 16777216 + y * 65536 + z * 256 := w64 (by omega) (by omega)
    have w6 : wrap64 (x * 16777216 + y * 65536 + z * 256 + w) = x * 16777216 + y * 65536 + z * 256 + w := w64 (by omega) (by omega)
    rw [w1, w2, w3, w4, w5, w6]
    have hs0 : 0 ≤ x * 16777216 + y * 65536 + z * 256 + w := by omega
    have hs1 : x * 16777216 + y * 65536 + z * 256 + w ≤ 4294967295 := by omega
    generalize x * 16777216 + y * 65536 + z * 256 + w = s at *
    have hm : Int.tmod s n = s % n := Int.tmod_eq_emod_of_nonneg hs0
    have hm1 := Int.emod_lt_of_pos s (show 0 < n by omega)
    have hm0 := Int.emod_nonneg s (show n ≠ 0 by omega)
    have hm2 : s % n ≤ s := by
      have := Int.emod_add_mul_ediv s n
      have hq : 0 ≤ s / n := Int.ediv_nonneg hs0 (by omega)
      have : 0 ≤ n * (s / n) := Int.mul_nonneg (by omega) hq
      omega
    refine ⟨_, _, _, rfl, ?_⟩
    rw [hm]
    exact ⟨hm0, fun _ => hm1, fun hh => absurd hh c1, by omega, b4.2.2.1, b4.2.2.2⟩

/-! drawpick -/
theorem l1PickInt_f (b : List Int) (i h : Int) (l : List Int) (hl : 0 < l.length) (hl2 : l.length < 1000) (h0 : 0 ≤ i) (h1 : i ≤ b.length) (hb : b.length < 4611686018427387904) : ∃ x i' h', spec_l1PickInt.f b i h l = some (x, i', h') ∧ x ∈ l ∧ 0 ≤ i' ∧ i' ≤ b.length := by
  obtain ⟨x, i', h', e, b1⟩ := l1Below_f b i h (l.length : Int) h0 h1 hb
  unfold spec_l1PickInt.f
  have hx := b1.2.1 (by omega)
  obtain ⟨n, rfl⟩ := Int.eq_ofNat_of_zero_le b1.1
  rw [e, Option.bind_some]
  simp only []
  rw [if_pos b1.1, if_pos hx]
  refine ⟨_, _, _, rfl, ?_, b1.2.2.2.2⟩
  show rd l (n : Int) ∈ l
  rw [rd_nat]
  exact getD_mem l n (by omega)

/-! drawputs -/
theorem DrawPutNum_f (b : List Int) (hb : b.length < 4611686018427387904) : ∃ x, Ev (fun k => spec_DrawPutNum.f k b) x ∧ x ≤ 9223372036854775807 := by
  obtain ⟨h, eh⟩ := l1New_f b hb
  obtain ⟨x, i1, h1, e1, hx0, _, _, hx, hi1, hi1'⟩ := l1Below_f b 0 h 100000 (by omega) (by omega) hb
  obtain ⟨y, i2, h2, e2, hy, _, _⟩ := l1PickInt_f b i1 h1 [0, 1, 127, 128, 16383, 16384, (-1), 9223372036854775807, x] (by simp) (by simp) hi1 hi1' hb
  refine ⟨y, ?_, ?_⟩
  · unfold spec_DrawPutNum.f
    exact Evbind eh (Evbind (Evconst e1) (Evbind (Evconst e2) (Ev.now _)))
  · simp only [List.mem_cons, List.not_mem_nil, or_false] at hy
    omega
theorem l2DrawBytes_l0 (b : List Int) (hb : b.length < 4611686018427387904) (n : Nat) (hn : n ≤ 1000) : ∀ i, i ≤ n → ∀ (out : List Int) (p h : Int), out.length = i → 0 ≤ p → p ≤ b.length → (∀ x ∈ out, (Lit.int .u8 x).wf = true) → ∃ out' p' h', Ev (fun k => spec_l2DrawBytes.l0 k out (n : Int) (i : Int) b p h) (out', p', h') ∧ out'.length = n ∧ (∀ x ∈ out', (Lit.int .u8 x).wf = true) ∧ 0 ≤ p' ∧ p' ≤ b.length := by
  refine down n ?_ ?_
  · intro out p h ho hp hp' hw
    exact ⟨out, p, h, Ev.step (f := fun _ => some (out, p, h)) (fun k => by rw [spec_l2DrawBytes.l0, if_neg (by omega)]) (Ev.now _), ho, hw, hp, hp'⟩
  · intro i hi ih out p h ho hp hp' hw
    obtain ⟨x, p1, h1, e1, hx0, hx1, hp1, hp1'⟩ := l1Byte_f b p h hp hp' hb
    obtain ⟨out', p', h', e', r⟩ := ih (out ++ [x % 256]) p1 h1 (by rw [List.length_append, ho]; rfl) hp1 hp1' (by
      intro y hy
      rcases List.mem_append.1 hy with hy | hy
      · exact hw y hy
      · rw [List.mem_singleton.1 hy]; exact wf_mk8 (by omega) (by omega))
    refine ⟨out', p', h', Ev.step (f := fun k => spec_l2DrawBytes.l0 k (out ++ [x % 256]) (n : Int) (((i + 1 : Nat)) : Int) b p1 h1) (fun k => ?_) e', r⟩
    rw [spec_l2DrawBytes.l0, if_pos (by omega), e1, Option.bind_some, if_pos (by omega), wsucc i (by omega)]
theorem l2DrawBytes_f (b : List Int) (p h a : Int) (hp : 0 ≤ p) (hp' : p ≤ b.length) (hb : b.length < 4611686018427387904) (ha : 0 ≤ a) (ha' : a ≤ 900) : ∃ out p' h', Ev (fun k => spec_l2DrawBytes.f k b p h a) (out, p', h') ∧ (out.length : Int) ≤ a ∧ (∀ x ∈ out, (Lit.int .u8 x).wf = true) ∧ 0 ≤ p' ∧ p' ≤ b.length := by
  obtain ⟨x, p1, h1, e1, hx0, hxn, _, _, hp1, hp1'⟩ := l1Below_f b p h (wrap64 (a + 1)) hp hp' hb
  have ew : wrap64 (a + 1) = a + 1 := w64 (by omega) (by omega)
  have hx := hxn (by omega)
  obtain ⟨n, rfl⟩ := Int.eq_ofNat_of_zero_le hx0
  obtain ⟨out, p', h', e', ho, hw, r⟩ := l2DrawBytes_l0 b hb n (by omega) 0 (by omega) [] p1 h1 rfl hp1 hp1' (by intro x hx; exact absurd hx (by simp))
  refine ⟨out, p', h', ?_, by omega, hw, r⟩
  unfold spec_l2DrawBytes.f
  exact Evbind (Evconst e1) e'
theorem l1Size_f (b : List Int) (a : Int) (hb : b.length < 4611686018427387904) (ha : 0 ≤ a) : ∃ r, spec_l1Size.f b a = some r ∧ 0 ≤ r ∧ r ≤ a := by
  unfold spec_l1Size.f
  have e1 : wrap64 ((b.length : Int) / 20) = (b.length : Int) / 20 := w64 (by omega) (by omega)
  have e2 : wrap64 (2 + (b.length : Int) / 20) = 2 + (b.length : Int) / 20 := w64 (by omega) (by omega)
  rw [e1, e2]
  by_cases h : 2 + (b.length : Int) / 20 > a
  · rw [if_pos h]; exact ⟨a, rfl, ha, by omega⟩
  · rw [if_neg h]; exact ⟨_, rfl, by omega, by omega⟩
theorem DrawPutText_f (b : List Int) (hb : b.length < 4611686018427387904) : ∃ s, Ev (fun k => spec_DrawPutText.f k b) s ∧ s.size ≤ 40 := by
  obtain ⟨h, eh⟩ := l1New_f b hb
  obtain ⟨a, ea, ha0, ha1⟩ := l1Size_f b 40 hb (by omega)
  obtain ⟨out, p', h', eo, hl, _⟩ := l2DrawBytes_f b 0 h a (by omega) (by omega) hb ha0 (by omega)
  refine ⟨strOfNums out, ?_, by rw [strOfNums_size]; omega⟩
  unfold spec_DrawPutText.f
  exact Evbind eh (Evbind (Evconst ea) (Evbind eo (Ev.now _)))

/-! gnumm -/
def pw (i : Nat) : Int := 128 ^ i
def gnum : Nat → List Int → Nat → Int → Option (Int × Nat)
  | 0, _, _, _ => none
  | _ + 1, [], _, _ => none
  | d + 1, c :: t, i, x => if c < 128 then (if c = 0 ∧ 0 < i then none else some (x + c * pw i, i + 1)) else gnum d t (i + 1) (x + (c - 128) * pw i)
def numOut (at_ : Int) (o : Option (Int × Nat)) : Int × Int × Bool := match o with
  | none => (0, 0, false)
  | some (x, m) => (x, at_ + (m : Int), true)
def getNum (b : List Int) (at_ : Int) : Int × Int × Bool := if at_ < 0 then (0, 0, false) else numOut at_ (gnum 9 (b.drop at_.toNat) 0 0)
theorem pw_succ (i : Nat) : pw (i + 1) = 128 * pw i := by unfold pw; rw [Int.pow_succ, Int.mul_comm]
theorem pw_zero : pw 0 = 1 := rfl
theorem pw_pos (i : Nat) : 1 ≤ pw i := by
  induction i with
  | zero => rw [pw_zero]; decide
  | succ i ih => rw [pw_succ]; omega
theorem pw_le9 (d : Nat) : ∀ i, i + d = 9 → pw i * 1 ≤ 9223372036854775808 := by
  induction d with
  | zero => intro i hi; obtain rfl : i = 9 := by omega
            decide
  | succ d ih => intro i hi; have := ih (i + 1) (by omega); rw [pw_succ] at this; have := pw_pos i; omega
theorem digit_bd (c x : Int) (i : Nat) (hi : i < 9) (hc : 0 ≤ c) (hc' : c ≤ 127) (hx : 0 ≤ x) (hx' : x < pw i) : 0 ≤ c * pw i ∧ c * pw i < 9223372036854775808 ∧ 0 ≤ x + c * pw i ∧ x + c * pw i < pw (i + 1) ∧ x + c * pw i < 9223372036854775808 ∧ x < 9223372036854775808 ∧ pw i ≤ 9223372036854775807 := by
  have p := pw_pos i
  have e := pw_succ i
  have h1 : 0 ≤ c * pw i := Int.mul_nonneg hc (by omega)
  have h2 : c * pw i ≤ 127 * pw i := Int.mul_le_mul_of_nonneg_right hc' (by omega)
  have h3 := pw_le9 (8 - i) (i + 1) (by omega)
  generalize c * pw i = z at *
  omega

/-! ignum -/
theorem pow27 (i : Nat) : (2 : Int) ^ (7 * i) = pw i := by unfold pw; rw [Int.pow_mul]; rfl
theorem w7 (i : Nat) (hi : i < 9) : 0 ≤ wrap64 (7 * (i : Int)) := by rw [w64 (by omega) (by omega)]; omega
theorem wbase (a i n : Nat) (h : a + i < n) (hn : n < 4611686018427387904) : wrap64 ((a : Int) + i) = ((a + i : Nat) : Int) := by rw [w64 (by omega) (by omega)]; omega
theorem wnext (a i n : Nat) (h : a + i < n) (hn : n < 4611686018427387904) : wrap64 (((a + i : Nat) : Int) + 1) = (a : Int) + ((i + 1 : Nat) : Int) := by rw [w64 (by omega) (by omega)]; omega
theorem shl7 (c : Int) (i : Nat) (hi : i < 9) (h0 : 0 ≤ c * pw i) (h1 : c * pw i < 9223372036854775808) : shl .i64 c (wrap64 (7 * (i : Int))) = c * pw i := by
  have e1 : wrap64 (7 * (i : Int)) = ((7 * i : Nat) : Int) := by rw [w64 (by omega) (by omega)]; omega
  have e2 : IntKind.bits .i64 = 64 := rfl
  unfold shl
  rw [e1, Int.toNat_natCast, e2, Nat.min_eq_left (by omega), pow27, IntKind.wrap_i64]; omega
theorem impl_GetNum_l0 (b : List Int) (hb : b.length < 4611686018427387904) (hw : ∀ x ∈ b, (Lit.int .u8 x).wf = true) (a : Nat) (ha : (a : Int) ≤ 9223372036854775807) (d : Nat) : ∀ (i : Nat) (x : Int), i + d = 9 → 0 ≤ x → x < pw i →
    Ev (fun k => impl_GetNum.l0 k b (a : Int) x (i : Int)) (numOut a (gnum d (b.drop (a + i)) i x)) := by
  have hsub : wrap64 ((b.length : Int) - a) = (b.length : Int) - a := w64 (by omega) (by omega)
  induction d with
  | zero =>
    intro i x hi hx hx'
    refine Ev.step (f := fun k => impl_GetNum.j1 k b (a : Int) x (i : Int) false) (fun k => ?_) (Ev.step (f := fun _ => some (0, 0, false)) (fun k => ?_) (Ev.now _))
    · rw [impl_GetNum.l0, if_neg (by omega)]
    · rw [impl_GetNum.j1, if_neg (by decide)]
  | succ d ih =>
    intro i x hi hx hx'
    by_cases hj : a + i < b.length
    · have hi9 : i < 9 := by omega
      have hx3 : i + 1 + d = 9 := by omega
      have hi0 : (0 : Int) ≤ ((a + i : Nat) : Int) := by omega
      have hi1 : ((a + i : Nat) : Int) < (b.length : Int) := by omega
      have hbase := wbase a i b.length hj hb
      have hc := wf8 (wf_getD b hw (a + i) hj)
      rw [drop_at b (a + i) hj]
      generalize hcv : b.getD (a + i) 0 = c at *
      have hmc1 : c < 128 → c % 128 = c := by omega
      have hmc2 : ¬ c < 128 → c % 128 = c - 128 := by omega
      have hgt : c > 127 ↔ ¬ c < 128 := by omega
      have hi9' : (i : Int) < 9 := by omega
      have hlen : (i : Int) < (b.length : Int) - a := by omega
      have hc0 : 0 ≤ c := by omega
      have hc1 : c < 9223372036854775808 := by omega
      have hm0 : 0 ≤ c % 128 := by omega
      have hm1 : c % 128 ≤ 127 := by omega
      have hn := wnext a i b.length hj hb
      have hws : wrap64 ((i : Int) + 1) = ((i + 1 : Nat) : Int) := wsucc i (by omega)
      have hcc : wrap64 c = c := w64 (by omega) (by omega)
      have hrd : rd b ((a + i : Nat) : Int) = c := by rw [rd_nat, hcv]
      have h7 := w7 i hi9
      refine Ev.step (f := fun k => impl_GetNum.j1 k b (a : Int) x (i : Int) true) (fun k => ?_) ?_
      · rw [impl_GetNum.l0, if_pos hi9', hsub, decide_eq_true hlen]
      have hm : Go.bits .and .i64 c 127 = c % 128 := and127 c hc0 hc1
      have hd := digit_bd (c % 128) x i hi9 hm0 hm1 hx hx'
      have hsh : shl .i64 (c % 128) (wrap64 (7 * (i : Int))) = c % 128 * pw i := shl7 _ i hi9 hd.1 hd.2.1
      have hor : Go.bits .or .i64 x (c % 128 * pw i) = x + c % 128 * pw i := or_low (7 * i) _ _ hx (by rw [pow27]; exact hx') hd.1 hd.2.1 (by rw [pow27]; exact Int.mul_emod_left _ _) hd.2.2.2.2.2.1
      by_cases hlt : c < 128
      · replace hgt : ¬ c > 127 := fun h => hgt.1 h hlt
        have hmc : c % 128 = c := hmc1 hlt
        by_cases hz : c = 0 ∧ 0 < i
        · have hz2 : (i : Int) > 0 := (natpos i).2 hz.2
          refine Ev.step (f := fun _ => some (0, 0, false)) (fun k => ?_) (Evto ?_ (Ev.now _))
          · rw [impl_GetNum.j1, if_pos rfl, hbase, if_pos hi0, if_pos hi1, if_pos h7, hrd, hcc, if_neg hgt, if_pos hz2, if_pos hz.1]
          · rw [gnum, if_pos hlt, if_pos hz]; rfl
        · refine Ev.step (f := fun _ => some (x + c * pw i, (a : Int) + ((i + 1 : Nat) : Int), true)) (fun k => ?_) (Evto ?_ (Ev.now _))
          · rw [impl_GetNum.j1, if_pos rfl, hbase, if_pos hi0, if_pos hi1, if_pos h7, hrd, hcc, if_neg hgt, hm, hsh, hor, hn, hmc]
            by_cases h0 : (i : Int) > 0
            · rw [if_pos h0, if_neg (fun hh => hz ⟨hh, (natpos i).1 h0⟩)]
            · rw [if_neg h0]
          · rw [gnum, if_pos hlt, if_neg hz]; rfl
      · replace hgt : c > 127 := hgt.2 hlt
        have hmc : c % 128 = c - 128 := hmc2 hlt
        rw [hmc] at hd hsh hor
        have hx1 : 0 ≤ x + (c - 128) * pw i := hd.2.2.1
        have hx2 : x + (c - 128) * pw i < pw (i + 1) := hd.2.2.2.1
        refine Ev.step (f := fun k => impl_GetNum.l0 k b (a : Int) (x + (c - 128) * pw i) ((i + 1 : Nat) : Int)) (fun k => ?_) (Evto ?_ (ih (i + 1) _ hx3 hx1 hx2))
        · rw [impl_GetNum.j1, if_pos rfl, hbase, if_pos hi0, if_pos hi1, if_pos h7, hrd, hcc, if_pos hgt, hm, hmc, hsh, hor, hws]
        · rw [gnum, if_neg hlt]; rfl
    · refine Ev.step (f := fun k => impl_GetNum.j1 k b (a : Int) x (i : Int) false) (fun k => ?_) (Ev.step (f := fun _ => some (0, 0, false)) (fun k => ?_) (Evto ?_ (Ev.now _)))
      · rw [impl_GetNum.l0, if_pos (by omega), hsub, decide_eq_false (by omega)]
      · rw [impl_GetNum.j1, if_neg (by decide)]
      · rw [List.drop_eq_nil_of_le (by omega)]; rfl
theorem impl_GetNum_f (b : List Int) (hb : b.length < 4611686018427387904) (hw : ∀ x ∈ b, (Lit.int .u8 x).wf = true) (at_ : Int) (hat : (Lit.int .i64 at_).wf = true) : Ev (fun k => impl_GetNum.f k b at_) (getNum b at_) := by
  have hbd := wf64 hat
  by_cases h0 : at_ < 0
  · refine Ev.congr (f := fun _ => some (0, 0, false)) (fun k => by rw [impl_GetNum.f, if_pos h0]) (Evto ?_ (Ev.now _))
    rw [getNum, if_pos h0]
  · obtain ⟨a, rfl⟩ := Int.eq_ofNat_of_zero_le (show 0 ≤ at_ by omega)
    rw [getNum, if_neg h0, Int.toNat_natCast]
    refine Ev.congr (f := fun k => impl_GetNum.l0 k b (a : Int) 0 ((0 : Nat) : Int)) (fun k => by rw [impl_GetNum.f, if_neg h0]; rfl) ?_
    exact impl_GetNum_l0 b hb hw a (by omega) 9 0 0 (by omega) (by omega) (by rw [pw_zero]; decide)

/-! gtextm -/
theorem gnum_bd (d : Nat) : ∀ (l : List Int) (i : Nat) (x : Int), i + d = 9 → 0 ≤ x → x < pw i → (∀ c ∈ l, (Lit.int .u8 c).wf = true) → ∀ v m, gnum d l i x = some (v, m) → 0 ≤ v ∧ v < 9223372036854775808 ∧ m ≤ i + l.length := by
  induction d with
  | zero => intro l i x _ _ _ _ v m h; rw [gnum] at h; exact absurd h (by simp)
  | succ d ih =>
    intro l i x hi hx hx' hw v m h
    match l, hw, h with
    | [], _, h => rw [gnum] at h; exact absurd h (by simp)
    | c :: t, hw, h =>
      have hc := wf8 (hw c (by simp))
      rw [gnum] at h
      by_cases h1 : c < 128
      · rw [if_pos h1] at h
        by_cases h2 : c = 0 ∧ 0 < i
        · rw [if_pos h2] at h; exact absurd h (by simp)
        · rw [if_neg h2] at h
          simp only [Option.some.injEq, Prod.mk.injEq] at h
          obtain ⟨rfl, rfl⟩ := h
          have hb := digit_bd c x i (by omega) (by omega) (by omega) hx hx'
          refine ⟨hb.2.2.1, hb.2.2.2.2.1, ?_⟩
          rw [List.length_cons]; omega
      · rw [if_neg h1] at h
        have hb := digit_bd (c - 128) x i (by omega) (by omega) (by omega) hx hx'
        have := ih t (i + 1) (x + (c - 128) * pw i) (by omega) hb.2.2.1 hb.2.2.2.1 (fun q hq => hw q (by simp [hq])) v m h
        refine ⟨this.1, this.2.1, ?_⟩
        rw [List.length_cons]; have := this.2.2; omega
theorem getNum_bd (b : List Int) (hw : ∀ c ∈ b, (Lit.int .u8 c).wf = true) (at_ : Int) (n p : Int) (h : getNum b at_ = (n, p, true)) : 0 ≤ n ∧ n < 9223372036854775808 ∧ 0 ≤ at_ ∧ at_ ≤ p ∧ p ≤ b.length := by
  unfold getNum at h
  by_cases h0 : at_ < 0
  · rw [if_pos h0] at h; exact absurd h (by simp)
  · rw [if_neg h0] at h
    cases hg : gnum 9 (b.drop at_.toNat) 0 0 with
    | none => rw [hg] at h; exact absurd h (by simp [numOut])
    | some q =>
      obtain ⟨v, m⟩ := q
      rw [hg] at h
      simp only [numOut, Prod.mk.injEq, and_true] at h
      obtain ⟨rfl, rfl⟩ := h
      have := gnum_bd 9 (b.drop at_.toNat) 0 0 (by omega) (by omega) (by rw [pw_zero]; decide) (fun c hc => hw c (List.mem_of_mem_drop hc)) v m hg
      have h3 := this.2.2
      rw [List.length_drop] at h3
      refine ⟨this.1, this.2.1, by omega, by omega, ?_⟩
      by_cases hl : at_.toNat ≤ b.length
      · omega
      · rw [List.drop_eq_nil_of_le (by omega)] at hg; rw [gnum] at hg; exact absurd hg (by simp)
def getText (b : List Int) (at_ : Int) : ByteArray × Int × Bool := match getNum b at_ with
  | (n, p, true) => if n > (b.length : Int) - p then (⟨#[]⟩, 0, false) else (strOfNums ((b.take (p + n).toNat).drop p.toNat), p + n, true)
  | (_, _, false) => (⟨#[]⟩, 0, false)

/-! ireadtext -/
def numS (b : List Int) (at_ : Int) (bad : Bool) : Int × Int × Bool := if bad = true then (0, at_, true) else match getNum b at_ with
  | (n, p, true) => (n, p, false)
  | (_, _, false) => (0, at_, true)
theorem impl_reader_num_f (b : List Int) (hb : b.length ≤ 1048576) (hw : ∀ x ∈ b, (Lit.int .u8 x).wf = true) (at_ : Int) (hat : (Lit.int .i64 at_).wf = true) (bad : Bool) : Ev (fun k => impl_reader_num.f k b at_ bad) (numS b at_ bad) := by
  unfold impl_reader_num.f numS
  refine Evbind (impl_GetNum_f b (by omega) hw at_ hat) ?_
  cases bad with
  | true => exact Evto rfl (Evpos rfl (Ev.now ((0, at_, true) : Int × Int × Bool)))
  | false =>
    generalize getNum b at_ = R at *
    obtain ⟨n, p, ok⟩ := R
    cases ok with
    | false => exact Evto rfl (Evneg Bool.false_ne_true (Evneg Bool.false_ne_true (Ev.now ((0, at_, true) : Int × Int × Bool))))
    | true => exact Evto rfl (Evneg Bool.false_ne_true (Evpos rfl (Ev.now ((n, p, false) : Int × Int × Bool))))
theorem numS_bd (b : List Int) (hb : b.length ≤ 1048576) (hw : ∀ x ∈ b, (Lit.int .u8 x).wf = true) (at_ : Int) (bad : Bool) (n p : Int) (h : numS b at_ bad = (n, p, false)) : bad = false ∧ 0 ≤ n ∧ n < 9223372036854775808 ∧ 0 ≤ at_ ∧ at_ ≤ p ∧ p ≤ b.length ∧ getNum b at_ = (n, p, true) := by
  unfold numS at h
  cases bad with
  | true => rw [if_pos rfl] at h; exact absurd h (by simp)
  | false =>
    rw [if_neg Bool.false_ne_true] at h
    have hbd := getNum_bd b hw at_
    generalize getNum b at_ = R at *
    obtain ⟨n', p', ok⟩ := R
    cases ok with
    | false => exact absurd h (by simp)
    | true =>
      simp only [Prod.mk.injEq, and_true] at h
      obtain ⟨rfl, rfl⟩ := h
      have := hbd n' p' rfl
      exact ⟨rfl, this.1, this.2.1, this.2.2.1, this.2.2.2.1, this.2.2.2.2, rfl⟩
def textS (b : List Int) (at_ : Int) (bad : Bool) : ByteArray × Int × Bool := match numS b at_ bad with
  | (_, p, true) => (⟨#[]⟩, p, true)
  | (n, p, false) => if n > (b.length : Int) - p then (⟨#[]⟩, p, true) else (strOfNums ((b.take (p + n).toNat).drop p.toNat), p + n, false)
theorem impl_reader_text_f (b : List Int) (hb : b.length ≤ 1048576) (hw : ∀ x ∈ b, (Lit.int .u8 x).wf = true) (at_ : Int) (hat : (Lit.int .i64 at_).wf = true) (bad : Bool) : Ev (fun k => impl_reader_text.f k b at_ bad) (textS b at_ bad) := by
  unfold impl_reader_text.f textS
  refine Evbind (impl_reader_num_f b hb hw at_ hat bad) ?_
  have hbd := numS_bd b hb hw at_ bad
  generalize numS b at_ bad = R at *
  obtain ⟨n, p, q⟩ := R
  cases q with
  | true => exact Evpos rfl (Ev.now _)
  | false =>
    have h := hbd n p rfl
    refine Evneg Bool.false_ne_true ?_
    have e1 : wrap64 ((b.length : Int) - p) = (b.length : Int) - p := w64 (by omega) (by omega)
    simp only [e1]
    by_cases c : n > (b.length : Int) - p
    · exact Evto (if_pos c).symm (Evpos c (Ev.now _))
    · have e2 : wrap64 (p + n) = p + n := w64 (by omega) (by omega)
      have e3 : wrap64 (p + n - n) = p := by rw [show p + n - n = p by omega]; exact w64 (by omega) (by omega)
      simp only [e2, e3]
      exact Evto (if_neg c).symm (Evneg c (Evpos (by omega) (Evpos (by omega) (Evpos (by omega) (Ev.now _)))))

/-! igtext -/
theorem impl_GetText_f (b : List Int) (hb : b.length ≤ 1048576) (hw : ∀ x ∈ b, (Lit.int .u8 x).wf = true) (at_ : Int) (hat : (Lit.int .i64 at_).wf = true) : Ev (fun k => impl_GetText.f k b at_) (getText b at_) := by
  unfold impl_GetText.f
  refine Evbind (impl_reader_text_f b hb hw at_ hat false) ?_
  unfold textS numS getText
  simp only [if_neg Bool.false_ne_true]
  generalize getNum b at_ = R at *
  obtain ⟨n, p, ok⟩ := R
  cases ok with
  | false => exact Evpos rfl (Ev.now _)
  | true =>
    by_cases c : n > (b.length : Int) - p
    · simp only [if_pos c]; exact Evto rfl (Evpos trivial (Ev.now ((⟨#[]⟩, 0, false) : ByteArray × Int × Bool)))
    · simp only [if_neg c]; exact Evneg Bool.false_ne_true (Ev.now _)

/-! pnumm -/
def pnum (x : Nat) : List Int := if 127 < x then ((x % 128 + 128 : Nat) : Int) :: pnum (x / 128) else [(x : Int)]
termination_by x
decreasing_by omega
def putNum (x : Int) : List Int := if x < 0 then [] else pnum x.toNat
theorem pnum_big (x : Nat) (h : 127 < x) : pnum x = ((x % 128 + 128 : Nat) : Int) :: pnum (x / 128) := by rw [pnum, if_pos h]
theorem pnum_small (x : Nat) (h : ¬ 127 < x) : pnum x = [(x : Int)] := by rw [pnum, if_neg h]
theorem pnum_bd (x : Nat) : ∀ c ∈ pnum x, 0 ≤ c ∧ c ≤ 255 := by
  induction x using Nat.strongRecOn with
  | ind x ih =>
    intro c hc
    by_cases h : 127 < x
    · rw [pnum_big x h] at hc
      rcases List.mem_cons.1 hc with rfl | hc
      · omega
      · exact ih (x / 128) (by omega) c hc
    · rw [pnum_small x h] at hc
      have := List.mem_singleton.1 hc
      omega
theorem pnum_len (d : Nat) : ∀ x : Nat, x < 128 ^ (d + 1) → 1 ≤ (pnum x).length ∧ (pnum x).length ≤ d + 1 := by
  induction d with
  | zero => intro x hx; rw [pnum_small x (by omega)]; simp
  | succ d ih =>
    intro x hx
    by_cases h : 127 < x
    · rw [pnum_big x h]
      have := ih (x / 128) (by rw [Nat.div_lt_iff_lt_mul (by decide)]; rw [Nat.pow_succ] at hx; exact hx)
      simp; omega
    · rw [pnum_small x h]; simp
theorem pnum_len9 (x : Nat) (h : x < 9223372036854775808) : 1 ≤ (pnum x).length ∧ (pnum x).length ≤ 9 := pnum_len 8 x (by rw [p1289]; exact h)
theorem putNum_len (x : Int) (h : x ≤ 9223372036854775807) : (putNum x).length ≤ 9 := by
  unfold putNum
  by_cases h0 : x < 0
  · rw [if_pos h0]; simp
  · rw [if_neg h0]; exact (pnum_len9 x.toNat (by omega)).2
theorem putNum_wf (x : Int) : ∀ c ∈ putNum x, (Lit.int .u8 c).wf = true := by
  intro c hc
  unfold putNum at hc
  have : 0 ≤ c ∧ c ≤ 255 := by
    by_cases h0 : x < 0
    · rw [if_pos h0] at hc; simp at hc
    · rw [if_neg h0] at hc; exact pnum_bd _ c hc
  exact wf_mk8 this.1 this.2

/-! ipnum -/
theorem impl_PutNum_l0 (d : Nat) : ∀ (x : Nat) (out : List Int), x < 128 ^ (d + 1) → x < 9223372036854775808 → out.length + d < 140737488355328 → Ev (fun k => impl_PutNum.l0 k (x : Int) out) (out ++ pnum x) := by
  induction d with
  | zero =>
    intro x out hx hx' hl
    have hs : (x : Int) % 256 = x := by omega
    refine Ev.step (f := fun _ => some (out ++ [(x : Int)])) (fun k => ?_) (Evto ?_ (Ev.now _))
    · rw [impl_PutNum.l0, if_neg (by omega), if_pos (by omega), hs]
    · rw [pnum_small x (by omega)]
  | succ d ih =>
    intro x out hx hx' hl
    by_cases h : 127 < x
    · refine Ev.step (f := fun k => impl_PutNum.l0 k ((x / 128 : Nat) : Int) (out ++ [((x % 128 + 128 : Nat) : Int)])) (fun k => ?_) (Evto ?_ (ih (x / 128) (out ++ [((x % 128 + 128 : Nat) : Int)]) (by rw [Nat.div_lt_iff_lt_mul (by decide)]; rw [Nat.pow_succ] at hx; exact hx) (by omega) (by simp; omega)))
      · have e1 : (x : Int) / 128 = ((x / 128 : Nat) : Int) := by omega
        have e2 : (Go.bits .or .i64 (Go.bits .and .i64 (x : Int) 127) 128) % 256 = ((x % 128 + 128 : Nat) : Int) := by
          rw [and127 _ (by omega) (by omega), or_low 7 _ 128 (by omega) (by rw [p27]; omega) (by decide) (by decide) (by decide) (by omega)]; omega
        rw [impl_PutNum.l0, if_pos (by omega), if_pos (by omega), e1, e2]
      · rw [pnum_big x h]; simp
    · have hs : (x : Int) % 256 = x := by omega
      refine Ev.step (f := fun _ => some (out ++ [(x : Int)])) (fun k => ?_) (Evto ?_ (Ev.now _))
      · rw [impl_PutNum.l0, if_neg (by omega), if_pos (by omega), hs]
      · rw [pnum_small x h]
theorem impl_PutNum_f (x : Int) (hx : x ≤ 9223372036854775807) : Ev (fun k => impl_PutNum.f k x) (putNum x) := by
  unfold putNum
  by_cases h0 : x < 0
  · rw [if_pos h0]
    exact Ev.congr (f := fun _ => some []) (fun k => by simp only [impl_PutNum.f, Option.bind_some]; rw [if_pos h0]) (Ev.now _)
  · rw [if_neg h0]
    obtain ⟨n, rfl⟩ := Int.eq_ofNat_of_zero_le (show 0 ≤ x by omega)
    exact Ev.congr (f := fun k => impl_PutNum.l0 k (n : Int) []) (fun k => by simp only [impl_PutNum.f, Option.bind_some]; rw [if_neg h0]) (impl_PutNum_l0 8 n [] (by rw [p1289]; omega) (by omega) (by simp))

/-! puttextm -/
def putText (s : ByteArray) : List Int := putNum (s.size : Int) ++ bytesOf s
theorem putText_len (s : ByteArray) (h : s.size ≤ 9223372036854775807) : (putText s).length ≤ 9 + s.size := by
  have := putNum_len (s.size : Int) (by omega)
  unfold putText
  rw [List.length_append, bytesOf_length]; omega

/-! iputtext -/
theorem impl_PutText_f (s : ByteArray) (h : s.size < 140737488355000) : Ev (fun k => impl_PutText.f k s) (putText s) := by
  have hl := putNum_len (s.size : Int) (by omega)
  unfold impl_PutText.f
  exact Evbind (impl_PutNum_f (s.size : Int) (by omega)) (Evpos (by omega) (Ev.now _))

/-! numback -/
theorem gnum_pnum (d : Nat) : ∀ (x i : Nat) (acc : Int) (rest : List Int), x < 128 ^ (d + 1) → (0 < i → 0 < x) → gnum (d + 1) (pnum x ++ rest) i acc = some (acc + (x : Int) * pw i, i + (pnum x).length) := by
  induction d with
  | zero =>
    intro x i acc rest hx hi
    have hx1 : x < 128 := by simpa using hx
    rw [pnum_small x (by omega), List.cons_append, gnum, if_pos (by omega), if_neg (by omega)]
    rfl
  | succ d ih =>
    intro x i acc rest hx hi
    by_cases h : 127 < x
    · have hp : x / 128 < 128 ^ (d + 1) := Nat.div_lt_of_lt_mul (by rw [Nat.pow_succ] at hx; rw [Nat.mul_comm]; exact hx)
      rw [pnum_big x h, List.cons_append, gnum, if_neg (by omega)]
      rw [ih (x / 128) (i + 1) _ rest hp (by omega), pw_succ, List.length_cons]
      have e : ((x % 128 + 128 : Nat) : Int) - 128 = ((x % 128 : Nat) : Int) := by omega
      have e2 : (x : Int) = ((x % 128 : Nat) : Int) + 128 * ((x / 128 : Nat) : Int) := by omega
      rw [e]
      generalize ((x % 128 : Nat) : Int) = r at *
      generalize ((x / 128 : Nat) : Int) = q at *
      rw [e2]
      refine congrArg some (Prod.ext ?_ (by show i + 1 + _ = i + (_ + 1); omega))
      show acc + r * pw i + q * (128 * pw i) = acc + (r + 128 * q) * pw i
      rw [Int.add_mul, ← Int.mul_assoc, Int.mul_comm q 128, Int.add_assoc]
    · rw [pnum_small x h, List.cons_append, gnum, if_pos (by omega), if_neg (by omega)]
      rfl
theorem getNum_put (pre rest : List Int) (x : Int) (h0 : 0 ≤ x) (h1 : x ≤ 9223372036854775807) : getNum (pre ++ (putNum x ++ rest)) (pre.length : Int) = (x, (pre.length : Int) + ((putNum x).length : Int), true) := by
  obtain ⟨n, rfl⟩ := Int.eq_ofNat_of_zero_le h0
  have e : putNum (n : Int) = pnum n := by rw [putNum, if_neg (by omega)]; rfl
  rw [getNum, if_neg (by omega), Int.toNat_natCast, List.drop_left, e, gnum_pnum 8 n 0 0 rest (by rw [p1289]; omega) (by omega)]
  simp [numOut, pw_zero]
theorem strOf_bytesOf (s : ByteArray) : strOfNums (bytesOf s) = s := by
  obtain ⟨⟨l⟩⟩ := s
  have e : ∀ b : UInt8, UInt8.ofNat ((b.toNat : Int)).toNat = b := fun b => by simp
  simp only [strOfNums, bytesOf, List.map_map, Function.comp_def, e, List.map_id']
theorem getText_put (pre rest : List Int) (s : ByteArray) (hs : s.size ≤ 1000000) : getText (pre ++ (putText s ++ rest)) (pre.length : Int) = (s, (pre.length : Int) + ((putText s).length : Int), true) := by
  have hl : (bytesOf s).length = s.size := bytesOf_length s
  have e : pre ++ (putText s ++ rest) = pre ++ (putNum (s.size : Int) ++ (bytesOf s ++ rest)) := by rw [putText, List.append_assoc]
  rw [e, getText, getNum_put pre _ (s.size : Int) (by omega) (by omega)]
  show (if _ then _ else _) = _
  rw [if_neg (by simp only [List.length_append, hl]; omega)]
  have e2 : putText s = putNum (s.size : Int) ++ bytesOf s := rfl
  refine Prod.ext ?_ (Prod.ext ?_ rfl)
  · show strOfNums _ = s
    have e3 : ((pre.length : Int) + ((putNum (s.size : Int)).length : Int) + (s.size : Int)).toNat = (pre ++ putNum (s.size : Int) ++ bytesOf s).length := by simp only [List.length_append, hl]; omega
    have e4 : ((pre.length : Int) + ((putNum (s.size : Int)).length : Int)).toNat = (pre ++ putNum (s.size : Int)).length := by simp only [List.length_append]; omega
    have e5 : pre ++ (putNum (s.size : Int) ++ (bytesOf s ++ rest)) = (pre ++ putNum (s.size : Int) ++ bytesOf s) ++ rest := by simp only [List.append_assoc]
    rw [e3, e4, e5, List.take_left, List.drop_left, strOf_bytesOf]
  · show (pre.length : Int) + ((putNum (s.size : Int)).length : Int) + (s.size : Int) = (pre.length : Int) + ((putText s).length : Int)
    rw [e2, List.length_append, hl]; omega

theorem at_f (b : List Int) (hb : b.length < 4611686018427387904) (hw : ∀ x ∈ b, (Lit.int .u8 x).wf = true) (i : Nat) (hi : i < 100) : ∃ x, laws_at.f b (i : Int) = some x := by
  unfold laws_at.f
  by_cases h : (i : Int) < b.length
  · rw [if_pos h, if_pos (by omega)]; exact ⟨_, rfl⟩
  · rw [if_neg h]; exact ⟨_, rfl⟩
theorem mod8 (x : Int) : (Lit.int .u8 (x % 256)).wf = true := wf_mk8 (by omega) (by omega)
theorem putText_wf (s : ByteArray) : ∀ c ∈ putText s, (Lit.int .u8 c).wf = true := by
  intro c hc
  rcases List.mem_append.1 hc with h | h
  · exact putNum_wf _ c h
  · obtain ⟨u, _, rfl⟩ := List.mem_map.1 h
    have := u.toNat_lt
    exact wf_mk8 (by omega) (by omega)
theorem FnNums (l0 : List Int) (hl0 : l0.length ≤ maxLen ∧ ∀ x ∈ l0, (Lit.int .u8 x).wf = true) : ∃ k, laws_FnNums.f k l0 = some true := by
  refine Ev.rounds (g := fun k => laws_FnNums.f k l0) ?_
  unfold laws_FnNums.f laws_big.f
  simp only [Option.bind_some]
  by_cases hbig : (l0.length : Int) > 1048576
  · exact Evpos (decide_eq_true hbig) (Ev.now _)
  refine Evneg (by simpa using hbig) ?_
  have hb : l0.length < 4611686018427387904 := by omega
  obtain ⟨x, ex, hx⟩ := DrawPutNum_f l0 hb
  obtain ⟨s, es, hs⟩ := DrawPutText_f l0 hb
  obtain ⟨c1, hc1⟩ := at_f l0 hb hl0.2 1 (by omega)
  obtain ⟨c2, hc2⟩ := at_f l0 hb hl0.2 2 (by omega)
  have hpl := putNum_len x hx
  have htl := putText_len s (by omega)
  refine Evbind ex (Evbind (impl_PutNum_f x hx) ?_)
  by_cases hneg : x < 0
  · refine Evpos hneg (Evto ?_ (Ev.now _))
    rw [putNum, if_pos hneg]; rfl
  refine Evneg hneg (Evpos (by rw [List.length_singleton]; omega) (Evbind (Evconst hc1) (Evpos (by rw [List.length_append, List.length_singleton]; omega) ?_)))
  have eb : [9] ++ putNum x ++ [c1 % 256] = [9] ++ (putNum x ++ [c1 % 256]) := by rw [List.append_assoc]
  have hw1 : ∀ c ∈ [9] ++ putNum x ++ [c1 % 256], (Lit.int .u8 c).wf = true := by
    intro c hc
    rw [eb] at hc
    rcases List.mem_append.1 hc with h | h
    · rw [List.mem_singleton.1 h]; decide
    · rcases List.mem_append.1 h with h | h
      · exact putNum_wf x c h
      · rw [List.mem_singleton.1 h]; exact mod8 _
  have hg := impl_GetNum_f ([9] ++ putNum x ++ [c1 % 256]) (by simp only [List.length_append, List.length_singleton]; omega) hw1 1 (by decide)
  have hgv : getNum ([9] ++ putNum x ++ [c1 % 256]) 1 = (x, 1 + ((putNum x).length : Int), true) := by rw [eb]; exact getNum_put [9] [c1 % 256] x (by omega) hx
  rw [hgv] at hg
  refine Evbind hg (Evbind es (Evbind (impl_PutText_f s (by omega)) (Evpos (by rw [List.length_nil]; omega) (Evbind (Evconst hc2) (Evpos (by rw [List.length_append, List.length_nil]; omega) ?_)))))
  have eb2 : [] ++ putText s ++ [c2 % 256] = [] ++ (putText s ++ [c2 % 256]) := by rw [List.append_assoc]
  have hw2 : ∀ c ∈ [] ++ putText s ++ [c2 % 256], (Lit.int .u8 c).wf = true := by
    intro c hc
    rw [List.nil_append] at hc
    rcases List.mem_append.1 hc with h | h
    · exact putText_wf s c h
    · rw [List.mem_singleton.1 h]; exact mod8 _
  have ht := impl_GetText_f ([] ++ putText s ++ [c2 % 256]) (by simp only [List.length_append, List.length_singleton, List.length_nil]; omega) hw2 0 (by decide)
  have htv : getText ([] ++ putText s ++ [c2 % 256]) 0 = (s, ((putText s).length : Int), true) := by
    rw [eb2]
    have := getText_put [] [c2 % 256] s (by omega)
    simpa using this
  rw [htv] at ht
  have ew : wrap64 (1 + ((putNum x).length : Int)) = 1 + ((putNum x).length : Int) := w64 (by omega) (by omega)
  refine Evbind ht (Evpos rfl (Evpos rfl (Evpos ew.symm (Evpos rfl (Evpos rfl (Evto ?_ (Ev.now _)))))))
  simp

end Go.Proofs.Ytgmfpfmpnlgidaa.Pure
