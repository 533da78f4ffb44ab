/- The program's EntryRead and the reference's answer alike at all bytes and places, and leave the bytes alone. Conditions: none beyond the given statement. -/
import Derived.Test.YtgmfpfmpnlgidaaMFnExactEntryReadx4
import Derived.OpenShut
import Derived.Laws.BitsLemmas
namespace Go.Proofs.Ytgmfpfmpnlgidaa.Pure
open Go.RowKit Go.Proofs.Ytgmfpfmpnlgidaa.PFnExactEntryRead Go.Proofs.YtgmfpfmpnlgidaaW.PrintWords Go.Proofs.YtgmfpfmpnlgidaaW.PrintLast Go.Proofs.YtgmfpfmpnlgidaaW.PrintMore
set_option linter.unusedVariables false
set_option linter.unusedSimpArgs false
/-! base -/
theorem w64 {n : Int} (h : -9223372036854775808 ≤ n) (h2 : n ≤ 9223372036854775807) : wrap64 n = n := by unfold wrap64; omega
theorem wsucc (i : Nat) (h : i < 4611686018427387904) : wrap64 ((i : Int) + 1) = ((i + 1 : Nat) : Int) := by unfold wrap64; omega
theorem wf64 {n : Int} (h : (Lit.int .i64 n).wf = true) : -9223372036854775808 ≤ n ∧ n ≤ 9223372036854775807 := bounds_i64 h
theorem Evpos {α : Type} {c : Prop} [Decidable c] {a b : Nat → Option α} {r : α} (h : c) (e : Ev a r) : Ev (fun k => if c then a k else b k) r := Ev.congr (fun _ => if_pos h) e
theorem Evneg {α : Type} {c : Prop} [Decidable c] {a b : Nat → Option α} {r : α} (h : ¬ c) (e : Ev b r) : Ev (fun k => if c then a k else b k) r := Ev.congr (fun _ => if_neg h) e
theorem Evsome {α β : Type} {a : α} {f : Nat → α → Option β} {r : β} (e : Ev (fun k => f k a) r) : Ev (fun k => (some a).bind (f k)) r := e
theorem Evbind {α β : Type} {g : Nat → Option α} {f : Nat → α → Option β} {a : α} {r : β} (h : Ev g a) (e : Ev (fun n => f n a) r) : Ev (fun n => (g n).bind (f n)) r := Ev.bind h e
theorem Evconst {α : Type} {g : Option α} {r : α} (h : g = some r) : Ev (fun _ => g) r := ⟨0, fun _ _ => h⟩
theorem Evto {α : Type} {g : Nat → Option α} {r r' : α} (h : r = r') (e : Ev g r) : Ev g r' := h ▸ e
theorem rd_nat (xs : List Int) (i : Nat) : rd xs (i : Int) = xs.getD i 0 := by simp [rd]
theorem getD_get (xs : List Int) (i : Nat) (h : i < xs.length) : xs.getD i 0 = xs[i] := by simp [List.getD_eq_getElem?_getD, List.getElem?_eq_getElem h]
theorem get_getD (xs : List Int) (i : Nat) (h : i < xs.length) : xs[i]? = some (xs.getD i 0) := by simp [List.getD_eq_getElem?_getD, List.getElem?_eq_getElem h]
theorem wf_getD {kd : IntKind} (xs : List Int) (hw : ∀ x ∈ xs, (Lit.int kd x).wf = true) (i : Nat) (h : i < xs.length) : (Lit.int kd (xs.getD i 0)).wf = true := by
  rw [getD_get xs i h]; exact hw _ (List.getElem_mem h)
theorem wf_iff (k : IntKind) (n : Int) : (Lit.int k n).wf = true ↔ k.min ≤ n ∧ n ≤ k.max := by simp [Lit.wf]
theorem wf8 {n : Int} (h : (Lit.int .u8 n).wf = true) : 0 ≤ n ∧ n ≤ 255 := by
  have := (wf_iff .u8 n).1 h
  simpa [IntKind.min, IntKind.max, IntKind.bits, IntKind.signed] using this
theorem wf_mk8 {n : Int} (h : 0 ≤ n) (h2 : n ≤ 255) : (Lit.int .u8 n).wf = true :=
  (wf_iff .u8 n).2 (by simp [IntKind.min, IntKind.max, IntKind.bits, IntKind.signed]; omega)
theorem wf_mk64 {n : Int} (h : -9223372036854775808 ≤ n) (h2 : n ≤ 9223372036854775807) : (Lit.int .i64 n).wf = true :=
  (wf_iff .i64 n).2 (by simp [IntKind.min, IntKind.max, IntKind.bits, IntKind.signed]; omega)
theorem drop_at (b : List Int) (j : Nat) (h : j < b.length) : b.drop j = b.getD j 0 :: b.drop (j + 1) := by
  rw [List.drop_eq_getElem_cons h, getD_get b j h]
theorem p63 : (2 : Int) ^ 63 = 9223372036854775808 := by decide
theorem p1289 : (128 : Nat) ^ 9 = 9223372036854775808 := by decide
theorem p27 : (2 : Int) ^ 7 = 128 := by decide
theorem natpos (i : Nat) : ((i : Int) > 0) ↔ 0 < i := by omega

/-! bits -/
theorem wraps63 (n : Int) (h₀ : 0 ≤ n) (h₁ : n < 2 ^ 63) : IntKind.i64.wrap n = n := by
  have e := p63
  rw [IntKind.wrap_i64]; omega
theorem and127 (x : Int) (h0 : 0 ≤ x) (h1 : x < 9223372036854775808) : Go.bits .and .i64 x 127 = x % 128 :=
  bits_mask .i64 63 (by decide) wraps63 7 (by decide) x h0 (by rw [p63]; exact h1)
theorem and1 (x : Int) (h0 : 0 ≤ x) (h1 : x < 9223372036854775808) : Go.bits .and .i64 x 1 = x % 2 :=
  bits_mask .i64 63 (by decide) wraps63 1 (by decide) x h0 (by rw [p63]; exact h1)
theorem or_comm64 (x y : Int) : Go.bits .or .i64 x y = Go.bits .or .i64 y x := by
  unfold Go.bits; simp only []; rw [BitVec.or_comm]
theorem or_low (i : Nat) (x z : Int) (hx : 0 ≤ x) (hx' : x < 2 ^ i) (hz : 0 ≤ z) (hz' : z < 9223372036854775808) (hm : z % 2 ^ i = 0) (hx2 : x < 9223372036854775808) : Go.bits .or .i64 x z = x + z := by
  have e := p63
  rw [or_comm64, bits_join .i64 63 (by decide) wraps63 i z x hz hm (by omega) hx hx' (by omega)]; omega

/-! specin -/
theorem spec_l1In_f (a b c : Int) : spec_l1In.f a b c = some (decide (b ≤ a ∧ a ≤ c)) := by
  unfold spec_l1In.f
  by_cases h : a ≥ b
  · rw [if_pos h]; congr 1; exact decide_eq_decide.2 (by omega)
  · rw [if_neg h]; congr 1; symm; exact decide_eq_false (by omega)

/-! within -/
theorem impl_within_f (a b c : Int) : impl_within.f a b c = some (decide (b ≤ a ∧ a ≤ c)) := by
  unfold impl_within.f
  by_cases h : a ≥ b
  · rw [if_pos h]; congr 1; exact decide_eq_decide.2 (by omega)
  · rw [if_neg h]; congr 1; symm; exact decide_eq_false (by omega)

/-! isep -/
theorem impl_isEpoch_f (a : Int) : impl_isEpoch.f a = some (decide (1 ≤ a ∧ a ≤ 30)) := by
  unfold impl_isEpoch.f; rw [impl_within_f]; rfl
theorem impl_isOff_f (a : Int) : impl_isOff.f a = some (decide (1 ≤ a ∧ a ≤ 60)) := by
  unfold impl_isOff.f; rw [impl_within_f]; rfl

/-! gnumm -/
def pw (i : Nat) : Int := 128 ^ i
def gnum : Nat → List Int → Nat → Int → Option (Int × Nat)
  | 0, _, _, _ => none
  | _ + 1, [], _, _ => none
  | d + 1, c :: t, i, x => if c < 128 then (if c = 0 ∧ 0 < i then none else some (x + c * pw i, i + 1)) else gnum d t (i + 1) (x + (c - 128) * pw i)
def numOut (at_ : Int) (o : Option (Int × Nat)) : Int × Int × Bool := match o with
  | none => (0, 0, false)
  | some (x, m) => (x, at_ + (m : Int), true)
def getNum (b : List Int) (at_ : Int) : Int × Int × Bool := if at_ < 0 then (0, 0, false) else numOut at_ (gnum 9 (b.drop at_.toNat) 0 0)
theorem pw_succ (i : Nat) : pw (i + 1) = 128 * pw i := by unfold pw; rw [Int.pow_succ, Int.mul_comm]
theorem pw_zero : pw 0 = 1 := rfl
theorem pw_pos (i : Nat) : 1 ≤ pw i := by
  induction i with
  | zero => rw [pw_zero]; decide
  | succ i ih => rw [pw_succ]; omega
theorem pw_le9 (d : Nat) : ∀ i, i + d = 9 → pw i * 1 ≤ 9223372036854775808 := by
  induction d with
  | zero => intro i hi; obtain rfl : i = 9 := by omega
            decide
  | succ d ih => intro i hi; have := ih (i + 1) (by omega); rw [pw_succ] at this; have := pw_pos i; omega
theorem digit_bd (c x : Int) (i : Nat) (hi : i < 9) (hc : 0 ≤ c) (hc' : c ≤ 127) (hx : 0 ≤ x) (hx' : x < pw i) : 0 ≤ c * pw i ∧ c * pw i < 9223372036854775808 ∧ 0 ≤ x + c * pw i ∧ x + c * pw i < pw (i + 1) ∧ x + c * pw i < 9223372036854775808 ∧ x < 9223372036854775808 ∧ pw i ≤ 9223372036854775807 := by
  have p := pw_pos i
  have e := pw_succ i
  have h1 : 0 ≤ c * pw i := Int.mul_nonneg hc (by omega)
  have h2 : c * pw i ≤ 127 * pw i := Int.mul_le_mul_of_nonneg_right hc' (by omega)
  have h3 := pw_le9 (8 - i) (i + 1) (by omega)
  generalize c * pw i = z at *
  omega

/-! sgnum -/
theorem spec_GetNum_l0 (b : List Int) (hb : b.length < 4611686018427387904) (hw : ∀ x ∈ b, (Lit.int .u8 x).wf = true) (a : Nat) (ha : a ≤ b.length) (d : Nat) : ∀ (i : Nat) (x : Int), i + d = 9 → 0 ≤ x → x < pw i →
    Ev (fun k => spec_GetNum.l0 k b (a : Int) x (wrap64 (pw i)) (i : Int)) (numOut a (gnum d (b.drop (a + i)) i x)) := by
  induction d with
  | zero =>
    intro i x hi hx hx'
    refine Ev.step (f := fun k => spec_GetNum.j2 k b (a : Int) x (wrap64 (pw i)) (i : Int) false) (fun k => ?_) (Ev.step (f := fun _ => some (0, 0, false)) (fun k => ?_) (Ev.now _))
    · rw [spec_GetNum.l0, if_neg (by omega)]
    · rw [spec_GetNum.j2, if_neg (by decide)]
  | succ d ih =>
    intro i x hi hx hx'
    have hws : wrap64 ((i : Int) + 1) = ((i + 1 : Nat) : Int) := wsucc i (by omega)
    have hbase : wrap64 ((a : Int) + i) = ((a + i : Nat) : Int) := by rw [w64 (by omega) (by omega)]; omega
    by_cases hj : a + i < b.length
    · have hc := wf8 (wf_getD b hw (a + i) hj)
      rw [drop_at b (a + i) hj]
      generalize hcv : b.getD (a + i) 0 = c at *
      have hi0 : (0 : Int) ≤ ((a + i : Nat) : Int) := by omega
      have hi1 : ((a + i : Nat) : Int) < (b.length : Int) := by omega
      have hcc : wrap64 c = c := w64 (by omega) (by omega)
      have hrd : rd b ((a + i : Nat) : Int) = c := by rw [rd_nat, hcv]
      refine Ev.step (f := fun k => spec_GetNum.j2 k b (a : Int) x (wrap64 (pw i)) (i : Int) true) (fun k => ?_) ?_
      · rw [spec_GetNum.l0, if_pos (by omega), hbase, decide_eq_true (by omega)]
      by_cases hlt : c < 128
      · have hn : wrap64 (((a + i : Nat) : Int) + 1) = (a : Int) + ((i + 1 : Nat) : Int) := by rw [w64 (by omega) (by omega)]; omega
        have hm : Int.tmod c 128 = c := by rw [Int.tmod_eq_emod_of_nonneg (by omega)]; omega
        have hpp := pw_pos i
        have hd := digit_bd c x i (by omega) (by omega) (by omega) hx hx'
        have hu : wrap64 (pw i) = pw i := w64 (by omega) hd.2.2.2.2.2.2
        have hp : wrap64 (c * pw i) = c * pw i := w64 (by omega) (by omega)
        have hs : wrap64 (x + c * pw i) = x + c * pw i := w64 (by omega) (by omega)
        by_cases hz : c = 0 ∧ 0 < i
        · have hz2 : (i : Int) > 0 := (natpos i).2 hz.2
          refine Ev.step (f := fun _ => some (0, 0, false)) (fun k => ?_) (Evto ?_ (Ev.now _))
          · rw [spec_GetNum.j2, if_pos rfl, hbase, if_pos hi0, if_pos hi1, hrd, hcc, if_pos hlt, if_pos hz.1, if_pos hz2]
          · rw [gnum, if_pos hlt, if_pos hz]; rfl
        · refine Ev.step (f := fun _ => some (x + c * pw i, (a : Int) + ((i + 1 : Nat) : Int), true)) (fun k => ?_) (Evto ?_ (Ev.now _))
          · rw [spec_GetNum.j2, if_pos rfl, hbase, if_pos hi0, if_pos hi1, hrd, hcc, if_pos hlt, hm, hu, hp, hs, hn]
            by_cases h0 : c = 0
            · rw [if_pos h0, if_neg (fun hh => hz ⟨h0, (natpos i).1 hh⟩)]
            · rw [if_neg h0]
          · rw [gnum, if_pos hlt, if_neg hz]; rfl
      · have hm : Int.tmod c 128 = c - 128 := by rw [Int.tmod_eq_emod_of_nonneg (by omega)]; omega
        have hpp := pw_pos i
        have hd := digit_bd (c - 128) x i (by omega) (by omega) (by omega) hx hx'
        have hq : pw i * 128 = pw (i + 1) := by rw [pw_succ, Int.mul_comm]
        have hx1 : 0 ≤ x + (c - 128) * pw i := hd.2.2.1
        have hx2 : x + (c - 128) * pw i < pw (i + 1) := hd.2.2.2.1
        have hx3 : i + 1 + d = 9 := by omega
        have hu : wrap64 (pw i) = pw i := w64 (by omega) hd.2.2.2.2.2.2
        have hp : wrap64 ((c - 128) * pw i) = (c - 128) * pw i := w64 (by omega) (by omega)
        have hs : wrap64 (x + (c - 128) * pw i) = x + (c - 128) * pw i := w64 (by omega) (by omega)
        refine Ev.step (f := fun k => spec_GetNum.l0 k b (a : Int) (x + (c - 128) * pw i) (wrap64 (pw (i + 1))) ((i + 1 : Nat) : Int)) (fun k => ?_) (Evto ?_ (ih (i + 1) _ hx3 hx1 hx2))
        · rw [spec_GetNum.j2, if_pos rfl, hbase, if_pos hi0, if_pos hi1, hrd, hcc, if_neg hlt, hm, hu, hp, hs, hq, hws]
        · rw [gnum, if_neg hlt]; rfl
    · refine Ev.step (f := fun k => spec_GetNum.j2 k b (a : Int) x (wrap64 (pw i)) (i : Int) false) (fun k => ?_) (Ev.step (f := fun _ => some (0, 0, false)) (fun k => ?_) (Evto ?_ (Ev.now _)))
      · rw [spec_GetNum.l0, if_pos (by omega), hbase, decide_eq_false (by omega)]
      · rw [spec_GetNum.j2, if_neg (by decide)]
      · rw [List.drop_eq_nil_of_le (by omega)]; rfl
theorem spec_GetNum_f (b : List Int) (hb : b.length < 4611686018427387904) (hw : ∀ x ∈ b, (Lit.int .u8 x).wf = true) (at_ : Int) : Ev (fun k => spec_GetNum.f k b at_) (getNum b at_) := by
  by_cases h0 : at_ < 0
  · refine Ev.congr (f := fun k => spec_GetNum.j0 k b at_ true) (fun k => by rw [spec_GetNum.f, if_pos h0]) (Ev.step (f := fun _ => some (0, 0, false)) (fun k => by rw [spec_GetNum.j0, if_pos rfl]) (Evto ?_ (Ev.now _)))
    rw [getNum, if_pos h0]
  · obtain ⟨a, rfl⟩ := Int.eq_ofNat_of_zero_le (show 0 ≤ at_ by omega)
    rw [getNum, if_neg h0, Int.toNat_natCast]
    by_cases h1 : a < b.length
    · refine Ev.congr (f := fun k => spec_GetNum.j0 k b (a : Int) false) (fun k => by rw [spec_GetNum.f, if_neg h0, decide_eq_false (by omega)]) (Ev.step (f := fun k => spec_GetNum.l0 k b (a : Int) 0 (wrap64 (pw 0)) ((0 : Nat) : Int)) (fun k => by rw [spec_GetNum.j0, if_neg (by decide), show wrap64 (pw 0) = 1 from by rw [pw_zero]; exact w64 (by decide) (by decide)]; rfl) ?_)
      exact spec_GetNum_l0 b hb hw a (by omega) 9 0 0 (by omega) (by omega) (by rw [pw_zero]; decide)
    · refine Ev.congr (f := fun k => spec_GetNum.j0 k b (a : Int) true) (fun k => by rw [spec_GetNum.f, if_neg h0, decide_eq_true (by omega)]) (Ev.step (f := fun _ => some (0, 0, false)) (fun k => by rw [spec_GetNum.j0, if_pos rfl]) (Evto ?_ (Ev.now _)))
      rw [List.drop_eq_nil_of_le (by omega)]; rfl

/-! gtextm -/
theorem gnum_bd (d : Nat) : ∀ (l : List Int) (i : Nat) (x : Int), i + d = 9 → 0 ≤ x → x < pw i → (∀ c ∈ l, (Lit.int .u8 c).wf = true) → ∀ v m, gnum d l i x = some (v, m) → 0 ≤ v ∧ v < 9223372036854775808 ∧ m ≤ i + l.length := by
  induction d with
  | zero => intro l i x _ _ _ _ v m h; rw [gnum] at h; exact absurd h (by simp)
  | succ d ih =>
    intro l i x hi hx hx' hw v m h
    match l, hw, h with
    | [], _, h => rw [gnum] at h; exact absurd h (by simp)
    | c :: t, hw, h =>
      have hc := wf8 (hw c (by simp))
      rw [gnum] at h
      by_cases h1 : c < 128
      · rw [if_pos h1] at h
        by_cases h2 : c = 0 ∧ 0 < i
        · rw [if_pos h2] at h; exact absurd h (by simp)
        · rw [if_neg h2] at h
          simp only [Option.some.injEq, Prod.mk.injEq] at h
          obtain ⟨rfl, rfl⟩ := h
          have hb := digit_bd c x i (by omega) (by omega) (by omega) hx hx'
          refine ⟨hb.2.2.1, hb.2.2.2.2.1, ?_⟩
          rw [List.length_cons]; omega
      · rw [if_neg h1] at h
        have hb := digit_bd (c - 128) x i (by omega) (by omega) (by omega) hx hx'
        have := ih t (i + 1) (x + (c - 128) * pw i) (by omega) hb.2.2.1 hb.2.2.2.1 (fun q hq => hw q (by simp [hq])) v m h
        refine ⟨this.1, this.2.1, ?_⟩
        rw [List.length_cons]; have := this.2.2; omega
theorem getNum_bd (b : List Int) (hw : ∀ c ∈ b, (Lit.int .u8 c).wf = true) (at_ : Int) (n p : Int) (h : getNum b at_ = (n, p, true)) : 0 ≤ n ∧ n < 9223372036854775808 ∧ 0 ≤ at_ ∧ at_ ≤ p ∧ p ≤ b.length := by
  unfold getNum at h
  by_cases h0 : at_ < 0
  · rw [if_pos h0] at h; exact absurd h (by simp)
  · rw [if_neg h0] at h
    cases hg : gnum 9 (b.drop at_.toNat) 0 0 with
    | none => rw [hg] at h; exact absurd h (by simp [numOut])
    | some q =>
      obtain ⟨v, m⟩ := q
      rw [hg] at h
      simp only [numOut, Prod.mk.injEq, and_true] at h
      obtain ⟨rfl, rfl⟩ := h
      have := gnum_bd 9 (b.drop at_.toNat) 0 0 (by omega) (by omega) (by rw [pw_zero]; decide) (fun c hc => hw c (List.mem_of_mem_drop hc)) v m hg
      have h3 := this.2.2
      rw [List.length_drop] at h3
      refine ⟨this.1, this.2.1, by omega, by omega, ?_⟩
      by_cases hl : at_.toNat ≤ b.length
      · omega
      · rw [List.drop_eq_nil_of_le (by omega)] at hg; rw [gnum] at hg; exact absurd hg (by simp)
def getText (b : List Int) (at_ : Int) : ByteArray × Int × Bool := match getNum b at_ with
  | (n, p, true) => if n > (b.length : Int) - p then (⟨#[]⟩, 0, false) else (strOfNums ((b.take (p + n).toNat).drop p.toNat), p + n, true)
  | (_, _, false) => (⟨#[]⟩, 0, false)

/-! sgtext -/
theorem spec_GetText_f (b : List Int) (hb : b.length ≤ 1048576) (hw : ∀ x ∈ b, (Lit.int .u8 x).wf = true) (at_ : Int) : Ev (fun k => spec_GetText.f k b at_) (getText b at_) := by
  unfold spec_GetText.f getText
  refine Evbind (spec_GetNum_f b (by omega) hw at_) ?_
  have hbd := getNum_bd b hw at_
  generalize getNum b at_ = R at *
  obtain ⟨n, p, ok⟩ := R
  cases ok with
  | false => exact Evneg Bool.false_ne_true (Ev.now _)
  | true =>
    have h := hbd n p rfl
    refine Evpos rfl ?_
    have e1 : wrap64 ((b.length : Int) - p) = (b.length : Int) - p := w64 (by omega) (by omega)
    simp only [e1]
    by_cases c : n > (b.length : Int) - p
    · exact Evto (if_pos c).symm (Evpos c (Ev.now _))
    · have e2 : wrap64 (p + n) = p + n := w64 (by omega) (by omega)
      simp only [e2]
      exact Evto (if_neg c).symm (Evneg c (Evpos (by omega) (Evpos (by omega) (Evpos (by omega) (Ev.now _)))))

/-! placem -/
def placeOk (x : Int) : Bool := decide (4294967296 ≤ x ∧ x / 4294967296 ≤ 30 ∧ 1 ≤ x % 4294967296 ∧ x % 4294967296 ≤ 60)
theorem tdm (x : Int) : (0 ≤ x ∧ Int.tdiv x 4294967296 = x / 4294967296 ∧ Int.tmod x 4294967296 = x % 4294967296) ∨ (x < 0 ∧ Int.tdiv x 4294967296 ≤ 0 ∧ x ≤ Int.tdiv x 4294967296 ∧ Int.tmod x 4294967296 ≤ 0) := by
  by_cases h : 0 ≤ x
  · exact .inl ⟨h, Int.tdiv_eq_ediv_of_nonneg h, Int.tmod_eq_emod_of_nonneg h⟩
  · refine .inr ⟨by omega, ?_⟩
    obtain ⟨y, rfl⟩ : ∃ y, x = -y := ⟨-x, by omega⟩
    rw [Int.neg_tdiv, Int.neg_tmod, Int.tdiv_eq_ediv_of_nonneg (by omega), Int.tmod_eq_emod_of_nonneg (by omega)]
    omega
theorem placeOk_iff (x : Int) : placeOk x = true ↔ (4294967296 ≤ x ∧ x / 4294967296 ≤ 30 ∧ 1 ≤ x % 4294967296 ∧ x % 4294967296 ≤ 60) := by simp [placeOk]
theorem placeOk_div (x : Int) (h : placeOk x = true) : wrap64 (Int.tdiv x 4294967296) = x / 4294967296 := by
  have := (placeOk_iff x).1 h
  rw [Int.tdiv_eq_ediv_of_nonneg (by omega), w64 (by omega) (by omega)]
theorem placeOk_mod (x : Int) (h : placeOk x = true) : Int.tmod x 4294967296 = x % 4294967296 := by
  have := (placeOk_iff x).1 h
  rw [Int.tmod_eq_emod_of_nonneg (by omega)]

/-! splace -/
theorem spec_PlaceOk_f (x : Int) (h : (Lit.int .i64 x).wf = true) : spec_PlaceOk.f x = some (placeOk x) := by
  have hb := wf64 h
  unfold spec_PlaceOk.f
  simp only [spec_l1In_f, Option.bind_some, decide_eq_true_eq]
  have ht := tdm x
  rw [w64 (n := Int.tdiv x 4294967296) (by omega) (by omega)]
  by_cases h1 : x > 0
  · rw [if_pos h1]
    by_cases h2 : 1 ≤ Int.tdiv x 4294967296 ∧ Int.tdiv x 4294967296 ≤ 30
    · rw [if_pos h2]; congr 1; exact decide_eq_decide.2 (by omega)
    · rw [if_neg h2]; congr 1; symm; exact decide_eq_false (by omega)
  · rw [if_neg h1]; congr 1; symm; exact decide_eq_false (by omega)

/-! epochm -/
def epochOf (x : Int) : Int := if placeOk x = true then x / 4294967296 else 0
theorem epochOf_bd (x : Int) : 0 ≤ epochOf x ∧ epochOf x ≤ 30 := by
  unfold epochOf
  by_cases hp : placeOk x = true
  · have := (placeOk_iff x).1 hp; rw [if_pos hp]; omega
  · rw [if_neg hp]; omega

/-! sepoch -/
theorem spec_EpochOf_f (x : Int) (h : (Lit.int .i64 x).wf = true) : spec_EpochOf.f x = some (epochOf x) := by
  unfold spec_EpochOf.f epochOf
  rw [spec_PlaceOk_f x h, Option.bind_some]
  by_cases hp : placeOk x = true
  · rw [if_pos hp, if_pos hp, placeOk_div x hp]
  · rw [if_neg hp, if_neg hp]

/-! entokm -/
def entryOk (a w : Int) (h : Bool) (s : ByteArray) : Bool := decide (placeOk a = true ∧ 0 ≤ w ∧ w ≤ 30 ∧ (w = 0 ∨ epochOf a < w) ∧ s.size ≤ 40 ∧ (h = true → 0 < w ∧ s.toList = []))

/-! sentok -/
theorem spec_EntryOk_f (a w : Int) (h : Bool) (s : ByteArray) (ha : (Lit.int .i64 a).wf = true) : spec_EntryOk.f a w h s = some (entryOk a w h s) := by
  have he := epochOf_bd a
  unfold spec_EntryOk.f entryOk
  rw [spec_PlaceOk_f a ha, spec_EpochOf_f a ha]
  simp only [Option.bind_some, spec_l1In_f]
  by_cases h1 : placeOk a = true
  · by_cases h2 : 0 ≤ w ∧ w ≤ 30
    · by_cases h3 : w > 0
      · by_cases h4 : w ≤ epochOf a
        · simp [h1, h2, h3, h4]; omega
        · by_cases h5 : (s.size : Int) > 40
          · simp [h1, h2, h3, h4, h5]; omega
          · have h5' : s.size ≤ 40 := by omega
            have h4' : epochOf a < w := by omega
            by_cases h6 : s.toList = [] <;> cases h <;> simp [h1, h2, h3, h4, h4', h5, h5', h6]
      · have h3' : w = 0 := by omega
        subst h3'
        by_cases h5 : (s.size : Int) > 40
        · simp [h1, h5]; omega
        · have h5' : s.size ≤ 40 := by omega
          cases h <;> simp [h1, h5, h5']
    · simp [h1, h2]; omega
  · simp [h1]

/-! entreadm -/
def failE : Int × Int × Bool × ByteArray × Int × Bool := (0, 0, false, ⟨#[]⟩, 0, false)
def entryRead (b : List Int) (at_ : Int) : Int × Int × Bool × ByteArray × Int × Bool := match getNum b at_ with
  | (_, _, false) => failE
  | (a, p1, true) => match getNum b p1 with
    | (_, _, false) => failE
    | (w, p2, true) => match getNum b p2 with
      | (_, _, false) => failE
      | (h, p3, true) => if h > 1 then failE else match getText b p3 with
        | (_, _, false) => failE
        | (s, p4, true) => if entryOk a w (h == 1) s = true then (a, w, h == 1, s, p4, true) else failE

/-! sentread -/
theorem spec_EntryRead_f (b : List Int) (hb : b.length ≤ 1048576) (hw : ∀ x ∈ b, (Lit.int .u8 x).wf = true) (at_ : Int) : Ev (fun k => spec_EntryRead.f k b at_) (entryRead b at_) := by
  have hfail : ∀ p a w h, Ev (fun k => spec_EntryRead.j0 k b p a w h true 0 0 false (⟨#[]⟩ : ByteArray)) failE := by
    intro p a w h
    exact Ev.step (f := fun _ => some failE) (fun k => by rw [spec_EntryRead.j0, if_pos rfl]; rfl) (Ev.now _)
  unfold spec_EntryRead.f entryRead
  refine Evbind (spec_GetNum_f b (by omega) hw at_) ?_
  have hbd := getNum_bd b hw at_
  generalize getNum b at_ = R1 at *
  obtain ⟨a, p1, ok1⟩ := R1
  cases ok1 with
  | false => exact Evneg Bool.false_ne_true (Ev.now _)
  | true =>
    have h1 := hbd a p1 rfl
    refine Evpos rfl (Evbind (spec_GetNum_f b (by omega) hw p1) ?_)
    simp only
    generalize getNum b p1 = R2 at *
    obtain ⟨w, p2, ok2⟩ := R2
    cases ok2 with
    | false => exact Evneg Bool.false_ne_true (Ev.now _)
    | true =>
      refine Evpos rfl (Evbind (spec_GetNum_f b (by omega) hw p2) ?_)
      simp only
      generalize getNum b p2 = R3 at *
      obtain ⟨h, p3, ok3⟩ := R3
      cases ok3 with
      | false => exact Evneg Bool.false_ne_true (hfail _ _ _ _)
      | true =>
        refine Evpos rfl ?_
        by_cases hh : h > 1
        · simp only [if_pos hh, decide_eq_true hh]; exact hfail _ _ _ _
        · simp only [if_neg hh, decide_eq_false hh]
          refine Ev.step (fun k => by rw [spec_EntryRead.j0, if_neg Bool.false_ne_true]) ?_
          refine Evbind (spec_GetText_f b hb hw p3) ?_
          generalize getText b p3 = R4 at *
          obtain ⟨s, p4, ok4⟩ := R4
          cases ok4 with
          | false => exact Evneg Bool.false_ne_true (Ev.now _)
          | true =>
            refine Evpos rfl (Evbind (Evconst (spec_EntryOk_f a w (h == 1) s (wf_mk64 (by omega) (by omega)))) ?_)
            by_cases e : entryOk a w (h == 1) s = true
            · exact Evto (if_pos e).symm (Evpos e (Ev.now _))
            · exact Evto (if_neg e).symm (Evneg e (Ev.now _))

/-! ignum -/
theorem pow27 (i : Nat) : (2 : Int) ^ (7 * i) = pw i := by unfold pw; rw [Int.pow_mul]; rfl
theorem w7 (i : Nat) (hi : i < 9) : 0 ≤ wrap64 (7 * (i : Int)) := by rw [w64 (by omega) (by omega)]; omega
theorem wbase (a i n : Nat) (h : a + i < n) (hn : n < 4611686018427387904) : wrap64 ((a : Int) + i) = ((a + i : Nat) : Int) := by rw [w64 (by omega) (by omega)]; omega
theorem wnext (a i n : Nat) (h : a + i < n) (hn : n < 4611686018427387904) : wrap64 (((a + i : Nat) : Int) + 1) = (a : Int) + ((i + 1 : Nat) : Int) := by rw [w64 (by omega) (by omega)]; omega
theorem shl7 (c : Int) (i : Nat) (hi : i < 9) (h0 : 0 ≤ c * pw i) (h1 : c * pw i < 9223372036854775808) : shl .i64 c (wrap64 (7 * (i : Int))) = c * pw i := by
  have e1 : wrap64 (7 * (i : Int)) = ((7 * i : Nat) : Int) := by rw [w64 (by omega) (by omega)]; omega
  have e2 : IntKind.bits .i64 = 64 := rfl
  unfold shl
  rw [e1, Int.toNat_natCast, e2, Nat.min_eq_left (by omega), pow27, IntKind.wrap_i64]; omega
theorem impl_GetNum_l0 (b : List Int) (hb : b.length < 4611686018427387904) (hw : ∀ x ∈ b, (Lit.int .u8 x).wf = true) (a : Nat) (ha : (a : Int) ≤ 9223372036854775807) (d : Nat) : ∀ (i : Nat) (x : Int), i + d = 9 → 0 ≤ x → x < pw i →
    Ev (fun k => impl_GetNum.l0 k b (a : Int) x (i : Int)) (numOut a (gnum d (b.drop (a + i)) i x)) := by
  have hsub : wrap64 ((b.length : Int) - a) = (b.length : Int) - a := w64 (by omega) (by omega)
  induction d with
  | zero =>
    intro i x hi hx hx'
    refine Ev.step (f := fun k => impl_GetNum.j1 k b (a : Int) x (i : Int) false) (fun k => ?_) (Ev.step (f := fun _ => some (0, 0, false)) (fun k => ?_) (Ev.now _))
    · rw [impl_GetNum.l0, if_neg (by omega)]
    · rw [impl_GetNum.j1, if_neg (by decide)]
  | succ d ih =>
    intro i x hi hx hx'
    by_cases hj : a + i < b.length
    · have hi9 : i < 9 := by omega
      have hx3 : i + 1 + d = 9 := by omega
      have hi0 : (0 : Int) ≤ ((a + i : Nat) : Int) := by omega
      have hi1 : ((a + i : Nat) : Int) < (b.length : Int) := by omega
      have hbase := wbase a i b.length hj hb
      have hc := wf8 (wf_getD b hw (a + i) hj)
      rw [drop_at b (a + i) hj]
      generalize hcv : b.getD (a + i) 0 = c at *
      have hmc1 : c < 128 → c % 128 = c := by omega
      have hmc2 : ¬ c < 128 → c % 128 = c - 128 := by omega
      have hgt : c > 127 ↔ ¬ c < 128 := by omega
      have hi9' : (i : Int) < 9 := by omega
      have hlen : (i : Int) < (b.length : Int) - a := by omega
      have hc0 : 0 ≤ c := by omega
      have hc1 : c < 9223372036854775808 := by omega
      have hm0 : 0 ≤ c % 128 := by omega
      have hm1 : c % 128 ≤ 127 := by omega
      have hn := wnext a i b.length hj hb
      have hws : wrap64 ((i : Int) + 1) = ((i + 1 : Nat) : Int) := wsucc i (by omega)
      have hcc : wrap64 c = c := w64 (by omega) (by omega)
      have hrd : rd b ((a + i : Nat) : Int) = c := by rw [rd_nat, hcv]
      have h7 := w7 i hi9
      refine Ev.step (f := fun k => impl_GetNum.j1 k b (a : Int) x (i : Int) true) (fun k => ?_) ?_
      · rw [impl_GetNum.l0, if_pos hi9', hsub, decide_eq_true hlen]
      have hm : Go.bits .and .i64 c 127 = c % 128 := and127 c hc0 hc1
      have hd := digit_bd (c % 128) x i hi9 hm0 hm1 hx hx'
      have hsh : shl .i64 (c % 128) (wrap64 (7 * (i : Int))) = c % 128 * pw i := shl7 _ i hi9 hd.1 hd.2.1
      have hor : Go.bits .or .i64 x (c % 128 * pw i) = x + c % 128 * pw i := or_low (7 * i) _ _ hx (by rw [pow27]; exact hx') hd.1 hd.2.1 (by rw [pow27]; exact Int.mul_emod_left _ _) hd.2.2.2.2.2.1
      by_cases hlt : c < 128
      · replace hgt : ¬ c > 127 := fun h => hgt.1 h hlt
        have hmc : c % 128 = c := hmc1 hlt
        by_cases hz : c = 0 ∧ 0 < i
        · have hz2 : (i : Int) > 0 := (natpos i).2 hz.2
          refine Ev.step (f := fun _ => some (0, 0, false)) (fun k => ?_) (Evto ?_ (Ev.now _))
          · rw [impl_GetNum.j1, if_pos rfl, hbase, if_pos hi0, if_pos hi1, if_pos h7, hrd, hcc, if_neg hgt, if_pos hz2, if_pos hz.1]
          · rw [gnum, if_pos hlt, if_pos hz]; rfl
        · refine Ev.step (f := fun _ => some (x + c * pw i, (a : Int) + ((i + 1 : Nat) : Int), true)) (fun k => ?_) (Evto ?_ (Ev.now _))
          · rw [impl_GetNum.j1, if_pos rfl, hbase, if_pos hi0, if_pos hi1, if_pos h7, hrd, hcc, if_neg hgt, hm, hsh, hor, hn, hmc]
            by_cases h0 : (i : Int) > 0
            · rw [if_pos h0, if_neg (fun hh => hz ⟨hh, (natpos i).1 h0⟩)]
            · rw [if_neg h0]
          · rw [gnum, if_pos hlt, if_neg hz]; rfl
      · replace hgt : c > 127 := hgt.2 hlt
        have hmc : c % 128 = c - 128 := hmc2 hlt
        rw [hmc] at hd hsh hor
        have hx1 : 0 ≤ x + (c - 128) * pw i := hd.2.2.1
        have hx2 : x + (c - 128) * pw i < pw (i + 1) := hd.2.2.2.1
        refine Ev.step (f := fun k => impl_GetNum.l0 k b (a : Int) (x + (c - 128) * pw i) ((i + 1 : Nat) : Int)) (fun k => ?_) (Evto ?_ (ih (i + 1) _ hx3 hx1 hx2))
        · rw [impl_GetNum.j1, if_pos rfl, hbase, if_pos hi0, if_pos hi1, if_pos h7, hrd, hcc, if_pos hgt, hm, hmc, hsh, hor, hws]
        · rw [gnum, if_neg hlt]; rfl
    · refine Ev.step (f := fun k => impl_GetNum.j1 k b (a : Int) x (i : Int) false) (fun k => ?_) (Ev.step (f := fun _ => some (0, 0, false)) (fun k => ?_) (Evto ?_ (Ev.now _)))
      · rw [impl_GetNum.l0, if_pos (by omega), hsub, decide_eq_false (by omega)]
      · rw [impl_GetNum.j1, if_neg (by decide)]
      · rw [List.drop_eq_nil_of_le (by omega)]; rfl
theorem impl_GetNum_f (b : List Int) (hb : b.length < 4611686018427387904) (hw : ∀ x ∈ b, (Lit.int .u8 x).wf = true) (at_ : Int) (hat : (Lit.int .i64 at_).wf = true) : Ev (fun k => impl_GetNum.f k b at_) (getNum b at_) := by
  have hbd := wf64 hat
  by_cases h0 : at_ < 0
  · refine Ev.congr (f := fun _ => some (0, 0, false)) (fun k => by rw [impl_GetNum.f, if_pos h0]) (Evto ?_ (Ev.now _))
    rw [getNum, if_pos h0]
  · obtain ⟨a, rfl⟩ := Int.eq_ofNat_of_zero_le (show 0 ≤ at_ by omega)
    rw [getNum, if_neg h0, Int.toNat_natCast]
    refine Ev.congr (f := fun k => impl_GetNum.l0 k b (a : Int) 0 ((0 : Nat) : Int)) (fun k => by rw [impl_GetNum.f, if_neg h0]; rfl) ?_
    exact impl_GetNum_l0 b hb hw a (by omega) 9 0 0 (by omega) (by omega) (by rw [pw_zero]; decide)

/-! ireadtext -/
def numS (b : List Int) (at_ : Int) (bad : Bool) : Int × Int × Bool := if bad = true then (0, at_, true) else match getNum b at_ with
  | (n, p, true) => (n, p, false)
  | (_, _, false) => (0, at_, true)
theorem impl_reader_num_f (b : List Int) (hb : b.length ≤ 1048576) (hw : ∀ x ∈ b, (Lit.int .u8 x).wf = true) (at_ : Int) (hat : (Lit.int .i64 at_).wf = true) (bad : Bool) : Ev (fun k => impl_reader_num.f k b at_ bad) (numS b at_ bad) := by
  unfold impl_reader_num.f numS
  refine Evbind (impl_GetNum_f b (by omega) hw at_ hat) ?_
  cases bad with
  | true => exact Evto rfl (Evpos rfl (Ev.now ((0, at_, true) : Int × Int × Bool)))
  | false =>
    generalize getNum b at_ = R at *
    obtain ⟨n, p, ok⟩ := R
    cases ok with
    | false => exact Evto rfl (Evneg Bool.false_ne_true (Evneg Bool.false_ne_true (Ev.now ((0, at_, true) : Int × Int × Bool))))
    | true => exact Evto rfl (Evneg Bool.false_ne_true (Evpos rfl (Ev.now ((n, p, false) : Int × Int × Bool))))
theorem numS_bd (b : List Int) (hb : b.length ≤ 1048576) (hw : ∀ x ∈ b, (Lit.int .u8 x).wf = true) (at_ : Int) (bad : Bool) (n p : Int) (h : numS b at_ bad = (n, p, false)) : bad = false ∧ 0 ≤ n ∧ n < 9223372036854775808 ∧ 0 ≤ at_ ∧ at_ ≤ p ∧ p ≤ b.length ∧ getNum b at_ = (n, p, true) := by
  unfold numS at h
  cases bad with
  | true => rw [if_pos rfl] at h; exact absurd h (by simp)
  | false =>
    rw [if_neg Bool.false_ne_true] at h
    have hbd := getNum_bd b hw at_
    generalize getNum b at_ = R at *
    obtain ⟨n', p', ok⟩ := R
    cases ok with
    | false => exact absurd h (by simp)
    | true =>
      simp only [Prod.mk.injEq, and_true] at h
      obtain ⟨rfl, rfl⟩ := h
      have := hbd n' p' rfl
      exact ⟨rfl, this.1, this.2.1, this.2.2.1, this.2.2.2.1, this.2.2.2.2, rfl⟩
def textS (b : List Int) (at_ : Int) (bad : Bool) : ByteArray × Int × Bool := match numS b at_ bad with
  | (_, p, true) => (⟨#[]⟩, p, true)
  | (n, p, false) => if n > (b.length : Int) - p then (⟨#[]⟩, p, true) else (strOfNums ((b.take (p + n).toNat).drop p.toNat), p + n, false)
theorem impl_reader_text_f (b : List Int) (hb : b.length ≤ 1048576) (hw : ∀ x ∈ b, (Lit.int .u8 x).wf = true) (at_ : Int) (hat : (Lit.int .i64 at_).wf = true) (bad : Bool) : Ev (fun k => impl_reader_text.f k b at_ bad) (textS b at_ bad) := by
  unfold impl_reader_text.f textS
  refine Evbind (impl_reader_num_f b hb hw at_ hat bad) ?_
  have hbd := numS_bd b hb hw at_ bad
  generalize numS b at_ bad = R at *
  obtain ⟨n, p, q⟩ := R
  cases q with
  | true => exact Evpos rfl (Ev.now _)
  | false =>
    have h := hbd n p rfl
    refine Evneg Bool.false_ne_true ?_
    have e1 : wrap64 ((b.length : Int) - p) = (b.length : Int) - p := w64 (by omega) (by omega)
    simp only [e1]
    by_cases c : n > (b.length : Int) - p
    · exact Evto (if_pos c).symm (Evpos c (Ev.now _))
    · have e2 : wrap64 (p + n) = p + n := w64 (by omega) (by omega)
      have e3 : wrap64 (p + n - n) = p := by rw [show p + n - n = p by omega]; exact w64 (by omega) (by omega)
      simp only [e2, e3]
      exact Evto (if_neg c).symm (Evneg c (Evpos (by omega) (Evpos (by omega) (Evpos (by omega) (Ev.now _)))))

/-! iplace -/
theorem impl_PlaceOk_f (x : Int) (h : (Lit.int .i64 x).wf = true) : impl_PlaceOk.f x = some (placeOk x) := by
  have hb := wf64 h
  unfold impl_PlaceOk.f
  simp only [impl_isEpoch_f, impl_isOff_f, Option.bind_some, decide_eq_true_eq]
  have ht := tdm x
  rw [w64 (n := Int.tdiv x 4294967296) (by omega) (by omega)]
  by_cases h2 : 1 ≤ Int.tdiv x 4294967296 ∧ Int.tdiv x 4294967296 ≤ 30
  · rw [if_pos h2]; congr 1; exact decide_eq_decide.2 (by omega)
  · rw [if_neg h2]; congr 1; symm; exact decide_eq_false (by omega)

/-! iepoch -/
theorem impl_EpochOf_f (x : Int) (h : (Lit.int .i64 x).wf = true) : impl_EpochOf.f x = some (epochOf x) := by
  unfold impl_EpochOf.f epochOf
  rw [impl_PlaceOk_f x h, Option.bind_some]
  by_cases hp : placeOk x = true
  · rw [if_pos hp, if_pos hp, placeOk_div x hp]
  · rw [if_neg hp, if_neg hp]

/-! ientok -/
theorem impl_EntryOk_f (a w : Int) (h : Bool) (s : ByteArray) (ha : (Lit.int .i64 a).wf = true) : impl_EntryOk.f a w h s = some (entryOk a w h s) := by
  have he := epochOf_bd a
  unfold impl_EntryOk.f entryOk impl_dataOk.f
  rw [impl_PlaceOk_f a ha, impl_EpochOf_f a ha]
  simp only [Option.bind_some, impl_within_f]
  by_cases h2 : 0 ≤ w ∧ w ≤ 30
  · by_cases h1 : placeOk a = true
    · by_cases h3 : w = 0
      · subst h3
        by_cases h5 : s.size ≤ 40
        · have h5' : (s.size : Int) ≤ 40 := by omega
          cases h <;> simp [h1, h5, h5']
        · have h5' : ¬ (s.size : Int) ≤ 40 := by omega
          cases h <;> simp [h1, h5, h5']
      · by_cases h4 : w > epochOf a
        · have h0 : w > 0 := by omega
          by_cases h5 : s.size ≤ 40
          · have h5' : (s.size : Int) ≤ 40 := by omega
            by_cases h6 : s.toList = [] <;> cases h <;> simp [h1, h2, h3, h4, h5, h5', h6, h0]
          · have h5' : ¬ (s.size : Int) ≤ 40 := by omega
            by_cases h6 : s.toList = [] <;> cases h <;> simp [h1, h2, h3, h4, h5, h5', h6, h0]
        · have h0 : w > 0 := by omega
          cases h <;> simp [h1, h2, h3, h4, h0]
    · cases h <;> by_cases h3 : w = 0 <;> simp [h1, h2, h3]
  · have h2' : ¬ (0 ≤ w ∧ w ≤ 30) := h2
    have : ¬ (placeOk a = true ∧ 0 ≤ w ∧ w ≤ 30 ∧ (w = 0 ∨ epochOf a < w) ∧ s.size ≤ 40 ∧ (h = true → 0 < w ∧ s.toList = [])) := fun hh => h2' ⟨hh.2.1, hh.2.2.1⟩
    rw [decide_eq_false this, decide_eq_false h2', if_neg (by decide)]
    cases h <;> by_cases h1 : placeOk a = true <;> by_cases h3 : w > 0 <;> simp [h1, h3]

/-! ientread -/
theorem wf_zero : (Lit.int .i64 0).wf = true := by decide
theorem numS_wf (b : List Int) (hb : b.length ≤ 1048576) (hw : ∀ x ∈ b, (Lit.int .u8 x).wf = true) (at_ : Int) (hat : (Lit.int .i64 at_).wf = true) (bad : Bool) : (Lit.int .i64 (numS b at_ bad).1).wf = true ∧ (Lit.int .i64 (numS b at_ bad).2.1).wf = true := by
  unfold numS
  cases bad with
  | true => exact ⟨wf_zero, hat⟩
  | false =>
    rw [if_neg Bool.false_ne_true]
    have hbd := getNum_bd b hw at_
    generalize getNum b at_ = R at *
    obtain ⟨n, p, ok⟩ := R
    cases ok with
    | false => exact ⟨wf_zero, hat⟩
    | true =>
      have := hbd n p rfl
      show (Lit.int .i64 n).wf = true ∧ (Lit.int .i64 p).wf = true
      exact ⟨wf_mk64 (by omega) (by omega), wf_mk64 (by omega) (by omega)⟩
def flagS (b : List Int) (at_ : Int) (bad : Bool) : Bool × Int × Bool := if (numS b at_ bad).1 > 1 then (false, (numS b at_ bad).2.1, true) else ((numS b at_ bad).1 == 1, (numS b at_ bad).2.1, (numS b at_ bad).2.2)
theorem impl_reader_flag_f (b : List Int) (hb : b.length ≤ 1048576) (hw : ∀ x ∈ b, (Lit.int .u8 x).wf = true) (at_ : Int) (hat : (Lit.int .i64 at_).wf = true) (bad : Bool) : Ev (fun k => impl_reader_flag.f k b at_ bad) (flagS b at_ bad) := by
  unfold impl_reader_flag.f flagS
  have hc : Ev (fun k => impl_reader_count.f k b at_ bad 1) (if (numS b at_ bad).1 > 1 then (0, (numS b at_ bad).2.1, true) else ((numS b at_ bad).1, (numS b at_ bad).2.1, (numS b at_ bad).2.2)) := by
    unfold impl_reader_count.f
    refine Evbind (impl_reader_num_f b hb hw at_ hat bad) ?_
    by_cases c : (numS b at_ bad).1 > 1
    · exact Evto (if_pos c).symm (Evpos c (Ev.now _))
    · exact Evto (if_neg c).symm (Evneg c (Ev.now _))
  refine Evbind hc (Evto ?_ (Ev.now _))
  by_cases c : (numS b at_ bad).1 > 1
  · rw [if_pos c, if_pos c]; rfl
  · rw [if_neg c, if_neg c]
theorem flagS_wf (b : List Int) (hb : b.length ≤ 1048576) (hw : ∀ x ∈ b, (Lit.int .u8 x).wf = true) (at_ : Int) (hat : (Lit.int .i64 at_).wf = true) (bad : Bool) : (Lit.int .i64 (flagS b at_ bad).2.1).wf = true := by
  have := (numS_wf b hb hw at_ hat bad).2
  unfold flagS
  split <;> exact this
def entryS (b : List Int) (at_ : Int) (bad : Bool) : Int × Int × Bool × ByteArray × Int × Bool :=
  let n1 := numS b at_ bad
  let n2 := numS b n1.2.1 n1.2.2
  let n3 := flagS b n2.2.1 n2.2.2
  let n4 := textS b n3.2.1 n3.2.2
  if n4.2.2 = true then (0, 0, false, ⟨#[]⟩, n4.2.1, true) else if entryOk n1.1 n2.1 n3.1 n4.1 = true then (n1.1, n2.1, n3.1, n4.1, n4.2.1, n4.2.2) else (0, 0, false, ⟨#[]⟩, n4.2.1, true)
theorem impl_reader_entry_f (b : List Int) (hb : b.length ≤ 1048576) (hw : ∀ x ∈ b, (Lit.int .u8 x).wf = true) (at_ : Int) (hat : (Lit.int .i64 at_).wf = true) (bad : Bool) : Ev (fun k => impl_reader_entry.f k b at_ bad) (entryS b at_ bad) := by
  unfold impl_reader_entry.f entryS
  have w1 := numS_wf b hb hw at_ hat bad
  refine Evbind (impl_reader_num_f b hb hw at_ hat bad) ?_
  generalize numS b at_ bad = n1 at *
  refine Evbind (impl_reader_num_f b hb hw _ w1.2 _) ?_
  have w2 := numS_wf b hb hw n1.2.1 w1.2 n1.2.2
  simp only
  generalize numS b n1.2.1 n1.2.2 = n2 at *
  refine Evbind (impl_reader_flag_f b hb hw _ w2.2 _) ?_
  have w3 := flagS_wf b hb hw n2.2.1 w2.2 n2.2.2
  generalize flagS b n2.2.1 n2.2.2 = n3 at *
  refine Evbind (impl_reader_text_f b hb hw _ w3 _) ?_
  generalize textS b n3.2.1 n3.2.2 = n4 at *
  by_cases c : n4.2.2 = true
  · exact Evto (if_pos c).symm (Evpos c (Ev.now _))
  · refine Evto (if_neg c).symm (Evneg c (Evbind (Evconst (impl_EntryOk_f n1.1 n2.1 n3.1 n4.1 w1.1)) ?_))
    by_cases e : entryOk n1.1 n2.1 n3.1 n4.1 = true
    · exact Evto (if_pos e).symm (Evpos e (Ev.now _))
    · exact Evto (if_neg e).symm (Evneg e (Ev.now _))
theorem numS_bad (b : List Int) (p : Int) : numS b p true = (0, p, true) := rfl
theorem flagS_bad (b : List Int) (p : Int) : flagS b p true = (false, p, true) := rfl
theorem textS_bad (b : List Int) (p : Int) : textS b p true = (⟨#[]⟩, p, true) := rfl
theorem entryS_read (b : List Int) (at_ : Int) : (if (entryS b at_ false).2.2.2.2.2 = true then failE else ((entryS b at_ false).1, (entryS b at_ false).2.1, (entryS b at_ false).2.2.1, (entryS b at_ false).2.2.2.1, (entryS b at_ false).2.2.2.2.1, true)) = entryRead b at_ := by
  have ns : ∀ p R, getNum b p = R → numS b p false = (match R with | (n, q, true) => (n, q, false) | (_, _, false) => (0, p, true)) := by
    intro p R h; rw [numS, if_neg Bool.false_ne_true, h]
  rcases h1 : getNum b at_ with ⟨a, p1, ok1⟩
  have e1 := ns at_ _ h1
  cases ok1 with
  | false => simp [entryS, e1, numS_bad, flagS_bad, textS_bad, entryRead, h1]
  | true =>
    rcases h2 : getNum b p1 with ⟨w, p2, ok2⟩
    have e2 := ns p1 _ h2
    cases ok2 with
    | false => simp [entryS, e1, e2, numS_bad, flagS_bad, textS_bad, entryRead, h1, h2]
    | true =>
      rcases h3 : getNum b p2 with ⟨h, p3, ok3⟩
      have e3 := ns p2 _ h3
      cases ok3 with
      | false => simp [entryS, e1, e2, e3, flagS, textS_bad, entryRead, h1, h2, h3]
      | true =>
        by_cases hh : h > 1
        · simp [entryS, e1, e2, e3, flagS, textS_bad, entryRead, h1, h2, h3, hh]
        · have e3' : flagS b p2 false = (h == 1, p3, false) := by simp [flagS, e3, hh]
          rcases h4 : getNum b p3 with ⟨n, p4, ok4⟩
          have e4 := ns p3 _ h4
          cases ok4 with
          | false => simp [entryS, e1, e2, e3', textS, getText, e4, entryRead, h1, h2, h3, h4, hh]
          | true =>
            by_cases hn : n > (b.length : Int) - p4
            · simp [entryS, e1, e2, e3', textS, getText, e4, entryRead, h1, h2, h3, h4, hh, hn]
            · simp only [entryS, e1, e2, e3', textS, getText, e4, entryRead, h1, h2, h3, h4, if_neg hh, if_neg hn, if_neg Bool.false_ne_true]
              by_cases e : entryOk a w (h == 1) (strOfNums ((b.take (p4 + n).toNat).drop p4.toNat)) = true
              · simp [e]
              · simp [e]
theorem impl_EntryRead_f (b : List Int) (hb : b.length ≤ 1048576) (hw : ∀ x ∈ b, (Lit.int .u8 x).wf = true) (at_ : Int) (hat : (Lit.int .i64 at_).wf = true) : Ev (fun k => impl_EntryRead.f k b at_) (entryRead b at_) := by
  unfold impl_EntryRead.f
  refine Evbind (impl_reader_entry_f b hb hw at_ hat false) ?_
  rw [← entryS_read]
  by_cases c : (entryS b at_ false).2.2.2.2.2 = true
  · exact Evto (if_pos c).symm (Evpos c (Ev.now _))
  · exact Evto (if_neg c).symm (Evneg c (Ev.now _))

/-! eqByte -/
theorem eqByteS_l0 (x y : List Int) (hl : x.length = y.length) (hn : x.length < 4611686018427387904) (d : Nat) : ∀ i : Nat, i + d = x.length → Ev (fun k => laws_eqByteS.l0 k x y (i : Int)) (decide (x.drop i = y.drop i)) := by
  induction d with
  | zero =>
    intro i hi
    refine Ev.step (f := fun _ => some true) (fun k => ?_) ?_
    · rw [laws_eqByteS.l0, if_neg (by omega)]
    · rw [List.drop_eq_nil_of_le (by omega), List.drop_eq_nil_of_le (by omega)]; exact Ev.now _
  | succ d ih =>
    intro i hi
    have hx : i < x.length := by omega
    have hy : i < y.length := by omega
    have dx := List.drop_eq_getElem_cons hx
    have dy := List.drop_eq_getElem_cons hy
    by_cases e : x.getD i 0 = y.getD i 0
    · refine Ev.step (f := fun k => laws_eqByteS.l0 k x y ((i + 1 : Nat) : Int)) (fun k => ?_) (Evto ?_ (ih (i + 1) (by omega)))
      · rw [laws_eqByteS.l0, if_pos (by omega), if_pos (by omega), if_pos (by omega), rd_nat, rd_nat, if_pos e, wsucc i (by omega)]
      · rw [getD_get x i hx, getD_get y i hy] at e
        rw [dx, dy, e]; exact decide_eq_decide.2 ⟨fun h => by rw [h], fun h => (List.cons.inj h).2⟩
    · refine Ev.step (f := fun _ => some false) (fun k => ?_) (Evto ?_ (Ev.now _))
      · rw [laws_eqByteS.l0, if_pos (by omega), if_pos (by omega), if_pos (by omega), rd_nat, rd_nat, if_neg e]
      · rw [getD_get x i hx, getD_get y i hy] at e
        symm; apply decide_eq_false
        rw [dx, dy]; intro h; exact e (List.cons.inj h).1
theorem eqByteS_f (x y : List Int) (hn : x.length < 4611686018427387904) : Ev (fun k => laws_eqByteS.f k x y) (decide (x = y)) := by
  by_cases h : x.length = y.length
  · exact Ev.congr (fun k => by rw [laws_eqByteS.f, if_pos (by omega)]; rfl) (Evto (by simp) (eqByteS_l0 x y h hn x.length 0 (by omega)))
  · refine Ev.congr (g := fun k => laws_eqByteS.f k x y) (f := fun _ => some false) (fun k => by rw [laws_eqByteS.f, if_neg (by omega)]) (Evto ?_ (Ev.now _))
    symm; apply decide_eq_false; intro e; exact h (by rw [e])
theorem eqByteS_refl (x : List Int) (hn : x.length < 4611686018427387904) : Ev (fun k => laws_eqByteS.f k x x) true := Evto (by simp) (eqByteS_f x x hn)

/-! toByte -/
theorem toByteS_l0 (l : List Int) (hn : l.length < 4611686018427387904) (d : Nat) : ∀ (i : Nat) (x : List Int), i + d = l.length → x.length = l.length → (∀ j, j < i → x[j]? = l[j]?) → Ev (fun k => laws_toByteS.l0 k l x (i : Int)) l := by
  induction d with
  | zero =>
    intro i x hi hx h
    refine Ev.step (f := fun _ => some x) (fun k => ?_) (Evto ?_ (Ev.now _))
    · rw [laws_toByteS.l0, if_neg (by omega)]
    · apply List.ext_getElem?; intro j
      by_cases hj : j < i
      · exact h j hj
      · rw [List.getElem?_eq_none (by omega), List.getElem?_eq_none (by omega)]
  | succ d ih =>
    intro i x hi hx h
    refine Ev.step (f := fun k => laws_toByteS.l0 k l (x.set i (l.getD i 0)) ((i + 1 : Nat) : Int)) (fun k => ?_) (ih (i + 1) _ (by omega) (by simp [hx]) ?_)
    · rw [laws_toByteS.l0, if_pos (by omega), if_pos (by omega), if_pos (by omega), rd_nat, wsucc i (by omega), Int.toNat_natCast]
    · intro j hj
      rw [List.getElem?_set]
      by_cases e : i = j
      · subst e; rw [if_pos rfl, if_pos (by omega), get_getD l i (by omega)]
      · rw [if_neg e]; exact h j (by omega)
theorem toByteS_f (l : List Int) (hn : l.length ≤ 35184372088832) : Ev (fun k => laws_toByteS.f k l) l :=
  Ev.congr (fun k => by rw [laws_toByteS.f, if_pos (by omega), if_pos (by simp; omega)]; rfl) (toByteS_l0 l (by omega) l.length 0 _ (by omega) (by simp) (fun j hj => by omega))

theorem FnExactEntryRead (l0 : List Int) (a1 : Int) (hl0 : l0.length ≤ maxLen ∧ ∀ x ∈ l0, (Lit.int .u8 x).wf = true) (ha1 : (Lit.int .i64 a1).wf = true) : ∃ k, laws_FnExactEntryRead.f k l0 a1 = some true := by
  have hw := hl0.2
  refine Ev.rounds (g := fun k => laws_FnExactEntryRead.f k l0 a1) ?_
  unfold laws_FnExactEntryRead.f
  by_cases hbig : (l0.length : Int) > 1048576
  · exact Evpos hbig (Ev.now _)
  refine Evneg hbig ?_
  have hb : l0.length ≤ 1048576 := by omega
  have ht := toByteS_f l0 (by omega)
  refine Evbind ht (Evbind (spec_EntryRead_f l0 hb hw a1) (Evbind ht (Evbind (impl_EntryRead_f l0 hb hw a1 ha1) ?_)))
  generalize entryRead l0 a1 = R at *
  refine Evbind (Evconst (by simp [laws_eqEntry.f] : laws_eqEntry.f R.1 R.2.1 R.2.2.1 R.2.2.2.1 R.1 R.2.1 R.2.2.1 R.2.2.2.1 = some true)) (Evpos rfl (Evpos rfl ?_))
  refine Ev.step (fun k => by rw [laws_FnExactEntryRead.j0, if_neg (by simp)]) ?_
  exact Evbind ht (Evbind (eqByteS_refl l0 (by omega)) (Evpos rfl (Ev.now _)))

end Go.Proofs.Ytgmfpfmpnlgidaa.Pure
