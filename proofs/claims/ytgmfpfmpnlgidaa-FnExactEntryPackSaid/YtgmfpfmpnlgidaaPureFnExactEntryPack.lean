/- The program's EntryPack and the reference's give the same bytes and answer at every entry, each time in new memory. Conditions: none beyond the given statement. -/
import Derived.Test.YtgmfpfmpnlgidaaMFnExactEntryPackx5
import Derived.OpenShut
import Derived.Laws.BitsLemmas
namespace Go.Proofs.Ytgmfpfmpnlgidaa.Pure
open Go.RowKit Go.Proofs.Ytgmfpfmpnlgidaa.PFnExactEntryPack Go.Proofs.YtgmfpfmpnlgidaaW.PrintWords Go.Proofs.YtgmfpfmpnlgidaaW.PrintLast Go.Proofs.YtgmfpfmpnlgidaaW.PrintMore
set_option linter.unusedVariables false
set_option linter.unusedSimpArgs false
/-! base -/
theorem w64 {n : Int} (h : -9223372036854775808 ≤ n) (h2 : n ≤ 9223372036854775807) : wrap64 n = n := by unfold wrap64; omega
theorem wsucc (i : Nat) (h : i < 4611686018427387904) : wrap64 ((i : Int) + 1) = ((i + 1 : Nat) : Int) := by unfold wrap64; omega
theorem wf64 {n : Int} (h : (Lit.int .i64 n).wf = true) : -9223372036854775808 ≤ n ∧ n ≤ 9223372036854775807 := bounds_i64 h
theorem Evpos {α : Type} {c : Prop} [Decidable c] {a b : Nat → Option α} {r : α} (h : c) (e : Ev a r) : Ev (fun k => if c then a k else b k) r := Ev.congr (fun _ => if_pos h) e
theorem Evneg {α : Type} {c : Prop} [Decidable c] {a b : Nat → Option α} {r : α} (h : ¬ c) (e : Ev b r) : Ev (fun k => if c then a k else b k) r := Ev.congr (fun _ => if_neg h) e
theorem Evsome {α β : Type} {a : α} {f : Nat → α → Option β} {r : β} (e : Ev (fun k => f k a) r) : Ev (fun k => (some a).bind (f k)) r := e
theorem Evbind {α β : Type} {g : Nat → Option α} {f : Nat → α → Option β} {a : α} {r : β} (h : Ev g a) (e : Ev (fun n => f n a) r) : Ev (fun n => (g n).bind (f n)) r := Ev.bind h e
theorem Evconst {α : Type} {g : Option α} {r : α} (h : g = some r) : Ev (fun _ => g) r := ⟨0, fun _ _ => h⟩
theorem Evto {α : Type} {g : Nat → Option α} {r r' : α} (h : r = r') (e : Ev g r) : Ev g r' := h ▸ e
theorem rd_nat (xs : List Int) (i : Nat) : rd xs (i : Int) = xs.getD i 0 := by simp [rd]
theorem getD_get (xs : List Int) (i : Nat) (h : i < xs.length) : xs.getD i 0 = xs[i] := by simp [List.getD_eq_getElem?_getD, List.getElem?_eq_getElem h]
theorem get_getD (xs : List Int) (i : Nat) (h : i < xs.length) : xs[i]? = some (xs.getD i 0) := by simp [List.getD_eq_getElem?_getD, List.getElem?_eq_getElem h]
theorem wf_getD {kd : IntKind} (xs : List Int) (hw : ∀ x ∈ xs, (Lit.int kd x).wf = true) (i : Nat) (h : i < xs.length) : (Lit.int kd (xs.getD i 0)).wf = true := by
  rw [getD_get xs i h]; exact hw _ (List.getElem_mem h)
theorem wf_iff (k : IntKind) (n : Int) : (Lit.int k n).wf = true ↔ k.min ≤ n ∧ n ≤ k.max := by simp [Lit.wf]
theorem wf8 {n : Int} (h : (Lit.int .u8 n).wf = true) : 0 ≤ n ∧ n ≤ 255 := by
  have := (wf_iff .u8 n).1 h
  simpa [IntKind.min, IntKind.max, IntKind.bits, IntKind.signed] using this
theorem wf_mk8 {n : Int} (h : 0 ≤ n) (h2 : n ≤ 255) : (Lit.int .u8 n).wf = true :=
  (wf_iff .u8 n).2 (by simp [IntKind.min, IntKind.max, IntKind.bits, IntKind.signed]; omega)
theorem wf_mk64 {n : Int} (h : -9223372036854775808 ≤ n) (h2 : n ≤ 9223372036854775807) : (Lit.int .i64 n).wf = true :=
  (wf_iff .i64 n).2 (by simp [IntKind.min, IntKind.max, IntKind.bits, IntKind.signed]; omega)
theorem drop_at (b : List Int) (j : Nat) (h : j < b.length) : b.drop j = b.getD j 0 :: b.drop (j + 1) := by
  rw [List.drop_eq_getElem_cons h, getD_get b j h]
theorem p63 : (2 : Int) ^ 63 = 9223372036854775808 := by decide
theorem p1289 : (128 : Nat) ^ 9 = 9223372036854775808 := by decide
theorem p27 : (2 : Int) ^ 7 = 128 := by decide
theorem natpos (i : Nat) : ((i : Int) > 0) ↔ 0 < i := by omega

/-! bits -/
theorem wraps63 (n : Int) (h₀ : 0 ≤ n) (h₁ : n < 2 ^ 63) : IntKind.i64.wrap n = n := by
  have e := p63
  rw [IntKind.wrap_i64]; omega
theorem and127 (x : Int) (h0 : 0 ≤ x) (h1 : x < 9223372036854775808) : Go.bits .and .i64 x 127 = x % 128 :=
  bits_mask .i64 63 (by decide) wraps63 7 (by decide) x h0 (by rw [p63]; exact h1)
theorem and1 (x : Int) (h0 : 0 ≤ x) (h1 : x < 9223372036854775808) : Go.bits .and .i64 x 1 = x % 2 :=
  bits_mask .i64 63 (by decide) wraps63 1 (by decide) x h0 (by rw [p63]; exact h1)
theorem or_comm64 (x y : Int) : Go.bits .or .i64 x y = Go.bits .or .i64 y x := by
  unfold Go.bits; simp only []; rw [BitVec.or_comm]
theorem or_low (i : Nat) (x z : Int) (hx : 0 ≤ x) (hx' : x < 2 ^ i) (hz : 0 ≤ z) (hz' : z < 9223372036854775808) (hm : z % 2 ^ i = 0) (hx2 : x < 9223372036854775808) : Go.bits .or .i64 x z = x + z := by
  have e := p63
  rw [or_comm64, bits_join .i64 63 (by decide) wraps63 i z x hz hm (by omega) hx hx' (by omega)]; omega

/-! specin -/
theorem spec_l1In_f (a b c : Int) : spec_l1In.f a b c = some (decide (b ≤ a ∧ a ≤ c)) := by
  unfold spec_l1In.f
  by_cases h : a ≥ b
  · rw [if_pos h]; congr 1; exact decide_eq_decide.2 (by omega)
  · rw [if_neg h]; congr 1; symm; exact decide_eq_false (by omega)

/-! within -/
theorem impl_within_f (a b c : Int) : impl_within.f a b c = some (decide (b ≤ a ∧ a ≤ c)) := by
  unfold impl_within.f
  by_cases h : a ≥ b
  · rw [if_pos h]; congr 1; exact decide_eq_decide.2 (by omega)
  · rw [if_neg h]; congr 1; symm; exact decide_eq_false (by omega)

/-! isep -/
theorem impl_isEpoch_f (a : Int) : impl_isEpoch.f a = some (decide (1 ≤ a ∧ a ≤ 30)) := by
  unfold impl_isEpoch.f; rw [impl_within_f]; rfl
theorem impl_isOff_f (a : Int) : impl_isOff.f a = some (decide (1 ≤ a ∧ a ≤ 60)) := by
  unfold impl_isOff.f; rw [impl_within_f]; rfl

/-! placem -/
def placeOk (x : Int) : Bool := decide (4294967296 ≤ x ∧ x / 4294967296 ≤ 30 ∧ 1 ≤ x % 4294967296 ∧ x % 4294967296 ≤ 60)
theorem tdm (x : Int) : (0 ≤ x ∧ Int.tdiv x 4294967296 = x / 4294967296 ∧ Int.tmod x 4294967296 = x % 4294967296) ∨ (x < 0 ∧ Int.tdiv x 4294967296 ≤ 0 ∧ x ≤ Int.tdiv x 4294967296 ∧ Int.tmod x 4294967296 ≤ 0) := by
  by_cases h : 0 ≤ x
  · exact .inl ⟨h, Int.tdiv_eq_ediv_of_nonneg h, Int.tmod_eq_emod_of_nonneg h⟩
  · refine .inr ⟨by omega, ?_⟩
    obtain ⟨y, rfl⟩ : ∃ y, x = -y := ⟨-x, by omega⟩
    rw [Int.neg_tdiv, Int.neg_tmod, Int.tdiv_eq_ediv_of_nonneg (by omega), Int.tmod_eq_emod_of_nonneg (by omega)]
    omega
theorem placeOk_iff (x : Int) : placeOk x = true ↔ (4294967296 ≤ x ∧ x / 4294967296 ≤ 30 ∧ 1 ≤ x % 4294967296 ∧ x % 4294967296 ≤ 60) := by simp [placeOk]
theorem placeOk_div (x : Int) (h : placeOk x = true) : wrap64 (Int.tdiv x 4294967296) = x / 4294967296 := by
  have := (placeOk_iff x).1 h
  rw [Int.tdiv_eq_ediv_of_nonneg (by omega), w64 (by omega) (by omega)]
theorem placeOk_mod (x : Int) (h : placeOk x = true) : Int.tmod x 4294967296 = x % 4294967296 := by
  have := (placeOk_iff x).1 h
  rw [Int.tmod_eq_emod_of_nonneg (by omega)]

/-! splace -/
theorem spec_PlaceOk_f (x : Int) (h : (Lit.int .i64 x).wf = true) : spec_PlaceOk.f x = some (placeOk x) := by
  have hb := wf64 h
  unfold spec_PlaceOk.f
  simp only [spec_l1In_f, Option.bind_some, decide_eq_true_eq]
  have ht := tdm x
  rw [w64 (n := Int.tdiv x 4294967296) (by omega) (by omega)]
  by_cases h1 : x > 0
  · rw [if_pos h1]
    by_cases h2 : 1 ≤ Int.tdiv x 4294967296 ∧ Int.tdiv x 4294967296 ≤ 30
    · rw [if_pos h2]; congr 1; exact decide_eq_decide.2 (by omega)
    · rw [if_neg h2]; congr 1; symm; exact decide_eq_false (by omega)
  · rw [if_neg h1]; congr 1; symm; exact decide_eq_false (by omega)

/-! epochm -/
def epochOf (x : Int) : Int := if placeOk x = true then x / 4294967296 else 0
theorem epochOf_bd (x : Int) : 0 ≤ epochOf x ∧ epochOf x ≤ 30 := by
  unfold epochOf
  by_cases hp : placeOk x = true
  · have := (placeOk_iff x).1 hp; rw [if_pos hp]; omega
  · rw [if_neg hp]; omega

/-! sepoch -/
theorem spec_EpochOf_f (x : Int) (h : (Lit.int .i64 x).wf = true) : spec_EpochOf.f x = some (epochOf x) := by
  unfold spec_EpochOf.f epochOf
  rw [spec_PlaceOk_f x h, Option.bind_some]
  by_cases hp : placeOk x = true
  · rw [if_pos hp, if_pos hp, placeOk_div x hp]
  · rw [if_neg hp, if_neg hp]

/-! entokm -/
def entryOk (a w : Int) (h : Bool) (s : ByteArray) : Bool := decide (placeOk a = true ∧ 0 ≤ w ∧ w ≤ 30 ∧ (w = 0 ∨ epochOf a < w) ∧ s.size ≤ 40 ∧ (h = true → 0 < w ∧ s.toList = []))

/-! sentok -/
theorem spec_EntryOk_f (a w : Int) (h : Bool) (s : ByteArray) (ha : (Lit.int .i64 a).wf = true) : spec_EntryOk.f a w h s = some (entryOk a w h s) := by
  have he := epochOf_bd a
  unfold spec_EntryOk.f entryOk
  rw [spec_PlaceOk_f a ha, spec_EpochOf_f a ha]
  simp only [Option.bind_some, spec_l1In_f]
  by_cases h1 : placeOk a = true
  · by_cases h2 : 0 ≤ w ∧ w ≤ 30
    · by_cases h3 : w > 0
      · by_cases h4 : w ≤ epochOf a
        · simp [h1, h2, h3, h4]; omega
        · by_cases h5 : (s.size : Int) > 40
          · simp [h1, h2, h3, h4, h5]; omega
          · have h5' : s.size ≤ 40 := by omega
            have h4' : epochOf a < w := by omega
            by_cases h6 : s.toList = [] <;> cases h <;> simp [h1, h2, h3, h4, h4', h5, h5', h6]
      · have h3' : w = 0 := by omega
        subst h3'
        by_cases h5 : (s.size : Int) > 40
        · simp [h1, h5]; omega
        · have h5' : s.size ≤ 40 := by omega
          cases h <;> simp [h1, h5, h5']
    · simp [h1, h2]; omega
  · simp [h1]

/-! pnumm -/
def pnum (x : Nat) : List Int := if 127 < x then ((x % 128 + 128 : Nat) : Int) :: pnum (x / 128) else [(x : Int)]
termination_by x
decreasing_by omega
def putNum (x : Int) : List Int := if x < 0 then [] else pnum x.toNat
theorem pnum_big (x : Nat) (h : 127 < x) : pnum x = ((x % 128 + 128 : Nat) : Int) :: pnum (x / 128) := by rw [pnum, if_pos h]
theorem pnum_small (x : Nat) (h : ¬ 127 < x) : pnum x = [(x : Int)] := by rw [pnum, if_neg h]
theorem pnum_bd (x : Nat) : ∀ c ∈ pnum x, 0 ≤ c ∧ c ≤ 255 := by
  induction x using Nat.strongRecOn with
  | ind x ih =>
    intro c hc
    by_cases h : 127 < x
    · rw [pnum_big x h] at hc
      rcases List.mem_cons.1 hc with rfl | hc
      · omega
      · exact ih (x / 128) (by omega) c hc
    · rw [pnum_small x h] at hc
      have := List.mem_singleton.1 hc
      omega
theorem pnum_len (d : Nat) : ∀ x : Nat, x < 128 ^ (d + 1) → 1 ≤ (pnum x).length ∧ (pnum x).length ≤ d + 1 := by
  induction d with
  | zero => intro x hx; rw [pnum_small x (by omega)]; simp
  | succ d ih =>
    intro x hx
    by_cases h : 127 < x
    · rw [pnum_big x h]
      have := ih (x / 128) (by rw [Nat.div_lt_iff_lt_mul (by decide)]; rw [Nat.pow_succ] at hx; exact hx)
      simp; omega
    · rw [pnum_small x h]; simp
theorem pnum_len9 (x : Nat) (h : x < 9223372036854775808) : 1 ≤ (pnum x).length ∧ (pnum x).length ≤ 9 := pnum_len 8 x (by rw [p1289]; exact h)
theorem putNum_len (x : Int) (h : x ≤ 9223372036854775807) : (putNum x).length ≤ 9 := by
  unfold putNum
  by_cases h0 : x < 0
  · rw [if_pos h0]; simp
  · rw [if_neg h0]; exact (pnum_len9 x.toNat (by omega)).2
theorem putNum_wf (x : Int) : ∀ c ∈ putNum x, (Lit.int .u8 c).wf = true := by
  intro c hc
  unfold putNum at hc
  have : 0 ≤ c ∧ c ≤ 255 := by
    by_cases h0 : x < 0
    · rw [if_pos h0] at hc; simp at hc
    · rw [if_neg h0] at hc; exact pnum_bd _ c hc
  exact wf_mk8 this.1 this.2

/-! ipnum -/
theorem impl_PutNum_l0 (d : Nat) : ∀ (x : Nat) (out : List Int), x < 128 ^ (d + 1) → x < 9223372036854775808 → out.length + d < 140737488355328 → Ev (fun k => impl_PutNum.l0 k (x : Int) out) (out ++ pnum x) := by
  induction d with
  | zero =>
    intro x out hx hx' hl
    have hs : (x : Int) % 256 = x := by omega
    refine Ev.step (f := fun _ => some (out ++ [(x : Int)])) (fun k => ?_) (Evto ?_ (Ev.now _))
    · rw [impl_PutNum.l0, if_neg (by omega), if_pos (by omega), hs]
    · rw [pnum_small x (by omega)]
  | succ d ih =>
    intro x out hx hx' hl
    by_cases h : 127 < x
    · refine Ev.step (f := fun k => impl_PutNum.l0 k ((x / 128 : Nat) : Int) (out ++ [((x % 128 + 128 : Nat) : Int)])) (fun k => ?_) (Evto ?_ (ih (x / 128) (out ++ [((x % 128 + 128 : Nat) : Int)]) (by rw [Nat.div_lt_iff_lt_mul (by decide)]; rw [Nat.pow_succ] at hx; exact hx) (by omega) (by simp; omega)))
      · have e1 : (x : Int) / 128 = ((x / 128 : Nat) : Int) := by omega
        have e2 : (Go.bits .or .i64 (Go.bits .and .i64 (x : Int) 127) 128) % 256 = ((x % 128 + 128 : Nat) : Int) := by
          rw [and127 _ (by omega) (by omega), or_low 7 _ 128 (by omega) (by rw [p27]; omega) (by decide) (by decide) (by decide) (by omega)]; omega
        rw [impl_PutNum.l0, if_pos (by omega), if_pos (by omega), e1, e2]
      · rw [pnum_big x h]; simp
    · have hs : (x : Int) % 256 = x := by omega
      refine Ev.step (f := fun _ => some (out ++ [(x : Int)])) (fun k => ?_) (Evto ?_ (Ev.now _))
      · rw [impl_PutNum.l0, if_neg (by omega), if_pos (by omega), hs]
      · rw [pnum_small x h]
theorem impl_PutNum_f (x : Int) (hx : x ≤ 9223372036854775807) : Ev (fun k => impl_PutNum.f k x) (putNum x) := by
  unfold putNum
  by_cases h0 : x < 0
  · rw [if_pos h0]
    exact Ev.congr (f := fun _ => some []) (fun k => by simp only [impl_PutNum.f, Option.bind_some]; rw [if_pos h0]) (Ev.now _)
  · rw [if_neg h0]
    obtain ⟨n, rfl⟩ := Int.eq_ofNat_of_zero_le (show 0 ≤ x by omega)
    exact Ev.congr (f := fun k => impl_PutNum.l0 k (n : Int) []) (fun k => by simp only [impl_PutNum.f, Option.bind_some]; rw [if_neg h0]) (impl_PutNum_l0 8 n [] (by rw [p1289]; omega) (by omega) (by simp))

/-! spnum -/
theorem spec_PutNum_l0 (d : Nat) : ∀ (x : Nat) (out : List Int), x < 128 ^ (d + 1) → x < 9223372036854775808 → out.length + d < 140737488355328 → Ev (fun k => spec_PutNum.l0 k (x : Int) out) (out ++ pnum x) := by
  induction d with
  | zero =>
    intro x out hx hx' hl
    have hs : (x : Int) % 256 = x := by omega
    refine Ev.step (f := fun _ => some (out ++ [(x : Int)])) (fun k => ?_) (Evto ?_ (Ev.now _))
    · rw [spec_PutNum.l0, if_neg (by omega), if_pos (by omega), hs]
    · rw [pnum_small x (by omega)]
  | succ d ih =>
    intro x out hx hx' hl
    by_cases h : 127 < x
    · refine Ev.step (f := fun k => spec_PutNum.l0 k ((x / 128 : Nat) : Int) (out ++ [((x % 128 + 128 : Nat) : Int)])) (fun k => ?_) (Evto ?_ (ih (x / 128) (out ++ [((x % 128 + 128 : Nat) : Int)]) (by rw [Nat.div_lt_iff_lt_mul (by decide)]; rw [Nat.pow_succ] at hx; exact hx) (by omega) (by simp; omega)))
      · have e1 : wrap64 (Int.tdiv (x : Int) 128) = ((x / 128 : Nat) : Int) := by rw [Int.tdiv_eq_ediv_of_nonneg (by omega), w64 (by omega) (by omega)]; omega
        have e2 : (wrap64 (Int.tmod (x : Int) 128 + 128)) % 256 = ((x % 128 + 128 : Nat) : Int) := by rw [Int.tmod_eq_emod_of_nonneg (by omega), w64 (by omega) (by omega)]; omega
        rw [spec_PutNum.l0, if_pos (by omega), if_pos (by omega), e1, e2]
      · rw [pnum_big x h]; simp
    · have hs : (x : Int) % 256 = x := by omega
      refine Ev.step (f := fun _ => some (out ++ [(x : Int)])) (fun k => ?_) (Evto ?_ (Ev.now _))
      · rw [spec_PutNum.l0, if_neg (by omega), if_pos (by omega), hs]
      · rw [pnum_small x h]
theorem spec_PutNum_f (x : Int) (hx : x ≤ 9223372036854775807) : Ev (fun k => spec_PutNum.f k x) (putNum x) := by
  unfold putNum
  by_cases h0 : x < 0
  · rw [if_pos h0]
    exact Ev.congr (f := fun _ => some []) (fun k => by simp only [spec_PutNum.f, Option.bind_some]; rw [if_pos h0]) (Ev.now _)
  · rw [if_neg h0]
    obtain ⟨n, rfl⟩ := Int.eq_ofNat_of_zero_le (show 0 ≤ x by omega)
    exact Ev.congr (f := fun k => spec_PutNum.l0 k (n : Int) []) (fun k => by simp only [spec_PutNum.f, Option.bind_some]; rw [if_neg h0]) (spec_PutNum_l0 8 n [] (by rw [p1289]; omega) (by omega) (by simp))

/-! puttext -/
def putText (s : ByteArray) : List Int := putNum (s.size : Int) ++ bytesOf s
theorem putText_len (s : ByteArray) (h : s.size ≤ 9223372036854775807) : (putText s).length ≤ 9 + s.size := by
  have := putNum_len (s.size : Int) (by omega)
  unfold putText
  rw [List.length_append, bytesOf_length]; omega
theorem spec_PutText_f (s : ByteArray) (h : s.size < 140737488355000) : Ev (fun k => spec_PutText.f k s) (putText s) := by
  have hl := putNum_len (s.size : Int) (by omega)
  unfold spec_PutText.f
  exact Evbind (spec_PutNum_f (s.size : Int) (by omega)) (Evpos (by omega) (Ev.now _))
theorem impl_PutText_f (s : ByteArray) (h : s.size < 140737488355000) : Ev (fun k => impl_PutText.f k s) (putText s) := by
  have hl := putNum_len (s.size : Int) (by omega)
  unfold impl_PutText.f
  exact Evbind (impl_PutNum_f (s.size : Int) (by omega)) (Evpos (by omega) (Ev.now _))

/-! entpackm -/
def entPack (a w : Int) (h : Bool) (s : ByteArray) : List Int := putNum a ++ putNum w ++ putNum (if h = true then 1 else 0) ++ putText s
def entPackO (a w : Int) (h : Bool) (s : ByteArray) : List Int × Bool := if entryOk a w h s = true then (entPack a w h s, true) else ([], false)
theorem entryOk_parts {a w : Int} {h : Bool} {s : ByteArray} (e : entryOk a w h s = true) : placeOk a = true ∧ 0 ≤ w ∧ w ≤ 30 ∧ s.size ≤ 40 := by
  have := of_decide_eq_true e
  exact ⟨this.1, this.2.1, this.2.2.1, this.2.2.2.2.1⟩
theorem flag_bd (h : Bool) : 0 ≤ (if h = true then (1 : Int) else 0) ∧ (if h = true then (1 : Int) else 0) ≤ 1 := by cases h <;> decide
theorem entPack_len (a w : Int) (h : Bool) (s : ByteArray) (ha : a ≤ 9223372036854775807) (hw : w ≤ 9223372036854775807) (hs : s.size ≤ 9223372036854775807) : (entPack a w h s).length ≤ 36 + s.size := by
  have h1 := putNum_len a ha
  have h2 := putNum_len w hw
  have h3 := putNum_len (if h = true then (1 : Int) else 0) (by have := (flag_bd h).2; omega)
  have h4 := putText_len s hs
  unfold entPack
  simp only [List.length_append]
  omega
theorem entPackO_len (a w : Int) (h : Bool) (s : ByteArray) (ha : a ≤ 9223372036854775807) : (entPackO a w h s).1.length ≤ 76 := by
  unfold entPackO
  split
  · rename_i e
    have hp := entryOk_parts e
    have := entPack_len a w h s ha (by omega) (by omega)
    show (entPack a w h s).length ≤ 76
    omega
  · exact Nat.zero_le _

/-! sentpack -/
theorem spec_l3Bit_f (h : Bool) : spec_l3Bit.f h = some (if h = true then 1 else 0) := by cases h <;> rfl
theorem spec_l3Pack_f (a w : Int) (h : Bool) (s : ByteArray) (ha : a ≤ 9223372036854775807) (hw : w ≤ 9223372036854775807) (hs : s.size ≤ 1000000) : Ev (fun k => spec_l3Pack.f k a w h s) (entPack a w h s) := by
  have h1 := putNum_len a ha
  have h2 := putNum_len w hw
  have hf := flag_bd h
  have h3 := putNum_len (if h = true then (1 : Int) else 0) (by omega)
  have h4 := putText_len s (by omega)
  unfold spec_l3Pack.f entPack
  refine Evbind (spec_PutNum_f a ha) (Evbind (spec_PutNum_f w hw) (Evpos (by omega) (Evsome (f := fun k y => _) ?_)))
  refine Evbind (Evconst (spec_l3Bit_f h)) (Evbind (spec_PutNum_f _ (by omega)) ?_)
  refine Evpos (by rw [List.length_append]; omega) (Evsome (f := fun k y => _) ?_)
  refine Evbind (spec_PutText_f s (by omega)) (Evpos (by rw [List.length_append, List.length_append]; omega) (Ev.now _))
theorem spec_EntryPack_f (a w : Int) (h : Bool) (s : ByteArray) (ha : (Lit.int .i64 a).wf = true) : Ev (fun k => spec_EntryPack.f k a w h s) (entPackO a w h s) := by
  unfold spec_EntryPack.f entPackO
  refine Evbind (Evconst (spec_EntryOk_f a w h s ha)) ?_
  by_cases e : entryOk a w h s = true
  · rw [if_pos e]
    have hp := entryOk_parts e
    have hb := wf64 ha
    exact Evpos e (Evbind (spec_l3Pack_f a w h s (by omega) (by omega) (by omega)) (Ev.now _))
  · rw [if_neg e]
    exact Evneg e (Ev.now _)

/-! iplace -/
theorem impl_PlaceOk_f (x : Int) (h : (Lit.int .i64 x).wf = true) : impl_PlaceOk.f x = some (placeOk x) := by
  have hb := wf64 h
  unfold impl_PlaceOk.f
  simp only [impl_isEpoch_f, impl_isOff_f, Option.bind_some, decide_eq_true_eq]
  have ht := tdm x
  rw [w64 (n := Int.tdiv x 4294967296) (by omega) (by omega)]
  by_cases h2 : 1 ≤ Int.tdiv x 4294967296 ∧ Int.tdiv x 4294967296 ≤ 30
  · rw [if_pos h2]; congr 1; exact decide_eq_decide.2 (by omega)
  · rw [if_neg h2]; congr 1; symm; exact decide_eq_false (by omega)

/-! iepoch -/
theorem impl_EpochOf_f (x : Int) (h : (Lit.int .i64 x).wf = true) : impl_EpochOf.f x = some (epochOf x) := by
  unfold impl_EpochOf.f epochOf
  rw [impl_PlaceOk_f x h, Option.bind_some]
  by_cases hp : placeOk x = true
  · rw [if_pos hp, if_pos hp, placeOk_div x hp]
  · rw [if_neg hp, if_neg hp]

/-! ientok -/
theorem impl_EntryOk_f (a w : Int) (h : Bool) (s : ByteArray) (ha : (Lit.int .i64 a).wf = true) : impl_EntryOk.f a w h s = some (entryOk a w h s) := by
  have he := epochOf_bd a
  unfold impl_EntryOk.f entryOk impl_dataOk.f
  rw [impl_PlaceOk_f a ha, impl_EpochOf_f a ha]
  simp only [Option.bind_some, impl_within_f]
  by_cases h2 : 0 ≤ w ∧ w ≤ 30
  · by_cases h1 : placeOk a = true
    · by_cases h3 : w = 0
      · subst h3
        by_cases h5 : s.size ≤ 40
        · have h5' : (s.size : Int) ≤ 40 := by omega
          cases h <;> simp [h1, h5, h5']
        · have h5' : ¬ (s.size : Int) ≤ 40 := by omega
          cases h <;> simp [h1, h5, h5']
      · by_cases h4 : w > epochOf a
        · have h0 : w > 0 := by omega
          by_cases h5 : s.size ≤ 40
          · have h5' : (s.size : Int) ≤ 40 := by omega
            by_cases h6 : s.toList = [] <;> cases h <;> simp [h1, h2, h3, h4, h5, h5', h6, h0]
          · have h5' : ¬ (s.size : Int) ≤ 40 := by omega
            by_cases h6 : s.toList = [] <;> cases h <;> simp [h1, h2, h3, h4, h5, h5', h6, h0]
        · have h0 : w > 0 := by omega
          cases h <;> simp [h1, h2, h3, h4, h0]
    · cases h <;> by_cases h3 : w = 0 <;> simp [h1, h2, h3]
  · have h2' : ¬ (0 ≤ w ∧ w ≤ 30) := h2
    have : ¬ (placeOk a = true ∧ 0 ≤ w ∧ w ≤ 30 ∧ (w = 0 ∨ epochOf a < w) ∧ s.size ≤ 40 ∧ (h = true → 0 < w ∧ s.toList = [])) := fun hh => h2' ⟨hh.2.1, hh.2.2.1⟩
    rw [decide_eq_false this, decide_eq_false h2', if_neg (by decide)]
    cases h <;> by_cases h1 : placeOk a = true <;> by_cases h3 : w > 0 <;> simp [h1, h3]

/-! ientpack -/
theorem impl_flagNum_f (h : Bool) : impl_flagNum.f h = some (if h = true then 1 else 0) := by cases h <;> rfl
theorem impl_putNums_l0 (l : List Int) (hl : l.length ≤ 1000) (hx : ∀ x ∈ l, x ≤ 9223372036854775807) (d : Nat) : ∀ (i : Nat) (out : List Int), i + d = l.length → out.length ≤ 9 * i → Ev (fun k => impl_putNums.l0 k out l (l.length : Int) (i : Int)) (out ++ ((l.drop i).map putNum).flatten) := by
  induction d with
  | zero =>
    intro i out hi _
    have e : l.drop i = [] := List.drop_eq_nil_of_le (by omega)
    rw [e]
    refine Ev.step (f := fun _ => some out) (fun k => by rw [impl_putNums.l0, if_neg (by omega)]) ?_
    exact Evto (by simp) (Ev.now _)
  | succ d ih =>
    intro i out hi ho
    have hil : i < l.length := by omega
    have hm : l.getD i 0 ∈ l := by rw [getD_get l i hil]; exact List.getElem_mem hil
    have hv := hx _ hm
    have hp := putNum_len _ hv
    rw [drop_at l i hil]
    generalize hg : l.getD i 0 = v at *
    refine Ev.step (f := fun k => (impl_PutNum.f k v).bind fun t => (if out.length + t.length < 140737488355328 then (impl_putNums.l0 k (out ++ t) l (l.length : Int) (wrap64 ((i : Int) + 1))) else none)) (fun k => by rw [impl_putNums.l0, if_pos (by omega), if_pos (by omega), if_pos (by omega), rd_nat, hg]) ?_
    refine Evbind (impl_PutNum_f v hv) (Evpos (by omega) ?_)
    rw [wsucc i (by omega)]
    exact Evto (by simp [List.append_assoc]) (ih (i + 1) (out ++ putNum v) (by omega) (by rw [List.length_append]; omega))
theorem impl_putNums_f (l : List Int) (hl : l.length ≤ 1000) (hx : ∀ x ∈ l, x ≤ 9223372036854775807) : Ev (fun k => impl_putNums.f k l) (l.map putNum).flatten := by
  have := impl_putNums_l0 l hl hx l.length 0 [] (by omega) (by simp)
  exact Evto (by simp) this
theorem impl_EntryPack_f (a w : Int) (h : Bool) (s : ByteArray) (ha : (Lit.int .i64 a).wf = true) : Ev (fun k => impl_EntryPack.f k a w h s) (entPackO a w h s) := by
  unfold impl_EntryPack.f entPackO
  refine Evbind (Evconst (impl_EntryOk_f a w h s ha)) ?_
  by_cases e : entryOk a w h s = true
  · rw [if_pos e]
    have hp := entryOk_parts e
    have hb := wf64 ha
    have hf := flag_bd h
    have h1 := putNum_len a (by omega)
    have h2 := putNum_len w (by omega)
    have h3 := putNum_len (if h = true then (1 : Int) else 0) (by omega)
    have h4 := putText_len s (by omega)
    refine Evpos e (Evbind (Evconst (impl_flagNum_f h)) ?_)
    refine Evbind (impl_putNums_f [a, w, if h = true then 1 else 0] (by simp) ?_) ?_
    · intro x hx
      simp only [List.mem_cons, List.not_mem_nil, or_false] at hx
      rcases hx with rfl | rfl | rfl <;> omega
    · have el : ([a, w, if h = true then 1 else 0].map putNum).flatten = putNum a ++ putNum w ++ putNum (if h = true then 1 else 0) := by simp [List.append_assoc]
      rw [el]
      exact Evbind (impl_PutText_f s (by omega)) (Evpos (by simp only [List.length_append]; omega) (Ev.now _))
  · rw [if_neg e]
    exact Evneg e (Ev.now _)

/-! eqByte -/
theorem eqByteS_l0 (x y : List Int) (hl : x.length = y.length) (hn : x.length < 4611686018427387904) (d : Nat) : ∀ i : Nat, i + d = x.length → Ev (fun k => laws_eqByteS.l0 k x y (i : Int)) (decide (x.drop i = y.drop i)) := by
  induction d with
  | zero =>
    intro i hi
    refine Ev.step (f := fun _ => some true) (fun k => ?_) ?_
    · rw [laws_eqByteS.l0, if_neg (by omega)]
    · rw [List.drop_eq_nil_of_le (by omega), List.drop_eq_nil_of_le (by omega)]; exact Ev.now _
  | succ d ih =>
    intro i hi
    have hx : i < x.length := by omega
    have hy : i < y.length := by omega
    have dx := List.drop_eq_getElem_cons hx
    have dy := List.drop_eq_getElem_cons hy
    by_cases e : x.getD i 0 = y.getD i 0
    · refine Ev.step (f := fun k => laws_eqByteS.l0 k x y ((i + 1 : Nat) : Int)) (fun k => ?_) (Evto ?_ (ih (i + 1) (by omega)))
      · rw [laws_eqByteS.l0, if_pos (by omega), if_pos (by omega), if_pos (by omega), rd_nat, rd_nat, if_pos e, wsucc i (by omega)]
      · rw [getD_get x i hx, getD_get y i hy] at e
        rw [dx, dy, e]; exact decide_eq_decide.2 ⟨fun h => by rw [h], fun h => (List.cons.inj h).2⟩
    · refine Ev.step (f := fun _ => some false) (fun k => ?_) (Evto ?_ (Ev.now _))
      · rw [laws_eqByteS.l0, if_pos (by omega), if_pos (by omega), if_pos (by omega), rd_nat, rd_nat, if_neg e]
      · rw [getD_get x i hx, getD_get y i hy] at e
        symm; apply decide_eq_false
        rw [dx, dy]; intro h; exact e (List.cons.inj h).1
theorem eqByteS_f (x y : List Int) (hn : x.length < 4611686018427387904) : Ev (fun k => laws_eqByteS.f k x y) (decide (x = y)) := by
  by_cases h : x.length = y.length
  · exact Ev.congr (fun k => by rw [laws_eqByteS.f, if_pos (by omega)]; rfl) (Evto (by simp) (eqByteS_l0 x y h hn x.length 0 (by omega)))
  · refine Ev.congr (g := fun k => laws_eqByteS.f k x y) (f := fun _ => some false) (fun k => by rw [laws_eqByteS.f, if_neg (by omega)]) (Evto ?_ (Ev.now _))
    symm; apply decide_eq_false; intro e; exact h (by rw [e])
theorem eqByteS_refl (x : List Int) (hn : x.length < 4611686018427387904) : Ev (fun k => laws_eqByteS.f k x x) true := Evto (by simp) (eqByteS_f x x hn)

/-! markByte -/
def marksByte (n : Nat) (a : Int) : List Int := (List.range n).map (fun j : Nat => (a + (j : Int)) % 256)
theorem marksByte_len (n : Nat) (a : Int) : (marksByte n a).length = n := by simp [marksByte]
theorem marksByte_get (n : Nat) (a : Int) (j : Nat) (h : j < n) : (marksByte n a)[j]? = some ((a + (j : Int)) % 256) := by simp [marksByte, List.getElem?_range h]
theorem markByteS_l0 (n : Nat) (a : Int) (ha : 0 ≤ a) (hn : a + n < 4611686018427387904) (d : Nat) : ∀ (i : Nat) (x : List Int), i + d = n → x.length = n → (∀ j, j < i → x[j]? = some ((a + (j : Int)) % 256)) → Ev (fun k => laws_markByteS.l0 k x (a + i) (i : Int)) (a + n, marksByte n a) := by
  induction d with
  | zero =>
    intro i x hi hx h
    refine Ev.step (f := fun _ => some (a + i, x)) (fun k => ?_) (Evto ?_ (Ev.now _))
    · rw [laws_markByteS.l0, if_neg (by omega)]
    · have : x = marksByte n a := by
        apply List.ext_getElem?; intro j
        by_cases hj : j < i
        · rw [h j hj, marksByte_get n a j (by omega)]
        · rw [List.getElem?_eq_none (by omega), List.getElem?_eq_none (by rw [marksByte_len]; omega)]
      rw [this, show i = n by omega]
  | succ d ih =>
    intro i x hi hx h
    refine Ev.step (f := fun k => laws_markByteS.l0 k (x.set i ((a + (i : Int)) % 256)) (a + ((i + 1 : Nat) : Int)) ((i + 1 : Nat) : Int)) (fun k => ?_) (ih (i + 1) _ (by omega) (by simp [hx]) ?_)
    · rw [laws_markByteS.l0, if_pos (by omega), if_pos (by omega), wsucc i (by omega), Int.toNat_natCast, w64 (n := a + i + 1) (by omega) (by omega)]
      rw [show a + (i : Int) + 1 = a + ((i + 1 : Nat) : Int) by omega]
    · intro j hj
      rw [List.getElem?_set]
      by_cases e : i = j
      · subst e; rw [if_pos rfl, if_pos (by omega)]
      · rw [if_neg e]; exact h j (by omega)
theorem markByteS_f (x : List Int) (a : Int) (ha : 0 ≤ a) (hn : a + x.length < 4611686018427387904) : Ev (fun k => laws_markByteS.f k x a) (a + x.length, marksByte x.length a) :=
  Ev.congr (fun k => by rw [laws_markByteS.f]; simp) (markByteS_l0 x.length a ha hn x.length 0 x (by omega) rfl (fun j hj => by omega))
theorem heldByteS_l0 (n : Nat) (a : Int) (ha : 0 ≤ a) (hn : a + n < 4611686018427387904) (d : Nat) : ∀ (i : Nat), i + d = n → Ev (fun k => laws_heldByteS.l0 k (marksByte n a) (a + i) (i : Int)) (a + n) := by
  induction d with
  | zero =>
    intro i hi
    refine Ev.step (f := fun _ => some (a + i)) (fun k => ?_) (Evto ?_ (Ev.now _))
    · rw [laws_heldByteS.l0, marksByte_len, if_neg (by omega)]
    · rw [show i = n by omega]
  | succ d ih =>
    intro i hi
    refine Ev.step (f := fun k => laws_heldByteS.l0 k (marksByte n a) (a + ((i + 1 : Nat) : Int)) ((i + 1 : Nat) : Int)) (fun k => ?_) (ih (i + 1) (by omega))
    · rw [laws_heldByteS.l0, marksByte_len, if_pos (by omega), if_pos (by omega), rd_nat, if_pos, wsucc i (by omega), w64 (n := a + i + 1) (by omega) (by omega)]
      · rw [show a + (i : Int) + 1 = a + ((i + 1 : Nat) : Int) by omega]
      · rw [List.getD_eq_getElem?_getD, marksByte_get n a i (by omega)]; rfl
theorem heldByteS_f (n : Nat) (a : Int) (ha : 0 ≤ a) (hn : a + n < 4611686018427387904) : Ev (fun k => laws_heldByteS.f k (marksByte n a) a) (a + n) :=
  Ev.congr (fun k => by rw [laws_heldByteS.f]; simp) (heldByteS_l0 n a ha hn n 0 (by omega))

theorem FnExactEntryPack (a0_0 : Int) (a0_1 : Int) (a0_2 : Bool) (a0_3 : ByteArray) (ha0_0 : (Lit.int .i64 a0_0).wf = true) (ha0_1 : (Lit.int .i64 a0_1).wf = true) (ha0_3 : a0_3.size ≤ maxLen) : ∃ k, laws_FnExactEntryPack.f k a0_0 a0_1 a0_2 a0_3 = some true := by
  refine Ev.rounds (g := fun k => laws_FnExactEntryPack.f k a0_0 a0_1 a0_2 a0_3) ?_
  unfold laws_FnExactEntryPack.f
  have hsz : ∀ (x y : Int) (b : Bool) (s : ByteArray) (n : Int), ∃ r, laws_szEntry.f x y b s n = some r := by
    intro x y b s n; unfold laws_szEntry.f; split <;> exact ⟨_, rfl⟩
  obtain ⟨r0, e0⟩ := hsz a0_0 a0_1 a0_2 a0_3 1048576
  refine Evbind (Evconst e0) ?_
  by_cases h0 : r0 < 0
  · exact Evpos h0 (Ev.now _)
  refine Evneg h0 ?_
  have hb := wf64 ha0_0
  have hl := entPackO_len a0_0 a0_1 a0_2 a0_3 (by omega)
  have hs := spec_EntryPack_f a0_0 a0_1 a0_2 a0_3 ha0_0
  have hi := impl_EntryPack_f a0_0 a0_1 a0_2 a0_3 ha0_0
  have ht : Ev (fun _ => laws_toEntry.f a0_0 a0_1 a0_2 a0_3) (a0_0, a0_1, a0_2, a0_3) := Ev.now _
  generalize entPackO a0_0 a0_1 a0_2 a0_3 = P at *
  have he := eqByteS_refl P.1 (by omega)
  have hm := markByteS_f P.1 1 (by decide) (by omega)
  have hh := heldByteS_f P.1.length 1 (by decide) (by omega)
  refine Evbind ht (Evbind hs (Evbind ht (Evbind hi (Evbind he (Evpos rfl ?_)))))
  refine Ev.step (fun k => by rw [laws_FnExactEntryPack.j0, if_neg (by simp)]) ?_
  refine Evbind hm (Evbind hh (Evneg (by omega) (Evpos rfl ?_)))
  refine Evbind ht (Evbind hi (Evbind he (Evpos rfl ?_)))
  refine Ev.step (fun k => by rw [laws_FnExactEntryPack.j1, if_neg (by simp)]) ?_
  exact Evbind hh (Evneg (by omega) (Evpos rfl (Ev.now _)))

end Go.Proofs.Ytgmfpfmpnlgidaa.Pure
