/- Of a drawn set whatever holds, and whatever is enough, have a node in common. Conditions: none beyond the given statement. -/
import Derived.Test.YtfkdgbhjkpigfaaMFnMeetx8
import Derived.OpenShut
import Derived.Laws.BitsLemmas
namespace Go.Proofs.Ytfkdgbhjkpigfaa.Pure
open Go.RowKit Go.Proofs.Ytfkdgbhjkpigfaa.PFnMeet Go.Proofs.YtfkdgbhjkpigfaaW.PrintWords Go.Proofs.YtfkdgbhjkpigfaaW.PrintLast Go.Proofs.YtfkdgbhjkpigfaaW.PrintMore
set_option linter.unusedVariables false
set_option linter.unusedSimpArgs false
/-! base -/
theorem w64 {n : Int} (h : -9223372036854775808 ≤ n) (h2 : n ≤ 9223372036854775807) : wrap64 n = n := by unfold wrap64; omega
theorem wsucc (i : Nat) (h : i < 4611686018427387904) : wrap64 ((i : Int) + 1) = ((i + 1 : Nat) : Int) := by unfold wrap64; omega
theorem wf64 {n : Int} (h : (Lit.int .i64 n).wf = true) : -9223372036854775808 ≤ n ∧ n ≤ 9223372036854775807 := bounds_i64 h
theorem Evpos {α : Type} {c : Prop} [Decidable c] {a b : Nat → Option α} {r : α} (h : c) (e : Ev a r) : Ev (fun k => if c then a k else b k) r := Ev.congr (fun _ => if_pos h) e
theorem Evneg {α : Type} {c : Prop} [Decidable c] {a b : Nat → Option α} {r : α} (h : ¬ c) (e : Ev b r) : Ev (fun k => if c then a k else b k) r := Ev.congr (fun _ => if_neg h) e
theorem Evsome {α β : Type} {a : α} {f : Nat → α → Option β} {r : β} (e : Ev (fun k => f k a) r) : Ev (fun k => (some a).bind (f k)) r := e
theorem Evbind {α β : Type} {g : Nat → Option α} {f : Nat → α → Option β} {a : α} {r : β} (h : Ev g a) (e : Ev (fun n => f n a) r) : Ev (fun n => (g n).bind (f n)) r := Ev.bind h e
theorem Evconst {α : Type} {g : Option α} {r : α} (h : g = some r) : Ev (fun _ => g) r := ⟨0, fun _ _ => h⟩
theorem Evto {α : Type} {g : Nat → Option α} {r r' : α} (h : r = r') (e : Ev g r) : Ev g r' := h ▸ e
theorem rd_nat (xs : List Int) (i : Nat) : rd xs (i : Int) = xs.getD i 0 := by simp [rd]
theorem getD_get (xs : List Int) (i : Nat) (h : i < xs.length) : xs.getD i 0 = xs[i] := by simp [List.getD_eq_getElem?_getD, List.getElem?_eq_getElem h]
theorem get_getD (xs : List Int) (i : Nat) (h : i < xs.length) : xs[i]? = some (xs.getD i 0) := by simp [List.getD_eq_getElem?_getD, List.getElem?_eq_getElem h]
theorem wf_getD {kd : IntKind} (xs : List Int) (hw : ∀ x ∈ xs, (Lit.int kd x).wf = true) (i : Nat) (h : i < xs.length) : (Lit.int kd (xs.getD i 0)).wf = true := by
  rw [getD_get xs i h]; exact hw _ (List.getElem_mem h)
theorem wf_iff (k : IntKind) (n : Int) : (Lit.int k n).wf = true ↔ k.min ≤ n ∧ n ≤ k.max := by simp [Lit.wf]
theorem wf8 {n : Int} (h : (Lit.int .u8 n).wf = true) : 0 ≤ n ∧ n ≤ 255 := by
  have := (wf_iff .u8 n).1 h
  simpa [IntKind.min, IntKind.max, IntKind.bits, IntKind.signed] using this
theorem wf_mk8 {n : Int} (h : 0 ≤ n) (h2 : n ≤ 255) : (Lit.int .u8 n).wf = true :=
  (wf_iff .u8 n).2 (by simp [IntKind.min, IntKind.max, IntKind.bits, IntKind.signed]; omega)
theorem wf_mk64 {n : Int} (h : -9223372036854775808 ≤ n) (h2 : n ≤ 9223372036854775807) : (Lit.int .i64 n).wf = true :=
  (wf_iff .i64 n).2 (by simp [IntKind.min, IntKind.max, IntKind.bits, IntKind.signed]; omega)
theorem drop_at (b : List Int) (j : Nat) (h : j < b.length) : b.drop j = b.getD j 0 :: b.drop (j + 1) := by
  rw [List.drop_eq_getElem_cons h, getD_get b j h]
theorem p63 : (2 : Int) ^ 63 = 9223372036854775808 := by decide
theorem p1289 : (128 : Nat) ^ 9 = 9223372036854775808 := by decide
theorem p27 : (2 : Int) ^ 7 = 128 := by decide
theorem natpos (i : Nat) : ((i : Int) > 0) ↔ 0 < i := by omega

/-! down -/
theorem down {p : Nat → Prop} (n : Nat) (h0 : p n) (hs : ∀ i, i < n → p (i + 1) → p i) (i : Nat) (hi : i ≤ n) : p i := by
  obtain ⟨d, hd⟩ : ∃ d, i + d = n := ⟨n - i, by omega⟩
  induction d generalizing i with
  | zero => obtain rfl : i = n := by omega
            exact h0
  | succ d ih => exact hs i (by omega) (ih (i + 1) (by omega) (by omega))
theorem getD_mem (l : List Int) (i : Nat) (h : i < l.length) : l.getD i 0 ∈ l := by
  rw [getD_get l i h]; exact List.getElem_mem h

/-! drawnew -/
theorem l1New_l0 (b : List Int) (hb : b.length < 4611686018427387904) : ∀ i, i ≤ b.length → ∀ h : Int, ∃ h', Ev (fun k => spec_l1New.l0 k b h (i : Int)) (b, 0, h') := by
  refine down b.length ?_ ?_
  · intro h
    exact ⟨h, Ev.step (f := fun _ => some (b, 0, h)) (fun k => by rw [spec_l1New.l0, if_neg (by omega)]) (Ev.now _)⟩
  · intro i hi ih h
    by_cases c : (i : Int) < 4000
    · obtain ⟨h', e⟩ := ih (Go.bits .and .i64 (wrap64 ((wrap64 ((wrap64 (h * 131)) + (wrap64 (rd b i)))) + 7)) 1073741823)
      exact ⟨h', Ev.step (f := fun k => spec_l1New.l0 k b (Go.bits .and .i64 (wrap64 ((wrap64 ((wrap64 (h * 131)) + (wrap64 (rd b i)))) + 7)) 1073741823) ((i + 1 : Nat) : Int)) (fun k => by rw [spec_l1New.l0, if_pos (by omega), if_pos c, if_pos (by omega), wsucc i (by omega)]) e⟩
    · exact ⟨h, Ev.step (f := fun _ => some (b, 0, h)) (fun k => by rw [spec_l1New.l0, if_pos (by omega), if_neg c]) (Ev.now _)⟩
theorem l1New_f (b : List Int) (hb : b.length < 4611686018427387904) : ∃ h', Ev (fun k => spec_l1New.f k b) (b, 0, h') := by
  obtain ⟨h', e⟩ := l1New_l0 b hb 0 (by omega) (wrap64 (17817 + (b.length : Int)))
  exact ⟨h', Ev.congr (fun k => by rw [spec_l1New.f]; rfl) e⟩

/-! andbd -/
theorem and_bd (x : Int) (m : Nat) (hm : m < 9223372036854775808) : 0 ≤ Go.bits .and .i64 x (m : Int) ∧ Go.bits .and .i64 x (m : Int) ≤ m := by
  have hb : IntKind.bits .i64 = 64 := rfl
  have key : ((BitVec.ofInt 64 x) &&& (BitVec.ofInt 64 (m : Int))).toNat ≤ m := by
    rw [BitVec.toNat_and, BitVec.ofInt_natCast, BitVec.toNat_ofNat]
    exact Nat.le_trans Nat.and_le_right (Nat.mod_le _ _)
  have e : Go.bits .and .i64 x (m : Int) = IntKind.i64.wrap ((((BitVec.ofInt 64 x) &&& (BitVec.ofInt 64 (m : Int))).toNat : Nat) : Int) := rfl
  rw [e, IntKind.wrap_i64]
  generalize ((BitVec.ofInt 64 x) &&& (BitVec.ofInt 64 (m : Int))).toNat = z at *
  omega

/-! drawbyte -/
theorem l1Byte_f (b : List Int) (i h : Int) (h0 : 0 ≤ i) (h1 : i ≤ b.length) (hb : b.length < 4611686018427387904) : ∃ x i' h', spec_l1Byte.f b i h = some (x, i', h') ∧ 0 ≤ x ∧ x ≤ 255 ∧ 0 ≤ i' ∧ i' ≤ b.length := by
  unfold spec_l1Byte.f
  by_cases hc : i < (b.length : Int)
  · rw [if_pos hc, if_pos h0]
    have e : wrap64 (i + 1) = i + 1 := w64 (by omega) (by omega)
    have a := fun x => and_bd x 255 (by omega)
    exact ⟨_, _, _, rfl, (a _).1, (a _).2, by rw [e]; omega, by rw [e]; omega⟩
  · rw [if_neg hc]
    have a := fun x => and_bd x 255 (by omega)
    exact ⟨_, _, _, rfl, (a _).1, (a _).2, h0, h1⟩
theorem l1Below_f (b : List Int) (i h n : Int) (h0 : 0 ≤ i) (h1 : i ≤ b.length) (hb : b.length < 4611686018427387904) : ∃ x i' h', spec_l1Below.f b i h n = some (x, i', h') ∧ 0 ≤ x ∧ (0 < n → x < n) ∧ (n ≤ 0 → x = 0) ∧ x ≤ 4294967295 ∧ 0 ≤ i' ∧ i' ≤ b.length := by
  unfold spec_l1Below.f
  by_cases c1 : n ≤ 0
  · rw [if_pos c1]; exact ⟨_, _, _, rfl, by omega, by omega, fun _ => rfl, by omega, h0, h1⟩
  rw [if_neg c1]
  obtain ⟨x, i1, hh1, e1, b1⟩ := l1Byte_f b i h h0 h1 hb
  by_cases c2 : n ≤ 256
  · rw [if_pos c2, e1, Option.bind_some, if_neg (by omega)]
    have hm : Int.tmod x n = x % n := Int.tmod_eq_emod_of_nonneg (by omega)
    have hm1 := Int.emod_lt_of_pos x (show 0 < n by omega)
    have hm0 := Int.emod_nonneg x (show n ≠ 0 by omega)
    refine ⟨_, _, _, rfl, ?_⟩
    show 0 ≤ Int.tmod x n ∧ (0 < n → Int.tmod x n < n) ∧ (n ≤ 0 → Int.tmod x n = 0) ∧ Int.tmod x n ≤ 4294967295 ∧ 0 ≤ i1 ∧ i1 ≤ b.length
    rw [hm]
    exact ⟨hm0, fun _ => hm1, fun hh => absurd hh c1, by omega, b1.2.2.1, b1.2.2.2⟩
  · obtain ⟨y, i2, hh2, e2, b2⟩ := l1Byte_f b i1 hh1 b1.2.2.1 b1.2.2.2 hb
    obtain ⟨z, i3, hh3, e3, b3⟩ := l1Byte_f b i2 hh2 b2.2.2.1 b2.2.2.2 hb
    obtain ⟨w, i4, hh4, e4, b4⟩ := l1Byte_f b i3 hh3 b3.2.2.1 b3.2.2.2 hb
    rw [if_neg c2, e1, Option.bind_some]
    simp only [e2, e3, e4, Option.bind_some]
    rw [if_neg (by omega)]
    have w1 : wrap64 (x * 16777216) = x * 16777216 := w64 (by omega) (by omega)
    have w2 : wrap64 (y * 65536) = y * 65536 := w64 (by omega) (by omega)
    have w3 : wrap64 (x * 16777216 + y * 65536) = x * 16777216 + y * 65536 := w64 (by omega) (by omega)
    have w4 : wrap64 (z * 256) = z * 256 := w64 (by omega) (by omega)
    have w5 : wrap64 (x * 16777216 + y * 65536 + z * 256) = x * 16777216 + y * 65536 + z * 256 := w64 (by omega) (by omega)
    have w6 : wrap64 (x * 16777216 + y * 65536 + z * 256 + w) = x * 16777216 + y * 65536 + z * 256 + w := w64 (by omega) (by omega)
    rw [w1, w2, w3, w4, w5, w6]
    have hs0 : 0 ≤ x * 16777216 + y * 65536 + z * 256 + w := by omega
    have hs1 : x * 16777216 + y * 65536 + z * 256 + w ≤ 4294967295 := by omega
    generalize x * 16777216 + y * 65536 + z * 256 + w = s at *
    have hm : Int.tmod s n = s % n := Int.tmod_eq_emod_of_nonneg hs0
    have hm1 := Int.emod_lt_of_pos s (show 0 < n by omega)
    have hm0 := Int.emod_nonneg s (show n ≠ 0 by omega)
    have hm2 : s % n ≤ s := by
      have := Int.emod_add_mul_ediv s n
      have hq : 0 ≤ s / n := Int.ediv_nonneg hs0 (by omega)
      have : 0 ≤ n * (s / n) := Int.mul_nonneg (by omega) hq
      omega
    refine ⟨_, _, _, rfl, ?_⟩
    rw [hm]
    exact ⟨hm0, fun _ => hm1, fun hh => absurd hh c1, by omega, b4.2.2.1, b4.2.2.2⟩

/-! drawonce -/
theorem l1Once_f (b : List Int) (i h n : Int) (h0 : 0 ≤ i) (h1 : i ≤ b.length) (hb : b.length < 4611686018427387904) : ∃ x i' h', spec_l1Once.f b i h n = some (x, i', h') ∧ 0 ≤ i' ∧ i' ≤ b.length := by
  obtain ⟨x, i', h', e, b1⟩ := l1Below_f b i h n h0 h1 hb
  unfold spec_l1Once.f
  rw [e, Option.bind_some]
  exact ⟨_, _, _, rfl, b1.2.2.2.2⟩

/-! drawpick -/
theorem l1PickInt_f (b : List Int) (i h : Int) (l : List Int) (hl : 0 < l.length) (hl2 : l.length < 1000) (h0 : 0 ≤ i) (h1 : i ≤ b.length) (hb : b.length < 4611686018427387904) : ∃ x i' h', spec_l1PickInt.f b i h l = some (x, i', h') ∧ x ∈ l ∧ 0 ≤ i' ∧ i' ≤ b.length := by
  obtain ⟨x, i', h', e, b1⟩ := l1Below_f b i h (l.length : Int) h0 h1 hb
  unfold spec_l1PickInt.f
  have hx := b1.2.1 (by omega)
  obtain ⟨n, rfl⟩ := Int.eq_ofNat_of_zero_le b1.1
  rw [e, Option.bind_some]
  simp only []
  rw [if_pos b1.1, if_pos hx]
  refine ⟨_, _, _, rfl, ?_, b1.2.2.2.2⟩
  show rd l (n : Int) ∈ l
  rw [rd_nat]
  exact getD_mem l n (by omega)

/-! drawcfg -/
theorem l4DrawRight_l0 (b : List Int) (hb : b.length < 4611686018427387904) (c : Int) (n : Nat) (hn : n < 100) : ∀ i, i ≤ n → ∀ (out : List Int) (j h : Int), 0 ≤ j → j ≤ b.length → out.length = i → ∃ r c' j' h', Ev (fun k => spec_l4DrawRight.l0 k (n : Int) (i : Int) b j h out c) (r, c', j', h') ∧ r.length = n ∧ 0 ≤ j' ∧ j' ≤ b.length := by
  refine down n ?_ ?_
  · intro out j h h0 h1 ho
    obtain ⟨o, j1, g1, e1, b1⟩ := l1Once_f b j h 2 h0 h1 hb
    cases o with
    | true => exact ⟨out, 2, j1, g1, Ev.step (f := fun _ => some (out, 2, j1, g1)) (fun k => by rw [spec_l4DrawRight.l0, if_neg (by omega), e1, Option.bind_some, if_pos rfl]) (Ev.now _), ho, b1⟩
    | false => exact ⟨out, c, j1, g1, Ev.step (f := fun _ => some (out, c, j1, g1)) (fun k => by rw [spec_l4DrawRight.l0, if_neg (by omega), e1, Option.bind_some, if_neg Bool.false_ne_true]) (Ev.now _), ho, b1⟩
  · intro i hi ih out j h h0 h1 ho
    obtain ⟨x, j1, g1, e1, b1⟩ := l1Below_f b j h 5 h0 h1 hb
    obtain ⟨r, c', j', h', er, b2⟩ := ih (out ++ [x]) j1 g1 b1.2.2.2.2.1 b1.2.2.2.2.2 (by simp; omega)
    have hi1 : (i : Int) < (n : Int) := by omega
    have hw := wsucc i (by omega)
    exact ⟨r, c', j', h', Ev.step (f := fun k => spec_l4DrawRight.l0 k (n : Int) ((i + 1 : Nat) : Int) b j1 g1 (out ++ [x]) c) (fun k => by rw [spec_l4DrawRight.l0, if_pos hi1, e1, Option.bind_some, if_pos (by omega), hw]) er, b2⟩
theorem l4Draw_f (b : List Int) (hb : b.length < 4611686018427387904) (j h : Int) (h0 : 0 ≤ j) (h1 : j ≤ b.length) : ∃ ds c j' h', Ev (fun k => spec_l4Draw.f k b j h) (ds, c, j', h') ∧ ds.length ≤ 9 ∧ 0 ≤ j' ∧ j' ≤ b.length := by
  obtain ⟨x, j1, g1, e1, b1⟩ := l1Below_f b j h 3 h0 h1 hb
  obtain ⟨y, j2, g2, e2, b2⟩ := l1Below_f b j1 g1 5 b1.2.2.2.2.1 b1.2.2.2.2.2 hb
  have ky := b2.2.1 (by omega)
  obtain ⟨n, hn⟩ := Int.eq_ofNat_of_zero_le b2.1
  have wn : wrap64 (3 + y) = ((3 + n : Nat) : Int) := by rw [w64 (by omega) (by omega)]; omega
  obtain ⟨r, c, j3, g3, er, hr, b3⟩ := l4DrawRight_l0 b hb (wrap64 (1 + x)) (3 + n) (by omega) 0 (by omega) [] j2 g2 b2.2.2.2.2.1 b2.2.2.2.2.2 rfl
  have hright : Ev (fun k => spec_l4DrawRight.f k b j h) (r, c, j3, g3) := by
    unfold spec_l4DrawRight.f
    refine Evbind (Evconst e1) (Evbind (Evconst e2) ?_)
    show Ev (fun k => spec_l4DrawRight.l0 k (wrap64 (3 + y)) 0 b j2 g2 [] (wrap64 (1 + x))) _
    rw [wn]; exact er
  obtain ⟨z, j4, g4, e4, b4⟩ := l1Below_f b j3 g3 20 b3.1 b3.2 hb
  by_cases c0 : z = 0
  · obtain ⟨v, j5, g5, e5, hv, b5⟩ := l1PickInt_f b j4 g4 [0, 4, 5] (by decide) (by decide) b4.2.2.2.2.1 b4.2.2.2.2.2 hb
    refine ⟨r, v, j5, g5, ?_, by omega, b5⟩
    unfold spec_l4Draw.f
    exact Evbind hright (Evbind (Evconst e4) (Evpos c0 (Evbind (Evconst e5) (Ev.now _))))
  by_cases c1 : z = 1
  · obtain ⟨v, j5, g5, e5, hv, b5⟩ := l1PickInt_f b j4 g4 [(-1), 7, 8] (by decide) (by decide) b4.2.2.2.2.1 b4.2.2.2.2.2 hb
    refine ⟨r.set (0 : Int).toNat v, c, j5, g5, ?_, by simp; omega, b5⟩
    unfold spec_l4Draw.f
    exact Evbind hright (Evbind (Evconst e4) (Evneg c0 (Evpos c1 (Evbind (Evconst e5) (Evpos (show (0 : Int) < (r.length : Int) by omega) (Ev.now _))))))
  by_cases c2 : z = 2
  · obtain ⟨v, j5, g5, e5, hv, b5⟩ := l1PickInt_f b j4 g4 [0, 8, 9] (by decide) (by decide) b4.2.2.2.2.1 b4.2.2.2.2.2 hb
    simp only [List.mem_cons, List.not_mem_nil, or_false] at hv
    refine ⟨List.replicate (v : Int).toNat 0, c, j5, g5, ?_, by simp; omega, b5⟩
    unfold spec_l4Draw.f
    exact Evbind hright (Evbind (Evconst e4) (Evneg c0 (Evneg c1 (Evpos c2 (Evbind (Evconst e5) (Evpos (show 0 ≤ v by omega) (Evpos (show v.toNat ≤ 35184372088832 by omega) (Ev.now _))))))))
  · refine ⟨r, c, j4, g4, ?_, by omega, b4.2.2.2.2⟩
    unfold spec_l4Draw.f
    exact Evbind hright (Evbind (Evconst e4) (Evneg c0 (Evneg c1 (Evneg c2 (Ev.now _)))))

/-! shas -/
theorem has_f (l : List Int) (a : Int) (hn : l.length < 4611686018427387904) : Ev (fun k => spec_l4Has.f k l a) (decide (a ∈ l)) := by
  have key : ∀ i, i ≤ l.length → Ev (fun k => spec_l4Has.l0 k l a (i : Int)) (decide (a ∈ l.drop i)) := by
    refine down l.length ?_ ?_
    · refine Ev.step (f := fun _ => some false) (fun k => by rw [spec_l4Has.l0, if_neg (by omega)]) (Evto ?_ (Ev.now _))
      rw [List.drop_length]; simp
    · intro i hi ih
      have hi1 : (i : Int) < l.length := by omega
      have hi2 : 0 ≤ (i : Int) := by omega
      have hw := wsucc i (by omega)
      rw [drop_at l i hi]
      by_cases e : l.getD i 0 = a
      · refine Ev.step (f := fun _ => some true) (fun k => by rw [spec_l4Has.l0, if_pos hi1, if_pos hi2, rd_nat, if_pos e]) (Evto ?_ (Ev.now _))
        symm; apply decide_eq_true; rw [e]; exact List.mem_cons_self
      · refine Ev.step (f := fun k => spec_l4Has.l0 k l a ((i + 1 : Nat) : Int)) (fun k => by rw [spec_l4Has.l0, if_pos hi1, if_pos hi2, rd_nat, if_neg e, hw]) (Evto ?_ ih)
        apply decide_eq_decide.2; rw [List.mem_cons]
        exact ⟨fun h => .inr h, fun h => h.resolve_left (fun hh => e hh.symm)⟩
  exact Ev.congr (fun k => by rw [spec_l4Has.f]; rfl) (Evto (by rw [List.drop_zero]) (key 0 (by omega)))

/-! drawnodes -/
theorem l4Put_f (l : List Int) (x : Int) (hn : l.length < 1000) : ∃ r, Ev (fun k => spec_l4Put.f k l x) r ∧ r.length ≤ l.length + 1 := by
  have key : ∀ i, i ≤ l.length → ∀ (out : List Int) (p : Bool), out.length ≤ i + (if p = true then 1 else 0) → ∃ r, Ev (fun k => spec_l4Put.l0 k l x out p (i : Int)) r ∧ r.length ≤ out.length + (l.length - i) + (if p = true then 0 else 1) := by
    refine down l.length ?_ ?_
    · intro out p ho
      have ho3 : out.length ≤ l.length + 1 := by split at ho <;> omega
      cases p with
      | true => exact ⟨out, Ev.step (f := fun _ => some out) (fun k => by rw [spec_l4Put.l0, if_neg (by omega), if_pos rfl]) (Ev.now _), by simp⟩
      | false => exact ⟨out ++ [x], Ev.step (f := fun _ => some (out ++ [x])) (fun k => by rw [spec_l4Put.l0, if_neg (by omega), if_neg Bool.false_ne_true, if_pos (by omega)]) (Ev.now _), by simp⟩
    · intro i hi ih out p ho
      have ho3 : out.length ≤ l.length + 1 := by split at ho <;> omega
      have hi1 : (i : Int) < l.length := by omega
      have hi2 : 0 ≤ (i : Int) := by omega
      have hw := wsucc i (by omega)
      cases p with
      | true =>
        obtain ⟨r, er, hr⟩ := ih (out ++ [rd l (i : Int)]) true (by simp at ho ⊢; omega)
        exact ⟨r, Ev.step (f := fun k => spec_l4Put.l0 k l x (out ++ [rd l (i : Int)]) true ((i + 1 : Nat) : Int)) (fun k => by rw [spec_l4Put.l0, if_pos hi1, if_pos rfl, if_pos hi2, if_pos (by omega), hw]) er, by simp at hr ⊢; omega⟩
      | false =>
        have ho1 : out.length < 17592186044416 := by omega
        have ho2 : (out ++ [x]).length < 17592186044416 := by rw [List.length_append]; simp only [List.length_cons, List.length_nil]; omega
        by_cases hg : rd l (i : Int) > x
        · obtain ⟨r, er, hr⟩ := ih ((out ++ [x]) ++ [rd l (i : Int)]) true (by simp at ho ⊢; omega)
          exact ⟨r, Ev.step (f := fun k => spec_l4Put.l0 k l x ((out ++ [x]) ++ [rd l (i : Int)]) true ((i + 1 : Nat) : Int)) (fun k => by rw [spec_l4Put.l0, if_pos hi1, if_neg Bool.false_ne_true, if_pos hi2, if_pos hg, if_pos ho1, Option.bind_some, if_pos ho2, hw]) er, by simp at hr ⊢; omega⟩
        · obtain ⟨r, er, hr⟩ := ih (out ++ [rd l (i : Int)]) false (by simp at ho ⊢; omega)
          exact ⟨r, Ev.step (f := fun k => spec_l4Put.l0 k l x (out ++ [rd l (i : Int)]) false ((i + 1 : Nat) : Int)) (fun k => by rw [spec_l4Put.l0, if_pos hi1, if_neg Bool.false_ne_true, if_pos hi2, if_neg hg, if_pos (by omega), hw]) er, by simp at hr ⊢; omega⟩
  obtain ⟨r, er, hr⟩ := key 0 (by omega) [] (decide (x ∈ l)) (by simp)
  refine ⟨r, ?_, ?_⟩
  · unfold spec_l4Put.f
    exact Evbind (has_f l x (by omega)) er
  · have : (if decide (x ∈ l) = true then 0 else 1) ≤ 1 := by split <;> omega
    simp only [List.length_nil] at hr; omega
theorem l1Max_f (a b : Int) : ∃ r, spec_l1Max.f a b = some r := by unfold spec_l1Max.f; split <;> exact ⟨_, rfl⟩
theorem l4DrawNodes_f (b : List Int) (hb : b.length < 4611686018427387904) (ds : List Int) (c : Int) (hd : ds.length ≤ 9) (j h : Int) (h0 : 0 ≤ j) (h1 : j ≤ b.length) : ∃ l j' h', Ev (fun k => spec_l4DrawNodes.f k b j h ds c) (l, j', h') ∧ l.length ≤ 20 ∧ 0 ≤ j' ∧ j' ≤ b.length := by
  have key : ∀ n : Nat, n < 12 → ∀ i, i ≤ n → ∀ (out : List Int) (j h : Int), 0 ≤ j → j ≤ b.length → out.length ≤ i → ∃ l j' h', Ev (fun k => spec_l4DrawNodes.l0 k out (n : Int) (i : Int) b j h ds c) (l, j', h') ∧ l.length ≤ 20 ∧ 0 ≤ j' ∧ j' ≤ b.length := by
    intro n hn
    refine down n ?_ ?_
    · intro out j h h0 h1 ho
      obtain ⟨o, j1, g1, e1, b1⟩ := l1Once_f b j h 20 h0 h1 hb
      cases o with
      | true =>
        obtain ⟨v, j5, g5, e5, hv, b5⟩ := l1PickInt_f b j1 g1 [(-1), 0, (ds.length : Int)] (by simp) (by simp) b1.1 b1.2 hb
        exact ⟨out ++ [v], j5, g5, Ev.step (f := fun _ => some (out ++ [v], j5, g5)) (fun k => by rw [spec_l4DrawNodes.l0, if_neg (by omega), e1, Option.bind_some, if_pos rfl, e5, Option.bind_some, if_pos (by omega)]) (Ev.now _), by simp; omega, b5⟩
      | false => exact ⟨out, j1, g1, Ev.step (f := fun _ => some (out, j1, g1)) (fun k => by rw [spec_l4DrawNodes.l0, if_neg (by omega), e1, Option.bind_some, if_neg Bool.false_ne_true]) (Ev.now _), by omega, b1⟩
    · intro i hi ih out j h h0 h1 ho
      obtain ⟨m, em⟩ := l1Max_f (ds.length : Int) 1
      obtain ⟨x, j1, g1, e1, b1⟩ := l1Below_f b j h m h0 h1 hb
      obtain ⟨out', eo, ho'⟩ := l4Put_f out x (by omega)
      obtain ⟨l, j', h', el, hl⟩ := ih out' j1 g1 b1.2.2.2.2.1 b1.2.2.2.2.2 (by omega)
      have hi1 : (i : Int) < (n : Int) := by omega
      have hw := wsucc i (by omega)
      exact ⟨l, j', h', Ev.step (f := fun k => (spec_l4Put.f k out x).bind fun t => spec_l4DrawNodes.l0 k t (n : Int) ((i + 1 : Nat) : Int) b j1 g1 ds c) (fun k => by rw [spec_l4DrawNodes.l0, if_pos hi1, em, Option.bind_some, e1, Option.bind_some, hw]) (Evbind eo el), hl⟩
  have wd : wrap64 ((ds.length : Int) + 2) = (ds.length : Int) + 2 := w64 (by omega) (by omega)
  obtain ⟨x, j1, g1, e1, b1⟩ := l1Below_f b j h ((ds.length : Int) + 2) h0 h1 hb
  have kx := b1.2.1 (by omega)
  obtain ⟨n, rfl⟩ := Int.eq_ofNat_of_zero_le b1.1
  obtain ⟨l, j', h', el, hl⟩ := key n (by omega) 0 (by omega) [] j1 g1 b1.2.2.2.2.1 b1.2.2.2.2.2 (by simp)
  refine ⟨l, j', h', ?_, hl⟩
  unfold spec_l4DrawNodes.f
  rw [wd]
  exact Evbind (Evconst e1) el

/-! drawtwo -/
theorem l4DrawTwo_f (b : List Int) (hb : b.length < 4611686018427387904) : ∃ ds c l m, Ev (fun k => spec_l4DrawTwo.f k b) (ds, c, l, m) ∧ ds.length ≤ 9 ∧ l.length ≤ 20 ∧ m.length ≤ 20 := by
  obtain ⟨h, e0⟩ := l1New_f b hb
  obtain ⟨ds, c, j1, g1, e1, hd, b1⟩ := l4Draw_f b hb 0 h (by omega) (by omega)
  obtain ⟨l, j2, g2, e2, hl, b2⟩ := l4DrawNodes_f b hb ds c hd j1 g1 b1.1 b1.2
  obtain ⟨m, j3, g3, e3, hm, b3⟩ := l4DrawNodes_f b hb ds c hd j2 g2 b2.1 b2.2
  obtain ⟨o, j4, g4, e4, b4⟩ := l1Once_f b j3 g3 2 b3.1 b3.2 hb
  cases o with
  | false =>
    refine ⟨ds, c, l, m, ?_, hd, hl, hm⟩
    unfold spec_l4DrawTwo.f
    exact Evbind e0 (Evbind e1 (Evbind e2 (Evbind e3 (Evbind (Evconst e4) (Evneg Bool.false_ne_true (Ev.now _))))))
  | true =>
    have key : ∀ i, i ≤ l.length → ∀ (out : List Int) (j h : Int), 0 ≤ j → j ≤ b.length → out.length ≤ i → ∃ m, Ev (fun k => spec_l4DrawTwo.l0 k l out (i : Int) b j h ds c) (ds, c, l, m) ∧ m.length ≤ 20 := by
      refine down l.length ?_ ?_
      · intro out j h h0 h1 ho
        exact ⟨out, Ev.step (f := fun _ => some (ds, c, l, out)) (fun k => by rw [spec_l4DrawTwo.l0, if_neg (by omega)]) (Ev.now _), by omega⟩
      · intro i hi ih out j h h0 h1 ho
        have hi1 : (i : Int) < l.length := by omega
        have hi2 : 0 ≤ (i : Int) := by omega
        have ho1 : out.length < 17592186044416 := by omega
        have ho2 : out.length ≤ i + 1 := by omega
        have ho3 : (out ++ [rd l (i : Int)]).length ≤ i + 1 := by rw [List.length_append]; simp only [List.length_cons, List.length_nil]; omega
        have hw := wsucc i (by omega)
        obtain ⟨o, j1, g1, e1, b1⟩ := l1Once_f b j h 4 h0 h1 hb
        cases o with
        | true =>
          obtain ⟨m, em, hm⟩ := ih out j1 g1 b1.1 b1.2 ho2
          exact ⟨m, Ev.step (f := fun k => spec_l4DrawTwo.l0 k l out ((i + 1 : Nat) : Int) b j1 g1 ds c) (fun k => by rw [spec_l4DrawTwo.l0, if_pos hi1, e1, Option.bind_some, if_pos rfl, hw]) em, hm⟩
        | false =>
          obtain ⟨m, em, hm⟩ := ih (out ++ [rd l (i : Int)]) j1 g1 b1.1 b1.2 ho3
          exact ⟨m, Ev.step (f := fun k => spec_l4DrawTwo.l0 k l (out ++ [rd l (i : Int)]) ((i + 1 : Nat) : Int) b j1 g1 ds c) (fun k => by rw [spec_l4DrawTwo.l0, if_pos hi1, e1, Option.bind_some, if_neg Bool.false_ne_true, if_pos hi2, if_pos ho1, hw]) em, hm⟩
    obtain ⟨m2, em2, hm2⟩ := key 0 (by omega) [] j4 g4 b4.1 b4.2 (by simp)
    refine ⟨ds, c, l, m2, ?_, hd, hl, hm2⟩
    unfold spec_l4DrawTwo.f
    exact Evbind e0 (Evbind e1 (Evbind e2 (Evbind e3 (Evbind (Evconst e4) (Evpos rfl em2)))))

/-! cfgm -/
def domOk (d : Int) : Bool := decide (0 ≤ d ∧ d ≤ 7)
def configOk (ds : List Int) (c : Int) : Bool := decide (1 ≤ ds.length ∧ ds.length ≤ 8) && decide (1 ≤ c ∧ c ≤ 4) && ds.all domOk
theorem all_drop (p : Int → Bool) (l : List Int) (i : Nat) (h : i < l.length) : (l.drop i).all p = (p (l.getD i 0) && (l.drop (i + 1)).all p) := by
  rw [drop_at l i h, List.all_cons]
theorem configOk_len {ds : List Int} {c : Int} (h : configOk ds c = true) : 1 ≤ ds.length ∧ ds.length ≤ 8 := by
  simp only [configOk, Bool.and_eq_true, decide_eq_true_eq] at h; exact h.1.1
theorem configOk_copies {ds : List Int} {c : Int} (h : configOk ds c = true) : 1 ≤ c ∧ c ≤ 4 := by
  simp only [configOk, Bool.and_eq_true, decide_eq_true_eq] at h; exact h.1.2
theorem configOk_dom {ds : List Int} {c : Int} (h : configOk ds c = true) (i : Nat) (hi : i < ds.length) : 0 ≤ ds.getD i 0 ∧ ds.getD i 0 ≤ 7 := by
  simp only [configOk, Bool.and_eq_true, List.all_eq_true] at h
  have := h.2 _ (getD_mem ds i hi)
  simpa [domOk] using this

/-! ascm -/
def ascP (hi : Int) : Int → List Int → Bool
  | _, [] => true
  | p, x :: t => decide (0 ≤ x ∧ x ≤ hi ∧ p < x) && ascP hi x t
def asc (hi : Int) (l : List Int) : Bool := ascP hi (-1) l

/-! nodesm -/
def nodesOk (ds : List Int) (c : Int) (l : List Int) : Bool := configOk ds c && asc ((ds.length : Int) - 1) l
theorem ascP_mem' (hi : Int) (l : List Int) : ∀ p, ascP hi p l = true → ∀ x ∈ l, 0 ≤ x ∧ x ≤ hi ∧ p < x := by
  induction l with
  | nil => intro p _ x hx; simp at hx
  | cons y t ih =>
    intro p h x hx
    simp only [ascP, Bool.and_eq_true, decide_eq_true_eq] at h
    rcases List.mem_cons.1 hx with rfl | hx
    · exact h.1
    · have := ih y h.2 x hx; omega
theorem nodesOk_mem {ds : List Int} {c : Int} {l : List Int} (h : nodesOk ds c l = true) : configOk ds c = true ∧ ∀ x ∈ l, 0 ≤ x ∧ x < ds.length := by
  simp only [nodesOk, Bool.and_eq_true] at h
  exact ⟨h.1, fun x hx => by have := ascP_mem' _ l (-1) h.2 x hx; omega⟩

/-! restm -/
def less (set_ list_ : List Int) : List Int := set_.filter (fun x => !decide (x ∈ list_))
def restL (ds : List Int) (c : Int) (set_ list_ : List Int) : List Int := if nodesOk ds c set_ = true ∧ nodesOk ds c list_ = true then less set_ list_ else []
theorem filter_drop_i (p : Int → Bool) (l : List Int) (i : Nat) (h : i < l.length) : (l.drop i).filter p = (if p (l.getD i 0) = true then [l.getD i 0] else []) ++ (l.drop (i + 1)).filter p := by
  rw [drop_at l i h, List.filter_cons]
  by_cases hp : p (l.getD i 0) = true
  · rw [if_pos hp, if_pos hp]; rfl
  · rw [if_neg hp, if_neg hp]; rfl
theorem restL_len (ds : List Int) (c : Int) (s l : List Int) : (restL ds c s l).length ≤ s.length := by
  unfold restL less
  split
  · exact List.length_filter_le _ _
  · simp

/-! spanm -/
def addD (acc : List Int) (d : Int) : List Int := if d ∈ acc then acc else acc ++ [d]
def domsG (ds l : List Int) (acc : List Int) : List Int := l.foldl (fun acc n => addD acc (ds.getD n.toNat 0)) acc
def spanL (ds l : List Int) : Int := ((domsG ds l []).length : Int)
def spanOf (ds : List Int) (c : Int) (l : List Int) : Int := if nodesOk ds c l = true then spanL ds l else -1
theorem domsG_cons (ds : List Int) (n : Int) (l : List Int) (acc : List Int) : domsG ds (n :: l) acc = domsG ds l (addD acc (ds.getD n.toNat 0)) := rfl
theorem addD_len (acc : List Int) (d : Int) : acc.length ≤ (addD acc d).length ∧ (addD acc d).length ≤ acc.length + 1 := by
  unfold addD
  by_cases h : d ∈ acc
  · rw [if_pos h]; omega
  · rw [if_neg h]; simp
theorem domsG_len (ds l : List Int) : ∀ acc, acc.length ≤ (domsG ds l acc).length ∧ (domsG ds l acc).length ≤ acc.length + l.length := by
  induction l with
  | nil => intro acc; simp [domsG]
  | cons n t ih =>
    intro acc
    rw [domsG_cons]
    have h1 := ih (addD acc (ds.getD n.toNat 0))
    have h2 := addD_len acc (ds.getD n.toNat 0)
    simp only [List.length_cons]; omega

/-! spanlaw -/
theorem spanL_nonneg (ds l : List Int) : 0 ≤ spanL ds l := by unfold spanL; omega
theorem spanL_le (ds l : List Int) : spanL ds l ≤ l.length := by
  have := domsG_len ds l []
  unfold spanL; simp only [List.length_nil] at this; omega
theorem domsG_append (ds l m acc : List Int) : domsG ds (l ++ m) acc = domsG ds m (domsG ds l acc) := by unfold domsG; rw [List.foldl_append]
theorem spanL_snoc (ds l : List Int) (x : Int) : spanL ds (l ++ [x]) = spanL ds l ∨ spanL ds (l ++ [x]) = spanL ds l + 1 := by
  unfold spanL
  rw [domsG_append]
  have h : domsG ds [x] (domsG ds l []) = addD (domsG ds l []) (ds.getD x.toNat 0) := rfl
  rw [h]
  have := addD_len (domsG ds l []) (ds.getD x.toNat 0)
  omega
theorem ascP_snoc (hi x : Int) (hx0 : 0 ≤ x) (hx1 : x ≤ hi) (l : List Int) : ∀ p, ascP hi p l = true → p < x → (∀ y ∈ l, y < x) → ascP hi p (l ++ [x]) = true := by
  induction l with
  | nil => intro p _ hp _; simp [ascP, hx0, hx1, hp]
  | cons y t ih =>
    intro p h hp hy
    simp only [ascP, List.cons_append, Bool.and_eq_true, decide_eq_true_eq] at h ⊢
    exact ⟨h.1, ih y h.2 (hy y List.mem_cons_self) (fun z hz => hy z (List.mem_cons_of_mem _ hz))⟩
theorem ascP_last (hi : Int) (l : List Int) : ∀ p, ascP hi p l = true → ∀ y ∈ l, y ≤ l.getD (l.length - 1) 0 := by
  induction l with
  | nil => intro p _ y hy; simp at hy
  | cons x t ih =>
    intro p h y hy
    simp only [ascP, Bool.and_eq_true, decide_eq_true_eq] at h
    cases t with
    | nil => have := List.mem_singleton.1 hy; subst this; simp
    | cons z t' =>
      have e : (x :: z :: t').getD ((x :: z :: t').length - 1) 0 = (z :: t').getD ((z :: t').length - 1) 0 := by simp [List.getD_eq_getElem?_getD]
      rw [e]
      have hz := ih x h.2 z List.mem_cons_self
      have hxz : x < z := by have := ascP_mem' hi (z :: t') x h.2 z List.mem_cons_self; omega
      rcases List.mem_cons.1 hy with rfl | hy
      · omega
      · exact ih x h.2 y hy

/-! restlaw -/
theorem ascP_filter (hi : Int) (p : Int → Bool) (l : List Int) : ∀ q, ascP hi q l = true → ascP hi q (l.filter p) = true := by
  induction l with
  | nil => intro q h; exact h
  | cons x t ih =>
    intro q h
    simp only [ascP, Bool.and_eq_true, decide_eq_true_eq] at h
    rw [List.filter_cons]
    by_cases hp : p x = true
    · rw [if_pos hp]; simp only [ascP, Bool.and_eq_true, decide_eq_true_eq]; exact ⟨h.1, ih x h.2⟩
    · rw [if_neg hp]
      have h2 := ih x h.2
      cases hf : t.filter p with
      | nil => rfl
      | cons y u =>
        rw [hf] at h2
        simp only [ascP, Bool.and_eq_true, decide_eq_true_eq] at h2 ⊢
        exact ⟨⟨h2.1.1, h2.1.2.1, by omega⟩, h2.2⟩
theorem nodesOk_filter {ds : List Int} {c : Int} {l : List Int} (h : nodesOk ds c l = true) (p : Int → Bool) : nodesOk ds c (l.filter p) = true := by
  simp only [nodesOk, Bool.and_eq_true] at h ⊢
  exact ⟨h.1, ascP_filter _ p l _ h.2⟩
theorem nodup_sub (xs : List Int) : ∀ ys : List Int, xs.Nodup → (∀ x ∈ xs, x ∈ ys) → xs.length ≤ ys.length := by
  induction xs with
  | nil => intro ys _ _; simp
  | cons x t ih =>
    intro ys hn hs
    rw [List.nodup_cons] at hn
    have hx := hs x List.mem_cons_self
    have h1 := ih (ys.erase x) hn.2 (fun y hy => by
      have hne : y ≠ x := fun e => hn.1 (e ▸ hy)
      exact (List.mem_erase_of_ne hne).2 (hs y (List.mem_cons_of_mem _ hy)))
    have h2 := List.length_erase_of_mem hx
    have h3 : 0 < ys.length := List.length_pos_of_mem hx
    simp only [List.length_cons]; omega
theorem addD_mem (acc : List Int) (d e : Int) : e ∈ addD acc d ↔ e ∈ acc ∨ e = d := by
  unfold addD
  by_cases h : d ∈ acc
  · rw [if_pos h]; exact ⟨fun hh => .inl hh, fun hh => hh.elim id (fun he => he ▸ h)⟩
  · rw [if_neg h]; simp
theorem addD_nodup (acc : List Int) (d : Int) (h : acc.Nodup) : (addD acc d).Nodup := by
  unfold addD
  by_cases hd : d ∈ acc
  · rw [if_pos hd]; exact h
  · rw [if_neg hd]; exact List.nodup_append.2 ⟨h, by simp, fun a ha b hb => by have := List.mem_singleton.1 hb; subst this; exact fun e => hd (e ▸ ha)⟩
theorem domsG_mem (ds l : List Int) : ∀ acc e, e ∈ domsG ds l acc ↔ e ∈ acc ∨ ∃ n ∈ l, ds.getD n.toNat 0 = e := by
  induction l with
  | nil => intro acc e; simp [domsG]
  | cons n t ih =>
    intro acc e
    rw [domsG_cons, ih, addD_mem]
    constructor
    · rintro ((h | rfl) | ⟨m, hm, rfl⟩)
      · exact .inl h
      · exact .inr ⟨n, List.mem_cons_self, rfl⟩
      · exact .inr ⟨m, List.mem_cons_of_mem _ hm, rfl⟩
    · rintro (h | ⟨m, hm, rfl⟩)
      · exact .inl (.inl h)
      · rcases List.mem_cons.1 hm with rfl | hm
        · exact .inl (.inr rfl)
        · exact .inr ⟨m, hm, rfl⟩
theorem domsG_nodup (ds l : List Int) : ∀ acc : List Int, acc.Nodup → (domsG ds l acc).Nodup := by
  induction l with
  | nil => intro acc h; exact h
  | cons n t ih => intro acc h; rw [domsG_cons]; exact ih _ (addD_nodup acc _ h)
theorem spanL_mono (ds l m : List Int) (h : ∀ x ∈ l, x ∈ m) : spanL ds l ≤ spanL ds m := by
  unfold spanL
  have := nodup_sub (domsG ds l []) (domsG ds m []) (domsG_nodup ds l [] List.nodup_nil) (fun e he => by
    rw [domsG_mem] at he ⊢
    rcases he with he | ⟨n, hn, rfl⟩
    · exact .inl he
    · exact .inr ⟨n, h n hn, rfl⟩)
  omega

/-! holdsm -/
def holdsL (ds : List Int) (c : Int) (l : List Int) : Bool := nodesOk ds c l && decide (spanL ds l ≥ c)

/-! enoughm -/
def enoughL (ds : List Int) (c : Int) (s l : List Int) : Bool := holdsL ds c s && nodesOk ds c l && decide ((less l s).length = 0) && decide (spanL ds (less s l) < c)
theorem less_split (l s : List Int) : (l.filter (fun x => decide (x ∈ s))).length + (less l s).length = l.length := by
  unfold less
  induction l with
  | nil => rfl
  | cons x t ih =>
    rw [List.filter_cons, List.filter_cons, List.length_cons]
    by_cases h : x ∈ s
    · rw [if_pos (decide_eq_true h), if_neg (by simp [h]), List.length_cons]; omega
    · rw [if_neg (by simp [h]), if_pos (by simp [h]), List.length_cons]; omega
theorem less_len (s l : List Int) : (less s l).length ≤ s.length := List.length_filter_le _ _
theorem holdsL_split {ds : List Int} {c : Int} {s : List Int} (h : holdsL ds c s = true) : nodesOk ds c s = true ∧ spanL ds s ≥ c := by
  simpa [holdsL] using h
theorem enoughL_split {ds : List Int} {c : Int} {s l : List Int} (h : enoughL ds c s l = true) : holdsL ds c s = true ∧ nodesOk ds c l = true ∧ (less l s).length = 0 ∧ spanL ds (less s l) < c := by
  simp only [enoughL, Bool.and_eq_true, decide_eq_true_eq] at h
  exact ⟨h.1.1.1, h.1.1.2, h.1.2, h.2⟩

/-! sless -/
theorem spec_l4Less_f (s l : List Int) (hs : s.length < 17592186044416) (hl : l.length < 4611686018427387904) : Ev (fun k => spec_l4Less.f k s l) (less s l) := by
  have key : ∀ i, i ≤ s.length → ∀ out : List Int, out.length ≤ i → Ev (fun k => spec_l4Less.l0 k s l out (i : Int)) (out ++ (s.drop i).filter (fun x => !decide (x ∈ l))) := by
    refine down s.length ?_ ?_
    · intro out ho
      refine Ev.step (f := fun _ => some out) (fun k => by rw [spec_l4Less.l0, if_neg (by omega)]) (Evto ?_ (Ev.now _))
      rw [List.drop_length]; simp
    · intro i hi ih out ho
      have hi1 : (i : Int) < s.length := by omega
      have hi2 : 0 ≤ (i : Int) := by omega
      have hw := wsucc i (by omega)
      rw [filter_drop_i _ s i hi]
      refine Ev.step (f := fun k => (spec_l4Has.f k l (s.getD i 0)).bind fun t => if t = true then spec_l4Less.l0 k s l out ((i + 1 : Nat) : Int) else (if out.length < 17592186044416 then spec_l4Less.l0 k s l (out ++ [s.getD i 0]) ((i + 1 : Nat) : Int) else none)) (fun k => by rw [spec_l4Less.l0, if_pos hi1, if_pos hi2, rd_nat, hw]) (Evbind (has_f l (s.getD i 0) hl) ?_)
      by_cases h : s.getD i 0 ∈ l
      · refine Evpos (decide_eq_true h) (Evto ?_ (ih out (by omega)))
        generalize s.getD i 0 = v at *; simp [h]
      · refine Evneg (by generalize s.getD i 0 = v at *; simpa using h) (Evpos (by omega) (Evto ?_ (ih (out ++ [s.getD i 0]) (by simp; omega))))
        generalize s.getD i 0 = v at *; simp [h]
  exact Ev.congr (fun k => by rw [spec_l4Less.f]; rfl) (key 0 (by omega) [] (by simp))

/-! specin -/
theorem spec_l1In_f (a b c : Int) : spec_l1In.f a b c = some (decide (b ≤ a ∧ a ≤ c)) := by
  unfold spec_l1In.f
  by_cases h : a ≥ b
  · rw [if_pos h]; congr 1; exact decide_eq_decide.2 (by omega)
  · rw [if_neg h]; congr 1; symm; exact decide_eq_false (by omega)

/-! scfg -/
theorem spec_ConfigOk_l0 (ds : List Int) (c : Int) (hn : ds.length < 4611686018427387904) : ∀ i, i ≤ ds.length → Ev (fun k => spec_ConfigOk.l0 k (i : Int) ds c) ((ds.drop i).all domOk) := by
  refine down ds.length ?_ ?_
  · refine Ev.step (f := fun _ => some true) (fun k => ?_) (Evto ?_ (Ev.now _))
    · rw [spec_ConfigOk.l0, if_neg (by omega)]
    · rw [List.drop_length]; rfl
  · intro i hi ih
    rw [all_drop domOk ds i hi]
    by_cases hr : 0 ≤ ds.getD i 0 ∧ ds.getD i 0 ≤ 7
    · refine Ev.step (f := fun k => spec_ConfigOk.l0 k ((i + 1 : Nat) : Int) ds c) (fun k => ?_) (Evto ?_ ih)
      · rw [spec_ConfigOk.l0, if_pos (by omega), if_pos (by omega), rd_nat, spec_l1In_f, Option.bind_some, if_pos (decide_eq_true hr), wsucc i (by omega)]
      · rw [domOk, decide_eq_true hr]; rfl
    · refine Ev.step (f := fun _ => some false) (fun k => ?_) (Evto ?_ (Ev.now _))
      · rw [spec_ConfigOk.l0, if_pos (by omega), if_pos (by omega), rd_nat, spec_l1In_f, Option.bind_some, decide_eq_false hr, if_neg (by decide)]
      · rw [domOk, decide_eq_false hr]; rfl
theorem spec_ConfigOk_f (ds : List Int) (c : Int) (hn : ds.length < 4611686018427387904) : Ev (fun k => spec_ConfigOk.f k ds c) (configOk ds c) := by
  unfold configOk
  by_cases h1 : 1 ≤ (ds.length : Int) ∧ (ds.length : Int) ≤ 8
  · rw [decide_eq_true (show 1 ≤ ds.length ∧ ds.length ≤ 8 by omega)]
    by_cases h2 : 1 ≤ c ∧ c ≤ 4
    · refine Ev.congr (f := fun k => spec_ConfigOk.j0 k false ds c) (fun k => ?_) (Ev.step (f := fun k => spec_ConfigOk.l0 k ((0 : Nat) : Int) ds c) (fun k => ?_) (Evto ?_ (spec_ConfigOk_l0 ds c hn 0 (by omega))))
      · rw [spec_ConfigOk.f, spec_l1In_f, Option.bind_some, if_pos (decide_eq_true h1), spec_l1In_f, Option.bind_some, decide_eq_true h2]; rfl
      · rw [spec_ConfigOk.j0, if_neg (by decide)]; rfl
      · rw [decide_eq_true h2]; rfl
    · refine Ev.congr (f := fun k => spec_ConfigOk.j0 k true ds c) (fun k => ?_) (Ev.step (f := fun _ => some false) (fun k => ?_) (Evto ?_ (Ev.now _)))
      · rw [spec_ConfigOk.f, spec_l1In_f, Option.bind_some, if_pos (decide_eq_true h1), spec_l1In_f, Option.bind_some, decide_eq_false h2]; rfl
      · rw [spec_ConfigOk.j0, if_pos rfl]
      · rw [decide_eq_false h2]; rfl
  · rw [decide_eq_false (show ¬ (1 ≤ ds.length ∧ ds.length ≤ 8) by omega)]
    refine Ev.congr (f := fun k => spec_ConfigOk.j0 k true ds c) (fun k => ?_) (Ev.step (f := fun _ => some false) (fun k => ?_) (Evto ?_ (Ev.now _)))
    · rw [spec_ConfigOk.f, spec_l1In_f, Option.bind_some, decide_eq_false h1, if_neg (by decide)]
    · rw [spec_ConfigOk.j0, if_pos rfl]
    · rfl

/-! sasc -/
theorem spec_l4Asc_l0 (l : List Int) (hi : Int) (hn : l.length < 4611686018427387904) (d : Nat) : ∀ (i : Nat) (p : Int), i + d = l.length → (i = 0 → p = -1) → (0 < i → p = l.getD (i - 1) 0) → Ev (fun k => spec_l4Asc.l0 k l 0 hi (i : Int)) (ascP hi p (l.drop i)) := by
  induction d with
  | zero =>
    intro i p hi' h0 h1
    refine Ev.step (f := fun _ => some true) (fun k => ?_) (Evto ?_ (Ev.now _))
    · rw [spec_l4Asc.l0, if_neg (by omega)]
    · rw [List.drop_eq_nil_of_le (by omega)]; rfl
  | succ d ih =>
    intro i p hi' h0 h1
    have hlt : i < l.length := by omega
    rw [drop_at l i hlt]
    by_cases hr : 0 ≤ l.getD i 0 ∧ l.getD i 0 ≤ hi
    · by_cases hz : i = 0
      · subst hz
        have hp := h0 rfl
        refine Ev.step (f := fun k => spec_l4Asc.l0 k l 0 hi ((0 + 1 : Nat) : Int)) (fun k => ?_) (Evto ?_ (ih (0 + 1) (l.getD 0 0) (by omega) (by omega) (fun _ => rfl)))
        · rw [spec_l4Asc.l0, if_pos (by omega), if_pos (by omega), rd_nat, spec_l1In_f, Option.bind_some, if_pos (decide_eq_true hr), if_neg (by omega), wsucc 0 (by omega)]
        · rw [ascP, decide_eq_true (by omega)]; rfl
      · have hp := h1 (by omega)
        have hm : wrap64 ((i : Int) - 1) = ((i - 1 : Nat) : Int) := by rw [w64 (by omega) (by omega)]; omega
        by_cases hlt2 : p < l.getD i 0
        · refine Ev.step (f := fun k => spec_l4Asc.l0 k l 0 hi ((i + 1 : Nat) : Int)) (fun k => ?_) (Evto ?_ (ih (i + 1) (l.getD i 0) (by omega) (by omega) (fun _ => rfl)))
          · rw [spec_l4Asc.l0, if_pos (by omega), if_pos (by omega), rd_nat, spec_l1In_f, Option.bind_some, if_pos (decide_eq_true hr), if_pos (by omega), hm, if_pos (by omega), if_pos (by omega), rd_nat, ← hp, if_neg (by omega), wsucc i (by omega)]
          · rw [ascP, decide_eq_true (by omega)]; rfl
        · refine Ev.step (f := fun _ => some false) (fun k => ?_) (Evto ?_ (Ev.now _))
          · rw [spec_l4Asc.l0, if_pos (by omega), if_pos (by omega), rd_nat, spec_l1In_f, Option.bind_some, if_pos (decide_eq_true hr), if_pos (by omega), hm, if_pos (by omega), if_pos (by omega), rd_nat, ← hp, if_pos (by omega)]
          · rw [ascP, decide_eq_false (by omega)]; rfl
    · refine Ev.step (f := fun _ => some false) (fun k => ?_) (Evto ?_ (Ev.now _))
      · rw [spec_l4Asc.l0, if_pos (by omega), if_pos (by omega), rd_nat, spec_l1In_f, Option.bind_some, decide_eq_false hr, if_neg (by decide)]
      · rw [ascP, decide_eq_false (by omega)]; rfl
theorem spec_l4Asc_f (l : List Int) (hi : Int) (hn : l.length < 4611686018427387904) : Ev (fun k => spec_l4Asc.f k l 0 hi) (asc hi l) :=
  Ev.congr (fun k => by rw [spec_l4Asc.f]; rfl) (spec_l4Asc_l0 l hi hn l.length 0 (-1) (by omega) (fun _ => rfl) (fun h => by omega))

/-! snodes -/
theorem spec_NodesOk_f (ds : List Int) (c : Int) (l : List Int) (hd : ds.length < 4611686018427387904) (hl : l.length < 4611686018427387904) : Ev (fun k => spec_NodesOk.f k ds c l) (nodesOk ds c l) := by
  unfold spec_NodesOk.f nodesOk
  refine Evbind (spec_ConfigOk_f ds c hd) ?_
  by_cases h : configOk ds c = true
  · have e : wrap64 ((ds.length : Int) - 1) = (ds.length : Int) - 1 := w64 (by omega) (by omega)
    refine Evpos h (Evto ?_ (Evbind (Ev.congr (fun k => by rw [e]) (spec_l4Asc_f l ((ds.length : Int) - 1) hl)) (Ev.now _)))
    rw [h]; rfl
  · refine Evneg h (Evto ?_ (Ev.now _))
    rw [Bool.eq_false_iff.2 h]; rfl

/-! sspan -/
theorem rdB (xs : List Bool) (d : Int) : rdOf false xs d = xs.getD d.toNat false := rfl
theorem spec_l4Span_l0 (ds l : List Int) (c : Int) (hc : configOk ds c = true) (hl : l.length < 4611686018427387904) (hm : ∀ x ∈ l, 0 ≤ x ∧ x < ds.length) : ∀ i, i ≤ l.length → ∀ (seen : List Bool) (acc : List Int), seen.length = 8 → (∀ d : Nat, d < 8 → (seen.getD d false = true ↔ (d : Int) ∈ acc)) → acc.length ≤ i →
    Ev (fun k => spec_l4Span.l0 k l seen (acc.length : Int) (i : Int) ds c) ((domsG ds (l.drop i) acc).length : Int) := by
  refine down l.length ?_ ?_
  · intro seen acc hs ha hal
    refine Ev.step (f := fun _ => some (acc.length : Int)) (fun k => ?_) (Evto ?_ (Ev.now _))
    · rw [spec_l4Span.l0, if_neg (by omega)]
    · rw [List.drop_length]; rfl
  · intro i hi ih seen acc hs ha hal
    have hx := hm _ (getD_mem l i hi)
    obtain ⟨n, hn⟩ := Int.eq_ofNat_of_zero_le hx.1
    have hnl : n < ds.length := by omega
    have hd := configOk_dom hc n hnl
    obtain ⟨d, hdd⟩ := Int.eq_ofNat_of_zero_le hd.1
    have hd8 : d < 8 := by omega
    have hw := wsucc i (by omega)
    rw [drop_at l i hi, domsG_cons, hn, Int.toNat_natCast, hdd]
    have hsd := ha d hd8
    have e1 : rd l (i : Int) = (n : Int) := by rw [rd_nat, hn]
    have e2 : rd ds (n : Int) = (d : Int) := by rw [rd_nat, hdd]
    have e3 : rdOf false seen (d : Int) = seen.getD d false := by rw [rdB, Int.toNat_natCast]
    have hi1 : (i : Int) < l.length := by omega
    have hi2 : 0 ≤ (i : Int) := by omega
    have hi3 : 0 ≤ (n : Int) := by omega
    have hi4 : (n : Int) < ds.length := by omega
    have hi5 : 0 ≤ (d : Int) := by omega
    have hi6 : (d : Int) < seen.length := by omega
    by_cases h : (d : Int) ∈ acc
    · have hs1 := hsd.2 h
      refine Ev.step (f := fun k => spec_l4Span.l0 k l seen (acc.length : Int) ((i + 1 : Nat) : Int) ds c) (fun k => ?_) (Evto ?_ (ih seen acc hs ha (by omega)))
      · rw [spec_l4Span.l0, if_pos hi1, if_pos hi2, e1, if_pos hi3, if_pos hi4, e2, if_pos hi5, if_pos hi6, e3, if_pos hs1, hw]
      · show _ = ((domsG ds (l.drop (i + 1)) (addD acc (d : Int))).length : Int)
        rw [addD, if_pos h]
    · have hs1 : ¬ seen.getD d false = true := fun hh => h (hsd.1 hh)
      have hw2 : wrap64 ((acc.length : Int) + 1) = ((acc.length + 1 : Nat) : Int) := wsucc acc.length (by omega)
      refine Ev.step (f := fun k => spec_l4Span.l0 k l (seen.set d true) (((acc ++ [(d : Int)]).length : Nat) : Int) ((i + 1 : Nat) : Int) ds c) (fun k => ?_) (Evto ?_ (ih (seen.set d true) (acc ++ [(d : Int)]) (by simp [hs]) ?_ (by simp; omega)))
      · rw [spec_l4Span.l0, if_pos hi1, if_pos hi2, e1, if_pos hi3, if_pos hi4, e2, if_pos hi5, if_pos hi6, e3, if_neg hs1, hw, hw2, Int.toNat_natCast]; simp
      · show _ = ((domsG ds (l.drop (i + 1)) (addD acc (d : Int))).length : Int)
        rw [addD, if_neg h]
      · intro q hq
        rw [List.getD_eq_getElem?_getD, List.getElem?_set]
        by_cases hqd : d = q
        · subst hqd; rw [if_pos rfl, if_pos (by omega)]; simp
        · rw [if_neg hqd, ← List.getD_eq_getElem?_getD, ha q hq]
          have : ¬ (q : Int) = (d : Int) := by omega
          simp [this]
theorem spec_l4Span_f (ds l : List Int) (c : Int) (h : nodesOk ds c l = true) (hl : l.length < 4611686018427387904) : Ev (fun k => spec_l4Span.f k ds c l) (spanL ds l) := by
  have hm := nodesOk_mem h
  refine Ev.congr (f := fun k => spec_l4Span.l0 k l (List.replicate 8 false) ((([] : List Int).length : Nat) : Int) ((0 : Nat) : Int) ds c) (fun k => by rw [spec_l4Span.f, if_pos (by decide)]; rfl) ?_
  refine spec_l4Span_l0 ds l c hm.1 hl hm.2 0 (by omega) _ [] (by simp) (fun d hd => ?_) (by simp)
  have e : (List.replicate 8 false).getD d false = false := by rw [List.getD_eq_getElem?_getD, List.getElem?_replicate, if_pos hd]; rfl
  rw [e]; simp

/-! sholds -/
theorem spec_Holds_f (ds : List Int) (c : Int) (l : List Int) (hd : ds.length < 4611686018427387904) (hl : l.length < 4611686018427387904) : Ev (fun k => spec_Holds.f k ds c l) (holdsL ds c l) := by
  unfold spec_Holds.f holdsL
  refine Evbind (spec_NodesOk_f ds c l hd hl) ?_
  by_cases h : nodesOk ds c l = true
  · rw [h, Bool.true_and]; exact Evpos rfl (Evbind (spec_l4Span_f ds l c h hl) (Ev.now _))
  · rw [Bool.eq_false_iff.2 h]; exact Evneg (by decide) (Ev.now _)

/-! senough -/
theorem spec_Enough_f (ds : List Int) (c : Int) (s l : List Int) (hd : ds.length < 4611686018427387904) (hs : s.length < 17592186044416) (hl : l.length < 17592186044416) : Ev (fun k => spec_Enough.f k ds c s l) (enoughL ds c s l) := by
  have hout : Ev (fun k => spec_Enough.j0 k s l true ds c) false := Ev.step (f := fun _ => some false) (fun k => by rw [spec_Enough.j0, if_pos rfl]) (Ev.now _)
  unfold spec_Enough.f enoughL
  refine Evbind (spec_Holds_f ds c s hd (by omega)) ?_
  cases hh : holdsL ds c s with
  | false => exact Evneg Bool.false_ne_true hout
  | true =>
    refine Evpos rfl (Evbind (spec_NodesOk_f ds c l hd (by omega)) ?_)
    cases hn : nodesOk ds c l with
    | false => exact Evneg Bool.false_ne_true hout
    | true =>
      refine Evpos rfl (Evbind (spec_l4Less_f l s hl (by omega)) ?_)
      by_cases h0 : (less l s).length = 0
      · rw [decide_eq_true h0, decide_eq_false (show ¬ ((less l s).length : Int) > 0 by omega)]
        have hns := (holdsL_split hh).1
        have hnl : nodesOk ds c (less s l) = true := nodesOk_filter hns _
        have hlen := less_len s l
        refine Ev.step (fun k => by rw [spec_Enough.j0, if_neg Bool.false_ne_true]) ?_
        exact Evbind (spec_l4Less_f s l hs (by omega)) (Evbind (spec_l4Span_f ds (less s l) c hnl (by omega)) (Ev.now _))
      · rw [decide_eq_false h0, decide_eq_true (show ((less l s).length : Int) > 0 by omega)]
        exact hout

/-! within -/
theorem impl_within_f (a b c : Int) : impl_within.f a b c = some (decide (b ≤ a ∧ a ≤ c)) := by
  unfold impl_within.f
  by_cases h : a ≥ b
  · rw [if_pos h]; congr 1; exact decide_eq_decide.2 (by omega)
  · rw [if_neg h]; congr 1; symm; exact decide_eq_false (by omega)

/-! icfg -/
theorem impl_ConfigOk_l0 (ds : List Int) (c : Int) (hn : ds.length < 4611686018427387904) : ∀ i, i ≤ ds.length → Ev (fun k => impl_ConfigOk.l0 k ds (ds.length : Int) (i : Int) ds c) (decide (1 ≤ ds.length ∧ ds.length ≤ 8) && decide (1 ≤ c ∧ c ≤ 4) && (ds.drop i).all domOk) := by
  refine down ds.length ?_ ?_
  · rw [List.drop_length]
    refine Ev.step (f := fun _ => some (decide (1 ≤ ds.length ∧ ds.length ≤ 8) && decide (1 ≤ c ∧ c ≤ 4))) (fun k => ?_) (Evto (by simp) (Ev.now _))
    rw [impl_ConfigOk.l0, if_neg (by omega), impl_within_f, Option.bind_some, impl_within_f, Option.bind_some]
    by_cases h1 : 1 ≤ (ds.length : Int) ∧ (ds.length : Int) ≤ 8
    · rw [if_pos (decide_eq_true h1), decide_eq_true (show 1 ≤ ds.length ∧ ds.length ≤ 8 by omega)]; rfl
    · rw [decide_eq_false h1, if_neg (by decide), decide_eq_false (show ¬ (1 ≤ ds.length ∧ ds.length ≤ 8) by omega)]; rfl
  · intro i hi ih
    rw [all_drop domOk ds i hi]
    by_cases hr : 0 ≤ ds.getD i 0 ∧ ds.getD i 0 ≤ 7
    · refine Ev.step (f := fun k => impl_ConfigOk.l0 k ds (ds.length : Int) ((i + 1 : Nat) : Int) ds c) (fun k => ?_) (Evto ?_ ih)
      · rw [impl_ConfigOk.l0, if_pos (by omega), if_pos (by omega), if_pos (by omega), rd_nat, impl_within_f, Option.bind_some, if_pos (decide_eq_true hr), wsucc i (by omega)]
      · rw [domOk, decide_eq_true hr, Bool.true_and]
    · refine Ev.step (f := fun _ => some false) (fun k => ?_) (Evto ?_ (Ev.now _))
      · rw [impl_ConfigOk.l0, if_pos (by omega), if_pos (by omega), if_pos (by omega), rd_nat, impl_within_f, Option.bind_some, decide_eq_false hr, if_neg (by decide)]
      · rw [domOk, decide_eq_false hr, Bool.false_and, Bool.and_false]
theorem impl_ConfigOk_f (ds : List Int) (c : Int) (hn : ds.length < 4611686018427387904) : Ev (fun k => impl_ConfigOk.f k ds c) (configOk ds c) :=
  Ev.congr (fun k => by rw [impl_ConfigOk.f]; rfl) (impl_ConfigOk_l0 ds c hn 0 (by omega))

/-! iasc -/
theorem impl_ascends_l0 (l : List Int) (hi : Int) (hn : l.length < 4611686018427387904) (d : Nat) : ∀ (i : Nat) (p : Int), i + d = l.length → (i = 0 → p = -1) → (0 < i → p = l.getD (i - 1) 0) → Ev (fun k => impl_ascends.l0 k l hi l (l.length : Int) (i : Int)) (ascP hi p (l.drop i)) := by
  induction d with
  | zero =>
    intro i p hi' h0 h1
    refine Ev.step (f := fun _ => some true) (fun k => ?_) (Evto ?_ (Ev.now _))
    · rw [impl_ascends.l0, if_neg (by omega)]
    · rw [List.drop_eq_nil_of_le (by omega)]; rfl
  | succ d ih =>
    intro i p hi' h0 h1
    have hlt : i < l.length := by omega
    rw [drop_at l i hlt]
    by_cases hr : 0 ≤ l.getD i 0 ∧ l.getD i 0 ≤ hi
    · by_cases hz : i = 0
      · subst hz
        have hp := h0 rfl
        refine Ev.step (f := fun k => impl_ascends.l0 k l hi l (l.length : Int) ((0 + 1 : Nat) : Int)) (fun k => ?_) (Evto ?_ (ih (0 + 1) (l.getD 0 0) (by omega) (by omega) (fun _ => rfl)))
        · rw [impl_ascends.l0, if_pos (by omega), if_pos (by omega), if_pos (by omega), rd_nat, impl_within_f, Option.bind_some, if_pos (decide_eq_true hr), if_neg (by omega), wsucc 0 (by omega)]
        · rw [ascP, decide_eq_true (by omega)]; rfl
      · have hp := h1 (by omega)
        have hm : wrap64 ((i : Int) - 1) = ((i - 1 : Nat) : Int) := by rw [w64 (by omega) (by omega)]; omega
        by_cases hlt2 : p < l.getD i 0
        · refine Ev.step (f := fun k => impl_ascends.l0 k l hi l (l.length : Int) ((i + 1 : Nat) : Int)) (fun k => ?_) (Evto ?_ (ih (i + 1) (l.getD i 0) (by omega) (by omega) (fun _ => rfl)))
          · rw [impl_ascends.l0, if_pos (by omega), if_pos (by omega), if_pos (by omega), rd_nat, impl_within_f, Option.bind_some, if_pos (decide_eq_true hr), if_pos (by omega), hm, if_pos (by omega), if_pos (by omega), rd_nat, ← hp, if_neg (by omega), wsucc i (by omega)]
          · rw [ascP, decide_eq_true (by omega)]; rfl
        · refine Ev.step (f := fun _ => some false) (fun k => ?_) (Evto ?_ (Ev.now _))
          · rw [impl_ascends.l0, if_pos (by omega), if_pos (by omega), if_pos (by omega), rd_nat, impl_within_f, Option.bind_some, if_pos (decide_eq_true hr), if_pos (by omega), hm, if_pos (by omega), if_pos (by omega), rd_nat, ← hp, if_pos (by omega)]
          · rw [ascP, decide_eq_false (by omega)]; rfl
    · refine Ev.step (f := fun _ => some false) (fun k => ?_) (Evto ?_ (Ev.now _))
      · rw [impl_ascends.l0, if_pos (by omega), if_pos (by omega), if_pos (by omega), rd_nat, impl_within_f, Option.bind_some, decide_eq_false hr, if_neg (by decide)]
      · rw [ascP, decide_eq_false (by omega)]; rfl
theorem impl_ascends_f (l : List Int) (hi : Int) (hn : l.length < 4611686018427387904) : Ev (fun k => impl_ascends.f k l hi) (asc hi l) :=
  Ev.congr (fun k => by rw [impl_ascends.f]; rfl) (impl_ascends_l0 l hi hn l.length 0 (-1) (by omega) (fun _ => rfl) (fun h => by omega))

/-! inodes -/
theorem impl_NodesOk_f (ds : List Int) (c : Int) (l : List Int) (hd : ds.length < 4611686018427387904) (hl : l.length < 4611686018427387904) : Ev (fun k => impl_NodesOk.f k ds c l) (nodesOk ds c l) := by
  unfold impl_NodesOk.f nodesOk
  refine Evbind (impl_ConfigOk_f ds c hd) ?_
  by_cases h : configOk ds c = true
  · have e : wrap64 ((ds.length : Int) - 1) = (ds.length : Int) - 1 := w64 (by omega) (by omega)
    refine Evpos h (Evto ?_ (Evbind (Ev.congr (fun k => by rw [e]) (impl_ascends_f l ((ds.length : Int) - 1) hl)) (Ev.now _)))
    rw [h]; rfl
  · refine Evneg h (Evto ?_ (Ev.now _))
    rw [Bool.eq_false_iff.2 h]; rfl

/-! contains -/
theorem index_l0 (l : List Int) (a : Int) (hn : l.length < 4611686018427387904) : ∀ i, i ≤ l.length → ∃ r, Ev (fun k => slices_Index_int_int.l0 k l a (l.length : Int) (i : Int)) r ∧ (0 ≤ r ↔ a ∈ l.drop i) := by
  refine down l.length ?_ ?_
  · refine ⟨-1, Ev.step (f := fun _ => some (-1)) (fun k => ?_) (Ev.now _), ?_⟩
    · rw [slices_Index_int_int.l0, if_neg (by omega)]
    · rw [List.drop_length]; simp
  · intro i hi ih
    rw [drop_at l i hi]
    by_cases e : a = l.getD i 0
    · refine ⟨i, Ev.step (f := fun _ => some (i : Int)) (fun k => ?_) (Ev.now _), ?_⟩
      · rw [slices_Index_int_int.l0, if_pos (by omega), if_pos (by omega), if_pos (by omega), rd_nat, if_pos e]
      · exact ⟨fun _ => by rw [← e]; exact List.mem_cons_self, fun _ => by omega⟩
    · obtain ⟨r, hr, h⟩ := ih
      refine ⟨r, Ev.step (f := fun k => slices_Index_int_int.l0 k l a (l.length : Int) ((i + 1 : Nat) : Int)) (fun k => ?_) hr, ?_⟩
      · rw [slices_Index_int_int.l0, if_pos (by omega), if_pos (by omega), if_pos (by omega), rd_nat, if_neg e, wsucc i (by omega)]
      · rw [h, List.mem_cons]; exact ⟨fun hh => .inr hh, fun hh => hh.resolve_left e⟩
theorem contains_f (l : List Int) (a : Int) (hn : l.length < 4611686018427387904) : Ev (fun k => slices_Contains_int_int.f k l a) (decide (a ∈ l)) := by
  obtain ⟨r, hr, h⟩ := index_l0 l a hn 0 (by omega)
  unfold slices_Contains_int_int.f
  refine Evbind (Ev.congr (fun k => by rw [slices_Index_int_int.f]; rfl) hr) (Evto ?_ (Ev.now _))
  rw [List.drop_zero] at h
  exact decide_eq_decide.2 h

/-! irest -/
theorem impl_Rest_l0 (s l : List Int) (hs : s.length < 17592186044416) (hl : l.length < 4611686018427387904) : ∀ i, i ≤ s.length → ∀ out : List Int, out.length ≤ i → Ev (fun k => impl_Rest.l0 k l out s (s.length : Int) (i : Int)) (out ++ (s.drop i).filter (fun x => !decide (x ∈ l))) := by
  refine down s.length ?_ ?_
  · intro out ho
    refine Ev.step (f := fun _ => some out) (fun k => by rw [impl_Rest.l0, if_neg (by omega)]) (Evto ?_ (Ev.now _))
    rw [List.drop_length]; simp
  · intro i hi ih out ho
    have hi1 : (i : Int) < s.length := by omega
    have hi2 : 0 ≤ (i : Int) := by omega
    have hw := wsucc i (by omega)
    rw [filter_drop_i _ s i hi]
    refine Ev.step (f := fun k => (slices_Contains_int_int.f k l (s.getD i 0)).bind fun t => if t = true then impl_Rest.l0 k l out s (s.length : Int) ((i + 1 : Nat) : Int) else (if out.length < 17592186044416 then impl_Rest.l0 k l (out ++ [s.getD i 0]) s (s.length : Int) ((i + 1 : Nat) : Int) else none)) (fun k => by rw [impl_Rest.l0, if_pos hi1, if_pos hi2, if_pos hi1, rd_nat, hw]) (Evbind (contains_f l (s.getD i 0) hl) ?_)
    by_cases h : s.getD i 0 ∈ l
    · refine Evpos (decide_eq_true h) (Evto ?_ (ih out (by omega)))
      generalize s.getD i 0 = v at *; simp [h]
    · refine Evneg (by generalize s.getD i 0 = v at *; simpa using h) (Evpos (by omega) (Evto ?_ (ih (out ++ [s.getD i 0]) (by simp; omega))))
      generalize s.getD i 0 = v at *; simp [h]
theorem impl_Rest_f (ds : List Int) (c : Int) (s l : List Int) (hd : ds.length < 4611686018427387904) (hs : s.length < 17592186044416) (hl : l.length < 4611686018427387904) : Ev (fun k => impl_Rest.f k ds c s l) (restL ds c s l) := by
  have hout : Ev (fun k => impl_Rest.j0 k s l [] true) [] := Ev.step (f := fun _ => some []) (fun k => by rw [impl_Rest.j0, if_pos rfl]) (Ev.now _)
  unfold impl_Rest.f restL
  refine Evsome (Evbind (impl_NodesOk_f ds c s hd (by omega)) ?_)
  by_cases h1 : nodesOk ds c s = true
  · refine Evpos h1 (Evbind (impl_NodesOk_f ds c l hd hl) ?_)
    by_cases h2 : nodesOk ds c l = true
    · rw [if_pos ⟨h1, h2⟩, h2]
      exact Ev.step (f := fun k => impl_Rest.l0 k l [] s (s.length : Int) ((0 : Nat) : Int)) (fun k => by rw [impl_Rest.j0, if_neg (by decide)]; rfl) (impl_Rest_l0 s l hs hl 0 (by omega) [] (by simp))
    · rw [if_neg (fun h => h2 h.2), Bool.eq_false_iff.2 h2]; exact hout
  · rw [if_neg (fun h => h1 h.1)]; exact Evneg h1 hout

/-! ispan -/
theorem impl_SpanOf_l0 (ds l : List Int) (c : Int) (hl : l.length < 17592186044416) (hm : ∀ x ∈ l, 0 ≤ x ∧ x < ds.length) : ∀ i, i ≤ l.length → ∀ (acc : List Int), acc.length ≤ i →
    Ev (fun k => impl_SpanOf.l0 k acc l (l.length : Int) (i : Int) ds c) ((domsG ds (l.drop i) acc).length : Int) := by
  refine down l.length ?_ ?_
  · intro acc hal
    refine Ev.step (f := fun _ => some (acc.length : Int)) (fun k => ?_) (Evto ?_ (Ev.now _))
    · rw [impl_SpanOf.l0, if_neg (by omega)]
    · rw [List.drop_length]; rfl
  · intro i hi ih acc hal
    have hx := hm _ (getD_mem l i hi)
    obtain ⟨n, hn⟩ := Int.eq_ofNat_of_zero_le hx.1
    have hw := wsucc i (by omega)
    rw [drop_at l i hi, domsG_cons, hn, Int.toNat_natCast]
    have e1 : rd l (i : Int) = (n : Int) := by rw [rd_nat, hn]
    have e2 : rd ds (n : Int) = ds.getD n 0 := rd_nat _ _
    have hi1 : (i : Int) < l.length := by omega
    have hi2 : 0 ≤ (i : Int) := by omega
    have hi3 : 0 ≤ (n : Int) := by omega
    have hi4 : (n : Int) < ds.length := by omega
    by_cases h : ds.getD n 0 ∈ acc
    · refine Ev.step (f := fun k => (slices_Contains_int_int.f k acc (ds.getD n 0)).bind fun t => if t = true then impl_SpanOf.l0 k acc l (l.length : Int) ((i + 1 : Nat) : Int) ds c else (if acc.length < 17592186044416 then impl_SpanOf.l0 k (acc ++ [ds.getD n 0]) l (l.length : Int) ((i + 1 : Nat) : Int) ds c else none)) (fun k => ?_) (Evto ?_ (Evbind (contains_f acc (ds.getD n 0) (by omega)) (Evpos (decide_eq_true h) (ih acc (by omega)))))
      · rw [impl_SpanOf.l0, if_pos hi1, if_pos hi2, if_pos hi1, e1, if_pos hi3, if_pos hi4, e2, hw]
      · rw [addD, if_pos h]
    · refine Ev.step (f := fun k => (slices_Contains_int_int.f k acc (ds.getD n 0)).bind fun t => if t = true then impl_SpanOf.l0 k acc l (l.length : Int) ((i + 1 : Nat) : Int) ds c else (if acc.length < 17592186044416 then impl_SpanOf.l0 k (acc ++ [ds.getD n 0]) l (l.length : Int) ((i + 1 : Nat) : Int) ds c else none)) (fun k => ?_) (Evto ?_ (Evbind (contains_f acc (ds.getD n 0) (by omega)) (Evneg (by simpa using h) (Evpos (by omega) (ih (acc ++ [ds.getD n 0]) (by simp; omega))))))
      · rw [impl_SpanOf.l0, if_pos hi1, if_pos hi2, if_pos hi1, e1, if_pos hi3, if_pos hi4, e2, hw]
      · rw [addD, if_neg h]
theorem impl_SpanOf_f (ds : List Int) (c : Int) (l : List Int) (hd : ds.length < 4611686018427387904) (hl : l.length < 17592186044416) : Ev (fun k => impl_SpanOf.f k ds c l) (spanOf ds c l) := by
  unfold impl_SpanOf.f spanOf
  refine Evbind (impl_NodesOk_f ds c l hd (by omega)) ?_
  by_cases h : nodesOk ds c l = true
  · rw [if_pos h]; exact Evpos h (impl_SpanOf_l0 ds l c hl (nodesOk_mem h).2 0 (by omega) [] (by simp))
  · rw [if_neg h]; exact Evneg h (Ev.now _)

/-! iholds -/
theorem impl_Holds_f (ds : List Int) (c : Int) (l : List Int) (hd : ds.length < 4611686018427387904) (hl : l.length < 17592186044416) : Ev (fun k => impl_Holds.f k ds c l) (holdsL ds c l) := by
  unfold impl_Holds.f holdsL
  refine Evbind (impl_NodesOk_f ds c l hd (by omega)) ?_
  by_cases h : nodesOk ds c l = true
  · rw [h, Bool.true_and]
    refine Evpos rfl (Evbind (impl_SpanOf_f ds c l hd hl) (Evto ?_ (Ev.now _)))
    rw [spanOf, if_pos h]
  · rw [Bool.eq_false_iff.2 h]; exact Evneg (by decide) (Ev.now _)

/-! ienough -/
theorem impl_Enough_f (ds : List Int) (c : Int) (s l : List Int) (hd : ds.length < 4611686018427387904) (hs : s.length < 17592186044416) (hl : l.length < 17592186044416) : Ev (fun k => impl_Enough.f k ds c s l) (enoughL ds c s l) := by
  have hout : Ev (fun k => impl_Enough.j0 k s l true ds c) false := Ev.step (f := fun _ => some false) (fun k => by rw [impl_Enough.j0, if_pos rfl]) (Ev.now _)
  have hb : impl_both.f l s = some (l.filter (fun x => decide (x ∈ s))) := by unfold impl_both.f; rw [if_pos ⟨hl, by omega⟩]
  have hsp := less_split l s
  unfold impl_Enough.f enoughL
  refine Evbind (impl_NodesOk_f ds c l hd (by omega)) ?_
  cases hn : nodesOk ds c l with
  | false => exact Evneg Bool.false_ne_true (Evto (by simp) hout)
  | true =>
    refine Evpos rfl (Evbind (impl_Holds_f ds c s hd hs) ?_)
    cases hh : holdsL ds c s with
    | false => exact Evneg Bool.false_ne_true hout
    | true =>
      refine Evpos rfl (Evbind (Evconst hb) ?_)
      generalize l.filter (fun x => decide (x ∈ s)) = F at *
      by_cases h0 : (less l s).length = 0
      · have hns := (holdsL_split hh).1
        have hnl : nodesOk ds c (less s l) = true := nodesOk_filter hns _
        have hlen := less_len s l
        have hr : restL ds c s l = less s l := by rw [restL, if_pos ⟨hns, hn⟩]
        have hir := impl_Rest_f ds c s l hd hs (by omega)
        rw [hr] at hir
        rw [decide_eq_true h0, show (((F.length : Int)) != (l.length : Int)) = false by rw [bne_eq_false_iff_eq]; omega]
        refine Ev.step (fun k => by rw [impl_Enough.j0, if_neg Bool.false_ne_true]) ?_
        refine Evbind hir (Evbind (impl_Holds_f ds c (less s l) hd (by omega)) (Evto ?_ (Ev.now _)))
        rw [holdsL, hnl, Bool.true_and, Bool.and_self, Bool.true_and]
        by_cases hlt : spanL ds (less s l) < c
        · rw [decide_eq_true hlt, decide_eq_false (by omega)]; rfl
        · rw [decide_eq_false hlt, decide_eq_true (by omega)]; rfl
      · rw [decide_eq_false h0, show (((F.length : Int)) != (l.length : Int)) = true by rw [bne_iff_ne]; omega]
        exact hout

/-! lwithin -/
theorem lwithin_f (l : List Int) (a : Int) (hn : l.length < 4611686018427387904) : Ev (fun k => laws_within.f k l a) (decide (a ∈ l)) := by
  have key : ∀ i, i ≤ l.length → Ev (fun k => laws_within.l0 k l a (i : Int)) (decide (a ∈ l.drop i)) := by
    refine down l.length ?_ ?_
    · refine Ev.step (f := fun _ => some false) (fun k => by rw [laws_within.l0, if_neg (by omega)]) (Evto ?_ (Ev.now _))
      rw [List.drop_length]; simp
    · intro i hi ih
      have hi1 : (i : Int) < l.length := by omega
      have hi2 : 0 ≤ (i : Int) := by omega
      have hw := wsucc i (by omega)
      rw [drop_at l i hi]
      by_cases e : l.getD i 0 = a
      · refine Ev.step (f := fun _ => some true) (fun k => by rw [laws_within.l0, if_pos hi1, if_pos hi2, rd_nat, if_pos e]) (Evto ?_ (Ev.now _))
        symm; apply decide_eq_true; rw [e]; exact List.mem_cons_self
      · refine Ev.step (f := fun k => laws_within.l0 k l a ((i + 1 : Nat) : Int)) (fun k => by rw [laws_within.l0, if_pos hi1, if_pos hi2, rd_nat, if_neg e, hw]) (Evto ?_ ih)
        apply decide_eq_decide.2; rw [List.mem_cons]
        exact ⟨fun h => .inr h, fun h => h.resolve_left (fun hh => e hh.symm)⟩
  exact Ev.congr (fun k => by rw [laws_within.f]; rfl) (Evto (by rw [List.drop_zero]) (key 0 (by omega)))

theorem lat_f (b : List Int) (hb : b.length < 4611686018427387904) (i : Nat) (hi : i < 100) : ∃ r, laws_at.f b (i : Int) = some r := by
  unfold laws_at.f
  by_cases h : (i : Int) < (b.length : Int)
  · rw [if_pos h, if_pos (by omega)]; exact ⟨_, rfl⟩
  · rw [if_neg h]; exact ⟨_, rfl⟩
theorem nodesOk_len9 {ds : List Int} {c : Int} {l : List Int} (h : nodesOk ds c l = true) : l.length ≤ 8 := by
  have hc := configOk_len (nodesOk_mem h).1
  simp only [nodesOk, Bool.and_eq_true] at h
  have hp : ∀ (t : List Int) (hi p : Int), ascP hi p t = true → -1 ≤ p → p ≤ hi → (t.length : Int) ≤ hi - p := by
    intro t
    induction t with
    | nil => intro hi p _ _ _; simp; omega
    | cons x t ih =>
      intro hi p h h1 h2
      simp only [ascP, Bool.and_eq_true, decide_eq_true_eq] at h
      have := ih hi x h.2 (by omega) (by omega)
      simp only [List.length_cons]; omega
  have := hp l ((ds.length : Int) - 1) (-1) h.2 (by omega) (by omega)
  omega
theorem FnMeet (l0 : List Int) (hl0 : l0.length ≤ maxLen ∧ ∀ x ∈ l0, (Lit.int .u8 x).wf = true) : ∃ k, laws_FnMeet.f k l0 = some true := by
  refine Ev.rounds (g := fun k => laws_FnMeet.f k l0) ?_
  unfold laws_FnMeet.f laws_big.f
  simp only [Option.bind_some]
  by_cases hbig : (l0.length : Int) > 1048576
  · exact Evpos (decide_eq_true hbig) (Ev.now _)
  refine Evneg (by simpa using hbig) ?_
  have hb : l0.length < 4611686018427387904 := by omega
  obtain ⟨ds, c, s, l, ed, hd, hs, hl⟩ := l4DrawTwo_f l0 hb
  refine Evbind (show Ev (fun k => spec_DrawEnough.f k l0) (ds, c, s, l) by unfold spec_DrawEnough.f; exact Evbind ed (Ev.now _)) ?_
  refine Evbind (impl_Enough_f ds c s l (by omega) (by omega) (by omega)) ?_
  refine Evbind (spec_Enough_f ds c s l (by omega) (by omega) (by omega)) ?_
  refine Evneg (by simp) ?_
  have hih := impl_Holds_f ds c s (by omega) (by omega)
  refine Evbind hih ?_
  refine Evbind (spec_Holds_f ds c s (by omega) (by omega)) ?_
  rw [show (holdsL ds c s != holdsL ds c s) = false by simp]
  refine Ev.step (fun k => by rw [laws_FnMeet.j0, if_neg Bool.false_ne_true]) ?_
  by_cases he : enoughL ds c s l = true
  · refine Evpos he ?_
    obtain ⟨hh, hn, h0, hlt⟩ := enoughL_split he
    have hns := (holdsL_split hh).1
    have hnl : nodesOk ds c (less s l) = true := nodesOk_filter hns _
    have hlen := less_len s l
    have hr : restL ds c s l = less s l := by rw [restL, if_pos ⟨hns, hn⟩]
    have hir := impl_Rest_f ds c s l (by omega) (by omega) (by omega)
    rw [hr] at hir
    have hcc := configOk_copies (nodesOk_mem hns).1
    have hself : enoughL ds c s s = true := by
      have hnil : less s s = [] := by unfold less; rw [List.filter_eq_nil_iff]; intro a ha; simp [ha]
      simp only [enoughL, hh, hns, hnil, List.length_nil, Bool.and_eq_true, decide_eq_true_eq, true_and]
      have : spanL ds [] = 0 := rfl
      omega
    have hend : Ev (fun k => laws_FnMeet.j3 k s l ds c) true := by
      refine Ev.step (fun k => by rw [laws_FnMeet.j3]) ?_
      refine Evbind hih (Evpos hh (Evbind (impl_Enough_f ds c s s (by omega) (by omega) (by omega)) (Evpos hself (Evbind hir (Evbind (impl_Holds_f ds c (less s l) (by omega) (by omega)) (Evto ?_ (Ev.now _)))))))
      rw [holdsL, hnl, decide_eq_false (by omega)]; rfl
    have k1 : ∀ part : List Int, part.length ≤ 20 → ∀ i, i ≤ part.length → ∀ b : Bool, (b = true ∨ ∃ x ∈ part.drop i, x ∈ l) → Ev (fun k => laws_FnMeet.l1 k s l part b (i : Int) ds c) true := by
      intro part hp
      refine down part.length ?_ ?_
      · intro b hbb
        have hbt : b = true := by
          rcases hbb with h | ⟨x, hx, _⟩
          · exact h
          · rw [List.drop_length] at hx; simp at hx
        subst hbt
        exact Ev.step (f := fun k => laws_FnMeet.j3 k s l ds c) (fun k => by rw [laws_FnMeet.l1, if_neg (by omega), if_pos rfl]) hend
      · intro i hi ih b hbb
        have hi1 : (i : Int) < part.length := by omega
        have hi2 : 0 ≤ (i : Int) := by omega
        have hw := wsucc i (by omega)
        cases b with
        | true => exact Ev.step (f := fun k => laws_FnMeet.l1 k s l part true ((i + 1 : Nat) : Int) ds c) (fun k => by rw [laws_FnMeet.l1, if_pos hi1, if_pos rfl, hw]) (ih true (.inl rfl))
        | false =>
          refine Ev.step (f := fun k => (laws_within.f k l (part.getD i 0)).bind fun t399 => (laws_FnMeet.l1 k s l part t399 ((i + 1 : Nat) : Int) ds c)) (fun k => by rw [laws_FnMeet.l1, if_pos hi1, if_neg Bool.false_ne_true, if_pos hi2, rd_nat, hw]) (Evbind (lwithin_f l (part.getD i 0) (by omega)) (ih _ ?_))
          rcases hbb with h | ⟨x, hx, hxl⟩
          · exact absurd h Bool.false_ne_true
          · rw [drop_at part i hi] at hx
            rcases List.mem_cons.1 hx with rfl | hx
            · exact .inl (decide_eq_true hxl)
            · exact .inr ⟨x, hx, hxl⟩
    have k0 : ∀ i, i ≤ s.length → ∀ part : List Int, part.length ≤ i → (∀ x ∈ part, x ∈ s) → Ev (fun k => laws_FnMeet.l0 k l0 s l part (i : Int) ds c) true := by
      refine down s.length ?_ ?_
      · intro part hp hps
        refine Ev.step (fun k => by rw [laws_FnMeet.l0, if_neg (by omega)]) ?_
        refine Evbind (impl_Holds_f ds c part (by omega) (by omega)) ?_
        by_cases hph : holdsL ds c part = true
        · refine Evpos hph ?_
          refine k1 part (by omega) 0 (by omega) false (.inr ?_)
          rw [List.drop_zero]
          refine Decidable.byContradiction fun hno => ?_
          have hsub : ∀ x ∈ part, x ∈ less s l := fun x hx => List.mem_filter.2 ⟨hps x hx, by
            have : ¬ x ∈ l := fun hxl => hno ⟨x, hx, hxl⟩
            simp [this]⟩
          have h1 := spanL_mono ds part (less s l) hsub
          have h2 := (holdsL_split hph).2
          omega
        · exact Evneg hph hend
      · intro i hi ih part hp hps
        have hi1 : (i : Int) < s.length := by omega
        have hi2 : 0 ≤ (i : Int) := by omega
        obtain ⟨r, er⟩ := lat_f l0 hb (i + 1) (by omega)
        have hp1 : part.length < 17592186044416 := by omega
        have hp2 : part.length ≤ i + 1 := by omega
        have hp3 : (part ++ [s.getD i 0]).length ≤ i + 1 := by rw [List.length_append]; simp only [List.length_cons, List.length_nil]; omega
        have hw := wsucc i (by omega)
        by_cases ht : Int.tmod r 2 = 0
        · refine Ev.step (f := fun k => laws_FnMeet.l0 k l0 s l (part ++ [s.getD i 0]) ((i + 1 : Nat) : Int) ds c) (fun k => by rw [laws_FnMeet.l0, if_pos hi1, hw, er, Option.bind_some, if_pos ht, if_pos hi2, if_pos hp1, rd_nat]) (ih _ hp3 (fun x hx => ?_))
          rcases List.mem_append.1 hx with hx | hx
          · exact hps x hx
          · rw [List.mem_singleton] at hx; rw [hx]; exact getD_mem s i hi
        · exact Ev.step (f := fun k => laws_FnMeet.l0 k l0 s l part ((i + 1 : Nat) : Int) ds c) (fun k => by rw [laws_FnMeet.l0, if_pos hi1, hw, er, Option.bind_some, if_neg ht]) (ih part hp2 hps)
    exact k0 0 (by omega) [] (by simp) (by simp)
  · exact Evneg he (Ev.now _)

end Go.Proofs.Ytfkdgbhjkpigfaa.Pure
