/- What came in, read as lists and records: an argument of whatever plain kind has such a list or record. Conditions: none. -/
import Derived.Test.YtnoghojlpicecaaVFnEras
import Derived.Deep.Slices
import Derived.Lib.SmallJoins
namespace Go.Proofs.Ytnoghojlpicecaa.Opens
open Go.ChangeShapes Go.WideShapes Go.Deep Go.Joins Go.Proofs.YtnoghojlpicecaaW.PrintWords
def Rd (P : Program) (t : TypeId) {α : Type} (d : Kd α) (Q : α → Prop) : Prop :=
  ∀ (H : Type) (enc : TypeId × Value → H) (w : World) (base : Nat) (spare : Nat → Bool) (held : Bool) (fuel : Nat) (cs : List Value) (y : DataW H × List MemPlace),
    DataW.trod enc P w base spare held fuel t cs = some y → ∃ x, d.K w x cs ∧ Q x
section
variable {P : Program} {t e : TypeId} {α β γ δ : Type}
theorem Rd.int {k : IntKind} (ht : P.underlying t = some (.int k)) : Rd P t (Kd.int k) (fun n => (Lit.int k n).wf = true) := by
  intro H enc w base spare held fuel cs y h
  obtain ⟨n, rfl, _, hw⟩ := DataW.trod_int ht h
  exact ⟨n, rfl, hw⟩
theorem Rd.bool (ht : P.underlying t = some .bool) : Rd P t Kd.bool (fun _ => True) := by
  intro H enc w base spare held fuel cs y h
  obtain ⟨n, rfl, _⟩ := DataW.trod_bool ht h
  exact ⟨n, rfl, trivial⟩
theorem Rd.string (ht : P.underlying t = some .string) : Rd P t Kd.string (fun s => s.size ≤ maxLen) := by
  intro H enc w base spare held fuel cs y h
  obtain ⟨n, rfl, _, hw⟩ := DataW.trod_string ht h
  exact ⟨n, rfl, hw⟩
theorem list_choose (R : Nat → α → Prop) (n : Nat) : (∀ i, i < n → ∃ x, R i x) → ∃ xs : List α, xs.length = n ∧ ∀ (i : Nat) (x : α), xs[i]? = some x → R i x := by
  induction n with
  | zero => intro _; exact ⟨[], rfl, fun i x h => by simp at h⟩
  | succ n ih =>
    intro h
    obtain ⟨xs, hl, hx⟩ := ih (fun i hi => h i (by omega))
    obtain ⟨x, hx'⟩ := h n (by omega)
    refine ⟨xs ++ [x], by simp [hl], fun i y hy => ?_⟩
    by_cases hi : i < n
    · rw [List.getElem?_append_left (by omega)] at hy; exact hx i y hy
    · have : i < (xs ++ [x]).length := (List.getElem?_eq_some_iff.1 hy).1
      obtain rfl : i = n := by simp at this; omega
      rw [List.getElem?_append_right (by omega)] at hy
      simp [hl] at hy
      exact hy ▸ hx'
theorem Rd.row {d : Kd α} {Q : α → Prop} (q : TypeId) (ht : P.underlying t = some (.slice e)) (hc : P.cellsOf e = d.sz) (he : Rd P e d Q) : Rd P t (Kd.slice q d) (fun xs => xs.length ≤ maxLen ∧ ∀ x ∈ xs, Q x) := by
  intro H enc w base spare held fuel cs y h
  rcases open_slice ht h with ⟨rfl, _⟩ | ⟨a, len, cap, m, n, D, Pl, rfl, _, hl, hm, hmm, _, hi⟩
  · exact ⟨[], ⟨none, 0, rfl, Nat.le_refl _, rfl, by simp, fun h => absurd h (by simp)⟩, by simp [maxLen], fun x hx => by simp at hx⟩
  · have hlm : len ≤ m := by rw [hmm]; split <;> omega
    have ex : ∀ i, i < len → ∃ x, (∃ c, c.length = d.sz ∧ d.K w x c ∧ ∀ j u, c[j]? = some u → w.cell? (a.add (i * d.sz + j)) = some u) ∧ Q x := by
      intro i hil
      obtain ⟨cs', hc', ht'⟩ := hi i (by omega)
      obtain ⟨x, hk, hq⟩ := he _ _ _ _ _ _ _ _ _ ht'
      obtain ⟨_, hcl, hat⟩ := World.cells?_some hc'
      refine ⟨x, ⟨cs', by rw [hcl, hc], hk, fun j u hj => ?_⟩, hq⟩
      have hj' : j < P.cellsOf e := by have := (List.getElem?_eq_some_iff.1 hj).1; omega
      have := hat j hj'
      rw [hc, Go.Deep.add_add] at this
      rw [this, hj]
    obtain ⟨xs, hxl, hx⟩ := list_choose _ len ex
    have hm' : len ≤ 9223372036854775807 := by unfold maxLen at hm; omega
    refine ⟨xs, ⟨some a, cap, by rw [hxl], by omega, rfl, by omega, fun _ => ⟨a, rfl, fun j p hj => (hx j p hj).1⟩⟩, by omega, fun x hxm => ?_⟩
    obtain ⟨i, hi'⟩ := List.getElem?_of_mem hxm
    exact (hx i x hi').2
theorem Rd.two {a : Kd α} {b : Kd β} {Qa : α → Prop} {Qb : β → Prop} {f0 f1 : Field} (ht : P.underlying t = some (.struct #[f0, f1])) (h0 : Rd P f0.type a Qa) (h1 : Rd P f1.type b Qb)
    (hl : P.cellsOf t = a.sz + b.sz) (o0 : f0.offset = 0) (k0 : P.cellsOf f0.type = a.sz) (o1 : f1.offset = a.sz) (k1 : P.cellsOf f1.type = b.sz) : Rd P t (Kd.pair a b) (fun x => Qa x.1 ∧ Qb x.2) := by
  intro H enc w base spare held fuel cs y h
  obtain ⟨y0, y1, n, _, hlen, g0, g1⟩ := trod_struct2 ht h
  rw [o0, k0] at g0
  rw [o1, k1] at g1
  obtain ⟨x0, K0, q0⟩ := h0 _ _ _ _ _ _ _ _ _ g0
  obtain ⟨x1, K1, q1⟩ := h1 _ _ _ _ _ _ _ _ _ g1
  refine ⟨(x0, x1), ⟨_, _, ?_, K0, K1⟩, q0, q1⟩
  rw [List.drop_zero, List.take_of_length_le (l := cs.drop a.sz) (by simp; omega), List.take_append_drop]
theorem Rd.three {a : Kd α} {b : Kd β} {c : Kd γ} {Qa : α → Prop} {Qb : β → Prop} {Qc : γ → Prop} {f0 f1 f2 : Field} (ht : P.underlying t = some (.struct #[f0, f1, f2])) (h0 : Rd P f0.type a Qa) (h1 : Rd P f1.type b Qb) (h2 : Rd P f2.type c Qc)
    (hl : P.cellsOf t = a.sz + b.sz + c.sz) (o0 : f0.offset = 0) (k0 : P.cellsOf f0.type = a.sz) (o1 : f1.offset = a.sz) (k1 : P.cellsOf f1.type = b.sz) (o2 : f2.offset = a.sz + b.sz) (k2 : P.cellsOf f2.type = c.sz) :
    Rd P t (Kd.pair a (Kd.pair b c)) (fun x => Qa x.1 ∧ Qb x.2.1 ∧ Qc x.2.2) := by
  intro H enc w base spare held fuel cs y h
  obtain ⟨y0, y1, y2, n, _, hlen, g0, g1, g2⟩ := trod_struct3 ht h
  rw [o0, k0] at g0
  rw [o1, k1] at g1
  rw [o2, k2] at g2
  obtain ⟨x0, K0, q0⟩ := h0 _ _ _ _ _ _ _ _ _ g0
  obtain ⟨x1, K1, q1⟩ := h1 _ _ _ _ _ _ _ _ _ g1
  obtain ⟨x2, K2, q2⟩ := h2 _ _ _ _ _ _ _ _ _ g2
  refine ⟨(x0, x1, x2), ⟨_, _, ?_, K0, ⟨_, _, rfl, K1, K2⟩⟩, q0, q1, q2⟩
  rw [List.drop_zero, List.take_of_length_le (l := cs.drop (a.sz + b.sz)) (by simp; omega), ← List.drop_drop, List.take_append_drop, List.take_append_drop]
theorem Rd.four {a : Kd α} {b : Kd β} {c : Kd γ} {d : Kd δ} {Qa : α → Prop} {Qb : β → Prop} {Qc : γ → Prop} {Qd : δ → Prop} {f0 f1 f2 f3 : Field} (ht : P.underlying t = some (.struct #[f0, f1, f2, f3])) (h0 : Rd P f0.type a Qa) (h1 : Rd P f1.type b Qb) (h2 : Rd P f2.type c Qc) (h3 : Rd P f3.type d Qd)
    (hl : P.cellsOf t = a.sz + b.sz + c.sz + d.sz) (o0 : f0.offset = 0) (k0 : P.cellsOf f0.type = a.sz) (o1 : f1.offset = a.sz) (k1 : P.cellsOf f1.type = b.sz) (o2 : f2.offset = a.sz + b.sz) (k2 : P.cellsOf f2.type = c.sz) (o3 : f3.offset = a.sz + b.sz + c.sz) (k3 : P.cellsOf f3.type = d.sz) :
    Rd P t (Kd.pair a (Kd.pair b (Kd.pair c d))) (fun x => Qa x.1 ∧ Qb x.2.1 ∧ Qc x.2.2.1 ∧ Qd x.2.2.2) := by
  intro H enc w base spare held fuel cs y h
  obtain ⟨y0, y1, y2, y3, n, _, hlen, g0, g1, g2, g3⟩ := trod_struct4 ht h
  rw [o0, k0] at g0
  rw [o1, k1] at g1
  rw [o2, k2] at g2
  rw [o3, k3] at g3
  obtain ⟨x0, K0, q0⟩ := h0 _ _ _ _ _ _ _ _ _ g0
  obtain ⟨x1, K1, q1⟩ := h1 _ _ _ _ _ _ _ _ _ g1
  obtain ⟨x2, K2, q2⟩ := h2 _ _ _ _ _ _ _ _ _ g2
  obtain ⟨x3, K3, q3⟩ := h3 _ _ _ _ _ _ _ _ _ g3
  refine ⟨(x0, x1, x2, x3), ⟨_, _, ?_, K0, ⟨_, _, rfl, K1, ⟨_, _, rfl, K2, K3⟩⟩⟩, q0, q1, q2, q3⟩
  have e3 : cs.drop (a.sz + b.sz + c.sz) = ((cs.drop a.sz).drop b.sz).drop c.sz := by rw [List.drop_drop, List.drop_drop, Nat.add_assoc]
  have e2 : cs.drop (a.sz + b.sz) = (cs.drop a.sz).drop b.sz := by rw [List.drop_drop]
  rw [List.drop_zero, List.take_of_length_le (l := cs.drop (a.sz + b.sz + c.sz)) (by simp; omega), e3, e2, List.take_append_drop, List.take_append_drop, List.take_append_drop]
theorem Rd.iso {d : Kd α} {Q : α → Prop} (f : β → α) (g : α → β) (hfg : ∀ x, f (g x) = x) (h : Rd P t d Q) : Rd P t (Kd.iso d f) (fun y => Q (f y)) := by
  intro H enc w base spare held fuel cs y hy
  obtain ⟨x, K, q⟩ := h _ _ _ _ _ _ _ _ _ hy
  refine ⟨g x, ?_, ?_⟩
  · show d.K w (f (g x)) cs
    rw [hfg]; exact K
  · show Q (f (g x))
    rw [hfg]; exact q
theorem Rd.weak {d : Kd α} {Q Q' : α → Prop} (h : Rd P t d Q) (hq : ∀ x, Q x → Q' x) : Rd P t d Q' := fun _ _ _ _ _ _ _ _ _ hy => by
  obtain ⟨x, K, q⟩ := h _ _ _ _ _ _ _ _ _ hy
  exact ⟨x, K, hq x q⟩
theorem Rd.agg {d : Kd α} {Q : α → Prop} {fs : Array Field} {H : Type} {enc : TypeId × Value → H} {w : World} {base b0 : Nat} {r : Reach} {spare : Nat → Bool} {held : Bool} {v : Value} {dd : DataW H} {p : List MemPlace}
    (hr : Rd P t d Q) (hs : P.underlying t = some (.struct fs)) (hv : Value.okWide P w r b0 t v) (h : DataW.Trod enc P w base spare held t v dd p) : ∃ cs x, v = .agg ⟨cs⟩ ∧ d.K w x cs ∧ Q x := by
  obtain ⟨cs, rfl, _⟩ := okWide_struct hs hv
  obtain ⟨fuel, hf⟩ := h
  obtain ⟨x, K, q⟩ := hr _ _ _ _ _ _ _ _ _ hf
  obtain ⟨l⟩ := cs
  exact ⟨l, x, rfl, by simpa [Value.cells] using K, q⟩
theorem Rd.slice {d : Kd α} {Q : List α → Prop} {q : TypeId} {H : Type} {enc : TypeId × Value → H} {w : World} {base b0 : Nat} {r : Reach} {spare : Nat → Bool} {held : Bool} {v : Value} {dd : DataW H} {p : List MemPlace}
    (hr : Rd P t (Kd.slice q d) Q) (hs : P.underlying t = some (.slice e)) (hv : Value.okWide P w r b0 t v) (h : DataW.Trod enc P w base spare held t v dd p) : ∃ A c xs, v = .slice A xs.length c ∧ xs.length ≤ c ∧ d.C w A xs.length xs ∧ Q xs := by
  obtain ⟨A, l, c, rfl⟩ := okWide_slice hs hv
  obtain ⟨fuel, hf⟩ := h
  obtain ⟨x, K, q⟩ := hr _ _ _ _ _ _ _ _ _ hf
  obtain ⟨A', c', e', h1, h2⟩ := K
  simp [Value.cells] at e'
  obtain ⟨rfl, rfl, rfl⟩ := e'
  exact ⟨_, _, x, rfl, h1, h2, q⟩
end
end Go.Proofs.Ytnoghojlpicecaa.Opens
