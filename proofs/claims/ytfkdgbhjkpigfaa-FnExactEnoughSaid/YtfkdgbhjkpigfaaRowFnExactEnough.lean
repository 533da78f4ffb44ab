/- The row of FnExactEnough: for every argument the law answers true. Conditions: none beyond the given statement. -/
import Derived.Test.YtfkdgbhjkpigfaaRows
import Derived.Test.YtfkdgbhjkpigfaaMFnExactEnoughx6
import Derived.Test.YtfkdgbhjkpigfaaPureFnExactEnough
import Derived.Test.YtfkdgbhjkpigfaaOpens
import Derived.WalkKit
import Derived.ProofKit
import Derived.OpenShut
import Derived.ShutString
import Derived.ChangeOld
import Derived.Below
import Derived.SizedLaws
namespace Go.Proofs.Ytfkdgbhjkpigfaa.fnExactEnough
open Go.ChangeShapes Go.WideShapes Go.ChangeAt Go.RowKit Go.Proofs.Ytfkdgbhjkpigfaa.PFnExactEnough Go.Proofs.Ytfkdgbhjkpigfaa.Pure Go.Proofs.YtfkdgbhjkpigfaaW.PrintWords
open Go.ChangeMaps (open_string shut_string)
set_option linter.unusedVariables false
theorem own : ownKnob Try.prog.godebug = none := by kernel_rfl
theorem laidOut : laidOutB Try.prog = true := by kernel_rfl
set_option maxRecDepth 100000 in
theorem lifted (os : Os) (started : os.Started) (H : Type) (enc : TypeId × Value → H) :
    ReturnsInHanded {} Try.checked os 8 .any (Rows.fnExactEnoughSpec.pre6 enc Try.prog Try.f8 Rows.fnExactEnoughRow.domain false) (Rows.fnExactEnoughSpec.post enc Try.prog Try.f8 false true false false) := by
  refine returnsInHanded_of_change_sized (C := Try.checked) own started (by kernel_rfl) Try.func8
    (ChangeSpec.witness6 (enc := enc) (C := Try.checked) false ⟨#[], #[.agg #[.slice none 0 0, .int .i64 0], .slice none 0 0, .slice none 0 0], []⟩ 8 (by kernel_rfl) (by kernel_rfl) (by kernel_rfl) (by kernel_rfl)) ?_
  intro W base args ds gs before hval0 hW hcnd hsz0 _
  have hval : ∀ (j : Nat) t v, Try.f8.params[j]? = some t → args[j]? = some v → Value.okWide Try.prog W .any base t v := hval0
  have hW' := hW
  obtain ⟨p, q, hA0, hV, rfl, hfz, hnd⟩ := hW
  have hA : DataW.TrodAll enc Try.prog W 0 (fun _ => true) true Try.f8.params.toList args.toList ds p := hA0
  rw [Try.params8] at hA hval
  obtain ⟨v0, vs0, d0, ds0, p0, q0, hargs, rfl, rfl, h0, r0⟩ := trodAll_cons hA
  obtain ⟨v1, vs1, d1, ds1, p1, q1, rfl, rfl, rfl, h1, r1⟩ := trodAll_cons r0
  obtain ⟨v2, vs2, d2, ds2, p2, q2, rfl, rfl, rfl, h2, r2⟩ := trodAll_cons r1
  obtain ⟨rfl, rfl, rfl⟩ := trodAll_nil r2
  obtain rfl : args = #[v0, v1, v2] := by cases args; simp_all
  obtain ⟨rfl, rfl⟩ := trodVars_none hV
  have k0 := h0
  have lt0 : ∀ x ∈ p0, x.block < W.heap.size := by obtain ⟨m, hm⟩ := k0; exact DataW.trod_lt m _ _ _ hm
  obtain ⟨cs0, ⟨l0_0, a0_1⟩, rfl, ⟨_, _, rfl, ⟨A0_0, c0_0, rfl, hc0_0, hr0_0⟩, rfl⟩, ⟨wl0_0, wa0_1⟩⟩ := Opens.Rd.agg (Opens.Rd.two Try.underlying24 (Opens.Rd.row 3 Try.underlying22 (by kernel_rfl) (Opens.Rd.int Try.underlying3)) (Opens.Rd.int Try.underlying3) (by kernel_rfl) rfl (by kernel_rfl) rfl (by kernel_rfl)) Try.underlying24 (hval 0 24 v0 rfl rfl) h0
  have k1 := h1
  have lt1 : ∀ x ∈ p1, x.block < W.heap.size := by obtain ⟨m, hm⟩ := k1; exact DataW.trod_lt m _ _ _ hm
  obtain ⟨A1, c1, l1, rfl, hc1, hr1, wl1⟩ := Opens.Rd.slice (Opens.Rd.row 3 Try.underlying22 (by kernel_rfl) (Opens.Rd.int Try.underlying3)) Try.underlying22 (hval 1 22 v1 rfl rfl) h1
  have k2 := h2
  have lt2 : ∀ x ∈ p2, x.block < W.heap.size := by obtain ⟨m, hm⟩ := k2; exact DataW.trod_lt m _ _ _ hm
  obtain ⟨A2, c2, l2, rfl, hc2, hr2, wl2⟩ := Opens.Rd.slice (Opens.Rd.row 3 Try.underlying22 (by kernel_rfl) (Opens.Rd.int Try.underlying3)) Try.underlying22 (hval 2 22 v2 rfl rfl) h2
  clear hA0 hval0 hsz0
  obtain ⟨kk, hk⟩ := Pure.FnExactEnough l0_0 a0_1 l1 l2 wl0_0 wa0_1 wl1 wl2
  have hcalls : Calls Try.prog 8 #[.agg #[.slice A0_0 l0_0.length c0_0, .int .i64 a0_1], .slice A1 l1.length c1, .slice A2 l2.length c2] W (fun e w' => e = .returned (.bool true) ∧ Below W.heap.size W w') := PFnExactEnough.laws_FnExactEnough.calls (k := kk) (A0_0 := A0_0) (c0_0 := c0_0) (l0_0 := l0_0) (hr0_0 := hr0_0) (hc0_0 := hc0_0) (a0_1 := a0_1) (A1 := A1) (c1 := c1) (l1 := l1) (hr1 := hr1) (hc1 := hc1) (A2 := A2) (c2 := c2) (l2 := l2) (hr2 := hr2) (hc2 := hc2) (r := true) (w := W) (h := hk)
  refine hcalls.mono fun e W' ⟨he, bel⟩ => ?_
  subst he
  exact ⟨_, rfl, _, _, _, [], _, [], hW', trodAll_mk1 (shut_bool Try.underlying4 _), (trodAll_cons_mk (Below.trod laidOut (by kernel_rfl) (of_decide_eq_true (by kernel_rfl)) k0 bel lt0) (trodAll_cons_mk (Below.trod laidOut (by kernel_rfl) (of_decide_eq_true (by kernel_rfl)) k1 bel lt1) (trodAll_cons_mk (Below.trod laidOut (by kernel_rfl) (of_decide_eq_true (by kernel_rfl)) k2 bel lt2) trodAll_mk0))), rfl, bel.frame _, fun h => by cases h⟩
theorem over : Rows.fnExactEnoughRow.holds Try.pinned (OpenSpec.ofChange Rows.fnExactEnoughSpec) :=
  OpenClaim.holds_of_wide 8 Try.f8 rfl rfl rfl rfl rfl rfl rfl ⟨rfl, rfl, rfl, rfl, rfl⟩ rfl rfl rfl rfl rfl (by kernel_rfl) Try.func8 (by kernel_rfl)
    (of_decide_eq_true (by kernel_rfl)) (by unfold Func.isWrapper; first | (rw [if_pos (by decide +kernel)]; kernel_rfl) | (rw [if_neg (by decide +kernel)]; exact ⟨rfl, rfl⟩))
    (fun os started H enc _ => lifted os started H enc)
theorem proved : Rows.FnExactEnoughSaid := over
end Go.Proofs.Ytfkdgbhjkpigfaa.fnExactEnough
namespace Go.Proofs.Ytfkdgbhjkpigfaa
/-- The row, under a short name, for the claim. -/
theorem fnExactEnough_holds : Rows.FnExactEnoughSaid := fnExactEnough.proved
#print axioms fnExactEnough_holds
end Go.Proofs.Ytfkdgbhjkpigfaa
