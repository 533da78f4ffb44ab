/- The row of FnExactFirstOpen: for every argument the law answers true. Conditions: none beyond the given statement. -/
import Derived.Test.YthdpknoeackpfaaRows
import Derived.Test.YthdpknoeackpfaaMFnExactFirstOpenx3
import Derived.Test.YthdpknoeackpfaaPureFnExactFirstOpen
import Derived.Test.YthdpknoeackpfaaOpens
import Derived.WalkKit
import Derived.ProofKit
import Derived.OpenShut
import Derived.ShutString
import Derived.ChangeOld
import Derived.Below
import Derived.SizedLaws
namespace Go.Proofs.Ythdpknoeackpfaa.fnExactFirstOpen
open Go.ChangeShapes Go.WideShapes Go.ChangeAt Go.RowKit Go.Proofs.Ythdpknoeackpfaa.PFnExactFirstOpen Go.Proofs.Ythdpknoeackpfaa.Pure Go.Proofs.YthdpknoeackpfaaW.PrintWords
open Go.ChangeMaps (open_string shut_string)
set_option linter.unusedVariables false
theorem own : ownKnob Try.prog.godebug = none := by kernel_rfl
theorem laidOut : laidOutB Try.prog = true := by kernel_rfl
theorem rdS115 : Opens.Rd Try.prog 115 k115 QS115 := Opens.Rd.iso (fun x : S115 => (x.f0, x.f1, x.f2)) (fun p => ⟨p.1, p.2.1, p.2.2⟩) (fun _ => rfl) (Opens.Rd.three Try.underlying115 (Opens.Rd.row 3 Try.underlying95 (by kernel_rfl) (Opens.Rd.int Try.underlying3)) (Opens.Rd.bool Try.underlying4) (Opens.Rd.int Try.underlying3) (by kernel_rfl) rfl (by kernel_rfl) rfl (by kernel_rfl) rfl (by kernel_rfl))
set_option maxRecDepth 100000 in
theorem lifted (os : Os) (started : os.Started) (H : Type) (enc : TypeId × Value → H) :
    ReturnsInHanded {} Try.checked os 12 .any (Rows.fnExactFirstOpenSpec.pre6 enc Try.prog Try.f12 Rows.fnExactFirstOpenRow.domain false) (Rows.fnExactFirstOpenSpec.post enc Try.prog Try.f12 false true false false) := by
  refine returnsInHanded_of_change_sized (C := Try.checked) own started (by kernel_rfl) Try.func12
    (ChangeSpec.witness6 (enc := enc) (C := Try.checked) false ⟨#[], #[.agg #[.slice none 0 0, .int .i64 0]], []⟩ 8 (by kernel_rfl) (by kernel_rfl) (by kernel_rfl) (by kernel_rfl)) ?_
  intro W base args ds gs before hval0 hW hcnd hsz0 _
  have hval : ∀ (j : Nat) t v, Try.f12.params[j]? = some t → args[j]? = some v → Value.okWide Try.prog W .any base t v := hval0
  have hW' := hW
  obtain ⟨p, q, hA0, hV, rfl, hfz, hnd⟩ := hW
  have hA : DataW.TrodAll enc Try.prog W 0 (fun _ => true) true Try.f12.params.toList args.toList ds p := hA0
  rw [Try.params12] at hA hval
  obtain ⟨v0, vs0, d0, ds0, p0, q0, hargs, rfl, rfl, h0, r0⟩ := trodAll_cons hA
  obtain ⟨rfl, rfl, rfl⟩ := trodAll_nil r0
  obtain rfl : args = #[v0] := by cases args; simp_all
  obtain ⟨rfl, rfl⟩ := trodVars_none hV
  have k0 := h0
  have lt0 : ∀ x ∈ p0, x.block < W.heap.size := by obtain ⟨m, hm⟩ := k0; exact DataW.trod_lt m _ _ _ hm
  obtain ⟨cs0, ⟨l0_0, a0_1⟩, rfl, ⟨_, _, rfl, ⟨A0_0, c0_0, rfl, hc0_0, hr0_0⟩, rfl⟩, ⟨wl0_0, wa0_1⟩⟩ := Opens.Rd.agg (Opens.Rd.two Try.underlying58 (Opens.Rd.row 115 Try.underlying56 (by kernel_rfl) rdS115) (Opens.Rd.int Try.underlying3) (by kernel_rfl) rfl (by kernel_rfl) rfl (by kernel_rfl)) Try.underlying58 (hval 0 58 v0 rfl rfl) h0
  clear hA0 hval0 hsz0
  obtain ⟨kk, hk⟩ := Pure.FnExactFirstOpen l0_0 a0_1 wl0_0 wa0_1
  have hcalls : Calls Try.prog 12 #[.agg #[.slice A0_0 l0_0.length c0_0, .int .i64 a0_1]] W (fun e w' => e = .returned (.bool true) ∧ Below W.heap.size W w') := PFnExactFirstOpen.laws_FnExactFirstOpen.calls (k := kk) (A0_0 := A0_0) (c0_0 := c0_0) (l0_0 := l0_0) (hr0_0 := hr0_0) (hc0_0 := hc0_0) (a0_1 := a0_1) (r := true) (w := W) (h := hk)
  refine hcalls.mono fun e W' ⟨he, bel⟩ => ?_
  subst he
  exact ⟨_, rfl, _, _, _, [], _, [], hW', trodAll_mk1 (shut_bool Try.underlying4 _), (trodAll_cons_mk (Below.trod laidOut (by kernel_rfl) (of_decide_eq_true (by kernel_rfl)) k0 bel lt0) trodAll_mk0), rfl, bel.frame _, fun h => by cases h⟩
theorem over : Rows.fnExactFirstOpenRow.holds Try.pinned (OpenSpec.ofChange Rows.fnExactFirstOpenSpec) :=
  OpenClaim.holds_of_wide 12 Try.f12 rfl rfl rfl rfl rfl rfl rfl ⟨rfl, rfl, rfl, rfl, rfl⟩ rfl rfl rfl rfl rfl (by kernel_rfl) Try.func12 (by kernel_rfl)
    (of_decide_eq_true (by kernel_rfl)) (by unfold Func.isWrapper; first | (rw [if_pos (by decide +kernel)]; kernel_rfl) | (rw [if_neg (by decide +kernel)]; exact ⟨rfl, rfl⟩))
    (fun os started H enc _ => lifted os started H enc)
theorem proved : Rows.FnExactFirstOpenSaid := over
end Go.Proofs.Ythdpknoeackpfaa.fnExactFirstOpen
namespace Go.Proofs.Ythdpknoeackpfaa
/-- The row, under a short name, for the claim. -/
theorem fnExactFirstOpen_holds : Rows.FnExactFirstOpenSaid := fnExactFirstOpen.proved
#print axioms fnExactFirstOpen_holds
end Go.Proofs.Ythdpknoeackpfaa
