/- The row of FnExactEntryPack: for every argument the law answers true. Conditions: none beyond the given statement. -/
import Derived.Test.YtgmfpfmpnlgidaaRows
import Derived.Test.YtgmfpfmpnlgidaaMFnExactEntryPackx5
import Derived.Test.YtgmfpfmpnlgidaaPureFnExactEntryPack
import Derived.Test.YtgmfpfmpnlgidaaOpens
import Derived.WalkKit
import Derived.ProofKit
import Derived.OpenShut
import Derived.ShutString
import Derived.ChangeOld
import Derived.Below
import Derived.SizedLaws
namespace Go.Proofs.Ytgmfpfmpnlgidaa.fnExactEntryPack
open Go.ChangeShapes Go.WideShapes Go.ChangeAt Go.RowKit Go.Proofs.Ytgmfpfmpnlgidaa.PFnExactEntryPack Go.Proofs.Ytgmfpfmpnlgidaa.Pure Go.Proofs.YtgmfpfmpnlgidaaW.PrintWords
open Go.ChangeMaps (open_string shut_string)
set_option linter.unusedVariables false
theorem own : ownKnob Try.prog.godebug = none := by kernel_rfl
theorem laidOut : laidOutB Try.prog = true := by kernel_rfl
set_option maxRecDepth 100000 in
theorem lifted (os : Os) (started : os.Started) (H : Type) (enc : TypeId × Value → H) :
    ReturnsInHanded {} Try.checked os 4 .any (Rows.fnExactEntryPackSpec.pre6 enc Try.prog Try.f4 Rows.fnExactEntryPackRow.domain false) (Rows.fnExactEntryPackSpec.post enc Try.prog Try.f4 false true false false) := by
  refine returnsInHanded_of_change_sized (C := Try.checked) own started (by kernel_rfl) Try.func4
    (ChangeSpec.witness6 (enc := enc) (C := Try.checked) false ⟨#[], #[.agg #[.int .i64 0, .int .i64 0, .bool false, .string ⟨#[]⟩]], []⟩ 8 (by kernel_rfl) (by kernel_rfl) (by kernel_rfl) (by kernel_rfl)) ?_
  intro W base args ds gs before hval0 hW hcnd hsz0 _
  have hval : ∀ (j : Nat) t v, Try.f4.params[j]? = some t → args[j]? = some v → Value.okWide Try.prog W .any base t v := hval0
  have hW' := hW
  obtain ⟨p, q, hA0, hV, rfl, hfz, hnd⟩ := hW
  have hA : DataW.TrodAll enc Try.prog W 0 (fun _ => true) true Try.f4.params.toList args.toList ds p := hA0
  rw [Try.params4] at hA hval
  obtain ⟨v0, vs0, d0, ds0, p0, q0, hargs, rfl, rfl, h0, r0⟩ := trodAll_cons hA
  obtain ⟨rfl, rfl, rfl⟩ := trodAll_nil r0
  obtain rfl : args = #[v0] := by cases args; simp_all
  obtain ⟨rfl, rfl⟩ := trodVars_none hV
  have k0 := h0
  have lt0 : ∀ x ∈ p0, x.block < W.heap.size := by obtain ⟨m, hm⟩ := k0; exact DataW.trod_lt m _ _ _ hm
  obtain ⟨cs0, ⟨a0_0, a0_1, a0_2, a0_3⟩, rfl, ⟨_, _, rfl, rfl, ⟨_, _, rfl, rfl, ⟨_, _, rfl, rfl, rfl⟩⟩⟩, ⟨wa0_0, wa0_1, _, wa0_3⟩⟩ := Opens.Rd.agg (Opens.Rd.four Try.underlying29 (Opens.Rd.int Try.underlying3) (Opens.Rd.int Try.underlying3) (Opens.Rd.bool Try.underlying4) (Opens.Rd.string Try.underlying9) (by kernel_rfl) rfl (by kernel_rfl) rfl (by kernel_rfl) rfl (by kernel_rfl) rfl (by kernel_rfl)) Try.underlying29 (hval 0 29 v0 rfl rfl) h0
  clear hA0 hval0 hsz0
  obtain ⟨kk, hk⟩ := Pure.FnExactEntryPack a0_0 a0_1 a0_2 a0_3 wa0_0 wa0_1 wa0_3
  have hcalls : Calls Try.prog 4 #[.agg #[.int .i64 a0_0, .int .i64 a0_1, .bool a0_2, .string a0_3]] W (fun e w' => e = .returned (.bool true) ∧ Below W.heap.size W w') := PFnExactEntryPack.laws_FnExactEntryPack.calls (k := kk) (a0_0 := a0_0) (a0_1 := a0_1) (a0_2 := a0_2) (a0_3 := a0_3) (r := true) (w := W) (h := hk)
  refine hcalls.mono fun e W' ⟨he, bel⟩ => ?_
  subst he
  exact ⟨_, rfl, _, _, _, [], _, [], hW', trodAll_mk1 (shut_bool Try.underlying4 _), (trodAll_cons_mk (Below.trod laidOut (by kernel_rfl) (of_decide_eq_true (by kernel_rfl)) k0 bel lt0) trodAll_mk0), rfl, bel.frame _, fun h => by cases h⟩
theorem over : Rows.fnExactEntryPackRow.holds Try.pinned (OpenSpec.ofChange Rows.fnExactEntryPackSpec) :=
  OpenClaim.holds_of_wide 4 Try.f4 rfl rfl rfl rfl rfl rfl rfl ⟨rfl, rfl, rfl, rfl, rfl⟩ rfl rfl rfl rfl rfl (by kernel_rfl) Try.func4 (by kernel_rfl)
    (of_decide_eq_true (by kernel_rfl)) (by unfold Func.isWrapper; first | (rw [if_pos (by decide +kernel)]; kernel_rfl) | (rw [if_neg (by decide +kernel)]; exact ⟨rfl, rfl⟩))
    (fun os started H enc _ => lifted os started H enc)
theorem proved : Rows.FnExactEntryPackSaid := over
end Go.Proofs.Ytgmfpfmpnlgidaa.fnExactEntryPack
namespace Go.Proofs.Ytgmfpfmpnlgidaa
/-- The row, under a short name, for the claim. -/
theorem fnExactEntryPack_holds : Rows.FnExactEntryPackSaid := fnExactEntryPack.proved
#print axioms fnExactEntryPack_holds
end Go.Proofs.Ytgmfpfmpnlgidaa
