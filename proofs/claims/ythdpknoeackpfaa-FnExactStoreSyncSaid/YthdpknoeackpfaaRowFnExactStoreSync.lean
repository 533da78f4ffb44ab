/- The row of FnExactStoreSync: for every argument the law answers true. Conditions: none beyond the given statement. -/
import Derived.Test.YthdpknoeackpfaaRows
import Derived.Test.YthdpknoeackpfaaMFnExactStoreSyncx11
import Derived.Test.YthdpknoeackpfaaPureFnExactStoreSync
import Derived.Test.YthdpknoeackpfaaOFnExactStoreSync
import Derived.WalkKit
import Derived.ProofKit
import Derived.OpenShut
import Derived.ShutString
import Derived.ChangeOld
import Derived.Below
import Derived.SizedLaws
namespace Go.Proofs.Ythdpknoeackpfaa.fnExactStoreSync
open Go.ChangeShapes Go.WideShapes Go.ChangeAt Go.RowKit Go.Proofs.Ythdpknoeackpfaa.PFnExactStoreSync Go.Proofs.Ythdpknoeackpfaa.Pure Go.Proofs.YthdpknoeackpfaaW.PrintWords
open Go.ChangeMaps (open_string shut_string)
set_option linter.unusedVariables false
theorem own : ownKnob Try.prog.godebug = none := by kernel_rfl
theorem laidOut : laidOutB Try.prog = true := by kernel_rfl
theorem rdS43 : Opens.Rd Try.prog 43 k43 QS43 := Opens.Rd.iso (fun x : S43 => (x.f0, x.f1, x.f2, x.f3)) (fun p => ⟨p.1, p.2.1, p.2.2.1, p.2.2.2⟩) (fun _ => rfl) (Opens.Rd.four Try.underlying43 (Opens.Rd.int Try.underlying3) (Opens.Rd.int Try.underlying3) (Opens.Rd.bool Try.underlying4) (Opens.Rd.string Try.underlying9) (by kernel_rfl) rfl (by kernel_rfl) rfl (by kernel_rfl) rfl (by kernel_rfl) rfl (by kernel_rfl))
set_option maxRecDepth 100000 in
theorem lifted (os : Os) (started : os.Started) (H : Type) (enc : TypeId × Value → H) :
    ReturnsInHanded {} Try.checked os 10 .any (Rows.fnExactStoreSyncSpec.pre6 enc Try.prog Try.f10 Rows.fnExactStoreSyncRow.domain false) (Rows.fnExactStoreSyncSpec.post enc Try.prog Try.f10 false true false false) := by
  refine returnsInHanded_of_change_sized (C := Try.checked) own started (by kernel_rfl) Try.func10
    (ChangeSpec.witness6 (enc := enc) (C := Try.checked) false ⟨#[], #[.agg #[.slice none 0 0, .slice none 0 0, .int .i64 0]], []⟩ 8 (by kernel_rfl) (by kernel_rfl) (by kernel_rfl) (by kernel_rfl)) ?_
  intro W base args ds gs before hval0 hW hcnd hsz0 _
  have hval : ∀ (j : Nat) t v, Try.f10.params[j]? = some t → args[j]? = some v → Value.okWide Try.prog W .any base t v := hval0
  have hW' := hW
  obtain ⟨p, q, hA0, hV, rfl, hfz, hnd⟩ := hW
  have hA : DataW.TrodAll enc Try.prog W 0 (fun _ => true) true Try.f10.params.toList args.toList ds p := hA0
  rw [Try.params10] at hA hval
  obtain ⟨v0, vs0, d0, ds0, p0, q0, hargs, rfl, rfl, h0, r0⟩ := trodAll_cons hA
  obtain ⟨rfl, rfl, rfl⟩ := trodAll_nil r0
  obtain rfl : args = #[v0] := by cases args; simp_all
  obtain ⟨rfl, rfl⟩ := trodVars_none hV
  have k0 := h0
  have lt0 : ∀ x ∈ p0, x.block < W.heap.size := by obtain ⟨m, hm⟩ := k0; exact DataW.trod_lt m _ _ _ hm
  obtain ⟨cs0, ⟨l0_0, l0_1, a0_2⟩, rfl, ⟨_, _, rfl, ⟨A0_0, c0_0, rfl, hc0_0, hr0_0⟩, ⟨_, _, rfl, ⟨A0_1, c0_1, rfl, hc0_1, hr0_1⟩, rfl⟩⟩, ⟨wl0_0, wl0_1, wa0_2⟩⟩ := Opens.Rd.agg (Opens.Rd.three Try.underlying24 (Opens.Rd.row 43 Try.underlying22 (by kernel_rfl) rdS43) (Opens.Rd.row 43 Try.underlying22 (by kernel_rfl) rdS43) (Opens.Rd.int Try.underlying3) (by kernel_rfl) rfl (by kernel_rfl) rfl (by kernel_rfl) rfl (by kernel_rfl)) Try.underlying24 (hval 0 24 v0 rfl rfl) h0
  clear hA0 hval0 hsz0
  obtain ⟨kk, hk⟩ := Pure.FnExactStoreSync l0_0 l0_1 a0_2 wl0_0 wl0_1 wa0_2
  have hcalls : Calls Try.prog 10 #[.agg #[.slice A0_0 l0_0.length c0_0, .slice A0_1 l0_1.length c0_1, .int .i64 a0_2]] W (fun e w' => e = .returned (.bool true) ∧ Below W.heap.size W w') := PFnExactStoreSync.laws_FnExactStoreSync.calls (k := kk) (A0_0 := A0_0) (c0_0 := c0_0) (l0_0 := l0_0) (hr0_0 := hr0_0) (hc0_0 := hc0_0) (A0_1 := A0_1) (c0_1 := c0_1) (l0_1 := l0_1) (hr0_1 := hr0_1) (hc0_1 := hc0_1) (a0_2 := a0_2) (r := true) (w := W) (h := hk)
  refine hcalls.mono fun e W' ⟨he, bel⟩ => ?_
  subst he
  exact ⟨_, rfl, _, _, _, [], _, [], hW', trodAll_mk1 (shut_bool Try.underlying4 _), (trodAll_cons_mk (Below.trod laidOut (by kernel_rfl) (of_decide_eq_true (by kernel_rfl)) k0 bel lt0) trodAll_mk0), rfl, bel.frame _, fun h => by cases h⟩
theorem over : Rows.fnExactStoreSyncRow.holds Try.pinned (OpenSpec.ofChange Rows.fnExactStoreSyncSpec) :=
  OpenClaim.holds_of_wide 10 Try.f10 rfl rfl rfl rfl rfl rfl rfl ⟨rfl, rfl, rfl, rfl, rfl⟩ rfl rfl rfl rfl rfl (by kernel_rfl) Try.func10 (by kernel_rfl)
    (of_decide_eq_true (by kernel_rfl)) (by unfold Func.isWrapper; first | (rw [if_pos (by decide +kernel)]; kernel_rfl) | (rw [if_neg (by decide +kernel)]; exact ⟨rfl, rfl⟩))
    (fun os started H enc _ => lifted os started H enc)
theorem proved : Rows.FnExactStoreSyncSaid := over
end Go.Proofs.Ythdpknoeackpfaa.fnExactStoreSync
namespace Go.Proofs.Ythdpknoeackpfaa
/-- The row, under a short name, for the claim. -/
theorem fnExactStoreSync_holds : Rows.FnExactStoreSyncSaid := fnExactStoreSync.proved
#print axioms fnExactStoreSync_holds
end Go.Proofs.Ythdpknoeackpfaa
