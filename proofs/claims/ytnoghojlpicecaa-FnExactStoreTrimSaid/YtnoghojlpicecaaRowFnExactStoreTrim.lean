/- The row of FnExactStoreTrim: for every argument the law answers true. Conditions: none beyond the given statement. -/
import Derived.Test.YtnoghojlpicecaaRows
import Derived.Test.YtnoghojlpicecaaMFnExactStoreTrimx8
import Derived.Test.YtnoghojlpicecaaPureFnExactStoreTrim
import Derived.Test.YtnoghojlpicecaaOFnExactStoreTrim
import Derived.WalkKit
import Derived.ProofKit
import Derived.OpenShut
import Derived.ShutString
import Derived.ChangeOld
import Derived.Below
import Derived.SizedLaws
namespace Go.Proofs.Ytnoghojlpicecaa.fnExactStoreTrim
open Go.ChangeShapes Go.WideShapes Go.ChangeAt Go.RowKit Go.Proofs.Ytnoghojlpicecaa.PFnExactStoreTrim Go.Proofs.Ytnoghojlpicecaa.Pure Go.Proofs.YtnoghojlpicecaaW.PrintWords
open Go.ChangeMaps (open_string shut_string)
set_option linter.unusedVariables false
theorem own : ownKnob Try.prog.godebug = none := by kernel_rfl
theorem laidOut : laidOutB Try.prog = true := by kernel_rfl
theorem rdS26 : Opens.Rd Try.prog 26 k26 QS26 := Opens.Rd.iso (fun x : S26 => (x.f0, x.f1, x.f2, x.f3)) (fun p => ⟨p.1, p.2.1, p.2.2.1, p.2.2.2⟩) (fun _ => rfl) (Opens.Rd.four Try.underlying26 (Opens.Rd.int Try.underlying3) (Opens.Rd.int Try.underlying3) (Opens.Rd.bool Try.underlying4) (Opens.Rd.string Try.underlying9) (by kernel_rfl) rfl (by kernel_rfl) rfl (by kernel_rfl) rfl (by kernel_rfl) rfl (by kernel_rfl))
set_option maxRecDepth 100000 in
theorem lifted (os : Os) (started : os.Started) (H : Type) (enc : TypeId × Value → H) :
    ReturnsInHanded {} Try.checked os 4 .any (Rows.fnExactStoreTrimSpec.pre6 enc Try.prog Try.f4 Rows.fnExactStoreTrimRow.domain false) (Rows.fnExactStoreTrimSpec.post enc Try.prog Try.f4 false true false false) := by
  refine returnsInHanded_of_change_sized (C := Try.checked) own started (by kernel_rfl) Try.func4
    (ChangeSpec.witness6 (enc := enc) (C := Try.checked) false ⟨#[], #[.agg #[.slice none 0 0, .slice none 0 0, .int .i64 0], .int .i64 0], []⟩ 8 (by kernel_rfl) (by kernel_rfl) (by kernel_rfl) (by kernel_rfl)) ?_
  intro W base args ds gs before hval0 hW hcnd hsz0 _
  have hval : ∀ (j : Nat) t v, Try.f4.params[j]? = some t → args[j]? = some v → Value.okWide Try.prog W .any base t v := hval0
  have hW' := hW
  obtain ⟨p, q, hA0, hV, rfl, hfz, hnd⟩ := hW
  have hA : DataW.TrodAll enc Try.prog W 0 (fun _ => true) true Try.f4.params.toList args.toList ds p := hA0
  rw [Try.params4] at hA hval
  obtain ⟨v0, vs0, d0, ds0, p0, q0, hargs, rfl, rfl, h0, r0⟩ := trodAll_cons hA
  obtain ⟨v1, vs1, d1, ds1, p1, q1, rfl, rfl, rfl, h1, r1⟩ := trodAll_cons r0
  obtain ⟨rfl, rfl, rfl⟩ := trodAll_nil r1
  obtain rfl : args = #[v0, v1] := by cases args; simp_all
  obtain ⟨rfl, rfl⟩ := trodVars_none hV
  have k0 := h0
  have lt0 : ∀ x ∈ p0, x.block < W.heap.size := by obtain ⟨m, hm⟩ := k0; exact DataW.trod_lt m _ _ _ hm
  obtain ⟨cs0, ⟨l0_0, l0_1, a0_2⟩, rfl, ⟨_, _, rfl, ⟨A0_0, c0_0, rfl, hc0_0, hr0_0⟩, ⟨_, _, rfl, ⟨A0_1, c0_1, rfl, hc0_1, hr0_1⟩, rfl⟩⟩, ⟨wl0_0, wl0_1, wa0_2⟩⟩ := Opens.Rd.agg (Opens.Rd.three Try.underlying24 (Opens.Rd.row 26 Try.underlying22 (by kernel_rfl) rdS26) (Opens.Rd.row 26 Try.underlying22 (by kernel_rfl) rdS26) (Opens.Rd.int Try.underlying3) (by kernel_rfl) rfl (by kernel_rfl) rfl (by kernel_rfl) rfl (by kernel_rfl)) Try.underlying24 (hval 0 24 v0 rfl rfl) h0
  have k1 := h1
  have lt1 : ∀ x ∈ p1, x.block < W.heap.size := by obtain ⟨m, hm⟩ := k1; exact DataW.trod_lt m _ _ _ hm
  obtain ⟨a1, rfl, _, _, wa1⟩ := open_int Try.underlying3 (hval 1 3 v1 rfl rfl) h1
  clear hA0 hval0 hsz0
  obtain ⟨kk, hk⟩ := Pure.FnExactStoreTrim l0_0 l0_1 a0_2 a1 wl0_0 wl0_1 wa0_2 wa1
  have hcalls : Calls Try.prog 4 #[.agg #[.slice A0_0 l0_0.length c0_0, .slice A0_1 l0_1.length c0_1, .int .i64 a0_2], .int .i64 a1] W (fun e w' => e = .returned (.bool true) ∧ Below W.heap.size W w') := PFnExactStoreTrim.laws_FnExactStoreTrim.calls (k := kk) (A0_0 := A0_0) (c0_0 := c0_0) (l0_0 := l0_0) (hr0_0 := hr0_0) (hc0_0 := hc0_0) (A0_1 := A0_1) (c0_1 := c0_1) (l0_1 := l0_1) (hr0_1 := hr0_1) (hc0_1 := hc0_1) (a0_2 := a0_2) (a1 := a1) (r := true) (w := W) (h := hk)
  refine hcalls.mono fun e W' ⟨he, bel⟩ => ?_
  subst he
  exact ⟨_, rfl, _, _, _, [], _, [], hW', trodAll_mk1 (shut_bool Try.underlying4 _), (trodAll_cons_mk (Below.trod laidOut (by kernel_rfl) (of_decide_eq_true (by kernel_rfl)) k0 bel lt0) (trodAll_cons_mk (Below.trod laidOut (by kernel_rfl) (of_decide_eq_true (by kernel_rfl)) k1 bel lt1) trodAll_mk0)), rfl, bel.frame _, fun h => by cases h⟩
theorem over : Rows.fnExactStoreTrimRow.holds Try.pinned (OpenSpec.ofChange Rows.fnExactStoreTrimSpec) :=
  OpenClaim.holds_of_wide 4 Try.f4 rfl rfl rfl rfl rfl rfl rfl ⟨rfl, rfl, rfl, rfl, rfl⟩ rfl rfl rfl rfl rfl (by kernel_rfl) Try.func4 (by kernel_rfl)
    (of_decide_eq_true (by kernel_rfl)) (by unfold Func.isWrapper; first | (rw [if_pos (by decide +kernel)]; kernel_rfl) | (rw [if_neg (by decide +kernel)]; exact ⟨rfl, rfl⟩))
    (fun os started H enc _ => lifted os started H enc)
theorem proved : Rows.FnExactStoreTrimSaid := over
end Go.Proofs.Ytnoghojlpicecaa.fnExactStoreTrim
namespace Go.Proofs.Ytnoghojlpicecaa
/-- The row, under a short name, for the claim. -/
theorem fnExactStoreTrim_holds : Rows.FnExactStoreTrimSaid := fnExactStoreTrim.proved
#print axioms fnExactStoreTrim_holds
end Go.Proofs.Ytnoghojlpicecaa
