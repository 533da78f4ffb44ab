/-
  No cell of these rows narrows 'for every input' (looked for: loops, veiled, ifaces, maps, wideKeys, modest, calm, conditions, laid).
  DERIVED. THE GIVEN ROWS OF THIS SEAT. 12 by the template 'for every input the law returns true; each argument reads behind the call as it read before'; 0 by the template 'total and deterministic' (their statements: YtfkdgbhjkpigfaaTotals.lean).
  GIVEN WITH THE SEED: the statements are not yours to turn. If you find one false, say at which input.
  Laid BY PROGRAM, IN A SANDBOX (cutbox-rows.mjs): the forced cells as the released guide's own fill.sh prints them over the translation ef01725eea701c2c… (all of the seat's roots in one cut). By AI agents, Wed Nov 11 2026. No macro, syntax, notation, axiom, sorry.
-/
import Derived.Test.YtfkdgbhjkpigfaaChecked
import GoSem.Claim
import GoSem.ClaimJoined
import GoSem.ClaimMapViews
import Derived.JoinedTies
import Derived.KernelRfl
namespace Go.Proofs.Ytfkdgbhjkpigfaa
/- THE CELL 'sum', in the pinned program and in every row, IS THE sha256 OF THE DUMP (.gsa) THAT YtfkdgbhjkpigfaaProg.lean LOADS. Nothing in Lean hashes anything: it is a label: what it is worth is what the hold of that sum in a sandbox is worth. -/
noncomputable def Try.pinned : Pinned := { name := "ytfkdgbhjkpigfaa", sum := "ef01725eea701c2c70ee6983755a26f11bf4d0580a88e24b9ac682c7586db944", checked := Try.checked }
namespace Rows
def none {H : Type} : Left H := { results := [], args := [] }

/-- 'laws.FnExactConfigOk': WHATEVER THE INPUT: true; the input reads as it did. -/
def fnExactConfigOkSpec : ChangeSpec := { name := "fnExactConfigOk", fn := fun _ => fun
  | [d] => { results := [.lit (.bool true)], args := [d] }
  | _ => none }
def fnExactConfigOkRow : OpenClaim := { program := "ytfkdgbhjkpigfaa", sum := "ef01725eea701c2c70ee6983755a26f11bf4d0580a88e24b9ac682c7586db944", func := "loop.example/g00178/laws.FnExactConfigOk", spec := "fnExactConfigOk", apart := false }
def FnExactConfigOkSaid : Prop := fnExactConfigOkRow.holds Try.pinned (OpenSpec.ofChange fnExactConfigOkSpec)

/-- ITS FALSE NEIGHBOUR: 'it returns false'. Refute it at one input. -/
def fnExactConfigOkWrong : ChangeSpec := { name := "fnExactConfigOk", fn := fun _ => fun
  | [d] => { results := [.lit (.bool false)], args := [d] }
  | _ => none }
def FnExactConfigOkWrongFalsely : Prop := fnExactConfigOkRow.holds Try.pinned (OpenSpec.ofChange fnExactConfigOkWrong)

/-- 'laws.FnExactNodesOk': WHATEVER THE INPUT: true; the input reads as it did. -/
def fnExactNodesOkSpec : ChangeSpec := { name := "fnExactNodesOk", fn := fun _ => fun
  | [d1, d2] => { results := [.lit (.bool true)], args := [d1, d2] }
  | _ => none }
def fnExactNodesOkRow : OpenClaim := { program := "ytfkdgbhjkpigfaa", sum := "ef01725eea701c2c70ee6983755a26f11bf4d0580a88e24b9ac682c7586db944", func := "loop.example/g00178/laws.FnExactNodesOk", spec := "fnExactNodesOk", apart := false }
def FnExactNodesOkSaid : Prop := fnExactNodesOkRow.holds Try.pinned (OpenSpec.ofChange fnExactNodesOkSpec)

/-- ITS FALSE NEIGHBOUR: 'it returns false'. Refute it at one input. -/
def fnExactNodesOkWrong : ChangeSpec := { name := "fnExactNodesOk", fn := fun _ => fun
  | [d1, d2] => { results := [.lit (.bool false)], args := [d1, d2] }
  | _ => none }
def FnExactNodesOkWrongFalsely : Prop := fnExactNodesOkRow.holds Try.pinned (OpenSpec.ofChange fnExactNodesOkWrong)

/-- 'laws.FnExactSpanOf': WHATEVER THE INPUT: true; the input reads as it did. -/
def fnExactSpanOfSpec : ChangeSpec := { name := "fnExactSpanOf", fn := fun _ => fun
  | [d1, d2] => { results := [.lit (.bool true)], args := [d1, d2] }
  | _ => none }
def fnExactSpanOfRow : OpenClaim := { program := "ytfkdgbhjkpigfaa", sum := "ef01725eea701c2c70ee6983755a26f11bf4d0580a88e24b9ac682c7586db944", func := "loop.example/g00178/laws.FnExactSpanOf", spec := "fnExactSpanOf", apart := false }
def FnExactSpanOfSaid : Prop := fnExactSpanOfRow.holds Try.pinned (OpenSpec.ofChange fnExactSpanOfSpec)

/-- ITS FALSE NEIGHBOUR: 'it returns false'. Refute it at one input. -/
def fnExactSpanOfWrong : ChangeSpec := { name := "fnExactSpanOf", fn := fun _ => fun
  | [d1, d2] => { results := [.lit (.bool false)], args := [d1, d2] }
  | _ => none }
def FnExactSpanOfWrongFalsely : Prop := fnExactSpanOfRow.holds Try.pinned (OpenSpec.ofChange fnExactSpanOfWrong)

/-- 'laws.FnExactHolds': WHATEVER THE INPUT: true; the input reads as it did. -/
def fnExactHoldsSpec : ChangeSpec := { name := "fnExactHolds", fn := fun _ => fun
  | [d1, d2] => { results := [.lit (.bool true)], args := [d1, d2] }
  | _ => none }
def fnExactHoldsRow : OpenClaim := { program := "ytfkdgbhjkpigfaa", sum := "ef01725eea701c2c70ee6983755a26f11bf4d0580a88e24b9ac682c7586db944", func := "loop.example/g00178/laws.FnExactHolds", spec := "fnExactHolds", apart := false }
def FnExactHoldsSaid : Prop := fnExactHoldsRow.holds Try.pinned (OpenSpec.ofChange fnExactHoldsSpec)

/-- ITS FALSE NEIGHBOUR: 'it returns false'. Refute it at one input. -/
def fnExactHoldsWrong : ChangeSpec := { name := "fnExactHolds", fn := fun _ => fun
  | [d1, d2] => { results := [.lit (.bool false)], args := [d1, d2] }
  | _ => none }
def FnExactHoldsWrongFalsely : Prop := fnExactHoldsRow.holds Try.pinned (OpenSpec.ofChange fnExactHoldsWrong)

/-- 'laws.FnExactRest': WHATEVER THE INPUT: true; the input reads as it did. -/
def fnExactRestSpec : ChangeSpec := { name := "fnExactRest", fn := fun _ => fun
  | [d1, d2, d3] => { results := [.lit (.bool true)], args := [d1, d2, d3] }
  | _ => none }
def fnExactRestRow : OpenClaim := { program := "ytfkdgbhjkpigfaa", sum := "ef01725eea701c2c70ee6983755a26f11bf4d0580a88e24b9ac682c7586db944", func := "loop.example/g00178/laws.FnExactRest", spec := "fnExactRest", apart := false }
def FnExactRestSaid : Prop := fnExactRestRow.holds Try.pinned (OpenSpec.ofChange fnExactRestSpec)

/-- ITS FALSE NEIGHBOUR: 'it returns false'. Refute it at one input. -/
def fnExactRestWrong : ChangeSpec := { name := "fnExactRest", fn := fun _ => fun
  | [d1, d2, d3] => { results := [.lit (.bool false)], args := [d1, d2, d3] }
  | _ => none }
def FnExactRestWrongFalsely : Prop := fnExactRestRow.holds Try.pinned (OpenSpec.ofChange fnExactRestWrong)

/-- 'laws.FnExactEnough': WHATEVER THE INPUT: true; the input reads as it did. -/
def fnExactEnoughSpec : ChangeSpec := { name := "fnExactEnough", fn := fun _ => fun
  | [d1, d2, d3] => { results := [.lit (.bool true)], args := [d1, d2, d3] }
  | _ => none }
def fnExactEnoughRow : OpenClaim := { program := "ytfkdgbhjkpigfaa", sum := "ef01725eea701c2c70ee6983755a26f11bf4d0580a88e24b9ac682c7586db944", func := "loop.example/g00178/laws.FnExactEnough", spec := "fnExactEnough", unfollowed := true, recurses := true, apart := false }
def FnExactEnoughSaid : Prop := fnExactEnoughRow.holds Try.pinned (OpenSpec.ofChange fnExactEnoughSpec)

/-- ITS FALSE NEIGHBOUR: 'it returns false'. Refute it at one input. -/
def fnExactEnoughWrong : ChangeSpec := { name := "fnExactEnough", fn := fun _ => fun
  | [d1, d2, d3] => { results := [.lit (.bool false)], args := [d1, d2, d3] }
  | _ => none }
def FnExactEnoughWrongFalsely : Prop := fnExactEnoughRow.holds Try.pinned (OpenSpec.ofChange fnExactEnoughWrong)

/-- 'laws.FnExactChoose': WHATEVER THE INPUT: true; the input reads as it did. -/
def fnExactChooseSpec : ChangeSpec := { name := "fnExactChoose", fn := fun _ => fun
  | [d1, d2, d3] => { results := [.lit (.bool true)], args := [d1, d2, d3] }
  | _ => none }
def fnExactChooseRow : OpenClaim := { program := "ytfkdgbhjkpigfaa", sum := "ef01725eea701c2c70ee6983755a26f11bf4d0580a88e24b9ac682c7586db944", func := "loop.example/g00178/laws.FnExactChoose", spec := "fnExactChoose", recurses := true, apart := false }
def FnExactChooseSaid : Prop := fnExactChooseRow.holds Try.pinned (OpenSpec.ofChange fnExactChooseSpec)

/-- ITS FALSE NEIGHBOUR: 'it returns false'. Refute it at one input. -/
def fnExactChooseWrong : ChangeSpec := { name := "fnExactChoose", fn := fun _ => fun
  | [d1, d2, d3] => { results := [.lit (.bool false)], args := [d1, d2, d3] }
  | _ => none }
def FnExactChooseWrongFalsely : Prop := fnExactChooseRow.holds Try.pinned (OpenSpec.ofChange fnExactChooseWrong)

/-- 'laws.FnMeet': WHATEVER THE INPUT: true; the input reads as it did. -/
def fnMeetSpec : ChangeSpec := { name := "fnMeet", fn := fun _ => fun
  | [d] => { results := [.lit (.bool true)], args := [d] }
  | _ => none }
def fnMeetRow : OpenClaim := { program := "ytfkdgbhjkpigfaa", sum := "ef01725eea701c2c70ee6983755a26f11bf4d0580a88e24b9ac682c7586db944", func := "loop.example/g00178/laws.FnMeet", spec := "fnMeet", unfollowed := true, recurses := true, apart := false }
def FnMeetSaid : Prop := fnMeetRow.holds Try.pinned (OpenSpec.ofChange fnMeetSpec)

/-- ITS FALSE NEIGHBOUR: 'it returns false'. Refute it at one input. -/
def fnMeetWrong : ChangeSpec := { name := "fnMeet", fn := fun _ => fun
  | [d] => { results := [.lit (.bool false)], args := [d] }
  | _ => none }
def FnMeetWrongFalsely : Prop := fnMeetRow.holds Try.pinned (OpenSpec.ofChange fnMeetWrong)

/-- 'laws.FnSpan': WHATEVER THE INPUT: true; the input reads as it did. -/
def fnSpanSpec : ChangeSpec := { name := "fnSpan", fn := fun _ => fun
  | [d] => { results := [.lit (.bool true)], args := [d] }
  | _ => none }
def fnSpanRow : OpenClaim := { program := "ytfkdgbhjkpigfaa", sum := "ef01725eea701c2c70ee6983755a26f11bf4d0580a88e24b9ac682c7586db944", func := "loop.example/g00178/laws.FnSpan", spec := "fnSpan", apart := false }
def FnSpanSaid : Prop := fnSpanRow.holds Try.pinned (OpenSpec.ofChange fnSpanSpec)

/-- ITS FALSE NEIGHBOUR: 'it returns false'. Refute it at one input. -/
def fnSpanWrong : ChangeSpec := { name := "fnSpan", fn := fun _ => fun
  | [d] => { results := [.lit (.bool false)], args := [d] }
  | _ => none }
def FnSpanWrongFalsely : Prop := fnSpanRow.holds Try.pinned (OpenSpec.ofChange fnSpanWrong)

/-- 'laws.FnRest': WHATEVER THE INPUT: true; the input reads as it did. -/
def fnRestSpec : ChangeSpec := { name := "fnRest", fn := fun _ => fun
  | [d] => { results := [.lit (.bool true)], args := [d] }
  | _ => none }
def fnRestRow : OpenClaim := { program := "ytfkdgbhjkpigfaa", sum := "ef01725eea701c2c70ee6983755a26f11bf4d0580a88e24b9ac682c7586db944", func := "loop.example/g00178/laws.FnRest", spec := "fnRest", apart := false }
def FnRestSaid : Prop := fnRestRow.holds Try.pinned (OpenSpec.ofChange fnRestSpec)

/-- ITS FALSE NEIGHBOUR: 'it returns false'. Refute it at one input. -/
def fnRestWrong : ChangeSpec := { name := "fnRest", fn := fun _ => fun
  | [d] => { results := [.lit (.bool false)], args := [d] }
  | _ => none }
def FnRestWrongFalsely : Prop := fnRestRow.holds Try.pinned (OpenSpec.ofChange fnRestWrong)

/-- 'laws.FnChosen': WHATEVER THE INPUT: true; the input reads as it did. -/
def fnChosenSpec : ChangeSpec := { name := "fnChosen", fn := fun _ => fun
  | [d] => { results := [.lit (.bool true)], args := [d] }
  | _ => none }
def fnChosenRow : OpenClaim := { program := "ytfkdgbhjkpigfaa", sum := "ef01725eea701c2c70ee6983755a26f11bf4d0580a88e24b9ac682c7586db944", func := "loop.example/g00178/laws.FnChosen", spec := "fnChosen", recurses := true, apart := false }
def FnChosenSaid : Prop := fnChosenRow.holds Try.pinned (OpenSpec.ofChange fnChosenSpec)

/-- ITS FALSE NEIGHBOUR: 'it returns false'. Refute it at one input. -/
def fnChosenWrong : ChangeSpec := { name := "fnChosen", fn := fun _ => fun
  | [d] => { results := [.lit (.bool false)], args := [d] }
  | _ => none }
def FnChosenWrongFalsely : Prop := fnChosenRow.holds Try.pinned (OpenSpec.ofChange fnChosenWrong)

/-- 'laws.FnMask': WHATEVER THE INPUT: true; the input reads as it did. -/
def fnMaskSpec : ChangeSpec := { name := "fnMask", fn := fun _ => fun
  | [d] => { results := [.lit (.bool true)], args := [d] }
  | _ => none }
def fnMaskRow : OpenClaim := { program := "ytfkdgbhjkpigfaa", sum := "ef01725eea701c2c70ee6983755a26f11bf4d0580a88e24b9ac682c7586db944", func := "loop.example/g00178/laws.FnMask", spec := "fnMask", apart := false }
def FnMaskSaid : Prop := fnMaskRow.holds Try.pinned (OpenSpec.ofChange fnMaskSpec)

/-- ITS FALSE NEIGHBOUR: 'it returns false'. Refute it at one input. -/
def fnMaskWrong : ChangeSpec := { name := "fnMask", fn := fun _ => fun
  | [d] => { results := [.lit (.bool false)], args := [d] }
  | _ => none }
def FnMaskWrongFalsely : Prop := fnMaskRow.holds Try.pinned (OpenSpec.ofChange fnMaskWrong)

/- THE SECOND FORM. 'bulk': how many values and letters a reading holds, each counted each time it is reached (what is shared counts as often as it is met; a slice's spare places count too). A statement '..UptoSaid' is the law's where the arguments, and the package variables that the reading takes, are together of bulk at most 1048576: NARROWER than '..Said'. Prove '..Said' where nothing that the law and all that it calls make is longer than what came in: it says more and counts as full. Else prove '..UptoSaid'. A law counts once. -/
mutual
def uptoBulk {H : Type} : DataW H → Nat
  | .lit (.string bytes) => bytes.length + 1
  | .lit _ => 1
  | .nil => 1
  | .ptr d => uptoBulk d + 1
  | .slice elems spare => uptoBulkAll elems + uptoBulkAll spare + 1
  | .agg parts => uptoBulkAll parts + 1
  | .iface _ d => uptoBulk d + 1
  | .map entries => uptoBulkEntries entries + 1
  | .held _ => 1
def uptoBulkAll {H : Type} : List (DataW H) → Nat
  | [] => 0
  | d :: r => uptoBulk d + uptoBulkAll r
def uptoBulkEntries {H : Type} : List (Lit × DataW H) → Nat
  | [] => 0
  | x :: r => uptoBulkEntry x + uptoBulkEntries r
def uptoBulkEntry {H : Type} : Lit × DataW H → Nat
  | (.string bytes, d) => bytes.length + uptoBulk d + 1
  | (_, d) => uptoBulk d + 1
 end
def uptoSmall : (H : Type) → List (DataW H) → Bool := fun _ ds => decide (uptoBulkAll ds ≤ 1048576)
def OpenSpec.upto (s : _root_.Go.ChangeSpec) : _root_.Go.OpenSpec := { _root_.Go.OpenSpec.ofChange s with cond := some uptoSmall }

/-- 'laws.FnExactConfigOk', WHERE WHAT IT READS IS OF BULK AT MOST 1048576: true; the input reads as it did. -/
def fnExactConfigOkUptoRow : OpenClaim := { program := "ytfkdgbhjkpigfaa", sum := "ef01725eea701c2c70ee6983755a26f11bf4d0580a88e24b9ac682c7586db944", func := "loop.example/g00178/laws.FnExactConfigOk", spec := "fnExactConfigOk", apart := false, narrowed := true }
def FnExactConfigOkUptoSaid : Prop := fnExactConfigOkUptoRow.holds Try.pinned (OpenSpec.upto fnExactConfigOkSpec)

/-- 'laws.FnExactNodesOk', WHERE WHAT IT READS IS OF BULK AT MOST 1048576: true; the input reads as it did. -/
def fnExactNodesOkUptoRow : OpenClaim := { program := "ytfkdgbhjkpigfaa", sum := "ef01725eea701c2c70ee6983755a26f11bf4d0580a88e24b9ac682c7586db944", func := "loop.example/g00178/laws.FnExactNodesOk", spec := "fnExactNodesOk", apart := false, narrowed := true }
def FnExactNodesOkUptoSaid : Prop := fnExactNodesOkUptoRow.holds Try.pinned (OpenSpec.upto fnExactNodesOkSpec)

/-- 'laws.FnExactSpanOf', WHERE WHAT IT READS IS OF BULK AT MOST 1048576: true; the input reads as it did. -/
def fnExactSpanOfUptoRow : OpenClaim := { program := "ytfkdgbhjkpigfaa", sum := "ef01725eea701c2c70ee6983755a26f11bf4d0580a88e24b9ac682c7586db944", func := "loop.example/g00178/laws.FnExactSpanOf", spec := "fnExactSpanOf", apart := false, narrowed := true }
def FnExactSpanOfUptoSaid : Prop := fnExactSpanOfUptoRow.holds Try.pinned (OpenSpec.upto fnExactSpanOfSpec)

/-- 'laws.FnExactHolds', WHERE WHAT IT READS IS OF BULK AT MOST 1048576: true; the input reads as it did. -/
def fnExactHoldsUptoRow : OpenClaim := { program := "ytfkdgbhjkpigfaa", sum := "ef01725eea701c2c70ee6983755a26f11bf4d0580a88e24b9ac682c7586db944", func := "loop.example/g00178/laws.FnExactHolds", spec := "fnExactHolds", apart := false, narrowed := true }
def FnExactHoldsUptoSaid : Prop := fnExactHoldsUptoRow.holds Try.pinned (OpenSpec.upto fnExactHoldsSpec)

/-- 'laws.FnExactRest', WHERE WHAT IT READS IS OF BULK AT MOST 1048576: true; the input reads as it did. -/
def fnExactRestUptoRow : OpenClaim := { program := "ytfkdgbhjkpigfaa", sum := "ef01725eea701c2c70ee6983755a26f11bf4d0580a88e24b9ac682c7586db944", func := "loop.example/g00178/laws.FnExactRest", spec := "fnExactRest", apart := false, narrowed := true }
def FnExactRestUptoSaid : Prop := fnExactRestUptoRow.holds Try.pinned (OpenSpec.upto fnExactRestSpec)

/-- 'laws.FnExactEnough', WHERE WHAT IT READS IS OF BULK AT MOST 1048576: true; the input reads as it did. -/
def fnExactEnoughUptoRow : OpenClaim := { program := "ytfkdgbhjkpigfaa", sum := "ef01725eea701c2c70ee6983755a26f11bf4d0580a88e24b9ac682c7586db944", func := "loop.example/g00178/laws.FnExactEnough", spec := "fnExactEnough", unfollowed := true, recurses := true, apart := false, narrowed := true }
def FnExactEnoughUptoSaid : Prop := fnExactEnoughUptoRow.holds Try.pinned (OpenSpec.upto fnExactEnoughSpec)

/-- 'laws.FnExactChoose', WHERE WHAT IT READS IS OF BULK AT MOST 1048576: true; the input reads as it did. -/
def fnExactChooseUptoRow : OpenClaim := { program := "ytfkdgbhjkpigfaa", sum := "ef01725eea701c2c70ee6983755a26f11bf4d0580a88e24b9ac682c7586db944", func := "loop.example/g00178/laws.FnExactChoose", spec := "fnExactChoose", recurses := true, apart := false, narrowed := true }
def FnExactChooseUptoSaid : Prop := fnExactChooseUptoRow.holds Try.pinned (OpenSpec.upto fnExactChooseSpec)

/-- 'laws.FnMeet', WHERE WHAT IT READS IS OF BULK AT MOST 1048576: true; the input reads as it did. -/
def fnMeetUptoRow : OpenClaim := { program := "ytfkdgbhjkpigfaa", sum := "ef01725eea701c2c70ee6983755a26f11bf4d0580a88e24b9ac682c7586db944", func := "loop.example/g00178/laws.FnMeet", spec := "fnMeet", unfollowed := true, recurses := true, apart := false, narrowed := true }
def FnMeetUptoSaid : Prop := fnMeetUptoRow.holds Try.pinned (OpenSpec.upto fnMeetSpec)

/-- 'laws.FnSpan', WHERE WHAT IT READS IS OF BULK AT MOST 1048576: true; the input reads as it did. -/
def fnSpanUptoRow : OpenClaim := { program := "ytfkdgbhjkpigfaa", sum := "ef01725eea701c2c70ee6983755a26f11bf4d0580a88e24b9ac682c7586db944", func := "loop.example/g00178/laws.FnSpan", spec := "fnSpan", apart := false, narrowed := true }
def FnSpanUptoSaid : Prop := fnSpanUptoRow.holds Try.pinned (OpenSpec.upto fnSpanSpec)

/-- 'laws.FnRest', WHERE WHAT IT READS IS OF BULK AT MOST 1048576: true; the input reads as it did. -/
def fnRestUptoRow : OpenClaim := { program := "ytfkdgbhjkpigfaa", sum := "ef01725eea701c2c70ee6983755a26f11bf4d0580a88e24b9ac682c7586db944", func := "loop.example/g00178/laws.FnRest", spec := "fnRest", apart := false, narrowed := true }
def FnRestUptoSaid : Prop := fnRestUptoRow.holds Try.pinned (OpenSpec.upto fnRestSpec)

/-- 'laws.FnChosen', WHERE WHAT IT READS IS OF BULK AT MOST 1048576: true; the input reads as it did. -/
def fnChosenUptoRow : OpenClaim := { program := "ytfkdgbhjkpigfaa", sum := "ef01725eea701c2c70ee6983755a26f11bf4d0580a88e24b9ac682c7586db944", func := "loop.example/g00178/laws.FnChosen", spec := "fnChosen", recurses := true, apart := false, narrowed := true }
def FnChosenUptoSaid : Prop := fnChosenUptoRow.holds Try.pinned (OpenSpec.upto fnChosenSpec)

/-- 'laws.FnMask', WHERE WHAT IT READS IS OF BULK AT MOST 1048576: true; the input reads as it did. -/
def fnMaskUptoRow : OpenClaim := { program := "ytfkdgbhjkpigfaa", sum := "ef01725eea701c2c70ee6983755a26f11bf4d0580a88e24b9ac682c7586db944", func := "loop.example/g00178/laws.FnMask", spec := "fnMask", apart := false, narrowed := true }
def FnMaskUptoSaid : Prop := fnMaskUptoRow.holds Try.pinned (OpenSpec.upto fnMaskSpec)

end Rows
end Go.Proofs.Ytfkdgbhjkpigfaa
