/-
  No cell of these rows narrows 'for every input' (looked for: loops, veiled, ifaces, maps, wideKeys, modest, calm, conditions, laid).
  DERIVED. THE GIVEN ROWS OF THIS SEAT. 12 by the template 'for every input the law returns true; each argument reads behind the call as it read before'; 0 by the template 'total and deterministic' (their statements: YtckjofnldacpaaaTotals.lean).
  GIVEN WITH THE SEED: the statements are not yours to turn. If you find one false, say at which input.
  Laid BY PROGRAM, IN A SANDBOX (cutbox-rows.mjs): the forced cells as the released guide's own fill.sh prints them over the translation 1bf7d88d6f801c01… (all of the seat's roots in one cut). By AI agents, Wed Nov 11 2026. No macro, syntax, notation, axiom, sorry.
-/
import Derived.Test.YtckjofnldacpaaaChecked
import GoSem.Claim
import GoSem.ClaimJoined
import GoSem.ClaimMapViews
import Derived.JoinedTies
import Derived.KernelRfl
namespace Go.Proofs.Ytckjofnldacpaaa
/- THE CELL 'sum', in the pinned program and in every row, IS THE sha256 OF THE DUMP (.gsa) THAT YtckjofnldacpaaaProg.lean LOADS. Nothing in Lean hashes anything: it is a label: what it is worth is what the hold of that sum in a sandbox is worth. -/
noncomputable def Try.pinned : Pinned := { name := "ytckjofnldacpaaa", sum := "1bf7d88d6f801c01c4b9debaa6c9fd2f85305624ada5a1d149ed661f9391fd47", checked := Try.checked }
namespace Rows
def none {H : Type} : Left H := { results := [], args := [] }

/-- 'laws.FnExactConstants': WHATEVER THE INPUT: true; the input reads as it did. -/
def fnExactConstantsSpec : ChangeSpec := { name := "fnExactConstants", fn := fun _ => fun
  | [] => { results := [.lit (.bool true)], args := [] }
  | _ => none }
def fnExactConstantsRow : OpenClaim := { program := "ytckjofnldacpaaa", sum := "1bf7d88d6f801c01c4b9debaa6c9fd2f85305624ada5a1d149ed661f9391fd47", func := "loop.example/g00178/laws.FnExactConstants", spec := "fnExactConstants", apart := false }
def FnExactConstantsSaid : Prop := fnExactConstantsRow.holds Try.pinned (OpenSpec.ofChange fnExactConstantsSpec)

/-- ITS FALSE NEIGHBOUR: 'it returns false'. Refute it at one input. -/
def fnExactConstantsWrong : ChangeSpec := { name := "fnExactConstants", fn := fun _ => fun
  | [] => { results := [.lit (.bool false)], args := [] }
  | _ => none }
def FnExactConstantsWrongFalsely : Prop := fnExactConstantsRow.holds Try.pinned (OpenSpec.ofChange fnExactConstantsWrong)

/-- 'laws.FnExactPlaceOk': WHATEVER THE INPUT: true; the input reads as it did. -/
def fnExactPlaceOkSpec : ChangeSpec := { name := "fnExactPlaceOk", fn := fun _ => fun
  | [d] => { results := [.lit (.bool true)], args := [d] }
  | _ => none }
def fnExactPlaceOkRow : OpenClaim := { program := "ytckjofnldacpaaa", sum := "1bf7d88d6f801c01c4b9debaa6c9fd2f85305624ada5a1d149ed661f9391fd47", func := "loop.example/g00178/laws.FnExactPlaceOk", spec := "fnExactPlaceOk", apart := false }
def FnExactPlaceOkSaid : Prop := fnExactPlaceOkRow.holds Try.pinned (OpenSpec.ofChange fnExactPlaceOkSpec)

/-- ITS FALSE NEIGHBOUR: 'it returns false'. Refute it at one input. -/
def fnExactPlaceOkWrong : ChangeSpec := { name := "fnExactPlaceOk", fn := fun _ => fun
  | [d] => { results := [.lit (.bool false)], args := [d] }
  | _ => none }
def FnExactPlaceOkWrongFalsely : Prop := fnExactPlaceOkRow.holds Try.pinned (OpenSpec.ofChange fnExactPlaceOkWrong)

/-- 'laws.FnExactPlaceMake': WHATEVER THE INPUT: true; the input reads as it did. -/
def fnExactPlaceMakeSpec : ChangeSpec := { name := "fnExactPlaceMake", fn := fun _ => fun
  | [d1, d2] => { results := [.lit (.bool true)], args := [d1, d2] }
  | _ => none }
def fnExactPlaceMakeRow : OpenClaim := { program := "ytckjofnldacpaaa", sum := "1bf7d88d6f801c01c4b9debaa6c9fd2f85305624ada5a1d149ed661f9391fd47", func := "loop.example/g00178/laws.FnExactPlaceMake", spec := "fnExactPlaceMake", apart := false }
def FnExactPlaceMakeSaid : Prop := fnExactPlaceMakeRow.holds Try.pinned (OpenSpec.ofChange fnExactPlaceMakeSpec)

/-- ITS FALSE NEIGHBOUR: 'it returns false'. Refute it at one input. -/
def fnExactPlaceMakeWrong : ChangeSpec := { name := "fnExactPlaceMake", fn := fun _ => fun
  | [d1, d2] => { results := [.lit (.bool false)], args := [d1, d2] }
  | _ => none }
def FnExactPlaceMakeWrongFalsely : Prop := fnExactPlaceMakeRow.holds Try.pinned (OpenSpec.ofChange fnExactPlaceMakeWrong)

/-- 'laws.FnExactEpochOf': WHATEVER THE INPUT: true; the input reads as it did. -/
def fnExactEpochOfSpec : ChangeSpec := { name := "fnExactEpochOf", fn := fun _ => fun
  | [d] => { results := [.lit (.bool true)], args := [d] }
  | _ => none }
def fnExactEpochOfRow : OpenClaim := { program := "ytckjofnldacpaaa", sum := "1bf7d88d6f801c01c4b9debaa6c9fd2f85305624ada5a1d149ed661f9391fd47", func := "loop.example/g00178/laws.FnExactEpochOf", spec := "fnExactEpochOf", apart := false }
def FnExactEpochOfSaid : Prop := fnExactEpochOfRow.holds Try.pinned (OpenSpec.ofChange fnExactEpochOfSpec)

/-- ITS FALSE NEIGHBOUR: 'it returns false'. Refute it at one input. -/
def fnExactEpochOfWrong : ChangeSpec := { name := "fnExactEpochOf", fn := fun _ => fun
  | [d] => { results := [.lit (.bool false)], args := [d] }
  | _ => none }
def FnExactEpochOfWrongFalsely : Prop := fnExactEpochOfRow.holds Try.pinned (OpenSpec.ofChange fnExactEpochOfWrong)

/-- 'laws.FnExactOffOf': WHATEVER THE INPUT: true; the input reads as it did. -/
def fnExactOffOfSpec : ChangeSpec := { name := "fnExactOffOf", fn := fun _ => fun
  | [d] => { results := [.lit (.bool true)], args := [d] }
  | _ => none }
def fnExactOffOfRow : OpenClaim := { program := "ytckjofnldacpaaa", sum := "1bf7d88d6f801c01c4b9debaa6c9fd2f85305624ada5a1d149ed661f9391fd47", func := "loop.example/g00178/laws.FnExactOffOf", spec := "fnExactOffOf", apart := false }
def FnExactOffOfSaid : Prop := fnExactOffOfRow.holds Try.pinned (OpenSpec.ofChange fnExactOffOfSpec)

/-- ITS FALSE NEIGHBOUR: 'it returns false'. Refute it at one input. -/
def fnExactOffOfWrong : ChangeSpec := { name := "fnExactOffOf", fn := fun _ => fun
  | [d] => { results := [.lit (.bool false)], args := [d] }
  | _ => none }
def FnExactOffOfWrongFalsely : Prop := fnExactOffOfRow.holds Try.pinned (OpenSpec.ofChange fnExactOffOfWrong)

/-- 'laws.FnExactBetter': WHATEVER THE INPUT: true; the input reads as it did. -/
def fnExactBetterSpec : ChangeSpec := { name := "fnExactBetter", fn := fun _ => fun
  | [d1, d2] => { results := [.lit (.bool true)], args := [d1, d2] }
  | _ => none }
def fnExactBetterRow : OpenClaim := { program := "ytckjofnldacpaaa", sum := "1bf7d88d6f801c01c4b9debaa6c9fd2f85305624ada5a1d149ed661f9391fd47", func := "loop.example/g00178/laws.FnExactBetter", spec := "fnExactBetter", apart := false }
def FnExactBetterSaid : Prop := fnExactBetterRow.holds Try.pinned (OpenSpec.ofChange fnExactBetterSpec)

/-- ITS FALSE NEIGHBOUR: 'it returns false'. Refute it at one input. -/
def fnExactBetterWrong : ChangeSpec := { name := "fnExactBetter", fn := fun _ => fun
  | [d1, d2] => { results := [.lit (.bool false)], args := [d1, d2] }
  | _ => none }
def FnExactBetterWrongFalsely : Prop := fnExactBetterRow.holds Try.pinned (OpenSpec.ofChange fnExactBetterWrong)

/-- 'laws.FnExactEntryOk': WHATEVER THE INPUT: true; the input reads as it did. -/
def fnExactEntryOkSpec : ChangeSpec := { name := "fnExactEntryOk", fn := fun _ => fun
  | [d] => { results := [.lit (.bool true)], args := [d] }
  | _ => none }
def fnExactEntryOkRow : OpenClaim := { program := "ytckjofnldacpaaa", sum := "1bf7d88d6f801c01c4b9debaa6c9fd2f85305624ada5a1d149ed661f9391fd47", func := "loop.example/g00178/laws.FnExactEntryOk", spec := "fnExactEntryOk", apart := false }
def FnExactEntryOkSaid : Prop := fnExactEntryOkRow.holds Try.pinned (OpenSpec.ofChange fnExactEntryOkSpec)

/-- ITS FALSE NEIGHBOUR: 'it returns false'. Refute it at one input. -/
def fnExactEntryOkWrong : ChangeSpec := { name := "fnExactEntryOk", fn := fun _ => fun
  | [d] => { results := [.lit (.bool false)], args := [d] }
  | _ => none }
def FnExactEntryOkWrongFalsely : Prop := fnExactEntryOkRow.holds Try.pinned (OpenSpec.ofChange fnExactEntryOkWrong)

/-- 'laws.FnExactPutNum': WHATEVER THE INPUT: true; the input reads as it did. -/
def fnExactPutNumSpec : ChangeSpec := { name := "fnExactPutNum", fn := fun _ => fun
  | [d] => { results := [.lit (.bool true)], args := [d] }
  | _ => none }
def fnExactPutNumRow : OpenClaim := { program := "ytckjofnldacpaaa", sum := "1bf7d88d6f801c01c4b9debaa6c9fd2f85305624ada5a1d149ed661f9391fd47", func := "loop.example/g00178/laws.FnExactPutNum", spec := "fnExactPutNum", apart := false }
def FnExactPutNumSaid : Prop := fnExactPutNumRow.holds Try.pinned (OpenSpec.ofChange fnExactPutNumSpec)

/-- ITS FALSE NEIGHBOUR: 'it returns false'. Refute it at one input. -/
def fnExactPutNumWrong : ChangeSpec := { name := "fnExactPutNum", fn := fun _ => fun
  | [d] => { results := [.lit (.bool false)], args := [d] }
  | _ => none }
def FnExactPutNumWrongFalsely : Prop := fnExactPutNumRow.holds Try.pinned (OpenSpec.ofChange fnExactPutNumWrong)

/-- 'laws.FnExactMaskNodes': WHATEVER THE INPUT: true; the input reads as it did. -/
def fnExactMaskNodesSpec : ChangeSpec := { name := "fnExactMaskNodes", fn := fun _ => fun
  | [d] => { results := [.lit (.bool true)], args := [d] }
  | _ => none }
def fnExactMaskNodesRow : OpenClaim := { program := "ytckjofnldacpaaa", sum := "1bf7d88d6f801c01c4b9debaa6c9fd2f85305624ada5a1d149ed661f9391fd47", func := "loop.example/g00178/laws.FnExactMaskNodes", spec := "fnExactMaskNodes", apart := false }
def FnExactMaskNodesSaid : Prop := fnExactMaskNodesRow.holds Try.pinned (OpenSpec.ofChange fnExactMaskNodesSpec)

/-- ITS FALSE NEIGHBOUR: 'it returns false'. Refute it at one input. -/
def fnExactMaskNodesWrong : ChangeSpec := { name := "fnExactMaskNodes", fn := fun _ => fun
  | [d] => { results := [.lit (.bool false)], args := [d] }
  | _ => none }
def FnExactMaskNodesWrongFalsely : Prop := fnExactMaskNodesRow.holds Try.pinned (OpenSpec.ofChange fnExactMaskNodesWrong)

/-- 'laws.FnExactPutText': WHATEVER THE INPUT: true; the input reads as it did. -/
def fnExactPutTextSpec : ChangeSpec := { name := "fnExactPutText", fn := fun _ => fun
  | [d] => { results := [.lit (.bool true)], args := [d] }
  | _ => none }
def fnExactPutTextRow : OpenClaim := { program := "ytckjofnldacpaaa", sum := "1bf7d88d6f801c01c4b9debaa6c9fd2f85305624ada5a1d149ed661f9391fd47", func := "loop.example/g00178/laws.FnExactPutText", spec := "fnExactPutText", apart := false }
def FnExactPutTextSaid : Prop := fnExactPutTextRow.holds Try.pinned (OpenSpec.ofChange fnExactPutTextSpec)

/-- ITS FALSE NEIGHBOUR: 'it returns false'. Refute it at one input. -/
def fnExactPutTextWrong : ChangeSpec := { name := "fnExactPutText", fn := fun _ => fun
  | [d] => { results := [.lit (.bool false)], args := [d] }
  | _ => none }
def FnExactPutTextWrongFalsely : Prop := fnExactPutTextRow.holds Try.pinned (OpenSpec.ofChange fnExactPutTextWrong)

/-- 'laws.FnExactGetNum': WHATEVER THE INPUT: true; the input reads as it did. -/
def fnExactGetNumSpec : ChangeSpec := { name := "fnExactGetNum", fn := fun _ => fun
  | [d1, d2] => { results := [.lit (.bool true)], args := [d1, d2] }
  | _ => none }
def fnExactGetNumRow : OpenClaim := { program := "ytckjofnldacpaaa", sum := "1bf7d88d6f801c01c4b9debaa6c9fd2f85305624ada5a1d149ed661f9391fd47", func := "loop.example/g00178/laws.FnExactGetNum", spec := "fnExactGetNum", apart := false }
def FnExactGetNumSaid : Prop := fnExactGetNumRow.holds Try.pinned (OpenSpec.ofChange fnExactGetNumSpec)

/-- ITS FALSE NEIGHBOUR: 'it returns false'. Refute it at one input. -/
def fnExactGetNumWrong : ChangeSpec := { name := "fnExactGetNum", fn := fun _ => fun
  | [d1, d2] => { results := [.lit (.bool false)], args := [d1, d2] }
  | _ => none }
def FnExactGetNumWrongFalsely : Prop := fnExactGetNumRow.holds Try.pinned (OpenSpec.ofChange fnExactGetNumWrong)

/-- 'laws.FnExactNodesMask': WHATEVER THE INPUT: true; the input reads as it did. -/
def fnExactNodesMaskSpec : ChangeSpec := { name := "fnExactNodesMask", fn := fun _ => fun
  | [d] => { results := [.lit (.bool true)], args := [d] }
  | _ => none }
def fnExactNodesMaskRow : OpenClaim := { program := "ytckjofnldacpaaa", sum := "1bf7d88d6f801c01c4b9debaa6c9fd2f85305624ada5a1d149ed661f9391fd47", func := "loop.example/g00178/laws.FnExactNodesMask", spec := "fnExactNodesMask", apart := false }
def FnExactNodesMaskSaid : Prop := fnExactNodesMaskRow.holds Try.pinned (OpenSpec.ofChange fnExactNodesMaskSpec)

/-- ITS FALSE NEIGHBOUR: 'it returns false'. Refute it at one input. -/
def fnExactNodesMaskWrong : ChangeSpec := { name := "fnExactNodesMask", fn := fun _ => fun
  | [d] => { results := [.lit (.bool false)], args := [d] }
  | _ => none }
def FnExactNodesMaskWrongFalsely : Prop := fnExactNodesMaskRow.holds Try.pinned (OpenSpec.ofChange fnExactNodesMaskWrong)

/- THE SECOND FORM. 'bulk': how many values and letters a reading holds, each counted each time it is reached (what is shared counts as often as it is met; a slice's spare places count too). A statement '..UptoSaid' is the law's where the arguments, and the package variables that the reading takes, are together of bulk at most 1048576: NARROWER than '..Said'. Prove '..Said' where nothing that the law and all that it calls make is longer than what came in: it says more and counts as full. Else prove '..UptoSaid'. A law counts once. -/
mutual
def uptoBulk {H : Type} : DataW H → Nat
  | .lit (.string bytes) => bytes.length + 1
  | .lit _ => 1
  | .nil => 1
  | .ptr d => uptoBulk d + 1
  | .slice elems spare => uptoBulkAll elems + uptoBulkAll spare + 1
  | .agg parts => uptoBulkAll parts + 1
  | .iface _ d => uptoBulk d + 1
  | .map entries => uptoBulkEntries entries + 1
  | .held _ => 1
def uptoBulkAll {H : Type} : List (DataW H) → Nat
  | [] => 0
  | d :: r => uptoBulk d + uptoBulkAll r
def uptoBulkEntries {H : Type} : List (Lit × DataW H) → Nat
  | [] => 0
  | x :: r => uptoBulkEntry x + uptoBulkEntries r
def uptoBulkEntry {H : Type} : Lit × DataW H → Nat
  | (.string bytes, d) => bytes.length + uptoBulk d + 1
  | (_, d) => uptoBulk d + 1
 end
def uptoSmall : (H : Type) → List (DataW H) → Bool := fun _ ds => decide (uptoBulkAll ds ≤ 1048576)
def OpenSpec.upto (s : _root_.Go.ChangeSpec) : _root_.Go.OpenSpec := { _root_.Go.OpenSpec.ofChange s with cond := some uptoSmall }

/-- 'laws.FnExactConstants', WHERE WHAT IT READS IS OF BULK AT MOST 1048576: true; the input reads as it did. -/
def fnExactConstantsUptoRow : OpenClaim := { program := "ytckjofnldacpaaa", sum := "1bf7d88d6f801c01c4b9debaa6c9fd2f85305624ada5a1d149ed661f9391fd47", func := "loop.example/g00178/laws.FnExactConstants", spec := "fnExactConstants", apart := false, narrowed := true }
def FnExactConstantsUptoSaid : Prop := fnExactConstantsUptoRow.holds Try.pinned (OpenSpec.upto fnExactConstantsSpec)

/-- 'laws.FnExactPlaceOk', WHERE WHAT IT READS IS OF BULK AT MOST 1048576: true; the input reads as it did. -/
def fnExactPlaceOkUptoRow : OpenClaim := { program := "ytckjofnldacpaaa", sum := "1bf7d88d6f801c01c4b9debaa6c9fd2f85305624ada5a1d149ed661f9391fd47", func := "loop.example/g00178/laws.FnExactPlaceOk", spec := "fnExactPlaceOk", apart := false, narrowed := true }
def FnExactPlaceOkUptoSaid : Prop := fnExactPlaceOkUptoRow.holds Try.pinned (OpenSpec.upto fnExactPlaceOkSpec)

/-- 'laws.FnExactPlaceMake', WHERE WHAT IT READS IS OF BULK AT MOST 1048576: true; the input reads as it did. -/
def fnExactPlaceMakeUptoRow : OpenClaim := { program := "ytckjofnldacpaaa", sum := "1bf7d88d6f801c01c4b9debaa6c9fd2f85305624ada5a1d149ed661f9391fd47", func := "loop.example/g00178/laws.FnExactPlaceMake", spec := "fnExactPlaceMake", apart := false, narrowed := true }
def FnExactPlaceMakeUptoSaid : Prop := fnExactPlaceMakeUptoRow.holds Try.pinned (OpenSpec.upto fnExactPlaceMakeSpec)

/-- 'laws.FnExactEpochOf', WHERE WHAT IT READS IS OF BULK AT MOST 1048576: true; the input reads as it did. -/
def fnExactEpochOfUptoRow : OpenClaim := { program := "ytckjofnldacpaaa", sum := "1bf7d88d6f801c01c4b9debaa6c9fd2f85305624ada5a1d149ed661f9391fd47", func := "loop.example/g00178/laws.FnExactEpochOf", spec := "fnExactEpochOf", apart := false, narrowed := true }
def FnExactEpochOfUptoSaid : Prop := fnExactEpochOfUptoRow.holds Try.pinned (OpenSpec.upto fnExactEpochOfSpec)

/-- 'laws.FnExactOffOf', WHERE WHAT IT READS IS OF BULK AT MOST 1048576: true; the input reads as it did. -/
def fnExactOffOfUptoRow : OpenClaim := { program := "ytckjofnldacpaaa", sum := "1bf7d88d6f801c01c4b9debaa6c9fd2f85305624ada5a1d149ed661f9391fd47", func := "loop.example/g00178/laws.FnExactOffOf", spec := "fnExactOffOf", apart := false, narrowed := true }
def FnExactOffOfUptoSaid : Prop := fnExactOffOfUptoRow.holds Try.pinned (OpenSpec.upto fnExactOffOfSpec)

/-- 'laws.FnExactBetter', WHERE WHAT IT READS IS OF BULK AT MOST 1048576: true; the input reads as it did. -/
def fnExactBetterUptoRow : OpenClaim := { program := "ytckjofnldacpaaa", sum := "1bf7d88d6f801c01c4b9debaa6c9fd2f85305624ada5a1d149ed661f9391fd47", func := "loop.example/g00178/laws.FnExactBetter", spec := "fnExactBetter", apart := false, narrowed := true }
def FnExactBetterUptoSaid : Prop := fnExactBetterUptoRow.holds Try.pinned (OpenSpec.upto fnExactBetterSpec)

/-- 'laws.FnExactEntryOk', WHERE WHAT IT READS IS OF BULK AT MOST 1048576: true; the input reads as it did. -/
def fnExactEntryOkUptoRow : OpenClaim := { program := "ytckjofnldacpaaa", sum := "1bf7d88d6f801c01c4b9debaa6c9fd2f85305624ada5a1d149ed661f9391fd47", func := "loop.example/g00178/laws.FnExactEntryOk", spec := "fnExactEntryOk", apart := false, narrowed := true }
def FnExactEntryOkUptoSaid : Prop := fnExactEntryOkUptoRow.holds Try.pinned (OpenSpec.upto fnExactEntryOkSpec)

/-- 'laws.FnExactPutNum', WHERE WHAT IT READS IS OF BULK AT MOST 1048576: true; the input reads as it did. -/
def fnExactPutNumUptoRow : OpenClaim := { program := "ytckjofnldacpaaa", sum := "1bf7d88d6f801c01c4b9debaa6c9fd2f85305624ada5a1d149ed661f9391fd47", func := "loop.example/g00178/laws.FnExactPutNum", spec := "fnExactPutNum", apart := false, narrowed := true }
def FnExactPutNumUptoSaid : Prop := fnExactPutNumUptoRow.holds Try.pinned (OpenSpec.upto fnExactPutNumSpec)

/-- 'laws.FnExactMaskNodes', WHERE WHAT IT READS IS OF BULK AT MOST 1048576: true; the input reads as it did. -/
def fnExactMaskNodesUptoRow : OpenClaim := { program := "ytckjofnldacpaaa", sum := "1bf7d88d6f801c01c4b9debaa6c9fd2f85305624ada5a1d149ed661f9391fd47", func := "loop.example/g00178/laws.FnExactMaskNodes", spec := "fnExactMaskNodes", apart := false, narrowed := true }
def FnExactMaskNodesUptoSaid : Prop := fnExactMaskNodesUptoRow.holds Try.pinned (OpenSpec.upto fnExactMaskNodesSpec)

/-- 'laws.FnExactPutText', WHERE WHAT IT READS IS OF BULK AT MOST 1048576: true; the input reads as it did. -/
def fnExactPutTextUptoRow : OpenClaim := { program := "ytckjofnldacpaaa", sum := "1bf7d88d6f801c01c4b9debaa6c9fd2f85305624ada5a1d149ed661f9391fd47", func := "loop.example/g00178/laws.FnExactPutText", spec := "fnExactPutText", apart := false, narrowed := true }
def FnExactPutTextUptoSaid : Prop := fnExactPutTextUptoRow.holds Try.pinned (OpenSpec.upto fnExactPutTextSpec)

/-- 'laws.FnExactGetNum', WHERE WHAT IT READS IS OF BULK AT MOST 1048576: true; the input reads as it did. -/
def fnExactGetNumUptoRow : OpenClaim := { program := "ytckjofnldacpaaa", sum := "1bf7d88d6f801c01c4b9debaa6c9fd2f85305624ada5a1d149ed661f9391fd47", func := "loop.example/g00178/laws.FnExactGetNum", spec := "fnExactGetNum", apart := false, narrowed := true }
def FnExactGetNumUptoSaid : Prop := fnExactGetNumUptoRow.holds Try.pinned (OpenSpec.upto fnExactGetNumSpec)

/-- 'laws.FnExactNodesMask', WHERE WHAT IT READS IS OF BULK AT MOST 1048576: true; the input reads as it did. -/
def fnExactNodesMaskUptoRow : OpenClaim := { program := "ytckjofnldacpaaa", sum := "1bf7d88d6f801c01c4b9debaa6c9fd2f85305624ada5a1d149ed661f9391fd47", func := "loop.example/g00178/laws.FnExactNodesMask", spec := "fnExactNodesMask", apart := false, narrowed := true }
def FnExactNodesMaskUptoSaid : Prop := fnExactNodesMaskUptoRow.holds Try.pinned (OpenSpec.upto fnExactNodesMaskSpec)

end Rows
end Go.Proofs.Ytckjofnldacpaaa
