/-
  No cell of these rows narrows 'for every input' (looked for: loops, veiled, ifaces, maps, wideKeys, modest, calm, conditions, laid).
  DERIVED. THE GIVEN ROWS OF THIS SEAT. 8 by the template 'for every input the law returns true; each argument reads behind the call as it read before'; 0 by the template 'total and deterministic' (their statements: YtgmfpfmpnlgidaaTotals.lean).
  GIVEN WITH THE SEED: the statements are not yours to turn. If you find one false, say at which input.
  Laid BY PROGRAM, IN A SANDBOX (cutbox-rows.mjs): the forced cells as the released guide's own fill.sh prints them over the translation 1cb72d898f8f1cab… (all of the seat's roots in one cut). By AI agents, Wed Nov 11 2026. No macro, syntax, notation, axiom, sorry.
-/
import Derived.Test.YtgmfpfmpnlgidaaChecked
import GoSem.Claim
import GoSem.ClaimJoined
import GoSem.ClaimMapViews
import Derived.JoinedTies
import Derived.KernelRfl
namespace Go.Proofs.Ytgmfpfmpnlgidaa
/- THE CELL 'sum', in the pinned program and in every row, IS THE sha256 OF THE DUMP (.gsa) THAT YtgmfpfmpnlgidaaProg.lean LOADS. Nothing in Lean hashes anything: it is a label: what it is worth is what the hold of that sum in a sandbox is worth. -/
noncomputable def Try.pinned : Pinned := { name := "ytgmfpfmpnlgidaa", sum := "1cb72d898f8f1cab31f48512a906d205492e1d631bde385147af6922fd8450ca", checked := Try.checked }
namespace Rows
def none {H : Type} : Left H := { results := [], args := [] }

/-- 'laws.FnExactGetText': WHATEVER THE INPUT: true; the input reads as it did. -/
def fnExactGetTextSpec : ChangeSpec := { name := "fnExactGetText", fn := fun _ => fun
  | [d1, d2] => { results := [.lit (.bool true)], args := [d1, d2] }
  | _ => none }
def fnExactGetTextRow : OpenClaim := { program := "ytgmfpfmpnlgidaa", sum := "1cb72d898f8f1cab31f48512a906d205492e1d631bde385147af6922fd8450ca", func := "loop.example/g00178/laws.FnExactGetText", spec := "fnExactGetText", apart := false }
def FnExactGetTextSaid : Prop := fnExactGetTextRow.holds Try.pinned (OpenSpec.ofChange fnExactGetTextSpec)

/-- ITS FALSE NEIGHBOUR: 'it returns false'. Refute it at one input. -/
def fnExactGetTextWrong : ChangeSpec := { name := "fnExactGetText", fn := fun _ => fun
  | [d1, d2] => { results := [.lit (.bool false)], args := [d1, d2] }
  | _ => none }
def FnExactGetTextWrongFalsely : Prop := fnExactGetTextRow.holds Try.pinned (OpenSpec.ofChange fnExactGetTextWrong)

/-- 'laws.FnExactEntryPack': WHATEVER THE INPUT: true; the input reads as it did. -/
def fnExactEntryPackSpec : ChangeSpec := { name := "fnExactEntryPack", fn := fun _ => fun
  | [d] => { results := [.lit (.bool true)], args := [d] }
  | _ => none }
def fnExactEntryPackRow : OpenClaim := { program := "ytgmfpfmpnlgidaa", sum := "1cb72d898f8f1cab31f48512a906d205492e1d631bde385147af6922fd8450ca", func := "loop.example/g00178/laws.FnExactEntryPack", spec := "fnExactEntryPack", apart := false }
def FnExactEntryPackSaid : Prop := fnExactEntryPackRow.holds Try.pinned (OpenSpec.ofChange fnExactEntryPackSpec)

/-- ITS FALSE NEIGHBOUR: 'it returns false'. Refute it at one input. -/
def fnExactEntryPackWrong : ChangeSpec := { name := "fnExactEntryPack", fn := fun _ => fun
  | [d] => { results := [.lit (.bool false)], args := [d] }
  | _ => none }
def FnExactEntryPackWrongFalsely : Prop := fnExactEntryPackRow.holds Try.pinned (OpenSpec.ofChange fnExactEntryPackWrong)

/-- 'laws.FnExactEntryRead': WHATEVER THE INPUT: true; the input reads as it did. -/
def fnExactEntryReadSpec : ChangeSpec := { name := "fnExactEntryRead", fn := fun _ => fun
  | [d1, d2] => { results := [.lit (.bool true)], args := [d1, d2] }
  | _ => none }
def fnExactEntryReadRow : OpenClaim := { program := "ytgmfpfmpnlgidaa", sum := "1cb72d898f8f1cab31f48512a906d205492e1d631bde385147af6922fd8450ca", func := "loop.example/g00178/laws.FnExactEntryRead", spec := "fnExactEntryRead", apart := false }
def FnExactEntryReadSaid : Prop := fnExactEntryReadRow.holds Try.pinned (OpenSpec.ofChange fnExactEntryReadSpec)

/-- ITS FALSE NEIGHBOUR: 'it returns false'. Refute it at one input. -/
def fnExactEntryReadWrong : ChangeSpec := { name := "fnExactEntryRead", fn := fun _ => fun
  | [d1, d2] => { results := [.lit (.bool false)], args := [d1, d2] }
  | _ => none }
def FnExactEntryReadWrongFalsely : Prop := fnExactEntryReadRow.holds Try.pinned (OpenSpec.ofChange fnExactEntryReadWrong)

/-- 'laws.FnNums': WHATEVER THE INPUT: true; the input reads as it did. -/
def fnNumsSpec : ChangeSpec := { name := "fnNums", fn := fun _ => fun
  | [d] => { results := [.lit (.bool true)], args := [d] }
  | _ => none }
def fnNumsRow : OpenClaim := { program := "ytgmfpfmpnlgidaa", sum := "1cb72d898f8f1cab31f48512a906d205492e1d631bde385147af6922fd8450ca", func := "loop.example/g00178/laws.FnNums", spec := "fnNums", apart := false }
def FnNumsSaid : Prop := fnNumsRow.holds Try.pinned (OpenSpec.ofChange fnNumsSpec)

/-- ITS FALSE NEIGHBOUR: 'it returns false'. Refute it at one input. -/
def fnNumsWrong : ChangeSpec := { name := "fnNums", fn := fun _ => fun
  | [d] => { results := [.lit (.bool false)], args := [d] }
  | _ => none }
def FnNumsWrongFalsely : Prop := fnNumsRow.holds Try.pinned (OpenSpec.ofChange fnNumsWrong)

/-- 'laws.FnEntries': WHATEVER THE INPUT: true; the input reads as it did. -/
def fnEntriesSpec : ChangeSpec := { name := "fnEntries", fn := fun _ => fun
  | [d] => { results := [.lit (.bool true)], args := [d] }
  | _ => none }
def fnEntriesRow : OpenClaim := { program := "ytgmfpfmpnlgidaa", sum := "1cb72d898f8f1cab31f48512a906d205492e1d631bde385147af6922fd8450ca", func := "loop.example/g00178/laws.FnEntries", spec := "fnEntries", apart := false }
def FnEntriesSaid : Prop := fnEntriesRow.holds Try.pinned (OpenSpec.ofChange fnEntriesSpec)

/-- ITS FALSE NEIGHBOUR: 'it returns false'. Refute it at one input. -/
def fnEntriesWrong : ChangeSpec := { name := "fnEntries", fn := fun _ => fun
  | [d] => { results := [.lit (.bool false)], args := [d] }
  | _ => none }
def FnEntriesWrongFalsely : Prop := fnEntriesRow.holds Try.pinned (OpenSpec.ofChange fnEntriesWrong)

/-- 'laws.FnCrash': WHATEVER THE INPUT: true; the input reads as it did. -/
def fnCrashSpec : ChangeSpec := { name := "fnCrash", fn := fun _ => fun
  | [d] => { results := [.lit (.bool true)], args := [d] }
  | _ => none }
def fnCrashRow : OpenClaim := { program := "ytgmfpfmpnlgidaa", sum := "1cb72d898f8f1cab31f48512a906d205492e1d631bde385147af6922fd8450ca", func := "loop.example/g00178/laws.FnCrash", spec := "fnCrash", inPlace := ["slices.overlaps[loop.example/g00178/impl.Entry]"], unfollowed := true, recurses := true, apart := false }
def FnCrashSaid : Prop := fnCrashRow.holds Try.pinned (OpenSpec.ofChange fnCrashSpec)

/-- ITS FALSE NEIGHBOUR: 'it returns false'. Refute it at one input. -/
def fnCrashWrong : ChangeSpec := { name := "fnCrash", fn := fun _ => fun
  | [d] => { results := [.lit (.bool false)], args := [d] }
  | _ => none }
def FnCrashWrongFalsely : Prop := fnCrashRow.holds Try.pinned (OpenSpec.ofChange fnCrashWrong)

/-- 'laws.FnStored': WHATEVER THE INPUT: true; the input reads as it did. -/
def fnStoredSpec : ChangeSpec := { name := "fnStored", fn := fun _ => fun
  | [d] => { results := [.lit (.bool true)], args := [d] }
  | _ => none }
def fnStoredRow : OpenClaim := { program := "ytgmfpfmpnlgidaa", sum := "1cb72d898f8f1cab31f48512a906d205492e1d631bde385147af6922fd8450ca", func := "loop.example/g00178/laws.FnStored", spec := "fnStored", inPlace := ["slices.overlaps[loop.example/g00178/impl.Entry]"], unfollowed := true, recurses := true, apart := false }
def FnStoredSaid : Prop := fnStoredRow.holds Try.pinned (OpenSpec.ofChange fnStoredSpec)

/-- ITS FALSE NEIGHBOUR: 'it returns false'. Refute it at one input. -/
def fnStoredWrong : ChangeSpec := { name := "fnStored", fn := fun _ => fun
  | [d] => { results := [.lit (.bool false)], args := [d] }
  | _ => none }
def FnStoredWrongFalsely : Prop := fnStoredRow.holds Try.pinned (OpenSpec.ofChange fnStoredWrong)

/-- 'laws.FnSealed': WHATEVER THE INPUT: true; the input reads as it did. -/
def fnSealedSpec : ChangeSpec := { name := "fnSealed", fn := fun _ => fun
  | [d] => { results := [.lit (.bool true)], args := [d] }
  | _ => none }
def fnSealedRow : OpenClaim := { program := "ytgmfpfmpnlgidaa", sum := "1cb72d898f8f1cab31f48512a906d205492e1d631bde385147af6922fd8450ca", func := "loop.example/g00178/laws.FnSealed", spec := "fnSealed", inPlace := ["slices.overlaps[loop.example/g00178/impl.Entry]"], unfollowed := true, recurses := true, apart := false }
def FnSealedSaid : Prop := fnSealedRow.holds Try.pinned (OpenSpec.ofChange fnSealedSpec)

/-- ITS FALSE NEIGHBOUR: 'it returns false'. Refute it at one input. -/
def fnSealedWrong : ChangeSpec := { name := "fnSealed", fn := fun _ => fun
  | [d] => { results := [.lit (.bool false)], args := [d] }
  | _ => none }
def FnSealedWrongFalsely : Prop := fnSealedRow.holds Try.pinned (OpenSpec.ofChange fnSealedWrong)

/- THE SECOND FORM. 'bulk': how many values and letters a reading holds, each counted each time it is reached (what is shared counts as often as it is met; a slice's spare places count too). A statement '..UptoSaid' is the law's where the arguments, and the package variables that the reading takes, are together of bulk at most 1048576: NARROWER than '..Said'. Prove '..Said' where nothing that the law and all that it calls make is longer than what came in: it says more and counts as full. Else prove '..UptoSaid'. A law counts once. -/
mutual
def uptoBulk {H : Type} : DataW H → Nat
  | .lit (.string bytes) => bytes.length + 1
  | .lit _ => 1
  | .nil => 1
  | .ptr d => uptoBulk d + 1
  | .slice elems spare => uptoBulkAll elems + uptoBulkAll spare + 1
  | .agg parts => uptoBulkAll parts + 1
  | .iface _ d => uptoBulk d + 1
  | .map entries => uptoBulkEntries entries + 1
  | .held _ => 1
def uptoBulkAll {H : Type} : List (DataW H) → Nat
  | [] => 0
  | d :: r => uptoBulk d + uptoBulkAll r
def uptoBulkEntries {H : Type} : List (Lit × DataW H) → Nat
  | [] => 0
  | x :: r => uptoBulkEntry x + uptoBulkEntries r
def uptoBulkEntry {H : Type} : Lit × DataW H → Nat
  | (.string bytes, d) => bytes.length + uptoBulk d + 1
  | (_, d) => uptoBulk d + 1
 end
def uptoSmall : (H : Type) → List (DataW H) → Bool := fun _ ds => decide (uptoBulkAll ds ≤ 1048576)
def OpenSpec.upto (s : _root_.Go.ChangeSpec) : _root_.Go.OpenSpec := { _root_.Go.OpenSpec.ofChange s with cond := some uptoSmall }

/-- 'laws.FnExactGetText', WHERE WHAT IT READS IS OF BULK AT MOST 1048576: true; the input reads as it did. -/
def fnExactGetTextUptoRow : OpenClaim := { program := "ytgmfpfmpnlgidaa", sum := "1cb72d898f8f1cab31f48512a906d205492e1d631bde385147af6922fd8450ca", func := "loop.example/g00178/laws.FnExactGetText", spec := "fnExactGetText", apart := false, narrowed := true }
def FnExactGetTextUptoSaid : Prop := fnExactGetTextUptoRow.holds Try.pinned (OpenSpec.upto fnExactGetTextSpec)

/-- 'laws.FnExactEntryPack', WHERE WHAT IT READS IS OF BULK AT MOST 1048576: true; the input reads as it did. -/
def fnExactEntryPackUptoRow : OpenClaim := { program := "ytgmfpfmpnlgidaa", sum := "1cb72d898f8f1cab31f48512a906d205492e1d631bde385147af6922fd8450ca", func := "loop.example/g00178/laws.FnExactEntryPack", spec := "fnExactEntryPack", apart := false, narrowed := true }
def FnExactEntryPackUptoSaid : Prop := fnExactEntryPackUptoRow.holds Try.pinned (OpenSpec.upto fnExactEntryPackSpec)

/-- 'laws.FnExactEntryRead', WHERE WHAT IT READS IS OF BULK AT MOST 1048576: true; the input reads as it did. -/
def fnExactEntryReadUptoRow : OpenClaim := { program := "ytgmfpfmpnlgidaa", sum := "1cb72d898f8f1cab31f48512a906d205492e1d631bde385147af6922fd8450ca", func := "loop.example/g00178/laws.FnExactEntryRead", spec := "fnExactEntryRead", apart := false, narrowed := true }
def FnExactEntryReadUptoSaid : Prop := fnExactEntryReadUptoRow.holds Try.pinned (OpenSpec.upto fnExactEntryReadSpec)

/-- 'laws.FnNums', WHERE WHAT IT READS IS OF BULK AT MOST 1048576: true; the input reads as it did. -/
def fnNumsUptoRow : OpenClaim := { program := "ytgmfpfmpnlgidaa", sum := "1cb72d898f8f1cab31f48512a906d205492e1d631bde385147af6922fd8450ca", func := "loop.example/g00178/laws.FnNums", spec := "fnNums", apart := false, narrowed := true }
def FnNumsUptoSaid : Prop := fnNumsUptoRow.holds Try.pinned (OpenSpec.upto fnNumsSpec)

/-- 'laws.FnEntries', WHERE WHAT IT READS IS OF BULK AT MOST 1048576: true; the input reads as it did. -/
def fnEntriesUptoRow : OpenClaim := { program := "ytgmfpfmpnlgidaa", sum := "1cb72d898f8f1cab31f48512a906d205492e1d631bde385147af6922fd8450ca", func := "loop.example/g00178/laws.FnEntries", spec := "fnEntries", apart := false, narrowed := true }
def FnEntriesUptoSaid : Prop := fnEntriesUptoRow.holds Try.pinned (OpenSpec.upto fnEntriesSpec)

/-- 'laws.FnCrash', WHERE WHAT IT READS IS OF BULK AT MOST 1048576: true; the input reads as it did. -/
def fnCrashUptoRow : OpenClaim := { program := "ytgmfpfmpnlgidaa", sum := "1cb72d898f8f1cab31f48512a906d205492e1d631bde385147af6922fd8450ca", func := "loop.example/g00178/laws.FnCrash", spec := "fnCrash", inPlace := ["slices.overlaps[loop.example/g00178/impl.Entry]"], unfollowed := true, recurses := true, apart := false, narrowed := true }
def FnCrashUptoSaid : Prop := fnCrashUptoRow.holds Try.pinned (OpenSpec.upto fnCrashSpec)

/-- 'laws.FnStored', WHERE WHAT IT READS IS OF BULK AT MOST 1048576: true; the input reads as it did. -/
def fnStoredUptoRow : OpenClaim := { program := "ytgmfpfmpnlgidaa", sum := "1cb72d898f8f1cab31f48512a906d205492e1d631bde385147af6922fd8450ca", func := "loop.example/g00178/laws.FnStored", spec := "fnStored", inPlace := ["slices.overlaps[loop.example/g00178/impl.Entry]"], unfollowed := true, recurses := true, apart := false, narrowed := true }
def FnStoredUptoSaid : Prop := fnStoredUptoRow.holds Try.pinned (OpenSpec.upto fnStoredSpec)

/-- 'laws.FnSealed', WHERE WHAT IT READS IS OF BULK AT MOST 1048576: true; the input reads as it did. -/
def fnSealedUptoRow : OpenClaim := { program := "ytgmfpfmpnlgidaa", sum := "1cb72d898f8f1cab31f48512a906d205492e1d631bde385147af6922fd8450ca", func := "loop.example/g00178/laws.FnSealed", spec := "fnSealed", inPlace := ["slices.overlaps[loop.example/g00178/impl.Entry]"], unfollowed := true, recurses := true, apart := false, narrowed := true }
def FnSealedUptoSaid : Prop := fnSealedUptoRow.holds Try.pinned (OpenSpec.upto fnSealedSpec)

end Rows
end Go.Proofs.Ytgmfpfmpnlgidaa
