/-
  No cell of these rows narrows 'for every input' (looked for: loops, veiled, ifaces, maps, wideKeys, modest, calm, conditions, laid).
  DERIVED. THE GIVEN ROWS OF THIS SEAT. 6 by the template 'for every input the law returns true; each argument reads behind the call as it read before'; 0 by the template 'total and deterministic' (their statements: YtnoghojlpicecaaTotals.lean).
  GIVEN WITH THE SEED: the statements are not yours to turn. If you find one false, say at which input.
  Laid BY PROGRAM, IN A SANDBOX (cutbox-rows.mjs): the forced cells as the released guide's own fill.sh prints them over the translation d556508d20bde9d0… (all of the seat's roots in one cut). By AI agents, Wed Nov 11 2026. No macro, syntax, notation, axiom, sorry.
-/
import Derived.Test.YtnoghojlpicecaaChecked
import GoSem.Claim
import GoSem.ClaimJoined
import GoSem.ClaimMapViews
import Derived.JoinedTies
import Derived.KernelRfl
namespace Go.Proofs.Ytnoghojlpicecaa
/- THE CELL 'sum', in the pinned program and in every row, IS THE sha256 OF THE DUMP (.gsa) THAT YtnoghojlpicecaaProg.lean LOADS. Nothing in Lean hashes anything: it is a label: what it is worth is what the hold of that sum in a sandbox is worth. -/
noncomputable def Try.pinned : Pinned := { name := "ytnoghojlpicecaa", sum := "d556508d20bde9d0cd90b58c264c11e06db91e59b609e8ab24bbd0ef99600e52", checked := Try.checked }
namespace Rows
def none {H : Type} : Left H := { results := [], args := [] }

/-- 'laws.FnExactStorePut': WHATEVER THE INPUT: true; the input reads as it did. -/
def fnExactStorePutSpec : ChangeSpec := { name := "fnExactStorePut", fn := fun _ => fun
  | [d1, d2] => { results := [.lit (.bool true)], args := [d1, d2] }
  | _ => none }
def fnExactStorePutRow : OpenClaim := { program := "ytnoghojlpicecaa", sum := "d556508d20bde9d0cd90b58c264c11e06db91e59b609e8ab24bbd0ef99600e52", func := "loop.example/g00178/laws.FnExactStorePut", spec := "fnExactStorePut", apart := false }
def FnExactStorePutSaid : Prop := fnExactStorePutRow.holds Try.pinned (OpenSpec.ofChange fnExactStorePutSpec)

/-- ITS FALSE NEIGHBOUR: 'it returns false'. Refute it at one input. -/
def fnExactStorePutWrong : ChangeSpec := { name := "fnExactStorePut", fn := fun _ => fun
  | [d1, d2] => { results := [.lit (.bool false)], args := [d1, d2] }
  | _ => none }
def FnExactStorePutWrongFalsely : Prop := fnExactStorePutRow.holds Try.pinned (OpenSpec.ofChange fnExactStorePutWrong)

/-- 'laws.FnExactStoreTrim': WHATEVER THE INPUT: true; the input reads as it did. -/
def fnExactStoreTrimSpec : ChangeSpec := { name := "fnExactStoreTrim", fn := fun _ => fun
  | [d1, d2] => { results := [.lit (.bool true)], args := [d1, d2] }
  | _ => none }
def fnExactStoreTrimRow : OpenClaim := { program := "ytnoghojlpicecaa", sum := "d556508d20bde9d0cd90b58c264c11e06db91e59b609e8ab24bbd0ef99600e52", func := "loop.example/g00178/laws.FnExactStoreTrim", spec := "fnExactStoreTrim", unfollowed := true, recurses := true, apart := false }
def FnExactStoreTrimSaid : Prop := fnExactStoreTrimRow.holds Try.pinned (OpenSpec.ofChange fnExactStoreTrimSpec)

/-- ITS FALSE NEIGHBOUR: 'it returns false'. Refute it at one input. -/
def fnExactStoreTrimWrong : ChangeSpec := { name := "fnExactStoreTrim", fn := fun _ => fun
  | [d1, d2] => { results := [.lit (.bool false)], args := [d1, d2] }
  | _ => none }
def FnExactStoreTrimWrongFalsely : Prop := fnExactStoreTrimRow.holds Try.pinned (OpenSpec.ofChange fnExactStoreTrimWrong)

/-- 'laws.FnEras': WHATEVER THE INPUT: true; the input reads as it did. -/
def fnErasSpec : ChangeSpec := { name := "fnEras", fn := fun _ => fun
  | [d] => { results := [.lit (.bool true)], args := [d] }
  | _ => none }
def fnErasRow : OpenClaim := { program := "ytnoghojlpicecaa", sum := "d556508d20bde9d0cd90b58c264c11e06db91e59b609e8ab24bbd0ef99600e52", func := "loop.example/g00178/laws.FnEras", spec := "fnEras", unfollowed := true, recurses := true, apart := false }
def FnErasSaid : Prop := fnErasRow.holds Try.pinned (OpenSpec.ofChange fnErasSpec)

/-- ITS FALSE NEIGHBOUR: 'it returns false'. Refute it at one input. -/
def fnErasWrong : ChangeSpec := { name := "fnEras", fn := fun _ => fun
  | [d] => { results := [.lit (.bool false)], args := [d] }
  | _ => none }
def FnErasWrongFalsely : Prop := fnErasRow.holds Try.pinned (OpenSpec.ofChange fnErasWrong)

/-- 'laws.FnCrash': WHATEVER THE INPUT: true; the input reads as it did. -/
def fnCrashSpec : ChangeSpec := { name := "fnCrash", fn := fun _ => fun
  | [d] => { results := [.lit (.bool true)], args := [d] }
  | _ => none }
def fnCrashRow : OpenClaim := { program := "ytnoghojlpicecaa", sum := "d556508d20bde9d0cd90b58c264c11e06db91e59b609e8ab24bbd0ef99600e52", func := "loop.example/g00178/laws.FnCrash", spec := "fnCrash", inPlace := ["slices.overlaps[loop.example/g00178/impl.Entry]"], unfollowed := true, recurses := true, apart := false }
def FnCrashSaid : Prop := fnCrashRow.holds Try.pinned (OpenSpec.ofChange fnCrashSpec)

/-- ITS FALSE NEIGHBOUR: 'it returns false'. Refute it at one input. -/
def fnCrashWrong : ChangeSpec := { name := "fnCrash", fn := fun _ => fun
  | [d] => { results := [.lit (.bool false)], args := [d] }
  | _ => none }
def FnCrashWrongFalsely : Prop := fnCrashRow.holds Try.pinned (OpenSpec.ofChange fnCrashWrong)

/-- 'laws.FnStored': WHATEVER THE INPUT: true; the input reads as it did. -/
def fnStoredSpec : ChangeSpec := { name := "fnStored", fn := fun _ => fun
  | [d] => { results := [.lit (.bool true)], args := [d] }
  | _ => none }
def fnStoredRow : OpenClaim := { program := "ytnoghojlpicecaa", sum := "d556508d20bde9d0cd90b58c264c11e06db91e59b609e8ab24bbd0ef99600e52", func := "loop.example/g00178/laws.FnStored", spec := "fnStored", inPlace := ["slices.overlaps[loop.example/g00178/impl.Entry]"], unfollowed := true, recurses := true, apart := false }
def FnStoredSaid : Prop := fnStoredRow.holds Try.pinned (OpenSpec.ofChange fnStoredSpec)

/-- ITS FALSE NEIGHBOUR: 'it returns false'. Refute it at one input. -/
def fnStoredWrong : ChangeSpec := { name := "fnStored", fn := fun _ => fun
  | [d] => { results := [.lit (.bool false)], args := [d] }
  | _ => none }
def FnStoredWrongFalsely : Prop := fnStoredRow.holds Try.pinned (OpenSpec.ofChange fnStoredWrong)

/-- 'laws.FnSealed': WHATEVER THE INPUT: true; the input reads as it did. -/
def fnSealedSpec : ChangeSpec := { name := "fnSealed", fn := fun _ => fun
  | [d] => { results := [.lit (.bool true)], args := [d] }
  | _ => none }
def fnSealedRow : OpenClaim := { program := "ytnoghojlpicecaa", sum := "d556508d20bde9d0cd90b58c264c11e06db91e59b609e8ab24bbd0ef99600e52", func := "loop.example/g00178/laws.FnSealed", spec := "fnSealed", inPlace := ["slices.overlaps[loop.example/g00178/impl.Entry]"], unfollowed := true, recurses := true, apart := false }
def FnSealedSaid : Prop := fnSealedRow.holds Try.pinned (OpenSpec.ofChange fnSealedSpec)

/-- ITS FALSE NEIGHBOUR: 'it returns false'. Refute it at one input. -/
def fnSealedWrong : ChangeSpec := { name := "fnSealed", fn := fun _ => fun
  | [d] => { results := [.lit (.bool false)], args := [d] }
  | _ => none }
def FnSealedWrongFalsely : Prop := fnSealedRow.holds Try.pinned (OpenSpec.ofChange fnSealedWrong)

/- THE SECOND FORM. 'bulk': how many values and letters a reading holds, each counted each time it is reached (what is shared counts as often as it is met; a slice's spare places count too). A statement '..UptoSaid' is the law's where the arguments, and the package variables that the reading takes, are together of bulk at most 1048576: NARROWER than '..Said'. Prove '..Said' where nothing that the law and all that it calls make is longer than what came in: it says more and counts as full. Else prove '..UptoSaid'. A law counts once. -/
mutual
def uptoBulk {H : Type} : DataW H → Nat
  | .lit (.string bytes) => bytes.length + 1
  | .lit _ => 1
  | .nil => 1
  | .ptr d => uptoBulk d + 1
  | .slice elems spare => uptoBulkAll elems + uptoBulkAll spare + 1
  | .agg parts => uptoBulkAll parts + 1
  | .iface _ d => uptoBulk d + 1
  | .map entries => uptoBulkEntries entries + 1
  | .held _ => 1
def uptoBulkAll {H : Type} : List (DataW H) → Nat
  | [] => 0
  | d :: r => uptoBulk d + uptoBulkAll r
def uptoBulkEntries {H : Type} : List (Lit × DataW H) → Nat
  | [] => 0
  | x :: r => uptoBulkEntry x + uptoBulkEntries r
def uptoBulkEntry {H : Type} : Lit × DataW H → Nat
  | (.string bytes, d) => bytes.length + uptoBulk d + 1
  | (_, d) => uptoBulk d + 1
 end
def uptoSmall : (H : Type) → List (DataW H) → Bool := fun _ ds => decide (uptoBulkAll ds ≤ 1048576)
def OpenSpec.upto (s : _root_.Go.ChangeSpec) : _root_.Go.OpenSpec := { _root_.Go.OpenSpec.ofChange s with cond := some uptoSmall }

/-- 'laws.FnExactStorePut', WHERE WHAT IT READS IS OF BULK AT MOST 1048576: true; the input reads as it did. -/
def fnExactStorePutUptoRow : OpenClaim := { program := "ytnoghojlpicecaa", sum := "d556508d20bde9d0cd90b58c264c11e06db91e59b609e8ab24bbd0ef99600e52", func := "loop.example/g00178/laws.FnExactStorePut", spec := "fnExactStorePut", apart := false, narrowed := true }
def FnExactStorePutUptoSaid : Prop := fnExactStorePutUptoRow.holds Try.pinned (OpenSpec.upto fnExactStorePutSpec)

/-- 'laws.FnExactStoreTrim', WHERE WHAT IT READS IS OF BULK AT MOST 1048576: true; the input reads as it did. -/
def fnExactStoreTrimUptoRow : OpenClaim := { program := "ytnoghojlpicecaa", sum := "d556508d20bde9d0cd90b58c264c11e06db91e59b609e8ab24bbd0ef99600e52", func := "loop.example/g00178/laws.FnExactStoreTrim", spec := "fnExactStoreTrim", unfollowed := true, recurses := true, apart := false, narrowed := true }
def FnExactStoreTrimUptoSaid : Prop := fnExactStoreTrimUptoRow.holds Try.pinned (OpenSpec.upto fnExactStoreTrimSpec)

/-- 'laws.FnEras', WHERE WHAT IT READS IS OF BULK AT MOST 1048576: true; the input reads as it did. -/
def fnErasUptoRow : OpenClaim := { program := "ytnoghojlpicecaa", sum := "d556508d20bde9d0cd90b58c264c11e06db91e59b609e8ab24bbd0ef99600e52", func := "loop.example/g00178/laws.FnEras", spec := "fnEras", unfollowed := true, recurses := true, apart := false, narrowed := true }
def FnErasUptoSaid : Prop := fnErasUptoRow.holds Try.pinned (OpenSpec.upto fnErasSpec)

/-- 'laws.FnCrash', WHERE WHAT IT READS IS OF BULK AT MOST 1048576: true; the input reads as it did. -/
def fnCrashUptoRow : OpenClaim := { program := "ytnoghojlpicecaa", sum := "d556508d20bde9d0cd90b58c264c11e06db91e59b609e8ab24bbd0ef99600e52", func := "loop.example/g00178/laws.FnCrash", spec := "fnCrash", inPlace := ["slices.overlaps[loop.example/g00178/impl.Entry]"], unfollowed := true, recurses := true, apart := false, narrowed := true }
def FnCrashUptoSaid : Prop := fnCrashUptoRow.holds Try.pinned (OpenSpec.upto fnCrashSpec)

/-- 'laws.FnStored', WHERE WHAT IT READS IS OF BULK AT MOST 1048576: true; the input reads as it did. -/
def fnStoredUptoRow : OpenClaim := { program := "ytnoghojlpicecaa", sum := "d556508d20bde9d0cd90b58c264c11e06db91e59b609e8ab24bbd0ef99600e52", func := "loop.example/g00178/laws.FnStored", spec := "fnStored", inPlace := ["slices.overlaps[loop.example/g00178/impl.Entry]"], unfollowed := true, recurses := true, apart := false, narrowed := true }
def FnStoredUptoSaid : Prop := fnStoredUptoRow.holds Try.pinned (OpenSpec.upto fnStoredSpec)

/-- 'laws.FnSealed', WHERE WHAT IT READS IS OF BULK AT MOST 1048576: true; the input reads as it did. -/
def fnSealedUptoRow : OpenClaim := { program := "ytnoghojlpicecaa", sum := "d556508d20bde9d0cd90b58c264c11e06db91e59b609e8ab24bbd0ef99600e52", func := "loop.example/g00178/laws.FnSealed", spec := "fnSealed", inPlace := ["slices.overlaps[loop.example/g00178/impl.Entry]"], unfollowed := true, recurses := true, apart := false, narrowed := true }
def FnSealedUptoSaid : Prop := fnSealedUptoRow.holds Try.pinned (OpenSpec.upto fnSealedSpec)

end Rows
end Go.Proofs.Ytnoghojlpicecaa
