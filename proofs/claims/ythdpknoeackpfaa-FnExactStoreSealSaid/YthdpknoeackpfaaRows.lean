/-
  No cell of these rows narrows 'for every input' (looked for: loops, veiled, ifaces, maps, wideKeys, modest, calm, conditions, laid).
  DERIVED. THE GIVEN ROWS OF THIS SEAT. 12 by the template 'for every input the law returns true; each argument reads behind the call as it read before'; 0 by the template 'total and deterministic' (their statements: YthdpknoeackpfaaTotals.lean).
  GIVEN WITH THE SEED: the statements are not yours to turn. If you find one false, say at which input.
  Laid BY PROGRAM, IN A SANDBOX (cutbox-rows.mjs): the forced cells as the released guide's own fill.sh prints them over the translation e7ddf3b42684066f… (all of the seat's roots in one cut). By AI agents, Wed Nov 11 2026. No macro, syntax, notation, axiom, sorry.
-/
import Derived.Test.YthdpknoeackpfaaChecked
import GoSem.Claim
import GoSem.ClaimJoined
import GoSem.ClaimMapViews
import Derived.JoinedTies
import Derived.KernelRfl
namespace Go.Proofs.Ythdpknoeackpfaa
/- THE CELL 'sum', in the pinned program and in every row, IS THE sha256 OF THE DUMP (.gsa) THAT YthdpknoeackpfaaProg.lean LOADS. Nothing in Lean hashes anything: it is a label: what it is worth is what the hold of that sum in a sandbox is worth. -/
noncomputable def Try.pinned : Pinned := { name := "ythdpknoeackpfaa", sum := "e7ddf3b42684066fd1cbbd8f363a5e1b812daab098eaae652259f4b66d19e083", checked := Try.checked }
namespace Rows
def none {H : Type} : Left H := { results := [], args := [] }

/-- 'laws.FnExactStoreOk': WHATEVER THE INPUT: true; the input reads as it did. -/
def fnExactStoreOkSpec : ChangeSpec := { name := "fnExactStoreOk", fn := fun _ => fun
  | [d] => { results := [.lit (.bool true)], args := [d] }
  | _ => none }
def fnExactStoreOkRow : OpenClaim := { program := "ythdpknoeackpfaa", sum := "e7ddf3b42684066fd1cbbd8f363a5e1b812daab098eaae652259f4b66d19e083", func := "loop.example/g00178/laws.FnExactStoreOk", spec := "fnExactStoreOk", apart := false }
def FnExactStoreOkSaid : Prop := fnExactStoreOkRow.holds Try.pinned (OpenSpec.ofChange fnExactStoreOkSpec)

/-- ITS FALSE NEIGHBOUR: 'it returns false'. Refute it at one input. -/
def fnExactStoreOkWrong : ChangeSpec := { name := "fnExactStoreOk", fn := fun _ => fun
  | [d] => { results := [.lit (.bool false)], args := [d] }
  | _ => none }
def FnExactStoreOkWrongFalsely : Prop := fnExactStoreOkRow.holds Try.pinned (OpenSpec.ofChange fnExactStoreOkWrong)

/-- 'laws.FnExactStoreGet': WHATEVER THE INPUT: true; the input reads as it did. -/
def fnExactStoreGetSpec : ChangeSpec := { name := "fnExactStoreGet", fn := fun _ => fun
  | [d1, d2] => { results := [.lit (.bool true)], args := [d1, d2] }
  | _ => none }
def fnExactStoreGetRow : OpenClaim := { program := "ythdpknoeackpfaa", sum := "e7ddf3b42684066fd1cbbd8f363a5e1b812daab098eaae652259f4b66d19e083", func := "loop.example/g00178/laws.FnExactStoreGet", spec := "fnExactStoreGet", unfollowed := true, recurses := true, apart := false }
def FnExactStoreGetSaid : Prop := fnExactStoreGetRow.holds Try.pinned (OpenSpec.ofChange fnExactStoreGetSpec)

/-- ITS FALSE NEIGHBOUR: 'it returns false'. Refute it at one input. -/
def fnExactStoreGetWrong : ChangeSpec := { name := "fnExactStoreGet", fn := fun _ => fun
  | [d1, d2] => { results := [.lit (.bool false)], args := [d1, d2] }
  | _ => none }
def FnExactStoreGetWrongFalsely : Prop := fnExactStoreGetRow.holds Try.pinned (OpenSpec.ofChange fnExactStoreGetWrong)

/-- 'laws.FnExactStoreEra': WHATEVER THE INPUT: true; the input reads as it did. -/
def fnExactStoreEraSpec : ChangeSpec := { name := "fnExactStoreEra", fn := fun _ => fun
  | [d1, d2] => { results := [.lit (.bool true)], args := [d1, d2] }
  | _ => none }
def fnExactStoreEraRow : OpenClaim := { program := "ythdpknoeackpfaa", sum := "e7ddf3b42684066fd1cbbd8f363a5e1b812daab098eaae652259f4b66d19e083", func := "loop.example/g00178/laws.FnExactStoreEra", spec := "fnExactStoreEra", apart := false }
def FnExactStoreEraSaid : Prop := fnExactStoreEraRow.holds Try.pinned (OpenSpec.ofChange fnExactStoreEraSpec)

/-- ITS FALSE NEIGHBOUR: 'it returns false'. Refute it at one input. -/
def fnExactStoreEraWrong : ChangeSpec := { name := "fnExactStoreEra", fn := fun _ => fun
  | [d1, d2] => { results := [.lit (.bool false)], args := [d1, d2] }
  | _ => none }
def FnExactStoreEraWrongFalsely : Prop := fnExactStoreEraRow.holds Try.pinned (OpenSpec.ofChange fnExactStoreEraWrong)

/-- 'laws.FnExactStorePut': WHATEVER THE INPUT: true; the input reads as it did. -/
def fnExactStorePutSpec : ChangeSpec := { name := "fnExactStorePut", fn := fun _ => fun
  | [d1, d2] => { results := [.lit (.bool true)], args := [d1, d2] }
  | _ => none }
def fnExactStorePutRow : OpenClaim := { program := "ythdpknoeackpfaa", sum := "e7ddf3b42684066fd1cbbd8f363a5e1b812daab098eaae652259f4b66d19e083", func := "loop.example/g00178/laws.FnExactStorePut", spec := "fnExactStorePut", apart := false }
def FnExactStorePutSaid : Prop := fnExactStorePutRow.holds Try.pinned (OpenSpec.ofChange fnExactStorePutSpec)

/-- ITS FALSE NEIGHBOUR: 'it returns false'. Refute it at one input. -/
def fnExactStorePutWrong : ChangeSpec := { name := "fnExactStorePut", fn := fun _ => fun
  | [d1, d2] => { results := [.lit (.bool false)], args := [d1, d2] }
  | _ => none }
def FnExactStorePutWrongFalsely : Prop := fnExactStorePutRow.holds Try.pinned (OpenSpec.ofChange fnExactStorePutWrong)

/-- 'laws.FnExactStoreTrim': WHATEVER THE INPUT: true; the input reads as it did. -/
def fnExactStoreTrimSpec : ChangeSpec := { name := "fnExactStoreTrim", fn := fun _ => fun
  | [d1, d2] => { results := [.lit (.bool true)], args := [d1, d2] }
  | _ => none }
def fnExactStoreTrimRow : OpenClaim := { program := "ythdpknoeackpfaa", sum := "e7ddf3b42684066fd1cbbd8f363a5e1b812daab098eaae652259f4b66d19e083", func := "loop.example/g00178/laws.FnExactStoreTrim", spec := "fnExactStoreTrim", unfollowed := true, recurses := true, apart := false }
def FnExactStoreTrimSaid : Prop := fnExactStoreTrimRow.holds Try.pinned (OpenSpec.ofChange fnExactStoreTrimSpec)

/-- ITS FALSE NEIGHBOUR: 'it returns false'. Refute it at one input. -/
def fnExactStoreTrimWrong : ChangeSpec := { name := "fnExactStoreTrim", fn := fun _ => fun
  | [d1, d2] => { results := [.lit (.bool false)], args := [d1, d2] }
  | _ => none }
def FnExactStoreTrimWrongFalsely : Prop := fnExactStoreTrimRow.holds Try.pinned (OpenSpec.ofChange fnExactStoreTrimWrong)

/-- 'laws.FnExactStorePack': WHATEVER THE INPUT: true; the input reads as it did. -/
def fnExactStorePackSpec : ChangeSpec := { name := "fnExactStorePack", fn := fun _ => fun
  | [d] => { results := [.lit (.bool true)], args := [d] }
  | _ => none }
def fnExactStorePackRow : OpenClaim := { program := "ythdpknoeackpfaa", sum := "e7ddf3b42684066fd1cbbd8f363a5e1b812daab098eaae652259f4b66d19e083", func := "loop.example/g00178/laws.FnExactStorePack", spec := "fnExactStorePack", apart := false }
def FnExactStorePackSaid : Prop := fnExactStorePackRow.holds Try.pinned (OpenSpec.ofChange fnExactStorePackSpec)

/-- ITS FALSE NEIGHBOUR: 'it returns false'. Refute it at one input. -/
def fnExactStorePackWrong : ChangeSpec := { name := "fnExactStorePack", fn := fun _ => fun
  | [d] => { results := [.lit (.bool false)], args := [d] }
  | _ => none }
def FnExactStorePackWrongFalsely : Prop := fnExactStorePackRow.holds Try.pinned (OpenSpec.ofChange fnExactStorePackWrong)

/-- 'laws.FnExactStoreCrash': WHATEVER THE INPUT: true; the input reads as it did. -/
def fnExactStoreCrashSpec : ChangeSpec := { name := "fnExactStoreCrash", fn := fun _ => fun
  | [d1, d2] => { results := [.lit (.bool true)], args := [d1, d2] }
  | _ => none }
def fnExactStoreCrashRow : OpenClaim := { program := "ythdpknoeackpfaa", sum := "e7ddf3b42684066fd1cbbd8f363a5e1b812daab098eaae652259f4b66d19e083", func := "loop.example/g00178/laws.FnExactStoreCrash", spec := "fnExactStoreCrash", inPlace := ["slices.overlaps[loop.example/g00178/impl.Entry]"], unfollowed := true, recurses := true, apart := false }
def FnExactStoreCrashSaid : Prop := fnExactStoreCrashRow.holds Try.pinned (OpenSpec.ofChange fnExactStoreCrashSpec)

/-- ITS FALSE NEIGHBOUR: 'it returns false'. Refute it at one input. -/
def fnExactStoreCrashWrong : ChangeSpec := { name := "fnExactStoreCrash", fn := fun _ => fun
  | [d1, d2] => { results := [.lit (.bool false)], args := [d1, d2] }
  | _ => none }
def FnExactStoreCrashWrongFalsely : Prop := fnExactStoreCrashRow.holds Try.pinned (OpenSpec.ofChange fnExactStoreCrashWrong)

/-- 'laws.FnExactStoreSync': WHATEVER THE INPUT: true; the input reads as it did. -/
def fnExactStoreSyncSpec : ChangeSpec := { name := "fnExactStoreSync", fn := fun _ => fun
  | [d] => { results := [.lit (.bool true)], args := [d] }
  | _ => none }
def fnExactStoreSyncRow : OpenClaim := { program := "ythdpknoeackpfaa", sum := "e7ddf3b42684066fd1cbbd8f363a5e1b812daab098eaae652259f4b66d19e083", func := "loop.example/g00178/laws.FnExactStoreSync", spec := "fnExactStoreSync", inPlace := ["slices.overlaps[loop.example/g00178/impl.Entry]"], unfollowed := true, recurses := true, apart := false }
def FnExactStoreSyncSaid : Prop := fnExactStoreSyncRow.holds Try.pinned (OpenSpec.ofChange fnExactStoreSyncSpec)

/-- ITS FALSE NEIGHBOUR: 'it returns false'. Refute it at one input. -/
def fnExactStoreSyncWrong : ChangeSpec := { name := "fnExactStoreSync", fn := fun _ => fun
  | [d] => { results := [.lit (.bool false)], args := [d] }
  | _ => none }
def FnExactStoreSyncWrongFalsely : Prop := fnExactStoreSyncRow.holds Try.pinned (OpenSpec.ofChange fnExactStoreSyncWrong)

/-- 'laws.FnExactStoreSeal': WHATEVER THE INPUT: true; the input reads as it did. -/
def fnExactStoreSealSpec : ChangeSpec := { name := "fnExactStoreSeal", fn := fun _ => fun
  | [d1, d2] => { results := [.lit (.bool true)], args := [d1, d2] }
  | _ => none }
def fnExactStoreSealRow : OpenClaim := { program := "ythdpknoeackpfaa", sum := "e7ddf3b42684066fd1cbbd8f363a5e1b812daab098eaae652259f4b66d19e083", func := "loop.example/g00178/laws.FnExactStoreSeal", spec := "fnExactStoreSeal", inPlace := ["slices.overlaps[loop.example/g00178/impl.Entry]"], unfollowed := true, recurses := true, apart := false }
def FnExactStoreSealSaid : Prop := fnExactStoreSealRow.holds Try.pinned (OpenSpec.ofChange fnExactStoreSealSpec)

/-- ITS FALSE NEIGHBOUR: 'it returns false'. Refute it at one input. -/
def fnExactStoreSealWrong : ChangeSpec := { name := "fnExactStoreSeal", fn := fun _ => fun
  | [d1, d2] => { results := [.lit (.bool false)], args := [d1, d2] }
  | _ => none }
def FnExactStoreSealWrongFalsely : Prop := fnExactStoreSealRow.holds Try.pinned (OpenSpec.ofChange fnExactStoreSealWrong)

/-- 'laws.FnExactFirstOpen': WHATEVER THE INPUT: true; the input reads as it did. -/
def fnExactFirstOpenSpec : ChangeSpec := { name := "fnExactFirstOpen", fn := fun _ => fun
  | [d] => { results := [.lit (.bool true)], args := [d] }
  | _ => none }
def fnExactFirstOpenRow : OpenClaim := { program := "ythdpknoeackpfaa", sum := "e7ddf3b42684066fd1cbbd8f363a5e1b812daab098eaae652259f4b66d19e083", func := "loop.example/g00178/laws.FnExactFirstOpen", spec := "fnExactFirstOpen", apart := false }
def FnExactFirstOpenSaid : Prop := fnExactFirstOpenRow.holds Try.pinned (OpenSpec.ofChange fnExactFirstOpenSpec)

/-- ITS FALSE NEIGHBOUR: 'it returns false'. Refute it at one input. -/
def fnExactFirstOpenWrong : ChangeSpec := { name := "fnExactFirstOpen", fn := fun _ => fun
  | [d] => { results := [.lit (.bool false)], args := [d] }
  | _ => none }
def FnExactFirstOpenWrongFalsely : Prop := fnExactFirstOpenRow.holds Try.pinned (OpenSpec.ofChange fnExactFirstOpenWrong)

/-- 'laws.FnBetter': WHATEVER THE INPUT: true; the input reads as it did. -/
def fnBetterSpec : ChangeSpec := { name := "fnBetter", fn := fun _ => fun
  | [d] => { results := [.lit (.bool true)], args := [d] }
  | _ => none }
def fnBetterRow : OpenClaim := { program := "ythdpknoeackpfaa", sum := "e7ddf3b42684066fd1cbbd8f363a5e1b812daab098eaae652259f4b66d19e083", func := "loop.example/g00178/laws.FnBetter", spec := "fnBetter", apart := false }
def FnBetterSaid : Prop := fnBetterRow.holds Try.pinned (OpenSpec.ofChange fnBetterSpec)

/-- ITS FALSE NEIGHBOUR: 'it returns false'. Refute it at one input. -/
def fnBetterWrong : ChangeSpec := { name := "fnBetter", fn := fun _ => fun
  | [d] => { results := [.lit (.bool false)], args := [d] }
  | _ => none }
def FnBetterWrongFalsely : Prop := fnBetterRow.holds Try.pinned (OpenSpec.ofChange fnBetterWrong)

/-- 'laws.FnEras': WHATEVER THE INPUT: true; the input reads as it did. -/
def fnErasSpec : ChangeSpec := { name := "fnEras", fn := fun _ => fun
  | [d] => { results := [.lit (.bool true)], args := [d] }
  | _ => none }
def fnErasRow : OpenClaim := { program := "ythdpknoeackpfaa", sum := "e7ddf3b42684066fd1cbbd8f363a5e1b812daab098eaae652259f4b66d19e083", func := "loop.example/g00178/laws.FnEras", spec := "fnEras", unfollowed := true, recurses := true, apart := false }
def FnErasSaid : Prop := fnErasRow.holds Try.pinned (OpenSpec.ofChange fnErasSpec)

/-- ITS FALSE NEIGHBOUR: 'it returns false'. Refute it at one input. -/
def fnErasWrong : ChangeSpec := { name := "fnEras", fn := fun _ => fun
  | [d] => { results := [.lit (.bool false)], args := [d] }
  | _ => none }
def FnErasWrongFalsely : Prop := fnErasRow.holds Try.pinned (OpenSpec.ofChange fnErasWrong)

/- THE SECOND FORM. 'bulk': how many values and letters a reading holds, each counted each time it is reached (what is shared counts as often as it is met; a slice's spare places count too). A statement '..UptoSaid' is the law's where the arguments, and the package variables that the reading takes, are together of bulk at most 1048576: NARROWER than '..Said'. Prove '..Said' where nothing that the law and all that it calls make is longer than what came in: it says more and counts as full. Else prove '..UptoSaid'. A law counts once. -/
mutual
def uptoBulk {H : Type} : DataW H → Nat
  | .lit (.string bytes) => bytes.length + 1
  | .lit _ => 1
  | .nil => 1
  | .ptr d => uptoBulk d + 1
  | .slice elems spare => uptoBulkAll elems + uptoBulkAll spare + 1
  | .agg parts => uptoBulkAll parts + 1
  | .iface _ d => uptoBulk d + 1
  | .map entries => uptoBulkEntries entries + 1
  | .held _ => 1
def uptoBulkAll {H : Type} : List (DataW H) → Nat
  | [] => 0
  | d :: r => uptoBulk d + uptoBulkAll r
def uptoBulkEntries {H : Type} : List (Lit × DataW H) → Nat
  | [] => 0
  | x :: r => uptoBulkEntry x + uptoBulkEntries r
def uptoBulkEntry {H : Type} : Lit × DataW H → Nat
  | (.string bytes, d) => bytes.length + uptoBulk d + 1
  | (_, d) => uptoBulk d + 1
 end
def uptoSmall : (H : Type) → List (DataW H) → Bool := fun _ ds => decide (uptoBulkAll ds ≤ 1048576)
def OpenSpec.upto (s : _root_.Go.ChangeSpec) : _root_.Go.OpenSpec := { _root_.Go.OpenSpec.ofChange s with cond := some uptoSmall }

/-- 'laws.FnExactStoreOk', WHERE WHAT IT READS IS OF BULK AT MOST 1048576: true; the input reads as it did. -/
def fnExactStoreOkUptoRow : OpenClaim := { program := "ythdpknoeackpfaa", sum := "e7ddf3b42684066fd1cbbd8f363a5e1b812daab098eaae652259f4b66d19e083", func := "loop.example/g00178/laws.FnExactStoreOk", spec := "fnExactStoreOk", apart := false, narrowed := true }
def FnExactStoreOkUptoSaid : Prop := fnExactStoreOkUptoRow.holds Try.pinned (OpenSpec.upto fnExactStoreOkSpec)

/-- 'laws.FnExactStoreGet', WHERE WHAT IT READS IS OF BULK AT MOST 1048576: true; the input reads as it did. -/
def fnExactStoreGetUptoRow : OpenClaim := { program := "ythdpknoeackpfaa", sum := "e7ddf3b42684066fd1cbbd8f363a5e1b812daab098eaae652259f4b66d19e083", func := "loop.example/g00178/laws.FnExactStoreGet", spec := "fnExactStoreGet", unfollowed := true, recurses := true, apart := false, narrowed := true }
def FnExactStoreGetUptoSaid : Prop := fnExactStoreGetUptoRow.holds Try.pinned (OpenSpec.upto fnExactStoreGetSpec)

/-- 'laws.FnExactStoreEra', WHERE WHAT IT READS IS OF BULK AT MOST 1048576: true; the input reads as it did. -/
def fnExactStoreEraUptoRow : OpenClaim := { program := "ythdpknoeackpfaa", sum := "e7ddf3b42684066fd1cbbd8f363a5e1b812daab098eaae652259f4b66d19e083", func := "loop.example/g00178/laws.FnExactStoreEra", spec := "fnExactStoreEra", apart := false, narrowed := true }
def FnExactStoreEraUptoSaid : Prop := fnExactStoreEraUptoRow.holds Try.pinned (OpenSpec.upto fnExactStoreEraSpec)

/-- 'laws.FnExactStorePut', WHERE WHAT IT READS IS OF BULK AT MOST 1048576: true; the input reads as it did. -/
def fnExactStorePutUptoRow : OpenClaim := { program := "ythdpknoeackpfaa", sum := "e7ddf3b42684066fd1cbbd8f363a5e1b812daab098eaae652259f4b66d19e083", func := "loop.example/g00178/laws.FnExactStorePut", spec := "fnExactStorePut", apart := false, narrowed := true }
def FnExactStorePutUptoSaid : Prop := fnExactStorePutUptoRow.holds Try.pinned (OpenSpec.upto fnExactStorePutSpec)

/-- 'laws.FnExactStoreTrim', WHERE WHAT IT READS IS OF BULK AT MOST 1048576: true; the input reads as it did. -/
def fnExactStoreTrimUptoRow : OpenClaim := { program := "ythdpknoeackpfaa", sum := "e7ddf3b42684066fd1cbbd8f363a5e1b812daab098eaae652259f4b66d19e083", func := "loop.example/g00178/laws.FnExactStoreTrim", spec := "fnExactStoreTrim", unfollowed := true, recurses := true, apart := false, narrowed := true }
def FnExactStoreTrimUptoSaid : Prop := fnExactStoreTrimUptoRow.holds Try.pinned (OpenSpec.upto fnExactStoreTrimSpec)

/-- 'laws.FnExactStorePack', WHERE WHAT IT READS IS OF BULK AT MOST 1048576: true; the input reads as it did. -/
def fnExactStorePackUptoRow : OpenClaim := { program := "ythdpknoeackpfaa", sum := "e7ddf3b42684066fd1cbbd8f363a5e1b812daab098eaae652259f4b66d19e083", func := "loop.example/g00178/laws.FnExactStorePack", spec := "fnExactStorePack", apart := false, narrowed := true }
def FnExactStorePackUptoSaid : Prop := fnExactStorePackUptoRow.holds Try.pinned (OpenSpec.upto fnExactStorePackSpec)

/-- 'laws.FnExactStoreCrash', WHERE WHAT IT READS IS OF BULK AT MOST 1048576: true; the input reads as it did. -/
def fnExactStoreCrashUptoRow : OpenClaim := { program := "ythdpknoeackpfaa", sum := "e7ddf3b42684066fd1cbbd8f363a5e1b812daab098eaae652259f4b66d19e083", func := "loop.example/g00178/laws.FnExactStoreCrash", spec := "fnExactStoreCrash", inPlace := ["slices.overlaps[loop.example/g00178/impl.Entry]"], unfollowed := true, recurses := true, apart := false, narrowed := true }
def FnExactStoreCrashUptoSaid : Prop := fnExactStoreCrashUptoRow.holds Try.pinned (OpenSpec.upto fnExactStoreCrashSpec)

/-- 'laws.FnExactStoreSync', WHERE WHAT IT READS IS OF BULK AT MOST 1048576: true; the input reads as it did. -/
def fnExactStoreSyncUptoRow : OpenClaim := { program := "ythdpknoeackpfaa", sum := "e7ddf3b42684066fd1cbbd8f363a5e1b812daab098eaae652259f4b66d19e083", func := "loop.example/g00178/laws.FnExactStoreSync", spec := "fnExactStoreSync", inPlace := ["slices.overlaps[loop.example/g00178/impl.Entry]"], unfollowed := true, recurses := true, apart := false, narrowed := true }
def FnExactStoreSyncUptoSaid : Prop := fnExactStoreSyncUptoRow.holds Try.pinned (OpenSpec.upto fnExactStoreSyncSpec)

/-- 'laws.FnExactStoreSeal', WHERE WHAT IT READS IS OF BULK AT MOST 1048576: true; the input reads as it did. -/
def fnExactStoreSealUptoRow : OpenClaim := { program := "ythdpknoeackpfaa", sum := "e7ddf3b42684066fd1cbbd8f363a5e1b812daab098eaae652259f4b66d19e083", func := "loop.example/g00178/laws.FnExactStoreSeal", spec := "fnExactStoreSeal", inPlace := ["slices.overlaps[loop.example/g00178/impl.Entry]"], unfollowed := true, recurses := true, apart := false, narrowed := true }
def FnExactStoreSealUptoSaid : Prop := fnExactStoreSealUptoRow.holds Try.pinned (OpenSpec.upto fnExactStoreSealSpec)

/-- 'laws.FnExactFirstOpen', WHERE WHAT IT READS IS OF BULK AT MOST 1048576: true; the input reads as it did. -/
def fnExactFirstOpenUptoRow : OpenClaim := { program := "ythdpknoeackpfaa", sum := "e7ddf3b42684066fd1cbbd8f363a5e1b812daab098eaae652259f4b66d19e083", func := "loop.example/g00178/laws.FnExactFirstOpen", spec := "fnExactFirstOpen", apart := false, narrowed := true }
def FnExactFirstOpenUptoSaid : Prop := fnExactFirstOpenUptoRow.holds Try.pinned (OpenSpec.upto fnExactFirstOpenSpec)

/-- 'laws.FnBetter', WHERE WHAT IT READS IS OF BULK AT MOST 1048576: true; the input reads as it did. -/
def fnBetterUptoRow : OpenClaim := { program := "ythdpknoeackpfaa", sum := "e7ddf3b42684066fd1cbbd8f363a5e1b812daab098eaae652259f4b66d19e083", func := "loop.example/g00178/laws.FnBetter", spec := "fnBetter", apart := false, narrowed := true }
def FnBetterUptoSaid : Prop := fnBetterUptoRow.holds Try.pinned (OpenSpec.upto fnBetterSpec)

/-- 'laws.FnEras', WHERE WHAT IT READS IS OF BULK AT MOST 1048576: true; the input reads as it did. -/
def fnErasUptoRow : OpenClaim := { program := "ythdpknoeackpfaa", sum := "e7ddf3b42684066fd1cbbd8f363a5e1b812daab098eaae652259f4b66d19e083", func := "loop.example/g00178/laws.FnEras", spec := "fnEras", unfollowed := true, recurses := true, apart := false, narrowed := true }
def FnErasUptoSaid : Prop := fnErasUptoRow.holds Try.pinned (OpenSpec.upto fnErasSpec)

end Rows
end Go.Proofs.Ythdpknoeackpfaa
