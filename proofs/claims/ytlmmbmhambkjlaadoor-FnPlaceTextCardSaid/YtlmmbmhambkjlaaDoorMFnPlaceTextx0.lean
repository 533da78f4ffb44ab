-- What each Go function that this law reaches comes to: written by a program out of the translation.
import Derived.Test.YtlmmbmhambkjlaaDoorProg
import Derived.Below
import Derived.Deep.Draws
import Derived.Deep.AppendLies
import Derived.Maps.AppendAt
import Derived.OwnWalk
import Derived.Laws.BytesArg
import Derived.Laws.MakeOwn
import Derived.Laws.OwnMore
import Derived.Deep.OwnRows
import Derived.Tactics
import Derived.Lib.ConvBytes
import Derived.Laws.Slices
import Derived.WalkKit
import Derived.KernelRfl
import Derived.RowKit3
import Derived.Deep.LoopGhost
import Derived.Deep.QuietTactic
import Derived.BigQuiet
import Derived.WideLaws
import Derived.Deep.DeepCutAuto
import Derived.Deep.CutBlock
import Derived.Deep.RegionHeld3
import Derived.Laws.Rows
import Derived.Lib.AppendStr
import Derived.ArgAppend
import Derived.Laws.IdiomCopy
import Derived.OrdersHeld
import Derived.Laws.BitsLemmas
import Derived.RowKit
import Derived.Shelf.LaysM
import Derived.Shelf.Strconv.AtoiAll
import Derived.Shelf.Strconv.Itoa3
import Derived.Shelf.Strings.Cut
import Derived.Test.YtlmmbmhambkjlaaDoorWWords
import Derived.Test.YtlmmbmhambkjlaaDoorWLast
import Derived.Test.YtlmmbmhambkjlaaDoorWTab
import Derived.Test.YtlmmbmhambkjlaaDoorWFour
import Derived.Test.YtlmmbmhambkjlaaDoorWQPut
import Derived.Test.YtlmmbmhambkjlaaDoorWApart
import Derived.Test.YtlmmbmhambkjlaaDoorWArr
import Derived.Test.YtlmmbmhambkjlaaDoorWZeros
import Derived.Test.YtlmmbmhambkjlaaDoorWFoot
import Derived.Test.YtlmmbmhambkjlaaDoorWKept
import Derived.Test.YtlmmbmhambkjlaaDoorWShare
import Derived.Test.YtlmmbmhambkjlaaDoorWN
import Derived.Test.YtlmmbmhambkjlaaDoorWFootNe
import Derived.Test.YtlmmbmhambkjlaaDoorWAt
import Derived.Test.YtlmmbmhambkjlaaDoorWEqStruct
import Derived.Test.YtlmmbmhambkjlaaDoorWRepsOne
import Derived.Test.YtlmmbmhambkjlaaDoorWInv
import Derived.Test.YtlmmbmhambkjlaaDoorWInvWords
import Derived.Test.YtlmmbmhambkjlaaDoorWGuard
import Derived.Test.YtlmmbmhambkjlaaDoorWNEv
import Derived.Test.YtlmmbmhambkjlaaDoorWMore
namespace Go.Proofs.YtlmmbmhambkjlaaDoor.PFnPlaceText
open Go.RowKit Go.Proofs.YtlmmbmhambkjlaaDoorW.PrintWords Go.Proofs.YtlmmbmhambkjlaaDoorW.PrintLast Go.Proofs.YtlmmbmhambkjlaaDoorW.PrintMore
attribute [local go_sem] max2_int min2_int max_two min_two max_three min_three max_four min_four   -- for this text's walks alone
set_option linter.unusedVariables false
set_option linter.unusedSimpArgs false



def errW : Option Int → Value
 | none => .nilIface
 | some c => .iface 0 (.int .i64 c)
theorem errW_none : errW none = .nilIface := rfl
theorem errW_some (c : Int) : errW (some c) = .iface 0 (.int .i64 c) := rfl

theorem info3 : (Tryd.prog.info? 3).map (fun i => (i.zero, i.size, i.bytes)) = some (some (.int .i64 0), 1, 8) := by kernel_rfl
theorem info5 : (Tryd.prog.info? 5).map (fun i => (i.zero, i.size, i.bytes)) = some (some (.int .u8 0), 1, 1) := by kernel_rfl
theorem info9 : (Tryd.prog.info? 9).map (fun i => (i.zero, i.size, i.bytes)) = some (some (.string ⟨#[]⟩), 1, 16) := by kernel_rfl
-- the values' own types
theorem KB {p : Prop} (h : p := by repeat (first | (with_reducible first | exact Aside0.out (by assumption) | apply below_alloc | apply pw_below_drewN | apply below_drew1 | refine below_set ?_ (Aside0.out (by assumption))) | exact Aside0.out (by assumption))) : p := h
theorem KH {p : Prop} (h : p := by repeat (first | (with_reducible first | exact Aside0.out (by assumption) | apply KeepBut.set_ | apply keep_drewN | apply keep_drew | apply keep_alloc | refine keep_far ?_ (Aside0.out (by assumption)) _) | exact Aside0.out (by assumption))) : p := h
theorem KK {p : Prop} (h : p := by (with_reducible repeat (first | refine blk_drewN ?_ _ | refine blk_drew ?_ | refine blk_alloc ?_ _ | refine blk_far ?_ (Aside0.out (by assumption)) _)); exact Aside0.out (by first | (with_reducible assumption) | assumption)) : p := h
theorem KR {p q : Prop} (hq : q) (h : q → p := by intro hq_; (with_reducible repeat (first | apply Kd.R_alloc | apply Kd.R_drewN | apply Kd.R_drew)); exact hq_) : p := h hq
theorem KD {p q : Prop} (hq : q) (h : q → p := by intro hq_; repeat (first | exact hq_ | (with_reducible refine Kd.C_alloc ?_ _) | (with_reducible refine Kd.C_drewN ?_ _) | (with_reducible refine Kd.C_drew ?_))) : p := h hq
theorem KE {p : Prop} (h : p := by first | rfl | (simp [errW_none, errW_some] <;> rfl) | (simp [*, errW_none, errW_some] <;> rfl)) : p := h
theorem KT {p : Prop} (h : p := by first | exact ⟨rfl, _, World.drewN_drewN _ _ _⟩ | exact ⟨rfl, _, Eq.trans (World.drewN_drewN _ _ _) (congrArg (World.drewN _) (Nat.add_assoc _ _ _))⟩) : p := h
theorem KG {w u : World} {g : Nat} (hg : g = u.heap.size) (h : Below w.heap.size w u := by exact KB) : w.heap.size ≤ g := by rw [hg]; exact below_size h
theorem KL {p : Prop} (h : p := by (try simp only [List.map_toArray, List.map_cons, List.map_nil]); first | done | rfl | (simp only [List.length_drop, List.length_take]; rfl)) : p := h
theorem KC {p : Prop} (h : p := by repeat (first | exact Aside0.out (by with_reducible assumption) | (with_reducible refine Kd.C_alloc ?_ _) | (with_reducible refine Kd.C_drewN ?_ _) | (with_reducible refine Kd.C_drew ?_))) : p := h
/-- What the walks take from the package variables: two errors and a number. -/
structure Gl (w : World) : Prop where
  m : ∃ m, w.cell? ⟨0, 0, none⟩ = some (.int .i64 m)
  s : ∃ ev, w.cell? ⟨1, 0, none⟩ = some ev ∧ (ev = .nilIface ∨ ∃ te pe, ev = .iface te pe)
  r : ∃ ev, w.cell? ⟨2, 0, none⟩ = some ev ∧ (ev = .nilIface ∨ ∃ te pe, ev = .iface te pe)
theorem cell_lt {w : World} {a : Addr} {v : Value} (h : w.cell? a = some v) : a.block < w.heap.size := Lib.lt_of_cell h
theorem Gl.of {w u : World} (h : Gl w) (hb : Below w.heap.size w u) : Gl u := by
  obtain ⟨⟨m, hm⟩, ⟨s, hs, es⟩, ⟨r, hr, er⟩⟩ := h
  exact ⟨⟨m, (hb.cell (cell_lt hm)).trans hm⟩, ⟨s, (hb.cell (cell_lt hs)).trans hs, es⟩, ⟨r, (hb.cell (cell_lt hr)).trans hr, er⟩⟩
theorem Gl.drewN {w : World} (h : Gl w) (n : Nat) : Gl (w.drewN n) := h.of (pw_below_drewN (Below.refl _ _) n)
theorem KGl {w u : World} (hGl : Gl w) (h : Below w.heap.size w u := by repeat (first | exact Below.refl _ _ | (with_reducible first | exact Aside0.out (by assumption) | apply pw_below_drewN | apply below_alloc | apply below_drew1) | exact Aside0.out (by assumption))) : Gl u := hGl.of h

end Go.Proofs.YtlmmbmhambkjlaaDoor.PFnPlaceText
