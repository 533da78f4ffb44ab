/- The tied card of FnPlaceText. Conditions: none beyond the given statement. -/
import Derived.Test.YtlmmbmhambkjlaaDoorRowFnPlaceText
import Derived.Test.YtlmmbmhambkjlaaDoorTie
import Derived.Test.YtlmmbmhambkjlaaDoorCards
import Derived.SevenTiedAt
namespace Go.Proofs.YtlmmbmhambkjlaaDoor
open Go
theorem fnPlaceTextCard_holds : Rows.FnPlaceTextCardSaid :=
  Claim7.holds_tied_plain_at .later [] [.data, .data, .data, .sentinel, .sentinel] true (true, "00e9f39a9d802ff9731fbc521aff168393e84db1dbae3090fcdad8445a10a7b2") true
    fnPlaceText_holds (fun _ h => by cases h) (by kernel_rfl) (fun _ h => by cases h) fnPlaceText_row_tie rfl ⟨rfl, rfl⟩ (by kernel_rfl) rfl
    (fun f fn hf hfn => by
      obtain rfl : f = 6 := Option.some.inj ((show Tryd.prog.funcNamed "loop.example/g00178/laws.FnPlaceText" = some 6 by kernel_rfl).symm.trans hf) |>.symm
      obtain rfl : fn = Tryd.f6 := (Option.some.inj (Tryd.func6.symm.trans hfn)).symm
      exact ⟨by kernel_rfl, fun j t ht => by
        rw [Tryd.params6] at ht
        have h3 : t = 27 := by
          have hm := List.mem_of_getElem? (show ([27] : List Nat)[j]? = some t by simpa using ht)
          simp at hm; omega
        rcases h3 with rfl
        · exact (show Tryd.prog.wantsStandIn 27 = false by kernel_rfl)⟩)
    (by kernel_rfl)
#print axioms fnPlaceTextCard_holds
end Go.Proofs.YtlmmbmhambkjlaaDoor
