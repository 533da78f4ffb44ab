/- The tied card of FnExactPlaceRead. Conditions: none beyond the given statement. -/
import Derived.Test.YtlmmbmhambkjlaaDoorRowFnExactPlaceRead
import Derived.Test.YtlmmbmhambkjlaaDoorTie
import Derived.Test.YtlmmbmhambkjlaaDoorCards
import Derived.SevenTiedAt
namespace Go.Proofs.YtlmmbmhambkjlaaDoor
open Go
theorem fnExactPlaceReadCard_holds : Rows.FnExactPlaceReadCardSaid :=
  Claim7.holds_tied_plain_at .later [] [.data, .data, .data, .sentinel, .sentinel] true (true, "00e9f39a9d802ff9731fbc521aff168393e84db1dbae3090fcdad8445a10a7b2") true
    fnExactPlaceRead_holds (fun _ h => by cases h) (by kernel_rfl) (fun _ h => by cases h) fnExactPlaceRead_row_tie rfl ⟨rfl, rfl⟩ (by kernel_rfl) rfl
    (fun f fn hf hfn => by
      obtain rfl : f = 4 := Option.some.inj ((show Tryd.prog.funcNamed "loop.example/g00178/laws.FnExactPlaceRead" = some 4 by kernel_rfl).symm.trans hf) |>.symm
      obtain rfl : fn = Tryd.f4 := (Option.some.inj (Tryd.func4.symm.trans hfn)).symm
      exact ⟨by kernel_rfl, fun j t ht => by
        rw [Tryd.params4] at ht
        have h3 : t = 9 := by
          have hm := List.mem_of_getElem? (show ([9] : List Nat)[j]? = some t by simpa using ht)
          simp at hm; omega
        rcases h3 with rfl
        · exact (show Tryd.prog.wantsStandIn 9 = false by kernel_rfl)⟩)
    (by kernel_rfl)
#print axioms fnExactPlaceReadCard_holds
end Go.Proofs.YtlmmbmhambkjlaaDoor
