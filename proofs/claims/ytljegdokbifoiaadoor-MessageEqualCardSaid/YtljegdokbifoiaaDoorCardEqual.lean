/- The card of MessageEqual: the row, its listed variables tied to the program's text. No condition. -/
import Derived.Test.YtljegdokbifoiaaDoorRowEqual
import Derived.Test.YtljegdokbifoiaaDoorCards
import Derived.Test.YtljegdokbifoiaaDoorTie
import Derived.SevenTiedAt
namespace Go.Proofs.YtljegdokbifoiaaDoor
open Go

set_option maxRecDepth 100000 in
theorem messageEqual_card : Rows.MessageEqualCardSaid :=
  Claim7.holds_tied_plain_at .later [] [.data, .data, .data] true (true, "8c31a6cacf3043307e06e1cbf9cac3bcf4e260561d9cf81cd5420aa635aca442") false
    Af.messageEqual_over (fun _ h => by cases h) (by kernel_rfl) (fun _ h => by cases h) messageEqual_row_tie rfl ⟨rfl, rfl⟩ (by kernel_rfl) rfl
    (fun f fn hf hfn => by
      obtain rfl : f = 6 := Option.some.inj ((show Tryd.prog.funcNamed "giro/girolaw18.MessageEqual" = some 6 by kernel_rfl).symm.trans hf) |>.symm
      obtain rfl : fn = Tryd.f6 := (Option.some.inj (Tryd.func6.symm.trans hfn)).symm
      exact ⟨by kernel_rfl, fun j t ht => by
        rw [Tryd.params6] at ht
        have hm : t ∈ [42] := by simpa using Array.mem_of_getElem? ht
        have hall : ([42].all fun u => !Tryd.prog.wantsStandIn u) = true := by kernel_rfl
        exact (show Tryd.prog.wantsStandIn t = false by simpa using List.all_eq_true.1 hall t hm)⟩)
    (by kernel_rfl)
#print axioms messageEqual_card
end Go.Proofs.YtljegdokbifoiaaDoor
