/- The card of MessageNormalize: the row, its listed variables tied to the program's text. No condition. -/
import Derived.Test.YtljegdokbifoiaaDoorRowNormalize
import Derived.Test.YtljegdokbifoiaaDoorCards
import Derived.Test.YtljegdokbifoiaaDoorTie
import Derived.SevenTiedAt
namespace Go.Proofs.YtljegdokbifoiaaDoor
open Go

set_option maxRecDepth 100000 in
theorem messageNormalize_card : Rows.MessageNormalizeCardSaid :=
  Claim7.holds_tied_plain_at .later [] [.data, .data, .data] true (true, "8c31a6cacf3043307e06e1cbf9cac3bcf4e260561d9cf81cd5420aa635aca442") false
    Af.messageNormalize_over (fun _ h => by cases h) (by kernel_rfl) (fun _ h => by cases h) messageNormalize_row_tie rfl ⟨rfl, rfl⟩ (by kernel_rfl) rfl
    (fun f fn hf hfn => by
      obtain rfl : f = 10 := Option.some.inj ((show Tryd.prog.funcNamed "giro/girolaw18.MessageNormalize" = some 10 by kernel_rfl).symm.trans hf) |>.symm
      obtain rfl : fn = Tryd.f10 := (Option.some.inj (Tryd.func10.symm.trans hfn)).symm
      exact ⟨by kernel_rfl, fun j t ht => by
        rw [Tryd.params10] at ht
        have hm : t ∈ [24] := by simpa using Array.mem_of_getElem? ht
        have hall : ([24].all fun u => !Tryd.prog.wantsStandIn u) = true := by kernel_rfl
        exact (show Tryd.prog.wantsStandIn t = false by simpa using List.all_eq_true.1 hall t hm)⟩)
    (by kernel_rfl)
#print axioms messageNormalize_card
end Go.Proofs.YtljegdokbifoiaaDoor
