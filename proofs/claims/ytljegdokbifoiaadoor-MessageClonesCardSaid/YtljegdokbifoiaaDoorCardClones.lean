/- The card of MessageClones: the row, its listed variables tied to the program's text. No condition. -/
import Derived.Test.YtljegdokbifoiaaDoorRowClones
import Derived.Test.YtljegdokbifoiaaDoorCards
import Derived.Test.YtljegdokbifoiaaDoorTie
import Derived.SevenTiedAt
namespace Go.Proofs.YtljegdokbifoiaaDoor
open Go

set_option maxRecDepth 100000 in
theorem messageClones_card : Rows.MessageClonesCardSaid :=
  Claim7.holds_tied_plain_at .later [] [.data, .data, .data] true (true, "8c31a6cacf3043307e06e1cbf9cac3bcf4e260561d9cf81cd5420aa635aca442") false
    Af.messageClones_over (fun _ h => by cases h) (by kernel_rfl) (fun _ h => by cases h) messageClones_row_tie rfl ⟨rfl, rfl⟩ (by kernel_rfl) rfl
    (fun f fn hf hfn => by
      obtain rfl : f = 11 := Option.some.inj ((show Tryd.prog.funcNamed "giro/girolaw18.MessageClones" = some 11 by kernel_rfl).symm.trans hf) |>.symm
      obtain rfl : fn = Tryd.f11 := (Option.some.inj (Tryd.func11.symm.trans hfn)).symm
      exact ⟨by kernel_rfl, fun j t ht => by
        rw [Tryd.params11] at ht
        have hm : t ∈ [24, 40] := by simpa using Array.mem_of_getElem? ht
        have hall : ([24, 40].all fun u => !Tryd.prog.wantsStandIn u) = true := by kernel_rfl
        exact (show Tryd.prog.wantsStandIn t = false by simpa using List.all_eq_true.1 hall t hm)⟩)
    (by kernel_rfl)
#print axioms messageClones_card
end Go.Proofs.YtljegdokbifoiaaDoor
