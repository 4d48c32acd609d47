/- The card of PaymentPostings: the row, its listed variables tied to the program's text. No condition. -/
import Derived.Test.YtljegdokbifoiaaGreatDoorZzRowPostings
import Derived.Test.YtljegdokbifoiaaGreatDoorCards
import Derived.Test.YtljegdokbifoiaaGreatDoorTie
import Derived.SevenTiedAt
namespace Go.Proofs.YtljegdokbifoiaaGreatDoor
open Go

set_option maxRecDepth 100000 in
theorem paymentPostings_card : Rows.PaymentPostingsCardSaid :=
  Claim7.holds_tied_plain_at .later [] [.data, .data, .data] true (true, "bced64a9d5401a8b6203d1ef74bd45ae092182d81dda5194f0707d968b82e028") false
    Af.paymentPostings_over (fun _ h => by cases h) (by kernel_rfl) (fun _ h => by cases h) paymentPostings_row_tie rfl ⟨rfl, rfl⟩ (by kernel_rfl) rfl
    (fun f fn hf hfn => by
      obtain rfl : f = 9 := Option.some.inj ((show Tryz.prog.funcNamed "giro/girolaw38.PaymentPostings" = some 9 by kernel_rfl).symm.trans hf) |>.symm
      obtain rfl : fn = Tryz.f9 := (Option.some.inj (Tryz.func9.symm.trans hfn)).symm
      exact ⟨by kernel_rfl, fun j t ht => by
        rw [Tryz.params9] at ht
        have hm : t ∈ [50] := by simpa using Array.mem_of_getElem? ht
        have hall : ([50].all fun u => !Tryz.prog.wantsStandIn u) = true := by kernel_rfl
        exact (show Tryz.prog.wantsStandIn t = false by simpa using List.all_eq_true.1 hall t hm)⟩)
    (by kernel_rfl)
#print axioms paymentPostings_card
end Go.Proofs.YtljegdokbifoiaaGreatDoor
