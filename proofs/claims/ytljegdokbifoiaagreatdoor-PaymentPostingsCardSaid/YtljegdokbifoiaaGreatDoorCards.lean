/-
  DERIVED. GIVEN WITH THE SEED: THE CARDS: each row of YtljegdokbifoiaaGreatDoorRows.lean that lists a variable, with what it lists TIED to the program's text (the seventh form; the later family's looks); each row that meets fmt, with fmt's text TOLD by the authors' own Lean function (tested against real Go, not proved from fmt's source: count such statements apart). THE CARD IS WHAT COUNTS. Prove the row's statement (the work); the ties are given (YtljegdokbifoiaaGreatDoorTie.lean); close each card by the builder's one call (the guide's Derived/Test/ToyasCard.lean, 'card_holds'). Laid BY PROGRAM, IN A SANDBOX (cutbox-door.mjs). By AI agents, Wed Nov 11 2026. No macro, syntax, notation, axiom, sorry.
-/
import Derived.Test.YtljegdokbifoiaaGreatDoorRows
import GoSem.ClaimSeven
namespace Go.Proofs.YtljegdokbifoiaaGreatDoor
namespace Rows

/-- THE TIED CARD OF 'girolaw38.PaymentNetting'. -/
def paymentNettingCard : Claim7 := { stood := { row := paymentNettingRow, standIns := [], harness := (true, "bced64a9d5401a8b6203d1ef74bd45ae092182d81dda5194f0707d968b82e028"), looks := false }, kinds := [], alts := [], laidByText := true, laidKinds := [.data, .data, .data], laidTests := true, laidLooks := .later }
def PaymentNettingCardSaid : Prop := Claim7.holds Tryz.pinned (.plain (OpenSpec.ofChange paymentNettingSpec)) paymentNettingCard

/-- THE TIED CARD OF 'girolaw38.PaymentItem'. -/
def paymentItemCard : Claim7 := { stood := { row := paymentItemRow, standIns := [], harness := (true, "bced64a9d5401a8b6203d1ef74bd45ae092182d81dda5194f0707d968b82e028"), looks := false }, kinds := [], alts := [], laidByText := true, laidKinds := [.data, .data, .data], laidTests := true, laidLooks := .later }
def PaymentItemCardSaid : Prop := Claim7.holds Tryz.pinned (.plain (OpenSpec.ofChange paymentItemSpec)) paymentItemCard

/-- THE TIED CARD OF 'girolaw38.PaymentPairs'. -/
def paymentPairsCard : Claim7 := { stood := { row := paymentPairsRow, standIns := [], harness := (true, "bced64a9d5401a8b6203d1ef74bd45ae092182d81dda5194f0707d968b82e028"), looks := false }, kinds := [], alts := [], laidByText := true, laidKinds := [.data, .data, .data], laidTests := true, laidLooks := .later }
def PaymentPairsCardSaid : Prop := Claim7.holds Tryz.pinned (.plain (OpenSpec.ofChange paymentPairsSpec)) paymentPairsCard

/-- THE TIED CARD OF 'girolaw38.PaymentFunds'. -/
def paymentFundsCard : Claim7 := { stood := { row := paymentFundsRow, standIns := [], harness := (true, "bced64a9d5401a8b6203d1ef74bd45ae092182d81dda5194f0707d968b82e028"), looks := false }, kinds := [], alts := [], laidByText := true, laidKinds := [.data, .data, .data], laidTests := true, laidLooks := .later }
def PaymentFundsCardSaid : Prop := Claim7.holds Tryz.pinned (.plain (OpenSpec.ofChange paymentFundsSpec)) paymentFundsCard

/-- THE TIED CARD OF 'girolaw38.PaymentNeeds'. -/
def paymentNeedsCard : Claim7 := { stood := { row := paymentNeedsRow, standIns := [], harness := (true, "bced64a9d5401a8b6203d1ef74bd45ae092182d81dda5194f0707d968b82e028"), looks := false }, kinds := [], alts := [], laidByText := true, laidKinds := [.data, .data, .data], laidTests := true, laidLooks := .later }
def PaymentNeedsCardSaid : Prop := Claim7.holds Tryz.pinned (.plain (OpenSpec.ofChange paymentNeedsSpec)) paymentNeedsCard

/-- THE TIED CARD OF 'girolaw38.PaymentReturn'. -/
def paymentReturnCard : Claim7 := { stood := { row := paymentReturnRow, standIns := [], harness := (true, "bced64a9d5401a8b6203d1ef74bd45ae092182d81dda5194f0707d968b82e028"), looks := false }, kinds := [], alts := [], laidByText := true, laidKinds := [.data, .data, .data], laidTests := true, laidLooks := .later }
def PaymentReturnCardSaid : Prop := Claim7.holds Tryz.pinned (.plain (OpenSpec.ofChange paymentReturnSpec)) paymentReturnCard

/-- THE TIED CARD OF 'girolaw38.PaymentPostings'. -/
def paymentPostingsCard : Claim7 := { stood := { row := paymentPostingsRow, standIns := [], harness := (true, "bced64a9d5401a8b6203d1ef74bd45ae092182d81dda5194f0707d968b82e028"), looks := false }, kinds := [], alts := [], laidByText := true, laidKinds := [.data, .data, .data], laidTests := true, laidLooks := .later }
def PaymentPostingsCardSaid : Prop := Claim7.holds Tryz.pinned (.plain (OpenSpec.ofChange paymentPostingsSpec)) paymentPostingsCard

/-- THE TIED CARD OF 'girolaw38.PaymentPositions'. -/
def paymentPositionsCard : Claim7 := { stood := { row := paymentPositionsRow, standIns := [], harness := (true, "bced64a9d5401a8b6203d1ef74bd45ae092182d81dda5194f0707d968b82e028"), looks := false }, kinds := [], alts := [], laidByText := true, laidKinds := [.data, .data, .data], laidTests := true, laidLooks := .later }
def PaymentPositionsCardSaid : Prop := Claim7.holds Tryz.pinned (.plain (OpenSpec.ofChange paymentPositionsSpec)) paymentPositionsCard

/-- THE TIED CARD OF 'girolaw38.PaymentLimits'. -/
def paymentLimitsCard : Claim7 := { stood := { row := paymentLimitsRow, standIns := [], harness := (true, "bced64a9d5401a8b6203d1ef74bd45ae092182d81dda5194f0707d968b82e028"), looks := false }, kinds := [], alts := [], laidByText := true, laidKinds := [.data, .data, .data], laidTests := true, laidLooks := .later }
def PaymentLimitsCardSaid : Prop := Claim7.holds Tryz.pinned (.plain (OpenSpec.ofChange paymentLimitsSpec)) paymentLimitsCard

/-- THE SECOND FORM's CARD OF 'girolaw38.PaymentNetting'. -/
def paymentNettingUptoCard : Claim7 := { stood := { row := paymentNettingUptoRow, standIns := [], harness := (true, "bced64a9d5401a8b6203d1ef74bd45ae092182d81dda5194f0707d968b82e028"), looks := false }, kinds := [], alts := [], laidByText := true, laidKinds := [.data, .data, .data], laidTests := true, laidLooks := .later }
def PaymentNettingUptoCardSaid : Prop := Claim7.holds Tryz.pinned (.plain (OpenSpec.upto paymentNettingSpec)) paymentNettingUptoCard

/-- THE SECOND FORM's CARD OF 'girolaw38.PaymentItem'. -/
def paymentItemUptoCard : Claim7 := { stood := { row := paymentItemUptoRow, standIns := [], harness := (true, "bced64a9d5401a8b6203d1ef74bd45ae092182d81dda5194f0707d968b82e028"), looks := false }, kinds := [], alts := [], laidByText := true, laidKinds := [.data, .data, .data], laidTests := true, laidLooks := .later }
def PaymentItemUptoCardSaid : Prop := Claim7.holds Tryz.pinned (.plain (OpenSpec.upto paymentItemSpec)) paymentItemUptoCard

/-- THE SECOND FORM's CARD OF 'girolaw38.PaymentPairs'. -/
def paymentPairsUptoCard : Claim7 := { stood := { row := paymentPairsUptoRow, standIns := [], harness := (true, "bced64a9d5401a8b6203d1ef74bd45ae092182d81dda5194f0707d968b82e028"), looks := false }, kinds := [], alts := [], laidByText := true, laidKinds := [.data, .data, .data], laidTests := true, laidLooks := .later }
def PaymentPairsUptoCardSaid : Prop := Claim7.holds Tryz.pinned (.plain (OpenSpec.upto paymentPairsSpec)) paymentPairsUptoCard

/-- THE SECOND FORM's CARD OF 'girolaw38.PaymentFunds'. -/
def paymentFundsUptoCard : Claim7 := { stood := { row := paymentFundsUptoRow, standIns := [], harness := (true, "bced64a9d5401a8b6203d1ef74bd45ae092182d81dda5194f0707d968b82e028"), looks := false }, kinds := [], alts := [], laidByText := true, laidKinds := [.data, .data, .data], laidTests := true, laidLooks := .later }
def PaymentFundsUptoCardSaid : Prop := Claim7.holds Tryz.pinned (.plain (OpenSpec.upto paymentFundsSpec)) paymentFundsUptoCard

/-- THE SECOND FORM's CARD OF 'girolaw38.PaymentNeeds'. -/
def paymentNeedsUptoCard : Claim7 := { stood := { row := paymentNeedsUptoRow, standIns := [], harness := (true, "bced64a9d5401a8b6203d1ef74bd45ae092182d81dda5194f0707d968b82e028"), looks := false }, kinds := [], alts := [], laidByText := true, laidKinds := [.data, .data, .data], laidTests := true, laidLooks := .later }
def PaymentNeedsUptoCardSaid : Prop := Claim7.holds Tryz.pinned (.plain (OpenSpec.upto paymentNeedsSpec)) paymentNeedsUptoCard

/-- THE SECOND FORM's CARD OF 'girolaw38.PaymentReturn'. -/
def paymentReturnUptoCard : Claim7 := { stood := { row := paymentReturnUptoRow, standIns := [], harness := (true, "bced64a9d5401a8b6203d1ef74bd45ae092182d81dda5194f0707d968b82e028"), looks := false }, kinds := [], alts := [], laidByText := true, laidKinds := [.data, .data, .data], laidTests := true, laidLooks := .later }
def PaymentReturnUptoCardSaid : Prop := Claim7.holds Tryz.pinned (.plain (OpenSpec.upto paymentReturnSpec)) paymentReturnUptoCard

/-- THE SECOND FORM's CARD OF 'girolaw38.PaymentPostings'. -/
def paymentPostingsUptoCard : Claim7 := { stood := { row := paymentPostingsUptoRow, standIns := [], harness := (true, "bced64a9d5401a8b6203d1ef74bd45ae092182d81dda5194f0707d968b82e028"), looks := false }, kinds := [], alts := [], laidByText := true, laidKinds := [.data, .data, .data], laidTests := true, laidLooks := .later }
def PaymentPostingsUptoCardSaid : Prop := Claim7.holds Tryz.pinned (.plain (OpenSpec.upto paymentPostingsSpec)) paymentPostingsUptoCard

/-- THE SECOND FORM's CARD OF 'girolaw38.PaymentPositions'. -/
def paymentPositionsUptoCard : Claim7 := { stood := { row := paymentPositionsUptoRow, standIns := [], harness := (true, "bced64a9d5401a8b6203d1ef74bd45ae092182d81dda5194f0707d968b82e028"), looks := false }, kinds := [], alts := [], laidByText := true, laidKinds := [.data, .data, .data], laidTests := true, laidLooks := .later }
def PaymentPositionsUptoCardSaid : Prop := Claim7.holds Tryz.pinned (.plain (OpenSpec.upto paymentPositionsSpec)) paymentPositionsUptoCard

/-- THE SECOND FORM's CARD OF 'girolaw38.PaymentLimits'. -/
def paymentLimitsUptoCard : Claim7 := { stood := { row := paymentLimitsUptoRow, standIns := [], harness := (true, "bced64a9d5401a8b6203d1ef74bd45ae092182d81dda5194f0707d968b82e028"), looks := false }, kinds := [], alts := [], laidByText := true, laidKinds := [.data, .data, .data], laidTests := true, laidLooks := .later }
def PaymentLimitsUptoCardSaid : Prop := Claim7.holds Tryz.pinned (.plain (OpenSpec.upto paymentLimitsSpec)) paymentLimitsUptoCard
end Rows
end Go.Proofs.YtljegdokbifoiaaGreatDoor
