/-
  DERIVED. GIVEN WITH THE SEED: THE CARDS: each row of YtljegdokbifoiaaDoorRows.lean that lists a variable, with what it lists TIED to the program's text (the seventh form; the later family's looks); each row that meets fmt, with fmt's text TOLD by the authors' own Lean function (tested against real Go, not proved from fmt's source: count such statements apart). THE CARD IS WHAT COUNTS. Prove the row's statement (the work); the ties are given (YtljegdokbifoiaaDoorTie.lean); close each card by the builder's one call (the guide's Derived/Test/ToyasCard.lean, 'card_holds'). Laid BY PROGRAM, IN A SANDBOX (cutbox-door.mjs). By AI agents, Wed Nov 11 2026. No macro, syntax, notation, axiom, sorry.
-/
import Derived.Test.YtljegdokbifoiaaDoorRows
import GoSem.ClaimSeven
namespace Go.Proofs.YtljegdokbifoiaaDoor
namespace Rows

/-- THE TIED CARD OF 'girolaw18.MessageCheck'. -/
def messageCheckCard : Claim7 := { stood := { row := messageCheckRow, standIns := [], harness := (true, "8c31a6cacf3043307e06e1cbf9cac3bcf4e260561d9cf81cd5420aa635aca442"), looks := false }, kinds := [], alts := [], laidByText := true, laidKinds := [.data, .data, .data], laidTests := true, laidLooks := .later }
def MessageCheckCardSaid : Prop := Claim7.holds Tryd.pinned (.plain (OpenSpec.ofChange messageCheckSpec)) messageCheckCard

/-- THE TIED CARD OF 'girolaw18.MessageSides'. -/
def messageSidesCard : Claim7 := { stood := { row := messageSidesRow, standIns := [], harness := (true, "8c31a6cacf3043307e06e1cbf9cac3bcf4e260561d9cf81cd5420aa635aca442"), looks := false }, kinds := [], alts := [], laidByText := true, laidKinds := [.data, .data, .data], laidTests := true, laidLooks := .later }
def MessageSidesCardSaid : Prop := Claim7.holds Tryd.pinned (.plain (OpenSpec.ofChange messageSidesSpec)) messageSidesCard

/-- THE TIED CARD OF 'girolaw18.MessageNames'. -/
def messageNamesCard : Claim7 := { stood := { row := messageNamesRow, standIns := [], harness := (true, "8c31a6cacf3043307e06e1cbf9cac3bcf4e260561d9cf81cd5420aa635aca442"), looks := false }, kinds := [], alts := [], laidByText := true, laidKinds := [.data, .data, .data, .widerDeep, .widerDeep, .widerDeep], laidTests := true, laidLooks := .later }
def MessageNamesCardSaid : Prop := Claim7.holds Tryd.pinned (.plain (OpenSpec.ofChange messageNamesSpec)) messageNamesCard

/-- THE TIED CARD OF 'girolaw18.MessageEqual'. -/
def messageEqualCard : Claim7 := { stood := { row := messageEqualRow, standIns := [], harness := (true, "8c31a6cacf3043307e06e1cbf9cac3bcf4e260561d9cf81cd5420aa635aca442"), looks := false }, kinds := [], alts := [], laidByText := true, laidKinds := [.data, .data, .data], laidTests := true, laidLooks := .later }
def MessageEqualCardSaid : Prop := Claim7.holds Tryd.pinned (.plain (OpenSpec.ofChange messageEqualSpec)) messageEqualCard

/-- THE TIED CARD OF 'girolaw18.MessageRequests'. -/
def messageRequestsCard : Claim7 := { stood := { row := messageRequestsRow, standIns := [], harness := (true, "8c31a6cacf3043307e06e1cbf9cac3bcf4e260561d9cf81cd5420aa635aca442"), looks := false }, kinds := [], alts := [], laidByText := true, laidKinds := [.data, .data, .data], laidTests := true, laidLooks := .later }
def MessageRequestsCardSaid : Prop := Claim7.holds Tryd.pinned (.plain (OpenSpec.ofChange messageRequestsSpec)) messageRequestsCard

/-- THE TIED CARD OF 'girolaw18.MessageApply'. -/
def messageApplyCard : Claim7 := { stood := { row := messageApplyRow, standIns := [], harness := (true, "8c31a6cacf3043307e06e1cbf9cac3bcf4e260561d9cf81cd5420aa635aca442"), looks := false }, kinds := [], alts := [], laidByText := true, laidKinds := [.data, .data, .data], laidTests := true, laidLooks := .later }
def MessageApplyCardSaid : Prop := Claim7.holds Tryd.pinned (.plain (OpenSpec.ofChange messageApplySpec)) messageApplyCard

/-- THE TIED CARD OF 'girolaw18.MessageApplyTwice'. -/
def messageApplyTwiceCard : Claim7 := { stood := { row := messageApplyTwiceRow, standIns := [], harness := (true, "8c31a6cacf3043307e06e1cbf9cac3bcf4e260561d9cf81cd5420aa635aca442"), looks := false }, kinds := [], alts := [], laidByText := true, laidKinds := [.data, .data, .data], laidTests := true, laidLooks := .later }
def MessageApplyTwiceCardSaid : Prop := Claim7.holds Tryd.pinned (.plain (OpenSpec.ofChange messageApplyTwiceSpec)) messageApplyTwiceCard

/-- THE TIED CARD OF 'girolaw18.MessageNormalize'. -/
def messageNormalizeCard : Claim7 := { stood := { row := messageNormalizeRow, standIns := [], harness := (true, "8c31a6cacf3043307e06e1cbf9cac3bcf4e260561d9cf81cd5420aa635aca442"), looks := false }, kinds := [], alts := [], laidByText := true, laidKinds := [.data, .data, .data], laidTests := true, laidLooks := .later }
def MessageNormalizeCardSaid : Prop := Claim7.holds Tryd.pinned (.plain (OpenSpec.ofChange messageNormalizeSpec)) messageNormalizeCard

/-- THE TIED CARD OF 'girolaw18.MessageClones'. -/
def messageClonesCard : Claim7 := { stood := { row := messageClonesRow, standIns := [], harness := (true, "8c31a6cacf3043307e06e1cbf9cac3bcf4e260561d9cf81cd5420aa635aca442"), looks := false }, kinds := [], alts := [], laidByText := true, laidKinds := [.data, .data, .data], laidTests := true, laidLooks := .later }
def MessageClonesCardSaid : Prop := Claim7.holds Tryd.pinned (.plain (OpenSpec.ofChange messageClonesSpec)) messageClonesCard

/-- THE SECOND FORM's CARD OF 'girolaw18.MessageCheck'. -/
def messageCheckUptoCard : Claim7 := { stood := { row := messageCheckUptoRow, standIns := [], harness := (true, "8c31a6cacf3043307e06e1cbf9cac3bcf4e260561d9cf81cd5420aa635aca442"), looks := false }, kinds := [], alts := [], laidByText := true, laidKinds := [.data, .data, .data], laidTests := true, laidLooks := .later }
def MessageCheckUptoCardSaid : Prop := Claim7.holds Tryd.pinned (.plain (OpenSpec.upto messageCheckSpec)) messageCheckUptoCard

/-- THE SECOND FORM's CARD OF 'girolaw18.MessageSides'. -/
def messageSidesUptoCard : Claim7 := { stood := { row := messageSidesUptoRow, standIns := [], harness := (true, "8c31a6cacf3043307e06e1cbf9cac3bcf4e260561d9cf81cd5420aa635aca442"), looks := false }, kinds := [], alts := [], laidByText := true, laidKinds := [.data, .data, .data], laidTests := true, laidLooks := .later }
def MessageSidesUptoCardSaid : Prop := Claim7.holds Tryd.pinned (.plain (OpenSpec.upto messageSidesSpec)) messageSidesUptoCard

/-- THE SECOND FORM's CARD OF 'girolaw18.MessageNames'. -/
def messageNamesUptoCard : Claim7 := { stood := { row := messageNamesUptoRow, standIns := [], harness := (true, "8c31a6cacf3043307e06e1cbf9cac3bcf4e260561d9cf81cd5420aa635aca442"), looks := false }, kinds := [], alts := [], laidByText := true, laidKinds := [.data, .data, .data, .widerDeep, .widerDeep, .widerDeep], laidTests := true, laidLooks := .later }
def MessageNamesUptoCardSaid : Prop := Claim7.holds Tryd.pinned (.plain (OpenSpec.upto messageNamesSpec)) messageNamesUptoCard

/-- THE SECOND FORM's CARD OF 'girolaw18.MessageEqual'. -/
def messageEqualUptoCard : Claim7 := { stood := { row := messageEqualUptoRow, standIns := [], harness := (true, "8c31a6cacf3043307e06e1cbf9cac3bcf4e260561d9cf81cd5420aa635aca442"), looks := false }, kinds := [], alts := [], laidByText := true, laidKinds := [.data, .data, .data], laidTests := true, laidLooks := .later }
def MessageEqualUptoCardSaid : Prop := Claim7.holds Tryd.pinned (.plain (OpenSpec.upto messageEqualSpec)) messageEqualUptoCard

/-- THE SECOND FORM's CARD OF 'girolaw18.MessageRequests'. -/
def messageRequestsUptoCard : Claim7 := { stood := { row := messageRequestsUptoRow, standIns := [], harness := (true, "8c31a6cacf3043307e06e1cbf9cac3bcf4e260561d9cf81cd5420aa635aca442"), looks := false }, kinds := [], alts := [], laidByText := true, laidKinds := [.data, .data, .data], laidTests := true, laidLooks := .later }
def MessageRequestsUptoCardSaid : Prop := Claim7.holds Tryd.pinned (.plain (OpenSpec.upto messageRequestsSpec)) messageRequestsUptoCard

/-- THE SECOND FORM's CARD OF 'girolaw18.MessageApply'. -/
def messageApplyUptoCard : Claim7 := { stood := { row := messageApplyUptoRow, standIns := [], harness := (true, "8c31a6cacf3043307e06e1cbf9cac3bcf4e260561d9cf81cd5420aa635aca442"), looks := false }, kinds := [], alts := [], laidByText := true, laidKinds := [.data, .data, .data], laidTests := true, laidLooks := .later }
def MessageApplyUptoCardSaid : Prop := Claim7.holds Tryd.pinned (.plain (OpenSpec.upto messageApplySpec)) messageApplyUptoCard

/-- THE SECOND FORM's CARD OF 'girolaw18.MessageApplyTwice'. -/
def messageApplyTwiceUptoCard : Claim7 := { stood := { row := messageApplyTwiceUptoRow, standIns := [], harness := (true, "8c31a6cacf3043307e06e1cbf9cac3bcf4e260561d9cf81cd5420aa635aca442"), looks := false }, kinds := [], alts := [], laidByText := true, laidKinds := [.data, .data, .data], laidTests := true, laidLooks := .later }
def MessageApplyTwiceUptoCardSaid : Prop := Claim7.holds Tryd.pinned (.plain (OpenSpec.upto messageApplyTwiceSpec)) messageApplyTwiceUptoCard

/-- THE SECOND FORM's CARD OF 'girolaw18.MessageNormalize'. -/
def messageNormalizeUptoCard : Claim7 := { stood := { row := messageNormalizeUptoRow, standIns := [], harness := (true, "8c31a6cacf3043307e06e1cbf9cac3bcf4e260561d9cf81cd5420aa635aca442"), looks := false }, kinds := [], alts := [], laidByText := true, laidKinds := [.data, .data, .data], laidTests := true, laidLooks := .later }
def MessageNormalizeUptoCardSaid : Prop := Claim7.holds Tryd.pinned (.plain (OpenSpec.upto messageNormalizeSpec)) messageNormalizeUptoCard

/-- THE SECOND FORM's CARD OF 'girolaw18.MessageClones'. -/
def messageClonesUptoCard : Claim7 := { stood := { row := messageClonesUptoRow, standIns := [], harness := (true, "8c31a6cacf3043307e06e1cbf9cac3bcf4e260561d9cf81cd5420aa635aca442"), looks := false }, kinds := [], alts := [], laidByText := true, laidKinds := [.data, .data, .data], laidTests := true, laidLooks := .later }
def MessageClonesUptoCardSaid : Prop := Claim7.holds Tryd.pinned (.plain (OpenSpec.upto messageClonesSpec)) messageClonesUptoCard
end Rows
end Go.Proofs.YtljegdokbifoiaaDoor
