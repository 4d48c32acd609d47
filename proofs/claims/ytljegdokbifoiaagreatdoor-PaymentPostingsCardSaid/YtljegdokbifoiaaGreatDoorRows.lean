/-
  NARROWER THAN 'FOR EVERY INPUT', by the rows' own cells (each row's printed sentence says how): PaymentNetting: laid · PaymentItem: laid · PaymentPairs: laid · PaymentFunds: laid · PaymentNeeds: laid · PaymentReturn: laid · PaymentPostings: laid · PaymentPositions: laid · PaymentLimits: laid.
  DERIVED. THE GIVEN ROWS OF THIS SEAT. 9 by the template 'for every input the law returns true; each argument reads behind the call as it read before'; 0 by the template 'total and deterministic' (their statements: YtljegdokbifoiaaGreatDoorTotals.lean).
  GIVEN WITH THE SEED: the statements are not yours to turn. If you find one false, say at which input.
  Laid BY PROGRAM, IN A SANDBOX (cutbox-rows.mjs): the forced cells as the released guide's own fill.sh prints them over the translation 1d0d338f051cd73f… (all of the seat's roots in one cut). By AI agents, Wed Nov 11 2026. No macro, syntax, notation, axiom, sorry.
-/
import Derived.Test.YtljegdokbifoiaaGreatDoorChecked
import GoSem.Claim
import GoSem.ClaimJoined
import GoSem.ClaimMapViews
import Derived.JoinedTies
import Derived.KernelRfl
namespace Go.Proofs.YtljegdokbifoiaaGreatDoor
/- THE CELL 'sum', in the pinned program and in every row, IS THE sha256 OF THE DUMP (.gsa) THAT YtljegdokbifoiaaGreatDoorProg.lean LOADS. Nothing in Lean hashes anything: it is a label: what it is worth is what the hold of that sum in a sandbox is worth. -/
noncomputable def Tryz.pinned : Pinned := { name := "ytljegdokbifoiaagreatdoor", sum := "1d0d338f051cd73f4809302daffaf613b16706fd79c6ae14671c6fd8c6d4b601", checked := Tryz.checked }
namespace Rows
def none {H : Type} : Left H := { results := [], args := [] }

/- WHAT THE LISTED PACKAGE-LEVEL VARIABLES READ AS WHEN THE CALL BEGINS. Each datum BY PROGRAM (the guide's laid-datum.mjs) off the statement by which the dump's own 'gosem.cut.vars' lays the variable. In a bare row this is a premise. The card (YtljegdokbifoiaaGreatDoorCards.lean) ties it to the program's text. -/
def laid_math_bits_deBruijn32tab {H : Type} : DataW H := .agg [.lit (.int .u8 0), .lit (.int .u8 1), .lit (.int .u8 28), .lit (.int .u8 2), .lit (.int .u8 29), .lit (.int .u8 14), .lit (.int .u8 24), .lit (.int .u8 3), .lit (.int .u8 30), .lit (.int .u8 22), .lit (.int .u8 20), .lit (.int .u8 15), .lit (.int .u8 25), .lit (.int .u8 17), .lit (.int .u8 4), .lit (.int .u8 8), .lit (.int .u8 31), .lit (.int .u8 27), .lit (.int .u8 13), .lit (.int .u8 23), .lit (.int .u8 21), .lit (.int .u8 19), .lit (.int .u8 16), .lit (.int .u8 7), .lit (.int .u8 26), .lit (.int .u8 12), .lit (.int .u8 18), .lit (.int .u8 6), .lit (.int .u8 11), .lit (.int .u8 5), .lit (.int .u8 10), .lit (.int .u8 9)]
def laid_math_bits_deBruijn64tab {H : Type} : DataW H := .agg [.lit (.int .u8 0), .lit (.int .u8 1), .lit (.int .u8 56), .lit (.int .u8 2), .lit (.int .u8 57), .lit (.int .u8 49), .lit (.int .u8 28), .lit (.int .u8 3), .lit (.int .u8 61), .lit (.int .u8 58), .lit (.int .u8 42), .lit (.int .u8 50), .lit (.int .u8 38), .lit (.int .u8 29), .lit (.int .u8 17), .lit (.int .u8 4), .lit (.int .u8 62), .lit (.int .u8 47), .lit (.int .u8 59), .lit (.int .u8 36), .lit (.int .u8 45), .lit (.int .u8 43), .lit (.int .u8 51), .lit (.int .u8 22), .lit (.int .u8 53), .lit (.int .u8 39), .lit (.int .u8 33), .lit (.int .u8 30), .lit (.int .u8 24), .lit (.int .u8 18), .lit (.int .u8 12), .lit (.int .u8 5), .lit (.int .u8 63), .lit (.int .u8 55), .lit (.int .u8 48), .lit (.int .u8 27), .lit (.int .u8 60), .lit (.int .u8 41), .lit (.int .u8 37), .lit (.int .u8 16), .lit (.int .u8 46), .lit (.int .u8 35), .lit (.int .u8 44), .lit (.int .u8 21), .lit (.int .u8 52), .lit (.int .u8 32), .lit (.int .u8 23), .lit (.int .u8 11), .lit (.int .u8 54), .lit (.int .u8 26), .lit (.int .u8 40), .lit (.int .u8 15), .lit (.int .u8 34), .lit (.int .u8 20), .lit (.int .u8 31), .lit (.int .u8 10), .lit (.int .u8 25), .lit (.int .u8 14), .lit (.int .u8 19), .lit (.int .u8 9), .lit (.int .u8 13), .lit (.int .u8 8), .lit (.int .u8 7), .lit (.int .u8 6)]
def laid_internal_strconv_uint64pow10 {H : Type} : DataW H := .agg [.lit (.int .u64 1), .lit (.int .u64 10), .lit (.int .u64 100), .lit (.int .u64 1000), .lit (.int .u64 10000), .lit (.int .u64 100000), .lit (.int .u64 1000000), .lit (.int .u64 10000000), .lit (.int .u64 100000000), .lit (.int .u64 1000000000), .lit (.int .u64 10000000000), .lit (.int .u64 100000000000), .lit (.int .u64 1000000000000), .lit (.int .u64 10000000000000), .lit (.int .u64 100000000000000), .lit (.int .u64 1000000000000000), .lit (.int .u64 10000000000000000), .lit (.int .u64 100000000000000000), .lit (.int .u64 1000000000000000000), .lit (.int .u64 10000000000000000000)]

/-- 'girolaw38.PaymentNetting': WHATEVER THE INPUT: true; the input reads as it did. -/
def paymentNettingSpec : ChangeSpec := { name := "paymentNetting", fn := fun _ => fun
  | [d1, d2] => { results := [.lit (.bool true)], args := [d1, d2] }
  | _ => none }
def paymentNettingRow : OpenClaim := { program := "ytljegdokbifoiaagreatdoor", sum := "1d0d338f051cd73f4809302daffaf613b16706fd79c6ae14671c6fd8c6d4b601", func := "giro/girolaw38.PaymentNetting", spec := "paymentNetting", inPlace := ["internal/abi.NoEscape", "internal/bytealg.abigen_runtime_cmpstring"], unfollowed := true, recurses := true, named := ["internal/strconv.uint64pow10", "math/bits.deBruijn32tab", "math/bits.deBruijn64tab"], plainKeys := false, apart := false, laid := [("math/bits.deBruijn32tab", laid_math_bits_deBruijn32tab), ("math/bits.deBruijn64tab", laid_math_bits_deBruijn64tab), ("internal/strconv.uint64pow10", laid_internal_strconv_uint64pow10)] }
def PaymentNettingSaid : Prop := paymentNettingRow.holds Tryz.pinned (OpenSpec.ofChange paymentNettingSpec)

/-- ITS FALSE NEIGHBOUR: 'it returns false'. Refute it at one input. -/
def paymentNettingWrong : ChangeSpec := { name := "paymentNetting", fn := fun _ => fun
  | [d1, d2] => { results := [.lit (.bool false)], args := [d1, d2] }
  | _ => none }
def PaymentNettingWrongFalsely : Prop := paymentNettingRow.holds Tryz.pinned (OpenSpec.ofChange paymentNettingWrong)

/-- 'girolaw38.PaymentItem': WHATEVER THE INPUT: true; the input reads as it did. -/
def paymentItemSpec : ChangeSpec := { name := "paymentItem", fn := fun _ => fun
  | [d1, d2, d3, d4] => { results := [.lit (.bool true)], args := [d1, d2, d3, d4] }
  | _ => none }
def paymentItemRow : OpenClaim := { program := "ytljegdokbifoiaagreatdoor", sum := "1d0d338f051cd73f4809302daffaf613b16706fd79c6ae14671c6fd8c6d4b601", func := "giro/girolaw38.PaymentItem", spec := "paymentItem", inPlace := ["internal/abi.NoEscape", "internal/bytealg.abigen_runtime_cmpstring"], unfollowed := true, recurses := true, named := ["internal/strconv.uint64pow10", "math/bits.deBruijn32tab", "math/bits.deBruijn64tab"], plainKeys := false, apart := false, laid := [("math/bits.deBruijn32tab", laid_math_bits_deBruijn32tab), ("math/bits.deBruijn64tab", laid_math_bits_deBruijn64tab), ("internal/strconv.uint64pow10", laid_internal_strconv_uint64pow10)] }
def PaymentItemSaid : Prop := paymentItemRow.holds Tryz.pinned (OpenSpec.ofChange paymentItemSpec)

/-- ITS FALSE NEIGHBOUR: 'it returns false'. Refute it at one input. -/
def paymentItemWrong : ChangeSpec := { name := "paymentItem", fn := fun _ => fun
  | [d1, d2, d3, d4] => { results := [.lit (.bool false)], args := [d1, d2, d3, d4] }
  | _ => none }
def PaymentItemWrongFalsely : Prop := paymentItemRow.holds Tryz.pinned (OpenSpec.ofChange paymentItemWrong)

/-- 'girolaw38.PaymentPairs': WHATEVER THE INPUT: true; the input reads as it did. -/
def paymentPairsSpec : ChangeSpec := { name := "paymentPairs", fn := fun _ => fun
  | [d] => { results := [.lit (.bool true)], args := [d] }
  | _ => none }
def paymentPairsRow : OpenClaim := { program := "ytljegdokbifoiaagreatdoor", sum := "1d0d338f051cd73f4809302daffaf613b16706fd79c6ae14671c6fd8c6d4b601", func := "giro/girolaw38.PaymentPairs", spec := "paymentPairs", inPlace := ["internal/abi.NoEscape", "internal/bytealg.abigen_runtime_cmpstring"], unfollowed := true, recurses := true, named := ["internal/strconv.uint64pow10", "math/bits.deBruijn32tab", "math/bits.deBruijn64tab"], plainKeys := false, apart := false, laid := [("math/bits.deBruijn32tab", laid_math_bits_deBruijn32tab), ("math/bits.deBruijn64tab", laid_math_bits_deBruijn64tab), ("internal/strconv.uint64pow10", laid_internal_strconv_uint64pow10)] }
def PaymentPairsSaid : Prop := paymentPairsRow.holds Tryz.pinned (OpenSpec.ofChange paymentPairsSpec)

/-- ITS FALSE NEIGHBOUR: 'it returns false'. Refute it at one input. -/
def paymentPairsWrong : ChangeSpec := { name := "paymentPairs", fn := fun _ => fun
  | [d] => { results := [.lit (.bool false)], args := [d] }
  | _ => none }
def PaymentPairsWrongFalsely : Prop := paymentPairsRow.holds Tryz.pinned (OpenSpec.ofChange paymentPairsWrong)

/-- 'girolaw38.PaymentFunds': WHATEVER THE INPUT: true; the input reads as it did. -/
def paymentFundsSpec : ChangeSpec := { name := "paymentFunds", fn := fun _ => fun
  | [d1, d2] => { results := [.lit (.bool true)], args := [d1, d2] }
  | _ => none }
def paymentFundsRow : OpenClaim := { program := "ytljegdokbifoiaagreatdoor", sum := "1d0d338f051cd73f4809302daffaf613b16706fd79c6ae14671c6fd8c6d4b601", func := "giro/girolaw38.PaymentFunds", spec := "paymentFunds", inPlace := ["internal/abi.NoEscape", "internal/bytealg.abigen_runtime_cmpstring"], unfollowed := true, recurses := true, named := ["internal/strconv.uint64pow10", "math/bits.deBruijn32tab", "math/bits.deBruijn64tab"], plainKeys := false, apart := false, laid := [("math/bits.deBruijn32tab", laid_math_bits_deBruijn32tab), ("math/bits.deBruijn64tab", laid_math_bits_deBruijn64tab), ("internal/strconv.uint64pow10", laid_internal_strconv_uint64pow10)] }
def PaymentFundsSaid : Prop := paymentFundsRow.holds Tryz.pinned (OpenSpec.ofChange paymentFundsSpec)

/-- ITS FALSE NEIGHBOUR: 'it returns false'. Refute it at one input. -/
def paymentFundsWrong : ChangeSpec := { name := "paymentFunds", fn := fun _ => fun
  | [d1, d2] => { results := [.lit (.bool false)], args := [d1, d2] }
  | _ => none }
def PaymentFundsWrongFalsely : Prop := paymentFundsRow.holds Tryz.pinned (OpenSpec.ofChange paymentFundsWrong)

/-- 'girolaw38.PaymentNeeds': WHATEVER THE INPUT: true; the input reads as it did. -/
def paymentNeedsSpec : ChangeSpec := { name := "paymentNeeds", fn := fun _ => fun
  | [d] => { results := [.lit (.bool true)], args := [d] }
  | _ => none }
def paymentNeedsRow : OpenClaim := { program := "ytljegdokbifoiaagreatdoor", sum := "1d0d338f051cd73f4809302daffaf613b16706fd79c6ae14671c6fd8c6d4b601", func := "giro/girolaw38.PaymentNeeds", spec := "paymentNeeds", inPlace := ["internal/abi.NoEscape", "internal/bytealg.abigen_runtime_cmpstring"], unfollowed := true, recurses := true, named := ["internal/strconv.uint64pow10", "math/bits.deBruijn32tab", "math/bits.deBruijn64tab"], plainKeys := false, apart := false, laid := [("math/bits.deBruijn32tab", laid_math_bits_deBruijn32tab), ("math/bits.deBruijn64tab", laid_math_bits_deBruijn64tab), ("internal/strconv.uint64pow10", laid_internal_strconv_uint64pow10)] }
def PaymentNeedsSaid : Prop := paymentNeedsRow.holds Tryz.pinned (OpenSpec.ofChange paymentNeedsSpec)

/-- ITS FALSE NEIGHBOUR: 'it returns false'. Refute it at one input. -/
def paymentNeedsWrong : ChangeSpec := { name := "paymentNeeds", fn := fun _ => fun
  | [d] => { results := [.lit (.bool false)], args := [d] }
  | _ => none }
def PaymentNeedsWrongFalsely : Prop := paymentNeedsRow.holds Tryz.pinned (OpenSpec.ofChange paymentNeedsWrong)

/-- 'girolaw38.PaymentReturn': WHATEVER THE INPUT: true; the input reads as it did. -/
def paymentReturnSpec : ChangeSpec := { name := "paymentReturn", fn := fun _ => fun
  | [d1, d2, d3] => { results := [.lit (.bool true)], args := [d1, d2, d3] }
  | _ => none }
def paymentReturnRow : OpenClaim := { program := "ytljegdokbifoiaagreatdoor", sum := "1d0d338f051cd73f4809302daffaf613b16706fd79c6ae14671c6fd8c6d4b601", func := "giro/girolaw38.PaymentReturn", spec := "paymentReturn", inPlace := ["internal/abi.NoEscape", "internal/bytealg.abigen_runtime_cmpstring"], unfollowed := true, recurses := true, named := ["internal/strconv.uint64pow10", "math/bits.deBruijn32tab", "math/bits.deBruijn64tab"], plainKeys := false, apart := false, laid := [("math/bits.deBruijn32tab", laid_math_bits_deBruijn32tab), ("math/bits.deBruijn64tab", laid_math_bits_deBruijn64tab), ("internal/strconv.uint64pow10", laid_internal_strconv_uint64pow10)] }
def PaymentReturnSaid : Prop := paymentReturnRow.holds Tryz.pinned (OpenSpec.ofChange paymentReturnSpec)

/-- ITS FALSE NEIGHBOUR: 'it returns false'. Refute it at one input. -/
def paymentReturnWrong : ChangeSpec := { name := "paymentReturn", fn := fun _ => fun
  | [d1, d2, d3] => { results := [.lit (.bool false)], args := [d1, d2, d3] }
  | _ => none }
def PaymentReturnWrongFalsely : Prop := paymentReturnRow.holds Tryz.pinned (OpenSpec.ofChange paymentReturnWrong)

/-- 'girolaw38.PaymentPostings': WHATEVER THE INPUT: true; the input reads as it did. -/
def paymentPostingsSpec : ChangeSpec := { name := "paymentPostings", fn := fun _ => fun
  | [d] => { results := [.lit (.bool true)], args := [d] }
  | _ => none }
def paymentPostingsRow : OpenClaim := { program := "ytljegdokbifoiaagreatdoor", sum := "1d0d338f051cd73f4809302daffaf613b16706fd79c6ae14671c6fd8c6d4b601", func := "giro/girolaw38.PaymentPostings", spec := "paymentPostings", inPlace := ["internal/abi.NoEscape", "internal/bytealg.abigen_runtime_cmpstring"], unfollowed := true, recurses := true, named := ["internal/strconv.uint64pow10", "math/bits.deBruijn32tab", "math/bits.deBruijn64tab"], plainKeys := false, apart := false, laid := [("math/bits.deBruijn32tab", laid_math_bits_deBruijn32tab), ("math/bits.deBruijn64tab", laid_math_bits_deBruijn64tab), ("internal/strconv.uint64pow10", laid_internal_strconv_uint64pow10)] }
def PaymentPostingsSaid : Prop := paymentPostingsRow.holds Tryz.pinned (OpenSpec.ofChange paymentPostingsSpec)

/-- ITS FALSE NEIGHBOUR: 'it returns false'. Refute it at one input. -/
def paymentPostingsWrong : ChangeSpec := { name := "paymentPostings", fn := fun _ => fun
  | [d] => { results := [.lit (.bool false)], args := [d] }
  | _ => none }
def PaymentPostingsWrongFalsely : Prop := paymentPostingsRow.holds Tryz.pinned (OpenSpec.ofChange paymentPostingsWrong)

/-- 'girolaw38.PaymentPositions': WHATEVER THE INPUT: true; the input reads as it did. -/
def paymentPositionsSpec : ChangeSpec := { name := "paymentPositions", fn := fun _ => fun
  | [d] => { results := [.lit (.bool true)], args := [d] }
  | _ => none }
def paymentPositionsRow : OpenClaim := { program := "ytljegdokbifoiaagreatdoor", sum := "1d0d338f051cd73f4809302daffaf613b16706fd79c6ae14671c6fd8c6d4b601", func := "giro/girolaw38.PaymentPositions", spec := "paymentPositions", inPlace := ["internal/abi.NoEscape", "internal/bytealg.abigen_runtime_cmpstring"], unfollowed := true, recurses := true, named := ["internal/strconv.uint64pow10", "math/bits.deBruijn32tab", "math/bits.deBruijn64tab"], plainKeys := false, apart := false, laid := [("math/bits.deBruijn32tab", laid_math_bits_deBruijn32tab), ("math/bits.deBruijn64tab", laid_math_bits_deBruijn64tab), ("internal/strconv.uint64pow10", laid_internal_strconv_uint64pow10)] }
def PaymentPositionsSaid : Prop := paymentPositionsRow.holds Tryz.pinned (OpenSpec.ofChange paymentPositionsSpec)

/-- ITS FALSE NEIGHBOUR: 'it returns false'. Refute it at one input. -/
def paymentPositionsWrong : ChangeSpec := { name := "paymentPositions", fn := fun _ => fun
  | [d] => { results := [.lit (.bool false)], args := [d] }
  | _ => none }
def PaymentPositionsWrongFalsely : Prop := paymentPositionsRow.holds Tryz.pinned (OpenSpec.ofChange paymentPositionsWrong)

/-- 'girolaw38.PaymentLimits': WHATEVER THE INPUT: true; the input reads as it did. -/
def paymentLimitsSpec : ChangeSpec := { name := "paymentLimits", fn := fun _ => fun
  | [d1, d2] => { results := [.lit (.bool true)], args := [d1, d2] }
  | _ => none }
def paymentLimitsRow : OpenClaim := { program := "ytljegdokbifoiaagreatdoor", sum := "1d0d338f051cd73f4809302daffaf613b16706fd79c6ae14671c6fd8c6d4b601", func := "giro/girolaw38.PaymentLimits", spec := "paymentLimits", inPlace := ["internal/abi.NoEscape", "internal/bytealg.abigen_runtime_cmpstring"], unfollowed := true, recurses := true, named := ["internal/strconv.uint64pow10", "math/bits.deBruijn32tab", "math/bits.deBruijn64tab"], plainKeys := false, apart := false, laid := [("math/bits.deBruijn32tab", laid_math_bits_deBruijn32tab), ("math/bits.deBruijn64tab", laid_math_bits_deBruijn64tab), ("internal/strconv.uint64pow10", laid_internal_strconv_uint64pow10)] }
def PaymentLimitsSaid : Prop := paymentLimitsRow.holds Tryz.pinned (OpenSpec.ofChange paymentLimitsSpec)

/-- ITS FALSE NEIGHBOUR: 'it returns false'. Refute it at one input. -/
def paymentLimitsWrong : ChangeSpec := { name := "paymentLimits", fn := fun _ => fun
  | [d1, d2] => { results := [.lit (.bool false)], args := [d1, d2] }
  | _ => none }
def PaymentLimitsWrongFalsely : Prop := paymentLimitsRow.holds Tryz.pinned (OpenSpec.ofChange paymentLimitsWrong)

/- THE SECOND FORM. 'bulk': how many values and letters a reading holds, each counted each time it is reached (what is shared counts as often as it is met; a slice's spare places count too). A statement '..UptoSaid' is the law's where the arguments, and the package variables that the reading takes, are together of bulk at most 1048576: NARROWER than '..Said'. Prove '..Said' where nothing that the law and all that it calls make is longer than what came in: it says more and counts as full. Else prove '..UptoSaid'. A law counts once. -/
mutual
def uptoBulk {H : Type} : DataW H → Nat
  | .lit (.string bytes) => bytes.length + 1
  | .lit _ => 1
  | .nil => 1
  | .ptr d => uptoBulk d + 1
  | .slice elems spare => uptoBulkAll elems + uptoBulkAll spare + 1
  | .agg parts => uptoBulkAll parts + 1
  | .iface _ d => uptoBulk d + 1
  | .map entries => uptoBulkEntries entries + 1
  | .held _ => 1
def uptoBulkAll {H : Type} : List (DataW H) → Nat
  | [] => 0
  | d :: r => uptoBulk d + uptoBulkAll r
def uptoBulkEntries {H : Type} : List (Lit × DataW H) → Nat
  | [] => 0
  | x :: r => uptoBulkEntry x + uptoBulkEntries r
def uptoBulkEntry {H : Type} : Lit × DataW H → Nat
  | (.string bytes, d) => bytes.length + uptoBulk d + 1
  | (_, d) => uptoBulk d + 1
 end
def uptoSmall : (H : Type) → List (DataW H) → Bool := fun _ ds => decide (uptoBulkAll ds ≤ 1048576)
def OpenSpec.upto (s : _root_.Go.ChangeSpec) : _root_.Go.OpenSpec := { _root_.Go.OpenSpec.ofChange s with cond := some uptoSmall }

/-- 'girolaw38.PaymentNetting', WHERE WHAT IT READS IS OF BULK AT MOST 1048576: true; the input reads as it did. -/
def paymentNettingUptoRow : OpenClaim := { program := "ytljegdokbifoiaagreatdoor", sum := "1d0d338f051cd73f4809302daffaf613b16706fd79c6ae14671c6fd8c6d4b601", func := "giro/girolaw38.PaymentNetting", spec := "paymentNetting", inPlace := ["internal/abi.NoEscape", "internal/bytealg.abigen_runtime_cmpstring"], unfollowed := true, recurses := true, named := ["internal/strconv.uint64pow10", "math/bits.deBruijn32tab", "math/bits.deBruijn64tab"], plainKeys := false, apart := false, laid := [("math/bits.deBruijn32tab", laid_math_bits_deBruijn32tab), ("math/bits.deBruijn64tab", laid_math_bits_deBruijn64tab), ("internal/strconv.uint64pow10", laid_internal_strconv_uint64pow10)], narrowed := true }
def PaymentNettingUptoSaid : Prop := paymentNettingUptoRow.holds Tryz.pinned (OpenSpec.upto paymentNettingSpec)

/-- 'girolaw38.PaymentItem', WHERE WHAT IT READS IS OF BULK AT MOST 1048576: true; the input reads as it did. -/
def paymentItemUptoRow : OpenClaim := { program := "ytljegdokbifoiaagreatdoor", sum := "1d0d338f051cd73f4809302daffaf613b16706fd79c6ae14671c6fd8c6d4b601", func := "giro/girolaw38.PaymentItem", spec := "paymentItem", inPlace := ["internal/abi.NoEscape", "internal/bytealg.abigen_runtime_cmpstring"], unfollowed := true, recurses := true, named := ["internal/strconv.uint64pow10", "math/bits.deBruijn32tab", "math/bits.deBruijn64tab"], plainKeys := false, apart := false, laid := [("math/bits.deBruijn32tab", laid_math_bits_deBruijn32tab), ("math/bits.deBruijn64tab", laid_math_bits_deBruijn64tab), ("internal/strconv.uint64pow10", laid_internal_strconv_uint64pow10)], narrowed := true }
def PaymentItemUptoSaid : Prop := paymentItemUptoRow.holds Tryz.pinned (OpenSpec.upto paymentItemSpec)

/-- 'girolaw38.PaymentPairs', WHERE WHAT IT READS IS OF BULK AT MOST 1048576: true; the input reads as it did. -/
def paymentPairsUptoRow : OpenClaim := { program := "ytljegdokbifoiaagreatdoor", sum := "1d0d338f051cd73f4809302daffaf613b16706fd79c6ae14671c6fd8c6d4b601", func := "giro/girolaw38.PaymentPairs", spec := "paymentPairs", inPlace := ["internal/abi.NoEscape", "internal/bytealg.abigen_runtime_cmpstring"], unfollowed := true, recurses := true, named := ["internal/strconv.uint64pow10", "math/bits.deBruijn32tab", "math/bits.deBruijn64tab"], plainKeys := false, apart := false, laid := [("math/bits.deBruijn32tab", laid_math_bits_deBruijn32tab), ("math/bits.deBruijn64tab", laid_math_bits_deBruijn64tab), ("internal/strconv.uint64pow10", laid_internal_strconv_uint64pow10)], narrowed := true }
def PaymentPairsUptoSaid : Prop := paymentPairsUptoRow.holds Tryz.pinned (OpenSpec.upto paymentPairsSpec)

/-- 'girolaw38.PaymentFunds', WHERE WHAT IT READS IS OF BULK AT MOST 1048576: true; the input reads as it did. -/
def paymentFundsUptoRow : OpenClaim := { program := "ytljegdokbifoiaagreatdoor", sum := "1d0d338f051cd73f4809302daffaf613b16706fd79c6ae14671c6fd8c6d4b601", func := "giro/girolaw38.PaymentFunds", spec := "paymentFunds", inPlace := ["internal/abi.NoEscape", "internal/bytealg.abigen_runtime_cmpstring"], unfollowed := true, recurses := true, named := ["internal/strconv.uint64pow10", "math/bits.deBruijn32tab", "math/bits.deBruijn64tab"], plainKeys := false, apart := false, laid := [("math/bits.deBruijn32tab", laid_math_bits_deBruijn32tab), ("math/bits.deBruijn64tab", laid_math_bits_deBruijn64tab), ("internal/strconv.uint64pow10", laid_internal_strconv_uint64pow10)], narrowed := true }
def PaymentFundsUptoSaid : Prop := paymentFundsUptoRow.holds Tryz.pinned (OpenSpec.upto paymentFundsSpec)

/-- 'girolaw38.PaymentNeeds', WHERE WHAT IT READS IS OF BULK AT MOST 1048576: true; the input reads as it did. -/
def paymentNeedsUptoRow : OpenClaim := { program := "ytljegdokbifoiaagreatdoor", sum := "1d0d338f051cd73f4809302daffaf613b16706fd79c6ae14671c6fd8c6d4b601", func := "giro/girolaw38.PaymentNeeds", spec := "paymentNeeds", inPlace := ["internal/abi.NoEscape", "internal/bytealg.abigen_runtime_cmpstring"], unfollowed := true, recurses := true, named := ["internal/strconv.uint64pow10", "math/bits.deBruijn32tab", "math/bits.deBruijn64tab"], plainKeys := false, apart := false, laid := [("math/bits.deBruijn32tab", laid_math_bits_deBruijn32tab), ("math/bits.deBruijn64tab", laid_math_bits_deBruijn64tab), ("internal/strconv.uint64pow10", laid_internal_strconv_uint64pow10)], narrowed := true }
def PaymentNeedsUptoSaid : Prop := paymentNeedsUptoRow.holds Tryz.pinned (OpenSpec.upto paymentNeedsSpec)

/-- 'girolaw38.PaymentReturn', WHERE WHAT IT READS IS OF BULK AT MOST 1048576: true; the input reads as it did. -/
def paymentReturnUptoRow : OpenClaim := { program := "ytljegdokbifoiaagreatdoor", sum := "1d0d338f051cd73f4809302daffaf613b16706fd79c6ae14671c6fd8c6d4b601", func := "giro/girolaw38.PaymentReturn", spec := "paymentReturn", inPlace := ["internal/abi.NoEscape", "internal/bytealg.abigen_runtime_cmpstring"], unfollowed := true, recurses := true, named := ["internal/strconv.uint64pow10", "math/bits.deBruijn32tab", "math/bits.deBruijn64tab"], plainKeys := false, apart := false, laid := [("math/bits.deBruijn32tab", laid_math_bits_deBruijn32tab), ("math/bits.deBruijn64tab", laid_math_bits_deBruijn64tab), ("internal/strconv.uint64pow10", laid_internal_strconv_uint64pow10)], narrowed := true }
def PaymentReturnUptoSaid : Prop := paymentReturnUptoRow.holds Tryz.pinned (OpenSpec.upto paymentReturnSpec)

/-- 'girolaw38.PaymentPostings', WHERE WHAT IT READS IS OF BULK AT MOST 1048576: true; the input reads as it did. -/
def paymentPostingsUptoRow : OpenClaim := { program := "ytljegdokbifoiaagreatdoor", sum := "1d0d338f051cd73f4809302daffaf613b16706fd79c6ae14671c6fd8c6d4b601", func := "giro/girolaw38.PaymentPostings", spec := "paymentPostings", inPlace := ["internal/abi.NoEscape", "internal/bytealg.abigen_runtime_cmpstring"], unfollowed := true, recurses := true, named := ["internal/strconv.uint64pow10", "math/bits.deBruijn32tab", "math/bits.deBruijn64tab"], plainKeys := false, apart := false, laid := [("math/bits.deBruijn32tab", laid_math_bits_deBruijn32tab), ("math/bits.deBruijn64tab", laid_math_bits_deBruijn64tab), ("internal/strconv.uint64pow10", laid_internal_strconv_uint64pow10)], narrowed := true }
def PaymentPostingsUptoSaid : Prop := paymentPostingsUptoRow.holds Tryz.pinned (OpenSpec.upto paymentPostingsSpec)

/-- 'girolaw38.PaymentPositions', WHERE WHAT IT READS IS OF BULK AT MOST 1048576: true; the input reads as it did. -/
def paymentPositionsUptoRow : OpenClaim := { program := "ytljegdokbifoiaagreatdoor", sum := "1d0d338f051cd73f4809302daffaf613b16706fd79c6ae14671c6fd8c6d4b601", func := "giro/girolaw38.PaymentPositions", spec := "paymentPositions", inPlace := ["internal/abi.NoEscape", "internal/bytealg.abigen_runtime_cmpstring"], unfollowed := true, recurses := true, named := ["internal/strconv.uint64pow10", "math/bits.deBruijn32tab", "math/bits.deBruijn64tab"], plainKeys := false, apart := false, laid := [("math/bits.deBruijn32tab", laid_math_bits_deBruijn32tab), ("math/bits.deBruijn64tab", laid_math_bits_deBruijn64tab), ("internal/strconv.uint64pow10", laid_internal_strconv_uint64pow10)], narrowed := true }
def PaymentPositionsUptoSaid : Prop := paymentPositionsUptoRow.holds Tryz.pinned (OpenSpec.upto paymentPositionsSpec)

/-- 'girolaw38.PaymentLimits', WHERE WHAT IT READS IS OF BULK AT MOST 1048576: true; the input reads as it did. -/
def paymentLimitsUptoRow : OpenClaim := { program := "ytljegdokbifoiaagreatdoor", sum := "1d0d338f051cd73f4809302daffaf613b16706fd79c6ae14671c6fd8c6d4b601", func := "giro/girolaw38.PaymentLimits", spec := "paymentLimits", inPlace := ["internal/abi.NoEscape", "internal/bytealg.abigen_runtime_cmpstring"], unfollowed := true, recurses := true, named := ["internal/strconv.uint64pow10", "math/bits.deBruijn32tab", "math/bits.deBruijn64tab"], plainKeys := false, apart := false, laid := [("math/bits.deBruijn32tab", laid_math_bits_deBruijn32tab), ("math/bits.deBruijn64tab", laid_math_bits_deBruijn64tab), ("internal/strconv.uint64pow10", laid_internal_strconv_uint64pow10)], narrowed := true }
def PaymentLimitsUptoSaid : Prop := paymentLimitsUptoRow.holds Tryz.pinned (OpenSpec.upto paymentLimitsSpec)

end Rows
end Go.Proofs.YtljegdokbifoiaaGreatDoor
