/-
  NARROWER THAN 'FOR EVERY INPUT', by the rows' own cells (each row's printed sentence says how): MessageCheck: laid · MessageSides: laid · MessageNames: laid · MessageEqual: laid · MessageRequests: laid · MessageApply: laid · MessageApplyTwice: laid · MessageNormalize: laid · MessageClones: laid.
  DERIVED. THE GIVEN ROWS OF THIS SEAT. 9 by the template 'for every input the law returns true; each argument reads behind the call as it read before'; 0 by the template 'total and deterministic' (their statements: YtljegdokbifoiaaDoorTotals.lean).
  GIVEN WITH THE SEED: the statements are not yours to turn. If you find one false, say at which input.
  Laid BY PROGRAM, IN A SANDBOX (cutbox-rows.mjs): the forced cells as the released guide's own fill.sh prints them over the translation 1211bc5abc190ef5… (all of the seat's roots in one cut). By AI agents, Wed Nov 11 2026. No macro, syntax, notation, axiom, sorry.
-/
import Derived.Test.YtljegdokbifoiaaDoorChecked
import GoSem.Claim
import GoSem.ClaimJoined
import GoSem.ClaimMapViews
import Derived.JoinedTies
import Derived.KernelRfl
namespace Go.Proofs.YtljegdokbifoiaaDoor
/- THE CELL 'sum', in the pinned program and in every row, IS THE sha256 OF THE DUMP (.gsa) THAT YtljegdokbifoiaaDoorProg.lean LOADS. Nothing in Lean hashes anything: it is a label: what it is worth is what the hold of that sum in a sandbox is worth. -/
noncomputable def Tryd.pinned : Pinned := { name := "ytljegdokbifoiaadoor", sum := "1211bc5abc190ef5f43d81bc7d9e59d9eaf0223483159e66a637681a436f8fb6", checked := Tryd.checked }
namespace Rows
def none {H : Type} : Left H := { results := [], args := [] }

/- WHAT THE LISTED PACKAGE-LEVEL VARIABLES READ AS WHEN THE CALL BEGINS. Each datum BY PROGRAM (the guide's laid-datum.mjs) off the statement by which the dump's own 'gosem.cut.vars' lays the variable. In a bare row this is a premise. The card (YtljegdokbifoiaaDoorCards.lean) ties it to the program's text. -/
def laid_math_bits_deBruijn32tab {H : Type} : DataW H := .agg [.lit (.int .u8 0), .lit (.int .u8 1), .lit (.int .u8 28), .lit (.int .u8 2), .lit (.int .u8 29), .lit (.int .u8 14), .lit (.int .u8 24), .lit (.int .u8 3), .lit (.int .u8 30), .lit (.int .u8 22), .lit (.int .u8 20), .lit (.int .u8 15), .lit (.int .u8 25), .lit (.int .u8 17), .lit (.int .u8 4), .lit (.int .u8 8), .lit (.int .u8 31), .lit (.int .u8 27), .lit (.int .u8 13), .lit (.int .u8 23), .lit (.int .u8 21), .lit (.int .u8 19), .lit (.int .u8 16), .lit (.int .u8 7), .lit (.int .u8 26), .lit (.int .u8 12), .lit (.int .u8 18), .lit (.int .u8 6), .lit (.int .u8 11), .lit (.int .u8 5), .lit (.int .u8 10), .lit (.int .u8 9)]
def laid_math_bits_deBruijn64tab {H : Type} : DataW H := .agg [.lit (.int .u8 0), .lit (.int .u8 1), .lit (.int .u8 56), .lit (.int .u8 2), .lit (.int .u8 57), .lit (.int .u8 49), .lit (.int .u8 28), .lit (.int .u8 3), .lit (.int .u8 61), .lit (.int .u8 58), .lit (.int .u8 42), .lit (.int .u8 50), .lit (.int .u8 38), .lit (.int .u8 29), .lit (.int .u8 17), .lit (.int .u8 4), .lit (.int .u8 62), .lit (.int .u8 47), .lit (.int .u8 59), .lit (.int .u8 36), .lit (.int .u8 45), .lit (.int .u8 43), .lit (.int .u8 51), .lit (.int .u8 22), .lit (.int .u8 53), .lit (.int .u8 39), .lit (.int .u8 33), .lit (.int .u8 30), .lit (.int .u8 24), .lit (.int .u8 18), .lit (.int .u8 12), .lit (.int .u8 5), .lit (.int .u8 63), .lit (.int .u8 55), .lit (.int .u8 48), .lit (.int .u8 27), .lit (.int .u8 60), .lit (.int .u8 41), .lit (.int .u8 37), .lit (.int .u8 16), .lit (.int .u8 46), .lit (.int .u8 35), .lit (.int .u8 44), .lit (.int .u8 21), .lit (.int .u8 52), .lit (.int .u8 32), .lit (.int .u8 23), .lit (.int .u8 11), .lit (.int .u8 54), .lit (.int .u8 26), .lit (.int .u8 40), .lit (.int .u8 15), .lit (.int .u8 34), .lit (.int .u8 20), .lit (.int .u8 31), .lit (.int .u8 10), .lit (.int .u8 25), .lit (.int .u8 14), .lit (.int .u8 19), .lit (.int .u8 9), .lit (.int .u8 13), .lit (.int .u8 8), .lit (.int .u8 7), .lit (.int .u8 6)]
def laid_internal_strconv_uint64pow10 {H : Type} : DataW H := .agg [.lit (.int .u64 1), .lit (.int .u64 10), .lit (.int .u64 100), .lit (.int .u64 1000), .lit (.int .u64 10000), .lit (.int .u64 100000), .lit (.int .u64 1000000), .lit (.int .u64 10000000), .lit (.int .u64 100000000), .lit (.int .u64 1000000000), .lit (.int .u64 10000000000), .lit (.int .u64 100000000000), .lit (.int .u64 1000000000000), .lit (.int .u64 10000000000000), .lit (.int .u64 100000000000000), .lit (.int .u64 1000000000000000), .lit (.int .u64 10000000000000000), .lit (.int .u64 100000000000000000), .lit (.int .u64 1000000000000000000), .lit (.int .u64 10000000000000000000)]
def laid_giro_message_kindNames {H : Type} : DataW H := .agg [.lit (.string [112, 97, 121, 109, 101, 110, 116]), .lit (.string [100, 118, 112]), .lit (.string [102, 114, 101, 101]), .lit (.string [112, 108, 101, 100, 103, 101]), .lit (.string [114, 101, 108, 101, 97, 115, 101])]
def laid_giro_message_operationNames {H : Type} : DataW H := .agg [.lit (.string [115, 117, 98, 109, 105, 116]), .lit (.string [97, 109, 101, 110, 100]), .lit (.string [99, 97, 110, 99, 101, 108]), .lit (.string [104, 111, 108, 100]), .lit (.string [114, 101, 115, 117, 109, 101])]
def laid_giro_message_priorityNames {H : Type} : DataW H := .agg [.lit (.string [110, 111, 114, 109, 97, 108]), .lit (.string [104, 105, 103, 104]), .lit (.string [117, 114, 103, 101, 110, 116])]

/-- 'girolaw18.MessageCheck': WHATEVER THE INPUT: true; the input reads as it did. -/
def messageCheckSpec : ChangeSpec := { name := "messageCheck", fn := fun _ => fun
  | [d] => { results := [.lit (.bool true)], args := [d] }
  | _ => none }
def messageCheckRow : OpenClaim := { program := "ytljegdokbifoiaadoor", sum := "1211bc5abc190ef5f43d81bc7d9e59d9eaf0223483159e66a637681a436f8fb6", func := "giro/girolaw18.MessageCheck", spec := "messageCheck", inPlace := ["internal/abi.NoEscape"], unfollowed := true, recurses := true, named := ["internal/strconv.uint64pow10", "math/bits.deBruijn32tab", "math/bits.deBruijn64tab"], apart := false, laid := [("math/bits.deBruijn32tab", laid_math_bits_deBruijn32tab), ("math/bits.deBruijn64tab", laid_math_bits_deBruijn64tab), ("internal/strconv.uint64pow10", laid_internal_strconv_uint64pow10)] }
def MessageCheckSaid : Prop := messageCheckRow.holds Tryd.pinned (OpenSpec.ofChange messageCheckSpec)

/-- ITS FALSE NEIGHBOUR: 'it returns false'. Refute it at one input. -/
def messageCheckWrong : ChangeSpec := { name := "messageCheck", fn := fun _ => fun
  | [d] => { results := [.lit (.bool false)], args := [d] }
  | _ => none }
def MessageCheckWrongFalsely : Prop := messageCheckRow.holds Tryd.pinned (OpenSpec.ofChange messageCheckWrong)

/-- 'girolaw18.MessageSides': WHATEVER THE INPUT: true; the input reads as it did. -/
def messageSidesSpec : ChangeSpec := { name := "messageSides", fn := fun _ => fun
  | [d] => { results := [.lit (.bool true)], args := [d] }
  | _ => none }
def messageSidesRow : OpenClaim := { program := "ytljegdokbifoiaadoor", sum := "1211bc5abc190ef5f43d81bc7d9e59d9eaf0223483159e66a637681a436f8fb6", func := "giro/girolaw18.MessageSides", spec := "messageSides", inPlace := ["internal/abi.NoEscape"], unfollowed := true, recurses := true, named := ["internal/strconv.uint64pow10", "math/bits.deBruijn32tab", "math/bits.deBruijn64tab"], apart := false, laid := [("math/bits.deBruijn32tab", laid_math_bits_deBruijn32tab), ("math/bits.deBruijn64tab", laid_math_bits_deBruijn64tab), ("internal/strconv.uint64pow10", laid_internal_strconv_uint64pow10)] }
def MessageSidesSaid : Prop := messageSidesRow.holds Tryd.pinned (OpenSpec.ofChange messageSidesSpec)

/-- ITS FALSE NEIGHBOUR: 'it returns false'. Refute it at one input. -/
def messageSidesWrong : ChangeSpec := { name := "messageSides", fn := fun _ => fun
  | [d] => { results := [.lit (.bool false)], args := [d] }
  | _ => none }
def MessageSidesWrongFalsely : Prop := messageSidesRow.holds Tryd.pinned (OpenSpec.ofChange messageSidesWrong)

/-- 'girolaw18.MessageNames': WHATEVER THE INPUT: true; the input reads as it did. -/
def messageNamesSpec : ChangeSpec := { name := "messageNames", fn := fun _ => fun
  | [d] => { results := [.lit (.bool true)], args := [d] }
  | _ => none }
def messageNamesRow : OpenClaim := { program := "ytljegdokbifoiaadoor", sum := "1211bc5abc190ef5f43d81bc7d9e59d9eaf0223483159e66a637681a436f8fb6", func := "giro/girolaw18.MessageNames", spec := "messageNames", inPlace := ["internal/abi.NoEscape"], unfollowed := true, recurses := true, named := ["giro/message.kindNames", "giro/message.operationNames", "giro/message.priorityNames", "internal/strconv.uint64pow10", "math/bits.deBruijn32tab", "math/bits.deBruijn64tab"], apart := false, laid := [("math/bits.deBruijn32tab", laid_math_bits_deBruijn32tab), ("math/bits.deBruijn64tab", laid_math_bits_deBruijn64tab), ("internal/strconv.uint64pow10", laid_internal_strconv_uint64pow10), ("giro/message.kindNames", laid_giro_message_kindNames), ("giro/message.operationNames", laid_giro_message_operationNames), ("giro/message.priorityNames", laid_giro_message_priorityNames)] }
def MessageNamesSaid : Prop := messageNamesRow.holds Tryd.pinned (OpenSpec.ofChange messageNamesSpec)

/-- ITS FALSE NEIGHBOUR: 'it returns false'. Refute it at one input. -/
def messageNamesWrong : ChangeSpec := { name := "messageNames", fn := fun _ => fun
  | [d] => { results := [.lit (.bool false)], args := [d] }
  | _ => none }
def MessageNamesWrongFalsely : Prop := messageNamesRow.holds Tryd.pinned (OpenSpec.ofChange messageNamesWrong)

/-- 'girolaw18.MessageEqual': WHATEVER THE INPUT: true; the input reads as it did. -/
def messageEqualSpec : ChangeSpec := { name := "messageEqual", fn := fun _ => fun
  | [d1, d2] => { results := [.lit (.bool true)], args := [d1, d2] }
  | _ => none }
def messageEqualRow : OpenClaim := { program := "ytljegdokbifoiaadoor", sum := "1211bc5abc190ef5f43d81bc7d9e59d9eaf0223483159e66a637681a436f8fb6", func := "giro/girolaw18.MessageEqual", spec := "messageEqual", inPlace := ["internal/abi.NoEscape"], unfollowed := true, recurses := true, named := ["internal/strconv.uint64pow10", "math/bits.deBruijn32tab", "math/bits.deBruijn64tab"], apart := false, laid := [("math/bits.deBruijn32tab", laid_math_bits_deBruijn32tab), ("math/bits.deBruijn64tab", laid_math_bits_deBruijn64tab), ("internal/strconv.uint64pow10", laid_internal_strconv_uint64pow10)] }
def MessageEqualSaid : Prop := messageEqualRow.holds Tryd.pinned (OpenSpec.ofChange messageEqualSpec)

/-- ITS FALSE NEIGHBOUR: 'it returns false'. Refute it at one input. -/
def messageEqualWrong : ChangeSpec := { name := "messageEqual", fn := fun _ => fun
  | [d1, d2] => { results := [.lit (.bool false)], args := [d1, d2] }
  | _ => none }
def MessageEqualWrongFalsely : Prop := messageEqualRow.holds Tryd.pinned (OpenSpec.ofChange messageEqualWrong)

/-- 'girolaw18.MessageRequests': WHATEVER THE INPUT: true; the input reads as it did. -/
def messageRequestsSpec : ChangeSpec := { name := "messageRequests", fn := fun _ => fun
  | [d] => { results := [.lit (.bool true)], args := [d] }
  | _ => none }
def messageRequestsRow : OpenClaim := { program := "ytljegdokbifoiaadoor", sum := "1211bc5abc190ef5f43d81bc7d9e59d9eaf0223483159e66a637681a436f8fb6", func := "giro/girolaw18.MessageRequests", spec := "messageRequests", inPlace := ["internal/abi.NoEscape"], unfollowed := true, recurses := true, named := ["internal/strconv.uint64pow10", "math/bits.deBruijn32tab", "math/bits.deBruijn64tab"], apart := false, laid := [("math/bits.deBruijn32tab", laid_math_bits_deBruijn32tab), ("math/bits.deBruijn64tab", laid_math_bits_deBruijn64tab), ("internal/strconv.uint64pow10", laid_internal_strconv_uint64pow10)] }
def MessageRequestsSaid : Prop := messageRequestsRow.holds Tryd.pinned (OpenSpec.ofChange messageRequestsSpec)

/-- ITS FALSE NEIGHBOUR: 'it returns false'. Refute it at one input. -/
def messageRequestsWrong : ChangeSpec := { name := "messageRequests", fn := fun _ => fun
  | [d] => { results := [.lit (.bool false)], args := [d] }
  | _ => none }
def MessageRequestsWrongFalsely : Prop := messageRequestsRow.holds Tryd.pinned (OpenSpec.ofChange messageRequestsWrong)

/-- 'girolaw18.MessageApply': WHATEVER THE INPUT: true; the input reads as it did. -/
def messageApplySpec : ChangeSpec := { name := "messageApply", fn := fun _ => fun
  | [d1, d2] => { results := [.lit (.bool true)], args := [d1, d2] }
  | _ => none }
def messageApplyRow : OpenClaim := { program := "ytljegdokbifoiaadoor", sum := "1211bc5abc190ef5f43d81bc7d9e59d9eaf0223483159e66a637681a436f8fb6", func := "giro/girolaw18.MessageApply", spec := "messageApply", inPlace := ["internal/abi.NoEscape"], unfollowed := true, recurses := true, named := ["internal/strconv.uint64pow10", "math/bits.deBruijn32tab", "math/bits.deBruijn64tab"], apart := false, laid := [("math/bits.deBruijn32tab", laid_math_bits_deBruijn32tab), ("math/bits.deBruijn64tab", laid_math_bits_deBruijn64tab), ("internal/strconv.uint64pow10", laid_internal_strconv_uint64pow10)] }
def MessageApplySaid : Prop := messageApplyRow.holds Tryd.pinned (OpenSpec.ofChange messageApplySpec)

/-- ITS FALSE NEIGHBOUR: 'it returns false'. Refute it at one input. -/
def messageApplyWrong : ChangeSpec := { name := "messageApply", fn := fun _ => fun
  | [d1, d2] => { results := [.lit (.bool false)], args := [d1, d2] }
  | _ => none }
def MessageApplyWrongFalsely : Prop := messageApplyRow.holds Tryd.pinned (OpenSpec.ofChange messageApplyWrong)

/-- 'girolaw18.MessageApplyTwice': WHATEVER THE INPUT: true; the input reads as it did. -/
def messageApplyTwiceSpec : ChangeSpec := { name := "messageApplyTwice", fn := fun _ => fun
  | [d1, d2] => { results := [.lit (.bool true)], args := [d1, d2] }
  | _ => none }
def messageApplyTwiceRow : OpenClaim := { program := "ytljegdokbifoiaadoor", sum := "1211bc5abc190ef5f43d81bc7d9e59d9eaf0223483159e66a637681a436f8fb6", func := "giro/girolaw18.MessageApplyTwice", spec := "messageApplyTwice", inPlace := ["internal/abi.NoEscape"], unfollowed := true, recurses := true, named := ["internal/strconv.uint64pow10", "math/bits.deBruijn32tab", "math/bits.deBruijn64tab"], apart := false, laid := [("math/bits.deBruijn32tab", laid_math_bits_deBruijn32tab), ("math/bits.deBruijn64tab", laid_math_bits_deBruijn64tab), ("internal/strconv.uint64pow10", laid_internal_strconv_uint64pow10)] }
def MessageApplyTwiceSaid : Prop := messageApplyTwiceRow.holds Tryd.pinned (OpenSpec.ofChange messageApplyTwiceSpec)

/-- ITS FALSE NEIGHBOUR: 'it returns false'. Refute it at one input. -/
def messageApplyTwiceWrong : ChangeSpec := { name := "messageApplyTwice", fn := fun _ => fun
  | [d1, d2] => { results := [.lit (.bool false)], args := [d1, d2] }
  | _ => none }
def MessageApplyTwiceWrongFalsely : Prop := messageApplyTwiceRow.holds Tryd.pinned (OpenSpec.ofChange messageApplyTwiceWrong)

/-- 'girolaw18.MessageNormalize': WHATEVER THE INPUT: true; the input reads as it did. -/
def messageNormalizeSpec : ChangeSpec := { name := "messageNormalize", fn := fun _ => fun
  | [d] => { results := [.lit (.bool true)], args := [d] }
  | _ => none }
def messageNormalizeRow : OpenClaim := { program := "ytljegdokbifoiaadoor", sum := "1211bc5abc190ef5f43d81bc7d9e59d9eaf0223483159e66a637681a436f8fb6", func := "giro/girolaw18.MessageNormalize", spec := "messageNormalize", inPlace := ["internal/abi.NoEscape", "internal/bytealg.abigen_runtime_cmpstring"], unfollowed := true, recurses := true, named := ["internal/strconv.uint64pow10", "math/bits.deBruijn32tab", "math/bits.deBruijn64tab"], apart := false, laid := [("math/bits.deBruijn32tab", laid_math_bits_deBruijn32tab), ("math/bits.deBruijn64tab", laid_math_bits_deBruijn64tab), ("internal/strconv.uint64pow10", laid_internal_strconv_uint64pow10)] }
def MessageNormalizeSaid : Prop := messageNormalizeRow.holds Tryd.pinned (OpenSpec.ofChange messageNormalizeSpec)

/-- ITS FALSE NEIGHBOUR: 'it returns false'. Refute it at one input. -/
def messageNormalizeWrong : ChangeSpec := { name := "messageNormalize", fn := fun _ => fun
  | [d] => { results := [.lit (.bool false)], args := [d] }
  | _ => none }
def MessageNormalizeWrongFalsely : Prop := messageNormalizeRow.holds Tryd.pinned (OpenSpec.ofChange messageNormalizeWrong)

/-- 'girolaw18.MessageClones': WHATEVER THE INPUT: true; the input reads as it did. -/
def messageClonesSpec : ChangeSpec := { name := "messageClones", fn := fun _ => fun
  | [d1, d2] => { results := [.lit (.bool true)], args := [d1, d2] }
  | _ => none }
def messageClonesRow : OpenClaim := { program := "ytljegdokbifoiaadoor", sum := "1211bc5abc190ef5f43d81bc7d9e59d9eaf0223483159e66a637681a436f8fb6", func := "giro/girolaw18.MessageClones", spec := "messageClones", inPlace := ["internal/abi.NoEscape", "internal/bytealg.abigen_runtime_cmpstring"], unfollowed := true, recurses := true, named := ["internal/strconv.uint64pow10", "math/bits.deBruijn32tab", "math/bits.deBruijn64tab"], apart := false, laid := [("math/bits.deBruijn32tab", laid_math_bits_deBruijn32tab), ("math/bits.deBruijn64tab", laid_math_bits_deBruijn64tab), ("internal/strconv.uint64pow10", laid_internal_strconv_uint64pow10)] }
def MessageClonesSaid : Prop := messageClonesRow.holds Tryd.pinned (OpenSpec.ofChange messageClonesSpec)

/-- ITS FALSE NEIGHBOUR: 'it returns false'. Refute it at one input. -/
def messageClonesWrong : ChangeSpec := { name := "messageClones", fn := fun _ => fun
  | [d1, d2] => { results := [.lit (.bool false)], args := [d1, d2] }
  | _ => none }
def MessageClonesWrongFalsely : Prop := messageClonesRow.holds Tryd.pinned (OpenSpec.ofChange messageClonesWrong)

/- THE SECOND FORM. 'bulk': how many values and letters a reading holds, each counted each time it is reached (what is shared counts as often as it is met; a slice's spare places count too). A statement '..UptoSaid' is the law's where the arguments, and the package variables that the reading takes, are together of bulk at most 1048576: NARROWER than '..Said'. Prove '..Said' where nothing that the law and all that it calls make is longer than what came in: it says more and counts as full. Else prove '..UptoSaid'. A law counts once. -/
mutual
def uptoBulk {H : Type} : DataW H → Nat
  | .lit (.string bytes) => bytes.length + 1
  | .lit _ => 1
  | .nil => 1
  | .ptr d => uptoBulk d + 1
  | .slice elems spare => uptoBulkAll elems + uptoBulkAll spare + 1
  | .agg parts => uptoBulkAll parts + 1
  | .iface _ d => uptoBulk d + 1
  | .map entries => uptoBulkEntries entries + 1
  | .held _ => 1
def uptoBulkAll {H : Type} : List (DataW H) → Nat
  | [] => 0
  | d :: r => uptoBulk d + uptoBulkAll r
def uptoBulkEntries {H : Type} : List (Lit × DataW H) → Nat
  | [] => 0
  | x :: r => uptoBulkEntry x + uptoBulkEntries r
def uptoBulkEntry {H : Type} : Lit × DataW H → Nat
  | (.string bytes, d) => bytes.length + uptoBulk d + 1
  | (_, d) => uptoBulk d + 1
 end
def uptoSmall : (H : Type) → List (DataW H) → Bool := fun _ ds => decide (uptoBulkAll ds ≤ 1048576)
def OpenSpec.upto (s : _root_.Go.ChangeSpec) : _root_.Go.OpenSpec := { _root_.Go.OpenSpec.ofChange s with cond := some uptoSmall }

/-- 'girolaw18.MessageCheck', WHERE WHAT IT READS IS OF BULK AT MOST 1048576: true; the input reads as it did. -/
def messageCheckUptoRow : OpenClaim := { program := "ytljegdokbifoiaadoor", sum := "1211bc5abc190ef5f43d81bc7d9e59d9eaf0223483159e66a637681a436f8fb6", func := "giro/girolaw18.MessageCheck", spec := "messageCheck", inPlace := ["internal/abi.NoEscape"], unfollowed := true, recurses := true, named := ["internal/strconv.uint64pow10", "math/bits.deBruijn32tab", "math/bits.deBruijn64tab"], apart := false, laid := [("math/bits.deBruijn32tab", laid_math_bits_deBruijn32tab), ("math/bits.deBruijn64tab", laid_math_bits_deBruijn64tab), ("internal/strconv.uint64pow10", laid_internal_strconv_uint64pow10)], narrowed := true }
def MessageCheckUptoSaid : Prop := messageCheckUptoRow.holds Tryd.pinned (OpenSpec.upto messageCheckSpec)

/-- 'girolaw18.MessageSides', WHERE WHAT IT READS IS OF BULK AT MOST 1048576: true; the input reads as it did. -/
def messageSidesUptoRow : OpenClaim := { program := "ytljegdokbifoiaadoor", sum := "1211bc5abc190ef5f43d81bc7d9e59d9eaf0223483159e66a637681a436f8fb6", func := "giro/girolaw18.MessageSides", spec := "messageSides", inPlace := ["internal/abi.NoEscape"], unfollowed := true, recurses := true, named := ["internal/strconv.uint64pow10", "math/bits.deBruijn32tab", "math/bits.deBruijn64tab"], apart := false, laid := [("math/bits.deBruijn32tab", laid_math_bits_deBruijn32tab), ("math/bits.deBruijn64tab", laid_math_bits_deBruijn64tab), ("internal/strconv.uint64pow10", laid_internal_strconv_uint64pow10)], narrowed := true }
def MessageSidesUptoSaid : Prop := messageSidesUptoRow.holds Tryd.pinned (OpenSpec.upto messageSidesSpec)

/-- 'girolaw18.MessageNames', WHERE WHAT IT READS IS OF BULK AT MOST 1048576: true; the input reads as it did. -/
def messageNamesUptoRow : OpenClaim := { program := "ytljegdokbifoiaadoor", sum := "1211bc5abc190ef5f43d81bc7d9e59d9eaf0223483159e66a637681a436f8fb6", func := "giro/girolaw18.MessageNames", spec := "messageNames", inPlace := ["internal/abi.NoEscape"], unfollowed := true, recurses := true, named := ["giro/message.kindNames", "giro/message.operationNames", "giro/message.priorityNames", "internal/strconv.uint64pow10", "math/bits.deBruijn32tab", "math/bits.deBruijn64tab"], apart := false, laid := [("math/bits.deBruijn32tab", laid_math_bits_deBruijn32tab), ("math/bits.deBruijn64tab", laid_math_bits_deBruijn64tab), ("internal/strconv.uint64pow10", laid_internal_strconv_uint64pow10), ("giro/message.kindNames", laid_giro_message_kindNames), ("giro/message.operationNames", laid_giro_message_operationNames), ("giro/message.priorityNames", laid_giro_message_priorityNames)], narrowed := true }
def MessageNamesUptoSaid : Prop := messageNamesUptoRow.holds Tryd.pinned (OpenSpec.upto messageNamesSpec)

/-- 'girolaw18.MessageEqual', WHERE WHAT IT READS IS OF BULK AT MOST 1048576: true; the input reads as it did. -/
def messageEqualUptoRow : OpenClaim := { program := "ytljegdokbifoiaadoor", sum := "1211bc5abc190ef5f43d81bc7d9e59d9eaf0223483159e66a637681a436f8fb6", func := "giro/girolaw18.MessageEqual", spec := "messageEqual", inPlace := ["internal/abi.NoEscape"], unfollowed := true, recurses := true, named := ["internal/strconv.uint64pow10", "math/bits.deBruijn32tab", "math/bits.deBruijn64tab"], apart := false, laid := [("math/bits.deBruijn32tab", laid_math_bits_deBruijn32tab), ("math/bits.deBruijn64tab", laid_math_bits_deBruijn64tab), ("internal/strconv.uint64pow10", laid_internal_strconv_uint64pow10)], narrowed := true }
def MessageEqualUptoSaid : Prop := messageEqualUptoRow.holds Tryd.pinned (OpenSpec.upto messageEqualSpec)

/-- 'girolaw18.MessageRequests', WHERE WHAT IT READS IS OF BULK AT MOST 1048576: true; the input reads as it did. -/
def messageRequestsUptoRow : OpenClaim := { program := "ytljegdokbifoiaadoor", sum := "1211bc5abc190ef5f43d81bc7d9e59d9eaf0223483159e66a637681a436f8fb6", func := "giro/girolaw18.MessageRequests", spec := "messageRequests", inPlace := ["internal/abi.NoEscape"], unfollowed := true, recurses := true, named := ["internal/strconv.uint64pow10", "math/bits.deBruijn32tab", "math/bits.deBruijn64tab"], apart := false, laid := [("math/bits.deBruijn32tab", laid_math_bits_deBruijn32tab), ("math/bits.deBruijn64tab", laid_math_bits_deBruijn64tab), ("internal/strconv.uint64pow10", laid_internal_strconv_uint64pow10)], narrowed := true }
def MessageRequestsUptoSaid : Prop := messageRequestsUptoRow.holds Tryd.pinned (OpenSpec.upto messageRequestsSpec)

/-- 'girolaw18.MessageApply', WHERE WHAT IT READS IS OF BULK AT MOST 1048576: true; the input reads as it did. -/
def messageApplyUptoRow : OpenClaim := { program := "ytljegdokbifoiaadoor", sum := "1211bc5abc190ef5f43d81bc7d9e59d9eaf0223483159e66a637681a436f8fb6", func := "giro/girolaw18.MessageApply", spec := "messageApply", inPlace := ["internal/abi.NoEscape"], unfollowed := true, recurses := true, named := ["internal/strconv.uint64pow10", "math/bits.deBruijn32tab", "math/bits.deBruijn64tab"], apart := false, laid := [("math/bits.deBruijn32tab", laid_math_bits_deBruijn32tab), ("math/bits.deBruijn64tab", laid_math_bits_deBruijn64tab), ("internal/strconv.uint64pow10", laid_internal_strconv_uint64pow10)], narrowed := true }
def MessageApplyUptoSaid : Prop := messageApplyUptoRow.holds Tryd.pinned (OpenSpec.upto messageApplySpec)

/-- 'girolaw18.MessageApplyTwice', WHERE WHAT IT READS IS OF BULK AT MOST 1048576: true; the input reads as it did. -/
def messageApplyTwiceUptoRow : OpenClaim := { program := "ytljegdokbifoiaadoor", sum := "1211bc5abc190ef5f43d81bc7d9e59d9eaf0223483159e66a637681a436f8fb6", func := "giro/girolaw18.MessageApplyTwice", spec := "messageApplyTwice", inPlace := ["internal/abi.NoEscape"], unfollowed := true, recurses := true, named := ["internal/strconv.uint64pow10", "math/bits.deBruijn32tab", "math/bits.deBruijn64tab"], apart := false, laid := [("math/bits.deBruijn32tab", laid_math_bits_deBruijn32tab), ("math/bits.deBruijn64tab", laid_math_bits_deBruijn64tab), ("internal/strconv.uint64pow10", laid_internal_strconv_uint64pow10)], narrowed := true }
def MessageApplyTwiceUptoSaid : Prop := messageApplyTwiceUptoRow.holds Tryd.pinned (OpenSpec.upto messageApplyTwiceSpec)

/-- 'girolaw18.MessageNormalize', WHERE WHAT IT READS IS OF BULK AT MOST 1048576: true; the input reads as it did. -/
def messageNormalizeUptoRow : OpenClaim := { program := "ytljegdokbifoiaadoor", sum := "1211bc5abc190ef5f43d81bc7d9e59d9eaf0223483159e66a637681a436f8fb6", func := "giro/girolaw18.MessageNormalize", spec := "messageNormalize", inPlace := ["internal/abi.NoEscape", "internal/bytealg.abigen_runtime_cmpstring"], unfollowed := true, recurses := true, named := ["internal/strconv.uint64pow10", "math/bits.deBruijn32tab", "math/bits.deBruijn64tab"], apart := false, laid := [("math/bits.deBruijn32tab", laid_math_bits_deBruijn32tab), ("math/bits.deBruijn64tab", laid_math_bits_deBruijn64tab), ("internal/strconv.uint64pow10", laid_internal_strconv_uint64pow10)], narrowed := true }
def MessageNormalizeUptoSaid : Prop := messageNormalizeUptoRow.holds Tryd.pinned (OpenSpec.upto messageNormalizeSpec)

/-- 'girolaw18.MessageClones', WHERE WHAT IT READS IS OF BULK AT MOST 1048576: true; the input reads as it did. -/
def messageClonesUptoRow : OpenClaim := { program := "ytljegdokbifoiaadoor", sum := "1211bc5abc190ef5f43d81bc7d9e59d9eaf0223483159e66a637681a436f8fb6", func := "giro/girolaw18.MessageClones", spec := "messageClones", inPlace := ["internal/abi.NoEscape", "internal/bytealg.abigen_runtime_cmpstring"], unfollowed := true, recurses := true, named := ["internal/strconv.uint64pow10", "math/bits.deBruijn32tab", "math/bits.deBruijn64tab"], apart := false, laid := [("math/bits.deBruijn32tab", laid_math_bits_deBruijn32tab), ("math/bits.deBruijn64tab", laid_math_bits_deBruijn64tab), ("internal/strconv.uint64pow10", laid_internal_strconv_uint64pow10)], narrowed := true }
def MessageClonesUptoSaid : Prop := messageClonesUptoRow.holds Tryd.pinned (OpenSpec.upto messageClonesSpec)

end Rows
end Go.Proofs.YtljegdokbifoiaaDoor
