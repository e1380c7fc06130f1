/-
  No cell of these rows narrows 'for every input' (looked for: loops, veiled, ifaces, maps, wideKeys, modest, calm, conditions, laid).
  DERIVED. THE GIVEN ROWS OF THIS SEAT. 20 by the template 'for every input the law returns true; each argument reads behind the call as it read before'; 0 by the template 'total and deterministic' (their statements: YtmekpkajpjnkgaaTotals.lean).
  GIVEN WITH THE SEED: the statements are not yours to turn. If you find one false, say at which input.
  Laid BY PROGRAM, IN A SANDBOX (cutbox-rows.mjs): the forced cells as the released guide's own fill.sh prints them over the translation d28a5759c59ffb8c… (all of the seat's roots in one cut). By AI agents, Wed Nov 11 2026. No macro, syntax, notation, axiom, sorry.
-/
import Derived.Test.YtmekpkajpjnkgaaChecked
import GoSem.Claim
import GoSem.ClaimJoined
import GoSem.ClaimMapViews
import Derived.JoinedTies
import Derived.KernelRfl
namespace Go.Proofs.Ytmekpkajpjnkgaa
/- THE CELL 'sum', in the pinned program and in every row, IS THE sha256 OF THE DUMP (.gsa) THAT YtmekpkajpjnkgaaProg.lean LOADS. Nothing in Lean hashes anything: it is a label: what it is worth is what the hold of that sum in a sandbox is worth. -/
noncomputable def Try.pinned : Pinned := { name := "ytmekpkajpjnkgaa", sum := "d28a5759c59ffb8cca7fa8abc1c51754a2b6ac711e328a77e8c513880078f48a", checked := Try.checked }
namespace Rows
def none {H : Type} : Left H := { results := [], args := [] }

/-- 'laws.FnExactEncodeVarint': WHATEVER THE INPUT: true; the input reads as it did. -/
def fnExactEncodeVarintSpec : ChangeSpec := { name := "fnExactEncodeVarint", fn := fun _ => fun
  | [d] => { results := [.lit (.bool true)], args := [d] }
  | _ => none }
def fnExactEncodeVarintRow : OpenClaim := { program := "ytmekpkajpjnkgaa", sum := "d28a5759c59ffb8cca7fa8abc1c51754a2b6ac711e328a77e8c513880078f48a", func := "loop.example/g01984/laws.FnExactEncodeVarint", spec := "fnExactEncodeVarint", apart := false }
def FnExactEncodeVarintSaid : Prop := fnExactEncodeVarintRow.holds Try.pinned (OpenSpec.ofChange fnExactEncodeVarintSpec)

/-- ITS FALSE NEIGHBOUR: 'it returns false'. Refute it at one input. -/
def fnExactEncodeVarintWrong : ChangeSpec := { name := "fnExactEncodeVarint", fn := fun _ => fun
  | [d] => { results := [.lit (.bool false)], args := [d] }
  | _ => none }
def FnExactEncodeVarintWrongFalsely : Prop := fnExactEncodeVarintRow.holds Try.pinned (OpenSpec.ofChange fnExactEncodeVarintWrong)

/-- 'laws.FnExactEncodeFixed': WHATEVER THE INPUT: true; the input reads as it did. -/
def fnExactEncodeFixedSpec : ChangeSpec := { name := "fnExactEncodeFixed", fn := fun _ => fun
  | [d1, d2] => { results := [.lit (.bool true)], args := [d1, d2] }
  | _ => none }
def fnExactEncodeFixedRow : OpenClaim := { program := "ytmekpkajpjnkgaa", sum := "d28a5759c59ffb8cca7fa8abc1c51754a2b6ac711e328a77e8c513880078f48a", func := "loop.example/g01984/laws.FnExactEncodeFixed", spec := "fnExactEncodeFixed", apart := false }
def FnExactEncodeFixedSaid : Prop := fnExactEncodeFixedRow.holds Try.pinned (OpenSpec.ofChange fnExactEncodeFixedSpec)

/-- ITS FALSE NEIGHBOUR: 'it returns false'. Refute it at one input. -/
def fnExactEncodeFixedWrong : ChangeSpec := { name := "fnExactEncodeFixed", fn := fun _ => fun
  | [d1, d2] => { results := [.lit (.bool false)], args := [d1, d2] }
  | _ => none }
def FnExactEncodeFixedWrongFalsely : Prop := fnExactEncodeFixedRow.holds Try.pinned (OpenSpec.ofChange fnExactEncodeFixedWrong)

/-- 'laws.FnExactWorstQuery': WHATEVER THE INPUT: true; the input reads as it did. -/
def fnExactWorstQuerySpec : ChangeSpec := { name := "fnExactWorstQuery", fn := fun _ => fun
  | [d] => { results := [.lit (.bool true)], args := [d] }
  | _ => none }
def fnExactWorstQueryRow : OpenClaim := { program := "ytmekpkajpjnkgaa", sum := "d28a5759c59ffb8cca7fa8abc1c51754a2b6ac711e328a77e8c513880078f48a", func := "loop.example/g01984/laws.FnExactWorstQuery", spec := "fnExactWorstQuery", apart := false }
def FnExactWorstQuerySaid : Prop := fnExactWorstQueryRow.holds Try.pinned (OpenSpec.ofChange fnExactWorstQuerySpec)

/-- ITS FALSE NEIGHBOUR: 'it returns false'. Refute it at one input. -/
def fnExactWorstQueryWrong : ChangeSpec := { name := "fnExactWorstQuery", fn := fun _ => fun
  | [d] => { results := [.lit (.bool false)], args := [d] }
  | _ => none }
def FnExactWorstQueryWrongFalsely : Prop := fnExactWorstQueryRow.holds Try.pinned (OpenSpec.ofChange fnExactWorstQueryWrong)

/-- 'laws.FnExactMeetRanges': WHATEVER THE INPUT: true; the input reads as it did. -/
def fnExactMeetRangesSpec : ChangeSpec := { name := "fnExactMeetRanges", fn := fun _ => fun
  | [d1, d2] => { results := [.lit (.bool true)], args := [d1, d2] }
  | _ => none }
def fnExactMeetRangesRow : OpenClaim := { program := "ytmekpkajpjnkgaa", sum := "d28a5759c59ffb8cca7fa8abc1c51754a2b6ac711e328a77e8c513880078f48a", func := "loop.example/g01984/laws.FnExactMeetRanges", spec := "fnExactMeetRanges", apart := false }
def FnExactMeetRangesSaid : Prop := fnExactMeetRangesRow.holds Try.pinned (OpenSpec.ofChange fnExactMeetRangesSpec)

/-- ITS FALSE NEIGHBOUR: 'it returns false'. Refute it at one input. -/
def fnExactMeetRangesWrong : ChangeSpec := { name := "fnExactMeetRanges", fn := fun _ => fun
  | [d1, d2] => { results := [.lit (.bool false)], args := [d1, d2] }
  | _ => none }
def FnExactMeetRangesWrongFalsely : Prop := fnExactMeetRangesRow.holds Try.pinned (OpenSpec.ofChange fnExactMeetRangesWrong)

/-- 'laws.FnExactDecodeHex': WHATEVER THE INPUT: true; the input reads as it did. -/
def fnExactDecodeHexSpec : ChangeSpec := { name := "fnExactDecodeHex", fn := fun _ => fun
  | [d] => { results := [.lit (.bool true)], args := [d] }
  | _ => none }
def fnExactDecodeHexRow : OpenClaim := { program := "ytmekpkajpjnkgaa", sum := "d28a5759c59ffb8cca7fa8abc1c51754a2b6ac711e328a77e8c513880078f48a", func := "loop.example/g01984/laws.FnExactDecodeHex", spec := "fnExactDecodeHex", inPlace := ["internal/bytealg.IndexByteString"], apart := false }
def FnExactDecodeHexSaid : Prop := fnExactDecodeHexRow.holds Try.pinned (OpenSpec.ofChange fnExactDecodeHexSpec)

/-- ITS FALSE NEIGHBOUR: 'it returns false'. Refute it at one input. -/
def fnExactDecodeHexWrong : ChangeSpec := { name := "fnExactDecodeHex", fn := fun _ => fun
  | [d] => { results := [.lit (.bool false)], args := [d] }
  | _ => none }
def FnExactDecodeHexWrongFalsely : Prop := fnExactDecodeHexRow.holds Try.pinned (OpenSpec.ofChange fnExactDecodeHexWrong)

/-- 'laws.FnExactAreValues': WHATEVER THE INPUT: true; the input reads as it did. -/
def fnExactAreValuesSpec : ChangeSpec := { name := "fnExactAreValues", fn := fun _ => fun
  | [d] => { results := [.lit (.bool true)], args := [d] }
  | _ => none }
def fnExactAreValuesRow : OpenClaim := { program := "ytmekpkajpjnkgaa", sum := "d28a5759c59ffb8cca7fa8abc1c51754a2b6ac711e328a77e8c513880078f48a", func := "loop.example/g01984/laws.FnExactAreValues", spec := "fnExactAreValues", unfollowed := true, recurses := true, apart := false }
def FnExactAreValuesSaid : Prop := fnExactAreValuesRow.holds Try.pinned (OpenSpec.ofChange fnExactAreValuesSpec)

/-- ITS FALSE NEIGHBOUR: 'it returns false'. Refute it at one input. -/
def fnExactAreValuesWrong : ChangeSpec := { name := "fnExactAreValues", fn := fun _ => fun
  | [d] => { results := [.lit (.bool false)], args := [d] }
  | _ => none }
def FnExactAreValuesWrongFalsely : Prop := fnExactAreValuesRow.holds Try.pinned (OpenSpec.ofChange fnExactAreValuesWrong)

/-- 'laws.FnExactDecodeVarint': WHATEVER THE INPUT: true; the input reads as it did. -/
def fnExactDecodeVarintSpec : ChangeSpec := { name := "fnExactDecodeVarint", fn := fun _ => fun
  | [d] => { results := [.lit (.bool true)], args := [d] }
  | _ => none }
def fnExactDecodeVarintRow : OpenClaim := { program := "ytmekpkajpjnkgaa", sum := "d28a5759c59ffb8cca7fa8abc1c51754a2b6ac711e328a77e8c513880078f48a", func := "loop.example/g01984/laws.FnExactDecodeVarint", spec := "fnExactDecodeVarint", apart := false }
def FnExactDecodeVarintSaid : Prop := fnExactDecodeVarintRow.holds Try.pinned (OpenSpec.ofChange fnExactDecodeVarintSpec)

/-- ITS FALSE NEIGHBOUR: 'it returns false'. Refute it at one input. -/
def fnExactDecodeVarintWrong : ChangeSpec := { name := "fnExactDecodeVarint", fn := fun _ => fun
  | [d] => { results := [.lit (.bool false)], args := [d] }
  | _ => none }
def FnExactDecodeVarintWrongFalsely : Prop := fnExactDecodeVarintRow.holds Try.pinned (OpenSpec.ofChange fnExactDecodeVarintWrong)

/-- 'laws.FnExactSwapBound': WHATEVER THE INPUT: true; the input reads as it did. -/
def fnExactSwapBoundSpec : ChangeSpec := { name := "fnExactSwapBound", fn := fun _ => fun
  | [d1, d2, d3] => { results := [.lit (.bool true)], args := [d1, d2, d3] }
  | _ => none }
def fnExactSwapBoundRow : OpenClaim := { program := "ytmekpkajpjnkgaa", sum := "d28a5759c59ffb8cca7fa8abc1c51754a2b6ac711e328a77e8c513880078f48a", func := "loop.example/g01984/laws.FnExactSwapBound", spec := "fnExactSwapBound", apart := false }
def FnExactSwapBoundSaid : Prop := fnExactSwapBoundRow.holds Try.pinned (OpenSpec.ofChange fnExactSwapBoundSpec)

/-- ITS FALSE NEIGHBOUR: 'it returns false'. Refute it at one input. -/
def fnExactSwapBoundWrong : ChangeSpec := { name := "fnExactSwapBound", fn := fun _ => fun
  | [d1, d2, d3] => { results := [.lit (.bool false)], args := [d1, d2, d3] }
  | _ => none }
def FnExactSwapBoundWrongFalsely : Prop := fnExactSwapBoundRow.holds Try.pinned (OpenSpec.ofChange fnExactSwapBoundWrong)

/-- 'laws.FnExactTotalSwaps': WHATEVER THE INPUT: true; the input reads as it did. -/
def fnExactTotalSwapsSpec : ChangeSpec := { name := "fnExactTotalSwaps", fn := fun _ => fun
  | [d] => { results := [.lit (.bool true)], args := [d] }
  | _ => none }
def fnExactTotalSwapsRow : OpenClaim := { program := "ytmekpkajpjnkgaa", sum := "d28a5759c59ffb8cca7fa8abc1c51754a2b6ac711e328a77e8c513880078f48a", func := "loop.example/g01984/laws.FnExactTotalSwaps", spec := "fnExactTotalSwaps", apart := false }
def FnExactTotalSwapsSaid : Prop := fnExactTotalSwapsRow.holds Try.pinned (OpenSpec.ofChange fnExactTotalSwapsSpec)

/-- ITS FALSE NEIGHBOUR: 'it returns false'. Refute it at one input. -/
def fnExactTotalSwapsWrong : ChangeSpec := { name := "fnExactTotalSwaps", fn := fun _ => fun
  | [d] => { results := [.lit (.bool false)], args := [d] }
  | _ => none }
def FnExactTotalSwapsWrongFalsely : Prop := fnExactTotalSwapsRow.holds Try.pinned (OpenSpec.ofChange fnExactTotalSwapsWrong)

/-- 'laws.FnExactOwnerOf': WHATEVER THE INPUT: true; the input reads as it did. -/
def fnExactOwnerOfSpec : ChangeSpec := { name := "fnExactOwnerOf", fn := fun _ => fun
  | [d1, d2] => { results := [.lit (.bool true)], args := [d1, d2] }
  | _ => none }
def fnExactOwnerOfRow : OpenClaim := { program := "ytmekpkajpjnkgaa", sum := "d28a5759c59ffb8cca7fa8abc1c51754a2b6ac711e328a77e8c513880078f48a", func := "loop.example/g01984/laws.FnExactOwnerOf", spec := "fnExactOwnerOf", apart := false }
def FnExactOwnerOfSaid : Prop := fnExactOwnerOfRow.holds Try.pinned (OpenSpec.ofChange fnExactOwnerOfSpec)

/-- ITS FALSE NEIGHBOUR: 'it returns false'. Refute it at one input. -/
def fnExactOwnerOfWrong : ChangeSpec := { name := "fnExactOwnerOf", fn := fun _ => fun
  | [d1, d2] => { results := [.lit (.bool false)], args := [d1, d2] }
  | _ => none }
def FnExactOwnerOfWrongFalsely : Prop := fnExactOwnerOfRow.holds Try.pinned (OpenSpec.ofChange fnExactOwnerOfWrong)

/-- 'laws.FnExactScanRange': WHATEVER THE INPUT: true; the input reads as it did. -/
def fnExactScanRangeSpec : ChangeSpec := { name := "fnExactScanRange", fn := fun _ => fun
  | [d1, d2] => { results := [.lit (.bool true)], args := [d1, d2] }
  | _ => none }
def fnExactScanRangeRow : OpenClaim := { program := "ytmekpkajpjnkgaa", sum := "d28a5759c59ffb8cca7fa8abc1c51754a2b6ac711e328a77e8c513880078f48a", func := "loop.example/g01984/laws.FnExactScanRange", spec := "fnExactScanRange", apart := false }
def FnExactScanRangeSaid : Prop := fnExactScanRangeRow.holds Try.pinned (OpenSpec.ofChange fnExactScanRangeSpec)

/-- ITS FALSE NEIGHBOUR: 'it returns false'. Refute it at one input. -/
def fnExactScanRangeWrong : ChangeSpec := { name := "fnExactScanRange", fn := fun _ => fun
  | [d1, d2] => { results := [.lit (.bool false)], args := [d1, d2] }
  | _ => none }
def FnExactScanRangeWrongFalsely : Prop := fnExactScanRangeRow.holds Try.pinned (OpenSpec.ofChange fnExactScanRangeWrong)

/-- 'laws.FnExactSwapsOf': WHATEVER THE INPUT: true; the input reads as it did. -/
def fnExactSwapsOfSpec : ChangeSpec := { name := "fnExactSwapsOf", fn := fun _ => fun
  | [d1, d2] => { results := [.lit (.bool true)], args := [d1, d2] }
  | _ => none }
def fnExactSwapsOfRow : OpenClaim := { program := "ytmekpkajpjnkgaa", sum := "d28a5759c59ffb8cca7fa8abc1c51754a2b6ac711e328a77e8c513880078f48a", func := "loop.example/g01984/laws.FnExactSwapsOf", spec := "fnExactSwapsOf", apart := false }
def FnExactSwapsOfSaid : Prop := fnExactSwapsOfRow.holds Try.pinned (OpenSpec.ofChange fnExactSwapsOfSpec)

/-- ITS FALSE NEIGHBOUR: 'it returns false'. Refute it at one input. -/
def fnExactSwapsOfWrong : ChangeSpec := { name := "fnExactSwapsOf", fn := fun _ => fun
  | [d1, d2] => { results := [.lit (.bool false)], args := [d1, d2] }
  | _ => none }
def FnExactSwapsOfWrongFalsely : Prop := fnExactSwapsOfRow.holds Try.pinned (OpenSpec.ofChange fnExactSwapsOfWrong)

/-- 'laws.FnExactFindPivot': WHATEVER THE INPUT: true; the input reads as it did. -/
def fnExactFindPivotSpec : ChangeSpec := { name := "fnExactFindPivot", fn := fun _ => fun
  | [d1, d2] => { results := [.lit (.bool true)], args := [d1, d2] }
  | _ => none }
def fnExactFindPivotRow : OpenClaim := { program := "ytmekpkajpjnkgaa", sum := "d28a5759c59ffb8cca7fa8abc1c51754a2b6ac711e328a77e8c513880078f48a", func := "loop.example/g01984/laws.FnExactFindPivot", spec := "fnExactFindPivot", apart := false }
def FnExactFindPivotSaid : Prop := fnExactFindPivotRow.holds Try.pinned (OpenSpec.ofChange fnExactFindPivotSpec)

/-- ITS FALSE NEIGHBOUR: 'it returns false'. Refute it at one input. -/
def fnExactFindPivotWrong : ChangeSpec := { name := "fnExactFindPivot", fn := fun _ => fun
  | [d1, d2] => { results := [.lit (.bool false)], args := [d1, d2] }
  | _ => none }
def FnExactFindPivotWrongFalsely : Prop := fnExactFindPivotRow.holds Try.pinned (OpenSpec.ofChange fnExactFindPivotWrong)

/-- 'laws.FnExactFindRow': WHATEVER THE INPUT: true; the input reads as it did. -/
def fnExactFindRowSpec : ChangeSpec := { name := "fnExactFindRow", fn := fun _ => fun
  | [d1, d2] => { results := [.lit (.bool true)], args := [d1, d2] }
  | _ => none }
def fnExactFindRowRow : OpenClaim := { program := "ytmekpkajpjnkgaa", sum := "d28a5759c59ffb8cca7fa8abc1c51754a2b6ac711e328a77e8c513880078f48a", func := "loop.example/g01984/laws.FnExactFindRow", spec := "fnExactFindRow", apart := false }
def FnExactFindRowSaid : Prop := fnExactFindRowRow.holds Try.pinned (OpenSpec.ofChange fnExactFindRowSpec)

/-- ITS FALSE NEIGHBOUR: 'it returns false'. Refute it at one input. -/
def fnExactFindRowWrong : ChangeSpec := { name := "fnExactFindRow", fn := fun _ => fun
  | [d1, d2] => { results := [.lit (.bool false)], args := [d1, d2] }
  | _ => none }
def FnExactFindRowWrongFalsely : Prop := fnExactFindRowRow.holds Try.pinned (OpenSpec.ofChange fnExactFindRowWrong)

/-- 'laws.FnExactFindColumn': WHATEVER THE INPUT: true; the input reads as it did. -/
def fnExactFindColumnSpec : ChangeSpec := { name := "fnExactFindColumn", fn := fun _ => fun
  | [d1, d2] => { results := [.lit (.bool true)], args := [d1, d2] }
  | _ => none }
def fnExactFindColumnRow : OpenClaim := { program := "ytmekpkajpjnkgaa", sum := "d28a5759c59ffb8cca7fa8abc1c51754a2b6ac711e328a77e8c513880078f48a", func := "loop.example/g01984/laws.FnExactFindColumn", spec := "fnExactFindColumn", unfollowed := true, recurses := true, apart := false }
def FnExactFindColumnSaid : Prop := fnExactFindColumnRow.holds Try.pinned (OpenSpec.ofChange fnExactFindColumnSpec)

/-- ITS FALSE NEIGHBOUR: 'it returns false'. Refute it at one input. -/
def fnExactFindColumnWrong : ChangeSpec := { name := "fnExactFindColumn", fn := fun _ => fun
  | [d1, d2] => { results := [.lit (.bool false)], args := [d1, d2] }
  | _ => none }
def FnExactFindColumnWrongFalsely : Prop := fnExactFindColumnRow.holds Try.pinned (OpenSpec.ofChange fnExactFindColumnWrong)

/-- 'laws.FnExactPartition': WHATEVER THE INPUT: true; the input reads as it did. -/
def fnExactPartitionSpec : ChangeSpec := { name := "fnExactPartition", fn := fun _ => fun
  | [d1, d2, d3, d4] => { results := [.lit (.bool true)], args := [d1, d2, d3, d4] }
  | _ => none }
def fnExactPartitionRow : OpenClaim := { program := "ytmekpkajpjnkgaa", sum := "d28a5759c59ffb8cca7fa8abc1c51754a2b6ac711e328a77e8c513880078f48a", func := "loop.example/g01984/laws.FnExactPartition", spec := "fnExactPartition", apart := false }
def FnExactPartitionSaid : Prop := fnExactPartitionRow.holds Try.pinned (OpenSpec.ofChange fnExactPartitionSpec)

/-- ITS FALSE NEIGHBOUR: 'it returns false'. Refute it at one input. -/
def fnExactPartitionWrong : ChangeSpec := { name := "fnExactPartition", fn := fun _ => fun
  | [d1, d2, d3, d4] => { results := [.lit (.bool false)], args := [d1, d2, d3, d4] }
  | _ => none }
def FnExactPartitionWrongFalsely : Prop := fnExactPartitionRow.holds Try.pinned (OpenSpec.ofChange fnExactPartitionWrong)

/-- 'laws.FnExactEqualCrackers': WHATEVER THE INPUT: true; the input reads as it did. -/
def fnExactEqualCrackersSpec : ChangeSpec := { name := "fnExactEqualCrackers", fn := fun _ => fun
  | [d1, d2] => { results := [.lit (.bool true)], args := [d1, d2] }
  | _ => none }
def fnExactEqualCrackersRow : OpenClaim := { program := "ytmekpkajpjnkgaa", sum := "d28a5759c59ffb8cca7fa8abc1c51754a2b6ac711e328a77e8c513880078f48a", func := "loop.example/g01984/laws.FnExactEqualCrackers", spec := "fnExactEqualCrackers", apart := false }
def FnExactEqualCrackersSaid : Prop := fnExactEqualCrackersRow.holds Try.pinned (OpenSpec.ofChange fnExactEqualCrackersSpec)

/-- ITS FALSE NEIGHBOUR: 'it returns false'. Refute it at one input. -/
def fnExactEqualCrackersWrong : ChangeSpec := { name := "fnExactEqualCrackers", fn := fun _ => fun
  | [d1, d2] => { results := [.lit (.bool false)], args := [d1, d2] }
  | _ => none }
def FnExactEqualCrackersWrongFalsely : Prop := fnExactEqualCrackersRow.holds Try.pinned (OpenSpec.ofChange fnExactEqualCrackersWrong)

/-- 'laws.FnExactNewCracker': WHATEVER THE INPUT: true; the input reads as it did. -/
def fnExactNewCrackerSpec : ChangeSpec := { name := "fnExactNewCracker", fn := fun _ => fun
  | [d] => { results := [.lit (.bool true)], args := [d] }
  | _ => none }
def fnExactNewCrackerRow : OpenClaim := { program := "ytmekpkajpjnkgaa", sum := "d28a5759c59ffb8cca7fa8abc1c51754a2b6ac711e328a77e8c513880078f48a", func := "loop.example/g01984/laws.FnExactNewCracker", spec := "fnExactNewCracker", unfollowed := true, recurses := true, apart := false }
def FnExactNewCrackerSaid : Prop := fnExactNewCrackerRow.holds Try.pinned (OpenSpec.ofChange fnExactNewCrackerSpec)

/-- ITS FALSE NEIGHBOUR: 'it returns false'. Refute it at one input. -/
def fnExactNewCrackerWrong : ChangeSpec := { name := "fnExactNewCracker", fn := fun _ => fun
  | [d] => { results := [.lit (.bool false)], args := [d] }
  | _ => none }
def FnExactNewCrackerWrongFalsely : Prop := fnExactNewCrackerRow.holds Try.pinned (OpenSpec.ofChange fnExactNewCrackerWrong)

/-- 'laws.FnExactIsTable': WHATEVER THE INPUT: true; the input reads as it did. -/
def fnExactIsTableSpec : ChangeSpec := { name := "fnExactIsTable", fn := fun _ => fun
  | [d] => { results := [.lit (.bool true)], args := [d] }
  | _ => none }
def fnExactIsTableRow : OpenClaim := { program := "ytmekpkajpjnkgaa", sum := "d28a5759c59ffb8cca7fa8abc1c51754a2b6ac711e328a77e8c513880078f48a", func := "loop.example/g01984/laws.FnExactIsTable", spec := "fnExactIsTable", unfollowed := true, recurses := true, apart := false }
def FnExactIsTableSaid : Prop := fnExactIsTableRow.holds Try.pinned (OpenSpec.ofChange fnExactIsTableSpec)

/-- ITS FALSE NEIGHBOUR: 'it returns false'. Refute it at one input. -/
def fnExactIsTableWrong : ChangeSpec := { name := "fnExactIsTable", fn := fun _ => fun
  | [d] => { results := [.lit (.bool false)], args := [d] }
  | _ => none }
def FnExactIsTableWrongFalsely : Prop := fnExactIsTableRow.holds Try.pinned (OpenSpec.ofChange fnExactIsTableWrong)

/-- 'laws.FnPartitions': WHATEVER THE INPUT: true; the input reads as it did. -/
def fnPartitionsSpec : ChangeSpec := { name := "fnPartitions", fn := fun _ => fun
  | [d] => { results := [.lit (.bool true)], args := [d] }
  | _ => none }
def fnPartitionsRow : OpenClaim := { program := "ytmekpkajpjnkgaa", sum := "d28a5759c59ffb8cca7fa8abc1c51754a2b6ac711e328a77e8c513880078f48a", func := "loop.example/g01984/laws.FnPartitions", spec := "fnPartitions", apart := false }
def FnPartitionsSaid : Prop := fnPartitionsRow.holds Try.pinned (OpenSpec.ofChange fnPartitionsSpec)

/-- ITS FALSE NEIGHBOUR: 'it returns false'. Refute it at one input. -/
def fnPartitionsWrong : ChangeSpec := { name := "fnPartitions", fn := fun _ => fun
  | [d] => { results := [.lit (.bool false)], args := [d] }
  | _ => none }
def FnPartitionsWrongFalsely : Prop := fnPartitionsRow.holds Try.pinned (OpenSpec.ofChange fnPartitionsWrong)

/- THE SECOND FORM. 'bulk': how many values and letters a reading holds, each counted each time it is reached (what is shared counts as often as it is met; a slice's spare places count too). A statement '..UptoSaid' is the law's where the arguments, and the package variables that the reading takes, are together of bulk at most 1048576: NARROWER than '..Said'. Prove '..Said' where nothing that the law and all that it calls make is longer than what came in: it says more and counts as full. Else prove '..UptoSaid'. A law counts once. -/
mutual
def uptoBulk {H : Type} : DataW H → Nat
  | .lit (.string bytes) => bytes.length + 1
  | .lit _ => 1
  | .nil => 1
  | .ptr d => uptoBulk d + 1
  | .slice elems spare => uptoBulkAll elems + uptoBulkAll spare + 1
  | .agg parts => uptoBulkAll parts + 1
  | .iface _ d => uptoBulk d + 1
  | .map entries => uptoBulkEntries entries + 1
  | .held _ => 1
def uptoBulkAll {H : Type} : List (DataW H) → Nat
  | [] => 0
  | d :: r => uptoBulk d + uptoBulkAll r
def uptoBulkEntries {H : Type} : List (Lit × DataW H) → Nat
  | [] => 0
  | x :: r => uptoBulkEntry x + uptoBulkEntries r
def uptoBulkEntry {H : Type} : Lit × DataW H → Nat
  | (.string bytes, d) => bytes.length + uptoBulk d + 1
  | (_, d) => uptoBulk d + 1
 end
def uptoSmall : (H : Type) → List (DataW H) → Bool := fun _ ds => decide (uptoBulkAll ds ≤ 1048576)
def OpenSpec.upto (s : _root_.Go.ChangeSpec) : _root_.Go.OpenSpec := { _root_.Go.OpenSpec.ofChange s with cond := some uptoSmall }

/-- 'laws.FnExactEncodeVarint', WHERE WHAT IT READS IS OF BULK AT MOST 1048576: true; the input reads as it did. -/
def fnExactEncodeVarintUptoRow : OpenClaim := { program := "ytmekpkajpjnkgaa", sum := "d28a5759c59ffb8cca7fa8abc1c51754a2b6ac711e328a77e8c513880078f48a", func := "loop.example/g01984/laws.FnExactEncodeVarint", spec := "fnExactEncodeVarint", apart := false, narrowed := true }
def FnExactEncodeVarintUptoSaid : Prop := fnExactEncodeVarintUptoRow.holds Try.pinned (OpenSpec.upto fnExactEncodeVarintSpec)

/-- 'laws.FnExactEncodeFixed', WHERE WHAT IT READS IS OF BULK AT MOST 1048576: true; the input reads as it did. -/
def fnExactEncodeFixedUptoRow : OpenClaim := { program := "ytmekpkajpjnkgaa", sum := "d28a5759c59ffb8cca7fa8abc1c51754a2b6ac711e328a77e8c513880078f48a", func := "loop.example/g01984/laws.FnExactEncodeFixed", spec := "fnExactEncodeFixed", apart := false, narrowed := true }
def FnExactEncodeFixedUptoSaid : Prop := fnExactEncodeFixedUptoRow.holds Try.pinned (OpenSpec.upto fnExactEncodeFixedSpec)

/-- 'laws.FnExactWorstQuery', WHERE WHAT IT READS IS OF BULK AT MOST 1048576: true; the input reads as it did. -/
def fnExactWorstQueryUptoRow : OpenClaim := { program := "ytmekpkajpjnkgaa", sum := "d28a5759c59ffb8cca7fa8abc1c51754a2b6ac711e328a77e8c513880078f48a", func := "loop.example/g01984/laws.FnExactWorstQuery", spec := "fnExactWorstQuery", apart := false, narrowed := true }
def FnExactWorstQueryUptoSaid : Prop := fnExactWorstQueryUptoRow.holds Try.pinned (OpenSpec.upto fnExactWorstQuerySpec)

/-- 'laws.FnExactMeetRanges', WHERE WHAT IT READS IS OF BULK AT MOST 1048576: true; the input reads as it did. -/
def fnExactMeetRangesUptoRow : OpenClaim := { program := "ytmekpkajpjnkgaa", sum := "d28a5759c59ffb8cca7fa8abc1c51754a2b6ac711e328a77e8c513880078f48a", func := "loop.example/g01984/laws.FnExactMeetRanges", spec := "fnExactMeetRanges", apart := false, narrowed := true }
def FnExactMeetRangesUptoSaid : Prop := fnExactMeetRangesUptoRow.holds Try.pinned (OpenSpec.upto fnExactMeetRangesSpec)

/-- 'laws.FnExactDecodeHex', WHERE WHAT IT READS IS OF BULK AT MOST 1048576: true; the input reads as it did. -/
def fnExactDecodeHexUptoRow : OpenClaim := { program := "ytmekpkajpjnkgaa", sum := "d28a5759c59ffb8cca7fa8abc1c51754a2b6ac711e328a77e8c513880078f48a", func := "loop.example/g01984/laws.FnExactDecodeHex", spec := "fnExactDecodeHex", inPlace := ["internal/bytealg.IndexByteString"], apart := false, narrowed := true }
def FnExactDecodeHexUptoSaid : Prop := fnExactDecodeHexUptoRow.holds Try.pinned (OpenSpec.upto fnExactDecodeHexSpec)

/-- 'laws.FnExactAreValues', WHERE WHAT IT READS IS OF BULK AT MOST 1048576: true; the input reads as it did. -/
def fnExactAreValuesUptoRow : OpenClaim := { program := "ytmekpkajpjnkgaa", sum := "d28a5759c59ffb8cca7fa8abc1c51754a2b6ac711e328a77e8c513880078f48a", func := "loop.example/g01984/laws.FnExactAreValues", spec := "fnExactAreValues", unfollowed := true, recurses := true, apart := false, narrowed := true }
def FnExactAreValuesUptoSaid : Prop := fnExactAreValuesUptoRow.holds Try.pinned (OpenSpec.upto fnExactAreValuesSpec)

/-- 'laws.FnExactDecodeVarint', WHERE WHAT IT READS IS OF BULK AT MOST 1048576: true; the input reads as it did. -/
def fnExactDecodeVarintUptoRow : OpenClaim := { program := "ytmekpkajpjnkgaa", sum := "d28a5759c59ffb8cca7fa8abc1c51754a2b6ac711e328a77e8c513880078f48a", func := "loop.example/g01984/laws.FnExactDecodeVarint", spec := "fnExactDecodeVarint", apart := false, narrowed := true }
def FnExactDecodeVarintUptoSaid : Prop := fnExactDecodeVarintUptoRow.holds Try.pinned (OpenSpec.upto fnExactDecodeVarintSpec)

/-- 'laws.FnExactSwapBound', WHERE WHAT IT READS IS OF BULK AT MOST 1048576: true; the input reads as it did. -/
def fnExactSwapBoundUptoRow : OpenClaim := { program := "ytmekpkajpjnkgaa", sum := "d28a5759c59ffb8cca7fa8abc1c51754a2b6ac711e328a77e8c513880078f48a", func := "loop.example/g01984/laws.FnExactSwapBound", spec := "fnExactSwapBound", apart := false, narrowed := true }
def FnExactSwapBoundUptoSaid : Prop := fnExactSwapBoundUptoRow.holds Try.pinned (OpenSpec.upto fnExactSwapBoundSpec)

/-- 'laws.FnExactTotalSwaps', WHERE WHAT IT READS IS OF BULK AT MOST 1048576: true; the input reads as it did. -/
def fnExactTotalSwapsUptoRow : OpenClaim := { program := "ytmekpkajpjnkgaa", sum := "d28a5759c59ffb8cca7fa8abc1c51754a2b6ac711e328a77e8c513880078f48a", func := "loop.example/g01984/laws.FnExactTotalSwaps", spec := "fnExactTotalSwaps", apart := false, narrowed := true }
def FnExactTotalSwapsUptoSaid : Prop := fnExactTotalSwapsUptoRow.holds Try.pinned (OpenSpec.upto fnExactTotalSwapsSpec)

/-- 'laws.FnExactOwnerOf', WHERE WHAT IT READS IS OF BULK AT MOST 1048576: true; the input reads as it did. -/
def fnExactOwnerOfUptoRow : OpenClaim := { program := "ytmekpkajpjnkgaa", sum := "d28a5759c59ffb8cca7fa8abc1c51754a2b6ac711e328a77e8c513880078f48a", func := "loop.example/g01984/laws.FnExactOwnerOf", spec := "fnExactOwnerOf", apart := false, narrowed := true }
def FnExactOwnerOfUptoSaid : Prop := fnExactOwnerOfUptoRow.holds Try.pinned (OpenSpec.upto fnExactOwnerOfSpec)

/-- 'laws.FnExactScanRange', WHERE WHAT IT READS IS OF BULK AT MOST 1048576: true; the input reads as it did. -/
def fnExactScanRangeUptoRow : OpenClaim := { program := "ytmekpkajpjnkgaa", sum := "d28a5759c59ffb8cca7fa8abc1c51754a2b6ac711e328a77e8c513880078f48a", func := "loop.example/g01984/laws.FnExactScanRange", spec := "fnExactScanRange", apart := false, narrowed := true }
def FnExactScanRangeUptoSaid : Prop := fnExactScanRangeUptoRow.holds Try.pinned (OpenSpec.upto fnExactScanRangeSpec)

/-- 'laws.FnExactSwapsOf', WHERE WHAT IT READS IS OF BULK AT MOST 1048576: true; the input reads as it did. -/
def fnExactSwapsOfUptoRow : OpenClaim := { program := "ytmekpkajpjnkgaa", sum := "d28a5759c59ffb8cca7fa8abc1c51754a2b6ac711e328a77e8c513880078f48a", func := "loop.example/g01984/laws.FnExactSwapsOf", spec := "fnExactSwapsOf", apart := false, narrowed := true }
def FnExactSwapsOfUptoSaid : Prop := fnExactSwapsOfUptoRow.holds Try.pinned (OpenSpec.upto fnExactSwapsOfSpec)

/-- 'laws.FnExactFindPivot', WHERE WHAT IT READS IS OF BULK AT MOST 1048576: true; the input reads as it did. -/
def fnExactFindPivotUptoRow : OpenClaim := { program := "ytmekpkajpjnkgaa", sum := "d28a5759c59ffb8cca7fa8abc1c51754a2b6ac711e328a77e8c513880078f48a", func := "loop.example/g01984/laws.FnExactFindPivot", spec := "fnExactFindPivot", apart := false, narrowed := true }
def FnExactFindPivotUptoSaid : Prop := fnExactFindPivotUptoRow.holds Try.pinned (OpenSpec.upto fnExactFindPivotSpec)

/-- 'laws.FnExactFindRow', WHERE WHAT IT READS IS OF BULK AT MOST 1048576: true; the input reads as it did. -/
def fnExactFindRowUptoRow : OpenClaim := { program := "ytmekpkajpjnkgaa", sum := "d28a5759c59ffb8cca7fa8abc1c51754a2b6ac711e328a77e8c513880078f48a", func := "loop.example/g01984/laws.FnExactFindRow", spec := "fnExactFindRow", apart := false, narrowed := true }
def FnExactFindRowUptoSaid : Prop := fnExactFindRowUptoRow.holds Try.pinned (OpenSpec.upto fnExactFindRowSpec)

/-- 'laws.FnExactFindColumn', WHERE WHAT IT READS IS OF BULK AT MOST 1048576: true; the input reads as it did. -/
def fnExactFindColumnUptoRow : OpenClaim := { program := "ytmekpkajpjnkgaa", sum := "d28a5759c59ffb8cca7fa8abc1c51754a2b6ac711e328a77e8c513880078f48a", func := "loop.example/g01984/laws.FnExactFindColumn", spec := "fnExactFindColumn", unfollowed := true, recurses := true, apart := false, narrowed := true }
def FnExactFindColumnUptoSaid : Prop := fnExactFindColumnUptoRow.holds Try.pinned (OpenSpec.upto fnExactFindColumnSpec)

/-- 'laws.FnExactPartition', WHERE WHAT IT READS IS OF BULK AT MOST 1048576: true; the input reads as it did. -/
def fnExactPartitionUptoRow : OpenClaim := { program := "ytmekpkajpjnkgaa", sum := "d28a5759c59ffb8cca7fa8abc1c51754a2b6ac711e328a77e8c513880078f48a", func := "loop.example/g01984/laws.FnExactPartition", spec := "fnExactPartition", apart := false, narrowed := true }
def FnExactPartitionUptoSaid : Prop := fnExactPartitionUptoRow.holds Try.pinned (OpenSpec.upto fnExactPartitionSpec)

/-- 'laws.FnExactEqualCrackers', WHERE WHAT IT READS IS OF BULK AT MOST 1048576: true; the input reads as it did. -/
def fnExactEqualCrackersUptoRow : OpenClaim := { program := "ytmekpkajpjnkgaa", sum := "d28a5759c59ffb8cca7fa8abc1c51754a2b6ac711e328a77e8c513880078f48a", func := "loop.example/g01984/laws.FnExactEqualCrackers", spec := "fnExactEqualCrackers", apart := false, narrowed := true }
def FnExactEqualCrackersUptoSaid : Prop := fnExactEqualCrackersUptoRow.holds Try.pinned (OpenSpec.upto fnExactEqualCrackersSpec)

/-- 'laws.FnExactNewCracker', WHERE WHAT IT READS IS OF BULK AT MOST 1048576: true; the input reads as it did. -/
def fnExactNewCrackerUptoRow : OpenClaim := { program := "ytmekpkajpjnkgaa", sum := "d28a5759c59ffb8cca7fa8abc1c51754a2b6ac711e328a77e8c513880078f48a", func := "loop.example/g01984/laws.FnExactNewCracker", spec := "fnExactNewCracker", unfollowed := true, recurses := true, apart := false, narrowed := true }
def FnExactNewCrackerUptoSaid : Prop := fnExactNewCrackerUptoRow.holds Try.pinned (OpenSpec.upto fnExactNewCrackerSpec)

/-- 'laws.FnExactIsTable', WHERE WHAT IT READS IS OF BULK AT MOST 1048576: true; the input reads as it did. -/
def fnExactIsTableUptoRow : OpenClaim := { program := "ytmekpkajpjnkgaa", sum := "d28a5759c59ffb8cca7fa8abc1c51754a2b6ac711e328a77e8c513880078f48a", func := "loop.example/g01984/laws.FnExactIsTable", spec := "fnExactIsTable", unfollowed := true, recurses := true, apart := false, narrowed := true }
def FnExactIsTableUptoSaid : Prop := fnExactIsTableUptoRow.holds Try.pinned (OpenSpec.upto fnExactIsTableSpec)

/-- 'laws.FnPartitions', WHERE WHAT IT READS IS OF BULK AT MOST 1048576: true; the input reads as it did. -/
def fnPartitionsUptoRow : OpenClaim := { program := "ytmekpkajpjnkgaa", sum := "d28a5759c59ffb8cca7fa8abc1c51754a2b6ac711e328a77e8c513880078f48a", func := "loop.example/g01984/laws.FnPartitions", spec := "fnPartitions", apart := false, narrowed := true }
def FnPartitionsUptoSaid : Prop := fnPartitionsUptoRow.holds Try.pinned (OpenSpec.upto fnPartitionsSpec)

end Rows
end Go.Proofs.Ytmekpkajpjnkgaa
