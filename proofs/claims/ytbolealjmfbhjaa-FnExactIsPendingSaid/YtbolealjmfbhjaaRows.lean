/-
  No cell of these rows narrows 'for every input' (looked for: loops, veiled, ifaces, maps, wideKeys, modest, calm, conditions, laid).
  DERIVED. THE GIVEN ROWS OF THIS SEAT. 9 by the template 'for every input the law returns true; each argument reads behind the call as it read before'; 0 by the template 'total and deterministic' (their statements: YtbolealjmfbhjaaTotals.lean).
  GIVEN WITH THE SEED: the statements are not yours to turn. If you find one false, say at which input.
  Laid BY PROGRAM, IN A SANDBOX (cutbox-rows.mjs): the forced cells as the released guide's own fill.sh prints them over the translation c66a1bdd13772d7b… (all of the seat's roots in one cut). By AI agents, Wed Nov 11 2026. No macro, syntax, notation, axiom, sorry.
-/
import Derived.Test.YtbolealjmfbhjaaChecked
import GoSem.Claim
import GoSem.ClaimJoined
import GoSem.ClaimMapViews
import Derived.JoinedTies
import Derived.KernelRfl
namespace Go.Proofs.Ytbolealjmfbhjaa
/- THE CELL 'sum', in the pinned program and in every row, IS THE sha256 OF THE DUMP (.gsa) THAT YtbolealjmfbhjaaProg.lean LOADS. Nothing in Lean hashes anything: it is a label: what it is worth is what the hold of that sum in a sandbox is worth. -/
noncomputable def Try.pinned : Pinned := { name := "ytbolealjmfbhjaa", sum := "c66a1bdd13772d7b9f514bd442e263c1ea71b078269d49759a635337294186a0", checked := Try.checked }
namespace Rows
def none {H : Type} : Left H := { results := [], args := [] }

/-- 'laws.FnExactIsCracker': WHATEVER THE INPUT: true; the input reads as it did. -/
def fnExactIsCrackerSpec : ChangeSpec := { name := "fnExactIsCracker", fn := fun _ => fun
  | [d] => { results := [.lit (.bool true)], args := [d] }
  | _ => none }
def fnExactIsCrackerRow : OpenClaim := { program := "ytbolealjmfbhjaa", sum := "c66a1bdd13772d7b9f514bd442e263c1ea71b078269d49759a635337294186a0", func := "loop.example/g01984/laws.FnExactIsCracker", spec := "fnExactIsCracker", unfollowed := true, recurses := true, apart := false }
def FnExactIsCrackerSaid : Prop := fnExactIsCrackerRow.holds Try.pinned (OpenSpec.ofChange fnExactIsCrackerSpec)

/-- ITS FALSE NEIGHBOUR: 'it returns false'. Refute it at one input. -/
def fnExactIsCrackerWrong : ChangeSpec := { name := "fnExactIsCracker", fn := fun _ => fun
  | [d] => { results := [.lit (.bool false)], args := [d] }
  | _ => none }
def FnExactIsCrackerWrongFalsely : Prop := fnExactIsCrackerRow.holds Try.pinned (OpenSpec.ofChange fnExactIsCrackerWrong)

/-- 'laws.FnExactRowCount': WHATEVER THE INPUT: true; the input reads as it did. -/
def fnExactRowCountSpec : ChangeSpec := { name := "fnExactRowCount", fn := fun _ => fun
  | [d] => { results := [.lit (.bool true)], args := [d] }
  | _ => none }
def fnExactRowCountRow : OpenClaim := { program := "ytbolealjmfbhjaa", sum := "c66a1bdd13772d7b9f514bd442e263c1ea71b078269d49759a635337294186a0", func := "loop.example/g01984/laws.FnExactRowCount", spec := "fnExactRowCount", unfollowed := true, recurses := true, apart := false }
def FnExactRowCountSaid : Prop := fnExactRowCountRow.holds Try.pinned (OpenSpec.ofChange fnExactRowCountSpec)

/-- ITS FALSE NEIGHBOUR: 'it returns false'. Refute it at one input. -/
def fnExactRowCountWrong : ChangeSpec := { name := "fnExactRowCount", fn := fun _ => fun
  | [d] => { results := [.lit (.bool false)], args := [d] }
  | _ => none }
def FnExactRowCountWrongFalsely : Prop := fnExactRowCountRow.holds Try.pinned (OpenSpec.ofChange fnExactRowCountWrong)

/-- 'laws.FnExactPieceOf': WHATEVER THE INPUT: true; the input reads as it did. -/
def fnExactPieceOfSpec : ChangeSpec := { name := "fnExactPieceOf", fn := fun _ => fun
  | [d1, d2] => { results := [.lit (.bool true)], args := [d1, d2] }
  | _ => none }
def fnExactPieceOfRow : OpenClaim := { program := "ytbolealjmfbhjaa", sum := "c66a1bdd13772d7b9f514bd442e263c1ea71b078269d49759a635337294186a0", func := "loop.example/g01984/laws.FnExactPieceOf", spec := "fnExactPieceOf", unfollowed := true, recurses := true, apart := false }
def FnExactPieceOfSaid : Prop := fnExactPieceOfRow.holds Try.pinned (OpenSpec.ofChange fnExactPieceOfSpec)

/-- ITS FALSE NEIGHBOUR: 'it returns false'. Refute it at one input. -/
def fnExactPieceOfWrong : ChangeSpec := { name := "fnExactPieceOf", fn := fun _ => fun
  | [d1, d2] => { results := [.lit (.bool false)], args := [d1, d2] }
  | _ => none }
def FnExactPieceOfWrongFalsely : Prop := fnExactPieceOfRow.holds Try.pinned (OpenSpec.ofChange fnExactPieceOfWrong)

/-- 'laws.FnExactCountPieces': WHATEVER THE INPUT: true; the input reads as it did. -/
def fnExactCountPiecesSpec : ChangeSpec := { name := "fnExactCountPieces", fn := fun _ => fun
  | [d] => { results := [.lit (.bool true)], args := [d] }
  | _ => none }
def fnExactCountPiecesRow : OpenClaim := { program := "ytbolealjmfbhjaa", sum := "c66a1bdd13772d7b9f514bd442e263c1ea71b078269d49759a635337294186a0", func := "loop.example/g01984/laws.FnExactCountPieces", spec := "fnExactCountPieces", unfollowed := true, recurses := true, apart := false }
def FnExactCountPiecesSaid : Prop := fnExactCountPiecesRow.holds Try.pinned (OpenSpec.ofChange fnExactCountPiecesSpec)

/-- ITS FALSE NEIGHBOUR: 'it returns false'. Refute it at one input. -/
def fnExactCountPiecesWrong : ChangeSpec := { name := "fnExactCountPieces", fn := fun _ => fun
  | [d] => { results := [.lit (.bool false)], args := [d] }
  | _ => none }
def FnExactCountPiecesWrongFalsely : Prop := fnExactCountPiecesRow.holds Try.pinned (OpenSpec.ofChange fnExactCountPiecesWrong)

/-- 'laws.FnExactLargestPiece': WHATEVER THE INPUT: true; the input reads as it did. -/
def fnExactLargestPieceSpec : ChangeSpec := { name := "fnExactLargestPiece", fn := fun _ => fun
  | [d] => { results := [.lit (.bool true)], args := [d] }
  | _ => none }
def fnExactLargestPieceRow : OpenClaim := { program := "ytbolealjmfbhjaa", sum := "c66a1bdd13772d7b9f514bd442e263c1ea71b078269d49759a635337294186a0", func := "loop.example/g01984/laws.FnExactLargestPiece", spec := "fnExactLargestPiece", unfollowed := true, recurses := true, apart := false }
def FnExactLargestPieceSaid : Prop := fnExactLargestPieceRow.holds Try.pinned (OpenSpec.ofChange fnExactLargestPieceSpec)

/-- ITS FALSE NEIGHBOUR: 'it returns false'. Refute it at one input. -/
def fnExactLargestPieceWrong : ChangeSpec := { name := "fnExactLargestPiece", fn := fun _ => fun
  | [d] => { results := [.lit (.bool false)], args := [d] }
  | _ => none }
def FnExactLargestPieceWrongFalsely : Prop := fnExactLargestPieceRow.holds Try.pinned (OpenSpec.ofChange fnExactLargestPieceWrong)

/-- 'laws.FnExactMedianOf': WHATEVER THE INPUT: true; the input reads as it did. -/
def fnExactMedianOfSpec : ChangeSpec := { name := "fnExactMedianOf", fn := fun _ => fun
  | [d] => { results := [.lit (.bool true)], args := [d] }
  | _ => none }
def fnExactMedianOfRow : OpenClaim := { program := "ytbolealjmfbhjaa", sum := "c66a1bdd13772d7b9f514bd442e263c1ea71b078269d49759a635337294186a0", func := "loop.example/g01984/laws.FnExactMedianOf", spec := "fnExactMedianOf", recurses := true, apart := false }
def FnExactMedianOfSaid : Prop := fnExactMedianOfRow.holds Try.pinned (OpenSpec.ofChange fnExactMedianOfSpec)

/-- ITS FALSE NEIGHBOUR: 'it returns false'. Refute it at one input. -/
def fnExactMedianOfWrong : ChangeSpec := { name := "fnExactMedianOf", fn := fun _ => fun
  | [d] => { results := [.lit (.bool false)], args := [d] }
  | _ => none }
def FnExactMedianOfWrongFalsely : Prop := fnExactMedianOfRow.holds Try.pinned (OpenSpec.ofChange fnExactMedianOfWrong)

/-- 'laws.FnExactSortInts': WHATEVER THE INPUT: true; the input reads as it did. -/
def fnExactSortIntsSpec : ChangeSpec := { name := "fnExactSortInts", fn := fun _ => fun
  | [d] => { results := [.lit (.bool true)], args := [d] }
  | _ => none }
def fnExactSortIntsRow : OpenClaim := { program := "ytbolealjmfbhjaa", sum := "c66a1bdd13772d7b9f514bd442e263c1ea71b078269d49759a635337294186a0", func := "loop.example/g01984/laws.FnExactSortInts", spec := "fnExactSortInts", recurses := true, apart := false }
def FnExactSortIntsSaid : Prop := fnExactSortIntsRow.holds Try.pinned (OpenSpec.ofChange fnExactSortIntsSpec)

/-- ITS FALSE NEIGHBOUR: 'it returns false'. Refute it at one input. -/
def fnExactSortIntsWrong : ChangeSpec := { name := "fnExactSortInts", fn := fun _ => fun
  | [d] => { results := [.lit (.bool false)], args := [d] }
  | _ => none }
def FnExactSortIntsWrongFalsely : Prop := fnExactSortIntsRow.holds Try.pinned (OpenSpec.ofChange fnExactSortIntsWrong)

/-- 'laws.FnExactIsPending': WHATEVER THE INPUT: true; the input reads as it did. -/
def fnExactIsPendingSpec : ChangeSpec := { name := "fnExactIsPending", fn := fun _ => fun
  | [d1, d2] => { results := [.lit (.bool true)], args := [d1, d2] }
  | _ => none }
def fnExactIsPendingRow : OpenClaim := { program := "ytbolealjmfbhjaa", sum := "c66a1bdd13772d7b9f514bd442e263c1ea71b078269d49759a635337294186a0", func := "loop.example/g01984/laws.FnExactIsPending", spec := "fnExactIsPending", unfollowed := true, recurses := true, apart := false }
def FnExactIsPendingSaid : Prop := fnExactIsPendingRow.holds Try.pinned (OpenSpec.ofChange fnExactIsPendingSpec)

/-- ITS FALSE NEIGHBOUR: 'it returns false'. Refute it at one input. -/
def fnExactIsPendingWrong : ChangeSpec := { name := "fnExactIsPending", fn := fun _ => fun
  | [d1, d2] => { results := [.lit (.bool false)], args := [d1, d2] }
  | _ => none }
def FnExactIsPendingWrongFalsely : Prop := fnExactIsPendingRow.holds Try.pinned (OpenSpec.ofChange fnExactIsPendingWrong)

/-- 'laws.FnExactAddPivot': WHATEVER THE INPUT: true; the input reads as it did. -/
def fnExactAddPivotSpec : ChangeSpec := { name := "fnExactAddPivot", fn := fun _ => fun
  | [d1, d2] => { results := [.lit (.bool true)], args := [d1, d2] }
  | _ => none }
def fnExactAddPivotRow : OpenClaim := { program := "ytbolealjmfbhjaa", sum := "c66a1bdd13772d7b9f514bd442e263c1ea71b078269d49759a635337294186a0", func := "loop.example/g01984/laws.FnExactAddPivot", spec := "fnExactAddPivot", inPlace := ["slices.overlaps[loop.example/g01984/impl.Pivot]"], unfollowed := true, recurses := true, apart := false }
def FnExactAddPivotSaid : Prop := fnExactAddPivotRow.holds Try.pinned (OpenSpec.ofChange fnExactAddPivotSpec)

/-- ITS FALSE NEIGHBOUR: 'it returns false'. Refute it at one input. -/
def fnExactAddPivotWrong : ChangeSpec := { name := "fnExactAddPivot", fn := fun _ => fun
  | [d1, d2] => { results := [.lit (.bool false)], args := [d1, d2] }
  | _ => none }
def FnExactAddPivotWrongFalsely : Prop := fnExactAddPivotRow.holds Try.pinned (OpenSpec.ofChange fnExactAddPivotWrong)

/- THE SECOND FORM. 'bulk': how many values and letters a reading holds, each counted each time it is reached (what is shared counts as often as it is met; a slice's spare places count too). A statement '..UptoSaid' is the law's where the arguments, and the package variables that the reading takes, are together of bulk at most 1048576: NARROWER than '..Said'. Prove '..Said' where nothing that the law and all that it calls make is longer than what came in: it says more and counts as full. Else prove '..UptoSaid'. A law counts once. -/
mutual
def uptoBulk {H : Type} : DataW H → Nat
  | .lit (.string bytes) => bytes.length + 1
  | .lit _ => 1
  | .nil => 1
  | .ptr d => uptoBulk d + 1
  | .slice elems spare => uptoBulkAll elems + uptoBulkAll spare + 1
  | .agg parts => uptoBulkAll parts + 1
  | .iface _ d => uptoBulk d + 1
  | .map entries => uptoBulkEntries entries + 1
  | .held _ => 1
def uptoBulkAll {H : Type} : List (DataW H) → Nat
  | [] => 0
  | d :: r => uptoBulk d + uptoBulkAll r
def uptoBulkEntries {H : Type} : List (Lit × DataW H) → Nat
  | [] => 0
  | x :: r => uptoBulkEntry x + uptoBulkEntries r
def uptoBulkEntry {H : Type} : Lit × DataW H → Nat
  | (.string bytes, d) => bytes.length + uptoBulk d + 1
  | (_, d) => uptoBulk d + 1
 end
def uptoSmall : (H : Type) → List (DataW H) → Bool := fun _ ds => decide (uptoBulkAll ds ≤ 1048576)
def OpenSpec.upto (s : _root_.Go.ChangeSpec) : _root_.Go.OpenSpec := { _root_.Go.OpenSpec.ofChange s with cond := some uptoSmall }

/-- 'laws.FnExactIsCracker', WHERE WHAT IT READS IS OF BULK AT MOST 1048576: true; the input reads as it did. -/
def fnExactIsCrackerUptoRow : OpenClaim := { program := "ytbolealjmfbhjaa", sum := "c66a1bdd13772d7b9f514bd442e263c1ea71b078269d49759a635337294186a0", func := "loop.example/g01984/laws.FnExactIsCracker", spec := "fnExactIsCracker", unfollowed := true, recurses := true, apart := false, narrowed := true }
def FnExactIsCrackerUptoSaid : Prop := fnExactIsCrackerUptoRow.holds Try.pinned (OpenSpec.upto fnExactIsCrackerSpec)

/-- 'laws.FnExactRowCount', WHERE WHAT IT READS IS OF BULK AT MOST 1048576: true; the input reads as it did. -/
def fnExactRowCountUptoRow : OpenClaim := { program := "ytbolealjmfbhjaa", sum := "c66a1bdd13772d7b9f514bd442e263c1ea71b078269d49759a635337294186a0", func := "loop.example/g01984/laws.FnExactRowCount", spec := "fnExactRowCount", unfollowed := true, recurses := true, apart := false, narrowed := true }
def FnExactRowCountUptoSaid : Prop := fnExactRowCountUptoRow.holds Try.pinned (OpenSpec.upto fnExactRowCountSpec)

/-- 'laws.FnExactPieceOf', WHERE WHAT IT READS IS OF BULK AT MOST 1048576: true; the input reads as it did. -/
def fnExactPieceOfUptoRow : OpenClaim := { program := "ytbolealjmfbhjaa", sum := "c66a1bdd13772d7b9f514bd442e263c1ea71b078269d49759a635337294186a0", func := "loop.example/g01984/laws.FnExactPieceOf", spec := "fnExactPieceOf", unfollowed := true, recurses := true, apart := false, narrowed := true }
def FnExactPieceOfUptoSaid : Prop := fnExactPieceOfUptoRow.holds Try.pinned (OpenSpec.upto fnExactPieceOfSpec)

/-- 'laws.FnExactCountPieces', WHERE WHAT IT READS IS OF BULK AT MOST 1048576: true; the input reads as it did. -/
def fnExactCountPiecesUptoRow : OpenClaim := { program := "ytbolealjmfbhjaa", sum := "c66a1bdd13772d7b9f514bd442e263c1ea71b078269d49759a635337294186a0", func := "loop.example/g01984/laws.FnExactCountPieces", spec := "fnExactCountPieces", unfollowed := true, recurses := true, apart := false, narrowed := true }
def FnExactCountPiecesUptoSaid : Prop := fnExactCountPiecesUptoRow.holds Try.pinned (OpenSpec.upto fnExactCountPiecesSpec)

/-- 'laws.FnExactLargestPiece', WHERE WHAT IT READS IS OF BULK AT MOST 1048576: true; the input reads as it did. -/
def fnExactLargestPieceUptoRow : OpenClaim := { program := "ytbolealjmfbhjaa", sum := "c66a1bdd13772d7b9f514bd442e263c1ea71b078269d49759a635337294186a0", func := "loop.example/g01984/laws.FnExactLargestPiece", spec := "fnExactLargestPiece", unfollowed := true, recurses := true, apart := false, narrowed := true }
def FnExactLargestPieceUptoSaid : Prop := fnExactLargestPieceUptoRow.holds Try.pinned (OpenSpec.upto fnExactLargestPieceSpec)

/-- 'laws.FnExactMedianOf', WHERE WHAT IT READS IS OF BULK AT MOST 1048576: true; the input reads as it did. -/
def fnExactMedianOfUptoRow : OpenClaim := { program := "ytbolealjmfbhjaa", sum := "c66a1bdd13772d7b9f514bd442e263c1ea71b078269d49759a635337294186a0", func := "loop.example/g01984/laws.FnExactMedianOf", spec := "fnExactMedianOf", recurses := true, apart := false, narrowed := true }
def FnExactMedianOfUptoSaid : Prop := fnExactMedianOfUptoRow.holds Try.pinned (OpenSpec.upto fnExactMedianOfSpec)

/-- 'laws.FnExactSortInts', WHERE WHAT IT READS IS OF BULK AT MOST 1048576: true; the input reads as it did. -/
def fnExactSortIntsUptoRow : OpenClaim := { program := "ytbolealjmfbhjaa", sum := "c66a1bdd13772d7b9f514bd442e263c1ea71b078269d49759a635337294186a0", func := "loop.example/g01984/laws.FnExactSortInts", spec := "fnExactSortInts", recurses := true, apart := false, narrowed := true }
def FnExactSortIntsUptoSaid : Prop := fnExactSortIntsUptoRow.holds Try.pinned (OpenSpec.upto fnExactSortIntsSpec)

/-- 'laws.FnExactIsPending', WHERE WHAT IT READS IS OF BULK AT MOST 1048576: true; the input reads as it did. -/
def fnExactIsPendingUptoRow : OpenClaim := { program := "ytbolealjmfbhjaa", sum := "c66a1bdd13772d7b9f514bd442e263c1ea71b078269d49759a635337294186a0", func := "loop.example/g01984/laws.FnExactIsPending", spec := "fnExactIsPending", unfollowed := true, recurses := true, apart := false, narrowed := true }
def FnExactIsPendingUptoSaid : Prop := fnExactIsPendingUptoRow.holds Try.pinned (OpenSpec.upto fnExactIsPendingSpec)

/-- 'laws.FnExactAddPivot', WHERE WHAT IT READS IS OF BULK AT MOST 1048576: true; the input reads as it did. -/
def fnExactAddPivotUptoRow : OpenClaim := { program := "ytbolealjmfbhjaa", sum := "c66a1bdd13772d7b9f514bd442e263c1ea71b078269d49759a635337294186a0", func := "loop.example/g01984/laws.FnExactAddPivot", spec := "fnExactAddPivot", inPlace := ["slices.overlaps[loop.example/g01984/impl.Pivot]"], unfollowed := true, recurses := true, apart := false, narrowed := true }
def FnExactAddPivotUptoSaid : Prop := fnExactAddPivotUptoRow.holds Try.pinned (OpenSpec.upto fnExactAddPivotSpec)

end Rows
end Go.Proofs.Ytbolealjmfbhjaa
