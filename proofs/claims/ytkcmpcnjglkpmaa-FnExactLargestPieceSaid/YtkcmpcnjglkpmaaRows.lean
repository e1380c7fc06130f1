/-
  No cell of these rows narrows 'for every input' (looked for: loops, veiled, ifaces, maps, wideKeys, modest, calm, conditions, laid).
  DERIVED. THE GIVEN ROWS OF THIS SEAT. 7 by the template 'for every input the law returns true; each argument reads behind the call as it read before'; 0 by the template 'total and deterministic' (their statements: YtkcmpcnjglkpmaaTotals.lean).
  GIVEN WITH THE SEED: the statements are not yours to turn. If you find one false, say at which input.
  Laid BY PROGRAM, IN A SANDBOX (cutbox-rows.mjs): the forced cells as the released guide's own fill.sh prints them over the translation e6e664dc8a6dc0ae… (all of the seat's roots in one cut). By AI agents, Wed Nov 11 2026. No macro, syntax, notation, axiom, sorry.
-/
import Derived.Test.YtkcmpcnjglkpmaaChecked
import GoSem.Claim
import GoSem.ClaimJoined
import GoSem.ClaimMapViews
import Derived.JoinedTies
import Derived.KernelRfl
namespace Go.Proofs.Ytkcmpcnjglkpmaa
/- THE CELL 'sum', in the pinned program and in every row, IS THE sha256 OF THE DUMP (.gsa) THAT YtkcmpcnjglkpmaaProg.lean LOADS. Nothing in Lean hashes anything: it is a label: what it is worth is what the hold of that sum in a sandbox is worth. -/
noncomputable def Try.pinned : Pinned := { name := "ytkcmpcnjglkpmaa", sum := "e6e664dc8a6dc0aee26442f33822bdef3f0802b01468659104b79e32b0c88ae0", checked := Try.checked }
namespace Rows
def none {H : Type} : Left H := { results := [], args := [] }

/-- 'laws.FnExactRowCount': WHATEVER THE INPUT: true; the input reads as it did. -/
def fnExactRowCountSpec : ChangeSpec := { name := "fnExactRowCount", fn := fun _ => fun
  | [d] => { results := [.lit (.bool true)], args := [d] }
  | _ => none }
def fnExactRowCountRow : OpenClaim := { program := "ytkcmpcnjglkpmaa", sum := "e6e664dc8a6dc0aee26442f33822bdef3f0802b01468659104b79e32b0c88ae0", func := "loop.example/g01984/laws.FnExactRowCount", spec := "fnExactRowCount", unfollowed := true, recurses := true, apart := false }
def FnExactRowCountSaid : Prop := fnExactRowCountRow.holds Try.pinned (OpenSpec.ofChange fnExactRowCountSpec)

/-- ITS FALSE NEIGHBOUR: 'it returns false'. Refute it at one input. -/
def fnExactRowCountWrong : ChangeSpec := { name := "fnExactRowCount", fn := fun _ => fun
  | [d] => { results := [.lit (.bool false)], args := [d] }
  | _ => none }
def FnExactRowCountWrongFalsely : Prop := fnExactRowCountRow.holds Try.pinned (OpenSpec.ofChange fnExactRowCountWrong)

/-- 'laws.FnExactIsCracker': WHATEVER THE INPUT: true; the input reads as it did. -/
def fnExactIsCrackerSpec : ChangeSpec := { name := "fnExactIsCracker", fn := fun _ => fun
  | [d] => { results := [.lit (.bool true)], args := [d] }
  | _ => none }
def fnExactIsCrackerRow : OpenClaim := { program := "ytkcmpcnjglkpmaa", sum := "e6e664dc8a6dc0aee26442f33822bdef3f0802b01468659104b79e32b0c88ae0", func := "loop.example/g01984/laws.FnExactIsCracker", spec := "fnExactIsCracker", unfollowed := true, recurses := true, apart := false }
def FnExactIsCrackerSaid : Prop := fnExactIsCrackerRow.holds Try.pinned (OpenSpec.ofChange fnExactIsCrackerSpec)

/-- ITS FALSE NEIGHBOUR: 'it returns false'. Refute it at one input. -/
def fnExactIsCrackerWrong : ChangeSpec := { name := "fnExactIsCracker", fn := fun _ => fun
  | [d] => { results := [.lit (.bool false)], args := [d] }
  | _ => none }
def FnExactIsCrackerWrongFalsely : Prop := fnExactIsCrackerRow.holds Try.pinned (OpenSpec.ofChange fnExactIsCrackerWrong)

/-- 'laws.FnExactPieceOf': WHATEVER THE INPUT: true; the input reads as it did. -/
def fnExactPieceOfSpec : ChangeSpec := { name := "fnExactPieceOf", fn := fun _ => fun
  | [d1, d2] => { results := [.lit (.bool true)], args := [d1, d2] }
  | _ => none }
def fnExactPieceOfRow : OpenClaim := { program := "ytkcmpcnjglkpmaa", sum := "e6e664dc8a6dc0aee26442f33822bdef3f0802b01468659104b79e32b0c88ae0", func := "loop.example/g01984/laws.FnExactPieceOf", spec := "fnExactPieceOf", unfollowed := true, recurses := true, apart := false }
def FnExactPieceOfSaid : Prop := fnExactPieceOfRow.holds Try.pinned (OpenSpec.ofChange fnExactPieceOfSpec)

/-- ITS FALSE NEIGHBOUR: 'it returns false'. Refute it at one input. -/
def fnExactPieceOfWrong : ChangeSpec := { name := "fnExactPieceOf", fn := fun _ => fun
  | [d1, d2] => { results := [.lit (.bool false)], args := [d1, d2] }
  | _ => none }
def FnExactPieceOfWrongFalsely : Prop := fnExactPieceOfRow.holds Try.pinned (OpenSpec.ofChange fnExactPieceOfWrong)

/-- 'laws.FnExactCountPieces': WHATEVER THE INPUT: true; the input reads as it did. -/
def fnExactCountPiecesSpec : ChangeSpec := { name := "fnExactCountPieces", fn := fun _ => fun
  | [d] => { results := [.lit (.bool true)], args := [d] }
  | _ => none }
def fnExactCountPiecesRow : OpenClaim := { program := "ytkcmpcnjglkpmaa", sum := "e6e664dc8a6dc0aee26442f33822bdef3f0802b01468659104b79e32b0c88ae0", func := "loop.example/g01984/laws.FnExactCountPieces", spec := "fnExactCountPieces", unfollowed := true, recurses := true, apart := false }
def FnExactCountPiecesSaid : Prop := fnExactCountPiecesRow.holds Try.pinned (OpenSpec.ofChange fnExactCountPiecesSpec)

/-- ITS FALSE NEIGHBOUR: 'it returns false'. Refute it at one input. -/
def fnExactCountPiecesWrong : ChangeSpec := { name := "fnExactCountPieces", fn := fun _ => fun
  | [d] => { results := [.lit (.bool false)], args := [d] }
  | _ => none }
def FnExactCountPiecesWrongFalsely : Prop := fnExactCountPiecesRow.holds Try.pinned (OpenSpec.ofChange fnExactCountPiecesWrong)

/-- 'laws.FnExactLargestPiece': WHATEVER THE INPUT: true; the input reads as it did. -/
def fnExactLargestPieceSpec : ChangeSpec := { name := "fnExactLargestPiece", fn := fun _ => fun
  | [d] => { results := [.lit (.bool true)], args := [d] }
  | _ => none }
def fnExactLargestPieceRow : OpenClaim := { program := "ytkcmpcnjglkpmaa", sum := "e6e664dc8a6dc0aee26442f33822bdef3f0802b01468659104b79e32b0c88ae0", func := "loop.example/g01984/laws.FnExactLargestPiece", spec := "fnExactLargestPiece", unfollowed := true, recurses := true, apart := false }
def FnExactLargestPieceSaid : Prop := fnExactLargestPieceRow.holds Try.pinned (OpenSpec.ofChange fnExactLargestPieceSpec)

/-- ITS FALSE NEIGHBOUR: 'it returns false'. Refute it at one input. -/
def fnExactLargestPieceWrong : ChangeSpec := { name := "fnExactLargestPiece", fn := fun _ => fun
  | [d] => { results := [.lit (.bool false)], args := [d] }
  | _ => none }
def FnExactLargestPieceWrongFalsely : Prop := fnExactLargestPieceRow.holds Try.pinned (OpenSpec.ofChange fnExactLargestPieceWrong)

/-- 'laws.FnExactColumnOf': WHATEVER THE INPUT: true; the input reads as it did. -/
def fnExactColumnOfSpec : ChangeSpec := { name := "fnExactColumnOf", fn := fun _ => fun
  | [d1, d2] => { results := [.lit (.bool true)], args := [d1, d2] }
  | _ => none }
def fnExactColumnOfRow : OpenClaim := { program := "ytkcmpcnjglkpmaa", sum := "e6e664dc8a6dc0aee26442f33822bdef3f0802b01468659104b79e32b0c88ae0", func := "loop.example/g01984/laws.FnExactColumnOf", spec := "fnExactColumnOf", unfollowed := true, recurses := true, apart := false }
def FnExactColumnOfSaid : Prop := fnExactColumnOfRow.holds Try.pinned (OpenSpec.ofChange fnExactColumnOfSpec)

/-- ITS FALSE NEIGHBOUR: 'it returns false'. Refute it at one input. -/
def fnExactColumnOfWrong : ChangeSpec := { name := "fnExactColumnOf", fn := fun _ => fun
  | [d1, d2] => { results := [.lit (.bool false)], args := [d1, d2] }
  | _ => none }
def FnExactColumnOfWrongFalsely : Prop := fnExactColumnOfRow.holds Try.pinned (OpenSpec.ofChange fnExactColumnOfWrong)

/-- 'laws.FnExactApplySwaps': WHATEVER THE INPUT: true; the input reads as it did. -/
def fnExactApplySwapsSpec : ChangeSpec := { name := "fnExactApplySwaps", fn := fun _ => fun
  | [d1, d2] => { results := [.lit (.bool true)], args := [d1, d2] }
  | _ => none }
def fnExactApplySwapsRow : OpenClaim := { program := "ytkcmpcnjglkpmaa", sum := "e6e664dc8a6dc0aee26442f33822bdef3f0802b01468659104b79e32b0c88ae0", func := "loop.example/g01984/laws.FnExactApplySwaps", spec := "fnExactApplySwaps", apart := false }
def FnExactApplySwapsSaid : Prop := fnExactApplySwapsRow.holds Try.pinned (OpenSpec.ofChange fnExactApplySwapsSpec)

/-- ITS FALSE NEIGHBOUR: 'it returns false'. Refute it at one input. -/
def fnExactApplySwapsWrong : ChangeSpec := { name := "fnExactApplySwaps", fn := fun _ => fun
  | [d1, d2] => { results := [.lit (.bool false)], args := [d1, d2] }
  | _ => none }
def FnExactApplySwapsWrongFalsely : Prop := fnExactApplySwapsRow.holds Try.pinned (OpenSpec.ofChange fnExactApplySwapsWrong)

/- THE SECOND FORM. 'bulk': how many values and letters a reading holds, each counted each time it is reached (what is shared counts as often as it is met; a slice's spare places count too). A statement '..UptoSaid' is the law's where the arguments, and the package variables that the reading takes, are together of bulk at most 1048576: NARROWER than '..Said'. Prove '..Said' where nothing that the law and all that it calls make is longer than what came in: it says more and counts as full. Else prove '..UptoSaid'. A law counts once. -/
mutual
def uptoBulk {H : Type} : DataW H → Nat
  | .lit (.string bytes) => bytes.length + 1
  | .lit _ => 1
  | .nil => 1
  | .ptr d => uptoBulk d + 1
  | .slice elems spare => uptoBulkAll elems + uptoBulkAll spare + 1
  | .agg parts => uptoBulkAll parts + 1
  | .iface _ d => uptoBulk d + 1
  | .map entries => uptoBulkEntries entries + 1
  | .held _ => 1
def uptoBulkAll {H : Type} : List (DataW H) → Nat
  | [] => 0
  | d :: r => uptoBulk d + uptoBulkAll r
def uptoBulkEntries {H : Type} : List (Lit × DataW H) → Nat
  | [] => 0
  | x :: r => uptoBulkEntry x + uptoBulkEntries r
def uptoBulkEntry {H : Type} : Lit × DataW H → Nat
  | (.string bytes, d) => bytes.length + uptoBulk d + 1
  | (_, d) => uptoBulk d + 1
 end
def uptoSmall : (H : Type) → List (DataW H) → Bool := fun _ ds => decide (uptoBulkAll ds ≤ 1048576)
def OpenSpec.upto (s : _root_.Go.ChangeSpec) : _root_.Go.OpenSpec := { _root_.Go.OpenSpec.ofChange s with cond := some uptoSmall }

/-- 'laws.FnExactRowCount', WHERE WHAT IT READS IS OF BULK AT MOST 1048576: true; the input reads as it did. -/
def fnExactRowCountUptoRow : OpenClaim := { program := "ytkcmpcnjglkpmaa", sum := "e6e664dc8a6dc0aee26442f33822bdef3f0802b01468659104b79e32b0c88ae0", func := "loop.example/g01984/laws.FnExactRowCount", spec := "fnExactRowCount", unfollowed := true, recurses := true, apart := false, narrowed := true }
def FnExactRowCountUptoSaid : Prop := fnExactRowCountUptoRow.holds Try.pinned (OpenSpec.upto fnExactRowCountSpec)

/-- 'laws.FnExactIsCracker', WHERE WHAT IT READS IS OF BULK AT MOST 1048576: true; the input reads as it did. -/
def fnExactIsCrackerUptoRow : OpenClaim := { program := "ytkcmpcnjglkpmaa", sum := "e6e664dc8a6dc0aee26442f33822bdef3f0802b01468659104b79e32b0c88ae0", func := "loop.example/g01984/laws.FnExactIsCracker", spec := "fnExactIsCracker", unfollowed := true, recurses := true, apart := false, narrowed := true }
def FnExactIsCrackerUptoSaid : Prop := fnExactIsCrackerUptoRow.holds Try.pinned (OpenSpec.upto fnExactIsCrackerSpec)

/-- 'laws.FnExactPieceOf', WHERE WHAT IT READS IS OF BULK AT MOST 1048576: true; the input reads as it did. -/
def fnExactPieceOfUptoRow : OpenClaim := { program := "ytkcmpcnjglkpmaa", sum := "e6e664dc8a6dc0aee26442f33822bdef3f0802b01468659104b79e32b0c88ae0", func := "loop.example/g01984/laws.FnExactPieceOf", spec := "fnExactPieceOf", unfollowed := true, recurses := true, apart := false, narrowed := true }
def FnExactPieceOfUptoSaid : Prop := fnExactPieceOfUptoRow.holds Try.pinned (OpenSpec.upto fnExactPieceOfSpec)

/-- 'laws.FnExactCountPieces', WHERE WHAT IT READS IS OF BULK AT MOST 1048576: true; the input reads as it did. -/
def fnExactCountPiecesUptoRow : OpenClaim := { program := "ytkcmpcnjglkpmaa", sum := "e6e664dc8a6dc0aee26442f33822bdef3f0802b01468659104b79e32b0c88ae0", func := "loop.example/g01984/laws.FnExactCountPieces", spec := "fnExactCountPieces", unfollowed := true, recurses := true, apart := false, narrowed := true }
def FnExactCountPiecesUptoSaid : Prop := fnExactCountPiecesUptoRow.holds Try.pinned (OpenSpec.upto fnExactCountPiecesSpec)

/-- 'laws.FnExactLargestPiece', WHERE WHAT IT READS IS OF BULK AT MOST 1048576: true; the input reads as it did. -/
def fnExactLargestPieceUptoRow : OpenClaim := { program := "ytkcmpcnjglkpmaa", sum := "e6e664dc8a6dc0aee26442f33822bdef3f0802b01468659104b79e32b0c88ae0", func := "loop.example/g01984/laws.FnExactLargestPiece", spec := "fnExactLargestPiece", unfollowed := true, recurses := true, apart := false, narrowed := true }
def FnExactLargestPieceUptoSaid : Prop := fnExactLargestPieceUptoRow.holds Try.pinned (OpenSpec.upto fnExactLargestPieceSpec)

/-- 'laws.FnExactColumnOf', WHERE WHAT IT READS IS OF BULK AT MOST 1048576: true; the input reads as it did. -/
def fnExactColumnOfUptoRow : OpenClaim := { program := "ytkcmpcnjglkpmaa", sum := "e6e664dc8a6dc0aee26442f33822bdef3f0802b01468659104b79e32b0c88ae0", func := "loop.example/g01984/laws.FnExactColumnOf", spec := "fnExactColumnOf", unfollowed := true, recurses := true, apart := false, narrowed := true }
def FnExactColumnOfUptoSaid : Prop := fnExactColumnOfUptoRow.holds Try.pinned (OpenSpec.upto fnExactColumnOfSpec)

/-- 'laws.FnExactApplySwaps', WHERE WHAT IT READS IS OF BULK AT MOST 1048576: true; the input reads as it did. -/
def fnExactApplySwapsUptoRow : OpenClaim := { program := "ytkcmpcnjglkpmaa", sum := "e6e664dc8a6dc0aee26442f33822bdef3f0802b01468659104b79e32b0c88ae0", func := "loop.example/g01984/laws.FnExactApplySwaps", spec := "fnExactApplySwaps", apart := false, narrowed := true }
def FnExactApplySwapsUptoSaid : Prop := fnExactApplySwapsUptoRow.holds Try.pinned (OpenSpec.upto fnExactApplySwapsSpec)

end Rows
end Go.Proofs.Ytkcmpcnjglkpmaa
