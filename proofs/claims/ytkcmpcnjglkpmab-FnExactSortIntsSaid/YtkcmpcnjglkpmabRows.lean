/-
  No cell of these rows narrows 'for every input' (looked for: loops, veiled, ifaces, maps, wideKeys, modest, calm, conditions, laid).
  DERIVED. THE GIVEN ROWS OF THIS SEAT. 7 by the template 'for every input the law returns true; each argument reads behind the call as it read before'; 0 by the template 'total and deterministic' (their statements: YtkcmpcnjglkpmabTotals.lean).
  GIVEN WITH THE SEED: the statements are not yours to turn. If you find one false, say at which input.
  Laid BY PROGRAM, IN A SANDBOX (cutbox-rows.mjs): the forced cells as the released guide's own fill.sh prints them over the translation a68bd061096e8730… (all of the seat's roots in one cut). By AI agents, Wed Nov 11 2026. No macro, syntax, notation, axiom, sorry.
-/
import Derived.Test.YtkcmpcnjglkpmabChecked
import GoSem.Claim
import GoSem.ClaimJoined
import GoSem.ClaimMapViews
import Derived.JoinedTies
import Derived.KernelRfl
namespace Go.Proofs.Ytkcmpcnjglkpmab
/- THE CELL 'sum', in the pinned program and in every row, IS THE sha256 OF THE DUMP (.gsa) THAT YtkcmpcnjglkpmabProg.lean LOADS. Nothing in Lean hashes anything: it is a label: what it is worth is what the hold of that sum in a sandbox is worth. -/
noncomputable def Try.pinned : Pinned := { name := "ytkcmpcnjglkpmab", sum := "a68bd061096e8730a00c90ed90aec99735bfd9189c545bbea7c8bbd450e8de8e", checked := Try.checked }
namespace Rows
def none {H : Type} : Left H := { results := [], args := [] }

/-- 'laws.FnExactUndoSwaps': WHATEVER THE INPUT: true; the input reads as it did. -/
def fnExactUndoSwapsSpec : ChangeSpec := { name := "fnExactUndoSwaps", fn := fun _ => fun
  | [d1, d2] => { results := [.lit (.bool true)], args := [d1, d2] }
  | _ => none }
def fnExactUndoSwapsRow : OpenClaim := { program := "ytkcmpcnjglkpmab", sum := "a68bd061096e8730a00c90ed90aec99735bfd9189c545bbea7c8bbd450e8de8e", func := "loop.example/g01984/laws.FnExactUndoSwaps", spec := "fnExactUndoSwaps", apart := false }
def FnExactUndoSwapsSaid : Prop := fnExactUndoSwapsRow.holds Try.pinned (OpenSpec.ofChange fnExactUndoSwapsSpec)

/-- ITS FALSE NEIGHBOUR: 'it returns false'. Refute it at one input. -/
def fnExactUndoSwapsWrong : ChangeSpec := { name := "fnExactUndoSwaps", fn := fun _ => fun
  | [d1, d2] => { results := [.lit (.bool false)], args := [d1, d2] }
  | _ => none }
def FnExactUndoSwapsWrongFalsely : Prop := fnExactUndoSwapsRow.holds Try.pinned (OpenSpec.ofChange fnExactUndoSwapsWrong)

/-- 'laws.FnExactIsPending': WHATEVER THE INPUT: true; the input reads as it did. -/
def fnExactIsPendingSpec : ChangeSpec := { name := "fnExactIsPending", fn := fun _ => fun
  | [d1, d2] => { results := [.lit (.bool true)], args := [d1, d2] }
  | _ => none }
def fnExactIsPendingRow : OpenClaim := { program := "ytkcmpcnjglkpmab", sum := "a68bd061096e8730a00c90ed90aec99735bfd9189c545bbea7c8bbd450e8de8e", func := "loop.example/g01984/laws.FnExactIsPending", spec := "fnExactIsPending", unfollowed := true, recurses := true, apart := false }
def FnExactIsPendingSaid : Prop := fnExactIsPendingRow.holds Try.pinned (OpenSpec.ofChange fnExactIsPendingSpec)

/-- ITS FALSE NEIGHBOUR: 'it returns false'. Refute it at one input. -/
def fnExactIsPendingWrong : ChangeSpec := { name := "fnExactIsPending", fn := fun _ => fun
  | [d1, d2] => { results := [.lit (.bool false)], args := [d1, d2] }
  | _ => none }
def FnExactIsPendingWrongFalsely : Prop := fnExactIsPendingRow.holds Try.pinned (OpenSpec.ofChange fnExactIsPendingWrong)

/-- 'laws.FnExactRippleDelete': WHATEVER THE INPUT: true; the input reads as it did. -/
def fnExactRippleDeleteSpec : ChangeSpec := { name := "fnExactRippleDelete", fn := fun _ => fun
  | [d1, d2] => { results := [.lit (.bool true)], args := [d1, d2] }
  | _ => none }
def fnExactRippleDeleteRow : OpenClaim := { program := "ytkcmpcnjglkpmab", sum := "a68bd061096e8730a00c90ed90aec99735bfd9189c545bbea7c8bbd450e8de8e", func := "loop.example/g01984/laws.FnExactRippleDelete", spec := "fnExactRippleDelete", unfollowed := true, recurses := true, apart := false }
def FnExactRippleDeleteSaid : Prop := fnExactRippleDeleteRow.holds Try.pinned (OpenSpec.ofChange fnExactRippleDeleteSpec)

/-- ITS FALSE NEIGHBOUR: 'it returns false'. Refute it at one input. -/
def fnExactRippleDeleteWrong : ChangeSpec := { name := "fnExactRippleDelete", fn := fun _ => fun
  | [d1, d2] => { results := [.lit (.bool false)], args := [d1, d2] }
  | _ => none }
def FnExactRippleDeleteWrongFalsely : Prop := fnExactRippleDeleteRow.holds Try.pinned (OpenSpec.ofChange fnExactRippleDeleteWrong)

/-- 'laws.FnExactRippleInsert': WHATEVER THE INPUT: true; the input reads as it did. -/
def fnExactRippleInsertSpec : ChangeSpec := { name := "fnExactRippleInsert", fn := fun _ => fun
  | [d1, d2] => { results := [.lit (.bool true)], args := [d1, d2] }
  | _ => none }
def fnExactRippleInsertRow : OpenClaim := { program := "ytkcmpcnjglkpmab", sum := "a68bd061096e8730a00c90ed90aec99735bfd9189c545bbea7c8bbd450e8de8e", func := "loop.example/g01984/laws.FnExactRippleInsert", spec := "fnExactRippleInsert", unfollowed := true, recurses := true, apart := false }
def FnExactRippleInsertSaid : Prop := fnExactRippleInsertRow.holds Try.pinned (OpenSpec.ofChange fnExactRippleInsertSpec)

/-- ITS FALSE NEIGHBOUR: 'it returns false'. Refute it at one input. -/
def fnExactRippleInsertWrong : ChangeSpec := { name := "fnExactRippleInsert", fn := fun _ => fun
  | [d1, d2] => { results := [.lit (.bool false)], args := [d1, d2] }
  | _ => none }
def FnExactRippleInsertWrongFalsely : Prop := fnExactRippleInsertRow.holds Try.pinned (OpenSpec.ofChange fnExactRippleInsertWrong)

/-- 'laws.FnExactMedianOf': WHATEVER THE INPUT: true; the input reads as it did. -/
def fnExactMedianOfSpec : ChangeSpec := { name := "fnExactMedianOf", fn := fun _ => fun
  | [d] => { results := [.lit (.bool true)], args := [d] }
  | _ => none }
def fnExactMedianOfRow : OpenClaim := { program := "ytkcmpcnjglkpmab", sum := "a68bd061096e8730a00c90ed90aec99735bfd9189c545bbea7c8bbd450e8de8e", func := "loop.example/g01984/laws.FnExactMedianOf", spec := "fnExactMedianOf", recurses := true, apart := false }
def FnExactMedianOfSaid : Prop := fnExactMedianOfRow.holds Try.pinned (OpenSpec.ofChange fnExactMedianOfSpec)

/-- ITS FALSE NEIGHBOUR: 'it returns false'. Refute it at one input. -/
def fnExactMedianOfWrong : ChangeSpec := { name := "fnExactMedianOf", fn := fun _ => fun
  | [d] => { results := [.lit (.bool false)], args := [d] }
  | _ => none }
def FnExactMedianOfWrongFalsely : Prop := fnExactMedianOfRow.holds Try.pinned (OpenSpec.ofChange fnExactMedianOfWrong)

/-- 'laws.FnExactSortInts': WHATEVER THE INPUT: true; the input reads as it did. -/
def fnExactSortIntsSpec : ChangeSpec := { name := "fnExactSortInts", fn := fun _ => fun
  | [d] => { results := [.lit (.bool true)], args := [d] }
  | _ => none }
def fnExactSortIntsRow : OpenClaim := { program := "ytkcmpcnjglkpmab", sum := "a68bd061096e8730a00c90ed90aec99735bfd9189c545bbea7c8bbd450e8de8e", func := "loop.example/g01984/laws.FnExactSortInts", spec := "fnExactSortInts", recurses := true, apart := false }
def FnExactSortIntsSaid : Prop := fnExactSortIntsRow.holds Try.pinned (OpenSpec.ofChange fnExactSortIntsSpec)

/-- ITS FALSE NEIGHBOUR: 'it returns false'. Refute it at one input. -/
def fnExactSortIntsWrong : ChangeSpec := { name := "fnExactSortInts", fn := fun _ => fun
  | [d] => { results := [.lit (.bool false)], args := [d] }
  | _ => none }
def FnExactSortIntsWrongFalsely : Prop := fnExactSortIntsRow.holds Try.pinned (OpenSpec.ofChange fnExactSortIntsWrong)

/-- 'laws.FnExactAddPivot': WHATEVER THE INPUT: true; the input reads as it did. -/
def fnExactAddPivotSpec : ChangeSpec := { name := "fnExactAddPivot", fn := fun _ => fun
  | [d1, d2] => { results := [.lit (.bool true)], args := [d1, d2] }
  | _ => none }
def fnExactAddPivotRow : OpenClaim := { program := "ytkcmpcnjglkpmab", sum := "a68bd061096e8730a00c90ed90aec99735bfd9189c545bbea7c8bbd450e8de8e", func := "loop.example/g01984/laws.FnExactAddPivot", spec := "fnExactAddPivot", inPlace := ["slices.overlaps[loop.example/g01984/impl.Pivot]"], unfollowed := true, recurses := true, apart := false }
def FnExactAddPivotSaid : Prop := fnExactAddPivotRow.holds Try.pinned (OpenSpec.ofChange fnExactAddPivotSpec)

/-- ITS FALSE NEIGHBOUR: 'it returns false'. Refute it at one input. -/
def fnExactAddPivotWrong : ChangeSpec := { name := "fnExactAddPivot", fn := fun _ => fun
  | [d1, d2] => { results := [.lit (.bool false)], args := [d1, d2] }
  | _ => none }
def FnExactAddPivotWrongFalsely : Prop := fnExactAddPivotRow.holds Try.pinned (OpenSpec.ofChange fnExactAddPivotWrong)

/- THE SECOND FORM. 'bulk': how many values and letters a reading holds, each counted each time it is reached (what is shared counts as often as it is met; a slice's spare places count too). A statement '..UptoSaid' is the law's where the arguments, and the package variables that the reading takes, are together of bulk at most 1048576: NARROWER than '..Said'. Prove '..Said' where nothing that the law and all that it calls make is longer than what came in: it says more and counts as full. Else prove '..UptoSaid'. A law counts once. -/
mutual
def uptoBulk {H : Type} : DataW H → Nat
  | .lit (.string bytes) => bytes.length + 1
  | .lit _ => 1
  | .nil => 1
  | .ptr d => uptoBulk d + 1
  | .slice elems spare => uptoBulkAll elems + uptoBulkAll spare + 1
  | .agg parts => uptoBulkAll parts + 1
  | .iface _ d => uptoBulk d + 1
  | .map entries => uptoBulkEntries entries + 1
  | .held _ => 1
def uptoBulkAll {H : Type} : List (DataW H) → Nat
  | [] => 0
  | d :: r => uptoBulk d + uptoBulkAll r
def uptoBulkEntries {H : Type} : List (Lit × DataW H) → Nat
  | [] => 0
  | x :: r => uptoBulkEntry x + uptoBulkEntries r
def uptoBulkEntry {H : Type} : Lit × DataW H → Nat
  | (.string bytes, d) => bytes.length + uptoBulk d + 1
  | (_, d) => uptoBulk d + 1
 end
def uptoSmall : (H : Type) → List (DataW H) → Bool := fun _ ds => decide (uptoBulkAll ds ≤ 1048576)
def OpenSpec.upto (s : _root_.Go.ChangeSpec) : _root_.Go.OpenSpec := { _root_.Go.OpenSpec.ofChange s with cond := some uptoSmall }

/-- 'laws.FnExactUndoSwaps', WHERE WHAT IT READS IS OF BULK AT MOST 1048576: true; the input reads as it did. -/
def fnExactUndoSwapsUptoRow : OpenClaim := { program := "ytkcmpcnjglkpmab", sum := "a68bd061096e8730a00c90ed90aec99735bfd9189c545bbea7c8bbd450e8de8e", func := "loop.example/g01984/laws.FnExactUndoSwaps", spec := "fnExactUndoSwaps", apart := false, narrowed := true }
def FnExactUndoSwapsUptoSaid : Prop := fnExactUndoSwapsUptoRow.holds Try.pinned (OpenSpec.upto fnExactUndoSwapsSpec)

/-- 'laws.FnExactIsPending', WHERE WHAT IT READS IS OF BULK AT MOST 1048576: true; the input reads as it did. -/
def fnExactIsPendingUptoRow : OpenClaim := { program := "ytkcmpcnjglkpmab", sum := "a68bd061096e8730a00c90ed90aec99735bfd9189c545bbea7c8bbd450e8de8e", func := "loop.example/g01984/laws.FnExactIsPending", spec := "fnExactIsPending", unfollowed := true, recurses := true, apart := false, narrowed := true }
def FnExactIsPendingUptoSaid : Prop := fnExactIsPendingUptoRow.holds Try.pinned (OpenSpec.upto fnExactIsPendingSpec)

/-- 'laws.FnExactRippleDelete', WHERE WHAT IT READS IS OF BULK AT MOST 1048576: true; the input reads as it did. -/
def fnExactRippleDeleteUptoRow : OpenClaim := { program := "ytkcmpcnjglkpmab", sum := "a68bd061096e8730a00c90ed90aec99735bfd9189c545bbea7c8bbd450e8de8e", func := "loop.example/g01984/laws.FnExactRippleDelete", spec := "fnExactRippleDelete", unfollowed := true, recurses := true, apart := false, narrowed := true }
def FnExactRippleDeleteUptoSaid : Prop := fnExactRippleDeleteUptoRow.holds Try.pinned (OpenSpec.upto fnExactRippleDeleteSpec)

/-- 'laws.FnExactRippleInsert', WHERE WHAT IT READS IS OF BULK AT MOST 1048576: true; the input reads as it did. -/
def fnExactRippleInsertUptoRow : OpenClaim := { program := "ytkcmpcnjglkpmab", sum := "a68bd061096e8730a00c90ed90aec99735bfd9189c545bbea7c8bbd450e8de8e", func := "loop.example/g01984/laws.FnExactRippleInsert", spec := "fnExactRippleInsert", unfollowed := true, recurses := true, apart := false, narrowed := true }
def FnExactRippleInsertUptoSaid : Prop := fnExactRippleInsertUptoRow.holds Try.pinned (OpenSpec.upto fnExactRippleInsertSpec)

/-- 'laws.FnExactMedianOf', WHERE WHAT IT READS IS OF BULK AT MOST 1048576: true; the input reads as it did. -/
def fnExactMedianOfUptoRow : OpenClaim := { program := "ytkcmpcnjglkpmab", sum := "a68bd061096e8730a00c90ed90aec99735bfd9189c545bbea7c8bbd450e8de8e", func := "loop.example/g01984/laws.FnExactMedianOf", spec := "fnExactMedianOf", recurses := true, apart := false, narrowed := true }
def FnExactMedianOfUptoSaid : Prop := fnExactMedianOfUptoRow.holds Try.pinned (OpenSpec.upto fnExactMedianOfSpec)

/-- 'laws.FnExactSortInts', WHERE WHAT IT READS IS OF BULK AT MOST 1048576: true; the input reads as it did. -/
def fnExactSortIntsUptoRow : OpenClaim := { program := "ytkcmpcnjglkpmab", sum := "a68bd061096e8730a00c90ed90aec99735bfd9189c545bbea7c8bbd450e8de8e", func := "loop.example/g01984/laws.FnExactSortInts", spec := "fnExactSortInts", recurses := true, apart := false, narrowed := true }
def FnExactSortIntsUptoSaid : Prop := fnExactSortIntsUptoRow.holds Try.pinned (OpenSpec.upto fnExactSortIntsSpec)

/-- 'laws.FnExactAddPivot', WHERE WHAT IT READS IS OF BULK AT MOST 1048576: true; the input reads as it did. -/
def fnExactAddPivotUptoRow : OpenClaim := { program := "ytkcmpcnjglkpmab", sum := "a68bd061096e8730a00c90ed90aec99735bfd9189c545bbea7c8bbd450e8de8e", func := "loop.example/g01984/laws.FnExactAddPivot", spec := "fnExactAddPivot", inPlace := ["slices.overlaps[loop.example/g01984/impl.Pivot]"], unfollowed := true, recurses := true, apart := false, narrowed := true }
def FnExactAddPivotUptoSaid : Prop := fnExactAddPivotUptoRow.holds Try.pinned (OpenSpec.upto fnExactAddPivotSpec)

end Rows
end Go.Proofs.Ytkcmpcnjglkpmab
