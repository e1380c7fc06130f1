/-
  No cell of these rows narrows 'for every input' (looked for: loops, veiled, ifaces, maps, wideKeys, modest, calm, conditions, laid).
  DERIVED. THE GIVEN ROWS OF THIS SEAT. 3 by the template 'for every input the law returns true; each argument reads behind the call as it read before'; 0 by the template 'total and deterministic' (their statements: YtlikcmonejefoabTotals.lean).
  GIVEN WITH THE SEED: the statements are not yours to turn. If you find one false, say at which input.
  Laid BY PROGRAM, IN A SANDBOX (cutbox-rows.mjs): the forced cells as the released guide's own fill.sh prints them over the translation aab8f1619cbb4fc2… (all of the seat's roots in one cut). By AI agents, Wed Nov 11 2026. No macro, syntax, notation, axiom, sorry.
-/
import Derived.Test.YtlikcmonejefoabChecked
import GoSem.Claim
import GoSem.ClaimJoined
import GoSem.ClaimMapViews
import Derived.JoinedTies
import Derived.KernelRfl
namespace Go.Proofs.Ytlikcmonejefoab
/- THE CELL 'sum', in the pinned program and in every row, IS THE sha256 OF THE DUMP (.gsa) THAT YtlikcmonejefoabProg.lean LOADS. Nothing in Lean hashes anything: it is a label: what it is worth is what the hold of that sum in a sandbox is worth. -/
noncomputable def Try.pinned : Pinned := { name := "ytlikcmonejefoab", sum := "aab8f1619cbb4fc2115586002df14cd1b462eaccdc8dba1dc3ea084b60dc6dc8", checked := Try.checked }
namespace Rows
def none {H : Type} : Left H := { results := [], args := [] }

/-- 'laws.FnExactRippleDelete': WHATEVER THE INPUT: true; the input reads as it did. -/
def fnExactRippleDeleteSpec : ChangeSpec := { name := "fnExactRippleDelete", fn := fun _ => fun
  | [d1, d2] => { results := [.lit (.bool true)], args := [d1, d2] }
  | _ => none }
def fnExactRippleDeleteRow : OpenClaim := { program := "ytlikcmonejefoab", sum := "aab8f1619cbb4fc2115586002df14cd1b462eaccdc8dba1dc3ea084b60dc6dc8", func := "loop.example/g01984/laws.FnExactRippleDelete", spec := "fnExactRippleDelete", unfollowed := true, recurses := true, apart := false }
def FnExactRippleDeleteSaid : Prop := fnExactRippleDeleteRow.holds Try.pinned (OpenSpec.ofChange fnExactRippleDeleteSpec)

/-- ITS FALSE NEIGHBOUR: 'it returns false'. Refute it at one input. -/
def fnExactRippleDeleteWrong : ChangeSpec := { name := "fnExactRippleDelete", fn := fun _ => fun
  | [d1, d2] => { results := [.lit (.bool false)], args := [d1, d2] }
  | _ => none }
def FnExactRippleDeleteWrongFalsely : Prop := fnExactRippleDeleteRow.holds Try.pinned (OpenSpec.ofChange fnExactRippleDeleteWrong)

/-- 'laws.FnExactRippleInsert': WHATEVER THE INPUT: true; the input reads as it did. -/
def fnExactRippleInsertSpec : ChangeSpec := { name := "fnExactRippleInsert", fn := fun _ => fun
  | [d1, d2] => { results := [.lit (.bool true)], args := [d1, d2] }
  | _ => none }
def fnExactRippleInsertRow : OpenClaim := { program := "ytlikcmonejefoab", sum := "aab8f1619cbb4fc2115586002df14cd1b462eaccdc8dba1dc3ea084b60dc6dc8", func := "loop.example/g01984/laws.FnExactRippleInsert", spec := "fnExactRippleInsert", unfollowed := true, recurses := true, apart := false }
def FnExactRippleInsertSaid : Prop := fnExactRippleInsertRow.holds Try.pinned (OpenSpec.ofChange fnExactRippleInsertSpec)

/-- ITS FALSE NEIGHBOUR: 'it returns false'. Refute it at one input. -/
def fnExactRippleInsertWrong : ChangeSpec := { name := "fnExactRippleInsert", fn := fun _ => fun
  | [d1, d2] => { results := [.lit (.bool false)], args := [d1, d2] }
  | _ => none }
def FnExactRippleInsertWrongFalsely : Prop := fnExactRippleInsertRow.holds Try.pinned (OpenSpec.ofChange fnExactRippleInsertWrong)

/-- 'laws.FnRipples': WHATEVER THE INPUT: true; the input reads as it did. -/
def fnRipplesSpec : ChangeSpec := { name := "fnRipples", fn := fun _ => fun
  | [d] => { results := [.lit (.bool true)], args := [d] }
  | _ => none }
def fnRipplesRow : OpenClaim := { program := "ytlikcmonejefoab", sum := "aab8f1619cbb4fc2115586002df14cd1b462eaccdc8dba1dc3ea084b60dc6dc8", func := "loop.example/g01984/laws.FnRipples", spec := "fnRipples", unfollowed := true, recurses := true, apart := false }
def FnRipplesSaid : Prop := fnRipplesRow.holds Try.pinned (OpenSpec.ofChange fnRipplesSpec)

/-- ITS FALSE NEIGHBOUR: 'it returns false'. Refute it at one input. -/
def fnRipplesWrong : ChangeSpec := { name := "fnRipples", fn := fun _ => fun
  | [d] => { results := [.lit (.bool false)], args := [d] }
  | _ => none }
def FnRipplesWrongFalsely : Prop := fnRipplesRow.holds Try.pinned (OpenSpec.ofChange fnRipplesWrong)

/- THE SECOND FORM. 'bulk': how many values and letters a reading holds, each counted each time it is reached (what is shared counts as often as it is met; a slice's spare places count too). A statement '..UptoSaid' is the law's where the arguments, and the package variables that the reading takes, are together of bulk at most 1048576: NARROWER than '..Said'. Prove '..Said' where nothing that the law and all that it calls make is longer than what came in: it says more and counts as full. Else prove '..UptoSaid'. A law counts once. -/
mutual
def uptoBulk {H : Type} : DataW H → Nat
  | .lit (.string bytes) => bytes.length + 1
  | .lit _ => 1
  | .nil => 1
  | .ptr d => uptoBulk d + 1
  | .slice elems spare => uptoBulkAll elems + uptoBulkAll spare + 1
  | .agg parts => uptoBulkAll parts + 1
  | .iface _ d => uptoBulk d + 1
  | .map entries => uptoBulkEntries entries + 1
  | .held _ => 1
def uptoBulkAll {H : Type} : List (DataW H) → Nat
  | [] => 0
  | d :: r => uptoBulk d + uptoBulkAll r
def uptoBulkEntries {H : Type} : List (Lit × DataW H) → Nat
  | [] => 0
  | x :: r => uptoBulkEntry x + uptoBulkEntries r
def uptoBulkEntry {H : Type} : Lit × DataW H → Nat
  | (.string bytes, d) => bytes.length + uptoBulk d + 1
  | (_, d) => uptoBulk d + 1
 end
def uptoSmall : (H : Type) → List (DataW H) → Bool := fun _ ds => decide (uptoBulkAll ds ≤ 1048576)
def OpenSpec.upto (s : _root_.Go.ChangeSpec) : _root_.Go.OpenSpec := { _root_.Go.OpenSpec.ofChange s with cond := some uptoSmall }

/-- 'laws.FnExactRippleDelete', WHERE WHAT IT READS IS OF BULK AT MOST 1048576: true; the input reads as it did. -/
def fnExactRippleDeleteUptoRow : OpenClaim := { program := "ytlikcmonejefoab", sum := "aab8f1619cbb4fc2115586002df14cd1b462eaccdc8dba1dc3ea084b60dc6dc8", func := "loop.example/g01984/laws.FnExactRippleDelete", spec := "fnExactRippleDelete", unfollowed := true, recurses := true, apart := false, narrowed := true }
def FnExactRippleDeleteUptoSaid : Prop := fnExactRippleDeleteUptoRow.holds Try.pinned (OpenSpec.upto fnExactRippleDeleteSpec)

/-- 'laws.FnExactRippleInsert', WHERE WHAT IT READS IS OF BULK AT MOST 1048576: true; the input reads as it did. -/
def fnExactRippleInsertUptoRow : OpenClaim := { program := "ytlikcmonejefoab", sum := "aab8f1619cbb4fc2115586002df14cd1b462eaccdc8dba1dc3ea084b60dc6dc8", func := "loop.example/g01984/laws.FnExactRippleInsert", spec := "fnExactRippleInsert", unfollowed := true, recurses := true, apart := false, narrowed := true }
def FnExactRippleInsertUptoSaid : Prop := fnExactRippleInsertUptoRow.holds Try.pinned (OpenSpec.upto fnExactRippleInsertSpec)

/-- 'laws.FnRipples', WHERE WHAT IT READS IS OF BULK AT MOST 1048576: true; the input reads as it did. -/
def fnRipplesUptoRow : OpenClaim := { program := "ytlikcmonejefoab", sum := "aab8f1619cbb4fc2115586002df14cd1b462eaccdc8dba1dc3ea084b60dc6dc8", func := "loop.example/g01984/laws.FnRipples", spec := "fnRipples", unfollowed := true, recurses := true, apart := false, narrowed := true }
def FnRipplesUptoSaid : Prop := fnRipplesUptoRow.holds Try.pinned (OpenSpec.upto fnRipplesSpec)

end Rows
end Go.Proofs.Ytlikcmonejefoab
