-- printed by a program of this session, a turned copy of the print of the kit
import Derived.Test.YtkcmpcnjglkpmabProg
import Derived.Test.YtkcmpcnjglkpmabGiv
import Derived.Test.YtkcmpcnjglkpmabShSort
import Derived.Below
import Derived.Deep.Draws
import Derived.Deep.AppendLies
import Derived.Maps.AppendAt
import Derived.OwnWalk
import Derived.Laws.BytesArg
import Derived.Laws.MakeOwn
import Derived.Laws.OwnMore
import Derived.Deep.OwnRows
import Derived.Tactics
import Derived.Lib.ConvBytes
import Derived.Laws.Slices
import Derived.WalkKit
import Derived.KernelRfl
import Derived.RowKit3
import Derived.Deep.LoopGhost
import Derived.Deep.QuietTactic
import Derived.BigQuiet
import Derived.WideLaws
import Derived.Deep.DeepCutAuto
import Derived.Deep.CutBlock
import Derived.Deep.RegionHeld3
import Derived.Laws.Rows
import Derived.Lib.AppendStr
import Derived.ArgAppend
import Derived.Laws.IdiomCopy
import Derived.OrdersHeld
import Derived.Laws.BitsLemmas
import Derived.RowKit
import Derived.Test.YtkcmpcnjglkpmabWWords
import Derived.Test.YtkcmpcnjglkpmabWLast
import Derived.Test.YtkcmpcnjglkpmabWTab
import Derived.Test.YtkcmpcnjglkpmabWFour
import Derived.Test.YtkcmpcnjglkpmabWQPut
import Derived.Test.YtkcmpcnjglkpmabWApart
import Derived.Test.YtkcmpcnjglkpmabWArr
import Derived.Test.YtkcmpcnjglkpmabWZeros
import Derived.Test.YtkcmpcnjglkpmabWFoot
import Derived.Test.YtkcmpcnjglkpmabWKept
import Derived.Test.YtkcmpcnjglkpmabWShare
import Derived.Test.YtkcmpcnjglkpmabWN
import Derived.Test.YtkcmpcnjglkpmabWFootNe
import Derived.Test.YtkcmpcnjglkpmabWAt
import Derived.Test.YtkcmpcnjglkpmabWEqStruct
import Derived.Test.YtkcmpcnjglkpmabWRepsOne
import Derived.Test.YtkcmpcnjglkpmabWInv
import Derived.Test.YtkcmpcnjglkpmabWInvWords
import Derived.Test.YtkcmpcnjglkpmabWGuard
import Derived.Test.YtkcmpcnjglkpmabWNEv
import Derived.Test.YtkcmpcnjglkpmabWMore
namespace Go.Proofs.Ytkcmpcnjglkpmab.PFnExactSortInts
open Go.RowKit Go.Proofs.YtkcmpcnjglkpmabW.PrintWords Go.Proofs.YtkcmpcnjglkpmabW.PrintLast Go.Proofs.YtkcmpcnjglkpmabW.PrintMore
attribute [local go_sem] max2_int min2_int max_two min_two max_three min_three max_four min_four Giv.cell_twice   -- for this text's walks alone
set_option linter.unusedVariables false
set_option linter.unusedSimpArgs false



def errW : Option Int → Value
  | none => .nilIface
  | some c => .iface 0 (.int .i64 c)
theorem errW_none : errW none = .nilIface := rfl
theorem errW_some (c : Int) : errW (some c) = .iface 0 (.int .i64 c) := rfl

theorem info3 : (Try.prog.info? 3).map (fun i => (i.zero, i.size, i.bytes)) = some (some (.int .i64 0), 1, 8) := by kernel_rfl
abbrev T_ : Bool := true
abbrev F_ : Bool := false
-- the values' own types

end Go.Proofs.Ytkcmpcnjglkpmab.PFnExactSortInts
