-- printed by a program of this session, a turned copy of the print of the kit
import Derived.Test.YtbolealjmfbhjaaProg
import Derived.Test.YtbolealjmfbhjaaGiv
import Derived.Test.YtbolealjmfbhjaaShSort
import Derived.Below
import Derived.Deep.Draws
import Derived.Deep.AppendLies
import Derived.Maps.AppendAt
import Derived.OwnWalk
import Derived.Laws.BytesArg
import Derived.Laws.MakeOwn
import Derived.Laws.OwnMore
import Derived.Deep.OwnRows
import Derived.Tactics
import Derived.Lib.ConvBytes
import Derived.Laws.Slices
import Derived.WalkKit
import Derived.KernelRfl
import Derived.RowKit3
import Derived.Deep.LoopGhost
import Derived.Deep.QuietTactic
import Derived.BigQuiet
import Derived.WideLaws
import Derived.Deep.DeepCutAuto
import Derived.Deep.CutBlock
import Derived.Deep.RegionHeld3
import Derived.Laws.Rows
import Derived.Lib.AppendStr
import Derived.ArgAppend
import Derived.Laws.IdiomCopy
import Derived.OrdersHeld
import Derived.Laws.BitsLemmas
import Derived.RowKit
import Derived.Test.YtbolealjmfbhjaaWWords
import Derived.Test.YtbolealjmfbhjaaWLast
import Derived.Test.YtbolealjmfbhjaaWTab
import Derived.Test.YtbolealjmfbhjaaWFour
import Derived.Test.YtbolealjmfbhjaaWQPut
import Derived.Test.YtbolealjmfbhjaaWApart
import Derived.Test.YtbolealjmfbhjaaWArr
import Derived.Test.YtbolealjmfbhjaaWZeros
import Derived.Test.YtbolealjmfbhjaaWFoot
import Derived.Test.YtbolealjmfbhjaaWKept
import Derived.Test.YtbolealjmfbhjaaWShare
import Derived.Test.YtbolealjmfbhjaaWN
import Derived.Test.YtbolealjmfbhjaaWFootNe
import Derived.Test.YtbolealjmfbhjaaWAt
import Derived.Test.YtbolealjmfbhjaaWEqStruct
import Derived.Test.YtbolealjmfbhjaaWRepsOne
import Derived.Test.YtbolealjmfbhjaaWInv
import Derived.Test.YtbolealjmfbhjaaWInvWords
import Derived.Test.YtbolealjmfbhjaaWGuard
import Derived.Test.YtbolealjmfbhjaaWNEv
import Derived.Test.YtbolealjmfbhjaaWMore
namespace Go.Proofs.Ytbolealjmfbhjaa.PFnExactSortInts
open Go.RowKit Go.Proofs.YtbolealjmfbhjaaW.PrintWords Go.Proofs.YtbolealjmfbhjaaW.PrintLast Go.Proofs.YtbolealjmfbhjaaW.PrintMore
attribute [local go_sem] max2_int min2_int max_two min_two max_three min_three max_four min_four Giv.cell_twice   -- for this text's walks alone
set_option linter.unusedVariables false
set_option linter.unusedSimpArgs false



def errW : Option Int → Value
  | none => .nilIface
  | some c => .iface 0 (.int .i64 c)
theorem errW_none : errW none = .nilIface := rfl
theorem errW_some (c : Int) : errW (some c) = .iface 0 (.int .i64 c) := rfl

theorem info3 : (Try.prog.info? 3).map (fun i => (i.zero, i.size, i.bytes)) = some (some (.int .i64 0), 1, 8) := by kernel_rfl
abbrev T_ : Bool := true
abbrev F_ : Bool := false
-- the values' own types

end Go.Proofs.Ytbolealjmfbhjaa.PFnExactSortInts
