-- PRINTED BY print.sh 35421559b90ae4d0a3588c463048766b98c2df88dd9212a6774a882060cdf62d: not written by this session
import Derived.Test.YtdjkjknofbhfnaaProg
import Derived.Below
import Derived.Deep.Draws
import Derived.Deep.AppendLies
import Derived.Maps.AppendAt
import Derived.OwnWalk
import Derived.Laws.BytesArg
import Derived.Laws.MakeOwn
import Derived.Laws.OwnMore
import Derived.Deep.OwnRows
import Derived.Tactics
import Derived.Lib.ConvBytes
import Derived.Laws.Slices
import Derived.WalkKit
import Derived.KernelRfl
import Derived.RowKit3
import Derived.Deep.LoopGhost
import Derived.Deep.QuietTactic
import Derived.BigQuiet
import Derived.WideLaws
import Derived.Deep.DeepCutAuto
import Derived.Deep.CutBlock
import Derived.Deep.RegionHeld3
import Derived.Laws.Rows
import Derived.Lib.AppendStr
import Derived.ArgAppend
import Derived.Laws.IdiomCopy
import Derived.OrdersHeld
import Derived.Laws.BitsLemmas
import Derived.RowKit
import Derived.Test.YtdjkjknofbhfnaaWWords
import Derived.Test.YtdjkjknofbhfnaaWLast
import Derived.Test.YtdjkjknofbhfnaaWTab
import Derived.Test.YtdjkjknofbhfnaaWFour
import Derived.Test.YtdjkjknofbhfnaaWQPut
import Derived.Test.YtdjkjknofbhfnaaWApart
import Derived.Test.YtdjkjknofbhfnaaWArr
import Derived.Test.YtdjkjknofbhfnaaWZeros
import Derived.Test.YtdjkjknofbhfnaaWFoot
import Derived.Test.YtdjkjknofbhfnaaWKept
import Derived.Test.YtdjkjknofbhfnaaWShare
import Derived.Test.YtdjkjknofbhfnaaWN
import Derived.Test.YtdjkjknofbhfnaaWFootNe
import Derived.Test.YtdjkjknofbhfnaaWAt
import Derived.Test.YtdjkjknofbhfnaaWEqStruct
import Derived.Test.YtdjkjknofbhfnaaWRepsOne
import Derived.Test.YtdjkjknofbhfnaaWInv
import Derived.Test.YtdjkjknofbhfnaaWInvWords
import Derived.Test.YtdjkjknofbhfnaaWGuard
import Derived.Test.YtdjkjknofbhfnaaWNEv
import Derived.Test.YtdjkjknofbhfnaaWMore
namespace Go.Proofs.Ytdjkjknofbhfnaa.PFnExactIsItem
open Go.RowKit Go.Proofs.YtdjkjknofbhfnaaW.PrintWords Go.Proofs.YtdjkjknofbhfnaaW.PrintLast Go.Proofs.YtdjkjknofbhfnaaW.PrintMore
attribute [local go_sem] max2_int min2_int max_two min_two max_three min_three max_four min_four   -- for this text's walks alone
set_option linter.unusedVariables false
set_option linter.unusedSimpArgs false



def errW : Option Int → Value
  | none => .nilIface
  | some c => .iface 0 (.int .i64 c)
theorem errW_none : errW none = .nilIface := rfl
theorem errW_some (c : Int) : errW (some c) = .iface 0 (.int .i64 c) := rfl

-- the values' own types

end Go.Proofs.Ytdjkjknofbhfnaa.PFnExactIsItem
