-- PRINTED BY print.sh 35421559b90ae4d0a3588c463048766b98c2df88dd9212a6774a882060cdf62d: not written by this session
import Derived.Test.YtlikcmonejefoacWInv
import Derived.Test.YtlikcmonejefoacWFootNe
namespace Go.Proofs.YtlikcmonejefoacW.PrintWords
open Go.RowKit
end Go.Proofs.YtlikcmonejefoacW.PrintWords
namespace Go.Proofs.YtlikcmonejefoacW.PrintLast
section
variable {ops : Array Oper} {a : Act} {o og : Oper} {g : Nat} {t : Tmp} {u : Bool}
end
end Go.Proofs.YtlikcmonejefoacW.PrintLast
