/- Plain words for the contracts that are given by hand: the place of the first element that fits. No condition. -/
import Derived.Test.YtjgfbamloldkfaaDoorWMore
import Derived.Lib.SliceRun
import Derived.Shelf.Abstract
namespace Go.Proofs.YtjgfbamloldkfaaDoor.Giv
open Go.RowKit Go.Proofs.YtjgfbamloldkfaaDoorW.PrintWords Go.Proofs.YtjgfbamloldkfaaDoorW.PrintLast Go.Proofs.YtjgfbamloldkfaaDoorW.PrintMore
/-- A cell that is written twice. -/
theorem cell_twice (w : World) (a : Addr) (u v : Value) (h : (w.cell? a).isSome = true) : ((w.setCell a u).setCell a v).cell? a = some v :=
  World.cell?_setCell_same' _ a v (by rw [World.cell?_setCell_same' w a u h]; rfl)
end Go.Proofs.YtjgfbamloldkfaaDoor.Giv
