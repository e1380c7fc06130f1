/- Plain words for the contracts that are given by hand: the place of the first element that fits. No condition. -/
import Derived.Test.YtlikcmonejefoaaWMore
import Derived.Lib.SliceRun
import Derived.Shelf.Abstract
namespace Go.Proofs.Ytlikcmonejefoaa.Giv
open Go.RowKit Go.Proofs.YtlikcmonejefoaaW.PrintWords Go.Proofs.YtlikcmonejefoaaW.PrintLast Go.Proofs.YtlikcmonejefoaaW.PrintMore
/-- A cell that is written twice. -/
theorem cell_twice (w : World) (a : Addr) (u v : Value) (h : (w.cell? a).isSome = true) : ((w.setCell a u).setCell a v).cell? a = some v :=
  World.cell?_setCell_same' _ a v (by rw [World.cell?_setCell_same' w a u h]; rfl)
end Go.Proofs.Ytlikcmonejefoaa.Giv
