/- A store of a value of one cell that is told by its shape alone. No condition. -/
import Derived.Laws.Entries
namespace Go.Proofs.YtfjanffppobheaaGreatDoor.Giv
theorem store_any {P : Program} {w : World} (a : Addr) (v : Value) (m : Mode) (hv : v.oneCell' = true) : (store a v m).run P w = stored P w a v m := run_store P w a v m hv
end Go.Proofs.YtfjanffppobheaaGreatDoor.Giv
