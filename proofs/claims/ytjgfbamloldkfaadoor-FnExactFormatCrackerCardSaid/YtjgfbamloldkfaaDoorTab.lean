/- What the library's functions ask of the program's own variables: the table of the powers of ten, and the two sentinels where they are read; that it stays so behind whatever leaves old blocks alone. strconv.Itoa at this seat's program: the library's contract, laid. -/
import Derived.Test.YtjgfbamloldkfaaDoorLay171
import Derived.Shelf.Strconv.Itoa3
import Derived.Lib.AppendIntMem
import Derived.Test.YtjgfbamloldkfaaDoorProg
namespace Go.Proofs.YtjgfbamloldkfaaDoor
open Go.Shelf Go.Sort Go.RowKit Go.Lib
def TabOk (w : World) : Prop := Lib.TabIs Tryd.prog w "internal/strconv.uint64pow10" .u64 Lib.pow10Tab
theorem TabOk.tab {w : World} (h : TabOk w) : Lib.TabIs Tryd.prog w "internal/strconv.uint64pow10" .u64 Lib.pow10Tab := h
theorem TabOk.step {w w' : World} (h : TabOk w) (hb : Below w.heap.size w w') : TabOk w' := Lib.tabBelow_of_tabIs h w' hb
namespace Sh
theorem itoa (n : Int) (h0 : -9223372036854775808 ≤ n) (h1 : n ≤ 9223372036854775807) (w : World) (htab : TabOk w) :
    Calls Tryd.prog 74 #[.int .i64 n] w fun e w' => e = .returned (.string ⟨(Lib.itoa n).toArray⟩) ∧ Below w.heap.size w w' := by
  refine (Any.strconv_Itoa Tryd.lMn171 n h0 h1 w htab.tab).mono ?_
  rintro e w' ⟨rfl, k, os, rfl⟩
  exact ⟨rfl, Lib.below_grow _ w (Nat.le_refl _) k os⟩
end Sh
end Go.Proofs.YtjgfbamloldkfaaDoor
