import Derived.Test.YtlikcmonejefoacLay189
import Derived.Shelf.Sort.Plain
import Derived.Shelf.Slices.In.SortNone
import Derived.Sort.OwnSortedInts
import Derived.Test.YtlikcmonejefoacProg
/- slices.Sort at whole numbers, at this seat's program: the library's contract, laid. -/
namespace Go.Proofs.Ytlikcmonejefoac.Sh
open Go.Shelf Go.Sort
open Go.RowKit in
theorem sortInt (blk off cap : Nat) (zs : List Int) (w : World) (hH : Holds (Value.int .i64) w blk off zs.toArray) (hblk : blk < w.heap.size) (hsz : zs.length < 4611686018427387904) :
    Calls Try.prog 50 #[.slice (some ⟨blk, off, none⟩) zs.length cap] w fun e w' =>
      e = .returned (.tuple #[]) ∧ ∃ n os, w' = grow (putRow (Value.int .i64) (Sort.ahead w n) blk off (zs.mergeSort fun x y => decide (x ≤ y)).toArray) os := Any.slices_Sort_int Try.ln189 blk off cap zs w hH hblk hsz
open Go.RowKit in
theorem sortNone (p : Option Addr) (cap : Nat) (w : World) :
    Calls Try.prog 50 #[.slice p 0 cap] w fun e w' => e = .returned (.tuple #[]) ∧ w' = w := Any.slices_Sort_int_none Try.ln189 p cap w
end Go.Proofs.Ytlikcmonejefoac.Sh
