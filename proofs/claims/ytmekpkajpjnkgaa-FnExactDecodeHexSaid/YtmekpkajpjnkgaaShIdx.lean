import Derived.Shelf.Lay
import Derived.Shelf.Small.Strs
import Derived.Test.YtmekpkajpjnkgaaProg
/- strings.IndexByte at this seat's program: the library's contract, laid. -/
namespace Go.Proofs.Ytmekpkajpjnkgaa.Sh
open Go.Shelf
shelf_lay Lays.n137 Nm 137 at Try as idx137
open Go.RowKit in
theorem indexByte (s : ByteArray) (c : Int) (w : World) :
    Calls Try.prog 90 #[.string s, .int .u8 c] w fun e w' => e = .returned (.int .i64 (Lib.indexByte s.data.toList c.toNat.toUInt8)) ∧ w' = w := Any.strings_IndexByte idx137 s c w
end Go.Proofs.Ytmekpkajpjnkgaa.Sh
