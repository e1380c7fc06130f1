/- strings.IndexByte at this seat's program: the library's contract, laid. -/
import Derived.Test.YtmekpkajpjnkgaaLay137
import Derived.Shelf.Small.Strs
import Derived.Test.YtmekpkajpjnkgaaProg
namespace Go.Proofs.Ytmekpkajpjnkgaa.Sh
open Go.Shelf
open Go.RowKit in
theorem indexByte (s : ByteArray) (c : Int) (w : World) :
    Calls Try.prog 90 #[.string s, .int .u8 c] w fun e w' => e = .returned (.int .i64 (Lib.indexByte s.data.toList c.toNat.toUInt8)) ∧ w' = w := Any.strings_IndexByte Try.ln137 s c w
end Go.Proofs.Ytmekpkajpjnkgaa.Sh
