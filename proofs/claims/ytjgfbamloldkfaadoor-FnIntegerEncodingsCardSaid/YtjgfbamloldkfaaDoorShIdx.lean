/- strings.IndexByte at this seat's program: the library's contract, laid. -/
import Derived.Test.YtjgfbamloldkfaaDoorLay137
import Derived.Shelf.Small.Strs
import Derived.Test.YtjgfbamloldkfaaDoorProg
namespace Go.Proofs.YtjgfbamloldkfaaDoor.Sh
open Go.Shelf
open Go.RowKit in
theorem indexByte (s : ByteArray) (c : Int) (w : World) :
    Calls Tryd.prog 73 #[.string s, .int .u8 c] w fun e w' => e = .returned (.int .i64 (Lib.indexByte s.data.toList c.toNat.toUInt8)) ∧ w' = w := Any.strings_IndexByte Tryd.ln137 s c w
end Go.Proofs.YtjgfbamloldkfaaDoor.Sh
