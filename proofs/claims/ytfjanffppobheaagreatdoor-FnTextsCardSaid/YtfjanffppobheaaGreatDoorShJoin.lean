/- strings.Join at this seat's program: the library's contract, laid. -/
import Derived.Test.YtfjanffppobheaaGreatDoorLay156
import Derived.Shelf.Strings.OnBuilder
import Derived.Test.YtfjanffppobheaaGreatDoorProg
namespace Go.Proofs.YtfjanffppobheaaGreatDoor.Sh
open Go.Shelf Go.RowKit Go.Lib
theorem builderExtra : Builder.Extra Tryz.prog Tryz.ln156_ren := {
  sizeBuilder := by kernel_rfl
  liesBuilder := by kernel_rfl
  t5 := Tryz.underlying5
  a5 := Tryz.isAgg5
  z5 := Tryz.sizeOf5
  v5 := Tryz.zeroValue5
  infoByte := by kernel_rfl
  cellsByte := by kernel_rfl
  sizeByte := by kernel_rfl
  neB5 := by decide }
theorem join (bk o c : Nat) (xs : List ByteArray) (sep : ByteArray) (w : World) (hcells : ∀ (j : Nat) x, xs[j]? = some x → w.cell? ⟨bk, o + j, none⟩ = some (.string x)) (hbk : bk < w.heap.size) (hN : xs.length ≤ 140737488355328) (hcap : xs.length ≤ c) (hlen : (Lib.join (xs.map (·.data.toList)) sep.data.toList).length ≤ 140737488355328) :
    Calls Tryz.prog 31 #[.slice (some ⟨bk, o, none⟩) xs.length c, .string sep] w fun e w' => e = .returned (.string ⟨(Lib.join (xs.map (·.data.toList)) sep.data.toList).toArray⟩) ∧ Below w.heap.size w w' := Any.strings_Join Tryz.ln156 builderExtra bk o c xs sep w hcells hbk hN hcap hlen
theorem joinNone (a : Option Addr) (c : Nat) (sep : ByteArray) (w : World) :
    Calls Tryz.prog 31 #[.slice a 0 c, .string sep] w fun e w' => e = .returned (.string ⟨#[]⟩) ∧ w' = w := Any.strings_Join_none Tryz.ln156 builderExtra a c sep w
end Go.Proofs.YtfjanffppobheaaGreatDoor.Sh
