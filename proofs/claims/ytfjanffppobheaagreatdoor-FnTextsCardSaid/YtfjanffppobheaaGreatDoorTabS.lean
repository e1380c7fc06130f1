/- What the library's functions ask of the program's own variables: the table of the powers of ten, and the two sentinels where they are read; that it stays so behind whatever leaves old blocks alone. strconv.Itoa at this seat's program: the library's contract, laid. -/
import Derived.Test.YtfjanffppobheaaGreatDoorLay171
import Derived.Shelf.Strconv.Itoa3
import Derived.Lib.AppendIntMem
import Derived.Test.YtfjanffppobheaaGreatDoorProg
import Derived.Test.YtfjanffppobheaaGreatDoorLay172
import Derived.Shelf.Strconv.AtoiAll
import Derived.Shelf.Strings.SplitShaped
import Derived.Shelf.Strings.Shaped
import Derived.Test.YtfjanffppobheaaGreatDoorLay145
import Derived.Test.YtfjanffppobheaaGreatDoorLay146
import Derived.Lib.AtoiErrMem
namespace Go.Proofs.YtfjanffppobheaaGreatDoor
open Go.Shelf Go.Sort Go.RowKit Go.Lib
def VarOk (g : Nat) (w : World) : Prop := ∃ ev, w.cell? ⟨g, 0, none⟩ = some ev ∧ (ev = .nilIface ∨ ∃ te pe, ev = .iface te pe)
theorem VarOk.step {g : Nat} {w w' : World} (h : VarOk g w) (hb : Below w.heap.size w w') : VarOk g w' := by
  obtain ⟨ev, h1, h2⟩ := h
  exact ⟨ev, (hb.cell (World.block_lt_of_cell? w _ h1)).trans h1, h2⟩
def IntOk (g : Nat) (w : World) : Prop := ∃ m, w.cell? ⟨g, 0, none⟩ = some (.int .i64 m)
theorem IntOk.step {g : Nat} {w w' : World} (h : IntOk g w) (hb : Below w.heap.size w w') : IntOk g w' := by
  obtain ⟨m, h1⟩ := h
  exact ⟨m, (hb.cell (World.block_lt_of_cell? w _ h1)).trans h1⟩
def TabOk (w : World) : Prop := Lib.TabIs Tryz.prog w "internal/strconv.uint64pow10" .u64 Lib.pow10Tab ∧ VarOk 1 w ∧ VarOk 2 w ∧ IntOk 0 w
theorem TabOk.tab {w : World} (h : TabOk w) : Lib.TabIs Tryz.prog w "internal/strconv.uint64pow10" .u64 Lib.pow10Tab := h.1
theorem TabOk.step {w w' : World} (h : TabOk w) (hb : Below w.heap.size w w') : TabOk w' := ⟨Lib.tabBelow_of_tabIs h.1 w' hb, h.2.1.step hb, h.2.2.1.step hb, h.2.2.2.step hb⟩
namespace Sh
theorem itoa (n : Int) (h0 : -9223372036854775808 ≤ n) (h1 : n ≤ 9223372036854775807) (w : World) (htab : TabOk w) :
    Calls Tryz.prog 59 #[.int .i64 n] w fun e w' => e = .returned (.string ⟨(Lib.itoa n).toArray⟩) ∧ Below w.heap.size w w' := by
  refine (Any.strconv_Itoa Tryz.lMn171 n h0 h1 w htab.tab).mono ?_
  rintro e w' ⟨rfl, k, os, rfl⟩
  exact ⟨rfl, Lib.below_grow _ w (Nat.le_refl _) k os⟩
theorem atoiOk (s : ByteArray) (hs : s.size ≤ 140737488351232) (v : Int) (h : Lib.atoiAll s.data.toList = .ok v) (w : World) :
    Calls Tryz.prog 56 #[.string s] w fun e w' => e = .returned (.tuple #[.int .i64 v, .nilIface]) ∧ Below w.heap.size w w' := by
  refine (Any.strconv_Atoi_ok Tryz.lCn172 s (by omega) v h w).mono ?_
  rintro e w' ⟨rfl, rfl | ⟨t, rfl⟩⟩
  · exact ⟨rfl, Below.refl _ _⟩
  · exact ⟨rfl, Lib.bytesWorld_below _ _ _⟩
theorem atoiFail (s : ByteArray) (hs : s.size ≤ 140737488351232) (h : ∀ v, Lib.atoiAll s.data.toList ≠ .ok v) (w : World) (ht : TabOk w) :
    Calls Tryz.prog 56 #[.string s] w fun e w' => ∃ z t p, e = .returned (.tuple #[.int .i64 z, .iface t p]) ∧ Below w.heap.size w w' := by
  rcases hx : Lib.atoiAll s.data.toList with v | _ | _
  · exact absurd hx (h v)
  · obtain ⟨ev, h1, h2⟩ := ht.2.1
    refine (Any.strconv_Atoi_syntax Tryz.lCn172 s (by omega) hx ev w h1 h2).mono ?_
    rintro e w' ⟨N, rfl, _, _, hb⟩
    exact ⟨_, _, _, rfl, hb⟩
  · obtain ⟨ev, h1, h2⟩ := ht.2.2.1
    refine (Any.strconv_Atoi_range Tryz.lCn172 s (by omega) hx ev w h1 h2).mono ?_
    rintro e w' ⟨N, rfl, _, _, hb⟩
    exact ⟨_, _, _, rfl, hb⟩
theorem maxLen (w : World) (h : w.ShapedOpen Tryz.prog) : IntOk 0 w := Tryz.lMn146.s1_3 w h
theorem split (s sep : ByteArray) (w : World) (h : TabOk w) (hs : s.size < 4294967281) (h1 : 1 ≤ sep.size) :
    Calls Tryz.prog 33 #[.string s, .string sep] w fun e w' =>
      e = .returned (.slice (some ⟨w.heap.size, 0, none⟩) (Lib.countB s sep + 1) (Lib.countB s sep + 1)) ∧ w' = w.alloc (.cells ((Lib.splitB sep 0 (Lib.countB s sep) s).map Value.string).toArray 9) := by
  obtain ⟨m, hm⟩ := h.2.2.2
  exact Any.strings_Split { Tryz.lMn146 with } Tryz.lMn146.i9 s sep m w hs hm h1
theorem cut (s sep : ByteArray) (w : World) (h : TabOk w) (hs : s.size < 4294967281) :
    Calls Tryz.prog 36 #[.string s, .string sep] w fun e w' => e = .returned (.tuple #[.string ⟨(Lib.cut s.data.toList sep.data.toList).1.toArray⟩, .string ⟨(Lib.cut s.data.toList sep.data.toList).2.1.toArray⟩, .bool (Lib.cut s.data.toList sep.data.toList).2.2]) ∧ ∃ n, w' = w.drewN n := by
  obtain ⟨m, hm⟩ := h.2.2.2
  exact Any.strings_Cut { Tryz.lMn145 with } s sep m w hs hm
end Sh
end Go.Proofs.YtfjanffppobheaaGreatDoor
