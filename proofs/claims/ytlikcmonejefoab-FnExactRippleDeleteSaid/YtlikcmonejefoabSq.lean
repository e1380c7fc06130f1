/- Short words for facts that are carried over a world that has only drawn or made. No condition. -/
import Derived.Test.YtlikcmonejefoabWMore
namespace Go.Proofs.Ytlikcmonejefoab.Sq
open Go.RowKit Go.Proofs.YtlikcmonejefoabW.PrintWords Go.Proofs.YtlikcmonejefoabW.PrintLast Go.Proofs.YtlikcmonejefoabW.PrintMore
/-- W comes of w by draws and by what is made. -/
class Up (w W : World) : Prop where
  b : Below w.heap.size w W
instance up0 (w : World) : Up w w := ⟨Below.refl _ _⟩
instance up1 (w W : World) [h : Up w W] (o : Obj) : Up w (W.alloc o) := ⟨below_alloc h.b o⟩
instance up2 (w W : World) [h : Up w W] (m : Nat) : Up w (W.drewN m) := ⟨pw_below_drewN h.b m⟩
instance up3 (w W : World) [h : Up w W] : Up w W.drew := ⟨below_drew h.b⟩
theorem up {α : Type} {d : Kd α} {e : Nat} {base : Nat} {ok : Nat → Prop} {v : Value} {xs : List α} {w W : World} [h : Up w W] (r : Kd.R d e w base ok v xs) : Kd.R d e W base ok v xs := Kd.R_below r h.b
theorem ub {g : Nat} {o : Obj} {w W : World} [h : Up w W] (r : w.heap[g]? = some o) : W.heap[g]? = some o := blk_below r h.b
theorem uc {α : Type} {d : Kd α} {A : Option Addr} {n : Nat} {xs : List α} {w W : World} [h : Up w W] (r : Kd.C d w A n xs) : Kd.C d W A n xs := Kd.C_below r h.b
theorem mk {p : Prop} (h : p) : Aside0 p := ⟨h⟩
/-- What a slot that was written leaves in the list of slots, in one word. -/
theorem sp : (∀ (a : Act) (d : Tmp) (v : Value), a.put (some d) v = { a with tmps := a.tmps.setIfInBounds d v }) ∧ (∀ (a : Act) (v : Value), a.put none v = a) ∧ (∀ (l : List Value) (i : Nat) (v : Value), l.toArray.setIfInBounds i v = (l.set i v).toArray) ∧ (∀ (x y : Value) (l : List Value), (x :: l).set 0 y = y :: l) ∧ (∀ (x y : Value) (l : List Value) (n : Nat), (x :: l).set (n + 1) y = x :: l.set n y) :=
  ⟨fun _ _ _ => rfl, fun _ _ => rfl, fun _ _ _ => by simp, fun _ _ _ => rfl, fun _ _ _ _ => rfl⟩
theorem ba {w W : World} (h : Below w.heap.size w W) (o : Obj) : Below w.heap.size w (W.alloc o) := below_alloc h o
theorem bs {w W : World} {g j : Nat} {v : Value} (h : Below w.heap.size w W) (hg : Aside0 (w.heap.size ≤ g)) : Below w.heap.size w (W.setCell ⟨g, j, none⟩ v) := below_set h hg.out
end Go.Proofs.Ytlikcmonejefoab.Sq
