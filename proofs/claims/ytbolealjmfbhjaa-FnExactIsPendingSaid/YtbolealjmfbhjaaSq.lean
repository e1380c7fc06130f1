/- Short words for facts that are carried over a world that has only drawn or made. No condition. -/
import Derived.Test.YtbolealjmfbhjaaWMore
namespace Go.Proofs.Ytbolealjmfbhjaa.Sq
open Go.RowKit Go.Proofs.YtbolealjmfbhjaaW.PrintWords Go.Proofs.YtbolealjmfbhjaaW.PrintLast Go.Proofs.YtbolealjmfbhjaaW.PrintMore
/-- W comes of w by draws and by what is made. -/
class Up (w W : World) : Prop where
  b : Below w.heap.size w W
instance up0 (w : World) : Up w w := ⟨Below.refl _ _⟩
instance up1 (w W : World) [h : Up w W] (o : Obj) : Up w (W.alloc o) := ⟨below_alloc h.b o⟩
instance up2 (w W : World) [h : Up w W] (m : Nat) : Up w (W.drewN m) := ⟨pw_below_drewN h.b m⟩
instance up3 (w W : World) [h : Up w W] : Up w W.drew := ⟨below_drew h.b⟩
theorem up {α : Type} {d : Kd α} {e : Nat} {base : Nat} {ok : Nat → Prop} {v : Value} {xs : List α} {w W : World} [h : Up w W] (r : Kd.R d e w base ok v xs) : Kd.R d e W base ok v xs := Kd.R_below r h.b
theorem ub {g : Nat} {o : Obj} {w W : World} [h : Up w W] (r : w.heap[g]? = some o) : W.heap[g]? = some o := blk_below r h.b
theorem uc {α : Type} {d : Kd α} {A : Option Addr} {n : Nat} {xs : List α} {w W : World} [h : Up w W] (r : Kd.C d w A n xs) : Kd.C d W A n xs := Kd.C_below r h.b
theorem mk {p : Prop} (h : p) : Aside0 p := ⟨h⟩
end Go.Proofs.Ytbolealjmfbhjaa.Sq
