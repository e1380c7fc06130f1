/- A column that lies in a variable of one's own: its block, its two rows of whole numbers told apart, its row of pivots. No condition. -/
import Derived.Test.YtfjanffppobheaaGreatDoorWMore
namespace Go.Proofs.YtfjanffppobheaaGreatDoor.Cs
open Go.RowKit Go.Proofs.YtfjanffppobheaaGreatDoorW.PrintWords Go.Proofs.YtfjanffppobheaaGreatDoorW.PrintLast Go.Proofs.YtfjanffppobheaaGreatDoorW.PrintMore
structure CS {α : Type} (ok : Nat → Prop) (d : Kd α) (e t base : Nat) (W : World) (gb : Nat) (v0 v1 v2 : Value) (V R : List Int) (P : List α) : Prop where
  blk : W.heap[gb]? = some (.cells #[v0, v1, v2] t (0, 0))
  ge : base ≤ gb
  r0 : Kd.R (Kd.int .i64) 3 W base (fun k => some k ≠ v1.ownBlock) v0 V
  r1 : Kd.R (Kd.int .i64) 3 W base (fun k => some k ≠ v0.ownBlock) v1 R
  r2 : Kd.R d e W base ok v2 P
section
variable {α : Type} {ok : Nat → Prop} {d : Kd α} {e t base gb : Nat} {W W1 : World} {v0 v1 v2 : Value} {V R : List Int} {P : List α}
theorem CS.below (h : CS ok d e t base W gb v0 v1 v2 V R P) (hb : Below W.heap.size W W1) : CS ok d e t base W1 gb v0 v1 v2 V R P :=
  ⟨blk_below h.blk hb, h.ge, Kd.R_below h.r0 hb, Kd.R_below h.r1 hb, Kd.R_below h.r2 hb⟩
theorem CS.drew (h : CS ok d e t base W gb v0 v1 v2 V R P) : CS ok d e t base W.drew gb v0 v1 v2 V R P := h.below (below_drew (Below.refl _ _))
theorem CS.drewN (h : CS ok d e t base W gb v0 v1 v2 V R P) (n : Nat) : CS ok d e t base (W.drewN n) gb v0 v1 v2 V R P := h.below (pw_below_drewN (Below.refl _ _) n)
theorem CS.alloc (h : CS ok d e t base W gb v0 v1 v2 V R P) (o : Obj) : CS ok d e t base (W.alloc o) gb v0 v1 v2 V R P := h.below (below_alloc (Below.refl _ _) o)
/-- A block of another type than a row that was written. -/
theorem far3 {g g' n cap T : Nat} {cs : Array Value} {V : List Int} {ok : Nat → Prop} (h : Kd.R (Kd.int .i64) 3 W base ok (.slice (some ⟨g, 0, none⟩) n cap) V) (hb : W.heap[g']? = some (.cells cs T (0, 0))) (hT : 3 ≠ T) (i : Nat) (u : Value) : (W.setCell ⟨g, i, none⟩ u).heap[g']? = some (.cells cs T (0, 0)) :=
  (Below.heap_setCell W ⟨g, i, none⟩ u g' (fun e => Kd.R_ne h hb hT (by rw [e]; rfl))).trans hb
theorem CS.setV {g cap n : Nat} (h : CS ok d e t base W gb (.slice (some ⟨g, 0, none⟩) n cap) v1 v2 V R P) (ht : 3 ≠ t) (he : ∀ q, q ∈ e :: d.E → q ≠ 3) (i : Int) (x : Int) :
    CS ok d e t base (W.setCell ⟨g, i.toNat, none⟩ (.int .i64 x)) gb (.slice (some ⟨g, 0, none⟩) n cap) v1 v2 (V.set i.toNat x) R P := by
  obtain ⟨a, hg⟩ := Kd.R_putg h.r0 i x
  exact ⟨blk_grown h.blk hg (Kd.R_ne h.r0 h.blk ht), h.ge, a, Kd.R_mono (Kd.R_after (ok := fun _ => True) (v := .slice (some ⟨g, 0, none⟩) n cap) (v1 := .slice (some ⟨g, 0, none⟩) n cap) (Kd.R_mono h.r1 (fun _ hk => ⟨trivial, hk⟩)) hg (.inl rfl)) (fun _ hk => hk.2), Kd.R_over' (v := .slice (some ⟨g, 0, none⟩) n cap) h.r2 (Kd.R_typed h.r0) he hg⟩
theorem CS.setR {g cap n : Nat} (h : CS ok d e t base W gb v0 (.slice (some ⟨g, 0, none⟩) n cap) v2 V R P) (ht : 3 ≠ t) (he : ∀ q, q ∈ e :: d.E → q ≠ 3) (i : Int) (x : Int) :
    CS ok d e t base (W.setCell ⟨g, i.toNat, none⟩ (.int .i64 x)) gb v0 (.slice (some ⟨g, 0, none⟩) n cap) v2 V (R.set i.toNat x) P := by
  obtain ⟨a, hg⟩ := Kd.R_putg h.r1 i x
  exact ⟨blk_grown h.blk hg (Kd.R_ne h.r1 h.blk ht), h.ge, Kd.R_mono (Kd.R_after (ok := fun _ => True) (v := .slice (some ⟨g, 0, none⟩) n cap) (v1 := .slice (some ⟨g, 0, none⟩) n cap) (Kd.R_mono h.r0 (fun _ hk => ⟨trivial, hk⟩)) hg (.inl rfl)) (fun _ hk => hk.2), a, Kd.R_over' (v := .slice (some ⟨g, 0, none⟩) n cap) h.r2 (Kd.R_typed h.r1) he hg⟩
/-- What a store into the two rows leaves alone: every block of another type. -/
def Far (W W1 : World) : Prop := W.heap.size ≤ W1.heap.size ∧ ∀ (g : Nat) (cs : Array Value) (T : Nat), 3 ≠ T → W.heap[g]? = some (Obj.cells cs T (0, 0)) → W1.heap[g]? = some (Obj.cells cs T (0, 0))
theorem Far.at {g T : Nat} {cs : Array Value} (h : Far W W1) (hb : W.heap[g]? = some (Obj.cells cs T (0, 0))) (hT : 3 ≠ T) : W1.heap[g]? = some (Obj.cells cs T (0, 0)) := h.2 g cs T hT hb
theorem set_self (V : List Int) (i : Int) (h0 : 0 ≤ i) (h1 : i < (V.length : Int)) : V.set i.toNat (rd V i) = V := by
  have hi : i.toNat < V.length := by omega
  have e : rd V i = V[i.toNat] := by unfold rd; rw [List.getD_eq_getElem?_getD, List.getElem?_eq_getElem hi]; rfl
  rw [e, List.set_getElem_self]
end
end Go.Proofs.YtfjanffppobheaaGreatDoor.Cs
namespace Go.Proofs.YtfjanffppobheaaGreatDoor.Giv
open Go.RowKit Go.Proofs.YtfjanffppobheaaGreatDoorW.PrintWords Go.Proofs.YtfjanffppobheaaGreatDoorW.PrintLast Go.Proofs.YtfjanffppobheaaGreatDoorW.PrintMore
/-- Two rows of different types lie in different blocks. -/
theorem ne_typed {α β : Type} {d : Kd α} {d' : Kd β} {e e' base base' n c : Nat} {ok ok' : Nat → Prop} {W : World} {ad : Addr} {u : Value} {xs : List α} {ys : List β} (h : d.R e W base ok (.slice (some ad) n c) xs) (h' : d'.R e' W base' ok' u ys) (ht : e ≠ e') : some ad.block ≠ u.ownBlock := fun he => by
  obtain ⟨c1, h1⟩ := Kd.R_typed h ad.block rfl
  obtain ⟨c2, h2⟩ := Kd.R_typed h' ad.block he.symm
  rw [h1] at h2
  injection h2 with h2
  injection h2 with _ h2
  exact ht h2
end Go.Proofs.YtfjanffppobheaaGreatDoor.Giv
