/- Short words for facts that are carried over a world that has only drawn or made, and for steps of a walk that recur; a premise that is shown by one and the same tactic everywhere has that tactic as its standing proof. No condition. -/
import Derived.Test.YtfjanffppobheaaGreatDoorWMore
import Derived.WalkKit
import Derived.KernelRfl
set_option linter.unusedVariables false
namespace Go.Proofs.YtfjanffppobheaaGreatDoor.Sq
open Go.RowKit Go.Proofs.YtfjanffppobheaaGreatDoorW.PrintWords Go.Proofs.YtfjanffppobheaaGreatDoorW.PrintLast Go.Proofs.YtfjanffppobheaaGreatDoorW.PrintMore
/-- W comes of w by draws and by what is made. -/
class Up (w W : World) : Prop where
  b : Below w.heap.size w W
instance up0 (w : World) : Up w w := ⟨Below.refl _ _⟩
instance up1 (w W : World) [h : Up w W] (o : Obj) : Up w (W.alloc o) := ⟨below_alloc h.b o⟩
instance up2 (w W : World) [h : Up w W] (m : Nat) : Up w (W.drewN m) := ⟨pw_below_drewN h.b m⟩
instance up3 (w W : World) [h : Up w W] : Up w W.drew := ⟨below_drew h.b⟩
theorem up {α : Type} {d : Kd α} {e : Nat} {base : Nat} {ok : Nat → Prop} {v : Value} {xs : List α} {w W : World} [h : Up w W] (r : Kd.R d e w base ok v xs) : Kd.R d e W base ok v xs := Kd.R_below r h.b
theorem ub {g : Nat} {o : Obj} {w W : World} [h : Up w W] (r : w.heap[g]? = some o) : W.heap[g]? = some o := blk_below r h.b
theorem uc {α : Type} {d : Kd α} {A : Option Addr} {n : Nat} {xs : List α} {w W : World} [h : Up w W] (r : Kd.C d w A n xs) : Kd.C d W A n xs := Kd.C_below r h.b
theorem mk {p : Prop} (h : p) : Aside0 p := ⟨h⟩
/-- What a slot that was written leaves in the list of slots, in one word. -/
theorem sp : (∀ (a : Act) (d : Tmp) (v : Value), a.put (some d) v = { a with tmps := a.tmps.setIfInBounds d v }) ∧ (∀ (a : Act) (v : Value), a.put none v = a) ∧ (∀ (l : List Value) (i : Nat) (v : Value), l.toArray.setIfInBounds i v = (l.set i v).toArray) ∧ (∀ (x y : Value) (l : List Value), (x :: l).set 0 y = y :: l) ∧ (∀ (x y : Value) (l : List Value) (n : Nat), (x :: l).set (n + 1) y = x :: l.set n y) :=
  ⟨fun _ _ _ => rfl, fun _ _ => rfl, fun _ _ _ => by simp, fun _ _ _ => rfl, fun _ _ _ _ => rfl⟩
theorem ba {w W : World} (h : Below w.heap.size w W) (o : Obj) : Below w.heap.size w (W.alloc o) := below_alloc h o
theorem bs {w W : World} {g j : Nat} {v : Value} (h : Below w.heap.size w W) (hg : Aside0 (w.heap.size ≤ g)) : Below w.heap.size w (W.setCell ⟨g, j, none⟩ v) := below_set h hg.out
/-! ### below -/
theorem bl {p : Prop} (h : p := by repeat (first | (with_reducible first | exact HB.out | apply below_alloc | apply pw_below_drewN | apply below_drew1 | refine below_set ?_ (Aside0.out (by with_reducible assumption))) | exact HB.out)) : p := h
theorem wh {w W w2 : World} (k : Below W.heap.size W w2) (h : Below w.heap.size w W := by repeat (first | (with_reducible first | exact HB.out | apply below_alloc | apply pw_below_drewN | apply below_drew1 | refine below_set ?_ (Aside0.out (by with_reducible assumption))) | exact HB.out)) : Aside0 (Below w.heap.size w w2) := ⟨below_step h k⟩
theorem wg {w W : World} {g : Nat} (hg : g = W.heap.size) (h : Below w.heap.size w W := by repeat (first | (with_reducible first | exact HB.out | apply below_alloc | apply pw_below_drewN | apply below_drew1 | refine below_set ?_ (Aside0.out (by with_reducible assumption))) | exact HB.out)) : Aside0 (w.heap.size ≤ g) := ⟨by rw [hg]; exact below_size h⟩
/-! ### blocks -/
theorem wb {w0 w w1 : World} {g : Nat} {o : Obj} [u : Up w0 w] (h : Aside0 (w0.heap[g]? = some o)) (hb : Below w.heap.size w w1) : Aside0 (w1.heap[g]? = some o) := ⟨blk_below (blk_below h.out u.b) hb⟩
theorem wd {w : World} {g : Nat} {o : Obj} (h : Aside0 (w.heap[g]? = some o)) : Aside0 (w.drew.heap[g]? = some o) := ⟨blk_drew h.out⟩
theorem nl {w0 w : World} {g g' : Nat} {o : Obj} [u : Up w0 w] (h : Aside0 (w0.heap[g]? = some o)) (hg : g' = w.heap.size) : Aside0 (g ≠ g') := ⟨by rw [hg]; exact Nat.ne_of_lt (blk_lt (blk_below h.out u.b))⟩
theorem nr {w0 w : World} {g g' : Nat} {o : Obj} [u : Up w0 w] (h : Aside0 (w0.heap[g]? = some o)) (hg : g' = w.heap.size) : Aside0 (g' ≠ g) := ⟨by rw [hg]; exact Nat.ne_of_gt (blk_lt (blk_below h.out u.b))⟩
theorem bz1 {w : World} {g : Nat} {t : TypeId} {x0 : Value} (h : Aside0 (w.heap[g]? = some (.cells #[x0] t (0, 0)))) : w.cell? ⟨g, 0, none⟩ = some x0 ∧ w.frozen? ⟨g, 0, none⟩ = false :=
  ⟨(blk_cell h.out 0).trans rfl, blk_frozen h.out 0⟩
theorem bz2 {w : World} {g : Nat} {t : TypeId} {x0 x1 : Value} (h : Aside0 (w.heap[g]? = some (.cells #[x0, x1] t (0, 0)))) : w.cell? ⟨g, 0, none⟩ = some x0 ∧ w.cell? ⟨g, 1, none⟩ = some x1 ∧ w.frozen? ⟨g, 0, none⟩ = false ∧ w.frozen? ⟨g, 1, none⟩ = false :=
  ⟨(blk_cell h.out 0).trans rfl, (blk_cell h.out 1).trans rfl, blk_frozen h.out 0, blk_frozen h.out 1⟩
theorem bz3 {w : World} {g : Nat} {t : TypeId} {x0 x1 x2 : Value} (h : Aside0 (w.heap[g]? = some (.cells #[x0, x1, x2] t (0, 0)))) : w.cell? ⟨g, 0, none⟩ = some x0 ∧ w.cell? ⟨g, 1, none⟩ = some x1 ∧ w.cell? ⟨g, 2, none⟩ = some x2 ∧ w.frozen? ⟨g, 0, none⟩ = false ∧ w.frozen? ⟨g, 1, none⟩ = false ∧ w.frozen? ⟨g, 2, none⟩ = false :=
  ⟨(blk_cell h.out 0).trans rfl, (blk_cell h.out 1).trans rfl, (blk_cell h.out 2).trans rfl, blk_frozen h.out 0, blk_frozen h.out 1, blk_frozen h.out 2⟩
theorem bz4 {w : World} {g : Nat} {t : TypeId} {x0 x1 x2 x3 : Value} (h : Aside0 (w.heap[g]? = some (.cells #[x0, x1, x2, x3] t (0, 0)))) : w.cell? ⟨g, 0, none⟩ = some x0 ∧ w.cell? ⟨g, 1, none⟩ = some x1 ∧ w.cell? ⟨g, 2, none⟩ = some x2 ∧ w.cell? ⟨g, 3, none⟩ = some x3 ∧ w.frozen? ⟨g, 0, none⟩ = false ∧ w.frozen? ⟨g, 1, none⟩ = false ∧ w.frozen? ⟨g, 2, none⟩ = false ∧ w.frozen? ⟨g, 3, none⟩ = false :=
  ⟨(blk_cell h.out 0).trans rfl, (blk_cell h.out 1).trans rfl, (blk_cell h.out 2).trans rfl, (blk_cell h.out 3).trans rfl, blk_frozen h.out 0, blk_frozen h.out 1, blk_frozen h.out 2, blk_frozen h.out 3⟩
theorem bz5 {w : World} {g : Nat} {t : TypeId} {x0 x1 x2 x3 x4 : Value} (h : Aside0 (w.heap[g]? = some (.cells #[x0, x1, x2, x3, x4] t (0, 0)))) : w.cell? ⟨g, 0, none⟩ = some x0 ∧ w.cell? ⟨g, 1, none⟩ = some x1 ∧ w.cell? ⟨g, 2, none⟩ = some x2 ∧ w.cell? ⟨g, 3, none⟩ = some x3 ∧ w.cell? ⟨g, 4, none⟩ = some x4 ∧ w.frozen? ⟨g, 0, none⟩ = false ∧ w.frozen? ⟨g, 1, none⟩ = false ∧ w.frozen? ⟨g, 2, none⟩ = false ∧ w.frozen? ⟨g, 3, none⟩ = false ∧ w.frozen? ⟨g, 4, none⟩ = false :=
  ⟨(blk_cell h.out 0).trans rfl, (blk_cell h.out 1).trans rfl, (blk_cell h.out 2).trans rfl, (blk_cell h.out 3).trans rfl, (blk_cell h.out 4).trans rfl, blk_frozen h.out 0, blk_frozen h.out 1, blk_frozen h.out 2, blk_frozen h.out 3, blk_frozen h.out 4⟩
theorem bz6 {w : World} {g : Nat} {t : TypeId} {x0 x1 x2 x3 x4 x5 : Value} (h : Aside0 (w.heap[g]? = some (.cells #[x0, x1, x2, x3, x4, x5] t (0, 0)))) : w.cell? ⟨g, 0, none⟩ = some x0 ∧ w.cell? ⟨g, 1, none⟩ = some x1 ∧ w.cell? ⟨g, 2, none⟩ = some x2 ∧ w.cell? ⟨g, 3, none⟩ = some x3 ∧ w.cell? ⟨g, 4, none⟩ = some x4 ∧ w.cell? ⟨g, 5, none⟩ = some x5 ∧ w.frozen? ⟨g, 0, none⟩ = false ∧ w.frozen? ⟨g, 1, none⟩ = false ∧ w.frozen? ⟨g, 2, none⟩ = false ∧ w.frozen? ⟨g, 3, none⟩ = false ∧ w.frozen? ⟨g, 4, none⟩ = false ∧ w.frozen? ⟨g, 5, none⟩ = false :=
  ⟨(blk_cell h.out 0).trans rfl, (blk_cell h.out 1).trans rfl, (blk_cell h.out 2).trans rfl, (blk_cell h.out 3).trans rfl, (blk_cell h.out 4).trans rfl, (blk_cell h.out 5).trans rfl, blk_frozen h.out 0, blk_frozen h.out 1, blk_frozen h.out 2, blk_frozen h.out 3, blk_frozen h.out 4, blk_frozen h.out 5⟩
theorem bz7 {w : World} {g : Nat} {t : TypeId} {x0 x1 x2 x3 x4 x5 x6 : Value} (h : Aside0 (w.heap[g]? = some (.cells #[x0, x1, x2, x3, x4, x5, x6] t (0, 0)))) : w.cell? ⟨g, 0, none⟩ = some x0 ∧ w.cell? ⟨g, 1, none⟩ = some x1 ∧ w.cell? ⟨g, 2, none⟩ = some x2 ∧ w.cell? ⟨g, 3, none⟩ = some x3 ∧ w.cell? ⟨g, 4, none⟩ = some x4 ∧ w.cell? ⟨g, 5, none⟩ = some x5 ∧ w.cell? ⟨g, 6, none⟩ = some x6 ∧ w.frozen? ⟨g, 0, none⟩ = false ∧ w.frozen? ⟨g, 1, none⟩ = false ∧ w.frozen? ⟨g, 2, none⟩ = false ∧ w.frozen? ⟨g, 3, none⟩ = false ∧ w.frozen? ⟨g, 4, none⟩ = false ∧ w.frozen? ⟨g, 5, none⟩ = false ∧ w.frozen? ⟨g, 6, none⟩ = false :=
  ⟨(blk_cell h.out 0).trans rfl, (blk_cell h.out 1).trans rfl, (blk_cell h.out 2).trans rfl, (blk_cell h.out 3).trans rfl, (blk_cell h.out 4).trans rfl, (blk_cell h.out 5).trans rfl, (blk_cell h.out 6).trans rfl, blk_frozen h.out 0, blk_frozen h.out 1, blk_frozen h.out 2, blk_frozen h.out 3, blk_frozen h.out 4, blk_frozen h.out 5, blk_frozen h.out 6⟩
theorem bz8 {w : World} {g : Nat} {t : TypeId} {x0 x1 x2 x3 x4 x5 x6 x7 : Value} (h : Aside0 (w.heap[g]? = some (.cells #[x0, x1, x2, x3, x4, x5, x6, x7] t (0, 0)))) : w.cell? ⟨g, 0, none⟩ = some x0 ∧ w.cell? ⟨g, 1, none⟩ = some x1 ∧ w.cell? ⟨g, 2, none⟩ = some x2 ∧ w.cell? ⟨g, 3, none⟩ = some x3 ∧ w.cell? ⟨g, 4, none⟩ = some x4 ∧ w.cell? ⟨g, 5, none⟩ = some x5 ∧ w.cell? ⟨g, 6, none⟩ = some x6 ∧ w.cell? ⟨g, 7, none⟩ = some x7 ∧ w.frozen? ⟨g, 0, none⟩ = false ∧ w.frozen? ⟨g, 1, none⟩ = false ∧ w.frozen? ⟨g, 2, none⟩ = false ∧ w.frozen? ⟨g, 3, none⟩ = false ∧ w.frozen? ⟨g, 4, none⟩ = false ∧ w.frozen? ⟨g, 5, none⟩ = false ∧ w.frozen? ⟨g, 6, none⟩ = false ∧ w.frozen? ⟨g, 7, none⟩ = false :=
  ⟨(blk_cell h.out 0).trans rfl, (blk_cell h.out 1).trans rfl, (blk_cell h.out 2).trans rfl, (blk_cell h.out 3).trans rfl, (blk_cell h.out 4).trans rfl, (blk_cell h.out 5).trans rfl, (blk_cell h.out 6).trans rfl, (blk_cell h.out 7).trans rfl, blk_frozen h.out 0, blk_frozen h.out 1, blk_frozen h.out 2, blk_frozen h.out 3, blk_frozen h.out 4, blk_frozen h.out 5, blk_frozen h.out 6, blk_frozen h.out 7⟩
theorem bc {w : World} {g : Nat} {t : TypeId} {cs : Array Value} (h : Aside0 (w.heap[g]? = some (.cells cs t (0, 0)))) (i : Nat) {v : Value} (e : cs[i]? = some v := by rfl) : w.cell? ⟨g, i, none⟩ = some v := (blk_cell h.out i).trans e
theorem bp0 {w : World} {g : Nat} {t : TypeId} {u y : Value} {l : List Value} (h : w.heap[g]? = some (.cells (List.toArray (y :: l)) t (0, 0))) : (w.setCell ⟨g, 0, none⟩ u).heap[g]? = some (.cells (List.toArray (u :: l)) t (0, 0)) := blk_put h 0 u (by simp)
theorem bp1 {w : World} {g : Nat} {t : TypeId} {x0 u y : Value} {l : List Value} (h : w.heap[g]? = some (.cells (List.toArray (x0 :: y :: l)) t (0, 0))) : (w.setCell ⟨g, 1, none⟩ u).heap[g]? = some (.cells (List.toArray (x0 :: u :: l)) t (0, 0)) := blk_put h 1 u (by simp)
theorem bp2 {w : World} {g : Nat} {t : TypeId} {x0 x1 u y : Value} {l : List Value} (h : w.heap[g]? = some (.cells (List.toArray (x0 :: x1 :: y :: l)) t (0, 0))) : (w.setCell ⟨g, 2, none⟩ u).heap[g]? = some (.cells (List.toArray (x0 :: x1 :: u :: l)) t (0, 0)) := blk_put h 2 u (by simp)
theorem bp3 {w : World} {g : Nat} {t : TypeId} {x0 x1 x2 u y : Value} {l : List Value} (h : w.heap[g]? = some (.cells (List.toArray (x0 :: x1 :: x2 :: y :: l)) t (0, 0))) : (w.setCell ⟨g, 3, none⟩ u).heap[g]? = some (.cells (List.toArray (x0 :: x1 :: x2 :: u :: l)) t (0, 0)) := blk_put h 3 u (by simp)
theorem bp4 {w : World} {g : Nat} {t : TypeId} {x0 x1 x2 x3 u y : Value} {l : List Value} (h : w.heap[g]? = some (.cells (List.toArray (x0 :: x1 :: x2 :: x3 :: y :: l)) t (0, 0))) : (w.setCell ⟨g, 4, none⟩ u).heap[g]? = some (.cells (List.toArray (x0 :: x1 :: x2 :: x3 :: u :: l)) t (0, 0)) := blk_put h 4 u (by simp)
theorem bp5 {w : World} {g : Nat} {t : TypeId} {x0 x1 x2 x3 x4 u y : Value} {l : List Value} (h : w.heap[g]? = some (.cells (List.toArray (x0 :: x1 :: x2 :: x3 :: x4 :: y :: l)) t (0, 0))) : (w.setCell ⟨g, 5, none⟩ u).heap[g]? = some (.cells (List.toArray (x0 :: x1 :: x2 :: x3 :: x4 :: u :: l)) t (0, 0)) := blk_put h 5 u (by simp)
theorem bp6 {w : World} {g : Nat} {t : TypeId} {x0 x1 x2 x3 x4 x5 u y : Value} {l : List Value} (h : w.heap[g]? = some (.cells (List.toArray (x0 :: x1 :: x2 :: x3 :: x4 :: x5 :: y :: l)) t (0, 0))) : (w.setCell ⟨g, 6, none⟩ u).heap[g]? = some (.cells (List.toArray (x0 :: x1 :: x2 :: x3 :: x4 :: x5 :: u :: l)) t (0, 0)) := blk_put h 6 u (by simp)
theorem bp7 {w : World} {g : Nat} {t : TypeId} {x0 x1 x2 x3 x4 x5 x6 u y : Value} {l : List Value} (h : w.heap[g]? = some (.cells (List.toArray (x0 :: x1 :: x2 :: x3 :: x4 :: x5 :: x6 :: y :: l)) t (0, 0))) : (w.setCell ⟨g, 7, none⟩ u).heap[g]? = some (.cells (List.toArray (x0 :: x1 :: x2 :: x3 :: x4 :: x5 :: x6 :: u :: l)) t (0, 0)) := blk_put h 7 u (by simp)
theorem bf {w : World} {g g' j : Nat} {u : Value} {o : Obj} (h : w.heap[g]? = some o) (hp : Aside0 (g ≠ g')) : (w.setCell ⟨g', j, none⟩ u).heap[g]? = some o := (Below.heap_setCell w ⟨g', j, none⟩ u g hp.out).trans h
theorem bq {p : Prop} (h : p := by with_reducible repeat (first | exact Aside0.out (by assumption) | refine blk_drewN ?_ _ | refine blk_drew ?_ | refine blk_alloc ?_ _ | refine bf ?_ (by assumption) | apply bp0 | apply bp1 | apply bp2 | apply bp3 | apply bp4 | apply bp5 | apply bp6 | apply bp7)) : p := h
theorem wx {w0 W w1 : World} {g : Nat} {o : Obj} (_h : Aside0 (w0.heap[g]? = some o)) (hb : Below W.heap.size W w1) (h : W.heap[g]? = some o := by with_reducible repeat (first | exact Aside0.out (by assumption) | refine blk_drewN ?_ _ | refine blk_drew ?_ | refine blk_alloc ?_ _ | refine bf ?_ (by assumption))) : Aside0 (w1.heap[g]? = some o) := ⟨blk_below h hb⟩
/-! ### rows over stores into variables of another type -/
class Me (g : Nat) (l : List Nat) : Prop where
  h : g ∈ l
instance me0 (g : Nat) (l : List Nat) : Me g (g :: l) := ⟨by simp⟩
instance me1 (g a : Nat) (l : List Nat) [h : Me g l] : Me g (a :: l) := ⟨by simp [h.h]⟩
/-- W comes of w by draws, by what is made and by stores into the variables S. -/
class Fr (w : World) (S : List Nat) (W : World) : Prop where
  s : w.heap.size ≤ W.heap.size
  b : ∀ k, k < w.heap.size → k ∉ S → W.heap[k]? = w.heap[k]?
instance fr0 (w : World) (S : List Nat) : Fr w S w := ⟨Nat.le_refl _, fun _ _ _ => rfl⟩
instance fr1 (w : World) (S : List Nat) (W : World) [h : Fr w S W] (o : Obj) : Fr w S (W.alloc o) := ⟨Nat.le_trans h.s (below_alloc (Below.refl _ _) o).size, fun k hk hn => (Below.heap_alloc W o k (Nat.lt_of_lt_of_le hk h.s)).trans (h.b k hk hn)⟩
instance fr2 (w : World) (S : List Nat) (W : World) [h : Fr w S W] (m : Nat) : Fr w S (W.drewN m) := ⟨h.s, h.b⟩
instance fr3 (w : World) (S : List Nat) (W : World) [h : Fr w S W] : Fr w S W.drew := ⟨h.s, h.b⟩
instance fr4 (w : World) (S : List Nat) (W : World) [h : Fr w S W] (g j : Nat) (u : Value) [m : Me g S] : Fr w S (W.setCell ⟨g, j, none⟩ u) := ⟨Nat.le_trans h.s (((Below.refl 0 W).setCell (Nat.zero_le _) u).size), fun k hk hn => (Below.heap_setCell W ⟨g, j, none⟩ u k (fun e => hn (e ▸ m.h))).trans (h.b k hk hn)⟩
theorem rs1 {α : Type} {d : Kd α} {e : Nat} {base : Nat} {ok : Nat → Prop} {v : Value} {xs : List α} {w W : World} {g t : Nat} {cs : Array Value} (h : Aside0 (d.R e w base ok v xs)) (hb : Aside0 (w.heap[g]? = some (.cells cs t (0, 0)))) [f : Fr w [g] W] (ht : ∀ q, q ∈ e :: d.E → q ≠ t := by decide) : d.R e W base ok v xs :=
  Kd.R_mono (Kd.R_step (Kd.R_types h.out hb.out ht) (fun k hk hl => f.b k hl (by simpa using hk.2))) (fun _ hk => hk.1)
theorem rs2 {α : Type} {d : Kd α} {e : Nat} {base : Nat} {ok : Nat → Prop} {v : Value} {xs : List α} {w W : World} {g t g2 t2 : Nat} {cs cs2 : Array Value} (h : Aside0 (d.R e w base ok v xs)) (hb : Aside0 (w.heap[g]? = some (.cells cs t (0, 0)))) (hb2 : Aside0 (w.heap[g2]? = some (.cells cs2 t2 (0, 0)))) [f : Fr w [g, g2] W] (ht : ∀ q, q ∈ e :: d.E → q ≠ t := by decide) (ht2 : ∀ q, q ∈ e :: d.E → q ≠ t2 := by decide) : d.R e W base ok v xs :=
  Kd.R_mono (Kd.R_step (Kd.R_types (Kd.R_types h.out hb.out ht) hb2.out ht2) (fun k hk hl => f.b k hl (by simp [hk.1.2, hk.2]))) (fun _ hk => hk.1.1)
theorem rs3 {α : Type} {d : Kd α} {e : Nat} {base : Nat} {ok : Nat → Prop} {v : Value} {xs : List α} {w W : World} {g t g2 t2 g3 t3 : Nat} {cs cs2 cs3 : Array Value} (h : Aside0 (d.R e w base ok v xs)) (hb : Aside0 (w.heap[g]? = some (.cells cs t (0, 0)))) (hb2 : Aside0 (w.heap[g2]? = some (.cells cs2 t2 (0, 0)))) (hb3 : Aside0 (w.heap[g3]? = some (.cells cs3 t3 (0, 0)))) [f : Fr w [g, g2, g3] W] (ht : ∀ q, q ∈ e :: d.E → q ≠ t := by decide) (ht2 : ∀ q, q ∈ e :: d.E → q ≠ t2 := by decide) (ht3 : ∀ q, q ∈ e :: d.E → q ≠ t3 := by decide) : d.R e W base ok v xs :=
  Kd.R_mono (Kd.R_step (Kd.R_types (Kd.R_types (Kd.R_types h.out hb.out ht) hb2.out ht2) hb3.out ht3) (fun k hk hl => f.b k hl (by simp [hk.1.1.2, hk.1.2, hk.2]))) (fun _ hk => hk.1.1.1)
theorem rm {α : Type} {d : Kd α} {e : Nat} {base : Nat} {ok ok' : Nat → Prop} {v : Value} {xs : List α} {w : World} (h : d.R e w base ok v xs) (hk : ∀ k, ok k → ok' k := by intro _ hk; first | exact hk | exact hk.2 | exact hk.1 | trivial | (revert hk; simp only [and_imp]; intros; (repeat' (refine And.intro ?_ ?_)) <;> first | assumption | trivial)) : d.R e w base ok' v xs := Kd.R_mono h hk
theorem dt {p : Prop} [Decidable p] (h : decide p = true := by first | (with_reducible assumption) | assumption) : p := of_decide_eq_true h
/-! ### binds -/
theorem bo {α β : Type} {x : Option α} {f : α → Option β} {r : β} {G : Prop} (h : ∀ a, Aside0 (x = some a) → f a = some r → G) : x.bind f = some r → G := fun e => by
  obtain ⟨a, h1, h2⟩ := Option.bind_eq_some_iff.mp e
  exact h a ⟨h1⟩ h2
theorem nf : ¬ (false = true) := by decide
/-! ### more rounds tell the same -/
class LeC {α : Type} (a b : Option α) : Prop where
  le : LeO a b
theorem mo {p : Prop} (h : p := by
  repeat' first
    | (with_reducible apply ih0)
    | (with_reducible apply ih1)
    | (with_reducible apply ih2)
    | (with_reducible apply ih3)
    | (with_reducible apply ih4)
    | (with_reducible apply ih5)
    | (with_reducible apply ih6)
    | (with_reducible apply ih7)
    | (with_reducible exact LeC.le)
    | (with_reducible exact LeO.refl _)
    | (with_reducible exact LeO.none _)
    | (with_reducible refine LeO.ite ?_ ?_)
    | (with_reducible refine LeO.bind ?_ (fun _ => ?_))
    | apply ih0
    | apply ih1
    | apply ih2
    | apply ih3
    | exact LeC.le
    | exact LeO.none _
    | refine LeO.ite ?_ ?_
    | refine LeO.bind ?_ (fun _ => ?_)) : p := h
/-! ### steps of a region -/
def tf (a b : Nat) : Array Bool := (List.replicate a true ++ List.replicate b false).toArray
section
variable {P : Program} {ops : Array Oper} {Q : Exit → Act → World → Prop} {md : Region.Mode} {S : World → Prop} {ds : List Nat}
theorem pu (i N : Nat) (l' : Array Bool) {oi : Oper} {v : Value} {fuel : Nat} {l : Array Bool} {a : Act} {w : World} {a' : Act}
    (h : wpAnyLast P md ops Q S ds fuel l' a' w)
    (hi : ops[i]? = some oi := by rfl) (hN : oi.dst = some N := by rfl) (hc : anyB md ops l l' i = true := by first | exact any_of HT_.out (by kernel_rfl) | kernel_rfl)
    (hQ : ∀ c a w, Q (.panic c) (a.put oi.dst v) w → Q (.panic c) a w := by exact fun _ _ _ h => h)
    (hy : Yields P ops oi v a := by exact Or.inl ⟨by rfl, by intro w'; go_simp; with_reducible rfl⟩)
    (ha : a.put (some N) v = a' := by simp only [sp, i64_w, i32_w]; rfl)
    : wpAnyLast P md ops Q S ds (fuel + 1) l a w := pure_ l' hi hN hc hQ hy ha h
theorem pn (i N : Nat) (l' : Array Bool) {oi : Oper} {fuel : Nat} {l : Array Bool} {a : Act} {w : World} {a' : Act}
    (h : wpAnyLast P md ops Q S ds fuel l' a' w)
    (hi : ops[i]? = some oi := by rfl) (hN : oi.dst = some N := by rfl) (hc : anyB md ops l l' i = true := by first | exact any_of HT_.out (by kernel_rfl) | kernel_rfl)
    (hQ : ∀ c a w, Q (.panic c) (a.put oi.dst undef) w → Q (.panic c) a w := by exact fun _ _ _ h => h)
    (hw : Region.wanted oi (yielded ops a.tmps) = false := by rfl)
    (ha : a.put (some N) undef = a' := by simp only [sp, i64_w, i32_w]; rfl)
    : wpAnyLast P md ops Q S ds (fuel + 1) l a w := pure_ l' hi hN hc hQ (Or.inr ⟨hw, rfl⟩) ha h
theorem tk (i N : Nat) (l' : Array Bool) {oi : Oper} {v : Value} {fuel : Nat} {l : Array Bool} {a : Act} {w : World} {a' : Act} (hS : S w)
    (h : wpAnyLast P md ops Q S ds fuel l' a' w)
    (hi : ops[i]? = some oi := by rfl) (hN : oi.dst = some N := by rfl) (hc : takeB md ops ds l l' i = true := by first | exact take_ofW HT_.out HW_.out (by kernel_rfl) | kernel_rfl)
    (hQ : ∀ c a w, Q (.panic c) (a.put oi.dst v) w → Q (.panic c) a w := by exact fun _ _ _ h => h)
    (hy : YieldsIf P ops S oi v a := by exact Or.inl ⟨by rfl, by intro w' hs; (repeat (have := hs.1; replace hs := hs.2)); go_simp; with_reducible rfl⟩)
    (ha : a.put (some N) v = a' := by simp only [sp, i64_w, i32_w]; rfl)
    : wpAnyLast P md ops Q S ds (fuel + 1) l a w := take_ l' hi hN hc hQ hy hS ha h
theorem on (i N : Nat) (l' : Array Bool) {oi : Oper} {fuel : Nat} {l : Array Bool} {a : Act} {w : World}
    (h : ∀ K : Act → World → Prop, Shut (∀ a' w', S w' → (S w' → wpAnyLast P md ops Q S ds fuel l' a' w') → K a' w') → if Region.wanted oi (yielded ops a.tmps) = true then Oper.wp P oi a w K Q else K (a.put (some N) undef) w)
    (hi : ops[i]? = some oi := by rfl) (hN : oi.dst = some N := by rfl) (hc : readyB md ops l l' i = true := by first | exact one_of HT_.out (by kernel_rfl) | kernel_rfl) (hd : i ∉ ds := by decide)
    : wpAnyLast P md ops Q S ds (fuel + 1) l a w := one_ l' hi hN hc hd h
theorem gs {oi : Oper} {N : Option Tmp} {a : Act} {w : World} {K : Act → World → Prop} {f : FuncId} {fn : Func} {as : Array Operand} {ts : Array TypeId} (hf : P.funcs[f]? = some fn) (args : Array Value)
    (h : Calls P f args w fun e w' => ∃ v, e = .returned v ∧ K (a.put N v) w')
    (hname : (fn.name == "runtime.NumGoroutine") = false := by kernel_rfl) (hb : fn.body.isSome = true := by rfl)
    (hw : Region.wanted oi (yielded ops a.tmps) = true := by rfl) (hN : oi.dst = N := by rfl) (hop : oi.op = .call { callee := .value (.func f), args := as, argTypes := ts } := by rfl)
    (hargs : as.map a.eval = args := by (try simp only [List.map_toArray, List.map_cons, List.map_nil]); first | done | rfl | (simp only [List.length_drop, List.length_take]; rfl))
    : if Region.wanted oi (yielded ops a.tmps) = true then Oper.wp P oi a w K Q else K (a.put N undef) w := goes_ hf hname hb args hw hN hop hargs h
theorem gl {rest : List Oper} {oi : Oper} {a : Act} {w : World} (N : Option Tmp) {f : FuncId} {fn : Func} {as : Array Operand} {ts : Array TypeId} (hd : oi.dst = N) (hf : P.funcs[f]? = some fn) (args : Array Value)
    (h : Calls P f args w fun e w' => ∃ v, e = .returned v ∧ wpList P ops Q rest (a.put N v) w')
    (hg : oi.guard = none := by rfl) (hname : (fn.name == "runtime.NumGoroutine") = false := by kernel_rfl) (hb : fn.body.isSome = true := by rfl)
    (hop : oi.op = .call { callee := .value (.func f), args := as, argTypes := ts } := by rfl)
    (hargs : as.map a.eval = args := by (try simp only [List.map_toArray, List.map_cons, List.map_nil]); first | done | rfl | (simp only [List.length_drop, List.length_take]; rfl))
    : wpList P ops Q (oi :: rest) a w := goesL_ N hd hg hf hname hb args hop hargs h
theorem bx {o : Oper} {rest : List Oper} {a : Act} {W : World} (N : Nat) (cs : Array Value) (t : TypeId)
    (h : ∀ g, g = W.heap.size → ∀ w1, w1.heap[g]? = some (.cells cs t (0, 0)) → Below W.heap.size W w1 → wpList P ops Q rest (a.put o.dst (.pointer (some ⟨g, 0, none⟩))) w1)
    (hgd : o.guard = none := by rfl) (hd : o.dst = some N := by rfl)
    (hrun : (execOp a.eval o).run P W = .ok (.value (.pointer (some ⟨W.heap.size, 0, none⟩))) (W.alloc (.cells cs t (0, 0))) := by first | (go_simp; done) | (go_simp; rfl))
    : wpList P ops Q (o :: rest) a W := box_event hgd hd hrun h
theorem nm (N : Nat) {fuel : Nat} {l : Array Bool} {a a' : Act} {v : Value} {w : World} (h : wpAnyLast P md ops Q S ds fuel l a' w) (ha : a.put (some N) v = a' := by simp only [sp, i64_w, i32_w]; rfl) : wpAnyLast P md ops Q S ds fuel l (a.put (some N) v) w := norm_ ha h
end
end Go.Proofs.YtfjanffppobheaaGreatDoor.Sq
