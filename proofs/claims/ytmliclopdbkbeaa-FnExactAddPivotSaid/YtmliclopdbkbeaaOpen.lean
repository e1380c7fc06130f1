/- How an argument that reads as data is opened into the printed words' kinds: one lemma for each shape of type. No condition. -/
import Derived.Test.YtmliclopdbkbeaaWMore
import Derived.ChangeSlices
import Derived.ChangeArms
import Derived.Deep.Slices
import Derived.WideShapes
set_option linter.unusedVariables false
namespace Go.Proofs.Ytmliclopdbkbeaa.Open
open Go.RowKit Go.ChangeShapes Go.WideShapes Go.Proofs.YtmliclopdbkbeaaW.PrintWords Go.Proofs.YtmliclopdbkbeaaW.PrintLast Go.Proofs.YtmliclopdbkbeaaW.PrintMore

/-- Whatever reads as data at type t has the cells of a value of kind d, and Q holds of it. -/
def Opens {α : Type} (P : Program) (t : TypeId) (d : Kd α) (Q : α → Prop) : Prop :=
  ∀ (H : Type) (enc : TypeId × Value → H) (w : World) (base : Nat) (spare : Nat → Bool) (held : Bool) (fuel : Nat) (cs : List Value) (x : DataW H × List MemPlace),
    DataW.trod enc P w base spare held fuel t cs = some x → ∃ y, d.K w y cs ∧ Q y

theorem opens_int {P : Program} {t : TypeId} {k : IntKind} (ht : P.underlying t = some (.int k)) : Opens P t (Kd.int k) (fun n => (Lit.int k n).wf = true) := by
  intro H enc w base spare held fuel cs x h
  obtain ⟨n, rfl, _, hw⟩ := DataW.trod_int ht h
  exact ⟨n, rfl, hw⟩
theorem opens_iso {α β : Type} {P : Program} {t : TypeId} {d : Kd α} {Q : α → Prop} (h : Opens P t d Q) (f : β → α) (g : α → β) (hg : ∀ y, f (g y) = y) : Opens P t (Kd.iso d f) (fun x => Q (f x)) := by
  intro H enc w base spare held fuel cs x hx
  obtain ⟨y, hK, hQ⟩ := h H enc w base spare held fuel cs x hx
  exact ⟨g y, by show d.K w (f (g y)) cs; rw [hg]; exact hK, by show Q (f (g y)); rw [hg]; exact hQ⟩

theorem list_choose {α : Type} (n : Nat) (p : Nat → α → Prop) (h : ∀ i, i < n → ∃ y, p i y) : ∃ ys : List α, ys.length = n ∧ ∀ i y, ys[i]? = some y → p i y := by
  induction n with
  | zero => exact ⟨[], rfl, fun i y hy => by simp at hy⟩
  | succ n ih =>
    obtain ⟨ys, hl, hp⟩ := ih (fun i hi => h i (by omega))
    obtain ⟨z, hz⟩ := h n (by omega)
    refine ⟨ys ++ [z], by simp [hl], fun i y hy => ?_⟩
    rcases Nat.lt_or_ge i ys.length with hi | hi
    · rw [List.getElem?_append_left hi] at hy
      exact hp i y hy
    · rw [List.getElem?_append_right hi] at hy
      have e : i = n := by
        rcases Nat.eq_zero_or_pos (i - ys.length) with h0 | h0
        · omega
        · rw [List.getElem?_eq_none (by simp; omega)] at hy
          cases hy
      subst e
      rw [hl, Nat.sub_self] at hy
      simp at hy
      rw [← hy]
      exact hz

theorem opens_slice {α : Type} {P : Program} {t e e' : TypeId} {d : Kd α} {Q : α → Prop} (ht : P.underlying t = some (.slice e)) (hc : P.cellsOf e = d.sz) (he : Opens P e d Q) :
    Opens P t (Kd.slice e' d) (fun xs => xs.length ≤ maxLen ∧ ∀ x ∈ xs, Q x) := by
  intro H enc w base spare held fuel cs x h
  rcases DataW.trod_slice ht h with ⟨rfl, _⟩ | ⟨a, len, cap, elems, rest, n, _, rfl, _, hb, hl, hm, hlen, hel, _, _⟩
  · exact ⟨[], ⟨none, 0, rfl, Nat.le_refl _, rfl, by simp, fun h0 => absurd h0 (Nat.lt_irrefl 0)⟩, by simp, fun x hx => by simp at hx⟩
  · have each : ∀ i, i < len → ∃ y, ∃ c, c.length = d.sz ∧ d.K w y c ∧ (∀ j u, c[j]? = some u → w.cell? (a.add (i * d.sz + j)) = some u) ∧ Q y := by
      intro i hi
      have h1 := hel i hi
      rw [List.getElem?_eq_getElem (by omega)] at h1
      obtain ⟨c, h2, h3⟩ := Option.bind_eq_some_iff.1 h1
      obtain ⟨_, hcl, hcell⟩ := World.cells?_some h2
      obtain ⟨y, hK, hQ⟩ := he H enc w base spare held n c _ h3
      rw [hc] at hcl hcell
      refine ⟨y, c, hcl, hK, fun j u hu => ?_, hQ⟩
      have hj : j < d.sz := by
        rcases Nat.lt_or_ge j c.length with hj | hj
        · omega
        · rw [List.getElem?_eq_none hj] at hu; cases hu
      have := hcell j hj
      rw [Deep.add_add] at this
      rw [this, hu]
    obtain ⟨ys, hyl, hys⟩ := list_choose len _ each
    refine ⟨ys, ⟨some a, cap, by rw [hyl], by omega, rfl, by have := hm; unfold maxLen at this; omega, fun _ => ⟨a, rfl, fun j p hp => ?_⟩⟩, by omega, fun y hy => ?_⟩
    · obtain ⟨c, h1, h2, h3, _⟩ := hys j p hp
      exact ⟨c, h1, h2, h3⟩
    · obtain ⟨i, hi⟩ := List.mem_iff_getElem?.1 hy
      obtain ⟨_, _, _, _, hQ⟩ := hys i y hi
      exact hQ

/-- The fields of a struct from a place on. -/
def OpensF {α : Type} (P : Program) (fs : List Field) (o : Nat) (d : Kd α) (Q : α → Prop) : Prop :=
  ∀ (H : Type) (enc : TypeId × Value → H) (w : World) (base : Nat) (spare : Nat → Bool) (held : Bool) (fuel : Nat) (cs : List Value),
    cs.length = o + d.sz → (∀ (i : Nat) (f : Field), fs[i]? = some f → ∃ x, DataW.trod enc P w base spare held fuel f.type ((cs.drop f.offset).take (P.cellsOf f.type)) = some x) → ∃ y, d.K w y (cs.drop o) ∧ Q y
theorem opensF_last {α : Type} {P : Program} {f : Field} {o : Nat} {d : Kd α} {Q : α → Prop} (ho : f.offset = o) (hc : P.cellsOf f.type = d.sz) (h : Opens P f.type d Q) : OpensF P [f] o d Q := by
  intro H enc w base spare held fuel cs hl hf
  obtain ⟨x, hx⟩ := hf 0 f rfl
  rw [ho, hc, List.take_of_length_le (by rw [List.length_drop]; omega)] at hx
  exact h H enc w base spare held fuel _ x hx
theorem opensF_cons {α β : Type} {P : Program} {f : Field} {fs : List Field} {o : Nat} {a : Kd α} {b : Kd β} {Q : α → Prop} {R : β → Prop} (ho : f.offset = o) (hc : P.cellsOf f.type = a.sz) (h : Opens P f.type a Q) (hs : OpensF P fs (o + a.sz) b R) :
    OpensF P (f :: fs) o (Kd.pair a b) (fun x => Q x.1 ∧ R x.2) := by
  intro H enc w base spare held fuel cs hl hf
  have hl2 : cs.length = o + (a.sz + b.sz) := hl
  obtain ⟨x, hx⟩ := hf 0 f rfl
  rw [ho, hc] at hx
  obtain ⟨y, hK, hQ⟩ := h H enc w base spare held fuel _ x hx
  obtain ⟨z, hL, hR⟩ := hs H enc w base spare held fuel cs (by omega) (fun i g hg => hf (i + 1) g (by simpa using hg))
  refine ⟨(y, z), ⟨_, _, ?_, hK, hL⟩, hQ, hR⟩
  rw [← List.drop_drop, List.take_append_drop]
theorem opens_struct {α : Type} {P : Program} {t : TypeId} {fs : Array Field} {d : Kd α} {Q : α → Prop} (ht : P.underlying t = some (.struct fs)) (hc : P.cellsOf t = d.sz) (h : OpensF P fs.toList 0 d Q) : Opens P t d Q := by
  intro H enc w base spare held fuel cs x hx
  obtain ⟨xs, n, _, _, hl, hxl, hf⟩ := DataW.trod_struct ht hx
  obtain ⟨y, hK, hQ⟩ := h H enc w base spare held n cs (by omega) (fun i f hi => by
    have h2 : fs[i]? = some f := by simpa using hi
    rw [hf i f h2]
    have : i < fs.size := (Array.getElem?_eq_some_iff.1 h2).1
    exact ⟨_, List.getElem?_eq_getElem (by omega)⟩)
  exact ⟨y, by simpa using hK, hQ⟩
end Go.Proofs.Ytmliclopdbkbeaa.Open
