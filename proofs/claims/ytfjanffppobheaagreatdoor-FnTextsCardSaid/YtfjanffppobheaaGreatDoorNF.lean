import Derived.Test.YtfjanffppobheaaGreatDoorWApart
namespace Go.Proofs.YtfjanffppobheaaGreatDoorW.PrintWords
open Go.RowKit
namespace Kd
section
variable {α : Type} {d : Kd α} {e base base' n c g : Nat} {ok ok' : Nat → Prop} {w w1 W : World} {u v : Value} {xs : List α}
def NF {α : Type} (d : Kd α) (e : Nat) (w : World) (base : Nat) (ok : Nat → Prop) (v : Value) (xs : List α) : Prop :=
  ∃ (B : Option Addr) (n c m : Nat) (ys : List α), S d e w base ok (.slice B n c) ys ∧ m ≤ ys.length ∧ xs = ys.drop m ∧ v = .slice (if c = m then B else B.map (·.add (m * d.sz))) (n - m) (c - m)
theorem NF_map (h : NF d e w base ok v xs) (f : ∀ u ys, S d e w base ok u ys → S d e w1 base' ok' u ys) : NF d e w1 base' ok' v xs := by
  obtain ⟨B, n, c, m, ys, hS, hm, hx, hv⟩ := h
  exact ⟨B, n, c, m, ys, f _ _ hS, hm, hx, hv⟩
theorem NF_of (h : S d e w base ok v xs) : NF d e w base ok v xs := by
  obtain ⟨B, c, rfl⟩ := S_slice h
  refine ⟨B, xs.length, c, 0, xs, h, Nat.zero_le _, rfl, ?_⟩
  have e1 : B.map (·.add (0 * d.sz)) = B := by
    cases B with
    | none => rfl
    | some a => simp [Addr.add]
  rw [e1]
  simp
theorem NF_mk {B A : Option Addr} {n c m n' c' : Nat} {ys : List α} (h : S d e w base ok (.slice B n c) ys) (hm : m ≤ ys.length) (hA : A = if c = m then B else B.map (·.add (m * d.sz))) (hn : n' = n - m) (hc : c' = c - m) : NF d e w base ok (.slice A n' c') (ys.drop m) :=
  ⟨B, n, c, m, ys, h, hm, rfl, by rw [hA, hn, hc]⟩
theorem NF_own (h : NF d e w base ok v xs) : ∃ u ys, S d e w base ok u ys ∧ ∀ k, v.ownBlock = some k → u.ownBlock = some k := by
  obtain ⟨B, n, c, m, ys, hS, hm, rfl, rfl⟩ := h
  refine ⟨_, _, hS, fun k hk => ?_⟩
  split at hk
  · cases B <;> exact hk
  · cases B with
    | none => exact hk
    | some a =>
      have h2 : some (a.add (m * d.sz)).block = some k := hk
      rw [add_block] at h2
      exact h2
theorem NF_lt (h : NF d e w base ok v xs) : ∀ k, v.ownBlock = some k → k < w.heap.size := by
  obtain ⟨u, ys, hS, ho⟩ := NF_own h
  exact fun k hk => S_lt hS k (ho k hk)
theorem NF_base (h : NF d e w base ok v xs) : ∀ k, v.ownBlock = some k → base ≤ k := by
  obtain ⟨u, ys, hS, ho⟩ := NF_own h
  exact fun k hk => S_base hS k (ho k hk)
theorem NF_reads' {A : Option Addr} {n c : Nat} (h : NF d e w base ok (.slice A n c) xs) : n = xs.length ∧ n ≤ c ∧ d.C w A xs.length xs := by
  obtain ⟨B, n0, c0, m, ys, hS, hm, rfl, hv⟩ := h
  obtain ⟨h1, h2, h3⟩ := S_reads' hS
  have hC := C_mid (lo := m) (hi := ys.length) (c := c0) h3 hm (Nat.le_refl _) (by omega)
  rw [List.take_length] at hC
  injection hv with e1 e2 e3
  rw [← e1] at hC
  exact ⟨by rw [List.length_drop]; omega, by omega, hC⟩
theorem NF_slice (h : NF d e w base ok v xs) : ∃ A c, v = .slice A xs.length c := by
  obtain ⟨B, n0, c0, m, ys, hS, hm, rfl, rfl⟩ := h
  obtain ⟨h1, h2, h3⟩ := S_reads' hS
  exact ⟨_, _, by rw [List.length_drop, h1]⟩
theorem NF_mono (h : NF d e w base ok v xs) (hok : ∀ k, ok k → ok' k) : NF d e w base ok' v xs := NF_map h (fun _ _ s => S_mono s hok)
theorem NF_lower (h : NF d e w base ok v xs) (hb : base' ≤ base) : NF d e w base' ok v xs := NF_map h (fun _ _ s => S_lower s hb)
theorem NF_below (h : NF d e w base ok v xs) (hb : Below w.heap.size w w1) : NF d e w1 base ok v xs := NF_map h (fun _ _ s => S_below s hb)
theorem NF_far (h : NF d e w base ok v xs) {p : Addr} (hok : ∀ k, ok k → k ≠ p.block) (u : Value) : NF d e (w.setCell p u) base ok v xs := NF_map h (fun _ _ s => S_far s hok u)
theorem NF_keep (h : NF d e w base ok v xs) {g : Nat} (hk : KeepBut w w1 g none) (hok : ∀ k, ok k → k ≠ g) : NF d e w1 base ok v xs := NF_map h (fun _ _ s => S_keep s hk hok)
theorem NF_types (h : NF d e w base ok v xs) {g t : Nat} {cells : Array Value} (hb : w.heap[g]? = some (.cells cells t (0, 0))) (ht : ∀ q, q ∈ e :: d.E → q ≠ t) : NF d e w base (fun k => ok k ∧ k ≠ g) v xs := NF_map h (fun _ _ s => S_types s hb ht)
theorem NF_elder' (h : NF d e W base ok v xs) (hbase : ∀ k, u.ownBlock = some k → W.heap.size ≤ k) (hb : Below W.heap.size W w1) : NF d e w1 base (fun k => ok k ∧ some k ≠ u.ownBlock) v xs := NF_map h (fun _ _ s => S_elder' s hbase hb)
theorem NF_new' (h : NF d e w1 W.heap.size ok v xs) (hlt : ∀ k, u.ownBlock = some k → k < W.heap.size) : NF d e w1 W.heap.size (fun k => ok k ∧ some k ≠ u.ownBlock) v xs := NF_map h (fun _ _ s => S_new' s hlt)
theorem NF_alloc (h : NF d e w base ok v xs) (o : Obj) : NF d e (w.alloc o) base ok v xs := NF_map h (fun _ _ s => S_alloc s o)
theorem NF_drew (h : NF d e w base ok v xs) : NF d e w.drew base ok v xs := NF_map h (fun _ _ s => S_drew s)
theorem NF_drewN (h : NF d e w base ok v xs) (m : Nat) : NF d e (w.drewN m) base ok v xs := NF_map h (fun _ _ s => S_drewN s m)
end
end Kd
end Go.Proofs.YtfjanffppobheaaGreatDoorW.PrintWords
