/- Small plain lemmas on whole numbers, lists and rounds that the pure proofs of this seat share. No condition. -/
import Derived.Test.YtfjanffppobheaaGreatDoorWMore
import Derived.Laws.BitsLemmas
import Derived.Laws.BitsAllLaws
import Derived.Lib.Strings
set_option linter.unusedVariables false
namespace Go.Proofs.YtfjanffppobheaaGreatDoor.B
open Go.RowKit Go.Proofs.YtfjanffppobheaaGreatDoorW.PrintWords Go.Proofs.YtfjanffppobheaaGreatDoorW.PrintLast Go.Proofs.YtfjanffppobheaaGreatDoorW.PrintMore

theorem w64 {n : Int} (h0 : -9223372036854775808 ≤ n) (h1 : n < 9223372036854775808) : wrap64 n = n := by unfold wrap64; omega
theorem w64_lo (n : Int) : -9223372036854775808 ≤ wrap64 n ∧ wrap64 n < 9223372036854775808 := by unfold wrap64; omega
theorem wS {i n : Nat} (h : i < n) (hn : n ≤ 9223372036854775807) : wrap64 ((i : Int) + 1) = ((i + 1 : Nat) : Int) := by unfold wrap64; omega
theorem wA {a : Int} (h0 : 0 ≤ a) (h : a < 9223372036854775807) : wrap64 (a + 1) = a + 1 := by unfold wrap64; omega
theorem tdiv_nn {a b : Int} (h : 0 ≤ a) : Int.tdiv a b = a / b := Int.tdiv_eq_ediv_of_nonneg h
theorem tmod_nn {a b : Int} (h : 0 ≤ a) : Int.tmod a b = a % b := Int.tmod_eq_emod_of_nonneg h
theorem tmod_cases (a : Int) (b : Int) : (0 ≤ a → Int.tmod a b = a % b) ∧ (a < 0 → Int.tmod a b = -((-a) % b)) := by
  refine ⟨fun h => Int.tmod_eq_emod_of_nonneg h, fun h => ?_⟩
  have e : a = -(-a) := by omega
  rw [e, Int.neg_tmod, Int.tmod_eq_emod_of_nonneg (by omega), Int.neg_neg]
theorem tdiv_cases (a : Int) (b : Int) : (0 ≤ a → Int.tdiv a b = a / b) ∧ (a < 0 → Int.tdiv a b = -((-a) / b)) := by
  refine ⟨fun h => Int.tdiv_eq_ediv_of_nonneg h, fun h => ?_⟩
  have e : a = -(-a) := by omega
  rw [e, Int.neg_tdiv, Int.tdiv_eq_ediv_of_nonneg (by omega), Int.neg_neg]
theorem wf_bounds {n : Int} (h : (Lit.int .i64 n).wf = true) : -9223372036854775808 ≤ n ∧ n < 9223372036854775808 := by
  have e : IntKind.i64.min ≤ n ∧ n ≤ 9223372036854775807 := by simpa [Lit.wf] using h
  have m : IntKind.i64.min = -9223372036854775808 := by decide
  omega
theorem or_low (x y : Int) (hx0 : 0 ≤ x) (hx : x % 256 = 0) (hx1 : x < 4611686018427387904) (h0 : 0 ≤ y) (h1 : y < 256) : Go.bits .or .i64 x y = x + y :=
  bits_join .i64 62 (by decide) (fun n a b => by rw [IntKind.wrap_i64]; omega) 8 x y hx0 (by omega) (by omega) h0 (by omega) (by omega)

/-! rounds -/
theorem ev_const {α : Type} {g : Nat → Option α} {r : α} (h : ∀ k, g (k + 1) = some r) : Ev g r := by
  refine ⟨1, fun k hk => ?_⟩
  obtain ⟨m, rfl⟩ : ∃ m, k = m + 1 := ⟨k - 1, by omega⟩
  exact h m
theorem ev_ifp {α : Type} {c : Prop} [Decidable c] {g f : Nat → Option α} {r : α} (h : c) (k : Ev g r) : Ev (fun n => if c then g n else f n) r := by
  obtain ⟨K, hK⟩ := k
  exact ⟨K, fun n hn => (if_pos h).trans (hK n hn)⟩
theorem ev_ifn {α : Type} {c : Prop} [Decidable c] {g f : Nat → Option α} {r : α} (h : ¬ c) (k : Ev f r) : Ev (fun n => if c then g n else f n) r := by
  obtain ⟨K, hK⟩ := k
  exact ⟨K, fun n hn => (if_neg h).trans (hK n hn)⟩
theorem ev_some {α : Type} (r : α) : Ev (fun _ => some r) r := Ev.now r
theorem ev_eq {α : Type} {g : Nat → Option α} {a b : α} (h : Ev g a) (e : a = b) : Ev g b := e ▸ h
theorem ev_pure {α β : Type} {x : Option α} {f : Nat → α → Option β} {a : α} {r : β} (h : x = some a) (k : Ev (fun n => f n a) r) : Ev (fun n => x.bind (f n)) r := by
  subst h
  exact k
/-- A loop from 0 to n: what round i + 1 tells, round i tells. -/
theorem down_ev {β : Type} (n : Nat) (g : Nat → Nat → Option β) (r : β) (hs : ∀ i, i < n → Ev (fun k => g k (i + 1)) r → Ev (fun k => g k i) r) (he : Ev (fun k => g k n) r) : Ev (fun k => g k 0) r := by
  have key : ∀ d, d ≤ n → Ev (fun k => g k (n - d)) r := by
    intro d
    induction d with
    | zero => intro _; exact he
    | succ d ih =>
      intro hd
      refine hs (n - (d + 1)) (by omega) ?_
      have e : n - (d + 1) + 1 = n - d := by omega
      rw [e]
      exact ih (by omega)
  have := key n (Nat.le_refl n)
  rwa [Nat.sub_self] at this

/-- The same, with what the rounds before have left. -/
theorem loop_ev {β : Type} (n : Nat) (C : Nat → Prop) (g : Nat → Nat → Option β) (r : β) (h0 : C 0) (hs : ∀ i, i < n → C i → (C (i + 1) → Ev (fun k => g k (i + 1)) r) → Ev (fun k => g k i) r) (he : C n → Ev (fun k => g k n) r) : Ev (fun k => g k 0) r := by
  have key : ∀ d, d ≤ n → C (n - d) → Ev (fun k => g k (n - d)) r := by
    intro d
    induction d with
    | zero => intro _ h; exact he h
    | succ d ih =>
      intro hd hc
      refine hs (n - (d + 1)) (by omega) hc (fun h => ?_)
      have e : n - (d + 1) + 1 = n - d := by omega
      rw [e] at h ⊢
      exact ih (by omega) h
  have := key n (Nat.le_refl n)
  rw [Nat.sub_self] at this
  exact this h0

/-- Two loops that go side by side and tell the same. -/
theorem pair_ev {σ β : Type} (n : Nat) (C : Nat → σ → Prop) (g h : Nat → σ → Nat → Option β)
    (hs : ∀ i s, i < n → C i s → (∃ r, Ev (fun k => g k s i) r ∧ Ev (fun k => h k s i) r) ∨ (∃ s', C (i + 1) s' ∧ (∀ k, g (k + 1) s i = g k s' (i + 1)) ∧ (∀ k, h (k + 1) s i = h k s' (i + 1))))
    (he : ∀ s, C n s → ∃ r, Ev (fun k => g k s n) r ∧ Ev (fun k => h k s n) r) : ∀ s, C 0 s → ∃ r, Ev (fun k => g k s 0) r ∧ Ev (fun k => h k s 0) r := by
  have key : ∀ d, d ≤ n → ∀ s, C (n - d) s → ∃ r, Ev (fun k => g k s (n - d)) r ∧ Ev (fun k => h k s (n - d)) r := by
    intro d
    induction d with
    | zero => intro _ s hc; exact he s hc
    | succ d ih =>
      intro hd s hc
      rcases hs (n - (d + 1)) s (by omega) hc with h1 | ⟨s', hc', e1, e2⟩
      · exact h1
      · have e : n - (d + 1) + 1 = n - d := by omega
        rw [e] at hc'
        obtain ⟨r, a, b⟩ := ih (by omega) s' hc'
        refine ⟨r, Ev.step (fun k => ?_) a, Ev.step (fun k => ?_) b⟩
        · rw [e1, e]
        · rw [e2, e]
  have := key n (Nat.le_refl n)
  rw [Nat.sub_self] at this
  exact this

/-! lists -/
theorem rd_nat {l : List Int} {i : Nat} (h : i < l.length) : rd l (i : Int) = l[i] := by unfold rd; simp [List.getD_eq_getElem?_getD, List.getElem?_eq_getElem h]
theorem set_step {α : Type} (t x : List α) (hl : t.length = x.length) (i : Nat) (hi : i < t.length) : (t.take i ++ x.drop i).set i t[i] = t.take (i + 1) ++ x.drop (i + 1) := by
  have h1 : (t.take i).length = i := by rw [List.length_take]; omega
  rw [List.set_append_right _ _ (by omega), h1, Nat.sub_self, List.drop_eq_getElem_cons (by omega), List.set_cons_zero, List.take_succ_eq_append_getElem hi, List.append_assoc]
  rfl
theorem step_len {α : Type} (t x : List α) (hl : t.length = x.length) (i : Nat) (hi : i ≤ t.length) : (t.take i ++ x.drop i).length = t.length := by
  rw [List.length_append, List.length_take, List.length_drop]; omega
/-- Numbers that count on from a. -/
def mk (a : Int) (n : Nat) : List Int := (List.range n).map fun j : Nat => a + (j : Int)
theorem mk_len (a : Int) (n : Nat) : (mk a n).length = n := by simp [mk]
theorem mk_at (a : Int) (n : Nat) (i : Nat) (h : i < (mk a n).length) : (mk a n)[i] = a + (i : Int) := by simp [mk]
theorem take_snoc {α : Type} (l : List α) (i : Nat) (h : i < l.length) : l.take (i + 1) = l.take i ++ [l[i]] := by rw [List.take_succ_eq_append_getElem h]
theorem all_take_true {α : Type} (p : α → Bool) (l : List α) (h : ∀ i (hi : i < l.length), p l[i] = true) : l.all p = true := by
  rw [List.all_eq_true]; intro x hx; obtain ⟨i, hi, rfl⟩ := List.mem_iff_getElem.1 hx; exact h i hi
theorem all_false_at {α : Type} (p : α → Bool) (l : List α) (i : Nat) (hi : i < l.length) (h : p l[i] = false) : l.all p = false := by
  rw [List.all_eq_false]; exact ⟨l[i], List.getElem_mem hi, by simp [h]⟩
end Go.Proofs.YtfjanffppobheaaGreatDoor.B
