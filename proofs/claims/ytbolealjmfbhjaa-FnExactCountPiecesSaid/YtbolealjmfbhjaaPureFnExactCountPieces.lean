/- CountPieces of the program returns what the reference returns, for every column. No condition. -/
import Derived.Test.YtbolealjmfbhjaaPFnExactCountPiecesx0
import Derived.Test.YtbolealjmfbhjaaPFnExactCountPiecesx1
import Derived.Test.YtbolealjmfbhjaaPFnExactCountPiecesx2
import Derived.Test.YtbolealjmfbhjaaPFnExactCountPiecesx3
import Derived.Test.YtbolealjmfbhjaaPFnExactCountPiecesx4
import Derived.Test.YtbolealjmfbhjaaPFnExactCountPiecesx5
import Derived.Test.YtbolealjmfbhjaaPFnExactCountPiecesx6
import Derived.Test.YtbolealjmfbhjaaPFnExactCountPiecesx7
import Derived.Test.YtbolealjmfbhjaaB
set_option linter.unusedVariables false
set_option linter.unusedSimpArgs false
namespace Go.Proofs.Ytbolealjmfbhjaa.Pure.FnExactCountPieces
open Go.RowKit Go.Proofs.Ytbolealjmfbhjaa.PFnExactCountPieces Go.Proofs.YtbolealjmfbhjaaW.PrintWords Go.Proofs.YtbolealjmfbhjaaW.PrintLast Go.Proofs.YtbolealjmfbhjaaW.PrintMore Go.Proofs.Ytbolealjmfbhjaa.B

/-- A loop that ends false at the first round that is not ok, and goes on with r behind the last. -/
theorem all_ev (n : Nat) (ok : Nat → Bool) (r : Bool) (g : Nat → Nat → Option Bool) (hf : ∀ i, i < n → ok i = false → Ev (fun k => g k i) false)
    (ht : ∀ i, i < n → ∀ r, ok i = true → Ev (fun k => g k (i + 1)) r → Ev (fun k => g k i) r) (he : (∀ i, i < n → ok i = true) → Ev (fun k => g k n) r) :
    Ev (fun k => g k 0) ((List.range n).all ok && r) := by
  refine loop_ev n (fun i => ∀ j, j < i → ok j = true) g _ (fun j h => absurd h (Nat.not_lt_zero _)) ?_ ?_
  · intro i hi hc ih
    cases e : ok i with
    | true =>
      refine ht i hi _ e (ih (fun j hj => ?_))
      by_cases h : j = i
      · rw [h]; exact e
      · exact hc j (by omega)
    | false =>
      have : (List.range n).all ok = false := by
        rw [List.all_eq_false]
        exact ⟨i, List.mem_range.2 hi, by simp [e]⟩
      rw [this, Bool.false_and]
      exact hf i hi e
  · intro hc
    have : (List.range n).all ok = true := by
      rw [List.all_eq_true]
      exact fun i hi => hc i (List.mem_range.1 hi)
    rw [this, Bool.true_and]
    exact he hc

theorem l1In_eq (x a b : Int) : spec_l1In.f x a b = some (decide (a ≤ x) && decide (x ≤ b)) := by
  unfold spec_l1In.f
  by_cases h : x ≥ a
  · rw [if_pos h]
    have : a ≤ x := h
    simp [this]
  · rw [if_neg h]
    have : ¬ a ≤ x := h
    simp [this]

def areV (l : List Int) : Bool := decide (l.length ≤ 64) && l.all (fun x => decide (-999 ≤ x) && decide (x ≤ 999))

theorem specAreValues_ev (l : List Int) (hl : l.length ≤ 4611686018427387904) : Ev (fun k => spec_AreValues.f k l) (areV l) := by
  unfold spec_AreValues.f
  refine loop_ev l.length (fun i => ∀ j (h : j < l.length), j < i → (decide (-999 ≤ l[j]) && decide (l[j] ≤ 999)) = true) (fun k i => spec_AreValues.l0 k l (i : Int)) (areV l) (fun j _ h => absurd h (Nat.not_lt_zero _)) ?_ ?_
  · intro i hi hc ih
    cases e : (decide (-999 ≤ l[i]) && decide (l[i] ≤ 999)) with
    | true =>
      refine Ev.step (fun k => ?_) (ih (fun j h hj => ?_))
      · simp only [spec_AreValues.l0]
        rw [if_pos (by omega), if_pos (by omega), rd_nat hi]
        have e2 : spec_l1In.f l[i] (-999) 999 = some true := by
          simp at e
          unfold spec_l1In.f
          rw [if_pos (by omega)]
          simp [e.2]
        rw [e2, Option.bind_some, if_pos rfl, wS hi (by omega)]
      · by_cases hji : j = i
        · subst hji; exact e
        · exact hc j h (by omega)
    | false =>
      refine ev_const (fun k => ?_)
      simp only [spec_AreValues.l0]
      rw [if_pos (by omega), if_pos (by omega), rd_nat hi]
      have e2 : spec_l1In.f l[i] (-999) 999 = some false := by
        unfold spec_l1In.f
        by_cases c : l[i] ≥ -999
        · rw [if_pos c]
          have c2 : -999 ≤ l[i] := c
          simp [c2] at e
          simp; omega
        · rw [if_neg c]
      rw [e2, Option.bind_some, if_neg (by simp)]
      unfold areV
      rw [all_false_at _ l i hi e, Bool.and_false]
  · intro hc
    refine ev_const (fun k => ?_)
    simp only [spec_AreValues.l0]
    rw [if_neg (by omega)]
    unfold areV
    rw [all_take_true _ l (fun i h => hc i h h), Bool.and_true]
    congr 1
    simp
    omega

theorem within_all (l : List Int) (a b : Int) : impl_within.f l a b = some (l.all fun x => decide (a ≤ x) && decide (x ≤ b)) := by
  unfold impl_within.f
  rw [List.not_any_eq_all_not]
  congr 2
  funext x
  by_cases h1 : x < a <;> by_cases h2 : b < x <;> simp [h1, h2] <;> omega
theorem implAreValues (l : List Int) : impl_AreValues.f l = some (areV l) := by
  unfold impl_AreValues.f areV
  by_cases h : (l.length : Int) ≤ 64
  · rw [if_pos h, within_all, Option.bind_some]
    have : l.length ≤ 64 := by omega
    simp [this]
  · rw [if_neg h]
    have : ¬ l.length ≤ 64 := by omega
    simp [this]

def rowAt (l : List Int) (v : Int) : Int := match l.findIdx? (fun x => x == v) with | some i => (i : Int) | none => -1
theorem rowAt_hit {l : List Int} {v : Int} {i : Nat} (hi : i < l.length) (he : l[i] = v) (hb : ∀ j (h : j < l.length), j < i → l[j] ≠ v) : rowAt l v = (i : Int) := by
  have : l.findIdx? (fun x => x == v) = some i := by
    rw [List.findIdx?_eq_some_iff_getElem]
    exact ⟨hi, by simp [he], fun j hj => by simp [hb j (by omega) hj]⟩
  unfold rowAt
  rw [this]
theorem rowAt_miss {l : List Int} {v : Int} (hb : ∀ j (h : j < l.length), l[j] ≠ v) : rowAt l v = -1 := by
  have : l.findIdx? (fun x => x == v) = none := by
    rw [List.findIdx?_eq_none_iff]
    intro x hx
    obtain ⟨j, hj, rfl⟩ := List.mem_iff_getElem.1 hx
    simp [hb j hj]
  unfold rowAt
  rw [this]
theorem rowAt_cases (l : List Int) (v : Int) : (rowAt l v = -1 ∧ v ∉ l) ∨ (∃ i, ∃ h : i < l.length, rowAt l v = (i : Int) ∧ l[i] = v) := by
  unfold rowAt
  cases h : l.findIdx? (fun x => x == v) with
  | none =>
    rw [List.findIdx?_eq_none_iff] at h
    exact .inl ⟨rfl, fun hv => by have := h v hv; simp at this⟩
  | some i =>
    obtain ⟨h1, h2, _⟩ := List.findIdx?_eq_some_iff_getElem.1 h
    exact .inr ⟨i, h1, rfl, by simpa using h2⟩
theorem rowAt_neg (l : List Int) (v : Int) : rowAt l v < 0 ↔ v ∉ l := by
  rcases rowAt_cases l v with ⟨h, hv⟩ | ⟨i, hi, h, he⟩
  · rw [h]; simp [hv]
  · rw [h]
    have : v ∈ l := he ▸ List.getElem_mem hi
    simp [this] <;> omega

theorem index_ev (r : List Int) (q : Int) (hl : r.length ≤ 4611686018427387904) : Ev (fun k => slices_Index_int_int.f k r q) (rowAt r q) := by
  unfold slices_Index_int_int.f
  refine loop_ev r.length (fun i => ∀ j (h : j < r.length), j < i → r[j] ≠ q) (fun k i => slices_Index_int_int.l0 k r q (r.length : Int) (i : Int)) _ (fun j _ h => absurd h (Nat.not_lt_zero _)) ?_ ?_
  · intro i hi hc ih
    by_cases e : r[i] = q
    · refine ev_const (fun k => ?_)
      simp only [slices_Index_int_int.l0]
      rw [if_pos (by omega), if_pos (by omega), if_pos (by omega), rd_nat hi, if_pos e.symm, rowAt_hit hi e hc]
    · refine Ev.step (fun k => ?_) (ih (fun j h hj => ?_))
      · simp only [slices_Index_int_int.l0]
        rw [if_pos (by omega), if_pos (by omega), if_pos (by omega), rd_nat hi, if_neg (fun h => e h.symm), wS hi (by omega)]
      · by_cases hji : j = i
        · subst hji; exact e
        · exact hc j h (by omega)
  · intro hc
    refine ev_const (fun k => ?_)
    simp only [slices_Index_int_int.l0]
    rw [if_neg (by omega), rowAt_miss (fun j h => hc j h h)]

theorem bound_eq (x : Int) : impl_bound.f x = some (decide (-1000 ≤ x) && decide (x ≤ 1000)) := by
  unfold impl_bound.f
  by_cases h : x ≥ -1000
  · rw [if_pos h]
    have : -1000 ≤ x := h
    simp [this]
  · rw [if_neg h]
    have : ¬ -1000 ≤ x := h
    simp [this]
/-- Is the k-th pivot's head in order: its value, its place, and both against the pivot before it? -/
def ph (n : Int) (P : List S69) (k : Nat) : Bool :=
  (decide (-1000 ≤ (rd_T69 P (k : Int)).f0) && decide ((rd_T69 P (k : Int)).f0 ≤ 1000)) && (decide (0 ≤ (rd_T69 P (k : Int)).f1) && decide ((rd_T69 P (k : Int)).f1 ≤ n)) &&
  !(decide (0 < k) && (decide ((rd_T69 P (k : Int)).f0 ≤ (rd_T69 P ((k : Int) - 1)).f0) || decide ((rd_T69 P (k : Int)).f1 < (rd_T69 P ((k : Int) - 1)).f1)))
/-- Do the values lie on their side of a pivot? -/
def pbi (V : List Int) (v at_ : Int) (i : Nat) : Bool := decide (rd V (i : Int) < v) == decide ((i : Int) < at_)
def pb (V : List Int) (v at_ : Int) : Bool := (List.range V.length).all (pbi V v at_)
def pok (V : List Int) (P : List S69) (k : Nat) : Bool := ph (V.length : Int) P k && pb V (rd_T69 P (k : Int)).f0 (rd_T69 P (k : Int)).f1
def pall (V : List Int) (P : List S69) : Bool := (List.range P.length).all (pok V P)
theorem w_pred {i : Nat} (h0 : 0 < i) (h : i ≤ 4611686018427387904) : wrap64 ((i : Int) - 1) = (i : Int) - 1 := w64 (by omega) (by omega)
theorem specP_step (V : List Int) (P : List S69) (i : Nat) (hi : i < P.length) (hl : P.length ≤ 4611686018427387904) (k : Nat) :
    spec_l4Pivots.l0 (k + 1) V P (i : Int) = spec_l4Pivots.j1 k V P (i : Int) (!ph (V.length : Int) P i) (rd_T69 P (i : Int)).f0 (rd_T69 P (i : Int)).f1 := by
  simp only [spec_l4Pivots.l0, l1In_eq, Option.bind_some]
  rw [if_pos (by omega), if_pos (by omega)]
  unfold ph
  generalize (rd_T69 P (i : Int)).f0 = v
  generalize (rd_T69 P (i : Int)).f1 = a
  cases hA : (decide (-1000 ≤ v) && decide (v ≤ 1000)) with
  | false => rw [if_neg (by simp)]; simp
  | true =>
    rw [if_pos rfl]
    cases hB : (decide (0 ≤ a) && decide (a ≤ (V.length : Int))) with
    | false => rw [if_neg (by simp)]; simp
    | true =>
      rw [if_pos rfl]
      by_cases h0 : 0 < i
      · rw [if_pos (by omega), w_pred h0 (by omega), if_pos (by omega), if_pos (by omega)]
        by_cases hv : v ≤ (rd_T69 P ((i : Int) - 1)).f0
        · rw [if_pos hv]; simp [hv, h0]
        · rw [if_neg hv]; simp [hv, h0]
      · rw [if_neg (by omega)]; simp [h0]
theorem implP_step (V R : List Int) (P : List S69) (i : Nat) (hi : i < P.length) (hl : P.length ≤ 4611686018427387904) (k : Nat) :
    impl_IsCracker.l1 (k + 1) P (P.length : Int) (i : Int) V R P = impl_IsCracker.j3 k P (P.length : Int) (i : Int) (!ph (V.length : Int) P i) V R P (rd_T69 P (i : Int)).f0 (rd_T69 P (i : Int)).f1 := by
  simp only [impl_IsCracker.l1, bound_eq, Option.bind_some]
  rw [if_pos (by omega), if_pos (by omega), if_pos (by omega)]
  unfold ph
  generalize (rd_T69 P (i : Int)).f0 = v
  generalize (rd_T69 P (i : Int)).f1 = a
  cases hA : (decide (-1000 ≤ v) && decide (v ≤ 1000)) with
  | false => rw [if_neg (by simp)]; simp
  | true =>
    rw [if_pos rfl]
    by_cases hB : a < 0
    · rw [if_pos hB, decide_eq_false (show ¬ 0 ≤ a by omega)]; simp
    rw [if_neg hB, decide_eq_true (show 0 ≤ a by omega)]
    by_cases hC : a > (V.length : Int)
    · rw [if_pos hC, decide_eq_false (show ¬ a ≤ (V.length : Int) by omega)]; simp
    rw [if_neg hC, decide_eq_true (show a ≤ (V.length : Int) by omega)]
    by_cases h0 : 0 < i
    · rw [if_pos (by omega), w_pred h0 (by omega), if_pos (by omega), if_pos (by omega)]
      by_cases hv : v ≤ (rd_T69 P ((i : Int) - 1)).f0
      · rw [if_pos hv]; simp [hv, h0]
      · rw [if_neg hv]; simp [hv, h0]
    · rw [if_neg (by omega)]; simp [h0]
theorem specP_in (V : List Int) (P : List S69) (i : Nat) (v a : Int) (r : Bool) (hV : V.length ≤ 4611686018427387904) (h : pb V v a = true → Ev (fun k => spec_l4Pivots.l0 k V P (wrap64 ((i : Int) + 1))) r) :
    Ev (fun k => spec_l4Pivots.l1 k V P (i : Int) 0 v a) (pb V v a && r) := by
  refine all_ev V.length (pbi V v a) r (fun k j => spec_l4Pivots.l1 k V P (i : Int) (j : Int) v a) ?_ ?_ ?_
  · intro j hj e
    refine ev_const (fun k => ?_)
    simp only [spec_l4Pivots.l1]
    unfold pbi at e
    rw [if_pos (by omega), if_pos (by omega), if_pos (by simpa using e)]
  · intro j hj r e h
    refine Ev.step (fun k => ?_) h
    simp only [spec_l4Pivots.l1]
    unfold pbi at e
    rw [if_pos (by omega), if_pos (by omega), if_neg (by simpa using e), wS hj (by omega)]
  · intro hall
    refine Ev.step (fun k => ?_) (h (by unfold pb; rw [List.all_eq_true]; exact fun j hj => hall j (List.mem_range.1 hj)))
    simp only [spec_l4Pivots.l1]
    rw [if_neg (by omega)]
theorem implP_in (V R : List Int) (P : List S69) (i : Nat) (v a : Int) (r : Bool) (hV : V.length ≤ 4611686018427387904) (h : pb V v a = true → Ev (fun k => impl_IsCracker.l1 k P (P.length : Int) (wrap64 ((i : Int) + 1)) V R P) r) :
    Ev (fun k => impl_IsCracker.l2 k P (P.length : Int) (i : Int) V (V.length : Int) 0 V R P v a) (pb V v a && r) := by
  refine all_ev V.length (pbi V v a) r (fun k j => impl_IsCracker.l2 k P (P.length : Int) (i : Int) V (V.length : Int) (j : Int) V R P v a) ?_ ?_ ?_
  · intro j hj e
    refine ev_const (fun k => ?_)
    simp only [impl_IsCracker.l2]
    unfold pbi at e
    rw [if_pos (by omega), if_pos (by omega), if_pos (by omega), if_pos (by simpa using e)]
  · intro j hj r e h
    refine Ev.step (fun k => ?_) h
    simp only [impl_IsCracker.l2]
    unfold pbi at e
    rw [if_pos (by omega), if_pos (by omega), if_pos (by omega), if_neg (by simpa using e), wS hj (by omega)]
  · intro hall
    refine Ev.step (fun k => ?_) (h (by unfold pb; rw [List.all_eq_true]; exact fun j hj => hall j (List.mem_range.1 hj)))
    simp only [impl_IsCracker.l2]
    rw [if_neg (by omega)]
theorem specP_ev (V : List Int) (P : List S69) (hV : V.length ≤ 4611686018427387904) (hP : P.length ≤ 4611686018427387904) : Ev (fun k => spec_l4Pivots.f k V P) (pall V P) := by
  unfold spec_l4Pivots.f
  have := all_ev P.length (pok V P) true (fun k i => spec_l4Pivots.l0 k V P (i : Int)) ?_ ?_ ?_
  · rw [Bool.and_true] at this; exact this
  · intro i hi e
    refine Ev.step (specP_step V P i hi hP) ?_
    unfold pok at e
    cases hh : ph (V.length : Int) P i with
    | false => exact ev_const (fun k => by simp only [spec_l4Pivots.j1]; rw [if_pos (by simp)])
    | true =>
      rw [hh, Bool.true_and] at e
      refine Ev.step (fun k => ?_) (ev_eq (specP_in V P i (rd_T69 P (i : Int)).f0 (rd_T69 P (i : Int)).f1 false hV (fun h => by rw [e] at h; cases h)) (by simp))
      simp only [spec_l4Pivots.j1]
      rw [if_neg (by simp)]
  · intro i hi r e h
    refine Ev.step (specP_step V P i hi hP) ?_
    unfold pok at e
    rw [Bool.and_eq_true] at e
    rw [e.1]
    refine Ev.step (fun k => ?_) (ev_eq (specP_in V P i (rd_T69 P (i : Int)).f0 (rd_T69 P (i : Int)).f1 r hV (fun _ => by rw [wS hi (by omega)]; exact h)) (by rw [e.2, Bool.true_and]))
    simp only [spec_l4Pivots.j1]
    rw [if_neg (by simp)]
  · intro _
    exact ev_const (fun k => by simp only [spec_l4Pivots.l0]; rw [if_neg (by omega)])
theorem implP_ev (V R : List Int) (P : List S69) (hV : V.length ≤ 4611686018427387904) (hP : P.length ≤ 4611686018427387904) : Ev (fun k => impl_IsCracker.l1 k P (P.length : Int) 0 V R P) (pall V P) := by
  have := all_ev P.length (pok V P) true (fun k i => impl_IsCracker.l1 k P (P.length : Int) (i : Int) V R P) ?_ ?_ ?_
  · rw [Bool.and_true] at this; exact this
  · intro i hi e
    refine Ev.step (implP_step V R P i hi hP) ?_
    unfold pok at e
    cases hh : ph (V.length : Int) P i with
    | false => exact ev_const (fun k => by simp only [impl_IsCracker.j3]; rw [if_pos (by simp)])
    | true =>
      rw [hh, Bool.true_and] at e
      refine Ev.step (fun k => ?_) (ev_eq (implP_in V R P i (rd_T69 P (i : Int)).f0 (rd_T69 P (i : Int)).f1 false hV (fun h => by rw [e] at h; cases h)) (by simp))
      simp only [impl_IsCracker.j3]
      rw [if_neg (by simp)]
  · intro i hi r e h
    refine Ev.step (implP_step V R P i hi hP) ?_
    unfold pok at e
    rw [Bool.and_eq_true] at e
    rw [e.1]
    refine Ev.step (fun k => ?_) (ev_eq (implP_in V R P i (rd_T69 P (i : Int)).f0 (rd_T69 P (i : Int)).f1 r hV (fun _ => by rw [wS hi (by omega)]; exact h)) (by rw [e.2, Bool.true_and]))
    simp only [impl_IsCracker.j3]
    rw [if_neg (by simp)]
  · intro _
    exact ev_const (fun k => by simp only [impl_IsCracker.l1]; rw [if_neg (by omega)])
theorem pall_at {V : List Int} {P : List S69} (h : pall V P = true) (i : Nat) (hi : i < P.length) : pok V P i = true := by
  unfold pall at h
  rw [List.all_eq_true] at h
  exact h i (List.mem_range.2 hi)
theorem ph_facts {n : Int} {P : List S69} {k : Nat} (h : ph n P k = true) : (-1000 ≤ (rd_T69 P (k : Int)).f0 ∧ (rd_T69 P (k : Int)).f0 ≤ 1000) ∧ (0 ≤ (rd_T69 P (k : Int)).f1 ∧ (rd_T69 P (k : Int)).f1 ≤ n) ∧
    (0 < k → (rd_T69 P ((k : Int) - 1)).f0 < (rd_T69 P (k : Int)).f0 ∧ (rd_T69 P ((k : Int) - 1)).f1 ≤ (rd_T69 P (k : Int)).f1) := by
  unfold ph at h
  simp only [Bool.and_eq_true, decide_eq_true_eq, Bool.not_eq_true', Bool.and_eq_false_iff, Bool.or_eq_false_iff, decide_eq_false_iff_not] at h
  refine ⟨h.1.1, h.1.2, fun h0 => ?_⟩
  rcases h.2 with h | h
  · exact absurd h0 h
  · omega
theorem pall_len {V : List Int} {P : List S69} (h : pall V P = true) : P.length ≤ 2001 := by
  have key : ∀ i : Nat, i < P.length → -1000 + (i : Int) ≤ (rd_T69 P (i : Int)).f0 := by
    intro i
    induction i with
    | zero =>
      intro hi
      have := pall_at h 0 hi
      unfold pok at this
      rw [Bool.and_eq_true] at this
      have := (ph_facts this.1).1.1
      omega
    | succ i ih =>
      intro hi
      have := pall_at h (i + 1) hi
      unfold pok at this
      rw [Bool.and_eq_true] at this
      have h2 := ((ph_facts this.1).2.2 (by omega)).1
      have h3 := ih (by omega)
      rw [show (((i + 1 : Nat) : Int) - 1) = (i : Int) by omega] at h2
      omega
  by_cases c : P.length = 0
  · omega
  · have := key (P.length - 1) (by omega)
    have h2 := pall_at h (P.length - 1) (by omega)
    unfold pok at h2
    rw [Bool.and_eq_true] at h2
    have := (ph_facts h2.1).1.2
    omega
def rowIn (R : List Int) (i : Nat) : Bool := decide (0 ≤ rd R (i : Int)) && decide (rd R (i : Int) ≤ 999)
def fresh (R : List Int) (i : Nat) : Bool := !decide (rd R (i : Int) ∈ R.take i)
def isC (V R : List Int) (P : List S69) : Bool := areV V && (decide (R.length = V.length) && ((List.range R.length).all (fun i => rowIn R i && fresh R i) && pall V P))
theorem has_ev (l : List Int) (x : Int) (hl : l.length ≤ 4611686018427387904) : Ev (fun k => spec_l4Has.f k l x) (decide (x ∈ l)) := by
  unfold spec_l4Has.f
  refine loop_ev l.length (fun i => ∀ j (h : j < l.length), j < i → l[j] ≠ x) (fun k i => spec_l4Has.l0 k l x (i : Int)) _ (fun j _ h => absurd h (Nat.not_lt_zero _)) ?_ ?_
  · intro i hi hc ih
    by_cases e : l[i] = x
    · refine ev_const (fun k => ?_)
      simp only [spec_l4Has.l0]
      rw [if_pos (by omega), if_pos (by omega), rd_nat hi, if_pos e, decide_eq_true (e ▸ List.getElem_mem hi)]
    · refine Ev.step (fun k => ?_) (ih (fun j h hj => ?_))
      · simp only [spec_l4Has.l0]
        rw [if_pos (by omega), if_pos (by omega), rd_nat hi, if_neg e, wS hi (by omega)]
      · by_cases hji : j = i
        · subst hji; exact e
        · exact hc j h (by omega)
  · intro hc
    refine ev_const (fun k => ?_)
    simp only [spec_l4Has.l0]
    rw [if_neg (by omega), decide_eq_false]
    intro hx
    obtain ⟨j, hj, e⟩ := List.mem_iff_getElem.1 hx
    exact hc j hj hj e
theorem contains_ev (l : List Int) (x : Int) (hl : l.length ≤ 4611686018427387904) : Ev (fun k => slices_Contains_int_int.f k l x) (decide (x ∈ l)) := by
  unfold slices_Contains_int_int.f
  refine Ev.bind (index_ev l x hl) (ev_eq (ev_some _) ?_)
  have := rowAt_neg l x
  by_cases h : x ∈ l
  · rw [decide_eq_true h, decide_eq_true]
    have : ¬ rowAt l x < 0 := fun c => (this.1 c) h
    omega
  · rw [decide_eq_false h, decide_eq_false]
    have := this.2 h
    omega
theorem specR_ev (V R : List Int) (P : List S69) (hV : V.length ≤ 4611686018427387904) (hR : R.length ≤ 4611686018427387904) (hP : P.length ≤ 4611686018427387904) :
    Ev (fun k => spec_IsCracker.l0 k 0 V R P) ((List.range R.length).all (fun i => rowIn R i && fresh R i) && pall V P) := by
  refine all_ev R.length (fun i => rowIn R i && fresh R i) (pall V P) (fun k i => spec_IsCracker.l0 k (i : Int) V R P) ?_ ?_ ?_
  · intro i hi e
    apply Ev.step
    · intro k; simp only [spec_IsCracker.l0, l1In_eq, Option.bind_some]; rfl
    refine ev_ifp (by omega) (ev_ifp (by omega) ?_)
    cases c : rowIn R i with
    | false => unfold rowIn at c; rw [c]; exact ev_ifn (by simp) (ev_some _)
    | true =>
      rw [c, Bool.true_and] at e
      unfold rowIn at c
      rw [c]
      refine ev_ifp rfl (ev_ifp (by omega) (Ev.bind (has_ev _ _ (by rw [List.length_take]; omega)) (ev_ifp ?_ (ev_some _))))
      rw [Int.toNat_natCast]
      unfold fresh at e
      simpa using e
  · intro i hi r e h
    rw [Bool.and_eq_true] at e
    apply Ev.step
    · intro k; simp only [spec_IsCracker.l0, l1In_eq, Option.bind_some]; rfl
    refine ev_ifp (by omega) (ev_ifp (by omega) ?_)
    have c := e.1
    unfold rowIn at c
    rw [c]
    refine ev_ifp rfl (ev_ifp (by omega) (Ev.bind (has_ev _ _ (by rw [List.length_take]; omega)) (ev_ifn ?_ ?_)))
    · rw [Int.toNat_natCast]
      have := e.2
      unfold fresh at this
      simpa using this
    · rw [wS hi (by omega)]; exact h
  · intro _
    apply Ev.step
    · intro k; simp only [spec_IsCracker.l0]; rfl
    exact ev_ifn (by omega) (Ev.bind (specP_ev V P hV hP) (ev_some _))
theorem implR_ev (V R : List Int) (P : List S69) (hV : V.length ≤ 4611686018427387904) (hR : R.length ≤ 4611686018427387904) (hP : P.length ≤ 4611686018427387904) :
    Ev (fun k => impl_IsCracker.l0 k R (R.length : Int) 0 V R P) ((List.range R.length).all (fresh R) && pall V P) := by
  refine all_ev R.length (fresh R) (pall V P) (fun k i => impl_IsCracker.l0 k R (R.length : Int) (i : Int) V R P) ?_ ?_ ?_
  · intro i hi e
    apply Ev.step
    · intro k; simp only [impl_IsCracker.l0]; rfl
    refine ev_ifp (by omega) (ev_ifp (by omega) (ev_ifp (by omega) (ev_ifp (by omega) (Ev.bind (contains_ev _ _ (by rw [List.length_take]; omega)) (ev_ifp ?_ (ev_some _))))))
    rw [Int.toNat_natCast]
    unfold fresh at e
    simpa using e
  · intro i hi r e h
    apply Ev.step
    · intro k; simp only [impl_IsCracker.l0]; rfl
    refine ev_ifp (by omega) (ev_ifp (by omega) (ev_ifp (by omega) (ev_ifp (by omega) (Ev.bind (contains_ev _ _ (by rw [List.length_take]; omega)) (ev_ifn ?_ ?_)))))
    · rw [Int.toNat_natCast]
      unfold fresh at e
      simpa using e
    · rw [wS hi (by omega)]; exact h
  · intro _
    apply Ev.step
    · intro k; simp only [impl_IsCracker.l0]; rfl
    exact ev_ifn (by omega) (implP_ev V R P hV hP)
theorem specIsC_ev (V R : List Int) (P : List S69) (hV : V.length ≤ 4611686018427387904) (hR : R.length ≤ 4611686018427387904) (hP : P.length ≤ 4611686018427387904) : Ev (fun k => spec_IsCracker.f k V R P) (isC V R P) := by
  unfold spec_IsCracker.f isC
  have hf : Ev (fun k => spec_IsCracker.j0 k true V R P) false := ev_const (fun k => by simp [spec_IsCracker.j0])
  refine Ev.bind (specAreValues_ev V (by omega)) ?_
  cases areV V with
  | false => exact ev_ifn (by simp) hf
  | true =>
    refine ev_ifp rfl ?_
    rw [Bool.true_and]
    by_cases c : R.length = V.length
    · rw [show ((R.length : Int) != (V.length : Int)) = false by simp [c], decide_eq_true c, Bool.true_and]
      refine Ev.step (fun k => ?_) (specR_ev V R P hV hR hP)
      simp only [spec_IsCracker.j0]
      rw [if_neg (by simp)]
    · rw [show ((R.length : Int) != (V.length : Int)) = true by simp; omega, decide_eq_false c, Bool.false_and]
      exact hf
theorem implIsC_ev (V R : List Int) (P : List S69) (hV : V.length ≤ 4611686018427387904) (hR : R.length ≤ 4611686018427387904) (hP : P.length ≤ 4611686018427387904) : Ev (fun k => impl_IsCracker.f k V R P) (isC V R P) := by
  unfold impl_IsCracker.f isC
  have hf : Ev (fun k => impl_IsCracker.j0 k true V R P) false := ev_const (fun k => by simp [impl_IsCracker.j0])
  refine ev_pure (implAreValues V) ?_
  cases areV V with
  | false => exact ev_ifn (by simp) hf
  | true =>
    refine ev_ifp rfl ?_
    rw [Bool.true_and]
    by_cases c : R.length = V.length
    · refine ev_ifp (by omega) ?_
      rw [decide_eq_true c, Bool.true_and]
      refine ev_pure (within_all R 0 999) ?_
      have hw : (R.all fun x => decide (0 ≤ x) && decide (x ≤ 999)) = (List.range R.length).all (rowIn R) := by
        rw [Bool.eq_iff_iff, List.all_eq_true, List.all_eq_true]
        refine ⟨fun h i hi => ?_, fun h x hx => ?_⟩
        · have hi := List.mem_range.1 hi
          unfold rowIn
          rw [rd_nat hi]
          exact h _ (List.getElem_mem hi)
        · obtain ⟨i, hi, rfl⟩ := List.mem_iff_getElem.1 hx
          have := h i (List.mem_range.2 hi)
          unfold rowIn at this
          rw [rd_nat hi] at this
          exact this
      rw [hw]
      have hs : ((List.range R.length).all fun i => rowIn R i && fresh R i) = ((List.range R.length).all (rowIn R) && (List.range R.length).all (fresh R)) := by
        rw [Bool.eq_iff_iff, Bool.and_eq_true, List.all_eq_true, List.all_eq_true, List.all_eq_true]
        refine ⟨fun h => ⟨fun i hi => (Bool.and_eq_true _ _ ▸ h i hi).1, fun i hi => (Bool.and_eq_true _ _ ▸ h i hi).2⟩, fun h i hi => by rw [h.1 i hi, h.2 i hi]; rfl⟩
      rw [hs]
      cases (List.range R.length).all (rowIn R) with
      | false => exact ev_ifn (by simp) hf
      | true =>
        refine ev_ifp rfl ?_
        rw [Bool.true_and]
        by_cases d : P.length ≤ 2001
        · rw [decide_eq_false (show ¬ (P.length : Int) > 2001 by omega)]
          refine Ev.step (fun k => ?_) (implR_ev V R P hV hR hP)
          simp only [impl_IsCracker.j0]
          rw [if_neg (by simp)]
        · rw [decide_eq_true (show (P.length : Int) > 2001 by omega)]
          have : pall V P = false := by
            cases e : pall V P with
            | false => rfl
            | true => exact absurd (pall_len e) d
          rw [this, Bool.and_false]
          exact hf
    · refine ev_ifn (by omega) ?_
      rw [decide_eq_false c, Bool.false_and]
      exact hf

theorem isC_facts {V R : List Int} {P : List S69} (h : isC V R P = true) : areV V = true ∧ R.length = V.length ∧ (List.range R.length).all (fun i => rowIn R i && fresh R i) = true ∧ pall V P = true := by
  unfold isC at h
  simp only [Bool.and_eq_true, decide_eq_true_eq] at h
  exact ⟨h.1, h.2.1, h.2.2.1, h.2.2.2⟩

def ends (n : Int) (P : List S69) : List Int := P.map (fun p => p.f1) ++ [n]
/-- The pieces that are not empty, out of the places at which pieces end. -/
def segs : Int → List Int → List S91
  | _, [] => []
  | a, e :: es => if e > a then ⟨a, e⟩ :: segs e es else segs e es
theorem rd_mid (pre es : List Int) (e : Int) : rd (pre ++ e :: es) (pre.length : Int) = e := by
  unfold rd; simp [List.getD_eq_getElem?_getD]
theorem rd_midP (pre es : List S69) (e : S69) : rd_T69 (pre ++ e :: es) (pre.length : Int) = e := by
  unfold rd_T69; simp [List.getD_eq_getElem?_getD]
theorem rd_atP {P : List S69} {i : Nat} (h : i < P.length) : rd_T69 P (i : Int) = P[i] := by
  unfold rd_T69; simp [List.getD_eq_getElem?_getD, List.getElem?_eq_getElem h]
theorem ends_ev (V R : List Int) (P : List S69) (hP : P.length ≤ 1048576) : Ev (fun k => spec_l4Ends.f k V R P) (ends (V.length : Int) P) := by
  unfold spec_l4Ends.f
  have h := down_ev P.length (fun k i => spec_l4Ends.l0 k ((P.map (fun p => p.f1)).take i) (i : Int) V R P) (ends (V.length : Int) P) ?_ ?_
  · simpa using h
  · intro i hi ih
    refine Ev.step (fun k => ?_) ih
    simp only [spec_l4Ends.l0]
    rw [if_pos (by omega), if_pos (by omega), if_pos (by rw [List.length_take]; omega), wS hi (by omega), rd_atP hi, take_snoc _ i (by simpa using hi)]
    simp
  · refine ev_const (fun k => ?_)
    simp only [spec_l4Ends.l0]
    rw [if_neg (by omega), if_pos (by rw [List.length_take]; omega), List.take_of_length_le (by simp)]
    rfl
theorem pieces_l0 (Q : List S69) (hQ : Q.length ≤ 1048577) : ∀ (qs pre : List S69) (out : List S91) (a : Int), Q = pre ++ qs → out.length ≤ pre.length →
    Ev (fun k => impl_pieces.l0 k out a Q (Q.length : Int) (pre.length : Int)) (out ++ segs a (qs.map (fun p => p.f1))) := by
  intro qs
  induction qs with
  | nil =>
    intro pre out a hq ho
    refine ev_const (fun k => ?_)
    simp only [impl_pieces.l0]
    have : Q.length = pre.length := by rw [hq]; simp
    rw [if_neg (by omega)]
    simp [segs]
  | cons q qs ih =>
    intro pre out a hq ho
    have hl : Q.length = pre.length + (qs.length + 1) := by rw [hq]; simp
    have hr : rd_T69 Q (pre.length : Int) = q := by rw [hq]; exact rd_midP pre qs q
    have hn : Q = (pre ++ [q]) ++ qs := by rw [hq]; simp
    have hs : wrap64 ((pre.length : Int) + 1) = (((pre ++ [q]).length : Nat) : Int) := by rw [w64 (by omega) (by omega)]; simp
    by_cases c : q.f1 > a
    · have h := ih (pre ++ [q]) (out ++ [⟨a, q.f1⟩]) q.f1 hn (by simp; omega)
      have e : segs a ((q :: qs).map (fun p => p.f1)) = ⟨a, q.f1⟩ :: segs q.f1 (qs.map (fun p => p.f1)) := by simp only [List.map_cons, segs]; rw [if_pos c]
      rw [e]
      rw [List.append_assoc, List.singleton_append] at h
      refine Ev.step (fun k => ?_) h
      simp only [impl_pieces.l0]
      rw [if_pos (by omega), if_pos (by omega), if_pos (by omega), hr, if_pos c, Option.bind_some, if_pos (by simp; omega), hs]
    · have h := ih (pre ++ [q]) out q.f1 hn (by simp; omega)
      have e : segs a ((q :: qs).map (fun p => p.f1)) = segs q.f1 (qs.map (fun p => p.f1)) := by simp only [List.map_cons, segs]; rw [if_neg c]
      rw [e]
      refine Ev.step (fun k => ?_) h
      simp only [impl_pieces.l0]
      rw [if_pos (by omega), if_pos (by omega), if_pos (by omega), hr, if_neg c, hs]
theorem pieces_ev (V R : List Int) (P : List S69) (hP : P.length ≤ 1048576) : Ev (fun k => impl_pieces.f k V R P) (segs 0 (ends (V.length : Int) P)) := by
  unfold impl_pieces.f
  refine ev_pure (a := P) (by unfold impl_Pivot.f; rw [if_pos (by omega)]) ?_
  refine ev_pure rfl (ev_ifp (by simp; omega) (ev_pure rfl ?_))
  have h := pieces_l0 (P ++ [⟨0, (V.length : Int)⟩]) (by simp; omega) (P ++ [⟨0, (V.length : Int)⟩]) [] [] 0 rfl (Nat.le_refl _)
  simp only [List.nil_append, List.map_append, List.map_cons, List.map_nil] at h
  exact h
theorem segs_len : ∀ (es : List Int) (a : Int), (segs a es).length ≤ es.length
  | [], _ => Nat.le_refl _
  | e :: es, a => by
    have := segs_len es e
    simp only [segs]
    by_cases c : e > a
    · rw [if_pos c]; simp; omega
    · rw [if_neg c]; simp; omega
theorem ends_len (n : Int) (P : List S69) : (ends n P).length = P.length + 1 := by simp [ends]
theorem ends_in {V R : List Int} {P : List S69} (h : isC V R P = true) : ∀ e ∈ ends (V.length : Int) P, 0 ≤ e ∧ e ≤ (V.length : Int) := by
  intro e he
  unfold ends at he
  rcases List.mem_append.1 he with he | he
  · obtain ⟨p, hp, rfl⟩ := List.mem_map.1 he
    obtain ⟨i, hi, rfl⟩ := List.mem_iff_getElem.1 hp
    have h2 := pall_at (isC_facts h).2.2.2 i hi
    unfold pok at h2
    rw [Bool.and_eq_true] at h2
    have := (ph_facts h2.1).2.1
    rw [rd_atP hi] at this
    exact this
  · have : e = (V.length : Int) := by simpa using he
    omega

theorem count_l0 (V R : List Int) (P : List S69) (E : List Int) (hV : V.length ≤ 1048576) (hR : R.length ≤ 1048576) (hP : P.length ≤ 1048576) (hE : E.length ≤ 1048577) (hc : isC V R P = true) :
    ∀ (es pre : List Int) (m : Nat) (a : Int), E = pre ++ es → m ≤ pre.length → Ev (fun k => spec_CountPieces.l0 k (m : Int) a E (pre.length : Int) V R P) (((m + (segs a es).length : Nat) : Int)) := by
  intro es
  induction es with
  | nil =>
    intro pre m a hq ho
    have hl : E.length = pre.length := by rw [hq]; simp
    refine Ev.step (f := fun k => spec_CountPieces.j1 k (m : Int) a E (pre.length : Int) false V R P) (fun k => ?_) (ev_const (fun k => ?_))
    · simp only [spec_CountPieces.l0]; rw [if_neg (by omega)]
    · simp only [spec_CountPieces.j1]; rw [if_neg (by simp)]; simp [segs]
  | cons e es ih =>
    intro pre m a hq ho
    have hl : E.length = pre.length + (es.length + 1) := by rw [hq]; simp
    have hr : rd E (pre.length : Int) = e := by rw [hq]; exact rd_mid pre es e
    have hn : E = (pre ++ [e]) ++ es := by rw [hq]; simp
    have hs : wrap64 ((pre.length : Int) + 1) = (((pre ++ [e]).length : Nat) : Int) := by rw [w64 (by omega) (by omega)]; simp
    apply Ev.step
    · intro k; simp only [spec_CountPieces.l0]; rfl
    refine ev_ifp (by omega) (Ev.bind (specIsC_ev V R P (by omega) (by omega) (by omega)) ?_)
    rw [hc]
    by_cases c : e > a
    · have h := ih (pre ++ [e]) (m + 1) e hn (by simp; omega)
      have e2 : m + (segs a (e :: es)).length = m + 1 + (segs e es).length := by simp only [segs]; rw [if_pos c]; simp; omega
      rw [e2]
      refine Ev.step (fun k => ?_) h
      simp only [spec_CountPieces.j1]
      rw [if_pos trivial, if_pos (by omega), if_pos (by omega), hr, if_pos c, hs, w64 (n := (m : Int) + 1) (by omega) (by omega)]
      rfl
    · have h := ih (pre ++ [e]) m e hn (by simp; omega)
      have e2 : m + (segs a (e :: es)).length = m + (segs e es).length := by simp only [segs]; rw [if_neg c]
      rw [e2]
      refine Ev.step (fun k => ?_) h
      simp only [spec_CountPieces.j1]
      rw [if_pos trivial, if_pos (by omega), if_pos (by omega), hr, if_neg c, hs]
theorem count_same (V R : List Int) (P : List S69) (hV : V.length ≤ 1048576) (hR : R.length ≤ 1048576) (hP : P.length ≤ 1048576) : ∃ r, Ev (fun k => spec_CountPieces.f k V R P) r ∧ Ev (fun k => impl_CountPieces.f k V R P) r := by
  have hi := implIsC_ev V R P (by omega) (by omega) (by omega)
  have hs := specIsC_ev V R P (by omega) (by omega) (by omega)
  unfold spec_CountPieces.f impl_CountPieces.f
  have hE : (ends (V.length : Int) P).length ≤ 1048577 := by rw [ends_len]; omega
  cases hc : isC V R P with
  | false =>
    rw [hc] at hi hs
    refine ⟨0, Ev.bind (ends_ev V R P hP) ?_, Ev.bind hi (ev_ifn (by simp) (ev_some _))⟩
    apply Ev.step
    · intro k; simp only [spec_CountPieces.l0]; rfl
    refine ev_ifp (by rw [ends_len]; omega) (Ev.bind hs ?_)
    exact ev_const (fun k => by simp only [spec_CountPieces.j1]; rw [if_neg (by simp)])
  | true =>
    rw [hc] at hi
    have h := count_l0 V R P _ hV hR hP hE hc (ends (V.length : Int) P) [] 0 0 rfl (Nat.le_refl _)
    rw [Nat.zero_add] at h
    exact ⟨_, Ev.bind (ends_ev V R P hP) h, Ev.bind hi (ev_ifp rfl (Ev.bind (pieces_ev V R P hP) (ev_some _)))⟩

theorem szIntS_at (l : List Int) (a : Int) (ha : 0 ≤ a ∧ a ≤ 1048576) (hl : l.length ≤ maxLen) : laws_szIntS.f l a = some (if (l.length : Int) ≤ a then a - l.length else -1) := by
  unfold maxLen at hl
  unfold laws_szIntS.f
  rw [w64 (n := a - (l.length : Int)) (by omega) (by omega)]
  by_cases h : (l.length : Int) ≤ a
  · rw [if_neg (by omega), if_pos h]
  · rw [if_pos (by omega), if_neg h]

theorem szPivotS_at (l : List S66) (a : Int) (ha : 0 ≤ a ∧ a ≤ 1048576) (hl : l.length ≤ maxLen) : laws_szPivotS.f l a = some (if (l.length : Int) ≤ a then a - l.length else -1) := by
  unfold maxLen at hl
  unfold laws_szPivotS.f
  rw [w64 (n := a - (l.length : Int)) (by omega) (by omega)]
  by_cases h : (l.length : Int) ≤ a
  · rw [if_neg (by omega), if_pos h]
  · rw [if_pos (by omega), if_neg h]

theorem szCracker_at (v r : List Int) (p : List S66) (a : Int) (ha : 0 ≤ a ∧ a ≤ 1048576) (hv : v.length ≤ maxLen) (hr : r.length ≤ maxLen) (hp : p.length ≤ maxLen) :
    ∃ t, laws_szCracker.f v r p a = some t ∧ (t < 0 ∨ (0 ≤ t ∧ t ≤ a ∧ v.length ≤ 1048576 ∧ r.length ≤ 1048576 ∧ p.length ≤ 1048576)) := by
  unfold laws_szCracker.f
  rw [szIntS_at v a ha hv, Option.bind_some]
  by_cases h1 : (v.length : Int) ≤ a
  · rw [if_pos h1, if_neg (by omega), szIntS_at r _ (by omega) hr, Option.bind_some]
    by_cases h2 : (r.length : Int) ≤ a - v.length
    · rw [if_pos h2, if_neg (by omega), szPivotS_at p _ (by omega) hp, Option.bind_some]
      by_cases h3 : (p.length : Int) ≤ a - v.length - r.length
      · rw [if_pos h3, if_neg (by omega)]
        exact ⟨_, rfl, .inr ⟨by omega, by omega, by omega, by omega, by omega⟩⟩
      · rw [if_neg h3, if_pos (by omega)]
        exact ⟨_, rfl, .inl (by omega)⟩
    · rw [if_neg h2, if_pos (by omega)]
      exact ⟨_, rfl, .inl (by omega)⟩
  · rw [if_neg h1, if_pos (by omega)]
    exact ⟨_, rfl, .inl (by omega)⟩

theorem toIntS_ev (l : List Int) (hl : l.length ≤ 1048576) : Ev (fun k => laws_toIntS.f k l) l := by
  unfold laws_toIntS.f
  refine ev_ifp (by omega) (ev_ifp (by omega) ?_)
  rw [show ((l.length : Int)).toNat = l.length by omega]
  have h := down_ev l.length (fun k i => laws_toIntS.l0 k l (l.take i ++ (List.replicate l.length (0 : Int)).drop i) (i : Int)) l ?_ ?_
  · simpa using h
  · intro i hi ih
    refine Ev.step (fun k => ?_) ih
    simp only [laws_toIntS.l0]
    rw [if_pos (by omega), if_pos (by omega), if_pos (by rw [step_len _ _ (by simp) _ (by omega)]; omega), rd_nat hi, wS hi (by omega), Int.toNat_natCast, set_step _ _ (by simp) _ hi]
  · refine ev_const (fun k => ?_)
    simp only [laws_toIntS.l0]
    rw [if_neg (by omega)]
    simp

def cvPivot (x : S66) : S69 := ⟨x.f0, x.f1⟩

theorem toPivotS_ev (l : List S66) (hl : l.length ≤ 1048576) : Ev (fun k => laws_toPivotS.f k l) (l.map cvPivot) := by
  unfold laws_toPivotS.f
  refine ev_ifp (by omega) (ev_ifp (by omega) ?_)
  rw [show ((l.length : Int)).toNat = l.length by omega]
  have h := down_ev l.length (fun k i => laws_toPivotS.l0 k l ((l.map cvPivot).take i ++ (List.replicate l.length z69).drop i) (i : Int)) (l.map cvPivot) ?_ ?_
  · simpa using h
  · intro i hi ih
    refine Ev.step (fun k => ?_) ih
    simp only [laws_toPivotS.l0]
    have hr : rd_T66 l (i : Int) = l[i] := by unfold rd_T66; simp [List.getD_eq_getElem?_getD, List.getElem?_eq_getElem hi]
    rw [if_pos (by omega), if_pos (by omega), hr]
    unfold laws_toPivot.f
    simp only [Option.bind_some]
    rw [if_pos (by rw [step_len _ _ (by simp) _ (by simp; omega)]; simp; omega), wS hi (by omega), Int.toNat_natCast]
    have e := set_step (l.map cvPivot) (List.replicate l.length z69) (by simp) i (by simpa using hi)
    simp only [List.getElem_map] at e
    rw [← e]
    rfl
  · refine ev_const (fun k => ?_)
    simp only [laws_toPivotS.l0]
    rw [if_neg (by omega)]
    rw [List.take_of_length_le (by simp), List.drop_eq_nil_of_le (by simp), List.append_nil]

theorem toCracker_ev (v r : List Int) (p : List S66) (hv : v.length ≤ 1048576) (hr : r.length ≤ 1048576) (hp : p.length ≤ 1048576) : Ev (fun k => laws_toCracker.f k v r p) (v, r, p.map cvPivot) := by
  unfold laws_toCracker.f
  exact Ev.bind (toIntS_ev v hv) (Ev.bind (toIntS_ev r hr) (Ev.bind (toPivotS_ev p hp) (ev_some _)))

theorem eqIntS_ev (l m : List Int) (hl : l.length ≤ 4611686018427387904) : Ev (fun k => laws_eqIntS.f k l m) (decide (l = m)) := by
  unfold laws_eqIntS.f
  by_cases hlm : l.length = m.length
  · refine ev_ifp (by omega) ?_
    refine loop_ev l.length (fun i => ∀ j (h : j < l.length), j < i → l[j] = m[j]'(by omega)) (fun k i => laws_eqIntS.l0 k l m (i : Int)) (decide (l = m)) (fun j _ h => absurd h (Nat.not_lt_zero _)) ?_ ?_
    · intro i hi hc ih
      have hi2 : i < m.length := by omega
      by_cases e : l[i] = m[i]
      · refine Ev.step (fun k => ?_) (ih (fun j h hj => ?_))
        · simp only [laws_eqIntS.l0]
          simp only [if_pos (show (i : Int) < (l.length : Int) by omega), if_pos (show (0 : Int) ≤ (i : Int) by omega), if_pos (show (i : Int) < (m.length : Int) by omega), rd_nat hi, rd_nat hi2, if_pos e, wS hi (by omega)]
        · by_cases hji : j = i
          · subst hji; exact e
          · exact hc j h (by omega)
      · refine ev_const (fun k => ?_)
        simp only [laws_eqIntS.l0]
        simp only [if_pos (show (i : Int) < (l.length : Int) by omega), if_pos (show (0 : Int) ≤ (i : Int) by omega), if_pos (show (i : Int) < (m.length : Int) by omega), rd_nat hi, rd_nat hi2, if_neg e]
        have : l ≠ m := fun hh => e (by subst hh; rfl)
        simp [this]
    · intro hc
      refine ev_const (fun k => ?_)
      simp only [laws_eqIntS.l0]
      rw [if_neg (by omega)]
      have : l = m := List.ext_getElem hlm (fun j h1 h2 => hc j h1 h1)
      simp [this]
  · refine ev_ifn (by omega) ?_
    have : l ≠ m := fun hh => hlm (by rw [hh])
    exact ev_eq (ev_some _) (by simp [this])

theorem rdPivot {l : List S69} {i : Nat} (h : i < l.length) : rd_T69 l (i : Int) = l[i] := by
  unfold rd_T69; simp [List.getD_eq_getElem?_getD, List.getElem?_eq_getElem h]

theorem eqPivotS_ev (l : List S69) (hl : l.length ≤ 4611686018427387904) : Ev (fun k => laws_eqPivotS.f k l l) true := by
  unfold laws_eqPivotS.f
  refine ev_ifp rfl ?_
  refine down_ev l.length (fun k i => laws_eqPivotS.l0 k l l (i : Int)) true ?_ ?_
  · intro i hi ih
    refine Ev.step (fun k => ?_) ih
    simp only [laws_eqPivotS.l0]
    rw [if_pos (by omega), if_pos (by omega), if_pos (by omega), rdPivot hi]
    unfold laws_eqPivot.f
    rw [if_pos rfl, if_pos rfl, Option.bind_some, if_pos rfl, wS hi (by omega)]
  · refine ev_const (fun k => ?_)
    simp only [laws_eqPivotS.l0]
    rw [if_neg (by omega)]

theorem eqCracker_ev (v r : List Int) (p : List S69) (hv : v.length ≤ 4611686018427387904) (hr : r.length ≤ 4611686018427387904) (hp : p.length ≤ 4611686018427387904) : Ev (fun k => laws_eqCracker.f k v r p v r p) true := by
  unfold laws_eqCracker.f
  refine Ev.bind (eqIntS_ev v v hv) (ev_ifp (by simp) ?_)
  refine Ev.bind (eqIntS_ev r r hr) (ev_ifp (by simp) ?_)
  exact Ev.bind (eqPivotS_ev p hp) (ev_ifp rfl (ev_some _))


end Go.Proofs.Ytbolealjmfbhjaa.Pure.FnExactCountPieces
namespace Go.Proofs.Ytbolealjmfbhjaa.Pure
open Go.RowKit Go.Proofs.Ytbolealjmfbhjaa.PFnExactCountPieces Go.Proofs.YtbolealjmfbhjaaW.PrintWords Go.Proofs.YtbolealjmfbhjaaW.PrintLast Go.Proofs.YtbolealjmfbhjaaW.PrintMore Go.Proofs.Ytbolealjmfbhjaa.B Go.Proofs.Ytbolealjmfbhjaa.Pure.FnExactCountPieces
theorem FnExactCountPieces : ∀ (l0_0 : List Int) (l0_1 : List Int) (l0_2 : List S66), (l0_0.length ≤ maxLen ∧ ∀ z ∈ l0_0, (Lit.int .i64 z).wf = true) → (l0_1.length ≤ maxLen ∧ ∀ z ∈ l0_1, (Lit.int .i64 z).wf = true) → (l0_2.length ≤ maxLen ∧ ∀ z ∈ l0_2, ((Lit.int .i64 z.f0).wf = true ∧ (Lit.int .i64 z.f1).wf = true)) → ∃ k, laws_FnExactCountPieces.f k l0_0 l0_1 l0_2 = some true := by
  intro v r p ⟨hv, _⟩ ⟨hr, _⟩ ⟨hp, _⟩
  refine Ev.rounds (g := fun k => laws_FnExactCountPieces.f k v r p) ?_
  unfold laws_FnExactCountPieces.f
  obtain ⟨t, ht, hc⟩ := szCracker_at v r p 1048576 (by omega) hv hr hp
  refine ev_pure ht ?_
  rcases hc with hc | ⟨h0, hta, h1, h2, h3⟩
  · exact ev_ifp hc (ev_some _)
  refine ev_ifn (by omega) ?_
  have hm : (p.map cvPivot).length ≤ 1048576 := by simpa using h3
  obtain ⟨a, e1, e2⟩ := count_same v r (p.map cvPivot) h1 h2 hm
  refine Ev.bind (toCracker_ev v r p h1 h2 h3) ?_
  refine Ev.bind e1 ?_
  refine Ev.bind (toCracker_ev v r p h1 h2 h3) ?_
  refine Ev.bind e2 ?_
  refine ev_ifp rfl ?_
  refine Ev.bind (toCracker_ev v r p h1 h2 h3) ?_
  refine Ev.bind (eqCracker_ev v r (p.map cvPivot) (by omega) (by omega) (by omega)) ?_
  exact ev_ifp rfl (ev_some _)

end Go.Proofs.Ytbolealjmfbhjaa.Pure
