/- An inserted element lies in its piece with at most one move for each pivot; the column stays one; deleting the element gives back the elements and the places of the pivots; a deleted row is gone. For all that is drawn from a code. No condition. -/
import Derived.Test.YtlikcmonejefoabPFnRipplesx0
import Derived.Test.YtlikcmonejefoabPFnRipplesx1
import Derived.Test.YtlikcmonejefoabPFnRipplesx2
import Derived.Test.YtlikcmonejefoabPFnRipplesx3
import Derived.Test.YtlikcmonejefoabPFnRipplesx4
import Derived.Test.YtlikcmonejefoabPFnRipplesx5
import Derived.Test.YtlikcmonejefoabPFnRipplesx6
import Derived.Test.YtlikcmonejefoabPFnRipplesx7
import Derived.Test.YtlikcmonejefoabPFnRipplesx8
import Derived.Test.YtlikcmonejefoabPFnRipplesx9
import Derived.Test.YtlikcmonejefoabPFnRipplesx10
import Derived.Test.YtlikcmonejefoabPFnRipplesx11
import Derived.Test.YtlikcmonejefoabPFnRipplesx12
import Derived.Test.YtlikcmonejefoabPFnRipplesx13
import Derived.Test.YtlikcmonejefoabPFnRipplesx14
import Derived.Test.YtlikcmonejefoabPFnRipplesx15
import Derived.Test.YtlikcmonejefoabPFnRipplesx16
import Derived.Test.YtlikcmonejefoabPFnRipplesx17
import Derived.Test.YtlikcmonejefoabPFnRipplesx18
import Derived.Test.YtlikcmonejefoabPFnRipplesx19
import Derived.Test.YtlikcmonejefoabPFnRipplesx20
import Derived.Test.YtlikcmonejefoabPFnRipplesx21
import Derived.Test.YtlikcmonejefoabPFnRipplesx22
import Derived.Test.YtlikcmonejefoabB
set_option linter.unusedVariables false
set_option linter.unusedSimpArgs false
namespace Go.Proofs.Ytlikcmonejefoab.Pure.FnRipples
open Go.RowKit Go.Proofs.Ytlikcmonejefoab.PFnRipples Go.Proofs.YtlikcmonejefoabW.PrintWords Go.Proofs.YtlikcmonejefoabW.PrintLast Go.Proofs.YtlikcmonejefoabW.PrintMore Go.Proofs.Ytlikcmonejefoab.B

theorem rdPivot {l : List S50} {i : Nat} (h : i < l.length) : rd_T50 l (i : Int) = l[i] := by
  unfold rd_T50; simp [List.getD_eq_getElem?_getD, List.getElem?_eq_getElem h]

theorem ev_uniq {α : Type} {f : Nat → Option α} {a b : α} (h : Ev f a) (g : Ev f b) : a = b := by
  obtain ⟨K, hK⟩ := h
  obtain ⟨M, hM⟩ := g
  exact Option.some.inj ((hK (K + M) (by omega)).symm.trans (hM (K + M) (by omega)))
theorem zip_set : ∀ (V R : List Int) (h : Nat) (a b : Int), (V.set h a).zip (R.set h b) = (V.zip R).set h (a, b)
  | [], _, _, _, _ => by simp
  | _ :: _, [], h, _, _ => by simp
  | x :: V, y :: R, 0, a, b => rfl
  | x :: V, y :: R, h + 1, a, b => by simp [zip_set V R h a b]
theorem erase_perm {α : Type} : ∀ (l : List α) (i : Nat) (h : i < l.length), l.Perm (l[i] :: l.eraseIdx i)
  | x :: l, 0, _ => by simp
  | x :: l, i + 1, h => by
    have := erase_perm l i (by simpa using h)
    simp only [List.getElem_cons_succ, List.eraseIdx_cons_succ]
    exact (this.cons x).trans (List.Perm.swap _ _ _)
theorem erase_set {α : Type} : ∀ (l : List α) (i : Nat) (y : α), (l.set i y).eraseIdx i = l.eraseIdx i
  | [], _, _ => rfl
  | x :: l, 0, y => rfl
  | x :: l, i + 1, y => by simp [erase_set l i y]
theorem set_perm {α : Type} (l : List α) (i : Nat) (y : α) (h : i < l.length) : (l.set i y).Perm (y :: l.eraseIdx i) := by
  have := erase_perm (l.set i y) i (by simpa using h)
  rwa [erase_set, List.getElem_set_self] at this
theorem hole_move {α : Type} (l : List α) (h a : Nat) (hh : h < l.length) (ha : a < l.length) : ((l.set h l[a]).eraseIdx a).Perm (l.eraseIdx h) := by
  by_cases e : a = h
  · subst e; rw [erase_set]
  · have h1 := set_perm l h l[a] hh
    have h2 := erase_perm (l.set h l[a]) a (by simpa using ha)
    rw [List.getElem_set_ne (Ne.symm e)] at h2
    exact (List.perm_cons _).1 (h2.symm.trans h1)
theorem rd_toNat {l : List Int} {a : Int} (h0 : 0 ≤ a) (h1 : a.toNat < l.length) : rd l a = l[a.toNat] := by
  have := rd_nat h1
  rwa [Int.toNat_of_nonneg h0] at this
theorem prs_move (V R : List Int) (n : Nat) (hV : V.length = n) (hR : R.length = n) (h a : Int) (h0 : 0 ≤ h) (h1 : h < (n : Int)) (a0 : 0 ≤ a) (a1 : a < (n : Int)) :
    (((V.set h.toNat (rd V a)).zip (R.set h.toNat (rd R a))).eraseIdx a.toNat).Perm ((V.zip R).eraseIdx h.toNat) := by
  have hz : (V.zip R).length = n := by rw [List.length_zip]; omega
  have e : (rd V a, rd R a) = (V.zip R)[a.toNat]'(by omega) := by
    rw [List.getElem_zip, rd_toNat a0 (by omega), rd_toNat a0 (by omega)]
  rw [zip_set, e]
  exact hole_move _ _ _ (by omega) (by omega)
theorem prs_put (V R : List Int) (n : Nat) (hV : V.length = n) (hR : R.length = n) (h v q : Int) (h0 : 0 ≤ h) (h1 : h < (n : Int)) :
    ((V.set h.toNat v).zip (R.set h.toNat q)).Perm ((v, q) :: (V.zip R).eraseIdx h.toNat) := by
  rw [zip_set]
  exact set_perm _ _ _ (by rw [List.length_zip]; omega)
theorem rd_set (x : List Int) (h t v : Int) (h0 : 0 ≤ h) (h1 : h < (x.length : Int)) (ht : 0 ≤ t) : rd (x.set h.toNat v) t = if t = h then v else rd x t := by
  unfold rd
  simp only [List.getD_eq_getElem?_getD]
  by_cases c : t = h
  · rw [if_pos c, c, List.getElem?_set_self (by omega)]; rfl
  · rw [if_neg c, List.getElem?_set_ne (by omega)]
theorem rdT_set_self (P : List S50) (i : Nat) (x : S50) (h : i < P.length) : rd_T50 (P.set i x) (i : Int) = x := by
  unfold rd_T50
  simp [List.getD_eq_getElem?_getD, h]
theorem ext_piv (P Q : List S50) (hl : P.length = Q.length) (h : ∀ j : Nat, j < P.length → rd_T50 P (j : Int) = rd_T50 Q (j : Int)) : P = Q :=
  List.ext_getElem hl (fun i h1 h2 => by have := h i h1; rwa [rdPivot h1, rdPivot h2] at this)

/-- A loop that ends false at the first round that is not ok, and goes on with r behind the last. -/
theorem all_ev (n : Nat) (ok : Nat → Bool) (r : Bool) (g : Nat → Nat → Option Bool) (hf : ∀ i, i < n → ok i = false → Ev (fun k => g k i) false)
    (ht : ∀ i, i < n → ∀ r, ok i = true → Ev (fun k => g k (i + 1)) r → Ev (fun k => g k i) r) (he : (∀ i, i < n → ok i = true) → Ev (fun k => g k n) r) :
    Ev (fun k => g k 0) ((List.range n).all ok && r) := by
  refine loop_ev n (fun i => ∀ j, j < i → ok j = true) g _ (fun j h => absurd h (Nat.not_lt_zero _)) ?_ ?_
  · intro i hi hc ih
    cases e : ok i with
    | true =>
      refine ht i hi _ e (ih (fun j hj => ?_))
      by_cases h : j = i
      · rw [h]; exact e
      · exact hc j (by omega)
    | false =>
      have : (List.range n).all ok = false := by
        rw [List.all_eq_false]
        exact ⟨i, List.mem_range.2 hi, by simp [e]⟩
      rw [this, Bool.false_and]
      exact hf i hi e
  · intro hc
    have : (List.range n).all ok = true := by
      rw [List.all_eq_true]
      exact fun i hi => hc i (List.mem_range.1 hi)
    rw [this, Bool.true_and]
    exact he hc

theorem l1In_eq (x a b : Int) : spec_l1In.f x a b = some (decide (a ≤ x) && decide (x ≤ b)) := by
  unfold spec_l1In.f
  by_cases h : x ≥ a
  · rw [if_pos h]
    have : a ≤ x := h
    simp [this]
  · rw [if_neg h]
    have : ¬ a ≤ x := h
    simp [this]

def areV (l : List Int) : Bool := decide (l.length ≤ 64) && l.all (fun x => decide (-999 ≤ x) && decide (x ≤ 999))

theorem specAreValues_ev (l : List Int) (hl : l.length ≤ 4611686018427387904) : Ev (fun k => spec_AreValues.f k l) (areV l) := by
  unfold spec_AreValues.f
  refine loop_ev l.length (fun i => ∀ j (h : j < l.length), j < i → (decide (-999 ≤ l[j]) && decide (l[j] ≤ 999)) = true) (fun k i => spec_AreValues.l0 k l (i : Int)) (areV l) (fun j _ h => absurd h (Nat.not_lt_zero _)) ?_ ?_
  · intro i hi hc ih
    cases e : (decide (-999 ≤ l[i]) && decide (l[i] ≤ 999)) with
    | true =>
      refine Ev.step (fun k => ?_) (ih (fun j h hj => ?_))
      · simp only [spec_AreValues.l0]
        rw [if_pos (by omega), if_pos (by omega), rd_nat hi]
        have e2 : spec_l1In.f l[i] (-999) 999 = some true := by
          simp at e
          unfold spec_l1In.f
          rw [if_pos (by omega)]
          simp [e.2]
        rw [e2, Option.bind_some, if_pos rfl, wS hi (by omega)]
      · by_cases hji : j = i
        · subst hji; exact e
        · exact hc j h (by omega)
    | false =>
      refine ev_const (fun k => ?_)
      simp only [spec_AreValues.l0]
      rw [if_pos (by omega), if_pos (by omega), rd_nat hi]
      have e2 : spec_l1In.f l[i] (-999) 999 = some false := by
        unfold spec_l1In.f
        by_cases c : l[i] ≥ -999
        · rw [if_pos c]
          have c2 : -999 ≤ l[i] := c
          simp [c2] at e
          simp; omega
        · rw [if_neg c]
      rw [e2, Option.bind_some, if_neg (by simp)]
      unfold areV
      rw [all_false_at _ l i hi e, Bool.and_false]
  · intro hc
    refine ev_const (fun k => ?_)
    simp only [spec_AreValues.l0]
    rw [if_neg (by omega)]
    unfold areV
    rw [all_take_true _ l (fun i h => hc i h h), Bool.and_true]
    congr 1
    simp
    omega

theorem within_all (l : List Int) (a b : Int) : impl_within.f l a b = some (l.all fun x => decide (a ≤ x) && decide (x ≤ b)) := by
  unfold impl_within.f
  rw [List.not_any_eq_all_not]
  congr 2
  funext x
  by_cases h1 : x < a <;> by_cases h2 : b < x <;> simp [h1, h2] <;> omega
theorem implAreValues (l : List Int) : impl_AreValues.f l = some (areV l) := by
  unfold impl_AreValues.f areV
  by_cases h : (l.length : Int) ≤ 64
  · rw [if_pos h, within_all, Option.bind_some]
    have : l.length ≤ 64 := by omega
    simp [this]
  · rw [if_neg h]
    have : ¬ l.length ≤ 64 := by omega
    simp [this]

def rowAt (l : List Int) (v : Int) : Int := match l.findIdx? (fun x => x == v) with | some i => (i : Int) | none => -1
theorem rowAt_hit {l : List Int} {v : Int} {i : Nat} (hi : i < l.length) (he : l[i] = v) (hb : ∀ j (h : j < l.length), j < i → l[j] ≠ v) : rowAt l v = (i : Int) := by
  have : l.findIdx? (fun x => x == v) = some i := by
    rw [List.findIdx?_eq_some_iff_getElem]
    exact ⟨hi, by simp [he], fun j hj => by simp [hb j (by omega) hj]⟩
  unfold rowAt
  rw [this]
theorem rowAt_miss {l : List Int} {v : Int} (hb : ∀ j (h : j < l.length), l[j] ≠ v) : rowAt l v = -1 := by
  have : l.findIdx? (fun x => x == v) = none := by
    rw [List.findIdx?_eq_none_iff]
    intro x hx
    obtain ⟨j, hj, rfl⟩ := List.mem_iff_getElem.1 hx
    simp [hb j hj]
  unfold rowAt
  rw [this]
theorem rowAt_cases (l : List Int) (v : Int) : (rowAt l v = -1 ∧ v ∉ l) ∨ (∃ i, ∃ h : i < l.length, rowAt l v = (i : Int) ∧ l[i] = v) := by
  unfold rowAt
  cases h : l.findIdx? (fun x => x == v) with
  | none =>
    rw [List.findIdx?_eq_none_iff] at h
    exact .inl ⟨rfl, fun hv => by have := h v hv; simp at this⟩
  | some i =>
    obtain ⟨h1, h2, _⟩ := List.findIdx?_eq_some_iff_getElem.1 h
    exact .inr ⟨i, h1, rfl, by simpa using h2⟩
theorem rowAt_neg (l : List Int) (v : Int) : rowAt l v < 0 ↔ v ∉ l := by
  rcases rowAt_cases l v with ⟨h, hv⟩ | ⟨i, hi, h, he⟩
  · rw [h]; simp [hv]
  · rw [h]
    have : v ∈ l := he ▸ List.getElem_mem hi
    simp [this] <;> omega

theorem index_ev (r : List Int) (q : Int) (hl : r.length ≤ 4611686018427387904) : Ev (fun k => slices_Index_int_int.f k r q) (rowAt r q) := by
  unfold slices_Index_int_int.f
  refine loop_ev r.length (fun i => ∀ j (h : j < r.length), j < i → r[j] ≠ q) (fun k i => slices_Index_int_int.l0 k r q (r.length : Int) (i : Int)) _ (fun j _ h => absurd h (Nat.not_lt_zero _)) ?_ ?_
  · intro i hi hc ih
    by_cases e : r[i] = q
    · refine ev_const (fun k => ?_)
      simp only [slices_Index_int_int.l0]
      rw [if_pos (by omega), if_pos (by omega), if_pos (by omega), rd_nat hi, if_pos e.symm, rowAt_hit hi e hc]
    · refine Ev.step (fun k => ?_) (ih (fun j h hj => ?_))
      · simp only [slices_Index_int_int.l0]
        rw [if_pos (by omega), if_pos (by omega), if_pos (by omega), rd_nat hi, if_neg (fun h => e h.symm), wS hi (by omega)]
      · by_cases hji : j = i
        · subst hji; exact e
        · exact hc j h (by omega)
  · intro hc
    refine ev_const (fun k => ?_)
    simp only [slices_Index_int_int.l0]
    rw [if_neg (by omega), rowAt_miss (fun j h => hc j h h)]

theorem bound_eq (x : Int) : impl_bound.f x = some (decide (-1000 ≤ x) && decide (x ≤ 1000)) := by
  unfold impl_bound.f
  by_cases h : x ≥ -1000
  · rw [if_pos h]
    have : -1000 ≤ x := h
    simp [this]
  · rw [if_neg h]
    have : ¬ -1000 ≤ x := h
    simp [this]
/-- Is the k-th pivot's head in order: its value, its place, and both against the pivot before it? -/
def ph (n : Int) (P : List S50) (k : Nat) : Bool :=
  (decide (-1000 ≤ (rd_T50 P (k : Int)).f0) && decide ((rd_T50 P (k : Int)).f0 ≤ 1000)) && (decide (0 ≤ (rd_T50 P (k : Int)).f1) && decide ((rd_T50 P (k : Int)).f1 ≤ n)) &&
  !(decide (0 < k) && (decide ((rd_T50 P (k : Int)).f0 ≤ (rd_T50 P ((k : Int) - 1)).f0) || decide ((rd_T50 P (k : Int)).f1 < (rd_T50 P ((k : Int) - 1)).f1)))
/-- Do the values lie on their side of a pivot? -/
def pbi (V : List Int) (v at_ : Int) (i : Nat) : Bool := decide (rd V (i : Int) < v) == decide ((i : Int) < at_)
def pb (V : List Int) (v at_ : Int) : Bool := (List.range V.length).all (pbi V v at_)
def pok (V : List Int) (P : List S50) (k : Nat) : Bool := ph (V.length : Int) P k && pb V (rd_T50 P (k : Int)).f0 (rd_T50 P (k : Int)).f1
def pall (V : List Int) (P : List S50) : Bool := (List.range P.length).all (pok V P)
theorem w_pred {i : Nat} (h0 : 0 < i) (h : i ≤ 4611686018427387904) : wrap64 ((i : Int) - 1) = (i : Int) - 1 := w64 (by omega) (by omega)
theorem specP_step (V : List Int) (P : List S50) (i : Nat) (hi : i < P.length) (hl : P.length ≤ 4611686018427387904) (k : Nat) :
    spec_l4Pivots.l0 (k + 1) V P (i : Int) = spec_l4Pivots.j1 k V P (i : Int) (!ph (V.length : Int) P i) (rd_T50 P (i : Int)).f0 (rd_T50 P (i : Int)).f1 := by
  simp only [spec_l4Pivots.l0, l1In_eq, Option.bind_some]
  rw [if_pos (by omega), if_pos (by omega)]
  unfold ph
  generalize (rd_T50 P (i : Int)).f0 = v
  generalize (rd_T50 P (i : Int)).f1 = a
  cases hA : (decide (-1000 ≤ v) && decide (v ≤ 1000)) with
  | false => rw [if_neg (by simp)]; simp
  | true =>
    rw [if_pos rfl]
    cases hB : (decide (0 ≤ a) && decide (a ≤ (V.length : Int))) with
    | false => rw [if_neg (by simp)]; simp
    | true =>
      rw [if_pos rfl]
      by_cases h0 : 0 < i
      · rw [if_pos (by omega), w_pred h0 (by omega), if_pos (by omega), if_pos (by omega)]
        by_cases hv : v ≤ (rd_T50 P ((i : Int) - 1)).f0
        · rw [if_pos hv]; simp [hv, h0]
        · rw [if_neg hv]; simp [hv, h0]
      · rw [if_neg (by omega)]; simp [h0]
theorem implP_step (V R : List Int) (P : List S50) (i : Nat) (hi : i < P.length) (hl : P.length ≤ 4611686018427387904) (k : Nat) :
    impl_IsCracker.l1 (k + 1) P (P.length : Int) (i : Int) V R P = impl_IsCracker.j3 k P (P.length : Int) (i : Int) (!ph (V.length : Int) P i) V R P (rd_T50 P (i : Int)).f0 (rd_T50 P (i : Int)).f1 := by
  simp only [impl_IsCracker.l1, bound_eq, Option.bind_some]
  rw [if_pos (by omega), if_pos (by omega), if_pos (by omega)]
  unfold ph
  generalize (rd_T50 P (i : Int)).f0 = v
  generalize (rd_T50 P (i : Int)).f1 = a
  cases hA : (decide (-1000 ≤ v) && decide (v ≤ 1000)) with
  | false => rw [if_neg (by simp)]; simp
  | true =>
    rw [if_pos rfl]
    by_cases hB : a < 0
    · rw [if_pos hB, decide_eq_false (show ¬ 0 ≤ a by omega)]; simp
    rw [if_neg hB, decide_eq_true (show 0 ≤ a by omega)]
    by_cases hC : a > (V.length : Int)
    · rw [if_pos hC, decide_eq_false (show ¬ a ≤ (V.length : Int) by omega)]; simp
    rw [if_neg hC, decide_eq_true (show a ≤ (V.length : Int) by omega)]
    by_cases h0 : 0 < i
    · rw [if_pos (by omega), w_pred h0 (by omega), if_pos (by omega), if_pos (by omega)]
      by_cases hv : v ≤ (rd_T50 P ((i : Int) - 1)).f0
      · rw [if_pos hv]; simp [hv, h0]
      · rw [if_neg hv]; simp [hv, h0]
    · rw [if_neg (by omega)]; simp [h0]
theorem specP_in (V : List Int) (P : List S50) (i : Nat) (v a : Int) (r : Bool) (hV : V.length ≤ 4611686018427387904) (h : pb V v a = true → Ev (fun k => spec_l4Pivots.l0 k V P (wrap64 ((i : Int) + 1))) r) :
    Ev (fun k => spec_l4Pivots.l1 k V P (i : Int) 0 v a) (pb V v a && r) := by
  refine all_ev V.length (pbi V v a) r (fun k j => spec_l4Pivots.l1 k V P (i : Int) (j : Int) v a) ?_ ?_ ?_
  · intro j hj e
    refine ev_const (fun k => ?_)
    simp only [spec_l4Pivots.l1]
    unfold pbi at e
    rw [if_pos (by omega), if_pos (by omega), if_pos (by simpa using e)]
  · intro j hj r e h
    refine Ev.step (fun k => ?_) h
    simp only [spec_l4Pivots.l1]
    unfold pbi at e
    rw [if_pos (by omega), if_pos (by omega), if_neg (by simpa using e), wS hj (by omega)]
  · intro hall
    refine Ev.step (fun k => ?_) (h (by unfold pb; rw [List.all_eq_true]; exact fun j hj => hall j (List.mem_range.1 hj)))
    simp only [spec_l4Pivots.l1]
    rw [if_neg (by omega)]
theorem implP_in (V R : List Int) (P : List S50) (i : Nat) (v a : Int) (r : Bool) (hV : V.length ≤ 4611686018427387904) (h : pb V v a = true → Ev (fun k => impl_IsCracker.l1 k P (P.length : Int) (wrap64 ((i : Int) + 1)) V R P) r) :
    Ev (fun k => impl_IsCracker.l2 k P (P.length : Int) (i : Int) V (V.length : Int) 0 V R P v a) (pb V v a && r) := by
  refine all_ev V.length (pbi V v a) r (fun k j => impl_IsCracker.l2 k P (P.length : Int) (i : Int) V (V.length : Int) (j : Int) V R P v a) ?_ ?_ ?_
  · intro j hj e
    refine ev_const (fun k => ?_)
    simp only [impl_IsCracker.l2]
    unfold pbi at e
    rw [if_pos (by omega), if_pos (by omega), if_pos (by omega), if_pos (by simpa using e)]
  · intro j hj r e h
    refine Ev.step (fun k => ?_) h
    simp only [impl_IsCracker.l2]
    unfold pbi at e
    rw [if_pos (by omega), if_pos (by omega), if_pos (by omega), if_neg (by simpa using e), wS hj (by omega)]
  · intro hall
    refine Ev.step (fun k => ?_) (h (by unfold pb; rw [List.all_eq_true]; exact fun j hj => hall j (List.mem_range.1 hj)))
    simp only [impl_IsCracker.l2]
    rw [if_neg (by omega)]
theorem specP_ev (V : List Int) (P : List S50) (hV : V.length ≤ 4611686018427387904) (hP : P.length ≤ 4611686018427387904) : Ev (fun k => spec_l4Pivots.f k V P) (pall V P) := by
  unfold spec_l4Pivots.f
  have := all_ev P.length (pok V P) true (fun k i => spec_l4Pivots.l0 k V P (i : Int)) ?_ ?_ ?_
  · rw [Bool.and_true] at this; exact this
  · intro i hi e
    refine Ev.step (specP_step V P i hi hP) ?_
    unfold pok at e
    cases hh : ph (V.length : Int) P i with
    | false => exact ev_const (fun k => by simp only [spec_l4Pivots.j1]; rw [if_pos (by simp)])
    | true =>
      rw [hh, Bool.true_and] at e
      refine Ev.step (fun k => ?_) (ev_eq (specP_in V P i (rd_T50 P (i : Int)).f0 (rd_T50 P (i : Int)).f1 false hV (fun h => by rw [e] at h; cases h)) (by simp))
      simp only [spec_l4Pivots.j1]
      rw [if_neg (by simp)]
  · intro i hi r e h
    refine Ev.step (specP_step V P i hi hP) ?_
    unfold pok at e
    rw [Bool.and_eq_true] at e
    rw [e.1]
    refine Ev.step (fun k => ?_) (ev_eq (specP_in V P i (rd_T50 P (i : Int)).f0 (rd_T50 P (i : Int)).f1 r hV (fun _ => by rw [wS hi (by omega)]; exact h)) (by rw [e.2, Bool.true_and]))
    simp only [spec_l4Pivots.j1]
    rw [if_neg (by simp)]
  · intro _
    exact ev_const (fun k => by simp only [spec_l4Pivots.l0]; rw [if_neg (by omega)])
theorem implP_ev (V R : List Int) (P : List S50) (hV : V.length ≤ 4611686018427387904) (hP : P.length ≤ 4611686018427387904) : Ev (fun k => impl_IsCracker.l1 k P (P.length : Int) 0 V R P) (pall V P) := by
  have := all_ev P.length (pok V P) true (fun k i => impl_IsCracker.l1 k P (P.length : Int) (i : Int) V R P) ?_ ?_ ?_
  · rw [Bool.and_true] at this; exact this
  · intro i hi e
    refine Ev.step (implP_step V R P i hi hP) ?_
    unfold pok at e
    cases hh : ph (V.length : Int) P i with
    | false => exact ev_const (fun k => by simp only [impl_IsCracker.j3]; rw [if_pos (by simp)])
    | true =>
      rw [hh, Bool.true_and] at e
      refine Ev.step (fun k => ?_) (ev_eq (implP_in V R P i (rd_T50 P (i : Int)).f0 (rd_T50 P (i : Int)).f1 false hV (fun h => by rw [e] at h; cases h)) (by simp))
      simp only [impl_IsCracker.j3]
      rw [if_neg (by simp)]
  · intro i hi r e h
    refine Ev.step (implP_step V R P i hi hP) ?_
    unfold pok at e
    rw [Bool.and_eq_true] at e
    rw [e.1]
    refine Ev.step (fun k => ?_) (ev_eq (implP_in V R P i (rd_T50 P (i : Int)).f0 (rd_T50 P (i : Int)).f1 r hV (fun _ => by rw [wS hi (by omega)]; exact h)) (by rw [e.2, Bool.true_and]))
    simp only [impl_IsCracker.j3]
    rw [if_neg (by simp)]
  · intro _
    exact ev_const (fun k => by simp only [impl_IsCracker.l1]; rw [if_neg (by omega)])
theorem pall_at {V : List Int} {P : List S50} (h : pall V P = true) (i : Nat) (hi : i < P.length) : pok V P i = true := by
  unfold pall at h
  rw [List.all_eq_true] at h
  exact h i (List.mem_range.2 hi)
theorem ph_facts {n : Int} {P : List S50} {k : Nat} (h : ph n P k = true) : (-1000 ≤ (rd_T50 P (k : Int)).f0 ∧ (rd_T50 P (k : Int)).f0 ≤ 1000) ∧ (0 ≤ (rd_T50 P (k : Int)).f1 ∧ (rd_T50 P (k : Int)).f1 ≤ n) ∧
    (0 < k → (rd_T50 P ((k : Int) - 1)).f0 < (rd_T50 P (k : Int)).f0 ∧ (rd_T50 P ((k : Int) - 1)).f1 ≤ (rd_T50 P (k : Int)).f1) := by
  unfold ph at h
  simp only [Bool.and_eq_true, decide_eq_true_eq, Bool.not_eq_true', Bool.and_eq_false_iff, Bool.or_eq_false_iff, decide_eq_false_iff_not] at h
  refine ⟨h.1.1, h.1.2, fun h0 => ?_⟩
  rcases h.2 with h | h
  · exact absurd h0 h
  · omega
theorem pall_len {V : List Int} {P : List S50} (h : pall V P = true) : P.length ≤ 2001 := by
  have key : ∀ i : Nat, i < P.length → -1000 + (i : Int) ≤ (rd_T50 P (i : Int)).f0 := by
    intro i
    induction i with
    | zero =>
      intro hi
      have := pall_at h 0 hi
      unfold pok at this
      rw [Bool.and_eq_true] at this
      have := (ph_facts this.1).1.1
      omega
    | succ i ih =>
      intro hi
      have := pall_at h (i + 1) hi
      unfold pok at this
      rw [Bool.and_eq_true] at this
      have h2 := ((ph_facts this.1).2.2 (by omega)).1
      have h3 := ih (by omega)
      rw [show (((i + 1 : Nat) : Int) - 1) = (i : Int) by omega] at h2
      omega
  by_cases c : P.length = 0
  · omega
  · have := key (P.length - 1) (by omega)
    have h2 := pall_at h (P.length - 1) (by omega)
    unfold pok at h2
    rw [Bool.and_eq_true] at h2
    have := (ph_facts h2.1).1.2
    omega
def rowIn (R : List Int) (i : Nat) : Bool := decide (0 ≤ rd R (i : Int)) && decide (rd R (i : Int) ≤ 999)
def fresh (R : List Int) (i : Nat) : Bool := !decide (rd R (i : Int) ∈ R.take i)
def isC (V R : List Int) (P : List S50) : Bool := areV V && (decide (R.length = V.length) && ((List.range R.length).all (fun i => rowIn R i && fresh R i) && pall V P))
theorem has_ev (l : List Int) (x : Int) (hl : l.length ≤ 4611686018427387904) : Ev (fun k => spec_l4Has.f k l x) (decide (x ∈ l)) := by
  unfold spec_l4Has.f
  refine loop_ev l.length (fun i => ∀ j (h : j < l.length), j < i → l[j] ≠ x) (fun k i => spec_l4Has.l0 k l x (i : Int)) _ (fun j _ h => absurd h (Nat.not_lt_zero _)) ?_ ?_
  · intro i hi hc ih
    by_cases e : l[i] = x
    · refine ev_const (fun k => ?_)
      simp only [spec_l4Has.l0]
      rw [if_pos (by omega), if_pos (by omega), rd_nat hi, if_pos e, decide_eq_true (e ▸ List.getElem_mem hi)]
    · refine Ev.step (fun k => ?_) (ih (fun j h hj => ?_))
      · simp only [spec_l4Has.l0]
        rw [if_pos (by omega), if_pos (by omega), rd_nat hi, if_neg e, wS hi (by omega)]
      · by_cases hji : j = i
        · subst hji; exact e
        · exact hc j h (by omega)
  · intro hc
    refine ev_const (fun k => ?_)
    simp only [spec_l4Has.l0]
    rw [if_neg (by omega), decide_eq_false]
    intro hx
    obtain ⟨j, hj, e⟩ := List.mem_iff_getElem.1 hx
    exact hc j hj hj e
theorem contains_ev (l : List Int) (x : Int) (hl : l.length ≤ 4611686018427387904) : Ev (fun k => slices_Contains_int_int.f k l x) (decide (x ∈ l)) := by
  unfold slices_Contains_int_int.f
  refine Ev.bind (index_ev l x hl) (ev_eq (ev_some _) ?_)
  have := rowAt_neg l x
  by_cases h : x ∈ l
  · rw [decide_eq_true h, decide_eq_true]
    have : ¬ rowAt l x < 0 := fun c => (this.1 c) h
    omega
  · rw [decide_eq_false h, decide_eq_false]
    have := this.2 h
    omega
theorem specR_ev (V R : List Int) (P : List S50) (hV : V.length ≤ 4611686018427387904) (hR : R.length ≤ 4611686018427387904) (hP : P.length ≤ 4611686018427387904) :
    Ev (fun k => spec_IsCracker.l0 k 0 V R P) ((List.range R.length).all (fun i => rowIn R i && fresh R i) && pall V P) := by
  refine all_ev R.length (fun i => rowIn R i && fresh R i) (pall V P) (fun k i => spec_IsCracker.l0 k (i : Int) V R P) ?_ ?_ ?_
  · intro i hi e
    apply Ev.step
    · intro k; simp only [spec_IsCracker.l0, l1In_eq, Option.bind_some]; rfl
    refine ev_ifp (by omega) (ev_ifp (by omega) ?_)
    cases c : rowIn R i with
    | false => unfold rowIn at c; rw [c]; exact ev_ifn (by simp) (ev_some _)
    | true =>
      rw [c, Bool.true_and] at e
      unfold rowIn at c
      rw [c]
      refine ev_ifp rfl (ev_ifp (by omega) (Ev.bind (has_ev _ _ (by rw [List.length_take]; omega)) (ev_ifp ?_ (ev_some _))))
      rw [Int.toNat_natCast]
      unfold fresh at e
      simpa using e
  · intro i hi r e h
    rw [Bool.and_eq_true] at e
    apply Ev.step
    · intro k; simp only [spec_IsCracker.l0, l1In_eq, Option.bind_some]; rfl
    refine ev_ifp (by omega) (ev_ifp (by omega) ?_)
    have c := e.1
    unfold rowIn at c
    rw [c]
    refine ev_ifp rfl (ev_ifp (by omega) (Ev.bind (has_ev _ _ (by rw [List.length_take]; omega)) (ev_ifn ?_ ?_)))
    · rw [Int.toNat_natCast]
      have := e.2
      unfold fresh at this
      simpa using this
    · rw [wS hi (by omega)]; exact h
  · intro _
    apply Ev.step
    · intro k; simp only [spec_IsCracker.l0]; rfl
    exact ev_ifn (by omega) (Ev.bind (specP_ev V P hV hP) (ev_some _))
theorem implR_ev (V R : List Int) (P : List S50) (hV : V.length ≤ 4611686018427387904) (hR : R.length ≤ 4611686018427387904) (hP : P.length ≤ 4611686018427387904) :
    Ev (fun k => impl_IsCracker.l0 k R (R.length : Int) 0 V R P) ((List.range R.length).all (fresh R) && pall V P) := by
  refine all_ev R.length (fresh R) (pall V P) (fun k i => impl_IsCracker.l0 k R (R.length : Int) (i : Int) V R P) ?_ ?_ ?_
  · intro i hi e
    apply Ev.step
    · intro k; simp only [impl_IsCracker.l0]; rfl
    refine ev_ifp (by omega) (ev_ifp (by omega) (ev_ifp (by omega) (ev_ifp (by omega) (Ev.bind (contains_ev _ _ (by rw [List.length_take]; omega)) (ev_ifp ?_ (ev_some _))))))
    rw [Int.toNat_natCast]
    unfold fresh at e
    simpa using e
  · intro i hi r e h
    apply Ev.step
    · intro k; simp only [impl_IsCracker.l0]; rfl
    refine ev_ifp (by omega) (ev_ifp (by omega) (ev_ifp (by omega) (ev_ifp (by omega) (Ev.bind (contains_ev _ _ (by rw [List.length_take]; omega)) (ev_ifn ?_ ?_)))))
    · rw [Int.toNat_natCast]
      unfold fresh at e
      simpa using e
    · rw [wS hi (by omega)]; exact h
  · intro _
    apply Ev.step
    · intro k; simp only [impl_IsCracker.l0]; rfl
    exact ev_ifn (by omega) (implP_ev V R P hV hP)
theorem specIsC_ev (V R : List Int) (P : List S50) (hV : V.length ≤ 4611686018427387904) (hR : R.length ≤ 4611686018427387904) (hP : P.length ≤ 4611686018427387904) : Ev (fun k => spec_IsCracker.f k V R P) (isC V R P) := by
  unfold spec_IsCracker.f isC
  have hf : Ev (fun k => spec_IsCracker.j0 k true V R P) false := ev_const (fun k => by simp [spec_IsCracker.j0])
  refine Ev.bind (specAreValues_ev V (by omega)) ?_
  cases areV V with
  | false => exact ev_ifn (by simp) hf
  | true =>
    refine ev_ifp rfl ?_
    rw [Bool.true_and]
    by_cases c : R.length = V.length
    · rw [show ((R.length : Int) != (V.length : Int)) = false by simp [c], decide_eq_true c, Bool.true_and]
      refine Ev.step (fun k => ?_) (specR_ev V R P hV hR hP)
      simp only [spec_IsCracker.j0]
      rw [if_neg (by simp)]
    · rw [show ((R.length : Int) != (V.length : Int)) = true by simp; omega, decide_eq_false c, Bool.false_and]
      exact hf
theorem implIsC_ev (V R : List Int) (P : List S50) (hV : V.length ≤ 4611686018427387904) (hR : R.length ≤ 4611686018427387904) (hP : P.length ≤ 4611686018427387904) : Ev (fun k => impl_IsCracker.f k V R P) (isC V R P) := by
  unfold impl_IsCracker.f isC
  have hf : Ev (fun k => impl_IsCracker.j0 k true V R P) false := ev_const (fun k => by simp [impl_IsCracker.j0])
  refine ev_pure (implAreValues V) ?_
  cases areV V with
  | false => exact ev_ifn (by simp) hf
  | true =>
    refine ev_ifp rfl ?_
    rw [Bool.true_and]
    by_cases c : R.length = V.length
    · refine ev_ifp (by omega) ?_
      rw [decide_eq_true c, Bool.true_and]
      refine ev_pure (within_all R 0 999) ?_
      have hw : (R.all fun x => decide (0 ≤ x) && decide (x ≤ 999)) = (List.range R.length).all (rowIn R) := by
        rw [Bool.eq_iff_iff, List.all_eq_true, List.all_eq_true]
        refine ⟨fun h i hi => ?_, fun h x hx => ?_⟩
        · have hi := List.mem_range.1 hi
          unfold rowIn
          rw [rd_nat hi]
          exact h _ (List.getElem_mem hi)
        · obtain ⟨i, hi, rfl⟩ := List.mem_iff_getElem.1 hx
          have := h i (List.mem_range.2 hi)
          unfold rowIn at this
          rw [rd_nat hi] at this
          exact this
      rw [hw]
      have hs : ((List.range R.length).all fun i => rowIn R i && fresh R i) = ((List.range R.length).all (rowIn R) && (List.range R.length).all (fresh R)) := by
        rw [Bool.eq_iff_iff, Bool.and_eq_true, List.all_eq_true, List.all_eq_true, List.all_eq_true]
        refine ⟨fun h => ⟨fun i hi => (Bool.and_eq_true _ _ ▸ h i hi).1, fun i hi => (Bool.and_eq_true _ _ ▸ h i hi).2⟩, fun h i hi => by rw [h.1 i hi, h.2 i hi]; rfl⟩
      rw [hs]
      cases (List.range R.length).all (rowIn R) with
      | false => exact ev_ifn (by simp) hf
      | true =>
        refine ev_ifp rfl ?_
        rw [Bool.true_and]
        by_cases d : P.length ≤ 2001
        · rw [decide_eq_false (show ¬ (P.length : Int) > 2001 by omega)]
          refine Ev.step (fun k => ?_) (implR_ev V R P hV hR hP)
          simp only [impl_IsCracker.j0]
          rw [if_neg (by simp)]
        · rw [decide_eq_true (show (P.length : Int) > 2001 by omega)]
          have : pall V P = false := by
            cases e : pall V P with
            | false => rfl
            | true => exact absurd (pall_len e) d
          rw [this, Bool.and_false]
          exact hf
    · refine ev_ifn (by omega) ?_
      rw [decide_eq_false c, Bool.false_and]
      exact hf

theorem isC_facts {V R : List Int} {P : List S50} (h : isC V R P = true) : areV V = true ∧ R.length = V.length ∧ (List.range R.length).all (fun i => rowIn R i && fresh R i) = true ∧ pall V P = true := by
  unfold isC at h
  simp only [Bool.and_eq_true, decide_eq_true_eq] at h
  exact ⟨h.1, h.2.1, h.2.2.1, h.2.2.2⟩

structure CF (V R : List Int) (P : List S50) : Prop where
  rl : R.length = V.length
  vl : V.length ≤ 64
  rng : ∀ x ∈ V.zip R, (-999 ≤ x.1 ∧ x.1 ≤ 999) ∧ (0 ≤ x.2 ∧ x.2 ≤ 999)
  nd : ((V.zip R).map Prod.snd).Nodup
  bd : ∀ j : Nat, j < P.length → (-1000 ≤ (rd_T50 P (j : Int)).f0 ∧ (rd_T50 P (j : Int)).f0 ≤ 1000) ∧ (0 ≤ (rd_T50 P (j : Int)).f1 ∧ (rd_T50 P (j : Int)).f1 ≤ (V.length : Int))
  mono : ∀ i j : Nat, i < j → j < P.length → (rd_T50 P (i : Int)).f0 < (rd_T50 P (j : Int)).f0 ∧ (rd_T50 P (i : Int)).f1 ≤ (rd_T50 P (j : Int)).f1
  side : ∀ j : Nat, j < P.length → ∀ t : Int, 0 ≤ t → t < (V.length : Int) → (rd V t < (rd_T50 P (j : Int)).f0 ↔ t < (rd_T50 P (j : Int)).f1)
theorem snd_zip (V R : List Int) (h : R.length = V.length) : (V.zip R).map Prod.snd = R := List.map_snd_zip (by omega)
theorem CF.of {V R : List Int} {P : List S50} (h : isC V R P = true) : CF V R P := by
  obtain ⟨h1, h2, h3, h4⟩ := isC_facts h
  unfold areV at h1
  simp only [Bool.and_eq_true, decide_eq_true_eq, List.all_eq_true] at h1
  rw [List.all_eq_true] at h3
  have pok_at : ∀ j : Nat, j < P.length → ph (V.length : Int) P j = true ∧ pb V (rd_T50 P (j : Int)).f0 (rd_T50 P (j : Int)).f1 = true := by
    intro j hj
    have := pall_at h4 j hj
    unfold pok at this
    rwa [Bool.and_eq_true] at this
  refine ⟨h2, h1.1, ?_, ?_, ?_, ?_, ?_⟩
  · intro x hx
    obtain ⟨i, hi, rfl⟩ := List.mem_iff_getElem.1 hx
    rw [List.length_zip] at hi
    rw [List.getElem_zip]
    refine ⟨h1.2 _ (List.getElem_mem _), ?_⟩
    have := h3 i (List.mem_range.2 (by omega))
    rw [Bool.and_eq_true] at this
    have := this.1
    unfold rowIn at this
    rw [rd_nat (by omega)] at this
    simpa using this
  · rw [snd_zip V R h2]
    unfold List.Nodup
    rw [List.pairwise_iff_getElem]
    intro i j hi hj hij e
    have := h3 j (List.mem_range.2 hj)
    rw [Bool.and_eq_true] at this
    have := this.2
    unfold fresh at this
    rw [rd_nat hj] at this
    have h5 : R[j] ∉ R.take j := by simpa using this
    apply h5
    rw [← e]
    rw [List.mem_iff_getElem]
    exact ⟨i, by rw [List.length_take]; omega, List.getElem_take⟩
  · intro j hj
    have := ph_facts (pok_at j hj).1
    exact ⟨this.1, this.2.1⟩
  · intro i j hij
    induction j with
    | zero => omega
    | succ j ih =>
      intro hj
      have h5 := (ph_facts (pok_at (j + 1) hj).1).2.2 (by omega)
      rw [show (((j + 1 : Nat) : Int) - 1) = (j : Int) by omega] at h5
      by_cases e : i = j
      · subst e; exact h5
      · have := ih (by omega) (by omega)
        omega
  · intro j hj t h0 h1'
    have := (pok_at j hj).2
    unfold pb at this
    rw [List.all_eq_true] at this
    have := this t.toNat (List.mem_range.2 (by omega))
    unfold pbi at this
    rw [Int.toNat_of_nonneg h0] at this
    have := eq_of_beq this
    exact decide_eq_decide.1 this
theorem CF.is {V R : List Int} {P : List S50} (h : CF V R P) : isC V R P = true := by
  have hz : (V.zip R).length = V.length := by rw [List.length_zip, h.rl, Nat.min_self]
  have hx : ∀ i (hi : i < V.length), (-999 ≤ V[i] ∧ V[i] ≤ 999) ∧ (0 ≤ R[i]'(by have := h.rl; omega) ∧ R[i]'(by have := h.rl; omega) ≤ 999) := by
    intro i hi
    have := h.rng ((V.zip R)[i]'(by omega)) (List.getElem_mem _)
    rwa [List.getElem_zip] at this
  have hnd := h.nd
  rw [snd_zip V R h.rl] at hnd
  unfold List.Nodup at hnd
  rw [List.pairwise_iff_getElem] at hnd
  have hrl := h.rl
  unfold isC
  simp only [Bool.and_eq_true, decide_eq_true_eq]
  refine ⟨?_, h.rl, ?_, ?_⟩
  · unfold areV
    simp only [Bool.and_eq_true, decide_eq_true_eq, List.all_eq_true]
    refine ⟨h.vl, fun x hx' => ?_⟩
    obtain ⟨i, hi, rfl⟩ := List.mem_iff_getElem.1 hx'
    exact (hx i hi).1
  · rw [List.all_eq_true]
    intro i hi
    have hi := List.mem_range.1 hi
    rw [Bool.and_eq_true]
    constructor
    · unfold rowIn
      rw [rd_nat hi]
      simpa using (hx i (by omega)).2
    · unfold fresh
      rw [rd_nat hi]
      simp only [Bool.not_eq_true', decide_eq_false_iff_not]
      intro hm
      obtain ⟨j, hj, e⟩ := List.mem_iff_getElem.1 hm
      rw [List.length_take] at hj
      rw [List.getElem_take] at e
      exact hnd j i (by omega) hi (by omega) e
  · unfold pall
    rw [List.all_eq_true]
    intro j hj
    have hj := List.mem_range.1 hj
    unfold pok
    rw [Bool.and_eq_true]
    obtain ⟨b1, b2⟩ := h.bd j hj
    constructor
    · unfold ph
      simp only [Bool.and_eq_true, decide_eq_true_eq, Bool.not_eq_true', Bool.and_eq_false_iff, Bool.or_eq_false_iff, decide_eq_false_iff_not]
      refine ⟨⟨b1, b2⟩, ?_⟩
      by_cases c : 0 < j
      · right
        have := h.mono (j - 1) j (by omega) hj
        rw [show (((j - 1 : Nat) : Int)) = (j : Int) - 1 by omega] at this
        omega
      · exact Or.inl c
    · unfold pb
      rw [List.all_eq_true]
      intro t ht
      have ht := List.mem_range.1 ht
      unfold pbi
      have := h.side j hj (t : Int) (by omega) (by omega)
      rw [beq_iff_eq]
      exact decide_eq_decide.2 this
/-- The same pairs, in another order, with pivots that fit. -/
theorem CF.mk' {V R : List Int} {P : List S50} (L : List (Int × Int)) (hz : (V.zip R).Perm L) (rl : R.length = V.length) (vl : V.length ≤ 64)
    (rng : ∀ x ∈ L, (-999 ≤ x.1 ∧ x.1 ≤ 999) ∧ (0 ≤ x.2 ∧ x.2 ≤ 999)) (nd : (L.map Prod.snd).Nodup)
    (bd : ∀ j : Nat, j < P.length → (-1000 ≤ (rd_T50 P (j : Int)).f0 ∧ (rd_T50 P (j : Int)).f0 ≤ 1000) ∧ (0 ≤ (rd_T50 P (j : Int)).f1 ∧ (rd_T50 P (j : Int)).f1 ≤ (V.length : Int)))
    (mono : ∀ i j : Nat, i < j → j < P.length → (rd_T50 P (i : Int)).f0 < (rd_T50 P (j : Int)).f0 ∧ (rd_T50 P (i : Int)).f1 ≤ (rd_T50 P (j : Int)).f1)
    (side : ∀ j : Nat, j < P.length → ∀ t : Int, 0 ≤ t → t < (V.length : Int) → (rd V t < (rd_T50 P (j : Int)).f0 ↔ t < (rd_T50 P (j : Int)).f1)) : CF V R P :=
  ⟨rl, vl, fun x hx => rng x (hz.mem_iff.1 hx), (hz.map Prod.snd).nodup_iff.2 nd, bd, mono, side⟩

theorem l10put_eq (a b : Int) : impl_Cracker_put.f a b = some (if a = b then 0 else 1) := rfl
theorem l10move_eq (a b : Int) : spec_l10Move.f a b = some (if b = a then 0 else 1) := by unfold spec_l10Move.f; by_cases h : a = b <;> simp [h, eq_comm]
theorem rdT_set_ne (P : List S50) (i j : Nat) (x : S50) (h : i ≠ j) : rd_T50 (P.set i x) (j : Int) = rd_T50 P (j : Int) := by
  unfold rd_T50
  simp [List.getD_eq_getElem?_getD, List.getElem?_set_ne h]

structure InsI (v : Int) (n : Nat) (L : List (Int × Int)) (P0 : List S50) (i : Nat) (hole : Int) (V R : List Int) (P : List S50) : Prop where
  vl : V.length = n + 1
  rl : R.length = n + 1
  pl : P.length = P0.length
  h : 0 ≤ hole ∧ hole ≤ (n : Int)
  perm : ((V.zip R).eraseIdx hole.toNat).Perm L
  val : ∀ j : Nat, j < P0.length → (rd_T50 P (j : Int)).f0 = (rd_T50 P0 (j : Int)).f0
  lo : ∀ j : Nat, j < i → j < P0.length → (rd_T50 P (j : Int)).f1 = (rd_T50 P0 (j : Int)).f1 ∧ (rd_T50 P0 (j : Int)).f1 ≤ hole
  up : ∀ j : Nat, i ≤ j → j < P0.length → (rd_T50 P (j : Int)).f1 = (rd_T50 P0 (j : Int)).f1 + 1 ∧ hole ≤ (rd_T50 P0 (j : Int)).f1 ∧ v < (rd_T50 P0 (j : Int)).f0
  side : ∀ j : Nat, j < P0.length → ∀ t : Int, 0 ≤ t → t ≤ (n : Int) → t ≠ hole → (rd V t < (rd_T50 P0 (j : Int)).f0 ↔ t < (rd_T50 P (j : Int)).f1)
theorem InsI.start {V R : List Int} {P : List S50} (v : Int) (h : CF V R P) : InsI v V.length (V.zip R) P P.length (V.length : Int) (V ++ [0]) (R ++ [0]) P where
  vl := by simp
  rl := by simp [h.rl]
  pl := rfl
  h := by omega
  perm := by
    rw [Int.toNat_natCast, List.zip_append h.rl.symm]
    have e : (V.zip R).length = V.length := by rw [List.length_zip, h.rl, Nat.min_self]
    rw [List.eraseIdx_append_of_length_le (by omega), e, Nat.sub_self]
    simp
  val := fun _ _ => rfl
  lo := fun j _ hj => ⟨rfl, (h.bd j hj).2.2⟩
  up := fun j h1 h2 => by omega
  side := fun j hj t h0 h1 h2 => by
    have e : rd (V ++ [0]) t = rd V t := by
      rw [rd_toNat h0 (by simp; omega), rd_toNat h0 (by omega), List.getElem_append_left]
    rw [e]
    exact h.side j hj t h0 (by omega)
theorem InsI.step {v : Int} {n : Nat} {L : List (Int × Int)} {P0 : List S50} {i : Nat} {hole : Int} {V R : List Int} {P : List S50}
    (h : InsI v n L P0 (i + 1) hole V R P) (hi : i < P0.length) (hb : ∀ j : Nat, j < P0.length → 0 ≤ (rd_T50 P0 (j : Int)).f1 ∧ (rd_T50 P0 (j : Int)).f1 ≤ (n : Int))
    (hm : ∀ i j : Nat, i < j → j < P0.length → (rd_T50 P0 (i : Int)).f0 < (rd_T50 P0 (j : Int)).f0 ∧ (rd_T50 P0 (i : Int)).f1 ≤ (rd_T50 P0 (j : Int)).f1)
    (a w : Int) (ha : a = (rd_T50 P (i : Int)).f1) (hw : w = (rd_T50 P (i : Int)).f0) (hv : v < w) :
    InsI v n L P0 i a (V.set hole.toNat (rd V a)) (R.set hole.toNat (rd R a)) (P.set i ⟨w, a + 1⟩) := by
  obtain ⟨l1, l2⟩ := h.lo i (by omega) hi
  have hvi := h.val i hi
  obtain ⟨b1, b2⟩ := hb i hi
  obtain ⟨g1, g2⟩ := h.h
  have hpl := h.pl
  have hvl := h.vl
  have hself := rdT_set_self P i ⟨w, a + 1⟩ (by omega)
  have hne : ∀ j : Nat, j ≠ i → rd_T50 (P.set i ⟨w, a + 1⟩) (j : Int) = rd_T50 P (j : Int) := fun j hj => rdT_set_ne P i j _ (Ne.symm hj)
  rw [l1] at ha
  rw [hvi] at hw
  refine ⟨by simp [h.vl], by simp [h.rl], by simp [h.pl], by omega, (prs_move V R (n + 1) h.vl h.rl hole a g1 (by omega) (by omega) (by omega)).trans h.perm, ?_, ?_, ?_, ?_⟩
  · intro j hj
    by_cases e : j = i
    · subst e; rw [hself]; exact hw
    · rw [hne j e]; exact h.val j hj
  · intro j h1 h2
    rw [hne j (by omega)]
    exact ⟨(h.lo j (by omega) h2).1, by have := (hm j i h1 hi).2; omega⟩
  · intro j h1 h2
    by_cases e : j = i
    · subst e; rw [hself]; exact ⟨by show a + 1 = _; omega, by omega, by omega⟩
    · rw [hne j e]
      obtain ⟨u1, u2, u3⟩ := h.up j (by omega) h2
      exact ⟨u1, by have := (hm i j (by omega) h2).2; omega, u3⟩
  · intro j hj t h0 h1 h2
    rw [rd_set V hole t _ g1 (by omega) h0]
    by_cases c : t = hole
    · rw [if_pos c]
      have hs := h.side j hj a (by omega) (by omega) (by omega)
      rw [hs]
      by_cases e : j = i
      · subst e
        rw [hself, l1]
        show _ ↔ t < a + 1
        omega
      · rw [hne j e]
        by_cases e2 : j < i
        · have := (h.lo j (by omega) hj).1
          have := (hm j i e2 hi).2
          omega
        · have := h.up j (by omega) hj
          omega
    · rw [if_neg c]
      have hs := h.side j hj t h0 h1 c
      rw [hs]
      by_cases e : j = i
      · subst e
        rw [hself, l1]
        show _ ↔ t < a + 1
        omega
      · rw [hne j e]
theorem InsI.fin {v q : Int} {V0 R0 : List Int} {P0 : List S50} {i : Nat} {hole : Int} {V R : List Int} {P : List S50}
    (h : InsI v V0.length (V0.zip R0) P0 i hole V R P) (hc : CF V0 R0 P0) (h64 : V0.length < 64) (hv : -999 ≤ v ∧ v ≤ 999) (hq : 0 ≤ q ∧ q ≤ 999) (hn : q ∉ R0) (hle : ∀ j : Nat, j < i → j < P0.length → (rd_T50 P0 (j : Int)).f0 ≤ v) :
    CF (V.set hole.toNat v) (R.set hole.toNat q) P ∧ ((V.set hole.toNat v).zip (R.set hole.toNat q)).Perm ((v, q) :: V0.zip R0) ∧
    (∀ j : Nat, j < P0.length → (rd_T50 P (j : Int)).f0 = (rd_T50 P0 (j : Int)).f0 ∧ (rd_T50 P (j : Int)).f1 = (rd_T50 P0 (j : Int)).f1 + (if v < (rd_T50 P0 (j : Int)).f0 then 1 else 0)) := by
  obtain ⟨g1, g2⟩ := h.h
  have hvl := h.vl
  have hpl := h.pl
  have hp := (prs_put V R (V0.length + 1) h.vl h.rl hole v q g1 (by omega)).trans (h.perm.cons (v, q))
  have hf : ∀ j : Nat, j < P0.length → (rd_T50 P (j : Int)).f0 = (rd_T50 P0 (j : Int)).f0 ∧ (rd_T50 P (j : Int)).f1 = (rd_T50 P0 (j : Int)).f1 + (if v < (rd_T50 P0 (j : Int)).f0 then 1 else 0) := by
    intro j hj
    refine ⟨h.val j hj, ?_⟩
    by_cases c : j < i
    · have := hle j c hj
      rw [if_neg (by omega), (h.lo j c hj).1]; omega
    · obtain ⟨u1, u2, u3⟩ := h.up j (by omega) hj
      rw [if_pos u3, u1]
  refine ⟨CF.mk' _ hp (by simp [h.vl, h.rl]) (by simp [h.vl]; omega) ?_ ?_ ?_ ?_ ?_, hp, hf⟩
  · intro x hx
    rcases List.mem_cons.1 hx with e | hx
    · subst e; exact ⟨hv, hq⟩
    · exact hc.rng x hx
  · rw [List.map_cons, List.nodup_cons]
    refine ⟨?_, hc.nd⟩
    rw [snd_zip V0 R0 hc.rl]
    exact hn
  · intro j hj
    obtain ⟨f1, f2⟩ := hf j (by omega)
    obtain ⟨b1, b2⟩ := hc.bd j (by omega)
    rw [List.length_set, hvl, f1, f2]
    refine ⟨b1, ?_⟩
    split <;> omega
  · intro i' j hij hj
    obtain ⟨f1, f2⟩ := hf j (by omega)
    obtain ⟨f3, f4⟩ := hf i' (by omega)
    have := hc.mono i' j hij (by omega)
    rw [f1, f2, f3, f4]
    refine ⟨this.1, ?_⟩
    split <;> split <;> omega
  · intro j hj t h0 h1
    rw [List.length_set, hvl] at h1
    rw [rd_set V hole t _ g1 (by omega) h0, h.val j (by omega)]
    by_cases c : t = hole
    · rw [if_pos c]
      by_cases e : j < i
      · have := hle j e (by omega)
        have := h.lo j e (by omega)
        omega
      · have := h.up j (by omega) (by omega)
        omega
    · rw [if_neg c]
      exact h.side j (by omega) t h0 (by omega) c

theorem specFindRow_ev (v r : List Int) (p : List S50) (q : Int) (hl : r.length ≤ 4611686018427387904) : Ev (fun k => spec_FindRow.f k v r p q) (rowAt r q) := by
  unfold spec_FindRow.f
  refine loop_ev r.length (fun i => ∀ j (h : j < r.length), j < i → r[j] ≠ q) (fun k i => spec_FindRow.l0 k q (i : Int) v r p) _ (fun j _ h => absurd h (Nat.not_lt_zero _)) ?_ ?_
  · intro i hi hc ih
    by_cases e : r[i] = q
    · refine ev_const (fun k => ?_)
      simp only [spec_FindRow.l0]
      rw [if_pos (by omega), if_pos (by omega), rd_nat hi, if_pos e, rowAt_hit hi e hc]
    · refine Ev.step (fun k => ?_) (ih (fun j h hj => ?_))
      · simp only [spec_FindRow.l0]
        rw [if_pos (by omega), if_pos (by omega), rd_nat hi, if_neg e, wS hi (by omega)]
      · by_cases hji : j = i
        · subst hji; exact e
        · exact hc j h (by omega)
  · intro hc
    refine ev_const (fun k => ?_)
    simp only [spec_FindRow.l0]
    rw [if_neg (by omega), rowAt_miss (fun j h => hc j h h)]

theorem implFindRow_ev (v r : List Int) (p : List S50) (q : Int) (hl : r.length ≤ 4611686018427387904) : Ev (fun k => impl_FindRow.f k v r p q) (rowAt r q) := by
  unfold impl_FindRow.f
  exact Ev.bind (index_ev r q hl) (ev_some _)

theorem rdSwap {l : List S105} {i : Nat} (h : i < l.length) : rd_T105 l (i : Int) = l[i] := by
  unfold rd_T105; simp [List.getD_eq_getElem?_getD, List.getElem?_eq_getElem h]

def swin (n : Int) (s : S105) : Bool := (decide (0 ≤ s.f0) && decide (s.f0 < n)) && (decide (0 ≤ s.f1) && decide (s.f1 < n))
def sw1 (l : List Int) (s : S105) : List Int := (l.set s.f0.toNat (rd l s.f1)).set s.f1.toNat (rd l s.f0)
theorem sw1_len (l : List Int) (s : S105) : (sw1 l s).length = l.length := by simp [sw1]
def runS (n : Int) (V0 R0 : List Int) (P : List S50) : List S105 → List Int → List Int → List Int × List Int × List S50 × Bool
  | [], V, R => (V, R, P, true)
  | s :: L, V, R => if swin n s = true then runS n V0 R0 P L (sw1 V s) (sw1 R s) else (V0, R0, P, false)
def appR (V R : List Int) (P : List S50) (L : List S105) : List Int × List Int × List S50 × Bool :=
  if R.length = V.length then runS (V.length : Int) V R P L V R else (V, R, P, false)
theorem runS_len (n : Int) (V0 R0 : List Int) (P : List S50) (a b : Nat) (ha : V0.length = a) (hb : R0.length = b) : ∀ (L : List S105) (V R : List Int), V.length = a → R.length = b →
    (runS n V0 R0 P L V R).1.length = a ∧ (runS n V0 R0 P L V R).2.1.length = b ∧ (runS n V0 R0 P L V R).2.2.1 = P
  | [], V, R, h1, h2 => ⟨h1, h2, rfl⟩
  | s :: L, V, R, h1, h2 => by
    simp only [runS]
    by_cases hs : swin n s = true
    · rw [if_pos hs]
      exact runS_len n V0 R0 P a b ha hb L (sw1 V s) (sw1 R s) (by rw [sw1_len, h1]) (by rw [sw1_len, h2])
    · rw [if_neg hs]
      exact ⟨ha, hb, rfl⟩
theorem appR_len (V R : List Int) (P : List S50) (L : List S105) : (appR V R P L).1.length = V.length ∧ (appR V R P L).2.1.length = R.length ∧ (appR V R P L).2.2.1 = P := by
  unfold appR
  by_cases h : R.length = V.length
  · rw [if_pos h]
    exact runS_len _ V R P V.length R.length rfl rfl L V R rfl rfl
  · rw [if_neg h]
    exact ⟨rfl, rfl, rfl⟩

theorem copyS {V R : List Int} {P : List S50} (h0 : V.length ≤ 1048576) (h1 : R.length ≤ 1048576) (h2 : P.length ≤ 1048576) : spec_l4Copy.f V R P = some (V, R, P) := by
  unfold spec_l4Copy.f
  simp only [Option.bind_some, List.nil_append, List.length_nil, Nat.zero_add]
  rw [if_pos (by omega), if_pos (by omega), if_pos (by omega)]
theorem l5Swap_in {l : List Int} {s : S105} (n : Nat) (hl : l.length = n) (a0 : 0 ≤ s.f0) (a1 : s.f0 < (n : Int)) (b0 : 0 ≤ s.f1) (b1 : s.f1 < (n : Int)) : spec_l5Swap.f l s.f0 s.f1 = some (sw1 l s) := by
  unfold spec_l5Swap.f
  rw [if_pos a0, if_pos (by omega), if_pos b0, if_pos (by omega)]
  rfl
theorem specApp_l0 (L : List S105) (V0 R0 : List Int) (P : List S50) (hL : L.length ≤ 4611686018427387904) (h0 : V0.length ≤ 1048576) (h1 : R0.length ≤ 1048576) (h2 : P.length ≤ 1048576) (n : Nat) (hn : n ≤ 1048576) :
    ∀ (d i : Nat) (V R : List Int), i + d = L.length → V.length = n → R.length = n → Ev (fun k => spec_ApplySwaps.l0 k L (i : Int) V0 R0 P V R P) (runS (n : Int) V0 R0 P (L.drop i) V R) := by
  intro d
  induction d with
  | zero =>
    intro i V R hd hV hR
    rw [List.drop_eq_nil_of_le (by omega)]
    refine ev_const (fun k => ?_)
    simp only [spec_ApplySwaps.l0, runS]
    rw [if_neg (by omega)]
  | succ d ih =>
    intro i V R hd hV hR
    have hi : i < L.length := by omega
    rw [List.drop_eq_getElem_cons hi]
    simp only [runS]
    have hw : wrap64 ((V.length : Int) - 1) = (n : Int) - 1 := by rw [hV, w64 (n := (n : Int) - 1) (by omega) (by omega)]
    by_cases hs : swin (n : Int) L[i] = true
    · rw [if_pos hs]
      unfold swin at hs
      simp only [Bool.and_eq_true, decide_eq_true_eq] at hs
      obtain ⟨⟨a0, a1⟩, b0, b1⟩ := hs
      refine Ev.step (f := fun k => spec_ApplySwaps.j1 k L (i : Int) (L[i]).f0 (L[i]).f1 false V0 R0 P V R P) (fun k => ?_) (Ev.step (fun k => ?_) (ih (i + 1) (sw1 V L[i]) (sw1 R L[i]) (by omega) (by rw [sw1_len, hV]) (by rw [sw1_len, hR])))
      · simp only [spec_ApplySwaps.l0]
        rw [if_pos (by omega), if_pos (by omega), rdSwap hi, hw, l1In_eq, l1In_eq, decide_eq_true a0, decide_eq_true b0, decide_eq_true (show (L[i]).f0 ≤ (n : Int) - 1 by omega), decide_eq_true (show (L[i]).f1 ≤ (n : Int) - 1 by omega)]
        rfl
      · simp only [spec_ApplySwaps.j1]
        rw [if_neg (by simp), l5Swap_in n hV a0 a1 b0 b1, l5Swap_in n hR a0 a1 b0 b1, wS hi (by omega)]
        rfl
    · rw [if_neg hs]
      refine Ev.step (f := fun k => spec_ApplySwaps.j1 k L (i : Int) (L[i]).f0 (L[i]).f1 true V0 R0 P V R P) (fun k => ?_) (ev_const (fun k => ?_))
      · simp only [spec_ApplySwaps.l0]
        rw [if_pos (by omega), if_pos (by omega), rdSwap hi, hw, l1In_eq, l1In_eq]
        simp only [Option.bind_some]
        cases ha : (decide (0 ≤ (L[i]).f0) && decide ((L[i]).f0 ≤ (n : Int) - 1)) with
        | false => rw [if_neg (by simp)]
        | true =>
          rw [if_pos rfl]
          cases hb : (decide (0 ≤ (L[i]).f1) && decide ((L[i]).f1 ≤ (n : Int) - 1)) with
          | false => rfl
          | true =>
            simp only [Bool.and_eq_true, decide_eq_true_eq] at ha hb
            exact absurd (by unfold swin; simp only [Bool.and_eq_true, decide_eq_true_eq]; omega) hs
      · simp only [spec_ApplySwaps.j1]
        rw [if_pos trivial, copyS h0 h1 h2]
        rfl
theorem specApp_ev (V R : List Int) (P : List S50) (L : List S105) (hL : L.length ≤ 4611686018427387904) (h0 : V.length ≤ 1048576) (h1 : R.length ≤ 1048576) (h2 : P.length ≤ 1048576) :
    Ev (fun k => spec_ApplySwaps.f k V R P L) (appR V R P L) := by
  unfold spec_ApplySwaps.f appR
  refine ev_pure (copyS h0 h1 h2) ?_
  by_cases h : R.length = V.length
  · rw [if_pos h]
    exact ev_ifp (by show (R.length : Int) = (V.length : Int); omega) (specApp_l0 L V R P hL h0 h1 h2 V.length h0 L.length 0 V R (by omega) rfl h)
  · rw [if_neg h]
    exact ev_ifn (by show ¬ (R.length : Int) = (V.length : Int); omega) (ev_some _)

theorem copyI {V R : List Int} {P : List S50} (h0 : V.length ≤ 1048576) (h1 : R.length ≤ 1048576) (h2 : P.length ≤ 1048576) : impl_copyCracker.f V R P = some (V, R, P) := by
  unfold impl_copyCracker.f slices_Clone_int_int.f impl_Pivot.f
  rw [if_pos (by omega), if_pos (by omega), if_pos (by omega)]
  rfl

def itemOk (a b : Int) : Bool := (decide (-999 ≤ a) && decide (a ≤ 999)) && (decide (0 ≤ b) && decide (b ≤ 999))
theorem specIsItem_eq (a b : Int) : spec_IsItem.f a b = some (itemOk a b) := by
  unfold spec_IsItem.f itemOk
  rw [l1In_eq, l1In_eq, Option.bind_some]
  cases (decide (-999 ≤ a) && decide (a ≤ 999)) <;> simp
theorem implIsItem_eq (a b : Int) : impl_IsItem.f a b = some (itemOk a b) := by
  unfold impl_IsItem.f itemOk
  by_cases h1 : a ≥ -999
  · have h1' : -999 ≤ a := h1
    rw [if_pos h1]
    by_cases h2 : a ≤ 999
    · rw [if_pos h2]
      by_cases h3 : b ≥ 0
      · have h3' : 0 ≤ b := h3
        rw [if_pos h3]; simp [h1', h2, h3']
      · have h3' : ¬ 0 ≤ b := h3
        rw [if_neg h3]; simp [h3']
    · rw [if_neg h2]; simp [h2]
  · have h1' : ¬ -999 ≤ a := h1
    rw [if_neg h1]; simp [h1']

theorem agree_at (V W : List Int) (h : Nat) (a : Int) (hV : V.set h 0 = W.set h 0) : (V.set h (rd V a)).set a.toNat 0 = (W.set h (rd W a)).set a.toNat 0 := by
  by_cases e : a.toNat = h
  · subst e; rw [List.set_set, List.set_set]; exact hV
  · have k1 : rd V a = rd W a := by
      have := congrArg (fun l : List Int => l.getD a.toNat 0) hV
      simpa [rd, List.getD_eq_getElem?_getD, List.getElem?_set_ne (Ne.symm e)] using this
    have k2 : V.set h (rd W a) = W.set h (rd W a) := by
      have := congrArg (fun l : List Int => l.set h (rd W a)) hV
      simpa [List.set_set] using this
    rw [k1, k2]
theorem agree_end (V W : List Int) (h : Nat) (x : Int) (hV : V.set h 0 = W.set h 0) : V.set h x = W.set h x := by
  have := congrArg (fun l : List Int => l.set h x) hV
  simpa [List.set_set] using this
theorem rins_same (v q : Int) (n : Nat) (hn : n ≤ 4611686018427387904) (m : Nat) (hm : m ≤ 4611686018427387904) : ∀ (i : Nat) (hole moved : Int) (V R W X : List Int) (P : List S50), i ≤ m → P.length = m → V.length = n + 1 → R.length = n + 1 → W.length = n + 1 → X.length = n + 1 → 0 ≤ hole → hole < ((n + 1 : Nat) : Int) →
    V.set hole.toNat 0 = W.set hole.toNat 0 → R.set hole.toNat 0 = X.set hole.toNat 0 →
    (∀ j : Nat, j < i → 0 ≤ (rd_T50 P (j : Int)).f1 ∧ (rd_T50 P (j : Int)).f1 ≤ (n : Int)) →
    ∃ r, Ev (fun k => spec_RippleInsert.l0 k hole moved ((i : Int) - 1) v q V R P) r ∧ Ev (fun k => impl_RippleInsert.l0 k hole moved ((i : Int) - 1) v q W X P) r ∧ r.1.length = n + 1 ∧ r.2.1.length = n + 1 ∧ r.2.2.1.length = m := by
  intro i
  induction i with
  | zero =>
    intro hole moved V R W X P hi hP hV hR hW hX h0 h1 hVW hRX _
    refine ⟨(V.set hole.toNat v, R.set hole.toNat q, P, moved, true), ev_const (fun k => ?_), ev_const (fun k => ?_), by simp [hV], by simp [hR], hP⟩
    · simp only [spec_RippleInsert.l0, hV, hR]
      rw [if_neg (by omega), if_pos h0, if_pos h1, if_pos h1]
    · simp only [impl_RippleInsert.l0, hW, hX]
      rw [if_neg (by omega), if_pos h0, if_pos h1, if_pos h1, agree_end V W _ v hVW, agree_end R X _ q hRX]
  | succ i ih =>
    intro hole moved V R W X P hi hP hV hR hW hX h0 h1 hVW hRX hat
    have e0 : (((i + 1 : Nat) : Int) - 1) = (i : Int) := by omega
    rw [e0]
    by_cases c : (rd_T50 P (i : Int)).f0 > v
    · obtain ⟨g1, g2⟩ := hat i (by omega)
      have g3 : (rd_T50 P (i : Int)).f1 < ((n + 1 : Nat) : Int) := by omega
      have e2 : wrap64 ((i : Int) - 1) = (i : Int) - 1 := w64 (by omega) (by omega)
      obtain ⟨r, a, b, l⟩ := ih ((rd_T50 P (i : Int)).f1) (wrap64 (moved + (if hole = (rd_T50 P (i : Int)).f1 then 0 else 1))) (V.set hole.toNat (rd V ((rd_T50 P (i : Int)).f1))) (R.set hole.toNat (rd R ((rd_T50 P (i : Int)).f1))) (W.set hole.toNat (rd W ((rd_T50 P (i : Int)).f1))) (X.set hole.toNat (rd X ((rd_T50 P (i : Int)).f1))) (P.set (i : Int).toNat ⟨(rd_T50 P (i : Int)).f0, wrap64 ((rd_T50 P (i : Int)).f1 + 1)⟩) (by omega) (by simp [hP]) (by simp [hV]) (by simp [hR]) (by simp [hW]) (by simp [hX]) g1 g3
        (agree_at V W _ _ hVW) (agree_at R X _ _ hRX) (fun j h => by rw [Int.toNat_natCast, rdT_set_ne _ _ _ _ (by omega)]; exact hat j (by omega))
      refine ⟨r, Ev.step (fun k => ?_) a, Ev.step (fun k => ?_) b, l⟩
      · simp only [spec_RippleInsert.l0, hV, hR, hP, e2, l10move_eq, Option.bind_some]
        rw [if_pos (by omega), if_pos (by omega), if_pos (by omega), if_pos c, if_pos g1, if_pos g3, if_pos h0, if_pos h1, if_pos g3, if_pos h1]
      · simp only [impl_RippleInsert.l0, hW, hX, hP, e2, l10put_eq, Option.bind_some]
        rw [if_pos (by omega), if_pos (by omega), if_pos (by omega), if_pos c, if_pos g1, if_pos g3, if_pos h0, if_pos h1, if_pos g3, if_pos h1]
    · refine ⟨(V.set hole.toNat v, R.set hole.toNat q, P, moved, true), ev_const (fun k => ?_), ev_const (fun k => ?_), by simp [hV], by simp [hR], hP⟩
      · simp only [spec_RippleInsert.l0, hV, hR, hP]
        rw [if_pos (by omega), if_pos (by omega), if_pos (by omega), if_neg c, if_pos h0, if_pos h1, if_pos h1]
      · simp only [impl_RippleInsert.l0, hW, hX, hP]
        rw [if_pos (by omega), if_pos (by omega), if_pos (by omega), if_neg c, if_pos h0, if_pos h1, if_pos h1, agree_end V W _ v hVW, agree_end R X _ q hRX]
theorem rippleInsert_same (V R : List Int) (P : List S50) (v q : Int) (hV : V.length ≤ 1048576) (hR : R.length ≤ 1048576) (hP : P.length ≤ 1048576) :
    ∃ r, Ev (fun k => spec_RippleInsert.f k V R P v q) r ∧ Ev (fun k => impl_RippleInsert.f k V R P v q) r ∧ r.1.length ≤ 1048577 ∧ r.2.1.length ≤ 1048577 ∧ r.2.2.1.length ≤ 1048576 := by
  have hs := specIsC_ev V R P (by omega) (by omega) (by omega)
  have hi := implIsC_ev V R P (by omega) (by omega) (by omega)
  have fs := specFindRow_ev V R P q (by omega)
  have fi := implFindRow_ev V R P q (by omega)
  have f1 : Ev (fun k => spec_RippleInsert.j0 k true V R P v q) (V, R, P, 0, false) := ev_const (fun k => by simp only [spec_RippleInsert.j0, copyS hV hR hP, Option.bind_some]; rfl)
  have f2 : Ev (fun k => impl_RippleInsert.j0 k true V R P v q V R P) (V, R, P, 0, false) := ev_const (fun k => by simp only [impl_RippleInsert.j0]; rfl)
  unfold spec_RippleInsert.f impl_RippleInsert.f
  cases hc : isC V R P with
  | false =>
    rw [hc] at hs hi
    exact ⟨(V, R, P, 0, false), Ev.bind hs (ev_ifn (by simp) f1), ev_pure (copyI hV hR hP) (Ev.bind hi (ev_ifn (by simp) f2)), by show V.length ≤ _; omega, by show R.length ≤ _; omega, by show P.length ≤ _; omega⟩
  | true =>
    rw [hc] at hs hi
    have hf := isC_facts hc
    cases ht : itemOk v q with
    | false => exact ⟨(V, R, P, 0, false), Ev.bind hs (ev_ifp rfl (ev_pure (specIsItem_eq v q) (ev_ifn (by rw [ht]; simp) f1))), ev_pure (copyI hV hR hP) (Ev.bind hi (ev_ifp rfl (ev_pure (implIsItem_eq v q) (ev_ifn (by rw [ht]; simp) f2)))), by show V.length ≤ _; omega, by show R.length ≤ _; omega, by show P.length ≤ _; omega⟩
    | true =>
      by_cases hn : rowAt R q ≥ 0
      · exact ⟨(V, R, P, 0, false), Ev.bind hs (ev_ifp rfl (ev_pure (specIsItem_eq v q) (ev_ifp ht (Ev.bind fs (ev_ifp hn f1))))), ev_pure (copyI hV hR hP) (Ev.bind hi (ev_ifp rfl (ev_pure (implIsItem_eq v q) (ev_ifp ht (Ev.bind fi (ev_ifp hn f2)))))), by show V.length ≤ _; omega, by show R.length ≤ _; omega, by show P.length ≤ _; omega⟩
      · by_cases hb : (V.length : Int) ≥ 64
        · rw [← decide_eq_true hb] at f1 f2
          exact ⟨(V, R, P, 0, false), Ev.bind hs (ev_ifp rfl (ev_pure (specIsItem_eq v q) (ev_ifp ht (Ev.bind fs (ev_ifn hn f1))))), ev_pure (copyI hV hR hP) (Ev.bind hi (ev_ifp rfl (ev_pure (implIsItem_eq v q) (ev_ifp ht (Ev.bind fi (ev_ifn hn f2)))))), by show V.length ≤ _; omega, by show R.length ≤ _; omega, by show P.length ≤ _; omega⟩
        · have hsv : (V ++ [0]).set (V.length : Int).toNat 0 = (V ++ [v]).set (V.length : Int).toNat 0 := by rw [Int.toNat_natCast]; simp
          have hsr : (R ++ [0]).set (V.length : Int).toNat 0 = (R ++ [q]).set (V.length : Int).toNat 0 := by rw [Int.toNat_natCast, ← hf.2.1]; simp
          obtain ⟨r, a, b, l0, l1, l2⟩ := rins_same v q V.length (by omega) P.length (by omega) P.length (V.length : Int) 0 (V ++ [0]) (R ++ [0]) (V ++ [v]) (R ++ [q]) P (Nat.le_refl _) rfl (by simp) (by simp [hf.2.1]) (by simp) (by simp [hf.2.1]) (by omega) (by omega) hsv hsr (fun j hj => by
            have h2 := pall_at hf.2.2.2 j hj
            unfold pok at h2
            rw [Bool.and_eq_true] at h2
            exact (ph_facts h2.1).2.1)
          have ew : wrap64 ((P.length : Int) - 1) = (P.length : Int) - 1 := w64 (by omega) (by omega)
          refine ⟨r, Ev.bind hs (ev_ifp rfl (ev_pure (specIsItem_eq v q) (ev_ifp ht (Ev.bind fs (ev_ifn hn ?_))))), ev_pure (copyI hV hR hP) (Ev.bind hi (ev_ifp rfl (ev_pure (implIsItem_eq v q) (ev_ifp ht (Ev.bind fi (ev_ifn hn ?_)))))), by omega, by omega, by omega⟩
          · rw [decide_eq_false hb]
            refine Ev.step (fun k => ?_) a
            simp only [spec_RippleInsert.j0, copyS hV hR hP, Option.bind_some]
            rw [if_neg (by simp), if_pos (by omega), if_pos (by omega), ew]
          · rw [decide_eq_false hb]
            refine Ev.step (fun k => ?_) b
            simp only [impl_RippleInsert.j0, Option.bind_some, List.length_cons, List.length_nil]
            rw [if_neg (by simp), if_pos (by omega), if_pos (by omega), ew]

theorem rins_inv (v q : Int) (n : Nat) (hn : n ≤ 4611686018427387904) (L : List (Int × Int)) (P0 : List S50) (hP0 : P0.length ≤ 1048576) (hb : ∀ j : Nat, j < P0.length → 0 ≤ (rd_T50 P0 (j : Int)).f1 ∧ (rd_T50 P0 (j : Int)).f1 ≤ (n : Int))
    (hm : ∀ i j : Nat, i < j → j < P0.length → (rd_T50 P0 (i : Int)).f0 < (rd_T50 P0 (j : Int)).f0 ∧ (rd_T50 P0 (i : Int)).f1 ≤ (rd_T50 P0 (j : Int)).f1) : ∀ (i : Nat) (hole moved : Int) (V R : List Int) (P : List S50), i ≤ P0.length → InsI v n L P0 i hole V R P → 0 ≤ moved → moved + (i : Int) ≤ (P0.length : Int) →
    ∃ (i' : Nat) (hole' mv : Int) (V' R' : List Int) (P' : List S50), Ev (fun k => spec_RippleInsert.l0 k hole moved ((i : Int) - 1) v q V R P) (V'.set hole'.toNat v, R'.set hole'.toNat q, P', mv, true) ∧ InsI v n L P0 i' hole' V' R' P' ∧ (∀ j : Nat, j < i' → j < P0.length → (rd_T50 P0 (j : Int)).f0 ≤ v) ∧ 0 ≤ mv ∧ mv ≤ (P0.length : Int) := by
  intro i
  induction i with
  | zero =>
    intro hole moved V R P hi h m0 m1
    obtain ⟨g1, g2⟩ := h.h
    have hvl := h.vl
    have hrl := h.rl
    refine ⟨0, hole, moved, V, R, P, ev_const (fun k => ?_), h, fun j hj => by omega, m0, by omega⟩
    simp only [spec_RippleInsert.l0, hvl, hrl]
    rw [if_neg (by omega), if_pos g1, if_pos (by omega), if_pos (by omega)]
  | succ i ih =>
    intro hole moved V R P hi h m0 m1
    obtain ⟨g1, g2⟩ := h.h
    have hvl := h.vl
    have hrl := h.rl
    have hpl := h.pl
    have e0 : (((i + 1 : Nat) : Int) - 1) = (i : Int) := by omega
    rw [e0]
    have hl := h.lo i (by omega) (by omega)
    have hbi := hb i (by omega)
    by_cases c : (rd_T50 P (i : Int)).f0 > v
    · have e2 : wrap64 ((i : Int) - 1) = (i : Int) - 1 := w64 (by omega) (by omega)
      have e3 : wrap64 ((rd_T50 P (i : Int)).f1 + 1) = (rd_T50 P (i : Int)).f1 + 1 := w64 (by omega) (by omega)
      have e4 : wrap64 (moved + (if hole = (rd_T50 P (i : Int)).f1 then 0 else 1)) = moved + (if hole = (rd_T50 P (i : Int)).f1 then 0 else 1) := by split <;> exact w64 (by omega) (by omega)
      obtain ⟨i', hole', mv, V', R', P', a, b⟩ := ih ((rd_T50 P (i : Int)).f1) (moved + (if hole = (rd_T50 P (i : Int)).f1 then 0 else 1)) _ _ _ (by omega) (h.step (by omega) hb hm _ _ rfl rfl c) (by split <;> omega) (by split <;> omega)
      refine ⟨i', hole', mv, V', R', P', Ev.step (fun k => ?_) a, b⟩
      simp only [spec_RippleInsert.l0, hvl, hrl, hpl, e2, l10move_eq, Option.bind_some]
      rw [if_pos (by omega), if_pos (by omega), if_pos (by omega), if_pos c, if_pos (by omega), if_pos (by omega), if_pos g1, if_pos (by omega), if_pos (by omega), if_pos (by omega), e3, e4, Int.toNat_natCast]
    · refine ⟨i + 1, hole, moved, V, R, P, ev_const (fun k => ?_), h, fun j hj hj2 => ?_, m0, by omega⟩
      · simp only [spec_RippleInsert.l0, hvl, hrl, hpl]
        rw [if_pos (by omega), if_pos (by omega), if_pos (by omega), if_neg c, if_pos g1, if_pos (by omega), if_pos (by omega)]
      · have := h.val i (by omega)
        by_cases e : j = i
        · subst e; omega
        · have := hm j i (by omega) (by omega)
          omega
theorem insert_law (V R : List Int) (P : List S50) (v q : Int) (hV : V.length ≤ 1048576) (hR : R.length ≤ 1048576) (hP : P.length ≤ 1048576) :
    ∃ r, Ev (fun k => spec_RippleInsert.f k V R P v q) r ∧ Ev (fun k => impl_RippleInsert.f k V R P v q) r ∧ (r = (V, R, P, 0, false) ∨ (r.2.2.2.2 = true ∧ CF V R P ∧ CF r.1 r.2.1 r.2.2.1 ∧ q ∉ R ∧ (r.1.zip r.2.1).Perm ((v, q) :: V.zip R) ∧ r.2.2.1.length = P.length ∧
      (∀ j : Nat, j < P.length → (rd_T50 r.2.2.1 (j : Int)).f0 = (rd_T50 P (j : Int)).f0 ∧ (rd_T50 r.2.2.1 (j : Int)).f1 = (rd_T50 P (j : Int)).f1 + (if v < (rd_T50 P (j : Int)).f0 then 1 else 0)) ∧ r.2.2.2.1 ≤ (P.length : Int))) := by
  have hs := specIsC_ev V R P (by omega) (by omega) (by omega)
  have fs := specFindRow_ev V R P q (by omega)
  have f1 : Ev (fun k => spec_RippleInsert.j0 k true V R P v q) (V, R, P, 0, false) := ev_const (fun k => by simp only [spec_RippleInsert.j0, copyS hV hR hP, Option.bind_some]; rfl)
  obtain ⟨r, a, b, la, lb, lc⟩ := rippleInsert_same V R P v q hV hR hP
  refine ⟨r, a, b, ?_⟩
  unfold spec_RippleInsert.f at a
  cases hc : isC V R P with
  | false =>
    rw [hc] at hs
    exact Or.inl (ev_uniq a (Ev.bind hs (ev_ifn (by simp) f1)))
  | true =>
    rw [hc] at hs
    have hf := CF.of hc
    cases ht : itemOk v q with
    | false => exact Or.inl (ev_uniq a (Ev.bind hs (ev_ifp rfl (ev_pure (specIsItem_eq v q) (ev_ifn (by rw [ht]; simp) f1)))))
    | true =>
      by_cases hn : rowAt R q ≥ 0
      · exact Or.inl (ev_uniq a (Ev.bind hs (ev_ifp rfl (ev_pure (specIsItem_eq v q) (ev_ifp ht (Ev.bind fs (ev_ifp hn f1)))))))
      · by_cases hb : (V.length : Int) ≥ 64
        · rw [← decide_eq_true hb] at f1
          exact Or.inl (ev_uniq a (Ev.bind hs (ev_ifp rfl (ev_pure (specIsItem_eq v q) (ev_ifp ht (Ev.bind fs (ev_ifn hn f1)))))))
        · have hv : (-999 ≤ v ∧ v ≤ 999) ∧ (0 ≤ q ∧ q ≤ 999) := by unfold itemOk at ht; simpa using ht
          have ew : wrap64 ((P.length : Int) - 1) = (P.length : Int) - 1 := w64 (by omega) (by omega)
          obtain ⟨i', hole', mv, V', R', P', x, y, z, m0, m1⟩ := rins_inv v q V.length (by omega) (V.zip R) P hP (fun j hj => (hf.bd j hj).2) hf.mono P.length (V.length : Int) 0 (V ++ [0]) (R ++ [0]) P (Nat.le_refl _) (InsI.start v hf) (by omega) (by omega)
          have hq : q ∉ R := (rowAt_neg R q).1 (by omega)
          have fin := y.fin hf (by omega) hv.1 hv.2 hq z
          have e := ev_uniq a (Ev.bind hs (ev_ifp rfl (ev_pure (specIsItem_eq v q) (ev_ifp ht (Ev.bind fs (ev_ifn hn (Ev.step (fun k => by
            rw [decide_eq_false hb]
            simp only [spec_RippleInsert.j0, copyS hV hR hP, Option.bind_some]
            rw [if_neg (by simp), if_pos (by have := hf.rl; omega), if_pos (by have := hf.rl; omega), ew]) x)))))))
          subst e
          exact Or.inr ⟨rfl, hf, fin.1, hq, fin.2.1, y.pl, fin.2.2, m1⟩

structure DelI (v : Int) (n : Nat) (L : List (Int × Int)) (P0 : List S50) (i : Nat) (hole : Int) (V R : List Int) (P : List S50) : Prop where
  vl : V.length = n
  rl : R.length = n
  pl : P.length = P0.length
  h : 0 ≤ hole ∧ hole < (n : Int)
  perm : ((V.zip R).eraseIdx hole.toNat).Perm L
  val : ∀ j : Nat, j < P0.length → (rd_T50 P (j : Int)).f0 = (rd_T50 P0 (j : Int)).f0
  lo : ∀ j : Nat, j < i → j < P0.length → (rd_T50 P (j : Int)).f1 = (rd_T50 P0 (j : Int)).f1 - (if v < (rd_T50 P0 (j : Int)).f0 then 1 else 0) ∧ (rd_T50 P (j : Int)).f1 ≤ hole ∧ 0 ≤ (rd_T50 P (j : Int)).f1
  up : ∀ j : Nat, i ≤ j → j < P0.length → (rd_T50 P (j : Int)).f1 = (rd_T50 P0 (j : Int)).f1 ∧ ((rd_T50 P0 (j : Int)).f0 ≤ v → (rd_T50 P0 (j : Int)).f1 ≤ hole) ∧ (v < (rd_T50 P0 (j : Int)).f0 → hole < (rd_T50 P0 (j : Int)).f1)
  side : ∀ j : Nat, j < P0.length → ∀ t : Int, 0 ≤ t → t < (n : Int) → t ≠ hole → (rd V t < (rd_T50 P0 (j : Int)).f0 ↔ t < (rd_T50 P (j : Int)).f1)
theorem DelI.start {V R : List Int} {P : List S50} (h : CF V R P) (hole : Int) (h0 : 0 ≤ hole) (h1 : hole < (V.length : Int)) : DelI (rd V hole) V.length ((V.zip R).eraseIdx hole.toNat) P 0 hole V R P where
  vl := rfl
  rl := h.rl
  pl := rfl
  h := ⟨h0, h1⟩
  perm := List.Perm.refl _
  val := fun _ _ => rfl
  lo := fun j h1 _ => by omega
  up := fun j _ hj => by
    have := h.side j hj hole h0 h1
    exact ⟨rfl, fun _ => by omega, fun _ => by omega⟩
  side := fun j hj t a b _ => h.side j hj t a b
theorem DelI.skip {v : Int} {n : Nat} {L : List (Int × Int)} {P0 : List S50} {i : Nat} {hole : Int} {V R : List Int} {P : List S50}
    (h : DelI v n L P0 i hole V R P) (hi : i < P0.length) (hb : ∀ j : Nat, j < P0.length → 0 ≤ (rd_T50 P0 (j : Int)).f1 ∧ (rd_T50 P0 (j : Int)).f1 ≤ (n : Int)) (hv : (rd_T50 P (i : Int)).f0 ≤ v) : DelI v n L P0 (i + 1) hole V R P :=
  ⟨h.vl, h.rl, h.pl, h.h, h.perm, h.val, fun j h1 h2 => by
    by_cases e : j = i
    · subst e
      have e1 := h.val j h2
      have e2 := h.up j (Nat.le_refl _) h2
      have e3 := hb j h2
      rw [if_neg (by omega)]
      omega
    · exact h.lo j (by omega) h2, fun j h1 h2 => h.up j (by omega) h2, h.side⟩
theorem DelI.step {v : Int} {n : Nat} {L : List (Int × Int)} {P0 : List S50} {i : Nat} {hole : Int} {V R : List Int} {P : List S50}
    (h : DelI v n L P0 i hole V R P) (hi : i < P0.length) (hb : ∀ j : Nat, j < P0.length → 0 ≤ (rd_T50 P0 (j : Int)).f1 ∧ (rd_T50 P0 (j : Int)).f1 ≤ (n : Int))
    (hm : ∀ i j : Nat, i < j → j < P0.length → (rd_T50 P0 (i : Int)).f0 < (rd_T50 P0 (j : Int)).f0 ∧ (rd_T50 P0 (i : Int)).f1 ≤ (rd_T50 P0 (j : Int)).f1)
    (a w : Int) (ha : a = (rd_T50 P (i : Int)).f1 - 1) (hw : w = (rd_T50 P (i : Int)).f0) (hv : v < w) :
    DelI v n L P0 (i + 1) a (V.set hole.toNat (rd V a)) (R.set hole.toNat (rd R a)) (P.set i ⟨w, a⟩) := by
  obtain ⟨l1, l2, l3⟩ := h.up i (Nat.le_refl _) hi
  have hvi := h.val i hi
  obtain ⟨b1, b2⟩ := hb i hi
  obtain ⟨g1, g2⟩ := h.h
  have hpl := h.pl
  have hvl := h.vl
  have hself := rdT_set_self P i ⟨w, a⟩ (by omega)
  have hne : ∀ j : Nat, j ≠ i → rd_T50 (P.set i ⟨w, a⟩) (j : Int) = rd_T50 P (j : Int) := fun j hj => rdT_set_ne P i j _ (Ne.symm hj)
  rw [l1] at ha
  rw [hvi] at hw
  have l4 := l3 (by omega)
  refine ⟨by simp [h.vl], by simp [h.rl], by simp [h.pl], by omega, (prs_move V R n h.vl h.rl hole a g1 (by omega) (by omega) (by omega)).trans h.perm, ?_, ?_, ?_, ?_⟩
  · intro j hj
    by_cases e : j = i
    · subst e; rw [hself]; exact hw
    · rw [hne j e]; exact h.val j hj
  · intro j h1 h2
    by_cases e : j = i
    · subst e; rw [hself, if_pos (by omega)]; exact ⟨by show a = _; omega, Int.le_refl _, by show 0 ≤ a; omega⟩
    · rw [hne j e]
      obtain ⟨u1, u2, u3⟩ := h.lo j (by omega) h2
      exact ⟨u1, by omega, u3⟩
  · intro j h1 h2
    rw [hne j (by omega)]
    have := hm i j (by omega) h2
    exact ⟨(h.up j (by omega) h2).1, fun _ => by omega, fun _ => by omega⟩
  · intro j hj t h0 h1 h2
    rw [rd_set V hole t _ g1 (by omega) h0]
    by_cases c : t = hole
    · rw [if_pos c]
      have hs := h.side j hj a (by omega) (by omega) (by omega)
      rw [hs]
      by_cases e : j = i
      · subst e
        rw [hself, l1]
        show _ ↔ t < a
        omega
      · rw [hne j e]
        by_cases e2 : j < i
        · have := h.lo j (by omega) hj
          omega
        · have := h.up j (by omega) hj
          have := hm i j (by omega) hj
          omega
    · rw [if_neg c]
      have hs := h.side j hj t h0 h1 c
      rw [hs]
      by_cases e : j = i
      · subst e
        rw [hself, l1]
        show _ ↔ t < a
        omega
      · rw [hne j e]
theorem take_zip (V R : List Int) : ∀ (m : Nat), (V.take m).zip (R.take m) = (V.zip R).take m := by
  induction V generalizing R with
  | nil => intro m; simp
  | cons x V ih => intro m; cases R with
    | nil => simp
    | cons y R => cases m with
      | zero => rfl
      | succ m => simp [ih R m]
theorem erase_last {α : Type} (l : List α) (n : Nat) (h : l.length = n + 1) : l.eraseIdx n = l.take n := by
  rw [List.eraseIdx_eq_take_drop_succ, List.drop_eq_nil_of_le (by omega), List.append_nil]
theorem DelI.fin {v : Int} {V0 R0 : List Int} {P0 : List S50} {h0 : Int} {hole : Int} {V R : List Int} {P : List S50}
    (h : DelI v V0.length ((V0.zip R0).eraseIdx h0.toNat) P0 P0.length hole V R P) (hc : CF V0 R0 P0) (hh : 0 ≤ h0 ∧ h0 < (V0.length : Int)) (hv : rd V0 h0 = v) :
    CF ((V.set hole.toNat (rd V ((V0.length : Int) - 1))).take ((V0.length : Int) - 1).toNat) ((R.set hole.toNat (rd R ((V0.length : Int) - 1))).take ((V0.length : Int) - 1).toNat) P ∧
    (((V.set hole.toNat (rd V ((V0.length : Int) - 1))).take ((V0.length : Int) - 1).toNat).zip ((R.set hole.toNat (rd R ((V0.length : Int) - 1))).take ((V0.length : Int) - 1).toNat)).Perm ((V0.zip R0).eraseIdx h0.toNat) ∧
    (∀ j : Nat, j < P0.length → (rd_T50 P (j : Int)).f0 = (rd_T50 P0 (j : Int)).f0 ∧ (rd_T50 P (j : Int)).f1 = (rd_T50 P0 (j : Int)).f1 - (if v < (rd_T50 P0 (j : Int)).f0 then 1 else 0)) := by
  obtain ⟨g1, g2⟩ := h.h
  have hvl := h.vl
  have hrl := h.rl
  have hpl := h.pl
  obtain ⟨m, hm⟩ : ∃ m, V0.length = m + 1 := ⟨V0.length - 1, by omega⟩
  have em : ((V0.length : Int) - 1) = (m : Int) := by omega
  rw [em]
  have hp0 := (prs_move V R V0.length h.vl h.rl hole (m : Int) g1 (by omega) (by omega) (by omega)).trans h.perm
  rw [Int.toNat_natCast] at hp0
  rw [erase_last _ m (by rw [List.length_zip, List.length_set, List.length_set]; omega), ← take_zip] at hp0
  have hf : ∀ j : Nat, j < P0.length → (rd_T50 P (j : Int)).f0 = (rd_T50 P0 (j : Int)).f0 ∧ (rd_T50 P (j : Int)).f1 = (rd_T50 P0 (j : Int)).f1 - (if v < (rd_T50 P0 (j : Int)).f0 then 1 else 0) := fun j hj => ⟨h.val j hj, (h.lo j hj hj).1⟩
  have hsub : ∀ x ∈ (V0.zip R0).eraseIdx h0.toNat, x ∈ V0.zip R0 := fun x hx => (List.eraseIdx_sublist _ _).subset hx
  rw [Int.toNat_natCast]
  have hlt : ((V.set hole.toNat (rd V (m : Int))).take m).length = m := by rw [List.length_take, List.length_set]; omega
  refine ⟨CF.mk' _ hp0 (by simp [h.vl, h.rl]) (by have := hc.vl; omega) (fun x hx => hc.rng x (hsub x hx)) (List.Nodup.sublist ((List.eraseIdx_sublist _ _).map _) hc.nd) ?_ ?_ ?_, hp0, hf⟩
  · intro j hj
    obtain ⟨f1, f2⟩ := hf j (by omega)
    obtain ⟨b1, b2⟩ := hc.bd j (by omega)
    have := h.lo j (by omega) (by omega)
    rw [hlt, f1]
    refine ⟨b1, ?_⟩
    omega
  · intro i' j hij hj
    obtain ⟨f1, f2⟩ := hf j (by omega)
    obtain ⟨f3, f4⟩ := hf i' (by omega)
    have m1 := hc.mono i' j hij (by omega)
    have k1 := h.lo i' (by omega) (by omega)
    have k2 := h.lo j (by omega) (by omega)
    rw [f1, f3]
    refine ⟨m1.1, ?_⟩
    rw [f2, f4]
    by_cases c1 : v < (rd_T50 P0 (i' : Int)).f0
    · rw [if_pos c1, if_pos (by omega)]; omega
    · rw [if_neg c1]
      by_cases c2 : v < (rd_T50 P0 (j : Int)).f0
      · rw [if_pos c2]
        have s1 := hc.side i' (by omega) h0 hh.1 hh.2
        have s2 := hc.side j (by omega) h0 hh.1 hh.2
        omega
      · rw [if_neg c2]; omega
  · intro j hj t t0 t1
    rw [hlt] at t1
    have e : rd ((V.set hole.toNat (rd V (m : Int))).take m) t = rd (V.set hole.toNat (rd V (m : Int))) t := by
      rw [rd_toNat t0 (by omega), rd_toNat t0 (by rw [List.length_set]; omega), List.getElem_take]
    rw [e, rd_set V hole t _ g1 (by omega) t0, h.val j (by omega)]
    have k := h.lo j (by omega) (by omega)
    by_cases c : t = hole
    · rw [if_pos c]
      have := h.side j (by omega) (m : Int) (by omega) (by omega) (by omega)
      omega
    · rw [if_neg c]
      exact h.side j (by omega) t t0 (by omega) c

theorem rdel_same (val : Int) (n : Nat) (hn : n ≤ 4611686018427387904) (m : Nat) (hm : m ≤ 4611686018427387904) : ∀ (d i : Nat) (hole moved : Int) (V R : List Int) (P : List S50), m - i = d → i ≤ m → P.length = m → V.length = n → R.length = n → 0 ≤ hole → hole < (n : Int) →
    (∀ j : Nat, i ≤ j → j < m → ¬ (rd_T50 P (j : Int)).f0 ≤ val → 1 ≤ (rd_T50 P (j : Int)).f1 ∧ (rd_T50 P (j : Int)).f1 ≤ (n : Int)) →
    ∃ r, Ev (fun k => spec_RippleDelete.l0 k hole val moved (i : Int) V R P) r ∧ Ev (fun k => impl_RippleDelete.l0 k hole val moved (m : Int) (i : Int) V R P) r ∧ r.1.length ≤ n ∧ r.2.1.length ≤ n ∧ r.2.2.1.length = m := by
  intro d
  induction d with
  | zero =>
    intro i hole moved V R P hd hi hP hV hR h0 h1 _
    have e1 : wrap64 ((n : Int) - 1) = (n : Int) - 1 := w64 (by omega) (by omega)
    refine ⟨((V.set hole.toNat (rd V ((n : Int) - 1))).take ((n : Int) - 1).toNat, (R.set hole.toNat (rd R ((n : Int) - 1))).take ((n : Int) - 1).toNat, P, wrap64 (moved + (if hole = (n : Int) - 1 then 0 else 1)), true), ev_const (fun k => ?_), ev_const (fun k => ?_), ?_, ?_, hP⟩
    · simp only [spec_RippleDelete.l0, hV, hR, hP, e1, l10move_eq, Option.bind_some]
      rw [if_neg (by omega), if_pos (by omega), if_pos (by omega), if_pos h0, if_pos h1, if_pos (by omega), if_pos h1, if_pos (by omega), if_pos (by omega), if_pos (by omega)]
    · simp only [impl_RippleDelete.l0, hV, hR, e1, l10put_eq, Option.bind_some]
      rw [if_neg (by omega), if_pos (by omega), if_pos (by omega), if_pos h0, if_pos h1, if_pos (by omega), if_pos h1, if_pos (by omega), if_pos (by omega)]
    · simp; omega
    · simp; omega
  | succ d ih =>
    intro i hole moved V R P hd hi hP hV hR h0 h1 hat
    have hi' : i < m := by omega
    by_cases c : (rd_T50 P (i : Int)).f0 ≤ val
    · obtain ⟨r, a, b, l⟩ := ih (i + 1) hole moved V R P (by omega) (by omega) hP hV hR h0 h1 (fun j h => hat j (by omega))
      refine ⟨r, Ev.step (fun k => ?_) a, Ev.step (fun k => ?_) b, l⟩
      · simp only [spec_RippleDelete.l0, hP]
        rw [if_pos (by omega), if_pos (by omega), if_pos c, wS hi' (by omega)]
      · simp only [impl_RippleDelete.l0, hP]
        rw [if_pos (by omega), if_pos (by omega), if_pos (by omega), if_pos c, wS hi' (by omega)]
    · obtain ⟨g1, g2⟩ := hat i (Nat.le_refl _) hi' c
      have e2 : wrap64 ((rd_T50 P (i : Int)).f1 - 1) = (rd_T50 P (i : Int)).f1 - 1 := w64 (by omega) (by omega)
      obtain ⟨r, a, b, l⟩ := ih (i + 1) ((rd_T50 P (i : Int)).f1 - 1) (wrap64 (moved + (if hole = (rd_T50 P (i : Int)).f1 - 1 then 0 else 1))) (V.set hole.toNat (rd V ((rd_T50 P (i : Int)).f1 - 1))) (R.set hole.toNat (rd R ((rd_T50 P (i : Int)).f1 - 1))) (P.set (i : Int).toNat ⟨(rd_T50 P (i : Int)).f0, (rd_T50 P (i : Int)).f1 - 1⟩) (by omega) (by omega) (by simp [hP]) (by simp [hV]) (by simp [hR]) (by omega) (by omega)
        (fun j h hj => by rw [Int.toNat_natCast, rdT_set_ne _ _ _ _ (by omega)]; exact hat j (by omega) hj)
      refine ⟨r, Ev.step (fun k => ?_) a, Ev.step (fun k => ?_) b, l⟩
      · simp only [spec_RippleDelete.l0, hV, hR, hP, e2, l10move_eq, Option.bind_some]
        rw [if_pos (by omega), if_pos (by omega), if_neg c, if_pos (by omega), if_pos (by omega), if_pos h0, if_pos h1, if_pos (by omega), if_pos h1, wS hi' (by omega)]
      · simp only [impl_RippleDelete.l0, hV, hR, hP, e2, l10put_eq, Option.bind_some]
        rw [if_pos (by omega), if_pos (by omega), if_pos (by omega), if_neg c, if_pos (by omega), if_pos (by omega), if_pos h0, if_pos h1, if_pos (by omega), if_pos h1, wS hi' (by omega)]
theorem rippleDelete_same (V R : List Int) (P : List S50) (q : Int) (hV : V.length ≤ 1048576) (hR : R.length ≤ 1048576) (hP : P.length ≤ 1048576) :
    ∃ r, Ev (fun k => spec_RippleDelete.f k V R P q) r ∧ Ev (fun k => impl_RippleDelete.f k V R P q) r ∧ r.1.length ≤ 1048576 ∧ r.2.1.length ≤ 1048576 ∧ r.2.2.1.length ≤ 1048576 := by
  have hs := specIsC_ev V R P (by omega) (by omega) (by omega)
  have hi := implIsC_ev V R P (by omega) (by omega) (by omega)
  have fs := specFindRow_ev V R P q (by omega)
  have fi := implFindRow_ev V R P q (by omega)
  have f1 : ∀ x, Ev (fun k => spec_RippleDelete.j0 k x true V R P) (V, R, P, 0, false) := fun x => ev_const (fun k => by simp only [spec_RippleDelete.j0, copyS hV hR hP, Option.bind_some]; rfl)
  have f2 : ∀ x, Ev (fun k => impl_RippleDelete.j0 k x true V R P V R P) (V, R, P, 0, false) := fun x => ev_const (fun k => by simp only [impl_RippleDelete.j0]; rfl)
  unfold spec_RippleDelete.f impl_RippleDelete.f
  cases hc : isC V R P with
  | false =>
    rw [hc] at hs hi
    exact ⟨(V, R, P, 0, false), Ev.bind fs (Ev.bind hs (ev_ifn (by simp) (f1 _))), ev_pure (copyI hV hR hP) (Ev.bind fi (Ev.bind hi (ev_ifn (by simp) (f2 _)))), hV, hR, hP⟩
  | true =>
    rw [hc] at hs hi
    have hf := isC_facts hc
    by_cases hn : rowAt R q < 0
    · exact ⟨(V, R, P, 0, false), Ev.bind fs (Ev.bind hs (ev_ifp rfl (by rw [decide_eq_true hn]; exact f1 _))), ev_pure (copyI hV hR hP) (Ev.bind fi (Ev.bind hi (ev_ifp rfl (by rw [decide_eq_true hn]; exact f2 _)))), hV, hR, hP⟩
    · have hlt : rowAt R q < (R.length : Int) := by
        rcases rowAt_cases R q with h | ⟨i, h, e, _⟩
        · omega
        · omega
      obtain ⟨r, a, b, l0, l1, l2⟩ := rdel_same (rd V (rowAt R q)) V.length (by omega) P.length (by omega) (P.length - 0) 0 (rowAt R q) 0 V R P (by omega) (by omega) rfl rfl hf.2.1 (by omega) (by omega) (fun j _ hj hval => by
        have h2 := pall_at hf.2.2.2 j hj
        unfold pok at h2
        rw [Bool.and_eq_true] at h2
        have h3 := (ph_facts h2.1).2.1
        refine ⟨?_, h3.2⟩
        have h4 := List.all_eq_true.1 h2.2 (rowAt R q).toNat (List.mem_range.2 (by omega))
        unfold pbi at h4
        have e : (((rowAt R q).toNat : Nat) : Int) = rowAt R q := by omega
        rw [e] at h4
        have h5 : decide (rowAt R q < (rd_T50 P (j : Int)).f1) = true := by
          rw [← eq_of_beq h4]; exact decide_eq_true (by omega)
        have := of_decide_eq_true h5
        omega)
      refine ⟨r, Ev.bind fs (Ev.bind hs (ev_ifp rfl ?_)), ev_pure (copyI hV hR hP) (Ev.bind fi (Ev.bind hi (ev_ifp rfl ?_))), by omega, by omega, by omega⟩
      · rw [decide_eq_false hn]
        refine Ev.step (fun k => ?_) a
        simp only [spec_RippleDelete.j0, copyS hV hR hP, Option.bind_some]
        rw [if_neg (by simp), if_pos (by omega), if_pos (by omega)]; rfl
      · rw [decide_eq_false hn]
        refine Ev.step (fun k => ?_) b
        simp only [impl_RippleDelete.j0]
        rw [if_neg (by simp), if_pos (by omega), if_pos (by omega)]; rfl

theorem rdel_inv (v : Int) (V0 R0 : List Int) (P0 : List S50) (hc : CF V0 R0 P0) (h0 : Int) (hP0 : P0.length ≤ 1048576) : ∀ (d i : Nat) (hole moved : Int) (V R : List Int) (P : List S50), P0.length - i = d → i ≤ P0.length → DelI v V0.length ((V0.zip R0).eraseIdx h0.toNat) P0 i hole V R P → 0 ≤ moved → moved ≤ (i : Int) →
    ∃ (hole' mv : Int) (V' R' : List Int) (P' : List S50), Ev (fun k => spec_RippleDelete.l0 k hole v moved (i : Int) V R P) ((V'.set hole'.toNat (rd V' ((V0.length : Int) - 1))).take ((V0.length : Int) - 1).toNat, (R'.set hole'.toNat (rd R' ((V0.length : Int) - 1))).take ((V0.length : Int) - 1).toNat, P', mv, true) ∧ DelI v V0.length ((V0.zip R0).eraseIdx h0.toNat) P0 P0.length hole' V' R' P' ∧ 0 ≤ mv ∧ mv ≤ (P0.length : Int) + 1 := by
  intro d
  induction d with
  | zero =>
    intro i hole moved V R P hd hi h m0 m1
    obtain ⟨g1, g2⟩ := h.h
    have hvl := h.vl
    have hrl := h.rl
    have hpl := h.pl
    have hv64 := hc.vl
    have e : i = P0.length := by omega
    subst e
    have e1 : wrap64 ((V0.length : Int) - 1) = (V0.length : Int) - 1 := w64 (by omega) (by omega)
    have e4 : wrap64 (moved + (if hole = (V0.length : Int) - 1 then 0 else 1)) = moved + (if hole = (V0.length : Int) - 1 then 0 else 1) := by split <;> exact w64 (by omega) (by omega)
    refine ⟨hole, moved + (if hole = (V0.length : Int) - 1 then 0 else 1), V, R, P, ev_const (fun k => ?_), h, by split <;> omega, by split <;> omega⟩
    simp only [spec_RippleDelete.l0, hvl, hrl, hpl, e1, l10move_eq, Option.bind_some]
    rw [if_neg (by omega), if_pos (by omega), if_pos (by omega), if_pos g1, if_pos g2, if_pos (by omega), if_pos g2, if_pos (by omega), if_pos (by omega), if_pos (by omega), e4]
  | succ d ih =>
    intro i hole moved V R P hd hi h m0 m1
    obtain ⟨g1, g2⟩ := h.h
    have hvl := h.vl
    have hrl := h.rl
    have hpl := h.pl
    have hv64 := hc.vl
    have hi' : i < P0.length := by omega
    have hb : ∀ j : Nat, j < P0.length → 0 ≤ (rd_T50 P0 (j : Int)).f1 ∧ (rd_T50 P0 (j : Int)).f1 ≤ (V0.length : Int) := fun j hj => (hc.bd j hj).2
    have hu := h.up i (Nat.le_refl _) hi'
    have hbi := hb i hi'
    have hvi := h.val i hi'
    by_cases c : (rd_T50 P (i : Int)).f0 ≤ v
    · obtain ⟨hole', mv, V', R', P', a, b⟩ := ih (i + 1) hole moved V R P (by omega) (by omega) (h.skip hi' hb c) m0 (by omega)
      refine ⟨hole', mv, V', R', P', Ev.step (fun k => ?_) a, b⟩
      simp only [spec_RippleDelete.l0, hpl]
      rw [if_pos (by omega), if_pos (by omega), if_pos c, wS hi' (by omega)]
    · have g := hu.2.2 (by omega)
      have e2 : wrap64 ((rd_T50 P (i : Int)).f1 - 1) = (rd_T50 P (i : Int)).f1 - 1 := w64 (by omega) (by omega)
      have e4 : wrap64 (moved + (if hole = (rd_T50 P (i : Int)).f1 - 1 then 0 else 1)) = moved + (if hole = (rd_T50 P (i : Int)).f1 - 1 then 0 else 1) := by split <;> exact w64 (by omega) (by omega)
      obtain ⟨hole', mv, V', R', P', a, b⟩ := ih (i + 1) ((rd_T50 P (i : Int)).f1 - 1) (moved + (if hole = (rd_T50 P (i : Int)).f1 - 1 then 0 else 1)) _ _ _ (by omega) (by omega) (h.step hi' hb hc.mono _ _ rfl rfl (by omega)) (by split <;> omega) (by split <;> omega)
      refine ⟨hole', mv, V', R', P', Ev.step (fun k => ?_) a, b⟩
      simp only [spec_RippleDelete.l0, hvl, hrl, hpl, e2, l10move_eq, Option.bind_some]
      rw [if_pos (by omega), if_pos (by omega), if_neg c, if_pos (by omega), if_pos (by omega), if_pos g1, if_pos g2, if_pos (by omega), if_pos g2, wS hi' (by omega), e4, Int.toNat_natCast]
theorem delete_law (V R : List Int) (P : List S50) (q : Int) (hV : V.length ≤ 1048576) (hR : R.length ≤ 1048576) (hP : P.length ≤ 1048576) :
    ∃ r, Ev (fun k => spec_RippleDelete.f k V R P q) r ∧ Ev (fun k => impl_RippleDelete.f k V R P q) r ∧ ((r = (V, R, P, 0, false) ∧ (isC V R P = false ∨ q ∉ R)) ∨ (r.2.2.2.2 = true ∧ CF V R P ∧ CF r.1 r.2.1 r.2.2.1 ∧ q ∉ r.2.1 ∧ (∃ v, ((v, q) :: (r.1.zip r.2.1)).Perm (V.zip R) ∧
      (∀ j : Nat, j < P.length → (rd_T50 r.2.2.1 (j : Int)).f0 = (rd_T50 P (j : Int)).f0 ∧ (rd_T50 r.2.2.1 (j : Int)).f1 = (rd_T50 P (j : Int)).f1 - (if v < (rd_T50 P (j : Int)).f0 then 1 else 0))) ∧ r.2.2.1.length = P.length ∧ r.2.2.2.1 ≤ (P.length : Int) + 1)) := by
  have hs := specIsC_ev V R P (by omega) (by omega) (by omega)
  have fs := specFindRow_ev V R P q (by omega)
  have f1 : ∀ x, Ev (fun k => spec_RippleDelete.j0 k x true V R P) (V, R, P, 0, false) := fun x => ev_const (fun k => by simp only [spec_RippleDelete.j0, copyS hV hR hP, Option.bind_some]; rfl)
  obtain ⟨r, a, b, la, lb, lc⟩ := rippleDelete_same V R P q hV hR hP
  refine ⟨r, a, b, ?_⟩
  unfold spec_RippleDelete.f at a
  cases hc : isC V R P with
  | false =>
    rw [hc] at hs
    exact Or.inl ⟨ev_uniq a (Ev.bind fs (Ev.bind hs (ev_ifn (by simp) (f1 _)))), Or.inl rfl⟩
  | true =>
    rw [hc] at hs
    have hf := CF.of hc
    by_cases hn : rowAt R q < 0
    · exact Or.inl ⟨ev_uniq a (Ev.bind fs (Ev.bind hs (ev_ifp rfl (by rw [decide_eq_true hn]; exact f1 _)))), Or.inr ((rowAt_neg R q).1 hn)⟩
    · obtain ⟨h, hlt, e1, e2⟩ : ∃ i, ∃ h : i < R.length, rowAt R q = (i : Int) ∧ R[i] = q := by
        rcases rowAt_cases R q with h | h
        · omega
        · exact h
      have hrl := hf.rl
      obtain ⟨hole', mv, V', R', P', x, y, m0, m1⟩ := rdel_inv (rd V (rowAt R q)) V R P hf (rowAt R q) hP (P.length - 0) 0 (rowAt R q) 0 V R P rfl (by omega) (DelI.start hf (rowAt R q) (by omega) (by omega)) (by omega) (by omega)
      have fin := y.fin hf ⟨by omega, by omega⟩ rfl
      have e := ev_uniq a (Ev.bind fs (Ev.bind hs (ev_ifp rfl (by
        rw [decide_eq_false hn]
        refine Ev.step (fun k => ?_) x
        simp only [spec_RippleDelete.j0, copyS hV hR hP, Option.bind_some]
        rw [if_neg (by simp), if_pos (by omega), if_pos (by omega)]; rfl))))
      have hz : (V.zip R).length = R.length := by rw [List.length_zip]; omega
      have hp := erase_perm (V.zip R) (rowAt R q).toNat (by omega)
      have hg : (V.zip R)[(rowAt R q).toNat]'(by omega) = (rd V (rowAt R q), q) := by
        have this : (rowAt R q).toNat = h := by omega
        have e3 : rd V (rowAt R q) = V[h]'(by omega) := by rw [e1]; exact rd_nat (by omega)
        simp only [this, List.getElem_zip, e2, e3]
      rw [hg] at hp
      have hp2 := (fin.2.1.cons (rd V (rowAt R q), q)).trans hp.symm
      subst e
      refine Or.inr ⟨rfl, hf, fin.1, ?_, ⟨rd V (rowAt R q), hp2, fin.2.2⟩, y.pl, m1⟩
      have hnd := ((hp2.map Prod.snd).nodup_iff).2 hf.nd
      rw [List.map_cons, List.nodup_cons, snd_zip _ _ fin.1.rl] at hnd
      exact hnd.1

def srt (l : List Int) : List Int := l.mergeSort fun x y => decide (x ≤ y)
theorem srt_len (l : List Int) : (srt l).length = l.length := List.length_mergeSort _
theorem srt_unique {x l : List Int} (hp : x.Perm l) (hs : x.Pairwise (· ≤ ·)) : x = srt l := by
  refine List.Perm.eq_of_pairwise (le := (· ≤ ·)) (fun a b _ _ h1 h2 => Int.le_antisymm h1 h2) hs ?_ (hp.trans (List.mergeSort_perm l _).symm)
  have := List.pairwise_mergeSort (le := fun x y : Int => decide (x ≤ y)) (fun a b c h1 h2 => by simp at *; omega) (fun a b => by simp; omega) l
  exact this.imp (fun h => by simpa using h)
def at_ (x : List Int) (p : Nat) : Int := rd x (p : Int)
theorem at_get {x : List Int} {p : Nat} (h : p < x.length) : at_ x p = x[p] := rd_nat h
theorem at_set {x : List Int} {i p : Nat} {v : Int} (hp : p < x.length) : at_ (x.set i v) p = if i = p then v else at_ x p := by
  rw [at_get (by simpa using hp), at_get hp, List.getElem_set]
/-- The places before i lie in order. -/
def upto (x : List Int) (i : Nat) : Prop := ∀ p q, p < q → q < i → q < x.length → at_ x p ≤ at_ x q
/-- The places before i + 1 lie in order but for place j, which is no more than what lies behind it. -/
def hole (x : List Int) (i j : Nat) : Prop := (∀ p q, p < q → q ≤ i → p ≠ j → q ≠ j → at_ x p ≤ at_ x q) ∧ ∀ q, j < q → q ≤ i → at_ x j ≤ at_ x q
theorem sortIn_l1 (l : List Int) (hl : l.length ≤ 1048576) (i : Nat) (hi : i < l.length) (hout : ∀ x : List Int, x.Perm l → upto x (i + 1) → Ev (fun k => spec_SortInts.l0 k x ((i + 1 : Nat) : Int)) (srt l)) :
    ∀ (j : Nat) (x : List Int), j ≤ i → x.Perm l → hole x i j → Ev (fun k => spec_SortInts.l1 k x (i : Int) (j : Int)) (srt l) := by
  intro j
  induction j with
  | zero =>
    intro x _ hp hh
    have hx := hp.length_eq
    refine Ev.step (fun k => ?_) (hout x hp (fun p q h1 h2 h3 => ?_))
    · simp only [spec_SortInts.l1]
      rw [if_neg (by omega), wS hi (by omega)]
    · by_cases e : p = 0
      · subst e; exact hh.2 q h1 (by omega)
      · exact hh.1 p q h1 (by omega) e (by omega)
  | succ j ih =>
    intro x hj hp hh
    have hx := hp.length_eq
    have hw : wrap64 (((j + 1 : Nat) : Int) - 1) = (j : Int) := by rw [w64 (by omega) (by omega)]; omega
    have e1 : rd x (j : Int) = at_ x j := rfl
    have e2 : rd x ((j + 1 : Nat) : Int) = at_ x (j + 1) := rfl
    by_cases c : at_ x j > at_ x (j + 1)
    · have hperm : ((x.set j (at_ x (j + 1))).set (j + 1) (at_ x j)).Perm l := by
        rw [at_get (show j + 1 < x.length by omega), at_get (show j < x.length by omega)]
        exact (List.set_set_perm (by omega) (by omega)).trans hp
      have hat : ∀ p, p < x.length → at_ ((x.set j (at_ x (j + 1))).set (j + 1) (at_ x j)) p = if j + 1 = p then at_ x j else if j = p then at_ x (j + 1) else at_ x p := by
        intro p h
        rw [at_set (by simpa using h), at_set h]
      refine Ev.step (fun k => ?_) (ih _ (by omega) hperm ⟨fun p q h1 h2 h3 h4 => ?_, fun q h1 h2 => ?_⟩)
      · simp only [spec_SortInts.l1]
        rw [hw, if_pos (by omega), if_pos (by omega), if_pos (by omega), if_pos (by omega), if_pos (by omega), e1, e2, if_pos c]
        unfold spec_l5Swap.f
        rw [if_pos (by omega), if_pos (by omega), if_pos (by omega), if_pos (by omega), Option.bind_some, Int.toNat_natCast, Int.toNat_natCast]
        rfl
      · rw [hat p (by omega), hat q (by omega)]
        by_cases eq : j + 1 = q
        · rw [if_pos eq, if_neg (by omega), if_neg (by omega)]
          exact hh.1 p j (by omega) (by omega) (by omega) (by omega)
        · rw [if_neg eq, if_neg (show ¬ j = q by omega)]
          by_cases ep : j + 1 = p
          · rw [if_pos ep]
            exact hh.1 j q (by omega) h2 (by omega) (by omega)
          · rw [if_neg ep, if_neg (by omega)]
            exact hh.1 p q h1 h2 (by omega) (by omega)
      · rw [hat j (by omega), hat q (by omega), if_neg (by omega), if_pos rfl]
        by_cases eq : j + 1 = q
        · rw [if_pos eq]; omega
        · rw [if_neg eq, if_neg (by omega)]
          exact hh.2 q (by omega) h2
    · refine Ev.step (fun k => ?_) (hout x hp (fun p q h1 h2 h3 => ?_))
      · simp only [spec_SortInts.l1]
        rw [hw, if_pos (by omega), if_pos (by omega), if_pos (by omega), if_pos (by omega), if_pos (by omega), e1, e2, if_neg c, wS hi (by omega)]
      · by_cases eq : q = j + 1
        · subst eq
          by_cases ep : p = j
          · subst ep; omega
          · have := hh.1 p j (by omega) (by omega) (by omega) (by omega)
            omega
        · by_cases ep : p = j + 1
          · subst ep; exact hh.2 q h1 (by omega)
          · exact hh.1 p q h1 (by omega) ep eq
theorem sort_l0 (l : List Int) (hl : l.length ≤ 1048576) : ∀ (d i : Nat) (x : List Int), l.length ≤ i + d → x.Perm l → upto x i → Ev (fun k => spec_SortInts.l0 k x (i : Int)) (srt l) := by
  intro d
  induction d with
  | zero =>
    intro i x hd hp hu
    have hx := hp.length_eq
    have : x = srt l := srt_unique hp (List.pairwise_iff_getElem.2 (fun a b ha hb hab => by
      have := hu a b hab (by omega) hb
      rw [at_get ha, at_get hb] at this
      exact this))
    rw [← this]
    exact ev_const (fun k => by simp only [spec_SortInts.l0]; rw [if_neg (by omega)])
  | succ d ih =>
    intro i x hd hp hu
    by_cases c : l.length ≤ i + d
    · exact ih i x c hp hu
    · have hx := hp.length_eq
      have hi : i < l.length := by omega
      refine Ev.step (fun k => ?_) (sortIn_l1 l hl i hi (fun y hy hyu => ih (i + 1) y (by omega) hy hyu) i x (Nat.le_refl _) hp ⟨fun p q h1 h2 h3 h4 => hu p q h1 (by omega) (by omega), fun q h1 h2 => by omega⟩)
      simp only [spec_SortInts.l0]
      rw [if_pos (by omega)]
theorem specSort_ev (l : List Int) (hl : l.length ≤ 1048576) : Ev (fun k => spec_SortInts.f k l) (srt l) := by
  unfold spec_SortInts.f
  refine ev_pure rfl (ev_ifp (by simp; omega) ?_)
  exact sort_l0 l hl l.length 1 l (by omega) (List.Perm.refl l) (fun p q h1 h2 _ => by omega)

def pv (x : Int × Int) : Int := wrap64 ((wrap64 (x.1 * 1000)) + x.2)
theorem zip_take_snoc (V R : List Int) (i : Nat) (h1 : i < V.length) (h2 : i < R.length) : ((V.zip R).take (i + 1)).map pv = ((V.zip R).take i).map pv ++ [pv (V[i], R[i])] := by
  have hz : i < (V.zip R).length := by rw [List.length_zip]; omega
  rw [List.take_succ_eq_append_getElem hz, List.map_append, List.getElem_zip]
  rfl
theorem pairs_ev (V R : List Int) (P : List S50) (hl : R.length = V.length) (hV : V.length ≤ 1048576) : Ev (fun k => laws_pairsOf.f k V R P) (srt ((V.zip R).map pv)) := by
  have hz : (V.zip R).length = V.length := by rw [List.length_zip, hl, Nat.min_self]
  unfold laws_pairsOf.f
  have h := down_ev V.length (fun k i => laws_pairsOf.l0 k (((V.zip R).take i).map pv) (i : Int) V R P) (srt ((V.zip R).map pv)) ?_ ?_
  · simpa using h
  · intro i hi hr
    refine Ev.step (fun k => ?_) hr
    simp only [laws_pairsOf.l0]
    rw [if_pos (by omega), if_pos (by omega), if_pos (by omega), if_pos (by simp; omega), rd_nat hi, rd_nat (by omega), wS hi (by omega), zip_take_snoc V R i hi (by omega)]
    rfl
  · refine Ev.step (fun k => ?_) (specSort_ev ((V.zip R).map pv) (by simp; omega))
    simp only [laws_pairsOf.l0]
    rw [if_neg (by omega), List.take_of_length_le (by omega)]
    cases spec_SortInts.f k ((V.zip R).map pv) <;> rfl
theorem srt_perm_eq {l m : List Int} (h : l.Perm m) : srt l = srt m := by
  refine srt_unique ((List.mergeSort_perm l _).trans h) ?_
  have := List.pairwise_mergeSort (le := fun x y : Int => decide (x ≤ y)) (fun a b c h1 h2 => by simp at *; omega) (fun a b => by simp; omega) l
  exact this.imp (fun h => by simpa using h)

theorem l4Ints_ev (l m : List Int) (hl : l.length ≤ 4611686018427387904) : Ev (fun k => spec_l4Ints.f k l m) (decide (l = m)) := by
  unfold spec_l4Ints.f
  by_cases hlm : l.length = m.length
  · refine ev_ifp (by omega) ?_
    refine loop_ev l.length (fun i => ∀ j (h : j < l.length), j < i → l[j] = m[j]'(by omega)) (fun k i => spec_l4Ints.l0 k l m (i : Int)) (decide (l = m)) (fun j _ h => absurd h (Nat.not_lt_zero _)) ?_ ?_
    · intro i hi hc ih
      have hi2 : i < m.length := by omega
      by_cases e : l[i] = m[i]
      · refine Ev.step (fun k => ?_) (ih (fun j h hj => ?_))
        · simp only [spec_l4Ints.l0]
          simp only [if_pos (show (i : Int) < (l.length : Int) by omega), if_pos (show (0 : Int) ≤ (i : Int) by omega), if_pos (show (i : Int) < (m.length : Int) by omega), rd_nat hi, rd_nat hi2, if_pos e, wS hi (by omega)]
        · by_cases hji : j = i
          · subst hji; exact e
          · exact hc j h (by omega)
      · refine ev_const (fun k => ?_)
        simp only [spec_l4Ints.l0]
        simp only [if_pos (show (i : Int) < (l.length : Int) by omega), if_pos (show (0 : Int) ≤ (i : Int) by omega), if_pos (show (i : Int) < (m.length : Int) by omega), rd_nat hi, rd_nat hi2, if_neg e]
        have : l ≠ m := fun hh => e (by subst hh; rfl)
        simp [this]
    · intro hc
      refine ev_const (fun k => ?_)
      simp only [spec_l4Ints.l0]
      rw [if_neg (by omega)]
      have : l = m := List.ext_getElem hlm (fun j h1 h2 => hc j h1 h1)
      simp [this]
  · refine ev_ifn (by omega) ?_
    have : l ≠ m := fun hh => hlm (by rw [hh])
    exact ev_eq (ev_some _) (by simp [this])

theorem same_ev (P : List S50) (hl : P.length ≤ 4611686018427387904) : Ev (fun k => spec_l4Same.f k P P) true := by
  unfold spec_l4Same.f
  refine ev_ifp rfl ?_
  refine down_ev P.length (fun k i => spec_l4Same.l0 k P P (i : Int)) true ?_ ?_
  · intro i hi hr
    refine Ev.step (fun k => ?_) hr
    simp only [spec_l4Same.l0]
    rw [if_pos (by omega), if_pos (by omega), if_pos (by omega), if_neg (by simp), wS hi (by omega)]
  · refine ev_const (fun k => ?_)
    simp only [spec_l4Same.l0]
    rw [if_neg (by omega)]
theorem eqCP_ev (V R : List Int) (P : List S50) (hV : V.length ≤ 1048577) (hR : R.length ≤ 1048577) (hP : P.length ≤ 1048577) : Ev (fun k => spec_EqualCrackers.f k V R P V R P) true := by
  unfold spec_EqualCrackers.f
  refine Ev.bind (l4Ints_ev V V (by omega)) (ev_ifp (by simp) (Ev.bind (l4Ints_ev R R (by omega)) (ev_ifp (by simp) (Ev.bind (same_ev P (by omega)) (ev_some _)))))

theorem ex_loop {β : Type} (n : Nat) (g : Nat → Nat → Option β) (hs : ∀ i, i < n → (∃ r, Ev (fun k => g k (i + 1)) r) → ∃ r, Ev (fun k => g k i) r) (he : ∃ r, Ev (fun k => g k n) r) : ∃ r, Ev (fun k => g k 0) r := by
  have key : ∀ d, d ≤ n → ∃ r, Ev (fun k => g k (n - d)) r := by
    intro d
    induction d with
    | zero => intro _; exact he
    | succ d ih =>
      intro hd
      refine hs (n - (d + 1)) (by omega) ?_
      rw [show n - (d + 1) + 1 = n - d by omega]
      exact ih (by omega)
  have := key n (Nat.le_refl n)
  rwa [Nat.sub_self] at this

theorem findT (v r : List Int) (p : List S50) (q : Int) (hl : p.length ≤ 4611686018427387904) : ∃ x, Ev (fun k => spec_FindPivot.f k v r p q) x := by
  unfold spec_FindPivot.f
  refine ex_loop p.length (fun k i => spec_FindPivot.l0 k q (i : Int) v r p) (fun i hi ⟨x, hx⟩ => ?_) ⟨(0, false), ev_const (fun k => ?_)⟩
  · by_cases c : (rd_T50 p (i : Int)).f0 = q
    · exact ⟨((rd_T50 p (i : Int)).f1, true), ev_const (fun k => by simp only [spec_FindPivot.l0]; rw [if_pos (by omega), if_pos (by omega), if_pos c])⟩
    · exact ⟨x, Ev.step (fun k => by simp only [spec_FindPivot.l0]; rw [if_pos (by omega), if_pos (by omega), if_neg c, wS hi (by omega)]) hx⟩
  · simp only [spec_FindPivot.l0]; rw [if_neg (by omega)]

theorem pieceT1 (p : List S50) (v : Int) (hl : p.length ≤ 4611686018427387904) : ∀ (i : Nat) (a b : Int), i ≤ p.length → ∃ x, Ev (fun k => spec_l4Piece.l1 k p v a b ((i : Int) - 1)) x := by
  intro i
  induction i with
  | zero => intro a b _; exact ⟨(a, b), ev_const (fun k => by simp only [spec_l4Piece.l1]; rw [if_neg (by omega)])⟩
  | succ i ih =>
    intro a b hi
    have e0 : (((i + 1 : Nat) : Int) - 1) = (i : Int) := by omega
    have e2 : wrap64 ((i : Int) - 1) = (i : Int) - 1 := w64 (by omega) (by omega)
    rw [e0]
    by_cases c : (rd_T50 p (i : Int)).f0 ≥ v
    · obtain ⟨x, hx⟩ := ih a (rd_T50 p (i : Int)).f1 (by omega)
      exact ⟨x, Ev.step (fun k => by simp only [spec_l4Piece.l1, e2]; rw [if_pos (by omega), if_pos (by omega), if_pos (by omega), if_pos c]) hx⟩
    · obtain ⟨x, hx⟩ := ih a b (by omega)
      exact ⟨x, Ev.step (fun k => by simp only [spec_l4Piece.l1, e2]; rw [if_pos (by omega), if_pos (by omega), if_pos (by omega), if_neg c]) hx⟩
theorem pieceT0 (p : List S50) (v b : Int) (hl : p.length ≤ 4611686018427387904) : ∀ (d i : Nat) (a : Int), p.length - i = d → i ≤ p.length → ∃ x, Ev (fun k => spec_l4Piece.l0 k p v a b (i : Int)) x := by
  intro d
  induction d with
  | zero =>
    intro i a hd hi
    obtain ⟨x, hx⟩ := pieceT1 p v hl p.length a b (Nat.le_refl _)
    exact ⟨x, Ev.step (fun k => by simp only [spec_l4Piece.l0]; rw [if_neg (by omega), w64 (n := (p.length : Int) - 1) (by omega) (by omega)]) hx⟩
  | succ d ih =>
    intro i a hd hi
    by_cases c : (rd_T50 p (i : Int)).f0 ≤ v
    · obtain ⟨x, hx⟩ := ih (i + 1) (rd_T50 p (i : Int)).f1 (by omega) (by omega)
      exact ⟨x, Ev.step (fun k => by simp only [spec_l4Piece.l0]; rw [if_pos (by omega), if_pos (by omega), if_pos c, wS (by omega : i < p.length) (by omega)]) hx⟩
    · obtain ⟨x, hx⟩ := ih (i + 1) a (by omega) (by omega)
      exact ⟨x, Ev.step (fun k => by simp only [spec_l4Piece.l0]; rw [if_pos (by omega), if_pos (by omega), if_neg c, wS (by omega : i < p.length) (by omega)]) hx⟩

theorem partT0 (l : List Int) (p : Int) (hl : l.length ≤ 1048576) : ∀ (d : Nat) (i j : Int) (out : List S105), 0 ≤ i → j < (l.length : Int) → j + 1 - i ≤ (d : Int) → i ≤ 1048577 → -2 ≤ j → out.length + d ≤ 4194304 → ∃ r, Ev (fun k => spec_Partition.l0 k l p out i j) r ∧ r.1.length ≤ 4194304 := by
  intro d
  induction d with
  | zero => intro i j out h0 h1 h2 h3 h4 h5; exact ⟨(out, i), ev_const (fun k => by simp only [spec_Partition.l0]; rw [if_neg (by omega)]), by show out.length ≤ _; omega⟩
  | succ d ih =>
    intro i j out h0 h1 h2 h3 h4 h5
    by_cases c : i ≤ j
    · have e1 : wrap64 (i + 1) = i + 1 := w64 (by omega) (by omega)
      have e2 : wrap64 (j - 1) = j - 1 := w64 (by omega) (by omega)
      by_cases c1 : rd l i < p
      · obtain ⟨r, hr, hb⟩ := ih (i + 1) j out (by omega) h1 (by omega) (by omega) h4 (by omega)
        exact ⟨r, Ev.step (fun k => by simp only [spec_Partition.l0, e1]; rw [if_pos c, if_pos h0, if_pos (by omega), if_pos c1]) hr, hb⟩
      · by_cases c2 : rd l j ≥ p
        · obtain ⟨r, hr, hb⟩ := ih i (j - 1) out h0 (by omega) (by omega) h3 (by omega) (by omega)
          exact ⟨r, Ev.step (fun k => by simp only [spec_Partition.l0, e2]; rw [if_pos c, if_pos h0, if_pos (by omega), if_neg c1, if_pos (by omega), if_pos h1, if_pos c2]) hr, hb⟩
        · obtain ⟨r, hr, hb⟩ := ih (i + 1) (j - 1) (out ++ [⟨i, j⟩]) (by omega) (by omega) (by omega) (by omega) (by omega) (by simp; omega)
          exact ⟨r, Ev.step (fun k => by simp only [spec_Partition.l0, e1, e2]; rw [if_pos c, if_pos h0, if_pos (by omega), if_neg c1, if_pos (by omega), if_pos h1, if_neg c2, if_pos (by omega)]) hr, hb⟩
    · exact ⟨(out, i), ev_const (fun k => by simp only [spec_Partition.l0]; rw [if_neg c]), by show out.length ≤ _; omega⟩
theorem partT (l : List Int) (a b p : Int) (hl : l.length ≤ 1048576) : ∃ r, Ev (fun k => spec_Partition.f k l a b p) r ∧ r.1.length ≤ 4194304 := by
  unfold spec_Partition.f
  have f1 : Ev (fun k => spec_Partition.j0 k l a b p [] true) ([], 0) := ev_const (fun k => by simp only [spec_Partition.j0]; rfl)
  cases h : (decide (0 ≤ a) && decide (a ≤ b)) with
  | false =>
    refine ⟨([], 0), ?_, by simp⟩
    refine ev_pure (a := ([] : List S105)) rfl (ev_pure (l1In_eq a 0 b) (ev_ifn (by rw [h]; simp) f1))
  | true =>
    rw [Bool.and_eq_true, decide_eq_true_eq, decide_eq_true_eq] at h
    by_cases c : b > (l.length : Int)
    · refine ⟨([], 0), ?_, by simp⟩
      rw [← decide_eq_true c] at f1
      exact ev_pure (a := ([] : List S105)) rfl (ev_pure (l1In_eq a 0 b) (ev_ifp (by simp [h.1, h.2]) f1))
    · obtain ⟨r, hr, hb⟩ := partT0 l p hl (l.length + 1) a (b - 1) [] h.1 (by omega) (by omega) (by omega) (by omega) (by simp; omega)
      refine ⟨r, ev_pure (a := ([] : List S105)) rfl (ev_pure (l1In_eq a 0 b) (ev_ifp (by simp [h.1, h.2]) ?_)), hb⟩
      refine Ev.step (fun k => ?_) hr
      simp only [spec_Partition.j0]
      rw [if_neg (by simp; omega), w64 (n := b - 1) (by omega) (by omega)]

theorem addT0 (V R : List Int) (P : List S50) (v t : Int) (W X : List Int) (hV : V.length ≤ 1000000) (hR : R.length ≤ 1000000) (hP : P.length ≤ 1000000) (hW : W.length = V.length) (hX : X.length = R.length) : ∀ (d i : Nat) (pl : Bool) (O : List S50), P.length - i = d → i ≤ P.length → O.length ≤ 2 * i → ∃ r, Ev (fun k => spec_AddPivot.l0 k pl (i : Int) V R P v t W X O) r ∧ r.1.length = V.length ∧ r.2.1.length = R.length ∧ r.2.2.1.length ≤ 2 * P.length + 1 := by
  have fin : ∀ O : List S50, O.length ≤ 2 * P.length + 1 → ∃ r, Ev (fun k => spec_AddPivot.j1 k V R P W X O) r ∧ r.1.length = V.length ∧ r.2.1.length = R.length ∧ r.2.2.1.length ≤ 2 * P.length + 1 := by
    intro O hO
    have h1 := specIsC_ev V R P (by omega) (by omega) (by omega)
    have h2 := specIsC_ev W X O (by omega) (by omega) (by omega)
    have hc := copyS (V := V) (R := R) (P := P) (by omega) (by omega) (by omega)
    cases c1 : isC V R P with
    | false =>
      rw [c1] at h1
      refine ⟨(V, R, P, false), ?_, rfl, rfl, by show P.length ≤ _; omega⟩
      apply Ev.step
      · intro k; simp only [spec_AddPivot.j1]; rfl
      refine Ev.bind h1 (ev_ifn (by simp) (ev_pure hc ?_))
      exact ev_some _
    | true =>
      rw [c1] at h1
      cases c2 : isC W X O with
      | false =>
        rw [c2] at h2
        refine ⟨(V, R, P, false), ?_, rfl, rfl, by show P.length ≤ _; omega⟩
        apply Ev.step
        · intro k; simp only [spec_AddPivot.j1]; rfl
        refine Ev.bind h1 (ev_ifp rfl (Ev.bind h2 (ev_ifn (by simp) (ev_pure hc ?_))))
        exact ev_some _
      | true =>
        rw [c2] at h2
        refine ⟨(W, X, O, true), ?_, hW, hX, hO⟩
        apply Ev.step
        · intro k; simp only [spec_AddPivot.j1]; rfl
        refine Ev.bind h1 (ev_ifp rfl (Ev.bind h2 (ev_ifp rfl ?_)))
        exact ev_some _
  intro d
  induction d with
  | zero =>
    intro i pl O hd hi hO
    cases pl with
    | true =>
      obtain ⟨r, hr, hb⟩ := fin O (by omega)
      exact ⟨r, Ev.step (fun k => by simp only [spec_AddPivot.l0]; rw [if_neg (by omega), if_pos trivial]) hr, hb⟩
    | false =>
      obtain ⟨r, hr, hb⟩ := fin (O ++ [⟨v, t⟩]) (by simp; omega)
      exact ⟨r, Ev.step (fun k => by simp only [spec_AddPivot.l0]; rw [if_neg (by omega), if_neg (by simp), if_pos (by omega)]) hr, hb⟩
  | succ d ih =>
    intro i pl O hd hi hO
    have hi' : i < P.length := by omega
    cases pl with
    | true =>
      obtain ⟨r, hr, hb⟩ := ih (i + 1) true (O ++ [⟨(rd_T50 P (i : Int)).f0, (rd_T50 P (i : Int)).f1⟩]) (by omega) (by omega) (by simp; omega)
      exact ⟨r, Ev.step (fun k => by simp only [spec_AddPivot.l0]; rw [if_pos (by omega), if_pos trivial, if_pos (by omega), if_pos (by omega), wS hi' (by omega)]) hr, hb⟩
    | false =>
      by_cases c : (rd_T50 P (i : Int)).f0 > v
      · obtain ⟨r, hr, hb⟩ := ih (i + 1) true (O ++ [⟨v, t⟩] ++ [⟨(rd_T50 P (i : Int)).f0, (rd_T50 P (i : Int)).f1⟩]) (by omega) (by omega) (by simp; omega)
        exact ⟨r, Ev.step (fun k => by simp only [spec_AddPivot.l0, Option.bind_some]; rw [if_pos (by omega), if_neg (by simp), if_pos (by omega), if_pos c, if_pos (by omega), if_pos (by simp; omega), wS hi' (by omega)]) hr, hb⟩
      · obtain ⟨r, hr, hb⟩ := ih (i + 1) false (O ++ [⟨(rd_T50 P (i : Int)).f0, (rd_T50 P (i : Int)).f1⟩]) (by omega) (by omega) (by simp; omega)
        exact ⟨r, Ev.step (fun k => by simp only [spec_AddPivot.l0]; rw [if_pos (by omega), if_neg (by simp), if_pos (by omega), if_neg c, if_pos (by omega), wS hi' (by omega)]) hr, hb⟩
theorem addT (V R : List Int) (P : List S50) (v t : Int) (hV : V.length ≤ 1000000) (hR : R.length ≤ 1000000) (hP : P.length ≤ 1000000) : ∃ r, Ev (fun k => spec_AddPivot.f k V R P v t) r ∧ r.1.length = V.length ∧ r.2.1.length = R.length ∧ r.2.2.1.length ≤ 2 * P.length + 1 := by
  unfold spec_AddPivot.f
  obtain ⟨r, hr, hb⟩ := addT0 V R P v t V R hV hR hP rfl rfl (P.length - 0) 0 false [] rfl (by omega) (by simp)
  exact ⟨r, ev_pure (copyS (by omega) (by omega) (by omega)) hr, hb⟩

theorem crackT (V R : List Int) (P : List S50) (v : Int) (hV : V.length ≤ 1000000) (hR : R.length ≤ 1000000) (hP : P.length ≤ 1000000) : ∃ r, Ev (fun k => spec_CrackAt.f k V R P v) r ∧ r.1.length = V.length ∧ r.2.1.length = R.length ∧ r.2.2.1.length ≤ 2 * P.length + 1 := by
  have h1 := specIsC_ev V R P (by omega) (by omega) (by omega)
  have hc := copyS (V := V) (R := R) (P := P) (by omega) (by omega) (by omega)
  have f1 : Ev (fun k => spec_CrackAt.j0 k v true V R P) (V, R, P, [], false) := ev_const (fun k => by simp only [spec_CrackAt.j0, hc, Option.bind_some]; rfl)
  unfold spec_CrackAt.f
  cases c1 : isC V R P with
  | false =>
    rw [c1] at h1
    exact ⟨(V, R, P, [], false), Ev.bind h1 (ev_ifn (by simp) f1), rfl, rfl, by show P.length ≤ _; omega⟩
  | true =>
    rw [c1] at h1
    cases c2 : (decide (-1000 ≤ v) && decide (v ≤ 1000)) with
    | false =>
      refine ⟨(V, R, P, [], false), Ev.bind h1 (ev_ifp rfl (ev_pure (l1In_eq v (-1000) 1000) ?_)), rfl, rfl, by show P.length ≤ _; omega⟩
      rw [c2]
      exact f1
    | true =>
      obtain ⟨⟨at_, fd⟩, hf⟩ := findT V R P v (by omega)
      cases fd with
      | true =>
        refine ⟨(V, R, P, [], true), Ev.bind h1 (ev_ifp rfl (ev_pure (l1In_eq v (-1000) 1000) ?_)), rfl, rfl, by show P.length ≤ _; omega⟩
        rw [c2]
        apply Ev.step
        · intro k; simp only [spec_CrackAt.j0]; rfl
        refine ev_ifn (by simp) (Ev.bind hf (ev_ifp rfl (ev_pure hc ?_)))
        exact ev_some _
      | false =>
        obtain ⟨⟨a, b⟩, hp⟩ := pieceT0 P v (V.length : Int) (by omega) (P.length - 0) 0 0 rfl (by omega)
        have hpo : Ev (fun k => spec_PieceOf.f k V R P v) (a, b) := by
          unfold spec_PieceOf.f spec_l4Piece.f
          refine Ev.bind h1 (ev_ifp rfl (ev_pure (l1In_eq v (-1000) 1000) (ev_ifp c2 (Ev.bind hp (ev_some _)))))
        obtain ⟨⟨sw, at2⟩, hq, hb⟩ := partT V a b v (by omega)
        obtain ⟨la, lb, lc⟩ := appR_len V R P sw
        have hs := specApp_ev V R P sw (by dsimp only at hb; omega) (by omega) (by omega) (by omega)
        obtain ⟨r, hr, l1, l2, l3⟩ := addT (appR V R P sw).1 (appR V R P sw).2.1 (appR V R P sw).2.2.1 v at2 (by omega) (by omega) (by rw [lc]; omega)
        refine ⟨(r.1, r.2.1, r.2.2.1, sw, true), Ev.bind h1 (ev_ifp rfl (ev_pure (l1In_eq v (-1000) 1000) ?_)), by dsimp only; omega, by dsimp only; omega, by rw [lc] at l3; exact l3⟩
        rw [c2]
        apply Ev.step
        · intro k; simp only [spec_CrackAt.j0]; rfl
        refine ev_ifn (by simp) (Ev.bind hf (ev_ifn (by simp) (Ev.bind hpo (Ev.bind hq (Ev.bind hs (Ev.bind hr ?_))))))
        exact ev_some _

theorem i64_and255 (n : Int) : Go.bits .and .i64 n 255 = n % 256 := by
  have h255 : (BitVec.ofInt 64 255).toNat = 2 ^ 8 - 1 := by decide
  have key : (BitVec.ofInt 64 n &&& BitVec.ofInt 64 255).toNat = (n % ((2 ^ 64 : Nat) : Int)).toNat % 2 ^ 8 := by
    rw [BitVec.toNat_and, BitVec.toNat_ofInt, h255, Nat.and_two_pow_sub_one_eq_mod]
  show IntKind.i64.wrap ((BitVec.ofInt 64 n &&& BitVec.ofInt 64 255).toNat : Nat) = n % 256
  rw [key, IntKind.wrap_i64]
  omega
theorem byte_ok (b : List Int) (i h : Int) (hi : 0 ≤ i ∧ i ≤ (b.length : Int)) (hb : b.length ≤ 1048576) : ∃ x i' h', spec_l1Byte.f b i h = some (x, i', h') ∧ (0 ≤ x ∧ x < 256) ∧ (0 ≤ i' ∧ i' ≤ (b.length : Int)) := by
  unfold spec_l1Byte.f
  by_cases c : i < (b.length : Int)
  · rw [if_pos c, if_pos hi.1, i64_and255]
    refine ⟨_, _, _, rfl, ⟨Int.emod_nonneg _ (by decide), Int.emod_lt_of_pos _ (by decide)⟩, ?_⟩
    rw [w64 (by omega) (by omega)]; omega
  · rw [if_neg c, i64_and255]
    exact ⟨_, _, _, rfl, ⟨Int.emod_nonneg _ (by decide), Int.emod_lt_of_pos _ (by decide)⟩, hi⟩
theorem below_ok (b : List Int) (i h n : Int) (hi : 0 ≤ i ∧ i ≤ (b.length : Int)) (hb : b.length ≤ 1048576) : ∃ x i' h', spec_l1Below.f b i h n = some (x, i', h') ∧ (0 ≤ x ∧ (0 < n → x < n) ∧ (n ≤ 0 → x = 0)) ∧ (0 ≤ i' ∧ i' ≤ (b.length : Int)) := by
  unfold spec_l1Below.f
  by_cases c0 : n ≤ 0
  · rw [if_pos c0]
    exact ⟨_, _, _, rfl, ⟨by omega, fun h => h, fun _ => rfl⟩, hi⟩
  rw [if_neg c0]
  by_cases c1 : n ≤ 256
  · rw [if_pos c1]
    obtain ⟨x, i', h', e, hx, hi'⟩ := byte_ok b i h hi hb
    rw [e, Option.bind_some, if_neg (by omega)]
    have hm0 := Int.emod_nonneg x (show n ≠ 0 by omega)
    have hm1 := Int.emod_lt_of_pos x (show 0 < n by omega)
    refine ⟨_, _, _, rfl, ?_, hi'⟩
    rw [tmod_nn hx.1]
    exact ⟨hm0, fun _ => hm1, fun h => absurd h c0⟩
  · rw [if_neg c1]
    obtain ⟨x1, i1, h1, e1, g1, k1⟩ := byte_ok b i h hi hb
    obtain ⟨x2, i2, h2, e2, g2, k2⟩ := byte_ok b i1 h1 k1 hb
    obtain ⟨x3, i3, h3, e3, g3, k3⟩ := byte_ok b i2 h2 k2 hb
    obtain ⟨x4, i4, h4, e4, g4, k4⟩ := byte_ok b i3 h3 k3 hb
    rw [e1, Option.bind_some]
    dsimp only
    rw [e2, Option.bind_some]
    dsimp only
    rw [e3, Option.bind_some]
    dsimp only
    rw [e4, Option.bind_some, if_neg (by omega)]
    refine ⟨_, _, _, rfl, ?_, k4⟩
    dsimp only
    rw [w64 (n := x1 * 16777216) (by omega) (by omega), w64 (n := x2 * 65536) (by omega) (by omega), w64 (n := x1 * 16777216 + x2 * 65536) (by omega) (by omega), w64 (n := x3 * 256) (by omega) (by omega),
      w64 (n := x1 * 16777216 + x2 * 65536 + x3 * 256) (by omega) (by omega), w64 (n := x1 * 16777216 + x2 * 65536 + x3 * 256 + x4) (by omega) (by omega), tmod_nn (by omega)]
    have hm0 := Int.emod_nonneg (x1 * 16777216 + x2 * 65536 + x3 * 256 + x4) (show n ≠ 0 by omega)
    have hm1 := Int.emod_lt_of_pos (x1 * 16777216 + x2 * 65536 + x3 * 256 + x4) (show 0 < n by omega)
    exact ⟨hm0, fun _ => hm1, fun h => absurd h c0⟩
theorem new_ok (b : List Int) (hb : b.length ≤ 1048576) : ∃ h, Ev (fun k => spec_l1New.f k b) (b, 0, h) := by
  unfold spec_l1New.f
  have key : ∀ d i : Nat, min b.length 4000 - i = d → i ≤ min b.length 4000 → ∀ x : Int, ∃ h, Ev (fun k => spec_l1New.l0 k b x (i : Int)) (b, 0, h) := by
    intro d
    induction d with
    | zero =>
      intro i hd hi x
      refine ⟨x, ev_const (fun k => ?_)⟩
      simp only [spec_l1New.l0]
      by_cases c : i < b.length
      · rw [if_pos (by omega), if_neg (by omega)]
      · rw [if_neg (by omega)]
    | succ d ih =>
      intro i hd hi x
      obtain ⟨h, hh⟩ := ih (i + 1) (by omega) (by omega) (Go.bits .and .i64 (wrap64 ((wrap64 ((wrap64 (x * 131)) + (wrap64 (rd b (i : Int))))) + 7)) 1073741823)
      refine ⟨h, Ev.step (fun k => ?_) hh⟩
      simp only [spec_l1New.l0]
      rw [if_pos (by omega), if_pos (by omega), if_pos (by omega), show wrap64 ((i : Int) + 1) = ((i + 1 : Nat) : Int) by rw [w64 (by omega) (by omega)]; omega]
  exact key (min b.length 4000) 0 (by omega) (by omega) _

theorem pickI_ok (b : List Int) (i h : Int) (l : List Int) (hi : 0 ≤ i ∧ i ≤ (b.length : Int)) (hb : b.length ≤ 1048576) (hl : 0 < l.length) (hl2 : l.length ≤ 256) : ∃ n i' h', spec_l1PickInt.f b i h l = some (rd l (n : Int), i', h') ∧ (0 ≤ n ∧ n < (l.length : Int)) ∧ (0 ≤ i' ∧ i' ≤ (b.length : Int)) := by
  unfold spec_l1PickInt.f
  obtain ⟨x, i1, h1, e1, g1, k1⟩ := below_ok b i h (l.length : Int) hi hb
  have hx := g1.2.1 (by omega)
  rw [e1, Option.bind_some]
  dsimp only
  rw [if_pos g1.1, if_pos hx]
  exact ⟨x, i1, h1, rfl, ⟨g1.1, hx⟩, k1⟩
theorem values_loop (b : List Int) (hb : b.length ≤ 1048576) (wd : Int) : ∀ (n : Nat) (x : List Int) (i h : Int), (0 ≤ i ∧ i ≤ (b.length : Int)) → x.length + n ≤ 100000 →
    ∃ l i' h', Ev (fun k => spec_l2Values.l0 k x wd (n : Int) b i h) (l, i', h') ∧ l.length = x.length + n ∧ (0 ≤ i' ∧ i' ≤ (b.length : Int)) := by
  intro n
  induction n with
  | zero =>
    intro x i h hi hn
    refine ⟨x, i, h, ev_const (fun k => ?_), by omega, hi⟩
    simp only [spec_l2Values.l0]
    rw [if_neg (by omega)]
  | succ n ih =>
    intro x i h hi hn
    obtain ⟨y, i1, h1, e1, g1, k1⟩ := below_ok b i h wd hi hb
    obtain ⟨l, i2, h2, e2, hl, k2⟩ := ih (x ++ [wrap64 (y - (wrap64 (Int.tdiv wd 3)))]) i1 h1 k1 (by simp; omega)
    refine ⟨l, i2, h2, Ev.step (fun k => ?_) e2, by simp at hl; omega, k2⟩
    simp only [spec_l2Values.l0]
    rw [if_pos (by omega), e1, Option.bind_some]
    dsimp only
    rw [if_pos (by omega), w64 (n := ((n + 1 : Nat) : Int) - 1) (by omega) (by omega), show ((n + 1 : Nat) : Int) - 1 = (n : Int) by omega]
theorem values_ok (b : List Int) (hb : b.length ≤ 1048576) (i h m : Int) (hi : 0 ≤ i ∧ i ≤ (b.length : Int)) (hm : 0 ≤ m ∧ m ≤ 1000) : ∃ l i' h', Ev (fun k => spec_l2Values.f k b i h m) (l, i', h') ∧ (l.length : Int) ≤ m ∧ (0 ≤ i' ∧ i' ≤ (b.length : Int)) := by
  unfold spec_l2Values.f
  obtain ⟨n, i1, h1, e1, g1, k1⟩ := pickI_ok b i h [3, 10, 30, 1000] hi hb (by decide) (by decide)
  obtain ⟨y, i2, h2, e2, g2, k2⟩ := below_ok b i1 h1 (m + 1) k1 hb
  have hy := g2.2.1 (by omega)
  obtain ⟨l, i3, h3, e3, hl, k3⟩ := values_loop b hb (rd [3, 10, 30, 1000] n) y.toNat [] i2 h2 k2 (by simp; omega)
  refine ⟨l, i3, h3, ev_pure e1 ?_, by simp at hl; omega, k3⟩
  dsimp only
  rw [w64 (n := m + 1) (by omega) (by omega)]
  refine ev_pure e2 ?_
  dsimp only
  rw [show ((y.toNat : Nat) : Int) = y by omega] at e3
  exact e3

def newC (l : List Int) : List Int × List Int × List S50 := if areV l = true then (l, mk 0 l.length, []) else ([], [], [])
theorem specNew_ev (l : List Int) (hl : l.length ≤ 1048576) : Ev (fun k => spec_NewCracker.f k l) (newC l) := by
  unfold spec_NewCracker.f newC
  have hs := specAreValues_ev l (by omega)
  cases h : areV l with
  | false =>
    rw [h] at hs
    exact Ev.bind hs (ev_ifn (by simp) (ev_some _))
  | true =>
    rw [h] at hs
    have hm := mk_len 0 l.length
    rw [if_pos rfl]
    refine Ev.bind hs (ev_ifp rfl (ev_pure rfl (ev_ifp (by simp; omega) ?_)))
    rw [List.nil_append]
    have hh := down_ev l.length (fun k i => spec_NewCracker.l0 k l (i : Int) l ((mk 0 l.length).take i)) (l, mk 0 l.length, ([] : List S50)) ?_ ?_
    · simpa using hh
    · intro i hi ih
      refine Ev.step (fun k => ?_) ih
      simp only [spec_NewCracker.l0]
      rw [if_pos (by omega), if_pos (by rw [List.length_take]; omega), wS hi (by omega), take_snoc _ i (by omega), mk_at, Int.zero_add]
    · refine ev_const (fun k => ?_)
      simp only [spec_NewCracker.l0]
      rw [if_neg (by omega), List.take_of_length_le (by omega)]

theorem onceD (b : List Int) (i h n : Int) (hi : 0 ≤ i ∧ i ≤ (b.length : Int)) (hb : b.length ≤ 1048576) : ∃ x i' h', spec_l1Once.f b i h n = some (x, i', h') ∧ (0 ≤ i' ∧ i' ≤ (b.length : Int)) := by
  unfold spec_l1Once.f
  obtain ⟨x, i1, h1, e1, _, k1⟩ := below_ok b i h n hi hb
  exact ⟨_, i1, h1, by rw [e1]; rfl, k1⟩
theorem valueD (b : List Int) (i h : Int) (V R : List Int) (P : List S50) (hi : 0 ≤ i ∧ i ≤ (b.length : Int)) (hb : b.length ≤ 1048576) : ∃ x i' h', Ev (fun k => spec_l4Value.f k b i h V R P) (x, i', h') ∧ (0 ≤ i' ∧ i' ≤ (b.length : Int)) := by
  have pick : ∀ i h, (0 ≤ i ∧ i ≤ (b.length : Int)) → ∃ x i' h', Ev (fun k => spec_l4Value.j0 k false b i h V R P) (x, i', h') ∧ (0 ≤ i' ∧ i' ≤ (b.length : Int)) := by
    intro i h hi
    obtain ⟨n, i1, h1, e1, _, k1⟩ := pickI_ok b i h [0, 3, -2, -1000, 1000, 50] hi hb (by decide) (by decide)
    exact ⟨_, i1, h1, ev_const (fun k => by simp only [spec_l4Value.j0, e1, Option.bind_some]; rfl), k1⟩
  unfold spec_l4Value.f
  by_cases c : (V.length : Int) > 0
  · obtain ⟨x, i1, h1, e1, k1⟩ := onceD b i h 4 hi hb
    cases x with
    | true =>
      obtain ⟨y, i2, h2, e2, k2⟩ := pick i1 h1 k1
      exact ⟨y, i2, h2, ev_ifp c (ev_pure e1 e2), k2⟩
    | false =>
      obtain ⟨n, i2, h2, e2, g2, k2⟩ := below_ok b i1 h1 (V.length : Int) k1 hb
      obtain ⟨m, i3, h3, e3, _, k3⟩ := below_ok b i2 h2 3 k2 hb
      have := g2.2.1 c
      exact ⟨_, i3, h3, ev_ifp c (ev_pure e1 (ev_const (fun k => by
        simp only [spec_l4Value.j0]
        rw [if_pos (by rfl), e2, Option.bind_some, if_pos g2.1, if_pos this, e3]
        rfl))), k3⟩
  · obtain ⟨y, i2, h2, e2, k2⟩ := pick i h hi
    exact ⟨y, i2, h2, ev_ifn c e2, k2⟩
theorem crackerD0 (b : List Int) (hb : b.length ≤ 1048576) : ∀ (n : Nat) (i h : Int) (V R : List Int) (P : List S50), (0 ≤ i ∧ i ≤ (b.length : Int)) → n ≤ 4 → V.length ≤ 1000 → R.length ≤ 1000 → (P.length + 1) * 2 ^ n ≤ 64 → ∃ V' R' P' i' h', Ev (fun k => spec_l4Cracker.l0 k (n : Int) b i h V R P) (V', R', P', i', h') ∧ V'.length = V.length ∧ R'.length = R.length ∧ P'.length ≤ 64 ∧ (0 ≤ i' ∧ i' ≤ (b.length : Int)) := by
  intro n
  induction n with
  | zero => intro i h V R P hi hn hV hR hP; exact ⟨V, R, P, i, h, ev_const (fun k => by simp only [spec_l4Cracker.l0]; rw [if_neg (by omega)]), rfl, rfl, by omega, hi⟩
  | succ n ih =>
    intro i h V R P hi hn hV hR hP
    have hP2 : P.length + 1 ≤ 64 := by
      have : 0 < 2 ^ (n + 1) := Nat.pow_pos (by decide)
      exact Nat.le_trans (Nat.le_mul_of_pos_right _ this) hP
    obtain ⟨x, i1, h1, e1, k1⟩ := valueD b i h V R P hi hb
    obtain ⟨⟨V1, R1, P1, s1, o1⟩, e2, l1, l2, l3⟩ := crackT V R P x (by omega) (by omega) (by omega)
    dsimp only at l1 l2 l3
    have hP3 : (P1.length + 1) * 2 ^ n ≤ 64 := by
      refine Nat.le_trans (Nat.mul_le_mul_right _ (show P1.length + 1 ≤ (P.length + 1) * 2 by omega)) ?_
      rw [Nat.mul_assoc, ← Nat.pow_succ']
      exact hP
    obtain ⟨V2, R2, P2, i2, h2, e3, m1, m2, m3, k2⟩ := ih i1 h1 V1 R1 P1 k1 (by omega) (by omega) (by omega) hP3
    refine ⟨V2, R2, P2, i2, h2, Ev.step (fun k => by simp only [spec_l4Cracker.l0]; rfl) (ev_ifp (by omega) (Ev.bind e1 (Ev.bind e2 ?_))), by omega, by omega, m3, k2⟩
    rw [show ((n + 1 : Nat) : Int) - 1 = (n : Int) by omega, w64 (by omega) (by omega)]
    exact e3
theorem crackerD (b : List Int) (hb : b.length ≤ 1048576) (i h : Int) (hi : 0 ≤ i ∧ i ≤ (b.length : Int)) : ∃ V R P i' h', Ev (fun k => spec_l4Cracker.f k b i h) (V, R, P, i', h') ∧ V.length ≤ 14 ∧ R.length ≤ 14 ∧ P.length ≤ 64 ∧ (0 ≤ i' ∧ i' ≤ (b.length : Int)) := by
  unfold spec_l4Cracker.f
  obtain ⟨l, i1, h1, e1, hl, k1⟩ := values_ok b hb i h 14 hi (by omega)
  obtain ⟨n, i2, h2, e2, g2, k2⟩ := below_ok b i1 h1 5 k1 hb
  have hn := g2.2.1 (by omega)
  have hnew := specNew_ev l (by omega)
  have hlen : (newC l).1.length ≤ 14 ∧ (newC l).2.1.length ≤ 14 ∧ (newC l).2.2 = [] := by
    unfold newC
    split <;> simp [mk_len] <;> omega
  have hpow : ((newC l).2.2.length + 1) * 2 ^ n.toNat ≤ 64 := by
    rw [hlen.2.2]
    have : n.toNat ≤ 4 := by omega
    have : 2 ^ n.toNat ≤ 2 ^ 4 := Nat.pow_le_pow_right (by decide) this
    simp; omega
  obtain ⟨V, R, P, i3, h3, e3, m1, m2, m3, k3⟩ := crackerD0 b hb n.toNat i2 h2 (newC l).1 (newC l).2.1 (newC l).2.2 k2 (by omega) (by omega) (by omega) hpow
  refine ⟨V, R, P, i3, h3, Ev.bind e1 (Ev.bind hnew (ev_pure e2 ?_)), by omega, by omega, m3, k3⟩
  rw [show ((n.toNat : Nat) : Int) = n by omega] at e3
  exact e3
theorem anyD (b : List Int) (hb : b.length ≤ 1048576) (i h : Int) (hi : 0 ≤ i ∧ i ≤ (b.length : Int)) : ∃ V R P i' h', Ev (fun k => spec_l4Any.f k b i h) (V, R, P, i', h') ∧ V.length ≤ 14 ∧ R.length ≤ 15 ∧ P.length ≤ 65 ∧ (0 ≤ i' ∧ i' ≤ (b.length : Int)) := by
  unfold spec_l4Any.f
  obtain ⟨V, R, P, i1, h1, e1, hV, hR, hP, k1⟩ := crackerD b hb i h hi
  obtain ⟨n, i2, h2, e2, _, k2⟩ := below_ok b i1 h1 12 k1 hb
  by_cases c0 : n = 0
  · by_cases cv : (V.length : Int) > 0
    · obtain ⟨m, i3, h3, e3, _, k3⟩ := pickI_ok b i2 h2 [0, 999, 1000, -5] k2 hb (by decide) (by decide)
      exact ⟨V.set (0 : Int).toNat (rd [0, 999, 1000, -5] m), R, P, i3, h3, Ev.bind e1 (ev_pure e2 (ev_ifp c0 (ev_ifp cv (ev_pure e3 (ev_ifp (by omega) (ev_some _)))))), by simp; omega, by omega, by omega, k3⟩
    · exact ⟨V, R, P, i2, h2, Ev.bind e1 (ev_pure e2 (ev_ifp c0 (ev_ifn cv (ev_some _)))), by omega, by omega, by omega, k2⟩
  · by_cases c1 : n = 1
    · obtain ⟨m, i3, h3, e3, _, k3⟩ := below_ok b i2 h2 9 k2 hb
      obtain ⟨m2, i4, h4, e4, _, k4⟩ := below_ok b i3 h3 9 k3 hb
      exact ⟨V, R, P ++ [⟨m, m2⟩], i4, h4, Ev.bind e1 (ev_pure e2 (ev_ifn c0 (ev_ifp c1 (ev_pure e3 (ev_pure e4 (ev_ifp (by dsimp only; omega) (ev_some _))))))), by omega, by omega, by simp; omega, k4⟩
    · by_cases c2 : n = 2
      · exact ⟨V, R ++ [0], P, i2, h2, Ev.bind e1 (ev_pure e2 (ev_ifn c0 (ev_ifn c1 (ev_ifp c2 (ev_ifp (by dsimp only; omega) (ev_some _)))))), by omega, by simp; omega, by omega, k2⟩
      · exact ⟨V, R, P, i2, h2, Ev.bind e1 (ev_pure e2 (ev_ifn c0 (ev_ifn c1 (ev_ifn c2 (ev_some _))))), by omega, by omega, by omega, k2⟩

theorem sameInts_ev (l m : List Int) (hl : l.length ≤ 4611686018427387904) : Ev (fun k => laws_sameInts.f k l m) (decide (l = m)) := by
  unfold laws_sameInts.f
  by_cases hlm : l.length = m.length
  · refine ev_ifp (by omega) ?_
    refine loop_ev l.length (fun i => ∀ j (h : j < l.length), j < i → l[j] = m[j]'(by omega)) (fun k i => laws_sameInts.l0 k l m (i : Int)) (decide (l = m)) (fun j _ h => absurd h (Nat.not_lt_zero _)) ?_ ?_
    · intro i hi hc ih
      have hi2 : i < m.length := by omega
      by_cases e : l[i] = m[i]
      · refine Ev.step (fun k => ?_) (ih (fun j h hj => ?_))
        · simp only [laws_sameInts.l0]
          simp only [if_pos (show (i : Int) < (l.length : Int) by omega), if_pos (show (0 : Int) ≤ (i : Int) by omega), if_pos (show (i : Int) < (m.length : Int) by omega), rd_nat hi, rd_nat hi2, if_pos e, wS hi (by omega)]
        · by_cases hji : j = i
          · subst hji; exact e
          · exact hc j h (by omega)
      · refine ev_const (fun k => ?_)
        simp only [laws_sameInts.l0]
        simp only [if_pos (show (i : Int) < (l.length : Int) by omega), if_pos (show (0 : Int) ≤ (i : Int) by omega), if_pos (show (i : Int) < (m.length : Int) by omega), rd_nat hi, rd_nat hi2, if_neg e]
        have : l ≠ m := fun hh => e (by subst hh; rfl)
        simp [this]
    · intro hc
      refine ev_const (fun k => ?_)
      simp only [laws_sameInts.l0]
      rw [if_neg (by omega)]
      have : l = m := List.ext_getElem hlm (fun j h1 h2 => hc j h1 h1)
      simp [this]
  · refine ev_ifn (by omega) ?_
    have : l ≠ m := fun hh => hlm (by rw [hh])
    exact ev_eq (ev_some _) (by simp [this])

theorem itemD (b : List Int) (i h : Int) (V R : List Int) (P : List S50) (hi : 0 ≤ i ∧ i ≤ (b.length : Int)) (hb : b.length ≤ 1048576) : ∃ x q i' h', Ev (fun k => spec_l10Item.f k b i h V R P) (x, q, i', h') := by
  unfold spec_l10Item.f
  obtain ⟨n, i1, h1, e1, _, k1⟩ := pickI_ok b i h [0, 3, 20, 21, 22, 23, 999] hi hb (by decide) (by decide)
  obtain ⟨x, i2, h2, e2, k2⟩ := valueD b i1 h1 V R P k1 hb
  exact ⟨_, _, _, _, ev_pure e1 (Ev.bind e2 (ev_some _))⟩
theorem drawI (b : List Int) (hb : b.length ≤ 1048576) : ∃ V R P v q, Ev (fun k => spec_DrawRippleInsert.f k b) (V, R, P, v, q) ∧ V.length ≤ 14 ∧ R.length ≤ 15 ∧ P.length ≤ 65 := by
  obtain ⟨o, eo⟩ := new_ok b hb
  obtain ⟨V, R, P, i2, o2, e2, hV, hR, hP, k2⟩ := anyD b hb 0 o ⟨by omega, by omega⟩
  obtain ⟨x, q, i3, o3, e3⟩ := itemD b i2 o2 V R P k2 hb
  refine ⟨V, R, P, x, q, ?_, hV, hR, hP⟩
  unfold spec_DrawRippleInsert.f
  exact Ev.bind eo (Ev.bind e2 (Ev.bind e3 (ev_some _)))
theorem drawD (b : List Int) (hb : b.length ≤ 1048576) : ∃ V R P q, Ev (fun k => spec_DrawRippleDelete.f k b) (V, R, P, q) ∧ V.length ≤ 14 ∧ R.length ≤ 15 ∧ P.length ≤ 65 := by
  obtain ⟨o, eo⟩ := new_ok b hb
  obtain ⟨V, R, P, i2, o2, e2, hV, hR, hP, k2⟩ := anyD b hb 0 o ⟨by omega, by omega⟩
  obtain ⟨x, i3, o3, e3, _, _⟩ := below_ok b i2 o2 12 k2 hb
  refine ⟨V, R, P, wrap64 (x - 1), ?_, hV, hR, hP⟩
  unfold spec_DrawRippleDelete.f
  exact Ev.bind eo (Ev.bind e2 (ev_pure e3 (ev_some _)))
theorem ev_map {α β : Type} {g : Nat → Option α} {a : α} {f : α → β} {r : β} (h : Ev g a) (e : f a = r) : Ev (fun k => (g k).bind fun x => some (f x)) r := Ev.bind h (ev_eq (ev_some _) e)
theorem j1_true (b : List Int) (hb : b.length ≤ 1048576) : Ev (fun k => laws_FnRipples.j1 k b) true := by
  obtain ⟨V, R, P, q, e1, hV, hR, hP⟩ := drawD b hb
  obtain ⟨r, es, ei, hr⟩ := delete_law V R P q (by omega) (by omega) (by omega)
  apply Ev.step
  · intro k; simp only [laws_FnRipples.j1]; rfl
  refine Ev.bind e1 (Ev.bind ei (Ev.bind es (ev_ifn (by simp) (ev_ifp rfl ?_))))
  rcases hr with ⟨rfl, hr⟩ | ⟨h1, hf, hg, hq, ⟨v, hp, hpv⟩, hl, hk⟩
  · refine Ev.bind (eqCP_ev V R P (by omega) (by omega) (by omega)) (ev_ifp rfl (ev_ifn (by simp) (Ev.bind (eqCP_ev V R P (by omega) (by omega) (by omega)) (ev_ifp rfl ?_))))
    have hs := specIsC_ev V R P (by omega) (by omega) (by omega)
    rcases hr with hr | hr
    · rw [hr] at hs
      exact Ev.bind hs (ev_ifn (by simp) (ev_some _))
    · cases hc : isC V R P with
      | false => rw [hc] at hs; exact Ev.bind hs (ev_ifn (by simp) (ev_some _))
      | true =>
        rw [hc] at hs
        refine Ev.bind hs (ev_ifp rfl (Ev.bind (implFindRow_ev V R P q (by omega)) (ev_eq (ev_some _) ?_)))
        rcases rowAt_cases R q with ⟨h, _⟩ | ⟨i, h, _, e⟩
        · rw [h]; rfl
        · exact absurd (e ▸ List.getElem_mem h) hr
  · obtain ⟨a, c, p, n, s⟩ := r
    simp only at h1 hg hq hp hpv hl hk
    subst h1
    have hlen := hp.length_eq
    have hrl := hf.rl
    have hgl := hg.rl
    rw [List.length_cons, List.length_zip, List.length_zip] at hlen
    refine Ev.bind (eqCP_ev a c p (by omega) (by omega) (by omega)) (ev_ifp rfl (ev_ifp rfl ?_))
    have hi := implIsC_ev a c p (by omega) (by omega) (by omega)
    rw [hg.is] at hi
    refine Ev.bind hi (ev_ifp rfl (Ev.bind (implFindRow_ev a c p q (by omega)) ?_))
    have hm : rowAt c q = -1 := by
      rcases rowAt_cases c q with ⟨h, _⟩ | ⟨i, h, _, e⟩
      · exact h
      · exact absurd (e ▸ List.getElem_mem h) hq
    refine ev_ifp hm (ev_ifp ?_ (ev_eq (ev_some _) ?_))
    · show (a.length : Int) = wrap64 ((V.length : Int) - 1)
      rw [w64 (by omega) (by omega)]; omega
    · show decide (n ≤ wrap64 ((P.length : Int) + 1)) = true
      rw [w64 (by omega) (by omega)]; exact decide_eq_true hk


end Go.Proofs.Ytlikcmonejefoab.Pure.FnRipples
namespace Go.Proofs.Ytlikcmonejefoab.Pure
open Go.RowKit Go.Proofs.Ytlikcmonejefoab.PFnRipples Go.Proofs.YtlikcmonejefoabW.PrintWords Go.Proofs.YtlikcmonejefoabW.PrintLast Go.Proofs.YtlikcmonejefoabW.PrintMore Go.Proofs.Ytlikcmonejefoab.B Go.Proofs.Ytlikcmonejefoab.Pure.FnRipples
theorem FnRipples : laws_FnRipples.Pure := by
  intro b hb1 hb2 hb3
  refine Ev.rounds (g := fun k => laws_FnRipples.f k b) ?_
  unfold laws_FnRipples.f
  by_cases hbig : (b.length : Int) > 1048576
  · refine ev_pure (a := true) (by unfold laws_big.f; rw [decide_eq_true hbig]) (ev_ifp rfl (ev_some _))
  refine ev_pure (a := false) (by unfold laws_big.f; rw [decide_eq_false hbig]) (ev_ifn (by simp) ?_)
  have hb : b.length ≤ 1048576 := by omega
  obtain ⟨V, R, P, v, q, e1, hV, hR, hP⟩ := drawI b hb
  obtain ⟨r, es, ei, hr⟩ := insert_law V R P v q (by omega) (by omega) (by omega)
  refine Ev.bind e1 (Ev.bind ei (Ev.bind es (ev_ifn (by simp) (ev_ifp rfl ?_))))
  rcases hr with rfl | ⟨h1, hf, hg, hq, hp, hl, hpv, hk⟩
  · exact Ev.bind (eqCP_ev V R P (by omega) (by omega) (by omega)) (ev_ifp rfl (ev_ifn (by simp) (j1_true b hb)))
  · obtain ⟨a, c, p, n, s⟩ := r
    simp only at h1 hg hp hpv hl hk
    subst h1
    have hlen := hp.length_eq
    have hrl := hf.rl
    have hgl := hg.rl
    rw [List.length_cons, List.length_zip, List.length_zip] at hlen
    refine Ev.bind (eqCP_ev a c p (by omega) (by omega) (by omega)) (ev_ifp rfl (ev_ifp rfl ?_))
    obtain ⟨z, zs, zi, hz⟩ := delete_law a c p q (by omega) (by omega) (by omega)
    have hqc : q ∈ c := by
      have : (v, q) ∈ a.zip c := hp.symm.subset (List.mem_cons_self)
      exact (List.of_mem_zip this).2
    have hgc := hg.is
    rcases hz with ⟨_, hz⟩ | ⟨z1, _, zg, zq, ⟨v2, zp, zpv⟩, zl, zk⟩
    · rcases hz with hz | hz
      · rw [hz] at hgc; cases hgc
      · exact absurd hqc hz
    obtain ⟨a3, c3, p3, n3, s3⟩ := z
    simp only at z1 zg zq zp zpv zl zk
    subst z1
    have hv2 : v2 = v := by
      have : (v2, q) ∈ (v, q) :: V.zip R := (zp.trans hp).subset List.mem_cons_self
      rcases List.mem_cons.1 this with h | h
      · exact (Prod.mk.inj h).1
      · exact absurd (List.of_mem_zip h).2 hq
    subst hv2
    have hperm : (a3.zip c3).Perm (V.zip R) := (List.perm_cons _).1 (zp.trans hp)
    have hlen3 := hperm.length_eq
    have hzl := zg.rl
    rw [List.length_zip, List.length_zip] at hlen3
    have hpp : p3 = P := by
      refine ext_piv p3 P (by omega) (fun j hj => ?_)
      obtain ⟨x1, x2⟩ := zpv j (by omega)
      obtain ⟨y1, y2⟩ := hpv j (by omega)
      have e0 : (rd_T50 p3 (j : Int)).f0 = (rd_T50 P (j : Int)).f0 := by rw [x1, y1]
      have e1 : (rd_T50 p3 (j : Int)).f1 = (rd_T50 P (j : Int)).f1 := by
        rw [x2, y2, y1]
        split <;> omega
      cases hA : rd_T50 p3 (j : Int) with
      | mk u1 u2 =>
        cases hB : rd_T50 P (j : Int) with
        | mk t1 t2 =>
          rw [hA, hB] at e0 e1
          simp only at e0 e1
          rw [e0, e1]
    subst hpp
    refine Ev.bind zi (ev_ifp rfl (ev_ifn ?_ (ev_ifn ?_ ?_)))
    · show ¬ n3 > wrap64 ((p.length : Int) + 1)
      rw [w64 (by omega) (by omega)]; omega
    · show ¬ n > (p3.length : Int)
      omega
    have hi := implIsC_ev a c p (by omega) (by omega) (by omega)
    rw [hg.is] at hi
    refine Ev.bind hi (ev_ifp rfl (ev_ifp ?_ ?_))
    · show (a.length : Int) = wrap64 ((V.length : Int) + 1)
      rw [w64 (by omega) (by omega)]; omega
    refine Ev.bind (pairs_ev a3 c3 p3 hzl (by omega)) (Ev.bind (pairs_ev V R p3 hrl (by omega)) ?_)
    refine Ev.bind (sameInts_ev _ _ (by rw [srt_len]; simp; omega)) (ev_ifp ?_ (ev_ifp rfl ?_))
    · rw [srt_perm_eq (hperm.map pv)]; simp
    refine down_ev p3.length (fun k i => laws_FnRipples.l0 k b (i : Int) V R p3 a3 c3 p3) true ?_ ?_
    · intro i hi' hr
      refine Ev.step (fun k => ?_) hr
      simp only [laws_FnRipples.l0]
      rw [if_pos (by omega), if_pos (by omega), if_pos (by omega), if_neg (by simp), wS hi' (by omega)]
    · refine Ev.step (fun k => ?_) (j1_true b hb)
      simp only [laws_FnRipples.l0]
      rw [if_neg (by omega)]

end Go.Proofs.Ytlikcmonejefoab.Pure
