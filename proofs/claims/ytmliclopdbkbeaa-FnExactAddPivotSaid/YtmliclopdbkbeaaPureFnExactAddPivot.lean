/- AddPivot of the program returns what the reference returns, for every column and pivot; it leaves the column as it was and shares no memory with it. No condition. -/
import Derived.Test.YtmliclopdbkbeaaPFnExactAddPivotx0
import Derived.Test.YtmliclopdbkbeaaPFnExactAddPivotx1
import Derived.Test.YtmliclopdbkbeaaPFnExactAddPivotx2
import Derived.Test.YtmliclopdbkbeaaPFnExactAddPivotx3
import Derived.Test.YtmliclopdbkbeaaPFnExactAddPivotx4
import Derived.Test.YtmliclopdbkbeaaPFnExactAddPivotx5
import Derived.Test.YtmliclopdbkbeaaPFnExactAddPivotx6
import Derived.Test.YtmliclopdbkbeaaPFnExactAddPivotx7
import Derived.Test.YtmliclopdbkbeaaPFnExactAddPivotx8
import Derived.Test.YtmliclopdbkbeaaPFnExactAddPivotx9
import Derived.Test.YtmliclopdbkbeaaPFnExactAddPivotx10
import Derived.Test.YtmliclopdbkbeaaPFnExactAddPivotx11
import Derived.Test.YtmliclopdbkbeaaPFnExactAddPivotx12
import Derived.Test.YtmliclopdbkbeaaB
set_option linter.unusedVariables false
set_option linter.unusedSimpArgs false
namespace Go.Proofs.Ytmliclopdbkbeaa.Pure.FnExactAddPivot
open Go.RowKit Go.Proofs.Ytmliclopdbkbeaa.PFnExactAddPivot Go.Proofs.YtmliclopdbkbeaaW.PrintWords Go.Proofs.YtmliclopdbkbeaaW.PrintLast Go.Proofs.YtmliclopdbkbeaaW.PrintMore Go.Proofs.Ytmliclopdbkbeaa.B

theorem szIntS_at (l : List Int) (a : Int) (ha : 0 ≤ a ∧ a ≤ 1048576) (hl : l.length ≤ maxLen) : laws_szIntS.f l a = some (if (l.length : Int) ≤ a then a - l.length else -1) := by
  unfold maxLen at hl
  unfold laws_szIntS.f
  rw [w64 (n := a - (l.length : Int)) (by omega) (by omega)]
  by_cases h : (l.length : Int) ≤ a
  · rw [if_neg (by omega), if_pos h]
  · rw [if_pos (by omega), if_neg h]

theorem szPivotS_at (l : List S27) (a : Int) (ha : 0 ≤ a ∧ a ≤ 1048576) (hl : l.length ≤ maxLen) : laws_szPivotS.f l a = some (if (l.length : Int) ≤ a then a - l.length else -1) := by
  unfold maxLen at hl
  unfold laws_szPivotS.f
  rw [w64 (n := a - (l.length : Int)) (by omega) (by omega)]
  by_cases h : (l.length : Int) ≤ a
  · rw [if_neg (by omega), if_pos h]
  · rw [if_pos (by omega), if_neg h]

theorem szCracker_at (v r : List Int) (p : List S27) (a : Int) (ha : 0 ≤ a ∧ a ≤ 1048576) (hv : v.length ≤ maxLen) (hr : r.length ≤ maxLen) (hp : p.length ≤ maxLen) :
    ∃ t, laws_szCracker.f v r p a = some t ∧ (t < 0 ∨ (0 ≤ t ∧ t ≤ a ∧ v.length ≤ 1048576 ∧ r.length ≤ 1048576 ∧ p.length ≤ 1048576)) := by
  unfold laws_szCracker.f
  rw [szIntS_at v a ha hv, Option.bind_some]
  by_cases h1 : (v.length : Int) ≤ a
  · rw [if_pos h1, if_neg (by omega), szIntS_at r _ (by omega) hr, Option.bind_some]
    by_cases h2 : (r.length : Int) ≤ a - v.length
    · rw [if_pos h2, if_neg (by omega), szPivotS_at p _ (by omega) hp, Option.bind_some]
      by_cases h3 : (p.length : Int) ≤ a - v.length - r.length
      · rw [if_pos h3, if_neg (by omega)]
        exact ⟨_, rfl, .inr ⟨by omega, by omega, by omega, by omega, by omega⟩⟩
      · rw [if_neg h3, if_pos (by omega)]
        exact ⟨_, rfl, .inl (by omega)⟩
    · rw [if_neg h2, if_pos (by omega)]
      exact ⟨_, rfl, .inl (by omega)⟩
  · rw [if_neg h1, if_pos (by omega)]
    exact ⟨_, rfl, .inl (by omega)⟩

theorem toIntS_ev (l : List Int) (hl : l.length ≤ 1048576) : Ev (fun k => laws_toIntS.f k l) l := by
  unfold laws_toIntS.f
  refine ev_ifp (by omega) (ev_ifp (by omega) ?_)
  rw [show ((l.length : Int)).toNat = l.length by omega]
  have h := down_ev l.length (fun k i => laws_toIntS.l0 k l (l.take i ++ (List.replicate l.length (0 : Int)).drop i) (i : Int)) l ?_ ?_
  · simpa using h
  · intro i hi ih
    refine Ev.step (fun k => ?_) ih
    simp only [laws_toIntS.l0]
    rw [if_pos (by omega), if_pos (by omega), if_pos (by rw [step_len _ _ (by simp) _ (by omega)]; omega), rd_nat hi, wS hi (by omega), Int.toNat_natCast, set_step _ _ (by simp) _ hi]
  · refine ev_const (fun k => ?_)
    simp only [laws_toIntS.l0]
    rw [if_neg (by omega)]
    simp

def cvPivot (x : S27) : S35 := ⟨x.f0, x.f1⟩

theorem toPivotS_ev (l : List S27) (hl : l.length ≤ 1048576) : Ev (fun k => laws_toPivotS.f k l) (l.map cvPivot) := by
  unfold laws_toPivotS.f
  refine ev_ifp (by omega) (ev_ifp (by omega) ?_)
  rw [show ((l.length : Int)).toNat = l.length by omega]
  have h := down_ev l.length (fun k i => laws_toPivotS.l0 k l ((l.map cvPivot).take i ++ (List.replicate l.length z35).drop i) (i : Int)) (l.map cvPivot) ?_ ?_
  · simpa using h
  · intro i hi ih
    refine Ev.step (fun k => ?_) ih
    simp only [laws_toPivotS.l0]
    have hr : rd_T27 l (i : Int) = l[i] := by unfold rd_T27; simp [List.getD_eq_getElem?_getD, List.getElem?_eq_getElem hi]
    rw [if_pos (by omega), if_pos (by omega), hr]
    unfold laws_toPivot.f
    simp only [Option.bind_some]
    rw [if_pos (by rw [step_len _ _ (by simp) _ (by simp; omega)]; simp; omega), wS hi (by omega), Int.toNat_natCast]
    have e := set_step (l.map cvPivot) (List.replicate l.length z35) (by simp) i (by simpa using hi)
    simp only [List.getElem_map] at e
    rw [← e]
    rfl
  · refine ev_const (fun k => ?_)
    simp only [laws_toPivotS.l0]
    rw [if_neg (by omega)]
    rw [List.take_of_length_le (by simp), List.drop_eq_nil_of_le (by simp), List.append_nil]

theorem toCracker_ev (v r : List Int) (p : List S27) (hv : v.length ≤ 1048576) (hr : r.length ≤ 1048576) (hp : p.length ≤ 1048576) : Ev (fun k => laws_toCracker.f k v r p) (v, r, p.map cvPivot) := by
  unfold laws_toCracker.f
  exact Ev.bind (toIntS_ev v hv) (Ev.bind (toIntS_ev r hr) (Ev.bind (toPivotS_ev p hp) (ev_some _)))

theorem eqIntS_ev (l m : List Int) (hl : l.length ≤ 4611686018427387904) : Ev (fun k => laws_eqIntS.f k l m) (decide (l = m)) := by
  unfold laws_eqIntS.f
  by_cases hlm : l.length = m.length
  · refine ev_ifp (by omega) ?_
    refine loop_ev l.length (fun i => ∀ j (h : j < l.length), j < i → l[j] = m[j]'(by omega)) (fun k i => laws_eqIntS.l0 k l m (i : Int)) (decide (l = m)) (fun j _ h => absurd h (Nat.not_lt_zero _)) ?_ ?_
    · intro i hi hc ih
      have hi2 : i < m.length := by omega
      by_cases e : l[i] = m[i]
      · refine Ev.step (fun k => ?_) (ih (fun j h hj => ?_))
        · simp only [laws_eqIntS.l0]
          simp only [if_pos (show (i : Int) < (l.length : Int) by omega), if_pos (show (0 : Int) ≤ (i : Int) by omega), if_pos (show (i : Int) < (m.length : Int) by omega), rd_nat hi, rd_nat hi2, if_pos e, wS hi (by omega)]
        · by_cases hji : j = i
          · subst hji; exact e
          · exact hc j h (by omega)
      · refine ev_const (fun k => ?_)
        simp only [laws_eqIntS.l0]
        simp only [if_pos (show (i : Int) < (l.length : Int) by omega), if_pos (show (0 : Int) ≤ (i : Int) by omega), if_pos (show (i : Int) < (m.length : Int) by omega), rd_nat hi, rd_nat hi2, if_neg e]
        have : l ≠ m := fun hh => e (by subst hh; rfl)
        simp [this]
    · intro hc
      refine ev_const (fun k => ?_)
      simp only [laws_eqIntS.l0]
      rw [if_neg (by omega)]
      have : l = m := List.ext_getElem hlm (fun j h1 h2 => hc j h1 h1)
      simp [this]
  · refine ev_ifn (by omega) ?_
    have : l ≠ m := fun hh => hlm (by rw [hh])
    exact ev_eq (ev_some _) (by simp [this])

theorem rdPivot {l : List S35} {i : Nat} (h : i < l.length) : rd_T35 l (i : Int) = l[i] := by
  unfold rd_T35; simp [List.getD_eq_getElem?_getD, List.getElem?_eq_getElem h]

theorem eqPivotS_ev (l : List S35) (hl : l.length ≤ 4611686018427387904) : Ev (fun k => laws_eqPivotS.f k l l) true := by
  unfold laws_eqPivotS.f
  refine ev_ifp rfl ?_
  refine down_ev l.length (fun k i => laws_eqPivotS.l0 k l l (i : Int)) true ?_ ?_
  · intro i hi ih
    refine Ev.step (fun k => ?_) ih
    simp only [laws_eqPivotS.l0]
    rw [if_pos (by omega), if_pos (by omega), if_pos (by omega), rdPivot hi]
    unfold laws_eqPivot.f
    rw [if_pos rfl, if_pos rfl, Option.bind_some, if_pos rfl, wS hi (by omega)]
  · refine ev_const (fun k => ?_)
    simp only [laws_eqPivotS.l0]
    rw [if_neg (by omega)]

theorem eqCracker_ev (v r : List Int) (p : List S35) (hv : v.length ≤ 4611686018427387904) (hr : r.length ≤ 4611686018427387904) (hp : p.length ≤ 4611686018427387904) : Ev (fun k => laws_eqCracker.f k v r p v r p) true := by
  unfold laws_eqCracker.f
  refine Ev.bind (eqIntS_ev v v hv) (ev_ifp (by simp) ?_)
  refine Ev.bind (eqIntS_ev r r hr) (ev_ifp (by simp) ?_)
  exact Ev.bind (eqPivotS_ev p hp) (ev_ifp rfl (ev_some _))

theorem markIntS_ev (l : List Int) (a : Int) (h0 : 0 ≤ a) (h1 : a + l.length ≤ 4611686018427387904) : Ev (fun k => laws_markIntS.f k l a) (a + l.length, mk a l.length) := by
  unfold laws_markIntS.f
  have hml := mk_len a l.length
  have h := down_ev l.length (fun k i => laws_markIntS.l0 k ((mk a l.length).take i ++ l.drop i) (a + (i : Int)) (i : Int)) (a + l.length, mk a l.length) ?_ ?_
  · simpa using h
  · intro i hi ih
    refine Ev.step (fun k => ?_) ih
    simp only [laws_markIntS.l0]
    rw [if_pos (by rw [step_len _ _ (by omega) _ (by omega)]; omega), if_pos (by omega), Int.toNat_natCast, wS hi (by omega), w64 (n := a + (i : Int) + 1) (by omega) (by omega)]
    have e := set_step (mk a l.length) l (by omega) i (by omega)
    rw [mk_at] at e
    rw [e, Int.natCast_add, ← Int.add_assoc]
    rfl
  · refine ev_const (fun k => ?_)
    simp only [laws_markIntS.l0]
    rw [if_neg (by rw [step_len _ _ (by omega) _ (by omega)]; omega)]
    rw [List.take_of_length_le (by omega), List.drop_eq_nil_of_le (by omega), List.append_nil]

def mkPivot (a : Int) (n : Nat) : List S35 := (List.range n).map fun j : Nat => ⟨a + 2 * (j : Int), a + 2 * (j : Int) + 1⟩
theorem mkPivot_len (a : Int) (n : Nat) : (mkPivot a n).length = n := by simp [mkPivot]
theorem mkPivot_at (a : Int) (n : Nat) (j : Nat) (h : j < (mkPivot a n).length) : (mkPivot a n)[j] = ⟨a + 2 * (j : Int), a + 2 * (j : Int) + 1⟩ := by simp [mkPivot]

theorem markPivotS_ev (l : List S35) (a : Int) (h0 : 0 ≤ a) (h1 : a + 2 * l.length ≤ 4611686018427387904) : Ev (fun k => laws_markPivotS.f k l a) (a + 2 * l.length, mkPivot a l.length) := by
  unfold laws_markPivotS.f
  have hml := mkPivot_len a l.length
  have h := down_ev l.length (fun k i => laws_markPivotS.l0 k ((mkPivot a l.length).take i ++ l.drop i) (a + 2 * (i : Int)) (i : Int)) (a + 2 * l.length, mkPivot a l.length) ?_ ?_
  · simpa using h
  · intro i hi ih
    refine Ev.step (fun k => ?_) ih
    simp only [laws_markPivotS.l0]
    have hs := step_len (mkPivot a l.length) l (by omega) i (by omega)
    generalize hx : (mkPivot a l.length).take i ++ l.drop i = x at hs
    rw [if_pos (by omega), if_pos (by omega), Option.bind_some, Int.toNat_natCast, wS hi (by omega), w64 (n := a + 2 * (i : Int) + 1) (by omega) (by omega), w64 (n := a + 2 * (i : Int) + 1 + 1) (by omega) (by omega)]
    have hg : rd_T35 (x.set i ⟨a + 2 * (i : Int), (rd_T35 x (i : Int)).f1⟩) (i : Int) = ⟨a + 2 * (i : Int), (rd_T35 x (i : Int)).f1⟩ := by
      rw [rdPivot (by rw [List.length_set]; omega), List.getElem_set_self]
    rw [hg, List.set_set, ← hx]
    have e := set_step (mkPivot a l.length) l (by omega) i (by omega)
    rw [mkPivot_at] at e
    rw [show a + 2 * (i : Int) + 1 + 1 = a + 2 * ((i + 1 : Nat) : Int) by omega]
    rw [← e]
  · refine ev_const (fun k => ?_)
    simp only [laws_markPivotS.l0]
    rw [if_neg (by rw [step_len _ _ (by omega) _ (by omega)]; omega)]
    rw [List.take_of_length_le (by omega), List.drop_eq_nil_of_le (by omega), List.append_nil]

theorem markCracker_ev (v r : List Int) (p : List S35) (a : Int) (h0 : 0 ≤ a) (h1 : a + v.length + r.length + 2 * p.length ≤ 4611686018427387904) :
    Ev (fun k => laws_markCracker.f k v r p a) (a + v.length + r.length + 2 * p.length, mk a v.length, mk (a + v.length) r.length, mkPivot (a + v.length + r.length) p.length) := by
  unfold laws_markCracker.f
  refine Ev.bind (markIntS_ev v a h0 (by omega)) ?_
  refine Ev.bind (markIntS_ev r _ (by show 0 ≤ a + (v.length : Int); omega) (by show a + (v.length : Int) + r.length ≤ _; omega)) ?_
  refine Ev.bind (markPivotS_ev p _ (by show 0 ≤ a + (v.length : Int) + r.length; omega) (by show a + (v.length : Int) + r.length + 2 * p.length ≤ _; omega)) ?_
  exact ev_some _

theorem heldIntS_ev (n : Nat) (a : Int) (h0 : 0 ≤ a) (h1 : a + n ≤ 4611686018427387904) : Ev (fun k => laws_heldIntS.f k (mk a n) a) (a + n) := by
  unfold laws_heldIntS.f
  have hml := mk_len a n
  have h := down_ev n (fun k i => laws_heldIntS.l0 k (mk a n) (a + (i : Int)) (i : Int)) (a + n) ?_ ?_
  · simpa using h
  · intro i hi ih
    refine Ev.step (fun k => ?_) ih
    simp only [laws_heldIntS.l0]
    rw [if_pos (by omega), if_pos (by omega), rd_nat (by omega), mk_at, if_pos rfl, wS hi (by omega), w64 (n := a + (i : Int) + 1) (by omega) (by omega), Int.natCast_add, ← Int.add_assoc]
    rfl
  · refine ev_const (fun k => ?_)
    simp only [laws_heldIntS.l0]
    rw [if_neg (by omega)]

theorem heldPivotS_ev (n : Nat) (a : Int) (h0 : 0 ≤ a) (h1 : a + 2 * n ≤ 4611686018427387904) : Ev (fun k => laws_heldPivotS.f k (mkPivot a n) a) (a + 2 * n) := by
  unfold laws_heldPivotS.f
  have hml := mkPivot_len a n
  have h := down_ev n (fun k i => laws_heldPivotS.l0 k (mkPivot a n) (a + 2 * (i : Int)) (i : Int)) (a + 2 * n) ?_ ?_
  · simpa using h
  · intro i hi ih
    refine Ev.step (fun k => ?_) ih
    simp only [laws_heldPivotS.l0]
    rw [if_pos (by omega), if_pos (by omega), rdPivot (by omega), mkPivot_at, if_pos rfl, w64 (n := a + 2 * (i : Int) + 1) (by omega) (by omega), if_pos rfl, wS hi (by omega), w64 (n := a + 2 * (i : Int) + 1 + 1) (by omega) (by omega)]
    rw [show a + 2 * (i : Int) + 1 + 1 = a + 2 * ((i + 1 : Nat) : Int) by omega]
  · refine ev_const (fun k => ?_)
    simp only [laws_heldPivotS.l0]
    rw [if_neg (by omega)]

theorem heldCracker_ev (n m q : Nat) (a : Int) (h0 : 0 ≤ a) (h1 : a + n + m + 2 * q ≤ 4611686018427387904) :
    Ev (fun k => laws_heldCracker.f k (mk a n) (mk (a + n) m) (mkPivot (a + n + m) q) a) (a + n + m + 2 * q) := by
  unfold laws_heldCracker.f
  refine Ev.bind (heldIntS_ev n a h0 (by omega)) (ev_ifn (by omega) ?_)
  refine Ev.bind (heldIntS_ev m _ (by omega) (by omega)) (ev_ifn (by omega) ?_)
  exact Ev.bind (heldPivotS_ev q _ (by omega) (by omega)) (ev_ifn (by omega) (ev_some _))

/-- A loop that ends false at the first round that is not ok, and goes on with r behind the last. -/
theorem all_ev (n : Nat) (ok : Nat → Bool) (r : Bool) (g : Nat → Nat → Option Bool) (hf : ∀ i, i < n → ok i = false → Ev (fun k => g k i) false)
    (ht : ∀ i, i < n → ∀ r, ok i = true → Ev (fun k => g k (i + 1)) r → Ev (fun k => g k i) r) (he : (∀ i, i < n → ok i = true) → Ev (fun k => g k n) r) :
    Ev (fun k => g k 0) ((List.range n).all ok && r) := by
  refine loop_ev n (fun i => ∀ j, j < i → ok j = true) g _ (fun j h => absurd h (Nat.not_lt_zero _)) ?_ ?_
  · intro i hi hc ih
    cases e : ok i with
    | true =>
      refine ht i hi _ e (ih (fun j hj => ?_))
      by_cases h : j = i
      · rw [h]; exact e
      · exact hc j (by omega)
    | false =>
      have : (List.range n).all ok = false := by
        rw [List.all_eq_false]
        exact ⟨i, List.mem_range.2 hi, by simp [e]⟩
      rw [this, Bool.false_and]
      exact hf i hi e
  · intro hc
    have : (List.range n).all ok = true := by
      rw [List.all_eq_true]
      exact fun i hi => hc i (List.mem_range.1 hi)
    rw [this, Bool.true_and]
    exact he hc

theorem l1In_eq (x a b : Int) : spec_l1In.f x a b = some (decide (a ≤ x) && decide (x ≤ b)) := by
  unfold spec_l1In.f
  by_cases h : x ≥ a
  · rw [if_pos h]
    have : a ≤ x := h
    simp [this]
  · rw [if_neg h]
    have : ¬ a ≤ x := h
    simp [this]

def areV (l : List Int) : Bool := decide (l.length ≤ 64) && l.all (fun x => decide (-999 ≤ x) && decide (x ≤ 999))

theorem specAreValues_ev (l : List Int) (hl : l.length ≤ 4611686018427387904) : Ev (fun k => spec_AreValues.f k l) (areV l) := by
  unfold spec_AreValues.f
  refine loop_ev l.length (fun i => ∀ j (h : j < l.length), j < i → (decide (-999 ≤ l[j]) && decide (l[j] ≤ 999)) = true) (fun k i => spec_AreValues.l0 k l (i : Int)) (areV l) (fun j _ h => absurd h (Nat.not_lt_zero _)) ?_ ?_
  · intro i hi hc ih
    cases e : (decide (-999 ≤ l[i]) && decide (l[i] ≤ 999)) with
    | true =>
      refine Ev.step (fun k => ?_) (ih (fun j h hj => ?_))
      · simp only [spec_AreValues.l0]
        rw [if_pos (by omega), if_pos (by omega), rd_nat hi]
        have e2 : spec_l1In.f l[i] (-999) 999 = some true := by
          simp at e
          unfold spec_l1In.f
          rw [if_pos (by omega)]
          simp [e.2]
        rw [e2, Option.bind_some, if_pos rfl, wS hi (by omega)]
      · by_cases hji : j = i
        · subst hji; exact e
        · exact hc j h (by omega)
    | false =>
      refine ev_const (fun k => ?_)
      simp only [spec_AreValues.l0]
      rw [if_pos (by omega), if_pos (by omega), rd_nat hi]
      have e2 : spec_l1In.f l[i] (-999) 999 = some false := by
        unfold spec_l1In.f
        by_cases c : l[i] ≥ -999
        · rw [if_pos c]
          have c2 : -999 ≤ l[i] := c
          simp [c2] at e
          simp; omega
        · rw [if_neg c]
      rw [e2, Option.bind_some, if_neg (by simp)]
      unfold areV
      rw [all_false_at _ l i hi e, Bool.and_false]
  · intro hc
    refine ev_const (fun k => ?_)
    simp only [spec_AreValues.l0]
    rw [if_neg (by omega)]
    unfold areV
    rw [all_take_true _ l (fun i h => hc i h h), Bool.and_true]
    congr 1
    simp
    omega

theorem within_all (l : List Int) (a b : Int) : impl_within.f l a b = some (l.all fun x => decide (a ≤ x) && decide (x ≤ b)) := by
  unfold impl_within.f
  rw [List.not_any_eq_all_not]
  congr 2
  funext x
  by_cases h1 : x < a <;> by_cases h2 : b < x <;> simp [h1, h2] <;> omega
theorem implAreValues (l : List Int) : impl_AreValues.f l = some (areV l) := by
  unfold impl_AreValues.f areV
  by_cases h : (l.length : Int) ≤ 64
  · rw [if_pos h, within_all, Option.bind_some]
    have : l.length ≤ 64 := by omega
    simp [this]
  · rw [if_neg h]
    have : ¬ l.length ≤ 64 := by omega
    simp [this]

def rowAt (l : List Int) (v : Int) : Int := match l.findIdx? (fun x => x == v) with | some i => (i : Int) | none => -1
theorem rowAt_hit {l : List Int} {v : Int} {i : Nat} (hi : i < l.length) (he : l[i] = v) (hb : ∀ j (h : j < l.length), j < i → l[j] ≠ v) : rowAt l v = (i : Int) := by
  have : l.findIdx? (fun x => x == v) = some i := by
    rw [List.findIdx?_eq_some_iff_getElem]
    exact ⟨hi, by simp [he], fun j hj => by simp [hb j (by omega) hj]⟩
  unfold rowAt
  rw [this]
theorem rowAt_miss {l : List Int} {v : Int} (hb : ∀ j (h : j < l.length), l[j] ≠ v) : rowAt l v = -1 := by
  have : l.findIdx? (fun x => x == v) = none := by
    rw [List.findIdx?_eq_none_iff]
    intro x hx
    obtain ⟨j, hj, rfl⟩ := List.mem_iff_getElem.1 hx
    simp [hb j hj]
  unfold rowAt
  rw [this]
theorem rowAt_cases (l : List Int) (v : Int) : (rowAt l v = -1 ∧ v ∉ l) ∨ (∃ i, ∃ h : i < l.length, rowAt l v = (i : Int) ∧ l[i] = v) := by
  unfold rowAt
  cases h : l.findIdx? (fun x => x == v) with
  | none =>
    rw [List.findIdx?_eq_none_iff] at h
    exact .inl ⟨rfl, fun hv => by have := h v hv; simp at this⟩
  | some i =>
    obtain ⟨h1, h2, _⟩ := List.findIdx?_eq_some_iff_getElem.1 h
    exact .inr ⟨i, h1, rfl, by simpa using h2⟩
theorem rowAt_neg (l : List Int) (v : Int) : rowAt l v < 0 ↔ v ∉ l := by
  rcases rowAt_cases l v with ⟨h, hv⟩ | ⟨i, hi, h, he⟩
  · rw [h]; simp [hv]
  · rw [h]
    have : v ∈ l := he ▸ List.getElem_mem hi
    simp [this] <;> omega

theorem index_ev (r : List Int) (q : Int) (hl : r.length ≤ 4611686018427387904) : Ev (fun k => slices_Index_int_int.f k r q) (rowAt r q) := by
  unfold slices_Index_int_int.f
  refine loop_ev r.length (fun i => ∀ j (h : j < r.length), j < i → r[j] ≠ q) (fun k i => slices_Index_int_int.l0 k r q (r.length : Int) (i : Int)) _ (fun j _ h => absurd h (Nat.not_lt_zero _)) ?_ ?_
  · intro i hi hc ih
    by_cases e : r[i] = q
    · refine ev_const (fun k => ?_)
      simp only [slices_Index_int_int.l0]
      rw [if_pos (by omega), if_pos (by omega), if_pos (by omega), rd_nat hi, if_pos e.symm, rowAt_hit hi e hc]
    · refine Ev.step (fun k => ?_) (ih (fun j h hj => ?_))
      · simp only [slices_Index_int_int.l0]
        rw [if_pos (by omega), if_pos (by omega), if_pos (by omega), rd_nat hi, if_neg (fun h => e h.symm), wS hi (by omega)]
      · by_cases hji : j = i
        · subst hji; exact e
        · exact hc j h (by omega)
  · intro hc
    refine ev_const (fun k => ?_)
    simp only [slices_Index_int_int.l0]
    rw [if_neg (by omega), rowAt_miss (fun j h => hc j h h)]

theorem bound_eq (x : Int) : impl_bound.f x = some (decide (-1000 ≤ x) && decide (x ≤ 1000)) := by
  unfold impl_bound.f
  by_cases h : x ≥ -1000
  · rw [if_pos h]
    have : -1000 ≤ x := h
    simp [this]
  · rw [if_neg h]
    have : ¬ -1000 ≤ x := h
    simp [this]
/-- Is the k-th pivot's head in order: its value, its place, and both against the pivot before it? -/
def ph (n : Int) (P : List S35) (k : Nat) : Bool :=
  (decide (-1000 ≤ (rd_T35 P (k : Int)).f0) && decide ((rd_T35 P (k : Int)).f0 ≤ 1000)) && (decide (0 ≤ (rd_T35 P (k : Int)).f1) && decide ((rd_T35 P (k : Int)).f1 ≤ n)) &&
  !(decide (0 < k) && (decide ((rd_T35 P (k : Int)).f0 ≤ (rd_T35 P ((k : Int) - 1)).f0) || decide ((rd_T35 P (k : Int)).f1 < (rd_T35 P ((k : Int) - 1)).f1)))
/-- Do the values lie on their side of a pivot? -/
def pbi (V : List Int) (v at_ : Int) (i : Nat) : Bool := decide (rd V (i : Int) < v) == decide ((i : Int) < at_)
def pb (V : List Int) (v at_ : Int) : Bool := (List.range V.length).all (pbi V v at_)
def pok (V : List Int) (P : List S35) (k : Nat) : Bool := ph (V.length : Int) P k && pb V (rd_T35 P (k : Int)).f0 (rd_T35 P (k : Int)).f1
def pall (V : List Int) (P : List S35) : Bool := (List.range P.length).all (pok V P)
theorem w_pred {i : Nat} (h0 : 0 < i) (h : i ≤ 4611686018427387904) : wrap64 ((i : Int) - 1) = (i : Int) - 1 := w64 (by omega) (by omega)
theorem specP_step (V : List Int) (P : List S35) (i : Nat) (hi : i < P.length) (hl : P.length ≤ 4611686018427387904) (k : Nat) :
    spec_l4Pivots.l0 (k + 1) V P (i : Int) = spec_l4Pivots.j1 k V P (i : Int) (!ph (V.length : Int) P i) (rd_T35 P (i : Int)).f0 (rd_T35 P (i : Int)).f1 := by
  simp only [spec_l4Pivots.l0, l1In_eq, Option.bind_some]
  rw [if_pos (by omega), if_pos (by omega)]
  unfold ph
  generalize (rd_T35 P (i : Int)).f0 = v
  generalize (rd_T35 P (i : Int)).f1 = a
  cases hA : (decide (-1000 ≤ v) && decide (v ≤ 1000)) with
  | false => rw [if_neg (by simp)]; simp
  | true =>
    rw [if_pos rfl]
    cases hB : (decide (0 ≤ a) && decide (a ≤ (V.length : Int))) with
    | false => rw [if_neg (by simp)]; simp
    | true =>
      rw [if_pos rfl]
      by_cases h0 : 0 < i
      · rw [if_pos (by omega), w_pred h0 (by omega), if_pos (by omega), if_pos (by omega)]
        by_cases hv : v ≤ (rd_T35 P ((i : Int) - 1)).f0
        · rw [if_pos hv]; simp [hv, h0]
        · rw [if_neg hv]; simp [hv, h0]
      · rw [if_neg (by omega)]; simp [h0]
theorem implP_step (V R : List Int) (P : List S35) (i : Nat) (hi : i < P.length) (hl : P.length ≤ 4611686018427387904) (k : Nat) :
    impl_IsCracker.l1 (k + 1) P (P.length : Int) (i : Int) V R P = impl_IsCracker.j3 k P (P.length : Int) (i : Int) (!ph (V.length : Int) P i) V R P (rd_T35 P (i : Int)).f0 (rd_T35 P (i : Int)).f1 := by
  simp only [impl_IsCracker.l1, bound_eq, Option.bind_some]
  rw [if_pos (by omega), if_pos (by omega), if_pos (by omega)]
  unfold ph
  generalize (rd_T35 P (i : Int)).f0 = v
  generalize (rd_T35 P (i : Int)).f1 = a
  cases hA : (decide (-1000 ≤ v) && decide (v ≤ 1000)) with
  | false => rw [if_neg (by simp)]; simp
  | true =>
    rw [if_pos rfl]
    by_cases hB : a < 0
    · rw [if_pos hB, decide_eq_false (show ¬ 0 ≤ a by omega)]; simp
    rw [if_neg hB, decide_eq_true (show 0 ≤ a by omega)]
    by_cases hC : a > (V.length : Int)
    · rw [if_pos hC, decide_eq_false (show ¬ a ≤ (V.length : Int) by omega)]; simp
    rw [if_neg hC, decide_eq_true (show a ≤ (V.length : Int) by omega)]
    by_cases h0 : 0 < i
    · rw [if_pos (by omega), w_pred h0 (by omega), if_pos (by omega), if_pos (by omega)]
      by_cases hv : v ≤ (rd_T35 P ((i : Int) - 1)).f0
      · rw [if_pos hv]; simp [hv, h0]
      · rw [if_neg hv]; simp [hv, h0]
    · rw [if_neg (by omega)]; simp [h0]
theorem specP_in (V : List Int) (P : List S35) (i : Nat) (v a : Int) (r : Bool) (hV : V.length ≤ 4611686018427387904) (h : pb V v a = true → Ev (fun k => spec_l4Pivots.l0 k V P (wrap64 ((i : Int) + 1))) r) :
    Ev (fun k => spec_l4Pivots.l1 k V P (i : Int) 0 v a) (pb V v a && r) := by
  refine all_ev V.length (pbi V v a) r (fun k j => spec_l4Pivots.l1 k V P (i : Int) (j : Int) v a) ?_ ?_ ?_
  · intro j hj e
    refine ev_const (fun k => ?_)
    simp only [spec_l4Pivots.l1]
    unfold pbi at e
    rw [if_pos (by omega), if_pos (by omega), if_pos (by simpa using e)]
  · intro j hj r e h
    refine Ev.step (fun k => ?_) h
    simp only [spec_l4Pivots.l1]
    unfold pbi at e
    rw [if_pos (by omega), if_pos (by omega), if_neg (by simpa using e), wS hj (by omega)]
  · intro hall
    refine Ev.step (fun k => ?_) (h (by unfold pb; rw [List.all_eq_true]; exact fun j hj => hall j (List.mem_range.1 hj)))
    simp only [spec_l4Pivots.l1]
    rw [if_neg (by omega)]
theorem implP_in (V R : List Int) (P : List S35) (i : Nat) (v a : Int) (r : Bool) (hV : V.length ≤ 4611686018427387904) (h : pb V v a = true → Ev (fun k => impl_IsCracker.l1 k P (P.length : Int) (wrap64 ((i : Int) + 1)) V R P) r) :
    Ev (fun k => impl_IsCracker.l2 k P (P.length : Int) (i : Int) V (V.length : Int) 0 V R P v a) (pb V v a && r) := by
  refine all_ev V.length (pbi V v a) r (fun k j => impl_IsCracker.l2 k P (P.length : Int) (i : Int) V (V.length : Int) (j : Int) V R P v a) ?_ ?_ ?_
  · intro j hj e
    refine ev_const (fun k => ?_)
    simp only [impl_IsCracker.l2]
    unfold pbi at e
    rw [if_pos (by omega), if_pos (by omega), if_pos (by omega), if_pos (by simpa using e)]
  · intro j hj r e h
    refine Ev.step (fun k => ?_) h
    simp only [impl_IsCracker.l2]
    unfold pbi at e
    rw [if_pos (by omega), if_pos (by omega), if_pos (by omega), if_neg (by simpa using e), wS hj (by omega)]
  · intro hall
    refine Ev.step (fun k => ?_) (h (by unfold pb; rw [List.all_eq_true]; exact fun j hj => hall j (List.mem_range.1 hj)))
    simp only [impl_IsCracker.l2]
    rw [if_neg (by omega)]
theorem specP_ev (V : List Int) (P : List S35) (hV : V.length ≤ 4611686018427387904) (hP : P.length ≤ 4611686018427387904) : Ev (fun k => spec_l4Pivots.f k V P) (pall V P) := by
  unfold spec_l4Pivots.f
  have := all_ev P.length (pok V P) true (fun k i => spec_l4Pivots.l0 k V P (i : Int)) ?_ ?_ ?_
  · rw [Bool.and_true] at this; exact this
  · intro i hi e
    refine Ev.step (specP_step V P i hi hP) ?_
    unfold pok at e
    cases hh : ph (V.length : Int) P i with
    | false => exact ev_const (fun k => by simp only [spec_l4Pivots.j1]; rw [if_pos (by simp)])
    | true =>
      rw [hh, Bool.true_and] at e
      refine Ev.step (fun k => ?_) (ev_eq (specP_in V P i (rd_T35 P (i : Int)).f0 (rd_T35 P (i : Int)).f1 false hV (fun h => by rw [e] at h; cases h)) (by simp))
      simp only [spec_l4Pivots.j1]
      rw [if_neg (by simp)]
  · intro i hi r e h
    refine Ev.step (specP_step V P i hi hP) ?_
    unfold pok at e
    rw [Bool.and_eq_true] at e
    rw [e.1]
    refine Ev.step (fun k => ?_) (ev_eq (specP_in V P i (rd_T35 P (i : Int)).f0 (rd_T35 P (i : Int)).f1 r hV (fun _ => by rw [wS hi (by omega)]; exact h)) (by rw [e.2, Bool.true_and]))
    simp only [spec_l4Pivots.j1]
    rw [if_neg (by simp)]
  · intro _
    exact ev_const (fun k => by simp only [spec_l4Pivots.l0]; rw [if_neg (by omega)])
theorem implP_ev (V R : List Int) (P : List S35) (hV : V.length ≤ 4611686018427387904) (hP : P.length ≤ 4611686018427387904) : Ev (fun k => impl_IsCracker.l1 k P (P.length : Int) 0 V R P) (pall V P) := by
  have := all_ev P.length (pok V P) true (fun k i => impl_IsCracker.l1 k P (P.length : Int) (i : Int) V R P) ?_ ?_ ?_
  · rw [Bool.and_true] at this; exact this
  · intro i hi e
    refine Ev.step (implP_step V R P i hi hP) ?_
    unfold pok at e
    cases hh : ph (V.length : Int) P i with
    | false => exact ev_const (fun k => by simp only [impl_IsCracker.j3]; rw [if_pos (by simp)])
    | true =>
      rw [hh, Bool.true_and] at e
      refine Ev.step (fun k => ?_) (ev_eq (implP_in V R P i (rd_T35 P (i : Int)).f0 (rd_T35 P (i : Int)).f1 false hV (fun h => by rw [e] at h; cases h)) (by simp))
      simp only [impl_IsCracker.j3]
      rw [if_neg (by simp)]
  · intro i hi r e h
    refine Ev.step (implP_step V R P i hi hP) ?_
    unfold pok at e
    rw [Bool.and_eq_true] at e
    rw [e.1]
    refine Ev.step (fun k => ?_) (ev_eq (implP_in V R P i (rd_T35 P (i : Int)).f0 (rd_T35 P (i : Int)).f1 r hV (fun _ => by rw [wS hi (by omega)]; exact h)) (by rw [e.2, Bool.true_and]))
    simp only [impl_IsCracker.j3]
    rw [if_neg (by simp)]
  · intro _
    exact ev_const (fun k => by simp only [impl_IsCracker.l1]; rw [if_neg (by omega)])
theorem pall_at {V : List Int} {P : List S35} (h : pall V P = true) (i : Nat) (hi : i < P.length) : pok V P i = true := by
  unfold pall at h
  rw [List.all_eq_true] at h
  exact h i (List.mem_range.2 hi)
theorem ph_facts {n : Int} {P : List S35} {k : Nat} (h : ph n P k = true) : (-1000 ≤ (rd_T35 P (k : Int)).f0 ∧ (rd_T35 P (k : Int)).f0 ≤ 1000) ∧ (0 ≤ (rd_T35 P (k : Int)).f1 ∧ (rd_T35 P (k : Int)).f1 ≤ n) ∧
    (0 < k → (rd_T35 P ((k : Int) - 1)).f0 < (rd_T35 P (k : Int)).f0 ∧ (rd_T35 P ((k : Int) - 1)).f1 ≤ (rd_T35 P (k : Int)).f1) := by
  unfold ph at h
  simp only [Bool.and_eq_true, decide_eq_true_eq, Bool.not_eq_true', Bool.and_eq_false_iff, Bool.or_eq_false_iff, decide_eq_false_iff_not] at h
  refine ⟨h.1.1, h.1.2, fun h0 => ?_⟩
  rcases h.2 with h | h
  · exact absurd h0 h
  · omega
theorem pall_len {V : List Int} {P : List S35} (h : pall V P = true) : P.length ≤ 2001 := by
  have key : ∀ i : Nat, i < P.length → -1000 + (i : Int) ≤ (rd_T35 P (i : Int)).f0 := by
    intro i
    induction i with
    | zero =>
      intro hi
      have := pall_at h 0 hi
      unfold pok at this
      rw [Bool.and_eq_true] at this
      have := (ph_facts this.1).1.1
      omega
    | succ i ih =>
      intro hi
      have := pall_at h (i + 1) hi
      unfold pok at this
      rw [Bool.and_eq_true] at this
      have h2 := ((ph_facts this.1).2.2 (by omega)).1
      have h3 := ih (by omega)
      rw [show (((i + 1 : Nat) : Int) - 1) = (i : Int) by omega] at h2
      omega
  by_cases c : P.length = 0
  · omega
  · have := key (P.length - 1) (by omega)
    have h2 := pall_at h (P.length - 1) (by omega)
    unfold pok at h2
    rw [Bool.and_eq_true] at h2
    have := (ph_facts h2.1).1.2
    omega
def rowIn (R : List Int) (i : Nat) : Bool := decide (0 ≤ rd R (i : Int)) && decide (rd R (i : Int) ≤ 999)
def fresh (R : List Int) (i : Nat) : Bool := !decide (rd R (i : Int) ∈ R.take i)
def isC (V R : List Int) (P : List S35) : Bool := areV V && (decide (R.length = V.length) && ((List.range R.length).all (fun i => rowIn R i && fresh R i) && pall V P))
theorem has_ev (l : List Int) (x : Int) (hl : l.length ≤ 4611686018427387904) : Ev (fun k => spec_l4Has.f k l x) (decide (x ∈ l)) := by
  unfold spec_l4Has.f
  refine loop_ev l.length (fun i => ∀ j (h : j < l.length), j < i → l[j] ≠ x) (fun k i => spec_l4Has.l0 k l x (i : Int)) _ (fun j _ h => absurd h (Nat.not_lt_zero _)) ?_ ?_
  · intro i hi hc ih
    by_cases e : l[i] = x
    · refine ev_const (fun k => ?_)
      simp only [spec_l4Has.l0]
      rw [if_pos (by omega), if_pos (by omega), rd_nat hi, if_pos e, decide_eq_true (e ▸ List.getElem_mem hi)]
    · refine Ev.step (fun k => ?_) (ih (fun j h hj => ?_))
      · simp only [spec_l4Has.l0]
        rw [if_pos (by omega), if_pos (by omega), rd_nat hi, if_neg e, wS hi (by omega)]
      · by_cases hji : j = i
        · subst hji; exact e
        · exact hc j h (by omega)
  · intro hc
    refine ev_const (fun k => ?_)
    simp only [spec_l4Has.l0]
    rw [if_neg (by omega), decide_eq_false]
    intro hx
    obtain ⟨j, hj, e⟩ := List.mem_iff_getElem.1 hx
    exact hc j hj hj e
theorem contains_ev (l : List Int) (x : Int) (hl : l.length ≤ 4611686018427387904) : Ev (fun k => slices_Contains_int_int.f k l x) (decide (x ∈ l)) := by
  unfold slices_Contains_int_int.f
  refine Ev.bind (index_ev l x hl) (ev_eq (ev_some _) ?_)
  have := rowAt_neg l x
  by_cases h : x ∈ l
  · rw [decide_eq_true h, decide_eq_true]
    have : ¬ rowAt l x < 0 := fun c => (this.1 c) h
    omega
  · rw [decide_eq_false h, decide_eq_false]
    have := this.2 h
    omega
theorem specR_ev (V R : List Int) (P : List S35) (hV : V.length ≤ 4611686018427387904) (hR : R.length ≤ 4611686018427387904) (hP : P.length ≤ 4611686018427387904) :
    Ev (fun k => spec_IsCracker.l0 k 0 V R P) ((List.range R.length).all (fun i => rowIn R i && fresh R i) && pall V P) := by
  refine all_ev R.length (fun i => rowIn R i && fresh R i) (pall V P) (fun k i => spec_IsCracker.l0 k (i : Int) V R P) ?_ ?_ ?_
  · intro i hi e
    apply Ev.step
    · intro k; simp only [spec_IsCracker.l0, l1In_eq, Option.bind_some]; rfl
    refine ev_ifp (by omega) (ev_ifp (by omega) ?_)
    cases c : rowIn R i with
    | false => unfold rowIn at c; rw [c]; exact ev_ifn (by simp) (ev_some _)
    | true =>
      rw [c, Bool.true_and] at e
      unfold rowIn at c
      rw [c]
      refine ev_ifp rfl (ev_ifp (by omega) (Ev.bind (has_ev _ _ (by rw [List.length_take]; omega)) (ev_ifp ?_ (ev_some _))))
      rw [Int.toNat_natCast]
      unfold fresh at e
      simpa using e
  · intro i hi r e h
    rw [Bool.and_eq_true] at e
    apply Ev.step
    · intro k; simp only [spec_IsCracker.l0, l1In_eq, Option.bind_some]; rfl
    refine ev_ifp (by omega) (ev_ifp (by omega) ?_)
    have c := e.1
    unfold rowIn at c
    rw [c]
    refine ev_ifp rfl (ev_ifp (by omega) (Ev.bind (has_ev _ _ (by rw [List.length_take]; omega)) (ev_ifn ?_ ?_)))
    · rw [Int.toNat_natCast]
      have := e.2
      unfold fresh at this
      simpa using this
    · rw [wS hi (by omega)]; exact h
  · intro _
    apply Ev.step
    · intro k; simp only [spec_IsCracker.l0]; rfl
    exact ev_ifn (by omega) (Ev.bind (specP_ev V P hV hP) (ev_some _))
theorem implR_ev (V R : List Int) (P : List S35) (hV : V.length ≤ 4611686018427387904) (hR : R.length ≤ 4611686018427387904) (hP : P.length ≤ 4611686018427387904) :
    Ev (fun k => impl_IsCracker.l0 k R (R.length : Int) 0 V R P) ((List.range R.length).all (fresh R) && pall V P) := by
  refine all_ev R.length (fresh R) (pall V P) (fun k i => impl_IsCracker.l0 k R (R.length : Int) (i : Int) V R P) ?_ ?_ ?_
  · intro i hi e
    apply Ev.step
    · intro k; simp only [impl_IsCracker.l0]; rfl
    refine ev_ifp (by omega) (ev_ifp (by omega) (ev_ifp (by omega) (ev_ifp (by omega) (Ev.bind (contains_ev _ _ (by rw [List.length_take]; omega)) (ev_ifp ?_ (ev_some _))))))
    rw [Int.toNat_natCast]
    unfold fresh at e
    simpa using e
  · intro i hi r e h
    apply Ev.step
    · intro k; simp only [impl_IsCracker.l0]; rfl
    refine ev_ifp (by omega) (ev_ifp (by omega) (ev_ifp (by omega) (ev_ifp (by omega) (Ev.bind (contains_ev _ _ (by rw [List.length_take]; omega)) (ev_ifn ?_ ?_)))))
    · rw [Int.toNat_natCast]
      unfold fresh at e
      simpa using e
    · rw [wS hi (by omega)]; exact h
  · intro _
    apply Ev.step
    · intro k; simp only [impl_IsCracker.l0]; rfl
    exact ev_ifn (by omega) (implP_ev V R P hV hP)
theorem specIsC_ev (V R : List Int) (P : List S35) (hV : V.length ≤ 4611686018427387904) (hR : R.length ≤ 4611686018427387904) (hP : P.length ≤ 4611686018427387904) : Ev (fun k => spec_IsCracker.f k V R P) (isC V R P) := by
  unfold spec_IsCracker.f isC
  have hf : Ev (fun k => spec_IsCracker.j0 k true V R P) false := ev_const (fun k => by simp [spec_IsCracker.j0])
  refine Ev.bind (specAreValues_ev V (by omega)) ?_
  cases areV V with
  | false => exact ev_ifn (by simp) hf
  | true =>
    refine ev_ifp rfl ?_
    rw [Bool.true_and]
    by_cases c : R.length = V.length
    · rw [show ((R.length : Int) != (V.length : Int)) = false by simp [c], decide_eq_true c, Bool.true_and]
      refine Ev.step (fun k => ?_) (specR_ev V R P hV hR hP)
      simp only [spec_IsCracker.j0]
      rw [if_neg (by simp)]
    · rw [show ((R.length : Int) != (V.length : Int)) = true by simp; omega, decide_eq_false c, Bool.false_and]
      exact hf
theorem implIsC_ev (V R : List Int) (P : List S35) (hV : V.length ≤ 4611686018427387904) (hR : R.length ≤ 4611686018427387904) (hP : P.length ≤ 4611686018427387904) : Ev (fun k => impl_IsCracker.f k V R P) (isC V R P) := by
  unfold impl_IsCracker.f isC
  have hf : Ev (fun k => impl_IsCracker.j0 k true V R P) false := ev_const (fun k => by simp [impl_IsCracker.j0])
  refine ev_pure (implAreValues V) ?_
  cases areV V with
  | false => exact ev_ifn (by simp) hf
  | true =>
    refine ev_ifp rfl ?_
    rw [Bool.true_and]
    by_cases c : R.length = V.length
    · refine ev_ifp (by omega) ?_
      rw [decide_eq_true c, Bool.true_and]
      refine ev_pure (within_all R 0 999) ?_
      have hw : (R.all fun x => decide (0 ≤ x) && decide (x ≤ 999)) = (List.range R.length).all (rowIn R) := by
        rw [Bool.eq_iff_iff, List.all_eq_true, List.all_eq_true]
        refine ⟨fun h i hi => ?_, fun h x hx => ?_⟩
        · have hi := List.mem_range.1 hi
          unfold rowIn
          rw [rd_nat hi]
          exact h _ (List.getElem_mem hi)
        · obtain ⟨i, hi, rfl⟩ := List.mem_iff_getElem.1 hx
          have := h i (List.mem_range.2 hi)
          unfold rowIn at this
          rw [rd_nat hi] at this
          exact this
      rw [hw]
      have hs : ((List.range R.length).all fun i => rowIn R i && fresh R i) = ((List.range R.length).all (rowIn R) && (List.range R.length).all (fresh R)) := by
        rw [Bool.eq_iff_iff, Bool.and_eq_true, List.all_eq_true, List.all_eq_true, List.all_eq_true]
        refine ⟨fun h => ⟨fun i hi => (Bool.and_eq_true _ _ ▸ h i hi).1, fun i hi => (Bool.and_eq_true _ _ ▸ h i hi).2⟩, fun h i hi => by rw [h.1 i hi, h.2 i hi]; rfl⟩
      rw [hs]
      cases (List.range R.length).all (rowIn R) with
      | false => exact ev_ifn (by simp) hf
      | true =>
        refine ev_ifp rfl ?_
        rw [Bool.true_and]
        by_cases d : P.length ≤ 2001
        · rw [decide_eq_false (show ¬ (P.length : Int) > 2001 by omega)]
          refine Ev.step (fun k => ?_) (implR_ev V R P hV hR hP)
          simp only [impl_IsCracker.j0]
          rw [if_neg (by simp)]
        · rw [decide_eq_true (show (P.length : Int) > 2001 by omega)]
          have : pall V P = false := by
            cases e : pall V P with
            | false => rfl
            | true => exact absurd (pall_len e) d
          rw [this, Bool.and_false]
          exact hf
    · refine ev_ifn (by omega) ?_
      rw [decide_eq_false c, Bool.false_and]
      exact hf

theorem copyI {V R : List Int} {P : List S35} (h0 : V.length ≤ 1048576) (h1 : R.length ≤ 1048576) (h2 : P.length ≤ 1048576) : impl_copyCracker.f V R P = some (V, R, P) := by
  unfold impl_copyCracker.f slices_Clone_int_int.f impl_Pivot_39.f
  rw [if_pos (by omega), if_pos (by omega), if_pos (by omega)]
  rfl

theorem copyS {V R : List Int} {P : List S35} (h0 : V.length ≤ 1048576) (h1 : R.length ≤ 1048576) (h2 : P.length ≤ 1048576) : spec_l4Copy.f V R P = some (V, R, P) := by
  unfold spec_l4Copy.f
  simp only [Option.bind_some, List.nil_append, List.length_nil, Nat.zero_add]
  rw [if_pos (by omega), if_pos (by omega), if_pos (by omega)]

def insL (x : S35) : List S35 → List S35
  | [] => [x]
  | y :: l => if x.f0 < y.f0 then x :: y :: l else y :: insL x l
theorem insL_len (x : S35) : ∀ l, (insL x l).length = l.length + 1
  | [] => rfl
  | y :: l => by
    unfold insL
    split
    · simp
    · simp [insL_len x l]
theorem insL_find (x : S35) : ∀ l : List S35, insL x l = match l.findIdx? (fun y => decide (x.f0 < y.f0)) with | some i => l.take i ++ [x] ++ l.drop i | none => l ++ [x]
  | [] => rfl
  | y :: l => by
    unfold insL
    rw [List.findIdx?_cons]
    by_cases c : x.f0 < y.f0
    · rw [if_pos c, decide_eq_true c]; rfl
    · rw [if_neg c, decide_eq_false c, insL_find x l]
      cases l.findIdx? (fun y => decide (x.f0 < y.f0)) with
      | none => rfl
      | some i => rfl
def addR (V R : List Int) (P : List S35) (x : S35) : List Int × List Int × List S35 × Bool :=
  if (isC V R P && isC V R (insL x P)) = true then (V, R, insL x P, true) else (V, R, P, false)
theorem addR_len (V R : List Int) (P : List S35) (x : S35) : (addR V R P x).1.length = V.length ∧ (addR V R P x).2.1.length = R.length ∧ (addR V R P x).2.2.1.length ≤ P.length + 1 := by
  unfold addR
  split
  · exact ⟨rfl, rfl, by rw [insL_len]; exact Nat.le_refl _⟩
  · exact ⟨rfl, rfl, Nat.le_succ _⟩
theorem specAdd_j (V R : List Int) (P : List S35) (x : S35) (hV : V.length ≤ 1048576) (hR : R.length ≤ 1048576) (hP : P.length ≤ 1048576) : Ev (fun k => spec_AddPivot.j1 k V R P V R (insL x P)) (addR V R P x) := by
  have h1 := specIsC_ev V R P (by omega) (by omega) (by omega)
  have h2 := specIsC_ev V R (insL x P) (by omega) (by omega) (by rw [insL_len]; omega)
  have hc := copyS (V := V) (R := R) (P := P) hV hR hP
  unfold addR
  apply Ev.step
  · intro k; simp only [spec_AddPivot.j1]; rfl
  cases c1 : isC V R P with
  | false =>
    rw [c1] at h1
    exact Ev.bind h1 (ev_ifn (by simp) (ev_pure hc (ev_some _)))
  | true =>
    rw [c1] at h1
    cases c2 : isC V R (insL x P) with
    | false =>
      rw [c2] at h2
      exact Ev.bind h1 (ev_ifp rfl (Ev.bind h2 (ev_ifn (by simp) (ev_pure hc (ev_some _)))))
    | true =>
      rw [c2] at h2
      exact Ev.bind h1 (ev_ifp rfl (Ev.bind h2 (ev_ifp rfl (ev_some _))))
theorem rdP_drop {P : List S35} {i : Nat} (h : i < P.length) : P.drop i = ⟨(rd_T35 P (i : Int)).f0, (rd_T35 P (i : Int)).f1⟩ :: P.drop (i + 1) := by
  rw [List.drop_eq_getElem_cons h, rdPivot h]
theorem specAdd_l (V R : List Int) (P : List S35) (v t : Int) (hV : V.length ≤ 1048576) (hR : R.length ≤ 1048576) (hP : P.length ≤ 1048576) : ∀ (d i : Nat) (pl : Bool) (O : List S35), P.length - i = d → i ≤ P.length → O.length ≤ 2 * i →
    (O ++ (if pl = true then P.drop i else insL ⟨v, t⟩ (P.drop i)) = insL ⟨v, t⟩ P) → Ev (fun k => spec_AddPivot.l0 k pl (i : Int) V R P v t V R O) (addR V R P ⟨v, t⟩) := by
  intro d
  induction d with
  | zero =>
    intro i pl O hd hi hO he
    have hj := specAdd_j V R P ⟨v, t⟩ hV hR hP
    rw [List.drop_eq_nil_of_le (by omega)] at he
    cases pl with
    | true =>
      rw [if_pos rfl, List.append_nil] at he
      refine Ev.step (fun k => ?_) hj
      simp only [spec_AddPivot.l0]
      rw [if_neg (by omega), if_pos trivial, he]
    | false =>
      rw [if_neg (by simp)] at he
      refine Ev.step (fun k => ?_) hj
      simp only [spec_AddPivot.l0]
      rw [if_neg (by omega), if_neg (by simp), if_pos (by omega), ← he]
      rfl
  | succ d ih =>
    intro i pl O hd hi hO he
    have hi' : i < P.length := by omega
    rw [rdP_drop hi'] at he
    cases pl with
    | true =>
      refine Ev.step (fun k => ?_) (ih (i + 1) true (O ++ [⟨(rd_T35 P (i : Int)).f0, (rd_T35 P (i : Int)).f1⟩]) (by omega) (by omega) (by simp; omega) (by rw [← he]; simp))
      simp only [spec_AddPivot.l0]
      rw [if_pos (by omega), if_pos trivial, if_pos (by omega), if_pos (by omega), wS hi' (by omega)]
    | false =>
      rw [if_neg (by simp)] at he
      by_cases c : (rd_T35 P (i : Int)).f0 > v
      · refine Ev.step (fun k => ?_) (ih (i + 1) true (O ++ [⟨v, t⟩] ++ [⟨(rd_T35 P (i : Int)).f0, (rd_T35 P (i : Int)).f1⟩]) (by omega) (by omega) (by simp; omega) (by
          rw [← he, insL, if_pos c]; simp))
        simp only [spec_AddPivot.l0, Option.bind_some]
        rw [if_pos (by omega), if_neg (by simp), if_pos (by omega), if_pos c, if_pos (by omega), if_pos (by simp; omega), wS hi' (by omega)]
      · refine Ev.step (fun k => ?_) (ih (i + 1) false (O ++ [⟨(rd_T35 P (i : Int)).f0, (rd_T35 P (i : Int)).f1⟩]) (by omega) (by omega) (by simp; omega) (by
          rw [← he, if_neg (by simp), insL, if_neg c]; simp))
        simp only [spec_AddPivot.l0]
        rw [if_pos (by omega), if_neg (by simp), if_pos (by omega), if_neg c, if_pos (by omega), wS hi' (by omega)]
theorem specAdd_ev (V R : List Int) (P : List S35) (v t : Int) (hV : V.length ≤ 1048576) (hR : R.length ≤ 1048576) (hP : P.length ≤ 1048576) : Ev (fun k => spec_AddPivot.f k V R P v t) (addR V R P ⟨v, t⟩) := by
  unfold spec_AddPivot.f
  exact ev_pure (copyS hV hR hP) (specAdd_l V R P v t hV hR hP (P.length - 0) 0 false [] rfl (by omega) (by simp) (by rw [if_neg (by simp)]; rfl))
theorem withPivot_eq (V R : List Int) (P : List S35) (v t : Int) (hV : V.length ≤ 1048576) (hR : R.length ≤ 1048576) (hP : P.length ≤ 1048576) : impl_withPivot.f V R P v t = some (V, R, insL ⟨v, t⟩ P) := by
  unfold impl_withPivot.f impl_Pivot_31.f Giv.fidx
  rw [copyI hV hR hP, Option.bind_some, Option.bind_some, insL_find]
  cases hc : P.findIdx? (fun y => decide (v < y.f0)) with
  | none =>
    dsimp only
    rw [if_pos (by omega), if_pos (by omega)]
  | some i =>
    dsimp only
    rw [if_neg (by omega), if_pos (by omega), Int.toNat_natCast]
theorem implAdd_ev (V R : List Int) (P : List S35) (v t : Int) (hV : V.length ≤ 1048576) (hR : R.length ≤ 1048576) (hP : P.length ≤ 1048576) : Ev (fun k => impl_AddPivot.f k V R P v t) (addR V R P ⟨v, t⟩) := by
  have h1 := implIsC_ev V R P (by omega) (by omega) (by omega)
  have h2 := implIsC_ev V R (insL ⟨v, t⟩ P) (by omega) (by omega) (by rw [insL_len]; omega)
  unfold impl_AddPivot.f addR
  refine ev_pure (withPivot_eq V R P v t hV hR hP) ?_
  cases c1 : isC V R P with
  | false =>
    rw [c1] at h1
    exact Ev.bind h1 (ev_ifn (by simp) (ev_pure (copyI hV hR hP) (ev_some _)))
  | true =>
    rw [c1] at h1
    cases c2 : isC V R (insL ⟨v, t⟩ P) with
    | false =>
      rw [c2] at h2
      exact Ev.bind h1 (ev_ifp rfl (Ev.bind h2 (ev_ifn (by simp) (ev_pure (copyI hV hR hP) (ev_some _)))))
    | true =>
      rw [c2] at h2
      exact Ev.bind h1 (ev_ifp rfl (Ev.bind h2 (ev_ifp rfl (ev_some _))))


end Go.Proofs.Ytmliclopdbkbeaa.Pure.FnExactAddPivot
namespace Go.Proofs.Ytmliclopdbkbeaa.Pure
open Go.RowKit Go.Proofs.Ytmliclopdbkbeaa.PFnExactAddPivot Go.Proofs.YtmliclopdbkbeaaW.PrintWords Go.Proofs.YtmliclopdbkbeaaW.PrintLast Go.Proofs.YtmliclopdbkbeaaW.PrintMore Go.Proofs.Ytmliclopdbkbeaa.B Go.Proofs.Ytmliclopdbkbeaa.Pure.FnExactAddPivot
theorem FnExactAddPivot : ∀ (l0_0 : List Int) (l0_1 : List Int) (l0_2 : List S27) (a1_0 : Int) (a1_1 : Int), (l0_0.length ≤ maxLen ∧ ∀ z ∈ l0_0, (Lit.int .i64 z).wf = true) → (l0_1.length ≤ maxLen ∧ ∀ z ∈ l0_1, (Lit.int .i64 z).wf = true) → (l0_2.length ≤ maxLen ∧ ∀ z ∈ l0_2, ((Lit.int .i64 z.f0).wf = true ∧ (Lit.int .i64 z.f1).wf = true)) → (Lit.int .i64 a1_0).wf = true → (Lit.int .i64 a1_1).wf = true → ∃ k, laws_FnExactAddPivot.f k l0_0 l0_1 l0_2 a1_0 a1_1 = some true := by
  intro v r p a1 a2 ⟨hv, _⟩ ⟨hr, _⟩ ⟨hp, _⟩ _ _
  refine Ev.rounds (g := fun k => laws_FnExactAddPivot.f k v r p a1 a2) ?_
  unfold laws_FnExactAddPivot.f
  obtain ⟨t, ht, hc⟩ := szCracker_at v r p 1048576 (by omega) hv hr hp
  refine ev_pure ht ?_
  rcases hc with hc | ⟨h0, hta, h1, h2, h3⟩
  · exact ev_ifp hc (ev_some _)
  refine ev_ifn (by omega) ?_
  have hm : (p.map cvPivot).length ≤ 1048576 := by simpa using h3
  have e1 := specAdd_ev v r (p.map cvPivot) a1 a2 h1 h2 hm
  have e2 := implAdd_ev v r (p.map cvPivot) a1 a2 h1 h2 hm
  obtain ⟨la, lb, lc⟩ := addR_len v r (p.map cvPivot) ⟨a1, a2⟩
  generalize addR v r (p.map cvPivot) ⟨a1, a2⟩ = x at e1 e2 la lb lc
  obtain ⟨a, b, c, d⟩ := x
  simp only at la lb lc
  refine Ev.bind (toCracker_ev v r p h1 h2 h3) (ev_pure (a := (a1, a2)) rfl ?_)
  refine Ev.bind e1 ?_
  refine Ev.bind (toCracker_ev v r p h1 h2 h3) (ev_pure (a := (a1, a2)) rfl ?_)
  refine Ev.bind e2 ?_
  refine Ev.bind (eqCracker_ev a b c (by omega) (by omega) (by omega)) ?_
  refine ev_ifp rfl (ev_ifn (by simp) ?_)
  refine Ev.bind (toCracker_ev v r p h1 h2 h3) ?_
  refine Ev.bind (eqCracker_ev v r (p.map cvPivot) (by omega) (by omega) (by omega)) ?_
  refine ev_ifp rfl ?_
  refine Ev.bind (markCracker_ev v r (p.map cvPivot) 1 (by omega) (by omega)) ?_
  refine ev_ifn (by show ¬ (1 + (v.length : Int) + r.length + 2 * (p.map cvPivot).length < 0); omega) ?_
  refine Ev.bind (eqCracker_ev a b c (by omega) (by omega) (by omega)) ?_
  refine ev_ifp rfl ?_
  refine Ev.bind (markCracker_ev a b c 1 (by omega) (by omega)) ?_
  refine Ev.bind (heldCracker_ev a.length b.length c.length 1 (by omega) (by omega)) ?_
  refine ev_ifn (by omega) (ev_ifp rfl ?_)
  refine Ev.bind (toCracker_ev v r p h1 h2 h3) (ev_pure (a := (a1, a2)) rfl ?_)
  refine Ev.bind e2 ?_
  refine Ev.bind (eqCracker_ev a b c (by omega) (by omega) (by omega)) ?_
  refine ev_ifp rfl (ev_ifn (by simp) ?_)
  refine Ev.bind (heldCracker_ev a.length b.length c.length 1 (by omega) (by omega)) ?_
  exact ev_ifn (by omega) (ev_ifp rfl (ev_some _))

end Go.Proofs.Ytmliclopdbkbeaa.Pure
