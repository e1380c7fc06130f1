/- NewCracker of the program returns what the reference returns, for every list; it leaves the list as it was and shares no memory with it. No condition. -/
import Derived.Test.YtmekpkajpjnkgaaPFnExactNewCrackerx0
import Derived.Test.YtmekpkajpjnkgaaPFnExactNewCrackerx1
import Derived.Test.YtmekpkajpjnkgaaPFnExactNewCrackerx2
import Derived.Test.YtmekpkajpjnkgaaPFnExactNewCrackerx3
import Derived.Test.YtmekpkajpjnkgaaB
set_option linter.unusedVariables false
set_option linter.unusedSimpArgs false
namespace Go.Proofs.Ytmekpkajpjnkgaa.Pure.FnExactNewCracker
open Go.RowKit Go.Proofs.Ytmekpkajpjnkgaa.PFnExactNewCracker Go.Proofs.YtmekpkajpjnkgaaW.PrintWords Go.Proofs.YtmekpkajpjnkgaaW.PrintLast Go.Proofs.YtmekpkajpjnkgaaW.PrintMore Go.Proofs.Ytmekpkajpjnkgaa.B

theorem toIntS_ev (l : List Int) (hl : l.length ≤ 1048576) : Ev (fun k => laws_toIntS.f k l) l := by
  unfold laws_toIntS.f
  refine ev_ifp (by omega) (ev_ifp (by omega) ?_)
  rw [show ((l.length : Int)).toNat = l.length by omega]
  have h := down_ev l.length (fun k i => laws_toIntS.l0 k l (l.take i ++ (List.replicate l.length (0 : Int)).drop i) (i : Int)) l ?_ ?_
  · simpa using h
  · intro i hi ih
    refine Ev.step (fun k => ?_) ih
    simp only [laws_toIntS.l0]
    rw [if_pos (by omega), if_pos (by omega), if_pos (by rw [step_len _ _ (by simp) _ (by omega)]; omega), rd_nat hi, wS hi (by omega), Int.toNat_natCast, set_step _ _ (by simp) _ hi]
  · refine ev_const (fun k => ?_)
    simp only [laws_toIntS.l0]
    rw [if_neg (by omega)]
    simp

theorem eqIntS_ev (l m : List Int) (hl : l.length ≤ 4611686018427387904) : Ev (fun k => laws_eqIntS.f k l m) (decide (l = m)) := by
  unfold laws_eqIntS.f
  by_cases hlm : l.length = m.length
  · refine ev_ifp (by omega) ?_
    refine loop_ev l.length (fun i => ∀ j (h : j < l.length), j < i → l[j] = m[j]'(by omega)) (fun k i => laws_eqIntS.l0 k l m (i : Int)) (decide (l = m)) (fun j _ h => absurd h (Nat.not_lt_zero _)) ?_ ?_
    · intro i hi hc ih
      have hi2 : i < m.length := by omega
      by_cases e : l[i] = m[i]
      · refine Ev.step (fun k => ?_) (ih (fun j h hj => ?_))
        · simp only [laws_eqIntS.l0]
          simp only [if_pos (show (i : Int) < (l.length : Int) by omega), if_pos (show (0 : Int) ≤ (i : Int) by omega), if_pos (show (i : Int) < (m.length : Int) by omega), rd_nat hi, rd_nat hi2, if_pos e, wS hi (by omega)]
        · by_cases hji : j = i
          · subst hji; exact e
          · exact hc j h (by omega)
      · refine ev_const (fun k => ?_)
        simp only [laws_eqIntS.l0]
        simp only [if_pos (show (i : Int) < (l.length : Int) by omega), if_pos (show (0 : Int) ≤ (i : Int) by omega), if_pos (show (i : Int) < (m.length : Int) by omega), rd_nat hi, rd_nat hi2, if_neg e]
        have : l ≠ m := fun hh => e (by subst hh; rfl)
        simp [this]
    · intro hc
      refine ev_const (fun k => ?_)
      simp only [laws_eqIntS.l0]
      rw [if_neg (by omega)]
      have : l = m := List.ext_getElem hlm (fun j h1 h2 => hc j h1 h1)
      simp [this]
  · refine ev_ifn (by omega) ?_
    have : l ≠ m := fun hh => hlm (by rw [hh])
    exact ev_eq (ev_some _) (by simp [this])

theorem markIntS_ev (l : List Int) (a : Int) (h0 : 0 ≤ a) (h1 : a + l.length ≤ 4611686018427387904) : Ev (fun k => laws_markIntS.f k l a) (a + l.length, mk a l.length) := by
  unfold laws_markIntS.f
  have hml := mk_len a l.length
  have h := down_ev l.length (fun k i => laws_markIntS.l0 k ((mk a l.length).take i ++ l.drop i) (a + (i : Int)) (i : Int)) (a + l.length, mk a l.length) ?_ ?_
  · simpa using h
  · intro i hi ih
    refine Ev.step (fun k => ?_) ih
    simp only [laws_markIntS.l0]
    rw [if_pos (by rw [step_len _ _ (by omega) _ (by omega)]; omega), if_pos (by omega), Int.toNat_natCast, wS hi (by omega), w64 (n := a + (i : Int) + 1) (by omega) (by omega)]
    have e := set_step (mk a l.length) l (by omega) i (by omega)
    rw [mk_at] at e
    rw [e, Int.natCast_add, ← Int.add_assoc]
    rfl
  · refine ev_const (fun k => ?_)
    simp only [laws_markIntS.l0]
    rw [if_neg (by rw [step_len _ _ (by omega) _ (by omega)]; omega)]
    rw [List.take_of_length_le (by omega), List.drop_eq_nil_of_le (by omega), List.append_nil]

def areV (l : List Int) : Bool := decide (l.length ≤ 64) && l.all (fun x => decide (-999 ≤ x) && decide (x ≤ 999))

theorem specAreValues_ev (l : List Int) (hl : l.length ≤ 4611686018427387904) : Ev (fun k => spec_AreValues.f k l) (areV l) := by
  unfold spec_AreValues.f
  refine loop_ev l.length (fun i => ∀ j (h : j < l.length), j < i → (decide (-999 ≤ l[j]) && decide (l[j] ≤ 999)) = true) (fun k i => spec_AreValues.l0 k l (i : Int)) (areV l) (fun j _ h => absurd h (Nat.not_lt_zero _)) ?_ ?_
  · intro i hi hc ih
    cases e : (decide (-999 ≤ l[i]) && decide (l[i] ≤ 999)) with
    | true =>
      refine Ev.step (fun k => ?_) (ih (fun j h hj => ?_))
      · simp only [spec_AreValues.l0]
        rw [if_pos (by omega), if_pos (by omega), rd_nat hi]
        have e2 : spec_l1In.f l[i] (-999) 999 = some true := by
          simp at e
          unfold spec_l1In.f
          rw [if_pos (by omega)]
          simp [e.2]
        rw [e2, Option.bind_some, if_pos rfl, wS hi (by omega)]
      · by_cases hji : j = i
        · subst hji; exact e
        · exact hc j h (by omega)
    | false =>
      refine ev_const (fun k => ?_)
      simp only [spec_AreValues.l0]
      rw [if_pos (by omega), if_pos (by omega), rd_nat hi]
      have e2 : spec_l1In.f l[i] (-999) 999 = some false := by
        unfold spec_l1In.f
        by_cases c : l[i] ≥ -999
        · rw [if_pos c]
          have c2 : -999 ≤ l[i] := c
          simp [c2] at e
          simp; omega
        · rw [if_neg c]
      rw [e2, Option.bind_some, if_neg (by simp)]
      unfold areV
      rw [all_false_at _ l i hi e, Bool.and_false]
  · intro hc
    refine ev_const (fun k => ?_)
    simp only [spec_AreValues.l0]
    rw [if_neg (by omega)]
    unfold areV
    rw [all_take_true _ l (fun i h => hc i h h), Bool.and_true]
    congr 1
    simp
    omega

theorem within_all (l : List Int) (a b : Int) : impl_within.f l a b = some (l.all fun x => decide (a ≤ x) && decide (x ≤ b)) := by
  unfold impl_within.f
  rw [List.not_any_eq_all_not]
  congr 2
  funext x
  by_cases h1 : x < a <;> by_cases h2 : b < x <;> simp [h1, h2] <;> omega
theorem implAreValues (l : List Int) : impl_AreValues.f l = some (areV l) := by
  unfold impl_AreValues.f areV
  by_cases h : (l.length : Int) ≤ 64
  · rw [if_pos h, within_all, Option.bind_some]
    have : l.length ≤ 64 := by omega
    simp [this]
  · rw [if_neg h]
    have : ¬ l.length ≤ 64 := by omega
    simp [this]

theorem rdPivot {l : List S119} {i : Nat} (h : i < l.length) : rd_T119 l (i : Int) = l[i] := by
  unfold rd_T119; simp [List.getD_eq_getElem?_getD, List.getElem?_eq_getElem h]

theorem eqPivotS_ev (l : List S119) (hl : l.length ≤ 4611686018427387904) : Ev (fun k => laws_eqPivotS.f k l l) true := by
  unfold laws_eqPivotS.f
  refine ev_ifp rfl ?_
  refine down_ev l.length (fun k i => laws_eqPivotS.l0 k l l (i : Int)) true ?_ ?_
  · intro i hi ih
    refine Ev.step (fun k => ?_) ih
    simp only [laws_eqPivotS.l0]
    rw [if_pos (by omega), if_pos (by omega), if_pos (by omega), rdPivot hi]
    unfold laws_eqPivot.f
    rw [if_pos rfl, if_pos rfl, Option.bind_some, if_pos rfl, wS hi (by omega)]
  · refine ev_const (fun k => ?_)
    simp only [laws_eqPivotS.l0]
    rw [if_neg (by omega)]

theorem eqCracker_ev (v r : List Int) (p : List S119) (hv : v.length ≤ 4611686018427387904) (hr : r.length ≤ 4611686018427387904) (hp : p.length ≤ 4611686018427387904) : Ev (fun k => laws_eqCracker.f k v r p v r p) true := by
  unfold laws_eqCracker.f
  refine Ev.bind (eqIntS_ev v v hv) (ev_ifp (by simp) ?_)
  refine Ev.bind (eqIntS_ev r r hr) (ev_ifp (by simp) ?_)
  exact Ev.bind (eqPivotS_ev p hp) (ev_ifp rfl (ev_some _))

def mkPivot (a : Int) (n : Nat) : List S119 := (List.range n).map fun j : Nat => ⟨a + 2 * (j : Int), a + 2 * (j : Int) + 1⟩
theorem mkPivot_len (a : Int) (n : Nat) : (mkPivot a n).length = n := by simp [mkPivot]
theorem mkPivot_at (a : Int) (n : Nat) (j : Nat) (h : j < (mkPivot a n).length) : (mkPivot a n)[j] = ⟨a + 2 * (j : Int), a + 2 * (j : Int) + 1⟩ := by simp [mkPivot]

theorem markPivotS_ev (l : List S119) (a : Int) (h0 : 0 ≤ a) (h1 : a + 2 * l.length ≤ 4611686018427387904) : Ev (fun k => laws_markPivotS.f k l a) (a + 2 * l.length, mkPivot a l.length) := by
  unfold laws_markPivotS.f
  have hml := mkPivot_len a l.length
  have h := down_ev l.length (fun k i => laws_markPivotS.l0 k ((mkPivot a l.length).take i ++ l.drop i) (a + 2 * (i : Int)) (i : Int)) (a + 2 * l.length, mkPivot a l.length) ?_ ?_
  · simpa using h
  · intro i hi ih
    refine Ev.step (fun k => ?_) ih
    simp only [laws_markPivotS.l0]
    have hs := step_len (mkPivot a l.length) l (by omega) i (by omega)
    generalize hx : (mkPivot a l.length).take i ++ l.drop i = x at hs
    rw [if_pos (by omega), if_pos (by omega), Option.bind_some, Int.toNat_natCast, wS hi (by omega), w64 (n := a + 2 * (i : Int) + 1) (by omega) (by omega), w64 (n := a + 2 * (i : Int) + 1 + 1) (by omega) (by omega)]
    have hg : rd_T119 (x.set i ⟨a + 2 * (i : Int), (rd_T119 x (i : Int)).f1⟩) (i : Int) = ⟨a + 2 * (i : Int), (rd_T119 x (i : Int)).f1⟩ := by
      rw [rdPivot (by rw [List.length_set]; omega), List.getElem_set_self]
    rw [hg, List.set_set, ← hx]
    have e := set_step (mkPivot a l.length) l (by omega) i (by omega)
    rw [mkPivot_at] at e
    rw [show a + 2 * (i : Int) + 1 + 1 = a + 2 * ((i + 1 : Nat) : Int) by omega]
    rw [← e]
  · refine ev_const (fun k => ?_)
    simp only [laws_markPivotS.l0]
    rw [if_neg (by rw [step_len _ _ (by omega) _ (by omega)]; omega)]
    rw [List.take_of_length_le (by omega), List.drop_eq_nil_of_le (by omega), List.append_nil]

theorem markCracker_ev (v r : List Int) (p : List S119) (a : Int) (h0 : 0 ≤ a) (h1 : a + v.length + r.length + 2 * p.length ≤ 4611686018427387904) :
    Ev (fun k => laws_markCracker.f k v r p a) (a + v.length + r.length + 2 * p.length, mk a v.length, mk (a + v.length) r.length, mkPivot (a + v.length + r.length) p.length) := by
  unfold laws_markCracker.f
  refine Ev.bind (markIntS_ev v a h0 (by omega)) ?_
  refine Ev.bind (markIntS_ev r _ (by show 0 ≤ a + (v.length : Int); omega) (by show a + (v.length : Int) + r.length ≤ _; omega)) ?_
  refine Ev.bind (markPivotS_ev p _ (by show 0 ≤ a + (v.length : Int) + r.length; omega) (by show a + (v.length : Int) + r.length + 2 * p.length ≤ _; omega)) ?_
  exact ev_some _

theorem heldIntS_ev (n : Nat) (a : Int) (h0 : 0 ≤ a) (h1 : a + n ≤ 4611686018427387904) : Ev (fun k => laws_heldIntS.f k (mk a n) a) (a + n) := by
  unfold laws_heldIntS.f
  have hml := mk_len a n
  have h := down_ev n (fun k i => laws_heldIntS.l0 k (mk a n) (a + (i : Int)) (i : Int)) (a + n) ?_ ?_
  · simpa using h
  · intro i hi ih
    refine Ev.step (fun k => ?_) ih
    simp only [laws_heldIntS.l0]
    rw [if_pos (by omega), if_pos (by omega), rd_nat (by omega), mk_at, if_pos rfl, wS hi (by omega), w64 (n := a + (i : Int) + 1) (by omega) (by omega), Int.natCast_add, ← Int.add_assoc]
    rfl
  · refine ev_const (fun k => ?_)
    simp only [laws_heldIntS.l0]
    rw [if_neg (by omega)]

theorem heldPivotS_ev (n : Nat) (a : Int) (h0 : 0 ≤ a) (h1 : a + 2 * n ≤ 4611686018427387904) : Ev (fun k => laws_heldPivotS.f k (mkPivot a n) a) (a + 2 * n) := by
  unfold laws_heldPivotS.f
  have hml := mkPivot_len a n
  have h := down_ev n (fun k i => laws_heldPivotS.l0 k (mkPivot a n) (a + 2 * (i : Int)) (i : Int)) (a + 2 * n) ?_ ?_
  · simpa using h
  · intro i hi ih
    refine Ev.step (fun k => ?_) ih
    simp only [laws_heldPivotS.l0]
    rw [if_pos (by omega), if_pos (by omega), rdPivot (by omega), mkPivot_at, if_pos rfl, w64 (n := a + 2 * (i : Int) + 1) (by omega) (by omega), if_pos rfl, wS hi (by omega), w64 (n := a + 2 * (i : Int) + 1 + 1) (by omega) (by omega)]
    rw [show a + 2 * (i : Int) + 1 + 1 = a + 2 * ((i + 1 : Nat) : Int) by omega]
  · refine ev_const (fun k => ?_)
    simp only [laws_heldPivotS.l0]
    rw [if_neg (by omega)]

theorem heldCracker_ev (n m q : Nat) (a : Int) (h0 : 0 ≤ a) (h1 : a + n + m + 2 * q ≤ 4611686018427387904) :
    Ev (fun k => laws_heldCracker.f k (mk a n) (mk (a + n) m) (mkPivot (a + n + m) q) a) (a + n + m + 2 * q) := by
  unfold laws_heldCracker.f
  refine Ev.bind (heldIntS_ev n a h0 (by omega)) (ev_ifn (by omega) ?_)
  refine Ev.bind (heldIntS_ev m _ (by omega) (by omega)) (ev_ifn (by omega) ?_)
  exact Ev.bind (heldPivotS_ev q _ (by omega) (by omega)) (ev_ifn (by omega) (ev_some _))

theorem newCracker_same (l : List Int) (hl : l.length ≤ 1048576) : ∃ a b c, Ev (fun k => spec_NewCracker.f k l) (a, b, c) ∧ Ev (fun k => impl_NewCracker.f k l) (a, b, c) ∧ a.length ≤ 1048576 ∧ b.length ≤ 1048576 ∧ c.length ≤ 1048576 := by
  unfold spec_NewCracker.f impl_NewCracker.f
  cases h : areV l with
  | false =>
    have hs := specAreValues_ev l (by omega)
    have hi := implAreValues l
    rw [h] at hs hi
    exact ⟨[], [], [], Ev.bind hs (ev_ifn (by simp) (ev_some _)), ev_pure hi (ev_ifn (by simp) (ev_some _)), by simp, by simp, by simp⟩
  | true =>
    have hs := specAreValues_ev l (by omega)
    have hi := implAreValues l
    rw [h] at hs hi
    have hm := mk_len 0 l.length
    refine ⟨l, mk 0 l.length, [], Ev.bind hs (ev_ifp rfl ?_), ev_pure hi (ev_ifp rfl ?_), hl, by omega, by simp⟩
    · refine ev_pure rfl (ev_ifp (by simp; omega) ?_)
      rw [List.nil_append]
      have hh := down_ev l.length (fun k i => spec_NewCracker.l0 k l (i : Int) l ((mk 0 l.length).take i)) (l, mk 0 l.length, ([] : List S119)) ?_ ?_
      · simpa using hh
      · intro i hi ih
        refine Ev.step (fun k => ?_) ih
        simp only [spec_NewCracker.l0]
        rw [if_pos (by omega), if_pos (by rw [List.length_take]; omega), wS hi (by omega), take_snoc _ i (by omega), mk_at, Int.zero_add]
      · refine ev_const (fun k => ?_)
        simp only [spec_NewCracker.l0]
        rw [if_neg (by omega), List.take_of_length_le (by omega)]
    · refine ev_pure (by unfold slices_Clone_int_int.f; rw [if_pos (by omega)]) ?_
      have hh := down_ev l.length (fun k i => impl_NewCracker.l0 k (l.length : Int) (i : Int) l ((mk 0 l.length).take i)) (l, mk 0 l.length, ([] : List S119)) ?_ ?_
      · simpa using hh
      · intro i hi ih
        refine Ev.step (fun k => ?_) ih
        simp only [impl_NewCracker.l0]
        rw [if_pos (by omega), if_pos (by rw [List.length_take]; omega), wS hi (by omega), take_snoc _ i (by omega), mk_at, Int.zero_add]
      · refine ev_const (fun k => ?_)
        simp only [impl_NewCracker.l0]
        rw [if_neg (by omega), List.take_of_length_le (by omega)]

end Go.Proofs.Ytmekpkajpjnkgaa.Pure.FnExactNewCracker
namespace Go.Proofs.Ytmekpkajpjnkgaa.Pure
open Go.RowKit Go.Proofs.Ytmekpkajpjnkgaa.PFnExactNewCracker Go.Proofs.YtmekpkajpjnkgaaW.PrintWords Go.Proofs.YtmekpkajpjnkgaaW.PrintLast Go.Proofs.YtmekpkajpjnkgaaW.PrintMore Go.Proofs.Ytmekpkajpjnkgaa.B Go.Proofs.Ytmekpkajpjnkgaa.Pure.FnExactNewCracker
theorem FnExactNewCracker : laws_FnExactNewCracker.Pure := by
  intro l _ _ _
  by_cases hb : (l.length : Int) > 1048576
  · exact ⟨0, by unfold laws_FnExactNewCracker.f; rw [if_pos hb]⟩
  · refine Ev.rounds (g := fun k => laws_FnExactNewCracker.f k l) ?_
    unfold laws_FnExactNewCracker.f
    obtain ⟨a, b, c, h1, h2, ha, hb2, hc⟩ := newCracker_same l (by omega)
    refine ev_ifn hb ?_
    refine Ev.bind (toIntS_ev l (by omega)) ?_
    refine Ev.bind h1 ?_
    refine Ev.bind (toIntS_ev l (by omega)) ?_
    refine Ev.bind h2 ?_
    refine Ev.bind (eqCracker_ev a b c (by omega) (by omega) (by omega)) ?_
    refine ev_ifp rfl ?_
    refine Ev.bind (toIntS_ev l (by omega)) ?_
    refine Ev.bind (eqIntS_ev l l (by omega)) ?_
    refine ev_ifp (by simp) ?_
    refine Ev.bind (markIntS_ev l 1 (by omega) (by omega)) ?_
    refine ev_ifn (by show ¬ (1 + (l.length : Int) < 0); omega) ?_
    refine Ev.bind (eqCracker_ev a b c (by omega) (by omega) (by omega)) ?_
    apply Ev.step
    · intro k; simp only [laws_FnExactNewCracker.j0]; rfl
    refine ev_ifn (by simp) ?_
    refine Ev.bind (markCracker_ev a b c 1 (by omega) (by omega)) ?_
    refine Ev.bind (heldCracker_ev a.length b.length c.length 1 (by omega) (by omega)) ?_
    refine ev_ifn (by omega) (ev_ifp rfl ?_)
    refine Ev.bind (toIntS_ev l (by omega)) ?_
    refine Ev.bind h2 ?_
    refine Ev.bind (eqCracker_ev a b c (by omega) (by omega) (by omega)) ?_
    refine ev_ifp rfl ?_
    refine Ev.bind (heldCracker_ev a.length b.length c.length 1 (by omega) (by omega)) ?_
    exact ev_ifn (by omega) (ev_ifp rfl (ev_some _))

end Go.Proofs.Ytmekpkajpjnkgaa.Pure
