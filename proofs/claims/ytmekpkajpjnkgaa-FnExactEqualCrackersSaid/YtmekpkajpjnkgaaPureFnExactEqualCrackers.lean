/- EqualCrackers of the program returns what the reference returns, for every two columns, and leaves them as they were. No condition. -/
import Derived.Test.YtmekpkajpjnkgaaPFnExactEqualCrackersx0
import Derived.Test.YtmekpkajpjnkgaaPFnExactEqualCrackersx1
import Derived.Test.YtmekpkajpjnkgaaPFnExactEqualCrackersx2
import Derived.Test.YtmekpkajpjnkgaaPFnExactEqualCrackersx3
import Derived.Test.YtmekpkajpjnkgaaPFnExactEqualCrackersx4
import Derived.Test.YtmekpkajpjnkgaaPFnExactEqualCrackersx5
import Derived.Test.YtmekpkajpjnkgaaB
set_option linter.unusedVariables false
set_option linter.unusedSimpArgs false
namespace Go.Proofs.Ytmekpkajpjnkgaa.Pure.FnExactEqualCrackers
open Go.RowKit Go.Proofs.Ytmekpkajpjnkgaa.PFnExactEqualCrackers Go.Proofs.YtmekpkajpjnkgaaW.PrintWords Go.Proofs.YtmekpkajpjnkgaaW.PrintLast Go.Proofs.YtmekpkajpjnkgaaW.PrintMore Go.Proofs.Ytmekpkajpjnkgaa.B

theorem szIntS_at (l : List Int) (a : Int) (ha : 0 ≤ a ∧ a ≤ 1048576) (hl : l.length ≤ maxLen) : laws_szIntS.f l a = some (if (l.length : Int) ≤ a then a - l.length else -1) := by
  unfold maxLen at hl
  unfold laws_szIntS.f
  rw [w64 (n := a - (l.length : Int)) (by omega) (by omega)]
  by_cases h : (l.length : Int) ≤ a
  · rw [if_neg (by omega), if_pos h]
  · rw [if_pos (by omega), if_neg h]

theorem szPivotS_at (l : List S143) (a : Int) (ha : 0 ≤ a ∧ a ≤ 1048576) (hl : l.length ≤ maxLen) : laws_szPivotS.f l a = some (if (l.length : Int) ≤ a then a - l.length else -1) := by
  unfold maxLen at hl
  unfold laws_szPivotS.f
  rw [w64 (n := a - (l.length : Int)) (by omega) (by omega)]
  by_cases h : (l.length : Int) ≤ a
  · rw [if_neg (by omega), if_pos h]
  · rw [if_pos (by omega), if_neg h]

theorem szCracker_at (v r : List Int) (p : List S143) (a : Int) (ha : 0 ≤ a ∧ a ≤ 1048576) (hv : v.length ≤ maxLen) (hr : r.length ≤ maxLen) (hp : p.length ≤ maxLen) :
    ∃ t, laws_szCracker.f v r p a = some t ∧ (t < 0 ∨ (0 ≤ t ∧ t ≤ a ∧ v.length ≤ 1048576 ∧ r.length ≤ 1048576 ∧ p.length ≤ 1048576)) := by
  unfold laws_szCracker.f
  rw [szIntS_at v a ha hv, Option.bind_some]
  by_cases h1 : (v.length : Int) ≤ a
  · rw [if_pos h1, if_neg (by omega), szIntS_at r _ (by omega) hr, Option.bind_some]
    by_cases h2 : (r.length : Int) ≤ a - v.length
    · rw [if_pos h2, if_neg (by omega), szPivotS_at p _ (by omega) hp, Option.bind_some]
      by_cases h3 : (p.length : Int) ≤ a - v.length - r.length
      · rw [if_pos h3, if_neg (by omega)]
        exact ⟨_, rfl, .inr ⟨by omega, by omega, by omega, by omega, by omega⟩⟩
      · rw [if_neg h3, if_pos (by omega)]
        exact ⟨_, rfl, .inl (by omega)⟩
    · rw [if_neg h2, if_pos (by omega)]
      exact ⟨_, rfl, .inl (by omega)⟩
  · rw [if_neg h1, if_pos (by omega)]
    exact ⟨_, rfl, .inl (by omega)⟩

theorem toIntS_ev (l : List Int) (hl : l.length ≤ 1048576) : Ev (fun k => laws_toIntS.f k l) l := by
  unfold laws_toIntS.f
  refine ev_ifp (by omega) (ev_ifp (by omega) ?_)
  rw [show ((l.length : Int)).toNat = l.length by omega]
  have h := down_ev l.length (fun k i => laws_toIntS.l0 k l (l.take i ++ (List.replicate l.length (0 : Int)).drop i) (i : Int)) l ?_ ?_
  · simpa using h
  · intro i hi ih
    refine Ev.step (fun k => ?_) ih
    simp only [laws_toIntS.l0]
    rw [if_pos (by omega), if_pos (by omega), if_pos (by rw [step_len _ _ (by simp) _ (by omega)]; omega), rd_nat hi, wS hi (by omega), Int.toNat_natCast, set_step _ _ (by simp) _ hi]
  · refine ev_const (fun k => ?_)
    simp only [laws_toIntS.l0]
    rw [if_neg (by omega)]
    simp

def cvPivot (x : S143) : S119 := ⟨x.f0, x.f1⟩

theorem toPivotS_ev (l : List S143) (hl : l.length ≤ 1048576) : Ev (fun k => laws_toPivotS.f k l) (l.map cvPivot) := by
  unfold laws_toPivotS.f
  refine ev_ifp (by omega) (ev_ifp (by omega) ?_)
  rw [show ((l.length : Int)).toNat = l.length by omega]
  have h := down_ev l.length (fun k i => laws_toPivotS.l0 k l ((l.map cvPivot).take i ++ (List.replicate l.length z119).drop i) (i : Int)) (l.map cvPivot) ?_ ?_
  · simpa using h
  · intro i hi ih
    refine Ev.step (fun k => ?_) ih
    simp only [laws_toPivotS.l0]
    have hr : rd_T143 l (i : Int) = l[i] := by unfold rd_T143; simp [List.getD_eq_getElem?_getD, List.getElem?_eq_getElem hi]
    rw [if_pos (by omega), if_pos (by omega), hr]
    unfold laws_toPivot.f
    simp only [Option.bind_some]
    rw [if_pos (by rw [step_len _ _ (by simp) _ (by simp; omega)]; simp; omega), wS hi (by omega), Int.toNat_natCast]
    have e := set_step (l.map cvPivot) (List.replicate l.length z119) (by simp) i (by simpa using hi)
    simp only [List.getElem_map] at e
    rw [← e]
    rfl
  · refine ev_const (fun k => ?_)
    simp only [laws_toPivotS.l0]
    rw [if_neg (by omega)]
    rw [List.take_of_length_le (by simp), List.drop_eq_nil_of_le (by simp), List.append_nil]

theorem toCracker_ev (v r : List Int) (p : List S143) (hv : v.length ≤ 1048576) (hr : r.length ≤ 1048576) (hp : p.length ≤ 1048576) : Ev (fun k => laws_toCracker.f k v r p) (v, r, p.map cvPivot) := by
  unfold laws_toCracker.f
  exact Ev.bind (toIntS_ev v hv) (Ev.bind (toIntS_ev r hr) (Ev.bind (toPivotS_ev p hp) (ev_some _)))

theorem eqIntS_ev (l m : List Int) (hl : l.length ≤ 4611686018427387904) : Ev (fun k => laws_eqIntS.f k l m) (decide (l = m)) := by
  unfold laws_eqIntS.f
  by_cases hlm : l.length = m.length
  · refine ev_ifp (by omega) ?_
    refine loop_ev l.length (fun i => ∀ j (h : j < l.length), j < i → l[j] = m[j]'(by omega)) (fun k i => laws_eqIntS.l0 k l m (i : Int)) (decide (l = m)) (fun j _ h => absurd h (Nat.not_lt_zero _)) ?_ ?_
    · intro i hi hc ih
      have hi2 : i < m.length := by omega
      by_cases e : l[i] = m[i]
      · refine Ev.step (fun k => ?_) (ih (fun j h hj => ?_))
        · simp only [laws_eqIntS.l0]
          simp only [if_pos (show (i : Int) < (l.length : Int) by omega), if_pos (show (0 : Int) ≤ (i : Int) by omega), if_pos (show (i : Int) < (m.length : Int) by omega), rd_nat hi, rd_nat hi2, if_pos e, wS hi (by omega)]
        · by_cases hji : j = i
          · subst hji; exact e
          · exact hc j h (by omega)
      · refine ev_const (fun k => ?_)
        simp only [laws_eqIntS.l0]
        simp only [if_pos (show (i : Int) < (l.length : Int) by omega), if_pos (show (0 : Int) ≤ (i : Int) by omega), if_pos (show (i : Int) < (m.length : Int) by omega), rd_nat hi, rd_nat hi2, if_neg e]
        have : l ≠ m := fun hh => e (by subst hh; rfl)
        simp [this]
    · intro hc
      refine ev_const (fun k => ?_)
      simp only [laws_eqIntS.l0]
      rw [if_neg (by omega)]
      have : l = m := List.ext_getElem hlm (fun j h1 h2 => hc j h1 h1)
      simp [this]
  · refine ev_ifn (by omega) ?_
    have : l ≠ m := fun hh => hlm (by rw [hh])
    exact ev_eq (ev_some _) (by simp [this])

theorem rdPivot {l : List S119} {i : Nat} (h : i < l.length) : rd_T119 l (i : Int) = l[i] := by
  unfold rd_T119; simp [List.getD_eq_getElem?_getD, List.getElem?_eq_getElem h]

theorem eqPivotS_ev (l : List S119) (hl : l.length ≤ 4611686018427387904) : Ev (fun k => laws_eqPivotS.f k l l) true := by
  unfold laws_eqPivotS.f
  refine ev_ifp rfl ?_
  refine down_ev l.length (fun k i => laws_eqPivotS.l0 k l l (i : Int)) true ?_ ?_
  · intro i hi ih
    refine Ev.step (fun k => ?_) ih
    simp only [laws_eqPivotS.l0]
    rw [if_pos (by omega), if_pos (by omega), if_pos (by omega), rdPivot hi]
    unfold laws_eqPivot.f
    rw [if_pos rfl, if_pos rfl, Option.bind_some, if_pos rfl, wS hi (by omega)]
  · refine ev_const (fun k => ?_)
    simp only [laws_eqPivotS.l0]
    rw [if_neg (by omega)]

theorem eqCracker_ev (v r : List Int) (p : List S119) (hv : v.length ≤ 4611686018427387904) (hr : r.length ≤ 4611686018427387904) (hp : p.length ≤ 4611686018427387904) : Ev (fun k => laws_eqCracker.f k v r p v r p) true := by
  unfold laws_eqCracker.f
  refine Ev.bind (eqIntS_ev v v hv) (ev_ifp (by simp) ?_)
  refine Ev.bind (eqIntS_ev r r hr) (ev_ifp (by simp) ?_)
  exact Ev.bind (eqPivotS_ev p hp) (ev_ifp rfl (ev_some _))

theorem l4Ints_ev (l m : List Int) (hl : l.length ≤ 4611686018427387904) : Ev (fun k => spec_l4Ints.f k l m) (decide (l = m)) := by
  unfold spec_l4Ints.f
  by_cases hlm : l.length = m.length
  · refine ev_ifp (by omega) ?_
    refine loop_ev l.length (fun i => ∀ j (h : j < l.length), j < i → l[j] = m[j]'(by omega)) (fun k i => spec_l4Ints.l0 k l m (i : Int)) (decide (l = m)) (fun j _ h => absurd h (Nat.not_lt_zero _)) ?_ ?_
    · intro i hi hc ih
      have hi2 : i < m.length := by omega
      by_cases e : l[i] = m[i]
      · refine Ev.step (fun k => ?_) (ih (fun j h hj => ?_))
        · simp only [spec_l4Ints.l0]
          simp only [if_pos (show (i : Int) < (l.length : Int) by omega), if_pos (show (0 : Int) ≤ (i : Int) by omega), if_pos (show (i : Int) < (m.length : Int) by omega), rd_nat hi, rd_nat hi2, if_pos e, wS hi (by omega)]
        · by_cases hji : j = i
          · subst hji; exact e
          · exact hc j h (by omega)
      · refine ev_const (fun k => ?_)
        simp only [spec_l4Ints.l0]
        simp only [if_pos (show (i : Int) < (l.length : Int) by omega), if_pos (show (0 : Int) ≤ (i : Int) by omega), if_pos (show (i : Int) < (m.length : Int) by omega), rd_nat hi, rd_nat hi2, if_neg e]
        have : l ≠ m := fun hh => e (by subst hh; rfl)
        simp [this]
    · intro hc
      refine ev_const (fun k => ?_)
      simp only [spec_l4Ints.l0]
      rw [if_neg (by omega)]
      have : l = m := List.ext_getElem hlm (fun j h1 h2 => hc j h1 h1)
      simp [this]
  · refine ev_ifn (by omega) ?_
    have : l ≠ m := fun hh => hlm (by rw [hh])
    exact ev_eq (ev_some _) (by simp [this])

theorem equalInt_ev (l m : List Int) (hl : l.length ≤ 4611686018427387904) : Ev (fun k => slices_Equal_int_int.f k l m) (decide (l = m)) := by
  unfold slices_Equal_int_int.f
  by_cases hlm : l.length = m.length
  · refine ev_ifp (by omega) ?_
    refine loop_ev l.length (fun i => ∀ j (h : j < l.length), j < i → l[j] = m[j]'(by omega)) (fun k i => slices_Equal_int_int.l0 k l m (l.length : Int) (i : Int)) (decide (l = m)) (fun j _ h => absurd h (Nat.not_lt_zero _)) ?_ ?_
    · intro i hi hc ih
      have hi2 : i < m.length := by omega
      by_cases e : l[i] = m[i]
      · refine Ev.step (fun k => ?_) (ih (fun j h hj => ?_))
        · simp only [slices_Equal_int_int.l0]
          simp only [if_pos (show (i : Int) < (l.length : Int) by omega), if_pos (show (0 : Int) ≤ (i : Int) by omega), if_pos (show (i : Int) < (m.length : Int) by omega), rd_nat hi, rd_nat hi2, if_pos e, wS hi (by omega)]
        · by_cases hji : j = i
          · subst hji; exact e
          · exact hc j h (by omega)
      · refine ev_const (fun k => ?_)
        simp only [slices_Equal_int_int.l0]
        simp only [if_pos (show (i : Int) < (l.length : Int) by omega), if_pos (show (0 : Int) ≤ (i : Int) by omega), if_pos (show (i : Int) < (m.length : Int) by omega), rd_nat hi, rd_nat hi2, if_neg e]
        have : l ≠ m := fun hh => e (by subst hh; rfl)
        simp [this]
    · intro hc
      refine ev_const (fun k => ?_)
      simp only [slices_Equal_int_int.l0]
      rw [if_neg (by omega)]
      have : l = m := List.ext_getElem hlm (fun j h1 h2 => hc j h1 h1)
      simp [this]
  · refine ev_ifn (by omega) ?_
    have : l ≠ m := fun hh => hlm (by rw [hh])
    exact ev_eq (ev_some _) (by simp [this])

theorem pivSame (l m : List S119) (hl : l.length ≤ 4611686018427387904) : ∃ r, Ev (fun k => spec_l4Same.f k l m) r ∧ Ev (fun k => impl_Pivot.f k l m) r := by
  unfold spec_l4Same.f impl_Pivot.f
  by_cases hlm : (l.length : Int) = (m.length : Int)
  · have h := pair_ev (σ := Unit) l.length (fun _ _ => True) (fun k _ i => spec_l4Same.l0 k l m (i : Int)) (fun k _ i => impl_Pivot.l0 k l m (l.length : Int) (i : Int)) ?_ ?_ () trivial
    · obtain ⟨r, a, b⟩ := h
      exact ⟨r, ev_ifp hlm a, ev_ifp hlm b⟩
    · intro i s hi _
      have hi2 : i < m.length := by omega
      by_cases c : (!((l[i]).f0 == (m[i]).f0) || (!((l[i]).f1 == (m[i]).f1))) = true
      · refine .inl ⟨false, ev_const (fun k => ?_), ev_const (fun k => ?_)⟩
        · simp only [spec_l4Same.l0]
          rw [if_pos (by omega), if_pos (by omega), if_pos (by omega), rdPivot hi, rdPivot hi2, if_pos c]
        · simp only [impl_Pivot.l0]
          rw [if_pos (by omega), if_pos (by omega), if_pos (by omega), if_pos (by omega), rdPivot hi, rdPivot hi2, if_pos c]
      · refine .inr ⟨(), trivial, fun k => ?_, fun k => ?_⟩
        · simp only [spec_l4Same.l0]
          rw [if_pos (by omega), if_pos (by omega), if_pos (by omega), rdPivot hi, rdPivot hi2, if_neg c, wS hi (by omega)]
        · simp only [impl_Pivot.l0]
          rw [if_pos (by omega), if_pos (by omega), if_pos (by omega), if_pos (by omega), rdPivot hi, rdPivot hi2, if_neg c, wS hi (by omega)]
    · intro s _
      refine ⟨true, ev_const (fun k => ?_), ev_const (fun k => ?_)⟩
      · simp only [spec_l4Same.l0]; rw [if_neg (by omega)]
      · simp only [impl_Pivot.l0]; rw [if_neg (by omega)]
  · exact ⟨false, ev_ifn hlm (ev_some _), ev_ifn hlm (ev_some _)⟩


end Go.Proofs.Ytmekpkajpjnkgaa.Pure.FnExactEqualCrackers
namespace Go.Proofs.Ytmekpkajpjnkgaa.Pure
open Go.RowKit Go.Proofs.Ytmekpkajpjnkgaa.PFnExactEqualCrackers Go.Proofs.YtmekpkajpjnkgaaW.PrintWords Go.Proofs.YtmekpkajpjnkgaaW.PrintLast Go.Proofs.YtmekpkajpjnkgaaW.PrintMore Go.Proofs.Ytmekpkajpjnkgaa.B Go.Proofs.Ytmekpkajpjnkgaa.Pure.FnExactEqualCrackers
theorem FnExactEqualCrackers : ∀ (l0_0 : List Int) (l0_1 : List Int) (l0_2 : List S143) (l1_0 : List Int) (l1_1 : List Int) (l1_2 : List S143), (l0_0.length ≤ maxLen ∧ ∀ z ∈ l0_0, (Lit.int .i64 z).wf = true) → (l0_1.length ≤ maxLen ∧ ∀ z ∈ l0_1, (Lit.int .i64 z).wf = true) → (l0_2.length ≤ maxLen ∧ ∀ z ∈ l0_2, ((Lit.int .i64 z.f0).wf = true ∧ (Lit.int .i64 z.f1).wf = true)) → (l1_0.length ≤ maxLen ∧ ∀ z ∈ l1_0, (Lit.int .i64 z).wf = true) → (l1_1.length ≤ maxLen ∧ ∀ z ∈ l1_1, (Lit.int .i64 z).wf = true) → (l1_2.length ≤ maxLen ∧ ∀ z ∈ l1_2, ((Lit.int .i64 z.f0).wf = true ∧ (Lit.int .i64 z.f1).wf = true)) → ∃ k, laws_FnExactEqualCrackers.f k l0_0 l0_1 l0_2 l1_0 l1_1 l1_2 = some true := by
  intro v r p v2 r2 p2 ⟨hv, _⟩ ⟨hr, _⟩ ⟨hp, _⟩ ⟨hv2, _⟩ ⟨hr2, _⟩ ⟨hp2, _⟩
  refine Ev.rounds (g := fun k => laws_FnExactEqualCrackers.f k v r p v2 r2 p2) ?_
  unfold laws_FnExactEqualCrackers.f
  obtain ⟨t, ht, hc⟩ := szCracker_at v r p 1048576 (by omega) hv hr hp
  refine ev_pure ht ?_
  rcases hc with hc | ⟨h0, hta, h1, h2, h3⟩
  · exact ev_ifp hc (ev_some _)
  refine ev_ifn (by omega) ?_
  obtain ⟨t2, ht2, hc2⟩ := szCracker_at v2 r2 p2 t (by omega) hv2 hr2 hp2
  refine ev_pure ht2 ?_
  rcases hc2 with hc2 | ⟨h02, _, h12, h22, h32⟩
  · exact ev_ifp hc2 (ev_some _)
  refine ev_ifn (by omega) ?_
  have hm : (p.map cvPivot).length ≤ 4611686018427387904 := by simp; omega
  have hm2 : (p2.map cvPivot).length ≤ 4611686018427387904 := by simp; omega
  have hsame : ∃ x, Ev (fun k => spec_EqualCrackers.f k v r (p.map cvPivot) v2 r2 (p2.map cvPivot)) x ∧ Ev (fun k => impl_EqualCrackers.f k v r (p.map cvPivot) v2 r2 (p2.map cvPivot)) x := by
    unfold spec_EqualCrackers.f impl_EqualCrackers.f
    by_cases c1 : v = v2
    · by_cases c2 : r = r2
      · obtain ⟨x, a, b⟩ := pivSame (p.map cvPivot) (p2.map cvPivot) hm
        refine ⟨x, Ev.bind (l4Ints_ev v v2 (by omega)) (ev_ifp (by simp [c1]) (Ev.bind (l4Ints_ev r r2 (by omega)) (ev_ifp (by simp [c2]) (Ev.bind a (ev_some _))))), Ev.bind (equalInt_ev v v2 (by omega)) (ev_ifp (by simp [c1]) (Ev.bind (equalInt_ev r r2 (by omega)) (ev_ifp (by simp [c2]) (Ev.bind b (ev_some _)))))⟩
      · refine ⟨false, Ev.bind (l4Ints_ev v v2 (by omega)) (ev_ifp (by simp [c1]) (Ev.bind (l4Ints_ev r r2 (by omega)) (ev_ifn (by simp [c2]) (ev_some _)))), Ev.bind (equalInt_ev v v2 (by omega)) (ev_ifp (by simp [c1]) (Ev.bind (equalInt_ev r r2 (by omega)) (ev_ifn (by simp [c2]) (ev_some _))))⟩
    · refine ⟨false, Ev.bind (l4Ints_ev v v2 (by omega)) (ev_ifn (by simp [c1]) (ev_some _)), Ev.bind (equalInt_ev v v2 (by omega)) (ev_ifn (by simp [c1]) (ev_some _))⟩
  obtain ⟨x, a, b⟩ := hsame
  refine Ev.bind (toCracker_ev v r p h1 h2 h3) ?_
  refine Ev.bind (toCracker_ev v2 r2 p2 h12 h22 h32) ?_
  refine Ev.bind a ?_
  refine Ev.bind (toCracker_ev v r p h1 h2 h3) ?_
  refine Ev.bind (toCracker_ev v2 r2 p2 h12 h22 h32) ?_
  refine Ev.bind b ?_
  refine ev_ifn (by simp) ?_
  refine Ev.bind (toCracker_ev v r p h1 h2 h3) ?_
  refine Ev.bind (eqCracker_ev v r (p.map cvPivot) (by omega) (by omega) hm) ?_
  refine ev_ifp rfl ?_
  refine Ev.bind (toCracker_ev v2 r2 p2 h12 h22 h32) ?_
  refine Ev.bind (eqCracker_ev v2 r2 (p2.map cvPivot) (by omega) (by omega) hm2) ?_
  exact ev_ifp rfl (ev_some _)

end Go.Proofs.Ytmekpkajpjnkgaa.Pure
