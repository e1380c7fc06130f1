/- WorstQuery of the program returns what the reference returns, for every list, and leaves it as it was. No condition. -/
import Derived.Test.YtmekpkajpjnkgaaPFnExactWorstQueryx0
import Derived.Test.YtmekpkajpjnkgaaPFnExactWorstQueryx1
import Derived.Test.YtmekpkajpjnkgaaB
set_option linter.unusedVariables false
set_option linter.unusedSimpArgs false
namespace Go.Proofs.Ytmekpkajpjnkgaa.Pure.FnExactWorstQuery
open Go.RowKit Go.Proofs.Ytmekpkajpjnkgaa.PFnExactWorstQuery Go.Proofs.YtmekpkajpjnkgaaW.PrintWords Go.Proofs.YtmekpkajpjnkgaaW.PrintLast Go.Proofs.YtmekpkajpjnkgaaW.PrintMore Go.Proofs.Ytmekpkajpjnkgaa.B

theorem toIntS_ev (l : List Int) (hl : l.length ≤ 1048576) : Ev (fun k => laws_toIntS.f k l) l := by
  unfold laws_toIntS.f
  refine ev_ifp (by omega) (ev_ifp (by omega) ?_)
  rw [show ((l.length : Int)).toNat = l.length by omega]
  have h := down_ev l.length (fun k i => laws_toIntS.l0 k l (l.take i ++ (List.replicate l.length (0 : Int)).drop i) (i : Int)) l ?_ ?_
  · simpa using h
  · intro i hi ih
    refine Ev.step (fun k => ?_) ih
    simp only [laws_toIntS.l0]
    rw [if_pos (by omega), if_pos (by omega), if_pos (by rw [step_len _ _ (by simp) _ (by omega)]; omega), rd_nat hi, wS hi (by omega), Int.toNat_natCast, set_step _ _ (by simp) _ hi]
  · refine ev_const (fun k => ?_)
    simp only [laws_toIntS.l0]
    rw [if_neg (by omega)]
    simp

theorem eqIntS_ev (l m : List Int) (hl : l.length ≤ 4611686018427387904) : Ev (fun k => laws_eqIntS.f k l m) (decide (l = m)) := by
  unfold laws_eqIntS.f
  by_cases hlm : l.length = m.length
  · refine ev_ifp (by omega) ?_
    refine loop_ev l.length (fun i => ∀ j (h : j < l.length), j < i → l[j] = m[j]'(by omega)) (fun k i => laws_eqIntS.l0 k l m (i : Int)) (decide (l = m)) (fun j _ h => absurd h (Nat.not_lt_zero _)) ?_ ?_
    · intro i hi hc ih
      have hi2 : i < m.length := by omega
      by_cases e : l[i] = m[i]
      · refine Ev.step (fun k => ?_) (ih (fun j h hj => ?_))
        · simp only [laws_eqIntS.l0]
          simp only [if_pos (show (i : Int) < (l.length : Int) by omega), if_pos (show (0 : Int) ≤ (i : Int) by omega), if_pos (show (i : Int) < (m.length : Int) by omega), rd_nat hi, rd_nat hi2, if_pos e, wS hi (by omega)]
        · by_cases hji : j = i
          · subst hji; exact e
          · exact hc j h (by omega)
      · refine ev_const (fun k => ?_)
        simp only [laws_eqIntS.l0]
        simp only [if_pos (show (i : Int) < (l.length : Int) by omega), if_pos (show (0 : Int) ≤ (i : Int) by omega), if_pos (show (i : Int) < (m.length : Int) by omega), rd_nat hi, rd_nat hi2, if_neg e]
        have : l ≠ m := fun hh => e (by subst hh; rfl)
        simp [this]
    · intro hc
      refine ev_const (fun k => ?_)
      simp only [laws_eqIntS.l0]
      rw [if_neg (by omega)]
      have : l = m := List.ext_getElem hlm (fun j h1 h2 => hc j h1 h1)
      simp [this]
  · refine ev_ifn (by omega) ?_
    have : l ≠ m := fun hh => hlm (by rw [hh])
    exact ev_eq (ev_some _) (by simp [this])

theorem worst_same (l : List Int) (hl : l.length ≤ 4611686018427387904) : ∃ r, Ev (fun k => spec_WorstQuery.f k l) r ∧ Ev (fun k => impl_WorstQuery.f k l) r := by
  have h := pair_ev (σ := Int) l.length (fun i s => s < i) (fun k s i => spec_WorstQuery.l0 k l s (i : Int)) (fun k s i => impl_WorstQuery.l0 k l s l (l.length : Int) (i : Int)) ?_ ?_ (-1) (by omega)
  · exact h
  · intro i s hi hs
    by_cases c : s < 0
    · refine .inr ⟨(i : Int), by omega, fun k => ?_, fun k => ?_⟩
      · simp only [spec_WorstQuery.l0]
        rw [if_pos (by omega), if_pos c, wS hi (by omega)]
      · simp only [impl_WorstQuery.l0]
        rw [if_pos (by omega), if_pos (by omega), if_pos (by omega), if_pos c, wS hi (by omega)]
    · by_cases d : rd l (i : Int) > rd l s
      · refine .inr ⟨(i : Int), by omega, fun k => ?_, fun k => ?_⟩
        · simp only [spec_WorstQuery.l0]
          rw [if_pos (by omega), if_neg c, if_pos (by omega), if_pos (by omega), if_pos (by omega), if_pos d, wS hi (by omega)]
        · simp only [impl_WorstQuery.l0]
          rw [if_pos (by omega), if_pos (by omega), if_pos (by omega), if_neg c, if_pos (by omega), if_pos (by omega), if_pos d, wS hi (by omega)]
      · refine .inr ⟨s, by omega, fun k => ?_, fun k => ?_⟩
        · simp only [spec_WorstQuery.l0]
          rw [if_pos (by omega), if_neg c, if_pos (by omega), if_pos (by omega), if_pos (by omega), if_neg d, wS hi (by omega)]
        · simp only [impl_WorstQuery.l0]
          rw [if_pos (by omega), if_pos (by omega), if_pos (by omega), if_neg c, if_pos (by omega), if_pos (by omega), if_neg d, wS hi (by omega)]
  · intro s _
    refine ⟨s, ev_const (fun k => ?_), ev_const (fun k => ?_)⟩
    · simp only [spec_WorstQuery.l0]; rw [if_neg (by omega)]
    · simp only [impl_WorstQuery.l0]; rw [if_neg (by omega)]

end Go.Proofs.Ytmekpkajpjnkgaa.Pure.FnExactWorstQuery
namespace Go.Proofs.Ytmekpkajpjnkgaa.Pure
open Go.RowKit Go.Proofs.Ytmekpkajpjnkgaa.PFnExactWorstQuery Go.Proofs.YtmekpkajpjnkgaaW.PrintWords Go.Proofs.YtmekpkajpjnkgaaW.PrintLast Go.Proofs.YtmekpkajpjnkgaaW.PrintMore Go.Proofs.Ytmekpkajpjnkgaa.B Go.Proofs.Ytmekpkajpjnkgaa.Pure.FnExactWorstQuery
theorem FnExactWorstQuery : laws_FnExactWorstQuery.Pure := by
  intro l _ _ _
  by_cases hb : (l.length : Int) > 1048576
  · exact ⟨0, by unfold laws_FnExactWorstQuery.f; rw [if_pos hb]⟩
  · refine Ev.rounds (g := fun k => laws_FnExactWorstQuery.f k l) ?_
    unfold laws_FnExactWorstQuery.f
    obtain ⟨r, h1, h2⟩ := worst_same l (by omega)
    refine ev_ifn hb ?_
    refine Ev.bind (toIntS_ev l (by omega)) ?_
    refine Ev.bind h1 ?_
    refine Ev.bind (toIntS_ev l (by omega)) ?_
    refine Ev.bind h2 ?_
    refine ev_ifp rfl ?_
    refine Ev.bind (toIntS_ev l (by omega)) ?_
    refine Ev.bind (eqIntS_ev l l (by omega)) ?_
    exact ev_ifp (by simp) (ev_some _)

end Go.Proofs.Ytmekpkajpjnkgaa.Pure
