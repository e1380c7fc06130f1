/- SwapBound of the program returns what the reference returns, for all arguments. No condition. -/
import Derived.Test.YtmekpkajpjnkgaaPFnExactSwapBoundx0
import Derived.Test.YtmekpkajpjnkgaaPFnExactSwapBoundx1
import Derived.Test.YtmekpkajpjnkgaaPFnExactSwapBoundx2
import Derived.Test.YtmekpkajpjnkgaaB
set_option linter.unusedVariables false
set_option linter.unusedSimpArgs false
namespace Go.Proofs.Ytmekpkajpjnkgaa.Pure.FnExactSwapBound
open Go.RowKit Go.Proofs.Ytmekpkajpjnkgaa.PFnExactSwapBound Go.Proofs.YtmekpkajpjnkgaaW.PrintWords Go.Proofs.YtmekpkajpjnkgaaW.PrintLast Go.Proofs.YtmekpkajpjnkgaaW.PrintMore Go.Proofs.Ytmekpkajpjnkgaa.B

def isS (p t s : Int) : Bool := decide (0 ≤ p ∧ p ≤ 2 ∧ 1 ≤ t ∧ t ≤ 64 ∧ 0 ≤ s ∧ s ≤ 10006)
theorem specIsSettings (a b c : Int) : spec_IsSettings.f a b c = some (isS a b c) := by
  unfold spec_IsSettings.f spec_l1In.f isS
  by_cases h1 : a ≥ 0 <;> by_cases h2 : a ≤ 2 <;> by_cases h3 : b ≥ 1 <;> by_cases h4 : b ≤ 64 <;> by_cases h5 : c ≥ 0 <;> by_cases h6 : c ≤ 10006 <;> simp [h1, h2, h3, h4, h5, h6] <;> omega
theorem implIsSettings (a b c : Int) : impl_IsSettings.f a b c = some (isS a b c) := by
  unfold impl_IsSettings.f isS
  by_cases h1 : a ≥ 0 <;> by_cases h2 : a ≤ 2 <;> by_cases h3 : b ≥ 1 <;> by_cases h4 : b ≤ 64 <;> by_cases h5 : c ≥ 0 <;> by_cases h6 : c ≤ 10006 <;> simp [h1, h2, h3, h4, h5, h6] <;> omega

theorem levels_l0 (t : Int) (h1 : 0 < t) : ∀ (d : Nat) (x n : Int), x ≤ 1000000 → x ≤ d → 0 ≤ n → n + d ≤ 2000000 →
    ∃ r, Ev (fun k => spec_Levels.l0 k t n x) r ∧ Ev (fun k => impl_Levels.l0 k x t n) r := by
  intro d
  induction d with
  | zero =>
    intro x n hx hd hn hnd
    refine ⟨n, ev_const (fun k => ?_), ev_const (fun k => ?_)⟩
    · simp only [spec_Levels.l0]; rw [if_neg (by omega)]
    · simp only [impl_Levels.l0]; rw [if_neg (by omega)]
  | succ d ih =>
    intro x n hx hd hn hnd
    by_cases c : x > t
    · have e : Int.tdiv x 2 = x / 2 := tdiv_nn (by omega)
      have e1 : wrap64 (x / 2) = x / 2 := w64 (by omega) (by omega)
      have e2 : wrap64 (n + 1) = n + 1 := w64 (by omega) (by omega)
      obtain ⟨r, hs, hi⟩ := ih (x / 2) (n + 1) (by omega) (by omega) (by omega) (by omega)
      refine ⟨r, Ev.step (fun k => ?_) hs, Ev.step (fun k => ?_) hi⟩
      · simp only [spec_Levels.l0]; rw [if_pos c, if_pos (by omega), e, e1, e2]
      · simp only [impl_Levels.l0]; rw [if_pos c, e, e1, e2]
    · refine ⟨n, ev_const (fun k => ?_), ev_const (fun k => ?_)⟩
      · simp only [spec_Levels.l0]; rw [if_neg c]
      · simp only [impl_Levels.l0]; rw [if_neg c]
theorem levels_ev (n t : Int) : ∃ r, Ev (fun k => spec_Levels.f k n t) r ∧ Ev (fun k => impl_Levels.f k n t) r := by
  unfold spec_Levels.f impl_Levels.f
  by_cases h : t ≤ 0
  · refine ⟨0, ev_const (fun k => ?_), ev_ifp h (ev_some _)⟩
    simp only [spec_Levels.l0]
    by_cases c : mn n 1000000 > t
    · rw [if_pos c, if_neg (by omega)]
    · rw [if_neg c]
  · have hm : mn n 1000000 ≤ 1000000 := by unfold mn; split <;> omega
    obtain ⟨r, hs, hi⟩ := levels_l0 t (by omega) 1000000 (mn n 1000000) 0 hm (by omega) (by omega) (by omega)
    exact ⟨r, hs, ev_ifn h hi⟩


end Go.Proofs.Ytmekpkajpjnkgaa.Pure.FnExactSwapBound
namespace Go.Proofs.Ytmekpkajpjnkgaa.Pure
open Go.RowKit Go.Proofs.Ytmekpkajpjnkgaa.PFnExactSwapBound Go.Proofs.YtmekpkajpjnkgaaW.PrintWords Go.Proofs.YtmekpkajpjnkgaaW.PrintLast Go.Proofs.YtmekpkajpjnkgaaW.PrintMore Go.Proofs.Ytmekpkajpjnkgaa.B Go.Proofs.Ytmekpkajpjnkgaa.Pure.FnExactSwapBound
theorem FnExactSwapBound : ∀ (a0 : Int) (a1_0 : Int) (a1_1 : Int) (a1_2 : Int) (a2 : Int), (Lit.int .i64 a0).wf = true → (Lit.int .i64 a1_0).wf = true → (Lit.int .i64 a1_1).wf = true → (Lit.int .i64 a1_2).wf = true → (Lit.int .i64 a2).wf = true → ∃ k, laws_FnExactSwapBound.f k a0 a1_0 a1_1 a1_2 a2 = some true := by
  intro n p t s q _ _ _ _ _
  refine Ev.rounds (g := fun k => laws_FnExactSwapBound.f k n p t s q) ?_
  have hsame : ∃ r, Ev (fun k => spec_SwapBound.f k n p t s q) r ∧ Ev (fun k => impl_SwapBound.f k n p t s q) r := by
    obtain ⟨lv, ls, li⟩ := levels_ev n t
    unfold spec_SwapBound.f impl_SwapBound.f
    simp only [specIsSettings, implIsSettings, Option.bind_some]
    have hf1 : Ev (fun k => spec_SwapBound.j0 k n q true p t s) 0 := ev_const (fun k => by simp [spec_SwapBound.j0])
    have hf2 : Ev (fun k => impl_SwapBound.j0 k n q true p t s) 0 := ev_const (fun k => by simp [impl_SwapBound.j0])
    unfold spec_l1In.f
    by_cases h1 : n < 0
    · simp only [if_neg (show ¬ n ≥ 0 by omega), if_pos h1, Option.bind_some]
      exact ⟨0, ev_ifn (by simp) hf1, hf2⟩
    by_cases h2 : n > 64
    · simp only [if_pos (show n ≥ 0 by omega), if_neg h1, if_pos h2, Option.bind_some]
      exact ⟨0, ev_ifn (by simp; omega) hf1, hf2⟩
    simp only [if_pos (show n ≥ 0 by omega), if_neg h1, if_neg h2, Option.bind_some, decide_eq_true (show n ≤ 64 by omega), if_true]
    by_cases h3 : q < 0
    · simp only [if_neg (show ¬ q ≥ 0 by omega), if_pos h3, Option.bind_some, Bool.not_false]
      refine ⟨0, ?_, hf2⟩
      cases isS p t s
      · exact ev_ifn (by simp) hf1
      · exact ev_ifp rfl hf1
    by_cases h4 : q > 30
    · simp only [if_pos (show q ≥ 0 by omega), if_neg h3, if_pos h4, Option.bind_some, decide_eq_false (show ¬ q ≤ 30 by omega), Bool.not_false]
      refine ⟨0, ?_, hf2⟩
      cases isS p t s
      · exact ev_ifn (by simp) hf1
      · exact ev_ifp rfl hf1
    simp only [if_pos (show q ≥ 0 by omega), if_neg h3, if_neg h4, Option.bind_some, decide_eq_true (show q ≤ 30 by omega), Bool.not_true]
    cases isS p t s with
    | false => exact ⟨0, ev_ifn (by simp) hf1, hf2⟩
    | true =>
      have hj : ∃ r, Ev (fun k => spec_SwapBound.j0 k n q false p t s) r ∧ Ev (fun k => impl_SwapBound.j0 k n q false p t s) r := by
        by_cases p0 : p = 0
        · exact ⟨_, ev_const (fun k => by simp only [spec_SwapBound.j0]; rw [if_neg (by simp), if_pos p0]), ev_const (fun k => by simp only [impl_SwapBound.j0]; rw [if_neg (by simp), if_pos p0])⟩
        by_cases p1 : p = 1
        · refine ⟨_, Ev.step (f := fun k => (spec_Levels.f k n t).bind fun v => some (wrap64 ((wrap64 (n * v)) + (wrap64 (t * q))))) (fun k => by simp only [spec_SwapBound.j0]; rw [if_neg (by simp), if_neg p0, if_pos p1]) (Ev.bind ls (ev_some _)), Ev.step (f := fun k => (impl_Levels.f k n t).bind fun v => some (wrap64 ((wrap64 (n * v)) + (wrap64 (t * q))))) (fun k => by simp only [impl_SwapBound.j0]; rw [if_neg (by simp), if_neg p0, if_pos p1]) (Ev.bind li (ev_some _))⟩
        · exact ⟨_, ev_const (fun k => by simp only [spec_SwapBound.j0]; rw [if_neg (by simp), if_neg p0, if_neg p1]), ev_const (fun k => by simp only [impl_SwapBound.j0]; rw [if_neg (by simp), if_neg p0, if_neg p1])⟩
      obtain ⟨r, a, b⟩ := hj
      exact ⟨r, ev_ifp rfl a, b⟩
  obtain ⟨r, h1, h2⟩ := hsame
  unfold laws_FnExactSwapBound.f laws_toSettings.f
  simp only [Option.bind_some]
  refine Ev.bind h1 (Ev.bind h2 ?_)
  exact ev_ifp rfl (ev_some _)

end Go.Proofs.Ytmekpkajpjnkgaa.Pure
