/- NextSeed of the program returns what the reference returns, for every whole number. No condition. -/
import Derived.Test.YtdjkjknofbhfnaaPFnExactNextSeedx1
set_option linter.unusedVariables false
set_option linter.unusedSimpArgs false
namespace Go.Proofs.Ytdjkjknofbhfnaa.Pure
open Go.RowKit Go.Proofs.Ytdjkjknofbhfnaa.PFnExactNextSeed Go.Proofs.YtdjkjknofbhfnaaW.PrintWords Go.Proofs.YtdjkjknofbhfnaaW.PrintLast Go.Proofs.YtdjkjknofbhfnaaW.PrintMore

set_option linter.unusedVariables false
theorem tmod_cases (a : Int) (b : Int) (hb : 0 < b) : (0 ≤ a → Int.tmod a b = a % b) ∧ (a < 0 → Int.tmod a b = -((-a) % b)) := by
  refine ⟨fun h => Int.tmod_eq_emod_of_nonneg h, fun h => ?_⟩
  have e : a = -(-a) := by omega
  rw [e, Int.neg_tmod, Int.tmod_eq_emod_of_nonneg (by omega), Int.neg_neg]

theorem FnExactNextSeed : laws_FnExactNextSeed.Pure := by
  intro a0 _
  unfold laws_FnExactNextSeed.f spec_NextSeed.f impl_NextSeed.f
  obtain ⟨h1, h2⟩ := tmod_cases a0 10007 (by omega)
  generalize Int.tmod a0 10007 = t at *
  have ht : -10007 < t ∧ t < 10007 := by
    rcases Int.lt_or_le a0 0 with h | h
    · rw [h2 h]; omega
    · rw [h1 h]; omega
  clear h1 h2
  have w1 : wrap64 (t + 10007) = t + 10007 := by unfold wrap64; omega
  have m1 : Int.tmod (t + 10007) 10007 = (t + 10007) % 10007 := Int.tmod_eq_emod_of_nonneg (by omega)
  rw [w1, m1]
  by_cases h : t < 0
  · rw [if_pos h]
    have e : (t + 10007) % 10007 = t + 10007 := by omega
    rw [e]; simp
  · rw [if_neg h]
    have e : (t + 10007) % 10007 = t := by omega
    rw [e]; simp

end Go.Proofs.Ytdjkjknofbhfnaa.Pure
