/- Levels of the program returns what the reference returns, for every two whole numbers. No condition. -/
import Derived.Test.YtdjkjknofbhfnaaPFnExactLevelsx1
set_option linter.unusedVariables false
set_option linter.unusedSimpArgs false
namespace Go.Proofs.Ytdjkjknofbhfnaa.Pure
open Go.RowKit Go.Proofs.Ytdjkjknofbhfnaa.PFnExactLevels Go.Proofs.YtdjkjknofbhfnaaW.PrintWords Go.Proofs.YtdjkjknofbhfnaaW.PrintLast Go.Proofs.YtdjkjknofbhfnaaW.PrintMore

set_option linter.unusedVariables false
theorem levels_same (a1 : Int) (h1 : 0 < a1) : ∀ (d : Nat) (x n : Int) (k : Nat), x ≤ 1000000 → x ≤ d → 0 ≤ n → n + d ≤ 2000000 → d < k →
    ∃ r, spec_Levels.l0 k a1 n x = some r ∧ impl_Levels.l0 k x a1 n = some r := by
  intro d
  induction d with
  | zero =>
    intro x n k hx hd hn hnd hk
    obtain ⟨k, rfl⟩ : ∃ m, k = m + 1 := ⟨k - 1, by omega⟩
    refine ⟨n, ?_, ?_⟩
    · simp only [spec_Levels.l0]; rw [if_neg (by omega)]
    · simp only [impl_Levels.l0]; rw [if_neg (by omega)]
  | succ d ih =>
    intro x n k hx hd hn hnd hk
    obtain ⟨k, rfl⟩ : ∃ m, k = m + 1 := ⟨k - 1, by omega⟩
    by_cases c : x > a1
    · have e : Int.tdiv x 2 = x / 2 := Int.tdiv_eq_ediv_of_nonneg (by omega)
      have e1 : wrap64 (x / 2) = x / 2 := by unfold wrap64; omega
      have e2 : wrap64 (n + 1) = n + 1 := by unfold wrap64; omega
      obtain ⟨r, hs, hi⟩ := ih (x / 2) (n + 1) k (by omega) (by omega) (by omega) (by omega) (by omega)
      refine ⟨r, ?_, ?_⟩
      · simp only [spec_Levels.l0]; rw [if_pos c, if_pos (by omega), e, e1, e2]; exact hs
      · simp only [impl_Levels.l0]; rw [if_pos c, e, e1, e2]; exact hi
    · refine ⟨n, ?_, ?_⟩
      · simp only [spec_Levels.l0]; rw [if_neg c]
      · simp only [impl_Levels.l0]; rw [if_neg c]

theorem FnExactLevels : laws_FnExactLevels.Pure := by
  intro a0 a1 _ _
  unfold laws_FnExactLevels.f spec_Levels.f impl_Levels.f
  obtain ⟨K, hK⟩ : ∃ K, 1000001 < K := ⟨1000002, by omega⟩
  refine ⟨K, ?_⟩
  by_cases h : a1 ≤ 0
  · have : spec_Levels.l0 K a1 0 (mn a0 1000000) = some 0 := by
      obtain ⟨k, rfl⟩ : ∃ m, K = m + 1 := ⟨K - 1, by omega⟩
      simp only [spec_Levels.l0]
      by_cases c : mn a0 1000000 > a1
      · rw [if_pos c, if_neg (by omega)]
      · rw [if_neg c]
    rw [this, if_pos h]; rfl
  · have hm : mn a0 1000000 ≤ 1000000 := by unfold mn; split <;> omega
    obtain ⟨r, hs, hi⟩ := levels_same a1 (by omega) 1000000 (mn a0 1000000) 0 K hm (by omega) (by omega) (by omega) (by omega)
    rw [hs, if_neg h, hi]; simp

end Go.Proofs.Ytdjkjknofbhfnaa.Pure
