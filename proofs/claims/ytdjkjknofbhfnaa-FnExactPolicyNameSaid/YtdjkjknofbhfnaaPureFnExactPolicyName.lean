/- PolicyName of the program returns what the reference returns, for every whole number. No condition. -/
import Derived.Test.YtdjkjknofbhfnaaPFnExactPolicyNamex1
set_option linter.unusedVariables false
set_option linter.unusedSimpArgs false
namespace Go.Proofs.Ytdjkjknofbhfnaa.Pure
open Go.RowKit Go.Proofs.Ytdjkjknofbhfnaa.PFnExactPolicyName Go.Proofs.YtdjkjknofbhfnaaW.PrintWords Go.Proofs.YtdjkjknofbhfnaaW.PrintLast Go.Proofs.YtdjkjknofbhfnaaW.PrintMore


theorem FnExactPolicyName : laws_FnExactPolicyName.Pure := by
  intro a0 _
  unfold laws_FnExactPolicyName.f spec_PolicyName.f impl_PolicyName.f spec_l1In.f
  by_cases h0 : a0 < 0
  · simp [h0, show ¬ (0 ≤ a0) by omega]
  · by_cases h2 : a0 > 2
    · simp [h0, h2, show (0 ≤ a0) by omega, show ¬ (a0 ≤ 2) by omega]
    · have : a0 = 0 ∨ a0 = 1 ∨ a0 = 2 := by omega
      rcases this with rfl | rfl | rfl <;> simp [rdOf]

end Go.Proofs.Ytdjkjknofbhfnaa.Pure
