/- IsRange of the program returns what the reference returns, for every range. No condition. -/
import Derived.Test.YtdjkjknofbhfnaaPFnExactIsRangex1
import Derived.Test.YtdjkjknofbhfnaaB
set_option linter.unusedVariables false
set_option linter.unusedSimpArgs false
namespace Go.Proofs.Ytdjkjknofbhfnaa.Pure
open Go.RowKit Go.Proofs.Ytdjkjknofbhfnaa.PFnExactIsRange Go.Proofs.YtdjkjknofbhfnaaW.PrintWords Go.Proofs.YtdjkjknofbhfnaaW.PrintLast Go.Proofs.YtdjkjknofbhfnaaW.PrintMore Go.Proofs.Ytdjkjknofbhfnaa.B


theorem FnExactIsRange : ∀ (a0_0 : Int) (a0_1 : Int), (Lit.int .i64 a0_0).wf = true → (Lit.int .i64 a0_1).wf = true → laws_FnExactIsRange.f a0_0 a0_1 = some true := by
  intro a b _ _
  unfold laws_FnExactIsRange.f laws_toRange.f spec_IsRange.f impl_IsRange.f spec_l1In.f
  simp only [Option.bind_some]
  by_cases h1 : a ≥ -1000 <;> by_cases h2 : a ≤ 1000 <;> by_cases h3 : b ≥ a <;> by_cases h4 : b ≤ 1000 <;> simp [h1, h2, h3, h4] <;> omega

end Go.Proofs.Ytdjkjknofbhfnaa.Pure
