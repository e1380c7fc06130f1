/- IsSettings of the program returns what the reference returns, for all settings. No condition. -/
import Derived.Test.YtdjkjknofbhfnaaPFnExactIsSettingsx1
import Derived.Test.YtdjkjknofbhfnaaB
set_option linter.unusedVariables false
set_option linter.unusedSimpArgs false
namespace Go.Proofs.Ytdjkjknofbhfnaa.Pure
open Go.RowKit Go.Proofs.Ytdjkjknofbhfnaa.PFnExactIsSettings Go.Proofs.YtdjkjknofbhfnaaW.PrintWords Go.Proofs.YtdjkjknofbhfnaaW.PrintLast Go.Proofs.YtdjkjknofbhfnaaW.PrintMore Go.Proofs.Ytdjkjknofbhfnaa.B


theorem FnExactIsSettings : ∀ (a0_0 : Int) (a0_1 : Int) (a0_2 : Int), (Lit.int .i64 a0_0).wf = true → (Lit.int .i64 a0_1).wf = true → (Lit.int .i64 a0_2).wf = true → laws_FnExactIsSettings.f a0_0 a0_1 a0_2 = some true := by
  intro a b c _ _ _
  unfold laws_FnExactIsSettings.f laws_toSettings.f spec_IsSettings.f impl_IsSettings.f spec_l1In.f
  simp only [Option.bind_some]
  by_cases h1 : a ≥ 0 <;> by_cases h2 : a ≤ 2 <;> by_cases h3 : b ≥ 1 <;> by_cases h4 : b ≤ 64 <;> by_cases h5 : c ≥ 0 <;> by_cases h6 : c ≤ 10006 <;> simp [h1, h2, h3, h4, h5, h6]

end Go.Proofs.Ytdjkjknofbhfnaa.Pure
