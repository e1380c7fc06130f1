/- IsItem of the program returns what the reference returns, for every item. No condition. -/
import Derived.Test.YtdjkjknofbhfnaaPFnExactIsItemx1
import Derived.Test.YtdjkjknofbhfnaaB
set_option linter.unusedVariables false
set_option linter.unusedSimpArgs false
namespace Go.Proofs.Ytdjkjknofbhfnaa.Pure
open Go.RowKit Go.Proofs.Ytdjkjknofbhfnaa.PFnExactIsItem Go.Proofs.YtdjkjknofbhfnaaW.PrintWords Go.Proofs.YtdjkjknofbhfnaaW.PrintLast Go.Proofs.YtdjkjknofbhfnaaW.PrintMore Go.Proofs.Ytdjkjknofbhfnaa.B


theorem FnExactIsItem : ∀ (a0_0 : Int) (a0_1 : Int), (Lit.int .i64 a0_0).wf = true → (Lit.int .i64 a0_1).wf = true → laws_FnExactIsItem.f a0_0 a0_1 = some true := by
  intro a b _ _
  unfold laws_FnExactIsItem.f laws_toItem.f spec_IsItem.f impl_IsItem.f spec_l1In.f
  simp only [Option.bind_some]
  by_cases h1 : a ≥ -999 <;> by_cases h2 : a ≤ 999 <;> by_cases h3 : b ≥ 0 <;> by_cases h4 : b ≤ 999 <;> simp [h1, h2, h3, h4]

end Go.Proofs.Ytdjkjknofbhfnaa.Pure
