/- InRange of the program returns what the reference returns, for every range and number. No condition. -/
import Derived.Test.YtdjkjknofbhfnaaPFnExactInRangex1
import Derived.Test.YtdjkjknofbhfnaaB
set_option linter.unusedVariables false
set_option linter.unusedSimpArgs false
namespace Go.Proofs.Ytdjkjknofbhfnaa.Pure
open Go.RowKit Go.Proofs.Ytdjkjknofbhfnaa.PFnExactInRange Go.Proofs.YtdjkjknofbhfnaaW.PrintWords Go.Proofs.YtdjkjknofbhfnaaW.PrintLast Go.Proofs.YtdjkjknofbhfnaaW.PrintMore Go.Proofs.Ytdjkjknofbhfnaa.B


theorem FnExactInRange : ∀ (a0_0 : Int) (a0_1 : Int) (a1 : Int), (Lit.int .i64 a0_0).wf = true → (Lit.int .i64 a0_1).wf = true → (Lit.int .i64 a1).wf = true → laws_FnExactInRange.f a0_0 a0_1 a1 = some true := by
  intro a b v _ hb hv
  have hbb := wf_bounds hb
  have hvb := wf_bounds hv
  unfold laws_FnExactInRange.f laws_toRange.f spec_InRange.f impl_InRange.f spec_IsRange.f impl_IsRange.f spec_l1In.f
  simp only [Option.bind_some]
  by_cases h1 : a ≥ -1000 <;> by_cases h2 : a ≤ 1000 <;> by_cases h3 : b ≥ a <;> by_cases h4 : b ≤ 1000 <;> simp [h1, h2, h3, h4] <;> first
    | omega
    | (rw [w64 (n := b - 1) (by omega) (by omega)]
       by_cases h5 : a ≤ v <;> by_cases h6 : v < b <;> simp [h5, h6] <;> omega)

end Go.Proofs.Ytdjkjknofbhfnaa.Pure
