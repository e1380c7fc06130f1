/- MeetRanges of the program returns what the reference returns, for every two ranges. No condition. -/
import Derived.Test.YtmekpkajpjnkgaaPFnExactMeetRangesx0
import Derived.Test.YtmekpkajpjnkgaaPFnExactMeetRangesx1
import Derived.Test.YtmekpkajpjnkgaaPFnExactMeetRangesx2
import Derived.Test.YtmekpkajpjnkgaaB
set_option linter.unusedVariables false
set_option linter.unusedSimpArgs false
namespace Go.Proofs.Ytmekpkajpjnkgaa.Pure.FnExactMeetRanges
open Go.RowKit Go.Proofs.Ytmekpkajpjnkgaa.PFnExactMeetRanges Go.Proofs.YtmekpkajpjnkgaaW.PrintWords Go.Proofs.YtmekpkajpjnkgaaW.PrintLast Go.Proofs.YtmekpkajpjnkgaaW.PrintMore Go.Proofs.Ytmekpkajpjnkgaa.B

def isR (a b : Int) : Bool := decide (-1000 ≤ a ∧ a ≤ b ∧ b ≤ 1000)
theorem specIsRange (a b : Int) : spec_IsRange.f a b = some (isR a b) := by
  unfold spec_IsRange.f spec_l1In.f isR
  by_cases h1 : a ≥ -1000 <;> by_cases h2 : a ≤ 1000 <;> by_cases h3 : b ≥ a <;> by_cases h4 : b ≤ 1000 <;> simp [h1, h2, h3, h4] <;> omega
theorem implIsRange (a b : Int) : impl_IsRange.f a b = some (isR a b) := by
  unfold impl_IsRange.f isR
  by_cases h1 : -1000 ≤ a <;> by_cases h3 : a ≤ b <;> by_cases h4 : b ≤ 1000 <;> simp [h1, h3, h4]


end Go.Proofs.Ytmekpkajpjnkgaa.Pure.FnExactMeetRanges
namespace Go.Proofs.Ytmekpkajpjnkgaa.Pure
open Go.RowKit Go.Proofs.Ytmekpkajpjnkgaa.PFnExactMeetRanges Go.Proofs.YtmekpkajpjnkgaaW.PrintWords Go.Proofs.YtmekpkajpjnkgaaW.PrintLast Go.Proofs.YtmekpkajpjnkgaaW.PrintMore Go.Proofs.Ytmekpkajpjnkgaa.B Go.Proofs.Ytmekpkajpjnkgaa.Pure.FnExactMeetRanges
theorem FnExactMeetRanges : ∀ (a0_0 : Int) (a0_1 : Int) (a1_0 : Int) (a1_1 : Int), (Lit.int .i64 a0_0).wf = true → (Lit.int .i64 a0_1).wf = true → (Lit.int .i64 a1_0).wf = true → (Lit.int .i64 a1_1).wf = true → laws_FnExactMeetRanges.f a0_0 a0_1 a1_0 a1_1 = some true := by
  intro a b c d _ _ _ _
  unfold laws_FnExactMeetRanges.f laws_toRange.f spec_MeetRanges.f impl_MeetRanges.f laws_eqRange.f
  simp only [Option.bind_some, specIsRange, implIsRange]
  cases isR a b <;> cases isR c d <;> simp

end Go.Proofs.Ytmekpkajpjnkgaa.Pure
