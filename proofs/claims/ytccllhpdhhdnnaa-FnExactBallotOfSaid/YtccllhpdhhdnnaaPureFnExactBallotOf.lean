/- For all arguments BallotOf of the program and of the reference answer alike. This text proves it of the plain functions, with no program in sight. Conditions: none but those of the given statement. -/
import Derived.Test.YtccllhpdhhdnnaaPFnExactBallotOfx1
set_option linter.unusedVariables false
set_option linter.unusedSimpArgs false
namespace Go.Proofs.Ytccllhpdhhdnnaa.Pure
open Go Go.RowKit Go.Proofs.Ytccllhpdhhdnnaa.PFnExactBallotOf Go.Proofs.YtccllhpdhhdnnaaW.PrintWords Go.Proofs.YtccllhpdhhdnnaaW.PrintLast Go.Proofs.YtccllhpdhhdnnaaW.PrintMore


theorem FnExactBallotOf : laws_FnExactBallotOf.Pure := by
  intro a b _ _
  unfold laws_FnExactBallotOf.f spec_BallotOf.f impl_BallotOf.f spec_l07Node.f impl_isNode.f spec_l01In.f impl_in.f
  by_cases h0 : a ≥ 0 <;> by_cases h1 : a ≤ 1000000000 <;> by_cases h2 : b ≥ 0 <;> by_cases h3 : b ≤ 3 <;> simp [h0, h1, h2, h3]

end Go.Proofs.Ytccllhpdhhdnnaa.Pure
