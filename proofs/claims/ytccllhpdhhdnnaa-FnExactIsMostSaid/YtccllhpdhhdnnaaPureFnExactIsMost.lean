/- For all arguments IsMost of the program and of the reference answer alike. This text proves it of the plain functions, with no program in sight. Conditions: none but those of the given statement. -/
import Derived.Test.YtccllhpdhhdnnaaPFnExactIsMostx1
set_option linter.unusedVariables false
set_option linter.unusedSimpArgs false
namespace Go.Proofs.Ytccllhpdhhdnnaa.Pure
open Go Go.RowKit Go.Proofs.Ytccllhpdhhdnnaa.PFnExactIsMost Go.Proofs.YtccllhpdhhdnnaaW.PrintWords Go.Proofs.YtccllhpdhhdnnaaW.PrintLast Go.Proofs.YtccllhpdhhdnnaaW.PrintMore


theorem FnExactIsMost : laws_FnExactIsMost.Pure := by
  intro a b _ _
  simp [laws_FnExactIsMost.f, spec_IsMost.f, impl_IsMost.f]

end Go.Proofs.Ytccllhpdhhdnnaa.Pure
