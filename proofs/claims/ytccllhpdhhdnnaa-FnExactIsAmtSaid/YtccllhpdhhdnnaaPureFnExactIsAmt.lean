/- For all arguments IsAmt of the program and of the reference answer alike. This text proves it of the plain functions, with no program in sight. Conditions: none but those of the given statement. -/
import Derived.Test.YtccllhpdhhdnnaaPFnExactIsAmtx1
set_option linter.unusedVariables false
set_option linter.unusedSimpArgs false
namespace Go.Proofs.Ytccllhpdhhdnnaa.Pure
open Go Go.RowKit Go.Proofs.Ytccllhpdhhdnnaa.PFnExactIsAmt Go.Proofs.YtccllhpdhhdnnaaW.PrintWords Go.Proofs.YtccllhpdhhdnnaaW.PrintLast Go.Proofs.YtccllhpdhhdnnaaW.PrintMore


theorem FnExactIsAmt : laws_FnExactIsAmt.Pure := by
  intro a _
  have h : spec_l01In.f a 1 1000000000 = impl_in.f a 1 1000000000 := rfl
  unfold laws_FnExactIsAmt.f spec_IsAmt.f impl_IsAmt.f
  rw [h]
  unfold impl_in.f
  split <;> simp

end Go.Proofs.Ytccllhpdhhdnnaa.Pure
