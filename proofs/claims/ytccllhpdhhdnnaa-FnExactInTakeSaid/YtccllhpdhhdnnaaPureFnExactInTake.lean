/- For all arguments InTake of the program and of the reference answer alike. This text proves it of the plain functions, with no program in sight. Conditions: none but those of the given statement. -/
import Derived.Test.YtccllhpdhhdnnaaPFnExactInTakex1
set_option linter.unusedVariables false
set_option linter.unusedSimpArgs false
namespace Go.Proofs.Ytccllhpdhhdnnaa.Pure
open Go Go.RowKit Go.Proofs.Ytccllhpdhhdnnaa.PFnExactInTake Go.Proofs.YtccllhpdhhdnnaaW.PrintWords Go.Proofs.YtccllhpdhhdnnaaW.PrintLast Go.Proofs.YtccllhpdhhdnnaaW.PrintMore


theorem FnExactInTake : laws_FnExactInTake.Pure := by
  intro a b _ _
  unfold laws_FnExactInTake.f spec_InTake.f impl_InTake.f
  by_cases h : a < b <;> by_cases h2 : a = wrap64 (b - 1)
  · rw [if_pos h, if_pos h2, if_pos h, if_pos h2.symm]; simp
  · rw [if_pos h, if_neg h2, if_pos h, if_neg (fun e => h2 e.symm)]; simp
  · rw [if_neg h, if_neg h]; simp
  · rw [if_neg h, if_neg h]; simp

end Go.Proofs.Ytccllhpdhhdnnaa.Pure
