/- For all arguments AccOk of the program and of the reference answer alike. This text proves it of the plain functions, with no program in sight. Conditions: none but those of the given statement. -/
import Derived.Test.YtccllhpdhhdnnaaPFnExactAccOkx1
set_option linter.unusedVariables false
set_option linter.unusedSimpArgs false
namespace Go.Proofs.Ytccllhpdhhdnnaa.Pure
open Go Go.RowKit Go.Proofs.Ytccllhpdhhdnnaa.PFnExactAccOk Go.Proofs.YtccllhpdhhdnnaaW.PrintWords Go.Proofs.YtccllhpdhhdnnaaW.PrintLast Go.Proofs.YtccllhpdhhdnnaaW.PrintMore


theorem accOk_law (a b c : Int) : laws_FnExactAccOk.f a b c = some true := by
  simp only [laws_FnExactAccOk.f, laws_toAcc.f, spec_AccOk.f, impl_AccOk.f, spec_l01Num.f, spec_l07Val.f, impl_isNum.f, impl_isChoice.f, spec_l01In.f, impl_in.f, Option.bind_some]
  by_cases h0 : a ≥ 0 <;> by_cases h1 : a ≤ 1125899906842624 <;> by_cases h2 : b ≥ 0 <;> by_cases h3 : b ≤ a <;> by_cases h4 : b ≥ 1 <;> by_cases h9 : b > 0 <;> by_cases h5 : c ≥ 1 <;> by_cases h6 : c ≤ 4 <;> by_cases h7 : b = 0 <;> by_cases h8 : c = 0 <;> first | omega | skip
  all_goals (first | (simp [h0, h1, h2, h3, h4, h9, h5, h6, h7, h8]; done) | (simp [h0, h1, h2, h3, h4, h9, h5, h6, h7, h8]; omega))
theorem FnExactAccOk (a0_0 : Int) (a0_1 : Int) (a0_2 : Int) (w0_0 : (Lit.int .i64 a0_0).wf = true) (w0_1 : (Lit.int .i64 a0_1).wf = true) (w0_2 : (Lit.int .i64 a0_2).wf = true) : laws_FnExactAccOk.f a0_0 a0_1 a0_2 = some true :=
  accOk_law _ _ _

end Go.Proofs.Ytccllhpdhhdnnaa.Pure
