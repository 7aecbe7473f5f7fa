/- For all arguments AccPrep of the program and of the reference answer alike. This text proves it of the plain functions, with no program in sight. Conditions: none but those of the given statement. -/
import Derived.Test.YtccllhpdhhdnnaaPFnExactAccPrepx1
set_option linter.unusedVariables false
set_option linter.unusedSimpArgs false
namespace Go.Proofs.Ytccllhpdhhdnnaa.Pure
open Go Go.RowKit Go.Proofs.Ytccllhpdhhdnnaa.PFnExactAccPrep Go.Proofs.YtccllhpdhhdnnaaW.PrintWords Go.Proofs.YtccllhpdhhdnnaaW.PrintLast Go.Proofs.YtccllhpdhhdnnaaW.PrintMore


theorem accPrep_law (a b c n : Int) : laws_FnExactAccPrep.f a b c n = some true := by
  simp only [laws_FnExactAccPrep.f, laws_toAcc.f, spec_AccPrep.f, impl_AccPrep.f]
  have e1 : spec_l01In.f = impl_in.f := rfl
  have e2 : spec_l01Num.f = impl_isNum.f := by funext x; unfold spec_l01Num.f impl_isNum.f; rw [e1]
  have e3 : spec_AccOk.f a b c = impl_AccOk.f a b c := by
    simp only [spec_AccOk.f, impl_AccOk.f, spec_l01Num.f, spec_l07Val.f, impl_isNum.f, impl_isChoice.f, spec_l01In.f, impl_in.f]
    by_cases h0 : a ≥ 0 <;> by_cases h1 : a ≤ 1125899906842624 <;> by_cases h2 : b ≥ 0 <;> by_cases h3 : b ≤ a <;> by_cases h4 : b ≥ 1 <;> by_cases h9 : b > 0 <;> by_cases h5 : c ≥ 1 <;> by_cases h6 : c ≤ 4 <;> by_cases h7 : b = 0 <;> by_cases h8 : c = 0 <;> first | omega | skip
    all_goals (first | (simp [h0, h1, h2, h3, h4, h9, h5, h6, h7, h8]; done) | (simp [h0, h1, h2, h3, h4, h9, h5, h6, h7, h8]; omega))
  have e4 : ∃ r, impl_AccOk.f a b c = some r := by
    simp only [impl_AccOk.f, impl_isNum.f, impl_isChoice.f, impl_in.f]
    by_cases h0 : a ≥ 0 <;> by_cases h1 : a ≤ 1125899906842624 <;> by_cases h2 : b ≥ 0 <;> by_cases h3 : b ≤ a <;> by_cases h4 : b ≥ 1 <;> by_cases h9 : b > 0 <;> by_cases h5 : c ≥ 1 <;> by_cases h6 : c ≤ 4 <;> by_cases h7 : b = 0 <;> by_cases h8 : c = 0 <;> first | omega | skip
    all_goals simp [h0, h1, h2, h3, h4, h9, h5, h6, h7, h8]
  obtain ⟨r, hr⟩ := e4
  obtain ⟨q, hq⟩ : ∃ q, impl_isNum.f n = some q := by
    unfold impl_isNum.f impl_in.f; split <;> exact ⟨_, rfl⟩
  simp only [Option.bind_some, laws_eqAcc.f, e2, e3, hr, hq]
  cases r <;> cases q <;> simp
  by_cases h : n ≤ a <;> simp [h]
theorem FnExactAccPrep (a0_0 : Int) (a0_1 : Int) (a0_2 : Int) (a1 : Int) (w0_0 : (Lit.int .i64 a0_0).wf = true) (w0_1 : (Lit.int .i64 a0_1).wf = true) (w0_2 : (Lit.int .i64 a0_2).wf = true) (w1 : (Lit.int .i64 a1).wf = true) : laws_FnExactAccPrep.f a0_0 a0_1 a0_2 a1 = some true :=
  accPrep_law _ _ _ _

end Go.Proofs.Ytccllhpdhhdnnaa.Pure
