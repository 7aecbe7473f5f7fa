/- For all arguments MsgOk of the program and of the reference answer alike. This text proves it of the plain functions, with no program in sight. Conditions: none but those of the given statement. -/
import Derived.Test.YtccllhpdhhdnnaaPFnExactMsgOkx2
set_option linter.unusedVariables false
set_option linter.unusedSimpArgs false
namespace Go.Proofs.Ytccllhpdhhdnnaa.Pure
open Go Go.RowKit Go.Proofs.Ytccllhpdhhdnnaa.PFnExactMsgOk Go.Proofs.YtccllhpdhhdnnaaW.PrintWords Go.Proofs.YtccllhpdhhdnnaaW.PrintLast Go.Proofs.YtccllhpdhhdnnaaW.PrintMore


theorem msgOk_eq (a b c d : Int) : ∃ r, ∀ k, 2 ≤ k → spec_MsgOk.f k a b c d = some r ∧ impl_MsgOk.f k a b c d = some r := by
  have e1 : spec_l01In.f = impl_in.f := rfl
  have e2 : spec_l01Num.f = impl_isNum.f := by funext x; unfold spec_l01Num.f impl_isNum.f; rw [e1]
  have e3 : spec_IsAmt.f = impl_IsAmt.f := by funext x; unfold spec_IsAmt.f impl_IsAmt.f; rw [e1]
  have j1 : ∀ k x y p q r s, spec_MsgOk.j1 (k + 1) x y p q r s = impl_MsgOk.j1 (k + 1) x y p q r s := by
    intro k x y p q r s
    simp only [spec_MsgOk.j1, impl_MsgOk.j1, e1, e2, e3]
  have j0 : ∀ k x p q r s, spec_MsgOk.j0 (k + 2) x p q r s = impl_MsgOk.j0 (k + 2) x p q r s := by
    intro k x p q r s
    simp only [spec_MsgOk.j0, impl_MsgOk.j0, j1]
  have t : ∀ n lo hi, ∃ r, impl_in.f n lo hi = some r := by
    intro n lo hi; unfold impl_in.f; split <;> exact ⟨_, rfl⟩
  have tj1 : ∀ x y p q r s, ∃ v, ∀ k, impl_MsgOk.j1 (k + 1) x y p q r s = some v := by
    intro x y p q r s
    simp only [impl_MsgOk.j1, impl_IsAmt.f, impl_isNum.f]
    obtain ⟨u1, h1⟩ := t r 1 1000000000
    obtain ⟨u2, h2⟩ := t r 0 3
    obtain ⟨u3, h3⟩ := t r 0 1125899906842624
    rw [h1, h2, h3]
    simp only [Option.bind_some]
    by_cases c1 : y = true <;> by_cases c2 : x = 4 <;> by_cases c3 : x = 5 <;> simp [c1, c2, c3]
  have tj0 : ∀ x p q r s, ∃ v, ∀ k, impl_MsgOk.j0 (k + 2) x p q r s = some v := by
    intro x p q r s
    simp only [impl_MsgOk.j0]
    obtain ⟨u1, h1⟩ := tj1 p (p == 1) p q r s
    obtain ⟨u2, h2⟩ := tj1 p (p == 2) p q r s
    obtain ⟨u3, h3⟩ := tj1 p (p == 3) p q r s
    simp only [h1, h2, h3]
    by_cases c1 : x = true <;> by_cases c2 : p = 1 <;> by_cases c3 : p = 2 <;> simp [c1, c2, c3]
  obtain ⟨b1, hb⟩ := t b 0 2
  obtain ⟨d1, hd⟩ := t d 0 2
  obtain ⟨v1, g1⟩ := tj0 false a b c d
  obtain ⟨v2, g2⟩ := tj0 true a b c d
  have key : ∀ k, spec_MsgOk.f (k + 2) a b c d = impl_MsgOk.f (k + 2) a b c d := by
    intro k
    unfold spec_MsgOk.f impl_MsgOk.f
    rw [e1, hb, hd]
    simp only [Option.bind_some, j0]
    cases b1 <;> cases d1 <;> simp
    have n1 : ∀ x y : Int, ¬ x = y → (x != y) = true := by intro x y h; simpa using h
    by_cases c1 : a = 2 <;> by_cases c2 : d = 0 <;> simp [c1, c2, n1]
  have tot : ∃ v, ∀ k, impl_MsgOk.f (k + 2) a b c d = some v := by
    unfold impl_MsgOk.f
    rw [hb, hd]
    simp only [Option.bind_some]
    obtain ⟨v3, g3⟩ := tj0 (a != 2) a b c d
    simp only [g1, g2, g3]
    by_cases c2 : d = 0 <;> cases b1 <;> cases d1 <;> simp [c2]
  obtain ⟨v, hv⟩ := tot
  refine ⟨v, fun k hk => ?_⟩
  obtain ⟨m, rfl⟩ : ∃ m, k = m + 2 := ⟨k - 2, by omega⟩
  exact ⟨(key m).trans (hv m), hv m⟩
theorem msgOk_law (a b c d : Int) : ∃ k, laws_FnExactMsgOk.f k a b c d = some true := by
  obtain ⟨r, h⟩ := msgOk_eq a b c d
  refine ⟨2, ?_⟩
  simp only [laws_FnExactMsgOk.f, laws_toMsg.f, Option.bind_some, (h 2 (Nat.le_refl _)).1, (h 2 (Nat.le_refl _)).2]
  simp
theorem FnExactMsgOk (a0_0 : Int) (a0_1 : Int) (a0_2 : Int) (a0_3 : Int) (w0_0 : (Lit.int .i64 a0_0).wf = true) (w0_1 : (Lit.int .i64 a0_1).wf = true) (w0_2 : (Lit.int .i64 a0_2).wf = true) (w0_3 : (Lit.int .i64 a0_3).wf = true) : ∃ k, laws_FnExactMsgOk.f k a0_0 a0_1 a0_2 a0_3 = some true :=
  msgOk_law _ _ _ _

end Go.Proofs.Ytccllhpdhhdnnaa.Pure
