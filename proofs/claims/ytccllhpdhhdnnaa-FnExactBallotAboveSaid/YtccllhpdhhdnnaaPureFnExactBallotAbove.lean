/- For all arguments BallotAbove of the program and of the reference answer alike. This text proves it of the plain functions, with no program in sight. Conditions: none but those of the given statement. -/
import Derived.Test.YtccllhpdhhdnnaaPFnExactBallotAbovex1
set_option linter.unusedVariables false
set_option linter.unusedSimpArgs false
namespace Go.Proofs.Ytccllhpdhhdnnaa.Pure
open Go Go.RowKit Go.Proofs.Ytccllhpdhhdnnaa.PFnExactBallotAbove Go.Proofs.YtccllhpdhhdnnaaW.PrintWords Go.Proofs.YtccllhpdhhdnnaaW.PrintLast Go.Proofs.YtccllhpdhhdnnaaW.PrintMore

theorem wrap_id {x : Int} (h0 : -9223372036854775808 ≤ x) (h1 : x ≤ 9223372036854775807) : wrap64 x = x := by
  unfold wrap64; omega
theorem rd_eq (l : List Int) (i : Nat) (h : i < l.length) : rd l (i : Int) = l[i] := by
  simp [rd, h]
theorem succ_cast (i : Nat) : (i : Int) + 1 = ((i + 1 : Nat) : Int) := by omega
theorem take_set_same (l m : List Int) (i : Nat) (hi : i < l.length) (hm : m.length = l.length) (ht : m.take i = l.take i) : (m.set i l[i]).take (i + 1) = l.take (i + 1) := by
  rw [List.take_succ_eq_append_getElem (by simp; omega), List.take_succ_eq_append_getElem hi]
  simp [List.take_set_of_le, ht]

theorem FnExactBallotAbove : laws_FnExactBallotAbove.Pure := by
  intro a b _ _
  refine ⟨1, ?_⟩
  unfold laws_FnExactBallotAbove.f spec_BallotAbove.f impl_BallotAbove.f spec_l07Node.f impl_isNode.f spec_l01In.f impl_in.f
  by_cases h0 : a ≥ 0
  case neg => simp [if_neg h0, spec_BallotAbove.j0, impl_BallotAbove.j0]
  by_cases h1 : a ≤ 1000000000
  case neg => simp [if_pos h0, h1, spec_BallotAbove.j0, impl_BallotAbove.j0]
  by_cases h2 : b ≥ 0
  case neg => simp [if_pos h0, h1, if_neg h2, spec_BallotAbove.j0, impl_BallotAbove.j0]
  by_cases h3 : b ≤ 3
  case neg => simp [if_pos h0, h1, if_pos h2, h3, spec_BallotAbove.j0, impl_BallotAbove.j0]
  have ha4 : Int.tdiv a 4 = a / 4 := Int.tdiv_eq_ediv_of_nonneg h0
  have hs : spec_BallotOf.f (a / 4) b = some (a / 4 * 4 + b + 1) := by
    have e1 : wrap64 (a / 4 * 4) = a / 4 * 4 := wrap_id (by omega) (by omega)
    have e2 : wrap64 (a / 4 * 4 + b) = a / 4 * 4 + b := wrap_id (by omega) (by omega)
    have e3 : wrap64 (a / 4 * 4 + b + 1) = a / 4 * 4 + b + 1 := wrap_id (by omega) (by omega)
    unfold spec_BallotOf.f spec_l07Node.f spec_l01In.f
    rw [if_pos (by omega), if_pos h2]
    simp only [Option.bind_some]
    rw [if_pos (by simp; omega), if_pos (by simp; omega), e1, e2, e3]
  have w1 : wrap64 (Int.tdiv a 4) = a / 4 := by rw [ha4]; exact wrap_id (by omega) (by omega)
  have w2 : wrap64 (b + 1) = b + 1 := wrap_id (by omega) (by omega)
  simp only [if_pos h0, if_pos h2, Option.bind_some, decide_eq_true h1, decide_eq_true h3, if_true, Bool.not_true, spec_BallotAbove.j0, impl_BallotAbove.j0, Bool.false_eq_true, if_false]
  rw [w1, hs, w2]
  simp only [Option.bind_some]
  have w3 : wrap64 (a / 4 * 4 + b + 1 + 4) = a / 4 * 4 + b + 1 + 4 := wrap_id (by omega) (by omega)
  by_cases h4 : a < b + 1
  · rw [if_pos (by omega : a / 4 * 4 + b + 1 > a), if_pos h4]
    have : a / 4 = 0 := by omega
    simp [this]
  · have w4 : wrap64 (a - b) = a - b := wrap_id (by omega) (by omega)
    have w5 : wrap64 (a - b - 1) = a - b - 1 := wrap_id (by omega) (by omega)
    have t1 : Int.tdiv (a - b - 1) 4 = (a - b - 1) / 4 := Int.tdiv_eq_ediv_of_nonneg (by omega)
    have w6 : wrap64 ((a - b - 1) / 4) = (a - b - 1) / 4 := wrap_id (by omega) (by omega)
    have w7 : wrap64 ((a - b - 1) / 4 + 1) = (a - b - 1) / 4 + 1 := wrap_id (by omega) (by omega)
    have w8 : wrap64 (((a - b - 1) / 4 + 1) * 4) = ((a - b - 1) / 4 + 1) * 4 := wrap_id (by omega) (by omega)
    have w9 : wrap64 (((a - b - 1) / 4 + 1) * 4 + b) = ((a - b - 1) / 4 + 1) * 4 + b := wrap_id (by omega) (by omega)
    have w10 : wrap64 (((a - b - 1) / 4 + 1) * 4 + b + 1) = ((a - b - 1) / 4 + 1) * 4 + b + 1 := wrap_id (by omega) (by omega)
    rw [if_neg h4, w4, w5, t1, w6, w7, w8, w9, w10, w3]
    by_cases h5 : a / 4 * 4 + b + 1 > a
    · rw [if_pos h5]; simp only [Option.bind_some]; rw [if_pos (by omega)]
    · rw [if_neg h5]; simp only [Option.bind_some]; rw [if_pos (by omega)]

end Go.Proofs.Ytccllhpdhhdnnaa.Pure
