/- For all arguments AccTake of the program and of the reference answer alike. This text proves it of the plain functions, with no program in sight. Conditions: none but those of the given statement. -/
import Derived.Test.YtnejpihjlkpcgaaPFnExactAccTakex1
set_option linter.unusedVariables false
set_option linter.unusedSimpArgs false
namespace Go.Proofs.Ytnejpihjlkpcgaa.Pure
open Go Go.RowKit Go.Proofs.Ytnejpihjlkpcgaa.PFnExactAccTake Go.Proofs.YtnejpihjlkpcgaaW.PrintWords Go.Proofs.YtnejpihjlkpcgaaW.PrintLast Go.Proofs.YtnejpihjlkpcgaaW.PrintMore

theorem wrap_id {x : Int} (h0 : -9223372036854775808 ≤ x) (h1 : x ≤ 9223372036854775807) : wrap64 x = x := by
  unfold wrap64; omega
theorem rd_eq (l : List Int) (i : Nat) (h : i < l.length) : rd l (i : Int) = l[i] := by
  simp [rd, h]
theorem succ_cast (i : Nat) : (i : Int) + 1 = ((i + 1 : Nat) : Int) := by omega
theorem take_set_same (l m : List Int) (i : Nat) (hi : i < l.length) (hm : m.length = l.length) (ht : m.take i = l.take i) : (m.set i l[i]).take (i + 1) = l.take (i + 1) := by
  rw [List.take_succ_eq_append_getElem (by simp; omega), List.take_succ_eq_append_getElem hi]
  simp [List.take_set_of_le, ht]
theorem natlt0 (n : Nat) : ((n : Int) < 0) = False := by simp
theorem wrap_nat (n : Nat) (h : n ≤ 9223372036854775807) : wrap64 (n : Int) = (n : Int) := wrap_id (by omega) (by omega)
theorem wrap_succ (n : Nat) (h : n < 9223372036854775807) : wrap64 ((n : Int) + 1) = ((n + 1 : Nat) : Int) := by rw [wrap_id (by omega) (by omega)]; omega
theorem u8_of_wf {x : Int} (h : (Lit.int .u8 x).wf = true) : 0 ≤ x ∧ x < 256 := by
  simp [Lit.wf, IntKind.min, IntKind.max, IntKind.signed, IntKind.bits] at h
  omega
theorem i64_of_wf {x : Int} (h : (Lit.int .i64 x).wf = true) : -9223372036854775808 ≤ x ∧ x ≤ 9223372036854775807 := by
  simp [Lit.wf, IntKind.min, IntKind.max, IntKind.signed, IntKind.bits] at h
  omega
theorem max_len {α : Type} {l : List α} (h : l.length ≤ maxLen) : l.length ≤ 9223372036854775807 := by
  unfold maxLen at h; omega
theorem rounds_of {f : Nat → Option Bool} (h : ∀ m, 20000000 ≤ m → f (m + 8) = some true) : ∃ k, f k = some true := by
  obtain ⟨m, hm⟩ : ∃ m : Nat, 20000000 ≤ m := ⟨_, Nat.le_refl _⟩
  exact ⟨m + 8, h m hm⟩

theorem accOk_both (a b c : Int) : ∃ r, spec_AccOk.f a b c = some r ∧ impl_AccOk.f a b c = some r := by
  have e3 : spec_AccOk.f a b c = impl_AccOk.f a b c := by
    simp only [spec_AccOk.f, impl_AccOk.f, spec_l01Num.f, spec_l07Val.f, impl_isNum.f, impl_isChoice.f, spec_l01In.f, impl_in.f]
    by_cases h0 : a ≥ 0 <;> by_cases h1 : a ≤ 1125899906842624 <;> by_cases h2 : b ≥ 0 <;> by_cases h3 : b ≤ a <;> by_cases h4 : b ≥ 1 <;> by_cases h9 : b > 0 <;> by_cases h5 : c ≥ 1 <;> by_cases h6 : c ≤ 4 <;> by_cases h7 : b = 0 <;> by_cases h8 : c = 0 <;> first | omega | skip
    all_goals (first | (simp [h0, h1, h2, h3, h4, h9, h5, h6, h7, h8]; done) | (simp [h0, h1, h2, h3, h4, h9, h5, h6, h7, h8]; omega))
  have e4 : ∃ r, impl_AccOk.f a b c = some r := by
    simp only [impl_AccOk.f, impl_isNum.f, impl_isChoice.f, impl_in.f]
    by_cases h0 : a ≥ 0 <;> by_cases h1 : a ≤ 1125899906842624 <;> by_cases h2 : b ≥ 0 <;> by_cases h3 : b ≤ a <;> by_cases h4 : b ≥ 1 <;> by_cases h9 : b > 0 <;> by_cases h5 : c ≥ 1 <;> by_cases h6 : c ≤ 4 <;> by_cases h7 : b = 0 <;> by_cases h8 : c = 0 <;> first | omega | skip
    all_goals simp [h0, h1, h2, h3, h4, h9, h5, h6, h7, h8]
  obtain ⟨r, hr⟩ := e4
  exact ⟨r, e3.trans hr, hr⟩

theorem accTake_law (a b c n v : Int) : laws_FnExactAccTake.f a b c n v = some true := by
  obtain ⟨r, h1, h2⟩ := accOk_both a b c
  have e1 : spec_l01In.f = impl_in.f := rfl
  have e2 : spec_l07Val.f v = impl_isChoice.f v := by unfold spec_l07Val.f impl_isChoice.f; rw [e1]
  have e3 : impl_isBallot.f n = impl_in.f n 1 1125899906842624 := by unfold impl_isBallot.f; cases impl_in.f n 1 1125899906842624 <;> rfl
  obtain ⟨p, hp⟩ : ∃ q, impl_in.f n 1 1125899906842624 = some q := by
    unfold impl_in.f; split <;> exact ⟨_, rfl⟩
  obtain ⟨q, hq⟩ : ∃ q, impl_isChoice.f v = some q := by
    unfold impl_isChoice.f impl_in.f; split <;> exact ⟨_, rfl⟩
  simp only [laws_FnExactAccTake.f, laws_toAcc.f, spec_AccTake.f, impl_AccTake.f, Option.bind_some, laws_eqAcc.f, e1, e2, e3, h1, h2, hp, hq]
  cases r <;> cases q <;> cases p <;> simp
  by_cases h : n < a <;> simp [h]
theorem FnExactAccTake (a0_0 : Int) (a0_1 : Int) (a0_2 : Int) (a1 : Int) (a2 : Int) (w0_0 : (Lit.int .i64 a0_0).wf = true) (w0_1 : (Lit.int .i64 a0_1).wf = true) (w0_2 : (Lit.int .i64 a0_2).wf = true) (w1 : (Lit.int .i64 a1).wf = true) (w2 : (Lit.int .i64 a2).wf = true) : laws_FnExactAccTake.f a0_0 a0_1 a0_2 a1 a2 = some true :=
  accTake_law _ _ _ _ _

end Go.Proofs.Ytnejpihjlkpcgaa.Pure
