/- For all messages MsgWorth of the program and of the reference answer alike. This text proves it of the plain functions, with no program in sight. Conditions: none but those of the given statement. -/
import Derived.Test.YtnejpihjlkpcgaaPFnExactMsgWorthx2
set_option linter.unusedVariables false
set_option linter.unusedSimpArgs false
namespace Go.Proofs.Ytnejpihjlkpcgaa.Pure
open Go Go.RowKit Go.Proofs.Ytnejpihjlkpcgaa.PFnExactMsgWorth Go.Proofs.YtnejpihjlkpcgaaW.PrintWords Go.Proofs.YtnejpihjlkpcgaaW.PrintLast Go.Proofs.YtnejpihjlkpcgaaW.PrintMore

theorem wrap_id {x : Int} (h0 : -9223372036854775808 ≤ x) (h1 : x ≤ 9223372036854775807) : wrap64 x = x := by
  unfold wrap64; omega
theorem rd_eq (l : List Int) (i : Nat) (h : i < l.length) : rd l (i : Int) = l[i] := by
  simp [rd, h]
theorem succ_cast (i : Nat) : (i : Int) + 1 = ((i + 1 : Nat) : Int) := by omega
theorem take_set_same (l m : List Int) (i : Nat) (hi : i < l.length) (hm : m.length = l.length) (ht : m.take i = l.take i) : (m.set i l[i]).take (i + 1) = l.take (i + 1) := by
  rw [List.take_succ_eq_append_getElem (by simp; omega), List.take_succ_eq_append_getElem hi]
  simp [List.take_set_of_le, ht]
theorem natlt0 (n : Nat) : ((n : Int) < 0) = False := by simp
theorem wrap_nat (n : Nat) (h : n ≤ 9223372036854775807) : wrap64 (n : Int) = (n : Int) := wrap_id (by omega) (by omega)
theorem wrap_succ (n : Nat) (h : n < 9223372036854775807) : wrap64 ((n : Int) + 1) = ((n + 1 : Nat) : Int) := by rw [wrap_id (by omega) (by omega)]; omega
theorem u8_of_wf {x : Int} (h : (Lit.int .u8 x).wf = true) : 0 ≤ x ∧ x < 256 := by
  simp [Lit.wf, IntKind.min, IntKind.max, IntKind.signed, IntKind.bits] at h
  omega
theorem i64_of_wf {x : Int} (h : (Lit.int .i64 x).wf = true) : -9223372036854775808 ≤ x ∧ x ≤ 9223372036854775807 := by
  simp [Lit.wf, IntKind.min, IntKind.max, IntKind.signed, IntKind.bits] at h
  omega
theorem max_len {α : Type} {l : List α} (h : l.length ≤ maxLen) : l.length ≤ 9223372036854775807 := by
  unfold maxLen at h; omega
theorem rounds_of {f : Nat → Option Bool} (h : ∀ m, 20000000 ≤ m → f (m + 8) = some true) : ∃ k, f k = some true := by
  obtain ⟨m, hm⟩ : ∃ m : Nat, 20000000 ≤ m := ⟨_, Nat.le_refl _⟩
  exact ⟨m + 8, h m hm⟩

theorem msgOk_eq (a b c d : Int) : ∃ r, ∀ k, 2 ≤ k → spec_MsgOk.f k a b c d = some r ∧ impl_MsgOk.f k a b c d = some r := by
  have e1 : spec_l01In.f = impl_in.f := rfl
  have e2 : spec_l01Num.f = impl_isNum.f := by funext x; unfold spec_l01Num.f impl_isNum.f; rw [e1]
  have e3 : spec_IsAmt.f = impl_IsAmt.f := by funext x; unfold spec_IsAmt.f impl_IsAmt.f; rw [e1]
  have j1 : ∀ k x y p q r s, spec_MsgOk.j1 (k + 1) x y p q r s = impl_MsgOk.j1 (k + 1) x y p q r s := by
    intro k x y p q r s
    simp only [spec_MsgOk.j1, impl_MsgOk.j1, e1, e2, e3]
  have j0 : ∀ k x p q r s, spec_MsgOk.j0 (k + 2) x p q r s = impl_MsgOk.j0 (k + 2) x p q r s := by
    intro k x p q r s
    simp only [spec_MsgOk.j0, impl_MsgOk.j0, j1]
  have t : ∀ n lo hi, ∃ r, impl_in.f n lo hi = some r := by
    intro n lo hi; unfold impl_in.f; split <;> exact ⟨_, rfl⟩
  have tj1 : ∀ x y p q r s, ∃ v, ∀ k, impl_MsgOk.j1 (k + 1) x y p q r s = some v := by
    intro x y p q r s
    simp only [impl_MsgOk.j1, impl_IsAmt.f, impl_isNum.f]
    obtain ⟨u1, h1⟩ := t r 1 1000000000
    obtain ⟨u2, h2⟩ := t r 0 3
    obtain ⟨u3, h3⟩ := t r 0 1125899906842624
    rw [h1, h2, h3]
    simp only [Option.bind_some]
    by_cases c1 : y = true <;> by_cases c2 : x = 4 <;> by_cases c3 : x = 5 <;> simp [c1, c2, c3]
  have tj0 : ∀ x p q r s, ∃ v, ∀ k, impl_MsgOk.j0 (k + 2) x p q r s = some v := by
    intro x p q r s
    simp only [impl_MsgOk.j0]
    obtain ⟨u1, h1⟩ := tj1 p (p == 1) p q r s
    obtain ⟨u2, h2⟩ := tj1 p (p == 2) p q r s
    obtain ⟨u3, h3⟩ := tj1 p (p == 3) p q r s
    simp only [h1, h2, h3]
    by_cases c1 : x = true <;> by_cases c2 : p = 1 <;> by_cases c3 : p = 2 <;> simp [c1, c2, c3]
  obtain ⟨b1, hb⟩ := t b 0 2
  obtain ⟨d1, hd⟩ := t d 0 2
  obtain ⟨v1, g1⟩ := tj0 false a b c d
  obtain ⟨v2, g2⟩ := tj0 true a b c d
  have key : ∀ k, spec_MsgOk.f (k + 2) a b c d = impl_MsgOk.f (k + 2) a b c d := by
    intro k
    unfold spec_MsgOk.f impl_MsgOk.f
    rw [e1, hb, hd]
    simp only [Option.bind_some, j0]
    cases b1 <;> cases d1 <;> simp
    have n1 : ∀ x y : Int, ¬ x = y → (x != y) = true := by intro x y h; simpa using h
    by_cases c1 : a = 2 <;> by_cases c2 : d = 0 <;> simp [c1, c2, n1]
  have tot : ∃ v, ∀ k, impl_MsgOk.f (k + 2) a b c d = some v := by
    unfold impl_MsgOk.f
    rw [hb, hd]
    simp only [Option.bind_some]
    obtain ⟨v3, g3⟩ := tj0 (a != 2) a b c d
    simp only [g1, g2, g3]
    by_cases c2 : d = 0 <;> cases b1 <;> cases d1 <;> simp [c2]
  obtain ⟨v, hv⟩ := tot
  refine ⟨v, fun k hk => ?_⟩
  obtain ⟨m, rfl⟩ : ∃ m, k = m + 2 := ⟨k - 2, by omega⟩
  exact ⟨(key m).trans (hv m), hv m⟩

theorem msgOk_kind (a b c d : Int) (k : Nat) (hk : 2 ≤ k) (h : impl_MsgOk.f k a b c d = some true) : 1 ≤ a ∧ a ≤ 5 := by
  obtain ⟨m, rfl⟩ : ∃ m, k = m + 2 := ⟨k - 2, by omega⟩
  have j1 : ∀ x y q r s, impl_MsgOk.j1 (m + 1) a x y q r s = some true → x = true ∨ a = 4 ∨ a = 5 := by
    intro x y q r s h
    simp only [impl_MsgOk.j1] at h
    by_cases c1 : x = true
    · exact Or.inl c1
    · rw [if_neg c1] at h
      by_cases c2 : a = 4
      · exact Or.inr (Or.inl c2)
      · rw [if_neg c2] at h
        by_cases c3 : a = 5
        · exact Or.inr (Or.inr c3)
        · rw [if_neg c3] at h; cases h
  have j0 : ∀ x q r s, impl_MsgOk.j0 (m + 2) x a q r s = some true → 1 ≤ a ∧ a ≤ 5 := by
    intro x q r s h
    simp only [impl_MsgOk.j0] at h
    cases x with
    | true => simp at h
    | false =>
      simp only [Bool.false_eq_true, if_false] at h
      by_cases c1 : a = 1
      · omega
      · rw [if_neg c1] at h
        by_cases c2 : a = 2
        · omega
        · rw [if_neg c2] at h
          rcases j1 _ _ _ _ _ h with h | h | h
          · have : a = 3 := by simpa using h
            omega
          · omega
          · omega
  unfold impl_MsgOk.f at h
  obtain ⟨x, _, h⟩ := Option.bind_eq_some_iff.mp h
  cases x with
  | false => exact j0 _ _ _ _ (by simpa using h)
  | true =>
    simp only [if_true] at h
    obtain ⟨y, _, h⟩ := Option.bind_eq_some_iff.mp h
    cases y with
    | false => exact j0 _ _ _ _ (by simpa using h)
    | true =>
      simp only [if_true] at h
      by_cases c : d = 0
      · rw [if_pos c] at h; exact j0 _ _ _ _ h
      · rw [if_neg c] at h; exact j0 _ _ _ _ h
theorem FnExactMsgWorth (a0_0 : Int) (a0_1 : Int) (a0_2 : Int) (a0_3 : Int) (w0_0 : (Lit.int .i64 a0_0).wf = true) (w0_1 : (Lit.int .i64 a0_1).wf = true) (w0_2 : (Lit.int .i64 a0_2).wf = true) (w0_3 : (Lit.int .i64 a0_3).wf = true) : ∃ k, laws_FnExactMsgWorth.f k a0_0 a0_1 a0_2 a0_3 = some true := by
  obtain ⟨r, h⟩ := msgOk_eq a0_0 a0_1 a0_2 a0_3
  obtain ⟨g1, g2⟩ := h 2 (Nat.le_refl _)
  refine ⟨2, ?_⟩
  have e : spec_MsgWorth.f 2 a0_0 a0_1 a0_2 a0_3 = impl_MsgWorth.f 2 a0_0 a0_1 a0_2 a0_3 ∧ ∃ v, impl_MsgWorth.f 2 a0_0 a0_1 a0_2 a0_3 = some v := by
    unfold spec_MsgWorth.f impl_MsgWorth.f
    rw [g1, g2]
    simp only [Option.bind_some]
    cases r with
    | false => simp
    | true =>
      obtain ⟨l, u⟩ := msgOk_kind _ _ _ _ 2 (Nat.le_refl _) g2
      have e : impl_in.f a0_0 1 3 = some (decide (a0_0 ≤ 3)) := by unfold impl_in.f; rw [if_pos l]
      rw [e]
      by_cases c : a0_0 > 3
      · have c' : ¬ a0_0 ≤ 3 := by omega
        simp [c, c']
      · have c' : a0_0 ≤ 3 := by omega
        simp [c, c']
  obtain ⟨e1, v, e2⟩ := e
  simp only [laws_FnExactMsgWorth.f, laws_toMsg.f, Option.bind_some, e1, e2, if_true]

end Go.Proofs.Ytnejpihjlkpcgaa.Pure
