/- For all queues OutSame of the program and of the reference answer alike. This text proves it of the plain functions, with no program in sight. Conditions: none but those of the given statement. -/
import Derived.Test.YtgkjbechcbbgjaaPFnExactOutSamex4
set_option linter.unusedVariables false
set_option linter.unusedSimpArgs false
namespace Go.Proofs.Ytgkjbechcbbgjaa.Pure
open Go Go.RowKit Go.Proofs.Ytgkjbechcbbgjaa.PFnExactOutSame Go.Proofs.YtgkjbechcbbgjaaW.PrintWords Go.Proofs.YtgkjbechcbbgjaaW.PrintLast Go.Proofs.YtgkjbechcbbgjaaW.PrintMore

theorem wrap_id {x : Int} (h0 : -9223372036854775808 ≤ x) (h1 : x ≤ 9223372036854775807) : wrap64 x = x := by
  unfold wrap64; omega
theorem rd_eq (l : List Int) (i : Nat) (h : i < l.length) : rd l (i : Int) = l[i] := by
  simp [rd, h]
theorem succ_cast (i : Nat) : (i : Int) + 1 = ((i + 1 : Nat) : Int) := by omega
theorem take_set_same (l m : List Int) (i : Nat) (hi : i < l.length) (hm : m.length = l.length) (ht : m.take i = l.take i) : (m.set i l[i]).take (i + 1) = l.take (i + 1) := by
  rw [List.take_succ_eq_append_getElem (by simp; omega), List.take_succ_eq_append_getElem hi]
  simp [List.take_set_of_le, ht]
theorem natlt0 (n : Nat) : ((n : Int) < 0) = False := by simp
theorem wrap_nat (n : Nat) (h : n ≤ 9223372036854775807) : wrap64 (n : Int) = (n : Int) := wrap_id (by omega) (by omega)
theorem wrap_succ (n : Nat) (h : n < 9223372036854775807) : wrap64 ((n : Int) + 1) = ((n + 1 : Nat) : Int) := by rw [wrap_id (by omega) (by omega)]; omega
theorem u8_of_wf {x : Int} (h : (Lit.int .u8 x).wf = true) : 0 ≤ x ∧ x < 256 := by
  simp [Lit.wf, IntKind.min, IntKind.max, IntKind.signed, IntKind.bits] at h
  omega
theorem i64_of_wf {x : Int} (h : (Lit.int .i64 x).wf = true) : -9223372036854775808 ≤ x ∧ x ≤ 9223372036854775807 := by
  simp [Lit.wf, IntKind.min, IntKind.max, IntKind.signed, IntKind.bits] at h
  omega
theorem max_len {α : Type} {l : List α} (h : l.length ≤ maxLen) : l.length ≤ 9223372036854775807 := by
  unfold maxLen at h; omega
theorem rounds_of {f : Nat → Option Bool} (h : ∀ m, 20000000 ≤ m → f (m + 8) = some true) : ∃ k, f k = some true := by
  obtain ⟨m, hm⟩ : ∃ m : Nat, 20000000 ≤ m := ⟨_, Nat.le_refl _⟩
  exact ⟨m + 8, h m hm⟩

theorem rd_M (l : List S53) (i : Nat) (h : i < l.length) : rd_T53 l (i : Int) = l[i] := by
  simp [rd_T53, h]
theorem eqMsgS_l0 (l : List S53) (hl : l.length ≤ 140737488351232) (d : Nat) : ∀ (k : Nat) (i : Nat), i + d = l.length → d < k → laws_eqMsgS.l0 k l l (i : Int) = some true := by
  induction d with
  | zero =>
    intro k i hi hk
    obtain ⟨k, rfl⟩ : ∃ m, k = m + 1 := ⟨k - 1, by omega⟩
    simp only [laws_eqMsgS.l0]
    rw [if_neg (by omega)]
  | succ d ih =>
    intro k i hi hk
    obtain ⟨k, rfl⟩ : ∃ m, k = m + 1 := ⟨k - 1, by omega⟩
    simp only [laws_eqMsgS.l0, laws_eqMsg.f, if_true, Option.bind_some]
    rw [if_pos (by omega), if_pos (by omega), if_pos (by omega), wrap_id (by omega) (by omega), succ_cast]
    exact ih k (i + 1) (by omega) (by omega)
theorem eqMsgS_refl (l : List S53) (k : Nat) (hk : l.length < k) (hl : l.length ≤ 140737488351232) : laws_eqMsgS.f k l l = some true := by
  unfold laws_eqMsgS.f
  rw [if_pos rfl]
  exact eqMsgS_l0 l hl l.length k 0 (by omega) hk
theorem eqOut_refl (n : Int) (l : List S53) (k : Nat) (hk : l.length < k) (hl : l.length ≤ 140737488351232) : laws_eqOut.f k n l n l = some true := by
  unfold laws_eqOut.f
  rw [if_pos rfl, eqMsgS_refl l k hk hl, Option.bind_some, if_pos rfl]

theorem rd_L (l : List S51) (i : Nat) (h : i < l.length) : rd_T51 l (i : Int) = l[i] := by
  simp [rd_T51, h]
def conv (x : S51) : S53 := ⟨x.f0, x.f1, x.f2, x.f3⟩
theorem toMsgS_l0 (l : List S51) (hl : l.length ≤ 140737488351232) (d : Nat) : ∀ (k : Nat) (x3 : List S53) (i : Nat), i + d = l.length → d < k → x3.length = l.length → x3.take i = (l.map conv).take i → laws_toMsgS.l0 k l x3 (i : Int) = some (l.map conv) := by
  induction d with
  | zero =>
    intro k x3 i hi hk h3 ht
    obtain ⟨k, rfl⟩ : ∃ m, k = m + 1 := ⟨k - 1, by omega⟩
    simp only [laws_toMsgS.l0]
    rw [if_neg (by omega)]
    rw [List.take_of_length_le (by omega), List.take_of_length_le (by rw [List.length_map]; omega)] at ht
    rw [ht]
  | succ d ih =>
    intro k x3 i hi hk h3 ht
    obtain ⟨k, rfl⟩ : ∃ m, k = m + 1 := ⟨k - 1, by omega⟩
    have hlt : i < l.length := by omega
    simp only [laws_toMsgS.l0, laws_toMsg.f, Option.bind_some]
    rw [if_pos (by omega), if_pos (by omega), if_pos (by omega), wrap_id (by omega) (by omega), succ_cast, Int.toNat_natCast, rd_L l i hlt]
    refine ih k _ (i + 1) (by omega) (by omega) (by simp [h3]) ?_
    rw [List.take_succ_eq_append_getElem (by simp; omega), List.take_succ_eq_append_getElem (by simp; omega)]
    simp [List.take_set_of_le, ht, conv]
theorem toMsgS_f (l : List S51) (k : Nat) (hk : l.length < k) (hl : l.length ≤ 1048576) : laws_toMsgS.f k l = some (l.map conv) := by
  unfold laws_toMsgS.f
  rw [if_pos (by omega), if_pos (by omega)]
  exact toMsgS_l0 l (by omega) l.length k _ 0 (by omega) hk (by simp) (by simp)
theorem toOut_f (n : Int) (l : List S51) (k : Nat) (hk : l.length < k) (hl : l.length ≤ 1048576) : laws_toOut.f k n l = some (n, l.map conv) := by
  unfold laws_toOut.f
  rw [toMsgS_f l k hk hl]
  rfl
theorem szOut_f (n : Int) (l : List S51) (t : Nat) (ht : t ≤ 1048576) (hl : l.length ≤ 9223372036854775807) : laws_szOut.f n l (t : Int) = if l.length ≤ t then some ((t - l.length : Nat) : Int) else some (-1) := by
  unfold laws_szOut.f laws_szMsgS.f
  rw [wrap_id (x := (t : Int) - (l.length : Int)) (by omega) (by omega)]
  by_cases h : l.length ≤ t
  · rw [if_neg (by omega), Option.bind_some, if_neg (by omega), if_pos h]
    congr 1
    omega
  · rw [if_pos (by omega), Option.bind_some, if_pos (by omega), if_neg h]
theorem szOut_1 (n : Int) (l : List S51) (hl : l.length ≤ 9223372036854775807) : laws_szOut.f n l 1048576 = if l.length ≤ 1048576 then some ((1048576 - l.length : Nat) : Int) else some (-1) :=
  szOut_f n l 1048576 (Nat.le_refl _) hl

theorem same_l0 (a b : Int) (l r : List S53) (hl : l.length ≤ 1048576) (hr : r.length = l.length) (d : Nat) : ∀ (i : Nat), i + d = l.length →
    ∃ v, ∀ k, d < k → spec_OutSame.l0 k l (l.length : Int) (i : Int) b r = some v ∧ impl_OutSame.l0 k (l.length : Int) (i : Int) a l b r = some v := by
  induction d with
  | zero =>
    intro i hi
    refine ⟨true, fun k hk => ?_⟩
    obtain ⟨k, rfl⟩ : ∃ m, k = m + 1 := ⟨k - 1, by omega⟩
    simp only [spec_OutSame.l0, impl_OutSame.l0]
    have c : ¬ (i : Int) < (l.length : Int) := by omega
    rw [if_neg c, if_neg c]
    exact ⟨rfl, rfl⟩
  | succ d ih =>
    intro i hi
    obtain ⟨v, h⟩ := ih (i + 1) (by omega)
    have c1 : (i : Int) < (l.length : Int) := by omega
    have c2 : (0 : Int) ≤ (i : Int) := by omega
    have c3 : (i : Int) < (r.length : Int) := by omega
    have w := wrap_succ i (by omega)
    obtain ⟨t, ht⟩ : ∃ t, t = (!(((rd_T53 l i).f0) == ((rd_T53 r i).f0)) || (!(((rd_T53 l i).f1) == ((rd_T53 r i).f1)) || (!(((rd_T53 l i).f2) == ((rd_T53 r i).f2)) || (!(((rd_T53 l i).f3) == ((rd_T53 r i).f3)))))) := ⟨_, rfl⟩
    cases t with
    | true =>
      refine ⟨false, fun k hk => ?_⟩
      obtain ⟨k, rfl⟩ : ∃ m, k = m + 1 := ⟨k - 1, by omega⟩
      simp only [spec_OutSame.l0, impl_OutSame.l0, if_pos c1, if_pos c2, if_pos c3, ← ht, if_true]
      exact ⟨trivial, trivial⟩
    | false =>
      refine ⟨v, fun k hk => ?_⟩
      obtain ⟨k, rfl⟩ : ∃ m, k = m + 1 := ⟨k - 1, by omega⟩
      simp only [spec_OutSame.l0, impl_OutSame.l0, if_pos c1, if_pos c2, if_pos c3, ← ht, Bool.false_eq_true, if_false, w]
      exact h k (by omega)
theorem same_f (a b : Int) (l r : List S53) (hl : l.length ≤ 1048576) : ∃ v, ∀ k, l.length + 1 < k → spec_OutSame.f k a l b r = some v ∧ impl_OutSame.f k a l b r = some v := by
  unfold spec_OutSame.f impl_OutSame.f
  by_cases h : a = b
  · by_cases hr : r.length = l.length
    · obtain ⟨v, g⟩ := same_l0 a b l r hl hr l.length 0 (by omega)
      refine ⟨v, fun k hk => ?_⟩
      obtain ⟨k, rfl⟩ : ∃ m, k = m + 1 := ⟨k - 1, by omega⟩
      have g := g k (by omega)
      have e : ((l.length : Int) != (r.length : Int)) = false := by rw [hr]; simp
      simp only [if_pos h, e, spec_OutSame.j0, impl_OutSame.j0, Bool.false_eq_true, if_false]
      exact g
    · refine ⟨false, fun k hk => ?_⟩
      obtain ⟨k, rfl⟩ : ∃ m, k = m + 1 := ⟨k - 1, by omega⟩
      have e : ((l.length : Int) != (r.length : Int)) = true := by simp; omega
      simp only [if_pos h, e, spec_OutSame.j0, impl_OutSame.j0, if_true]
      exact ⟨trivial, trivial⟩
  · refine ⟨false, fun k hk => ?_⟩
    obtain ⟨k, rfl⟩ : ∃ m, k = m + 1 := ⟨k - 1, by omega⟩
    simp only [if_neg h, spec_OutSame.j0, impl_OutSame.j0, if_true]
    exact ⟨trivial, trivial⟩
theorem FnExactOutSame (a0_0 : Int) (l0_1 : List S51) (a1_0 : Int) (l1_1 : List S51) (w0_0 : (Lit.int .i64 a0_0).wf = true) (w0_1 : l0_1.length ≤ maxLen ∧ ∀ l0_1_e ∈ l0_1, (Lit.int .i64 l0_1_e.f0).wf = true ∧ (Lit.int .i64 l0_1_e.f1).wf = true ∧ (Lit.int .i64 l0_1_e.f2).wf = true ∧ (Lit.int .i64 l0_1_e.f3).wf = true) (w1_0 : (Lit.int .i64 a1_0).wf = true) (w1_1 : l1_1.length ≤ maxLen ∧ ∀ l1_1_e ∈ l1_1, (Lit.int .i64 l1_1_e.f0).wf = true ∧ (Lit.int .i64 l1_1_e.f1).wf = true ∧ (Lit.int .i64 l1_1_e.f2).wf = true ∧ (Lit.int .i64 l1_1_e.f3).wf = true) : ∃ k, laws_FnExactOutSame.f k a0_0 l0_1 a1_0 l1_1 = some true := by
  have z1 := szOut_1 a0_0 l0_1 (max_len w0_1.1)
  by_cases hs : l0_1.length ≤ 1048576
  case neg =>
    rw [if_neg hs] at z1
    exact ⟨0, by unfold laws_FnExactOutSame.f; rw [z1]; rfl⟩
  rw [if_pos hs] at z1
  have z2 := szOut_f a1_0 l1_1 (1048576 - l0_1.length) (by omega) (max_len w1_1.1)
  by_cases ht : l1_1.length ≤ 1048576 - l0_1.length
  case neg =>
    rw [if_neg ht] at z2
    exact ⟨0, by unfold laws_FnExactOutSame.f; rw [z1, Option.bind_some, if_neg (by omega), z2]; rfl⟩
  rw [if_pos ht] at z2
  refine rounds_of (fun m hm => ?_)
  have lm : (l0_1.map conv).length = l0_1.length := List.length_map ..
  have lm' : (l1_1.map conv).length = l1_1.length := List.length_map ..
  obtain ⟨v, g⟩ := same_f a0_0 a1_0 (l0_1.map conv) (l1_1.map conv) (by omega)
  have E1 := (g (m + 8) (by omega)).1
  have E2 := (g (m + 8) (by omega)).2
  have T := toOut_f a0_0 l0_1 (m + 8) (by omega) (by omega)
  have T' := toOut_f a1_0 l1_1 (m + 8) (by omega) (by omega)
  have Q := eqOut_refl a0_0 (l0_1.map conv) (m + 8) (by omega) (by omega)
  have Q' := eqOut_refl a1_0 (l1_1.map conv) (m + 8) (by omega) (by omega)
  clear g
  unfold laws_FnExactOutSame.f
  rw [z1, Option.bind_some, if_neg (by omega), z2, Option.bind_some, if_neg (by omega)]
  simp only [T, T', E1, E2, Q, Q', Option.bind_some, bne_self_eq_false, Bool.false_eq_true, if_true, if_false]

end Go.Proofs.Ytgkjbechcbbgjaa.Pure
