/- OutNew of the program and of the reference answer alike, in memory that nothing else holds. This text proves it of the plain functions, with no program in sight. Conditions: none but those of the given statement. -/
import Derived.Test.YtgkjbechcbbgjaaPFnExactOutNewx2
set_option linter.unusedVariables false
set_option linter.unusedSimpArgs false
namespace Go.Proofs.Ytgkjbechcbbgjaa.Pure
open Go Go.RowKit Go.Proofs.Ytgkjbechcbbgjaa.PFnExactOutNew Go.Proofs.YtgkjbechcbbgjaaW.PrintWords Go.Proofs.YtgkjbechcbbgjaaW.PrintLast Go.Proofs.YtgkjbechcbbgjaaW.PrintMore

theorem wrap_id {x : Int} (h0 : -9223372036854775808 ≤ x) (h1 : x ≤ 9223372036854775807) : wrap64 x = x := by
  unfold wrap64; omega
theorem rd_eq (l : List Int) (i : Nat) (h : i < l.length) : rd l (i : Int) = l[i] := by
  simp [rd, h]
theorem succ_cast (i : Nat) : (i : Int) + 1 = ((i + 1 : Nat) : Int) := by omega
theorem take_set_same (l m : List Int) (i : Nat) (hi : i < l.length) (hm : m.length = l.length) (ht : m.take i = l.take i) : (m.set i l[i]).take (i + 1) = l.take (i + 1) := by
  rw [List.take_succ_eq_append_getElem (by simp; omega), List.take_succ_eq_append_getElem hi]
  simp [List.take_set_of_le, ht]
theorem natlt0 (n : Nat) : ((n : Int) < 0) = False := by simp
theorem wrap_nat (n : Nat) (h : n ≤ 9223372036854775807) : wrap64 (n : Int) = (n : Int) := wrap_id (by omega) (by omega)
theorem wrap_succ (n : Nat) (h : n < 9223372036854775807) : wrap64 ((n : Int) + 1) = ((n + 1 : Nat) : Int) := by rw [wrap_id (by omega) (by omega)]; omega
theorem u8_of_wf {x : Int} (h : (Lit.int .u8 x).wf = true) : 0 ≤ x ∧ x < 256 := by
  simp [Lit.wf, IntKind.min, IntKind.max, IntKind.signed, IntKind.bits] at h
  omega
theorem i64_of_wf {x : Int} (h : (Lit.int .i64 x).wf = true) : -9223372036854775808 ≤ x ∧ x ≤ 9223372036854775807 := by
  simp [Lit.wf, IntKind.min, IntKind.max, IntKind.signed, IntKind.bits] at h
  omega
theorem max_len {α : Type} {l : List α} (h : l.length ≤ maxLen) : l.length ≤ 9223372036854775807 := by
  unfold maxLen at h; omega
theorem rounds_of {f : Nat → Option Bool} (h : ∀ m, 20000000 ≤ m → f (m + 8) = some true) : ∃ k, f k = some true := by
  obtain ⟨m, hm⟩ : ∃ m : Nat, 20000000 ≤ m := ⟨_, Nat.le_refl _⟩
  exact ⟨m + 8, h m hm⟩

theorem rd_M (l : List S53) (i : Nat) (h : i < l.length) : rd_T53 l (i : Int) = l[i] := by
  simp [rd_T53, h]
theorem eqMsgS_l0 (l : List S53) (hl : l.length ≤ 140737488351232) (d : Nat) : ∀ (k : Nat) (i : Nat), i + d = l.length → d < k → laws_eqMsgS.l0 k l l (i : Int) = some true := by
  induction d with
  | zero =>
    intro k i hi hk
    obtain ⟨k, rfl⟩ : ∃ m, k = m + 1 := ⟨k - 1, by omega⟩
    simp only [laws_eqMsgS.l0]
    rw [if_neg (by omega)]
  | succ d ih =>
    intro k i hi hk
    obtain ⟨k, rfl⟩ : ∃ m, k = m + 1 := ⟨k - 1, by omega⟩
    simp only [laws_eqMsgS.l0, laws_eqMsg.f, if_true, Option.bind_some]
    rw [if_pos (by omega), if_pos (by omega), if_pos (by omega), wrap_id (by omega) (by omega), succ_cast]
    exact ih k (i + 1) (by omega) (by omega)
theorem eqMsgS_refl (l : List S53) (k : Nat) (hk : l.length < k) (hl : l.length ≤ 140737488351232) : laws_eqMsgS.f k l l = some true := by
  unfold laws_eqMsgS.f
  rw [if_pos rfl]
  exact eqMsgS_l0 l hl l.length k 0 (by omega) hk
theorem eqOut_refl (n : Int) (l : List S53) (k : Nat) (hk : l.length < k) (hl : l.length ≤ 140737488351232) : laws_eqOut.f k n l n l = some true := by
  unfold laws_eqOut.f
  rw [if_pos rfl, eqMsgS_refl l k hk hl, Option.bind_some, if_pos rfl]

def markM : Nat → Nat → List S53
  | 0, _ => []
  | d + 1, n => ⟨(n : Int), ((n + 1 : Nat) : Int), ((n + 2 : Nat) : Int), ((n + 3 : Nat) : Int)⟩ :: markM d (n + 4)
theorem markM_length : ∀ d n, (markM d n).length = d
  | 0, _ => rfl
  | d + 1, n => by simp [markM, markM_length d]
theorem markM_get : ∀ d n i, i < d → (markM d n)[i]? = some ⟨((n + 4 * i : Nat) : Int), ((n + 4 * i + 1 : Nat) : Int), ((n + 4 * i + 2 : Nat) : Int), ((n + 4 * i + 3 : Nat) : Int)⟩
  | 0, _, _, h => absurd h (Nat.not_lt_zero _)
  | d + 1, n, 0, _ => by simp [markM]
  | d + 1, n, i + 1, h => by
    rw [markM, List.getElem?_cons_succ, markM_get d (n + 4) i (by omega), show n + 4 + 4 * i = n + 4 * (i + 1) by omega]
theorem rd_set (x : List S53) (i : Nat) (v : S53) (h : i < x.length) : rd_T53 (x.set i v) (i : Int) = v := by
  rw [rd_M (x.set i v) i (by simpa using h), List.getElem_set_self]
theorem markMsgS_step (k : Nat) (x : List S53) (n i : Nat) (h : i < x.length) (hn : n ≤ 140737488351232) (hx : x.length ≤ 140737488351232) :
    laws_markMsgS.l0 (k + 1) x (n : Int) (i : Int) = laws_markMsgS.l0 k (x.set i ⟨(n : Int), ((n + 1 : Nat) : Int), ((n + 2 : Nat) : Int), ((n + 3 : Nat) : Int)⟩) ((n + 4 : Nat) : Int) ((i + 1 : Nat) : Int) := by
  have e1 : wrap64 ((n : Int) + 1) = ((n + 1 : Nat) : Int) := wrap_succ n (by omega)
  have e2 : wrap64 (((n + 1 : Nat) : Int) + 1) = ((n + 2 : Nat) : Int) := wrap_succ (n + 1) (by omega)
  have e3 : wrap64 (((n + 2 : Nat) : Int) + 1) = ((n + 3 : Nat) : Int) := wrap_succ (n + 2) (by omega)
  have e4 : wrap64 (((n + 3 : Nat) : Int) + 1) = ((n + 4 : Nat) : Int) := wrap_succ (n + 3) (by omega)
  have e5 : wrap64 ((i : Int) + 1) = ((i + 1 : Nat) : Int) := wrap_succ i (by omega)
  simp only [laws_markMsgS.l0, Option.bind_some]
  rw [if_pos (by omega), if_pos (by omega), e1, e2, e3, e4, e5, Int.toNat_natCast]
  have r0 := rd_M x i h
  have R := fun v => rd_set x i v h
  simp only [r0, R, List.set_set]
theorem markMsgS_l0 (n0 : Nat) (t : Nat) (d : Nat) : ∀ (k : Nat) (x : List S53) (i : Nat), i + d = t → d < k → x.length = t → t ≤ 14073748835 → n0 ≤ 14073748835 → (∀ j, j < i → x[j]? = some ⟨((n0 + 4 * j : Nat) : Int), ((n0 + 4 * j + 1 : Nat) : Int), ((n0 + 4 * j + 2 : Nat) : Int), ((n0 + 4 * j + 3 : Nat) : Int)⟩) →
    laws_markMsgS.l0 k x ((n0 + 4 * i : Nat) : Int) (i : Int) = some (((n0 + 4 * t : Nat) : Int), markM t n0) := by
  induction d with
  | zero =>
    intro k x i hi hk hx ht hn hj
    obtain ⟨k, rfl⟩ : ∃ m, k = m + 1 := ⟨k - 1, by omega⟩
    simp only [laws_markMsgS.l0]
    rw [if_neg (by omega)]
    have e : x = markM t n0 := by
      apply List.ext_getElem?
      intro j
      by_cases h : j < t
      · rw [hj j (by omega), markM_get t n0 j h]
      · rw [List.getElem?_eq_none (by omega), List.getElem?_eq_none (by rw [markM_length]; omega)]
    have e2 : i = t := by omega
    rw [e, e2]
  | succ d ih =>
    intro k x i hi hk hx ht hn hj
    obtain ⟨k, rfl⟩ : ∃ m, k = m + 1 := ⟨k - 1, by omega⟩
    rw [markMsgS_step k x _ i (by omega) (by omega) (by omega), show n0 + 4 * i + 4 = n0 + 4 * (i + 1) by omega]
    refine ih k _ (i + 1) (by omega) (by omega) (by simpa using hx) ht hn (fun j hj' => ?_)
    by_cases h : j = i
    · subst h
      rw [List.getElem?_set_self (by omega)]
    · rw [List.getElem?_set_ne (by omega)]
      exact hj j (by omega)
theorem markMsgS_f (l : List S53) (n : Nat) (k : Nat) (hk : l.length < k) (hl : l.length ≤ 14073748835) (hn : n ≤ 14073748835) :
    laws_markMsgS.f k l (n : Int) = some (((n + 4 * l.length : Nat) : Int), markM l.length n) :=
  markMsgS_l0 n l.length l.length k l 0 (by omega) hk rfl hl hn (fun j hj => absurd hj (Nat.not_lt_zero _))
theorem markOut_1 (z : Int) (l : List S53) (k : Nat) (hk : l.length < k) (hl : l.length ≤ 14073748835) :
    laws_markOut.f k z l 1 = some (((1 + 4 * l.length : Nat) : Int), markM l.length 1) := by
  unfold laws_markOut.f
  have := markMsgS_f l 1 k hk hl (by omega)
  simp only [Int.natCast_one] at this
  rw [this]
  rfl

theorem heldMsgS_l0 (n0 : Nat) (t : Nat) (d : Nat) : ∀ (k : Nat) (i : Nat), i + d = t → d < k → t ≤ 14073748835 → n0 ≤ 14073748835 →
    laws_heldMsgS.l0 k (markM t n0) ((n0 + 4 * i : Nat) : Int) (i : Int) = some ((n0 + 4 * t : Nat) : Int) := by
  induction d with
  | zero =>
    intro k i hi hk ht hn
    obtain ⟨k, rfl⟩ : ∃ m, k = m + 1 := ⟨k - 1, by omega⟩
    simp only [laws_heldMsgS.l0]
    rw [if_neg (by rw [markM_length]; omega)]
    have e2 : i = t := by omega
    rw [e2]
  | succ d ih =>
    intro k i hi hk ht hn
    obtain ⟨k, rfl⟩ : ∃ m, k = m + 1 := ⟨k - 1, by omega⟩
    have hr : rd_T53 (markM t n0) (i : Int) = ⟨((n0 + 4 * i : Nat) : Int), ((n0 + 4 * i + 1 : Nat) : Int), ((n0 + 4 * i + 2 : Nat) : Int), ((n0 + 4 * i + 3 : Nat) : Int)⟩ := by
      have := markM_get t n0 i (by omega)
      simp [rd_T53, List.getD, this]
    have e1 : wrap64 (((n0 + 4 * i : Nat) : Int) + 1) = ((n0 + 4 * i + 1 : Nat) : Int) := wrap_succ (n0 + 4 * i) (by omega)
    have e2 : wrap64 (((n0 + 4 * i + 1 : Nat) : Int) + 1) = ((n0 + 4 * i + 2 : Nat) : Int) := wrap_succ (n0 + 4 * i + 1) (by omega)
    have e3 : wrap64 (((n0 + 4 * i + 2 : Nat) : Int) + 1) = ((n0 + 4 * i + 3 : Nat) : Int) := wrap_succ (n0 + 4 * i + 2) (by omega)
    have e4 : wrap64 (((n0 + 4 * i + 3 : Nat) : Int) + 1) = ((n0 + 4 * (i + 1) : Nat) : Int) := by rw [wrap_succ (n0 + 4 * i + 3) (by omega)]; omega
    have e5 : wrap64 ((i : Int) + 1) = ((i + 1 : Nat) : Int) := wrap_succ i (by omega)
    simp only [laws_heldMsgS.l0]
    rw [hr]
    simp only [e1, e2, e3, e4, e5, if_true]
    rw [if_pos (by rw [markM_length]; omega), if_pos (by omega)]
    exact ih k (i + 1) (by omega) (by omega) ht hn
theorem heldOut_1 (z : Int) (t k : Nat) (hk : t < k) (hl : t ≤ 14073748835) :
    laws_heldOut.f k z (markM t 1) 1 = some ((1 + 4 * t : Nat) : Int) := by
  have h : laws_heldMsgS.f k (markM t 1) 1 = some ((1 + 4 * t : Nat) : Int) := heldMsgS_l0 1 t t k 0 (by omega) hk hl (by omega)
  unfold laws_heldOut.f
  rw [h, Option.bind_some, if_neg (by omega)]

theorem FnExactOutNew : laws_FnExactOutNew.Pure := by
  refine rounds_of (fun m hm => ?_)
  obtain ⟨q, hq⟩ : ∃ q, q = ([] : List S53) := ⟨_, rfl⟩
  have hn : q.length = 0 := by rw [hq]; rfl
  have E1 : spec_OutNew.f = some (1, q) := by rw [hq]; rfl
  have E2 : impl_OutNew.f = some (1, q) := by rw [hq]; rfl
  have Q := fun j => eqOut_refl 1 q (m + j) (by omega) (by omega)
  have M := fun j => markOut_1 1 q (m + j) (by omega) (by omega)
  have H := fun j => heldOut_1 1 q.length (m + j) (by omega) (by omega)
  unfold laws_FnExactOutNew.f
  simp only [E1, E2, Option.bind_some, Q, M, H, if_true, if_false, natlt0]

end Go.Proofs.Ytgkjbechcbbgjaa.Pure
