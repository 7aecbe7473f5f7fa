/- For all arguments SameBytes of the program and of the reference answer alike. This text proves it of the plain functions, with no program in sight. Conditions: none but those of the given statement. -/
import Derived.Test.YtccllhpdhhdnnaaPFnExactSameBytesx1
set_option linter.unusedVariables false
set_option linter.unusedSimpArgs false
namespace Go.Proofs.Ytccllhpdhhdnnaa.Pure
open Go Go.RowKit Go.Proofs.Ytccllhpdhhdnnaa.PFnExactSameBytes Go.Proofs.YtccllhpdhhdnnaaW.PrintWords Go.Proofs.YtccllhpdhhdnnaaW.PrintLast Go.Proofs.YtccllhpdhhdnnaaW.PrintMore

theorem wrap_id {x : Int} (h0 : -9223372036854775808 ≤ x) (h1 : x ≤ 9223372036854775807) : wrap64 x = x := by
  unfold wrap64; omega
theorem rd_eq (l : List Int) (i : Nat) (h : i < l.length) : rd l (i : Int) = l[i] := by
  simp [rd, h]
theorem succ_cast (i : Nat) : (i : Int) + 1 = ((i + 1 : Nat) : Int) := by omega
theorem take_set_same (l m : List Int) (i : Nat) (hi : i < l.length) (hm : m.length = l.length) (ht : m.take i = l.take i) : (m.set i l[i]).take (i + 1) = l.take (i + 1) := by
  rw [List.take_succ_eq_append_getElem (by simp; omega), List.take_succ_eq_append_getElem hi]
  simp [List.take_set_of_le, ht]

theorem toByteS_l0 (l : List Int) (hl : l.length ≤ 140737488351232) (d : Nat) : ∀ (k : Nat) (x3 : List Int) (i : Nat), i + d = l.length → d < k → x3.length = l.length → x3.take i = l.take i → laws_toByteS.l0 k l x3 (i : Int) = some l := by
  induction d with
  | zero =>
    intro k x3 i hi hk h3 ht
    obtain ⟨k, rfl⟩ : ∃ m, k = m + 1 := ⟨k - 1, by omega⟩
    simp only [laws_toByteS.l0]
    rw [if_neg (by omega)]
    rw [List.take_of_length_le (by omega), List.take_of_length_le (by omega)] at ht
    rw [ht]
  | succ d ih =>
    intro k x3 i hi hk h3 ht
    obtain ⟨k, rfl⟩ : ∃ m, k = m + 1 := ⟨k - 1, by omega⟩
    simp only [laws_toByteS.l0]
    rw [if_pos (by omega), if_pos (by omega), if_pos (by omega), wrap_id (by omega) (by omega), succ_cast, Int.toNat_natCast, rd_eq l i (by omega)]
    exact ih k _ (i + 1) (by omega) (by omega) (by simp [h3]) (take_set_same l x3 i (by omega) h3 ht)
theorem toByteS_f (l : List Int) (k : Nat) (hk : l.length < k) (hl : l.length ≤ 140737488351232) : laws_toByteS.f k l = some l := by
  unfold laws_toByteS.f
  rw [if_pos (by omega), if_pos (by omega)]
  exact toByteS_l0 l hl l.length k _ 0 (by omega) hk (by simp) (by simp)
theorem eqByteS_l0 (l : List Int) (hl : l.length ≤ 140737488351232) (d : Nat) : ∀ (k : Nat) (i : Nat), i + d = l.length → d < k → laws_eqByteS.l0 k l l (i : Int) = some true := by
  induction d with
  | zero =>
    intro k i hi hk
    obtain ⟨k, rfl⟩ : ∃ m, k = m + 1 := ⟨k - 1, by omega⟩
    simp only [laws_eqByteS.l0]
    rw [if_neg (by omega)]
  | succ d ih =>
    intro k i hi hk
    obtain ⟨k, rfl⟩ : ∃ m, k = m + 1 := ⟨k - 1, by omega⟩
    simp only [laws_eqByteS.l0]
    rw [if_pos (by omega), if_pos (by omega), if_pos (by omega), if_pos trivial, wrap_id (by omega) (by omega), succ_cast]
    exact ih k (i + 1) (by omega) (by omega)
theorem eqByteS_refl (l : List Int) (k : Nat) (hk : l.length < k) (hl : l.length ≤ 140737488351232) : laws_eqByteS.f k l l = some true := by
  unfold laws_eqByteS.f
  rw [if_pos rfl]
  exact eqByteS_l0 l hl l.length k 0 (by omega) hk

theorem FnExactSameBytes (l0 : List Int) (l1 : List Int) (w0 : l0.length ≤ maxLen ∧ ∀ l0_e ∈ l0, (Lit.int .u8 l0_e).wf = true) (w1 : l1.length ≤ maxLen ∧ ∀ l1_e ∈ l1, (Lit.int .u8 l1_e).wf = true) : ∃ k, laws_FnExactSameBytes.f k l0 l1 = some true := by
  refine ⟨max l0.length l1.length + 1, ?_⟩
  unfold laws_FnExactSameBytes.f
  by_cases h0 : (l0.length : Int) > 1048576
  · rw [if_pos h0]
  by_cases h1 : (l1.length : Int) > 1048576
  · rw [if_neg h0, if_pos h1]
  rw [if_neg h0, if_neg h1]
  simp only [toByteS_f l0 _ (by omega : l0.length < max l0.length l1.length + 1) (by omega), toByteS_f l1 _ (by omega : l1.length < max l0.length l1.length + 1) (by omega), Option.bind_some, spec_SameBytes.f, impl_SameBytes.f, eqByteS_refl l0 _ (by omega : l0.length < max l0.length l1.length + 1) (by omega), eqByteS_refl l1 _ (by omega : l1.length < max l0.length l1.length + 1) (by omega)]
  simp

end Go.Proofs.Ytccllhpdhhdnnaa.Pure
