/- For all disks DiskSame of the program and of the reference answer alike. This text proves it of the plain functions, with no program in sight. Conditions: none but those of the given statement. -/
import Derived.Test.YtnejpihjlkpcgaaPFnExactDiskSamex2
set_option linter.unusedVariables false
set_option linter.unusedSimpArgs false
namespace Go.Proofs.Ytnejpihjlkpcgaa.Pure
open Go Go.RowKit Go.Proofs.Ytnejpihjlkpcgaa.PFnExactDiskSame Go.Proofs.YtnejpihjlkpcgaaW.PrintWords Go.Proofs.YtnejpihjlkpcgaaW.PrintLast Go.Proofs.YtnejpihjlkpcgaaW.PrintMore

theorem wrap_id {x : Int} (h0 : -9223372036854775808 ≤ x) (h1 : x ≤ 9223372036854775807) : wrap64 x = x := by
  unfold wrap64; omega
theorem rd_eq (l : List Int) (i : Nat) (h : i < l.length) : rd l (i : Int) = l[i] := by
  simp [rd, h]
theorem succ_cast (i : Nat) : (i : Int) + 1 = ((i + 1 : Nat) : Int) := by omega
theorem take_set_same (l m : List Int) (i : Nat) (hi : i < l.length) (hm : m.length = l.length) (ht : m.take i = l.take i) : (m.set i l[i]).take (i + 1) = l.take (i + 1) := by
  rw [List.take_succ_eq_append_getElem (by simp; omega), List.take_succ_eq_append_getElem hi]
  simp [List.take_set_of_le, ht]
theorem natlt0 (n : Nat) : ((n : Int) < 0) = False := by simp
theorem wrap_nat (n : Nat) (h : n ≤ 9223372036854775807) : wrap64 (n : Int) = (n : Int) := wrap_id (by omega) (by omega)
theorem wrap_succ (n : Nat) (h : n < 9223372036854775807) : wrap64 ((n : Int) + 1) = ((n + 1 : Nat) : Int) := by rw [wrap_id (by omega) (by omega)]; omega
theorem u8_of_wf {x : Int} (h : (Lit.int .u8 x).wf = true) : 0 ≤ x ∧ x < 256 := by
  simp [Lit.wf, IntKind.min, IntKind.max, IntKind.signed, IntKind.bits] at h
  omega
theorem i64_of_wf {x : Int} (h : (Lit.int .i64 x).wf = true) : -9223372036854775808 ≤ x ∧ x ≤ 9223372036854775807 := by
  simp [Lit.wf, IntKind.min, IntKind.max, IntKind.signed, IntKind.bits] at h
  omega
theorem max_len {α : Type} {l : List α} (h : l.length ≤ maxLen) : l.length ≤ 9223372036854775807 := by
  unfold maxLen at h; omega
theorem rounds_of {f : Nat → Option Bool} (h : ∀ m, 20000000 ≤ m → f (m + 8) = some true) : ∃ k, f k = some true := by
  obtain ⟨m, hm⟩ : ∃ m : Nat, 20000000 ≤ m := ⟨_, Nat.le_refl _⟩
  exact ⟨m + 8, h m hm⟩

theorem toByteS_l0 (l : List Int) (hl : l.length ≤ 140737488351232) (d : Nat) : ∀ (k : Nat) (x3 : List Int) (i : Nat), i + d = l.length → d < k → x3.length = l.length → x3.take i = l.take i → laws_toByteS.l0 k l x3 (i : Int) = some l := by
  induction d with
  | zero =>
    intro k x3 i hi hk h3 ht
    obtain ⟨k, rfl⟩ : ∃ m, k = m + 1 := ⟨k - 1, by omega⟩
    simp only [laws_toByteS.l0]
    rw [if_neg (by omega)]
    rw [List.take_of_length_le (by omega), List.take_of_length_le (by omega)] at ht
    rw [ht]
  | succ d ih =>
    intro k x3 i hi hk h3 ht
    obtain ⟨k, rfl⟩ : ∃ m, k = m + 1 := ⟨k - 1, by omega⟩
    simp only [laws_toByteS.l0]
    rw [if_pos (by omega), if_pos (by omega), if_pos (by omega), wrap_id (by omega) (by omega), succ_cast, Int.toNat_natCast, rd_eq l i (by omega)]
    exact ih k _ (i + 1) (by omega) (by omega) (by simp [h3]) (take_set_same l x3 i (by omega) h3 ht)
theorem toByteS_f (l : List Int) (k : Nat) (hk : l.length < k) (hl : l.length ≤ 140737488351232) : laws_toByteS.f k l = some l := by
  unfold laws_toByteS.f
  rw [if_pos (by omega), if_pos (by omega)]
  exact toByteS_l0 l hl l.length k _ 0 (by omega) hk (by simp) (by simp)
theorem eqByteS_l0 (l : List Int) (hl : l.length ≤ 140737488351232) (d : Nat) : ∀ (k : Nat) (i : Nat), i + d = l.length → d < k → laws_eqByteS.l0 k l l (i : Int) = some true := by
  induction d with
  | zero =>
    intro k i hi hk
    obtain ⟨k, rfl⟩ : ∃ m, k = m + 1 := ⟨k - 1, by omega⟩
    simp only [laws_eqByteS.l0]
    rw [if_neg (by omega)]
  | succ d ih =>
    intro k i hi hk
    obtain ⟨k, rfl⟩ : ∃ m, k = m + 1 := ⟨k - 1, by omega⟩
    simp only [laws_eqByteS.l0]
    rw [if_pos (by omega), if_pos (by omega), if_pos (by omega), if_pos trivial, wrap_id (by omega) (by omega), succ_cast]
    exact ih k (i + 1) (by omega) (by omega)
theorem eqByteS_refl (l : List Int) (k : Nat) (hk : l.length < k) (hl : l.length ≤ 140737488351232) : laws_eqByteS.f k l l = some true := by
  unfold laws_eqByteS.f
  rw [if_pos rfl]
  exact eqByteS_l0 l hl l.length k 0 (by omega) hk

theorem szDisk_more (a b : List Int) (n : Nat) (hn : n ≤ 1048576) (ha : a.length ≤ 9223372036854775807) (hb : b.length ≤ 9223372036854775807) (h : ¬ a.length + b.length ≤ n) : laws_szDisk.f a b (n : Int) = some (-1) := by
  unfold laws_szDisk.f laws_szByteS.f
  rw [wrap_id (x := (n : Int) - (a.length : Int)) (by omega) (by omega)]
  by_cases h0 : (n : Int) - (a.length : Int) < 0
  · rw [if_pos h0]; rfl
  · rw [if_neg h0]
    simp only [Option.bind_some]
    rw [if_neg h0, wrap_id (by omega) (by omega), if_pos (by omega)]
    rfl
theorem szDisk_left (a b : List Int) (n : Nat) (hn : n ≤ 1048576) (h : a.length + b.length ≤ n) : laws_szDisk.f a b (n : Int) = some ((n - a.length - b.length : Nat) : Int) := by
  unfold laws_szDisk.f laws_szByteS.f
  rw [wrap_id (x := (n : Int) - (a.length : Int)) (by omega) (by omega), if_neg (by omega)]
  simp only [Option.bind_some]
  rw [if_neg (by omega), wrap_id (by omega) (by omega), if_neg (by omega)]
  simp only [Option.bind_some]
  rw [if_neg (by omega)]
  congr 1
  omega
theorem szDisk_big (a b : List Int) (ha : a.length ≤ 9223372036854775807) (hb : b.length ≤ 9223372036854775807) (h : ¬ a.length + b.length ≤ 1048576) : laws_szDisk.f a b 1048576 = some (-1) :=
  szDisk_more a b 1048576 (Nat.le_refl _) ha hb h
theorem szDisk_ok (a b : List Int) (h : a.length + b.length ≤ 1048576) : laws_szDisk.f a b 1048576 = some ((1048576 - a.length - b.length : Nat) : Int) :=
  szDisk_left a b 1048576 (Nat.le_refl _) h
theorem toDisk_f (a b : List Int) (k : Nat) (ha : a.length < k) (hb : b.length < k) (ha' : a.length ≤ 140737488351232) (hb' : b.length ≤ 140737488351232) : laws_toDisk.f k a b = some (a, b) := by
  unfold laws_toDisk.f
  rw [toByteS_f a k ha ha', Option.bind_some, toByteS_f b k hb hb']
  rfl
theorem eqDisk_refl (a b : List Int) (k : Nat) (ha : a.length < k) (hb : b.length < k) (ha' : a.length ≤ 140737488351232) (hb' : b.length ≤ 140737488351232) : laws_eqDisk.f k a b a b = some true := by
  unfold laws_eqDisk.f
  rw [eqByteS_refl a k ha ha', Option.bind_some, if_pos rfl, eqByteS_refl b k hb hb']
  rfl

theorem FnExactDiskSame (l0_0 : List Int) (l0_1 : List Int) (l1_0 : List Int) (l1_1 : List Int) (w0_0 : l0_0.length ≤ maxLen ∧ ∀ l0_0_e ∈ l0_0, (Lit.int .u8 l0_0_e).wf = true) (w0_1 : l0_1.length ≤ maxLen ∧ ∀ l0_1_e ∈ l0_1, (Lit.int .u8 l0_1_e).wf = true) (w1_0 : l1_0.length ≤ maxLen ∧ ∀ l1_0_e ∈ l1_0, (Lit.int .u8 l1_0_e).wf = true) (w1_1 : l1_1.length ≤ maxLen ∧ ∀ l1_1_e ∈ l1_1, (Lit.int .u8 l1_1_e).wf = true) : ∃ k, laws_FnExactDiskSame.f k l0_0 l0_1 l1_0 l1_1 = some true := by
  have same : ∀ a b c d : List Int, ∃ r, spec_DiskSame.f a b c d = some r ∧ impl_DiskSame.f a b c d = some r := by
    intro a b c d
    unfold spec_DiskSame.f impl_DiskSame.f spec_SameBytes.f impl_SameBytes.f
    simp only [Option.bind_some]
    by_cases h : ((strOfNums a).toList == (strOfNums c).toList) = true
    · rw [if_pos h]; exact ⟨_, rfl, rfl⟩
    · rw [if_neg h]; exact ⟨_, rfl, rfl⟩
  by_cases hs : l0_0.length + l0_1.length ≤ 1048576
  case neg => exact ⟨0, by unfold laws_FnExactDiskSame.f; rw [szDisk_big _ _ (max_len w0_0.1) (max_len w0_1.1) hs]; rfl⟩
  by_cases ht : l1_0.length + l1_1.length ≤ 1048576 - l0_0.length - l0_1.length
  case neg =>
    refine ⟨0, ?_⟩
    have z := szDisk_more l1_0 l1_1 (1048576 - l0_0.length - l0_1.length) (by omega) (max_len w1_0.1) (max_len w1_1.1) ht
    unfold laws_FnExactDiskSame.f
    rw [szDisk_ok _ _ hs]
    simp only [Option.bind_some, natlt0, if_false, z]
    rw [if_pos (by decide)]
  refine rounds_of (fun m hm => ?_)
  obtain ⟨r, h1, h2⟩ := same l0_0 l0_1 l1_0 l1_1
  have z := szDisk_left l1_0 l1_1 (1048576 - l0_0.length - l0_1.length) (by omega) ht
  have T := fun j => toDisk_f l0_0 l0_1 (m + j) (by omega) (by omega) (by omega) (by omega)
  have Q := fun j => eqDisk_refl l0_0 l0_1 (m + j) (by omega) (by omega) (by omega) (by omega)
  have T' := fun j => toDisk_f l1_0 l1_1 (m + j) (by omega) (by omega) (by omega) (by omega)
  have Q' := fun j => eqDisk_refl l1_0 l1_1 (m + j) (by omega) (by omega) (by omega) (by omega)
  unfold laws_FnExactDiskSame.f
  rw [szDisk_ok _ _ hs]
  simp only [Option.bind_some, natlt0, if_false, z, T, T', h1, h2, Q, Q', bne_self_eq_false, Bool.false_eq_true, if_true]

end Go.Proofs.Ytnejpihjlkpcgaa.Pure
