/- For all disks and bytes DiskReset of the program and of the reference answer alike, in memory that nothing else holds. This text proves it of the plain functions, with no program in sight. Conditions: none but those of the given statement. -/
import Derived.Test.YtnejpihjlkpcgaaPFnExactDiskResetx3
set_option linter.unusedVariables false
set_option linter.unusedSimpArgs false
namespace Go.Proofs.Ytnejpihjlkpcgaa.Pure
open Go Go.RowKit Go.Proofs.Ytnejpihjlkpcgaa.PFnExactDiskReset Go.Proofs.YtnejpihjlkpcgaaW.PrintWords Go.Proofs.YtnejpihjlkpcgaaW.PrintLast Go.Proofs.YtnejpihjlkpcgaaW.PrintMore

theorem wrap_id {x : Int} (h0 : -9223372036854775808 ≤ x) (h1 : x ≤ 9223372036854775807) : wrap64 x = x := by
  unfold wrap64; omega
theorem rd_eq (l : List Int) (i : Nat) (h : i < l.length) : rd l (i : Int) = l[i] := by
  simp [rd, h]
theorem succ_cast (i : Nat) : (i : Int) + 1 = ((i + 1 : Nat) : Int) := by omega
theorem take_set_same (l m : List Int) (i : Nat) (hi : i < l.length) (hm : m.length = l.length) (ht : m.take i = l.take i) : (m.set i l[i]).take (i + 1) = l.take (i + 1) := by
  rw [List.take_succ_eq_append_getElem (by simp; omega), List.take_succ_eq_append_getElem hi]
  simp [List.take_set_of_le, ht]
theorem natlt0 (n : Nat) : ((n : Int) < 0) = False := by simp
theorem wrap_nat (n : Nat) (h : n ≤ 9223372036854775807) : wrap64 (n : Int) = (n : Int) := wrap_id (by omega) (by omega)
theorem wrap_succ (n : Nat) (h : n < 9223372036854775807) : wrap64 ((n : Int) + 1) = ((n + 1 : Nat) : Int) := by rw [wrap_id (by omega) (by omega)]; omega
theorem u8_of_wf {x : Int} (h : (Lit.int .u8 x).wf = true) : 0 ≤ x ∧ x < 256 := by
  simp [Lit.wf, IntKind.min, IntKind.max, IntKind.signed, IntKind.bits] at h
  omega
theorem i64_of_wf {x : Int} (h : (Lit.int .i64 x).wf = true) : -9223372036854775808 ≤ x ∧ x ≤ 9223372036854775807 := by
  simp [Lit.wf, IntKind.min, IntKind.max, IntKind.signed, IntKind.bits] at h
  omega
theorem max_len {α : Type} {l : List α} (h : l.length ≤ maxLen) : l.length ≤ 9223372036854775807 := by
  unfold maxLen at h; omega
theorem rounds_of {f : Nat → Option Bool} (h : ∀ m, 20000000 ≤ m → f (m + 8) = some true) : ∃ k, f k = some true := by
  obtain ⟨m, hm⟩ : ∃ m : Nat, 20000000 ≤ m := ⟨_, Nat.le_refl _⟩
  exact ⟨m + 8, h m hm⟩

theorem toByteS_l0 (l : List Int) (hl : l.length ≤ 140737488351232) (d : Nat) : ∀ (k : Nat) (x3 : List Int) (i : Nat), i + d = l.length → d < k → x3.length = l.length → x3.take i = l.take i → laws_toByteS.l0 k l x3 (i : Int) = some l := by
  induction d with
  | zero =>
    intro k x3 i hi hk h3 ht
    obtain ⟨k, rfl⟩ : ∃ m, k = m + 1 := ⟨k - 1, by omega⟩
    simp only [laws_toByteS.l0]
    rw [if_neg (by omega)]
    rw [List.take_of_length_le (by omega), List.take_of_length_le (by omega)] at ht
    rw [ht]
  | succ d ih =>
    intro k x3 i hi hk h3 ht
    obtain ⟨k, rfl⟩ : ∃ m, k = m + 1 := ⟨k - 1, by omega⟩
    simp only [laws_toByteS.l0]
    rw [if_pos (by omega), if_pos (by omega), if_pos (by omega), wrap_id (by omega) (by omega), succ_cast, Int.toNat_natCast, rd_eq l i (by omega)]
    exact ih k _ (i + 1) (by omega) (by omega) (by simp [h3]) (take_set_same l x3 i (by omega) h3 ht)
theorem toByteS_f (l : List Int) (k : Nat) (hk : l.length < k) (hl : l.length ≤ 140737488351232) : laws_toByteS.f k l = some l := by
  unfold laws_toByteS.f
  rw [if_pos (by omega), if_pos (by omega)]
  exact toByteS_l0 l hl l.length k _ 0 (by omega) hk (by simp) (by simp)
theorem eqByteS_l0 (l : List Int) (hl : l.length ≤ 140737488351232) (d : Nat) : ∀ (k : Nat) (i : Nat), i + d = l.length → d < k → laws_eqByteS.l0 k l l (i : Int) = some true := by
  induction d with
  | zero =>
    intro k i hi hk
    obtain ⟨k, rfl⟩ : ∃ m, k = m + 1 := ⟨k - 1, by omega⟩
    simp only [laws_eqByteS.l0]
    rw [if_neg (by omega)]
  | succ d ih =>
    intro k i hi hk
    obtain ⟨k, rfl⟩ : ∃ m, k = m + 1 := ⟨k - 1, by omega⟩
    simp only [laws_eqByteS.l0]
    rw [if_pos (by omega), if_pos (by omega), if_pos (by omega), if_pos trivial, wrap_id (by omega) (by omega), succ_cast]
    exact ih k (i + 1) (by omega) (by omega)
theorem eqByteS_refl (l : List Int) (k : Nat) (hk : l.length < k) (hl : l.length ≤ 140737488351232) : laws_eqByteS.f k l l = some true := by
  unfold laws_eqByteS.f
  rw [if_pos rfl]
  exact eqByteS_l0 l hl l.length k 0 (by omega) hk

theorem szDisk_more (a b : List Int) (n : Nat) (hn : n ≤ 1048576) (ha : a.length ≤ 9223372036854775807) (hb : b.length ≤ 9223372036854775807) (h : ¬ a.length + b.length ≤ n) : laws_szDisk.f a b (n : Int) = some (-1) := by
  unfold laws_szDisk.f laws_szByteS.f
  rw [wrap_id (x := (n : Int) - (a.length : Int)) (by omega) (by omega)]
  by_cases h0 : (n : Int) - (a.length : Int) < 0
  · rw [if_pos h0]; rfl
  · rw [if_neg h0]
    simp only [Option.bind_some]
    rw [if_neg h0, wrap_id (by omega) (by omega), if_pos (by omega)]
    rfl
theorem szDisk_left (a b : List Int) (n : Nat) (hn : n ≤ 1048576) (h : a.length + b.length ≤ n) : laws_szDisk.f a b (n : Int) = some ((n - a.length - b.length : Nat) : Int) := by
  unfold laws_szDisk.f laws_szByteS.f
  rw [wrap_id (x := (n : Int) - (a.length : Int)) (by omega) (by omega), if_neg (by omega)]
  simp only [Option.bind_some]
  rw [if_neg (by omega), wrap_id (by omega) (by omega), if_neg (by omega)]
  simp only [Option.bind_some]
  rw [if_neg (by omega)]
  congr 1
  omega
theorem szDisk_big (a b : List Int) (ha : a.length ≤ 9223372036854775807) (hb : b.length ≤ 9223372036854775807) (h : ¬ a.length + b.length ≤ 1048576) : laws_szDisk.f a b 1048576 = some (-1) :=
  szDisk_more a b 1048576 (Nat.le_refl _) ha hb h
theorem szDisk_ok (a b : List Int) (h : a.length + b.length ≤ 1048576) : laws_szDisk.f a b 1048576 = some ((1048576 - a.length - b.length : Nat) : Int) :=
  szDisk_left a b 1048576 (Nat.le_refl _) h
theorem toDisk_f (a b : List Int) (k : Nat) (ha : a.length < k) (hb : b.length < k) (ha' : a.length ≤ 140737488351232) (hb' : b.length ≤ 140737488351232) : laws_toDisk.f k a b = some (a, b) := by
  unfold laws_toDisk.f
  rw [toByteS_f a k ha ha', Option.bind_some, toByteS_f b k hb hb']
  rfl
theorem eqDisk_refl (a b : List Int) (k : Nat) (ha : a.length < k) (hb : b.length < k) (ha' : a.length ≤ 140737488351232) (hb' : b.length ≤ 140737488351232) : laws_eqDisk.f k a b a b = some true := by
  unfold laws_eqDisk.f
  rw [eqByteS_refl a k ha ha', Option.bind_some, if_pos rfl, eqByteS_refl b k hb hb']
  rfl

def markL : Nat → Nat → List Int
  | 0, _ => []
  | d + 1, n => ((n % 256 : Nat) : Int) :: markL d (n + 1)
theorem markL_length : ∀ d n, (markL d n).length = d
  | 0, _ => rfl
  | d + 1, n => by simp [markL, markL_length d]
theorem markL_get : ∀ d n i, i < d → (markL d n)[i]? = some (((n + i) % 256 : Nat) : Int)
  | 0, _, _, h => absurd h (Nat.not_lt_zero _)
  | d + 1, n, 0, _ => by simp [markL]
  | d + 1, n, i + 1, h => by
    rw [markL, List.getElem?_cons_succ, markL_get d (n + 1) i (by omega)]
    congr 2
    omega
theorem markByteS_l0 (n0 : Nat) (t : Nat) (d : Nat) : ∀ (k : Nat) (x : List Int) (i : Nat), i + d = t → d < k → x.length = t → t ≤ 140737488351232 → n0 ≤ 140737488351232 → (∀ j, j < i → x[j]? = some (((n0 + j) % 256 : Nat) : Int)) →
    laws_markByteS.l0 k x ((n0 + i : Nat) : Int) (i : Int) = some (((n0 + t : Nat) : Int), markL t n0) := by
  induction d with
  | zero =>
    intro k x i hi hk hx ht hn hj
    obtain ⟨k, rfl⟩ : ∃ m, k = m + 1 := ⟨k - 1, by omega⟩
    simp only [laws_markByteS.l0]
    rw [if_neg (by omega)]
    have e : x = markL t n0 := by
      apply List.ext_getElem?
      intro j
      by_cases h : j < t
      · rw [hj j (by omega), markL_get t n0 j h]
      · rw [List.getElem?_eq_none (by omega), List.getElem?_eq_none (by rw [markL_length]; omega)]
    have e2 : i = t := by omega
    rw [e, e2]
  | succ d ih =>
    intro k x i hi hk hx ht hn hj
    obtain ⟨k, rfl⟩ : ∃ m, k = m + 1 := ⟨k - 1, by omega⟩
    simp only [laws_markByteS.l0]
    rw [if_pos (by omega), if_pos (by omega), wrap_succ (n0 + i) (by omega), wrap_succ i (by omega), Int.toNat_natCast]
    have e : ((n0 + i : Nat) : Int) % 256 = (((n0 + i) % 256 : Nat) : Int) := rfl
    rw [e]
    refine ih k _ (i + 1) (by omega) (by omega) (by simpa using hx) ht hn (fun j hj' => ?_)
    by_cases h : j = i
    · subst h
      rw [List.getElem?_set_self (by omega)]
    · rw [List.getElem?_set_ne (by omega)]
      exact hj j (by omega)
theorem markByteS_f (l : List Int) (n : Nat) (k : Nat) (hk : l.length < k) (hl : l.length ≤ 140737488351232) (hn : n ≤ 140737488351232) :
    laws_markByteS.f k l (n : Int) = some (((n + l.length : Nat) : Int), markL l.length n) :=
  markByteS_l0 n l.length l.length k l 0 (by omega) hk rfl hl hn (fun j hj => absurd hj (Nat.not_lt_zero _))
theorem heldByteS_l0 (n0 : Nat) (t : Nat) (d : Nat) : ∀ (k : Nat) (i : Nat), i + d = t → d < k → t ≤ 140737488351232 → n0 ≤ 140737488351232 →
    laws_heldByteS.l0 k (markL t n0) ((n0 + i : Nat) : Int) (i : Int) = some ((n0 + t : Nat) : Int) := by
  induction d with
  | zero =>
    intro k i hi hk ht hn
    obtain ⟨k, rfl⟩ : ∃ m, k = m + 1 := ⟨k - 1, by omega⟩
    simp only [laws_heldByteS.l0]
    rw [if_neg (by rw [markL_length]; omega)]
    have e2 : i = t := by omega
    rw [e2]
  | succ d ih =>
    intro k i hi hk ht hn
    obtain ⟨k, rfl⟩ : ∃ m, k = m + 1 := ⟨k - 1, by omega⟩
    have hr : rd (markL t n0) (i : Int) = (((n0 + i) % 256 : Nat) : Int) := by
      have := markL_get t n0 i (by omega)
      simp [rd, List.getD, this]
    have e : ((n0 + i : Nat) : Int) % 256 = (((n0 + i) % 256 : Nat) : Int) := rfl
    simp only [laws_heldByteS.l0]
    rw [if_pos (by rw [markL_length]; omega), if_pos (by omega), hr, e, if_pos rfl, wrap_succ (n0 + i) (by omega), wrap_succ i (by omega)]
    exact ih k (i + 1) (by omega) (by omega) ht hn
theorem heldByteS_f (t n : Nat) (k : Nat) (hk : t < k) (hl : t ≤ 140737488351232) (hn : n ≤ 140737488351232) :
    laws_heldByteS.f k (markL t n) (n : Int) = some ((n + t : Nat) : Int) :=
  heldByteS_l0 n t t k 0 (by omega) hk hl hn
theorem markByteS_1 (l : List Int) (k : Nat) (hk : l.length < k) (hl : l.length ≤ 140737488351232) :
    laws_markByteS.f k l 1 = some (((1 + l.length : Nat) : Int), markL l.length 1) :=
  markByteS_f l 1 k hk hl (by omega)
theorem heldByteS_1 (t : Nat) (k : Nat) (hk : t < k) (hl : t ≤ 140737488351232) :
    laws_heldByteS.f k (markL t 1) 1 = some ((1 + t : Nat) : Int) :=
  heldByteS_f t 1 k hk hl (by omega)

theorem markDisk_1 (a b : List Int) (k : Nat) (ha : a.length < k) (hb : b.length < k) (ha' : a.length ≤ 1407374883512) (hb' : b.length ≤ 1407374883512) :
    laws_markDisk.f k a b 1 = some (((1 + a.length + b.length : Nat) : Int), markL a.length 1, markL b.length (1 + a.length)) := by
  unfold laws_markDisk.f
  rw [markByteS_1 a k ha (by omega), Option.bind_some, markByteS_f b (1 + a.length) k hb (by omega) (by omega)]
  rfl

theorem heldDisk_1 (a b : Nat) (k : Nat) (ha : a < k) (hb : b < k) (ha' : a ≤ 1407374883512) (hb' : b ≤ 1407374883512) :
    laws_heldDisk.f k (markL a 1) (markL b (1 + a)) 1 = some ((1 + a + b : Nat) : Int) := by
  unfold laws_heldDisk.f
  rw [heldByteS_1 a k ha (by omega), Option.bind_some, if_neg (by omega), heldByteS_f b (1 + a) k hb (by omega) (by omega), Option.bind_some, if_neg (by omega)]

theorem copyBytes_f (l : List Int) (hl : l.length < 140737488355328) : impl_copyBytes.f l = some l := by
  unfold impl_copyBytes.f
  rw [if_pos (by simpa using hl)]
  rfl

theorem l01Copy_f (l : List Int) (hl : l.length < 140737488355328) : spec_l01Copy.f l = some l := by
  unfold spec_l01Copy.f
  simp only [Option.bind_some]
  rw [if_pos (by simpa using hl)]
  rfl

theorem same_f (a b c : List Int) (h : a.length + b.length ≤ 1048576) (hc : c.length ≤ 1048576) : ∃ (r q : List Int) (v : Bool), r.length ≤ 1048576 ∧ q.length ≤ 1048576 ∧ spec_DiskReset.f a b c = some (r, q, v) ∧ impl_DiskReset.f a b c = some (r, q, v) := by
  have C1 := l01Copy_f c (by omega)
  have C2 := copyBytes_f c (by omega)
  by_cases e0 : (b.length : Int) > 0
  · exact ⟨[], [], false, Nat.zero_le _, Nat.zero_le _, by unfold spec_DiskReset.f; rw [C1, Option.bind_some, if_pos e0], by unfold impl_DiskReset.f; rw [if_pos e0]⟩
  by_cases e : (c.length : Int) > 20000
  · have w3 : spec_DiskOk.f c [] = some false := by
      unfold spec_DiskOk.f
      rw [List.length_nil, wrap_id (by omega) (by omega), decide_eq_false (by omega)]
    exact ⟨[], [], false, Nat.zero_le _, Nat.zero_le _, by unfold spec_DiskReset.f; rw [C1, Option.bind_some, if_neg e0, w3]; rfl, by unfold impl_DiskReset.f; rw [if_neg e0, if_pos e]⟩
  · have w3 : spec_DiskOk.f c [] = some true := by
      unfold spec_DiskOk.f
      rw [List.length_nil, wrap_id (by omega) (by omega), decide_eq_true (by omega)]
    exact ⟨c, [], true, hc, Nat.zero_le _, by unfold spec_DiskReset.f; rw [C1, Option.bind_some, if_neg e0, w3]; rfl, by unfold impl_DiskReset.f; rw [if_neg e0, if_neg e, C2]; rfl⟩
theorem FnExactDiskReset (l0_0 : List Int) (l0_1 : List Int) (l1 : List Int) (w0_0 : l0_0.length ≤ maxLen ∧ ∀ l0_0_e ∈ l0_0, (Lit.int .u8 l0_0_e).wf = true) (w0_1 : l0_1.length ≤ maxLen ∧ ∀ l0_1_e ∈ l0_1, (Lit.int .u8 l0_1_e).wf = true) (w1 : l1.length ≤ maxLen ∧ ∀ l1_e ∈ l1, (Lit.int .u8 l1_e).wf = true) : ∃ k, laws_FnExactDiskReset.f k l0_0 l0_1 l1 = some true := by
  by_cases hc : (l1.length : Int) > 1048576
  case pos => exact ⟨0, by unfold laws_FnExactDiskReset.f; rw [if_pos hc]⟩
  by_cases hs : l0_0.length + l0_1.length ≤ 1048576
  case neg => exact ⟨0, by
    unfold laws_FnExactDiskReset.f
    rw [if_neg hc, szDisk_big _ _ (max_len w0_0.1) (max_len w0_1.1) hs, Option.bind_some, if_pos (by omega)]⟩
  refine rounds_of (fun m hm => ?_)
  obtain ⟨r, q, v, hr, hq, e1, e2⟩ := same_f l0_0 l0_1 l1 (by omega) (by omega)
  have T := fun j => toDisk_f l0_0 l0_1 (m + j) (by omega) (by omega) (by omega) (by omega)
  have TB := fun j => toByteS_f l1 (m + j) (by omega) (by omega)
  have Q := fun j => eqDisk_refl l0_0 l0_1 (m + j) (by omega) (by omega) (by omega) (by omega)
  have QB := fun j => eqByteS_refl l1 (m + j) (by omega) (by omega)
  have Q' := fun j => eqDisk_refl r q (m + j) (by omega) (by omega) (by omega) (by omega)
  have M := fun j => markDisk_1 l0_0 l0_1 (m + j) (by omega) (by omega) (by omega) (by omega)
  have MB := fun j => markByteS_f l1 (1 + l0_0.length + l0_1.length) (m + j) (by omega) (by omega) (by omega)
  have M' := fun j => markDisk_1 r q (m + j) (by omega) (by omega) (by omega) (by omega)
  have H' := fun j => heldDisk_1 r.length q.length (m + j) (by omega) (by omega) (by omega) (by omega)
  unfold laws_FnExactDiskReset.f
  rw [if_neg (by omega), szDisk_ok _ _ hs]
  rw [Option.bind_some, if_neg (by omega), T, Option.bind_some, TB, Option.bind_some, e1, Option.bind_some, Option.bind_some, Option.bind_some, e2, Option.bind_some, Q', Option.bind_some, if_pos rfl]
  have J2 : ∀ z : Int, 0 ≤ z → z = ((1 + r.length + q.length : Nat) : Int) → laws_FnExactDiskReset.j2 (m + 6) z (v != v) (markL r.length 1) (markL q.length (1 + r.length)) = some true := fun z hz he => by
    rw [laws_FnExactDiskReset.j2, bne_self_eq_false, if_neg Bool.false_ne_true, H', Option.bind_some, if_neg (by omega), if_pos he.symm]
  have J1 : laws_FnExactDiskReset.j1 (m + 7) l1 v false l0_0 l0_1 r q r q = some true := by
    rw [laws_FnExactDiskReset.j1, if_neg Bool.false_ne_true, M', Option.bind_some, H', Option.bind_some, if_neg (by omega), if_pos rfl, T, Option.bind_some, TB, Option.bind_some, e2, Option.bind_some, Q', Option.bind_some, if_pos rfl]
    exact J2 _ (by omega) rfl
  rw [laws_FnExactDiskReset.j0, bne_self_eq_false, if_neg Bool.false_ne_true, T, Option.bind_some, Q, Option.bind_some, if_pos rfl, TB, Option.bind_some, QB, Option.bind_some, if_pos rfl, M, Option.bind_some, MB, Option.bind_some, if_neg (by omega), Q', Option.bind_some, if_pos rfl]
  exact J1


end Go.Proofs.Ytnejpihjlkpcgaa.Pure
