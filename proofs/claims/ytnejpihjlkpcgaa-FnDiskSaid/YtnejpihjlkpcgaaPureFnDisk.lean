/- For every draw the disk of the program keeps what is durable, and of the rest a prefix: the law FnDisk holds. This text proves it of the plain functions, with no program in sight. Conditions: none but those of the given statement. -/
import Derived.Test.YtnejpihjlkpcgaaPFnDiskx3
set_option linter.unusedVariables false
set_option linter.unusedSimpArgs false
namespace Go.Proofs.Ytnejpihjlkpcgaa.Pure
open Go Go.RowKit Go.Proofs.Ytnejpihjlkpcgaa.PFnDisk Go.Proofs.YtnejpihjlkpcgaaW.PrintWords Go.Proofs.YtnejpihjlkpcgaaW.PrintLast Go.Proofs.YtnejpihjlkpcgaaW.PrintMore

theorem wrap_id {x : Int} (h0 : -9223372036854775808 ≤ x) (h1 : x ≤ 9223372036854775807) : wrap64 x = x := by
  unfold wrap64; omega
theorem rd_eq (l : List Int) (i : Nat) (h : i < l.length) : rd l (i : Int) = l[i] := by
  simp [rd, h]
theorem succ_cast (i : Nat) : (i : Int) + 1 = ((i + 1 : Nat) : Int) := by omega
theorem take_set_same (l m : List Int) (i : Nat) (hi : i < l.length) (hm : m.length = l.length) (ht : m.take i = l.take i) : (m.set i l[i]).take (i + 1) = l.take (i + 1) := by
  rw [List.take_succ_eq_append_getElem (by simp; omega), List.take_succ_eq_append_getElem hi]
  simp [List.take_set_of_le, ht]
theorem natlt0 (n : Nat) : ((n : Int) < 0) = False := by simp
theorem wrap_nat (n : Nat) (h : n ≤ 9223372036854775807) : wrap64 (n : Int) = (n : Int) := wrap_id (by omega) (by omega)
theorem wrap_succ (n : Nat) (h : n < 9223372036854775807) : wrap64 ((n : Int) + 1) = ((n + 1 : Nat) : Int) := by rw [wrap_id (by omega) (by omega)]; omega
theorem u8_of_wf {x : Int} (h : (Lit.int .u8 x).wf = true) : 0 ≤ x ∧ x < 256 := by
  simp [Lit.wf, IntKind.min, IntKind.max, IntKind.signed, IntKind.bits] at h
  omega
theorem i64_of_wf {x : Int} (h : (Lit.int .i64 x).wf = true) : -9223372036854775808 ≤ x ∧ x ≤ 9223372036854775807 := by
  simp [Lit.wf, IntKind.min, IntKind.max, IntKind.signed, IntKind.bits] at h
  omega
theorem max_len {α : Type} {l : List α} (h : l.length ≤ maxLen) : l.length ≤ 9223372036854775807 := by
  unfold maxLen at h; omega
theorem rounds_of {f : Nat → Option Bool} (h : ∀ m, 20000000 ≤ m → f (m + 8) = some true) : ∃ k, f k = some true := by
  obtain ⟨m, hm⟩ : ∃ m : Nat, 20000000 ≤ m := ⟨_, Nat.le_refl _⟩
  exact ⟨m + 8, h m hm⟩

theorem and255 (x : Int) : 0 ≤ Go.bits .and .i64 x 255 ∧ Go.bits .and .i64 x 255 ≤ 255 := by
  have e : (BitVec.ofInt 64 (255 : Int)).toNat = 255 := rfl
  have h : Go.bits .and .i64 x 255 = IntKind.i64.wrap (((BitVec.ofInt 64 x).toNat &&& 255 : Nat) : Int) := by
    show IntKind.i64.wrap ((BitVec.ofInt 64 x &&& BitVec.ofInt 64 255).toNat : Int) = _
    rw [BitVec.toNat_and, e]
  have hle : (BitVec.ofInt 64 x).toNat &&& 255 ≤ 255 := Nat.and_le_right
  rw [h]
  generalize (BitVec.ofInt 64 x).toNat &&& 255 = n at hle
  simp only [IntKind.wrap, IntKind.bits, IntKind.signed]
  simp
  omega
theorem l01New_l0 (l : List Int) (d : Nat) : ∀ (x3 : Int) (i : Nat), i + d = 4000 → ∃ h, ∀ k, d < k → spec_l01New.l0 k l x3 (i : Int) = some (l, 0, h) := by
  induction d with
  | zero =>
    intro x3 i hi
    refine ⟨x3, fun k hk => ?_⟩
    obtain ⟨k, rfl⟩ : ∃ m, k = m + 1 := ⟨k - 1, by omega⟩
    simp only [spec_l01New.l0]
    by_cases hl : (i : Int) < (l.length : Int)
    · rw [if_pos hl, if_neg (by omega)]
    · rw [if_neg hl]
  | succ d ih =>
    intro x3 i hi
    by_cases hl : (i : Int) < (l.length : Int)
    · obtain ⟨h, hh⟩ := ih (Go.bits .and .i64 (wrap64 ((wrap64 ((wrap64 (x3 * 47)) + (wrap64 (rd l (i : Int))))) + 7)) 1073741823) (i + 1) (by omega)
      refine ⟨h, fun k hk => ?_⟩
      obtain ⟨k, rfl⟩ : ∃ m, k = m + 1 := ⟨k - 1, by omega⟩
      simp only [spec_l01New.l0]
      rw [if_pos hl, if_pos (by omega), if_pos (by omega), wrap_succ i (by omega)]
      exact hh k (by omega)
    · refine ⟨x3, fun k hk => ?_⟩
      obtain ⟨k, rfl⟩ : ∃ m, k = m + 1 := ⟨k - 1, by omega⟩
      simp only [spec_l01New.l0]
      rw [if_neg hl]
theorem l01New_f (l : List Int) : ∃ h, ∀ k, 4000 < k → spec_l01New.f k l = some (l, 0, h) := l01New_l0 l 4000 _ 0 (by omega)
theorem l01Byte_f (s : List Int) (hs : s.length ≤ 1048576) (i h : Int) (hi : 0 ≤ i) : ∃ r i' h', spec_l01Byte.f s i h = some (r, i', h') ∧ 0 ≤ i' ∧ 0 ≤ r ∧ r ≤ 255 := by
  unfold spec_l01Byte.f
  by_cases hl : i < (s.length : Int)
  · rw [if_pos hl, if_pos hi]
    exact ⟨_, _, _, rfl, by rw [wrap_id (by omega) (by omega)]; omega, (and255 _).1, (and255 _).2⟩
  · rw [if_neg hl]
    exact ⟨_, _, _, rfl, hi, (and255 _).1, (and255 _).2⟩
theorem tmod_in (a n : Int) (ha : 0 ≤ a) (hn : 0 < n) : 0 ≤ Int.tmod a n ∧ Int.tmod a n < n :=
  ⟨Int.tmod_nonneg n ha, Int.tmod_lt_of_pos a hn⟩
theorem l01Below_f (s : List Int) (hs : s.length ≤ 1048576) (i h n : Int) (hi : 0 ≤ i) : ∃ r i' h', spec_l01Below.f s i h n = some (r, i', h') ∧ 0 ≤ i' ∧ 0 ≤ r ∧ (0 < n → r < n) ∧ (n ≤ 0 → r = 0) := by
  unfold spec_l01Below.f
  by_cases h0 : n ≤ 0
  · rw [if_pos h0]
    exact ⟨_, _, _, rfl, hi, Int.le_refl _, fun h => by omega, fun _ => rfl⟩
  rw [if_neg h0]
  by_cases h1 : n ≤ 256
  · rw [if_pos h1]
    obtain ⟨r, i', h', e, hi', hr0, hr1⟩ := l01Byte_f s hs i h hi
    rw [e]
    simp only [Option.bind_some]
    rw [if_neg (by omega)]
    have t := tmod_in r n hr0 (by omega)
    exact ⟨_, _, _, rfl, hi', t.1, fun _ => t.2, fun h => absurd h h0⟩
  · rw [if_neg h1]
    obtain ⟨r1, i1, h1', e1, hi1, ha0, ha1⟩ := l01Byte_f s hs i h hi
    obtain ⟨r2, i2, h2', e2, hi2, hb0, hb1⟩ := l01Byte_f s hs i1 h1' hi1
    obtain ⟨r3, i3, h3', e3, hi3, hc0, hc1⟩ := l01Byte_f s hs i2 h2' hi2
    obtain ⟨r4, i4, h4', e4, hi4, hd0, hd1⟩ := l01Byte_f s hs i3 h3' hi3
    rw [e1]; simp only [Option.bind_some]
    rw [e2]; simp only [Option.bind_some]
    rw [e3]; simp only [Option.bind_some]
    rw [e4]; simp only [Option.bind_some]
    rw [if_neg (by omega), wrap_id (x := r1 * 16777216) (by omega) (by omega), wrap_id (x := r2 * 65536) (by omega) (by omega), wrap_id (x := r3 * 256) (by omega) (by omega),
      wrap_id (x := r1 * 16777216 + r2 * 65536) (by omega) (by omega), wrap_id (x := r1 * 16777216 + r2 * 65536 + r3 * 256) (by omega) (by omega), wrap_id (x := r1 * 16777216 + r2 * 65536 + r3 * 256 + r4) (by omega) (by omega)]
    have t := tmod_in (r1 * 16777216 + r2 * 65536 + r3 * 256 + r4) n (by omega) (by omega)
    exact ⟨_, _, _, rfl, hi4, t.1, fun _ => t.2, fun h => absurd h h0⟩

theorem MakeNum_f (l : List Int) (hl : l.length ≤ 1048576) (n : Int) : ∃ r, 0 ≤ r ∧ (0 < n → r < n) ∧ (n ≤ 0 → r = 0) ∧ ∀ k, 4000 < k → spec_MakeNum.f k l n = some r := by
  obtain ⟨h, hh⟩ := l01New_f l
  obtain ⟨r, i', h', e, _, hr0, hr1, hr2⟩ := l01Below_f l hl 0 (wrap64 (h + 777)) n (Int.le_refl _)
  refine ⟨r, hr0, hr1, hr2, fun k hk => ?_⟩
  unfold spec_MakeNum.f
  rw [hh k hk]
  simp only [Option.bind_some]
  rw [e]
  rfl

theorem l01Bytes_l0 (s : List Int) (hs : s.length ≤ 1048576) (d : Nat) : ∀ (x5 : List Int) (i h : Int), 0 ≤ i → x5.length + d ≤ 1000000 → (∀ x ∈ x5, 0 ≤ x ∧ x < 256) →
    ∃ bs i' h', bs.length = x5.length + d ∧ 0 ≤ i' ∧ (∀ x ∈ bs, 0 ≤ x ∧ x < 256) ∧ ∀ k, d < k → spec_l01Bytes.l0 k x5 (d : Int) s i h = some (bs, i', h') := by
  induction d with
  | zero =>
    intro x5 i h hi hl hx
    refine ⟨x5, i, h, rfl, hi, hx, fun k hk => ?_⟩
    obtain ⟨k, rfl⟩ : ∃ m, k = m + 1 := ⟨k - 1, by omega⟩
    simp only [spec_l01Bytes.l0]
    rw [if_neg (by omega)]
  | succ d ih =>
    intro x5 i h hi hl hx
    obtain ⟨r, i1, h1, e, hi1, hr0, hr1⟩ := l01Byte_f s hs i h hi
    have hm : r % 256 = r := Int.emod_eq_of_lt hr0 (by omega)
    obtain ⟨bs, i', h', hb, hi', hx', hk'⟩ := ih (x5 ++ [r % 256]) i1 h1 hi1 (by rw [List.length_append]; simp; omega) (fun x hx1 => by
      rcases List.mem_append.1 hx1 with h2 | h2
      · exact hx x h2
      · rw [List.mem_singleton.1 h2, hm]; omega)
    refine ⟨bs, i', h', by rw [hb, List.length_append]; simp; omega, hi', hx', fun k hk => ?_⟩
    obtain ⟨k, rfl⟩ : ∃ m, k = m + 1 := ⟨k - 1, by omega⟩
    simp only [spec_l01Bytes.l0]
    rw [if_pos (by omega), e]
    simp only [Option.bind_some]
    rw [if_pos (by omega), wrap_id (x := ((d + 1 : Nat) : Int) - 1) (by omega) (by omega)]
    have hd : ((d + 1 : Nat) : Int) - 1 = (d : Int) := by omega
    rw [hd]
    exact hk' k (by omega)
theorem l01Bytes_f (l : List Int) (hl : l.length ≤ 1048576) (i h : Int) (hi : 0 ≤ i) (most : Nat) (hm : most ≤ 1000) : ∃ (bs : List Int) (i' h' : Int), bs.length ≤ most ∧ 0 ≤ i' ∧ (∀ x ∈ bs, 0 ≤ x ∧ x < 256) ∧ ∀ k, most < k → spec_l01Bytes.f k l i h (most : Int) = some (bs, i', h') := by
  obtain ⟨r, i1, h1, e, hi1, hr0, hr1, _⟩ := l01Below_f l hl i h ((most : Int) + 1) hi
  have hr1 := hr1 (by omega)
  obtain ⟨n, rfl⟩ : ∃ n : Nat, r = (n : Int) := ⟨r.toNat, by omega⟩
  obtain ⟨bs, i', h', hb, hi', hx, hk'⟩ := l01Bytes_l0 l hl n [] i1 h1 hi1 (by simp; omega) (by simp)
  refine ⟨bs, i', h', by rw [hb]; simp; omega, hi', hx, fun k hk => ?_⟩
  unfold spec_l01Bytes.f
  rw [wrap_id (x := (most : Int) + 1) (by omega) (by omega), e, Option.bind_some]
  exact hk' k (by omega)
theorem MakeBytes_f (l : List Int) (hl : l.length ≤ 1048576) (most : Nat) (hm : most ≤ 1000) : ∃ bs : List Int, bs.length ≤ most ∧ (∀ x ∈ bs, 0 ≤ x ∧ x < 256) ∧ ∀ k, 4000 < k → spec_MakeBytes.f k l (most : Int) = some bs := by
  obtain ⟨h, hh⟩ := l01New_f l
  obtain ⟨bs, i', h', hb, _, hx, hk'⟩ := l01Bytes_f l hl 0 (wrap64 (h + (most : Int))) (Int.le_refl _) most hm
  refine ⟨bs, hb, hx, fun k hk => ?_⟩
  unfold spec_MakeBytes.f
  rw [hh k hk, Option.bind_some]
  dsimp only
  rw [hk' k (by omega)]
  rfl

theorem copyBytes_f (l : List Int) (hl : l.length < 140737488355328) : impl_copyBytes.f l = some l := by
  unfold impl_copyBytes.f
  rw [if_pos (by simpa using hl)]
  rfl

theorem ok_small (a b : List Int) (h : a.length + b.length ≤ 20000) : impl_DiskOk.f a b = some true := by
  unfold impl_DiskOk.f
  rw [wrap_id (by omega) (by omega)]
  congr 1
  exact decide_eq_true (by omega)
theorem write_new (a b : List Int) (h : a.length + b.length ≤ 20000) : impl_DiskWrite.f a [] b = some (a, b, true) := by
  have w4 : impl_DiskOk.f a [] = some true := ok_small a [] (by rw [List.length_nil]; omega)
  have e3 : ¬ (wrap64 ((wrap64 ((a.length : Int) + (([] : List Int).length : Int))) + (b.length : Int))) > 20000 := by
    rw [List.length_nil, wrap_id (x := (a.length : Int) + ((0 : Nat) : Int)) (by omega) (by omega), wrap_id (by omega) (by omega)]; omega
  have c : impl_copyDisk.f a [] = some (a, []) := by
    unfold impl_copyDisk.f
    rw [copyBytes_f a (by omega), Option.bind_some, copyBytes_f [] (by rw [List.length_nil]; omega), Option.bind_some]
  have hb : ([] : List Int).length + b.length < 140737488355328 := by rw [List.length_nil]; omega
  unfold impl_DiskWrite.f
  rw [w4, Option.bind_some, if_pos rfl, if_neg e3, c, Option.bind_some, if_pos hb, List.nil_append]
theorem fall_nat (a b : List Int) (n : Nat) (hn : n ≤ b.length) (h : a.length + b.length ≤ 20000) : impl_DiskFall.f a b (n : Int) = some (a ++ b.take n, []) := by
  have hk : mx 0 (mn (n : Int) (b.length : Int)) = (n : Int) := by
    unfold mx mn; repeat' split
    all_goals omega
  unfold impl_DiskFall.f
  rw [copyBytes_f _ (by omega), Option.bind_some, hk, if_pos (by omega), if_pos (by omega), Int.toNat_natCast, if_pos (by rw [List.length_take]; omega)]
theorem all_of (a b : List Int) (h : a.length + b.length ≤ 20000) : impl_DiskAll.f a b = some (a ++ b) := by
  unfold impl_DiskAll.f
  rw [copyBytes_f _ (by omega), Option.bind_some, if_pos (by omega)]
theorem sync_of (a b : List Int) (h : a.length + b.length ≤ 20000) : impl_DiskSync.f a b = some (a ++ b, []) := by
  unfold impl_DiskSync.f
  rw [all_of a b h, Option.bind_some]
theorem reset_clean (a b : List Int) (h : b.length ≤ 20000) : impl_DiskReset.f a [] b = some (b, [], true) := by
  unfold impl_DiskReset.f
  rw [if_neg (by simp), if_neg (by omega), copyBytes_f _ (by omega), Option.bind_some]
theorem reset_any (a b : List Int) (h : b.length ≤ 20000) : ∃ p q, impl_DiskReset.f a b b = some (p, q, (b.length : Int) == 0) := by
  by_cases h0 : b.length = 0
  · obtain rfl : b = [] := List.length_eq_zero_iff.1 h0
    exact ⟨_, _, reset_clean a [] h⟩
  · refine ⟨[], [], ?_⟩
    unfold impl_DiskReset.f
    rw [if_pos (by omega), show ((b.length : Int) == 0) = false from beq_eq_false_iff_ne.mpr (by omega)]
theorem same_refl (l : List Int) : impl_SameBytes.f l l = some true := by
  unfold impl_SameBytes.f
  rw [beq_self_eq_true]
theorem FnDisk (l0 : List Int) (w0 : l0.length ≤ maxLen ∧ ∀ l0_e ∈ l0, (Lit.int .u8 l0_e).wf = true) : ∃ k, laws_FnDisk.f k l0 = some true := by
  by_cases hl : l0.length ≤ 1048576
  case neg => exact ⟨0, by unfold laws_FnDisk.f; rw [if_pos (by omega)]⟩
  obtain ⟨a, ha, _, ea⟩ := MakeBytes_f l0 hl 9 (by omega)
  obtain ⟨b, hb, _, eb⟩ := MakeBytes_f l0 hl 7 (by omega)
  obtain ⟨n0, hn0, hn1, _, en⟩ := MakeNum_f l0 hl ((b.length : Int) + 1)
  obtain ⟨n, rfl⟩ : ∃ n : Nat, n0 = (n : Int) := ⟨n0.toNat, by omega⟩
  have hn : n ≤ b.length := by have := hn1 (by omega); omega
  have ea' : spec_MakeBytes.f 4001 l0 9 = some a := ea 4001 (by omega)
  have eb' : spec_MakeBytes.f 4001 l0 7 = some b := eb 4001 (by omega)
  have en' := en 4001 (by omega)
  obtain ⟨p, q, er⟩ := reset_any a b (by omega)
  have e1 : wrap64 ((b.length : Int) + 1) = (b.length : Int) + 1 := wrap_id (by omega) (by omega)
  have e2 : wrap64 ((a.length : Int) + (n : Int)) = ((a.length + n : Nat) : Int) := by rw [wrap_id (by omega) (by omega)]; omega
  have hnil : ([] : List Int) ++ a = a := rfl
  have hab : (a ++ b).length = a.length + b.length := List.length_append
  have ht : (a ++ b).take (a.length + n) = a ++ b.take n := by rw [List.take_append, List.take_of_length_le (by omega)]; simp
  refine ⟨4001, ?_⟩
  unfold laws_FnDisk.f
  rw [if_neg (by omega), ea', Option.bind_some, eb', Option.bind_some, write_new a b (by omega), Option.bind_some, e1, en', Option.bind_some]
  dsimp only
  rw [fall_nat a b n hn (by omega), Option.bind_some, sync_of a b (by omega), Option.bind_some]
  dsimp only
  rw [reset_clean _ b (by omega), Option.bind_some, er, Option.bind_some, Option.bind_some]
  rw [if_pos (by simp; omega), Option.bind_some, hnil, if_pos (by omega), Option.bind_some, if_pos rfl, ok_small a b (by omega), Option.bind_some, if_pos rfl, all_of a b (by omega), Option.bind_some, same_refl, Option.bind_some, if_pos rfl, e2, if_pos (by omega), if_pos (by rw [hab]; omega), Int.toNat_natCast, ht, same_refl, Option.bind_some, if_pos rfl]
  dsimp only
  rw [if_pos (by simp), same_refl, Option.bind_some, if_pos rfl, if_pos rfl, Option.bind_some, if_pos rfl, if_pos (by simp), fall_nat a b b.length (Nat.le_refl _) (by omega), Option.bind_some, List.take_length]
  dsimp only
  unfold impl_DiskSame.f
  rw [same_refl, Option.bind_some, if_pos rfl, same_refl]
  rfl

end Go.Proofs.Ytnejpihjlkpcgaa.Pure
