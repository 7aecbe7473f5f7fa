/- For all arguments Crc of the program and of the reference answer alike. This text proves it of the plain functions, with no program in sight. Conditions: none but those of the given statement. -/
import Derived.Test.YtccllhpdhhdnnaaPFnExactCrcx1
import Derived.Laws.BitsAllLaws
set_option linter.unusedVariables false
set_option linter.unusedSimpArgs false
namespace Go.Proofs.Ytccllhpdhhdnnaa.Pure
open Go Go.RowKit Go.Proofs.Ytccllhpdhhdnnaa.PFnExactCrc Go.Proofs.YtccllhpdhhdnnaaW.PrintWords Go.Proofs.YtccllhpdhhdnnaaW.PrintLast Go.Proofs.YtccllhpdhhdnnaaW.PrintMore

theorem wrap_id {x : Int} (h0 : -9223372036854775808 ≤ x) (h1 : x ≤ 9223372036854775807) : wrap64 x = x := by
  unfold wrap64; omega
theorem rd_eq (l : List Int) (i : Nat) (h : i < l.length) : rd l (i : Int) = l[i] := by
  simp [rd, h]
theorem succ_cast (i : Nat) : (i : Int) + 1 = ((i + 1 : Nat) : Int) := by omega
theorem take_set_same (l m : List Int) (i : Nat) (hi : i < l.length) (hm : m.length = l.length) (ht : m.take i = l.take i) : (m.set i l[i]).take (i + 1) = l.take (i + 1) := by
  rw [List.take_succ_eq_append_getElem (by simp; omega), List.take_succ_eq_append_getElem hi]
  simp [List.take_set_of_le, ht]

theorem toByteS_l0 (l : List Int) (hl : l.length ≤ 140737488351232) (d : Nat) : ∀ (k : Nat) (x3 : List Int) (i : Nat), i + d = l.length → d < k → x3.length = l.length → x3.take i = l.take i → laws_toByteS.l0 k l x3 (i : Int) = some l := by
  induction d with
  | zero =>
    intro k x3 i hi hk h3 ht
    obtain ⟨k, rfl⟩ : ∃ m, k = m + 1 := ⟨k - 1, by omega⟩
    simp only [laws_toByteS.l0]
    rw [if_neg (by omega)]
    rw [List.take_of_length_le (by omega), List.take_of_length_le (by omega)] at ht
    rw [ht]
  | succ d ih =>
    intro k x3 i hi hk h3 ht
    obtain ⟨k, rfl⟩ : ∃ m, k = m + 1 := ⟨k - 1, by omega⟩
    simp only [laws_toByteS.l0]
    rw [if_pos (by omega), if_pos (by omega), if_pos (by omega), wrap_id (by omega) (by omega), succ_cast, Int.toNat_natCast, rd_eq l i (by omega)]
    exact ih k _ (i + 1) (by omega) (by omega) (by simp [h3]) (take_set_same l x3 i (by omega) h3 ht)
theorem toByteS_f (l : List Int) (k : Nat) (hk : l.length < k) (hl : l.length ≤ 140737488351232) : laws_toByteS.f k l = some l := by
  unfold laws_toByteS.f
  rw [if_pos (by omega), if_pos (by omega)]
  exact toByteS_l0 l hl l.length k _ 0 (by omega) hk (by simp) (by simp)
theorem eqByteS_l0 (l : List Int) (hl : l.length ≤ 140737488351232) (d : Nat) : ∀ (k : Nat) (i : Nat), i + d = l.length → d < k → laws_eqByteS.l0 k l l (i : Int) = some true := by
  induction d with
  | zero =>
    intro k i hi hk
    obtain ⟨k, rfl⟩ : ∃ m, k = m + 1 := ⟨k - 1, by omega⟩
    simp only [laws_eqByteS.l0]
    rw [if_neg (by omega)]
  | succ d ih =>
    intro k i hi hk
    obtain ⟨k, rfl⟩ : ∃ m, k = m + 1 := ⟨k - 1, by omega⟩
    simp only [laws_eqByteS.l0]
    rw [if_pos (by omega), if_pos (by omega), if_pos (by omega), if_pos trivial, wrap_id (by omega) (by omega), succ_cast]
    exact ih k (i + 1) (by omega) (by omega)
theorem eqByteS_refl (l : List Int) (k : Nat) (hk : l.length < k) (hl : l.length ≤ 140737488351232) : laws_eqByteS.f k l l = some true := by
  unfold laws_eqByteS.f
  rw [if_pos rfl]
  exact eqByteS_l0 l hl l.length k 0 (by omega) hk

theorem i64_xor_small (a b : Nat) (ha : a < 4294967296) (hb : b < 4294967296) : Go.bits .xor .i64 (a : Int) (b : Int) = ((a ^^^ b : Nat) : Int) := by
  have hx : a ^^^ b < 2 ^ 32 := Nat.xor_lt_two_pow (by omega) (by omega)
  have e : ∀ n : Nat, n < 4294967296 → (BitVec.ofInt 64 (n : Int)).toNat = n := fun n hn => by
    rw [BitVec.ofInt_natCast, BitVec.toNat_ofNat]; exact Nat.mod_eq_of_lt (by omega)
  show IntKind.i64.wrap ((BitVec.ofInt 64 (a : Int) ^^^ BitVec.ofInt 64 (b : Int)).toNat : Int) = _
  rw [BitVec.toNat_xor, e a ha, e b hb]
  simp only [IntKind.wrap, IntKind.bits, IntKind.signed]
  simp
  omega
theorem and1_u32 (a : Nat) (ha : a < 4294967296) : Go.bits .and .u32 (a : Int) 1 = ((a % 2 : Nat) : Int) := by
  have h := u32_and_nat a 1 ha (by omega)
  rw [Nat.and_one_is_mod] at h
  exact h
theorem crc_poly_lt (x : Nat) (hx : x < 4294967296) : (x / 2) ^^^ 3988292384 < 4294967296 :=
  Nat.xor_lt_two_pow (n := 32) (by omega) (by omega)
theorem crc_l1 (l : List Int) (n i : Int) (d : Nat) : ∀ (j x : Nat), j + d = 8 → x < 4294967296 →
    ∃ y : Nat, y < 4294967296 ∧ ∀ k, spec_Crc.l1 (k + d + 1) (x : Int) (j : Int) l n i = spec_Crc.l0 k (y : Int) l n (wrap64 (i + 1)) ∧
      impl_Crc.l1 (k + d + 1) (x : Int) l n i (j : Int) = impl_Crc.l0 k (y : Int) l n (wrap64 (i + 1)) := by
  induction d with
  | zero =>
    intro j x hj hx
    refine ⟨x, hx, fun k => ?_⟩
    simp only [spec_Crc.l1, impl_Crc.l1]
    rw [if_neg (by omega), if_neg (by omega)]
    exact ⟨rfl, rfl⟩
  | succ d ih =>
    intro j x hj hx
    have w1 : wrap64 ((j : Int) + 1) = ((j + 1 : Nat) : Int) := by rw [wrap_id (by omega) (by omega)]; omega
    have t1 : Int.tmod (x : Int) 2 = ((x % 2 : Nat) : Int) := rfl
    have t2 : Int.tdiv (x : Int) 2 = ((x / 2 : Nat) : Int) := rfl
    have t3 : wrap64 ((x / 2 : Nat) : Int) = ((x / 2 : Nat) : Int) := wrap_id (by omega) (by omega)
    have t4 : (x : Int) / 2 = ((x / 2 : Nat) : Int) := rfl
    have b1 : Go.bits .xor .i64 ((x / 2 : Nat) : Int) 3988292384 = (((x / 2) ^^^ 3988292384 : Nat) : Int) := i64_xor_small (x / 2) 3988292384 (by omega) (by omega)
    have b2 : Go.bits .xor .u32 ((x / 2 : Nat) : Int) 3988292384 = (((x / 2) ^^^ 3988292384 : Nat) : Int) := u32_xor_nat (x / 2) 3988292384 (by omega) (by omega)
    by_cases ho : x % 2 = 1
    · obtain ⟨y, hy, h⟩ := ih (j + 1) ((x / 2) ^^^ 3988292384) (by omega) (crc_poly_lt x hx)
      refine ⟨y, hy, fun k => ?_⟩
      have g := h k
      have hk : k + (d + 1) + 1 = (k + d + 1) + 1 := by omega
      rw [hk]
      generalize k + d + 1 = q at g ⊢
      simp only [spec_Crc.l1, impl_Crc.l1]
      refine ⟨?_, ?_⟩
      · rw [if_pos (by omega), t1, if_pos (by omega), w1, t2, t3, b1]
        exact g.1
      · rw [if_pos (by omega), and1_u32 x hx, if_pos (by omega), w1, t4, b2]
        exact g.2
    · obtain ⟨y, hy, h⟩ := ih (j + 1) (x / 2) (by omega) (by omega)
      refine ⟨y, hy, fun k => ?_⟩
      have g := h k
      have hk : k + (d + 1) + 1 = (k + d + 1) + 1 := by omega
      rw [hk]
      generalize k + d + 1 = q at g ⊢
      simp only [spec_Crc.l1, impl_Crc.l1]
      refine ⟨?_, ?_⟩
      · rw [if_pos (by omega), t1, if_neg (by omega), w1, t2, t3]
        exact g.1
      · rw [if_pos (by omega), and1_u32 x hx, if_neg (by omega), w1, t4]
        exact g.2
theorem crc_l0 (l : List Int) (hl : l.length ≤ 140737488351232) (hb : ∀ x ∈ l, 0 ≤ x ∧ x < 256) (d : Nat) : ∀ (i x : Nat), i + d = l.length → x < 4294967296 →
    ∃ r : Nat, r < 4294967296 ∧ ∀ k, 10 * d < k → spec_Crc.l0 k (x : Int) l (l.length : Int) (i : Int) = some (r : Int) ∧ impl_Crc.l0 k (x : Int) l (l.length : Int) (i : Int) = some (r : Int) := by
  induction d with
  | zero =>
    intro i x hi hx
    have hr : x ^^^ 4294967295 < 4294967296 := Nat.xor_lt_two_pow (n := 32) (by omega) (by omega)
    refine ⟨x ^^^ 4294967295, hr, fun k hk => ?_⟩
    obtain ⟨k, rfl⟩ : ∃ m, k = m + 1 := ⟨k - 1, by omega⟩
    have b1 : Go.bits .xor .i64 (x : Int) 4294967295 = ((x ^^^ 4294967295 : Nat) : Int) := i64_xor_small x 4294967295 hx (by omega)
    have b2 : Go.bits .xor .u32 4294967295 (x : Int) = ((4294967295 ^^^ x : Nat) : Int) := u32_xor_nat 4294967295 x (by omega) hx
    simp only [spec_Crc.l0, impl_Crc.l0]
    rw [if_neg (by omega), if_neg (by omega), b1, b2, Nat.xor_comm 4294967295 x, wrap_id (by omega) (by omega)]
    exact ⟨rfl, rfl⟩
  | succ d ih =>
    intro i x hi hx
    have hlt : i < l.length := by omega
    have c1 : (i : Int) < (l.length : Int) := by omega
    have c0 : 0 ≤ (i : Int) := by omega
    obtain ⟨h0, h1⟩ := hb l[i] (List.getElem_mem hlt)
    obtain ⟨b, hbe⟩ : ∃ b : Nat, l[i] = (b : Int) := ⟨l[i].toNat, by omega⟩
    have hrd : rd l (i : Int) = (b : Int) := by rw [rd_eq l i hlt, hbe]
    have wb : wrap64 (b : Int) = (b : Int) := wrap_id (by omega) (by omega)
    have mb : (b : Int) % 4294967296 = (b : Int) := Int.emod_eq_of_lt (by omega) (by omega)
    have b1 : Go.bits .xor .i64 (x : Int) (b : Int) = ((x ^^^ b : Nat) : Int) := i64_xor_small x b hx (by omega)
    have b2 : Go.bits .xor .u32 (x : Int) (b : Int) = ((x ^^^ b : Nat) : Int) := u32_xor_nat x b hx (by omega)
    obtain ⟨y, hy, h⟩ := crc_l1 l (l.length : Int) (i : Int) 8 0 (x ^^^ b) (by omega) (Nat.xor_lt_two_pow (n := 32) (by omega) (by omega))
    obtain ⟨r, hr, g⟩ := ih (i + 1) y (by omega) hy
    refine ⟨r, hr, fun k hk => ?_⟩
    obtain ⟨m, rfl⟩ : ∃ m, k = (m + 8 + 1) + 1 := ⟨k - 10, by omega⟩
    have hw : wrap64 ((i : Int) + 1) = ((i + 1 : Nat) : Int) := by rw [wrap_id (by omega) (by omega)]; omega
    have e := h m
    have g' := g m (by omega)
    rw [hw] at e
    simp only [Int.natCast_zero] at e
    generalize m + 8 + 1 = q at e ⊢
    simp only [spec_Crc.l0, impl_Crc.l0]
    refine ⟨?_, ?_⟩
    · rw [if_pos c1, if_pos c0, if_pos c1, hrd, wb, b1]
      exact e.1.trans g'.1
    · rw [if_pos c1, if_pos c0, if_pos c1, hrd, mb, b2]
      exact e.2.trans g'.2
theorem crc_f (l : List Int) (hl : l.length ≤ 140737488351232) (hb : ∀ x ∈ l, 0 ≤ x ∧ x < 256) :
    ∃ r : Nat, (∀ k, 10 * l.length < k → spec_Crc.f k l = some (r : Int)) ∧ (∀ k, 10 * l.length < k → impl_Crc.f k l = some (r : Int)) := by
  obtain ⟨x, hx⟩ : ∃ x : Nat, (x : Int) = 4294967295 := ⟨4294967295, by omega⟩
  obtain ⟨r, _, h⟩ := crc_l0 l hl hb l.length 0 x (by omega) (by omega)
  simp only [hx, Int.natCast_zero] at h
  exact ⟨r, fun k hk => (h k hk).1, fun k hk => (h k hk).2⟩

theorem u8_of_wf {x : Int} (h : (Lit.int .u8 x).wf = true) : 0 ≤ x ∧ x < 256 := by
  simp [Lit.wf, IntKind.min, IntKind.max, IntKind.signed, IntKind.bits] at h
  omega
theorem crc_law (l : List Int) (h0 : l.length ≤ 140737488351232) (hb : ∀ x ∈ l, 0 ≤ x ∧ x < 256) (K : Nat) (hK : 10 * l.length < K) : laws_FnExactCrc.f K l = some true := by
  obtain ⟨r, s1, s2⟩ := crc_f l h0 hb
  have t1 := toByteS_f l K (by omega) h0
  have t2 := eqByteS_refl l K (by omega) h0
  have s1 := s1 K hK
  have s2 := s2 K hK
  unfold laws_FnExactCrc.f
  rw [t1]
  simp only [Option.bind_some]
  rw [s1, s2]
  simp only [Option.bind_some]
  rw [t2]
  simp
theorem FnExactCrc (l0 : List Int) (w0 : l0.length ≤ maxLen ∧ ∀ l0_e ∈ l0, (Lit.int .u8 l0_e).wf = true) : ∃ k, laws_FnExactCrc.f k l0 = some true := by
  by_cases h0 : (l0.length : Int) > 1048576
  · exact ⟨0, by unfold laws_FnExactCrc.f; rw [if_pos h0]⟩
  · exact ⟨_, crc_law l0 (by omega) (fun x hx => u8_of_wf (w0.2 x hx)) (10 * l0.length + 1) (by omega)⟩

end Go.Proofs.Ytccllhpdhhdnnaa.Pure
