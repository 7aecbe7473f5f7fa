/- For all bytes Torn of the program and of the reference answer alike. This text proves it of the plain functions, with no program in sight. Conditions: none but those of the given statement. -/
import Derived.Test.YtgkjbechcbbgjaaPFnExactTornx3
import Derived.Laws.BitsAllLaws
set_option linter.unusedVariables false
set_option linter.unusedSimpArgs false
namespace Go.Proofs.Ytgkjbechcbbgjaa.Pure
open Go Go.RowKit Go.Proofs.Ytgkjbechcbbgjaa.PFnExactTorn Go.Proofs.YtgkjbechcbbgjaaW.PrintWords Go.Proofs.YtgkjbechcbbgjaaW.PrintLast Go.Proofs.YtgkjbechcbbgjaaW.PrintMore

theorem wrap_id {x : Int} (h0 : -9223372036854775808 ≤ x) (h1 : x ≤ 9223372036854775807) : wrap64 x = x := by
  unfold wrap64; omega
theorem rd_eq (l : List Int) (i : Nat) (h : i < l.length) : rd l (i : Int) = l[i] := by
  simp [rd, h]
theorem succ_cast (i : Nat) : (i : Int) + 1 = ((i + 1 : Nat) : Int) := by omega
theorem take_set_same (l m : List Int) (i : Nat) (hi : i < l.length) (hm : m.length = l.length) (ht : m.take i = l.take i) : (m.set i l[i]).take (i + 1) = l.take (i + 1) := by
  rw [List.take_succ_eq_append_getElem (by simp; omega), List.take_succ_eq_append_getElem hi]
  simp [List.take_set_of_le, ht]
theorem natlt0 (n : Nat) : ((n : Int) < 0) = False := by simp
theorem wrap_nat (n : Nat) (h : n ≤ 9223372036854775807) : wrap64 (n : Int) = (n : Int) := wrap_id (by omega) (by omega)
theorem wrap_succ (n : Nat) (h : n < 9223372036854775807) : wrap64 ((n : Int) + 1) = ((n + 1 : Nat) : Int) := by rw [wrap_id (by omega) (by omega)]; omega
theorem u8_of_wf {x : Int} (h : (Lit.int .u8 x).wf = true) : 0 ≤ x ∧ x < 256 := by
  simp [Lit.wf, IntKind.min, IntKind.max, IntKind.signed, IntKind.bits] at h
  omega
theorem i64_of_wf {x : Int} (h : (Lit.int .i64 x).wf = true) : -9223372036854775808 ≤ x ∧ x ≤ 9223372036854775807 := by
  simp [Lit.wf, IntKind.min, IntKind.max, IntKind.signed, IntKind.bits] at h
  omega
theorem max_len {α : Type} {l : List α} (h : l.length ≤ maxLen) : l.length ≤ 9223372036854775807 := by
  unfold maxLen at h; omega
theorem rounds_of {f : Nat → Option Bool} (h : ∀ m, 20000000 ≤ m → f (m + 8) = some true) : ∃ k, f k = some true := by
  obtain ⟨m, hm⟩ : ∃ m : Nat, 20000000 ≤ m := ⟨_, Nat.le_refl _⟩
  exact ⟨m + 8, h m hm⟩

theorem toByteS_l0 (l : List Int) (hl : l.length ≤ 140737488351232) (d : Nat) : ∀ (k : Nat) (x3 : List Int) (i : Nat), i + d = l.length → d < k → x3.length = l.length → x3.take i = l.take i → laws_toByteS.l0 k l x3 (i : Int) = some l := by
  induction d with
  | zero =>
    intro k x3 i hi hk h3 ht
    obtain ⟨k, rfl⟩ : ∃ m, k = m + 1 := ⟨k - 1, by omega⟩
    simp only [laws_toByteS.l0]
    rw [if_neg (by omega)]
    rw [List.take_of_length_le (by omega), List.take_of_length_le (by omega)] at ht
    rw [ht]
  | succ d ih =>
    intro k x3 i hi hk h3 ht
    obtain ⟨k, rfl⟩ : ∃ m, k = m + 1 := ⟨k - 1, by omega⟩
    simp only [laws_toByteS.l0]
    rw [if_pos (by omega), if_pos (by omega), if_pos (by omega), wrap_id (by omega) (by omega), succ_cast, Int.toNat_natCast, rd_eq l i (by omega)]
    exact ih k _ (i + 1) (by omega) (by omega) (by simp [h3]) (take_set_same l x3 i (by omega) h3 ht)
theorem toByteS_f (l : List Int) (k : Nat) (hk : l.length < k) (hl : l.length ≤ 140737488351232) : laws_toByteS.f k l = some l := by
  unfold laws_toByteS.f
  rw [if_pos (by omega), if_pos (by omega)]
  exact toByteS_l0 l hl l.length k _ 0 (by omega) hk (by simp) (by simp)
theorem eqByteS_l0 (l : List Int) (hl : l.length ≤ 140737488351232) (d : Nat) : ∀ (k : Nat) (i : Nat), i + d = l.length → d < k → laws_eqByteS.l0 k l l (i : Int) = some true := by
  induction d with
  | zero =>
    intro k i hi hk
    obtain ⟨k, rfl⟩ : ∃ m, k = m + 1 := ⟨k - 1, by omega⟩
    simp only [laws_eqByteS.l0]
    rw [if_neg (by omega)]
  | succ d ih =>
    intro k i hi hk
    obtain ⟨k, rfl⟩ : ∃ m, k = m + 1 := ⟨k - 1, by omega⟩
    simp only [laws_eqByteS.l0]
    rw [if_pos (by omega), if_pos (by omega), if_pos (by omega), if_pos trivial, wrap_id (by omega) (by omega), succ_cast]
    exact ih k (i + 1) (by omega) (by omega)
theorem eqByteS_refl (l : List Int) (k : Nat) (hk : l.length < k) (hl : l.length ≤ 140737488351232) : laws_eqByteS.f k l l = some true := by
  unfold laws_eqByteS.f
  rw [if_pos rfl]
  exact eqByteS_l0 l hl l.length k 0 (by omega) hk

theorem i64_xor_small (a b : Nat) (ha : a < 4294967296) (hb : b < 4294967296) : Go.bits .xor .i64 (a : Int) (b : Int) = ((a ^^^ b : Nat) : Int) := by
  have hx : a ^^^ b < 2 ^ 32 := Nat.xor_lt_two_pow (by omega) (by omega)
  have e : ∀ n : Nat, n < 4294967296 → (BitVec.ofInt 64 (n : Int)).toNat = n := fun n hn => by
    rw [BitVec.ofInt_natCast, BitVec.toNat_ofNat]; exact Nat.mod_eq_of_lt (by omega)
  show IntKind.i64.wrap ((BitVec.ofInt 64 (a : Int) ^^^ BitVec.ofInt 64 (b : Int)).toNat : Int) = _
  rw [BitVec.toNat_xor, e a ha, e b hb]
  simp only [IntKind.wrap, IntKind.bits, IntKind.signed]
  simp
  omega
theorem and1_u32 (a : Nat) (ha : a < 4294967296) : Go.bits .and .u32 (a : Int) 1 = ((a % 2 : Nat) : Int) := by
  have h := u32_and_nat a 1 ha (by omega)
  rw [Nat.and_one_is_mod] at h
  exact h
theorem crc_poly_lt (x : Nat) (hx : x < 4294967296) : (x / 2) ^^^ 3988292384 < 4294967296 :=
  Nat.xor_lt_two_pow (n := 32) (by omega) (by omega)
theorem crc_l1 (l : List Int) (n i : Int) (d : Nat) : ∀ (j x : Nat), j + d = 8 → x < 4294967296 →
    ∃ y : Nat, y < 4294967296 ∧ ∀ k, spec_Crc.l1 (k + d + 1) (x : Int) (j : Int) l n i = spec_Crc.l0 k (y : Int) l n (wrap64 (i + 1)) ∧
      impl_Crc.l1 (k + d + 1) (x : Int) l n i (j : Int) = impl_Crc.l0 k (y : Int) l n (wrap64 (i + 1)) := by
  induction d with
  | zero =>
    intro j x hj hx
    refine ⟨x, hx, fun k => ?_⟩
    simp only [spec_Crc.l1, impl_Crc.l1]
    rw [if_neg (by omega), if_neg (by omega)]
    exact ⟨rfl, rfl⟩
  | succ d ih =>
    intro j x hj hx
    have w1 : wrap64 ((j : Int) + 1) = ((j + 1 : Nat) : Int) := by rw [wrap_id (by omega) (by omega)]; omega
    have t1 : Int.tmod (x : Int) 2 = ((x % 2 : Nat) : Int) := rfl
    have t2 : Int.tdiv (x : Int) 2 = ((x / 2 : Nat) : Int) := rfl
    have t3 : wrap64 ((x / 2 : Nat) : Int) = ((x / 2 : Nat) : Int) := wrap_id (by omega) (by omega)
    have t4 : (x : Int) / 2 = ((x / 2 : Nat) : Int) := rfl
    have b1 : Go.bits .xor .i64 ((x / 2 : Nat) : Int) 3988292384 = (((x / 2) ^^^ 3988292384 : Nat) : Int) := i64_xor_small (x / 2) 3988292384 (by omega) (by omega)
    have b2 : Go.bits .xor .u32 ((x / 2 : Nat) : Int) 3988292384 = (((x / 2) ^^^ 3988292384 : Nat) : Int) := u32_xor_nat (x / 2) 3988292384 (by omega) (by omega)
    by_cases ho : x % 2 = 1
    · obtain ⟨y, hy, h⟩ := ih (j + 1) ((x / 2) ^^^ 3988292384) (by omega) (crc_poly_lt x hx)
      refine ⟨y, hy, fun k => ?_⟩
      have g := h k
      have hk : k + (d + 1) + 1 = (k + d + 1) + 1 := by omega
      rw [hk]
      generalize k + d + 1 = q at g ⊢
      simp only [spec_Crc.l1, impl_Crc.l1]
      refine ⟨?_, ?_⟩
      · rw [if_pos (by omega), t1, if_pos (by omega), w1, t2, t3, b1]
        exact g.1
      · rw [if_pos (by omega), and1_u32 x hx, if_pos (by omega), w1, t4, b2]
        exact g.2
    · obtain ⟨y, hy, h⟩ := ih (j + 1) (x / 2) (by omega) (by omega)
      refine ⟨y, hy, fun k => ?_⟩
      have g := h k
      have hk : k + (d + 1) + 1 = (k + d + 1) + 1 := by omega
      rw [hk]
      generalize k + d + 1 = q at g ⊢
      simp only [spec_Crc.l1, impl_Crc.l1]
      refine ⟨?_, ?_⟩
      · rw [if_pos (by omega), t1, if_neg (by omega), w1, t2, t3]
        exact g.1
      · rw [if_pos (by omega), and1_u32 x hx, if_neg (by omega), w1, t4]
        exact g.2
theorem crc_l0 (l : List Int) (hl : l.length ≤ 140737488351232) (hb : ∀ x ∈ l, 0 ≤ x ∧ x < 256) (d : Nat) : ∀ (i x : Nat), i + d = l.length → x < 4294967296 →
    ∃ r : Nat, r < 4294967296 ∧ ∀ k, 10 * d < k → spec_Crc.l0 k (x : Int) l (l.length : Int) (i : Int) = some (r : Int) ∧ impl_Crc.l0 k (x : Int) l (l.length : Int) (i : Int) = some (r : Int) := by
  induction d with
  | zero =>
    intro i x hi hx
    have hr : x ^^^ 4294967295 < 4294967296 := Nat.xor_lt_two_pow (n := 32) (by omega) (by omega)
    refine ⟨x ^^^ 4294967295, hr, fun k hk => ?_⟩
    obtain ⟨k, rfl⟩ : ∃ m, k = m + 1 := ⟨k - 1, by omega⟩
    have b1 : Go.bits .xor .i64 (x : Int) 4294967295 = ((x ^^^ 4294967295 : Nat) : Int) := i64_xor_small x 4294967295 hx (by omega)
    have b2 : Go.bits .xor .u32 4294967295 (x : Int) = ((4294967295 ^^^ x : Nat) : Int) := u32_xor_nat 4294967295 x (by omega) hx
    simp only [spec_Crc.l0, impl_Crc.l0]
    rw [if_neg (by omega), if_neg (by omega), b1, b2, Nat.xor_comm 4294967295 x, wrap_id (by omega) (by omega)]
    exact ⟨rfl, rfl⟩
  | succ d ih =>
    intro i x hi hx
    have hlt : i < l.length := by omega
    have c1 : (i : Int) < (l.length : Int) := by omega
    have c0 : 0 ≤ (i : Int) := by omega
    obtain ⟨h0, h1⟩ := hb l[i] (List.getElem_mem hlt)
    obtain ⟨b, hbe⟩ : ∃ b : Nat, l[i] = (b : Int) := ⟨l[i].toNat, by omega⟩
    have hrd : rd l (i : Int) = (b : Int) := by rw [rd_eq l i hlt, hbe]
    have wb : wrap64 (b : Int) = (b : Int) := wrap_id (by omega) (by omega)
    have mb : (b : Int) % 4294967296 = (b : Int) := Int.emod_eq_of_lt (by omega) (by omega)
    have b1 : Go.bits .xor .i64 (x : Int) (b : Int) = ((x ^^^ b : Nat) : Int) := i64_xor_small x b hx (by omega)
    have b2 : Go.bits .xor .u32 (x : Int) (b : Int) = ((x ^^^ b : Nat) : Int) := u32_xor_nat x b hx (by omega)
    obtain ⟨y, hy, h⟩ := crc_l1 l (l.length : Int) (i : Int) 8 0 (x ^^^ b) (by omega) (Nat.xor_lt_two_pow (n := 32) (by omega) (by omega))
    obtain ⟨r, hr, g⟩ := ih (i + 1) y (by omega) hy
    refine ⟨r, hr, fun k hk => ?_⟩
    obtain ⟨m, rfl⟩ : ∃ m, k = (m + 8 + 1) + 1 := ⟨k - 10, by omega⟩
    have hw : wrap64 ((i : Int) + 1) = ((i + 1 : Nat) : Int) := by rw [wrap_id (by omega) (by omega)]; omega
    have e := h m
    have g' := g m (by omega)
    rw [hw] at e
    simp only [Int.natCast_zero] at e
    generalize m + 8 + 1 = q at e ⊢
    simp only [spec_Crc.l0, impl_Crc.l0]
    refine ⟨?_, ?_⟩
    · rw [if_pos c1, if_pos c0, if_pos c1, hrd, wb, b1]
      exact e.1.trans g'.1
    · rw [if_pos c1, if_pos c0, if_pos c1, hrd, mb, b2]
      exact e.2.trans g'.2
theorem crc_f (l : List Int) (hl : l.length ≤ 140737488351232) (hb : ∀ x ∈ l, 0 ≤ x ∧ x < 256) :
    ∃ r : Nat, (∀ k, 10 * l.length < k → spec_Crc.f k l = some (r : Int)) ∧ (∀ k, 10 * l.length < k → impl_Crc.f k l = some (r : Int)) := by
  obtain ⟨x, hx⟩ : ∃ x : Nat, (x : Int) = 4294967295 := ⟨4294967295, by omega⟩
  obtain ⟨r, _, h⟩ := crc_l0 l hl hb l.length 0 x (by omega) (by omega)
  simp only [hx, Int.natCast_zero] at h
  exact ⟨r, fun k hk => (h k hk).1, fun k hk => (h k hk).2⟩

theorem copyBytes_f (l : List Int) (hl : l.length < 140737488355328) : impl_copyBytes.f l = some l := by
  unfold impl_copyBytes.f
  rw [if_pos (by simpa using hl)]
  rfl

theorem l01Copy_f (l : List Int) (hl : l.length < 140737488355328) : spec_l01Copy.f l = some l := by
  unfold spec_l01Copy.f
  simp only [Option.bind_some]
  rw [if_pos (by simpa using hl)]
  rfl

theorem i64_or_small (a b : Nat) (ha : a < 4294967296) (hb : b < 4294967296) : Go.bits .or .i64 (a : Int) (b : Int) = ((a ||| b : Nat) : Int) := by
  have hx : a ||| b < 2 ^ 32 := Nat.or_lt_two_pow (by omega) (by omega)
  have e : ∀ n : Nat, n < 4294967296 → (BitVec.ofInt 64 (n : Int)).toNat = n := fun n hn => by
    rw [BitVec.ofInt_natCast, BitVec.toNat_ofNat]; exact Nat.mod_eq_of_lt (by omega)
  show IntKind.i64.wrap ((BitVec.ofInt 64 (a : Int) ||| BitVec.ofInt 64 (b : Int)).toNat : Int) = _
  rw [BitVec.toNat_or, e a ha, e b hb]
  simp only [IntKind.wrap, IntKind.bits, IntKind.signed]
  simp
  omega
theorem or8 (x y : Nat) (hx : x < 256) : x ||| y * 256 = x + y * 256 := by
  have := Nat.two_pow_add_eq_or_of_lt (i := 8) (b := x) hx y
  rw [Nat.or_comm, Nat.mul_comm y 256, Nat.add_comm]
  exact this.symm
theorem or16 (x y : Nat) (hx : x < 65536) : x ||| y * 65536 = x + y * 65536 := by
  have := Nat.two_pow_add_eq_or_of_lt (i := 16) (b := x) hx y
  rw [Nat.or_comm, Nat.mul_comm y 65536, Nat.add_comm]
  exact this.symm
theorem or24 (x y : Nat) (hx : x < 16777216) : x ||| y * 16777216 = x + y * 16777216 := by
  have := Nat.two_pow_add_eq_or_of_lt (i := 24) (b := x) hx y
  rw [Nat.or_comm, Nat.mul_comm y 16777216, Nat.add_comm]
  exact this.symm
theorem or4 (b2 b3 b4 b5 : Nat) (h2 : b2 < 256) (h3 : b3 < 256) (h4 : b4 < 256) (h5 : b5 < 256) :
    Go.bits .or .i64 (Go.bits .or .i64 (Go.bits .or .i64 (b2 : Int) ((b3 * 256 : Nat) : Int)) ((b4 * 65536 : Nat) : Int)) ((b5 * 16777216 : Nat) : Int) = ((b2 + b3 * 256 + b4 * 65536 + b5 * 16777216 : Nat) : Int) := by
  have e1 := i64_or_small b2 (b3 * 256) (by omega) (by omega)
  rw [or8 b2 b3 h2] at e1
  have e2 := i64_or_small (b2 + b3 * 256) (b4 * 65536) (by omega) (by omega)
  rw [or16 _ b4 (by omega)] at e2
  have e3 := i64_or_small (b2 + b3 * 256 + b4 * 65536) (b5 * 16777216) (by omega) (by omega)
  rw [or24 _ b5 (by omega)] at e3
  rw [e1, e2, e3]
theorem byte_at (l : List Int) (hb : ∀ x ∈ l, 0 ≤ x ∧ x < 256) (i : Nat) (h : i < l.length) : ∃ b : Nat, b < 256 ∧ Aside0 (rd l (i : Int) = (b : Int)) := by
  obtain ⟨h0, h1⟩ := hb l[i] (List.getElem_mem h)
  exact ⟨l[i].toNat, by omega, ⟨by rw [rd_eq l i h]; omega⟩⟩
theorem wrap_at (i c : Nat) (h : i + c ≤ 9223372036854775807) : wrap64 ((i : Int) + (c : Int)) = ((i + c : Nat) : Int) := by rw [wrap_id (by omega) (by omega)]; omega
/-- What both read at the head of a frame. -/
structure Head (l : List Int) (i n s : Nat) : Prop where
  n_le : n ≤ 65535
  s_le : s < 4294967296
  spec : ∀ k, spec_FrameGet.j0 (k + 1) l (i : Int) false = spec_FrameGet.j1 k l (i : Int) (n : Int) (s : Int) (if 1 ≤ n ∧ n ≤ 2000 then decide ((n : Int) > (l.length : Int) - (i : Int) - 6) else true)
  impl : ∀ k, impl_FrameGet.j0 (k + 1) l (i : Int) false = impl_FrameGet.j1 k l (i : Int) (n : Int) (s : Int) (if 1 ≤ n ∧ n ≤ 2000 then decide ((n : Int) > (l.length : Int) - (i : Int) - 6) else true)
set_option maxHeartbeats 4000000 in
theorem head_ex (l : List Int) (hb : ∀ x ∈ l, 0 ≤ x ∧ x < 256) (hl : l.length ≤ 140737488351232) (i : Nat) (h : i + 6 ≤ l.length) : ∃ n s, Head l i n s := by
  obtain ⟨b0, l0, r0⟩ := byte_at l hb i (by omega)
  obtain ⟨b1, l1, r1⟩ := byte_at l hb (i + 1) (by omega)
  obtain ⟨b2, l2, r2⟩ := byte_at l hb (i + 2) (by omega)
  obtain ⟨b3, l3, r3⟩ := byte_at l hb (i + 3) (by omega)
  obtain ⟨b4, l4, r4⟩ := byte_at l hb (i + 4) (by omega)
  obtain ⟨b5, l5, r5⟩ := byte_at l hb (i + 5) (by omega)
  have a1 : Aside0 (wrap64 ((i : Int) + 1) = ((i + 1 : Nat) : Int)) := ⟨wrap_at i 1 (by omega)⟩
  have a2 : Aside0 (wrap64 ((i : Int) + 2) = ((i + 2 : Nat) : Int)) := ⟨wrap_at i 2 (by omega)⟩
  have a3 : Aside0 (wrap64 ((i : Int) + 3) = ((i + 3 : Nat) : Int)) := ⟨wrap_at i 3 (by omega)⟩
  have a4 : Aside0 (wrap64 ((i : Int) + 4) = ((i + 4 : Nat) : Int)) := ⟨wrap_at i 4 (by omega)⟩
  have a5 : Aside0 (wrap64 ((i : Int) + 5) = ((i + 5 : Nat) : Int)) := ⟨wrap_at i 5 (by omega)⟩
  have q : ∀ b : Nat, b < 256 → wrap64 (b : Int) = (b : Int) := fun b hb => wrap_nat b (by omega)
  have m1 : ∀ b : Nat, b < 256 → wrap64 ((b : Int) * 256) = ((b * 256 : Nat) : Int) := fun b hb => by rw [wrap_id (by omega) (by omega)]; omega
  have m1' : ∀ b : Nat, b < 256 → wrap64 (256 * (b : Int)) = ((b * 256 : Nat) : Int) := fun b hb => by rw [wrap_id (by omega) (by omega)]; omega
  have m2 : ∀ b : Nat, b < 256 → wrap64 ((b : Int) * 65536) = ((b * 65536 : Nat) : Int) := fun b hb => by rw [wrap_id (by omega) (by omega)]; omega
  have m3 : ∀ b : Nat, b < 256 → wrap64 ((b : Int) * 16777216) = ((b * 16777216 : Nat) : Int) := fun b hb => by rw [wrap_id (by omega) (by omega)]; omega
  have p : ∀ x y : Nat, x < 4294967296 → y < 4294967296 → wrap64 ((x : Int) + (y : Int)) = ((x + y : Nat) : Int) := fun x y hx hy => by rw [wrap_id (by omega) (by omega)]; omega
  have w6 : Aside0 (wrap64 (wrap64 ((l.length : Int) - (i : Int)) - 6) = (l.length : Int) - (i : Int) - 6) := ⟨by rw [wrap_id (x := (l.length : Int) - (i : Int)) (by omega) (by omega), wrap_id (by omega) (by omega)]⟩
  have c0 : ∀ j : Nat, (0 : Int) ≤ (j : Int) := fun j => by omega
  have c1 : ∀ j : Nat, j < 6 → ((i + j : Nat) : Int) < (l.length : Int) := fun j hj => by omega
  have c2 : (i : Int) < (l.length : Int) := by omega
  have p1 := Aside0.mk (p b0 (b1 * 256) (by omega) (by omega))
  have p2 := Aside0.mk (p b2 (b3 * 256) (by omega) (by omega))
  have p3 := Aside0.mk (p (b2 + b3 * 256) (b4 * 65536) (by omega) (by omega))
  have p4 := Aside0.mk (p (b2 + b3 * 256 + b4 * 65536) (b5 * 16777216) (by omega) (by omega))
  have nle : b0 + b1 * 256 ≤ 65535 := by omega
  have sle : b2 + b3 * 256 + b4 * 65536 + b5 * 16777216 < 4294967296 := by omega
  have O := Aside0.mk (or4 b2 b3 b4 b5 l2 l3 l4 l5)
  have x1 := Aside0.mk (m1 b1 l1)
  have x1' := Aside0.mk (m1' b1 l1)
  have x3 := Aside0.mk (m1 b3 l3)
  have x4 := Aside0.mk (m2 b4 l4)
  have x5 := Aside0.mk (m3 b5 l5)
  have d1 := c1 1 (by decide)
  have d2 := c1 2 (by decide)
  have d3 := c1 3 (by decide)
  have d4 := c1 4 (by decide)
  have d5 := c1 5 (by decide)
  have y0 := Aside0.mk (q b0 l0)
  have y1 := Aside0.mk (q b1 l1)
  have y2 := Aside0.mk (q b2 l2)
  have y3 := Aside0.mk (q b3 l3)
  have y4 := Aside0.mk (q b4 l4)
  have y5 := Aside0.mk (q b5 l5)
  have inn : ∀ n : Nat, impl_in.f (n : Int) 1 2000 = some (decide (1 ≤ n ∧ n ≤ 2000)) := fun n => by
    unfold impl_in.f
    by_cases hn : (n : Int) ≥ 1
    · rw [if_pos hn]
      congr 1
      exact decide_eq_decide.mpr (by omega)
    · rw [if_neg hn, decide_eq_false (by omega)]
  have ins : ∀ n : Nat, spec_l01In.f (n : Int) 1 2000 = some (decide (1 ≤ n ∧ n ≤ 2000)) := inn
  refine ⟨b0 + b1 * 256, b2 + b3 * 256 + b4 * 65536 + b5 * 16777216, nle, sle, fun k => ?_, fun k => ?_⟩
  · simp only [spec_FrameGet.j0, Bool.false_eq_true, if_false, a1.out, a2.out, a3.out, a4.out, a5.out, r0.out, r1.out, r2.out, r3.out, r4.out, r5.out, y0.out, y1.out, y2.out, y3.out, y4.out, y5.out, x1'.out, x3.out, x4.out, x5.out, p1.out, O.out, w6.out, if_pos (c0 _), if_pos c2, if_pos d1, if_pos d2, if_pos d3, if_pos d4, if_pos d5, ins, Option.bind_some]
    by_cases hn : 1 ≤ b0 + b1 * 256 ∧ b0 + b1 * 256 ≤ 2000
    · rw [if_pos (decide_eq_true hn), if_pos hn]
    · rw [if_neg (by simpa using hn), if_neg hn]
  · simp only [impl_FrameGet.j0, Bool.false_eq_true, if_false, a1.out, a2.out, a3.out, a4.out, a5.out, r0.out, r1.out, r2.out, r3.out, r4.out, r5.out, y0.out, y1.out, y2.out, y3.out, y4.out, y5.out, x1.out, x3.out, x4.out, x5.out, p1.out, p2.out, p3.out, p4.out, w6.out, if_pos (c0 _), if_pos c2, if_pos d1, if_pos d2, if_pos d3, if_pos d4, if_pos d5, inn, Option.bind_some]
    by_cases hn : 1 ≤ b0 + b1 * 256 ∧ b0 + b1 * 256 ≤ 2000
    · rw [if_pos (decide_eq_true hn), if_pos hn]
    · rw [if_neg (by simpa using hn), if_neg hn]
/-- The payload at i of n bytes. -/
def pay (l : List Int) (i n : Nat) : List Int := (l.take (i + 6 + n)).drop (i + 6)
theorem pay_length (l : List Int) (i n : Nat) (h : i + 6 + n ≤ l.length) : (pay l i n).length = n := by
  unfold pay
  rw [List.length_drop, List.length_take]
  omega
theorem pay_mem (l : List Int) (i n : Nat) : ∀ x ∈ pay l i n, x ∈ l := fun x hx => List.mem_of_mem_take (List.mem_of_mem_drop hx)
theorem j1_true_s (k : Nat) (l : List Int) (a n s : Int) : spec_FrameGet.j1 (k + 1) l a n s true = some ([], 0, false) := by simp only [spec_FrameGet.j1, if_true]
theorem j1_true_i (k : Nat) (l : List Int) (a n s : Int) : impl_FrameGet.j1 (k + 1) l a n s true = some ([], 0, false) := by simp only [impl_FrameGet.j1, if_true]
theorem j1_both (l : List Int) (hb : ∀ x ∈ l, 0 ≤ x ∧ x < 256) (hl : l.length ≤ 140737488351232) (i n s : Nat) (h : i + 6 + n ≤ l.length) : ∃ c : Nat, (∀ k, 10 * n < k → impl_Crc.f k (pay l i n) = some (c : Int)) ∧ (∀ k, 10 * n < k → spec_Crc.f k (pay l i n) = some (c : Int)) ∧ ∀ k, 10 * n < k →
    spec_FrameGet.j1 (k + 1) l (i : Int) (n : Int) (s : Int) false = some (if c = s then (pay l i n, ((i + 6 + n : Nat) : Int), true) else ([], 0, false)) ∧
    impl_FrameGet.j1 (k + 1) l (i : Int) (n : Int) (s : Int) false = some (if c = s then (pay l i n, ((i + 6 + n : Nat) : Int), true) else ([], 0, false)) := by
  have hpl := pay_length l i n h
  obtain ⟨c, h1, h2⟩ := crc_f (pay l i n) (by omega) (fun x hx => hb x (pay_mem l i n x hx))
  rw [hpl] at h1 h2
  refine ⟨c, h2, h1, fun k hk => ?_⟩
  have g1 := h1 k hk
  have g2 := h2 k hk
  have a6 : Aside0 (wrap64 ((i : Int) + 6) = ((i + 6 : Nat) : Int)) := ⟨wrap_at i 6 (by omega)⟩
  have a7 : Aside0 (wrap64 (((i + 6 : Nat) : Int) + (n : Int)) = ((i + 6 + n : Nat) : Int)) := ⟨wrap_at (i + 6) n (by omega)⟩
  have c0 : (0 : Int) ≤ ((i + 6 : Nat) : Int) := by omega
  have c1 : ((i + 6 : Nat) : Int) ≤ ((i + 6 + n : Nat) : Int) := by omega
  have c2 : ((i + 6 + n : Nat) : Int) ≤ (l.length : Int) := by omega
  have e1 := l01Copy_f (pay l i n) (by omega)
  have e2 := copyBytes_f (pay l i n) (by omega)
  unfold pay at g1 g2 e1 e2
  refine ⟨?_, ?_⟩
  · simp only [spec_FrameGet.j1]
    rw [if_neg (by decide), a6.out, a7.out, if_pos c0, if_pos c1, if_pos c2, Int.toNat_natCast, Int.toNat_natCast, e1, Option.bind_some, g1, Option.bind_some]
    by_cases hc : c = s
    · rw [if_pos hc, if_pos (by rw [hc])]; rfl
    · rw [if_neg hc, if_neg (by omega)]
  · simp only [impl_FrameGet.j1]
    rw [if_neg (by decide), a6.out, a7.out, if_pos c0, if_pos c1, if_pos c2, Int.toNat_natCast, Int.toNat_natCast, e2, Option.bind_some, g2, Option.bind_some]
    by_cases hc : c = s
    · rw [if_pos hc, if_pos (by rw [hc])]; rfl
    · rw [if_neg hc, if_neg (by omega)]
/-- Both read the same at every offset; a frame that is read lies inside. -/
theorem frameGet_both (l : List Int) (hb : ∀ x ∈ l, 0 ≤ x ∧ x < 256) (hl : l.length ≤ 140737488351232) (a : Int) (ha : a ≤ 9223372036854775807) :
    ∃ (p : List Int) (e : Int) (ok : Bool), (p.length ≤ 2000) ∧ (ok = false → p = [] ∧ e = 0) ∧ (ok = true → a + 7 ≤ e ∧ e ≤ l.length ∧ 0 ≤ a ∧ e = a + 6 + p.length) ∧ ∀ k, 20010 ≤ k → spec_FrameGet.f k l a = some (p, e, ok) ∧ impl_FrameGet.f k l a = some (p, e, ok) := by
  have w7 : Aside0 (wrap64 ((l.length : Int) - 7) = (l.length : Int) - 7) := ⟨wrap_id (by omega) (by omega)⟩
  have w6 : Aside0 (wrap64 ((l.length : Int) - 6) = (l.length : Int) - 6) := ⟨wrap_id (by omega) (by omega)⟩
  have no : ∀ k (b : Int), spec_FrameGet.j0 (k + 1) l b true = some ([], 0, false) ∧ impl_FrameGet.j0 (k + 1) l b true = some ([], 0, false) := fun k b => ⟨by simp only [spec_FrameGet.j0, if_true], by simp only [impl_FrameGet.j0, if_true]⟩
  by_cases h0 : a < 0
  · refine ⟨[], 0, false, Nat.zero_le _, fun _ => ⟨rfl, rfl⟩, (fun h => by cases h), fun k hk => ?_⟩
    obtain ⟨k, rfl⟩ : ∃ m, k = m + 1 := ⟨k - 1, by omega⟩
    unfold spec_FrameGet.f impl_FrameGet.f
    rw [if_pos h0, if_pos h0]
    exact no k a
  obtain ⟨i, rfl⟩ : ∃ i : Nat, a = (i : Int) := ⟨a.toNat, by omega⟩
  by_cases h6 : i + 6 ≤ l.length
  case neg =>
    refine ⟨[], 0, false, Nat.zero_le _, fun _ => ⟨rfl, rfl⟩, (fun h => by cases h), fun k hk => ?_⟩
    obtain ⟨k, rfl⟩ : ∃ m, k = m + 1 := ⟨k - 1, by omega⟩
    unfold spec_FrameGet.f impl_FrameGet.f
    rw [if_neg h0, if_neg h0, w7.out, w6.out, decide_eq_true (by omega), decide_eq_true (by omega)]
    exact no k _
  obtain ⟨n, s, H⟩ := head_ex l hb hl i h6
  by_cases hn : 1 ≤ n ∧ n ≤ 2000 ∧ i + 6 + n ≤ l.length
  case neg =>
    refine ⟨[], 0, false, Nat.zero_le _, fun _ => ⟨rfl, rfl⟩, (fun h => by cases h), fun k hk => ?_⟩
    obtain ⟨k, rfl⟩ : ∃ m, k = m + 1 + 1 := ⟨k - 2, by omega⟩
    have hf : (if 1 ≤ n ∧ n ≤ 2000 then decide ((n : Int) > (l.length : Int) - (i : Int) - 6) else true) = true := by
      by_cases h : 1 ≤ n ∧ n ≤ 2000
      · rw [if_pos h, decide_eq_true (by omega)]
      · rw [if_neg h]
    have hs := H.spec (k + 1)
    have hi := H.impl (k + 1)
    rw [hf] at hs hi
    rw [j1_true_s] at hs
    rw [j1_true_i] at hi
    unfold spec_FrameGet.f impl_FrameGet.f
    rw [if_neg h0, if_neg h0, w7.out, w6.out, decide_eq_false (show ¬ (i : Int) > (l.length : Int) - 6 by omega)]
    refine ⟨?_, hi⟩
    by_cases h7 : (i : Int) > (l.length : Int) - 7
    · rw [decide_eq_true h7]; exact (no _ _).1
    · rw [decide_eq_false h7]; exact hs
  obtain ⟨c, _, _, hc⟩ := j1_both l hb hl i n s hn.2.2
  have hpl := pay_length l i n hn.2.2
  have hf : (if 1 ≤ n ∧ n ≤ 2000 then decide ((n : Int) > (l.length : Int) - (i : Int) - 6) else true) = false := by
    rw [if_pos ⟨hn.1, hn.2.1⟩, decide_eq_false (by omega)]
  have fin : ∀ k, 20010 ≤ k → spec_FrameGet.f k l (i : Int) = some (if c = s then (pay l i n, ((i + 6 + n : Nat) : Int), true) else ([], 0, false)) ∧ impl_FrameGet.f k l (i : Int) = some (if c = s then (pay l i n, ((i + 6 + n : Nat) : Int), true) else ([], 0, false)) := by
    intro k hk
    obtain ⟨k, rfl⟩ : ∃ m, k = m + 1 + 1 := ⟨k - 2, by omega⟩
    have hs := H.spec (k + 1)
    have hi := H.impl (k + 1)
    rw [hf] at hs hi
    have g := hc k (by omega)
    unfold spec_FrameGet.f impl_FrameGet.f
    rw [if_neg h0, if_neg h0, w7.out, w6.out, decide_eq_false (show ¬ (i : Int) > (l.length : Int) - 6 by omega), decide_eq_false (show ¬ (i : Int) > (l.length : Int) - 7 by omega)]
    exact ⟨hs.trans g.1, hi.trans g.2⟩
  by_cases hcs : c = s
  · refine ⟨pay l i n, ((i + 6 + n : Nat) : Int), true, by omega, (fun h => by cases h), fun _ => by omega, fun k hk => ?_⟩
    have g := fin k hk
    rw [if_pos hcs] at g
    exact g
  · refine ⟨[], 0, false, Nat.zero_le _, fun _ => ⟨rfl, rfl⟩, (fun h => by cases h), fun k hk => ?_⟩
    have g := fin k hk
    rw [if_neg hcs] at g
    exact g

theorem scan_both (l : List Int) (hb : ∀ x ∈ l, 0 ≤ x ∧ x < 256) (hl : l.length ≤ 1048576) (d : Nat) : ∀ (i : Nat) (acc : List (List Int)), i ≤ l.length → l.length - i ≤ d → acc.length + d ≤ 2097152 →
    ∃ (fs : List (List Int)) (e : Nat), e ≤ l.length ∧ i ≤ e ∧ (fs.length - acc.length ≤ e - i) ∧ ((fs.map List.length).sum + i ≤ (acc.map List.length).sum + e) ∧ ∀ k, 20010 + d < k → spec_Scan.l0 k l acc (i : Int) = some (fs, (e : Int)) ∧ impl_Scan.l0 k l acc (i : Int) = some (fs, (e : Int)) := by
  induction d with
  | zero =>
    intro i acc hi hd ha
    obtain ⟨p, e, ok, _, hno, hyes, E⟩ := frameGet_both l hb (by omega) (i : Int) (by omega)
    have hok : ok = false := by
      cases ok with
      | false => rfl
      | true => have := hyes rfl; omega
    subst hok
    refine ⟨acc, i, hi, Nat.le_refl _, by omega, by omega, fun k hk => ?_⟩
    obtain ⟨k, rfl⟩ : ∃ m, k = m + 1 := ⟨k - 1, by omega⟩
    obtain ⟨g1, g2⟩ := E k (by omega)
    simp only [spec_Scan.l0, impl_Scan.l0]
    rw [g1, g2]
    exact ⟨rfl, rfl⟩
  | succ d ih =>
    intro i acc hi hd ha
    obtain ⟨p, e, ok, _, hno, hyes, E⟩ := frameGet_both l hb (by omega) (i : Int) (by omega)
    cases ok with
    | false =>
      refine ⟨acc, i, hi, Nat.le_refl _, by omega, by omega, fun k hk => ?_⟩
      obtain ⟨k, rfl⟩ : ∃ m, k = m + 1 := ⟨k - 1, by omega⟩
      obtain ⟨g1, g2⟩ := E k (by omega)
      simp only [spec_Scan.l0, impl_Scan.l0]
      rw [g1, g2]
      exact ⟨rfl, rfl⟩
    | true =>
      obtain ⟨h1, h2, _, h4⟩ := hyes rfl
      obtain ⟨j, rfl⟩ : ∃ j : Nat, e = (j : Int) := ⟨e.toNat, by omega⟩
      obtain ⟨fs, e, he, hie, hfe, hsum, H⟩ := ih j (acc ++ [p]) (by omega) (by omega) (by rw [List.length_append]; simp; omega)
      rw [List.length_append, List.length_singleton] at hfe
      rw [List.map_append, List.sum_append] at hsum
      simp only [List.map_cons, List.map_nil, List.sum_cons, List.sum_nil] at hsum
      refine ⟨fs, e, he, by omega, by omega, by omega, fun k hk => ?_⟩
      obtain ⟨k, rfl⟩ : ∃ m, k = m + 1 := ⟨k - 1, by omega⟩
      obtain ⟨g1, g2⟩ := E k (by omega)
      simp only [spec_Scan.l0, impl_Scan.l0]
      rw [g1, g2]
      have hlt : acc.length < 5864062014805 := by omega
      simp only [Option.bind_some, if_true, if_pos hlt]
      exact H k (by omega)

theorem FnExactTorn (l0 : List Int) (w0 : l0.length ≤ maxLen ∧ ∀ l0_e ∈ l0, (Lit.int .u8 l0_e).wf = true) : ∃ k, laws_FnExactTorn.f k l0 = some true := by
  by_cases hs : (l0.length : Int) > 1048576
  · exact ⟨0, by unfold laws_FnExactTorn.f; rw [if_pos hs]⟩
  refine rounds_of (fun m hm => ?_)
  obtain ⟨fs, e, he, _, _, _, H⟩ := scan_both l0 (fun x hx => u8_of_wf (w0.2 x hx)) (by omega) l0.length 0 [] (Nat.zero_le _) (by omega) (by simp; omega)
  have E1 : ∀ j, spec_Torn.f (m + j) l0 = some (decide (e < l0.length)) := fun j => by
    unfold spec_Torn.f spec_Scan.f
    have g := (H (m + j) (by omega)).1
    simp only [Int.natCast_zero] at g
    rw [g, Option.bind_some]
    congr 1
    by_cases h : e < l0.length
    · rw [decide_eq_true h, show ((e : Int) != (l0.length : Int)) = true by simp; omega]
    · rw [decide_eq_false h, show ((e : Int) != (l0.length : Int)) = false by simp; omega]
  have E2 : ∀ j, impl_Torn.f (m + j) l0 = some (decide (e < l0.length)) := fun j => by
    unfold impl_Torn.f impl_Scan.f
    have g := (H (m + j) (by omega)).2
    simp only [Int.natCast_zero] at g
    rw [g, Option.bind_some]
    congr 1
    exact decide_eq_decide.mpr (by omega)
  have T := fun j => toByteS_f l0 (m + j) (by omega) (by omega)
  have Q := fun j => eqByteS_refl l0 (m + j) (by omega) (by omega)
  obtain ⟨r, hr⟩ : ∃ r, r = decide (e < l0.length) := ⟨_, rfl⟩
  rw [← hr] at E1 E2
  clear H
  unfold laws_FnExactTorn.f
  rw [if_neg hs, T 8, Option.bind_some, E1 8, Option.bind_some, Option.bind_some, E2 8, Option.bind_some, if_neg (by simp), Option.bind_some, Q 8]
  rfl

end Go.Proofs.Ytgkjbechcbbgjaa.Pure
