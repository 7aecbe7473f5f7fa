/- For all bytes FramePut of the program and of the reference answer alike, in memory that nothing else holds. This text proves it of the plain functions, with no program in sight. Conditions: none but those of the given statement. -/
import Derived.Test.YtgkjbechcbbgjaaPFnExactFramePutx3
import Derived.Laws.BitsAllLaws
set_option linter.unusedVariables false
set_option linter.unusedSimpArgs false
namespace Go.Proofs.Ytgkjbechcbbgjaa.Pure
open Go Go.RowKit Go.Proofs.Ytgkjbechcbbgjaa.PFnExactFramePut Go.Proofs.YtgkjbechcbbgjaaW.PrintWords Go.Proofs.YtgkjbechcbbgjaaW.PrintLast Go.Proofs.YtgkjbechcbbgjaaW.PrintMore

theorem wrap_id {x : Int} (h0 : -9223372036854775808 ≤ x) (h1 : x ≤ 9223372036854775807) : wrap64 x = x := by
  unfold wrap64; omega
theorem rd_eq (l : List Int) (i : Nat) (h : i < l.length) : rd l (i : Int) = l[i] := by
  simp [rd, h]
theorem succ_cast (i : Nat) : (i : Int) + 1 = ((i + 1 : Nat) : Int) := by omega
theorem take_set_same (l m : List Int) (i : Nat) (hi : i < l.length) (hm : m.length = l.length) (ht : m.take i = l.take i) : (m.set i l[i]).take (i + 1) = l.take (i + 1) := by
  rw [List.take_succ_eq_append_getElem (by simp; omega), List.take_succ_eq_append_getElem hi]
  simp [List.take_set_of_le, ht]
theorem natlt0 (n : Nat) : ((n : Int) < 0) = False := by simp
theorem wrap_nat (n : Nat) (h : n ≤ 9223372036854775807) : wrap64 (n : Int) = (n : Int) := wrap_id (by omega) (by omega)
theorem wrap_succ (n : Nat) (h : n < 9223372036854775807) : wrap64 ((n : Int) + 1) = ((n + 1 : Nat) : Int) := by rw [wrap_id (by omega) (by omega)]; omega
theorem u8_of_wf {x : Int} (h : (Lit.int .u8 x).wf = true) : 0 ≤ x ∧ x < 256 := by
  simp [Lit.wf, IntKind.min, IntKind.max, IntKind.signed, IntKind.bits] at h
  omega
theorem i64_of_wf {x : Int} (h : (Lit.int .i64 x).wf = true) : -9223372036854775808 ≤ x ∧ x ≤ 9223372036854775807 := by
  simp [Lit.wf, IntKind.min, IntKind.max, IntKind.signed, IntKind.bits] at h
  omega
theorem max_len {α : Type} {l : List α} (h : l.length ≤ maxLen) : l.length ≤ 9223372036854775807 := by
  unfold maxLen at h; omega
theorem rounds_of {f : Nat → Option Bool} (h : ∀ m, 20000000 ≤ m → f (m + 8) = some true) : ∃ k, f k = some true := by
  obtain ⟨m, hm⟩ : ∃ m : Nat, 20000000 ≤ m := ⟨_, Nat.le_refl _⟩
  exact ⟨m + 8, h m hm⟩

theorem toByteS_l0 (l : List Int) (hl : l.length ≤ 140737488351232) (d : Nat) : ∀ (k : Nat) (x3 : List Int) (i : Nat), i + d = l.length → d < k → x3.length = l.length → x3.take i = l.take i → laws_toByteS.l0 k l x3 (i : Int) = some l := by
  induction d with
  | zero =>
    intro k x3 i hi hk h3 ht
    obtain ⟨k, rfl⟩ : ∃ m, k = m + 1 := ⟨k - 1, by omega⟩
    simp only [laws_toByteS.l0]
    rw [if_neg (by omega)]
    rw [List.take_of_length_le (by omega), List.take_of_length_le (by omega)] at ht
    rw [ht]
  | succ d ih =>
    intro k x3 i hi hk h3 ht
    obtain ⟨k, rfl⟩ : ∃ m, k = m + 1 := ⟨k - 1, by omega⟩
    simp only [laws_toByteS.l0]
    rw [if_pos (by omega), if_pos (by omega), if_pos (by omega), wrap_id (by omega) (by omega), succ_cast, Int.toNat_natCast, rd_eq l i (by omega)]
    exact ih k _ (i + 1) (by omega) (by omega) (by simp [h3]) (take_set_same l x3 i (by omega) h3 ht)
theorem toByteS_f (l : List Int) (k : Nat) (hk : l.length < k) (hl : l.length ≤ 140737488351232) : laws_toByteS.f k l = some l := by
  unfold laws_toByteS.f
  rw [if_pos (by omega), if_pos (by omega)]
  exact toByteS_l0 l hl l.length k _ 0 (by omega) hk (by simp) (by simp)
theorem eqByteS_l0 (l : List Int) (hl : l.length ≤ 140737488351232) (d : Nat) : ∀ (k : Nat) (i : Nat), i + d = l.length → d < k → laws_eqByteS.l0 k l l (i : Int) = some true := by
  induction d with
  | zero =>
    intro k i hi hk
    obtain ⟨k, rfl⟩ : ∃ m, k = m + 1 := ⟨k - 1, by omega⟩
    simp only [laws_eqByteS.l0]
    rw [if_neg (by omega)]
  | succ d ih =>
    intro k i hi hk
    obtain ⟨k, rfl⟩ : ∃ m, k = m + 1 := ⟨k - 1, by omega⟩
    simp only [laws_eqByteS.l0]
    rw [if_pos (by omega), if_pos (by omega), if_pos (by omega), if_pos trivial, wrap_id (by omega) (by omega), succ_cast]
    exact ih k (i + 1) (by omega) (by omega)
theorem eqByteS_refl (l : List Int) (k : Nat) (hk : l.length < k) (hl : l.length ≤ 140737488351232) : laws_eqByteS.f k l l = some true := by
  unfold laws_eqByteS.f
  rw [if_pos rfl]
  exact eqByteS_l0 l hl l.length k 0 (by omega) hk

def markL : Nat → Nat → List Int
  | 0, _ => []
  | d + 1, n => ((n % 256 : Nat) : Int) :: markL d (n + 1)
theorem markL_length : ∀ d n, (markL d n).length = d
  | 0, _ => rfl
  | d + 1, n => by simp [markL, markL_length d]
theorem markL_get : ∀ d n i, i < d → (markL d n)[i]? = some (((n + i) % 256 : Nat) : Int)
  | 0, _, _, h => absurd h (Nat.not_lt_zero _)
  | d + 1, n, 0, _ => by simp [markL]
  | d + 1, n, i + 1, h => by
    rw [markL, List.getElem?_cons_succ, markL_get d (n + 1) i (by omega)]
    congr 2
    omega
theorem markByteS_l0 (n0 : Nat) (t : Nat) (d : Nat) : ∀ (k : Nat) (x : List Int) (i : Nat), i + d = t → d < k → x.length = t → t ≤ 140737488351232 → n0 ≤ 140737488351232 → (∀ j, j < i → x[j]? = some (((n0 + j) % 256 : Nat) : Int)) →
    laws_markByteS.l0 k x ((n0 + i : Nat) : Int) (i : Int) = some (((n0 + t : Nat) : Int), markL t n0) := by
  induction d with
  | zero =>
    intro k x i hi hk hx ht hn hj
    obtain ⟨k, rfl⟩ : ∃ m, k = m + 1 := ⟨k - 1, by omega⟩
    simp only [laws_markByteS.l0]
    rw [if_neg (by omega)]
    have e : x = markL t n0 := by
      apply List.ext_getElem?
      intro j
      by_cases h : j < t
      · rw [hj j (by omega), markL_get t n0 j h]
      · rw [List.getElem?_eq_none (by omega), List.getElem?_eq_none (by rw [markL_length]; omega)]
    have e2 : i = t := by omega
    rw [e, e2]
  | succ d ih =>
    intro k x i hi hk hx ht hn hj
    obtain ⟨k, rfl⟩ : ∃ m, k = m + 1 := ⟨k - 1, by omega⟩
    simp only [laws_markByteS.l0]
    rw [if_pos (by omega), if_pos (by omega), wrap_succ (n0 + i) (by omega), wrap_succ i (by omega), Int.toNat_natCast]
    have e : ((n0 + i : Nat) : Int) % 256 = (((n0 + i) % 256 : Nat) : Int) := rfl
    rw [e]
    refine ih k _ (i + 1) (by omega) (by omega) (by simpa using hx) ht hn (fun j hj' => ?_)
    by_cases h : j = i
    · subst h
      rw [List.getElem?_set_self (by omega)]
    · rw [List.getElem?_set_ne (by omega)]
      exact hj j (by omega)
theorem markByteS_f (l : List Int) (n : Nat) (k : Nat) (hk : l.length < k) (hl : l.length ≤ 140737488351232) (hn : n ≤ 140737488351232) :
    laws_markByteS.f k l (n : Int) = some (((n + l.length : Nat) : Int), markL l.length n) :=
  markByteS_l0 n l.length l.length k l 0 (by omega) hk rfl hl hn (fun j hj => absurd hj (Nat.not_lt_zero _))
theorem heldByteS_l0 (n0 : Nat) (t : Nat) (d : Nat) : ∀ (k : Nat) (i : Nat), i + d = t → d < k → t ≤ 140737488351232 → n0 ≤ 140737488351232 →
    laws_heldByteS.l0 k (markL t n0) ((n0 + i : Nat) : Int) (i : Int) = some ((n0 + t : Nat) : Int) := by
  induction d with
  | zero =>
    intro k i hi hk ht hn
    obtain ⟨k, rfl⟩ : ∃ m, k = m + 1 := ⟨k - 1, by omega⟩
    simp only [laws_heldByteS.l0]
    rw [if_neg (by rw [markL_length]; omega)]
    have e2 : i = t := by omega
    rw [e2]
  | succ d ih =>
    intro k i hi hk ht hn
    obtain ⟨k, rfl⟩ : ∃ m, k = m + 1 := ⟨k - 1, by omega⟩
    have hr : rd (markL t n0) (i : Int) = (((n0 + i) % 256 : Nat) : Int) := by
      have := markL_get t n0 i (by omega)
      simp [rd, List.getD, this]
    have e : ((n0 + i : Nat) : Int) % 256 = (((n0 + i) % 256 : Nat) : Int) := rfl
    simp only [laws_heldByteS.l0]
    rw [if_pos (by rw [markL_length]; omega), if_pos (by omega), hr, e, if_pos rfl, wrap_succ (n0 + i) (by omega), wrap_succ i (by omega)]
    exact ih k (i + 1) (by omega) (by omega) ht hn
theorem heldByteS_f (t n : Nat) (k : Nat) (hk : t < k) (hl : t ≤ 140737488351232) (hn : n ≤ 140737488351232) :
    laws_heldByteS.f k (markL t n) (n : Int) = some ((n + t : Nat) : Int) :=
  heldByteS_l0 n t t k 0 (by omega) hk hl hn
theorem markByteS_1 (l : List Int) (k : Nat) (hk : l.length < k) (hl : l.length ≤ 140737488351232) :
    laws_markByteS.f k l 1 = some (((1 + l.length : Nat) : Int), markL l.length 1) :=
  markByteS_f l 1 k hk hl (by omega)
theorem heldByteS_1 (t : Nat) (k : Nat) (hk : t < k) (hl : t ≤ 140737488351232) :
    laws_heldByteS.f k (markL t 1) 1 = some ((1 + t : Nat) : Int) :=
  heldByteS_f t 1 k hk hl (by omega)

theorem copyBytes_f (l : List Int) (hl : l.length < 140737488355328) : impl_copyBytes.f l = some l := by
  unfold impl_copyBytes.f
  rw [if_pos (by simpa using hl)]
  rfl

theorem l01Copy_f (l : List Int) (hl : l.length < 140737488355328) : spec_l01Copy.f l = some l := by
  unfold spec_l01Copy.f
  simp only [Option.bind_some]
  rw [if_pos (by simpa using hl)]
  rfl

theorem i64_xor_small (a b : Nat) (ha : a < 4294967296) (hb : b < 4294967296) : Go.bits .xor .i64 (a : Int) (b : Int) = ((a ^^^ b : Nat) : Int) := by
  have hx : a ^^^ b < 2 ^ 32 := Nat.xor_lt_two_pow (by omega) (by omega)
  have e : ∀ n : Nat, n < 4294967296 → (BitVec.ofInt 64 (n : Int)).toNat = n := fun n hn => by
    rw [BitVec.ofInt_natCast, BitVec.toNat_ofNat]; exact Nat.mod_eq_of_lt (by omega)
  show IntKind.i64.wrap ((BitVec.ofInt 64 (a : Int) ^^^ BitVec.ofInt 64 (b : Int)).toNat : Int) = _
  rw [BitVec.toNat_xor, e a ha, e b hb]
  simp only [IntKind.wrap, IntKind.bits, IntKind.signed]
  simp
  omega
theorem and1_u32 (a : Nat) (ha : a < 4294967296) : Go.bits .and .u32 (a : Int) 1 = ((a % 2 : Nat) : Int) := by
  have h := u32_and_nat a 1 ha (by omega)
  rw [Nat.and_one_is_mod] at h
  exact h
theorem crc_poly_lt (x : Nat) (hx : x < 4294967296) : (x / 2) ^^^ 3988292384 < 4294967296 :=
  Nat.xor_lt_two_pow (n := 32) (by omega) (by omega)
theorem crc_l1 (l : List Int) (n i : Int) (d : Nat) : ∀ (j x : Nat), j + d = 8 → x < 4294967296 →
    ∃ y : Nat, y < 4294967296 ∧ ∀ k, spec_Crc.l1 (k + d + 1) (x : Int) (j : Int) l n i = spec_Crc.l0 k (y : Int) l n (wrap64 (i + 1)) ∧
      impl_Crc.l1 (k + d + 1) (x : Int) l n i (j : Int) = impl_Crc.l0 k (y : Int) l n (wrap64 (i + 1)) := by
  induction d with
  | zero =>
    intro j x hj hx
    refine ⟨x, hx, fun k => ?_⟩
    simp only [spec_Crc.l1, impl_Crc.l1]
    rw [if_neg (by omega), if_neg (by omega)]
    exact ⟨rfl, rfl⟩
  | succ d ih =>
    intro j x hj hx
    have w1 : wrap64 ((j : Int) + 1) = ((j + 1 : Nat) : Int) := by rw [wrap_id (by omega) (by omega)]; omega
    have t1 : Int.tmod (x : Int) 2 = ((x % 2 : Nat) : Int) := rfl
    have t2 : Int.tdiv (x : Int) 2 = ((x / 2 : Nat) : Int) := rfl
    have t3 : wrap64 ((x / 2 : Nat) : Int) = ((x / 2 : Nat) : Int) := wrap_id (by omega) (by omega)
    have t4 : (x : Int) / 2 = ((x / 2 : Nat) : Int) := rfl
    have b1 : Go.bits .xor .i64 ((x / 2 : Nat) : Int) 3988292384 = (((x / 2) ^^^ 3988292384 : Nat) : Int) := i64_xor_small (x / 2) 3988292384 (by omega) (by omega)
    have b2 : Go.bits .xor .u32 ((x / 2 : Nat) : Int) 3988292384 = (((x / 2) ^^^ 3988292384 : Nat) : Int) := u32_xor_nat (x / 2) 3988292384 (by omega) (by omega)
    by_cases ho : x % 2 = 1
    · obtain ⟨y, hy, h⟩ := ih (j + 1) ((x / 2) ^^^ 3988292384) (by omega) (crc_poly_lt x hx)
      refine ⟨y, hy, fun k => ?_⟩
      have g := h k
      have hk : k + (d + 1) + 1 = (k + d + 1) + 1 := by omega
      rw [hk]
      generalize k + d + 1 = q at g ⊢
      simp only [spec_Crc.l1, impl_Crc.l1]
      refine ⟨?_, ?_⟩
      · rw [if_pos (by omega), t1, if_pos (by omega), w1, t2, t3, b1]
        exact g.1
      · rw [if_pos (by omega), and1_u32 x hx, if_pos (by omega), w1, t4, b2]
        exact g.2
    · obtain ⟨y, hy, h⟩ := ih (j + 1) (x / 2) (by omega) (by omega)
      refine ⟨y, hy, fun k => ?_⟩
      have g := h k
      have hk : k + (d + 1) + 1 = (k + d + 1) + 1 := by omega
      rw [hk]
      generalize k + d + 1 = q at g ⊢
      simp only [spec_Crc.l1, impl_Crc.l1]
      refine ⟨?_, ?_⟩
      · rw [if_pos (by omega), t1, if_neg (by omega), w1, t2, t3]
        exact g.1
      · rw [if_pos (by omega), and1_u32 x hx, if_neg (by omega), w1, t4]
        exact g.2
theorem crc_l0 (l : List Int) (hl : l.length ≤ 140737488351232) (hb : ∀ x ∈ l, 0 ≤ x ∧ x < 256) (d : Nat) : ∀ (i x : Nat), i + d = l.length → x < 4294967296 →
    ∃ r : Nat, r < 4294967296 ∧ ∀ k, 10 * d < k → spec_Crc.l0 k (x : Int) l (l.length : Int) (i : Int) = some (r : Int) ∧ impl_Crc.l0 k (x : Int) l (l.length : Int) (i : Int) = some (r : Int) := by
  induction d with
  | zero =>
    intro i x hi hx
    have hr : x ^^^ 4294967295 < 4294967296 := Nat.xor_lt_two_pow (n := 32) (by omega) (by omega)
    refine ⟨x ^^^ 4294967295, hr, fun k hk => ?_⟩
    obtain ⟨k, rfl⟩ : ∃ m, k = m + 1 := ⟨k - 1, by omega⟩
    have b1 : Go.bits .xor .i64 (x : Int) 4294967295 = ((x ^^^ 4294967295 : Nat) : Int) := i64_xor_small x 4294967295 hx (by omega)
    have b2 : Go.bits .xor .u32 4294967295 (x : Int) = ((4294967295 ^^^ x : Nat) : Int) := u32_xor_nat 4294967295 x (by omega) hx
    simp only [spec_Crc.l0, impl_Crc.l0]
    rw [if_neg (by omega), if_neg (by omega), b1, b2, Nat.xor_comm 4294967295 x, wrap_id (by omega) (by omega)]
    exact ⟨rfl, rfl⟩
  | succ d ih =>
    intro i x hi hx
    have hlt : i < l.length := by omega
    have c1 : (i : Int) < (l.length : Int) := by omega
    have c0 : 0 ≤ (i : Int) := by omega
    obtain ⟨h0, h1⟩ := hb l[i] (List.getElem_mem hlt)
    obtain ⟨b, hbe⟩ : ∃ b : Nat, l[i] = (b : Int) := ⟨l[i].toNat, by omega⟩
    have hrd : rd l (i : Int) = (b : Int) := by rw [rd_eq l i hlt, hbe]
    have wb : wrap64 (b : Int) = (b : Int) := wrap_id (by omega) (by omega)
    have mb : (b : Int) % 4294967296 = (b : Int) := Int.emod_eq_of_lt (by omega) (by omega)
    have b1 : Go.bits .xor .i64 (x : Int) (b : Int) = ((x ^^^ b : Nat) : Int) := i64_xor_small x b hx (by omega)
    have b2 : Go.bits .xor .u32 (x : Int) (b : Int) = ((x ^^^ b : Nat) : Int) := u32_xor_nat x b hx (by omega)
    obtain ⟨y, hy, h⟩ := crc_l1 l (l.length : Int) (i : Int) 8 0 (x ^^^ b) (by omega) (Nat.xor_lt_two_pow (n := 32) (by omega) (by omega))
    obtain ⟨r, hr, g⟩ := ih (i + 1) y (by omega) hy
    refine ⟨r, hr, fun k hk => ?_⟩
    obtain ⟨m, rfl⟩ : ∃ m, k = (m + 8 + 1) + 1 := ⟨k - 10, by omega⟩
    have hw : wrap64 ((i : Int) + 1) = ((i + 1 : Nat) : Int) := by rw [wrap_id (by omega) (by omega)]; omega
    have e := h m
    have g' := g m (by omega)
    rw [hw] at e
    simp only [Int.natCast_zero] at e
    generalize m + 8 + 1 = q at e ⊢
    simp only [spec_Crc.l0, impl_Crc.l0]
    refine ⟨?_, ?_⟩
    · rw [if_pos c1, if_pos c0, if_pos c1, hrd, wb, b1]
      exact e.1.trans g'.1
    · rw [if_pos c1, if_pos c0, if_pos c1, hrd, mb, b2]
      exact e.2.trans g'.2
theorem crc_f (l : List Int) (hl : l.length ≤ 140737488351232) (hb : ∀ x ∈ l, 0 ≤ x ∧ x < 256) :
    ∃ r : Nat, (∀ k, 10 * l.length < k → spec_Crc.f k l = some (r : Int)) ∧ (∀ k, 10 * l.length < k → impl_Crc.f k l = some (r : Int)) := by
  obtain ⟨x, hx⟩ : ∃ x : Nat, (x : Int) = 4294967295 := ⟨4294967295, by omega⟩
  obtain ⟨r, _, h⟩ := crc_l0 l hl hb l.length 0 x (by omega) (by omega)
  simp only [hx, Int.natCast_zero] at h
  exact ⟨r, fun k hk => (h k hk).1, fun k hk => (h k hk).2⟩

def frameB (p : List Int) (c : Nat) : List Int := [((p.length % 256 : Nat) : Int), ((p.length / 256 % 256 : Nat) : Int), ((c % 256 : Nat) : Int), ((c / 256 % 256 : Nat) : Int), ((c / 65536 % 256 : Nat) : Int), ((c / 16777216 % 256 : Nat) : Int)] ++ p
theorem frameB_length (p : List Int) (c : Nat) : (frameB p c).length = p.length + 6 := by
  unfold frameB
  rw [List.length_append]
  simp
  omega
theorem iframe_f (p : List Int) (c k : Nat) (h : 1 ≤ p.length ∧ p.length ≤ 2000) (hc : impl_Crc.f k p = some (c : Int)) : impl_frame.f k p = some (frameB p c, true) := by
  unfold impl_frame.f impl_in.f
  have e1 : (p.length : Int) % 256 = ((p.length % 256 : Nat) : Int) := rfl
  have e2 : (p.length : Int) / 256 % 256 = ((p.length / 256 % 256 : Nat) : Int) := rfl
  have e3 : (c : Int) % 256 = ((c % 256 : Nat) : Int) := rfl
  have e4 : (c : Int) / 256 % 256 = ((c / 256 % 256 : Nat) : Int) := rfl
  have e5 : (c : Int) / 65536 % 256 = ((c / 65536 % 256 : Nat) : Int) := rfl
  have e6 : (c : Int) / 16777216 % 256 = ((c / 16777216 % 256 : Nat) : Int) := rfl
  rw [if_pos (by omega), Option.bind_some, if_pos (decide_eq_true (by omega)), hc, Option.bind_some, Option.bind_some, e1, e2, e3, e4, e5, e6]
  rw [if_pos (by simp only [List.length_cons, List.length_nil]; omega)]
  rfl
theorem iframe_no (p : List Int) (k : Nat) (h : ¬ (1 ≤ p.length ∧ p.length ≤ 2000)) : impl_frame.f k p = some ([], false) := by
  unfold impl_frame.f impl_in.f
  by_cases h1 : (p.length : Int) ≥ 1
  · rw [if_pos h1, Option.bind_some, if_neg (by simp only [decide_eq_true_eq]; omega)]
  · rw [if_neg h1, Option.bind_some, if_neg (by decide)]

theorem sFramePut_f (b p : List Int) (c k : Nat) (h : 1 ≤ p.length ∧ p.length ≤ 2000) (hb : b.length ≤ 1048576) (hc : spec_Crc.f k p = some (c : Int)) : spec_FramePut.f k b p = some (b ++ frameB p c, true) := by
  unfold spec_FramePut.f spec_l01In.f
  have e1 : (p.length : Int) % 256 = ((p.length % 256 : Nat) : Int) := rfl
  have e2 : wrap64 ((p.length : Int) / 256) % 256 = ((p.length / 256 % 256 : Nat) : Int) := by rw [wrap_id (by omega) (by omega)]; rfl
  have e3 : (c : Int) % 256 = ((c % 256 : Nat) : Int) := rfl
  have e4 : (c : Int) / 256 % 256 = ((c / 256 % 256 : Nat) : Int) := rfl
  have e5 : (c : Int) / 65536 % 256 = ((c / 65536 % 256 : Nat) : Int) := rfl
  have e6 : (c : Int) / 16777216 % 256 = ((c / 16777216 % 256 : Nat) : Int) := rfl
  rw [if_pos (by omega), Option.bind_some, if_pos (decide_eq_true (by omega)), hc, Option.bind_some, l01Copy_f b (by omega), Option.bind_some, Option.bind_some, e1, e2, e3, e4, e5, e6]
  rw [if_pos (by simp only [List.length_cons, List.length_nil]; omega), Option.bind_some, if_pos (by simp only [List.length_append, List.length_cons, List.length_nil]; omega), List.append_assoc]
  rfl
theorem sFramePut_no (b p : List Int) (k : Nat) (h : ¬ (1 ≤ p.length ∧ p.length ≤ 2000)) : spec_FramePut.f k b p = some ([], false) := by
  unfold spec_FramePut.f spec_l01In.f
  by_cases h1 : (p.length : Int) ≥ 1
  · rw [if_pos h1, Option.bind_some, if_neg (by simp only [decide_eq_true_eq]; omega)]
  · rw [if_neg h1, Option.bind_some, if_neg (by decide)]
theorem FnExactFramePut (l0 : List Int) (l1 : List Int) (w0 : l0.length ≤ maxLen ∧ ∀ l0_e ∈ l0, (Lit.int .u8 l0_e).wf = true) (w1 : l1.length ≤ maxLen ∧ ∀ l1_e ∈ l1, (Lit.int .u8 l1_e).wf = true) : ∃ k, laws_FnExactFramePut.f k l0 l1 = some true := by
  by_cases hs : (l0.length : Int) > 1048576
  · exact ⟨0, by unfold laws_FnExactFramePut.f; rw [if_pos hs]⟩
  by_cases ht : (l1.length : Int) > 1048576
  · exact ⟨0, by unfold laws_FnExactFramePut.f; rw [if_neg hs, if_pos ht]⟩
  refine rounds_of (fun m hm => ?_)
  obtain ⟨r, ok, hr, E1, E2⟩ : ∃ (r : List Int) (ok : Bool), r.length ≤ 1050600 ∧ (∀ j, spec_FramePut.f (m + j) l0 l1 = some (r, ok)) ∧ (∀ j, impl_FramePut.f (m + j) l0 l1 = some (r, ok)) := by
    obtain ⟨c, c1, c2⟩ := crc_f l1 (by omega) (fun x hx => u8_of_wf (w1.2 x hx))
    by_cases hn : 1 ≤ l1.length ∧ l1.length ≤ 2000
    · refine ⟨l0 ++ frameB l1 c, true, by rw [List.length_append, frameB_length]; omega, fun j => ?_, fun j => ?_⟩
      · exact sFramePut_f l0 l1 c _ hn (by omega) (c1 _ (by omega))
      · unfold impl_FramePut.f
        rw [iframe_f l1 c _ hn (c2 _ (by omega)), Option.bind_some, if_pos rfl, copyBytes_f l0 (by omega), Option.bind_some, if_pos (by rw [frameB_length]; omega)]
    · refine ⟨[], false, Nat.zero_le _, fun j => ?_, fun j => ?_⟩
      · exact sFramePut_no l0 l1 _ hn
      · unfold impl_FramePut.f
        rw [iframe_no l1 _ hn, Option.bind_some, if_neg (by decide)]
  have T := fun j => toByteS_f l0 (m + j) (by omega) (by omega)
  have Q := fun j => eqByteS_refl l0 (m + j) (by omega) (by omega)
  have T' := fun j => toByteS_f l1 (m + j) (by omega) (by omega)
  have R' := fun j => eqByteS_refl l1 (m + j) (by omega) (by omega)
  have Q' := fun j => eqByteS_refl r (m + j) (by omega) (by omega)
  have M := fun j => markByteS_1 l0 (m + j) (by omega) (by omega)
  have N := fun j => markByteS_f l1 (1 + l0.length) (m + j) (by omega) (by omega) (by omega)
  have M' := fun j => markByteS_1 r (m + j) (by omega) (by omega)
  have H' := fun j => heldByteS_1 r.length (m + j) (by omega) (by omega)
  unfold laws_FnExactFramePut.f
  rw [if_neg hs, if_neg ht]
  simp only [Option.bind_some, T, T', E1, E2, Q, Q', R', M, N, M', H', if_true, bne_self_eq_false, laws_FnExactFramePut.j0, laws_FnExactFramePut.j1, laws_FnExactFramePut.j2, Bool.false_eq_true, if_false, natlt0]

end Go.Proofs.Ytgkjbechcbbgjaa.Pure
