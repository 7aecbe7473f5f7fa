/- For all bytes, offsets and bounds GetNums of the program and of the reference answer alike, in memory that nothing else holds. This text proves it of the plain functions, with no program in sight. Conditions: none but those of the given statement. -/
import Derived.Test.YtgkjbechcbbgjaaPFnExactGetNumsx4
set_option linter.unusedVariables false
set_option linter.unusedSimpArgs false
namespace Go.Proofs.Ytgkjbechcbbgjaa.Pure
open Go Go.RowKit Go.Proofs.Ytgkjbechcbbgjaa.PFnExactGetNums Go.Proofs.YtgkjbechcbbgjaaW.PrintWords Go.Proofs.YtgkjbechcbbgjaaW.PrintLast Go.Proofs.YtgkjbechcbbgjaaW.PrintMore

theorem wrap_id {x : Int} (h0 : -9223372036854775808 ≤ x) (h1 : x ≤ 9223372036854775807) : wrap64 x = x := by
  unfold wrap64; omega
theorem rd_eq (l : List Int) (i : Nat) (h : i < l.length) : rd l (i : Int) = l[i] := by
  simp [rd, h]
theorem succ_cast (i : Nat) : (i : Int) + 1 = ((i + 1 : Nat) : Int) := by omega
theorem take_set_same (l m : List Int) (i : Nat) (hi : i < l.length) (hm : m.length = l.length) (ht : m.take i = l.take i) : (m.set i l[i]).take (i + 1) = l.take (i + 1) := by
  rw [List.take_succ_eq_append_getElem (by simp; omega), List.take_succ_eq_append_getElem hi]
  simp [List.take_set_of_le, ht]
theorem natlt0 (n : Nat) : ((n : Int) < 0) = False := by simp
theorem wrap_nat (n : Nat) (h : n ≤ 9223372036854775807) : wrap64 (n : Int) = (n : Int) := wrap_id (by omega) (by omega)
theorem wrap_succ (n : Nat) (h : n < 9223372036854775807) : wrap64 ((n : Int) + 1) = ((n + 1 : Nat) : Int) := by rw [wrap_id (by omega) (by omega)]; omega
theorem u8_of_wf {x : Int} (h : (Lit.int .u8 x).wf = true) : 0 ≤ x ∧ x < 256 := by
  simp [Lit.wf, IntKind.min, IntKind.max, IntKind.signed, IntKind.bits] at h
  omega
theorem i64_of_wf {x : Int} (h : (Lit.int .i64 x).wf = true) : -9223372036854775808 ≤ x ∧ x ≤ 9223372036854775807 := by
  simp [Lit.wf, IntKind.min, IntKind.max, IntKind.signed, IntKind.bits] at h
  omega
theorem max_len {α : Type} {l : List α} (h : l.length ≤ maxLen) : l.length ≤ 9223372036854775807 := by
  unfold maxLen at h; omega
theorem rounds_of {f : Nat → Option Bool} (h : ∀ m, 20000000 ≤ m → f (m + 8) = some true) : ∃ k, f k = some true := by
  obtain ⟨m, hm⟩ : ∃ m : Nat, 20000000 ≤ m := ⟨_, Nat.le_refl _⟩
  exact ⟨m + 8, h m hm⟩

theorem toByteS_l0 (l : List Int) (hl : l.length ≤ 140737488351232) (d : Nat) : ∀ (k : Nat) (x3 : List Int) (i : Nat), i + d = l.length → d < k → x3.length = l.length → x3.take i = l.take i → laws_toByteS.l0 k l x3 (i : Int) = some l := by
  induction d with
  | zero =>
    intro k x3 i hi hk h3 ht
    obtain ⟨k, rfl⟩ : ∃ m, k = m + 1 := ⟨k - 1, by omega⟩
    simp only [laws_toByteS.l0]
    rw [if_neg (by omega)]
    rw [List.take_of_length_le (by omega), List.take_of_length_le (by omega)] at ht
    rw [ht]
  | succ d ih =>
    intro k x3 i hi hk h3 ht
    obtain ⟨k, rfl⟩ : ∃ m, k = m + 1 := ⟨k - 1, by omega⟩
    simp only [laws_toByteS.l0]
    rw [if_pos (by omega), if_pos (by omega), if_pos (by omega), wrap_id (by omega) (by omega), succ_cast, Int.toNat_natCast, rd_eq l i (by omega)]
    exact ih k _ (i + 1) (by omega) (by omega) (by simp [h3]) (take_set_same l x3 i (by omega) h3 ht)
theorem toByteS_f (l : List Int) (k : Nat) (hk : l.length < k) (hl : l.length ≤ 140737488351232) : laws_toByteS.f k l = some l := by
  unfold laws_toByteS.f
  rw [if_pos (by omega), if_pos (by omega)]
  exact toByteS_l0 l hl l.length k _ 0 (by omega) hk (by simp) (by simp)
theorem eqByteS_l0 (l : List Int) (hl : l.length ≤ 140737488351232) (d : Nat) : ∀ (k : Nat) (i : Nat), i + d = l.length → d < k → laws_eqByteS.l0 k l l (i : Int) = some true := by
  induction d with
  | zero =>
    intro k i hi hk
    obtain ⟨k, rfl⟩ : ∃ m, k = m + 1 := ⟨k - 1, by omega⟩
    simp only [laws_eqByteS.l0]
    rw [if_neg (by omega)]
  | succ d ih =>
    intro k i hi hk
    obtain ⟨k, rfl⟩ : ∃ m, k = m + 1 := ⟨k - 1, by omega⟩
    simp only [laws_eqByteS.l0]
    rw [if_pos (by omega), if_pos (by omega), if_pos (by omega), if_pos trivial, wrap_id (by omega) (by omega), succ_cast]
    exact ih k (i + 1) (by omega) (by omega)
theorem eqByteS_refl (l : List Int) (k : Nat) (hk : l.length < k) (hl : l.length ≤ 140737488351232) : laws_eqByteS.f k l l = some true := by
  unfold laws_eqByteS.f
  rw [if_pos rfl]
  exact eqByteS_l0 l hl l.length k 0 (by omega) hk

theorem i64_wrap_id {x : Int} (h0 : -9223372036854775808 ≤ x) (h1 : x ≤ 9223372036854775807) : IntKind.i64.wrap x = x := by
  simp only [IntKind.wrap, IntKind.bits, IntKind.signed]
  simp
  omega
/-- P is 128 to the power i (kept from omega). -/
structure Pw (i P : Nat) : Prop where mk :: (out : P = 128 ^ i)
theorem Pw.zero : Pw 0 1 := ⟨rfl⟩
theorem Pw.succ {i P : Nat} (h : Pw i P) : Pw (i + 1) (P * 128) := ⟨by rw [h.out, Nat.pow_succ]⟩
theorem Pw.le {i P : Nat} (h : Pw i P) (hi : i < 8) : P ≤ 562949953421312 := by
  have hp : 128 ^ i ≤ 128 ^ 7 := Nat.pow_le_pow_right (Nat.succ_pos _) (Nat.le_of_lt_succ hi)
  rw [h.out]
  exact hp
theorem shl7 {q i P : Nat} (h : Pw i P) (hi : i < 8) (hq : q * P ≤ 127 * P) : shl .i64 (q : Int) ((7 * i : Nat) : Int) = ((q * P : Nat) : Int) := by
  have hP := h.le hi
  unfold shl
  have e0 : ((7 * i : Nat) : Int).toNat = 7 * i := Int.toNat_natCast _
  have e1 : min (7 * i) (IntKind.bits .i64) = 7 * i := Nat.min_eq_left (show 7 * i ≤ 64 by omega)
  have e2 : (2 : Int) ^ (7 * i) = ((P : Nat) : Int) := by
    rw [h.out, show (128 : Nat) = 2 ^ 7 from rfl, ← Nat.pow_mul]
    push_cast
    rfl
  rw [e0, e1, e2, ← Int.natCast_mul]
  generalize q * P = z at hq ⊢
  exact i64_wrap_id (by omega) (by omega)
set_option maxHeartbeats 4000000 in
theorem getnum_both (l : List Int) (hb : ∀ x ∈ l, 0 ≤ x ∧ x < 256) (hl : l.length ≤ 140737488351232) (d : Nat) : ∀ (i a n P : Nat), i + d = 8 → Pw i P → n < P → (i = 0 ∨ a + i ≤ l.length) → a ≤ 9223372036854775807 →
    ∃ r : Int × Int × Bool, ∀ k, 2 * d + 2 ≤ k → spec_GetNum.l0 k l (a : Int) (n : Int) (P : Int) ((a + i : Nat) : Int) = some r ∧ impl_GetNum.l0 k l (a : Int) (n : Int) (i : Int) = some r := by
  induction d with
  | zero =>
    intro i a n P hi hP hn ha hm
    refine ⟨(0, 0, false), fun k hk => ?_⟩
    obtain ⟨k, rfl⟩ : ∃ m, k = m + 1 + 1 := ⟨k - 2, by omega⟩
    have w1 : Aside0 (wrap64 (((a + i : Nat) : Int) - (a : Int)) = (i : Int)) := ⟨by rw [wrap_id (by omega) (by omega)]; omega⟩
    have hf : decide ((i : Int) < 8) = false := decide_eq_false (by omega)
    have c6 : ¬ (i : Int) < 8 := by omega
    refine ⟨?_, ?_⟩
    · simp only [spec_GetNum.l0, spec_GetNum.j1, w1.out, hf, Bool.false_eq_true, if_false, ite_self]
    · simp only [impl_GetNum.l0, impl_GetNum.j1, if_neg c6, Bool.false_eq_true, if_false]
  | succ d ih =>
    intro i a n P hi hP hn ha hm
    have hi8 : i < 8 := by omega
    have hp := hP.le hi8
    by_cases hlt : a + i < l.length
    case neg =>
      refine ⟨(0, 0, false), fun k hk => ?_⟩
      obtain ⟨k, rfl⟩ : ∃ m, k = m + 1 + 1 := ⟨k - 2, by omega⟩
      have w2 : Aside0 (wrap64 ((l.length : Int) - (i : Int)) = (l.length : Int) - (i : Int)) := ⟨wrap_id (by omega) (by omega)⟩
      have hf : decide ((a : Int) < (l.length : Int) - (i : Int)) = false := decide_eq_false (by omega)
      have c1 : ¬ ((a + i : Nat) : Int) < (l.length : Int) := by omega
      have c6 : (i : Int) < 8 := by omega
      have c7 : (a : Int) ≥ 0 := by omega
      refine ⟨?_, ?_⟩
      · simp only [spec_GetNum.l0, spec_GetNum.j1, if_neg c1, Bool.false_eq_true, if_false]
      · simp only [impl_GetNum.l0, impl_GetNum.j1, if_pos c6, if_pos c7, w2.out, hf, Bool.false_eq_true, if_false]
    obtain ⟨h0, h1⟩ := hb l[a + i] (List.getElem_mem hlt)
    obtain ⟨b, hbe⟩ : ∃ b : Nat, l[a + i] = (b : Int) := ⟨l[a + i].toNat, by omega⟩
    have hrd : Aside0 (rd l ((a + i : Nat) : Int) = (b : Int)) := ⟨by rw [rd_eq l (a + i) hlt, hbe]⟩
    rw [hbe] at h0 h1
    obtain ⟨q, hq⟩ : ∃ q, q = b % 128 := ⟨_, rfl⟩
    have t1 : Aside0 (Int.tmod (b : Int) 128 = (q : Int)) := ⟨by rw [hq]; rfl⟩
    have hq7 : q ≤ 127 := by omega
    have hqb : b < 128 → q = b := by omega
    clear hq hbe
    obtain ⟨z, hz⟩ : ∃ z, Aside0 (z = q * P) := ⟨_, ⟨rfl⟩⟩
    have hqm : z ≤ 127 * P := by rw [hz.out]; exact Nat.mul_le_mul_right _ hq7
    have s1 : shl .i64 (q : Int) ((7 * i : Nat) : Int) = (z : Int) := by rw [hz.out]; exact shl7 hP hi8 (Nat.mul_le_mul_right _ hq7)
    have w5 : Aside0 (wrap64 ((q : Int) * (P : Int)) = (z : Int)) := ⟨by rw [← Int.natCast_mul, ← hz.out]; exact wrap_id (by omega) (by omega)⟩
    have S1 := Aside0.mk s1
    have W5 := Aside0.mk w5.out
    clear s1
    have w0 : Aside0 (wrap64 (b : Int) = (b : Int)) := ⟨wrap_id (by omega) (by omega)⟩
    have w1 : Aside0 (wrap64 (((a + i : Nat) : Int) - (a : Int)) = (i : Int)) := ⟨by rw [wrap_id (by omega) (by omega)]; omega⟩
    have w2 : Aside0 (wrap64 ((l.length : Int) - (i : Int)) = (l.length : Int) - (i : Int)) := ⟨wrap_id (by omega) (by omega)⟩
    have w3 : Aside0 (wrap64 ((a : Int) + (i : Int)) = ((a + i : Nat) : Int)) := ⟨by rw [wrap_id (by omega) (by omega)]; omega⟩
    have w4 : Aside0 (wrap64 (7 * (i : Int)) = ((7 * i : Nat) : Int)) := ⟨by rw [wrap_id (by omega) (by omega)]; omega⟩
    have w6 : Aside0 (wrap64 ((n : Int) + (z : Int)) = ((n + z : Nat) : Int)) := ⟨by rw [wrap_id (by omega) (by omega)]; omega⟩
    have w7 : Aside0 (wrap64 ((P : Int) * 128) = ((P * 128 : Nat) : Int)) := ⟨by rw [wrap_id (by omega) (by omega)]; omega⟩
    have w8 : Aside0 (wrap64 (((a + i : Nat) : Int) + 1) = ((a + (i + 1) : Nat) : Int)) := ⟨by rw [wrap_id (by omega) (by omega)]; omega⟩
    have w9 : Aside0 (wrap64 ((i : Int) + 1) = ((i + 1 : Nat) : Int)) := ⟨by rw [wrap_id (by omega) (by omega)]; omega⟩
    have c1 : ((a + i : Nat) : Int) < (l.length : Int) := by omega
    have c2 : decide ((i : Int) < 8) = true := decide_eq_true (by omega)
    have c3 : decide ((a : Int) < (l.length : Int) - (i : Int)) = true := decide_eq_true (by omega)
    have c4 : (0 : Int) ≤ ((a + i : Nat) : Int) := by omega
    have c5 : (0 : Int) ≤ ((7 * i : Nat) : Int) := by omega
    have c6 : (i : Int) < 8 := by omega
    have c7 : (a : Int) ≥ 0 := by omega
    by_cases hc : 128 ≤ b
    · obtain ⟨r, h⟩ := ih (i + 1) a (n + z) (P * 128) (by omega) hP.succ (by omega) (Or.inr (by omega)) hm
      refine ⟨r, fun k hk => ?_⟩
      obtain ⟨k, rfl⟩ : ∃ m, k = m + 1 + 1 := ⟨k - 2, by omega⟩
      have g := h k (by omega)
      have d1 : ¬ (b : Int) < 128 := by omega
      have d2 : (b : Int) ≥ 128 := by omega
      clear h ih
      refine ⟨?_, ?_⟩
      · simp only [spec_GetNum.l0, spec_GetNum.j1]
        rw [if_pos c1, w1.out, c2, if_pos rfl, if_pos c4, if_pos c1, hrd.out, w0.out, if_neg d1, t1.out, W5.out, w6.out, w7.out, w8.out]
        exact g.1
      · simp only [impl_GetNum.l0, impl_GetNum.j1]
        rw [if_pos c6, if_pos c7, w2.out, c3, if_pos rfl, w3.out, if_pos c4, if_pos c1, w4.out, if_pos c5, hrd.out, w0.out, if_pos d2, t1.out, S1.out, w6.out, w9.out]
        exact g.2
    · have d1 : (b : Int) < 128 := by omega
      have d2 : ¬ (b : Int) ≥ 128 := by omega
      have num : impl_isNum.f ((n + z : Nat) : Int) = some (decide (((n + z : Nat) : Int) ≤ 1125899906842624)) := by
        unfold impl_isNum.f impl_in.f
        rw [if_pos (by omega)]
        rfl
      have lead : ∀ k, impl_GetNum.l0 (k + 1 + 1) l (a : Int) (n : Int) (i : Int) = if (b : Int) = 0 then (if (i : Int) > 0 then (some (0, 0, false)) else (if decide (((n + z : Nat) : Int) ≤ 1125899906842624) = true then (some (((n + z : Nat) : Int), ((a + (i + 1) : Nat) : Int), true)) else (some (0, 0, false)))) else (if decide (((n + z : Nat) : Int) ≤ 1125899906842624) = true then (some (((n + z : Nat) : Int), ((a + (i + 1) : Nat) : Int), true)) else (some (0, 0, false))) := by
        intro k
        simp only [impl_GetNum.l0, impl_GetNum.j1]
        rw [if_pos c6, if_pos c7, w2.out, c3, if_pos rfl, w3.out, if_pos c4, if_pos c1, w4.out, if_pos c5, hrd.out, w0.out, if_neg d2, t1.out, S1.out, w6.out, num, w8.out]
        simp only [Option.bind_some]
      have leads : ∀ k, spec_GetNum.l0 (k + 1 + 1) l (a : Int) (n : Int) (P : Int) ((a + i : Nat) : Int) = if ((n + z : Nat) : Int) > 1125899906842624 then (some (0, 0, false)) else (if (b : Int) = 0 then (if ((a + i : Nat) : Int) > (a : Int) then (some (0, 0, false)) else (some (((n + z : Nat) : Int), ((a + (i + 1) : Nat) : Int), true))) else (some (((n + z : Nat) : Int), ((a + (i + 1) : Nat) : Int), true))) := by
        intro k
        simp only [spec_GetNum.l0, spec_GetNum.j1]
        rw [if_pos c1, w1.out, c2, if_pos rfl, if_pos c4, if_pos c1, hrd.out, w0.out, if_pos d1, t1.out, W5.out, w6.out, w8.out]
      clear ih
      refine ⟨if (b : Int) = 0 ∧ (i : Int) > 0 then (0, 0, false) else if ((n + z : Nat) : Int) ≤ 1125899906842624 then (((n + z : Nat) : Int), ((a + (i + 1) : Nat) : Int), true) else (0, 0, false), fun k hk => ?_⟩
      obtain ⟨k, rfl⟩ : ∃ m, k = m + 1 + 1 := ⟨k - 2, by omega⟩
      rw [lead k, leads k]
      clear lead leads
      have fin : ∀ e4 : Bool, decide (((n + z : Nat) : Int) ≤ 1125899906842624) = e4 → (e4 = true → ¬ ((n + z : Nat) : Int) > 1125899906842624 ∧ ((n + z : Nat) : Int) ≤ 1125899906842624) ∧ (e4 = false → ((n + z : Nat) : Int) > 1125899906842624 ∧ ¬ ((n + z : Nat) : Int) ≤ 1125899906842624) := by
        intro e4 h
        refine ⟨fun g => ?_, fun g => ?_⟩
        · rw [g] at h; have := of_decide_eq_true h; exact ⟨by omega, this⟩
        · rw [g] at h; have := of_decide_eq_false h; exact ⟨by omega, this⟩
      obtain ⟨e4, h4⟩ : ∃ e4, decide (((n + z : Nat) : Int) ≤ 1125899906842624) = e4 := ⟨_, rfl⟩
      obtain ⟨ft, ff⟩ := fin e4 h4
      rw [h4]
      by_cases e1 : (b : Int) = 0
      · by_cases e2 : (i : Int) > 0
        · have e3 : ((a + i : Nat) : Int) > (a : Int) := by omega
          have c12 : (b : Int) = 0 ∧ (i : Int) > 0 := ⟨e1, e2⟩
          simp only [if_pos e1, if_pos e2, if_pos e3, if_pos c12, ite_self, and_self]
        · have e3 : ¬ ((a + i : Nat) : Int) > (a : Int) := by omega
          have c12 : ¬ ((b : Int) = 0 ∧ (i : Int) > 0) := fun h => e2 h.2
          cases e4 with
          | true => simp only [if_pos e1, if_neg e2, if_neg e3, if_neg c12, if_neg (ft rfl).1, if_pos (ft rfl).2, if_true, and_self]
          | false => simp only [if_pos e1, if_neg e2, if_neg e3, if_neg c12, if_pos (ff rfl).1, if_neg (ff rfl).2, Bool.false_eq_true, if_false, and_self]
      · have c12 : ¬ ((b : Int) = 0 ∧ (i : Int) > 0) := fun h => e1 h.1
        cases e4 with
        | true => simp only [if_neg e1, if_neg c12, if_neg (ft rfl).1, if_pos (ft rfl).2, if_true, and_self]
        | false => simp only [if_neg e1, if_neg c12, if_pos (ff rfl).1, if_neg (ff rfl).2, Bool.false_eq_true, if_false, and_self]
theorem getnum_f (l : List Int) (hb : ∀ x ∈ l, 0 ≤ x ∧ x < 256) (hl : l.length ≤ 140737488351232) (a : Int) (ha : a ≤ 9223372036854775807) :
    ∃ r : Int × Int × Bool, ∀ k, 18 ≤ k → spec_GetNum.f k l a = some r ∧ impl_GetNum.f k l a = some r := by
  by_cases h0 : a < 0
  · refine ⟨(0, 0, false), fun k hk => ?_⟩
    obtain ⟨k, rfl⟩ : ∃ m, k = m + 1 + 1 := ⟨k - 2, by omega⟩
    have c : ¬ a ≥ 0 := by omega
    refine ⟨by unfold spec_GetNum.f; rw [if_pos h0], ?_⟩
    unfold impl_GetNum.f
    simp only [impl_GetNum.l0, impl_GetNum.j1]
    rw [if_pos (by decide), if_neg c]
    rfl
  · obtain ⟨b, rfl⟩ : ∃ b : Nat, a = (b : Int) := ⟨a.toNat, by omega⟩
    obtain ⟨r, h⟩ := getnum_both l hb hl 8 0 b 0 1 (by omega) Pw.zero (by omega) (Or.inl rfl) (by omega)
    refine ⟨r, fun k hk => ?_⟩
    have g := h k (by omega)
    refine ⟨?_, g.2⟩
    unfold spec_GetNum.f
    rw [if_neg h0]
    exact g.1

/-- Where a number is read, the next place lies behind and within; else all is zero. -/
theorem gn_shape (l : List Int) (hl : l.length ≤ 140737488351232) : ∀ k, (∀ a n P i r, a ≤ i → spec_GetNum.l0 k l a n P i = some r → r = (0, 0, false) ∨ (r.2.2 = true ∧ a < r.2.1 ∧ r.2.1 ≤ (l.length : Int))) ∧
    (∀ a n P i c r, a ≤ i → spec_GetNum.j1 k l a n P i c = some r → r = (0, 0, false) ∨ (r.2.2 = true ∧ a < r.2.1 ∧ r.2.1 ≤ (l.length : Int))) := by
  intro k
  induction k with
  | zero => exact ⟨fun a n P i r _ h => by simp [spec_GetNum.l0] at h, fun a n P i c r _ h => by simp [spec_GetNum.j1] at h⟩
  | succ k ih =>
    refine ⟨fun a n P i r hai h => ?_, fun a n P i c r hai h => ?_⟩
    · simp only [spec_GetNum.l0] at h
      split at h
      · exact ih.2 _ _ _ _ _ _ hai h
      · exact ih.2 _ _ _ _ _ _ hai h
    · simp only [spec_GetNum.j1] at h
      split at h
      · split at h
        · rename_i h0
          split at h
          · rename_i h1
            have hw : wrap64 (i + 1) = i + 1 := wrap_id (by omega) (by omega)
            split at h
            · split at h
              · exact .inl (Option.some.inj h).symm
              · split at h
                · split at h
                  · exact .inl (Option.some.inj h).symm
                  · obtain rfl := (Option.some.inj h).symm
                    refine .inr ⟨rfl, ?_, ?_⟩ <;> (dsimp only; rw [hw]; omega)
                · obtain rfl := (Option.some.inj h).symm
                  refine .inr ⟨rfl, ?_, ?_⟩ <;> (dsimp only; rw [hw]; omega)
            · rw [hw] at h
              exact ih.1 _ _ _ _ _ (by omega) h
          · exact absurd h (by simp)
        · exact absurd h (by simp)
      · exact .inl (Option.some.inj h).symm
theorem gn_f_shape (l : List Int) (hl : l.length ≤ 140737488351232) (k : Nat) (a : Int) (r : Int × Int × Bool) (h : spec_GetNum.f k l a = some r) : r = (0, 0, false) ∨ (r.2.2 = true ∧ 0 ≤ a ∧ a < r.2.1 ∧ r.2.1 ≤ (l.length : Int)) := by
  unfold spec_GetNum.f at h
  split at h
  · exact .inl (Option.some.inj h).symm
  · rcases (gn_shape l hl k).1 _ _ _ _ _ (Int.le_refl _) h with h | ⟨h1, h2, h3⟩
    · exact .inl h
    · exact .inr ⟨h1, by omega, h2, h3⟩
/-- Both programs' GetNum, with what is known of the answer. -/
theorem getnum_all (l : List Int) (hb : ∀ x ∈ l, 0 ≤ x ∧ x < 256) (hl : l.length ≤ 140737488351232) (a : Int) (ha : a ≤ 9223372036854775807) :
    ∃ n next ok, (∀ k, 18 ≤ k → spec_GetNum.f k l a = some (n, next, ok) ∧ impl_GetNum.f k l a = some (n, next, ok)) ∧ ((ok = false ∧ n = 0 ∧ next = 0) ∨ (ok = true ∧ 0 ≤ a ∧ a < next ∧ next ≤ (l.length : Int))) := by
  obtain ⟨⟨n, next, ok⟩, h⟩ := getnum_f l hb hl a ha
  refine ⟨n, next, ok, h, ?_⟩
  rcases gn_f_shape l hl 18 a _ (h 18 (Nat.le_refl _)).1 with e | e
  · injection e with e1 e2
    injection e2 with e2 e3
    exact .inl ⟨e3, e1, e2⟩
  · exact .inr e

theorem eqIntS_l0 (l : List Int) (hl : l.length ≤ 140737488351232) (d : Nat) : ∀ (k : Nat) (i : Nat), i + d = l.length → d < k → laws_eqIntS.l0 k l l (i : Int) = some true := by
  induction d with
  | zero =>
    intro k i hi hk
    obtain ⟨k, rfl⟩ : ∃ m, k = m + 1 := ⟨k - 1, by omega⟩
    simp only [laws_eqIntS.l0]
    rw [if_neg (by omega)]
  | succ d ih =>
    intro k i hi hk
    obtain ⟨k, rfl⟩ : ∃ m, k = m + 1 := ⟨k - 1, by omega⟩
    simp only [laws_eqIntS.l0]
    rw [if_pos (by omega), if_pos (by omega), if_pos (by omega), if_pos trivial, wrap_id (by omega) (by omega), succ_cast]
    exact ih k (i + 1) (by omega) (by omega)
theorem eqIntS_refl (l : List Int) (k : Nat) (hk : l.length < k) (hl : l.length ≤ 140737488351232) : laws_eqIntS.f k l l = some true := by
  unfold laws_eqIntS.f
  rw [if_pos rfl]
  exact eqIntS_l0 l hl l.length k 0 (by omega) hk

def markI : Nat → Nat → List Int
  | 0, _ => []
  | d + 1, n => (n : Int) :: markI d (n + 1)
theorem markI_length : ∀ d n, (markI d n).length = d
  | 0, _ => rfl
  | d + 1, n => by simp [markI, markI_length d]
theorem markI_get : ∀ d n i, i < d → (markI d n)[i]? = some ((n + i : Nat) : Int)
  | 0, _, _, h => absurd h (Nat.not_lt_zero _)
  | d + 1, n, 0, _ => by simp [markI]
  | d + 1, n, i + 1, h => by
    rw [markI, List.getElem?_cons_succ, markI_get d (n + 1) i (by omega)]
    congr 2
    omega
theorem markIntS_l0 (n0 : Nat) (t : Nat) (d : Nat) : ∀ (k : Nat) (x : List Int) (i : Nat), i + d = t → d < k → x.length = t → t ≤ 140737488351232 → n0 ≤ 140737488351232 → (∀ j, j < i → x[j]? = some ((n0 + j : Nat) : Int)) →
    laws_markIntS.l0 k x ((n0 + i : Nat) : Int) (i : Int) = some (((n0 + t : Nat) : Int), markI t n0) := by
  induction d with
  | zero =>
    intro k x i hi hk hx ht hn hj
    obtain ⟨k, rfl⟩ : ∃ m, k = m + 1 := ⟨k - 1, by omega⟩
    simp only [laws_markIntS.l0]
    rw [if_neg (by omega)]
    have e : x = markI t n0 := by
      apply List.ext_getElem?
      intro j
      by_cases h : j < t
      · rw [hj j (by omega), markI_get t n0 j h]
      · rw [List.getElem?_eq_none (by omega), List.getElem?_eq_none (by rw [markI_length]; omega)]
    have e2 : i = t := by omega
    rw [e, e2]
  | succ d ih =>
    intro k x i hi hk hx ht hn hj
    obtain ⟨k, rfl⟩ : ∃ m, k = m + 1 := ⟨k - 1, by omega⟩
    simp only [laws_markIntS.l0]
    rw [if_pos (by omega), if_pos (by omega), wrap_succ (n0 + i) (by omega), wrap_succ i (by omega), Int.toNat_natCast]
    refine ih k _ (i + 1) (by omega) (by omega) (by simpa using hx) ht hn (fun j hj' => ?_)
    by_cases h : j = i
    · subst h
      rw [List.getElem?_set_self (by omega)]
    · rw [List.getElem?_set_ne (by omega)]
      exact hj j (by omega)
theorem markIntS_f (l : List Int) (n : Nat) (k : Nat) (hk : l.length < k) (hl : l.length ≤ 140737488351232) (hn : n ≤ 140737488351232) :
    laws_markIntS.f k l (n : Int) = some (((n + l.length : Nat) : Int), markI l.length n) :=
  markIntS_l0 n l.length l.length k l 0 (by omega) hk rfl hl hn (fun j hj => absurd hj (Nat.not_lt_zero _))
theorem markIntS_1 (l : List Int) (k : Nat) (hk : l.length < k) (hl : l.length ≤ 140737488351232) :
    laws_markIntS.f k l 1 = some (((1 + l.length : Nat) : Int), markI l.length 1) :=
  markIntS_f l 1 k hk hl (by omega)

theorem heldIntS_l0 (n0 : Nat) (t : Nat) (d : Nat) : ∀ (k : Nat) (i : Nat), i + d = t → d < k → t ≤ 140737488351232 → n0 ≤ 140737488351232 →
    laws_heldIntS.l0 k (markI t n0) ((n0 + i : Nat) : Int) (i : Int) = some ((n0 + t : Nat) : Int) := by
  induction d with
  | zero =>
    intro k i hi hk ht hn
    obtain ⟨k, rfl⟩ : ∃ m, k = m + 1 := ⟨k - 1, by omega⟩
    simp only [laws_heldIntS.l0]
    rw [if_neg (by rw [markI_length]; omega)]
    have e2 : i = t := by omega
    rw [e2]
  | succ d ih =>
    intro k i hi hk ht hn
    obtain ⟨k, rfl⟩ : ∃ m, k = m + 1 := ⟨k - 1, by omega⟩
    have hr : rd (markI t n0) (i : Int) = ((n0 + i : Nat) : Int) := by
      have := markI_get t n0 i (by omega)
      simp [rd, List.getD, this]
    simp only [laws_heldIntS.l0]
    rw [if_pos (by rw [markI_length]; omega), if_pos (by omega), hr, if_pos rfl, wrap_succ (n0 + i) (by omega), wrap_succ i (by omega)]
    exact ih k (i + 1) (by omega) (by omega) ht hn
theorem heldIntS_f (t n : Nat) (k : Nat) (hk : t < k) (hl : t ≤ 140737488351232) (hn : n ≤ 140737488351232) :
    laws_heldIntS.f k (markI t n) (n : Int) = some ((n + t : Nat) : Int) :=
  heldIntS_l0 n t t k 0 (by omega) hk hl hn
theorem heldIntS_1 (t : Nat) (k : Nat) (hk : t < k) (hl : t ≤ 140737488351232) :
    laws_heldIntS.f k (markI t 1) 1 = some ((1 + t : Nat) : Int) :=
  heldIntS_f t 1 k hk hl (by omega)

def markL : Nat → Nat → List Int
  | 0, _ => []
  | d + 1, n => ((n % 256 : Nat) : Int) :: markL d (n + 1)
theorem markL_length : ∀ d n, (markL d n).length = d
  | 0, _ => rfl
  | d + 1, n => by simp [markL, markL_length d]
theorem markL_get : ∀ d n i, i < d → (markL d n)[i]? = some (((n + i) % 256 : Nat) : Int)
  | 0, _, _, h => absurd h (Nat.not_lt_zero _)
  | d + 1, n, 0, _ => by simp [markL]
  | d + 1, n, i + 1, h => by
    rw [markL, List.getElem?_cons_succ, markL_get d (n + 1) i (by omega)]
    congr 2
    omega
theorem markByteS_l0 (n0 : Nat) (t : Nat) (d : Nat) : ∀ (k : Nat) (x : List Int) (i : Nat), i + d = t → d < k → x.length = t → t ≤ 140737488351232 → n0 ≤ 140737488351232 → (∀ j, j < i → x[j]? = some (((n0 + j) % 256 : Nat) : Int)) →
    laws_markByteS.l0 k x ((n0 + i : Nat) : Int) (i : Int) = some (((n0 + t : Nat) : Int), markL t n0) := by
  induction d with
  | zero =>
    intro k x i hi hk hx ht hn hj
    obtain ⟨k, rfl⟩ : ∃ m, k = m + 1 := ⟨k - 1, by omega⟩
    simp only [laws_markByteS.l0]
    rw [if_neg (by omega)]
    have e : x = markL t n0 := by
      apply List.ext_getElem?
      intro j
      by_cases h : j < t
      · rw [hj j (by omega), markL_get t n0 j h]
      · rw [List.getElem?_eq_none (by omega), List.getElem?_eq_none (by rw [markL_length]; omega)]
    have e2 : i = t := by omega
    rw [e, e2]
  | succ d ih =>
    intro k x i hi hk hx ht hn hj
    obtain ⟨k, rfl⟩ : ∃ m, k = m + 1 := ⟨k - 1, by omega⟩
    simp only [laws_markByteS.l0]
    rw [if_pos (by omega), if_pos (by omega), wrap_succ (n0 + i) (by omega), wrap_succ i (by omega), Int.toNat_natCast]
    have e : ((n0 + i : Nat) : Int) % 256 = (((n0 + i) % 256 : Nat) : Int) := rfl
    rw [e]
    refine ih k _ (i + 1) (by omega) (by omega) (by simpa using hx) ht hn (fun j hj' => ?_)
    by_cases h : j = i
    · subst h
      rw [List.getElem?_set_self (by omega)]
    · rw [List.getElem?_set_ne (by omega)]
      exact hj j (by omega)
theorem markByteS_f (l : List Int) (n : Nat) (k : Nat) (hk : l.length < k) (hl : l.length ≤ 140737488351232) (hn : n ≤ 140737488351232) :
    laws_markByteS.f k l (n : Int) = some (((n + l.length : Nat) : Int), markL l.length n) :=
  markByteS_l0 n l.length l.length k l 0 (by omega) hk rfl hl hn (fun j hj => absurd hj (Nat.not_lt_zero _))
theorem markByteS_1 (l : List Int) (k : Nat) (hk : l.length < k) (hl : l.length ≤ 140737488351232) :
    laws_markByteS.f k l 1 = some (((1 + l.length : Nat) : Int), markL l.length 1) :=
  markByteS_f l 1 k hk hl (by omega)

theorem l01Get_bad (k : Nat) (l : List Int) (at_ : Int) : spec_l01Get.f k l at_ true = some (0, at_, true) := by
  unfold spec_l01Get.f
  rw [if_pos rfl]
theorem l01Get_ok (k : Nat) (l : List Int) (at_ : Int) (r : Int × Int × Bool) (h : spec_GetNum.f k l at_ = some r) : spec_l01Get.f k l at_ false = some (r.1, r.2.1, !r.2.2) := by
  unfold spec_l01Get.f
  rw [if_neg (by decide), h]
  rfl
theorem list_bad (k : Nat) (n : Int) (out : List Int) (i : Int) (l : List Int) (at_ : Int) : spec_l01List.l0 (k + 1) n out i l at_ true = some (out, at_, true) := by
  simp only [spec_l01List.l0]
  split
  · rw [if_pos trivial]
  · rfl
theorem nums_both (l : List Int) (hb : ∀ x ∈ l, 0 ≤ x ∧ x < 256) (hl : l.length ≤ 1048576) (d : Nat) : ∀ (at_ : Int) (out : List Int) (n : Int), 0 ≤ at_ → at_ ≤ (l.length : Int) → (l.length : Int) ≤ at_ + d → out.length + d ≤ 1048577 →
    ∃ (o : List Int) (a : Int) (b : Bool) (ro : List Int) (ra : Int) (rb : Bool), ro.length ≤ 1048577 ∧ ((b = true ∧ ro = [] ∧ ra = 0 ∧ rb = false) ∨ (b = false ∧ ro = o ∧ ra = a ∧ rb = true)) ∧
      ∀ k, d + 20 ≤ k → spec_l01List.l0 k n out (out.length : Int) l at_ false = some (o, a, b) ∧ impl_GetNums.l0 k l at_ out n (out.length : Int) = some (ro, ra, rb) := by
  induction d with
  | zero =>
    intro at_ out n h0 h1 h2 h3
    by_cases hlt : (out.length : Int) < n
    · obtain ⟨m, next, ok, hg, hc⟩ := getnum_all l hb (by omega) at_ (by omega)
      rcases hc with ⟨rfl, rfl, rfl⟩ | ⟨_, _, hx, hy⟩
      · refine ⟨out ++ [0], 0, true, [], 0, false, Nat.zero_le _, .inl ⟨rfl, rfl, rfl, rfl⟩, fun k hk => ?_⟩
        obtain ⟨k, rfl⟩ : ∃ m, k = m + 1 + 1 := ⟨k - 2, by omega⟩
        have g := hg (k + 1) (by omega)
        generalize hK : k + 1 = K at g ⊢
        refine ⟨?_, ?_⟩
        · simp only [spec_l01List.l0]
          rw [if_pos hlt, if_neg (by decide), l01Get_ok K l at_ _ g.1]
          simp only [Option.bind_some]
          rw [if_pos (by omega), ← hK]
          exact list_bad k n _ _ l 0
        · simp only [impl_GetNums.l0]
          rw [if_pos hlt, g.2]
          simp only [Option.bind_some]
          rw [if_neg (by decide)]
      · omega
    · refine ⟨out, at_, false, out, at_, true, by omega, .inr ⟨rfl, rfl, rfl, rfl⟩, fun k hk => ?_⟩
      obtain ⟨k, rfl⟩ : ∃ m, k = m + 1 := ⟨k - 1, by omega⟩
      refine ⟨?_, ?_⟩
      · simp only [spec_l01List.l0]
        rw [if_neg hlt]
      · simp only [impl_GetNums.l0]
        rw [if_neg hlt]
  | succ d ih =>
    intro at_ out n h0 h1 h2 h3
    by_cases hlt : (out.length : Int) < n
    · obtain ⟨m, next, ok, hg, hc⟩ := getnum_all l hb (by omega) at_ (by omega)
      rcases hc with ⟨rfl, rfl, rfl⟩ | ⟨rfl, _, hx, hy⟩
      · refine ⟨out ++ [0], 0, true, [], 0, false, Nat.zero_le _, .inl ⟨rfl, rfl, rfl, rfl⟩, fun k hk => ?_⟩
        obtain ⟨k, rfl⟩ : ∃ m, k = m + 1 + 1 := ⟨k - 2, by omega⟩
        have g := hg (k + 1) (by omega)
        generalize hK : k + 1 = K at g ⊢
        refine ⟨?_, ?_⟩
        · simp only [spec_l01List.l0]
          rw [if_pos hlt, if_neg (by decide), l01Get_ok K l at_ _ g.1]
          simp only [Option.bind_some]
          rw [if_pos (by omega), ← hK]
          exact list_bad k n _ _ l 0
        · simp only [impl_GetNums.l0]
          rw [if_pos hlt, g.2]
          simp only [Option.bind_some]
          rw [if_neg (by decide)]
      · obtain ⟨o, a, b, ro, ra, rb, hro, hc, hk'⟩ := ih next (out ++ [m]) n (by omega) hy (by omega) (by rw [List.length_append, List.length_singleton]; omega)
        refine ⟨o, a, b, ro, ra, rb, hro, hc, fun k hk => ?_⟩
        obtain ⟨k, rfl⟩ : ∃ m, k = m + 1 := ⟨k - 1, by omega⟩
        have g := hg k (by omega)
        have q := hk' k (by omega)
        have hw : wrap64 ((out.length : Int) + 1) = ((out ++ [m]).length : Int) := by rw [wrap_succ _ (by omega), List.length_append, List.length_singleton]
        refine ⟨?_, ?_⟩
        · simp only [spec_l01List.l0]
          rw [if_pos hlt, if_neg (by decide), l01Get_ok k l at_ _ g.1]
          simp only [Option.bind_some]
          rw [if_pos (by omega), hw]
          exact q.1
        · simp only [impl_GetNums.l0]
          rw [if_pos hlt, g.2]
          simp only [Option.bind_some]
          rw [if_pos trivial, if_pos (by omega), hw]
          exact q.2
    · refine ⟨out, at_, false, out, at_, true, by omega, .inr ⟨rfl, rfl, rfl, rfl⟩, fun k hk => ?_⟩
      obtain ⟨k, rfl⟩ : ∃ m, k = m + 1 := ⟨k - 1, by omega⟩
      refine ⟨?_, ?_⟩
      · simp only [spec_l01List.l0]
        rw [if_neg hlt]
      · simp only [impl_GetNums.l0]
        rw [if_neg hlt]
theorem getnums_f (l : List Int) (hb : ∀ x ∈ l, 0 ≤ x ∧ x < 256) (hl : l.length ≤ 1048576) (a1 a2 : Int) (ha : a1 ≤ 9223372036854775807) :
    ∃ (ro : List Int) (ra : Int) (rb : Bool), ro.length ≤ 1048577 ∧ ∀ k, 1048600 ≤ k → spec_GetNums.f k l a1 a2 = some (ro, ra, rb) ∧ impl_GetNums.f k l a1 a2 = some (ro, ra, rb) := by
  obtain ⟨n, next, ok, hg, hc⟩ := getnum_all l hb (by omega) a1 ha
  rcases hc with ⟨rfl, rfl, rfl⟩ | ⟨rfl, _, hx, hy⟩
  · refine ⟨[], 0, false, Nat.zero_le _, fun k hk => ?_⟩
    obtain ⟨k, rfl⟩ : ∃ m, k = m + 1 + 1 := ⟨k - 2, by omega⟩
    have g := hg (k + 1 + 1) (by omega)
    have L := list_bad k 0 [] 0 l 0
    have J : spec_l01List.j0 (k + 1 + 1) 0 [] l 0 true = some ([], 0, true) := by
      generalize hK : k + 1 = K at L ⊢
      simp only [spec_l01List.j0]
      exact L
    refine ⟨?_, ?_⟩
    · unfold spec_GetNums.f spec_l01List.f
      rw [l01Get_ok _ l a1 _ g.1]
      simp only [Option.bind_some, Bool.not_false, J, ite_self, if_true]
    · unfold impl_GetNums.f
      rw [g.2]
      simp only [Option.bind_some, Bool.false_eq_true, if_false]
      generalize k + 1 = K
      simp only [impl_GetNums.j0]
      rw [if_pos trivial]
  · by_cases hm : n > a2
    · refine ⟨[], 0, false, Nat.zero_le _, fun k hk => ?_⟩
      obtain ⟨k, rfl⟩ : ∃ m, k = m + 1 + 1 := ⟨k - 2, by omega⟩
      have g := hg (k + 1 + 1) (by omega)
      have L := list_bad k n [] 0 l next
      have J : spec_l01List.j0 (k + 1 + 1) n [] l next true = some ([], next, true) := by
        generalize hK : k + 1 = K at L ⊢
        simp only [spec_l01List.j0]
        exact L
      refine ⟨?_, ?_⟩
      · unfold spec_GetNums.f spec_l01List.f
        rw [l01Get_ok _ l a1 _ g.1]
        simp only [Option.bind_some]
        rw [if_pos hm, J]
        simp only [Option.bind_some, if_true]
      · unfold impl_GetNums.f
        rw [g.2]
        simp only [Option.bind_some, if_true]
        rw [decide_eq_true hm]
        generalize k + 1 = K
        simp only [impl_GetNums.j0]
        rw [if_pos trivial]
    · obtain ⟨o, a, b, ro, ra, rb, hro, hc, hk'⟩ := nums_both l hb hl 1048576 next [] n (by omega) hy (by omega) (by simp)
      refine ⟨ro, ra, rb, hro, fun k hk => ?_⟩
      obtain ⟨k, rfl⟩ : ∃ m, k = m + 1 := ⟨k - 1, by omega⟩
      have g := hg (k + 1) (by omega)
      have q := hk' k (by omega)
      refine ⟨?_, ?_⟩
      · unfold spec_GetNums.f spec_l01List.f
        rw [l01Get_ok _ l a1 _ g.1]
        simp only [Option.bind_some, Bool.not_true]
        rw [if_neg hm]
        simp only [spec_l01List.j0]
        have q1 := q.1
        simp only [List.length_nil] at q1
        rw [show (0 : Int) = ((0 : Nat) : Int) from rfl, q1]
        simp only [Option.bind_some]
        rcases hc with ⟨rfl, rfl, rfl, rfl⟩ | ⟨rfl, rfl, rfl, rfl⟩
        · rw [if_pos rfl]; rfl
        · rw [if_neg (by decide)]
      · unfold impl_GetNums.f
        rw [g.2]
        simp only [Option.bind_some, if_true]
        rw [decide_eq_false hm]
        simp only [impl_GetNums.j0]
        rw [if_neg (by decide)]
        have q2 := q.2
        simp only [List.length_nil] at q2
        exact q2
theorem FnExactGetNums (l0 : List Int) (a1 : Int) (a2 : Int) (w0 : l0.length ≤ maxLen ∧ ∀ l0_e ∈ l0, (Lit.int .u8 l0_e).wf = true) (w1 : (Lit.int .i64 a1).wf = true) (w2 : (Lit.int .i64 a2).wf = true) : ∃ k, laws_FnExactGetNums.f k l0 a1 a2 = some true := by
  by_cases hs : (l0.length : Int) > 1048576
  · exact ⟨0, by unfold laws_FnExactGetNums.f; rw [if_pos hs]⟩
  refine rounds_of (fun m hm => ?_)
  obtain ⟨r, ra, rb, hr, h⟩ := getnums_f l0 (fun x hx => u8_of_wf (w0.2 x hx)) (by omega) a1 a2 (i64_of_wf w1).2
  have E1 := fun j => (h (m + j) (by omega)).1
  have E2 := fun j => (h (m + j) (by omega)).2
  have T := fun j => toByteS_f l0 (m + j) (by omega) (by omega)
  have Q := fun j => eqByteS_refl l0 (m + j) (by omega) (by omega)
  have Q' := fun j => eqIntS_refl r (m + j) (by omega) (by omega)
  have M := fun j => markByteS_1 l0 (m + j) (by omega) (by omega)
  have M' := fun j => markIntS_1 r (m + j) (by omega) (by omega)
  have H' := fun j => heldIntS_1 r.length (m + j) (by omega) (by omega)
  unfold laws_FnExactGetNums.f
  rw [if_neg hs]
  simp only [Option.bind_some, T, E1, E2, Q, Q', M, M', H', if_true, bne_self_eq_false, laws_FnExactGetNums.j0, laws_FnExactGetNums.j1, laws_FnExactGetNums.j2, Bool.false_eq_true, if_false, natlt0]

end Go.Proofs.Ytgkjbechcbbgjaa.Pure
