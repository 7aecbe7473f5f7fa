/- For all bytes and offsets MsgGet of the program and of the reference answer alike. This text proves it of the plain functions, with no program in sight. Conditions: none but those of the given statement. -/
import Derived.Test.YtgkjbechcbbgjaaPFnExactMsgGetx4
set_option linter.unusedVariables false
set_option linter.unusedSimpArgs false
namespace Go.Proofs.Ytgkjbechcbbgjaa.Pure
open Go Go.RowKit Go.Proofs.Ytgkjbechcbbgjaa.PFnExactMsgGet Go.Proofs.YtgkjbechcbbgjaaW.PrintWords Go.Proofs.YtgkjbechcbbgjaaW.PrintLast Go.Proofs.YtgkjbechcbbgjaaW.PrintMore

theorem wrap_id {x : Int} (h0 : -9223372036854775808 ≤ x) (h1 : x ≤ 9223372036854775807) : wrap64 x = x := by
  unfold wrap64; omega
theorem rd_eq (l : List Int) (i : Nat) (h : i < l.length) : rd l (i : Int) = l[i] := by
  simp [rd, h]
theorem succ_cast (i : Nat) : (i : Int) + 1 = ((i + 1 : Nat) : Int) := by omega
theorem take_set_same (l m : List Int) (i : Nat) (hi : i < l.length) (hm : m.length = l.length) (ht : m.take i = l.take i) : (m.set i l[i]).take (i + 1) = l.take (i + 1) := by
  rw [List.take_succ_eq_append_getElem (by simp; omega), List.take_succ_eq_append_getElem hi]
  simp [List.take_set_of_le, ht]
theorem natlt0 (n : Nat) : ((n : Int) < 0) = False := by simp
theorem wrap_nat (n : Nat) (h : n ≤ 9223372036854775807) : wrap64 (n : Int) = (n : Int) := wrap_id (by omega) (by omega)
theorem wrap_succ (n : Nat) (h : n < 9223372036854775807) : wrap64 ((n : Int) + 1) = ((n + 1 : Nat) : Int) := by rw [wrap_id (by omega) (by omega)]; omega
theorem u8_of_wf {x : Int} (h : (Lit.int .u8 x).wf = true) : 0 ≤ x ∧ x < 256 := by
  simp [Lit.wf, IntKind.min, IntKind.max, IntKind.signed, IntKind.bits] at h
  omega
theorem i64_of_wf {x : Int} (h : (Lit.int .i64 x).wf = true) : -9223372036854775808 ≤ x ∧ x ≤ 9223372036854775807 := by
  simp [Lit.wf, IntKind.min, IntKind.max, IntKind.signed, IntKind.bits] at h
  omega
theorem max_len {α : Type} {l : List α} (h : l.length ≤ maxLen) : l.length ≤ 9223372036854775807 := by
  unfold maxLen at h; omega
theorem rounds_of {f : Nat → Option Bool} (h : ∀ m, 20000000 ≤ m → f (m + 8) = some true) : ∃ k, f k = some true := by
  obtain ⟨m, hm⟩ : ∃ m : Nat, 20000000 ≤ m := ⟨_, Nat.le_refl _⟩
  exact ⟨m + 8, h m hm⟩

theorem toByteS_l0 (l : List Int) (hl : l.length ≤ 140737488351232) (d : Nat) : ∀ (k : Nat) (x3 : List Int) (i : Nat), i + d = l.length → d < k → x3.length = l.length → x3.take i = l.take i → laws_toByteS.l0 k l x3 (i : Int) = some l := by
  induction d with
  | zero =>
    intro k x3 i hi hk h3 ht
    obtain ⟨k, rfl⟩ : ∃ m, k = m + 1 := ⟨k - 1, by omega⟩
    simp only [laws_toByteS.l0]
    rw [if_neg (by omega)]
    rw [List.take_of_length_le (by omega), List.take_of_length_le (by omega)] at ht
    rw [ht]
  | succ d ih =>
    intro k x3 i hi hk h3 ht
    obtain ⟨k, rfl⟩ : ∃ m, k = m + 1 := ⟨k - 1, by omega⟩
    simp only [laws_toByteS.l0]
    rw [if_pos (by omega), if_pos (by omega), if_pos (by omega), wrap_id (by omega) (by omega), succ_cast, Int.toNat_natCast, rd_eq l i (by omega)]
    exact ih k _ (i + 1) (by omega) (by omega) (by simp [h3]) (take_set_same l x3 i (by omega) h3 ht)
theorem toByteS_f (l : List Int) (k : Nat) (hk : l.length < k) (hl : l.length ≤ 140737488351232) : laws_toByteS.f k l = some l := by
  unfold laws_toByteS.f
  rw [if_pos (by omega), if_pos (by omega)]
  exact toByteS_l0 l hl l.length k _ 0 (by omega) hk (by simp) (by simp)
theorem eqByteS_l0 (l : List Int) (hl : l.length ≤ 140737488351232) (d : Nat) : ∀ (k : Nat) (i : Nat), i + d = l.length → d < k → laws_eqByteS.l0 k l l (i : Int) = some true := by
  induction d with
  | zero =>
    intro k i hi hk
    obtain ⟨k, rfl⟩ : ∃ m, k = m + 1 := ⟨k - 1, by omega⟩
    simp only [laws_eqByteS.l0]
    rw [if_neg (by omega)]
  | succ d ih =>
    intro k i hi hk
    obtain ⟨k, rfl⟩ : ∃ m, k = m + 1 := ⟨k - 1, by omega⟩
    simp only [laws_eqByteS.l0]
    rw [if_pos (by omega), if_pos (by omega), if_pos (by omega), if_pos trivial, wrap_id (by omega) (by omega), succ_cast]
    exact ih k (i + 1) (by omega) (by omega)
theorem eqByteS_refl (l : List Int) (k : Nat) (hk : l.length < k) (hl : l.length ≤ 140737488351232) : laws_eqByteS.f k l l = some true := by
  unfold laws_eqByteS.f
  rw [if_pos rfl]
  exact eqByteS_l0 l hl l.length k 0 (by omega) hk

theorem i64_wrap_id {x : Int} (h0 : -9223372036854775808 ≤ x) (h1 : x ≤ 9223372036854775807) : IntKind.i64.wrap x = x := by
  simp only [IntKind.wrap, IntKind.bits, IntKind.signed]
  simp
  omega
/-- P is 128 to the power i (kept from omega). -/
structure Pw (i P : Nat) : Prop where mk :: (out : P = 128 ^ i)
theorem Pw.zero : Pw 0 1 := ⟨rfl⟩
theorem Pw.succ {i P : Nat} (h : Pw i P) : Pw (i + 1) (P * 128) := ⟨by rw [h.out, Nat.pow_succ]⟩
theorem Pw.le {i P : Nat} (h : Pw i P) (hi : i < 8) : P ≤ 562949953421312 := by
  have hp : 128 ^ i ≤ 128 ^ 7 := Nat.pow_le_pow_right (Nat.succ_pos _) (Nat.le_of_lt_succ hi)
  rw [h.out]
  exact hp
theorem shl7 {q i P : Nat} (h : Pw i P) (hi : i < 8) (hq : q * P ≤ 127 * P) : shl .i64 (q : Int) ((7 * i : Nat) : Int) = ((q * P : Nat) : Int) := by
  have hP := h.le hi
  unfold shl
  have e0 : ((7 * i : Nat) : Int).toNat = 7 * i := Int.toNat_natCast _
  have e1 : min (7 * i) (IntKind.bits .i64) = 7 * i := Nat.min_eq_left (show 7 * i ≤ 64 by omega)
  have e2 : (2 : Int) ^ (7 * i) = ((P : Nat) : Int) := by
    rw [h.out, show (128 : Nat) = 2 ^ 7 from rfl, ← Nat.pow_mul]
    push_cast
    rfl
  rw [e0, e1, e2, ← Int.natCast_mul]
  generalize q * P = z at hq ⊢
  exact i64_wrap_id (by omega) (by omega)
set_option maxHeartbeats 4000000 in
theorem getnum_both (l : List Int) (hb : ∀ x ∈ l, 0 ≤ x ∧ x < 256) (hl : l.length ≤ 140737488351232) (d : Nat) : ∀ (i a n P : Nat), i + d = 8 → Pw i P → n < P → (i = 0 ∨ a + i ≤ l.length) → a ≤ 9223372036854775807 →
    ∃ r : Int × Int × Bool, ∀ k, 2 * d + 2 ≤ k → spec_GetNum.l0 k l (a : Int) (n : Int) (P : Int) ((a + i : Nat) : Int) = some r ∧ impl_GetNum.l0 k l (a : Int) (n : Int) (i : Int) = some r := by
  induction d with
  | zero =>
    intro i a n P hi hP hn ha hm
    refine ⟨(0, 0, false), fun k hk => ?_⟩
    obtain ⟨k, rfl⟩ : ∃ m, k = m + 1 + 1 := ⟨k - 2, by omega⟩
    have w1 : Aside0 (wrap64 (((a + i : Nat) : Int) - (a : Int)) = (i : Int)) := ⟨by rw [wrap_id (by omega) (by omega)]; omega⟩
    have hf : decide ((i : Int) < 8) = false := decide_eq_false (by omega)
    have c6 : ¬ (i : Int) < 8 := by omega
    refine ⟨?_, ?_⟩
    · simp only [spec_GetNum.l0, spec_GetNum.j1, w1.out, hf, Bool.false_eq_true, if_false, ite_self]
    · simp only [impl_GetNum.l0, impl_GetNum.j1, if_neg c6, Bool.false_eq_true, if_false]
  | succ d ih =>
    intro i a n P hi hP hn ha hm
    have hi8 : i < 8 := by omega
    have hp := hP.le hi8
    by_cases hlt : a + i < l.length
    case neg =>
      refine ⟨(0, 0, false), fun k hk => ?_⟩
      obtain ⟨k, rfl⟩ : ∃ m, k = m + 1 + 1 := ⟨k - 2, by omega⟩
      have w2 : Aside0 (wrap64 ((l.length : Int) - (i : Int)) = (l.length : Int) - (i : Int)) := ⟨wrap_id (by omega) (by omega)⟩
      have hf : decide ((a : Int) < (l.length : Int) - (i : Int)) = false := decide_eq_false (by omega)
      have c1 : ¬ ((a + i : Nat) : Int) < (l.length : Int) := by omega
      have c6 : (i : Int) < 8 := by omega
      have c7 : (a : Int) ≥ 0 := by omega
      refine ⟨?_, ?_⟩
      · simp only [spec_GetNum.l0, spec_GetNum.j1, if_neg c1, Bool.false_eq_true, if_false]
      · simp only [impl_GetNum.l0, impl_GetNum.j1, if_pos c6, if_pos c7, w2.out, hf, Bool.false_eq_true, if_false]
    obtain ⟨h0, h1⟩ := hb l[a + i] (List.getElem_mem hlt)
    obtain ⟨b, hbe⟩ : ∃ b : Nat, l[a + i] = (b : Int) := ⟨l[a + i].toNat, by omega⟩
    have hrd : Aside0 (rd l ((a + i : Nat) : Int) = (b : Int)) := ⟨by rw [rd_eq l (a + i) hlt, hbe]⟩
    rw [hbe] at h0 h1
    obtain ⟨q, hq⟩ : ∃ q, q = b % 128 := ⟨_, rfl⟩
    have t1 : Aside0 (Int.tmod (b : Int) 128 = (q : Int)) := ⟨by rw [hq]; rfl⟩
    have hq7 : q ≤ 127 := by omega
    have hqb : b < 128 → q = b := by omega
    clear hq hbe
    obtain ⟨z, hz⟩ : ∃ z, Aside0 (z = q * P) := ⟨_, ⟨rfl⟩⟩
    have hqm : z ≤ 127 * P := by rw [hz.out]; exact Nat.mul_le_mul_right _ hq7
    have s1 : shl .i64 (q : Int) ((7 * i : Nat) : Int) = (z : Int) := by rw [hz.out]; exact shl7 hP hi8 (Nat.mul_le_mul_right _ hq7)
    have w5 : Aside0 (wrap64 ((q : Int) * (P : Int)) = (z : Int)) := ⟨by rw [← Int.natCast_mul, ← hz.out]; exact wrap_id (by omega) (by omega)⟩
    have S1 := Aside0.mk s1
    have W5 := Aside0.mk w5.out
    clear s1
    have w0 : Aside0 (wrap64 (b : Int) = (b : Int)) := ⟨wrap_id (by omega) (by omega)⟩
    have w1 : Aside0 (wrap64 (((a + i : Nat) : Int) - (a : Int)) = (i : Int)) := ⟨by rw [wrap_id (by omega) (by omega)]; omega⟩
    have w2 : Aside0 (wrap64 ((l.length : Int) - (i : Int)) = (l.length : Int) - (i : Int)) := ⟨wrap_id (by omega) (by omega)⟩
    have w3 : Aside0 (wrap64 ((a : Int) + (i : Int)) = ((a + i : Nat) : Int)) := ⟨by rw [wrap_id (by omega) (by omega)]; omega⟩
    have w4 : Aside0 (wrap64 (7 * (i : Int)) = ((7 * i : Nat) : Int)) := ⟨by rw [wrap_id (by omega) (by omega)]; omega⟩
    have w6 : Aside0 (wrap64 ((n : Int) + (z : Int)) = ((n + z : Nat) : Int)) := ⟨by rw [wrap_id (by omega) (by omega)]; omega⟩
    have w7 : Aside0 (wrap64 ((P : Int) * 128) = ((P * 128 : Nat) : Int)) := ⟨by rw [wrap_id (by omega) (by omega)]; omega⟩
    have w8 : Aside0 (wrap64 (((a + i : Nat) : Int) + 1) = ((a + (i + 1) : Nat) : Int)) := ⟨by rw [wrap_id (by omega) (by omega)]; omega⟩
    have w9 : Aside0 (wrap64 ((i : Int) + 1) = ((i + 1 : Nat) : Int)) := ⟨by rw [wrap_id (by omega) (by omega)]; omega⟩
    have c1 : ((a + i : Nat) : Int) < (l.length : Int) := by omega
    have c2 : decide ((i : Int) < 8) = true := decide_eq_true (by omega)
    have c3 : decide ((a : Int) < (l.length : Int) - (i : Int)) = true := decide_eq_true (by omega)
    have c4 : (0 : Int) ≤ ((a + i : Nat) : Int) := by omega
    have c5 : (0 : Int) ≤ ((7 * i : Nat) : Int) := by omega
    have c6 : (i : Int) < 8 := by omega
    have c7 : (a : Int) ≥ 0 := by omega
    by_cases hc : 128 ≤ b
    · obtain ⟨r, h⟩ := ih (i + 1) a (n + z) (P * 128) (by omega) hP.succ (by omega) (Or.inr (by omega)) hm
      refine ⟨r, fun k hk => ?_⟩
      obtain ⟨k, rfl⟩ : ∃ m, k = m + 1 + 1 := ⟨k - 2, by omega⟩
      have g := h k (by omega)
      have d1 : ¬ (b : Int) < 128 := by omega
      have d2 : (b : Int) ≥ 128 := by omega
      clear h ih
      refine ⟨?_, ?_⟩
      · simp only [spec_GetNum.l0, spec_GetNum.j1]
        rw [if_pos c1, w1.out, c2, if_pos rfl, if_pos c4, if_pos c1, hrd.out, w0.out, if_neg d1, t1.out, W5.out, w6.out, w7.out, w8.out]
        exact g.1
      · simp only [impl_GetNum.l0, impl_GetNum.j1]
        rw [if_pos c6, if_pos c7, w2.out, c3, if_pos rfl, w3.out, if_pos c4, if_pos c1, w4.out, if_pos c5, hrd.out, w0.out, if_pos d2, t1.out, S1.out, w6.out, w9.out]
        exact g.2
    · have d1 : (b : Int) < 128 := by omega
      have d2 : ¬ (b : Int) ≥ 128 := by omega
      have num : impl_isNum.f ((n + z : Nat) : Int) = some (decide (((n + z : Nat) : Int) ≤ 1125899906842624)) := by
        unfold impl_isNum.f impl_in.f
        rw [if_pos (by omega)]
        rfl
      have lead : ∀ k, impl_GetNum.l0 (k + 1 + 1) l (a : Int) (n : Int) (i : Int) = if (b : Int) = 0 then (if (i : Int) > 0 then (some (0, 0, false)) else (if decide (((n + z : Nat) : Int) ≤ 1125899906842624) = true then (some (((n + z : Nat) : Int), ((a + (i + 1) : Nat) : Int), true)) else (some (0, 0, false)))) else (if decide (((n + z : Nat) : Int) ≤ 1125899906842624) = true then (some (((n + z : Nat) : Int), ((a + (i + 1) : Nat) : Int), true)) else (some (0, 0, false))) := by
        intro k
        simp only [impl_GetNum.l0, impl_GetNum.j1]
        rw [if_pos c6, if_pos c7, w2.out, c3, if_pos rfl, w3.out, if_pos c4, if_pos c1, w4.out, if_pos c5, hrd.out, w0.out, if_neg d2, t1.out, S1.out, w6.out, num, w8.out]
        simp only [Option.bind_some]
      have leads : ∀ k, spec_GetNum.l0 (k + 1 + 1) l (a : Int) (n : Int) (P : Int) ((a + i : Nat) : Int) = if ((n + z : Nat) : Int) > 1125899906842624 then (some (0, 0, false)) else (if (b : Int) = 0 then (if ((a + i : Nat) : Int) > (a : Int) then (some (0, 0, false)) else (some (((n + z : Nat) : Int), ((a + (i + 1) : Nat) : Int), true))) else (some (((n + z : Nat) : Int), ((a + (i + 1) : Nat) : Int), true))) := by
        intro k
        simp only [spec_GetNum.l0, spec_GetNum.j1]
        rw [if_pos c1, w1.out, c2, if_pos rfl, if_pos c4, if_pos c1, hrd.out, w0.out, if_pos d1, t1.out, W5.out, w6.out, w8.out]
      clear ih
      refine ⟨if (b : Int) = 0 ∧ (i : Int) > 0 then (0, 0, false) else if ((n + z : Nat) : Int) ≤ 1125899906842624 then (((n + z : Nat) : Int), ((a + (i + 1) : Nat) : Int), true) else (0, 0, false), fun k hk => ?_⟩
      obtain ⟨k, rfl⟩ : ∃ m, k = m + 1 + 1 := ⟨k - 2, by omega⟩
      rw [lead k, leads k]
      clear lead leads
      have fin : ∀ e4 : Bool, decide (((n + z : Nat) : Int) ≤ 1125899906842624) = e4 → (e4 = true → ¬ ((n + z : Nat) : Int) > 1125899906842624 ∧ ((n + z : Nat) : Int) ≤ 1125899906842624) ∧ (e4 = false → ((n + z : Nat) : Int) > 1125899906842624 ∧ ¬ ((n + z : Nat) : Int) ≤ 1125899906842624) := by
        intro e4 h
        refine ⟨fun g => ?_, fun g => ?_⟩
        · rw [g] at h; have := of_decide_eq_true h; exact ⟨by omega, this⟩
        · rw [g] at h; have := of_decide_eq_false h; exact ⟨by omega, this⟩
      obtain ⟨e4, h4⟩ : ∃ e4, decide (((n + z : Nat) : Int) ≤ 1125899906842624) = e4 := ⟨_, rfl⟩
      obtain ⟨ft, ff⟩ := fin e4 h4
      rw [h4]
      by_cases e1 : (b : Int) = 0
      · by_cases e2 : (i : Int) > 0
        · have e3 : ((a + i : Nat) : Int) > (a : Int) := by omega
          have c12 : (b : Int) = 0 ∧ (i : Int) > 0 := ⟨e1, e2⟩
          simp only [if_pos e1, if_pos e2, if_pos e3, if_pos c12, ite_self, and_self]
        · have e3 : ¬ ((a + i : Nat) : Int) > (a : Int) := by omega
          have c12 : ¬ ((b : Int) = 0 ∧ (i : Int) > 0) := fun h => e2 h.2
          cases e4 with
          | true => simp only [if_pos e1, if_neg e2, if_neg e3, if_neg c12, if_neg (ft rfl).1, if_pos (ft rfl).2, if_true, and_self]
          | false => simp only [if_pos e1, if_neg e2, if_neg e3, if_neg c12, if_pos (ff rfl).1, if_neg (ff rfl).2, Bool.false_eq_true, if_false, and_self]
      · have c12 : ¬ ((b : Int) = 0 ∧ (i : Int) > 0) := fun h => e1 h.1
        cases e4 with
        | true => simp only [if_neg e1, if_neg c12, if_neg (ft rfl).1, if_pos (ft rfl).2, if_true, and_self]
        | false => simp only [if_neg e1, if_neg c12, if_pos (ff rfl).1, if_neg (ff rfl).2, Bool.false_eq_true, if_false, and_self]
theorem getnum_f (l : List Int) (hb : ∀ x ∈ l, 0 ≤ x ∧ x < 256) (hl : l.length ≤ 140737488351232) (a : Int) (ha : a ≤ 9223372036854775807) :
    ∃ r : Int × Int × Bool, ∀ k, 18 ≤ k → spec_GetNum.f k l a = some r ∧ impl_GetNum.f k l a = some r := by
  by_cases h0 : a < 0
  · refine ⟨(0, 0, false), fun k hk => ?_⟩
    obtain ⟨k, rfl⟩ : ∃ m, k = m + 1 + 1 := ⟨k - 2, by omega⟩
    have c : ¬ a ≥ 0 := by omega
    refine ⟨by unfold spec_GetNum.f; rw [if_pos h0], ?_⟩
    unfold impl_GetNum.f
    simp only [impl_GetNum.l0, impl_GetNum.j1]
    rw [if_pos (by decide), if_neg c]
    rfl
  · obtain ⟨b, rfl⟩ : ∃ b : Nat, a = (b : Int) := ⟨a.toNat, by omega⟩
    obtain ⟨r, h⟩ := getnum_both l hb hl 8 0 b 0 1 (by omega) Pw.zero (by omega) (Or.inl rfl) (by omega)
    refine ⟨r, fun k hk => ?_⟩
    have g := h k (by omega)
    refine ⟨?_, g.2⟩
    unfold spec_GetNum.f
    rw [if_neg h0]
    exact g.1

/-- Where a number is read, the next place lies behind and within; else all is zero. -/
theorem gn_shape (l : List Int) (hl : l.length ≤ 140737488351232) : ∀ k, (∀ a n P i r, a ≤ i → spec_GetNum.l0 k l a n P i = some r → r = (0, 0, false) ∨ (r.2.2 = true ∧ a < r.2.1 ∧ r.2.1 ≤ (l.length : Int))) ∧
    (∀ a n P i c r, a ≤ i → spec_GetNum.j1 k l a n P i c = some r → r = (0, 0, false) ∨ (r.2.2 = true ∧ a < r.2.1 ∧ r.2.1 ≤ (l.length : Int))) := by
  intro k
  induction k with
  | zero => exact ⟨fun a n P i r _ h => by simp [spec_GetNum.l0] at h, fun a n P i c r _ h => by simp [spec_GetNum.j1] at h⟩
  | succ k ih =>
    refine ⟨fun a n P i r hai h => ?_, fun a n P i c r hai h => ?_⟩
    · simp only [spec_GetNum.l0] at h
      split at h
      · exact ih.2 _ _ _ _ _ _ hai h
      · exact ih.2 _ _ _ _ _ _ hai h
    · simp only [spec_GetNum.j1] at h
      split at h
      · split at h
        · rename_i h0
          split at h
          · rename_i h1
            have hw : wrap64 (i + 1) = i + 1 := wrap_id (by omega) (by omega)
            split at h
            · split at h
              · exact .inl (Option.some.inj h).symm
              · split at h
                · split at h
                  · exact .inl (Option.some.inj h).symm
                  · obtain rfl := (Option.some.inj h).symm
                    refine .inr ⟨rfl, ?_, ?_⟩ <;> (dsimp only; rw [hw]; omega)
                · obtain rfl := (Option.some.inj h).symm
                  refine .inr ⟨rfl, ?_, ?_⟩ <;> (dsimp only; rw [hw]; omega)
            · rw [hw] at h
              exact ih.1 _ _ _ _ _ (by omega) h
          · exact absurd h (by simp)
        · exact absurd h (by simp)
      · exact .inl (Option.some.inj h).symm
theorem gn_f_shape (l : List Int) (hl : l.length ≤ 140737488351232) (k : Nat) (a : Int) (r : Int × Int × Bool) (h : spec_GetNum.f k l a = some r) : r = (0, 0, false) ∨ (r.2.2 = true ∧ 0 ≤ a ∧ a < r.2.1 ∧ r.2.1 ≤ (l.length : Int)) := by
  unfold spec_GetNum.f at h
  split at h
  · exact .inl (Option.some.inj h).symm
  · rcases (gn_shape l hl k).1 _ _ _ _ _ (Int.le_refl _) h with h | ⟨h1, h2, h3⟩
    · exact .inl h
    · exact .inr ⟨h1, by omega, h2, h3⟩
/-- Both programs' GetNum, with what is known of the answer. -/
theorem getnum_all (l : List Int) (hb : ∀ x ∈ l, 0 ≤ x ∧ x < 256) (hl : l.length ≤ 140737488351232) (a : Int) (ha : a ≤ 9223372036854775807) :
    ∃ n next ok, (∀ k, 18 ≤ k → spec_GetNum.f k l a = some (n, next, ok) ∧ impl_GetNum.f k l a = some (n, next, ok)) ∧ ((ok = false ∧ n = 0 ∧ next = 0) ∨ (ok = true ∧ 0 ≤ a ∧ a < next ∧ next ≤ (l.length : Int))) := by
  obtain ⟨⟨n, next, ok⟩, h⟩ := getnum_f l hb hl a ha
  refine ⟨n, next, ok, h, ?_⟩
  rcases gn_f_shape l hl 18 a _ (h 18 (Nat.le_refl _)).1 with e | e
  · injection e with e1 e2
    injection e2 with e2 e3
    exact .inl ⟨e3, e1, e2⟩
  · exact .inr e

theorem msgOk_eq (a b c d : Int) : ∃ r, ∀ k, 2 ≤ k → spec_MsgOk.f k a b c d = some r ∧ impl_MsgOk.f k a b c d = some r := by
  have e1 : spec_l01In.f = impl_in.f := rfl
  have e2 : spec_l01Num.f = impl_isNum.f := by funext x; unfold spec_l01Num.f impl_isNum.f; rw [e1]
  have e3 : spec_IsAmt.f = impl_IsAmt.f := by funext x; unfold spec_IsAmt.f impl_IsAmt.f; rw [e1]
  have j1 : ∀ k x y p q r s, spec_MsgOk.j1 (k + 1) x y p q r s = impl_MsgOk.j1 (k + 1) x y p q r s := by
    intro k x y p q r s
    simp only [spec_MsgOk.j1, impl_MsgOk.j1, e1, e2, e3]
  have j0 : ∀ k x p q r s, spec_MsgOk.j0 (k + 2) x p q r s = impl_MsgOk.j0 (k + 2) x p q r s := by
    intro k x p q r s
    simp only [spec_MsgOk.j0, impl_MsgOk.j0, j1]
  have t : ∀ n lo hi, ∃ r, impl_in.f n lo hi = some r := by
    intro n lo hi; unfold impl_in.f; split <;> exact ⟨_, rfl⟩
  have tj1 : ∀ x y p q r s, ∃ v, ∀ k, impl_MsgOk.j1 (k + 1) x y p q r s = some v := by
    intro x y p q r s
    simp only [impl_MsgOk.j1, impl_IsAmt.f, impl_isNum.f]
    obtain ⟨u1, h1⟩ := t r 1 1000000000
    obtain ⟨u2, h2⟩ := t r 0 3
    obtain ⟨u3, h3⟩ := t r 0 1125899906842624
    rw [h1, h2, h3]
    simp only [Option.bind_some]
    by_cases c1 : y = true <;> by_cases c2 : x = 4 <;> by_cases c3 : x = 5 <;> simp [c1, c2, c3]
  have tj0 : ∀ x p q r s, ∃ v, ∀ k, impl_MsgOk.j0 (k + 2) x p q r s = some v := by
    intro x p q r s
    simp only [impl_MsgOk.j0]
    obtain ⟨u1, h1⟩ := tj1 p (p == 1) p q r s
    obtain ⟨u2, h2⟩ := tj1 p (p == 2) p q r s
    obtain ⟨u3, h3⟩ := tj1 p (p == 3) p q r s
    simp only [h1, h2, h3]
    by_cases c1 : x = true <;> by_cases c2 : p = 1 <;> by_cases c3 : p = 2 <;> simp [c1, c2, c3]
  obtain ⟨b1, hb⟩ := t b 0 2
  obtain ⟨d1, hd⟩ := t d 0 2
  obtain ⟨v1, g1⟩ := tj0 false a b c d
  obtain ⟨v2, g2⟩ := tj0 true a b c d
  have key : ∀ k, spec_MsgOk.f (k + 2) a b c d = impl_MsgOk.f (k + 2) a b c d := by
    intro k
    unfold spec_MsgOk.f impl_MsgOk.f
    rw [e1, hb, hd]
    simp only [Option.bind_some, j0]
    cases b1 <;> cases d1 <;> simp
    have n1 : ∀ x y : Int, ¬ x = y → (x != y) = true := by intro x y h; simpa using h
    by_cases c1 : a = 2 <;> by_cases c2 : d = 0 <;> simp [c1, c2, n1]
  have tot : ∃ v, ∀ k, impl_MsgOk.f (k + 2) a b c d = some v := by
    unfold impl_MsgOk.f
    rw [hb, hd]
    simp only [Option.bind_some]
    obtain ⟨v3, g3⟩ := tj0 (a != 2) a b c d
    simp only [g1, g2, g3]
    by_cases c2 : d = 0 <;> cases b1 <;> cases d1 <;> simp [c2]
  obtain ⟨v, hv⟩ := tot
  refine ⟨v, fun k hk => ?_⟩
  obtain ⟨m, rfl⟩ : ∃ m, k = m + 2 := ⟨k - 2, by omega⟩
  exact ⟨(key m).trans (hv m), hv m⟩

theorem num_step (l : List Int) (hb : ∀ x ∈ l, 0 ≤ x ∧ x < 256) (hl : l.length ≤ 1048576) (sa ia : Int) (b : Bool) (h : b = false → sa = ia) (hm : ia ≤ 9223372036854775807) :
    ∃ n sa' ia' b', (b' = false → sa' = ia') ∧ ia' ≤ 9223372036854775807 ∧ ∀ k, 18 ≤ k → spec_l01Get.f k l sa b = some (n, sa', b') ∧ impl_scanner_num.f k l ia b = some (n, ia', b') := by
  obtain ⟨n, next, ok, hg, hc⟩ := getnum_all l hb (by omega) ia hm
  cases b with
  | true =>
    refine ⟨0, sa, ia, true, fun h => by simp at h, hm, fun k hk => ⟨?_, ?_⟩⟩
    · unfold spec_l01Get.f
      rw [if_pos rfl]
    · unfold impl_scanner_num.f
      rw [(hg k hk).2, Option.bind_some, if_pos rfl]
  | false =>
    obtain rfl := h rfl
    rcases hc with ⟨rfl, rfl, rfl⟩ | ⟨rfl, _, hx, hy⟩
    · refine ⟨0, 0, sa, true, fun h => by simp at h, hm, fun k hk => ⟨?_, ?_⟩⟩
      · unfold spec_l01Get.f
        rw [if_neg (by decide), (hg k hk).1, Option.bind_some]
        rfl
      · unfold impl_scanner_num.f
        rw [(hg k hk).2, Option.bind_some, if_neg (by decide), if_neg (by decide)]
    · refine ⟨n, next, next, false, fun _ => rfl, by omega, fun k hk => ⟨?_, ?_⟩⟩
      · unfold spec_l01Get.f
        rw [if_neg (by decide), (hg k hk).1, Option.bind_some]
        rfl
      · unfold impl_scanner_num.f
        rw [(hg k hk).2, Option.bind_some, if_neg (by decide), if_pos rfl]
theorem msgget_f (l : List Int) (hb : ∀ x ∈ l, 0 ≤ x ∧ x < 256) (hl : l.length ≤ 1048576) (a : Int) (ha : a ≤ 9223372036854775807) :
    ∃ (r1 r2 r3 r4 r5 : Int) (r6 : Bool), ∀ k, 18 ≤ k → spec_MsgGet.f k l a = some (r1, r2, r3, r4, r5, r6) ∧ impl_MsgGet.f k l a = some (r1, r2, r3, r4, r5, r6) := by
  obtain ⟨n1, sa1, ia1, b1, h1, m1, e1⟩ := num_step l hb hl a a false (fun _ => rfl) ha
  obtain ⟨n2, sa2, ia2, b2, h2, m2, e2⟩ := num_step l hb hl sa1 ia1 b1 h1 m1
  obtain ⟨n3, sa3, ia3, b3, h3, m3, e3⟩ := num_step l hb hl sa2 ia2 b2 h2 m2
  obtain ⟨n4, sa4, ia4, b4, h4, m4, e4⟩ := num_step l hb hl sa3 ia3 b3 h3 m3
  obtain ⟨v, hv⟩ := msgOk_eq n1 n2 n3 n4
  have S : ∀ k, 18 ≤ k → spec_l04Get.f k l a false = some (n1, n2, n3, n4, sa4, b4 || !v) := by
    intro k hk
    unfold spec_l04Get.f
    rw [(e1 k hk).1]; simp only [Option.bind_some]
    rw [(e2 k hk).1]; simp only [Option.bind_some]
    rw [(e3 k hk).1]; simp only [Option.bind_some]
    rw [(e4 k hk).1]; simp only [Option.bind_some]
    rw [(hv k (by omega)).1]
    cases b4 with
    | true => rw [if_pos rfl]; rfl
    | false => rw [if_neg (by decide)]; rfl
  have I : ∀ k, 18 ≤ k → impl_scanner_msg.f k l a false = some (n1, n2, n3, n4, ia4, b4 || !v) := by
    intro k hk
    unfold impl_scanner_msg.f
    rw [(e1 k hk).2]; simp only [Option.bind_some]
    rw [(e2 k hk).2]; simp only [Option.bind_some]
    rw [(e3 k hk).2]; simp only [Option.bind_some]
    rw [(e4 k hk).2]; simp only [Option.bind_some]
    rw [(hv k (by omega)).2]
    cases b4 with
    | true => rw [if_pos rfl]; rfl
    | false => rw [if_neg (by decide)]; rfl
  cases hq : (b4 || !v) with
  | true =>
    refine ⟨0, 0, 0, 0, 0, false, fun k hk => ⟨?_, ?_⟩⟩
    · unfold spec_MsgGet.f
      rw [S k hk, hq, Option.bind_some, if_pos rfl]
    · unfold impl_MsgGet.f
      rw [I k hk, hq, Option.bind_some, if_pos rfl]
  | false =>
    have hb4 : b4 = false := by cases b4 <;> simp_all
    obtain rfl := h4 hb4
    refine ⟨n1, n2, n3, n4, sa4, true, fun k hk => ⟨?_, ?_⟩⟩
    · unfold spec_MsgGet.f
      rw [S k hk, hq, Option.bind_some, if_neg (show ¬ (false = true) by decide)]
    · unfold impl_MsgGet.f
      rw [I k hk, hq, Option.bind_some, if_neg (show ¬ (false = true) by decide)]
theorem FnExactMsgGet (l0 : List Int) (a1 : Int) (w0 : l0.length ≤ maxLen ∧ ∀ l0_e ∈ l0, (Lit.int .u8 l0_e).wf = true) (w1 : (Lit.int .i64 a1).wf = true) : ∃ k, laws_FnExactMsgGet.f k l0 a1 = some true := by
  by_cases hs : (l0.length : Int) > 1048576
  · exact ⟨0, by unfold laws_FnExactMsgGet.f; rw [if_pos hs]⟩
  refine rounds_of (fun m hm => ?_)
  obtain ⟨r1, r2, r3, r4, r5, r6, h⟩ := msgget_f l0 (fun x hx => u8_of_wf (w0.2 x hx)) (by omega) a1 (i64_of_wf w1).2
  have E1 := fun j => (h (m + j) (by omega)).1
  have E2 := fun j => (h (m + j) (by omega)).2
  have T := fun j => toByteS_f l0 (m + j) (by omega) (by omega)
  have Q := fun j => eqByteS_refl l0 (m + j) (by omega) (by omega)
  unfold laws_FnExactMsgGet.f
  rw [if_neg hs]
  simp only [Option.bind_some, T, E1, E2, Q, laws_eqMsg.f, if_true, bne_self_eq_false, laws_FnExactMsgGet.j0, Bool.false_eq_true, if_false]

end Go.Proofs.Ytgkjbechcbbgjaa.Pure
