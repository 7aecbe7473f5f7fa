/- For all bytes and messages MsgPut of the program and of the reference answer alike, in memory that nothing else holds. This text proves it of the plain functions, with no program in sight. Conditions: none but those of the given statement. -/
import Derived.Test.YtgkjbechcbbgjaaPFnExactMsgPutx5
set_option linter.unusedVariables false
set_option linter.unusedSimpArgs false
namespace Go.Proofs.Ytgkjbechcbbgjaa.Pure
open Go Go.RowKit Go.Proofs.Ytgkjbechcbbgjaa.PFnExactMsgPut Go.Proofs.YtgkjbechcbbgjaaW.PrintWords Go.Proofs.YtgkjbechcbbgjaaW.PrintLast Go.Proofs.YtgkjbechcbbgjaaW.PrintMore

theorem wrap_id {x : Int} (h0 : -9223372036854775808 ≤ x) (h1 : x ≤ 9223372036854775807) : wrap64 x = x := by
  unfold wrap64; omega
theorem rd_eq (l : List Int) (i : Nat) (h : i < l.length) : rd l (i : Int) = l[i] := by
  simp [rd, h]
theorem succ_cast (i : Nat) : (i : Int) + 1 = ((i + 1 : Nat) : Int) := by omega
theorem take_set_same (l m : List Int) (i : Nat) (hi : i < l.length) (hm : m.length = l.length) (ht : m.take i = l.take i) : (m.set i l[i]).take (i + 1) = l.take (i + 1) := by
  rw [List.take_succ_eq_append_getElem (by simp; omega), List.take_succ_eq_append_getElem hi]
  simp [List.take_set_of_le, ht]
theorem natlt0 (n : Nat) : ((n : Int) < 0) = False := by simp
theorem wrap_nat (n : Nat) (h : n ≤ 9223372036854775807) : wrap64 (n : Int) = (n : Int) := wrap_id (by omega) (by omega)
theorem wrap_succ (n : Nat) (h : n < 9223372036854775807) : wrap64 ((n : Int) + 1) = ((n + 1 : Nat) : Int) := by rw [wrap_id (by omega) (by omega)]; omega
theorem u8_of_wf {x : Int} (h : (Lit.int .u8 x).wf = true) : 0 ≤ x ∧ x < 256 := by
  simp [Lit.wf, IntKind.min, IntKind.max, IntKind.signed, IntKind.bits] at h
  omega
theorem i64_of_wf {x : Int} (h : (Lit.int .i64 x).wf = true) : -9223372036854775808 ≤ x ∧ x ≤ 9223372036854775807 := by
  simp [Lit.wf, IntKind.min, IntKind.max, IntKind.signed, IntKind.bits] at h
  omega
theorem max_len {α : Type} {l : List α} (h : l.length ≤ maxLen) : l.length ≤ 9223372036854775807 := by
  unfold maxLen at h; omega
theorem rounds_of {f : Nat → Option Bool} (h : ∀ m, 20000000 ≤ m → f (m + 8) = some true) : ∃ k, f k = some true := by
  obtain ⟨m, hm⟩ : ∃ m : Nat, 20000000 ≤ m := ⟨_, Nat.le_refl _⟩
  exact ⟨m + 8, h m hm⟩

theorem toByteS_l0 (l : List Int) (hl : l.length ≤ 140737488351232) (d : Nat) : ∀ (k : Nat) (x3 : List Int) (i : Nat), i + d = l.length → d < k → x3.length = l.length → x3.take i = l.take i → laws_toByteS.l0 k l x3 (i : Int) = some l := by
  induction d with
  | zero =>
    intro k x3 i hi hk h3 ht
    obtain ⟨k, rfl⟩ : ∃ m, k = m + 1 := ⟨k - 1, by omega⟩
    simp only [laws_toByteS.l0]
    rw [if_neg (by omega)]
    rw [List.take_of_length_le (by omega), List.take_of_length_le (by omega)] at ht
    rw [ht]
  | succ d ih =>
    intro k x3 i hi hk h3 ht
    obtain ⟨k, rfl⟩ : ∃ m, k = m + 1 := ⟨k - 1, by omega⟩
    simp only [laws_toByteS.l0]
    rw [if_pos (by omega), if_pos (by omega), if_pos (by omega), wrap_id (by omega) (by omega), succ_cast, Int.toNat_natCast, rd_eq l i (by omega)]
    exact ih k _ (i + 1) (by omega) (by omega) (by simp [h3]) (take_set_same l x3 i (by omega) h3 ht)
theorem toByteS_f (l : List Int) (k : Nat) (hk : l.length < k) (hl : l.length ≤ 140737488351232) : laws_toByteS.f k l = some l := by
  unfold laws_toByteS.f
  rw [if_pos (by omega), if_pos (by omega)]
  exact toByteS_l0 l hl l.length k _ 0 (by omega) hk (by simp) (by simp)
theorem eqByteS_l0 (l : List Int) (hl : l.length ≤ 140737488351232) (d : Nat) : ∀ (k : Nat) (i : Nat), i + d = l.length → d < k → laws_eqByteS.l0 k l l (i : Int) = some true := by
  induction d with
  | zero =>
    intro k i hi hk
    obtain ⟨k, rfl⟩ : ∃ m, k = m + 1 := ⟨k - 1, by omega⟩
    simp only [laws_eqByteS.l0]
    rw [if_neg (by omega)]
  | succ d ih =>
    intro k i hi hk
    obtain ⟨k, rfl⟩ : ∃ m, k = m + 1 := ⟨k - 1, by omega⟩
    simp only [laws_eqByteS.l0]
    rw [if_pos (by omega), if_pos (by omega), if_pos (by omega), if_pos trivial, wrap_id (by omega) (by omega), succ_cast]
    exact ih k (i + 1) (by omega) (by omega)
theorem eqByteS_refl (l : List Int) (k : Nat) (hk : l.length < k) (hl : l.length ≤ 140737488351232) : laws_eqByteS.f k l l = some true := by
  unfold laws_eqByteS.f
  rw [if_pos rfl]
  exact eqByteS_l0 l hl l.length k 0 (by omega) hk

def markL : Nat → Nat → List Int
  | 0, _ => []
  | d + 1, n => ((n % 256 : Nat) : Int) :: markL d (n + 1)
theorem markL_length : ∀ d n, (markL d n).length = d
  | 0, _ => rfl
  | d + 1, n => by simp [markL, markL_length d]
theorem markL_get : ∀ d n i, i < d → (markL d n)[i]? = some (((n + i) % 256 : Nat) : Int)
  | 0, _, _, h => absurd h (Nat.not_lt_zero _)
  | d + 1, n, 0, _ => by simp [markL]
  | d + 1, n, i + 1, h => by
    rw [markL, List.getElem?_cons_succ, markL_get d (n + 1) i (by omega)]
    congr 2
    omega
theorem markByteS_l0 (n0 : Nat) (t : Nat) (d : Nat) : ∀ (k : Nat) (x : List Int) (i : Nat), i + d = t → d < k → x.length = t → t ≤ 140737488351232 → n0 ≤ 140737488351232 → (∀ j, j < i → x[j]? = some (((n0 + j) % 256 : Nat) : Int)) →
    laws_markByteS.l0 k x ((n0 + i : Nat) : Int) (i : Int) = some (((n0 + t : Nat) : Int), markL t n0) := by
  induction d with
  | zero =>
    intro k x i hi hk hx ht hn hj
    obtain ⟨k, rfl⟩ : ∃ m, k = m + 1 := ⟨k - 1, by omega⟩
    simp only [laws_markByteS.l0]
    rw [if_neg (by omega)]
    have e : x = markL t n0 := by
      apply List.ext_getElem?
      intro j
      by_cases h : j < t
      · rw [hj j (by omega), markL_get t n0 j h]
      · rw [List.getElem?_eq_none (by omega), List.getElem?_eq_none (by rw [markL_length]; omega)]
    have e2 : i = t := by omega
    rw [e, e2]
  | succ d ih =>
    intro k x i hi hk hx ht hn hj
    obtain ⟨k, rfl⟩ : ∃ m, k = m + 1 := ⟨k - 1, by omega⟩
    simp only [laws_markByteS.l0]
    rw [if_pos (by omega), if_pos (by omega), wrap_succ (n0 + i) (by omega), wrap_succ i (by omega), Int.toNat_natCast]
    have e : ((n0 + i : Nat) : Int) % 256 = (((n0 + i) % 256 : Nat) : Int) := rfl
    rw [e]
    refine ih k _ (i + 1) (by omega) (by omega) (by simpa using hx) ht hn (fun j hj' => ?_)
    by_cases h : j = i
    · subst h
      rw [List.getElem?_set_self (by omega)]
    · rw [List.getElem?_set_ne (by omega)]
      exact hj j (by omega)
theorem markByteS_f (l : List Int) (n : Nat) (k : Nat) (hk : l.length < k) (hl : l.length ≤ 140737488351232) (hn : n ≤ 140737488351232) :
    laws_markByteS.f k l (n : Int) = some (((n + l.length : Nat) : Int), markL l.length n) :=
  markByteS_l0 n l.length l.length k l 0 (by omega) hk rfl hl hn (fun j hj => absurd hj (Nat.not_lt_zero _))
theorem heldByteS_l0 (n0 : Nat) (t : Nat) (d : Nat) : ∀ (k : Nat) (i : Nat), i + d = t → d < k → t ≤ 140737488351232 → n0 ≤ 140737488351232 →
    laws_heldByteS.l0 k (markL t n0) ((n0 + i : Nat) : Int) (i : Int) = some ((n0 + t : Nat) : Int) := by
  induction d with
  | zero =>
    intro k i hi hk ht hn
    obtain ⟨k, rfl⟩ : ∃ m, k = m + 1 := ⟨k - 1, by omega⟩
    simp only [laws_heldByteS.l0]
    rw [if_neg (by rw [markL_length]; omega)]
    have e2 : i = t := by omega
    rw [e2]
  | succ d ih =>
    intro k i hi hk ht hn
    obtain ⟨k, rfl⟩ : ∃ m, k = m + 1 := ⟨k - 1, by omega⟩
    have hr : rd (markL t n0) (i : Int) = (((n0 + i) % 256 : Nat) : Int) := by
      have := markL_get t n0 i (by omega)
      simp [rd, List.getD, this]
    have e : ((n0 + i : Nat) : Int) % 256 = (((n0 + i) % 256 : Nat) : Int) := rfl
    simp only [laws_heldByteS.l0]
    rw [if_pos (by rw [markL_length]; omega), if_pos (by omega), hr, e, if_pos rfl, wrap_succ (n0 + i) (by omega), wrap_succ i (by omega)]
    exact ih k (i + 1) (by omega) (by omega) ht hn
theorem heldByteS_f (t n : Nat) (k : Nat) (hk : t < k) (hl : t ≤ 140737488351232) (hn : n ≤ 140737488351232) :
    laws_heldByteS.f k (markL t n) (n : Int) = some ((n + t : Nat) : Int) :=
  heldByteS_l0 n t t k 0 (by omega) hk hl hn
theorem markByteS_1 (l : List Int) (k : Nat) (hk : l.length < k) (hl : l.length ≤ 140737488351232) :
    laws_markByteS.f k l 1 = some (((1 + l.length : Nat) : Int), markL l.length 1) :=
  markByteS_f l 1 k hk hl (by omega)
theorem heldByteS_1 (t : Nat) (k : Nat) (hk : t < k) (hl : t ≤ 140737488351232) :
    laws_heldByteS.f k (markL t 1) 1 = some ((1 + t : Nat) : Int) :=
  heldByteS_f t 1 k hk hl (by omega)

theorem copyBytes_f (l : List Int) (hl : l.length < 140737488355328) : impl_copyBytes.f l = some l := by
  unfold impl_copyBytes.f
  rw [if_pos (by simpa using hl)]
  rfl

/-- The bytes of a number, seven bits each; d: how many more may follow. -/
def enc : Nat → Nat → List Int
  | 0, n => [((n % 256 : Nat) : Int)]
  | d + 1, n => if 127 < n then ((n % 128 + 128 : Nat) : Int) :: enc d (n / 128) else [((n % 256 : Nat) : Int)]
theorem enc_big {d n : Nat} (h : 127 < n) : enc (d + 1) n = ((n % 128 + 128 : Nat) : Int) :: enc d (n / 128) := by rw [enc, if_pos h]
theorem enc_small {d n : Nat} (h : ¬ 127 < n) : enc (d + 1) n = [((n % 256 : Nat) : Int)] := by rw [enc, if_neg h]
theorem enc_length (d : Nat) : ∀ n, 1 ≤ (enc d n).length ∧ (enc d n).length ≤ d + 1 := by
  induction d with
  | zero => intro n; simp [enc]
  | succ d ih =>
    intro n
    have := ih (n / 128)
    unfold enc
    split <;> simp <;> omega
/-- n lies below 128 to the power d + 1 (kept from omega). -/
def Fits : Nat → Nat → Prop
  | 0, n => n ≤ 127
  | d + 1, n => Fits d (n / 128)
theorem fits7 (n : Nat) (h : n ≤ 1125899906842624) : Fits 7 n := by
  unfold Fits Fits Fits Fits Fits Fits Fits Fits
  omega

theorem addNum_l0 (d : Nat) : ∀ (k n : Nat) (acc : List Int), Fits d n → n ≤ 1125899906842624 → d < k → acc.length + d + 1 ≤ 140737488355328 → impl_addNum.l0 k acc (n : Int) = some (acc ++ enc d n) := by
  induction d with
  | zero =>
    intro k n acc hf hn hk hl
    obtain ⟨k, rfl⟩ : ∃ m, k = m + 1 := ⟨k - 1, by omega⟩
    have h127 : n ≤ 127 := hf
    have e : (n : Int) % 256 = ((n % 256 : Nat) : Int) := rfl
    simp only [impl_addNum.l0]
    rw [if_neg (by omega), if_pos (by omega), e]
    rfl
  | succ d ih =>
    intro k n acc hf hn hk hl
    obtain ⟨k, rfl⟩ : ∃ m, k = m + 1 := ⟨k - 1, by omega⟩
    simp only [impl_addNum.l0]
    by_cases h : 127 < n
    · have e1 : Int.tmod (n : Int) 128 = ((n % 128 : Nat) : Int) := rfl
      have e2 : Int.tdiv (n : Int) 128 = ((n / 128 : Nat) : Int) := rfl
      have w1 : wrap64 (((n % 128 : Nat) : Int) + 128) = ((n % 128 + 128 : Nat) : Int) := by rw [wrap_id (by omega) (by omega)]; omega
      have w2 : wrap64 ((n / 128 : Nat) : Int) = ((n / 128 : Nat) : Int) := wrap_id (by omega) (by omega)
      have w3 : ((n % 128 + 128 : Nat) : Int) % 256 = ((n % 128 + 128 : Nat) : Int) := by omega
      rw [if_pos (by omega), if_pos (by omega), e1, e2, w1, w2, w3, ih k (n / 128) _ hf (by omega) (by omega) (by simp; omega)]
      rw [enc_big h, List.append_assoc]
      rfl
    · have e : (n : Int) % 256 = ((n % 256 : Nat) : Int) := rfl
      rw [if_neg (by omega), if_pos (by omega), e]
      rw [enc_small h]
theorem addNum_f (k n : Nat) (acc : List Int) (hn : n ≤ 1125899906842624) (hk : 7 < k) (hl : acc.length + 8 ≤ 140737488355328) : impl_addNum.f k acc (n : Int) = some (acc ++ enc 7 n) :=
  addNum_l0 7 k n acc (fits7 n hn) hn hk (by omega)
theorem isNum_f (n : Nat) : impl_isNum.f (n : Int) = some (decide (n ≤ 1125899906842624)) := by
  unfold impl_isNum.f impl_in.f
  rw [if_pos (by omega)]
  simp only [Option.bind_some]
  congr 1
  exact decide_eq_decide.mpr (by omega)
theorem isNum_neg (n : Int) (h : n < 0) : impl_isNum.f n = some false := by
  unfold impl_isNum.f impl_in.f
  rw [if_neg (by omega)]
  rfl

theorem sPutNum_l0 (d : Nat) : ∀ (k n : Nat) (acc : List Int), Fits d n → n ≤ 1125899906842624 → d < k → acc.length + d + 1 ≤ 140737488355328 → spec_PutNum.l0 k (n : Int) acc = some (acc ++ enc d n, true) := by
  induction d with
  | zero =>
    intro k n acc hf hn hk hl
    obtain ⟨k, rfl⟩ : ∃ m, k = m + 1 := ⟨k - 1, by omega⟩
    have h127 : n ≤ 127 := hf
    have e : (n : Int) % 256 = ((n % 256 : Nat) : Int) := rfl
    simp only [spec_PutNum.l0]
    rw [if_neg (by omega), if_pos (by omega), e]
    rfl
  | succ d ih =>
    intro k n acc hf hn hk hl
    obtain ⟨k, rfl⟩ : ∃ m, k = m + 1 := ⟨k - 1, by omega⟩
    simp only [spec_PutNum.l0]
    by_cases h : 127 < n
    · have e1 : Int.tmod (n : Int) 128 = ((n % 128 : Nat) : Int) := rfl
      have e2 : Int.tdiv (n : Int) 128 = ((n / 128 : Nat) : Int) := rfl
      have w1 : wrap64 (128 + ((n % 128 : Nat) : Int)) = ((n % 128 + 128 : Nat) : Int) := by rw [wrap_id (by omega) (by omega)]; omega
      have w2 : wrap64 ((n / 128 : Nat) : Int) = ((n / 128 : Nat) : Int) := wrap_id (by omega) (by omega)
      have w3 : ((n % 128 + 128 : Nat) : Int) % 256 = ((n % 128 + 128 : Nat) : Int) := by omega
      rw [if_pos (by omega), if_pos (by omega), e1, e2, w1, w2, w3, ih k (n / 128) _ hf (by omega) (by omega) (by simp; omega)]
      rw [enc_big h, List.append_assoc]
      rfl
    · have e : (n : Int) % 256 = ((n % 256 : Nat) : Int) := rfl
      rw [if_neg (by omega), if_pos (by omega), e]
      rw [enc_small h]
theorem sNum_f (n : Nat) : spec_l01Num.f (n : Int) = some (decide (n ≤ 1125899906842624)) := by
  unfold spec_l01Num.f spec_l01In.f
  rw [if_pos (by omega)]
  simp only [Option.bind_some]
  congr 1
  exact decide_eq_decide.mpr (by omega)
theorem sNum_neg (n : Int) (h : n < 0) : spec_l01Num.f n = some false := by
  unfold spec_l01Num.f spec_l01In.f
  rw [if_neg (by omega)]
  rfl
theorem sPutNum_f (k n : Nat) (l : List Int) (hn : n ≤ 1125899906842624) (hk : 7 < k) (hl : l.length + 8 ≤ 140737488355328) : spec_PutNum.f k l (n : Int) = some (l ++ enc 7 n, true) := by
  unfold spec_PutNum.f
  rw [sNum_f, Option.bind_some, if_pos (decide_eq_true hn), Option.bind_some, if_pos (by simp; omega), List.nil_append]
  exact sPutNum_l0 7 k n l (fits7 n hn) hn hk (by omega)
theorem sPutNum_no (k : Nat) (n : Int) (l : List Int) (hn : n < 0 ∨ 1125899906842624 < n) : spec_PutNum.f k l n = some ([], false) := by
  unfold spec_PutNum.f
  rcases hn with h | h
  · rw [sNum_neg n h]; rfl
  · obtain ⟨m, rfl⟩ : ∃ m : Nat, n = (m : Int) := ⟨n.toNat, by omega⟩
    rw [sNum_f, decide_eq_false (by omega)]; rfl

theorem sPut_f (k n : Nat) (l : List Int) (hn : n ≤ 1125899906842624) (hk : 7 < k) (hl : l.length + 8 ≤ 140737488355328) : spec_l01Put.f k l (n : Int) = some (l ++ enc 7 n) := by
  unfold spec_l01Put.f
  rw [sPutNum_f k n l hn hk hl]
  rfl

/-- A message is valid. -/
def Mok (a b c d : Int) : Prop := (0 ≤ b ∧ b ≤ 2) ∧ (0 ≤ d ∧ d ≤ 2) ∧ (d = 0 ∨ a = 2) ∧ (((a = 1 ∨ a = 2 ∨ a = 3) ∧ 1 ≤ c ∧ c ≤ 1000000000) ∨ (a = 4 ∧ 0 ≤ c ∧ c ≤ 3) ∨ (a = 5 ∧ 0 ≤ c ∧ c ≤ 1125899906842624))
instance (a b c d : Int) : Decidable (Mok a b c d) := by unfold Mok; infer_instance
theorem iin_f (n lo hi : Int) : impl_in.f n lo hi = some (decide (lo ≤ n ∧ n ≤ hi)) := by
  unfold impl_in.f
  by_cases h : n ≥ lo
  · rw [if_pos h]
    congr 1
    exact decide_eq_decide.mpr ⟨fun h2 => ⟨h, h2⟩, fun h2 => h2.2⟩
  · rw [if_neg h, decide_eq_false (fun h2 => h h2.1)]
theorem sin_f (n lo hi : Int) : spec_l01In.f n lo hi = some (decide (lo ≤ n ∧ n ≤ hi)) := iin_f n lo hi
theorem iMsgOk_j1 (k : Nat) (x : Int) (y : Bool) (p q r s : Int) : impl_MsgOk.j1 (k + 1) x y p q r s = some (decide ((y = true ∧ 1 ≤ r ∧ r ≤ 1000000000) ∨ (y = false ∧ x = 4 ∧ 0 ≤ r ∧ r ≤ 3) ∨ (y = false ∧ x = 5 ∧ 0 ≤ r ∧ r ≤ 1125899906842624))) := by
  simp only [impl_MsgOk.j1, impl_IsAmt.f, impl_isNum.f, iin_f, Option.bind_some]
  cases y with
  | true => simp
  | false =>
    by_cases h4 : x = 4
    · simp [h4]
    · by_cases h5 : x = 5
      · simp [h5]
      · simp [h4, h5]
theorem sMsgOk_j1 (k : Nat) (x : Int) (y : Bool) (p q r s : Int) : spec_MsgOk.j1 (k + 1) x y p q r s = some (decide ((y = true ∧ 1 ≤ r ∧ r ≤ 1000000000) ∨ (y = false ∧ x = 4 ∧ 0 ≤ r ∧ r ≤ 3) ∨ (y = false ∧ x = 5 ∧ 0 ≤ r ∧ r ≤ 1125899906842624))) := by
  simp only [spec_MsgOk.j1, spec_IsAmt.f, spec_l01Num.f, sin_f, Option.bind_some]
  cases y with
  | true => simp
  | false =>
    by_cases h4 : x = 4
    · simp [h4]
    · by_cases h5 : x = 5
      · simp [h5]
      · simp [h4, h5]
theorem iMsgOk_j0 (k : Nat) (p q r s : Int) : impl_MsgOk.j0 (k + 2) false p q r s = some (decide (((p = 1 ∨ p = 2 ∨ p = 3) ∧ 1 ≤ r ∧ r ≤ 1000000000) ∨ (p = 4 ∧ 0 ≤ r ∧ r ≤ 3) ∨ (p = 5 ∧ 0 ≤ r ∧ r ≤ 1125899906842624))) := by
  simp only [impl_MsgOk.j0, iMsgOk_j1]
  by_cases h1 : p = 1
  · subst h1; simp
  · by_cases h2 : p = 2
    · subst h2; simp
    · by_cases h3 : p = 3
      · subst h3; simp
      · simp [h1, h2, h3]
theorem sMsgOk_j0 (k : Nat) (p q r s : Int) : spec_MsgOk.j0 (k + 2) false p q r s = some (decide (((p = 1 ∨ p = 2 ∨ p = 3) ∧ 1 ≤ r ∧ r ≤ 1000000000) ∨ (p = 4 ∧ 0 ≤ r ∧ r ≤ 3) ∨ (p = 5 ∧ 0 ≤ r ∧ r ≤ 1125899906842624))) := by
  simp only [spec_MsgOk.j0, sMsgOk_j1]
  by_cases h1 : p = 1
  · subst h1; simp
  · by_cases h2 : p = 2
    · subst h2; simp
    · by_cases h3 : p = 3
      · subst h3; simp
      · simp [h1, h2, h3]
theorem iMsgOk_t (k : Nat) (p q r s : Int) : impl_MsgOk.j0 (k + 2) true p q r s = some false := by simp only [impl_MsgOk.j0, if_true]
theorem sMsgOk_t (k : Nat) (p q r s : Int) : spec_MsgOk.j0 (k + 2) true p q r s = some false := by simp only [spec_MsgOk.j0, if_true]
theorem iMsgOk_f (k : Nat) (hk : 2 ≤ k) (a b c d : Int) : impl_MsgOk.f k a b c d = some (decide (Mok a b c d)) := by
  obtain ⟨m, rfl⟩ : ∃ m, k = m + 2 := ⟨k - 2, by omega⟩
  unfold impl_MsgOk.f
  simp only [iin_f, Option.bind_some]
  by_cases hb : 0 ≤ b ∧ b ≤ 2
  · rw [if_pos (decide_eq_true hb)]
    by_cases hd : 0 ≤ d ∧ d ≤ 2
    · rw [if_pos (decide_eq_true hd)]
      by_cases h0 : d = 0
      · rw [if_pos h0, iMsgOk_j0]
        congr 1
        exact decide_eq_decide.mpr ⟨fun h => ⟨hb, hd, Or.inl h0, h⟩, fun h => h.2.2.2⟩
      · rw [if_neg h0]
        by_cases h2 : a = 2
        · rw [show (a != 2) = false by simpa using h2, iMsgOk_j0]
          congr 1
          exact decide_eq_decide.mpr ⟨fun h => ⟨hb, hd, Or.inr h2, h⟩, fun h => h.2.2.2⟩
        · rw [show (a != 2) = true by simpa using h2, iMsgOk_t, decide_eq_false (fun h => h.2.2.1.elim h0 h2)]
    · rw [if_neg (by simpa using hd), iMsgOk_t, decide_eq_false (fun h => hd h.2.1)]
  · rw [if_neg (by simpa using hb), iMsgOk_t, decide_eq_false (fun h => hb h.1)]
theorem sMsgOk_f (k : Nat) (hk : 2 ≤ k) (a b c d : Int) : spec_MsgOk.f k a b c d = some (decide (Mok a b c d)) := by
  obtain ⟨m, rfl⟩ : ∃ m, k = m + 2 := ⟨k - 2, by omega⟩
  unfold spec_MsgOk.f
  simp only [sin_f, Option.bind_some]
  by_cases hb : 0 ≤ b ∧ b ≤ 2
  · rw [if_pos (decide_eq_true hb)]
    by_cases hd : 0 ≤ d ∧ d ≤ 2
    · rw [if_pos (decide_eq_true hd)]
      by_cases h2 : a = 2
      · rw [if_pos h2, sMsgOk_j0]
        congr 1
        exact decide_eq_decide.mpr ⟨fun h => ⟨hb, hd, Or.inr h2, h⟩, fun h => h.2.2.2⟩
      · rw [if_neg h2]
        by_cases h0 : d = 0
        · rw [show (d != 0) = false by simpa using h0, sMsgOk_j0]
          congr 1
          exact decide_eq_decide.mpr ⟨fun h => ⟨hb, hd, Or.inl h0, h⟩, fun h => h.2.2.2⟩
        · rw [show (d != 0) = true by simpa using h0, sMsgOk_t, decide_eq_false (fun h => h.2.2.1.elim h0 h2)]
    · rw [if_neg (by simpa using hd), sMsgOk_t, decide_eq_false (fun h => hd h.2.1)]
  · rw [if_neg (by simpa using hb), sMsgOk_t, decide_eq_false (fun h => hb h.1)]

theorem mok_nums {a b c d : Int} (h : Mok a b c d) : ∃ a' b' c' d' : Nat, a = (a' : Int) ∧ b = (b' : Int) ∧ c = (c' : Int) ∧ d = (d' : Int) ∧ a' ≤ 5 ∧ b' ≤ 2 ∧ c' ≤ 1125899906842624 ∧ d' ≤ 2 := by
  unfold Mok at h
  exact ⟨a.toNat, b.toNat, c.toNat, d.toNat, by omega, by omega, by omega, by omega, by omega, by omega, by omega, by omega⟩
theorem FnExactMsgPut (l0 : List Int) (a1_0 : Int) (a1_1 : Int) (a1_2 : Int) (a1_3 : Int) (w0 : l0.length ≤ maxLen ∧ ∀ l0_e ∈ l0, (Lit.int .u8 l0_e).wf = true) (w1_0 : (Lit.int .i64 a1_0).wf = true) (w1_1 : (Lit.int .i64 a1_1).wf = true) (w1_2 : (Lit.int .i64 a1_2).wf = true) (w1_3 : (Lit.int .i64 a1_3).wf = true) : ∃ k, laws_FnExactMsgPut.f k l0 a1_0 a1_1 a1_2 a1_3 = some true := by
  by_cases hs : (l0.length : Int) > 1048576
  · exact ⟨0, by unfold laws_FnExactMsgPut.f; rw [if_pos hs]⟩
  refine rounds_of (fun m hm => ?_)
  obtain ⟨r, ok, hr, E1, E2⟩ : ∃ (r : List Int) (ok : Bool), r.length ≤ 1048608 ∧ (∀ j, spec_MsgPut.f (m + j) l0 a1_0 a1_1 a1_2 a1_3 = some (r, ok)) ∧ (∀ j, impl_MsgPut.f (m + j) l0 a1_0 a1_1 a1_2 a1_3 = some (r, ok)) := by
    by_cases hn : Mok a1_0 a1_1 a1_2 a1_3
    · obtain ⟨a, b, c, d, ea, eb, ec, ed, ha, hb, hc, hd⟩ := mok_nums hn
      have la := (enc_length 7 a).2
      have lb := (enc_length 7 b).2
      have lc := (enc_length 7 c).2
      have ld := (enc_length 7 d).2
      refine ⟨(((l0 ++ enc 7 a) ++ enc 7 b) ++ enc 7 c) ++ enc 7 d, true, by simp only [List.length_append]; omega, fun j => ?_, fun j => ?_⟩
      · unfold spec_MsgPut.f
        rw [sMsgOk_f _ (by omega), Option.bind_some, if_pos (decide_eq_true hn), ea, eb, ec, ed, sPut_f _ a _ (by omega) (by omega) (by omega), Option.bind_some, sPut_f _ b _ (by omega) (by omega) (by simp only [List.length_append]; omega), Option.bind_some,
          sPut_f _ c _ (by omega) (by omega) (by simp only [List.length_append]; omega), Option.bind_some, sPut_f _ d _ (by omega) (by omega) (by simp only [List.length_append]; omega), Option.bind_some]
      · unfold impl_MsgPut.f impl_addMsg.f
        rw [iMsgOk_f _ (by omega), Option.bind_some, if_pos (decide_eq_true hn), copyBytes_f _ (by omega), Option.bind_some, ea, eb, ec, ed, addNum_f _ a _ (by omega) (by omega) (by omega), Option.bind_some, addNum_f _ b _ (by omega) (by omega) (by simp only [List.length_append]; omega), Option.bind_some,
          addNum_f _ c _ (by omega) (by omega) (by simp only [List.length_append]; omega), Option.bind_some, addNum_f _ d _ (by omega) (by omega) (by simp only [List.length_append]; omega), Option.bind_some, Option.bind_some]
    · refine ⟨[], false, Nat.zero_le _, fun j => ?_, fun j => ?_⟩
      · unfold spec_MsgPut.f
        rw [sMsgOk_f _ (by omega), Option.bind_some, if_neg (by simpa using hn)]
      · unfold impl_MsgPut.f
        rw [iMsgOk_f _ (by omega), Option.bind_some, if_neg (by simpa using hn)]
  have T := fun j => toByteS_f l0 (m + j) (by omega) (by omega)
  have Q := fun j => eqByteS_refl l0 (m + j) (by omega) (by omega)
  have Q' := fun j => eqByteS_refl r (m + j) (by omega) (by omega)
  have M := fun j => markByteS_1 l0 (m + j) (by omega) (by omega)
  have M' := fun j => markByteS_1 r (m + j) (by omega) (by omega)
  have H' := fun j => heldByteS_1 r.length (m + j) (by omega) (by omega)
  unfold laws_FnExactMsgPut.f
  rw [if_neg hs]
  simp only [laws_toMsg.f, Option.bind_some, T, E1, E2, Q, Q', M, M', H', if_true, bne_self_eq_false, laws_FnExactMsgPut.j0, laws_FnExactMsgPut.j1, laws_FnExactMsgPut.j2, Bool.false_eq_true, if_false, natlt0]

end Go.Proofs.Ytgkjbechcbbgjaa.Pure
