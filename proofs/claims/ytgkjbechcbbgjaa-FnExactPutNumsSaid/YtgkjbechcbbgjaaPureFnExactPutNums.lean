/- For all bytes and lists of numbers PutNums of the program and of the reference answer alike, in memory that nothing else holds. This text proves it of the plain functions, with no program in sight. Conditions: none but those of the given statement. -/
import Derived.Test.YtgkjbechcbbgjaaPFnExactPutNumsx3
set_option linter.unusedVariables false
set_option linter.unusedSimpArgs false
namespace Go.Proofs.Ytgkjbechcbbgjaa.Pure
open Go Go.RowKit Go.Proofs.Ytgkjbechcbbgjaa.PFnExactPutNums Go.Proofs.YtgkjbechcbbgjaaW.PrintWords Go.Proofs.YtgkjbechcbbgjaaW.PrintLast Go.Proofs.YtgkjbechcbbgjaaW.PrintMore

theorem wrap_id {x : Int} (h0 : -9223372036854775808 ≤ x) (h1 : x ≤ 9223372036854775807) : wrap64 x = x := by
  unfold wrap64; omega
theorem rd_eq (l : List Int) (i : Nat) (h : i < l.length) : rd l (i : Int) = l[i] := by
  simp [rd, h]
theorem succ_cast (i : Nat) : (i : Int) + 1 = ((i + 1 : Nat) : Int) := by omega
theorem take_set_same (l m : List Int) (i : Nat) (hi : i < l.length) (hm : m.length = l.length) (ht : m.take i = l.take i) : (m.set i l[i]).take (i + 1) = l.take (i + 1) := by
  rw [List.take_succ_eq_append_getElem (by simp; omega), List.take_succ_eq_append_getElem hi]
  simp [List.take_set_of_le, ht]
theorem natlt0 (n : Nat) : ((n : Int) < 0) = False := by simp
theorem wrap_nat (n : Nat) (h : n ≤ 9223372036854775807) : wrap64 (n : Int) = (n : Int) := wrap_id (by omega) (by omega)
theorem wrap_succ (n : Nat) (h : n < 9223372036854775807) : wrap64 ((n : Int) + 1) = ((n + 1 : Nat) : Int) := by rw [wrap_id (by omega) (by omega)]; omega
theorem u8_of_wf {x : Int} (h : (Lit.int .u8 x).wf = true) : 0 ≤ x ∧ x < 256 := by
  simp [Lit.wf, IntKind.min, IntKind.max, IntKind.signed, IntKind.bits] at h
  omega
theorem i64_of_wf {x : Int} (h : (Lit.int .i64 x).wf = true) : -9223372036854775808 ≤ x ∧ x ≤ 9223372036854775807 := by
  simp [Lit.wf, IntKind.min, IntKind.max, IntKind.signed, IntKind.bits] at h
  omega
theorem max_len {α : Type} {l : List α} (h : l.length ≤ maxLen) : l.length ≤ 9223372036854775807 := by
  unfold maxLen at h; omega
theorem rounds_of {f : Nat → Option Bool} (h : ∀ m, 20000000 ≤ m → f (m + 8) = some true) : ∃ k, f k = some true := by
  obtain ⟨m, hm⟩ : ∃ m : Nat, 20000000 ≤ m := ⟨_, Nat.le_refl _⟩
  exact ⟨m + 8, h m hm⟩

theorem toByteS_l0 (l : List Int) (hl : l.length ≤ 140737488351232) (d : Nat) : ∀ (k : Nat) (x3 : List Int) (i : Nat), i + d = l.length → d < k → x3.length = l.length → x3.take i = l.take i → laws_toByteS.l0 k l x3 (i : Int) = some l := by
  induction d with
  | zero =>
    intro k x3 i hi hk h3 ht
    obtain ⟨k, rfl⟩ : ∃ m, k = m + 1 := ⟨k - 1, by omega⟩
    simp only [laws_toByteS.l0]
    rw [if_neg (by omega)]
    rw [List.take_of_length_le (by omega), List.take_of_length_le (by omega)] at ht
    rw [ht]
  | succ d ih =>
    intro k x3 i hi hk h3 ht
    obtain ⟨k, rfl⟩ : ∃ m, k = m + 1 := ⟨k - 1, by omega⟩
    simp only [laws_toByteS.l0]
    rw [if_pos (by omega), if_pos (by omega), if_pos (by omega), wrap_id (by omega) (by omega), succ_cast, Int.toNat_natCast, rd_eq l i (by omega)]
    exact ih k _ (i + 1) (by omega) (by omega) (by simp [h3]) (take_set_same l x3 i (by omega) h3 ht)
theorem toByteS_f (l : List Int) (k : Nat) (hk : l.length < k) (hl : l.length ≤ 140737488351232) : laws_toByteS.f k l = some l := by
  unfold laws_toByteS.f
  rw [if_pos (by omega), if_pos (by omega)]
  exact toByteS_l0 l hl l.length k _ 0 (by omega) hk (by simp) (by simp)
theorem eqByteS_l0 (l : List Int) (hl : l.length ≤ 140737488351232) (d : Nat) : ∀ (k : Nat) (i : Nat), i + d = l.length → d < k → laws_eqByteS.l0 k l l (i : Int) = some true := by
  induction d with
  | zero =>
    intro k i hi hk
    obtain ⟨k, rfl⟩ : ∃ m, k = m + 1 := ⟨k - 1, by omega⟩
    simp only [laws_eqByteS.l0]
    rw [if_neg (by omega)]
  | succ d ih =>
    intro k i hi hk
    obtain ⟨k, rfl⟩ : ∃ m, k = m + 1 := ⟨k - 1, by omega⟩
    simp only [laws_eqByteS.l0]
    rw [if_pos (by omega), if_pos (by omega), if_pos (by omega), if_pos trivial, wrap_id (by omega) (by omega), succ_cast]
    exact ih k (i + 1) (by omega) (by omega)
theorem eqByteS_refl (l : List Int) (k : Nat) (hk : l.length < k) (hl : l.length ≤ 140737488351232) : laws_eqByteS.f k l l = some true := by
  unfold laws_eqByteS.f
  rw [if_pos rfl]
  exact eqByteS_l0 l hl l.length k 0 (by omega) hk

def markL : Nat → Nat → List Int
  | 0, _ => []
  | d + 1, n => ((n % 256 : Nat) : Int) :: markL d (n + 1)
theorem markL_length : ∀ d n, (markL d n).length = d
  | 0, _ => rfl
  | d + 1, n => by simp [markL, markL_length d]
theorem markL_get : ∀ d n i, i < d → (markL d n)[i]? = some (((n + i) % 256 : Nat) : Int)
  | 0, _, _, h => absurd h (Nat.not_lt_zero _)
  | d + 1, n, 0, _ => by simp [markL]
  | d + 1, n, i + 1, h => by
    rw [markL, List.getElem?_cons_succ, markL_get d (n + 1) i (by omega)]
    congr 2
    omega
theorem markByteS_l0 (n0 : Nat) (t : Nat) (d : Nat) : ∀ (k : Nat) (x : List Int) (i : Nat), i + d = t → d < k → x.length = t → t ≤ 140737488351232 → n0 ≤ 140737488351232 → (∀ j, j < i → x[j]? = some (((n0 + j) % 256 : Nat) : Int)) →
    laws_markByteS.l0 k x ((n0 + i : Nat) : Int) (i : Int) = some (((n0 + t : Nat) : Int), markL t n0) := by
  induction d with
  | zero =>
    intro k x i hi hk hx ht hn hj
    obtain ⟨k, rfl⟩ : ∃ m, k = m + 1 := ⟨k - 1, by omega⟩
    simp only [laws_markByteS.l0]
    rw [if_neg (by omega)]
    have e : x = markL t n0 := by
      apply List.ext_getElem?
      intro j
      by_cases h : j < t
      · rw [hj j (by omega), markL_get t n0 j h]
      · rw [List.getElem?_eq_none (by omega), List.getElem?_eq_none (by rw [markL_length]; omega)]
    have e2 : i = t := by omega
    rw [e, e2]
  | succ d ih =>
    intro k x i hi hk hx ht hn hj
    obtain ⟨k, rfl⟩ : ∃ m, k = m + 1 := ⟨k - 1, by omega⟩
    simp only [laws_markByteS.l0]
    rw [if_pos (by omega), if_pos (by omega), wrap_succ (n0 + i) (by omega), wrap_succ i (by omega), Int.toNat_natCast]
    have e : ((n0 + i : Nat) : Int) % 256 = (((n0 + i) % 256 : Nat) : Int) := rfl
    rw [e]
    refine ih k _ (i + 1) (by omega) (by omega) (by simpa using hx) ht hn (fun j hj' => ?_)
    by_cases h : j = i
    · subst h
      rw [List.getElem?_set_self (by omega)]
    · rw [List.getElem?_set_ne (by omega)]
      exact hj j (by omega)
theorem markByteS_f (l : List Int) (n : Nat) (k : Nat) (hk : l.length < k) (hl : l.length ≤ 140737488351232) (hn : n ≤ 140737488351232) :
    laws_markByteS.f k l (n : Int) = some (((n + l.length : Nat) : Int), markL l.length n) :=
  markByteS_l0 n l.length l.length k l 0 (by omega) hk rfl hl hn (fun j hj => absurd hj (Nat.not_lt_zero _))
theorem heldByteS_l0 (n0 : Nat) (t : Nat) (d : Nat) : ∀ (k : Nat) (i : Nat), i + d = t → d < k → t ≤ 140737488351232 → n0 ≤ 140737488351232 →
    laws_heldByteS.l0 k (markL t n0) ((n0 + i : Nat) : Int) (i : Int) = some ((n0 + t : Nat) : Int) := by
  induction d with
  | zero =>
    intro k i hi hk ht hn
    obtain ⟨k, rfl⟩ : ∃ m, k = m + 1 := ⟨k - 1, by omega⟩
    simp only [laws_heldByteS.l0]
    rw [if_neg (by rw [markL_length]; omega)]
    have e2 : i = t := by omega
    rw [e2]
  | succ d ih =>
    intro k i hi hk ht hn
    obtain ⟨k, rfl⟩ : ∃ m, k = m + 1 := ⟨k - 1, by omega⟩
    have hr : rd (markL t n0) (i : Int) = (((n0 + i) % 256 : Nat) : Int) := by
      have := markL_get t n0 i (by omega)
      simp [rd, List.getD, this]
    have e : ((n0 + i : Nat) : Int) % 256 = (((n0 + i) % 256 : Nat) : Int) := rfl
    simp only [laws_heldByteS.l0]
    rw [if_pos (by rw [markL_length]; omega), if_pos (by omega), hr, e, if_pos rfl, wrap_succ (n0 + i) (by omega), wrap_succ i (by omega)]
    exact ih k (i + 1) (by omega) (by omega) ht hn
theorem heldByteS_f (t n : Nat) (k : Nat) (hk : t < k) (hl : t ≤ 140737488351232) (hn : n ≤ 140737488351232) :
    laws_heldByteS.f k (markL t n) (n : Int) = some ((n + t : Nat) : Int) :=
  heldByteS_l0 n t t k 0 (by omega) hk hl hn
theorem markByteS_1 (l : List Int) (k : Nat) (hk : l.length < k) (hl : l.length ≤ 140737488351232) :
    laws_markByteS.f k l 1 = some (((1 + l.length : Nat) : Int), markL l.length 1) :=
  markByteS_f l 1 k hk hl (by omega)
theorem heldByteS_1 (t : Nat) (k : Nat) (hk : t < k) (hl : t ≤ 140737488351232) :
    laws_heldByteS.f k (markL t 1) 1 = some ((1 + t : Nat) : Int) :=
  heldByteS_f t 1 k hk hl (by omega)

theorem toIntS_l0 (l : List Int) (hl : l.length ≤ 140737488351232) (d : Nat) : ∀ (k : Nat) (x3 : List Int) (i : Nat), i + d = l.length → d < k → x3.length = l.length → x3.take i = l.take i → laws_toIntS.l0 k l x3 (i : Int) = some l := by
  induction d with
  | zero =>
    intro k x3 i hi hk h3 ht
    obtain ⟨k, rfl⟩ : ∃ m, k = m + 1 := ⟨k - 1, by omega⟩
    simp only [laws_toIntS.l0]
    rw [if_neg (by omega)]
    rw [List.take_of_length_le (by omega), List.take_of_length_le (by omega)] at ht
    rw [ht]
  | succ d ih =>
    intro k x3 i hi hk h3 ht
    obtain ⟨k, rfl⟩ : ∃ m, k = m + 1 := ⟨k - 1, by omega⟩
    simp only [laws_toIntS.l0]
    rw [if_pos (by omega), if_pos (by omega), if_pos (by omega), wrap_id (by omega) (by omega), succ_cast, Int.toNat_natCast, rd_eq l i (by omega)]
    exact ih k _ (i + 1) (by omega) (by omega) (by simp [h3]) (take_set_same l x3 i (by omega) h3 ht)
theorem toIntS_f (l : List Int) (k : Nat) (hk : l.length < k) (hl : l.length ≤ 17592186044416) : laws_toIntS.f k l = some l := by
  unfold laws_toIntS.f
  rw [if_pos (by omega), if_pos (by omega)]
  exact toIntS_l0 l (by omega) l.length k _ 0 (by omega) hk (by simp) (by simp)

theorem eqIntS_l0 (l : List Int) (hl : l.length ≤ 140737488351232) (d : Nat) : ∀ (k : Nat) (i : Nat), i + d = l.length → d < k → laws_eqIntS.l0 k l l (i : Int) = some true := by
  induction d with
  | zero =>
    intro k i hi hk
    obtain ⟨k, rfl⟩ : ∃ m, k = m + 1 := ⟨k - 1, by omega⟩
    simp only [laws_eqIntS.l0]
    rw [if_neg (by omega)]
  | succ d ih =>
    intro k i hi hk
    obtain ⟨k, rfl⟩ : ∃ m, k = m + 1 := ⟨k - 1, by omega⟩
    simp only [laws_eqIntS.l0]
    rw [if_pos (by omega), if_pos (by omega), if_pos (by omega), if_pos trivial, wrap_id (by omega) (by omega), succ_cast]
    exact ih k (i + 1) (by omega) (by omega)
theorem eqIntS_refl (l : List Int) (k : Nat) (hk : l.length < k) (hl : l.length ≤ 140737488351232) : laws_eqIntS.f k l l = some true := by
  unfold laws_eqIntS.f
  rw [if_pos rfl]
  exact eqIntS_l0 l hl l.length k 0 (by omega) hk

def markI : Nat → Nat → List Int
  | 0, _ => []
  | d + 1, n => (n : Int) :: markI d (n + 1)
theorem markI_length : ∀ d n, (markI d n).length = d
  | 0, _ => rfl
  | d + 1, n => by simp [markI, markI_length d]
theorem markI_get : ∀ d n i, i < d → (markI d n)[i]? = some ((n + i : Nat) : Int)
  | 0, _, _, h => absurd h (Nat.not_lt_zero _)
  | d + 1, n, 0, _ => by simp [markI]
  | d + 1, n, i + 1, h => by
    rw [markI, List.getElem?_cons_succ, markI_get d (n + 1) i (by omega)]
    congr 2
    omega
theorem markIntS_l0 (n0 : Nat) (t : Nat) (d : Nat) : ∀ (k : Nat) (x : List Int) (i : Nat), i + d = t → d < k → x.length = t → t ≤ 140737488351232 → n0 ≤ 140737488351232 → (∀ j, j < i → x[j]? = some ((n0 + j : Nat) : Int)) →
    laws_markIntS.l0 k x ((n0 + i : Nat) : Int) (i : Int) = some (((n0 + t : Nat) : Int), markI t n0) := by
  induction d with
  | zero =>
    intro k x i hi hk hx ht hn hj
    obtain ⟨k, rfl⟩ : ∃ m, k = m + 1 := ⟨k - 1, by omega⟩
    simp only [laws_markIntS.l0]
    rw [if_neg (by omega)]
    have e : x = markI t n0 := by
      apply List.ext_getElem?
      intro j
      by_cases h : j < t
      · rw [hj j (by omega), markI_get t n0 j h]
      · rw [List.getElem?_eq_none (by omega), List.getElem?_eq_none (by rw [markI_length]; omega)]
    have e2 : i = t := by omega
    rw [e, e2]
  | succ d ih =>
    intro k x i hi hk hx ht hn hj
    obtain ⟨k, rfl⟩ : ∃ m, k = m + 1 := ⟨k - 1, by omega⟩
    simp only [laws_markIntS.l0]
    rw [if_pos (by omega), if_pos (by omega), wrap_succ (n0 + i) (by omega), wrap_succ i (by omega), Int.toNat_natCast]
    refine ih k _ (i + 1) (by omega) (by omega) (by simpa using hx) ht hn (fun j hj' => ?_)
    by_cases h : j = i
    · subst h
      rw [List.getElem?_set_self (by omega)]
    · rw [List.getElem?_set_ne (by omega)]
      exact hj j (by omega)
theorem markIntS_f (l : List Int) (n : Nat) (k : Nat) (hk : l.length < k) (hl : l.length ≤ 140737488351232) (hn : n ≤ 140737488351232) :
    laws_markIntS.f k l (n : Int) = some (((n + l.length : Nat) : Int), markI l.length n) :=
  markIntS_l0 n l.length l.length k l 0 (by omega) hk rfl hl hn (fun j hj => absurd hj (Nat.not_lt_zero _))
theorem markIntS_1 (l : List Int) (k : Nat) (hk : l.length < k) (hl : l.length ≤ 140737488351232) :
    laws_markIntS.f k l 1 = some (((1 + l.length : Nat) : Int), markI l.length 1) :=
  markIntS_f l 1 k hk hl (by omega)

/-- The bytes of a number, seven bits each; d: how many more may follow. -/
def enc : Nat → Nat → List Int
  | 0, n => [((n % 256 : Nat) : Int)]
  | d + 1, n => if 127 < n then ((n % 128 + 128 : Nat) : Int) :: enc d (n / 128) else [((n % 256 : Nat) : Int)]
theorem enc_big {d n : Nat} (h : 127 < n) : enc (d + 1) n = ((n % 128 + 128 : Nat) : Int) :: enc d (n / 128) := by rw [enc, if_pos h]
theorem enc_small {d n : Nat} (h : ¬ 127 < n) : enc (d + 1) n = [((n % 256 : Nat) : Int)] := by rw [enc, if_neg h]
theorem enc_length (d : Nat) : ∀ n, 1 ≤ (enc d n).length ∧ (enc d n).length ≤ d + 1 := by
  induction d with
  | zero => intro n; simp [enc]
  | succ d ih =>
    intro n
    have := ih (n / 128)
    unfold enc
    split <;> simp <;> omega
/-- n lies below 128 to the power d + 1 (kept from omega). -/
def Fits : Nat → Nat → Prop
  | 0, n => n ≤ 127
  | d + 1, n => Fits d (n / 128)
theorem fits7 (n : Nat) (h : n ≤ 1125899906842624) : Fits 7 n := by
  unfold Fits Fits Fits Fits Fits Fits Fits Fits
  omega

def IsN (x : Int) : Prop := 0 ≤ x ∧ x ≤ 1125899906842624
instance (x : Int) : Decidable (IsN x) := by unfold IsN; infer_instance
def encs (l : List Int) : List Int := l.flatMap fun x => enc 7 x.toNat
theorem encs_length (l : List Int) : (encs l).length ≤ 8 * l.length := by
  induction l with
  | nil => exact Nat.le_refl _
  | cons x l ih =>
    have := (enc_length 7 x.toNat).2
    unfold encs at ih ⊢
    rw [List.flatMap_cons, List.length_append, List.length_cons]
    omega
theorem encs_cons (x : Int) (l : List Int) : encs (x :: l) = enc 7 x.toNat ++ encs l := rfl
theorem isN_cast {x : Int} (h : IsN x) : x = ((x.toNat : Nat) : Int) ∧ x.toNat ≤ 1125899906842624 := by
  unfold IsN at h; omega
theorem drop_one (l : List Int) (i : Nat) (h : i < l.length) : l.drop i = l[i] :: l.drop (i + 1) := List.drop_eq_getElem_cons h

theorem addNum_l0 (d : Nat) : ∀ (k n : Nat) (acc : List Int), Fits d n → n ≤ 1125899906842624 → d < k → acc.length + d + 1 ≤ 140737488355328 → impl_addNum.l0 k acc (n : Int) = some (acc ++ enc d n) := by
  induction d with
  | zero =>
    intro k n acc hf hn hk hl
    obtain ⟨k, rfl⟩ : ∃ m, k = m + 1 := ⟨k - 1, by omega⟩
    have h127 : n ≤ 127 := hf
    have e : (n : Int) % 256 = ((n % 256 : Nat) : Int) := rfl
    simp only [impl_addNum.l0]
    rw [if_neg (by omega), if_pos (by omega), e]
    rfl
  | succ d ih =>
    intro k n acc hf hn hk hl
    obtain ⟨k, rfl⟩ : ∃ m, k = m + 1 := ⟨k - 1, by omega⟩
    simp only [impl_addNum.l0]
    by_cases h : 127 < n
    · have e1 : Int.tmod (n : Int) 128 = ((n % 128 : Nat) : Int) := rfl
      have e2 : Int.tdiv (n : Int) 128 = ((n / 128 : Nat) : Int) := rfl
      have w1 : wrap64 (((n % 128 : Nat) : Int) + 128) = ((n % 128 + 128 : Nat) : Int) := by rw [wrap_id (by omega) (by omega)]; omega
      have w2 : wrap64 ((n / 128 : Nat) : Int) = ((n / 128 : Nat) : Int) := wrap_id (by omega) (by omega)
      have w3 : ((n % 128 + 128 : Nat) : Int) % 256 = ((n % 128 + 128 : Nat) : Int) := by omega
      rw [if_pos (by omega), if_pos (by omega), e1, e2, w1, w2, w3, ih k (n / 128) _ hf (by omega) (by omega) (by simp; omega)]
      rw [enc_big h, List.append_assoc]
      rfl
    · have e : (n : Int) % 256 = ((n % 256 : Nat) : Int) := rfl
      rw [if_neg (by omega), if_pos (by omega), e]
      rw [enc_small h]
theorem addNum_f (k n : Nat) (acc : List Int) (hn : n ≤ 1125899906842624) (hk : 7 < k) (hl : acc.length + 8 ≤ 140737488355328) : impl_addNum.f k acc (n : Int) = some (acc ++ enc 7 n) :=
  addNum_l0 7 k n acc (fits7 n hn) hn hk (by omega)
theorem isNum_f (n : Nat) : impl_isNum.f (n : Int) = some (decide (n ≤ 1125899906842624)) := by
  unfold impl_isNum.f impl_in.f
  rw [if_pos (by omega)]
  simp only [Option.bind_some]
  congr 1
  exact decide_eq_decide.mpr (by omega)
theorem isNum_neg (n : Int) (h : n < 0) : impl_isNum.f n = some false := by
  unfold impl_isNum.f impl_in.f
  rw [if_neg (by omega)]
  rfl

theorem copyBytes_f (l : List Int) (hl : l.length < 140737488355328) : impl_copyBytes.f l = some l := by
  unfold impl_copyBytes.f
  rw [if_pos (by simpa using hl)]
  rfl

theorem iIsN_f (x : Int) : impl_isNum.f x = some (decide (IsN x)) := by
  by_cases h : x < 0
  · rw [isNum_neg x h, decide_eq_false (fun h2 => by unfold IsN at h2; omega)]
  · obtain ⟨n, rfl⟩ : ∃ n : Nat, x = (n : Int) := ⟨x.toNat, by omega⟩
    rw [isNum_f]
    congr 1
    exact decide_eq_decide.mpr (by unfold IsN; omega)
theorem addNums_l0 (l : List Int) (hl : l.length ≤ 1073741824) (d : Nat) : ∀ (k i : Nat) (acc : List Int), i + d = l.length → d + 8 < k → (∀ x ∈ l.drop i, IsN x) → acc.length + 8 * d ≤ 17592186044416 →
    impl_addNums.l0 k acc l (l.length : Int) (i : Int) = some (acc ++ encs (l.drop i)) := by
  induction d with
  | zero =>
    intro k i acc hi hk hx ha
    obtain ⟨k, rfl⟩ : ∃ m, k = m + 1 := ⟨k - 1, by omega⟩
    simp only [impl_addNums.l0]
    rw [if_neg (by omega), List.drop_of_length_le (by omega)]
    simp [encs]
  | succ d ih =>
    intro k i acc hi hk hx ha
    obtain ⟨k, rfl⟩ : ∃ m, k = m + 1 := ⟨k - 1, by omega⟩
    have hlt : i < l.length := by omega
    have hd := drop_one l i hlt
    obtain ⟨e, he⟩ := isN_cast (hx l[i] (by rw [hd]; exact List.mem_cons_self ..))
    have hel := (enc_length 7 l[i].toNat).2
    simp only [impl_addNums.l0]
    rw [if_pos (by omega), if_pos (by omega), if_pos (by omega), rd_eq l i hlt, wrap_succ i (by omega), e, addNum_f k _ _ he (by omega) (by omega), Option.bind_some,
      ih k (i + 1) _ (by omega) (by omega) (fun x h => hx x (by rw [hd]; exact List.mem_cons_of_mem _ h)) (by rw [List.length_append]; omega), hd, encs_cons, List.append_assoc]
theorem addNums_f (l acc : List Int) (k : Nat) (hl : l.length ≤ 1073741824) (hk : l.length + 8 < k) (hx : ∀ x ∈ l, IsN x) (ha : acc.length ≤ 1073741824) : impl_addNums.f k acc l = some (acc ++ enc 7 l.length ++ encs l) := by
  have hel := (enc_length 7 l.length).2
  unfold impl_addNums.f
  rw [addNum_f k _ _ (by omega) (by omega) (by omega), Option.bind_some]
  exact addNums_l0 l hl l.length k 0 _ (by omega) (by omega) (by simpa using hx) (by rw [List.length_append]; omega)
theorem iPutNums_l0 (b l : List Int) (hl : l.length ≤ 1073741824) (hb : b.length ≤ 1073741824) (hx : ∀ x ∈ l, IsN x) (d : Nat) : ∀ (k i : Nat), i + d = l.length → d + l.length + 9 < k →
    impl_PutNums.l0 k b l l (l.length : Int) (i : Int) = some (b ++ enc 7 l.length ++ encs l, true) := by
  induction d with
  | zero =>
    intro k i hi hk
    obtain ⟨k, rfl⟩ : ∃ m, k = m + 1 := ⟨k - 1, by omega⟩
    simp only [impl_PutNums.l0]
    rw [if_neg (by omega), copyBytes_f b (by omega), Option.bind_some, addNums_f l b k hl (by omega) hx hb, Option.bind_some]
  | succ d ih =>
    intro k i hi hk
    obtain ⟨k, rfl⟩ : ∃ m, k = m + 1 := ⟨k - 1, by omega⟩
    have hlt : i < l.length := by omega
    simp only [impl_PutNums.l0]
    rw [if_pos (by omega), if_pos (by omega), if_pos (by omega), rd_eq l i hlt, iIsN_f, Option.bind_some, if_pos (decide_eq_true (hx _ (List.getElem_mem hlt))), wrap_succ i (by omega)]
    exact ih k (i + 1) (by omega) (by omega)
theorem iPutNums_no (b l : List Int) (hl : l.length ≤ 1073741824) (d : Nat) : ∀ (k i : Nat), i + d = l.length → d < k → (∃ x ∈ l.drop i, ¬ IsN x) →
    impl_PutNums.l0 k b l l (l.length : Int) (i : Int) = some ([], false) := by
  induction d with
  | zero =>
    intro k i hi hk hx
    obtain ⟨x, hx, _⟩ := hx
    rw [List.drop_of_length_le (by omega)] at hx
    cases hx
  | succ d ih =>
    intro k i hi hk hx
    obtain ⟨k, rfl⟩ : ∃ m, k = m + 1 := ⟨k - 1, by omega⟩
    have hlt : i < l.length := by omega
    simp only [impl_PutNums.l0]
    rw [if_pos (by omega), if_pos (by omega), if_pos (by omega), rd_eq l i hlt, iIsN_f, Option.bind_some]
    by_cases h : IsN l[i]
    · rw [if_pos (decide_eq_true h), wrap_succ i (by omega)]
      refine ih k (i + 1) (by omega) (by omega) ?_
      obtain ⟨x, hx, hn⟩ := hx
      rw [drop_one l i hlt] at hx
      rcases List.mem_cons.mp hx with rfl | hx
      · exact absurd h hn
      · exact ⟨x, hx, hn⟩
    · rw [if_neg (by simpa using h)]
theorem iPutNums_f (b l : List Int) (k : Nat) (hl : l.length ≤ 1073741824) (hb : b.length ≤ 1073741824) (hk : 2 * l.length + 9 < k) :
    impl_PutNums.f k b l = if (∀ x ∈ l, IsN x) then some (b ++ enc 7 l.length ++ encs l, true) else some ([], false) := by
  unfold impl_PutNums.f
  split
  · rename_i h
    exact iPutNums_l0 b l hl hb h l.length k 0 (by omega) (by omega)
  · rename_i h
    refine iPutNums_no b l hl l.length k 0 (by omega) (by omega) ?_
    simpa using h

theorem sPutNum_l0 (d : Nat) : ∀ (k n : Nat) (acc : List Int), Fits d n → n ≤ 1125899906842624 → d < k → acc.length + d + 1 ≤ 140737488355328 → spec_PutNum.l0 k (n : Int) acc = some (acc ++ enc d n, true) := by
  induction d with
  | zero =>
    intro k n acc hf hn hk hl
    obtain ⟨k, rfl⟩ : ∃ m, k = m + 1 := ⟨k - 1, by omega⟩
    have h127 : n ≤ 127 := hf
    have e : (n : Int) % 256 = ((n % 256 : Nat) : Int) := rfl
    simp only [spec_PutNum.l0]
    rw [if_neg (by omega), if_pos (by omega), e]
    rfl
  | succ d ih =>
    intro k n acc hf hn hk hl
    obtain ⟨k, rfl⟩ : ∃ m, k = m + 1 := ⟨k - 1, by omega⟩
    simp only [spec_PutNum.l0]
    by_cases h : 127 < n
    · have e1 : Int.tmod (n : Int) 128 = ((n % 128 : Nat) : Int) := rfl
      have e2 : Int.tdiv (n : Int) 128 = ((n / 128 : Nat) : Int) := rfl
      have w1 : wrap64 (128 + ((n % 128 : Nat) : Int)) = ((n % 128 + 128 : Nat) : Int) := by rw [wrap_id (by omega) (by omega)]; omega
      have w2 : wrap64 ((n / 128 : Nat) : Int) = ((n / 128 : Nat) : Int) := wrap_id (by omega) (by omega)
      have w3 : ((n % 128 + 128 : Nat) : Int) % 256 = ((n % 128 + 128 : Nat) : Int) := by omega
      rw [if_pos (by omega), if_pos (by omega), e1, e2, w1, w2, w3, ih k (n / 128) _ hf (by omega) (by omega) (by simp; omega)]
      rw [enc_big h, List.append_assoc]
      rfl
    · have e : (n : Int) % 256 = ((n % 256 : Nat) : Int) := rfl
      rw [if_neg (by omega), if_pos (by omega), e]
      rw [enc_small h]
theorem sNum_f (n : Nat) : spec_l01Num.f (n : Int) = some (decide (n ≤ 1125899906842624)) := by
  unfold spec_l01Num.f spec_l01In.f
  rw [if_pos (by omega)]
  simp only [Option.bind_some]
  congr 1
  exact decide_eq_decide.mpr (by omega)
theorem sNum_neg (n : Int) (h : n < 0) : spec_l01Num.f n = some false := by
  unfold spec_l01Num.f spec_l01In.f
  rw [if_neg (by omega)]
  rfl
theorem sPutNum_f (k n : Nat) (l : List Int) (hn : n ≤ 1125899906842624) (hk : 7 < k) (hl : l.length + 8 ≤ 140737488355328) : spec_PutNum.f k l (n : Int) = some (l ++ enc 7 n, true) := by
  unfold spec_PutNum.f
  rw [sNum_f, Option.bind_some, if_pos (decide_eq_true hn), Option.bind_some, if_pos (by simp; omega), List.nil_append]
  exact sPutNum_l0 7 k n l (fits7 n hn) hn hk (by omega)
theorem sPutNum_no (k : Nat) (n : Int) (l : List Int) (hn : n < 0 ∨ 1125899906842624 < n) : spec_PutNum.f k l n = some ([], false) := by
  unfold spec_PutNum.f
  rcases hn with h | h
  · rw [sNum_neg n h]; rfl
  · obtain ⟨m, rfl⟩ : ∃ m : Nat, n = (m : Int) := ⟨n.toNat, by omega⟩
    rw [sNum_f, decide_eq_false (by omega)]; rfl

theorem sPut_f (k n : Nat) (l : List Int) (hn : n ≤ 1125899906842624) (hk : 7 < k) (hl : l.length + 8 ≤ 140737488355328) : spec_l01Put.f k l (n : Int) = some (l ++ enc 7 n) := by
  unfold spec_l01Put.f
  rw [sPutNum_f k n l hn hk hl]
  rfl

theorem sIsN_f (x : Int) : spec_l01Num.f x = some (decide (IsN x)) := by
  by_cases h : x < 0
  · rw [sNum_neg x h, decide_eq_false (fun h2 => by unfold IsN at h2; omega)]
  · obtain ⟨n, rfl⟩ : ∃ n : Nat, x = (n : Int) := ⟨x.toNat, by omega⟩
    rw [sNum_f]
    congr 1
    exact decide_eq_decide.mpr (by unfold IsN; omega)
theorem sPutNums_l0 (l : List Int) (hl : l.length ≤ 1073741824) (d : Nat) : ∀ (k i : Nat) (acc : List Int), i + d = l.length → d + 8 < k → acc.length + 8 * d ≤ 17592186044416 →
    spec_PutNums.l0 k acc l (l.length : Int) (i : Int) = if (∀ x ∈ l.drop i, IsN x) then some (acc ++ encs (l.drop i), true) else some ([], false) := by
  induction d with
  | zero =>
    intro k i acc hi hk ha
    obtain ⟨k, rfl⟩ : ∃ m, k = m + 1 := ⟨k - 1, by omega⟩
    simp only [spec_PutNums.l0]
    rw [if_neg (by omega), List.drop_of_length_le (by omega)]
    simp [encs]
  | succ d ih =>
    intro k i acc hi hk ha
    obtain ⟨k, rfl⟩ : ∃ m, k = m + 1 := ⟨k - 1, by omega⟩
    have hlt : i < l.length := by omega
    have hd := drop_one l i hlt
    simp only [spec_PutNums.l0]
    rw [if_pos (by omega), if_pos (by omega), if_pos (by omega), rd_eq l i hlt, sIsN_f, Option.bind_some]
    by_cases h : IsN l[i]
    · obtain ⟨e, he⟩ := isN_cast h
      have hel := (enc_length 7 l[i].toNat).2
      have hp : spec_l01Put.f k acc l[i] = some (acc ++ enc 7 l[i].toNat) := by
        have := sPut_f k l[i].toNat acc he (by omega) (by omega)
        rw [← e] at this
        exact this
      rw [if_pos (decide_eq_true h), hp, Option.bind_some, wrap_succ i (by omega), ih k (i + 1) _ (by omega) (by omega) (by rw [List.length_append]; omega)]
      by_cases g : ∀ x ∈ l.drop (i + 1), IsN x
      · have g2 : ∀ x ∈ l.drop i, IsN x := by
          rw [hd]
          intro x hx
          rcases List.mem_cons.mp hx with rfl | hx
          · exact h
          · exact g x hx
        rw [if_pos g, if_pos g2, hd, encs_cons, List.append_assoc]
      · rw [if_neg g, if_neg (fun g2 => g (fun x hx => g2 x (by rw [hd]; exact List.mem_cons_of_mem _ hx)))]
    · rw [if_neg (by simpa using h), if_neg (fun g2 => h (g2 _ (by rw [hd]; exact List.mem_cons_self ..)))]
theorem sPutNums_f (b l : List Int) (k : Nat) (hl : l.length ≤ 1073741824) (hb : b.length ≤ 1073741824) (hk : 2 * l.length + 9 < k) :
    spec_PutNums.f k b l = if (∀ x ∈ l, IsN x) then some (b ++ enc 7 l.length ++ encs l, true) else some ([], false) := by
  have hel := (enc_length 7 l.length).2
  unfold spec_PutNums.f
  rw [sPut_f k _ _ (by omega) (by omega) (by omega), Option.bind_some]
  have := sPutNums_l0 l hl l.length k 0 (b ++ enc 7 l.length) (by omega) (by omega) (by rw [List.length_append]; omega)
  simpa using this
theorem FnExactPutNums (l0 : List Int) (l1 : List Int) (w0 : l0.length ≤ maxLen ∧ ∀ l0_e ∈ l0, (Lit.int .u8 l0_e).wf = true) (w1 : l1.length ≤ maxLen ∧ ∀ l1_e ∈ l1, (Lit.int .i64 l1_e).wf = true) : ∃ k, laws_FnExactPutNums.f k l0 l1 = some true := by
  by_cases hs : (l0.length : Int) > 1048576
  · exact ⟨0, by unfold laws_FnExactPutNums.f; rw [if_pos hs]⟩
  by_cases ht : (l1.length : Int) > 1048576
  · exact ⟨0, by unfold laws_FnExactPutNums.f; rw [if_neg hs, if_pos ht]⟩
  refine rounds_of (fun m hm => ?_)
  obtain ⟨r, ok, hr, E1, E2⟩ : ∃ (r : List Int) (ok : Bool), r.length ≤ 9437192 ∧ (∀ j, spec_PutNums.f (m + j) l0 l1 = some (r, ok)) ∧ (∀ j, impl_PutNums.f (m + j) l0 l1 = some (r, ok)) := by
    have hel := (enc_length 7 l1.length).2
    have hes := encs_length l1
    by_cases hn : ∀ x ∈ l1, IsN x
    · refine ⟨l0 ++ enc 7 l1.length ++ encs l1, true, by simp only [List.length_append]; omega, fun j => ?_, fun j => ?_⟩
      · rw [sPutNums_f l0 l1 _ (by omega) (by omega) (by omega), if_pos hn]
      · rw [iPutNums_f l0 l1 _ (by omega) (by omega) (by omega), if_pos hn]
    · refine ⟨[], false, Nat.zero_le _, fun j => ?_, fun j => ?_⟩
      · rw [sPutNums_f l0 l1 _ (by omega) (by omega) (by omega), if_neg hn]
      · rw [iPutNums_f l0 l1 _ (by omega) (by omega) (by omega), if_neg hn]
  have T := fun j => toByteS_f l0 (m + j) (by omega) (by omega)
  have Q := fun j => eqByteS_refl l0 (m + j) (by omega) (by omega)
  have T' := fun j => toIntS_f l1 (m + j) (by omega) (by omega)
  have R' := fun j => eqIntS_refl l1 (m + j) (by omega) (by omega)
  have Q' := fun j => eqByteS_refl r (m + j) (by omega) (by omega)
  have M := fun j => markByteS_1 l0 (m + j) (by omega) (by omega)
  have N := fun j => markIntS_f l1 (1 + l0.length) (m + j) (by omega) (by omega) (by omega)
  have M' := fun j => markByteS_1 r (m + j) (by omega) (by omega)
  have H' := fun j => heldByteS_1 r.length (m + j) (by omega) (by omega)
  unfold laws_FnExactPutNums.f
  rw [if_neg hs, if_neg ht]
  simp only [Option.bind_some, T, T', E1, E2, Q, Q', R', M, N, M', H', if_true, bne_self_eq_false, laws_FnExactPutNums.j0, laws_FnExactPutNums.j1, laws_FnExactPutNums.j2, Bool.false_eq_true, if_false, natlt0]

end Go.Proofs.Ytgkjbechcbbgjaa.Pure
