/- For all arguments OutPut of the program and of the reference answer alike, in memory that nothing else holds. This text proves it of the plain functions, with no program in sight. Conditions: none but those of the given statement. -/
import Derived.Test.YtfkoipmoikhehaaPFnExactOutPutx5
set_option linter.unusedVariables false
set_option linter.unusedSimpArgs false
namespace Go.Proofs.Ytfkoipmoikhehaa.Pure
open Go Go.RowKit Go.Proofs.Ytfkoipmoikhehaa.PFnExactOutPut Go.Proofs.YtfkoipmoikhehaaW.PrintWords Go.Proofs.YtfkoipmoikhehaaW.PrintLast Go.Proofs.YtfkoipmoikhehaaW.PrintMore

theorem wrap_id {x : Int} (h0 : -9223372036854775808 ≤ x) (h1 : x ≤ 9223372036854775807) : wrap64 x = x := by
  unfold wrap64; omega
theorem rd_eq (l : List Int) (i : Nat) (h : i < l.length) : rd l (i : Int) = l[i] := by
  simp [rd, h]
theorem succ_cast (i : Nat) : (i : Int) + 1 = ((i + 1 : Nat) : Int) := by omega
theorem take_set_same (l m : List Int) (i : Nat) (hi : i < l.length) (hm : m.length = l.length) (ht : m.take i = l.take i) : (m.set i l[i]).take (i + 1) = l.take (i + 1) := by
  rw [List.take_succ_eq_append_getElem (by simp; omega), List.take_succ_eq_append_getElem hi]
  simp [List.take_set_of_le, ht]
theorem natlt0 (n : Nat) : ((n : Int) < 0) = False := by simp
theorem wrap_nat (n : Nat) (h : n ≤ 9223372036854775807) : wrap64 (n : Int) = (n : Int) := wrap_id (by omega) (by omega)
theorem wrap_succ (n : Nat) (h : n < 9223372036854775807) : wrap64 ((n : Int) + 1) = ((n + 1 : Nat) : Int) := by rw [wrap_id (by omega) (by omega)]; omega
theorem u8_of_wf {x : Int} (h : (Lit.int .u8 x).wf = true) : 0 ≤ x ∧ x < 256 := by
  simp [Lit.wf, IntKind.min, IntKind.max, IntKind.signed, IntKind.bits] at h
  omega
theorem i64_of_wf {x : Int} (h : (Lit.int .i64 x).wf = true) : -9223372036854775808 ≤ x ∧ x ≤ 9223372036854775807 := by
  simp [Lit.wf, IntKind.min, IntKind.max, IntKind.signed, IntKind.bits] at h
  omega
theorem max_len {α : Type} {l : List α} (h : l.length ≤ maxLen) : l.length ≤ 9223372036854775807 := by
  unfold maxLen at h; omega
theorem rounds_of {f : Nat → Option Bool} (h : ∀ m, 20000000 ≤ m → f (m + 8) = some true) : ∃ k, f k = some true := by
  obtain ⟨m, hm⟩ : ∃ m : Nat, 20000000 ≤ m := ⟨_, Nat.le_refl _⟩
  exact ⟨m + 8, h m hm⟩

theorem rd_M (l : List S35) (i : Nat) (h : i < l.length) : rd_T35 l (i : Int) = l[i] := by
  simp [rd_T35, h]
theorem eqMsgS_l0 (l : List S35) (hl : l.length ≤ 140737488351232) (d : Nat) : ∀ (k : Nat) (i : Nat), i + d = l.length → d < k → laws_eqMsgS.l0 k l l (i : Int) = some true := by
  induction d with
  | zero =>
    intro k i hi hk
    obtain ⟨k, rfl⟩ : ∃ m, k = m + 1 := ⟨k - 1, by omega⟩
    simp only [laws_eqMsgS.l0]
    rw [if_neg (by omega)]
  | succ d ih =>
    intro k i hi hk
    obtain ⟨k, rfl⟩ : ∃ m, k = m + 1 := ⟨k - 1, by omega⟩
    simp only [laws_eqMsgS.l0, laws_eqMsg.f, if_true, Option.bind_some]
    rw [if_pos (by omega), if_pos (by omega), if_pos (by omega), wrap_id (by omega) (by omega), succ_cast]
    exact ih k (i + 1) (by omega) (by omega)
theorem eqMsgS_refl (l : List S35) (k : Nat) (hk : l.length < k) (hl : l.length ≤ 140737488351232) : laws_eqMsgS.f k l l = some true := by
  unfold laws_eqMsgS.f
  rw [if_pos rfl]
  exact eqMsgS_l0 l hl l.length k 0 (by omega) hk
theorem eqOut_refl (n : Int) (l : List S35) (k : Nat) (hk : l.length < k) (hl : l.length ≤ 140737488351232) : laws_eqOut.f k n l n l = some true := by
  unfold laws_eqOut.f
  rw [if_pos rfl, eqMsgS_refl l k hk hl, Option.bind_some, if_pos rfl]

theorem rd_L (l : List S40) (i : Nat) (h : i < l.length) : rd_T40 l (i : Int) = l[i] := by
  simp [rd_T40, h]
def conv (x : S40) : S35 := ⟨x.f0, x.f1, x.f2, x.f3⟩
theorem toMsgS_l0 (l : List S40) (hl : l.length ≤ 140737488351232) (d : Nat) : ∀ (k : Nat) (x3 : List S35) (i : Nat), i + d = l.length → d < k → x3.length = l.length → x3.take i = (l.map conv).take i → laws_toMsgS.l0 k l x3 (i : Int) = some (l.map conv) := by
  induction d with
  | zero =>
    intro k x3 i hi hk h3 ht
    obtain ⟨k, rfl⟩ : ∃ m, k = m + 1 := ⟨k - 1, by omega⟩
    simp only [laws_toMsgS.l0]
    rw [if_neg (by omega)]
    rw [List.take_of_length_le (by omega), List.take_of_length_le (by rw [List.length_map]; omega)] at ht
    rw [ht]
  | succ d ih =>
    intro k x3 i hi hk h3 ht
    obtain ⟨k, rfl⟩ : ∃ m, k = m + 1 := ⟨k - 1, by omega⟩
    have hlt : i < l.length := by omega
    simp only [laws_toMsgS.l0, laws_toMsg.f, Option.bind_some]
    rw [if_pos (by omega), if_pos (by omega), if_pos (by omega), wrap_id (by omega) (by omega), succ_cast, Int.toNat_natCast, rd_L l i hlt]
    refine ih k _ (i + 1) (by omega) (by omega) (by simp [h3]) ?_
    rw [List.take_succ_eq_append_getElem (by simp; omega), List.take_succ_eq_append_getElem (by simp; omega)]
    simp [List.take_set_of_le, ht, conv]
theorem toMsgS_f (l : List S40) (k : Nat) (hk : l.length < k) (hl : l.length ≤ 1048576) : laws_toMsgS.f k l = some (l.map conv) := by
  unfold laws_toMsgS.f
  rw [if_pos (by omega), if_pos (by omega)]
  exact toMsgS_l0 l (by omega) l.length k _ 0 (by omega) hk (by simp) (by simp)
theorem toOut_f (n : Int) (l : List S40) (k : Nat) (hk : l.length < k) (hl : l.length ≤ 1048576) : laws_toOut.f k n l = some (n, l.map conv) := by
  unfold laws_toOut.f
  rw [toMsgS_f l k hk hl]
  rfl
theorem szOut_f (n : Int) (l : List S40) (t : Nat) (ht : t ≤ 1048576) (hl : l.length ≤ 9223372036854775807) : laws_szOut.f n l (t : Int) = if l.length ≤ t then some ((t - l.length : Nat) : Int) else some (-1) := by
  unfold laws_szOut.f laws_szMsgS.f
  rw [wrap_id (x := (t : Int) - (l.length : Int)) (by omega) (by omega)]
  by_cases h : l.length ≤ t
  · rw [if_neg (by omega), Option.bind_some, if_neg (by omega), if_pos h]
    congr 1
    omega
  · rw [if_pos (by omega), Option.bind_some, if_pos (by omega), if_neg h]
theorem szOut_1 (n : Int) (l : List S40) (hl : l.length ≤ 9223372036854775807) : laws_szOut.f n l 1048576 = if l.length ≤ 1048576 then some ((1048576 - l.length : Nat) : Int) else some (-1) :=
  szOut_f n l 1048576 (Nat.le_refl _) hl

/-- A message is valid. -/
def Mok (a b c d : Int) : Prop := (0 ≤ b ∧ b ≤ 2) ∧ (0 ≤ d ∧ d ≤ 2) ∧ (d = 0 ∨ a = 2) ∧ (((a = 1 ∨ a = 2 ∨ a = 3) ∧ 1 ≤ c ∧ c ≤ 1000000000) ∨ (a = 4 ∧ 0 ≤ c ∧ c ≤ 3) ∨ (a = 5 ∧ 0 ≤ c ∧ c ≤ 1125899906842624))
instance (a b c d : Int) : Decidable (Mok a b c d) := by unfold Mok; infer_instance
theorem iin_f (n lo hi : Int) : impl_in.f n lo hi = some (decide (lo ≤ n ∧ n ≤ hi)) := by
  unfold impl_in.f
  by_cases h : n ≥ lo
  · rw [if_pos h]
    congr 1
    exact decide_eq_decide.mpr ⟨fun h2 => ⟨h, h2⟩, fun h2 => h2.2⟩
  · rw [if_neg h, decide_eq_false (fun h2 => h h2.1)]
theorem sin_f (n lo hi : Int) : spec_l01In.f n lo hi = some (decide (lo ≤ n ∧ n ≤ hi)) := iin_f n lo hi
theorem iMsgOk_j1 (k : Nat) (x : Int) (y : Bool) (p q r s : Int) : impl_MsgOk.j1 (k + 1) x y p q r s = some (decide ((y = true ∧ 1 ≤ r ∧ r ≤ 1000000000) ∨ (y = false ∧ x = 4 ∧ 0 ≤ r ∧ r ≤ 3) ∨ (y = false ∧ x = 5 ∧ 0 ≤ r ∧ r ≤ 1125899906842624))) := by
  simp only [impl_MsgOk.j1, impl_IsAmt.f, impl_isNum.f, iin_f, Option.bind_some]
  cases y with
  | true => simp
  | false =>
    by_cases h4 : x = 4
    · simp [h4]
    · by_cases h5 : x = 5
      · simp [h5]
      · simp [h4, h5]
theorem sMsgOk_j1 (k : Nat) (x : Int) (y : Bool) (p q r s : Int) : spec_MsgOk.j1 (k + 1) x y p q r s = some (decide ((y = true ∧ 1 ≤ r ∧ r ≤ 1000000000) ∨ (y = false ∧ x = 4 ∧ 0 ≤ r ∧ r ≤ 3) ∨ (y = false ∧ x = 5 ∧ 0 ≤ r ∧ r ≤ 1125899906842624))) := by
  simp only [spec_MsgOk.j1, spec_IsAmt.f, spec_l01Num.f, sin_f, Option.bind_some]
  cases y with
  | true => simp
  | false =>
    by_cases h4 : x = 4
    · simp [h4]
    · by_cases h5 : x = 5
      · simp [h5]
      · simp [h4, h5]
theorem iMsgOk_j0 (k : Nat) (p q r s : Int) : impl_MsgOk.j0 (k + 2) false p q r s = some (decide (((p = 1 ∨ p = 2 ∨ p = 3) ∧ 1 ≤ r ∧ r ≤ 1000000000) ∨ (p = 4 ∧ 0 ≤ r ∧ r ≤ 3) ∨ (p = 5 ∧ 0 ≤ r ∧ r ≤ 1125899906842624))) := by
  simp only [impl_MsgOk.j0, iMsgOk_j1]
  by_cases h1 : p = 1
  · subst h1; simp
  · by_cases h2 : p = 2
    · subst h2; simp
    · by_cases h3 : p = 3
      · subst h3; simp
      · simp [h1, h2, h3]
theorem sMsgOk_j0 (k : Nat) (p q r s : Int) : spec_MsgOk.j0 (k + 2) false p q r s = some (decide (((p = 1 ∨ p = 2 ∨ p = 3) ∧ 1 ≤ r ∧ r ≤ 1000000000) ∨ (p = 4 ∧ 0 ≤ r ∧ r ≤ 3) ∨ (p = 5 ∧ 0 ≤ r ∧ r ≤ 1125899906842624))) := by
  simp only [spec_MsgOk.j0, sMsgOk_j1]
  by_cases h1 : p = 1
  · subst h1; simp
  · by_cases h2 : p = 2
    · subst h2; simp
    · by_cases h3 : p = 3
      · subst h3; simp
      · simp [h1, h2, h3]
theorem iMsgOk_t (k : Nat) (p q r s : Int) : impl_MsgOk.j0 (k + 2) true p q r s = some false := by simp only [impl_MsgOk.j0, if_true]
theorem sMsgOk_t (k : Nat) (p q r s : Int) : spec_MsgOk.j0 (k + 2) true p q r s = some false := by simp only [spec_MsgOk.j0, if_true]
theorem iMsgOk_f (k : Nat) (hk : 2 ≤ k) (a b c d : Int) : impl_MsgOk.f k a b c d = some (decide (Mok a b c d)) := by
  obtain ⟨m, rfl⟩ : ∃ m, k = m + 2 := ⟨k - 2, by omega⟩
  unfold impl_MsgOk.f
  simp only [iin_f, Option.bind_some]
  by_cases hb : 0 ≤ b ∧ b ≤ 2
  · rw [if_pos (decide_eq_true hb)]
    by_cases hd : 0 ≤ d ∧ d ≤ 2
    · rw [if_pos (decide_eq_true hd)]
      by_cases h0 : d = 0
      · rw [if_pos h0, iMsgOk_j0]
        congr 1
        exact decide_eq_decide.mpr ⟨fun h => ⟨hb, hd, Or.inl h0, h⟩, fun h => h.2.2.2⟩
      · rw [if_neg h0]
        by_cases h2 : a = 2
        · rw [show (a != 2) = false by simpa using h2, iMsgOk_j0]
          congr 1
          exact decide_eq_decide.mpr ⟨fun h => ⟨hb, hd, Or.inr h2, h⟩, fun h => h.2.2.2⟩
        · rw [show (a != 2) = true by simpa using h2, iMsgOk_t, decide_eq_false (fun h => h.2.2.1.elim h0 h2)]
    · rw [if_neg (by simpa using hd), iMsgOk_t, decide_eq_false (fun h => hd h.2.1)]
  · rw [if_neg (by simpa using hb), iMsgOk_t, decide_eq_false (fun h => hb h.1)]
theorem sMsgOk_f (k : Nat) (hk : 2 ≤ k) (a b c d : Int) : spec_MsgOk.f k a b c d = some (decide (Mok a b c d)) := by
  obtain ⟨m, rfl⟩ : ∃ m, k = m + 2 := ⟨k - 2, by omega⟩
  unfold spec_MsgOk.f
  simp only [sin_f, Option.bind_some]
  by_cases hb : 0 ≤ b ∧ b ≤ 2
  · rw [if_pos (decide_eq_true hb)]
    by_cases hd : 0 ≤ d ∧ d ≤ 2
    · rw [if_pos (decide_eq_true hd)]
      by_cases h2 : a = 2
      · rw [if_pos h2, sMsgOk_j0]
        congr 1
        exact decide_eq_decide.mpr ⟨fun h => ⟨hb, hd, Or.inr h2, h⟩, fun h => h.2.2.2⟩
      · rw [if_neg h2]
        by_cases h0 : d = 0
        · rw [show (d != 0) = false by simpa using h0, sMsgOk_j0]
          congr 1
          exact decide_eq_decide.mpr ⟨fun h => ⟨hb, hd, Or.inl h0, h⟩, fun h => h.2.2.2⟩
        · rw [show (d != 0) = true by simpa using h0, sMsgOk_t, decide_eq_false (fun h => h.2.2.1.elim h0 h2)]
    · rw [if_neg (by simpa using hd), sMsgOk_t, decide_eq_false (fun h => hd h.2.1)]
  · rw [if_neg (by simpa using hb), sMsgOk_t, decide_eq_false (fun h => hb h.1)]

def MokS (x : S35) : Prop := Mok x.f0 x.f1 x.f2 x.f3
instance (x : S35) : Decidable (MokS x) := by unfold MokS; infer_instance
theorem iMsgOk_S (k : Nat) (hk : 2 ≤ k) (x : S35) : impl_MsgOk.f k x.f0 x.f1 x.f2 x.f3 = some (decide (MokS x)) := iMsgOk_f k hk _ _ _ _
theorem sMsgOk_S (k : Nat) (hk : 2 ≤ k) (x : S35) : spec_MsgOk.f k x.f0 x.f1 x.f2 x.f3 = some (decide (MokS x)) := sMsgOk_f k hk _ _ _ _
/-- A queue is valid. -/
def Ook (n : Int) (l : List S35) : Prop := (∀ x ∈ l, MokS x) ∧ 1 ≤ n ∧ n ≤ 1125899906842624 ∧ l.length ≤ 60 ∧ (l.length : Int) < n
instance (n : Int) (l : List S35) : Decidable (Ook n l) := by unfold Ook; infer_instance
theorem dropS (l : List S35) (i : Nat) (h : i < l.length) : l.drop i = l[i] :: l.drop (i + 1) := List.drop_eq_getElem_cons h
theorem iOutOk_l0 (n : Int) (l : List S35) (hl : l.length ≤ 140737488351232) (d : Nat) : ∀ (k i : Nat), i + d = l.length → d + 2 < k →
    impl_OutOk.l0 k l (l.length : Int) (i : Int) n l = some (decide ((∀ x ∈ l.drop i, MokS x) ∧ 1 ≤ n ∧ n ≤ 1125899906842624 ∧ l.length ≤ 60 ∧ (l.length : Int) < n)) := by
  induction d with
  | zero =>
    intro k i hi hk
    obtain ⟨k, rfl⟩ : ∃ m, k = m + 1 := ⟨k - 1, by omega⟩
    simp only [impl_OutOk.l0]
    rw [if_neg (by omega), List.drop_of_length_le (by omega), iin_f, Option.bind_some]
    have hn : ∀ x ∈ ([] : List S35), MokS x := fun x hx => by cases hx
    by_cases h1 : 1 ≤ n ∧ n ≤ 1125899906842624
    · rw [if_pos (decide_eq_true h1)]
      by_cases h2 : (l.length : Int) ≤ 60
      · rw [if_pos h2]
        congr 1
        exact decide_eq_decide.mpr ⟨fun h => ⟨hn, h1.1, h1.2, by omega, h⟩, fun h => h.2.2.2.2⟩
      · rw [if_neg h2, decide_eq_false (fun h => h2 (by have := h.2.2.2.1; omega))]
    · rw [if_neg (by simpa using h1), decide_eq_false (fun h => h1 ⟨h.2.1, h.2.2.1⟩)]
  | succ d ih =>
    intro k i hi hk
    obtain ⟨k, rfl⟩ : ∃ m, k = m + 1 := ⟨k - 1, by omega⟩
    have hlt : i < l.length := by omega
    simp only [impl_OutOk.l0]
    rw [if_pos (by omega), if_pos (by omega), if_pos (by omega), rd_M l i hlt, iMsgOk_S k (by omega), Option.bind_some, wrap_succ i (by omega), ih k (i + 1) (by omega) (by omega), dropS l i hlt]
    by_cases h : MokS l[i]
    · rw [if_pos (decide_eq_true h)]
      congr 1
      exact decide_eq_decide.mpr (by simp only [List.mem_cons, forall_eq_or_imp, h, true_and])
    · rw [if_neg (by simpa using h), decide_eq_false (fun g => h (g.1 _ (List.mem_cons_self ..)))]
theorem sOutOk_l0 (n : Int) (l : List S35) (hl : l.length ≤ 140737488351232) (d : Nat) : ∀ (k i : Nat), i + d = l.length → d + 2 < k →
    spec_OutOk.l0 k l (l.length : Int) (i : Int) n l = some (decide ((∀ x ∈ l.drop i, MokS x) ∧ 1 ≤ n ∧ n ≤ 1125899906842624 ∧ l.length ≤ 60 ∧ (l.length : Int) < n)) := by
  induction d with
  | zero =>
    intro k i hi hk
    obtain ⟨k, rfl⟩ : ∃ m, k = m + 1 := ⟨k - 1, by omega⟩
    simp only [spec_OutOk.l0]
    rw [if_neg (by omega), List.drop_of_length_le (by omega), sin_f, Option.bind_some]
    have hn : ∀ x ∈ ([] : List S35), MokS x := fun x hx => by cases hx
    by_cases h1 : 1 ≤ n ∧ n ≤ 1125899906842624
    · rw [if_pos (decide_eq_true h1)]
      by_cases h2 : (l.length : Int) ≤ 60
      · rw [if_pos h2]
        congr 1
        exact decide_eq_decide.mpr ⟨fun h => ⟨hn, h1.1, h1.2, by omega, h⟩, fun h => h.2.2.2.2⟩
      · rw [if_neg h2, decide_eq_false (fun h => h2 (by have := h.2.2.2.1; omega))]
    · rw [if_neg (by simpa using h1), decide_eq_false (fun h => h1 ⟨h.2.1, h.2.2.1⟩)]
  | succ d ih =>
    intro k i hi hk
    obtain ⟨k, rfl⟩ : ∃ m, k = m + 1 := ⟨k - 1, by omega⟩
    have hlt : i < l.length := by omega
    simp only [spec_OutOk.l0]
    rw [if_pos (by omega), if_pos (by omega), if_pos (by omega), rd_M l i hlt, sMsgOk_S k (by omega), Option.bind_some, wrap_succ i (by omega), ih k (i + 1) (by omega) (by omega), dropS l i hlt]
    by_cases h : MokS l[i]
    · rw [if_pos (decide_eq_true h)]
      congr 1
      exact decide_eq_decide.mpr (by simp only [List.mem_cons, forall_eq_or_imp, h, true_and])
    · rw [if_neg (by simpa using h), decide_eq_false (fun g => h (g.1 _ (List.mem_cons_self ..)))]
theorem iOutOk_f (k : Nat) (n : Int) (l : List S35) (hk : l.length + 2 < k) (hl : l.length ≤ 140737488351232) : impl_OutOk.f k n l = some (decide (Ook n l)) :=
  iOutOk_l0 n l hl l.length k 0 (by omega) hk
theorem sOutOk_f (k : Nat) (n : Int) (l : List S35) (hk : l.length + 2 < k) (hl : l.length ≤ 140737488351232) : spec_OutOk.f k n l = some (decide (Ook n l)) :=
  sOutOk_l0 n l hl l.length k 0 (by omega) hk

def markM : Nat → Nat → List S35
  | 0, _ => []
  | d + 1, n => ⟨(n : Int), ((n + 1 : Nat) : Int), ((n + 2 : Nat) : Int), ((n + 3 : Nat) : Int)⟩ :: markM d (n + 4)
theorem markM_length : ∀ d n, (markM d n).length = d
  | 0, _ => rfl
  | d + 1, n => by simp [markM, markM_length d]
theorem markM_get : ∀ d n i, i < d → (markM d n)[i]? = some ⟨((n + 4 * i : Nat) : Int), ((n + 4 * i + 1 : Nat) : Int), ((n + 4 * i + 2 : Nat) : Int), ((n + 4 * i + 3 : Nat) : Int)⟩
  | 0, _, _, h => absurd h (Nat.not_lt_zero _)
  | d + 1, n, 0, _ => by simp [markM]
  | d + 1, n, i + 1, h => by
    rw [markM, List.getElem?_cons_succ, markM_get d (n + 4) i (by omega), show n + 4 + 4 * i = n + 4 * (i + 1) by omega]
theorem rd_set (x : List S35) (i : Nat) (v : S35) (h : i < x.length) : rd_T35 (x.set i v) (i : Int) = v := by
  rw [rd_M (x.set i v) i (by simpa using h), List.getElem_set_self]
theorem markMsgS_step (k : Nat) (x : List S35) (n i : Nat) (h : i < x.length) (hn : n ≤ 140737488351232) (hx : x.length ≤ 140737488351232) :
    laws_markMsgS.l0 (k + 1) x (n : Int) (i : Int) = laws_markMsgS.l0 k (x.set i ⟨(n : Int), ((n + 1 : Nat) : Int), ((n + 2 : Nat) : Int), ((n + 3 : Nat) : Int)⟩) ((n + 4 : Nat) : Int) ((i + 1 : Nat) : Int) := by
  have e1 : wrap64 ((n : Int) + 1) = ((n + 1 : Nat) : Int) := wrap_succ n (by omega)
  have e2 : wrap64 (((n + 1 : Nat) : Int) + 1) = ((n + 2 : Nat) : Int) := wrap_succ (n + 1) (by omega)
  have e3 : wrap64 (((n + 2 : Nat) : Int) + 1) = ((n + 3 : Nat) : Int) := wrap_succ (n + 2) (by omega)
  have e4 : wrap64 (((n + 3 : Nat) : Int) + 1) = ((n + 4 : Nat) : Int) := wrap_succ (n + 3) (by omega)
  have e5 : wrap64 ((i : Int) + 1) = ((i + 1 : Nat) : Int) := wrap_succ i (by omega)
  simp only [laws_markMsgS.l0, Option.bind_some]
  rw [if_pos (by omega), if_pos (by omega), e1, e2, e3, e4, e5, Int.toNat_natCast]
  have r0 := rd_M x i h
  have R := fun v => rd_set x i v h
  simp only [r0, R, List.set_set]
theorem markMsgS_l0 (n0 : Nat) (t : Nat) (d : Nat) : ∀ (k : Nat) (x : List S35) (i : Nat), i + d = t → d < k → x.length = t → t ≤ 14073748835 → n0 ≤ 14073748835 → (∀ j, j < i → x[j]? = some ⟨((n0 + 4 * j : Nat) : Int), ((n0 + 4 * j + 1 : Nat) : Int), ((n0 + 4 * j + 2 : Nat) : Int), ((n0 + 4 * j + 3 : Nat) : Int)⟩) →
    laws_markMsgS.l0 k x ((n0 + 4 * i : Nat) : Int) (i : Int) = some (((n0 + 4 * t : Nat) : Int), markM t n0) := by
  induction d with
  | zero =>
    intro k x i hi hk hx ht hn hj
    obtain ⟨k, rfl⟩ : ∃ m, k = m + 1 := ⟨k - 1, by omega⟩
    simp only [laws_markMsgS.l0]
    rw [if_neg (by omega)]
    have e : x = markM t n0 := by
      apply List.ext_getElem?
      intro j
      by_cases h : j < t
      · rw [hj j (by omega), markM_get t n0 j h]
      · rw [List.getElem?_eq_none (by omega), List.getElem?_eq_none (by rw [markM_length]; omega)]
    have e2 : i = t := by omega
    rw [e, e2]
  | succ d ih =>
    intro k x i hi hk hx ht hn hj
    obtain ⟨k, rfl⟩ : ∃ m, k = m + 1 := ⟨k - 1, by omega⟩
    rw [markMsgS_step k x _ i (by omega) (by omega) (by omega), show n0 + 4 * i + 4 = n0 + 4 * (i + 1) by omega]
    refine ih k _ (i + 1) (by omega) (by omega) (by simpa using hx) ht hn (fun j hj' => ?_)
    by_cases h : j = i
    · subst h
      rw [List.getElem?_set_self (by omega)]
    · rw [List.getElem?_set_ne (by omega)]
      exact hj j (by omega)
theorem markMsgS_f (l : List S35) (n : Nat) (k : Nat) (hk : l.length < k) (hl : l.length ≤ 14073748835) (hn : n ≤ 14073748835) :
    laws_markMsgS.f k l (n : Int) = some (((n + 4 * l.length : Nat) : Int), markM l.length n) :=
  markMsgS_l0 n l.length l.length k l 0 (by omega) hk rfl hl hn (fun j hj => absurd hj (Nat.not_lt_zero _))
theorem markOut_1 (z : Int) (l : List S35) (k : Nat) (hk : l.length < k) (hl : l.length ≤ 14073748835) :
    laws_markOut.f k z l 1 = some (((1 + 4 * l.length : Nat) : Int), markM l.length 1) := by
  unfold laws_markOut.f
  have := markMsgS_f l 1 k hk hl (by omega)
  simp only [Int.natCast_one] at this
  rw [this]
  rfl

theorem heldMsgS_l0 (n0 : Nat) (t : Nat) (d : Nat) : ∀ (k : Nat) (i : Nat), i + d = t → d < k → t ≤ 14073748835 → n0 ≤ 14073748835 →
    laws_heldMsgS.l0 k (markM t n0) ((n0 + 4 * i : Nat) : Int) (i : Int) = some ((n0 + 4 * t : Nat) : Int) := by
  induction d with
  | zero =>
    intro k i hi hk ht hn
    obtain ⟨k, rfl⟩ : ∃ m, k = m + 1 := ⟨k - 1, by omega⟩
    simp only [laws_heldMsgS.l0]
    rw [if_neg (by rw [markM_length]; omega)]
    have e2 : i = t := by omega
    rw [e2]
  | succ d ih =>
    intro k i hi hk ht hn
    obtain ⟨k, rfl⟩ : ∃ m, k = m + 1 := ⟨k - 1, by omega⟩
    have hr : rd_T35 (markM t n0) (i : Int) = ⟨((n0 + 4 * i : Nat) : Int), ((n0 + 4 * i + 1 : Nat) : Int), ((n0 + 4 * i + 2 : Nat) : Int), ((n0 + 4 * i + 3 : Nat) : Int)⟩ := by
      have := markM_get t n0 i (by omega)
      simp [rd_T35, List.getD, this]
    have e1 : wrap64 (((n0 + 4 * i : Nat) : Int) + 1) = ((n0 + 4 * i + 1 : Nat) : Int) := wrap_succ (n0 + 4 * i) (by omega)
    have e2 : wrap64 (((n0 + 4 * i + 1 : Nat) : Int) + 1) = ((n0 + 4 * i + 2 : Nat) : Int) := wrap_succ (n0 + 4 * i + 1) (by omega)
    have e3 : wrap64 (((n0 + 4 * i + 2 : Nat) : Int) + 1) = ((n0 + 4 * i + 3 : Nat) : Int) := wrap_succ (n0 + 4 * i + 2) (by omega)
    have e4 : wrap64 (((n0 + 4 * i + 3 : Nat) : Int) + 1) = ((n0 + 4 * (i + 1) : Nat) : Int) := by rw [wrap_succ (n0 + 4 * i + 3) (by omega)]; omega
    have e5 : wrap64 ((i : Int) + 1) = ((i + 1 : Nat) : Int) := wrap_succ i (by omega)
    simp only [laws_heldMsgS.l0]
    rw [hr]
    simp only [e1, e2, e3, e4, e5, if_true]
    rw [if_pos (by rw [markM_length]; omega), if_pos (by omega)]
    exact ih k (i + 1) (by omega) (by omega) ht hn
theorem heldOut_1 (z : Int) (t k : Nat) (hk : t < k) (hl : t ≤ 14073748835) :
    laws_heldOut.f k z (markM t 1) 1 = some ((1 + 4 * t : Nat) : Int) := by
  have h : laws_heldMsgS.f k (markM t 1) 1 = some ((1 + 4 * t : Nat) : Int) := heldMsgS_l0 1 t t k 0 (by omega) hk hl (by omega)
  unfold laws_heldOut.f
  rw [h, Option.bind_some, if_neg (by omega)]

theorem outPut_both (n : Int) (l : List S35) (a b c d : Int) (hl : l.length ≤ 1048576) :
    ∃ (n' : Int) (r : List S35) (ok : Bool), r.length ≤ 1048577 ∧ ∀ k, l.length + 5 < k → spec_OutPut.f k n l a b c d = some (n', r, ok) ∧ impl_OutPut.f k n l a b c d = some (n', r, ok) := by
  have S := fun k hk => sOutOk_f k n l hk (by omega)
  have I := fun k hk => iOutOk_f k n l hk (by omega)
  have hb : l.length < 4398046511104 := by omega
  have ll : (l ++ [(⟨a, b, c, d⟩ : S35)]).length = l.length + 1 := by rw [List.length_append]; rfl
  have S1 := fun k hk => sOutOk_f k (wrap64 (n + 1)) (l ++ [⟨a, b, c, d⟩]) hk (by omega)
  have I1 := fun k hk => iOutOk_f k (wrap64 (n + 1)) (l ++ [⟨a, b, c, d⟩]) hk (by omega)
  have C1 : spec_l05Copy.f n l = some (n, l) := by
    unfold spec_l05Copy.f
    rw [Option.bind_some, if_pos (by rw [List.length_nil]; omega)]
    rfl
  have C2 : impl_copyOut.f n l = some (n, l) := by
    unfold impl_copyOut.f
    rw [if_pos (by rw [List.length_nil]; omega)]
    rfl
  by_cases h : Ook n l
  case neg =>
    refine ⟨0, [], false, Nat.zero_le _, fun k hk => ⟨?_, ?_⟩⟩
    · unfold spec_OutPut.f
      rw [C1, Option.bind_some, if_pos hb, Option.bind_some, S _ (by omega), Option.bind_some, if_neg (by simpa using h)]
    · unfold impl_OutPut.f
      rw [C2, Option.bind_some, if_pos hb, Option.bind_some, I _ (by omega), Option.bind_some, if_neg (by simpa using h)]
  by_cases h1 : Ook (wrap64 (n + 1)) (l ++ [⟨a, b, c, d⟩])
  case neg =>
    refine ⟨0, [], false, Nat.zero_le _, fun k hk => ⟨?_, ?_⟩⟩
    · unfold spec_OutPut.f
      rw [C1, Option.bind_some, if_pos hb, Option.bind_some, S _ (by omega), Option.bind_some, if_pos (decide_eq_true h), S1 _ (by omega), Option.bind_some, if_neg (by simpa using h1)]
    · unfold impl_OutPut.f
      rw [C2, Option.bind_some, if_pos hb, Option.bind_some, I _ (by omega), Option.bind_some, if_pos (decide_eq_true h), I1 _ (by omega), Option.bind_some, if_neg (by simpa using h1)]
  refine ⟨wrap64 (n + 1), l ++ [⟨a, b, c, d⟩], true, by omega, fun k hk => ⟨?_, ?_⟩⟩
  · unfold spec_OutPut.f
    rw [C1, Option.bind_some, if_pos hb, Option.bind_some, S _ (by omega), Option.bind_some, if_pos (decide_eq_true h), S1 _ (by omega), Option.bind_some, if_pos (decide_eq_true h1)]
  · unfold impl_OutPut.f
    rw [C2, Option.bind_some, if_pos hb, Option.bind_some, I _ (by omega), Option.bind_some, if_pos (decide_eq_true h), I1 _ (by omega), Option.bind_some, if_pos (decide_eq_true h1)]
theorem FnExactOutPut (a0_0 : Int) (l0_1 : List S40) (a1_0 : Int) (a1_1 : Int) (a1_2 : Int) (a1_3 : Int) (w0_0 : (Lit.int .i64 a0_0).wf = true) (w0_1 : l0_1.length ≤ maxLen ∧ ∀ l0_1_e ∈ l0_1, (Lit.int .i64 l0_1_e.f0).wf = true ∧ (Lit.int .i64 l0_1_e.f1).wf = true ∧ (Lit.int .i64 l0_1_e.f2).wf = true ∧ (Lit.int .i64 l0_1_e.f3).wf = true) (w1_0 : (Lit.int .i64 a1_0).wf = true) (w1_1 : (Lit.int .i64 a1_1).wf = true) (w1_2 : (Lit.int .i64 a1_2).wf = true) (w1_3 : (Lit.int .i64 a1_3).wf = true) : ∃ k, laws_FnExactOutPut.f k a0_0 l0_1 a1_0 a1_1 a1_2 a1_3 = some true := by
  have z1 := szOut_1 a0_0 l0_1 (max_len w0_1.1)
  by_cases hs : l0_1.length ≤ 1048576
  case neg =>
    rw [if_neg hs] at z1
    exact ⟨0, by unfold laws_FnExactOutPut.f; rw [z1]; rfl⟩
  rw [if_pos hs] at z1
  refine rounds_of (fun m hm => ?_)
  obtain ⟨l, hl⟩ : ∃ l, l = l0_1.map conv := ⟨_, rfl⟩
  have lm : l.length = l0_1.length := by rw [hl]; exact List.length_map ..
  have T := fun j => toOut_f a0_0 l0_1 (m + j) (by omega) (by omega)
  rw [← hl] at T
  have Q := fun j => eqOut_refl a0_0 l (m + j) (by omega) (by omega)
  have TM : laws_toMsg.f a1_0 a1_1 a1_2 a1_3 = some (a1_0, a1_1, a1_2, a1_3) := rfl
  obtain ⟨n', r, ok, hr, E⟩ := outPut_both a0_0 l a1_0 a1_1 a1_2 a1_3 (by omega)
  have E1 := fun j => (E (m + j) (by omega)).1
  have E2 := fun j => (E (m + j) (by omega)).2
  have Q' := fun j => eqOut_refl n' r (m + j) (by omega) (by omega)
  have M := fun j => markOut_1 a0_0 l (m + j) (by omega) (by omega)
  have M' := fun j => markOut_1 n' r (m + j) (by omega) (by omega)
  have H' := fun j => heldOut_1 n' r.length (m + j) (by omega) (by omega)
  clear E
  unfold laws_FnExactOutPut.f
  rw [z1, Option.bind_some, if_neg (by omega)]
  simp only [T, TM, E1, E2, Q, Q', M, M', H', Option.bind_some, if_true, bne_self_eq_false, laws_FnExactOutPut.j0, laws_FnExactOutPut.j1, laws_FnExactOutPut.j2, Bool.false_eq_true, if_false, natlt0]

end Go.Proofs.Ytfkoipmoikhehaa.Pure
