/- For all queues and numbers OutWorth of the program and of the reference answer alike. This text proves it of the plain functions, with no program in sight. Conditions: none but those of the given statement. -/
import Derived.Test.YtfkoipmoikhehaaPFnExactOutWorthx4
set_option linter.unusedVariables false
set_option linter.unusedSimpArgs false
namespace Go.Proofs.Ytfkoipmoikhehaa.Pure
open Go Go.RowKit Go.Proofs.Ytfkoipmoikhehaa.PFnExactOutWorth Go.Proofs.YtfkoipmoikhehaaW.PrintWords Go.Proofs.YtfkoipmoikhehaaW.PrintLast Go.Proofs.YtfkoipmoikhehaaW.PrintMore

theorem wrap_id {x : Int} (h0 : -9223372036854775808 ≤ x) (h1 : x ≤ 9223372036854775807) : wrap64 x = x := by
  unfold wrap64; omega
theorem rd_eq (l : List Int) (i : Nat) (h : i < l.length) : rd l (i : Int) = l[i] := by
  simp [rd, h]
theorem succ_cast (i : Nat) : (i : Int) + 1 = ((i + 1 : Nat) : Int) := by omega
theorem take_set_same (l m : List Int) (i : Nat) (hi : i < l.length) (hm : m.length = l.length) (ht : m.take i = l.take i) : (m.set i l[i]).take (i + 1) = l.take (i + 1) := by
  rw [List.take_succ_eq_append_getElem (by simp; omega), List.take_succ_eq_append_getElem hi]
  simp [List.take_set_of_le, ht]
theorem natlt0 (n : Nat) : ((n : Int) < 0) = False := by simp
theorem wrap_nat (n : Nat) (h : n ≤ 9223372036854775807) : wrap64 (n : Int) = (n : Int) := wrap_id (by omega) (by omega)
theorem wrap_succ (n : Nat) (h : n < 9223372036854775807) : wrap64 ((n : Int) + 1) = ((n + 1 : Nat) : Int) := by rw [wrap_id (by omega) (by omega)]; omega
theorem u8_of_wf {x : Int} (h : (Lit.int .u8 x).wf = true) : 0 ≤ x ∧ x < 256 := by
  simp [Lit.wf, IntKind.min, IntKind.max, IntKind.signed, IntKind.bits] at h
  omega
theorem i64_of_wf {x : Int} (h : (Lit.int .i64 x).wf = true) : -9223372036854775808 ≤ x ∧ x ≤ 9223372036854775807 := by
  simp [Lit.wf, IntKind.min, IntKind.max, IntKind.signed, IntKind.bits] at h
  omega
theorem max_len {α : Type} {l : List α} (h : l.length ≤ maxLen) : l.length ≤ 9223372036854775807 := by
  unfold maxLen at h; omega
theorem rounds_of {f : Nat → Option Bool} (h : ∀ m, 20000000 ≤ m → f (m + 8) = some true) : ∃ k, f k = some true := by
  obtain ⟨m, hm⟩ : ∃ m : Nat, 20000000 ≤ m := ⟨_, Nat.le_refl _⟩
  exact ⟨m + 8, h m hm⟩

theorem rd_M (l : List S35) (i : Nat) (h : i < l.length) : rd_T35 l (i : Int) = l[i] := by
  simp [rd_T35, h]
theorem eqMsgS_l0 (l : List S35) (hl : l.length ≤ 140737488351232) (d : Nat) : ∀ (k : Nat) (i : Nat), i + d = l.length → d < k → laws_eqMsgS.l0 k l l (i : Int) = some true := by
  induction d with
  | zero =>
    intro k i hi hk
    obtain ⟨k, rfl⟩ : ∃ m, k = m + 1 := ⟨k - 1, by omega⟩
    simp only [laws_eqMsgS.l0]
    rw [if_neg (by omega)]
  | succ d ih =>
    intro k i hi hk
    obtain ⟨k, rfl⟩ : ∃ m, k = m + 1 := ⟨k - 1, by omega⟩
    simp only [laws_eqMsgS.l0, laws_eqMsg.f, if_true, Option.bind_some]
    rw [if_pos (by omega), if_pos (by omega), if_pos (by omega), wrap_id (by omega) (by omega), succ_cast]
    exact ih k (i + 1) (by omega) (by omega)
theorem eqMsgS_refl (l : List S35) (k : Nat) (hk : l.length < k) (hl : l.length ≤ 140737488351232) : laws_eqMsgS.f k l l = some true := by
  unfold laws_eqMsgS.f
  rw [if_pos rfl]
  exact eqMsgS_l0 l hl l.length k 0 (by omega) hk
theorem eqOut_refl (n : Int) (l : List S35) (k : Nat) (hk : l.length < k) (hl : l.length ≤ 140737488351232) : laws_eqOut.f k n l n l = some true := by
  unfold laws_eqOut.f
  rw [if_pos rfl, eqMsgS_refl l k hk hl, Option.bind_some, if_pos rfl]

theorem rd_L (l : List S40) (i : Nat) (h : i < l.length) : rd_T40 l (i : Int) = l[i] := by
  simp [rd_T40, h]
def conv (x : S40) : S35 := ⟨x.f0, x.f1, x.f2, x.f3⟩
theorem toMsgS_l0 (l : List S40) (hl : l.length ≤ 140737488351232) (d : Nat) : ∀ (k : Nat) (x3 : List S35) (i : Nat), i + d = l.length → d < k → x3.length = l.length → x3.take i = (l.map conv).take i → laws_toMsgS.l0 k l x3 (i : Int) = some (l.map conv) := by
  induction d with
  | zero =>
    intro k x3 i hi hk h3 ht
    obtain ⟨k, rfl⟩ : ∃ m, k = m + 1 := ⟨k - 1, by omega⟩
    simp only [laws_toMsgS.l0]
    rw [if_neg (by omega)]
    rw [List.take_of_length_le (by omega), List.take_of_length_le (by rw [List.length_map]; omega)] at ht
    rw [ht]
  | succ d ih =>
    intro k x3 i hi hk h3 ht
    obtain ⟨k, rfl⟩ : ∃ m, k = m + 1 := ⟨k - 1, by omega⟩
    have hlt : i < l.length := by omega
    simp only [laws_toMsgS.l0, laws_toMsg.f, Option.bind_some]
    rw [if_pos (by omega), if_pos (by omega), if_pos (by omega), wrap_id (by omega) (by omega), succ_cast, Int.toNat_natCast, rd_L l i hlt]
    refine ih k _ (i + 1) (by omega) (by omega) (by simp [h3]) ?_
    rw [List.take_succ_eq_append_getElem (by simp; omega), List.take_succ_eq_append_getElem (by simp; omega)]
    simp [List.take_set_of_le, ht, conv]
theorem toMsgS_f (l : List S40) (k : Nat) (hk : l.length < k) (hl : l.length ≤ 1048576) : laws_toMsgS.f k l = some (l.map conv) := by
  unfold laws_toMsgS.f
  rw [if_pos (by omega), if_pos (by omega)]
  exact toMsgS_l0 l (by omega) l.length k _ 0 (by omega) hk (by simp) (by simp)
theorem toOut_f (n : Int) (l : List S40) (k : Nat) (hk : l.length < k) (hl : l.length ≤ 1048576) : laws_toOut.f k n l = some (n, l.map conv) := by
  unfold laws_toOut.f
  rw [toMsgS_f l k hk hl]
  rfl
theorem szOut_f (n : Int) (l : List S40) (t : Nat) (ht : t ≤ 1048576) (hl : l.length ≤ 9223372036854775807) : laws_szOut.f n l (t : Int) = if l.length ≤ t then some ((t - l.length : Nat) : Int) else some (-1) := by
  unfold laws_szOut.f laws_szMsgS.f
  rw [wrap_id (x := (t : Int) - (l.length : Int)) (by omega) (by omega)]
  by_cases h : l.length ≤ t
  · rw [if_neg (by omega), Option.bind_some, if_neg (by omega), if_pos h]
    congr 1
    omega
  · rw [if_pos (by omega), Option.bind_some, if_pos (by omega), if_neg h]
theorem szOut_1 (n : Int) (l : List S40) (hl : l.length ≤ 9223372036854775807) : laws_szOut.f n l 1048576 = if l.length ≤ 1048576 then some ((1048576 - l.length : Nat) : Int) else some (-1) :=
  szOut_f n l 1048576 (Nat.le_refl _) hl

/-- A message is valid. -/
def Mok (a b c d : Int) : Prop := (0 ≤ b ∧ b ≤ 2) ∧ (0 ≤ d ∧ d ≤ 2) ∧ (d = 0 ∨ a = 2) ∧ (((a = 1 ∨ a = 2 ∨ a = 3) ∧ 1 ≤ c ∧ c ≤ 1000000000) ∨ (a = 4 ∧ 0 ≤ c ∧ c ≤ 3) ∨ (a = 5 ∧ 0 ≤ c ∧ c ≤ 1125899906842624))
instance (a b c d : Int) : Decidable (Mok a b c d) := by unfold Mok; infer_instance
theorem iin_f (n lo hi : Int) : impl_in.f n lo hi = some (decide (lo ≤ n ∧ n ≤ hi)) := by
  unfold impl_in.f
  by_cases h : n ≥ lo
  · rw [if_pos h]
    congr 1
    exact decide_eq_decide.mpr ⟨fun h2 => ⟨h, h2⟩, fun h2 => h2.2⟩
  · rw [if_neg h, decide_eq_false (fun h2 => h h2.1)]
theorem sin_f (n lo hi : Int) : spec_l01In.f n lo hi = some (decide (lo ≤ n ∧ n ≤ hi)) := iin_f n lo hi
theorem iMsgOk_j1 (k : Nat) (x : Int) (y : Bool) (p q r s : Int) : impl_MsgOk.j1 (k + 1) x y p q r s = some (decide ((y = true ∧ 1 ≤ r ∧ r ≤ 1000000000) ∨ (y = false ∧ x = 4 ∧ 0 ≤ r ∧ r ≤ 3) ∨ (y = false ∧ x = 5 ∧ 0 ≤ r ∧ r ≤ 1125899906842624))) := by
  simp only [impl_MsgOk.j1, impl_IsAmt.f, impl_isNum.f, iin_f, Option.bind_some]
  cases y with
  | true => simp
  | false =>
    by_cases h4 : x = 4
    · simp [h4]
    · by_cases h5 : x = 5
      · simp [h5]
      · simp [h4, h5]
theorem sMsgOk_j1 (k : Nat) (x : Int) (y : Bool) (p q r s : Int) : spec_MsgOk.j1 (k + 1) x y p q r s = some (decide ((y = true ∧ 1 ≤ r ∧ r ≤ 1000000000) ∨ (y = false ∧ x = 4 ∧ 0 ≤ r ∧ r ≤ 3) ∨ (y = false ∧ x = 5 ∧ 0 ≤ r ∧ r ≤ 1125899906842624))) := by
  simp only [spec_MsgOk.j1, spec_IsAmt.f, spec_l01Num.f, sin_f, Option.bind_some]
  cases y with
  | true => simp
  | false =>
    by_cases h4 : x = 4
    · simp [h4]
    · by_cases h5 : x = 5
      · simp [h5]
      · simp [h4, h5]
theorem iMsgOk_j0 (k : Nat) (p q r s : Int) : impl_MsgOk.j0 (k + 2) false p q r s = some (decide (((p = 1 ∨ p = 2 ∨ p = 3) ∧ 1 ≤ r ∧ r ≤ 1000000000) ∨ (p = 4 ∧ 0 ≤ r ∧ r ≤ 3) ∨ (p = 5 ∧ 0 ≤ r ∧ r ≤ 1125899906842624))) := by
  simp only [impl_MsgOk.j0, iMsgOk_j1]
  by_cases h1 : p = 1
  · subst h1; simp
  · by_cases h2 : p = 2
    · subst h2; simp
    · by_cases h3 : p = 3
      · subst h3; simp
      · simp [h1, h2, h3]
theorem sMsgOk_j0 (k : Nat) (p q r s : Int) : spec_MsgOk.j0 (k + 2) false p q r s = some (decide (((p = 1 ∨ p = 2 ∨ p = 3) ∧ 1 ≤ r ∧ r ≤ 1000000000) ∨ (p = 4 ∧ 0 ≤ r ∧ r ≤ 3) ∨ (p = 5 ∧ 0 ≤ r ∧ r ≤ 1125899906842624))) := by
  simp only [spec_MsgOk.j0, sMsgOk_j1]
  by_cases h1 : p = 1
  · subst h1; simp
  · by_cases h2 : p = 2
    · subst h2; simp
    · by_cases h3 : p = 3
      · subst h3; simp
      · simp [h1, h2, h3]
theorem iMsgOk_t (k : Nat) (p q r s : Int) : impl_MsgOk.j0 (k + 2) true p q r s = some false := by simp only [impl_MsgOk.j0, if_true]
theorem sMsgOk_t (k : Nat) (p q r s : Int) : spec_MsgOk.j0 (k + 2) true p q r s = some false := by simp only [spec_MsgOk.j0, if_true]
theorem iMsgOk_f (k : Nat) (hk : 2 ≤ k) (a b c d : Int) : impl_MsgOk.f k a b c d = some (decide (Mok a b c d)) := by
  obtain ⟨m, rfl⟩ : ∃ m, k = m + 2 := ⟨k - 2, by omega⟩
  unfold impl_MsgOk.f
  simp only [iin_f, Option.bind_some]
  by_cases hb : 0 ≤ b ∧ b ≤ 2
  · rw [if_pos (decide_eq_true hb)]
    by_cases hd : 0 ≤ d ∧ d ≤ 2
    · rw [if_pos (decide_eq_true hd)]
      by_cases h0 : d = 0
      · rw [if_pos h0, iMsgOk_j0]
        congr 1
        exact decide_eq_decide.mpr ⟨fun h => ⟨hb, hd, Or.inl h0, h⟩, fun h => h.2.2.2⟩
      · rw [if_neg h0]
        by_cases h2 : a = 2
        · rw [show (a != 2) = false by simpa using h2, iMsgOk_j0]
          congr 1
          exact decide_eq_decide.mpr ⟨fun h => ⟨hb, hd, Or.inr h2, h⟩, fun h => h.2.2.2⟩
        · rw [show (a != 2) = true by simpa using h2, iMsgOk_t, decide_eq_false (fun h => h.2.2.1.elim h0 h2)]
    · rw [if_neg (by simpa using hd), iMsgOk_t, decide_eq_false (fun h => hd h.2.1)]
  · rw [if_neg (by simpa using hb), iMsgOk_t, decide_eq_false (fun h => hb h.1)]
theorem sMsgOk_f (k : Nat) (hk : 2 ≤ k) (a b c d : Int) : spec_MsgOk.f k a b c d = some (decide (Mok a b c d)) := by
  obtain ⟨m, rfl⟩ : ∃ m, k = m + 2 := ⟨k - 2, by omega⟩
  unfold spec_MsgOk.f
  simp only [sin_f, Option.bind_some]
  by_cases hb : 0 ≤ b ∧ b ≤ 2
  · rw [if_pos (decide_eq_true hb)]
    by_cases hd : 0 ≤ d ∧ d ≤ 2
    · rw [if_pos (decide_eq_true hd)]
      by_cases h2 : a = 2
      · rw [if_pos h2, sMsgOk_j0]
        congr 1
        exact decide_eq_decide.mpr ⟨fun h => ⟨hb, hd, Or.inr h2, h⟩, fun h => h.2.2.2⟩
      · rw [if_neg h2]
        by_cases h0 : d = 0
        · rw [show (d != 0) = false by simpa using h0, sMsgOk_j0]
          congr 1
          exact decide_eq_decide.mpr ⟨fun h => ⟨hb, hd, Or.inl h0, h⟩, fun h => h.2.2.2⟩
        · rw [show (d != 0) = true by simpa using h0, sMsgOk_t, decide_eq_false (fun h => h.2.2.1.elim h0 h2)]
    · rw [if_neg (by simpa using hd), sMsgOk_t, decide_eq_false (fun h => hd h.2.1)]
  · rw [if_neg (by simpa using hb), sMsgOk_t, decide_eq_false (fun h => hb h.1)]

def MokS (x : S35) : Prop := Mok x.f0 x.f1 x.f2 x.f3
instance (x : S35) : Decidable (MokS x) := by unfold MokS; infer_instance
theorem iMsgOk_S (k : Nat) (hk : 2 ≤ k) (x : S35) : impl_MsgOk.f k x.f0 x.f1 x.f2 x.f3 = some (decide (MokS x)) := iMsgOk_f k hk _ _ _ _
theorem sMsgOk_S (k : Nat) (hk : 2 ≤ k) (x : S35) : spec_MsgOk.f k x.f0 x.f1 x.f2 x.f3 = some (decide (MokS x)) := sMsgOk_f k hk _ _ _ _
/-- A queue is valid. -/
def Ook (n : Int) (l : List S35) : Prop := (∀ x ∈ l, MokS x) ∧ 1 ≤ n ∧ n ≤ 1125899906842624 ∧ l.length ≤ 60 ∧ (l.length : Int) < n
instance (n : Int) (l : List S35) : Decidable (Ook n l) := by unfold Ook; infer_instance
theorem dropS (l : List S35) (i : Nat) (h : i < l.length) : l.drop i = l[i] :: l.drop (i + 1) := List.drop_eq_getElem_cons h
theorem iOutOk_l0 (n : Int) (l : List S35) (hl : l.length ≤ 140737488351232) (d : Nat) : ∀ (k i : Nat), i + d = l.length → d + 2 < k →
    impl_OutOk.l0 k l (l.length : Int) (i : Int) n l = some (decide ((∀ x ∈ l.drop i, MokS x) ∧ 1 ≤ n ∧ n ≤ 1125899906842624 ∧ l.length ≤ 60 ∧ (l.length : Int) < n)) := by
  induction d with
  | zero =>
    intro k i hi hk
    obtain ⟨k, rfl⟩ : ∃ m, k = m + 1 := ⟨k - 1, by omega⟩
    simp only [impl_OutOk.l0]
    rw [if_neg (by omega), List.drop_of_length_le (by omega), iin_f, Option.bind_some]
    have hn : ∀ x ∈ ([] : List S35), MokS x := fun x hx => by cases hx
    by_cases h1 : 1 ≤ n ∧ n ≤ 1125899906842624
    · rw [if_pos (decide_eq_true h1)]
      by_cases h2 : (l.length : Int) ≤ 60
      · rw [if_pos h2]
        congr 1
        exact decide_eq_decide.mpr ⟨fun h => ⟨hn, h1.1, h1.2, by omega, h⟩, fun h => h.2.2.2.2⟩
      · rw [if_neg h2, decide_eq_false (fun h => h2 (by have := h.2.2.2.1; omega))]
    · rw [if_neg (by simpa using h1), decide_eq_false (fun h => h1 ⟨h.2.1, h.2.2.1⟩)]
  | succ d ih =>
    intro k i hi hk
    obtain ⟨k, rfl⟩ : ∃ m, k = m + 1 := ⟨k - 1, by omega⟩
    have hlt : i < l.length := by omega
    simp only [impl_OutOk.l0]
    rw [if_pos (by omega), if_pos (by omega), if_pos (by omega), rd_M l i hlt, iMsgOk_S k (by omega), Option.bind_some, wrap_succ i (by omega), ih k (i + 1) (by omega) (by omega), dropS l i hlt]
    by_cases h : MokS l[i]
    · rw [if_pos (decide_eq_true h)]
      congr 1
      exact decide_eq_decide.mpr (by simp only [List.mem_cons, forall_eq_or_imp, h, true_and])
    · rw [if_neg (by simpa using h), decide_eq_false (fun g => h (g.1 _ (List.mem_cons_self ..)))]
theorem sOutOk_l0 (n : Int) (l : List S35) (hl : l.length ≤ 140737488351232) (d : Nat) : ∀ (k i : Nat), i + d = l.length → d + 2 < k →
    spec_OutOk.l0 k l (l.length : Int) (i : Int) n l = some (decide ((∀ x ∈ l.drop i, MokS x) ∧ 1 ≤ n ∧ n ≤ 1125899906842624 ∧ l.length ≤ 60 ∧ (l.length : Int) < n)) := by
  induction d with
  | zero =>
    intro k i hi hk
    obtain ⟨k, rfl⟩ : ∃ m, k = m + 1 := ⟨k - 1, by omega⟩
    simp only [spec_OutOk.l0]
    rw [if_neg (by omega), List.drop_of_length_le (by omega), sin_f, Option.bind_some]
    have hn : ∀ x ∈ ([] : List S35), MokS x := fun x hx => by cases hx
    by_cases h1 : 1 ≤ n ∧ n ≤ 1125899906842624
    · rw [if_pos (decide_eq_true h1)]
      by_cases h2 : (l.length : Int) ≤ 60
      · rw [if_pos h2]
        congr 1
        exact decide_eq_decide.mpr ⟨fun h => ⟨hn, h1.1, h1.2, by omega, h⟩, fun h => h.2.2.2.2⟩
      · rw [if_neg h2, decide_eq_false (fun h => h2 (by have := h.2.2.2.1; omega))]
    · rw [if_neg (by simpa using h1), decide_eq_false (fun h => h1 ⟨h.2.1, h.2.2.1⟩)]
  | succ d ih =>
    intro k i hi hk
    obtain ⟨k, rfl⟩ : ∃ m, k = m + 1 := ⟨k - 1, by omega⟩
    have hlt : i < l.length := by omega
    simp only [spec_OutOk.l0]
    rw [if_pos (by omega), if_pos (by omega), if_pos (by omega), rd_M l i hlt, sMsgOk_S k (by omega), Option.bind_some, wrap_succ i (by omega), ih k (i + 1) (by omega) (by omega), dropS l i hlt]
    by_cases h : MokS l[i]
    · rw [if_pos (decide_eq_true h)]
      congr 1
      exact decide_eq_decide.mpr (by simp only [List.mem_cons, forall_eq_or_imp, h, true_and])
    · rw [if_neg (by simpa using h), decide_eq_false (fun g => h (g.1 _ (List.mem_cons_self ..)))]
theorem iOutOk_f (k : Nat) (n : Int) (l : List S35) (hk : l.length + 2 < k) (hl : l.length ≤ 140737488351232) : impl_OutOk.f k n l = some (decide (Ook n l)) :=
  iOutOk_l0 n l hl l.length k 0 (by omega) hk
theorem sOutOk_f (k : Nat) (n : Int) (l : List S35) (hk : l.length + 2 < k) (hl : l.length ≤ 140737488351232) : spec_OutOk.f k n l = some (decide (Ook n l)) :=
  sOutOk_l0 n l hl l.length k 0 (by omega) hk

theorem iOutFirst_f (k : Nat) (n : Int) (l : List S35) (hk : l.length + 2 < k) (hl : l.length ≤ 140737488351232) : impl_OutFirst.f k n l = some (if Ook n l then n - l.length else 0) := by
  unfold impl_OutFirst.f
  rw [iOutOk_f k n l hk hl, Option.bind_some]
  by_cases h : Ook n l
  · have h' := h
    unfold Ook at h'
    rw [if_pos (decide_eq_true h), if_pos h, wrap_id (by omega) (by omega)]
  · rw [if_neg (by simpa using h), if_neg h]
theorem sOutFirst_f (k : Nat) (n : Int) (l : List S35) (hk : l.length + 2 < k) (hl : l.length ≤ 140737488351232) : spec_OutFirst.f k n l = some (if Ook n l then n - l.length else 0) := by
  unfold spec_OutFirst.f
  rw [sOutOk_f k n l hk hl, Option.bind_some]
  by_cases h : Ook n l
  · have h' := h
    unfold Ook at h'
    rw [if_pos (decide_eq_true h), if_pos h, wrap_id (by omega) (by omega)]
  · rw [if_neg (by simpa using h), if_neg h]

def Wth (x : S35) : Int := if MokS x ∧ x.f0 ≤ 3 then x.f2 else 0
theorem mok_kind (x : S35) (h : MokS x) : 1 ≤ x.f0 := by
  unfold MokS Mok at h
  omega
theorem iMsgWorth_S (k : Nat) (hk : 2 ≤ k) (x : S35) : impl_MsgWorth.f k x.f0 x.f1 x.f2 x.f3 = some (Wth x) := by
  unfold impl_MsgWorth.f Wth
  rw [iMsgOk_S k hk x, Option.bind_some, iin_f]
  by_cases h : MokS x
  · have hk := mok_kind x h
    by_cases h3 : x.f0 ≤ 3
    · simp [h, h3, hk]
    · simp [h, h3]
  · simp [h]
theorem sMsgWorth_S (k : Nat) (hk : 2 ≤ k) (x : S35) : spec_MsgWorth.f k x.f0 x.f1 x.f2 x.f3 = some (Wth x) := by
  unfold spec_MsgWorth.f Wth
  rw [sMsgOk_S k hk x, Option.bind_some]
  by_cases h : MokS x
  · by_cases h3 : x.f0 ≤ 3
    · have : ¬ x.f0 > 3 := by omega
      simp [h, h3, this]
    · have : x.f0 > 3 := by omega
      simp [h, h3, this]
  · simp [h]

theorem worth_bad (n : Int) (l : List S35) (last : Int) (hl : l.length ≤ 1048576) (ho : ¬ Ook n l) (d : Nat) : ∀ (i : Nat) (x : Int) (k : Nat), i + d = l.length → d + l.length + 8 ≤ k → spec_OutWorth.l0 k last x l (l.length : Int) (i : Int) n l = some x := by
  induction d with
  | zero =>
    intro i x k hi hk
    obtain ⟨k, rfl⟩ : ∃ m, k = m + 1 := ⟨k - 1, by omega⟩
    simp only [spec_OutWorth.l0]
    rw [if_neg (by omega)]
  | succ d ih =>
    intro i x k hi hk
    obtain ⟨k, rfl⟩ : ∃ m, k = m + 1 := ⟨k - 1, by omega⟩
    simp only [spec_OutWorth.l0]
    rw [if_pos (by omega), if_pos (by omega), if_pos (by omega), sOutOk_f k n l (by omega) (by omega), Option.bind_some, decide_eq_false ho, if_neg (by decide), wrap_succ i (by omega)]
    exact ih (i + 1) x k (by omega) (by omega)
theorem worth_ok (n : Int) (l : List S35) (last : Int) (hl : l.length ≤ 1048576) (ho : Ook n l) (d : Nat) : ∀ (i : Nat) (x : Int), i + d = l.length → ∃ r, ∀ k, d + l.length + 8 ≤ k →
    spec_OutWorth.l0 k last x l (l.length : Int) (i : Int) n l = some r ∧ impl_worthOf.l0 k last x l (l.length : Int) (i : Int) n l = some r := by
  induction d with
  | zero =>
    intro i x hi
    refine ⟨x, fun k hk => ?_⟩
    obtain ⟨k, rfl⟩ : ∃ m, k = m + 1 := ⟨k - 1, by omega⟩
    simp only [spec_OutWorth.l0, impl_worthOf.l0]
    rw [if_neg (by omega), if_neg (by omega)]
    exact ⟨rfl, rfl⟩
  | succ d ih =>
    intro i x hi
    have F : ∀ k, l.length + 2 < k → spec_OutFirst.f k n l = some (n - l.length) ∧ impl_OutFirst.f k n l = some (n - l.length) := by
      intro k hk
      rw [sOutFirst_f k n l hk (by omega), iOutFirst_f k n l hk (by omega), if_pos ho]
      exact ⟨rfl, rfl⟩
    have hr : rd_T35 l (i : Int) = l[i] := rd_M l i (by omega)
    by_cases hc : (wrap64 ((n - (l.length : Int)) + (i : Int))) > last
    · obtain ⟨r, h⟩ := ih (i + 1) (wrap64 (x + Wth l[i])) (by omega)
      refine ⟨r, fun k hk => ?_⟩
      obtain ⟨k, rfl⟩ : ∃ m, k = m + 1 := ⟨k - 1, by omega⟩
      have g := h k (by omega)
      have f := F k (by omega)
      refine ⟨?_, ?_⟩
      · simp only [spec_OutWorth.l0]
        rw [if_pos (by omega), if_pos (by omega), if_pos (by omega), sOutOk_f k n l (by omega) (by omega), Option.bind_some, decide_eq_true ho, if_pos rfl, f.1, Option.bind_some, if_pos hc, hr, sMsgWorth_S k (by omega), Option.bind_some, wrap_succ i (by omega)]
        exact g.1
      · simp only [impl_worthOf.l0]
        rw [if_pos (by omega), if_pos (by omega), if_pos (by omega), f.2, Option.bind_some, if_pos hc]
        unfold impl_OutWorth_1.f
        rw [Option.bind_some, if_pos rfl, hr, iMsgWorth_S k (by omega), Option.bind_some, wrap_succ i (by omega)]
        exact g.2
    · obtain ⟨r, h⟩ := ih (i + 1) x (by omega)
      refine ⟨r, fun k hk => ?_⟩
      obtain ⟨k, rfl⟩ : ∃ m, k = m + 1 := ⟨k - 1, by omega⟩
      have g := h k (by omega)
      have f := F k (by omega)
      refine ⟨?_, ?_⟩
      · simp only [spec_OutWorth.l0]
        rw [if_pos (by omega), if_pos (by omega), if_pos (by omega), sOutOk_f k n l (by omega) (by omega), Option.bind_some, decide_eq_true ho, if_pos rfl, f.1, Option.bind_some, if_neg hc, wrap_succ i (by omega)]
        exact g.1
      · simp only [impl_worthOf.l0]
        rw [if_pos (by omega), if_pos (by omega), if_pos (by omega), f.2, Option.bind_some, if_neg hc, wrap_succ i (by omega)]
        exact g.2
theorem worth_f (n : Int) (l : List S35) (last : Int) (hl : l.length ≤ 1048576) : ∃ r, ∀ k, 2097200 ≤ k → spec_OutWorth.f k n l last = some r ∧ impl_OutWorth.f k n l last = some r := by
  by_cases ho : Ook n l
  · obtain ⟨r, h⟩ := worth_ok n l last hl ho l.length 0 0 (by omega)
    refine ⟨r, fun k hk => ?_⟩
    have g := h k (by omega)
    refine ⟨g.1, ?_⟩
    unfold impl_OutWorth.f impl_worthOf.f
    rw [iOutOk_f k n l (by omega) (by omega), Option.bind_some, decide_eq_true ho, if_pos rfl]
    have g2 := g.2
    rw [show ((0 : Nat) : Int) = 0 from rfl] at g2
    rw [g2]
    rfl
  · refine ⟨0, fun k hk => ⟨worth_bad n l last hl ho l.length 0 0 k (by omega) (by omega), ?_⟩⟩
    unfold impl_OutWorth.f impl_worthOf.f
    rw [iOutOk_f k n l (by omega) (by omega), Option.bind_some, decide_eq_false ho, if_neg (by decide)]
    rfl
theorem FnExactOutWorth (a0_0 : Int) (l0_1 : List S40) (a1 : Int) (w0_0 : (Lit.int .i64 a0_0).wf = true) (w0_1 : l0_1.length ≤ maxLen ∧ ∀ l0_1_e ∈ l0_1, (Lit.int .i64 l0_1_e.f0).wf = true ∧ (Lit.int .i64 l0_1_e.f1).wf = true ∧ (Lit.int .i64 l0_1_e.f2).wf = true ∧ (Lit.int .i64 l0_1_e.f3).wf = true) (w1 : (Lit.int .i64 a1).wf = true) : ∃ k, laws_FnExactOutWorth.f k a0_0 l0_1 a1 = some true := by
  have z1 := szOut_1 a0_0 l0_1 (max_len w0_1.1)
  by_cases hs : l0_1.length ≤ 1048576
  case neg =>
    rw [if_neg hs] at z1
    exact ⟨0, by unfold laws_FnExactOutWorth.f; rw [z1]; rfl⟩
  rw [if_pos hs] at z1
  refine rounds_of (fun m hm => ?_)
  obtain ⟨l, hl⟩ : ∃ l, l = l0_1.map conv := ⟨_, rfl⟩
  have lm : l.length = l0_1.length := by rw [hl]; exact List.length_map ..
  have T := fun j => toOut_f a0_0 l0_1 (m + j) (by omega) (by omega)
  rw [← hl] at T
  have Q := fun j => eqOut_refl a0_0 l (m + j) (by omega) (by omega)
  obtain ⟨r, h⟩ := worth_f a0_0 l a1 (by omega)
  have E1 := (h (m + 8) (by omega)).1
  have E2 := (h (m + 8) (by omega)).2
  unfold laws_FnExactOutWorth.f
  rw [z1, Option.bind_some, if_neg (by omega)]
  simp only [T, E1, E2, Q, Option.bind_some, if_true]

end Go.Proofs.Ytfkoipmoikhehaa.Pure
