/- However often and in whatever order messages arrive, the program accepts each once and in order: the law FnOnce holds. This text proves it of the plain functions, with no program in sight. Conditions: none but those of the given statement. -/
import Derived.Test.YtfkoipmoikhehaaPFnOncex6
set_option linter.unusedVariables false
set_option linter.unusedSimpArgs false
namespace Go.Proofs.Ytfkoipmoikhehaa.Pure
open Go Go.RowKit Go.Proofs.Ytfkoipmoikhehaa.PFnOnce Go.Proofs.YtfkoipmoikhehaaW.PrintWords Go.Proofs.YtfkoipmoikhehaaW.PrintLast Go.Proofs.YtfkoipmoikhehaaW.PrintMore

theorem wrap_id {x : Int} (h0 : -9223372036854775808 ≤ x) (h1 : x ≤ 9223372036854775807) : wrap64 x = x := by
  unfold wrap64; omega
theorem rd_eq (l : List Int) (i : Nat) (h : i < l.length) : rd l (i : Int) = l[i] := by
  simp [rd, h]
theorem succ_cast (i : Nat) : (i : Int) + 1 = ((i + 1 : Nat) : Int) := by omega
theorem take_set_same (l m : List Int) (i : Nat) (hi : i < l.length) (hm : m.length = l.length) (ht : m.take i = l.take i) : (m.set i l[i]).take (i + 1) = l.take (i + 1) := by
  rw [List.take_succ_eq_append_getElem (by simp; omega), List.take_succ_eq_append_getElem hi]
  simp [List.take_set_of_le, ht]
theorem natlt0 (n : Nat) : ((n : Int) < 0) = False := by simp
theorem wrap_nat (n : Nat) (h : n ≤ 9223372036854775807) : wrap64 (n : Int) = (n : Int) := wrap_id (by omega) (by omega)
theorem wrap_succ (n : Nat) (h : n < 9223372036854775807) : wrap64 ((n : Int) + 1) = ((n + 1 : Nat) : Int) := by rw [wrap_id (by omega) (by omega)]; omega
theorem u8_of_wf {x : Int} (h : (Lit.int .u8 x).wf = true) : 0 ≤ x ∧ x < 256 := by
  simp [Lit.wf, IntKind.min, IntKind.max, IntKind.signed, IntKind.bits] at h
  omega
theorem i64_of_wf {x : Int} (h : (Lit.int .i64 x).wf = true) : -9223372036854775808 ≤ x ∧ x ≤ 9223372036854775807 := by
  simp [Lit.wf, IntKind.min, IntKind.max, IntKind.signed, IntKind.bits] at h
  omega
theorem max_len {α : Type} {l : List α} (h : l.length ≤ maxLen) : l.length ≤ 9223372036854775807 := by
  unfold maxLen at h; omega
theorem rounds_of {f : Nat → Option Bool} (h : ∀ m, 20000000 ≤ m → f (m + 8) = some true) : ∃ k, f k = some true := by
  obtain ⟨m, hm⟩ : ∃ m : Nat, 20000000 ≤ m := ⟨_, Nat.le_refl _⟩
  exact ⟨m + 8, h m hm⟩

/-- A message is valid. -/
def Mok (a b c d : Int) : Prop := (0 ≤ b ∧ b ≤ 2) ∧ (0 ≤ d ∧ d ≤ 2) ∧ (d = 0 ∨ a = 2) ∧ (((a = 1 ∨ a = 2 ∨ a = 3) ∧ 1 ≤ c ∧ c ≤ 1000000000) ∨ (a = 4 ∧ 0 ≤ c ∧ c ≤ 3) ∨ (a = 5 ∧ 0 ≤ c ∧ c ≤ 1125899906842624))
instance (a b c d : Int) : Decidable (Mok a b c d) := by unfold Mok; infer_instance
theorem iin_f (n lo hi : Int) : impl_in.f n lo hi = some (decide (lo ≤ n ∧ n ≤ hi)) := by
  unfold impl_in.f
  by_cases h : n ≥ lo
  · rw [if_pos h]
    congr 1
    exact decide_eq_decide.mpr ⟨fun h2 => ⟨h, h2⟩, fun h2 => h2.2⟩
  · rw [if_neg h, decide_eq_false (fun h2 => h h2.1)]
theorem iMsgOk_j1 (k : Nat) (x : Int) (y : Bool) (p q r s : Int) : impl_MsgOk.j1 (k + 1) x y p q r s = some (decide ((y = true ∧ 1 ≤ r ∧ r ≤ 1000000000) ∨ (y = false ∧ x = 4 ∧ 0 ≤ r ∧ r ≤ 3) ∨ (y = false ∧ x = 5 ∧ 0 ≤ r ∧ r ≤ 1125899906842624))) := by
  simp only [impl_MsgOk.j1, impl_IsAmt.f, impl_isNum.f, iin_f, Option.bind_some]
  cases y with
  | true => simp
  | false =>
    by_cases h4 : x = 4
    · simp [h4]
    · by_cases h5 : x = 5
      · simp [h5]
      · simp [h4, h5]
theorem iMsgOk_j0 (k : Nat) (p q r s : Int) : impl_MsgOk.j0 (k + 2) false p q r s = some (decide (((p = 1 ∨ p = 2 ∨ p = 3) ∧ 1 ≤ r ∧ r ≤ 1000000000) ∨ (p = 4 ∧ 0 ≤ r ∧ r ≤ 3) ∨ (p = 5 ∧ 0 ≤ r ∧ r ≤ 1125899906842624))) := by
  simp only [impl_MsgOk.j0, iMsgOk_j1]
  by_cases h1 : p = 1
  · subst h1; simp
  · by_cases h2 : p = 2
    · subst h2; simp
    · by_cases h3 : p = 3
      · subst h3; simp
      · simp [h1, h2, h3]
theorem iMsgOk_t (k : Nat) (p q r s : Int) : impl_MsgOk.j0 (k + 2) true p q r s = some false := by simp only [impl_MsgOk.j0, if_true]
theorem iMsgOk_f (k : Nat) (hk : 2 ≤ k) (a b c d : Int) : impl_MsgOk.f k a b c d = some (decide (Mok a b c d)) := by
  obtain ⟨m, rfl⟩ : ∃ m, k = m + 2 := ⟨k - 2, by omega⟩
  unfold impl_MsgOk.f
  simp only [iin_f, Option.bind_some]
  by_cases hb : 0 ≤ b ∧ b ≤ 2
  · rw [if_pos (decide_eq_true hb)]
    by_cases hd : 0 ≤ d ∧ d ≤ 2
    · rw [if_pos (decide_eq_true hd)]
      by_cases h0 : d = 0
      · rw [if_pos h0, iMsgOk_j0]
        congr 1
        exact decide_eq_decide.mpr ⟨fun h => ⟨hb, hd, Or.inl h0, h⟩, fun h => h.2.2.2⟩
      · rw [if_neg h0]
        by_cases h2 : a = 2
        · rw [show (a != 2) = false by simpa using h2, iMsgOk_j0]
          congr 1
          exact decide_eq_decide.mpr ⟨fun h => ⟨hb, hd, Or.inr h2, h⟩, fun h => h.2.2.2⟩
        · rw [show (a != 2) = true by simpa using h2, iMsgOk_t, decide_eq_false (fun h => h.2.2.1.elim h0 h2)]
    · rw [if_neg (by simpa using hd), iMsgOk_t, decide_eq_false (fun h => hd h.2.1)]
  · rw [if_neg (by simpa using hb), iMsgOk_t, decide_eq_false (fun h => hb h.1)]
theorem rd_M (l : List S35) (i : Nat) (h : i < l.length) : rd_T35 l (i : Int) = l[i] := by
  simp [rd_T35, h]
def MokS (x : S35) : Prop := Mok x.f0 x.f1 x.f2 x.f3
instance (x : S35) : Decidable (MokS x) := by unfold MokS; infer_instance
theorem iMsgOk_S (k : Nat) (hk : 2 ≤ k) (x : S35) : impl_MsgOk.f k x.f0 x.f1 x.f2 x.f3 = some (decide (MokS x)) := iMsgOk_f k hk _ _ _ _
/-- A queue is valid. -/
def Ook (n : Int) (l : List S35) : Prop := (∀ x ∈ l, MokS x) ∧ 1 ≤ n ∧ n ≤ 1125899906842624 ∧ l.length ≤ 60 ∧ (l.length : Int) < n
instance (n : Int) (l : List S35) : Decidable (Ook n l) := by unfold Ook; infer_instance
theorem dropS (l : List S35) (i : Nat) (h : i < l.length) : l.drop i = l[i] :: l.drop (i + 1) := List.drop_eq_getElem_cons h
theorem iOutOk_l0 (n : Int) (l : List S35) (hl : l.length ≤ 140737488351232) (d : Nat) : ∀ (k i : Nat), i + d = l.length → d + 2 < k →
    impl_OutOk.l0 k l (l.length : Int) (i : Int) n l = some (decide ((∀ x ∈ l.drop i, MokS x) ∧ 1 ≤ n ∧ n ≤ 1125899906842624 ∧ l.length ≤ 60 ∧ (l.length : Int) < n)) := by
  induction d with
  | zero =>
    intro k i hi hk
    obtain ⟨k, rfl⟩ : ∃ m, k = m + 1 := ⟨k - 1, by omega⟩
    simp only [impl_OutOk.l0]
    rw [if_neg (by omega), List.drop_of_length_le (by omega), iin_f, Option.bind_some]
    have hn : ∀ x ∈ ([] : List S35), MokS x := fun x hx => by cases hx
    by_cases h1 : 1 ≤ n ∧ n ≤ 1125899906842624
    · rw [if_pos (decide_eq_true h1)]
      by_cases h2 : (l.length : Int) ≤ 60
      · rw [if_pos h2]
        congr 1
        exact decide_eq_decide.mpr ⟨fun h => ⟨hn, h1.1, h1.2, by omega, h⟩, fun h => h.2.2.2.2⟩
      · rw [if_neg h2, decide_eq_false (fun h => h2 (by have := h.2.2.2.1; omega))]
    · rw [if_neg (by simpa using h1), decide_eq_false (fun h => h1 ⟨h.2.1, h.2.2.1⟩)]
  | succ d ih =>
    intro k i hi hk
    obtain ⟨k, rfl⟩ : ∃ m, k = m + 1 := ⟨k - 1, by omega⟩
    have hlt : i < l.length := by omega
    simp only [impl_OutOk.l0]
    rw [if_pos (by omega), if_pos (by omega), if_pos (by omega), rd_M l i hlt, iMsgOk_S k (by omega), Option.bind_some, wrap_succ i (by omega), ih k (i + 1) (by omega) (by omega), dropS l i hlt]
    by_cases h : MokS l[i]
    · rw [if_pos (decide_eq_true h)]
      congr 1
      exact decide_eq_decide.mpr (by simp only [List.mem_cons, forall_eq_or_imp, h, true_and])
    · rw [if_neg (by simpa using h), decide_eq_false (fun g => h (g.1 _ (List.mem_cons_self ..)))]
theorem iOutOk_f (k : Nat) (n : Int) (l : List S35) (hk : l.length + 2 < k) (hl : l.length ≤ 140737488351232) : impl_OutOk.f k n l = some (decide (Ook n l)) :=
  iOutOk_l0 n l hl l.length k 0 (by omega) hk
theorem iOutFirst_f (k : Nat) (n : Int) (l : List S35) (hk : l.length + 2 < k) (hl : l.length ≤ 140737488351232) : impl_OutFirst.f k n l = some (if Ook n l then n - l.length else 0) := by
  unfold impl_OutFirst.f
  rw [iOutOk_f k n l hk hl, Option.bind_some]
  by_cases h : Ook n l
  · have h' := h
    unfold Ook at h'
    rw [if_pos (decide_eq_true h), if_pos h, wrap_id (by omega) (by omega)]
  · rw [if_neg (by simpa using h), if_neg h]
theorem and255 (x : Int) : 0 ≤ Go.bits .and .i64 x 255 ∧ Go.bits .and .i64 x 255 ≤ 255 := by
  have e : (BitVec.ofInt 64 (255 : Int)).toNat = 255 := rfl
  have h : Go.bits .and .i64 x 255 = IntKind.i64.wrap (((BitVec.ofInt 64 x).toNat &&& 255 : Nat) : Int) := by
    show IntKind.i64.wrap ((BitVec.ofInt 64 x &&& BitVec.ofInt 64 255).toNat : Int) = _
    rw [BitVec.toNat_and, e]
  have hle : (BitVec.ofInt 64 x).toNat &&& 255 ≤ 255 := Nat.and_le_right
  rw [h]
  generalize (BitVec.ofInt 64 x).toNat &&& 255 = n at hle
  simp only [IntKind.wrap, IntKind.bits, IntKind.signed]
  simp
  omega
theorem l01New_l0 (l : List Int) (d : Nat) : ∀ (x3 : Int) (i : Nat), i + d = 4000 → ∃ h, ∀ k, d < k → spec_l01New.l0 k l x3 (i : Int) = some (l, 0, h) := by
  induction d with
  | zero =>
    intro x3 i hi
    refine ⟨x3, fun k hk => ?_⟩
    obtain ⟨k, rfl⟩ : ∃ m, k = m + 1 := ⟨k - 1, by omega⟩
    simp only [spec_l01New.l0]
    by_cases hl : (i : Int) < (l.length : Int)
    · rw [if_pos hl, if_neg (by omega)]
    · rw [if_neg hl]
  | succ d ih =>
    intro x3 i hi
    by_cases hl : (i : Int) < (l.length : Int)
    · obtain ⟨h, hh⟩ := ih (Go.bits .and .i64 (wrap64 ((wrap64 ((wrap64 (x3 * 47)) + (wrap64 (rd l (i : Int))))) + 7)) 1073741823) (i + 1) (by omega)
      refine ⟨h, fun k hk => ?_⟩
      obtain ⟨k, rfl⟩ : ∃ m, k = m + 1 := ⟨k - 1, by omega⟩
      simp only [spec_l01New.l0]
      rw [if_pos hl, if_pos (by omega), if_pos (by omega), wrap_succ i (by omega)]
      exact hh k (by omega)
    · refine ⟨x3, fun k hk => ?_⟩
      obtain ⟨k, rfl⟩ : ∃ m, k = m + 1 := ⟨k - 1, by omega⟩
      simp only [spec_l01New.l0]
      rw [if_neg hl]
theorem l01New_f (l : List Int) : ∃ h, ∀ k, 4000 < k → spec_l01New.f k l = some (l, 0, h) := l01New_l0 l 4000 _ 0 (by omega)
theorem l01Byte_f (s : List Int) (hs : s.length ≤ 1048576) (i h : Int) (hi : 0 ≤ i) : ∃ r i' h', spec_l01Byte.f s i h = some (r, i', h') ∧ 0 ≤ i' ∧ 0 ≤ r ∧ r ≤ 255 := by
  unfold spec_l01Byte.f
  by_cases hl : i < (s.length : Int)
  · rw [if_pos hl, if_pos hi]
    exact ⟨_, _, _, rfl, by rw [wrap_id (by omega) (by omega)]; omega, (and255 _).1, (and255 _).2⟩
  · rw [if_neg hl]
    exact ⟨_, _, _, rfl, hi, (and255 _).1, (and255 _).2⟩
theorem tmod_in (a n : Int) (ha : 0 ≤ a) (hn : 0 < n) : 0 ≤ Int.tmod a n ∧ Int.tmod a n < n :=
  ⟨Int.tmod_nonneg n ha, Int.tmod_lt_of_pos a hn⟩
theorem l01Below_f (s : List Int) (hs : s.length ≤ 1048576) (i h n : Int) (hi : 0 ≤ i) : ∃ r i' h', spec_l01Below.f s i h n = some (r, i', h') ∧ 0 ≤ i' ∧ 0 ≤ r ∧ (0 < n → r < n) ∧ (n ≤ 0 → r = 0) := by
  unfold spec_l01Below.f
  by_cases h0 : n ≤ 0
  · rw [if_pos h0]
    exact ⟨_, _, _, rfl, hi, Int.le_refl _, fun h => by omega, fun _ => rfl⟩
  rw [if_neg h0]
  by_cases h1 : n ≤ 256
  · rw [if_pos h1]
    obtain ⟨r, i', h', e, hi', hr0, hr1⟩ := l01Byte_f s hs i h hi
    rw [e]
    simp only [Option.bind_some]
    rw [if_neg (by omega)]
    have t := tmod_in r n hr0 (by omega)
    exact ⟨_, _, _, rfl, hi', t.1, fun _ => t.2, fun h => absurd h h0⟩
  · rw [if_neg h1]
    obtain ⟨r1, i1, h1', e1, hi1, ha0, ha1⟩ := l01Byte_f s hs i h hi
    obtain ⟨r2, i2, h2', e2, hi2, hb0, hb1⟩ := l01Byte_f s hs i1 h1' hi1
    obtain ⟨r3, i3, h3', e3, hi3, hc0, hc1⟩ := l01Byte_f s hs i2 h2' hi2
    obtain ⟨r4, i4, h4', e4, hi4, hd0, hd1⟩ := l01Byte_f s hs i3 h3' hi3
    rw [e1]; simp only [Option.bind_some]
    rw [e2]; simp only [Option.bind_some]
    rw [e3]; simp only [Option.bind_some]
    rw [e4]; simp only [Option.bind_some]
    rw [if_neg (by omega), wrap_id (x := r1 * 16777216) (by omega) (by omega), wrap_id (x := r2 * 65536) (by omega) (by omega), wrap_id (x := r3 * 256) (by omega) (by omega),
      wrap_id (x := r1 * 16777216 + r2 * 65536) (by omega) (by omega), wrap_id (x := r1 * 16777216 + r2 * 65536 + r3 * 256) (by omega) (by omega), wrap_id (x := r1 * 16777216 + r2 * 65536 + r3 * 256 + r4) (by omega) (by omega)]
    have t := tmod_in (r1 * 16777216 + r2 * 65536 + r3 * 256 + r4) n (by omega) (by omega)
    exact ⟨_, _, _, rfl, hi4, t.1, fun _ => t.2, fun h => absurd h h0⟩

theorem rd_M0 (l : List S35) (i : Nat) (h : i < l.length) : rd_T35 l (i : Int) = l[i] := by
  unfold rd_T35
  rw [Int.toNat_natCast, List.getD_eq_getElem?_getD, List.getElem?_eq_getElem h]
  rfl
/-! what is drawn -/
theorem draw_ok (s : List Int) (hs : s.length ≤ 1048576) (i h : Int) (hi : 0 ≤ i) : ∃ (m : S35) (i' h' : Int), spec_l04Draw.f s i h = some (m.f0, m.f1, m.f2, m.f3, i', h') ∧ 0 ≤ i' ∧ MokS m := by
  obtain ⟨a, i1, h1, e1, hi1, a0, a1, _⟩ := l01Below_f s hs i h 5 hi
  obtain ⟨b, i2, h2, e2, hi2, b0, b1, _⟩ := l01Below_f s hs i1 h1 3 hi1
  obtain ⟨c, i3, h3, e3, hi3, c0, c1, _⟩ := l01Below_f s hs i2 h2 90 hi2
  have a1 := a1 (by omega)
  have b1 := b1 (by omega)
  have c1 := c1 (by omega)
  have wa : wrap64 (1 + a) = 1 + a := wrap_id (by omega) (by omega)
  have wc : wrap64 (1 + c) = 1 + c := wrap_id (by omega) (by omega)
  unfold spec_l04Draw.f
  rw [e1]; simp only [Option.bind_some]
  rw [e2]; simp only [Option.bind_some]
  rw [e3]; simp only [Option.bind_some]
  rw [wa, wc]
  by_cases h2 : 1 + a = 2
  · rw [if_pos h2]
    obtain ⟨d, i4, h4, e4, hi4, d0, d1, _⟩ := l01Below_f s hs i3 h3 3 hi3
    have d1 := d1 (by omega)
    rw [e4]; simp only [Option.bind_some]
    rw [if_neg (by omega)]
    exact ⟨⟨1 + a, b, 1 + c, d⟩, i4, h4, rfl, hi4, by unfold MokS Mok; dsimp only; omega⟩
  · rw [if_neg h2]
    by_cases h4 : 1 + a = 4
    · rw [if_pos h4]
      obtain ⟨d, i4, h4', e4, hi4, d0, d1, _⟩ := l01Below_f s hs i3 h3 4 hi3
      have d1 := d1 (by omega)
      rw [e4]; simp only [Option.bind_some]
      exact ⟨⟨1 + a, b, d, 0⟩, i4, h4', rfl, hi4, by unfold MokS Mok; dsimp only; omega⟩
    · rw [if_neg h4]
      exact ⟨⟨1 + a, b, 1 + c, 0⟩, i3, h3, rfl, hi3, by unfold MokS Mok; dsimp only; omega⟩
theorem msgs_l0 (s : List Int) (hs : s.length ≤ 1048576) (d : Nat) : ∀ (x : List S35) (i h : Int), 0 ≤ i → x.length + d ≤ 1000 → (∀ m ∈ x, MokS m) →
    ∃ l : List S35, l.length = x.length + d ∧ (∀ m ∈ l, MokS m) ∧ ∀ k, d < k → spec_MakeMsgs.l0 k x (d : Int) s i h = some l := by
  induction d with
  | zero =>
    intro x i h hi hl hx
    refine ⟨x, rfl, hx, fun k hk => ?_⟩
    obtain ⟨k, rfl⟩ : ∃ m, k = m + 1 := ⟨k - 1, by omega⟩
    simp only [spec_MakeMsgs.l0]
    rw [if_neg (by omega)]
  | succ d ih =>
    intro x i h hi hl hx
    obtain ⟨m, i1, h1, e, hi1, hm⟩ := draw_ok s hs i h hi
    obtain ⟨l, hl', hx', hk'⟩ := ih (x ++ [⟨m.f0, m.f1, m.f2, m.f3⟩]) i1 h1 hi1 (by rw [List.length_append, List.length_singleton]; omega) (fun y hy => by
      rcases List.mem_append.1 hy with h | h
      · exact hx y h
      · rw [List.mem_singleton.1 h]; exact hm)
    refine ⟨l, by rw [hl', List.length_append, List.length_singleton]; omega, hx', fun k hk => ?_⟩
    obtain ⟨k, rfl⟩ : ∃ m, k = m + 1 := ⟨k - 1, by omega⟩
    simp only [spec_MakeMsgs.l0]
    rw [if_pos (by omega), e]
    simp only [Option.bind_some]
    have hd : wrap64 (((d + 1 : Nat) : Int) - 1) = (d : Int) := by rw [wrap_id (by omega) (by omega)]; omega
    rw [if_pos (by omega), hd]
    exact hk' k (by omega)
theorem msgs_f (s : List Int) (hs : s.length ≤ 1048576) : ∃ l : List S35, l.length ≤ 7 ∧ (∀ m ∈ l, MokS m) ∧ ∀ k, 4000 < k → spec_MakeMsgs.f k s = some l := by
  obtain ⟨h, hh⟩ := l01New_f s
  obtain ⟨r, i1, h1, e, hi1, r0, r1, _⟩ := l01Below_f s hs 0 h 8 (Int.le_refl _)
  have r1 := r1 (by omega)
  obtain ⟨n, rfl⟩ : ∃ n : Nat, r = (n : Int) := ⟨r.toNat, by omega⟩
  obtain ⟨l, hl, hx, hk'⟩ := msgs_l0 s hs n [] i1 h1 hi1 (by rw [List.length_nil]; omega) (by simp)
  rw [List.length_nil] at hl
  refine ⟨l, by omega, hx, fun k hk => ?_⟩
  unfold spec_MakeMsgs.f
  rw [hh k hk, Option.bind_some]
  dsimp only
  rw [e, Option.bind_some]
  exact hk' k (by omega)
theorem nums_l0 (s : List Int) (hs : s.length ≤ 1048576) (n : Int) (hn : 0 < n) (d : Nat) : ∀ (x : List Int) (i h : Int), 0 ≤ i → x.length + d ≤ 1000 → (∀ m ∈ x, 0 ≤ m ∧ m < n) →
    ∃ l : List Int, l.length = x.length + d ∧ (∀ m ∈ l, 0 ≤ m ∧ m < n) ∧ ∀ k, d < k → spec_MakeNums.l0 k n x (d : Int) s i h = some l := by
  induction d with
  | zero =>
    intro x i h hi hl hx
    refine ⟨x, rfl, hx, fun k hk => ?_⟩
    obtain ⟨k, rfl⟩ : ∃ m, k = m + 1 := ⟨k - 1, by omega⟩
    simp only [spec_MakeNums.l0]
    rw [if_neg (by omega)]
  | succ d ih =>
    intro x i h hi hl hx
    obtain ⟨m, i1, h1, e, hi1, m0, m1, _⟩ := l01Below_f s hs i h n hi
    obtain ⟨l, hl', hx', hk'⟩ := ih (x ++ [m]) i1 h1 hi1 (by rw [List.length_append, List.length_singleton]; omega) (fun y hy => by
      rcases List.mem_append.1 hy with h | h
      · exact hx y h
      · rw [List.mem_singleton.1 h]; exact ⟨m0, m1 hn⟩)
    refine ⟨l, by rw [hl', List.length_append, List.length_singleton]; omega, hx', fun k hk => ?_⟩
    obtain ⟨k, rfl⟩ : ∃ m, k = m + 1 := ⟨k - 1, by omega⟩
    simp only [spec_MakeNums.l0]
    rw [if_pos (by omega), e]
    simp only [Option.bind_some]
    have hd : wrap64 (((d + 1 : Nat) : Int) - 1) = (d : Int) := by rw [wrap_id (by omega) (by omega)]; omega
    rw [if_pos (by omega), hd]
    exact hk' k (by omega)
theorem nums_f (s : List Int) (hs : s.length ≤ 1048576) (n : Int) (hn : 0 < n) : ∃ l : List Int, l.length ≤ 11 ∧ (∀ m ∈ l, 0 ≤ m ∧ m < n) ∧ ∀ k, 4000 < k → spec_MakeNums.f k s n = some l := by
  obtain ⟨h, hh⟩ := l01New_f s
  obtain ⟨r, i1, h1, e, hi1, r0, r1, _⟩ := l01Below_f s hs 0 (wrap64 (h + n)) 12 (Int.le_refl _)
  have r1 := r1 (by omega)
  obtain ⟨q, rfl⟩ : ∃ q : Nat, r = (q : Int) := ⟨r.toNat, by omega⟩
  obtain ⟨l, hl, hx, hk'⟩ := nums_l0 s hs n hn q [] i1 h1 hi1 (by rw [List.length_nil]; omega) (by simp)
  rw [List.length_nil] at hl
  refine ⟨l, by omega, hx, fun k hk => ?_⟩
  unfold spec_MakeNums.f
  rw [hh k hk, Option.bind_some]
  dsimp only
  rw [e, Option.bind_some]
  exact hk' k (by omega)
/-! the queue -/
theorem ook_of (l : List S35) (hm : ∀ m ∈ l, MokS m) (n : Int) (hl : l.length ≤ 60) (h0 : (l.length : Int) < n) (h1 : n ≤ 1000) : Ook n l :=
  ⟨hm, by omega, by omega, hl, h0⟩
theorem put_one (n : Int) (l : List S35) (m : S35) (h0 : Ook n l) (h1 : Ook (n + 1) (l ++ [m])) (k : Nat) (hk : 100 < k) : impl_OutPut.f k n l m.f0 m.f1 m.f2 m.f3 = some (n + 1, l ++ [m], true) := by
  have hl := h0.2.2.2.1
  have hn := h0.2.2.1
  have hn0 := h0.2.1
  have ll : (l ++ [m]).length = l.length + 1 := by rw [List.length_append, List.length_singleton]
  have C2 : impl_copyOut.f n l = some (n, l) := by
    unfold impl_copyOut.f
    rw [if_pos (by rw [List.length_nil]; omega)]
    rfl
  have w : wrap64 (n + 1) = n + 1 := wrap_id (by omega) (by omega)
  unfold impl_OutPut.f
  rw [C2, Option.bind_some]
  dsimp only
  rw [if_pos (by omega), Option.bind_some, iOutOk_f _ _ _ (by omega) (by omega), Option.bind_some, if_pos (decide_eq_true h0), w]
  rw [show (⟨m.f0, m.f1, m.f2, m.f3⟩ : S35) = m from rfl, iOutOk_f _ _ _ (by omega) (by omega), Option.bind_some, if_pos (decide_eq_true h1)]
theorem at_one (l : List S35) (hm : ∀ m ∈ l, MokS m) (hl : l.length ≤ 60) (a : Int) (h0 : 0 ≤ a) (h1 : a < 100) (k : Nat) (hk : 100 < k) :
    (¬ (1 ≤ a ∧ a ≤ (l.length : Int)) → impl_OutAt.f k ((l.length : Int) + 1) l a = some (0, 0, 0, 0, false)) ∧
    (∀ j : Nat, a = (j : Int) + 1 → (hj : j < l.length) → impl_OutAt.f k ((l.length : Int) + 1) l a = some (l[j].f0, l[j].f1, l[j].f2, l[j].f3, true)) := by
  have ho := ook_of l hm ((l.length : Int) + 1) hl (by omega) (by omega)
  have F : impl_OutFirst.f k ((l.length : Int) + 1) l = some 1 := by
    rw [iOutFirst_f k _ l (by omega) (by omega), if_pos ho]
    congr 1
    omega
  have w : wrap64 ((l.length : Int) + 1 - 1) = (l.length : Int) := by rw [wrap_id (by omega) (by omega)]; omega
  refine ⟨fun hn => ?_, fun j ha hj => ?_⟩
  · unfold impl_OutAt.f
    rw [iOutOk_f _ _ _ (by omega) (by omega), Option.bind_some, if_pos (decide_eq_true ho), F, Option.bind_some, w, iin_f, Option.bind_some, decide_eq_false hn, if_neg (by decide)]
  · have hr : rd_T35 l (j : Int) = l[j] := rd_M0 l j hj
    have wj : wrap64 (a - 1) = (j : Int) := by rw [wrap_id (by omega) (by omega)]; omega
    unfold impl_OutAt.f
    rw [iOutOk_f _ _ _ (by omega) (by omega), Option.bind_some, if_pos (decide_eq_true ho), F, Option.bind_some, w, iin_f, Option.bind_some, decide_eq_true (by omega), if_pos rfl, Option.bind_some, wj, if_pos (by omega), if_pos (by omega), hr]
theorem ack_one (l : List S35) (hm : ∀ m ∈ l, MokS m) (hl : l.length ≤ 60) (a : Nat) (ha : a ≤ l.length) (k : Nat) (hk : 100 < k) : impl_OutAck.f k ((l.length : Int) + 1) l (a : Int) = some ((l.length : Int) + 1, l.drop a, true) := by
  have ho := ook_of l hm ((l.length : Int) + 1) hl (by omega) (by omega)
  have F : impl_OutFirst.f k ((l.length : Int) + 1) l = some 1 := by
    rw [iOutFirst_f k _ l (by omega) (by omega), if_pos ho]
    congr 1
    omega
  have w : wrap64 ((l.length : Int) + 1 - 1) = (l.length : Int) := by rw [wrap_id (by omega) (by omega)]; omega
  have w1 : mx (wrap64 ((wrap64 ((a : Int) - 1)) + 1)) 0 = (a : Int) := by
    rw [wrap_id (x := (a : Int) - 1) (by omega) (by omega), wrap_id (by omega) (by omega)]
    unfold mx
    split <;> omega
  have ld : (l.drop a).length ≤ 60 := by rw [List.length_drop]; omega
  unfold impl_OutAck.f
  rw [iOutOk_f _ _ _ (by omega) (by omega), Option.bind_some, if_pos (decide_eq_true ho), w, iin_f, Option.bind_some, if_pos (decide_eq_true (by omega)), F, Option.bind_some, w1, if_pos (by omega), if_pos (by omega), Int.toNat_natCast, Option.bind_some, if_pos (by rw [List.length_nil]; omega), List.nil_append]
/-! what is carried -/
def Wth (x : S35) : Int := if MokS x ∧ x.f0 ≤ 3 then x.f2 else 0
theorem mok_kind (x : S35) (h : MokS x) : 1 ≤ x.f0 := by
  unfold MokS Mok at h
  omega
theorem iMsgWorth_S (k : Nat) (hk : 2 ≤ k) (x : S35) : impl_MsgWorth.f k x.f0 x.f1 x.f2 x.f3 = some (Wth x) := by
  unfold impl_MsgWorth.f Wth
  rw [iMsgOk_S k hk x, Option.bind_some, iin_f]
  by_cases h : MokS x
  · have hk := mok_kind x h
    by_cases h3 : x.f0 ≤ 3
    · simp [h, h3, hk]
    · simp [h, h3]
  · simp [h]
def wsum : Int → List S35 → Int
  | x, [] => x
  | x, m :: t => wsum (wrap64 (x + Wth m)) t
theorem worth_all (n : Int) (l : List S35) (last : Int) (ho : Ook n l) (d : Nat) : ∀ (i : Nat) (x : Int), i + d = l.length → last < n - l.length + i → ∀ k, d + 100 < k → impl_worthOf.l0 k last x l (l.length : Int) (i : Int) n l = some (wsum x (l.drop i)) := by
  have hl := ho.2.2.2.1
  have hn := ho.2.2.1
  have hn0 := ho.2.2.2.2
  induction d with
  | zero =>
    intro i x hi hlast k hk
    obtain ⟨k, rfl⟩ : ∃ m, k = m + 1 := ⟨k - 1, by omega⟩
    simp only [impl_worthOf.l0]
    rw [if_neg (by omega), List.drop_of_length_le (by omega)]
    rfl
  | succ d ih =>
    intro i x hi hlast k hk
    obtain ⟨k, rfl⟩ : ∃ m, k = m + 1 := ⟨k - 1, by omega⟩
    have F : impl_OutFirst.f k n l = some (n - l.length) := by rw [iOutFirst_f k n l (by omega) (by omega), if_pos ho]
    have hr : rd_T35 l (i : Int) = l[i] := rd_M0 l i (by omega)
    have w : wrap64 (n - (l.length : Int) + (i : Int)) = n - (l.length : Int) + (i : Int) := wrap_id (by omega) (by omega)
    simp only [impl_worthOf.l0]
    rw [if_pos (by omega), if_pos (by omega), if_pos (by omega), F, Option.bind_some, w, if_pos (by omega)]
    unfold impl_OutWorth_1.f
    rw [Option.bind_some, if_pos rfl, hr, iMsgWorth_S k (by omega), Option.bind_some, wrap_succ i (by omega), ih (i + 1) _ (by omega) (by omega) k (by omega), List.drop_eq_getElem_cons (show i < l.length by omega)]
    rfl
theorem worth_skip (n : Int) (l : List S35) (last : Int) (ho : Ook n l) (t : Nat) (ht : t ≤ l.length) (hlast : last = n - l.length + t - 1) (d : Nat) : ∀ (i : Nat) (x : Int), i + d = t → ∀ k, d + l.length + 200 < k → impl_worthOf.l0 k last x l (l.length : Int) (i : Int) n l = some (wsum x (l.drop t)) := by
  have hl := ho.2.2.2.1
  have hn := ho.2.2.1
  have hn0 := ho.2.2.2.2
  induction d with
  | zero =>
    intro i x hi k hk
    obtain rfl : i = t := by omega
    exact worth_all n l last ho (l.length - i) i x (by omega) (by omega) k (by omega)
  | succ d ih =>
    intro i x hi k hk
    obtain ⟨k, rfl⟩ : ∃ m, k = m + 1 := ⟨k - 1, by omega⟩
    have F : impl_OutFirst.f k n l = some (n - l.length) := by rw [iOutFirst_f k n l (by omega) (by omega), if_pos ho]
    have w : wrap64 (n - (l.length : Int) + (i : Int)) = n - (l.length : Int) + (i : Int) := wrap_id (by omega) (by omega)
    simp only [impl_worthOf.l0]
    rw [if_pos (by omega), if_pos (by omega), if_pos (by omega), F, Option.bind_some, w, if_neg (by omega), wrap_succ i (by omega)]
    exact ih (i + 1) x (by omega) k (by omega)
theorem worth_f (n : Int) (l : List S35) (ho : Ook n l) (t : Nat) (ht : t ≤ l.length) (last : Int) (hlast : last = n - l.length + t - 1) (k : Nat) (hk : 1000 < k) : impl_OutWorth.f k n l last = some (wsum 0 (l.drop t)) := by
  have hl := ho.2.2.2.1
  unfold impl_OutWorth.f impl_worthOf.f
  rw [iOutOk_f k n l (by omega) (by omega), Option.bind_some, if_pos (decide_eq_true ho)]
  have h := worth_skip n l last ho t ht hlast t 0 0 (by omega) k (by omega)
  rw [show ((0 : Nat) : Int) = 0 from rfl] at h
  rw [h]
  rfl
theorem worth_f0 (n : Int) (l : List S35) (ho : Ook n l) (k : Nat) (hk : 1000 < k) : impl_OutWorth.f k n l 0 = some (wsum 0 l) := by
  have hl := ho.2.2.2.1
  have hn := ho.2.2.2.2
  unfold impl_OutWorth.f impl_worthOf.f
  rw [iOutOk_f k n l (by omega) (by omega), Option.bind_some, if_pos (decide_eq_true ho)]
  have h := worth_all n l 0 ho l.length 0 0 (by omega) (by omega) k (by omega)
  rw [show ((0 : Nat) : Int) = 0 from rfl, List.drop_zero] at h
  rw [h]
  rfl
/-! the law's three loops -/
theorem once_l2 (s : List S35) (hm : ∀ m ∈ s, MokS m) (hl : s.length ≤ 7) (t : Nat) (ht : t ≤ s.length) (d : Nat) : ∀ (i : Nat), i + d = t → ∀ k, d + 2000 < k →
    laws_FnOnce.l2 k s (t : Int) (s.take t) (s.take t) (((s.take t).length : Nat) : Int) (i : Int) ((s.length : Int) + 1) s = some true := by
  have hlt : (s.take t).length = t := by rw [List.length_take]; omega
  induction d with
  | zero =>
    intro i hi k hk
    obtain ⟨k, rfl⟩ : ∃ m, k = m + 1 := ⟨k - 1, by omega⟩
    have ho := ook_of s hm ((s.length : Int) + 1) (by omega) (by omega) (by omega)
    have hd : (s.drop t).length = s.length - t := List.length_drop
    have ho2 := ook_of (s.drop t) (fun m h => hm m (List.mem_of_mem_drop h)) ((s.length : Int) + 1) (by omega) (by omega) (by omega)
    have F : impl_OutFirst.f k ((s.length : Int) + 1) (s.drop t) = some (((s.length : Int) + 1) - ((s.drop t).length : Int)) := by rw [iOutFirst_f k _ _ (by omega) (by omega), if_pos ho2]
    have w : wrap64 ((t : Int) + 1) = (t : Int) + 1 := wrap_id (by omega) (by omega)
    have W1 := worth_f _ s ho t ht (t : Int) (by omega) k (by omega)
    have W2 := worth_f0 _ (s.drop t) ho2 k (by omega)
    simp only [laws_FnOnce.l2]
    rw [if_neg (by omega), ack_one s hm (by omega) t ht k (by omega)]
    simp only [Option.bind_some]
    rw [if_pos trivial, if_pos (by omega), F, Option.bind_some, w, if_pos (by omega), if_pos trivial, W1, Option.bind_some, W2, Option.bind_some, if_pos rfl, iOutOk_f _ _ _ (by omega) (by omega), Option.bind_some, decide_eq_true ho2]
  | succ d ih =>
    intro i hi k hk
    obtain ⟨k, rfl⟩ : ∃ m, k = m + 1 := ⟨k - 1, by omega⟩
    have r1 : rd_T35 (s.take t) (i : Int) = s[i] := by rw [rd_M0 _ i (by omega), List.getElem_take]
    have r2 : rd_T35 s (i : Int) = s[i] := rd_M0 s i (by omega)
    simp only [laws_FnOnce.l2]
    rw [if_pos (by omega), if_pos (by omega), if_pos (by omega), if_neg (by omega), if_pos (by omega), r1, r2, if_neg (by simp), wrap_succ i (by omega)]
    exact ih (i + 1) (by omega) k (by omega)
theorem once_l1 (s : List S35) (hm : ∀ m ∈ s, MokS m) (hl : s.length ≤ 7) (ns : List Int) (hn : ∀ m ∈ ns, 0 ≤ m ∧ m < 9) (hnl : ns.length ≤ 11) (d : Nat) : ∀ (i t : Nat), i + d = ns.length → t ≤ s.length → ∀ k, 3 * d + 3000 < k →
    laws_FnOnce.l1 k s (t : Int) (s.take t) ns (ns.length : Int) (i : Int) ((s.length : Int) + 1) s = some true := by
  induction d with
  | zero =>
    intro i t hi ht k hk
    obtain ⟨k, rfl⟩ : ∃ m, k = m + 1 := ⟨k - 1, by omega⟩
    simp only [laws_FnOnce.l1]
    rw [if_neg (by omega)]
    exact once_l2 s hm hl t ht t 0 (by omega) k (by omega)
  | succ d ih =>
    intro i t hi ht k hk
    obtain ⟨k, rfl⟩ : ∃ m, k = m + 1 + 1 := ⟨k - 2, by omega⟩
    have hlt : (s.take t).length = t := by rw [List.length_take]; omega
    obtain ⟨n0, n1⟩ := hn ns[i] (List.getElem_mem (by omega))
    have r1 : rd ns (i : Int) = ns[i] := rd_eq ns i (by omega)
    obtain ⟨v, hv⟩ : ∃ v, v = ns[i] := ⟨_, rfl⟩
    rw [← hv] at n0 n1 r1
    clear hv
    obtain ⟨A1, A2⟩ := at_one s hm (by omega) v n0 (by omega) (k + 1) (by omega)
    by_cases hin : 1 ≤ v ∧ v ≤ (s.length : Int)
    · obtain ⟨j, rfl⟩ : ∃ j : Nat, v = (j : Int) + 1 := ⟨(v - 1).toNat, by omega⟩
      have A := A2 j rfl (by omega)
      clear A1 A2
      have w : wrap64 ((j : Int) + 1 - 1) = (j : Int) := by rw [wrap_id (by omega) (by omega)]; omega
      have step : laws_FnOnce.l1 (k + 1 + 1) s (t : Int) (s.take t) ns (ns.length : Int) (i : Int) ((s.length : Int) + 1) s = laws_FnOnce.j2 (k + 1) s (t : Int) (s.take t) ((j : Int) + 1) true ns (ns.length : Int) (i : Int) false ((s.length : Int) + 1) s s[j].f0 s[j].f1 s[j].f2 s[j].f3 := by
        generalize k + 1 = K at A ⊢
        simp only [laws_FnOnce.l1]
        rw [if_pos (by omega), if_pos (by omega), if_pos (by omega), r1, A]
        simp only [Option.bind_some]
        rw [if_pos (by omega), decide_eq_true (by omega : (j : Int) + 1 ≤ (s.length : Int))]
        rfl
      rw [step]
      clear step A
      simp only [laws_FnOnce.j2]
      rw [if_neg (by decide)]
      unfold impl_InTake.f
      by_cases ht1 : (j : Int) + 1 > (t : Int)
      · rw [if_pos ht1, w]
        by_cases ht2 : (j : Int) = (t : Int)
        · obtain rfl : j = t := by omega
          rw [if_pos rfl]
          simp only [Option.bind_some]
          rw [if_pos trivial, if_pos trivial, if_pos (by omega), wrap_succ i (by omega), show s.take j ++ [(⟨s[j].f0, s[j].f1, s[j].f2, s[j].f3⟩ : S35)] = s.take (j + 1) from (List.take_succ_eq_append_getElem (by omega)).symm, succ_cast]
          exact ih (i + 1) (j + 1) (by omega) (by omega) k (by omega)
        · rw [if_neg ht2]
          simp only [Option.bind_some]
          rw [if_neg (by decide), wrap_succ i (by omega)]
          exact ih (i + 1) t (by omega) ht k (by omega)
      · rw [if_neg ht1]
        simp only [Option.bind_some]
        rw [if_neg (by decide), wrap_succ i (by omega)]
        exact ih (i + 1) t (by omega) ht k (by omega)
    · have A := A1 hin
      clear A1 A2
      have step : laws_FnOnce.l1 (k + 1 + 1) s (t : Int) (s.take t) ns (ns.length : Int) (i : Int) ((s.length : Int) + 1) s = laws_FnOnce.j2 (k + 1) s (t : Int) (s.take t) v false ns (ns.length : Int) (i : Int) false ((s.length : Int) + 1) s 0 0 0 0 := by
        generalize k + 1 = K at A ⊢
        simp only [laws_FnOnce.l1]
        rw [if_pos (by omega), if_pos (by omega), if_pos (by omega), r1, A]
        simp only [Option.bind_some]
        by_cases h1 : v ≥ 1
        · rw [if_pos h1, decide_eq_false (by omega : ¬ v ≤ (s.length : Int))]
          rfl
        · rw [if_neg h1]
          rfl
      rw [step]
      clear step A
      simp only [laws_FnOnce.j2]
      rw [if_neg (by decide)]
      obtain ⟨p, q, e⟩ : ∃ p q, impl_InTake.f (t : Int) v = some (p, q) := by
        unfold impl_InTake.f
        split
        · split
          · exact ⟨_, _, rfl⟩
          · exact ⟨_, _, rfl⟩
        · exact ⟨_, _, rfl⟩
      rw [e]
      simp only [Option.bind_some]
      rw [if_neg (show ¬ (false = true) by decide), wrap_succ i (by omega), ite_self]
      exact ih (i + 1) t (by omega) ht k (by omega)
theorem once_l0 (l0 : List Int) (hl0 : l0.length ≤ 1048576) (s : List S35) (hm : ∀ m ∈ s, MokS m) (hl : s.length ≤ 7) (d : Nat) : ∀ (i : Nat), i + d = s.length → ∀ k, d + 5000 < k →
    laws_FnOnce.l0 k l0 s s (s.length : Int) (i : Int) ((i : Int) + 1) (s.take i) = some true := by
  induction d with
  | zero =>
    intro i hi k hk
    obtain ⟨k, rfl⟩ : ∃ m, k = m + 1 := ⟨k - 1, by omega⟩
    obtain ⟨ns, hnl, hn, hk'⟩ := nums_f l0 hl0 9 (by omega)
    simp only [laws_FnOnce.l0]
    rw [if_neg (by omega), hk' k (by omega), Option.bind_some, List.take_of_length_le (by omega)]
    have h := once_l1 s hm hl ns hn hnl ns.length 0 0 (by omega) (Nat.zero_le _) k (by omega)
    rw [List.take_zero] at h
    obtain rfl : i = s.length := by omega
    exact h
  | succ d ih =>
    intro i hi k hk
    obtain ⟨k, rfl⟩ : ∃ m, k = m + 1 := ⟨k - 1, by omega⟩
    have hlt : (s.take i).length = i := by rw [List.length_take]; omega
    have hlt1 : (s.take (i + 1)).length = i + 1 := by rw [List.length_take]; omega
    have r1 : rd_T35 s (i : Int) = s[i] := rd_M0 s i (by omega)
    have e1 : s.take i ++ [s[i]] = s.take (i + 1) := (List.take_succ_eq_append_getElem (by omega)).symm
    have o1 := ook_of (s.take i) (fun m h => hm m (List.mem_of_mem_take h)) ((i : Int) + 1) (by omega) (by omega) (by omega)
    have o2 := ook_of (s.take (i + 1)) (fun m h => hm m (List.mem_of_mem_take h)) ((i : Int) + 1 + 1) (by omega) (by omega) (by omega)
    have P := put_one ((i : Int) + 1) (s.take i) s[i] o1 (by rw [e1]; exact o2) k (by omega)
    rw [e1] at P
    simp only [laws_FnOnce.l0]
    rw [if_pos (by omega), if_pos (by omega), if_pos (by omega), r1, P]
    simp only [Option.bind_some]
    rw [if_pos trivial, wrap_succ i (by omega)]
    have h := ih (i + 1) (by omega) k (by omega)
    rw [← succ_cast] at h ⊢
    exact h
theorem FnOnce (l0 : List Int) (w0 : l0.length ≤ maxLen ∧ ∀ l0_e ∈ l0, (Lit.int .u8 l0_e).wf = true) : ∃ k, laws_FnOnce.f k l0 = some true := by
  by_cases hl : l0.length ≤ 1048576
  case neg => exact ⟨0, by unfold laws_FnOnce.f; rw [if_pos (by omega)]⟩
  obtain ⟨s, hs, hm, hk⟩ := msgs_f l0 hl
  refine ⟨6000, ?_⟩
  unfold laws_FnOnce.f impl_OutNew.f
  rw [if_neg (by omega), hk 6000 (by omega), Option.bind_some, Option.bind_some]
  have h := once_l0 l0 hl s hm hs s.length 0 (by omega) 6000 (by omega)
  rw [List.take_zero] at h
  exact h

end Go.Proofs.Ytfkoipmoikhehaa.Pure
