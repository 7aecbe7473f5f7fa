/- What one has is never below 0; handing over makes and loses nothing. This text proves it of the plain functions, with no program in sight. Conditions: none but those of the given statement. -/
import Derived.Test.YtcnanifokpcjaaaPFnRightsx13
set_option linter.unusedVariables false
set_option linter.unusedSimpArgs false
namespace Go.Proofs.Ytcnanifokpcjaaa.Pure
open Go Go.RowKit Go.Proofs.Ytcnanifokpcjaaa.PFnRights Go.Proofs.YtcnanifokpcjaaaW.PrintWords Go.Proofs.YtcnanifokpcjaaaW.PrintLast Go.Proofs.YtcnanifokpcjaaaW.PrintMore

theorem wrap_id {x : Int} (h0 : -9223372036854775808 ≤ x) (h1 : x ≤ 9223372036854775807) : wrap64 x = x := by
  unfold wrap64; omega
theorem rd_eq (l : List Int) (i : Nat) (h : i < l.length) : rd l (i : Int) = l[i] := by
  simp [rd, h]
theorem succ_cast (i : Nat) : (i : Int) + 1 = ((i + 1 : Nat) : Int) := by omega
theorem take_set_same (l m : List Int) (i : Nat) (hi : i < l.length) (hm : m.length = l.length) (ht : m.take i = l.take i) : (m.set i l[i]).take (i + 1) = l.take (i + 1) := by
  rw [List.take_succ_eq_append_getElem (by simp; omega), List.take_succ_eq_append_getElem hi]
  simp [List.take_set_of_le, ht]
theorem natlt0 (n : Nat) : ((n : Int) < 0) = False := by simp
theorem wrap_nat (n : Nat) (h : n ≤ 9223372036854775807) : wrap64 (n : Int) = (n : Int) := wrap_id (by omega) (by omega)
theorem wrap_succ (n : Nat) (h : n < 9223372036854775807) : wrap64 ((n : Int) + 1) = ((n + 1 : Nat) : Int) := by rw [wrap_id (by omega) (by omega)]; omega
theorem u8_of_wf {x : Int} (h : (Lit.int .u8 x).wf = true) : 0 ≤ x ∧ x < 256 := by
  simp [Lit.wf, IntKind.min, IntKind.max, IntKind.signed, IntKind.bits] at h
  omega
theorem i64_of_wf {x : Int} (h : (Lit.int .i64 x).wf = true) : -9223372036854775808 ≤ x ∧ x ≤ 9223372036854775807 := by
  simp [Lit.wf, IntKind.min, IntKind.max, IntKind.signed, IntKind.bits] at h
  omega
theorem max_len {α : Type} {l : List α} (h : l.length ≤ maxLen) : l.length ≤ 9223372036854775807 := by
  unfold maxLen at h; omega
theorem rounds_of {f : Nat → Option Bool} (h : ∀ m, 20000000 ≤ m → f (m + 8) = some true) : ∃ k, f k = some true := by
  obtain ⟨m, hm⟩ : ∃ m : Nat, 20000000 ≤ m := ⟨_, Nat.le_refl _⟩
  exact ⟨m + 8, h m hm⟩

def isnum (a : Int) : Prop := 0 ≤ a ∧ a ≤ 1125899906842624
instance (a : Int) : Decidable (isnum a) := inferInstanceAs (Decidable (_ ∧ _))
theorem snum_f (a : Int) : spec_l01Num.f a = some (decide (isnum a)) := by
  unfold spec_l01Num.f spec_l01In.f isnum
  by_cases h : a ≥ 0
  · rw [if_pos h, Option.bind_some]; simp [h]
  · rw [if_neg h, Option.bind_some]; simp [h]
theorem inum_f (a : Int) : impl_isNum.f a = some (decide (isnum a)) := by
  unfold impl_isNum.f impl_in.f isnum
  by_cases h : a ≥ 0
  · rw [if_pos h, Option.bind_some]; simp [h]
  · rw [if_neg h, Option.bind_some]; simp [h]
def RowOk (n : Nat) (g : List (List Int)) (s : List Int) (j : Nat) : Prop := (rd_L1 g (j : Int)).length = n ∧ isnum (rd s (j : Int)) ∧ ∀ i : Nat, i < n → isnum (rd (rd_L1 g (j : Int)) (i : Int))
theorem rows_l1 (x3 x4 x5 : Int) (x22 : List (List Int)) (x23 x24 : Int) (r : List Int) (g : List (List Int)) (s : List Int) (hr : r.length ≤ 4) (h5 : 0 ≤ x5) (h5' : x5 < (r.length : Int)) (d : Nat) : ∀ i : Nat, i + d = r.length →
    ((∀ j : Nat, i ≤ j → j < r.length → isnum (rd r (j : Int))) ∧ ∀ k, spec_l06Form.l1 (k + d + 1) x3 x22 x23 x24 r (r.length : Int) (i : Int) g s = spec_l06Form.l0 k x3 x22 x23 (wrap64 (x24 + 1)) g s ∧ impl_RightsOk.l1 (k + d + 1) x3 x4 x5 r x22 x23 x24 r (r.length : Int) (i : Int) g s = impl_RightsOk.l0 k x3 (wrap64 (x4 + (rd r x5))) x22 x23 (wrap64 (x24 + 1)) g s) ∨
    ((∃ j : Nat, i ≤ j ∧ j < r.length ∧ ¬ isnum (rd r (j : Int))) ∧ ∀ k, d < k → spec_l06Form.l1 k x3 x22 x23 x24 r (r.length : Int) (i : Int) g s = some false ∧ impl_RightsOk.l1 k x3 x4 x5 r x22 x23 x24 r (r.length : Int) (i : Int) g s = some false) := by
  induction d with
  | zero =>
    intro i hi
    refine Or.inl ⟨fun j h1 h2 => by omega, fun k => ?_⟩
    have c : ¬ (i : Int) < (r.length : Int) := by omega
    simp only [Nat.add_zero, spec_l06Form.l1, impl_RightsOk.l1, if_neg c, if_pos h5, if_pos h5', and_self]
  | succ d ih =>
    intro i hi
    have c1 : (i : Int) < (r.length : Int) := by omega
    have c2 : (0 : Int) ≤ (i : Int) := by omega
    have w := wrap_succ i (by omega)
    by_cases e : isnum (rd r (i : Int))
    · have e' := decide_eq_true e
      have key : ∀ K, spec_l06Form.l1 (K + 1) x3 x22 x23 x24 r (r.length : Int) (i : Int) g s = spec_l06Form.l1 K x3 x22 x23 x24 r (r.length : Int) ((i + 1 : Nat) : Int) g s ∧ impl_RightsOk.l1 (K + 1) x3 x4 x5 r x22 x23 x24 r (r.length : Int) (i : Int) g s = impl_RightsOk.l1 K x3 x4 x5 r x22 x23 x24 r (r.length : Int) ((i + 1 : Nat) : Int) g s := fun K => by
        simp only [spec_l06Form.l1, impl_RightsOk.l1, if_pos c1, if_pos c2, snum_f, inum_f, e', Option.bind_some, if_true, w, and_self]
      rcases ih (i + 1) (by omega) with ⟨h, q⟩ | ⟨⟨j, j1, j2, j3⟩, q⟩
      · refine Or.inl ⟨fun j h1 h2 => ?_, fun k => ?_⟩
        · rcases Nat.lt_or_ge i j with h3 | h3
          · exact h j h3 h2
          · have : j = i := by omega
            rw [this]; exact e
        · exact ⟨(key (k + d + 1)).1.trans (q k).1, (key (k + d + 1)).2.trans (q k).2⟩
      · refine Or.inr ⟨⟨j, by omega, j2, j3⟩, fun k hk => ?_⟩
        obtain ⟨k, rfl⟩ : ∃ m, k = m + 1 := ⟨k - 1, by omega⟩
        exact ⟨(key k).1.trans (q k (by omega)).1, (key k).2.trans (q k (by omega)).2⟩
    · have e' := decide_eq_false e
      refine Or.inr ⟨⟨i, Nat.le_refl _, by omega, e⟩, fun k hk => ?_⟩
      obtain ⟨k, rfl⟩ : ∃ m, k = m + 1 := ⟨k - 1, by omega⟩
      simp only [spec_l06Form.l1, impl_RightsOk.l1, if_pos c1, if_pos c2, snum_f, inum_f, e', Option.bind_some, Bool.false_eq_true, if_false, and_self]
/-- What the rows from i on have issued. -/
def dsum (g : List (List Int)) : Nat → Nat → Int
  | _, 0 => 0
  | i, d + 1 => rd (rd_L1 g (i : Int)) (i : Int) + dsum g (i + 1) d
theorem rows_l0 (n : Nat) (hn : n ≤ 4) (g : List (List Int)) (s : List Int) (hg : g.length = n) (hs : s.length = n) (d : Nat) : ∀ (i : Nat) (acc : Int), i + d = n → 0 ≤ acc → acc ≤ (i : Int) * 1125899906842624 →
    ((∀ j : Nat, i ≤ j → j < n → RowOk n g s j) ∧ ∀ k, 7 * d + 1 ≤ k → spec_l06Form.l0 k (n : Int) g (n : Int) (i : Int) g s = some true ∧ ∃ k', k ≤ k' + 7 * d + 1 ∧ impl_RightsOk.l0 k (n : Int) acc g (n : Int) (i : Int) g s = impl_RightsOk.l2 k' (acc + dsum g i d) (n : Int) 0 g s) ∨
    ((∃ j : Nat, i ≤ j ∧ j < n ∧ ¬ RowOk n g s j) ∧ ∀ k, 7 * d + 1 ≤ k → spec_l06Form.l0 k (n : Int) g (n : Int) (i : Int) g s = some false ∧ impl_RightsOk.l0 k (n : Int) acc g (n : Int) (i : Int) g s = some false) := by
  induction d with
  | zero =>
    intro i acc hi ha hb
    refine Or.inl ⟨fun j h1 h2 => by omega, fun k hk => ?_⟩
    obtain ⟨k, rfl⟩ : ∃ m, k = m + 1 := ⟨k - 1, by omega⟩
    have c : ¬ (i : Int) < (n : Int) := by omega
    refine ⟨by simp only [spec_l06Form.l0, if_neg c], k, by omega, ?_⟩
    simp only [impl_RightsOk.l0, if_neg c, dsum, Int.add_zero]
  | succ d ih =>
    intro i acc hi ha hb
    have c1 : (i : Int) < (n : Int) := by omega
    have c2 : (0 : Int) ≤ (i : Int) := by omega
    have c3 : (i : Int) < (g.length : Int) := by omega
    have c4 : (i : Int) < (s.length : Int) := by omega
    have w := wrap_succ i (by omega)
    by_cases e : (rd_L1 g (i : Int)).length = n
    case neg =>
      refine Or.inr ⟨⟨i, Nat.le_refl _, by omega, fun h => e h.1⟩, fun k hk => ?_⟩
      obtain ⟨k, rfl⟩ : ∃ m, k = m + 1 + 1 := ⟨k - 2, by omega⟩
      have e2 : ¬ ((rd_L1 g (i : Int)).length : Int) = (n : Int) := by omega
      generalize hK : k + 1 = K
      simp only [spec_l06Form.l0, impl_RightsOk.l0, if_pos c1, if_pos c2, if_pos c3, if_neg e2]
      subst hK
      simp only [spec_l06Form.j2, impl_RightsOk.j2, if_true, and_self]
    have e2 : ((rd_L1 g (i : Int)).length : Int) = (n : Int) := by omega
    by_cases f : isnum (rd s (i : Int))
    case neg =>
      have f' := decide_eq_false f
      refine Or.inr ⟨⟨i, Nat.le_refl _, by omega, fun h => f h.2.1⟩, fun k hk => ?_⟩
      obtain ⟨k, rfl⟩ : ∃ m, k = m + 1 + 1 := ⟨k - 2, by omega⟩
      generalize hK : k + 1 = K
      simp only [spec_l06Form.l0, impl_RightsOk.l0, if_pos c1, if_pos c2, if_pos c3, if_pos e2, if_pos c4, snum_f, inum_f, f', Option.bind_some, Bool.not_false]
      subst hK
      simp only [spec_l06Form.j2, impl_RightsOk.j2, if_true, and_self]
    have f' := decide_eq_true f
    have key : ∀ K, spec_l06Form.l0 (K + 1 + 1) (n : Int) g (n : Int) (i : Int) g s = spec_l06Form.l1 K (n : Int) g (n : Int) (i : Int) (rd_L1 g (i : Int)) ((rd_L1 g (i : Int)).length : Int) 0 g s ∧ impl_RightsOk.l0 (K + 1 + 1) (n : Int) acc g (n : Int) (i : Int) g s = impl_RightsOk.l1 K (n : Int) acc (i : Int) (rd_L1 g (i : Int)) g (n : Int) (i : Int) (rd_L1 g (i : Int)) ((rd_L1 g (i : Int)).length : Int) 0 g s := fun k => by
      generalize hK : k + 1 = K
      simp only [spec_l06Form.l0, impl_RightsOk.l0, if_pos c1, if_pos c2, if_pos c3, if_pos e2, if_pos c4, snum_f, inum_f, f', Option.bind_some, Bool.not_true]
      subst hK
      simp only [spec_l06Form.j2, impl_RightsOk.j2, Bool.false_eq_true, if_false, and_self]
    rcases rows_l1 (n : Int) acc (i : Int) g (n : Int) (i : Int) (rd_L1 g (i : Int)) g s (by omega) c2 (by omega) n 0 (by omega) with ⟨h, q⟩ | ⟨⟨a, _, a2, a3⟩, q⟩
    · have hi' := h i (by omega) (by omega)
      have hd : rd (rd_L1 g (i : Int)) (i : Int) ≤ 1125899906842624 := hi'.2
      have hd0 : 0 ≤ rd (rd_L1 g (i : Int)) (i : Int) := hi'.1
      have wa : wrap64 (acc + rd (rd_L1 g (i : Int)) (i : Int)) = acc + rd (rd_L1 g (i : Int)) (i : Int) := wrap_id (by omega) (by omega)
      have stp : ∀ k, 7 * (d + 1) + 1 ≤ k → ∃ K, k ≤ K + 7 ∧ 7 * d + 1 ≤ K ∧ spec_l06Form.l0 k (n : Int) g (n : Int) (i : Int) g s = spec_l06Form.l0 K (n : Int) g (n : Int) ((i + 1 : Nat) : Int) g s ∧ impl_RightsOk.l0 k (n : Int) acc g (n : Int) (i : Int) g s = impl_RightsOk.l0 K (n : Int) (acc + rd (rd_L1 g (i : Int)) (i : Int)) g (n : Int) ((i + 1 : Nat) : Int) g s := fun k hk => by
        obtain ⟨k, rfl⟩ : ∃ m, k = (m + n + 1) + 1 + 1 := ⟨k - n - 3, by omega⟩
        have q := q k
        rw [w, wa] at q
        exact ⟨k, by omega, by omega, (key (k + n + 1)).1.trans q.1, (key (k + n + 1)).2.trans q.2⟩
      rcases ih (i + 1) (acc + rd (rd_L1 g (i : Int)) (i : Int)) (by omega) (by omega) (by omega) with ⟨h', q'⟩ | ⟨⟨j, j1, j2, j3⟩, q'⟩
      · refine Or.inl ⟨fun j h1 h2 => ?_, fun k hk => ?_⟩
        · rcases Nat.lt_or_ge i j with h3 | h3
          · exact h' j h3 h2
          · have : j = i := by omega
            rw [this]
            exact ⟨e, f, fun a ha => h a (by omega) (by omega)⟩
        · obtain ⟨K, h1, h2, s1, s2⟩ := stp k hk
          obtain ⟨a1, k', a2, a3⟩ := q' K h2
          refine ⟨s1.trans a1, k', by omega, ?_⟩
          rw [s2, a3, dsum, Int.add_assoc]
      · refine Or.inr ⟨⟨j, by omega, j2, j3⟩, fun k hk => ?_⟩
        obtain ⟨K, h1, h2, s1, s2⟩ := stp k hk
        exact ⟨s1.trans (q' K h2).1, s2.trans (q' K h2).2⟩
    · refine Or.inr ⟨⟨i, Nat.le_refl _, by omega, fun h => a3 (h.2.2 a (by omega))⟩, fun k hk => ?_⟩
      obtain ⟨k, rfl⟩ : ∃ m, k = m + 1 + 1 := ⟨k - 2, by omega⟩
      exact ⟨(key k).1.trans (q k (by omega)).1, (key k).2.trans (q k (by omega)).2⟩
def E (g : List (List Int)) (i j : Nat) : Int := rd (rd_L1 g (i : Int)) (j : Int)
def bs (e : Nat → Nat → Int) (x : Nat) : Nat → Nat → Int
  | _, 0 => 0
  | i, d + 1 => (if i = x then 0 else e i x - e x i) + bs e x (i + 1) d
/-- What a node has. -/
def bal (n : Nat) (g : List (List Int)) (s : List Int) (x : Nat) : Int := E g x x - rd s (x : Int) + bs (E g) x 0 n
theorem bal_l0 (n : Nat) (hn : n ≤ 4) (g : List (List Int)) (s : List Int) (hg : g.length = n) (hf : ∀ j : Nat, j < n → RowOk n g s j) (x : Nat) (hx : x < n) (d : Nat) : ∀ (i : Nat) (acc : Int), i + d = n → -((i : Int) + 1) * 1125899906842624 ≤ acc → acc ≤ ((i : Int) + 1) * 1125899906842624 →
    ∀ k, d < k → spec_l06Has.l0 k (x : Int) acc (n : Int) (i : Int) g s = some (acc + bs (E g) x i d) ∧ impl_balance.l0 k (x : Int) acc (n : Int) (i : Int) g s = some (acc + bs (E g) x i d) := by
  induction d with
  | zero =>
    intro i acc hi ha hb
    intro k hk
    obtain ⟨k, rfl⟩ : ∃ m, k = m + 1 := ⟨k - 1, by omega⟩
    have c : ¬ (i : Int) < (n : Int) := by omega
    simp only [spec_l06Has.l0, impl_balance.l0, if_neg c, bs, Int.add_zero, and_self]
  | succ d ih =>
    intro i acc hi ha hb
    have c1 : (i : Int) < (n : Int) := by omega
    have w := wrap_succ i (by omega)
    by_cases e : i = x
    · have h := ih (i + 1) acc (by omega) (by omega) (by omega)
      intro k hk
      obtain ⟨k, rfl⟩ : ∃ m, k = m + 1 := ⟨k - 1, by omega⟩
      have eb : bs (E g) x i (d + 1) = bs (E g) x (i + 1) d := by simp only [bs, if_pos e, Int.zero_add]
      have e : (i : Int) = (x : Int) := by omega
      simp only [spec_l06Has.l0, impl_balance.l0, if_pos c1, if_pos e, w, eb]
      exact h k (by omega)
    have e' : ¬ (i : Int) = (x : Int) := by omega
    have eb : bs (E g) x i (d + 1) = (E g i x - E g x i) + bs (E g) x (i + 1) d := by simp only [bs, if_neg e]
    obtain ⟨r1, -, r2⟩ := hf i (by omega)
    obtain ⟨p1, -, p2⟩ := hf x hx
    have c2 : (0 : Int) ≤ (i : Int) := by omega
    have c3 : (i : Int) < (g.length : Int) := by omega
    have c4 : (0 : Int) ≤ (x : Int) := by omega
    have c5 : (x : Int) < ((rd_L1 g (i : Int)).length : Int) := by omega
    have c6 : (x : Int) < (g.length : Int) := by omega
    have c7 : (i : Int) < ((rd_L1 g (x : Int)).length : Int) := by omega
    obtain ⟨a0, a1⟩ := r2 x hx
    obtain ⟨b0, b1⟩ := p2 i (by omega)
    have w1 : wrap64 (acc + rd (rd_L1 g (i : Int)) (x : Int)) = acc + rd (rd_L1 g (i : Int)) (x : Int) := wrap_id (by omega) (by omega)
    have w2 : wrap64 (acc + rd (rd_L1 g (i : Int)) (x : Int) - rd (rd_L1 g (x : Int)) (i : Int)) = acc + rd (rd_L1 g (i : Int)) (x : Int) - rd (rd_L1 g (x : Int)) (i : Int) := wrap_id (by omega) (by omega)
    have w3 : wrap64 (rd (rd_L1 g (i : Int)) (x : Int) - rd (rd_L1 g (x : Int)) (i : Int)) = rd (rd_L1 g (i : Int)) (x : Int) - rd (rd_L1 g (x : Int)) (i : Int) := wrap_id (by omega) (by omega)
    have w4 : acc + (rd (rd_L1 g (i : Int)) (x : Int) - rd (rd_L1 g (x : Int)) (i : Int)) = acc + rd (rd_L1 g (i : Int)) (x : Int) - rd (rd_L1 g (x : Int)) (i : Int) := by omega
    have h := ih (i + 1) (acc + rd (rd_L1 g (i : Int)) (x : Int) - rd (rd_L1 g (x : Int)) (i : Int)) (by omega) (by omega) (by omega)
    intro k hk
    have ea : acc + bs (E g) x i (d + 1) = acc + rd (rd_L1 g (i : Int)) (x : Int) - rd (rd_L1 g (x : Int)) (i : Int) + bs (E g) x (i + 1) d := by
      rw [eb]
      show acc + ((rd (rd_L1 g (i : Int)) (x : Int) - rd (rd_L1 g (x : Int)) (i : Int)) + bs (E g) x (i + 1) d) = _
      omega
    rw [ea]
    obtain ⟨k, rfl⟩ : ∃ m, k = m + 1 := ⟨k - 1, by omega⟩
    simp only [spec_l06Has.l0, impl_balance.l0, if_pos c1, if_neg e', if_pos c2, if_pos c3, if_pos c4, if_pos c5, if_pos c6, if_pos c7, w, w1, w3, w4, w2]
    exact h k (by omega)
theorem has_f (n : Nat) (hn : n ≤ 4) (g : List (List Int)) (s : List Int) (hg : g.length = n) (hs : s.length = n) (hf : ∀ j : Nat, j < n → RowOk n g s j) (x : Nat) (hx : x < n) :
    ∀ k, 5 < k → spec_l06Has.f k g s (x : Int) = some (bal n g s x) ∧ impl_balance.f k g s (x : Int) = some (bal n g s x) := by
  obtain ⟨r1, ⟨s0, s1⟩, r2⟩ := hf x hx
  obtain ⟨a0, a1⟩ := r2 x hx
  have c4 : (0 : Int) ≤ (x : Int) := by omega
  have c5 : (x : Int) < ((rd_L1 g (x : Int)).length : Int) := by omega
  have c6 : (x : Int) < (g.length : Int) := by omega
  have c7 : (x : Int) < (s.length : Int) := by omega
  have w1 : wrap64 (rd (rd_L1 g (x : Int)) (x : Int) - rd s (x : Int)) = rd (rd_L1 g (x : Int)) (x : Int) - rd s (x : Int) := wrap_id (by omega) (by omega)
  have h := bal_l0 n hn g s hg hf x hx n 0 (rd (rd_L1 g (x : Int)) (x : Int) - rd s (x : Int)) (by omega) (by omega) (by omega)
  intro k hk
  have h := h k (by omega)
  simp only [Int.natCast_zero] at h
  unfold spec_l06Has.f impl_balance.f
  rw [if_pos c4, if_pos c6, if_pos c5, if_pos c7, if_pos c4, if_pos c6, if_pos c5, if_pos c7, w1, hg, hs]
  exact h
theorem ok_l0 (n : Nat) (hn : n ≤ 4) (g : List (List Int)) (s : List Int) (hg : g.length = n) (hs : s.length = n) (hf : ∀ j : Nat, j < n → RowOk n g s j) (d : Nat) : ∀ (i : Nat) (acc : Int), i + d = n → 0 ≤ acc → acc ≤ (i : Int) * 1125899906842624 →
    ∃ v : Bool, (v = true ↔ (∀ j : Nat, i ≤ j → j < n → 0 ≤ bal n g s j) ∧ isnum (acc + dsum g i d)) ∧ ∀ k, d + 6 < k → spec_RightsOk.l0 k acc (n : Int) (i : Int) g s = some v ∧ ∀ k', d + 6 < k' → impl_RightsOk.l2 k' (acc + dsum g i d) (n : Int) (i : Int) g s = some v := by
  induction d with
  | zero =>
    intro i acc hi ha hb
    refine ⟨decide (isnum acc), ⟨fun e => ⟨fun j h1 h2 => by omega, by simpa only [dsum, Int.add_zero] using of_decide_eq_true e⟩, fun e => decide_eq_true (by simpa only [dsum, Int.add_zero] using e.2)⟩, fun k hk => ?_⟩
    obtain ⟨k, rfl⟩ : ∃ m, k = m + 1 := ⟨k - 1, by omega⟩
    have c : ¬ (i : Int) < (n : Int) := by omega
    refine ⟨?_, fun k' hk' => ?_⟩
    · simp only [spec_RightsOk.l0, if_neg c, snum_f, Option.bind_some]
    · obtain ⟨k', rfl⟩ : ∃ m, k' = m + 1 := ⟨k' - 1, by omega⟩
      simp only [impl_RightsOk.l2, if_neg c, inum_f, Option.bind_some, dsum, Int.add_zero]
  | succ d ih =>
    intro i acc hi ha hb
    have c1 : (i : Int) < (n : Int) := by omega
    have c2 : (0 : Int) ≤ (i : Int) := by omega
    have c3 : (i : Int) < (g.length : Int) := by omega
    have w := wrap_succ i (by omega)
    obtain ⟨r1, -, r2⟩ := hf i (by omega)
    obtain ⟨a0, a1⟩ := r2 i (by omega)
    have c5 : (i : Int) < ((rd_L1 g (i : Int)).length : Int) := by omega
    have w1 : wrap64 (acc + rd (rd_L1 g (i : Int)) (i : Int)) = acc + rd (rd_L1 g (i : Int)) (i : Int) := wrap_id (by omega) (by omega)
    have q := has_f n hn g s hg hs hf i (by omega)
    by_cases e : bal n g s i < 0
    · refine ⟨false, ⟨fun h => (by cases h), fun h => absurd (h.1 i (Nat.le_refl _) (by omega)) (by omega)⟩, fun k hk => ⟨?_, fun k' hk' => ?_⟩⟩
      · obtain ⟨k, rfl⟩ : ∃ m, k = m + 1 := ⟨k - 1, by omega⟩
        simp only [spec_RightsOk.l0, if_pos c1, (q k (by omega)).1, Option.bind_some, if_pos e]
      · obtain ⟨k', rfl⟩ : ∃ m, k' = m + 1 := ⟨k' - 1, by omega⟩
        simp only [impl_RightsOk.l2, if_pos c1, (q k' (by omega)).2, Option.bind_some, if_pos e]
    · obtain ⟨v, hv, h⟩ := ih (i + 1) (acc + rd (rd_L1 g (i : Int)) (i : Int)) (by omega) (by omega) (by omega)
      refine ⟨v, ⟨fun ev => ⟨fun j h1 h2 => ?_, by have := (hv.1 ev).2; simpa only [dsum, Int.add_assoc] using this⟩, fun ev => hv.2 ⟨fun j h1 h2 => ev.1 j (by omega) h2, by have := ev.2; simpa only [dsum, Int.add_assoc] using this⟩⟩, fun k hk => ⟨?_, fun k' hk' => ?_⟩⟩
      · rcases Nat.lt_or_ge i j with h3 | h3
        · exact (hv.1 ev).1 j h3 h2
        · have : j = i := by omega
          rw [this]; omega
      · obtain ⟨k, rfl⟩ : ∃ m, k = m + 1 := ⟨k - 1, by omega⟩
        simp only [spec_RightsOk.l0, if_pos c1, (q k (by omega)).1, Option.bind_some, if_neg e, if_pos c2, if_pos c3, if_pos c5, w1, w]
        exact (h k (by omega)).1
      · obtain ⟨k', rfl⟩ : ∃ m, k' = m + 1 := ⟨k' - 1, by omega⟩
        simp only [impl_RightsOk.l2, if_pos c1, (q k' (by omega)).2, Option.bind_some, if_neg e, w, dsum, ← Int.add_assoc]
        exact (h k (by omega)).2 k' (by omega)
/-- Rights that are right, of n nodes. -/
def RGood (n : Nat) (g : List (List Int)) (s : List Int) : Prop := g.length = n ∧ s.length = n ∧ 1 ≤ n ∧ n ≤ 4 ∧ (∀ j : Nat, j < n → RowOk n g s j) ∧ (∀ j : Nat, j < n → 0 ≤ bal n g s j) ∧ isnum (dsum g 0 n)
theorem sin_f (a b c : Int) : spec_l01In.f a b c = some (decide (b ≤ a ∧ a ≤ c)) := by
  unfold spec_l01In.f
  by_cases h : a ≥ b
  · rw [if_pos h]; simp [h]
  · rw [if_neg h]; simp [h]
theorem iin_f (a b c : Int) : impl_in.f a b c = some (decide (b ≤ a ∧ a ≤ c)) := by
  unfold impl_in.f
  by_cases h : a ≥ b
  · rw [if_pos h]; simp [h]
  · rw [if_neg h]; simp [h]
theorem rok_iff (g : List (List Int)) (s : List Int) : ∃ v : Bool, (v = true ↔ RGood s.length g s) ∧ ∀ k, 60 < k → spec_RightsOk.f k g s = some v ∧ impl_RightsOk.f k g s = some v := by
  unfold spec_RightsOk.f impl_RightsOk.f spec_l06Form.f
  simp only [sin_f, iin_f, Option.bind_some]
  by_cases hl : g.length = s.length
  case neg =>
    refine ⟨false, ⟨(fun h => by cases h), fun h => absurd h.1 hl⟩, fun k hk => ?_⟩
    obtain ⟨k, rfl⟩ : ∃ m, k = m + 1 := ⟨k - 1, by omega⟩
    have b1 : ((s.length : Int) != (g.length : Int)) = true := by simp; omega
    have b2 : ((g.length : Int) != (s.length : Int)) = true := by simp; omega
    simp only [b1, b2, spec_l06Form.j0, impl_RightsOk.j0, if_true, ite_self, Option.bind_some, Bool.false_eq_true, if_false, and_self]
  have hl' : (g.length : Int) = (s.length : Int) := by omega
  by_cases hn : (1 : Int) ≤ (s.length : Int) ∧ (s.length : Int) ≤ 4
  case neg =>
    refine ⟨false, ⟨(fun h => by cases h), fun h => absurd (⟨by have := h.2.2.1; omega, by have := h.2.2.2.1; omega⟩ : (1 : Int) ≤ (s.length : Int) ∧ (s.length : Int) ≤ 4) hn⟩, fun k hk => ?_⟩
    obtain ⟨k, rfl⟩ : ∃ m, k = m + 1 := ⟨k - 1, by omega⟩
    have hn' := decide_eq_false hn
    simp only [hl', hn', spec_l06Form.j0, impl_RightsOk.j0, if_true, Option.bind_some, Bool.false_eq_true, if_false, and_self]
  have hn' := decide_eq_true hn
  have st : ∀ k, spec_l06Form.j0 (k + 1) (s.length : Int) ((s.length : Int) != (s.length : Int)) g s = spec_l06Form.l0 k (s.length : Int) g (s.length : Int) 0 g s ∧ impl_RightsOk.j0 (k + 1) (s.length : Int) ((s.length : Int) != (s.length : Int)) g s = impl_RightsOk.l0 k (s.length : Int) 0 g (s.length : Int) 0 g s := fun k => by
    simp only [bne_self_eq_false, spec_l06Form.j0, impl_RightsOk.j0, Bool.false_eq_true, if_false, hl', and_self]
  simp only [hl', hn', if_true]
  rcases rows_l0 s.length (by omega) g s hl rfl s.length 0 0 (by omega) (by omega) (by omega) with ⟨h, q⟩ | ⟨⟨j, _, j2, j3⟩, q⟩
  · have hf : ∀ j : Nat, j < s.length → RowOk s.length g s j := fun j hj => h j (by omega) hj
    obtain ⟨v, hv, z⟩ := ok_l0 s.length (by omega) g s hl rfl hf s.length 0 0 (by omega) (by omega) (by omega)
    have h1 : 1 ≤ s.length := by omega
    have h4 : s.length ≤ 4 := by omega
    rw [Int.zero_add] at hv
    refine ⟨v, ⟨fun e => ⟨hl, rfl, h1, h4, hf, fun j hj => (hv.1 e).1 j (Nat.zero_le _) hj, (hv.1 e).2⟩, fun e => hv.2 ⟨fun j _ hj => e.2.2.2.2.2.1 j hj, e.2.2.2.2.2.2⟩⟩, fun k hk => ?_⟩
    obtain ⟨z1, z2⟩ := z k (by omega)
    obtain ⟨k, rfl⟩ : ∃ m, k = m + 1 := ⟨k - 1, by omega⟩
    obtain ⟨q1, k', q2, q3⟩ := q k (by omega)
    have z2 := z2 k' (by omega)
    simp only [Int.natCast_zero] at q1 q3 z1 z2
    simp only [(st k).1, (st k).2, q1, q3, z1, z2, Option.bind_some, if_true, and_self]
  · refine ⟨false, ⟨(fun h => by cases h), fun h => absurd (h.2.2.2.2.1 j j2) j3⟩, fun k hk => ?_⟩
    obtain ⟨k, rfl⟩ : ∃ m, k = m + 1 := ⟨k - 1, by omega⟩
    have q := q k (by omega)
    simp only [Int.natCast_zero] at q
    simp only [(st k).1, (st k).2, q.1, q.2, Option.bind_some, Bool.false_eq_true, if_false, and_self]

theorem rowlen_rd {l : List Int} (b : Nat) (v : Int) (j : Nat) (hb : b < l.length) : rd (l.set b v) (j : Int) = if j = b then v else rd l (j : Int) := by
  unfold rd
  rw [Int.toNat_natCast, List.getD_eq_getElem?_getD, List.getD_eq_getElem?_getD]
  by_cases h : j = b
  · subst h
    rw [if_pos rfl, List.getElem?_set_self hb]
    rfl
  · rw [if_neg h, List.getElem?_set_ne (Ne.symm h)]
theorem row_set (g : List (List Int)) (a : Nat) (r : List Int) (i : Nat) (ha : a < g.length) : rd_L1 (g.set a r) (i : Int) = if i = a then r else rd_L1 g (i : Int) := by
  unfold rd_L1
  rw [Int.toNat_natCast, List.getD_eq_getElem?_getD, List.getD_eq_getElem?_getD]
  by_cases h : i = a
  · subst h
    rw [if_pos rfl, List.getElem?_set_self ha]
    rfl
  · rw [if_neg h, List.getElem?_set_ne (Ne.symm h)]
/-- c more at a, b. -/
def upd (g : List (List Int)) (a b : Nat) (c : Int) : List (List Int) := g.set a ((rd_L1 g (a : Int)).set b (E g a b + c))
theorem E_upd (g : List (List Int)) (a b : Nat) (c : Int) (ha : a < g.length) (hb : b < (rd_L1 g (a : Int)).length) (i j : Nat) : E (upd g a b c) i j = E g i j + (if i = a ∧ j = b then c else 0) := by
  unfold upd
  rw [E, row_set g a _ i ha]
  by_cases h : i = a
  · subst h
    rw [if_pos rfl, rowlen_rd b _ j hb]
    by_cases h2 : j = b
    · subst h2
      rw [if_pos rfl, if_pos ⟨rfl, rfl⟩]
    · rw [if_neg h2, if_neg (fun e => h2 e.2), Int.add_zero]
      rfl
  · rw [if_neg h, if_neg (fun e => h e.1), Int.add_zero]
    rfl
theorem bs_congr (e e' : Nat → Nat → Int) (a b : Nat) (c : Int) (h : ∀ i j, e' i j = e i j + (if i = a ∧ j = b then c else 0)) (x d : Nat) : ∀ i, bs e' x i d = bs e x i d + (if a ≠ x ∧ b = x ∧ i ≤ a ∧ a < i + d then c else 0) - (if a = x ∧ b ≠ x ∧ i ≤ b ∧ b < i + d then c else 0) := by
  induction d with
  | zero =>
    intro i
    rw [if_neg (by omega), if_neg (by omega)]
    simp only [bs]
    omega
  | succ d ih =>
    intro i
    simp only [bs, ih (i + 1), h]
    generalize bs e x (i + 1) d = B
    generalize e i x = p
    generalize e x i = q
    by_cases h1 : i = x
    · subst h1
      rw [if_pos rfl, if_pos rfl]
      by_cases h2 : a = i
      · subst h2
        by_cases h3 : b = a
        · rw [if_neg (by omega), if_neg (by omega), if_neg (by omega), if_neg (by omega)]; omega
        · by_cases h4 : a + 1 ≤ b ∧ b < a + 1 + d
          · rw [if_neg (by omega), if_pos ⟨rfl, h3, h4⟩, if_neg (by omega), if_pos (by omega)]; omega
          · rw [if_neg (by omega), if_neg (by omega), if_neg (by omega), if_neg (by omega)]; omega
      · by_cases h3 : b = i ∧ i + 1 ≤ a ∧ a < i + 1 + d
        · rw [if_pos ⟨h2, h3⟩, if_neg (by omega), if_pos (by omega), if_neg (by omega)]; omega
        · rw [if_neg (by omega), if_neg (by omega), if_neg (by omega), if_neg (by omega)]; omega
    · rw [if_neg h1, if_neg h1]
      by_cases h2 : a = x
      · subst h2
        by_cases h3 : b = a
        · rw [if_neg (by omega), if_neg (by omega), if_neg (by omega), if_neg (by omega), if_neg (by omega), if_neg (by omega)]; omega
        · by_cases h5 : b = i
          · rw [if_neg (by omega), if_pos ⟨rfl, h5.symm⟩, if_neg (by omega), if_neg (by omega), if_neg (by omega), if_pos (by omega)]; omega
          · by_cases h4 : i + 1 ≤ b ∧ b < i + 1 + d
            · rw [if_neg (by omega), if_neg (by omega), if_neg (by omega), if_pos (by omega), if_neg (by omega), if_pos (by omega)]; omega
            · rw [if_neg (by omega), if_neg (by omega), if_neg (by omega), if_neg (by omega), if_neg (by omega), if_neg (by omega)]; omega
      · by_cases h3 : b = x
        · subst h3
          by_cases h5 : a = i
          · rw [if_pos ⟨h5.symm, rfl⟩, if_neg (by omega), if_neg (by omega), if_neg (by omega), if_pos (by omega), if_neg (by omega)]; omega
          · by_cases h4 : i + 1 ≤ a ∧ a < i + 1 + d
            · rw [if_neg (by omega), if_neg (by omega), if_pos (by omega), if_neg (by omega), if_pos (by omega), if_neg (by omega)]; omega
            · rw [if_neg (by omega), if_neg (by omega), if_neg (by omega), if_neg (by omega), if_neg (by omega), if_neg (by omega)]; omega
        · rw [if_neg (by omega), if_neg (by omega), if_neg (by omega), if_neg (by omega), if_neg (by omega), if_neg (by omega)]; omega
theorem bal_upd (n : Nat) (g : List (List Int)) (s : List Int) (a b : Nat) (c : Int) (hg : g.length = n) (ha : a < n) (hb : b < n) (hr : (rd_L1 g (a : Int)).length = n) (x : Nat) (hx : x < n) : bal n (upd g a b c) s x = bal n g s x + (if b = x then c else if a = x then -c else 0) := by
  have he := E_upd g a b c (by omega) (by omega)
  unfold bal
  rw [bs_congr (E g) (E (upd g a b c)) a b c he x n 0, he]
  generalize bs (E g) x 0 n = B
  generalize E g x x = p
  by_cases h1 : b = x
  · rw [if_pos h1]
    by_cases h2 : a = x
    · rw [if_pos ⟨h2.symm, h1.symm⟩, if_neg (by omega), if_neg (by omega)]; omega
    · rw [if_neg (by omega), if_pos ⟨h2, h1, Nat.zero_le _, by omega⟩, if_neg (by omega)]; omega
  · rw [if_neg h1]
    by_cases h2 : a = x
    · rw [if_pos h2, if_neg (by omega), if_neg (by omega), if_pos ⟨h2, h1, Nat.zero_le _, by omega⟩]; omega
    · rw [if_neg h2, if_neg (by omega), if_neg (by omega), if_neg (by omega)]; omega
theorem dsum_E (g : List (List Int)) (i d : Nat) : dsum g i (d + 1) = E g i i + dsum g (i + 1) d := rfl
theorem dsum_upd (g : List (List Int)) (a b : Nat) (c : Int) (ha : a < g.length) (hb : b < (rd_L1 g (a : Int)).length) (d : Nat) : ∀ i, dsum (upd g a b c) i d = dsum g i d + (if a = b ∧ i ≤ a ∧ a < i + d then c else 0) := by
  induction d with
  | zero =>
    intro i
    rw [if_neg (by omega)]
    rfl
  | succ d ih =>
    intro i
    rw [dsum_E, dsum_E, ih, E_upd g a b c ha hb]
    generalize dsum g (i + 1) d = B
    generalize E g i i = p
    by_cases h : a = b
    · by_cases h2 : i = a
      · rw [if_pos ⟨h2, by omega⟩, if_neg (by omega), if_pos (by omega)]; omega
      · by_cases h3 : i + 1 ≤ a ∧ a < i + 1 + d
        · rw [if_neg (by omega), if_pos ⟨h, h3⟩, if_pos (by omega)]; omega
        · rw [if_neg (by omega), if_neg (by omega), if_neg (by omega)]; omega
    · rw [if_neg (by omega), if_neg (by omega), if_neg (by omega)]; omega
theorem upd_len (g : List (List Int)) (a b : Nat) (c : Int) : (upd g a b c).length = g.length := by unfold upd; exact List.length_set
theorem upd_row (g : List (List Int)) (a b : Nat) (c : Int) (ha : a < g.length) (j : Nat) : (rd_L1 (upd g a b c) (j : Int)).length = (rd_L1 g (j : Int)).length := by
  unfold upd
  rw [row_set g a _ j ha]
  by_cases h : j = a
  · subst h; rw [if_pos rfl, List.length_set]
  · rw [if_neg h]
theorem upd_RowOk (n : Nat) (g : List (List Int)) (s : List Int) (a b : Nat) (c : Int) (hg : g.length = n) (ha : a < n) (hb : b < n) (hf : ∀ j : Nat, j < n → RowOk n g s j) (hc : isnum (E g a b + c)) (j : Nat) (hj : j < n) : RowOk n (upd g a b c) s j := by
  have hr := (hf a ha).1
  obtain ⟨h1, h2, h3⟩ := hf j hj
  refine ⟨by rw [upd_row g a b c (by omega)]; exact h1, h2, fun i hi => ?_⟩
  show isnum (E (upd g a b c) j i)
  rw [E_upd g a b c (by omega) (by omega)]
  by_cases h : j = a ∧ i = b
  · rw [if_pos h, h.1, h.2]; exact hc
  · rw [if_neg h, Int.add_zero]; exact h3 i hi
theorem good_yes {n : Nat} {g : List (List Int)} {s : List Int} (h : RGood n g s) (k : Nat) (hk : 60 < k) : spec_RightsOk.f k g s = some true ∧ impl_RightsOk.f k g s = some true := by
  obtain ⟨v, hv, q⟩ := rok_iff g s
  have e : s.length = n := h.2.1
  subst e
  rw [hv.2 h] at q
  exact q k hk

theorem take_row (g : List (List Int)) (i : Nat) (hi : i < g.length) : g.take i ++ [rd_L1 g (i : Int)] = g.take (i + 1) := by
  rw [List.take_succ_eq_append_getElem hi]
  simp [rd_L1, hi]
theorem cop_l0 (g : List (List Int)) (s : List Int) (hl : g.length ≤ 4) (hb : ∀ j : Nat, j < g.length → (rd_L1 g (j : Int)).length ≤ 4) (d : Nat) : ∀ i : Nat, i + d = g.length → ∀ k, d < k →
    spec_l06Copy.l0 k g (g.length : Int) (i : Int) (g.take i) s = some (g, s) ∧ impl_copyRights.l0 k g (g.length : Int) (i : Int) (g.take i) s = some (g, s) := by
  induction d with
  | zero =>
    intro i hi k hk
    obtain ⟨k, rfl⟩ : ∃ m, k = m + 1 := ⟨k - 1, by omega⟩
    have c : ¬ (i : Int) < (g.length : Int) := by omega
    simp only [spec_l06Copy.l0, impl_copyRights.l0, if_neg c, List.take_of_length_le (show g.length ≤ i by omega), and_self]
  | succ d ih =>
    intro i hi k hk
    obtain ⟨k, rfl⟩ : ∃ m, k = m + 1 := ⟨k - 1, by omega⟩
    have c1 : (i : Int) < (g.length : Int) := by omega
    have c2 : (0 : Int) ≤ (i : Int) := by omega
    have w := wrap_succ i (by omega)
    have l1 := hb i (by omega)
    have c3 : ([] : List Int).length + (rd_L1 g (i : Int)).length < 17592186044416 := by simp; omega
    have c4 : (g.take i).length < 5864062014805 := by rw [List.length_take]; omega
    simp only [spec_l06Copy.l0, impl_copyRights.l0, impl_copyInts.f, if_pos c1, if_pos c2, if_pos c3, if_pos c4, Option.bind_some, w, List.nil_append, take_row g i (by omega)]
    exact ih (i + 1) (by omega) k (by omega)
theorem cop_f (g : List (List Int)) (s : List Int) (hl : g.length ≤ 4) (hs : s.length ≤ 4) (hb : ∀ j : Nat, j < g.length → (rd_L1 g (j : Int)).length ≤ 4) (k : Nat) (hk : 4 < k) : spec_l06Copy.f k g s = some (g, s) ∧ impl_copyRights.f k g s = some (g, s) := by
  have c3 : ([] : List Int).length + s.length < 17592186044416 := by simp; omega
  have h := cop_l0 g s hl hb g.length 0 (by omega) k (by omega)
  simp only [Int.natCast_zero, List.take_zero] at h
  unfold spec_l06Copy.f impl_copyRights.f impl_copyInts.f
  simp only [Option.bind_some, if_pos c3, List.nil_append]
  exact h
theorem good_cop {n : Nat} {g : List (List Int)} {s : List Int} (h : RGood n g s) (k : Nat) (hk : 60 < k) : spec_l06Copy.f k g s = some (g, s) ∧ impl_copyRights.f k g s = some (g, s) := by
  obtain ⟨h1, h2, h3, h4, h5, -, -⟩ := h
  exact cop_f g s (by omega) (by omega) (fun j hj => by rw [(h5 j (by omega)).1]; exact h4) k (by omega)
theorem amt_f (a : Int) : spec_IsAmt.f a = some (decide (1 ≤ a ∧ a ≤ 1000000000)) ∧ impl_IsAmt.f a = some (decide (1 ≤ a ∧ a ≤ 1000000000)) := by
  unfold spec_IsAmt.f impl_IsAmt.f
  simp only [sin_f, iin_f, Option.bind_some, and_self]
theorem good_len {n : Nat} {g : List (List Int)} {s : List Int} (h : RGood n g s) : wrap64 ((s.length : Int) - 1) = (n : Int) - 1 ∧ wrap64 ((g.length : Int) - 1) = (n : Int) - 1 := by
  rw [h.1, h.2.1]
  have := h.2.2.1
  have := h.2.2.2.1
  exact ⟨wrap_id (by omega) (by omega), wrap_id (by omega) (by omega)⟩
/-- What comes of asking for a change: out, if it is right. -/
def Asked (ok : Prop) (n : Nat) (g : List (List Int)) (s : List Int) (R : List (List Int) × List Int × Bool) : Prop :=
  (ok ∧ RGood n g s ∧ R = (g, s, true)) ∨ (¬ (ok ∧ RGood n g s) ∧ R = ([], [], false))
def InR (n : Nat) (i : Int) : Prop := 0 ≤ i ∧ i ≤ (n : Int) - 1
instance (n : Nat) (i : Int) : Decidable (InR n i) := inferInstanceAs (Decidable (_ ∧ _))
theorem in_f (n : Nat) (i : Int) : spec_l01In.f i 0 ((n : Int) - 1) = some (decide (InR n i)) ∧ impl_in.f i 0 ((n : Int) - 1) = some (decide (InR n i)) := by
  rw [sin_f, iin_f]; exact ⟨rfl, rfl⟩

theorem mint_f (g : List (List Int)) (s : List Int) (i a : Int) : ∃ R, (∀ k, 60 < k → spec_Mint.f k g s i a = some R ∧ impl_Mint.f k g s i a = some R) ∧
    Asked (RGood s.length g s ∧ InR s.length i ∧ 1 ≤ a ∧ a ≤ 1000000000) s.length (upd g i.toNat i.toNat a) s R := by
  obtain ⟨v, hv, q⟩ := rok_iff g s
  have am := amt_f a
  cases v with
  | false =>
    refine ⟨([], [], false), fun k hk => ?_, Or.inr ⟨fun h => (by cases hv.2 h.1.1), rfl⟩⟩
    simp only [spec_Mint.f, spec_l06May.f, impl_Mint.f, impl_changed_Mint.f, (q k hk).1, (q k hk).2, Option.bind_some, Bool.false_eq_true, if_false, and_self]
  | true =>
    have hg := hv.1 rfl
    obtain ⟨w1, w2⟩ := good_len hg
    obtain ⟨n1, n2⟩ := in_f s.length i
    by_cases hi : InR s.length i
    case neg =>
      refine ⟨([], [], false), fun k hk => ?_, Or.inr ⟨fun h => hi h.1.2.1, rfl⟩⟩
      simp only [spec_Mint.f, spec_l06May.f, impl_Mint.f, impl_changed_Mint.f, (q k hk).1, (q k hk).2, w1, w2, n1, n2, decide_eq_false hi, Option.bind_some, Bool.false_eq_true, if_false, if_true, and_self]
    by_cases ha : 1 ≤ a ∧ a ≤ 1000000000
    case neg =>
      refine ⟨([], [], false), fun k hk => ?_, Or.inr ⟨fun h => ha h.1.2.2, rfl⟩⟩
      simp only [spec_Mint.f, spec_l06May.f, impl_Mint.f, impl_changed_Mint.f, (q k hk).1, (q k hk).2, w1, w2, n1, n2, am.1, am.2, decide_eq_true hi, decide_eq_false ha, Option.bind_some, Bool.false_eq_true, if_false, if_true, and_self]
    obtain ⟨i0, i1⟩ := hi
    have hi : InR s.length i := ⟨i0, i1⟩
    obtain ⟨n, rfl⟩ : ∃ n : Nat, i = (n : Int) := ⟨i.toNat, by omega⟩
    have hR := hg.2.2.2.2.1 n (by omega)
    have hx := hR.2.2 n (by omega)
    have c1 : (n : Int) < (g.length : Int) := by rw [hg.1]; omega
    have c2 : (n : Int) < ((rd_L1 g (n : Int)).length : Int) := by rw [hR.1]; omega
    have w3 : wrap64 (rd (rd_L1 g (n : Int)) (n : Int) + a) = E g n n + a := wrap_id (by have := hx.1; omega) (by have := hx.2; omega)
    obtain ⟨u, hu, q2⟩ := rok_iff (upd g n n a) s
    have u1 : ∀ k, 60 < k → impl_Mint.upd g s (n : Int) a = some (upd g n n a, s) := fun k hk => by
      unfold impl_Mint.upd
      rw [if_pos i0, if_pos c1, show g.getD (n : Int).toNat [] = rd_L1 g (n : Int) from rfl, if_pos c2, w3, Int.toNat_natCast]
      rfl
    have e : g.set n ((rd_L1 g (n : Int)).set n (E g n n + a)) = upd g n n a := rfl
    cases u with
    | true =>
      refine ⟨(upd g n n a, s, true), fun k hk => ?_, Or.inl ⟨⟨hg, hi, ha⟩, by rw [Int.toNat_natCast]; exact hu.1 rfl, rfl⟩⟩
      obtain ⟨p1, p2⟩ := good_cop hg k hk
      simp only [spec_Mint.f, spec_l06May.f, spec_l06Done.f, impl_Mint.f, impl_changed_Mint.f, (q k hk).1, (q k hk).2, w1, w2, n1, n2, am.1, am.2, decide_eq_true hi, decide_eq_true ha, p1, p2, u1 k hk, if_pos i0, if_pos c1, if_pos c2, w3, Int.toNat_natCast, e, (q2 k hk).1, (q2 k hk).2, Option.bind_some, if_true, and_self]
    | false =>
      refine ⟨([], [], false), fun k hk => ?_, Or.inr ⟨fun h => ?_, rfl⟩⟩
      · obtain ⟨p1, p2⟩ := good_cop hg k hk
        simp only [spec_Mint.f, spec_l06May.f, spec_l06Done.f, impl_Mint.f, impl_changed_Mint.f, (q k hk).1, (q k hk).2, w1, w2, n1, n2, am.1, am.2, decide_eq_true hi, decide_eq_true ha, p1, p2, u1 k hk, if_pos i0, if_pos c1, if_pos c2, w3, Int.toNat_natCast, e, (q2 k hk).1, (q2 k hk).2, Option.bind_some, Bool.false_eq_true, if_false, if_true, and_self]
      · rw [Int.toNat_natCast] at h
        cases hu.2 h.2

def sup (s : List Int) (i : Nat) (a : Int) : List Int := s.set i (rd s (i : Int) + a)
theorem sup_len (s : List Int) (i : Nat) (a : Int) : (sup s i a).length = s.length := by unfold sup; exact List.length_set
theorem sup_rd (s : List Int) (i : Nat) (a : Int) (hi : i < s.length) (j : Nat) : rd (sup s i a) (j : Int) = rd s (j : Int) + (if j = i then a else 0) := by
  unfold sup
  rw [rowlen_rd i _ j hi]
  by_cases h : j = i
  · subst h; rw [if_pos rfl, if_pos rfl]
  · rw [if_neg h, if_neg h, Int.add_zero]
theorem sup_RowOk (n : Nat) (g : List (List Int)) (s : List Int) (a : Nat) (c : Int) (hs : s.length = n) (ha : a < n) (hf : ∀ j : Nat, j < n → RowOk n g s j) (hc : isnum (rd s (a : Int) + c)) (j : Nat) (hj : j < n) : RowOk n g (sup s a c) j := by
  obtain ⟨h1, h2, h3⟩ := hf j hj
  refine ⟨h1, ?_, h3⟩
  rw [sup_rd s a c (by omega)]
  by_cases h : j = a
  · subst h; rw [if_pos rfl]; exact hc
  · rw [if_neg h, Int.add_zero]; exact h2
theorem bal_sup (n : Nat) (g : List (List Int)) (s : List Int) (a : Nat) (c : Int) (ha : a < s.length) (x : Nat) : bal n g (sup s a c) x = bal n g s x - (if x = a then c else 0) := by
  unfold bal
  rw [sup_rd s a c ha]
  omega

theorem sspend_f (g : List (List Int)) (s : List Int) (i a : Int) : ∃ R, (∀ k, 62 < k → spec_Spend.f k g s i a = some R) ∧
    Asked (RGood s.length g s ∧ InR s.length i ∧ (1 ≤ a ∧ a ≤ 1000000000)) s.length g (sup s i.toNat a) R := by
  obtain ⟨v, hv, q⟩ := rok_iff g s
  have am := amt_f a
  cases v with
  | false =>
    refine ⟨([], [], false), fun k hk => ?_, Or.inr ⟨fun h => (by cases hv.2 h.1.1), rfl⟩⟩
    obtain ⟨k, rfl⟩ : ∃ m, k = m + 1 := ⟨k - 1, by omega⟩
    simp only [spec_Spend.f, spec_l06May.f, spec_l06Done.f, (q (k + 1) (by omega)).1, (q k (by omega)).1, Option.bind_some, Bool.false_eq_true, if_false, if_true, ite_self]
  | true =>
    have hg := hv.1 rfl
    obtain ⟨w1, w2⟩ := good_len hg
    obtain ⟨n1, n2⟩ := in_f s.length i
    by_cases hi : InR s.length i
    case neg =>
      refine ⟨([], [], false), fun k hk => ?_, Or.inr ⟨fun h => hi h.1.2.1, rfl⟩⟩
      obtain ⟨k, rfl⟩ : ∃ m, k = m + 1 := ⟨k - 1, by omega⟩
      simp only [spec_Spend.f, spec_l06May.f, spec_l06Done.f, (q (k + 1) (by omega)).1, (q k (by omega)).1, w1, w2, n1, n2, decide_eq_false hi, Option.bind_some, Bool.false_eq_true, if_false, if_true, ite_self]
    by_cases ha : 1 ≤ a ∧ a ≤ 1000000000
    case neg =>
      refine ⟨([], [], false), fun k hk => ?_, Or.inr ⟨fun h => ha h.1.2.2, rfl⟩⟩
      obtain ⟨k, rfl⟩ : ∃ m, k = m + 1 := ⟨k - 1, by omega⟩
      simp only [spec_Spend.f, spec_l06May.f, spec_l06Done.f, (q (k + 1) (by omega)).1, (q k (by omega)).1, w1, w2, n1, n2, am.1, am.2, decide_eq_true hi, decide_eq_false ha, Option.bind_some, Bool.false_eq_true, if_false, if_true, ite_self]
    obtain ⟨i0, i1⟩ := hi
    have hi : InR s.length i := ⟨i0, i1⟩
    obtain ⟨n, rfl⟩ : ∃ n : Nat, i = (n : Int) := ⟨i.toNat, by omega⟩
    have hR := hg.2.2.2.2.1 n (by omega)
    have hx := hR.2.1
    have c1 : (n : Int) < (s.length : Int) := by omega
    have w3 : wrap64 (rd s (n : Int) + a) = rd s (n : Int) + a := wrap_id (by have := hx.1; omega) (by have := hx.2; omega)
    obtain ⟨u, hu, q2⟩ := rok_iff g (sup s n a)
    rw [sup_len] at hu
    have e : s.set n (rd s (n : Int) + a) = sup s n a := rfl
    cases u with
    | true =>
      refine ⟨(g, sup s n a, true), fun k hk => ?_, Or.inl ⟨⟨hg, hi, ha⟩, by simp only [Int.toNat_natCast]; exact hu.1 rfl, by simp only [Int.toNat_natCast]⟩⟩
      obtain ⟨k, rfl⟩ : ∃ m, k = m + 1 := ⟨k - 1, by omega⟩
      obtain ⟨p1, p2⟩ := good_cop hg (k + 1) (by omega)
      obtain ⟨p3, p4⟩ := good_cop hg k (by omega)
      simp only [spec_Spend.f, spec_l06May.f, spec_l06Done.f, (q (k + 1) (by omega)).1, (q k (by omega)).1, w1, w2, n1, n2, am.1, am.2, decide_eq_true hi, decide_eq_true ha, p1, p3, if_pos i0, if_pos c1, w3, Int.toNat_natCast, e, (q2 (k + 1) (by omega)).1, (q2 k (by omega)).1, Option.bind_some, Bool.false_eq_true, if_false, if_true]
    | false =>
      refine ⟨([], [], false), fun k hk => ?_, Or.inr ⟨fun h => ?_, rfl⟩⟩
      · obtain ⟨k, rfl⟩ : ∃ m, k = m + 1 := ⟨k - 1, by omega⟩
        obtain ⟨p1, p2⟩ := good_cop hg (k + 1) (by omega)
        obtain ⟨p3, p4⟩ := good_cop hg k (by omega)
        simp only [spec_Spend.f, spec_l06May.f, spec_l06Done.f, (q (k + 1) (by omega)).1, (q k (by omega)).1, w1, w2, n1, n2, am.1, am.2, decide_eq_true hi, decide_eq_true ha, p1, p3, if_pos i0, if_pos c1, w3, Int.toNat_natCast, e, (q2 (k + 1) (by omega)).1, (q2 k (by omega)).1, Option.bind_some, Bool.false_eq_true, if_false, if_true]
      · simp only [Int.toNat_natCast] at h
        cases hu.2 h.2

theorem shand_f (g : List (List Int)) (s : List Int) (i j a : Int) : ∃ R, (∀ k, 62 < k → spec_Hand.f k g s i j a = some R) ∧
    Asked (RGood s.length g s ∧ InR s.length i ∧ InR s.length j ∧ (1 ≤ a ∧ a ≤ 1000000000) ∧ i ≠ j) s.length (upd g i.toNat j.toNat a) s R := by
  obtain ⟨v, hv, q⟩ := rok_iff g s
  have am := amt_f a
  by_cases hij : i = j
  case pos =>
    refine ⟨([], [], false), fun k hk => ?_, Or.inr ⟨fun h => absurd hij h.1.2.2.2.2, rfl⟩⟩
    subst hij
    obtain ⟨k, rfl⟩ : ∃ m, k = m + 1 := ⟨k - 1, by omega⟩
    have hb : (i == i) = true := by simp
    have hm : ∃ b, spec_l06May.f (k + 1) g s i a = some b := by
      cases v with
      | false => exact ⟨false, by simp only [spec_l06May.f, (q (k + 1) (by omega)).1, Option.bind_some, Bool.false_eq_true, if_false]⟩
      | true =>
        simp only [spec_l06May.f, (q (k + 1) (by omega)).1, sin_f, am.1, Option.bind_some, if_true]
        cases decide (0 ≤ i ∧ i ≤ wrap64 ((g.length : Int) - 1)) with
        | true => exact ⟨_, rfl⟩
        | false => exact ⟨false, by simp⟩
    obtain ⟨b, hm⟩ := hm
    cases b <;> simp only [spec_Hand.f, hm, Option.bind_some, hb, spec_Hand.j0, Bool.false_eq_true, if_false, if_true]
  cases v with
  | false =>
    refine ⟨([], [], false), fun k hk => ?_, Or.inr ⟨fun h => (by cases hv.2 h.1.1), rfl⟩⟩
    obtain ⟨k, rfl⟩ : ∃ m, k = m + 1 := ⟨k - 1, by omega⟩
    simp only [spec_Hand.f, spec_l06May.f, spec_l06Done.f, spec_Hand.j0, (q (k + 1) (by omega)).1, (q k (by omega)).1, Option.bind_some, Bool.false_eq_true, if_false, if_true, ite_self]
  | true =>
    have hg := hv.1 rfl
    obtain ⟨w1, w2⟩ := good_len hg
    obtain ⟨n1, n2⟩ := in_f s.length i
    obtain ⟨m1, m2⟩ := in_f s.length j
    by_cases hi : InR s.length i
    case neg =>
      refine ⟨([], [], false), fun k hk => ?_, Or.inr ⟨fun h => hi h.1.2.1, rfl⟩⟩
      obtain ⟨k, rfl⟩ : ∃ m, k = m + 1 := ⟨k - 1, by omega⟩
      simp only [spec_Hand.f, spec_l06May.f, spec_l06Done.f, spec_Hand.j0, (q (k + 1) (by omega)).1, (q k (by omega)).1, w1, w2, n1, n2, decide_eq_false hi, Option.bind_some, Bool.false_eq_true, if_false, if_true, ite_self]
    by_cases ha : 1 ≤ a ∧ a ≤ 1000000000
    case neg =>
      refine ⟨([], [], false), fun k hk => ?_, Or.inr ⟨fun h => ha h.1.2.2.2.1, rfl⟩⟩
      obtain ⟨k, rfl⟩ : ∃ m, k = m + 1 := ⟨k - 1, by omega⟩
      simp only [spec_Hand.f, spec_l06May.f, spec_l06Done.f, spec_Hand.j0, (q (k + 1) (by omega)).1, (q k (by omega)).1, w1, w2, n1, n2, m1, m2, am.1, am.2, decide_eq_true hi, decide_eq_false ha, Option.bind_some, Bool.false_eq_true, if_false, if_true, ite_self]
    by_cases hj : InR s.length j
    case neg =>
      refine ⟨([], [], false), fun k hk => ?_, Or.inr ⟨fun h => hj h.1.2.2.1, rfl⟩⟩
      obtain ⟨k, rfl⟩ : ∃ m, k = m + 1 := ⟨k - 1, by omega⟩
      simp only [spec_Hand.f, spec_l06May.f, spec_l06Done.f, spec_Hand.j0, (q (k + 1) (by omega)).1, (q k (by omega)).1, w1, w2, n1, n2, m1, m2, am.1, am.2, decide_eq_true hi, decide_eq_true ha, decide_eq_false hj, Option.bind_some, Bool.false_eq_true, if_false, if_true, ite_self]
    obtain ⟨i0, i1⟩ := hi
    have hi : InR s.length i := ⟨i0, i1⟩
    obtain ⟨n, rfl⟩ : ∃ n : Nat, i = (n : Int) := ⟨i.toNat, by omega⟩
    obtain ⟨j0, j1⟩ := hj
    have hj : InR s.length j := ⟨j0, j1⟩
    obtain ⟨m, rfl⟩ : ∃ m : Nat, j = (m : Int) := ⟨j.toNat, by omega⟩
    have hb : ((n : Int) == (m : Int)) = false := by simpa using hij
    have hR := hg.2.2.2.2.1 n (by omega)
    have hx := hR.2.2 m (by omega)
    have c1 : (n : Int) < (g.length : Int) := by rw [hg.1]; omega
    have c2 : (m : Int) < ((rd_L1 g (n : Int)).length : Int) := by rw [hR.1]; omega
    have w3 : wrap64 (rd (rd_L1 g (n : Int)) (m : Int) + a) = E g n m + a := wrap_id (by have := hx.1; omega) (by have := hx.2; omega)
    obtain ⟨u, hu, q2⟩ := rok_iff (upd g n m a) s
    have e : g.set n ((rd_L1 g (n : Int)).set m (E g n m + a)) = upd g n m a := rfl
    cases u with
    | true =>
      refine ⟨(upd g n m a, s, true), fun k hk => ?_, Or.inl ⟨⟨hg, hi, hj, ha, hij⟩, by simp only [Int.toNat_natCast]; exact hu.1 rfl, by simp only [Int.toNat_natCast]⟩⟩
      obtain ⟨k, rfl⟩ : ∃ m, k = m + 1 := ⟨k - 1, by omega⟩
      obtain ⟨p1, p2⟩ := good_cop hg (k + 1) (by omega)
      obtain ⟨p3, p4⟩ := good_cop hg k (by omega)
      simp only [spec_Hand.f, spec_l06May.f, spec_l06Done.f, spec_Hand.j0, (q (k + 1) (by omega)).1, (q k (by omega)).1, w1, w2, n1, n2, m1, m2, am.1, am.2, decide_eq_true hi, decide_eq_true ha, p1, p3, if_pos i0, if_pos j0, if_pos c1, if_pos c2, w3, Int.toNat_natCast, e, hb, decide_eq_true hj, (q2 (k + 1) (by omega)).1, (q2 k (by omega)).1, Option.bind_some, Bool.false_eq_true, if_false, if_true]
    | false =>
      refine ⟨([], [], false), fun k hk => ?_, Or.inr ⟨fun h => ?_, rfl⟩⟩
      · obtain ⟨k, rfl⟩ : ∃ m, k = m + 1 := ⟨k - 1, by omega⟩
        obtain ⟨p1, p2⟩ := good_cop hg (k + 1) (by omega)
        obtain ⟨p3, p4⟩ := good_cop hg k (by omega)
        simp only [spec_Hand.f, spec_l06May.f, spec_l06Done.f, spec_Hand.j0, (q (k + 1) (by omega)).1, (q k (by omega)).1, w1, w2, n1, n2, m1, m2, am.1, am.2, decide_eq_true hi, decide_eq_true ha, p1, p3, if_pos i0, if_pos j0, if_pos c1, if_pos c2, w3, Int.toNat_natCast, e, hb, decide_eq_true hj, (q2 (k + 1) (by omega)).1, (q2 k (by omega)).1, Option.bind_some, Bool.false_eq_true, if_false, if_true]
      · simp only [Int.toNat_natCast] at h
        cases hu.2 h.2

theorem and255 (x : Int) : 0 ≤ Go.bits .and .i64 x 255 ∧ Go.bits .and .i64 x 255 ≤ 255 := by
  have e : (BitVec.ofInt 64 (255 : Int)).toNat = 255 := rfl
  have h : Go.bits .and .i64 x 255 = IntKind.i64.wrap (((BitVec.ofInt 64 x).toNat &&& 255 : Nat) : Int) := by
    show IntKind.i64.wrap ((BitVec.ofInt 64 x &&& BitVec.ofInt 64 255).toNat : Int) = _
    rw [BitVec.toNat_and, e]
  have hle : (BitVec.ofInt 64 x).toNat &&& 255 ≤ 255 := Nat.and_le_right
  rw [h]
  generalize (BitVec.ofInt 64 x).toNat &&& 255 = n at hle
  simp only [IntKind.wrap, IntKind.bits, IntKind.signed]
  simp
  omega
theorem l01New_l0 (l : List Int) (d : Nat) : ∀ (x3 : Int) (i : Nat), i + d = 4000 → ∃ h, ∀ k, d < k → spec_l01New.l0 k l x3 (i : Int) = some (l, 0, h) := by
  induction d with
  | zero =>
    intro x3 i hi
    refine ⟨x3, fun k hk => ?_⟩
    obtain ⟨k, rfl⟩ : ∃ m, k = m + 1 := ⟨k - 1, by omega⟩
    simp only [spec_l01New.l0]
    by_cases hl : (i : Int) < (l.length : Int)
    · rw [if_pos hl, if_neg (by omega)]
    · rw [if_neg hl]
  | succ d ih =>
    intro x3 i hi
    by_cases hl : (i : Int) < (l.length : Int)
    · obtain ⟨h, hh⟩ := ih (Go.bits .and .i64 (wrap64 ((wrap64 ((wrap64 (x3 * 47)) + (wrap64 (rd l (i : Int))))) + 7)) 1073741823) (i + 1) (by omega)
      refine ⟨h, fun k hk => ?_⟩
      obtain ⟨k, rfl⟩ : ∃ m, k = m + 1 := ⟨k - 1, by omega⟩
      simp only [spec_l01New.l0]
      rw [if_pos hl, if_pos (by omega), if_pos (by omega), wrap_succ i (by omega)]
      exact hh k (by omega)
    · refine ⟨x3, fun k hk => ?_⟩
      obtain ⟨k, rfl⟩ : ∃ m, k = m + 1 := ⟨k - 1, by omega⟩
      simp only [spec_l01New.l0]
      rw [if_neg hl]
theorem l01New_f (l : List Int) : ∃ h, ∀ k, 4000 < k → spec_l01New.f k l = some (l, 0, h) := l01New_l0 l 4000 _ 0 (by omega)
theorem l01Byte_f (s : List Int) (hs : s.length ≤ 1048576) (i h : Int) (hi : 0 ≤ i) : ∃ r i' h', spec_l01Byte.f s i h = some (r, i', h') ∧ 0 ≤ i' ∧ 0 ≤ r ∧ r ≤ 255 := by
  unfold spec_l01Byte.f
  by_cases hl : i < (s.length : Int)
  · rw [if_pos hl, if_pos hi]
    exact ⟨_, _, _, rfl, by rw [wrap_id (by omega) (by omega)]; omega, (and255 _).1, (and255 _).2⟩
  · rw [if_neg hl]
    exact ⟨_, _, _, rfl, hi, (and255 _).1, (and255 _).2⟩
theorem tmod_in (a n : Int) (ha : 0 ≤ a) (hn : 0 < n) : 0 ≤ Int.tmod a n ∧ Int.tmod a n < n :=
  ⟨Int.tmod_nonneg n ha, Int.tmod_lt_of_pos a hn⟩
theorem l01Below_f (s : List Int) (hs : s.length ≤ 1048576) (i h n : Int) (hi : 0 ≤ i) : ∃ r i' h', spec_l01Below.f s i h n = some (r, i', h') ∧ 0 ≤ i' ∧ 0 ≤ r ∧ (0 < n → r < n) ∧ (n ≤ 0 → r = 0) := by
  unfold spec_l01Below.f
  by_cases h0 : n ≤ 0
  · rw [if_pos h0]
    exact ⟨_, _, _, rfl, hi, Int.le_refl _, fun h => by omega, fun _ => rfl⟩
  rw [if_neg h0]
  by_cases h1 : n ≤ 256
  · rw [if_pos h1]
    obtain ⟨r, i', h', e, hi', hr0, hr1⟩ := l01Byte_f s hs i h hi
    rw [e]
    simp only [Option.bind_some]
    rw [if_neg (by omega)]
    have t := tmod_in r n hr0 (by omega)
    exact ⟨_, _, _, rfl, hi', t.1, fun _ => t.2, fun h => absurd h h0⟩
  · rw [if_neg h1]
    obtain ⟨r1, i1, h1', e1, hi1, ha0, ha1⟩ := l01Byte_f s hs i h hi
    obtain ⟨r2, i2, h2', e2, hi2, hb0, hb1⟩ := l01Byte_f s hs i1 h1' hi1
    obtain ⟨r3, i3, h3', e3, hi3, hc0, hc1⟩ := l01Byte_f s hs i2 h2' hi2
    obtain ⟨r4, i4, h4', e4, hi4, hd0, hd1⟩ := l01Byte_f s hs i3 h3' hi3
    rw [e1]; simp only [Option.bind_some]
    rw [e2]; simp only [Option.bind_some]
    rw [e3]; simp only [Option.bind_some]
    rw [e4]; simp only [Option.bind_some]
    rw [if_neg (by omega), wrap_id (x := r1 * 16777216) (by omega) (by omega), wrap_id (x := r2 * 65536) (by omega) (by omega), wrap_id (x := r3 * 256) (by omega) (by omega),
      wrap_id (x := r1 * 16777216 + r2 * 65536) (by omega) (by omega), wrap_id (x := r1 * 16777216 + r2 * 65536 + r3 * 256) (by omega) (by omega), wrap_id (x := r1 * 16777216 + r2 * 65536 + r3 * 256 + r4) (by omega) (by omega)]
    have t := tmod_in (r1 * 16777216 + r2 * 65536 + r3 * 256 + r4) n (by omega) (by omega)
    exact ⟨_, _, _, rfl, hi4, t.1, fun _ => t.2, fun h => absurd h h0⟩

theorem MakeNum_f (l : List Int) (hl : l.length ≤ 1048576) (n : Int) : ∃ r, 0 ≤ r ∧ (0 < n → r < n) ∧ (n ≤ 0 → r = 0) ∧ ∀ k, 4000 < k → spec_MakeNum.f k l n = some r := by
  obtain ⟨h, hh⟩ := l01New_f l
  obtain ⟨r, i', h', e, _, hr0, hr1, hr2⟩ := l01Below_f l hl 0 (wrap64 (h + 777)) n (Int.le_refl _)
  refine ⟨r, hr0, hr1, hr2, fun k hk => ?_⟩
  unfold spec_MakeNum.f
  rw [hh k hk]
  simp only [Option.bind_some]
  rw [e]
  rfl

/-- No entry is above B. -/
def Low (n : Nat) (B : Int) (g : List (List Int)) (s : List Int) : Prop := (∀ i j : Nat, i < n → j < n → E g i j ≤ B) ∧ ∀ i : Nat, i < n → rd s (i : Int) ≤ B
theorem Low.mono {n : Nat} {B C : Int} {g : List (List Int)} {s : List Int} (h : Low n B g s) (hb : B ≤ C) : Low n C g s :=
  ⟨fun i j hi hj => Int.le_trans (h.1 i j hi hj) hb, fun i hi => Int.le_trans (h.2 i hi) hb⟩
theorem low_upd {n : Nat} {B c : Int} {g : List (List Int)} {s : List Int} (a b : Nat) (hg : RGood n g s) (ha : a < n) (hb : b < n) (hc : c ≤ 50) (h : Low n B g s) : Low n (B + 50) (upd g a b c) s := by
  have hr := (hg.2.2.2.2.1 a ha).1
  refine ⟨fun i j hi hj => ?_, fun i hi => by have := h.2 i hi; omega⟩
  rw [E_upd g a b c (by rw [hg.1]; exact ha) (by rw [hr]; exact hb)]
  have := h.1 i j hi hj
  by_cases e : i = a ∧ j = b
  · rw [if_pos e]; omega
  · rw [if_neg e]; omega
theorem low_sup {n : Nat} {B c : Int} {g : List (List Int)} {s : List Int} (a : Nat) (hg : RGood n g s) (ha : a < n) (hc : c ≤ 50) (h : Low n B g s) : Low n (B + 50) g (sup s a c) := by
  refine ⟨fun i j hi hj => by have := h.1 i j hi hj; omega, fun i hi => ?_⟩
  rw [sup_rd s a c (by rw [hg.2.1]; exact ha)]
  have := h.2 i hi
  by_cases e : i = a
  · rw [if_pos e]; omega
  · rw [if_neg e]; omega
theorem n4 {n : Nat} (h1 : 1 ≤ n) (h4 : n ≤ 4) : n = 1 ∨ n = 2 ∨ n = 3 ∨ n = 4 := by omega
theorem new_f (n : Nat) (h1 : 1 ≤ n) (h4 : n ≤ 4) (k : Nat) (hk : 60 < k) : spec_RightsNew.f k (n : Int) = some (List.replicate n (List.replicate n 0), List.replicate n 0) := by
  obtain ⟨k, rfl⟩ : ∃ m, k = m + 6 := ⟨k - 6, by omega⟩
  rcases n4 h1 h4 with rfl | rfl | rfl | rfl <;> simp [spec_RightsNew.f, sin_f, spec_RightsNew.l0, wrap64, List.replicate]
theorem new_good (n : Nat) (h1 : 1 ≤ n) (h4 : n ≤ 4) : RGood n (List.replicate n (List.replicate n 0)) (List.replicate n 0) := by
  have key : (∀ j : Nat, j < n → RowOk n (List.replicate n (List.replicate n 0)) (List.replicate n 0) j) ∧ (∀ j : Nat, j < n → 0 ≤ bal n (List.replicate n (List.replicate n 0)) (List.replicate n 0) j) ∧ isnum (dsum (List.replicate n (List.replicate n 0)) 0 n) := by
    unfold RowOk isnum
    rcases n4 h1 h4 with rfl | rfl | rfl | rfl <;> decide
  exact ⟨by simp, by simp, h1, h4, key⟩
theorem new_low (n : Nat) (h1 : 1 ≤ n) (h4 : n ≤ 4) : Low n 0 (List.replicate n (List.replicate n 0)) (List.replicate n 0) := by
  unfold Low
  rcases n4 h1 h4 with rfl | rfl | rfl | rfl
  · exact ⟨fun i j hi hj => by obtain rfl : i = 0 := by omega
                               obtain rfl : j = 0 := by omega
                               decide, by decide⟩
  · exact ⟨by have : ∀ i : Nat, i < 2 → ∀ j : Nat, j < 2 → E (List.replicate 2 (List.replicate 2 0)) i j ≤ 0 := by decide
              exact fun i j hi hj => this i hi j hj, by decide⟩
  · exact ⟨by have : ∀ i : Nat, i < 3 → ∀ j : Nat, j < 3 → E (List.replicate 3 (List.replicate 3 0)) i j ≤ 0 := by decide
              exact fun i j hi hj => this i hi j hj, by decide⟩
  · exact ⟨by have : ∀ i : Nat, i < 4 → ∀ j : Nat, j < 4 → E (List.replicate 4 (List.replicate 4 0)) i j ≤ 0 := by decide
              exact fun i j hi hj => this i hi j hj, by decide⟩
theorem rdraw_l0 (n : Nat) (c0 : List Int) (hl : c0.length ≤ 1048576) (c : Nat) : ∀ (B : Int) (g : List (List Int)) (s : List Int) (i h : Int), 0 ≤ i → c ≤ 9 → RGood n g s → Low n B g s →
    ∃ g' s' i' h', RGood n g' s' ∧ Low n (B + 50 * (c : Int)) g' s' ∧ ∀ k, c + 70 < k → spec_l06Draw.l0 k (n : Int) (c : Int) c0 i h g s = some (g', s', i', h') := by
  induction c with
  | zero =>
    intro B g s i h hi hc hg hL
    refine ⟨g, s, i, h, hg, by simpa using hL, fun k hk => ?_⟩
    obtain ⟨k, rfl⟩ : ∃ m, k = m + 1 := ⟨k - 1, by omega⟩
    simp only [spec_l06Draw.l0]
    rw [if_neg (by omega)]
  | succ c ih =>
    intro B g s i h hi hc hg hL
    have hn : s.length = n := hg.2.1
    have hn1 := hg.2.2.1
    have hp : (((c + 1 : Nat) : Int) > 0) := by omega
    have wc : wrap64 (((c + 1 : Nat) : Int) - 1) = (c : Int) := by rw [wrap_id (by omega) (by omega)]; omega
    have fin : ∀ (g1 : List (List Int)) (s1 : List Int) (i1 h1 : Int), 0 ≤ i1 → RGood n g1 s1 → Low n (B + 50) g1 s1 → ∃ g' s' i' h', RGood n g' s' ∧ Low n (B + 50 * ((c + 1 : Nat) : Int)) g' s' ∧ ∀ k, c + 70 < k → spec_l06Draw.l0 k (n : Int) (c : Int) c0 i1 h1 g1 s1 = some (g', s', i', h') := fun g1 s1 i1 h1 a b d => by
      obtain ⟨g', s', i', h', e1, e2, e3⟩ := ih (B + 50) g1 s1 i1 h1 a (by omega) b d
      exact ⟨g', s', i', h', e1, e2.mono (by omega), e3⟩
    have hL' : Low n (B + 50) g s := hL.mono (by omega)
    obtain ⟨r, i1, h1, e1, hi1, r0, r1, -⟩ := l01Below_f c0 hl i h 3 hi
    by_cases hr : r = 0
    · obtain ⟨x, i2, h2, e2, hi2, x0, x1, -⟩ := l01Below_f c0 hl i1 h1 (n : Int) hi1
      obtain ⟨y, i3, h3, e3, hi3, y0, y1, -⟩ := l01Below_f c0 hl i2 h2 50 hi2
      have x1 := x1 (by omega)
      have y1 := y1 (by omega)
      have wa : wrap64 (1 + y) = 1 + y := wrap_id (by omega) (by omega)
      obtain ⟨R, q, hA⟩ := mint_f g s x (1 + y)
      rw [hn] at hA
      rcases hA with ⟨ok, hG, rfl⟩ | ⟨_, rfl⟩
      · obtain ⟨g', s', i', h', a1, a2, a3⟩ := fin _ _ i3 h3 hi3 hG (low_upd x.toNat x.toNat hg (by omega) (by omega) (by omega) hL)
        refine ⟨g', s', i', h', a1, a2, fun k hk => ?_⟩
        obtain ⟨k, rfl⟩ : ∃ m, k = m + 1 := ⟨k - 1, by omega⟩
        simp only [spec_l06Draw.l0, if_pos hp, e1, Option.bind_some, if_pos hr, e2, e3, wa, (q k (by omega)).1, if_true, wc]
        exact a3 k (by omega)
      · obtain ⟨g', s', i', h', a1, a2, a3⟩ := fin _ _ i3 h3 hi3 hg hL'
        refine ⟨g', s', i', h', a1, a2, fun k hk => ?_⟩
        obtain ⟨k, rfl⟩ : ∃ m, k = m + 1 := ⟨k - 1, by omega⟩
        simp only [spec_l06Draw.l0, if_pos hp, e1, Option.bind_some, if_pos hr, e2, e3, wa, (q k (by omega)).1, Bool.false_eq_true, if_false, wc]
        exact a3 k (by omega)
    by_cases hr1 : r = 1
    · obtain ⟨x, i2, h2, e2, hi2, x0, x1, -⟩ := l01Below_f c0 hl i1 h1 (n : Int) hi1
      obtain ⟨y, i3, h3, e3, hi3, y0, y1, -⟩ := l01Below_f c0 hl i2 h2 20 hi2
      have x1 := x1 (by omega)
      have y1 := y1 (by omega)
      have wa : wrap64 (1 + y) = 1 + y := wrap_id (by omega) (by omega)
      obtain ⟨R, q, hA⟩ := sspend_f g s x (1 + y)
      rw [hn] at hA
      rcases hA with ⟨ok, hG, rfl⟩ | ⟨_, rfl⟩
      · obtain ⟨g', s', i', h', a1, a2, a3⟩ := fin _ _ i3 h3 hi3 hG (low_sup x.toNat hg (by omega) (by omega) hL)
        refine ⟨g', s', i', h', a1, a2, fun k hk => ?_⟩
        obtain ⟨k, rfl⟩ : ∃ m, k = m + 1 := ⟨k - 1, by omega⟩
        simp only [spec_l06Draw.l0, if_pos hp, e1, Option.bind_some, if_neg hr, if_pos hr1, e2, e3, wa, q k (by omega), if_true, wc]
        exact a3 k (by omega)
      · obtain ⟨g', s', i', h', a1, a2, a3⟩ := fin _ _ i3 h3 hi3 hg hL'
        refine ⟨g', s', i', h', a1, a2, fun k hk => ?_⟩
        obtain ⟨k, rfl⟩ : ∃ m, k = m + 1 := ⟨k - 1, by omega⟩
        simp only [spec_l06Draw.l0, if_pos hp, e1, Option.bind_some, if_neg hr, if_pos hr1, e2, e3, wa, q k (by omega), Bool.false_eq_true, if_false, wc]
        exact a3 k (by omega)
    · obtain ⟨x, i2, h2, e2, hi2, x0, x1, -⟩ := l01Below_f c0 hl i1 h1 (n : Int) hi1
      obtain ⟨z, i3, h3, e3, hi3, z0, z1, -⟩ := l01Below_f c0 hl i2 h2 (n : Int) hi2
      obtain ⟨y, i4, h4, e4, hi4, y0, y1, -⟩ := l01Below_f c0 hl i3 h3 20 hi3
      have x1 := x1 (by omega)
      have z1 := z1 (by omega)
      have y1 := y1 (by omega)
      have wa : wrap64 (1 + y) = 1 + y := wrap_id (by omega) (by omega)
      obtain ⟨R, q, hA⟩ := shand_f g s x z (1 + y)
      rw [hn] at hA
      rcases hA with ⟨ok, hG, rfl⟩ | ⟨_, rfl⟩
      · obtain ⟨g', s', i', h', a1, a2, a3⟩ := fin _ _ i4 h4 hi4 hG (low_upd x.toNat z.toNat hg (by omega) (by omega) (by omega) hL)
        refine ⟨g', s', i', h', a1, a2, fun k hk => ?_⟩
        obtain ⟨k, rfl⟩ : ∃ m, k = m + 1 := ⟨k - 1, by omega⟩
        simp only [spec_l06Draw.l0, if_pos hp, e1, Option.bind_some, if_neg hr, if_neg hr1, e2, e3, e4, wa, q k (by omega), if_true, wc]
        exact a3 k (by omega)
      · obtain ⟨g', s', i', h', a1, a2, a3⟩ := fin _ _ i4 h4 hi4 hg hL'
        refine ⟨g', s', i', h', a1, a2, fun k hk => ?_⟩
        obtain ⟨k, rfl⟩ : ∃ m, k = m + 1 := ⟨k - 1, by omega⟩
        simp only [spec_l06Draw.l0, if_pos hp, e1, Option.bind_some, if_neg hr, if_neg hr1, e2, e3, e4, wa, q k (by omega), Bool.false_eq_true, if_false, wc]
        exact a3 k (by omega)
theorem MakeRights_f (l : List Int) (hl : l.length ≤ 1048576) (n : Nat) (h1 : 1 ≤ n) (h4 : n ≤ 4) (t : Int) : ∃ g s, RGood n g s ∧ Low n 400 g s ∧ ∀ k, 5000 < k → spec_MakeRights.f k l (n : Int) t = some (g, s) := by
  obtain ⟨h, hh⟩ := l01New_f l
  obtain ⟨r, i', h', e, hi', r0, r1, -⟩ := l01Below_f l hl 0 (wrap64 (h + (wrap64 (100 * t)))) 9 (Int.le_refl _)
  have r1 := r1 (by omega)
  obtain ⟨c, rfl⟩ : ∃ c : Nat, r = (c : Int) := ⟨r.toNat, by omega⟩
  obtain ⟨g', s', i2, h2, a1, a2, a3⟩ := rdraw_l0 n l hl c 0 _ _ i' h' hi' (by omega) (new_good n h1 h4) (new_low n h1 h4)
  refine ⟨g', s', a1, a2.mono (by omega), fun k hk => ?_⟩
  unfold spec_MakeRights.f spec_l06Draw.f
  simp only [hh k (by omega), Option.bind_some, new_f n h1 h4 k (by omega), e, a3 k (by omega)]

/-- What is drawn stays right with an amount more at a node. -/
theorem good_more {n : Nat} {g : List (List Int)} {s : List Int} (h : RGood n g s) (hL : Low n 400 g s) (a : Nat) (ha : a < n) (c : Int) (h0 : 0 ≤ c) (h1 : c ≤ 1000) : RGood n (upd g a a c) s := by
  obtain ⟨g1, g2, g3, g4, g5, g6, g7⟩ := h
  have hr := (g5 a ha).1
  have lo : ∀ i : Nat, i < n → 0 ≤ E g i i ∧ E g i i ≤ 400 := fun i hi => ⟨((g5 i hi).2.2 i hi).1, hL.1 i i hi hi⟩
  refine ⟨by rw [upd_len]; exact g1, g2, g3, g4, fun j hj => ?_, fun j hj => ?_, ?_⟩
  · exact upd_RowOk n g s a a c g1 ha ha g5 ⟨by have := (lo a ha).1; omega, by have := (lo a ha).2; omega⟩ j hj
  · rw [bal_upd n g s a a c g1 ha ha hr j hj]
    have := g6 j hj
    by_cases e : a = j
    · rw [if_pos e]; omega
    · rw [if_neg e, if_neg e]; omega
  · rw [dsum_upd g a a c (by omega) (by omega)]
    have ds : ∀ d i, i + d = n → dsum g i d ≤ 400 * (d : Int) := fun d => by
      induction d with
      | zero => intro i _; exact Int.le_refl _
      | succ d ih =>
        intro i hi
        rw [dsum_E]
        have := (lo i (by omega)).2
        have := ih (i + 1) (by omega)
        omega
    have := ds n 0 (by omega)
    have := g7.1
    rw [if_pos ⟨rfl, Nat.zero_le _, by omega⟩]
    exact ⟨by omega, by omega⟩

theorem ispend_f (g : List (List Int)) (s : List Int) (i a : Int) : ∃ R, (∀ k, 62 < k → impl_Spend.f k g s i a = some R) ∧
    Asked (RGood s.length g s ∧ InR s.length i ∧ (1 ≤ a ∧ a ≤ 1000000000)) s.length g (sup s i.toNat a) R := by
  obtain ⟨v, hv, q⟩ := rok_iff g s
  have am := amt_f a
  cases v with
  | false =>
    refine ⟨([], [], false), fun k hk => ?_, Or.inr ⟨fun h => (by cases hv.2 h.1.1), rfl⟩⟩
    obtain ⟨k, rfl⟩ : ∃ m, k = m + 1 := ⟨k - 1, by omega⟩
    simp only [impl_Spend.f, impl_changed_Spend.f, (q (k + 1) (by omega)).2, (q k (by omega)).2, Option.bind_some, Bool.false_eq_true, if_false, if_true, ite_self]
  | true =>
    have hg := hv.1 rfl
    obtain ⟨w1, w2⟩ := good_len hg
    obtain ⟨n1, n2⟩ := in_f s.length i
    by_cases hi : InR s.length i
    case neg =>
      refine ⟨([], [], false), fun k hk => ?_, Or.inr ⟨fun h => hi h.1.2.1, rfl⟩⟩
      obtain ⟨k, rfl⟩ : ∃ m, k = m + 1 := ⟨k - 1, by omega⟩
      simp only [impl_Spend.f, impl_changed_Spend.f, (q (k + 1) (by omega)).2, (q k (by omega)).2, w1, w2, n1, n2, decide_eq_false hi, Option.bind_some, Bool.false_eq_true, if_false, if_true, ite_self]
    by_cases ha : 1 ≤ a ∧ a ≤ 1000000000
    case neg =>
      refine ⟨([], [], false), fun k hk => ?_, Or.inr ⟨fun h => ha h.1.2.2, rfl⟩⟩
      obtain ⟨k, rfl⟩ : ∃ m, k = m + 1 := ⟨k - 1, by omega⟩
      simp only [impl_Spend.f, impl_changed_Spend.f, (q (k + 1) (by omega)).2, (q k (by omega)).2, w1, w2, n1, n2, am.1, am.2, decide_eq_true hi, decide_eq_false ha, Option.bind_some, Bool.false_eq_true, if_false, if_true, ite_self]
    obtain ⟨i0, i1⟩ := hi
    have hi : InR s.length i := ⟨i0, i1⟩
    obtain ⟨n, rfl⟩ : ∃ n : Nat, i = (n : Int) := ⟨i.toNat, by omega⟩
    have hR := hg.2.2.2.2.1 n (by omega)
    have hx := hR.2.1
    have c1 : (n : Int) < (s.length : Int) := by omega
    have w3 : wrap64 (rd s (n : Int) + a) = rd s (n : Int) + a := wrap_id (by have := hx.1; omega) (by have := hx.2; omega)
    obtain ⟨u, hu, q2⟩ := rok_iff g (sup s n a)
    rw [sup_len] at hu
    have e : s.set n (rd s (n : Int) + a) = sup s n a := rfl
    have u1 : impl_Spend.upd g s (n : Int) a = some (g, sup s n a) := by
      unfold impl_Spend.upd
      rw [if_pos i0, if_pos c1, w3, Int.toNat_natCast]
      rfl
    cases u with
    | true =>
      refine ⟨(g, sup s n a, true), fun k hk => ?_, Or.inl ⟨⟨hg, hi, ha⟩, by simp only [Int.toNat_natCast]; exact hu.1 rfl, by simp only [Int.toNat_natCast]⟩⟩
      obtain ⟨k, rfl⟩ : ∃ m, k = m + 1 := ⟨k - 1, by omega⟩
      obtain ⟨p1, p2⟩ := good_cop hg (k + 1) (by omega)
      obtain ⟨p3, p4⟩ := good_cop hg k (by omega)
      simp only [impl_Spend.f, impl_changed_Spend.f, (q (k + 1) (by omega)).2, (q k (by omega)).2, w1, w2, n1, n2, am.1, am.2, decide_eq_true hi, decide_eq_true ha, p2, p4, if_pos i0, if_pos c1, w3, Int.toNat_natCast, e, u1, (q2 (k + 1) (by omega)).2, (q2 k (by omega)).2, Option.bind_some, Bool.false_eq_true, if_false, if_true]
    | false =>
      refine ⟨([], [], false), fun k hk => ?_, Or.inr ⟨fun h => ?_, rfl⟩⟩
      · obtain ⟨k, rfl⟩ : ∃ m, k = m + 1 := ⟨k - 1, by omega⟩
        obtain ⟨p1, p2⟩ := good_cop hg (k + 1) (by omega)
        obtain ⟨p3, p4⟩ := good_cop hg k (by omega)
        simp only [impl_Spend.f, impl_changed_Spend.f, (q (k + 1) (by omega)).2, (q k (by omega)).2, w1, w2, n1, n2, am.1, am.2, decide_eq_true hi, decide_eq_true ha, p2, p4, if_pos i0, if_pos c1, w3, Int.toNat_natCast, e, u1, (q2 (k + 1) (by omega)).2, (q2 k (by omega)).2, Option.bind_some, Bool.false_eq_true, if_false, if_true]
      · simp only [Int.toNat_natCast] at h
        cases hu.2 h.2

theorem ihand_f (g : List (List Int)) (s : List Int) (i j a : Int) : ∃ R, (∀ k, 62 < k → impl_Hand.f k g s i j a = some R) ∧
    Asked (RGood s.length g s ∧ InR s.length i ∧ InR s.length j ∧ (1 ≤ a ∧ a ≤ 1000000000) ∧ i ≠ j) s.length (upd g i.toNat j.toNat a) s R := by
  obtain ⟨v, hv, q⟩ := rok_iff g s
  have am := amt_f a
  by_cases hij : i = j
  case pos =>
    refine ⟨([], [], false), fun k hk => ?_, Or.inr ⟨fun h => absurd hij h.1.2.2.2.2, rfl⟩⟩
    unfold impl_Hand.f
    rw [if_pos hij]
  cases v with
  | false =>
    refine ⟨([], [], false), fun k hk => ?_, Or.inr ⟨fun h => (by cases hv.2 h.1.1), rfl⟩⟩
    obtain ⟨k, rfl⟩ : ∃ m, k = m + 1 := ⟨k - 1, by omega⟩
    simp only [impl_Hand.f, impl_changed_Hand.f, (q (k + 1) (by omega)).2, (q k (by omega)).2, if_neg hij, Option.bind_some, Bool.false_eq_true, if_false, if_true, ite_self]
  | true =>
    have hg := hv.1 rfl
    obtain ⟨w1, w2⟩ := good_len hg
    obtain ⟨n1, n2⟩ := in_f s.length i
    obtain ⟨m1, m2⟩ := in_f s.length j
    by_cases hi : InR s.length i
    case neg =>
      refine ⟨([], [], false), fun k hk => ?_, Or.inr ⟨fun h => hi h.1.2.1, rfl⟩⟩
      obtain ⟨k, rfl⟩ : ∃ m, k = m + 1 := ⟨k - 1, by omega⟩
      simp only [impl_Hand.f, impl_changed_Hand.f, (q (k + 1) (by omega)).2, (q k (by omega)).2, w1, w2, n1, n2, decide_eq_false hi, if_neg hij, Option.bind_some, Bool.false_eq_true, if_false, if_true, ite_self]
    by_cases ha : 1 ≤ a ∧ a ≤ 1000000000
    case neg =>
      by_cases hj : InR s.length j
      case pos =>
        refine ⟨([], [], false), fun k hk => ?_, Or.inr ⟨fun h => ha h.1.2.2.2.1, rfl⟩⟩
        obtain ⟨k, rfl⟩ : ∃ m, k = m + 1 := ⟨k - 1, by omega⟩
        simp only [impl_Hand.f, impl_changed_Hand.f, (q (k + 1) (by omega)).2, (q k (by omega)).2, w1, w2, n1, n2, m1, m2, am.1, am.2, decide_eq_true hi, decide_eq_true hj, decide_eq_false ha, if_neg hij, Option.bind_some, Bool.false_eq_true, if_false, if_true, ite_self]
      case neg =>
        refine ⟨([], [], false), fun k hk => ?_, Or.inr ⟨fun h => ha h.1.2.2.2.1, rfl⟩⟩
        obtain ⟨k, rfl⟩ : ∃ m, k = m + 1 := ⟨k - 1, by omega⟩
        simp only [impl_Hand.f, impl_changed_Hand.f, (q (k + 1) (by omega)).2, (q k (by omega)).2, w1, w2, n1, n2, m1, m2, am.1, am.2, decide_eq_true hi, decide_eq_false hj, decide_eq_false ha, if_neg hij, Option.bind_some, Bool.false_eq_true, if_false, if_true, ite_self]
    by_cases hj : InR s.length j
    case neg =>
      refine ⟨([], [], false), fun k hk => ?_, Or.inr ⟨fun h => hj h.1.2.2.1, rfl⟩⟩
      obtain ⟨k, rfl⟩ : ∃ m, k = m + 1 := ⟨k - 1, by omega⟩
      simp only [impl_Hand.f, impl_changed_Hand.f, (q (k + 1) (by omega)).2, (q k (by omega)).2, w1, w2, n1, n2, m1, m2, am.1, am.2, decide_eq_true hi, decide_eq_true ha, decide_eq_false hj, if_neg hij, Option.bind_some, Bool.false_eq_true, if_false, if_true, ite_self]
    obtain ⟨i0, i1⟩ := hi
    have hi : InR s.length i := ⟨i0, i1⟩
    obtain ⟨n, rfl⟩ : ∃ n : Nat, i = (n : Int) := ⟨i.toNat, by omega⟩
    obtain ⟨j0, j1⟩ := hj
    have hj : InR s.length j := ⟨j0, j1⟩
    obtain ⟨m, rfl⟩ : ∃ m : Nat, j = (m : Int) := ⟨j.toNat, by omega⟩
    have hb : ((n : Int) == (m : Int)) = false := by simpa using hij
    have hR := hg.2.2.2.2.1 n (by omega)
    have hx := hR.2.2 m (by omega)
    have c1 : (n : Int) < (g.length : Int) := by rw [hg.1]; omega
    have c2 : (m : Int) < ((rd_L1 g (n : Int)).length : Int) := by rw [hR.1]; omega
    have w3 : wrap64 (rd (rd_L1 g (n : Int)) (m : Int) + a) = E g n m + a := wrap_id (by have := hx.1; omega) (by have := hx.2; omega)
    obtain ⟨u, hu, q2⟩ := rok_iff (upd g n m a) s
    have e : g.set n ((rd_L1 g (n : Int)).set m (E g n m + a)) = upd g n m a := rfl
    have u1 : impl_Hand.upd g s (n : Int) (m : Int) a = some (upd g n m a, s) := by
      unfold impl_Hand.upd
      rw [if_pos i0, if_pos c1, if_pos j0, show g.getD (n : Int).toNat [] = rd_L1 g (n : Int) from rfl, if_pos c2, w3, Int.toNat_natCast, Int.toNat_natCast]
      rfl
    cases u with
    | true =>
      refine ⟨(upd g n m a, s, true), fun k hk => ?_, Or.inl ⟨⟨hg, hi, hj, ha, hij⟩, by simp only [Int.toNat_natCast]; exact hu.1 rfl, by simp only [Int.toNat_natCast]⟩⟩
      obtain ⟨k, rfl⟩ : ∃ m, k = m + 1 := ⟨k - 1, by omega⟩
      obtain ⟨p1, p2⟩ := good_cop hg (k + 1) (by omega)
      obtain ⟨p3, p4⟩ := good_cop hg k (by omega)
      simp only [impl_Hand.f, impl_changed_Hand.f, (q (k + 1) (by omega)).2, (q k (by omega)).2, w1, w2, n1, n2, m1, m2, am.1, am.2, decide_eq_true hi, decide_eq_true ha, p2, p4, if_pos i0, if_pos j0, if_pos c1, if_pos c2, w3, Int.toNat_natCast, e, hb, decide_eq_true hj, u1, if_neg hij, (q2 (k + 1) (by omega)).2, (q2 k (by omega)).2, Option.bind_some, Bool.false_eq_true, if_false, if_true]
    | false =>
      refine ⟨([], [], false), fun k hk => ?_, Or.inr ⟨fun h => ?_, rfl⟩⟩
      · obtain ⟨k, rfl⟩ : ∃ m, k = m + 1 := ⟨k - 1, by omega⟩
        obtain ⟨p1, p2⟩ := good_cop hg (k + 1) (by omega)
        obtain ⟨p3, p4⟩ := good_cop hg k (by omega)
        simp only [impl_Hand.f, impl_changed_Hand.f, (q (k + 1) (by omega)).2, (q k (by omega)).2, w1, w2, n1, n2, m1, m2, am.1, am.2, decide_eq_true hi, decide_eq_true ha, p2, p4, if_pos i0, if_pos j0, if_pos c1, if_pos c2, w3, Int.toNat_natCast, e, hb, decide_eq_true hj, u1, if_neg hij, (q2 (k + 1) (by omega)).2, (q2 k (by omega)).2, Option.bind_some, Bool.false_eq_true, if_false, if_true]
      · simp only [Int.toNat_natCast] at h
        cases hu.2 h.2

theorem ilater_l1 (n : Nat) (hn : n ≤ 4) (g : List (List Int)) (s : List Int) (g' : List (List Int)) (s' : List Int) (hg : g.length = n) (hg' : g'.length = n) (hf : ∀ j : Nat, j < n → (rd_L1 g (j : Int)).length = n) (hf' : ∀ j : Nat, j < n → (rd_L1 g' (j : Int)).length = n) (he : ∀ i j : Nat, i < n → j < n → E g i j ≤ E g' i j) (a : Nat) (ha : a < n) (d : Nat) : ∀ i : Nat, i + d = n → ∀ K, impl_Later.l1 (K + d + 1) (a : Int) (n : Int) (a : Int) (n : Int) (i : Int) g s g' s' = impl_Later.l0 K (n : Int) (wrap64 ((a : Int) + 1)) g s g' s' := by
  induction d with
  | zero =>
    intro i hi K
    rw [Nat.add_zero, impl_Later.l1, if_neg (by omega)]
  | succ d ih =>
    intro i hi K
    have r1 := hf a ha
    have r2 := hf' a ha
    have e : ¬ rd (rd_L1 g (a : Int)) (i : Int) > rd (rd_L1 g' (a : Int)) (i : Int) := by
      have := he a i ha (by omega)
      unfold E at this
      omega
    rw [show K + (d + 1) + 1 = (K + d + 1) + 1 from rfl, impl_Later.l1, if_pos (by omega), if_pos (by omega), if_pos (by omega), if_pos (by omega), if_pos (by omega), if_pos (by omega), if_pos (by omega), if_neg e, wrap_succ i (by omega)]
    exact ih (i + 1) (by omega) K
theorem ilater_l0 (n : Nat) (hn : n ≤ 4) (g : List (List Int)) (s : List Int) (g' : List (List Int)) (s' : List Int) (hg : g.length = n) (hg' : g'.length = n) (hf : ∀ j : Nat, j < n → (rd_L1 g (j : Int)).length = n) (hf' : ∀ j : Nat, j < n → (rd_L1 g' (j : Int)).length = n) (he : ∀ i j : Nat, i < n → j < n → E g i j ≤ E g' i j) (hs : s.length = n) (hs' : s'.length = n) (hv : ∀ i : Nat, i < n → rd s (i : Int) ≤ rd s' (i : Int)) (d : Nat) : ∀ i : Nat, i + d = n → ∀ k, 7 * d < k → impl_Later.l0 k (n : Int) (i : Int) g s g' s' = some true := by
  induction d with
  | zero =>
    intro i hi k hk
    obtain ⟨k, rfl⟩ : ∃ m, k = m + 1 := ⟨k - 1, by omega⟩
    rw [impl_Later.l0, if_neg (by omega)]
  | succ d ih =>
    intro i hi k hk
    obtain ⟨k, rfl⟩ : ∃ m, k = (m + n + 1) + 1 := ⟨k - n - 2, by omega⟩
    have e : ¬ rd s (i : Int) > rd s' (i : Int) := by have := hv i (by omega); omega
    have h := ilater_l1 n hn g s g' s' hg hg' hf hf' he i (by omega) n 0 (by omega) k
    rw [wrap_succ i (by omega)] at h
    rw [impl_Later.l0, if_pos (by omega), if_pos (by omega), if_pos (by omega), if_pos (by omega), if_neg e, hs]
    exact h.trans (ih (i + 1) (by omega) k (by omega))
theorem ilater_f {n : Nat} {g g' : List (List Int)} {s s' : List Int} (h : RGood n g s) (h' : RGood n g' s') (he : ∀ i j : Nat, i < n → j < n → E g i j ≤ E g' i j) (hv : ∀ i : Nat, i < n → rd s (i : Int) ≤ rd s' (i : Int)) (k : Nat) (hk : 60 < k) : impl_Later.f k g s g' s' = some true := by
  have hn := h.2.2.2.1
  obtain ⟨k, rfl⟩ : ∃ m, k = m + 1 := ⟨k - 1, by omega⟩
  unfold impl_Later.f
  have b : ((n : Int) != (s'.length : Int)) = false := by rw [h'.2.1]; simp
  simp only [(good_yes h (k + 1) (by omega)).2, (good_yes h' (k + 1) (by omega)).2, Option.bind_some, if_true, b, impl_Later.j0, Bool.false_eq_true, if_false, h.2.1]
  exact ilater_l0 n hn g s g' s' h.1 h'.1 (fun j hj => (h.2.2.2.2.1 j hj).1) (fun j hj => (h'.2.2.2.2.1 j hj).1) he h.2.1 h'.2.1 hv n 0 (by omega) k (by omega)

theorem bs_bound (e : Nat → Nat → Int) (n : Nat) (B : Int) (hB : 0 ≤ B) (he : ∀ i j : Nat, i < n → j < n → 0 ≤ e i j ∧ e i j ≤ B) (x : Nat) (hx : x < n) (d : Nat) : ∀ i : Nat, i + d = n → -(B * (d : Int)) ≤ bs e x i d ∧ bs e x i d ≤ B * (d : Int) := by
  induction d with
  | zero => intro i _; simp [bs]
  | succ d ih =>
    intro i hi
    have h := ih (i + 1) (by omega)
    have a := he i x (by omega) hx
    have b := he x i hx (by omega)
    have m : B * ((d + 1 : Nat) : Int) = B * (d : Int) + B := by rw [Int.natCast_add, Int.mul_add]; simp
    rw [m]
    simp only [bs]
    generalize B * (d : Int) = P at h ⊢
    generalize bs e x (i + 1) d = Q at h ⊢
    by_cases h1 : i = x
    · rw [if_pos h1]; omega
    · rw [if_neg h1]; omega
theorem bal_bound {n : Nat} {g : List (List Int)} {s : List Int} (h : RGood n g s) (x : Nat) (hx : x < n) : 0 ≤ bal n g s x ∧ bal n g s x ≤ 6755399441055744 := by
  obtain ⟨g1, g2, g3, g4, g5, g6, g7⟩ := h
  refine ⟨g6 x hx, ?_⟩
  have b := (bs_bound (E g) n 1125899906842624 (by omega) (fun i j hi hj => (g5 i hi).2.2 j hj) x hx n 0 (by omega)).2
  have a1 : E g x x ≤ 1125899906842624 := ((g5 x hx).2.2 x hx).2
  have a2 := (g5 x hx).2.1.1
  unfold bal
  omega
theorem hasof_v {n : Nat} {g : List (List Int)} {s : List Int} (h : RGood n g s) (x : Nat) (hx : x < n) (k : Nat) (hk : 60 < k) : impl_HasOf.f k g s (x : Int) = some (bal n g s x) := by
  have e : decide ((0 : Int) ≤ (x : Int) ∧ (x : Int) ≤ (n : Int) - 1) = true := decide_eq_true ⟨by omega, by omega⟩
  unfold impl_HasOf.f
  simp only [(good_yes h k hk).2, Option.bind_some, if_true, (good_len h).1, iin_f, e, (has_f n h.2.2.2.1 g s h.1 h.2.1 h.2.2.2.2.1 x hx k (by omega)).2]
def asum (f : Nat → Int) : Nat → Nat → Int
  | _, 0 => 0
  | i, d + 1 => f i + asum f (i + 1) d
/-- What all have. -/
def tot (n : Nat) (g : List (List Int)) (s : List Int) : Int := asum (bal n g s) 0 n
theorem asum_pt (f f' : Nat → Int) (a : Nat) (c : Int) (d : Nat) : ∀ i : Nat, (∀ x : Nat, i ≤ x → x < i + d → f' x = f x + (if a = x then c else 0)) → asum f' i d = asum f i d + (if i ≤ a ∧ a < i + d then c else 0) := by
  induction d with
  | zero => intro i _; rw [if_neg (by omega)]; rfl
  | succ d ih =>
    intro i h
    have h1 := ih (i + 1) (fun x h1 h2 => h x (by omega) (by omega))
    have h2 := h i (Nat.le_refl _) (by omega)
    simp only [asum, h1, h2]
    generalize asum f (i + 1) d = A
    generalize f i = p
    by_cases e : a = i
    · rw [if_pos e, if_neg (by omega), if_pos (by omega)]; omega
    · by_cases e2 : i + 1 ≤ a ∧ a < i + 1 + d
      · rw [if_neg e, if_pos e2, if_pos (by omega)]; omega
      · rw [if_neg e, if_neg e2, if_neg (by omega)]; omega
theorem tot_pt {n : Nat} {g g' : List (List Int)} {s s' : List Int} (a : Nat) (c : Int) (ha : a < n) (h : ∀ x : Nat, x < n → bal n g' s' x = bal n g s x + (if a = x then c else 0)) : tot n g' s' = tot n g s + c := by
  unfold tot
  rw [asum_pt (bal n g s) (bal n g' s') a c n 0 (fun x _ hx => h x (by omega)), if_pos ⟨Nat.zero_le _, by omega⟩]
theorem tot_pt2 {n : Nat} {g g' : List (List Int)} {s s' : List Int} (a b : Nat) (c : Int) (ha : a < n) (hb : b < n) (hab : a ≠ b) (h : ∀ x : Nat, x < n → bal n g' s' x = bal n g s x + (if b = x then c else if a = x then -c else 0)) : tot n g' s' = tot n g s := by
  unfold tot
  have h1 := asum_pt (bal n g s) (fun x => bal n g s x + (if b = x then c else 0)) b c n 0 (fun x _ _ => rfl)
  have h2 := asum_pt (fun x => bal n g s x + (if b = x then c else 0)) (bal n g' s') a (-c) n 0 (fun x _ hx => by
    rw [h x (by omega)]
    by_cases e : b = x
    · rw [if_pos e, if_pos e, if_neg (by omega)]; omega
    · rw [if_neg e, if_neg e]; omega)
  rw [h2, h1, if_pos ⟨Nat.zero_le _, by omega⟩, if_pos ⟨Nat.zero_le _, by omega⟩]
  omega
theorem allof_l0 {n : Nat} {g : List (List Int)} {s : List Int} (h : RGood n g s) (d : Nat) : ∀ (i : Nat) (acc : Int), i + d = n → 0 ≤ acc → acc ≤ 6755399441055744 * (i : Int) → ∀ k, d + 61 < k → impl_AllOf.l0 k acc (n : Int) (i : Int) g s = some (acc + asum (bal n g s) i d) := by
  induction d with
  | zero =>
    intro i acc hi _ _ k hk
    obtain ⟨k, rfl⟩ : ∃ m, k = m + 1 := ⟨k - 1, by omega⟩
    rw [impl_AllOf.l0, if_neg (by omega), asum, Int.add_zero]
  | succ d ih =>
    intro i acc hi h0 h1 k hk
    obtain ⟨k, rfl⟩ : ∃ m, k = m + 1 := ⟨k - 1, by omega⟩
    have hn := h.2.2.2.1
    obtain ⟨b0, b1⟩ := bal_bound h i (by omega)
    have c1 : (i : Int) < (n : Int) := by omega
    rw [impl_AllOf.l0, if_pos c1, hasof_v h i (by omega) k (by omega), Option.bind_some, wrap_id (by omega) (by omega), wrap_succ i (by omega), ih (i + 1) _ (by omega) (by omega) (by omega) k (by omega), asum, Int.add_assoc]
theorem allof_v {n : Nat} {g : List (List Int)} {s : List Int} (h : RGood n g s) (k : Nat) (hk : 70 < k) : impl_AllOf.f k g s = some (tot n g s) := by
  have hn := h.2.2.2.1
  have e := allof_l0 h n 0 0 (by omega) (by omega) (by omega) k (by omega)
  rw [Int.zero_add] at e
  unfold impl_AllOf.f
  rw [h.2.1]
  exact e
theorem asum_bound (f : Nat → Int) (B : Int) (n : Nat) (hf : ∀ x : Nat, x < n → 0 ≤ f x ∧ f x ≤ B) (d : Nat) : ∀ i : Nat, i + d = n → 0 ≤ asum f i d ∧ asum f i d ≤ B * (d : Int) := by
  induction d with
  | zero => intro i _; simp [asum]
  | succ d ih =>
    intro i hi
    have h := ih (i + 1) (by omega)
    have a := hf i (by omega)
    have m : B * ((d + 1 : Nat) : Int) = B * (d : Int) + B := by rw [Int.natCast_add, Int.mul_add]; simp
    rw [m, asum]
    omega
theorem tot_bound {n : Nat} {g : List (List Int)} {s : List Int} (h : RGood n g s) : 0 ≤ tot n g s ∧ tot n g s ≤ 27021597764222976 := by
  have hn := h.2.2.2.1
  have b := asum_bound (bal n g s) 6755399441055744 n (fun x hx => bal_bound h x hx) n 0 (by omega)
  unfold tot
  omega

theorem good_hand {n : Nat} {g : List (List Int)} {s : List Int} (h : RGood n g s) (hL : Low n 400 g s) (a b : Nat) (ha : a < n) (hb : b < n) (hab : a ≠ b) (c : Int) (h0 : 0 ≤ c) (h1 : c ≤ 1000) : RGood n (upd g a b c) s ↔ c ≤ bal n g s a := by
  obtain ⟨g1, g2, g3, g4, g5, g6, g7⟩ := h
  have hr := (g5 a ha).1
  constructor
  · intro h
    have h := h.2.2.2.2.2.1 a ha
    rw [bal_upd n g s a b c g1 ha hb hr a ha, if_neg (Ne.symm hab), if_pos rfl] at h
    omega
  · intro hc
    have lo : 0 ≤ E g a b ∧ E g a b ≤ 400 := ⟨((g5 a ha).2.2 b hb).1, hL.1 a b ha hb⟩
    refine ⟨by rw [upd_len]; exact g1, g2, g3, g4, fun j hj => ?_, fun j hj => ?_, ?_⟩
    · exact upd_RowOk n g s a b c g1 ha hb g5 ⟨by omega, by omega⟩ j hj
    · rw [bal_upd n g s a b c g1 ha hb hr j hj]
      have := g6 j hj
      by_cases e : b = j
      · rw [if_pos e]; omega
      · rw [if_neg e]
        by_cases e2 : a = j
        · subst e2; rw [if_pos rfl]; omega
        · rw [if_neg e2]; omega
    · rw [dsum_upd g a b c (by omega) (by omega), if_neg (by omega), Int.add_zero]
      exact g7
theorem good_spend {n : Nat} {g : List (List Int)} {s : List Int} (h : RGood n g s) (hL : Low n 400 g s) (a : Nat) (ha : a < n) (c : Int) (h0 : 0 ≤ c) (h1 : c ≤ 1000) : RGood n g (sup s a c) ↔ c ≤ bal n g s a := by
  obtain ⟨g1, g2, g3, g4, g5, g6, g7⟩ := h
  have ha' : a < s.length := by omega
  constructor
  · intro h
    have h := h.2.2.2.2.2.1 a ha
    rw [bal_sup n g s a c ha' a, if_pos rfl] at h
    omega
  · intro hc
    have lo : 0 ≤ rd s (a : Int) ∧ rd s (a : Int) ≤ 400 := ⟨(g5 a ha).2.1.1, hL.2 a ha⟩
    refine ⟨g1, by rw [sup_len]; exact g2, g3, g4, fun j hj => ?_, fun j hj => ?_, g7⟩
    · exact sup_RowOk n g s a c g2 ha g5 ⟨by omega, by omega⟩ j hj
    · rw [bal_sup n g s a c ha' j]
      have := g6 j hj
      by_cases e : j = a
      · subst e; rw [if_pos rfl]; omega
      · rw [if_neg e]; omega
theorem next_f (n i : Nat) (h2 : 2 ≤ n) (h3 : n ≤ 3) (hi : i < n) : ∃ j : Nat, j < n ∧ i ≠ j ∧ Int.tmod (wrap64 ((i : Int) + 1)) (n : Int) = (j : Int) := by
  rw [wrap_id (by omega) (by omega), Int.tmod_eq_emod_of_nonneg (by omega)]
  have : n = 2 ∨ n = 3 := by omega
  rcases this with rfl | rfl
  · exact ⟨(i + 1) % 2, by omega, by omega, by omega⟩
  · exact ⟨(i + 1) % 3, by omega, by omega, by omega⟩
theorem FnRights (l0 : List Int) (w0 : l0.length ≤ maxLen ∧ ∀ l0_e ∈ l0, (Lit.int .u8 l0_e).wf = true) : ∃ k, laws_FnRights.f k l0 = some true := by
  by_cases hb : (l0.length : Int) > 1048576
  · exact ⟨0, by unfold laws_FnRights.f; rw [if_pos hb]⟩
  have hl : l0.length ≤ 1048576 := by omega
  obtain ⟨n0, n1, n2, -, qn⟩ := MakeNum_f l0 hl 2
  have n2 := n2 (by omega)
  obtain ⟨n', rfl⟩ : ∃ n : Nat, n0 = (n : Int) := ⟨n0.toNat, by omega⟩
  have wn : wrap64 (2 + (n' : Int)) = ((n' + 2 : Nat) : Int) := by rw [wrap_id (by omega) (by omega)]; omega
  obtain ⟨n, hn⟩ : ∃ n, n = n' + 2 := ⟨_, rfl⟩
  rw [← hn] at wn
  have WN := Aside0.mk wn
  clear wn
  obtain ⟨g, s, hg, hL, qg⟩ := MakeRights_f l0 hl n (by omega) (by omega) 1
  obtain ⟨i0, i1, i2, -, qi⟩ := MakeNum_f l0 hl (n : Int)
  have i2 := i2 (by omega)
  obtain ⟨i, rfl⟩ : ∃ i : Nat, i0 = (i : Int) := ⟨i0.toNat, by omega⟩
  obtain ⟨y, y1, y2, -, qy⟩ := MakeNum_f l0 hl 30
  have y2 := y2 (by omega)
  obtain ⟨a, ea⟩ : ∃ a, a = 1 + y := ⟨_, rfl⟩
  have WA : Aside0 (wrap64 (1 + y) = a) := ⟨by rw [ea]; exact wrap_id (by omega) (by omega)⟩
  have a1 : 1 ≤ a := by omega
  have a2 : a ≤ 30 := by omega
  have hi : i < n := by omega
  obtain ⟨j, hj, hij, wj⟩ := next_f n i (by omega) (by omega) hi
  have WJ := Aside0.mk wj
  clear wj
  have hs : s.length = n := hg.2.1
  have gm := good_more hg hL i hi a (by omega) (by omega)
  have gh := good_hand hg hL i j hi hj hij a (by omega) (by omega)
  have gs := good_spend hg hL i hi a (by omega) (by omega)
  have inr : InR n (i : Int) := ⟨by omega, by omega⟩
  have inj : InR n (j : Int) := ⟨by omega, by omega⟩
  obtain ⟨R, qm, hA⟩ := mint_f g s (i : Int) a
  rw [hs, Int.toNat_natCast] at hA
  rcases hA with ⟨_, _, rfl⟩ | ⟨hno, _⟩
  case inr => exact absurd ⟨⟨hg, inr, by omega, by omega⟩, gm⟩ hno
  obtain ⟨RH, qh, hH⟩ := ihand_f g s (i : Int) (j : Int) a
  obtain ⟨RS, qs, hS⟩ := ispend_f g s (i : Int) a
  rw [hs, Int.toNat_natCast, Int.toNat_natCast] at hH
  rw [hs, Int.toNat_natCast] at hS
  have hr := (hg.2.2.2.2.1 i hi).1
  have bb := bal_bound hg i hi
  have bj := bal_bound hg j hj
  have bt := tot_bound hg
  have bm : bal n (upd g i i a) s i = bal n g s i + a := by rw [bal_upd n g s i i a hg.1 hi hi hr i hi, if_pos rfl]
  have tm : tot n (upd g i i a) s = tot n g s + a := tot_pt i a hi (fun x hx => by
    rw [bal_upd n g s i i a hg.1 hi hi hr x hx]
    by_cases e : i = x
    · rw [if_pos e, if_pos e]
    · rw [if_neg e, if_neg e, if_neg e])
  have W1 : Aside0 (wrap64 (tot n g s + a) = tot n g s + a) := ⟨wrap_id (by omega) (by omega)⟩
  have W2 : Aside0 (wrap64 (bal n g s i + a) = bal n g s i + a) := ⟨wrap_id (by omega) (by omega)⟩
  have W3 : Aside0 (wrap64 (bal n g s i - a) = bal n g s i - a) := ⟨wrap_id (by omega) (by omega)⟩
  have W4 : Aside0 (wrap64 (bal n g s j + a) = bal n g s j + a) := ⟨wrap_id (by omega) (by omega)⟩
  have W5 : Aside0 (wrap64 (tot n g s - a) = tot n g s - a) := ⟨wrap_id (by omega) (by omega)⟩
  have nz : ¬ (n : Int) = 0 := by omega
  have nb : ¬ bal n g s i < 0 := by omega
  refine rounds_of (fun m hm => ?_)
  obtain ⟨K, hK⟩ : ∃ K, K + 1 = m + 8 := ⟨m + 7, rfl⟩
  rw [← hK]
  have hK' : 20000000 ≤ K := by omega
  clear hK
  have KK := (good_yes hg (K + 1) (by omega)).2
  have H1 := hasof_v hg i hi (K + 1) (by omega)
  have H2 := hasof_v gm i hi (K + 1) (by omega)
  have T1 := allof_v hg (K + 1) (by omega)
  have T2 := allof_v gm (K + 1) (by omega)
  rw [bm] at H2
  rw [tm] at T2
  by_cases hc : a ≤ bal n g s i
  · rcases hH with ⟨_, hG, rfl⟩ | ⟨hno, _⟩
    case inr => exact absurd ⟨⟨hg, inr, inj, ⟨by omega, by omega⟩, by omega⟩, gh.2 hc⟩ hno
    rcases hS with ⟨_, hQ, rfl⟩ | ⟨hno, _⟩
    case inr => exact absurd ⟨⟨hg, inr, by omega, by omega⟩, gs.2 hc⟩ hno
    have hc' : bal n g s i ≥ a := hc
    have dc := decide_eq_true hc'
    have eb := E_upd g i j a (by rw [hg.1]; exact hi) (by rw [hr]; exact hj)
    have P1 := hasof_v hG i hi K (by omega)
    have P2 := hasof_v hG j hj K (by omega)
    have P3 := hasof_v hg j hj K (by omega)
    have P4 := allof_v hG K (by omega)
    have P5 := allof_v hg K (by omega)
    have P6 := allof_v hQ K (by omega)
    rw [bal_upd n g s i j a hg.1 hi hj hr i hi, if_neg (Ne.symm hij), if_pos rfl, ← Int.sub_eq_add_neg] at P1
    rw [bal_upd n g s i j a hg.1 hi hj hr j hj, if_pos rfl] at P2
    rw [tot_pt2 i j a hi hj hij (fun x hx => bal_upd n g s i j a hg.1 hi hj hr x hx)] at P4
    have ts : tot n g (sup s i a) = tot n g s - a := by
      have := tot_pt (g := g) (s := s) (g' := g) (s' := sup s i a) i (-a) hi (fun x hx => by
        rw [bal_sup n g s i a (by omega) x]
        by_cases e : i = x
        · rw [if_pos e.symm, if_pos e]; omega
        · rw [if_neg (Ne.symm e), if_neg e]; omega)
      omega
    rw [ts] at P6
    have L1 := ilater_f hg hG (fun p q _ _ => by
      rw [eb]
      by_cases e : p = i ∧ q = j
      · rw [if_pos e]; omega
      · rw [if_neg e]; omega) (fun p _ => Int.le_refl _) K (by omega)
    have L2 := ilater_f hg hQ (fun p q _ _ => Int.le_refl _) (fun p hp => by
      rw [sup_rd s i a (by omega)]
      by_cases e : p = i
      · rw [if_pos e]; omega
      · rw [if_neg e]; omega) K (by omega)
    unfold laws_FnRights.f
    rw [if_neg hb, qn (K + 1) (by omega), Option.bind_some, WN.out, qg (K + 1) (by omega), Option.bind_some, qi (K + 1) (by omega), Option.bind_some, if_neg nz, qy (K + 1) (by omega), Option.bind_some]
    dsimp only
    rw [H1, Option.bind_some, WJ.out, WA.out, qh (K + 1) (by omega), Option.bind_some, qs (K + 1) (by omega), Option.bind_some, (qm (K + 1) (by omega)).2, Option.bind_some, KK, Option.bind_some, if_pos rfl, if_neg nb]
    dsimp only
    rw [dc, if_neg (by decide), if_neg (by decide), if_pos rfl, T2, Option.bind_some, T1, Option.bind_some, W1.out, if_pos rfl, H2, Option.bind_some, W2.out, bne_self_eq_false]
    rw [laws_FnRights.j0, if_neg (by decide), if_pos rfl, P1, Option.bind_some, W3.out, if_pos rfl, P2, Option.bind_some, P3, Option.bind_some, W4.out, if_pos rfl, P4, Option.bind_some, P5, Option.bind_some, if_pos rfl, P6, Option.bind_some]
    rw [Option.bind_some, W5.out, if_pos rfl, L1, Option.bind_some, if_pos rfl, L2, Option.bind_some]
  · rcases hH with ⟨_, hG, rfl⟩ | ⟨_, rfl⟩
    · exact absurd (gh.1 hG) hc
    rcases hS with ⟨_, hQ, rfl⟩ | ⟨_, rfl⟩
    · exact absurd (gs.1 hQ) hc
    have hc' : ¬ bal n g s i ≥ a := hc
    have dc := decide_eq_false hc'
    unfold laws_FnRights.f
    rw [if_neg hb, qn (K + 1) (by omega), Option.bind_some, WN.out, qg (K + 1) (by omega), Option.bind_some, qi (K + 1) (by omega), Option.bind_some, if_neg nz, qy (K + 1) (by omega), Option.bind_some]
    dsimp only
    rw [H1, Option.bind_some, WJ.out, WA.out, qh (K + 1) (by omega), Option.bind_some, qs (K + 1) (by omega), Option.bind_some, (qm (K + 1) (by omega)).2, Option.bind_some, KK, Option.bind_some, if_pos rfl, if_neg nb]
    dsimp only
    rw [dc, if_neg (by decide), if_neg (by decide), if_pos rfl, T2, Option.bind_some, T1, Option.bind_some, W1.out, if_pos rfl, H2, Option.bind_some, W2.out, bne_self_eq_false]
    rw [laws_FnRights.j0, if_neg (by decide), if_neg (by decide)]

end Go.Proofs.Ytcnanifokpcjaaa.Pure
