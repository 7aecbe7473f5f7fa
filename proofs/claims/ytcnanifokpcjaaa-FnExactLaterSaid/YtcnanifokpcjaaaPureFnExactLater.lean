/- For all rights Later of the program and of the reference answer alike. This text proves it of the plain functions, with no program in sight. Conditions: none but those of the given statement. -/
import Derived.Test.YtcnanifokpcjaaaPFnExactLaterx7
set_option linter.unusedVariables false
set_option linter.unusedSimpArgs false
namespace Go.Proofs.Ytcnanifokpcjaaa.Pure
open Go Go.RowKit Go.Proofs.Ytcnanifokpcjaaa.PFnExactLater Go.Proofs.YtcnanifokpcjaaaW.PrintWords Go.Proofs.YtcnanifokpcjaaaW.PrintLast Go.Proofs.YtcnanifokpcjaaaW.PrintMore

theorem wrap_id {x : Int} (h0 : -9223372036854775808 ≤ x) (h1 : x ≤ 9223372036854775807) : wrap64 x = x := by
  unfold wrap64; omega
theorem rd_eq (l : List Int) (i : Nat) (h : i < l.length) : rd l (i : Int) = l[i] := by
  simp [rd, h]
theorem succ_cast (i : Nat) : (i : Int) + 1 = ((i + 1 : Nat) : Int) := by omega
theorem take_set_same (l m : List Int) (i : Nat) (hi : i < l.length) (hm : m.length = l.length) (ht : m.take i = l.take i) : (m.set i l[i]).take (i + 1) = l.take (i + 1) := by
  rw [List.take_succ_eq_append_getElem (by simp; omega), List.take_succ_eq_append_getElem hi]
  simp [List.take_set_of_le, ht]
theorem natlt0 (n : Nat) : ((n : Int) < 0) = False := by simp
theorem wrap_nat (n : Nat) (h : n ≤ 9223372036854775807) : wrap64 (n : Int) = (n : Int) := wrap_id (by omega) (by omega)
theorem wrap_succ (n : Nat) (h : n < 9223372036854775807) : wrap64 ((n : Int) + 1) = ((n + 1 : Nat) : Int) := by rw [wrap_id (by omega) (by omega)]; omega
theorem u8_of_wf {x : Int} (h : (Lit.int .u8 x).wf = true) : 0 ≤ x ∧ x < 256 := by
  simp [Lit.wf, IntKind.min, IntKind.max, IntKind.signed, IntKind.bits] at h
  omega
theorem i64_of_wf {x : Int} (h : (Lit.int .i64 x).wf = true) : -9223372036854775808 ≤ x ∧ x ≤ 9223372036854775807 := by
  simp [Lit.wf, IntKind.min, IntKind.max, IntKind.signed, IntKind.bits] at h
  omega
theorem max_len {α : Type} {l : List α} (h : l.length ≤ maxLen) : l.length ≤ 9223372036854775807 := by
  unfold maxLen at h; omega
theorem rounds_of {f : Nat → Option Bool} (h : ∀ m, 20000000 ≤ m → f (m + 8) = some true) : ∃ k, f k = some true := by
  obtain ⟨m, hm⟩ : ∃ m : Nat, 20000000 ≤ m := ⟨_, Nat.le_refl _⟩
  exact ⟨m + 8, h m hm⟩

theorem toIntS_l0 (l : List Int) (hl : l.length ≤ 140737488351232) (d : Nat) : ∀ (k : Nat) (x3 : List Int) (i : Nat), i + d = l.length → d < k → x3.length = l.length → x3.take i = l.take i → laws_toIntS.l0 k l x3 (i : Int) = some l := by
  induction d with
  | zero =>
    intro k x3 i hi hk h3 ht
    obtain ⟨k, rfl⟩ : ∃ m, k = m + 1 := ⟨k - 1, by omega⟩
    simp only [laws_toIntS.l0]
    rw [if_neg (by omega)]
    rw [List.take_of_length_le (by omega), List.take_of_length_le (by omega)] at ht
    rw [ht]
  | succ d ih =>
    intro k x3 i hi hk h3 ht
    obtain ⟨k, rfl⟩ : ∃ m, k = m + 1 := ⟨k - 1, by omega⟩
    simp only [laws_toIntS.l0]
    rw [if_pos (by omega), if_pos (by omega), if_pos (by omega), wrap_id (by omega) (by omega), succ_cast, Int.toNat_natCast, rd_eq l i (by omega)]
    exact ih k _ (i + 1) (by omega) (by omega) (by simp [h3]) (take_set_same l x3 i (by omega) h3 ht)
theorem toIntS_f (l : List Int) (k : Nat) (hk : l.length < k) (hl : l.length ≤ 17592186044416) : laws_toIntS.f k l = some l := by
  unfold laws_toIntS.f
  rw [if_pos (by omega), if_pos (by omega)]
  exact toIntS_l0 l (by omega) l.length k _ 0 (by omega) hk (by simp) (by simp)

theorem eqIntS_l0 (l : List Int) (hl : l.length ≤ 140737488351232) (d : Nat) : ∀ (k : Nat) (i : Nat), i + d = l.length → d < k → laws_eqIntS.l0 k l l (i : Int) = some true := by
  induction d with
  | zero =>
    intro k i hi hk
    obtain ⟨k, rfl⟩ : ∃ m, k = m + 1 := ⟨k - 1, by omega⟩
    simp only [laws_eqIntS.l0]
    rw [if_neg (by omega)]
  | succ d ih =>
    intro k i hi hk
    obtain ⟨k, rfl⟩ : ∃ m, k = m + 1 := ⟨k - 1, by omega⟩
    simp only [laws_eqIntS.l0]
    rw [if_pos (by omega), if_pos (by omega), if_pos (by omega), if_pos trivial, wrap_id (by omega) (by omega), succ_cast]
    exact ih k (i + 1) (by omega) (by omega)
theorem eqIntS_refl (l : List Int) (k : Nat) (hk : l.length < k) (hl : l.length ≤ 140737488351232) : laws_eqIntS.f k l l = some true := by
  unfold laws_eqIntS.f
  rw [if_pos rfl]
  exact eqIntS_l0 l hl l.length k 0 (by omega) hk

theorem rd_1 (l : List (List Int)) (i : Nat) (h : i < l.length) : rd_L1 l (i : Int) = l[i] := by
  simp [rd_L1, h]
theorem mem_bound {l : List (List Int)} {B : Nat} (h : ∀ x ∈ l, x.length ≤ B) (i : Nat) (hi : i < l.length) : (l[i]).length ≤ B := h _ (List.getElem_mem hi)
theorem eqIntSS_l0 (l : List (List Int)) (hl : l.length ≤ 140737488351232) (B : Nat) (hB : B ≤ 140737488351232) (hb : ∀ x ∈ l, x.length ≤ B) (d : Nat) : ∀ (k : Nat) (i : Nat), i + d = l.length → d + B < k → laws_eqIntSS.l0 k l l (i : Int) = some true := by
  induction d with
  | zero =>
    intro k i hi hk
    obtain ⟨k, rfl⟩ : ∃ m, k = m + 1 := ⟨k - 1, by omega⟩
    simp only [laws_eqIntSS.l0]
    rw [if_neg (by omega)]
  | succ d ih =>
    intro k i hi hk
    obtain ⟨k, rfl⟩ : ∃ m, k = m + 1 := ⟨k - 1, by omega⟩
    have hlt : i < l.length := by omega
    have hb' := mem_bound hb i hlt
    simp only [laws_eqIntSS.l0]
    rw [if_pos (by omega), if_pos (by omega), if_pos (by omega), rd_1 l i hlt, eqIntS_refl l[i] k (by omega) (by omega), Option.bind_some, if_pos rfl, wrap_id (by omega) (by omega), succ_cast]
    exact ih k (i + 1) (by omega) (by omega)
theorem eqIntSS_refl (l : List (List Int)) (k B : Nat) (hk : l.length + B < k) (hl : l.length ≤ 140737488351232) (hB : B ≤ 140737488351232) (hb : ∀ x ∈ l, x.length ≤ B) : laws_eqIntSS.f k l l = some true := by
  unfold laws_eqIntSS.f
  rw [if_pos rfl]
  exact eqIntSS_l0 l hl B hB hb l.length k 0 (by omega) (by omega)
theorem eqRights_refl (g : List (List Int)) (s : List Int) (k B : Nat) (hk : g.length + B < k) (hs : s.length < k) (hl : g.length ≤ 140737488351232) (hB : B ≤ 140737488351232) (hs' : s.length ≤ 140737488351232) (hb : ∀ x ∈ g, x.length ≤ B) : laws_eqRights.f k g s g s = some true := by
  unfold laws_eqRights.f
  rw [eqIntSS_refl g k B hk hl hB hb, Option.bind_some, if_pos rfl, eqIntS_refl s k hs hs', Option.bind_some, if_pos rfl]

theorem toIntSS_l0 (l : List (List Int)) (hl : l.length ≤ 140737488351232) (B : Nat) (hB : B ≤ 17592186044416) (hb : ∀ x ∈ l, x.length ≤ B) (d : Nat) : ∀ (k : Nat) (x3 : List (List Int)) (i : Nat), i + d = l.length → d + B < k → x3.length = l.length → x3.take i = l.take i → laws_toIntSS.l0 k l x3 (i : Int) = some l := by
  induction d with
  | zero =>
    intro k x3 i hi hk h3 ht
    obtain ⟨k, rfl⟩ : ∃ m, k = m + 1 := ⟨k - 1, by omega⟩
    simp only [laws_toIntSS.l0]
    rw [if_neg (by omega)]
    rw [List.take_of_length_le (by omega), List.take_of_length_le (by omega)] at ht
    rw [ht]
  | succ d ih =>
    intro k x3 i hi hk h3 ht
    obtain ⟨k, rfl⟩ : ∃ m, k = m + 1 := ⟨k - 1, by omega⟩
    have hlt : i < l.length := by omega
    have hb' := mem_bound hb i hlt
    simp only [laws_toIntSS.l0]
    rw [if_pos (by omega), if_pos (by omega), rd_1 l i hlt, toIntS_f l[i] k (by omega) (by omega), Option.bind_some, if_pos (by omega), wrap_id (by omega) (by omega), succ_cast, Int.toNat_natCast]
    refine ih k _ (i + 1) (by omega) (by omega) (by simp [h3]) ?_
    rw [List.take_succ_eq_append_getElem (by simp; omega), List.take_succ_eq_append_getElem hlt]
    simp [List.take_set_of_le, ht]
theorem toIntSS_f (l : List (List Int)) (k B : Nat) (hk : l.length + B < k) (hl : l.length ≤ 1048576) (hB : B ≤ 17592186044416) (hb : ∀ x ∈ l, x.length ≤ B) : laws_toIntSS.f k l = some l := by
  unfold laws_toIntSS.f
  rw [if_pos (by omega), if_pos (by omega)]
  exact toIntSS_l0 l (by omega) B hB hb l.length k _ 0 (by omega) (by omega) (by simp) (by simp)
theorem toRights_f (g : List (List Int)) (s : List Int) (k B : Nat) (hk : g.length + B < k) (hs : s.length < k) (hl : g.length ≤ 1048576) (hB : B ≤ 17592186044416) (hs' : s.length ≤ 1048576) (hb : ∀ x ∈ g, x.length ≤ B) : laws_toRights.f k g s = some (g, s) := by
  unfold laws_toRights.f
  rw [toIntSS_f g k B hk hl hB hb, Option.bind_some, toIntS_f s k hs (by omega), Option.bind_some]
theorem szIntSS_l0 (l : List (List Int)) (hb : ∀ x ∈ l, x.length ≤ 9223372036854775807) (hl : l.length ≤ 1048576) (d : Nat) : ∀ (i n : Nat), i + d = l.length → n ≤ 1048576 →
    (∀ k, d < k → laws_szIntSS.l0 k l (n : Int) (i : Int) = some (-1)) ∨ (∃ n' : Nat, n' ≤ n ∧ (∀ x ∈ l.drop i, x.length ≤ 1048576) ∧ ∀ k, d < k → laws_szIntSS.l0 k l (n : Int) (i : Int) = some (n' : Int)) := by
  induction d with
  | zero =>
    intro i n hi hn
    refine Or.inr ⟨n, Nat.le_refl _, ?_, fun k hk => ?_⟩
    · rw [List.drop_of_length_le (by omega)]
      intro x hx
      cases hx
    · obtain ⟨k, rfl⟩ : ∃ m, k = m + 1 := ⟨k - 1, by omega⟩
      simp only [laws_szIntSS.l0]
      rw [if_neg (by omega)]
  | succ d ih =>
    intro i n hi hn
    have hlt : i < l.length := by omega
    have hb' := hb _ (List.getElem_mem hlt)
    have w : wrap64 ((n : Int) - ((l[i]).length : Int)) = (n : Int) - ((l[i]).length : Int) := wrap_id (by omega) (by omega)
    have hd : l.drop i = l[i] :: l.drop (i + 1) := List.drop_eq_getElem_cons hlt
    by_cases h : (l[i]).length ≤ n
    · have e : (n : Int) - ((l[i]).length : Int) = ((n - (l[i]).length : Nat) : Int) := by omega
      have step : ∀ k, laws_szIntSS.l0 (k + 1) l (n : Int) (i : Int) = laws_szIntSS.l0 k l ((n - (l[i]).length : Nat) : Int) ((i + 1 : Nat) : Int) := fun k => by
        simp only [laws_szIntSS.l0, laws_szIntS.f]
        rw [if_pos (by omega), if_pos (by omega), rd_1 l i hlt, w, if_neg (by omega), Option.bind_some, if_neg (by omega), e, wrap_succ i (by omega)]
      rcases ih (i + 1) (n - (l[i]).length) (by omega) (by omega) with g | ⟨n', h1, h2, g⟩
      · refine Or.inl fun k hk => ?_
        obtain ⟨k, rfl⟩ : ∃ m, k = m + 1 := ⟨k - 1, by omega⟩
        rw [step]
        exact g k (by omega)
      · refine Or.inr ⟨n', by omega, ?_, fun k hk => ?_⟩
        · rw [hd]
          intro x hx
          rcases List.mem_cons.mp hx with rfl | hx
          · omega
          · exact h2 x hx
        · obtain ⟨k, rfl⟩ : ∃ m, k = m + 1 := ⟨k - 1, by omega⟩
          rw [step]
          exact g k (by omega)
    · refine Or.inl fun k hk => ?_
      obtain ⟨k, rfl⟩ : ∃ m, k = m + 1 := ⟨k - 1, by omega⟩
      simp only [laws_szIntSS.l0, laws_szIntS.f]
      rw [if_pos (by omega), if_pos (by omega), rd_1 l i hlt, w, if_pos (by omega), Option.bind_some, if_pos (by omega)]
/-- Rights are too large to be looked at, or their sizes are known. -/
theorem szRights_f (g : List (List Int)) (s : List Int) (n : Nat) (hn : n ≤ 1048576) (hg : g.length ≤ 9223372036854775807) (hb : ∀ x ∈ g, x.length ≤ 9223372036854775807) (hs : s.length ≤ 9223372036854775807) :
    (∀ k, 1048576 < k → laws_szRights.f k g s (n : Int) = some (-1)) ∨ (g.length ≤ 1048576 ∧ s.length ≤ 1048576 ∧ (∀ x ∈ g, x.length ≤ 1048576) ∧ ∃ n' : Nat, n' ≤ n ∧ ∀ k, 1048576 < k → laws_szRights.f k g s (n : Int) = some (n' : Int)) := by
  have w : wrap64 ((n : Int) - (g.length : Int)) = (n : Int) - (g.length : Int) := wrap_id (by omega) (by omega)
  by_cases h : g.length ≤ n
  case neg =>
    refine Or.inl fun k hk => ?_
    unfold laws_szRights.f laws_szIntSS.f
    rw [w, if_pos (by omega), Option.bind_some, if_pos (by omega)]
  have e : (n : Int) - (g.length : Int) = ((n - g.length : Nat) : Int) := by omega
  rcases szIntSS_l0 g hb (by omega) g.length 0 (n - g.length) (by omega) (by omega) with z | ⟨n', h1, h2, z⟩
  · refine Or.inl fun k hk => ?_
    have z := z k (by omega)
    simp only [Int.natCast_zero] at z
    unfold laws_szRights.f laws_szIntSS.f
    rw [w, if_neg (by omega), e, z, Option.bind_some, if_pos (by omega)]
  · have w2 : wrap64 ((n' : Int) - (s.length : Int)) = (n' : Int) - (s.length : Int) := wrap_id (by omega) (by omega)
    by_cases h3 : s.length ≤ n'
    · refine Or.inr ⟨by omega, by omega, by simpa using h2, n' - s.length, by omega, fun k hk => ?_⟩
      have z := z k (by omega)
      simp only [Int.natCast_zero] at z
      unfold laws_szRights.f laws_szIntSS.f laws_szIntS.f
      rw [w, if_neg (by omega), e, z, Option.bind_some, if_neg (by omega), w2, if_neg (by omega), Option.bind_some, if_neg (by omega)]
      congr 1
      omega
    · refine Or.inl fun k hk => ?_
      have z := z k (by omega)
      simp only [Int.natCast_zero] at z
      unfold laws_szRights.f laws_szIntSS.f laws_szIntS.f
      rw [w, if_neg (by omega), e, z, Option.bind_some, if_neg (by omega), w2, if_pos (by omega), Option.bind_some, if_pos (by omega)]
theorem inner_len {l : List (List Int)} (h : ∀ x ∈ l, x.length ≤ maxLen ∧ ∀ y ∈ x, (Lit.int .i64 y).wf = true) : ∀ x ∈ l, x.length ≤ 9223372036854775807 := fun x hx => max_len (h x hx).1

def isnum (a : Int) : Prop := 0 ≤ a ∧ a ≤ 1125899906842624
instance (a : Int) : Decidable (isnum a) := inferInstanceAs (Decidable (_ ∧ _))
theorem snum_f (a : Int) : spec_l01Num.f a = some (decide (isnum a)) := by
  unfold spec_l01Num.f spec_l01In.f isnum
  by_cases h : a ≥ 0
  · rw [if_pos h, Option.bind_some]; simp [h]
  · rw [if_neg h, Option.bind_some]; simp [h]
theorem inum_f (a : Int) : impl_isNum.f a = some (decide (isnum a)) := by
  unfold impl_isNum.f impl_in.f isnum
  by_cases h : a ≥ 0
  · rw [if_pos h, Option.bind_some]; simp [h]
  · rw [if_neg h, Option.bind_some]; simp [h]
def RowOk (n : Nat) (g : List (List Int)) (s : List Int) (j : Nat) : Prop := (rd_L1 g (j : Int)).length = n ∧ isnum (rd s (j : Int)) ∧ ∀ i : Nat, i < n → isnum (rd (rd_L1 g (j : Int)) (i : Int))
theorem rows_l1 (x3 x4 x5 : Int) (x22 : List (List Int)) (x23 x24 : Int) (r : List Int) (g : List (List Int)) (s : List Int) (hr : r.length ≤ 4) (h5 : 0 ≤ x5) (h5' : x5 < (r.length : Int)) (d : Nat) : ∀ i : Nat, i + d = r.length →
    ((∀ j : Nat, i ≤ j → j < r.length → isnum (rd r (j : Int))) ∧ ∀ k, spec_l06Form.l1 (k + d + 1) x3 x22 x23 x24 r (r.length : Int) (i : Int) g s = spec_l06Form.l0 k x3 x22 x23 (wrap64 (x24 + 1)) g s ∧ impl_RightsOk.l1 (k + d + 1) x3 x4 x5 r x22 x23 x24 r (r.length : Int) (i : Int) g s = impl_RightsOk.l0 k x3 (wrap64 (x4 + (rd r x5))) x22 x23 (wrap64 (x24 + 1)) g s) ∨
    (∀ k, d < k → spec_l06Form.l1 k x3 x22 x23 x24 r (r.length : Int) (i : Int) g s = some false ∧ impl_RightsOk.l1 k x3 x4 x5 r x22 x23 x24 r (r.length : Int) (i : Int) g s = some false) := by
  induction d with
  | zero =>
    intro i hi
    refine Or.inl ⟨fun j h1 h2 => by omega, fun k => ?_⟩
    have c : ¬ (i : Int) < (r.length : Int) := by omega
    simp only [Nat.add_zero, spec_l06Form.l1, impl_RightsOk.l1, if_neg c, if_pos h5, if_pos h5', and_self]
  | succ d ih =>
    intro i hi
    have c1 : (i : Int) < (r.length : Int) := by omega
    have c2 : (0 : Int) ≤ (i : Int) := by omega
    have w := wrap_succ i (by omega)
    by_cases e : isnum (rd r (i : Int))
    · have e' := decide_eq_true e
      have key : ∀ K, spec_l06Form.l1 (K + 1) x3 x22 x23 x24 r (r.length : Int) (i : Int) g s = spec_l06Form.l1 K x3 x22 x23 x24 r (r.length : Int) ((i + 1 : Nat) : Int) g s ∧ impl_RightsOk.l1 (K + 1) x3 x4 x5 r x22 x23 x24 r (r.length : Int) (i : Int) g s = impl_RightsOk.l1 K x3 x4 x5 r x22 x23 x24 r (r.length : Int) ((i + 1 : Nat) : Int) g s := fun K => by
        simp only [spec_l06Form.l1, impl_RightsOk.l1, if_pos c1, if_pos c2, snum_f, inum_f, e', Option.bind_some, if_true, w, and_self]
      rcases ih (i + 1) (by omega) with ⟨h, q⟩ | q
      · refine Or.inl ⟨fun j h1 h2 => ?_, fun k => ?_⟩
        · rcases Nat.lt_or_ge i j with h3 | h3
          · exact h j h3 h2
          · have : j = i := by omega
            rw [this]; exact e
        · exact ⟨(key (k + d + 1)).1.trans (q k).1, (key (k + d + 1)).2.trans (q k).2⟩
      · refine Or.inr fun k hk => ?_
        obtain ⟨k, rfl⟩ : ∃ m, k = m + 1 := ⟨k - 1, by omega⟩
        exact ⟨(key k).1.trans (q k (by omega)).1, (key k).2.trans (q k (by omega)).2⟩
    · have e' := decide_eq_false e
      refine Or.inr fun k hk => ?_
      obtain ⟨k, rfl⟩ : ∃ m, k = m + 1 := ⟨k - 1, by omega⟩
      simp only [spec_l06Form.l1, impl_RightsOk.l1, if_pos c1, if_pos c2, snum_f, inum_f, e', Option.bind_some, Bool.false_eq_true, if_false, and_self]
/-- What the rows from i on have issued. -/
def dsum (g : List (List Int)) : Nat → Nat → Int
  | _, 0 => 0
  | i, d + 1 => rd (rd_L1 g (i : Int)) (i : Int) + dsum g (i + 1) d
theorem rows_l0 (n : Nat) (hn : n ≤ 4) (g : List (List Int)) (s : List Int) (hg : g.length = n) (hs : s.length = n) (d : Nat) : ∀ (i : Nat) (acc : Int), i + d = n → 0 ≤ acc → acc ≤ (i : Int) * 1125899906842624 →
    ((∀ j : Nat, i ≤ j → j < n → RowOk n g s j) ∧ ∀ k, 7 * d + 1 ≤ k → spec_l06Form.l0 k (n : Int) g (n : Int) (i : Int) g s = some true ∧ ∃ k', k ≤ k' + 7 * d + 1 ∧ impl_RightsOk.l0 k (n : Int) acc g (n : Int) (i : Int) g s = impl_RightsOk.l2 k' (acc + dsum g i d) (n : Int) 0 g s) ∨
    (∀ k, 7 * d + 1 ≤ k → spec_l06Form.l0 k (n : Int) g (n : Int) (i : Int) g s = some false ∧ impl_RightsOk.l0 k (n : Int) acc g (n : Int) (i : Int) g s = some false) := by
  induction d with
  | zero =>
    intro i acc hi ha hb
    refine Or.inl ⟨fun j h1 h2 => by omega, fun k hk => ?_⟩
    obtain ⟨k, rfl⟩ : ∃ m, k = m + 1 := ⟨k - 1, by omega⟩
    have c : ¬ (i : Int) < (n : Int) := by omega
    refine ⟨by simp only [spec_l06Form.l0, if_neg c], k, by omega, ?_⟩
    simp only [impl_RightsOk.l0, if_neg c, dsum, Int.add_zero]
  | succ d ih =>
    intro i acc hi ha hb
    have c1 : (i : Int) < (n : Int) := by omega
    have c2 : (0 : Int) ≤ (i : Int) := by omega
    have c3 : (i : Int) < (g.length : Int) := by omega
    have c4 : (i : Int) < (s.length : Int) := by omega
    have w := wrap_succ i (by omega)
    by_cases e : (rd_L1 g (i : Int)).length = n
    case neg =>
      refine Or.inr fun k hk => ?_
      obtain ⟨k, rfl⟩ : ∃ m, k = m + 1 + 1 := ⟨k - 2, by omega⟩
      have e2 : ¬ ((rd_L1 g (i : Int)).length : Int) = (n : Int) := by omega
      generalize hK : k + 1 = K
      simp only [spec_l06Form.l0, impl_RightsOk.l0, if_pos c1, if_pos c2, if_pos c3, if_neg e2]
      subst hK
      simp only [spec_l06Form.j2, impl_RightsOk.j2, if_true, and_self]
    have e2 : ((rd_L1 g (i : Int)).length : Int) = (n : Int) := by omega
    by_cases f : isnum (rd s (i : Int))
    case neg =>
      have f' := decide_eq_false f
      refine Or.inr fun k hk => ?_
      obtain ⟨k, rfl⟩ : ∃ m, k = m + 1 + 1 := ⟨k - 2, by omega⟩
      generalize hK : k + 1 = K
      simp only [spec_l06Form.l0, impl_RightsOk.l0, if_pos c1, if_pos c2, if_pos c3, if_pos e2, if_pos c4, snum_f, inum_f, f', Option.bind_some, Bool.not_false]
      subst hK
      simp only [spec_l06Form.j2, impl_RightsOk.j2, if_true, and_self]
    have f' := decide_eq_true f
    have key : ∀ K, spec_l06Form.l0 (K + 1 + 1) (n : Int) g (n : Int) (i : Int) g s = spec_l06Form.l1 K (n : Int) g (n : Int) (i : Int) (rd_L1 g (i : Int)) ((rd_L1 g (i : Int)).length : Int) 0 g s ∧ impl_RightsOk.l0 (K + 1 + 1) (n : Int) acc g (n : Int) (i : Int) g s = impl_RightsOk.l1 K (n : Int) acc (i : Int) (rd_L1 g (i : Int)) g (n : Int) (i : Int) (rd_L1 g (i : Int)) ((rd_L1 g (i : Int)).length : Int) 0 g s := fun k => by
      generalize hK : k + 1 = K
      simp only [spec_l06Form.l0, impl_RightsOk.l0, if_pos c1, if_pos c2, if_pos c3, if_pos e2, if_pos c4, snum_f, inum_f, f', Option.bind_some, Bool.not_true]
      subst hK
      simp only [spec_l06Form.j2, impl_RightsOk.j2, Bool.false_eq_true, if_false, and_self]
    rcases rows_l1 (n : Int) acc (i : Int) g (n : Int) (i : Int) (rd_L1 g (i : Int)) g s (by omega) c2 (by omega) n 0 (by omega) with ⟨h, q⟩ | q
    · have hi' := h i (by omega) (by omega)
      have hd : rd (rd_L1 g (i : Int)) (i : Int) ≤ 1125899906842624 := hi'.2
      have hd0 : 0 ≤ rd (rd_L1 g (i : Int)) (i : Int) := hi'.1
      have wa : wrap64 (acc + rd (rd_L1 g (i : Int)) (i : Int)) = acc + rd (rd_L1 g (i : Int)) (i : Int) := wrap_id (by omega) (by omega)
      have stp : ∀ k, 7 * (d + 1) + 1 ≤ k → ∃ K, k ≤ K + 7 ∧ 7 * d + 1 ≤ K ∧ spec_l06Form.l0 k (n : Int) g (n : Int) (i : Int) g s = spec_l06Form.l0 K (n : Int) g (n : Int) ((i + 1 : Nat) : Int) g s ∧ impl_RightsOk.l0 k (n : Int) acc g (n : Int) (i : Int) g s = impl_RightsOk.l0 K (n : Int) (acc + rd (rd_L1 g (i : Int)) (i : Int)) g (n : Int) ((i + 1 : Nat) : Int) g s := fun k hk => by
        obtain ⟨k, rfl⟩ : ∃ m, k = (m + n + 1) + 1 + 1 := ⟨k - n - 3, by omega⟩
        have q := q k
        rw [w, wa] at q
        exact ⟨k, by omega, by omega, (key (k + n + 1)).1.trans q.1, (key (k + n + 1)).2.trans q.2⟩
      rcases ih (i + 1) (acc + rd (rd_L1 g (i : Int)) (i : Int)) (by omega) (by omega) (by omega) with ⟨h', q'⟩ | q'
      · refine Or.inl ⟨fun j h1 h2 => ?_, fun k hk => ?_⟩
        · rcases Nat.lt_or_ge i j with h3 | h3
          · exact h' j h3 h2
          · have : j = i := by omega
            rw [this]
            exact ⟨e, f, fun a ha => h a (by omega) (by omega)⟩
        · obtain ⟨K, h1, h2, s1, s2⟩ := stp k hk
          obtain ⟨a1, k', a2, a3⟩ := q' K h2
          refine ⟨s1.trans a1, k', by omega, ?_⟩
          rw [s2, a3, dsum, Int.add_assoc]
      · refine Or.inr fun k hk => ?_
        obtain ⟨K, h1, h2, s1, s2⟩ := stp k hk
        exact ⟨s1.trans (q' K h2).1, s2.trans (q' K h2).2⟩
    · refine Or.inr fun k hk => ?_
      obtain ⟨k, rfl⟩ : ∃ m, k = m + 1 + 1 := ⟨k - 2, by omega⟩
      exact ⟨(key k).1.trans (q k (by omega)).1, (key k).2.trans (q k (by omega)).2⟩
theorem bal_l0 (n : Nat) (hn : n ≤ 4) (g : List (List Int)) (s : List Int) (hg : g.length = n) (hf : ∀ j : Nat, j < n → RowOk n g s j) (x : Nat) (hx : x < n) (d : Nat) : ∀ (i : Nat) (acc : Int), i + d = n → -((i : Int) + 1) * 1125899906842624 ≤ acc → acc ≤ ((i : Int) + 1) * 1125899906842624 →
    ∃ v, ∀ k, d < k → spec_l06Has.l0 k (x : Int) acc (n : Int) (i : Int) g s = some v ∧ impl_balance.l0 k (x : Int) acc (n : Int) (i : Int) g s = some v := by
  induction d with
  | zero =>
    intro i acc hi ha hb
    refine ⟨acc, fun k hk => ?_⟩
    obtain ⟨k, rfl⟩ : ∃ m, k = m + 1 := ⟨k - 1, by omega⟩
    have c : ¬ (i : Int) < (n : Int) := by omega
    simp only [spec_l06Has.l0, impl_balance.l0, if_neg c, and_self]
  | succ d ih =>
    intro i acc hi ha hb
    have c1 : (i : Int) < (n : Int) := by omega
    have w := wrap_succ i (by omega)
    by_cases e : i = x
    · obtain ⟨v, h⟩ := ih (i + 1) acc (by omega) (by omega) (by omega)
      refine ⟨v, fun k hk => ?_⟩
      obtain ⟨k, rfl⟩ : ∃ m, k = m + 1 := ⟨k - 1, by omega⟩
      have e : (i : Int) = (x : Int) := by omega
      simp only [spec_l06Has.l0, impl_balance.l0, if_pos c1, if_pos e, w]
      exact h k (by omega)
    have e' : ¬ (i : Int) = (x : Int) := by omega
    obtain ⟨r1, -, r2⟩ := hf i (by omega)
    obtain ⟨p1, -, p2⟩ := hf x hx
    have c2 : (0 : Int) ≤ (i : Int) := by omega
    have c3 : (i : Int) < (g.length : Int) := by omega
    have c4 : (0 : Int) ≤ (x : Int) := by omega
    have c5 : (x : Int) < ((rd_L1 g (i : Int)).length : Int) := by omega
    have c6 : (x : Int) < (g.length : Int) := by omega
    have c7 : (i : Int) < ((rd_L1 g (x : Int)).length : Int) := by omega
    obtain ⟨a0, a1⟩ := r2 x hx
    obtain ⟨b0, b1⟩ := p2 i (by omega)
    have w1 : wrap64 (acc + rd (rd_L1 g (i : Int)) (x : Int)) = acc + rd (rd_L1 g (i : Int)) (x : Int) := wrap_id (by omega) (by omega)
    have w2 : wrap64 (acc + rd (rd_L1 g (i : Int)) (x : Int) - rd (rd_L1 g (x : Int)) (i : Int)) = acc + rd (rd_L1 g (i : Int)) (x : Int) - rd (rd_L1 g (x : Int)) (i : Int) := wrap_id (by omega) (by omega)
    have w3 : wrap64 (rd (rd_L1 g (i : Int)) (x : Int) - rd (rd_L1 g (x : Int)) (i : Int)) = rd (rd_L1 g (i : Int)) (x : Int) - rd (rd_L1 g (x : Int)) (i : Int) := wrap_id (by omega) (by omega)
    have w4 : acc + (rd (rd_L1 g (i : Int)) (x : Int) - rd (rd_L1 g (x : Int)) (i : Int)) = acc + rd (rd_L1 g (i : Int)) (x : Int) - rd (rd_L1 g (x : Int)) (i : Int) := by omega
    obtain ⟨v, h⟩ := ih (i + 1) (acc + rd (rd_L1 g (i : Int)) (x : Int) - rd (rd_L1 g (x : Int)) (i : Int)) (by omega) (by omega) (by omega)
    refine ⟨v, fun k hk => ?_⟩
    obtain ⟨k, rfl⟩ : ∃ m, k = m + 1 := ⟨k - 1, by omega⟩
    simp only [spec_l06Has.l0, impl_balance.l0, if_pos c1, if_neg e', if_pos c2, if_pos c3, if_pos c4, if_pos c5, if_pos c6, if_pos c7, w, w1, w3, w4, w2]
    exact h k (by omega)
theorem has_f (n : Nat) (hn : n ≤ 4) (g : List (List Int)) (s : List Int) (hg : g.length = n) (hs : s.length = n) (hf : ∀ j : Nat, j < n → RowOk n g s j) (x : Nat) (hx : x < n) :
    ∃ v, ∀ k, 5 < k → spec_l06Has.f k g s (x : Int) = some v ∧ impl_balance.f k g s (x : Int) = some v := by
  obtain ⟨r1, ⟨s0, s1⟩, r2⟩ := hf x hx
  obtain ⟨a0, a1⟩ := r2 x hx
  have c4 : (0 : Int) ≤ (x : Int) := by omega
  have c5 : (x : Int) < ((rd_L1 g (x : Int)).length : Int) := by omega
  have c6 : (x : Int) < (g.length : Int) := by omega
  have c7 : (x : Int) < (s.length : Int) := by omega
  have w1 : wrap64 (rd (rd_L1 g (x : Int)) (x : Int) - rd s (x : Int)) = rd (rd_L1 g (x : Int)) (x : Int) - rd s (x : Int) := wrap_id (by omega) (by omega)
  obtain ⟨v, h⟩ := bal_l0 n hn g s hg hf x hx n 0 (rd (rd_L1 g (x : Int)) (x : Int) - rd s (x : Int)) (by omega) (by omega) (by omega)
  refine ⟨v, fun k hk => ?_⟩
  have h := h k (by omega)
  simp only [Int.natCast_zero] at h
  unfold spec_l06Has.f impl_balance.f
  rw [if_pos c4, if_pos c6, if_pos c5, if_pos c7, if_pos c4, if_pos c6, if_pos c5, if_pos c7, w1, hg, hs]
  exact h
theorem ok_l0 (n : Nat) (hn : n ≤ 4) (g : List (List Int)) (s : List Int) (hg : g.length = n) (hs : s.length = n) (hf : ∀ j : Nat, j < n → RowOk n g s j) (d : Nat) : ∀ (i : Nat) (acc : Int), i + d = n → 0 ≤ acc → acc ≤ (i : Int) * 1125899906842624 →
    ∃ v, ∀ k, d + 6 < k → spec_RightsOk.l0 k acc (n : Int) (i : Int) g s = some v ∧ ∀ k', d + 6 < k' → impl_RightsOk.l2 k' (acc + dsum g i d) (n : Int) (i : Int) g s = some v := by
  induction d with
  | zero =>
    intro i acc hi ha hb
    refine ⟨decide (isnum acc), fun k hk => ?_⟩
    obtain ⟨k, rfl⟩ : ∃ m, k = m + 1 := ⟨k - 1, by omega⟩
    have c : ¬ (i : Int) < (n : Int) := by omega
    refine ⟨?_, fun k' hk' => ?_⟩
    · simp only [spec_RightsOk.l0, if_neg c, snum_f, Option.bind_some]
    · obtain ⟨k', rfl⟩ : ∃ m, k' = m + 1 := ⟨k' - 1, by omega⟩
      simp only [impl_RightsOk.l2, if_neg c, inum_f, Option.bind_some, dsum, Int.add_zero]
  | succ d ih =>
    intro i acc hi ha hb
    have c1 : (i : Int) < (n : Int) := by omega
    have c2 : (0 : Int) ≤ (i : Int) := by omega
    have c3 : (i : Int) < (g.length : Int) := by omega
    have w := wrap_succ i (by omega)
    obtain ⟨r1, -, r2⟩ := hf i (by omega)
    obtain ⟨a0, a1⟩ := r2 i (by omega)
    have c5 : (i : Int) < ((rd_L1 g (i : Int)).length : Int) := by omega
    have w1 : wrap64 (acc + rd (rd_L1 g (i : Int)) (i : Int)) = acc + rd (rd_L1 g (i : Int)) (i : Int) := wrap_id (by omega) (by omega)
    obtain ⟨b, q⟩ := has_f n hn g s hg hs hf i (by omega)
    by_cases e : b < 0
    · refine ⟨false, fun k hk => ⟨?_, fun k' hk' => ?_⟩⟩
      · obtain ⟨k, rfl⟩ : ∃ m, k = m + 1 := ⟨k - 1, by omega⟩
        simp only [spec_RightsOk.l0, if_pos c1, (q k (by omega)).1, Option.bind_some, if_pos e]
      · obtain ⟨k', rfl⟩ : ∃ m, k' = m + 1 := ⟨k' - 1, by omega⟩
        simp only [impl_RightsOk.l2, if_pos c1, (q k' (by omega)).2, Option.bind_some, if_pos e]
    · obtain ⟨v, h⟩ := ih (i + 1) (acc + rd (rd_L1 g (i : Int)) (i : Int)) (by omega) (by omega) (by omega)
      refine ⟨v, fun k hk => ⟨?_, fun k' hk' => ?_⟩⟩
      · obtain ⟨k, rfl⟩ : ∃ m, k = m + 1 := ⟨k - 1, by omega⟩
        simp only [spec_RightsOk.l0, if_pos c1, (q k (by omega)).1, Option.bind_some, if_neg e, if_pos c2, if_pos c3, if_pos c5, w1, w]
        exact (h k (by omega)).1
      · obtain ⟨k', rfl⟩ : ∃ m, k' = m + 1 := ⟨k' - 1, by omega⟩
        simp only [impl_RightsOk.l2, if_pos c1, (q k' (by omega)).2, Option.bind_some, if_neg e, w, dsum, ← Int.add_assoc]
        exact (h k (by omega)).2 k' (by omega)
def ROk (g : List (List Int)) (s : List Int) : Prop := g.length = s.length ∧ 1 ≤ s.length ∧ s.length ≤ 4 ∧ ∀ j : Nat, j < s.length → RowOk s.length g s j
theorem sin_f (a b c : Int) : spec_l01In.f a b c = some (decide (b ≤ a ∧ a ≤ c)) := by
  unfold spec_l01In.f
  by_cases h : a ≥ b
  · rw [if_pos h]; simp [h]
  · rw [if_neg h]; simp [h]
theorem iin_f (a b c : Int) : impl_in.f a b c = some (decide (b ≤ a ∧ a ≤ c)) := by
  unfold impl_in.f
  by_cases h : a ≥ b
  · rw [if_pos h]; simp [h]
  · rw [if_neg h]; simp [h]
theorem rok_f (g : List (List Int)) (s : List Int) : ∃ v : Bool, (v = true → ROk g s) ∧ ∀ k, 60 < k → spec_RightsOk.f k g s = some v ∧ impl_RightsOk.f k g s = some v := by
  unfold spec_RightsOk.f impl_RightsOk.f spec_l06Form.f
  simp only [sin_f, iin_f, Option.bind_some]
  by_cases hl : g.length = s.length
  case neg =>
    refine ⟨false, (fun h => by cases h), fun k hk => ?_⟩
    obtain ⟨k, rfl⟩ : ∃ m, k = m + 1 := ⟨k - 1, by omega⟩
    have b1 : ((s.length : Int) != (g.length : Int)) = true := by simp; omega
    have b2 : ((g.length : Int) != (s.length : Int)) = true := by simp; omega
    simp only [b1, b2, spec_l06Form.j0, impl_RightsOk.j0, if_true, ite_self, Option.bind_some, Bool.false_eq_true, if_false, and_self]
  have hl' : (g.length : Int) = (s.length : Int) := by omega
  by_cases hn : (1 : Int) ≤ (s.length : Int) ∧ (s.length : Int) ≤ 4
  case neg =>
    refine ⟨false, (fun h => by cases h), fun k hk => ?_⟩
    obtain ⟨k, rfl⟩ : ∃ m, k = m + 1 := ⟨k - 1, by omega⟩
    have hn' := decide_eq_false hn
    simp only [hl', hn', spec_l06Form.j0, impl_RightsOk.j0, if_true, Option.bind_some, Bool.false_eq_true, if_false, and_self]
  have hn' := decide_eq_true hn
  have st : ∀ k, spec_l06Form.j0 (k + 1) (s.length : Int) ((s.length : Int) != (s.length : Int)) g s = spec_l06Form.l0 k (s.length : Int) g (s.length : Int) 0 g s ∧ impl_RightsOk.j0 (k + 1) (s.length : Int) ((s.length : Int) != (s.length : Int)) g s = impl_RightsOk.l0 k (s.length : Int) 0 g (s.length : Int) 0 g s := fun k => by
    simp only [bne_self_eq_false, spec_l06Form.j0, impl_RightsOk.j0, Bool.false_eq_true, if_false, hl', and_self]
  simp only [hl', hn', if_true]
  rcases rows_l0 s.length (by omega) g s hl rfl s.length 0 0 (by omega) (by omega) (by omega) with ⟨h, q⟩ | q
  · have hf : ∀ j : Nat, j < s.length → RowOk s.length g s j := fun j hj => h j (by omega) hj
    obtain ⟨v, z⟩ := ok_l0 s.length (by omega) g s hl rfl hf s.length 0 0 (by omega) (by omega) (by omega)
    refine ⟨v, fun _ => ⟨hl, by omega, by omega, hf⟩, fun k hk => ?_⟩
    obtain ⟨z1, z2⟩ := z k (by omega)
    obtain ⟨k, rfl⟩ : ∃ m, k = m + 1 := ⟨k - 1, by omega⟩
    obtain ⟨q1, k', q2, q3⟩ := q k (by omega)
    have z2 := z2 k' (by omega)
    simp only [Int.natCast_zero] at q1 q3 z1 z2
    simp only [(st k).1, (st k).2, q1, q3, z1, z2, Option.bind_some, if_true, and_self]
  · refine ⟨false, (fun h => by cases h), fun k hk => ?_⟩
    obtain ⟨k, rfl⟩ : ∃ m, k = m + 1 := ⟨k - 1, by omega⟩
    have q := q k (by omega)
    simp only [Int.natCast_zero] at q
    simp only [(st k).1, (st k).2, q.1, q.2, Option.bind_some, Bool.false_eq_true, if_false, and_self]

theorem later_l1 (n : Nat) (hn : n ≤ 4) (g : List (List Int)) (s : List Int) (g' : List (List Int)) (s' : List Int) (hg : g.length = n) (hg' : g'.length = n) (hf : ∀ j : Nat, j < n → RowOk n g s j) (hf' : ∀ j : Nat, j < n → RowOk n g' s' j) (a : Nat) (ha : a < n) (hs : s.length = n) (d : Nat) : ∀ (i : Nat), i + d = n →
    (∀ K, spec_Later.l1 (K + d + 1) (a : Int) g (n : Int) (a : Int) (rd_L1 g (a : Int)) (n : Int) (i : Int) g s g' s' = spec_Later.l0 K g (n : Int) (wrap64 ((a : Int) + 1)) g s g' s' ∧ impl_Later.l1 (K + d + 1) (a : Int) (n : Int) (a : Int) (n : Int) (i : Int) g s g' s' = impl_Later.l0 K (n : Int) (wrap64 ((a : Int) + 1)) g s g' s') ∨
    (∀ K, d < K → spec_Later.l1 K (a : Int) g (n : Int) (a : Int) (rd_L1 g (a : Int)) (n : Int) (i : Int) g s g' s' = some false ∧ impl_Later.l1 K (a : Int) (n : Int) (a : Int) (n : Int) (i : Int) g s g' s' = some false) := by
  induction d with
  | zero =>
    intro i hi
    refine Or.inl fun k => ?_
    have c : ¬ (i : Int) < (n : Int) := by omega
    simp only [Nat.add_zero, spec_Later.l1, impl_Later.l1, if_neg c, and_self]
  | succ d ih =>
    intro i hi
    have c1 : (i : Int) < (n : Int) := by omega
    have c2 : (0 : Int) ≤ (i : Int) := by omega
    have w := wrap_succ i (by omega)
    have r1 := (hf a ha).1
    have r2 := (hf' a ha).1
    have c3 : (i : Int) < ((rd_L1 g (a : Int)).length : Int) := by omega
    have c4 : (0 : Int) ≤ (a : Int) := by omega
    have c5 : (a : Int) < (g'.length : Int) := by omega
    have c6 : (i : Int) < ((rd_L1 g' (a : Int)).length : Int) := by omega
    have c7 : (a : Int) < (g.length : Int) := by omega
    by_cases e : (rd (rd_L1 g (a : Int)) (i : Int)) > (rd (rd_L1 g' (a : Int)) (i : Int))
    · refine Or.inr fun k hk => ?_
      obtain ⟨k, rfl⟩ : ∃ m, k = m + 1 := ⟨k - 1, by omega⟩
      simp only [spec_Later.l1, impl_Later.l1, if_pos c1, if_pos c2, if_pos c3, if_pos c4, if_pos c5, if_pos c6, if_pos c7, if_pos e, and_self]
    · have key : ∀ K, spec_Later.l1 (K + 1) (a : Int) g (n : Int) (a : Int) (rd_L1 g (a : Int)) (n : Int) (i : Int) g s g' s' = spec_Later.l1 K (a : Int) g (n : Int) (a : Int) (rd_L1 g (a : Int)) (n : Int) ((i + 1 : Nat) : Int) g s g' s' ∧ impl_Later.l1 (K + 1) (a : Int) (n : Int) (a : Int) (n : Int) (i : Int) g s g' s' = impl_Later.l1 K (a : Int) (n : Int) (a : Int) (n : Int) ((i + 1 : Nat) : Int) g s g' s' := fun K => by
        simp only [spec_Later.l1, impl_Later.l1, if_pos c1, if_pos c2, if_pos c3, if_pos c4, if_pos c5, if_pos c6, if_pos c7, if_neg e, w, and_self]
      rcases ih (i + 1) (by omega) with q | q
      · exact Or.inl fun k => ⟨(key (k + d + 1)).1.trans (q k).1, (key (k + d + 1)).2.trans (q k).2⟩
      · refine Or.inr fun k hk => ?_
        obtain ⟨k, rfl⟩ : ∃ m, k = m + 1 := ⟨k - 1, by omega⟩
        exact ⟨(key k).1.trans (q k (by omega)).1, (key k).2.trans (q k (by omega)).2⟩
theorem later_l0 (n : Nat) (hn : n ≤ 4) (g : List (List Int)) (s : List Int) (g' : List (List Int)) (s' : List Int) (hg : g.length = n) (hg' : g'.length = n) (hf : ∀ j : Nat, j < n → RowOk n g s j) (hf' : ∀ j : Nat, j < n → RowOk n g' s' j) (hs : s.length = n) (hs' : s'.length = n) (d : Nat) : ∀ (i : Nat), i + d = n →
    ∃ v, ∀ k, 7 * d < k → spec_Later.l0 k g (n : Int) (i : Int) g s g' s' = some v ∧ impl_Later.l0 k (n : Int) (i : Int) g s g' s' = some v := by
  induction d with
  | zero =>
    intro i hi
    refine ⟨true, fun k hk => ?_⟩
    obtain ⟨k, rfl⟩ : ∃ m, k = m + 1 := ⟨k - 1, by omega⟩
    have c : ¬ (i : Int) < (n : Int) := by omega
    simp only [spec_Later.l0, impl_Later.l0, if_neg c, and_self]
  | succ d ih =>
    intro i hi
    have c1 : (i : Int) < (n : Int) := by omega
    have c2 : (0 : Int) ≤ (i : Int) := by omega
    have c3 : (i : Int) < (g.length : Int) := by omega
    have c4 : (i : Int) < (s.length : Int) := by omega
    have c5 : (i : Int) < (s'.length : Int) := by omega
    have w := wrap_succ i (by omega)
    have r1 := (hf i (by omega)).1
    by_cases e : rd s (i : Int) > rd s' (i : Int)
    · refine ⟨false, fun k hk => ?_⟩
      obtain ⟨k, rfl⟩ : ∃ m, k = m + 1 := ⟨k - 1, by omega⟩
      simp only [spec_Later.l0, impl_Later.l0, if_pos c1, if_pos c2, if_pos c3, if_pos c4, if_pos c5, if_pos e, and_self]
    · have key : ∀ K, spec_Later.l0 (K + 1) g (n : Int) (i : Int) g s g' s' = spec_Later.l1 K (i : Int) g (n : Int) (i : Int) (rd_L1 g (i : Int)) (n : Int) 0 g s g' s' ∧ impl_Later.l0 (K + 1) (n : Int) (i : Int) g s g' s' = impl_Later.l1 K (i : Int) (n : Int) (i : Int) (n : Int) 0 g s g' s' := fun K => by
        rw [spec_Later.l0, impl_Later.l0, if_pos c1, if_pos c2, if_pos c3, if_pos c4, if_pos c5, if_neg e, if_pos c1, if_pos c2, if_pos c4, if_pos c5, if_neg e, r1, hs]
        exact ⟨rfl, rfl⟩
      rcases later_l1 n hn g s g' s' hg hg' hf hf' i (by omega) hs n 0 (by omega) with q | q
      · obtain ⟨v, h⟩ := ih (i + 1) (by omega)
        refine ⟨v, fun k hk => ?_⟩
        obtain ⟨k, rfl⟩ : ∃ m, k = (m + n + 1) + 1 := ⟨k - n - 2, by omega⟩
        have q := q k
        rw [w] at q
        have h := h k (by omega)
        exact ⟨((key (k + n + 1)).1.trans q.1).trans h.1, ((key (k + n + 1)).2.trans q.2).trans h.2⟩
      · refine ⟨false, fun k hk => ?_⟩
        obtain ⟨k, rfl⟩ : ∃ m, k = m + 1 := ⟨k - 1, by omega⟩
        exact ⟨(key k).1.trans (q k (by omega)).1, (key k).2.trans (q k (by omega)).2⟩
theorem later_f (g : List (List Int)) (s : List Int) (g' : List (List Int)) (s' : List Int) : ∃ v, ∀ k, 60 < k → spec_Later.f k g s g' s' = some v ∧ impl_Later.f k g s g' s' = some v := by
  obtain ⟨b, hb, q⟩ := rok_f g s
  obtain ⟨b', hb', q'⟩ := rok_f g' s'
  unfold spec_Later.f impl_Later.f
  cases b with
  | false =>
    refine ⟨false, fun k hk => ?_⟩
    obtain ⟨q1, q2⟩ := q k hk
    obtain ⟨k, rfl⟩ : ∃ m, k = m + 1 := ⟨k - 1, by omega⟩
    simp only [q1, q2, Option.bind_some, Bool.false_eq_true, if_false, spec_Later.j0, impl_Later.j0, if_true, and_self]
  | true =>
    cases b' with
    | false =>
      refine ⟨false, fun k hk => ?_⟩
      obtain ⟨q1, q2⟩ := q k hk
      obtain ⟨q3, q4⟩ := q' k hk
      obtain ⟨k, rfl⟩ : ∃ m, k = m + 1 := ⟨k - 1, by omega⟩
      simp only [q1, q2, q3, q4, Option.bind_some, Bool.false_eq_true, if_false, spec_Later.j0, impl_Later.j0, if_true, and_self]
    | true =>
      obtain ⟨hl, h1, h4, hf⟩ := hb rfl
      obtain ⟨hl', h1', h4', hf'⟩ := hb' rfl
      by_cases e : s.length = s'.length
      · have b1 : ((g.length : Int) != (g'.length : Int)) = false := by simp; omega
        have b2 : ((s.length : Int) != (s'.length : Int)) = false := by simp; omega
        obtain ⟨v, h⟩ := later_l0 s.length h4 g s g' s' hl (by omega) hf (by rw [e]; exact hf') rfl e.symm s.length 0 (by omega)
        refine ⟨v, fun k hk => ?_⟩
        obtain ⟨q1, q2⟩ := q k hk
        obtain ⟨q3, q4⟩ := q' k hk
        obtain ⟨k, rfl⟩ : ∃ m, k = m + 1 := ⟨k - 1, by omega⟩
        have h := h k (by omega)
        simp only [Int.natCast_zero] at h
        simp only [q1, q2, q3, q4, b1, b2, Option.bind_some, Bool.false_eq_true, if_false, spec_Later.j0, impl_Later.j0, if_true]
        rw [hl]
        exact h
      · have b1 : ((g.length : Int) != (g'.length : Int)) = true := by simp; omega
        have b2 : ((s.length : Int) != (s'.length : Int)) = true := by simp; omega
        refine ⟨false, fun k hk => ?_⟩
        obtain ⟨q1, q2⟩ := q k hk
        obtain ⟨q3, q4⟩ := q' k hk
        obtain ⟨k, rfl⟩ : ∃ m, k = m + 1 := ⟨k - 1, by omega⟩
        simp only [q1, q2, q3, q4, b1, b2, Option.bind_some, Bool.false_eq_true, if_false, spec_Later.j0, impl_Later.j0, if_true, and_self]
theorem FnExactLater (l0_0 : List (List Int)) (l0_1 : List Int) (l1_0 : List (List Int)) (l1_1 : List Int) (w0_0 : l0_0.length ≤ maxLen ∧ ∀ l0_0_e ∈ l0_0, l0_0_e.length ≤ maxLen ∧ ∀ l0_0_e_e ∈ l0_0_e, (Lit.int .i64 l0_0_e_e).wf = true) (w0_1 : l0_1.length ≤ maxLen ∧ ∀ l0_1_e ∈ l0_1, (Lit.int .i64 l0_1_e).wf = true) (w1_0 : l1_0.length ≤ maxLen ∧ ∀ l1_0_e ∈ l1_0, l1_0_e.length ≤ maxLen ∧ ∀ l1_0_e_e ∈ l1_0_e, (Lit.int .i64 l1_0_e_e).wf = true) (w1_1 : l1_1.length ≤ maxLen ∧ ∀ l1_1_e ∈ l1_1, (Lit.int .i64 l1_1_e).wf = true) : ∃ k, laws_FnExactLater.f k l0_0 l0_1 l1_0 l1_1 = some true := by
  rcases szRights_f l0_0 l0_1 1048576 (Nat.le_refl _) (max_len w0_0.1) (inner_len w0_0.2) (max_len w0_1.1) with z | ⟨hg, hs, hb, n, hn, z⟩
  · exact ⟨1048577, by
      have z := z 1048577 (by omega)
      unfold laws_FnExactLater.f
      rw [show (1048576 : Int) = ((1048576 : Nat) : Int) from rfl, z]; rfl⟩
  rcases szRights_f l1_0 l1_1 n hn (max_len w1_0.1) (inner_len w1_0.2) (max_len w1_1.1) with z' | ⟨hg', hs', hb', n', hn', z'⟩
  · exact ⟨1048577, by
      have z := z 1048577 (by omega)
      have z' := z' 1048577 (by omega)
      unfold laws_FnExactLater.f
      rw [show (1048576 : Int) = ((1048576 : Nat) : Int) from rfl, z, Option.bind_some, if_neg (by omega), z']; rfl⟩
  refine rounds_of (fun m hm => ?_)
  have z := z (m + 8) (by omega)
  have z' := z' (m + 8) (by omega)
  obtain ⟨v, g⟩ := later_f l0_0 l0_1 l1_0 l1_1
  obtain ⟨E1, E2⟩ := g (m + 8) (by omega)
  have T := toRights_f l0_0 l0_1 (m + 8) 1048576 (by omega) (by omega) hg (by omega) hs hb
  have T' := toRights_f l1_0 l1_1 (m + 8) 1048576 (by omega) (by omega) hg' (by omega) hs' hb'
  have Q := eqRights_refl l0_0 l0_1 (m + 8) 1048576 (by omega) (by omega) (by omega) (by omega) (by omega) hb
  have Q' := eqRights_refl l1_0 l1_1 (m + 8) 1048576 (by omega) (by omega) (by omega) (by omega) (by omega) hb'
  clear g
  unfold laws_FnExactLater.f
  rw [show (1048576 : Int) = ((1048576 : Nat) : Int) from rfl, z, Option.bind_some, if_neg (by omega), z', Option.bind_some, if_neg (by omega)]
  simp only [T, T', E1, E2, Q, Q', Option.bind_some, bne_self_eq_false, Bool.false_eq_true, if_true, if_false]

end Go.Proofs.Ytcnanifokpcjaaa.Pure
