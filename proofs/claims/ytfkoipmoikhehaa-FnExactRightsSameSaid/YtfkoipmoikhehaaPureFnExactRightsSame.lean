/- For all rights RightsSame of the program and of the reference answer alike. This text proves it of the plain functions, with no program in sight. Conditions: none but those of the given statement. -/
import Derived.Test.YtfkoipmoikhehaaPFnExactRightsSamex4
set_option linter.unusedVariables false
set_option linter.unusedSimpArgs false
namespace Go.Proofs.Ytfkoipmoikhehaa.Pure
open Go Go.RowKit Go.Proofs.Ytfkoipmoikhehaa.PFnExactRightsSame Go.Proofs.YtfkoipmoikhehaaW.PrintWords Go.Proofs.YtfkoipmoikhehaaW.PrintLast Go.Proofs.YtfkoipmoikhehaaW.PrintMore

theorem wrap_id {x : Int} (h0 : -9223372036854775808 ≤ x) (h1 : x ≤ 9223372036854775807) : wrap64 x = x := by
  unfold wrap64; omega
theorem rd_eq (l : List Int) (i : Nat) (h : i < l.length) : rd l (i : Int) = l[i] := by
  simp [rd, h]
theorem succ_cast (i : Nat) : (i : Int) + 1 = ((i + 1 : Nat) : Int) := by omega
theorem take_set_same (l m : List Int) (i : Nat) (hi : i < l.length) (hm : m.length = l.length) (ht : m.take i = l.take i) : (m.set i l[i]).take (i + 1) = l.take (i + 1) := by
  rw [List.take_succ_eq_append_getElem (by simp; omega), List.take_succ_eq_append_getElem hi]
  simp [List.take_set_of_le, ht]
theorem natlt0 (n : Nat) : ((n : Int) < 0) = False := by simp
theorem wrap_nat (n : Nat) (h : n ≤ 9223372036854775807) : wrap64 (n : Int) = (n : Int) := wrap_id (by omega) (by omega)
theorem wrap_succ (n : Nat) (h : n < 9223372036854775807) : wrap64 ((n : Int) + 1) = ((n + 1 : Nat) : Int) := by rw [wrap_id (by omega) (by omega)]; omega
theorem u8_of_wf {x : Int} (h : (Lit.int .u8 x).wf = true) : 0 ≤ x ∧ x < 256 := by
  simp [Lit.wf, IntKind.min, IntKind.max, IntKind.signed, IntKind.bits] at h
  omega
theorem i64_of_wf {x : Int} (h : (Lit.int .i64 x).wf = true) : -9223372036854775808 ≤ x ∧ x ≤ 9223372036854775807 := by
  simp [Lit.wf, IntKind.min, IntKind.max, IntKind.signed, IntKind.bits] at h
  omega
theorem max_len {α : Type} {l : List α} (h : l.length ≤ maxLen) : l.length ≤ 9223372036854775807 := by
  unfold maxLen at h; omega
theorem rounds_of {f : Nat → Option Bool} (h : ∀ m, 20000000 ≤ m → f (m + 8) = some true) : ∃ k, f k = some true := by
  obtain ⟨m, hm⟩ : ∃ m : Nat, 20000000 ≤ m := ⟨_, Nat.le_refl _⟩
  exact ⟨m + 8, h m hm⟩

theorem toIntS_l0 (l : List Int) (hl : l.length ≤ 140737488351232) (d : Nat) : ∀ (k : Nat) (x3 : List Int) (i : Nat), i + d = l.length → d < k → x3.length = l.length → x3.take i = l.take i → laws_toIntS.l0 k l x3 (i : Int) = some l := by
  induction d with
  | zero =>
    intro k x3 i hi hk h3 ht
    obtain ⟨k, rfl⟩ : ∃ m, k = m + 1 := ⟨k - 1, by omega⟩
    simp only [laws_toIntS.l0]
    rw [if_neg (by omega)]
    rw [List.take_of_length_le (by omega), List.take_of_length_le (by omega)] at ht
    rw [ht]
  | succ d ih =>
    intro k x3 i hi hk h3 ht
    obtain ⟨k, rfl⟩ : ∃ m, k = m + 1 := ⟨k - 1, by omega⟩
    simp only [laws_toIntS.l0]
    rw [if_pos (by omega), if_pos (by omega), if_pos (by omega), wrap_id (by omega) (by omega), succ_cast, Int.toNat_natCast, rd_eq l i (by omega)]
    exact ih k _ (i + 1) (by omega) (by omega) (by simp [h3]) (take_set_same l x3 i (by omega) h3 ht)
theorem toIntS_f (l : List Int) (k : Nat) (hk : l.length < k) (hl : l.length ≤ 17592186044416) : laws_toIntS.f k l = some l := by
  unfold laws_toIntS.f
  rw [if_pos (by omega), if_pos (by omega)]
  exact toIntS_l0 l (by omega) l.length k _ 0 (by omega) hk (by simp) (by simp)

theorem eqIntS_l0 (l : List Int) (hl : l.length ≤ 140737488351232) (d : Nat) : ∀ (k : Nat) (i : Nat), i + d = l.length → d < k → laws_eqIntS.l0 k l l (i : Int) = some true := by
  induction d with
  | zero =>
    intro k i hi hk
    obtain ⟨k, rfl⟩ : ∃ m, k = m + 1 := ⟨k - 1, by omega⟩
    simp only [laws_eqIntS.l0]
    rw [if_neg (by omega)]
  | succ d ih =>
    intro k i hi hk
    obtain ⟨k, rfl⟩ : ∃ m, k = m + 1 := ⟨k - 1, by omega⟩
    simp only [laws_eqIntS.l0]
    rw [if_pos (by omega), if_pos (by omega), if_pos (by omega), if_pos trivial, wrap_id (by omega) (by omega), succ_cast]
    exact ih k (i + 1) (by omega) (by omega)
theorem eqIntS_refl (l : List Int) (k : Nat) (hk : l.length < k) (hl : l.length ≤ 140737488351232) : laws_eqIntS.f k l l = some true := by
  unfold laws_eqIntS.f
  rw [if_pos rfl]
  exact eqIntS_l0 l hl l.length k 0 (by omega) hk

theorem rd_1 (l : List (List Int)) (i : Nat) (h : i < l.length) : rd_L1 l (i : Int) = l[i] := by
  simp [rd_L1, h]
theorem mem_bound {l : List (List Int)} {B : Nat} (h : ∀ x ∈ l, x.length ≤ B) (i : Nat) (hi : i < l.length) : (l[i]).length ≤ B := h _ (List.getElem_mem hi)
theorem eqIntSS_l0 (l : List (List Int)) (hl : l.length ≤ 140737488351232) (B : Nat) (hB : B ≤ 140737488351232) (hb : ∀ x ∈ l, x.length ≤ B) (d : Nat) : ∀ (k : Nat) (i : Nat), i + d = l.length → d + B < k → laws_eqIntSS.l0 k l l (i : Int) = some true := by
  induction d with
  | zero =>
    intro k i hi hk
    obtain ⟨k, rfl⟩ : ∃ m, k = m + 1 := ⟨k - 1, by omega⟩
    simp only [laws_eqIntSS.l0]
    rw [if_neg (by omega)]
  | succ d ih =>
    intro k i hi hk
    obtain ⟨k, rfl⟩ : ∃ m, k = m + 1 := ⟨k - 1, by omega⟩
    have hlt : i < l.length := by omega
    have hb' := mem_bound hb i hlt
    simp only [laws_eqIntSS.l0]
    rw [if_pos (by omega), if_pos (by omega), if_pos (by omega), rd_1 l i hlt, eqIntS_refl l[i] k (by omega) (by omega), Option.bind_some, if_pos rfl, wrap_id (by omega) (by omega), succ_cast]
    exact ih k (i + 1) (by omega) (by omega)
theorem eqIntSS_refl (l : List (List Int)) (k B : Nat) (hk : l.length + B < k) (hl : l.length ≤ 140737488351232) (hB : B ≤ 140737488351232) (hb : ∀ x ∈ l, x.length ≤ B) : laws_eqIntSS.f k l l = some true := by
  unfold laws_eqIntSS.f
  rw [if_pos rfl]
  exact eqIntSS_l0 l hl B hB hb l.length k 0 (by omega) (by omega)
theorem eqRights_refl (g : List (List Int)) (s : List Int) (k B : Nat) (hk : g.length + B < k) (hs : s.length < k) (hl : g.length ≤ 140737488351232) (hB : B ≤ 140737488351232) (hs' : s.length ≤ 140737488351232) (hb : ∀ x ∈ g, x.length ≤ B) : laws_eqRights.f k g s g s = some true := by
  unfold laws_eqRights.f
  rw [eqIntSS_refl g k B hk hl hB hb, Option.bind_some, if_pos rfl, eqIntS_refl s k hs hs', Option.bind_some, if_pos rfl]

theorem toIntSS_l0 (l : List (List Int)) (hl : l.length ≤ 140737488351232) (B : Nat) (hB : B ≤ 17592186044416) (hb : ∀ x ∈ l, x.length ≤ B) (d : Nat) : ∀ (k : Nat) (x3 : List (List Int)) (i : Nat), i + d = l.length → d + B < k → x3.length = l.length → x3.take i = l.take i → laws_toIntSS.l0 k l x3 (i : Int) = some l := by
  induction d with
  | zero =>
    intro k x3 i hi hk h3 ht
    obtain ⟨k, rfl⟩ : ∃ m, k = m + 1 := ⟨k - 1, by omega⟩
    simp only [laws_toIntSS.l0]
    rw [if_neg (by omega)]
    rw [List.take_of_length_le (by omega), List.take_of_length_le (by omega)] at ht
    rw [ht]
  | succ d ih =>
    intro k x3 i hi hk h3 ht
    obtain ⟨k, rfl⟩ : ∃ m, k = m + 1 := ⟨k - 1, by omega⟩
    have hlt : i < l.length := by omega
    have hb' := mem_bound hb i hlt
    simp only [laws_toIntSS.l0]
    rw [if_pos (by omega), if_pos (by omega), rd_1 l i hlt, toIntS_f l[i] k (by omega) (by omega), Option.bind_some, if_pos (by omega), wrap_id (by omega) (by omega), succ_cast, Int.toNat_natCast]
    refine ih k _ (i + 1) (by omega) (by omega) (by simp [h3]) ?_
    rw [List.take_succ_eq_append_getElem (by simp; omega), List.take_succ_eq_append_getElem hlt]
    simp [List.take_set_of_le, ht]
theorem toIntSS_f (l : List (List Int)) (k B : Nat) (hk : l.length + B < k) (hl : l.length ≤ 1048576) (hB : B ≤ 17592186044416) (hb : ∀ x ∈ l, x.length ≤ B) : laws_toIntSS.f k l = some l := by
  unfold laws_toIntSS.f
  rw [if_pos (by omega), if_pos (by omega)]
  exact toIntSS_l0 l (by omega) B hB hb l.length k _ 0 (by omega) (by omega) (by simp) (by simp)
theorem toRights_f (g : List (List Int)) (s : List Int) (k B : Nat) (hk : g.length + B < k) (hs : s.length < k) (hl : g.length ≤ 1048576) (hB : B ≤ 17592186044416) (hs' : s.length ≤ 1048576) (hb : ∀ x ∈ g, x.length ≤ B) : laws_toRights.f k g s = some (g, s) := by
  unfold laws_toRights.f
  rw [toIntSS_f g k B hk hl hB hb, Option.bind_some, toIntS_f s k hs (by omega), Option.bind_some]
theorem szIntSS_l0 (l : List (List Int)) (hb : ∀ x ∈ l, x.length ≤ 9223372036854775807) (hl : l.length ≤ 1048576) (d : Nat) : ∀ (i n : Nat), i + d = l.length → n ≤ 1048576 →
    (∀ k, d < k → laws_szIntSS.l0 k l (n : Int) (i : Int) = some (-1)) ∨ (∃ n' : Nat, n' ≤ n ∧ (∀ x ∈ l.drop i, x.length ≤ 1048576) ∧ ∀ k, d < k → laws_szIntSS.l0 k l (n : Int) (i : Int) = some (n' : Int)) := by
  induction d with
  | zero =>
    intro i n hi hn
    refine Or.inr ⟨n, Nat.le_refl _, ?_, fun k hk => ?_⟩
    · rw [List.drop_of_length_le (by omega)]
      intro x hx
      cases hx
    · obtain ⟨k, rfl⟩ : ∃ m, k = m + 1 := ⟨k - 1, by omega⟩
      simp only [laws_szIntSS.l0]
      rw [if_neg (by omega)]
  | succ d ih =>
    intro i n hi hn
    have hlt : i < l.length := by omega
    have hb' := hb _ (List.getElem_mem hlt)
    have w : wrap64 ((n : Int) - ((l[i]).length : Int)) = (n : Int) - ((l[i]).length : Int) := wrap_id (by omega) (by omega)
    have hd : l.drop i = l[i] :: l.drop (i + 1) := List.drop_eq_getElem_cons hlt
    by_cases h : (l[i]).length ≤ n
    · have e : (n : Int) - ((l[i]).length : Int) = ((n - (l[i]).length : Nat) : Int) := by omega
      have step : ∀ k, laws_szIntSS.l0 (k + 1) l (n : Int) (i : Int) = laws_szIntSS.l0 k l ((n - (l[i]).length : Nat) : Int) ((i + 1 : Nat) : Int) := fun k => by
        simp only [laws_szIntSS.l0, laws_szIntS.f]
        rw [if_pos (by omega), if_pos (by omega), rd_1 l i hlt, w, if_neg (by omega), Option.bind_some, if_neg (by omega), e, wrap_succ i (by omega)]
      rcases ih (i + 1) (n - (l[i]).length) (by omega) (by omega) with g | ⟨n', h1, h2, g⟩
      · refine Or.inl fun k hk => ?_
        obtain ⟨k, rfl⟩ : ∃ m, k = m + 1 := ⟨k - 1, by omega⟩
        rw [step]
        exact g k (by omega)
      · refine Or.inr ⟨n', by omega, ?_, fun k hk => ?_⟩
        · rw [hd]
          intro x hx
          rcases List.mem_cons.mp hx with rfl | hx
          · omega
          · exact h2 x hx
        · obtain ⟨k, rfl⟩ : ∃ m, k = m + 1 := ⟨k - 1, by omega⟩
          rw [step]
          exact g k (by omega)
    · refine Or.inl fun k hk => ?_
      obtain ⟨k, rfl⟩ : ∃ m, k = m + 1 := ⟨k - 1, by omega⟩
      simp only [laws_szIntSS.l0, laws_szIntS.f]
      rw [if_pos (by omega), if_pos (by omega), rd_1 l i hlt, w, if_pos (by omega), Option.bind_some, if_pos (by omega)]
/-- Rights are too large to be looked at, or their sizes are known. -/
theorem szRights_f (g : List (List Int)) (s : List Int) (n : Nat) (hn : n ≤ 1048576) (hg : g.length ≤ 9223372036854775807) (hb : ∀ x ∈ g, x.length ≤ 9223372036854775807) (hs : s.length ≤ 9223372036854775807) :
    (∀ k, 1048576 < k → laws_szRights.f k g s (n : Int) = some (-1)) ∨ (g.length ≤ 1048576 ∧ s.length ≤ 1048576 ∧ (∀ x ∈ g, x.length ≤ 1048576) ∧ ∃ n' : Nat, n' ≤ n ∧ ∀ k, 1048576 < k → laws_szRights.f k g s (n : Int) = some (n' : Int)) := by
  have w : wrap64 ((n : Int) - (g.length : Int)) = (n : Int) - (g.length : Int) := wrap_id (by omega) (by omega)
  by_cases h : g.length ≤ n
  case neg =>
    refine Or.inl fun k hk => ?_
    unfold laws_szRights.f laws_szIntSS.f
    rw [w, if_pos (by omega), Option.bind_some, if_pos (by omega)]
  have e : (n : Int) - (g.length : Int) = ((n - g.length : Nat) : Int) := by omega
  rcases szIntSS_l0 g hb (by omega) g.length 0 (n - g.length) (by omega) (by omega) with z | ⟨n', h1, h2, z⟩
  · refine Or.inl fun k hk => ?_
    have z := z k (by omega)
    simp only [Int.natCast_zero] at z
    unfold laws_szRights.f laws_szIntSS.f
    rw [w, if_neg (by omega), e, z, Option.bind_some, if_pos (by omega)]
  · have w2 : wrap64 ((n' : Int) - (s.length : Int)) = (n' : Int) - (s.length : Int) := wrap_id (by omega) (by omega)
    by_cases h3 : s.length ≤ n'
    · refine Or.inr ⟨by omega, by omega, by simpa using h2, n' - s.length, by omega, fun k hk => ?_⟩
      have z := z k (by omega)
      simp only [Int.natCast_zero] at z
      unfold laws_szRights.f laws_szIntSS.f laws_szIntS.f
      rw [w, if_neg (by omega), e, z, Option.bind_some, if_neg (by omega), w2, if_neg (by omega), Option.bind_some, if_neg (by omega)]
      congr 1
      omega
    · refine Or.inl fun k hk => ?_
      have z := z k (by omega)
      simp only [Int.natCast_zero] at z
      unfold laws_szRights.f laws_szIntSS.f laws_szIntS.f
      rw [w, if_neg (by omega), e, z, Option.bind_some, if_neg (by omega), w2, if_pos (by omega), Option.bind_some, if_pos (by omega)]
theorem inner_len {l : List (List Int)} (h : ∀ x ∈ l, x.length ≤ maxLen ∧ ∀ y ∈ x, (Lit.int .i64 y).wf = true) : ∀ x ∈ l, x.length ≤ 9223372036854775807 := fun x hx => max_len (h x hx).1

theorem sameInts_l0 (l r : List Int) (hl : l.length ≤ 1048576) (hr : r.length = l.length) (d : Nat) : ∀ (i : Nat), i + d = l.length →
    ∃ v, ∀ k, d < k → spec_l01Same.l0 k l r (l.length : Int) (i : Int) = some v ∧ impl_sameInts.l0 k l r (l.length : Int) (i : Int) = some v := by
  induction d with
  | zero =>
    intro i hi
    refine ⟨true, fun k hk => ?_⟩
    obtain ⟨k, rfl⟩ : ∃ m, k = m + 1 := ⟨k - 1, by omega⟩
    have c : ¬ (i : Int) < (l.length : Int) := by omega
    simp only [spec_l01Same.l0, impl_sameInts.l0, if_neg c, and_self]
  | succ d ih =>
    intro i hi
    obtain ⟨v, h⟩ := ih (i + 1) (by omega)
    have c1 : (i : Int) < (l.length : Int) := by omega
    have c2 : (0 : Int) ≤ (i : Int) := by omega
    have c3 : (i : Int) < (r.length : Int) := by omega
    have w := wrap_succ i (by omega)
    by_cases e : rd l (i : Int) = rd r (i : Int)
    · refine ⟨v, fun k hk => ?_⟩
      obtain ⟨k, rfl⟩ : ∃ m, k = m + 1 := ⟨k - 1, by omega⟩
      simp only [spec_l01Same.l0, impl_sameInts.l0, if_pos c1, if_pos c2, if_pos c3, if_pos e, w]
      exact h k (by omega)
    · refine ⟨false, fun k hk => ?_⟩
      obtain ⟨k, rfl⟩ : ∃ m, k = m + 1 := ⟨k - 1, by omega⟩
      simp only [spec_l01Same.l0, impl_sameInts.l0, if_pos c1, if_pos c2, if_pos c3, if_neg e, and_self]
theorem sameInts_f (l r : List Int) (hl : l.length ≤ 1048576) : ∃ v, ∀ k, 1048576 < k → spec_l01Same.f k l r = some v ∧ impl_sameInts.f k l r = some v := by
  unfold spec_l01Same.f impl_sameInts.f
  by_cases h : (l.length : Int) = (r.length : Int)
  · obtain ⟨v, g⟩ := sameInts_l0 l r hl (by omega) l.length 0 (by omega)
    refine ⟨v, fun k hk => ?_⟩
    have g := g k (by omega)
    simp only [if_pos h]
    exact g
  · exact ⟨false, fun k hk => by simp only [if_neg h, and_self]⟩
theorem sameRows_l0 (l r : List (List Int)) (a b : List Int) (hl : l.length ≤ 1048576) (hb : ∀ x ∈ l, x.length ≤ 1048576) (hr : r.length = l.length) (d : Nat) : ∀ (i : Nat), i + d = l.length →
    ∃ v, ∀ k, d + 1048577 < k → spec_RightsSame.l0 k l (l.length : Int) (i : Int) r b = some v ∧ impl_RightsSame.l0 k (l.length : Int) (i : Int) l a r b = some v := by
  induction d with
  | zero =>
    intro i hi
    refine ⟨true, fun k hk => ?_⟩
    obtain ⟨k, rfl⟩ : ∃ m, k = m + 1 := ⟨k - 1, by omega⟩
    have c : ¬ (i : Int) < (l.length : Int) := by omega
    simp only [spec_RightsSame.l0, impl_RightsSame.l0, if_neg c, and_self]
  | succ d ih =>
    intro i hi
    obtain ⟨v, h⟩ := ih (i + 1) (by omega)
    have hlt : i < l.length := by omega
    have c1 : (i : Int) < (l.length : Int) := by omega
    have c2 : (0 : Int) ≤ (i : Int) := by omega
    have c3 : (i : Int) < (r.length : Int) := by omega
    have w := wrap_succ i (by omega)
    obtain ⟨u, g⟩ := sameInts_f l[i] (rd_L1 r (i : Int)) (mem_bound hb i hlt)
    cases u with
    | true =>
      refine ⟨v, fun k hk => ?_⟩
      obtain ⟨k, rfl⟩ : ∃ m, k = m + 1 := ⟨k - 1, by omega⟩
      obtain ⟨g1, g2⟩ := g k (by omega)
      simp only [spec_RightsSame.l0, impl_RightsSame.l0, if_pos c1, if_pos c2, if_pos c3, rd_1 l i hlt, g1, g2, Option.bind_some, if_true, w]
      exact h k (by omega)
    | false =>
      refine ⟨false, fun k hk => ?_⟩
      obtain ⟨k, rfl⟩ : ∃ m, k = m + 1 := ⟨k - 1, by omega⟩
      obtain ⟨g1, g2⟩ := g k (by omega)
      simp only [spec_RightsSame.l0, impl_RightsSame.l0, if_pos c1, if_pos c2, if_pos c3, rd_1 l i hlt, g1, g2, Option.bind_some, Bool.false_eq_true, if_false, and_self]
theorem sameRights_f (l r : List (List Int)) (a b : List Int) (hl : l.length ≤ 1048576) (ha : a.length ≤ 1048576) (hb : ∀ x ∈ l, x.length ≤ 1048576) :
    ∃ v, ∀ k, 3000000 < k → spec_RightsSame.f k l a r b = some v ∧ impl_RightsSame.f k l a r b = some v := by
  unfold spec_RightsSame.f impl_RightsSame.f
  by_cases h : (l.length : Int) = (r.length : Int)
  · obtain ⟨u, g⟩ := sameInts_f a b ha
    cases u with
    | true =>
      obtain ⟨v, q⟩ := sameRows_l0 l r a b hl hb (by omega) l.length 0 (by omega)
      refine ⟨v, fun k hk => ?_⟩
      obtain ⟨k, rfl⟩ : ∃ m, k = m + 1 := ⟨k - 1, by omega⟩
      obtain ⟨g1, g2⟩ := g (k + 1) (by omega)
      have q := q k (by omega)
      simp only [if_pos h, g1, g2, Option.bind_some, spec_RightsSame.j0, impl_RightsSame.j0, Bool.not_true, Bool.false_eq_true, if_false]
      exact q
    | false =>
      refine ⟨false, fun k hk => ?_⟩
      obtain ⟨k, rfl⟩ : ∃ m, k = m + 1 := ⟨k - 1, by omega⟩
      obtain ⟨g1, g2⟩ := g (k + 1) (by omega)
      simp only [if_pos h, g1, g2, Option.bind_some, spec_RightsSame.j0, impl_RightsSame.j0, Bool.not_false, if_true, and_self]
  · refine ⟨false, fun k hk => ?_⟩
    obtain ⟨k, rfl⟩ : ∃ m, k = m + 1 := ⟨k - 1, by omega⟩
    simp only [if_neg h, spec_RightsSame.j0, impl_RightsSame.j0, if_true, and_self]
theorem FnExactRightsSame (l0_0 : List (List Int)) (l0_1 : List Int) (l1_0 : List (List Int)) (l1_1 : List Int) (w0_0 : l0_0.length ≤ maxLen ∧ ∀ l0_0_e ∈ l0_0, l0_0_e.length ≤ maxLen ∧ ∀ l0_0_e_e ∈ l0_0_e, (Lit.int .i64 l0_0_e_e).wf = true) (w0_1 : l0_1.length ≤ maxLen ∧ ∀ l0_1_e ∈ l0_1, (Lit.int .i64 l0_1_e).wf = true) (w1_0 : l1_0.length ≤ maxLen ∧ ∀ l1_0_e ∈ l1_0, l1_0_e.length ≤ maxLen ∧ ∀ l1_0_e_e ∈ l1_0_e, (Lit.int .i64 l1_0_e_e).wf = true) (w1_1 : l1_1.length ≤ maxLen ∧ ∀ l1_1_e ∈ l1_1, (Lit.int .i64 l1_1_e).wf = true) : ∃ k, laws_FnExactRightsSame.f k l0_0 l0_1 l1_0 l1_1 = some true := by
  rcases szRights_f l0_0 l0_1 1048576 (Nat.le_refl _) (max_len w0_0.1) (inner_len w0_0.2) (max_len w0_1.1) with z | ⟨hg, hs, hb, n, hn, z⟩
  · exact ⟨1048577, by
      have z := z 1048577 (by omega)
      unfold laws_FnExactRightsSame.f
      rw [show (1048576 : Int) = ((1048576 : Nat) : Int) from rfl, z]; rfl⟩
  rcases szRights_f l1_0 l1_1 n hn (max_len w1_0.1) (inner_len w1_0.2) (max_len w1_1.1) with z' | ⟨hg', hs', hb', n', hn', z'⟩
  · exact ⟨1048577, by
      have z := z 1048577 (by omega)
      have z' := z' 1048577 (by omega)
      unfold laws_FnExactRightsSame.f
      rw [show (1048576 : Int) = ((1048576 : Nat) : Int) from rfl, z, Option.bind_some, if_neg (by omega), z']; rfl⟩
  refine rounds_of (fun m hm => ?_)
  have z := z (m + 8) (by omega)
  have z' := z' (m + 8) (by omega)
  obtain ⟨v, g⟩ := sameRights_f l0_0 l1_0 l0_1 l1_1 hg hs hb
  obtain ⟨E1, E2⟩ := g (m + 8) (by omega)
  have T := toRights_f l0_0 l0_1 (m + 8) 1048576 (by omega) (by omega) hg (by omega) hs hb
  have T' := toRights_f l1_0 l1_1 (m + 8) 1048576 (by omega) (by omega) hg' (by omega) hs' hb'
  have Q := eqRights_refl l0_0 l0_1 (m + 8) 1048576 (by omega) (by omega) (by omega) (by omega) (by omega) hb
  have Q' := eqRights_refl l1_0 l1_1 (m + 8) 1048576 (by omega) (by omega) (by omega) (by omega) (by omega) hb'
  clear g
  unfold laws_FnExactRightsSame.f
  rw [show (1048576 : Int) = ((1048576 : Nat) : Int) from rfl, z, Option.bind_some, if_neg (by omega), z', Option.bind_some, if_neg (by omega)]
  simp only [T, T', E1, E2, Q, Q', Option.bind_some, bne_self_eq_false, Bool.false_eq_true, if_true, if_false]

end Go.Proofs.Ytfkoipmoikhehaa.Pure
