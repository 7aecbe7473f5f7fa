/- Parts of the heap, each with what is told of it; what is told stays, as long as nothing writes into the part. A text of words for the walks: no program in sight. -/
import Derived.Test.YtcnanifokpcjaaaWWords
import Derived.Test.YtcnanifokpcjaaaWApart
import Derived.Test.YtcnanifokpcjaaaWKept
import Derived.Test.YtcnanifokpcjaaaWShare
import Derived.Test.YtcnanifokpcjaaaWMore
set_option linter.unusedVariables false
set_option linter.unusedSimpArgs false
namespace Go.Proofs.Ytcnanifokpcjaaa.Chn
open Go.RowKit Go.Proofs.YtcnanifokpcjaaaW.PrintWords Go.Proofs.YtcnanifokpcjaaaW.PrintLast Go.Proofs.YtcnanifokpcjaaaW.PrintMore

/-- A part of the heap (from lo on, below hi), and what is told of it. -/
structure Part where
  lo : Nat
  hi : Nat
  F : World → Prop
/-- What is told depends on the part alone. -/
def Loc (p : Part) : Prop := ∀ W W' : World, W.heap.size ≤ W'.heap.size → p.hi ≤ W.heap.size → (∀ k, p.lo ≤ k → k < p.hi → W'.heap[k]? = W.heap[k]?) → p.F W → p.F W'
/-- Parts one behind the other, the youngest first. -/
structure Ch (W : World) (L : List Part) : Prop where
  all : ∀ p ∈ L, p.hi ≤ W.heap.size ∧ p.F W
  loc : ∀ p ∈ L, Loc p
  pw : L.Pairwise (fun a b => b.hi ≤ a.lo)
theorem Ch.nil (W : World) : Ch W [] := ⟨by simp, by simp, List.Pairwise.nil⟩
theorem Ch.below {W W' : World} {L : List Part} (h : Ch W L) (hb : Below W.heap.size W W') : Ch W' L :=
  ⟨fun p hp => ⟨Nat.le_trans (h.all p hp).1 hb.size, h.loc p hp W W' hb.size (h.all p hp).1 (fun k _ hk => hb.block k (Nat.lt_of_lt_of_le hk (h.all p hp).1)) (h.all p hp).2⟩, h.loc, h.pw⟩
theorem Ch.drew {W : World} {L : List Part} (h : Ch W L) : Ch W.drew L := h.below (below_drew (Below.refl _ _))
theorem Ch.drewN {W : World} {L : List Part} (h : Ch W L) (n : Nat) : Ch (W.drewN n) L := h.below (pw_below_drewN (Below.refl _ _) n)
theorem Ch.new {W W' : World} {L : List Part} (h : Ch W L) (hb : Below W.heap.size W W') (p : Part) (hlo : W.heap.size ≤ p.lo) (hhi : p.hi ≤ W'.heap.size) (hF : p.F W') (hl : Loc p) : Ch W' (p :: L) := by
  have g := h.below hb
  refine ⟨fun q hq => ?_, fun q hq => ?_, List.Pairwise.cons (fun q hq => Nat.le_trans (h.all q hq).1 hlo) h.pw⟩
  · rcases List.mem_cons.1 hq with rfl | hq
    · exact ⟨hhi, hF⟩
    · exact g.all q hq
  · rcases List.mem_cons.1 hq with rfl | hq
    · exact hl
    · exact h.loc q hq
theorem Ch.get {W : World} {L : List Part} (h : Ch W L) (i : Nat) {p : Part} (hi : L[i]? = some p) : p.F W := (h.all p (List.mem_of_getElem? hi)).2
theorem Ch.hi {W : World} {L : List Part} (h : Ch W L) (i : Nat) {p : Part} (hi : L[i]? = some p) : p.hi ≤ W.heap.size := (h.all p (List.mem_of_getElem? hi)).1
theorem Ch.tail {W : World} {p : Part} {L : List Part} (h : Ch W (p :: L)) : Ch W L :=
  ⟨fun q hq => h.all q (List.mem_cons_of_mem _ hq), fun q hq => h.loc q (List.mem_cons_of_mem _ hq), (List.pairwise_cons.1 h.pw).2⟩
/-- One part is written. -/
theorem Ch.write {W W' : World} {L : List Part} (h : Ch W L) (i : Nat) {p : Part} (hi : L[i]? = some p) (hk : Kept W W' (fun k => p.lo ≤ k ∧ k < p.hi)) (F' : World → Prop) (hF : F' W') (hl : Loc ⟨p.lo, p.hi, F'⟩) : Ch W' (L.set i ⟨p.lo, p.hi, F'⟩) := by
  obtain ⟨hil, hip⟩ := List.getElem?_eq_some_iff.1 hi
  have hpw := List.pairwise_iff_getElem.1 h.pw
  have others : ∀ j (hj : j < L.length), j ≠ i → (L[j]'hj).F W' := by
    intro j hj hne
    have hm : L[j] ∈ L := List.getElem_mem hj
    refine h.loc _ hm W W' hk.1 (h.all _ hm).1 (fun k h1 h2 => ?_) (h.all _ hm).2
    refine hk.2 k (Nat.lt_of_lt_of_le h2 (h.all _ hm).1) (fun hS => ?_)
    rcases Nat.lt_or_gt_of_ne hne with hlt | hgt
    · have := hpw j i hj hil hlt
      rw [hip] at this
      have := hS.2
      omega
    · have := hpw i j hil hj hgt
      rw [hip] at this
      have := hS.1
      omega
  have hmem : ∀ q, q ∈ L.set i ⟨p.lo, p.hi, F'⟩ → q = ⟨p.lo, p.hi, F'⟩ ∨ ∃ j, ∃ hj : j < L.length, j ≠ i ∧ q = L[j] := by
    intro q hq
    obtain ⟨j, hj, rfl⟩ := List.getElem_of_mem hq
    rw [List.length_set] at hj
    by_cases e : j = i
    · subst e
      exact .inl (by rw [List.getElem_set_self])
    · exact .inr ⟨j, hj, e, by rw [List.getElem_set_ne (fun h => e h.symm)]⟩
  refine ⟨fun q hq => ?_, fun q hq => ?_, ?_⟩
  · rcases hmem q hq with rfl | ⟨j, hj, hne, rfl⟩
    · exact ⟨Nat.le_trans (by have := (h.all p (List.mem_of_getElem? hi)).1; exact this) hk.1, hF⟩
    · exact ⟨Nat.le_trans (h.all _ (List.getElem_mem hj)).1 hk.1, others j hj hne⟩
  · rcases hmem q hq with rfl | ⟨j, hj, hne, rfl⟩
    · exact hl
    · exact h.loc _ (List.getElem_mem hj)
  · rw [List.pairwise_iff_getElem]
    intro a b ha hb hab
    rw [List.length_set] at ha hb
    have hq := hpw a b ha hb hab
    by_cases e1 : a = i
    · subst e1
      rw [List.getElem_set_self, List.getElem_set_ne (by omega)]
      rw [hip] at hq
      exact hq
    · by_cases e2 : b = i
      · subst e2
        rw [List.getElem_set_self, List.getElem_set_ne (by omega)]
        rw [hip] at hq
        exact hq
      · rw [List.getElem_set_ne (fun h => e1 h.symm), List.getElem_set_ne (fun h => e2 h.symm)]
        exact hq
theorem Ch.to {W : World} {L L' : List Part} (h : Ch W L) (e : L = L') : Ch W L' := e ▸ h
/-! ### a variable in memory -/
def bk (g : Nat) (cs : Array Value) (t : Nat) : Part := ⟨g, g + 1, fun W => W.heap[g]? = some (.cells cs t (0, 0))⟩
theorem bk_loc (g : Nat) (cs : Array Value) (t : Nat) : Loc (bk g cs t) := fun W W' _ _ hm h => (hm g (Nat.le_refl _) (Nat.lt_succ_self _)).trans h
theorem Ch.box {W w1 : World} {L : List Part} (h : Ch W L) {g : Nat} {cs : Array Value} {t : Nat} (hg : g = W.heap.size) (hbox : w1.heap[g]? = some (.cells cs t (0, 0))) (hb : Below W.heap.size W w1) : Ch w1 (bk g cs t :: L) :=
  h.new hb (bk g cs t) (by subst hg; exact Nat.le_refl _) (blk_lt hbox) hbox (bk_loc g cs t)
/-- A cell of a variable is written. -/
theorem Ch.set1 {W : World} {L : List Part} (h : Ch W L) (i : Nat) {g : Nat} {cs : Array Value} {t : Nat} (hi : L[i]? = some (bk g cs t)) (j : Nat) (u : Value) (cs' : Array Value) (e : cs.setIfInBounds j u = cs') : Ch (W.setCell ⟨g, j, none⟩ u) (L.set i (bk g cs' t)) :=
  h.write i hi ((Kept.refl W _).setCell (.inl ⟨Nat.le_refl _, Nat.lt_succ_self _⟩) u) _ (blk_put (h.get i hi) j u e) (bk_loc g cs' t)
theorem Ch.lt {W : World} {L : List Part} (h : Ch W L) (i : Nat) {g : Nat} {cs : Array Value} {t : Nat} (hi : L[i]? = some (bk g cs t)) : g < W.heap.size := blk_lt (h.get i hi)
/-! ### rows of one's own, a row and the rows that it leads to -/
def row {α : Type} (b : Nat) (d : Kd α) (e : Nat) (lo hi : Nat) (v : Value) (xs : List α) : Part := ⟨lo, hi, fun W => d.R e W b (fun k => lo ≤ k ∧ k < hi) v xs⟩
theorem row_loc {α : Type} (b : Nat) (d : Kd α) (e lo hi : Nat) (v : Value) (xs : List α) : Loc (row b d e lo hi v xs) := fun W W' _ _ hm h => Kd.R_move h (fun k hk => hm k hk.1 hk.2)
def rows {α : Type} (b : Nat) (d : Kd α) (e : Nat) (lo hi : Nat) (v : Value) (xs : List α) : Part := ⟨lo, hi, fun W => Kd.S d e W b (fun k => lo ≤ k ∧ k < hi) v xs⟩
theorem rows_loc {α : Type} (b : Nat) (d : Kd α) (e lo hi : Nat) (v : Value) (xs : List α) : Loc (rows b d e lo hi v xs) := fun W W' _ _ hm h => Kd.S_move h (fun k hk => hm k hk.1 hk.2)
/-- A struct of a row of rows and a row (its two slices). -/
def rt {α β : Type} (b : Nat) (d : Kd α) (e : Nat) (d' : Kd β) (e' : Nat) (lo hi : Nat) (v0 v1 : Value) (xs : List α) (ys : List β) : Part :=
  ⟨lo, hi, fun W => Kd.S d e W b (fun k => (lo ≤ k ∧ k < hi) ∧ some k ≠ v1.ownBlock) v0 xs ∧ d'.R e' W b (fun k => lo ≤ k ∧ k < hi) v1 ys⟩
theorem rt_loc {α β : Type} (b : Nat) (d : Kd α) (e : Nat) (d' : Kd β) (e' : Nat) (lo hi : Nat) (v0 v1 : Value) (xs : List α) (ys : List β) : Loc (rt b d e d' e' lo hi v0 v1 xs ys) :=
  fun W W' _ _ hm h => ⟨Kd.S_move h.1 (fun k hk => hm k hk.1.1 hk.1.2), Kd.R_move h.2 (fun k hk => hm k hk.1 hk.2)⟩
/-- The same, to be read alone: what the first leads to may be shared. -/
def vt {α β : Type} (b : Nat) (d : Kd α) (e : Nat) (d' : Kd β) (e' : Nat) (lo hi : Nat) (v0 v1 : Value) (xs : List α) (ys : List β) : Part :=
  ⟨lo, hi, fun W => Kd.V d e W b (fun k => lo ≤ k ∧ k < hi) v0 xs ∧ d'.R e' W b (fun k => lo ≤ k ∧ k < hi) v1 ys⟩
theorem vt_loc {α β : Type} (b : Nat) (d : Kd α) (e : Nat) (d' : Kd β) (e' : Nat) (lo hi : Nat) (v0 v1 : Value) (xs : List α) (ys : List β) : Loc (vt b d e d' e' lo hi v0 v1 xs ys) :=
  fun W W' _ _ hm h => ⟨Kd.V_step h.1 (fun k hk _ => hm k hk.1 hk.2), Kd.R_move h.2 (fun k hk => hm k hk.1 hk.2)⟩
theorem V_upto {α : Type} {d : Kd α} {e base base' : Nat} {W : World} {ok : Nat → Prop} {v : Value} {xs : List α} (h : Kd.V d e W base ok v xs) : Kd.V d e W base' (fun k => ok k ∧ k < W.heap.size) v xs := by
  obtain ⟨A, c, hv, hl, hf⟩ := h
  exact ⟨A, c, hv, hl, fun W' hm => hf W' (fun k hk hlt => hm k ⟨hk, hlt⟩ hlt)⟩
section
variable {α β : Type} {d : Kd α} {d' : Kd β} {e e' : Nat} {W w1 : World} {L : List Part} {v v0 v1 : Value} {xs : List α} {ys : List β} {ok ok' : Nat → Prop}
/-- What a call has made. -/
theorem Ch.madeR {b : Nat} (h : Ch W L) (hbW : b ≤ W.heap.size) (hr : d.R e w1 W.heap.size ok v xs) (hb : Below W.heap.size W w1) : Ch w1 (row b d e W.heap.size w1.heap.size v xs :: L) :=
  h.new hb (row b d e W.heap.size w1.heap.size v xs) (Nat.le_refl _) (Nat.le_refl _) (Kd.R_lower (Kd.R_mono (Kd.R_bound hr) (fun k hk => ⟨hk.2.1, hk.2.2.1⟩)) hbW) (row_loc _ _ _ _ _ _ _)
theorem Ch.madeS {b : Nat} (h : Ch W L) (hbW : b ≤ W.heap.size) (hr : Kd.S d e w1 W.heap.size ok v xs) (hb : Below W.heap.size W w1) : Ch w1 (rows b d e W.heap.size w1.heap.size v xs :: L) :=
  h.new hb (rows b d e W.heap.size w1.heap.size v xs) (Nat.le_refl _) (Nat.le_refl _) (Kd.S_lower (Kd.S_mono (Kd.S_bound hr) (fun k hk => ⟨hk.2.1, hk.2.2.1⟩)) hbW) (rows_loc _ _ _ _ _ _ _)
theorem Ch.madeT {b : Nat} (h : Ch W L) (hbW : b ≤ W.heap.size) (h0 : Kd.S d e w1 W.heap.size ok v0 xs) (hne : ∀ k, ok k → some k ≠ v1.ownBlock) (h1 : d'.R e' w1 W.heap.size ok' v1 ys) (hb : Below W.heap.size W w1) : Ch w1 (rt b d e d' e' W.heap.size w1.heap.size v0 v1 xs ys :: L) :=
  h.new hb (rt b d e d' e' W.heap.size w1.heap.size v0 v1 xs ys) (Nat.le_refl _) (Nat.le_refl _) ⟨Kd.S_lower (Kd.S_mono (Kd.S_bound h0) (fun k hk => ⟨⟨hk.2.1, hk.2.2.1⟩, hne k hk.1⟩)) hbW, Kd.R_lower (Kd.R_mono (Kd.R_bound h1) (fun k hk => ⟨hk.2.1, hk.2.2.1⟩)) hbW⟩ (rt_loc _ _ _ _ _ _ _ _ _ _ _)
theorem Ch.madeV {b : Nat} (h : Ch W L) (hbW : b ≤ W.heap.size) (h0 : Kd.V d e w1 W.heap.size ok v0 xs) (hge : ∀ k, ok k → W.heap.size ≤ k) (h1 : d'.R e' w1 W.heap.size ok' v1 ys) (hb : Below W.heap.size W w1) : Ch w1 (vt b d e d' e' W.heap.size w1.heap.size v0 v1 xs ys :: L) :=
  h.new hb (vt b d e d' e' W.heap.size w1.heap.size v0 v1 xs ys) (Nat.le_refl _) (Nat.le_refl _) ⟨Kd.V_mono (V_upto h0) (fun k hk => ⟨hge k hk.1, hk.2⟩), Kd.R_lower (Kd.R_mono (Kd.R_bound h1) (fun k hk => ⟨hk.2.1, hk.2.2.1⟩)) hbW⟩ (vt_loc _ _ _ _ _ _ _ _ _ _ _)
end
/-! ### what is read of a part -/
section
variable {α β : Type} {b : Nat} {d : Kd α} {d' : Kd β} {e e' lo hi n n1 c c1 : Nat} {A A1 : Option Addr} {W : World} {L : List Part} {v v0 v1 : Value} {xs : List α} {ys : List β}
theorem Ch.row_C (h : Ch W L) (i : Nat) (hi : L[i]? = some (row b d e lo hi (.slice A n c) xs)) : d.C W A xs.length xs := (Kd.R_reads' (h.get i hi)).2.2
theorem Ch.row_l (h : Ch W L) (i : Nat) (hi : L[i]? = some (row b d e lo hi (.slice A xs.length c) xs)) : xs.length ≤ c := (Kd.R_reads' (h.get i hi)).2.1
theorem Ch.rows_C (h : Ch W L) (i : Nat) (hi : L[i]? = some (rows b d e lo hi (.slice A n c) xs)) : d.C W A xs.length xs := (Kd.S_reads' (h.get i hi)).2.2
theorem Ch.rows_l (h : Ch W L) (i : Nat) (hi : L[i]? = some (rows b d e lo hi (.slice A xs.length c) xs)) : xs.length ≤ c := (Kd.S_reads' (h.get i hi)).2.1
theorem Ch.rt_C0 (h : Ch W L) (i : Nat) (hi : L[i]? = some (rt b d e d' e' lo hi (.slice A n c) v1 xs ys)) : d.C W A xs.length xs := (Kd.S_reads' (h.get i hi).1).2.2
theorem Ch.rt_l0 (h : Ch W L) (i : Nat) (hi : L[i]? = some (rt b d e d' e' lo hi (.slice A n c) v1 xs ys)) : xs.length ≤ c := by have g := Kd.S_reads' (h.get i hi).1; rw [← g.1]; exact g.2.1
theorem Ch.rt_C1 (h : Ch W L) (i : Nat) (hi : L[i]? = some (rt b d e d' e' lo hi v0 (.slice A1 n1 c1) xs ys)) : d'.C W A1 ys.length ys := (Kd.R_reads' (h.get i hi).2).2.2
theorem Ch.rt_l1 (h : Ch W L) (i : Nat) (hi : L[i]? = some (rt b d e d' e' lo hi v0 (.slice A1 n1 c1) xs ys)) : ys.length ≤ c1 := by have g := Kd.R_reads' (h.get i hi).2; rw [← g.1]; exact g.2.1
theorem Ch.vt_C0 (h : Ch W L) (i : Nat) (hi : L[i]? = some (vt b d e d' e' lo hi (.slice A n c) v1 xs ys)) : d.C W A xs.length xs := (Kd.V_reads' (h.get i hi).1).2.2
theorem Ch.vt_l0 (h : Ch W L) (i : Nat) (hi : L[i]? = some (vt b d e d' e' lo hi (.slice A n c) v1 xs ys)) : xs.length ≤ c := by have g := Kd.V_reads' (h.get i hi).1; rw [← g.1]; exact g.2.1
theorem Ch.vt_C1 (h : Ch W L) (i : Nat) (hi : L[i]? = some (vt b d e d' e' lo hi v0 (.slice A1 n1 c1) xs ys)) : d'.C W A1 ys.length ys := (Kd.R_reads' (h.get i hi).2).2.2
theorem Ch.vt_l1 (h : Ch W L) (i : Nat) (hi : L[i]? = some (vt b d e d' e' lo hi v0 (.slice A1 n1 c1) xs ys)) : ys.length ≤ c1 := by have g := Kd.R_reads' (h.get i hi).2; rw [← g.1]; exact g.2.1
end
theorem Ch.blk {W : World} {L : List Part} (h : Ch W L) (i : Nat) {g : Nat} {cs : Array Value} {t : Nat} (hi : L[i]? = some (bk g cs t)) : W.heap[g]? = some (.cells cs t (0, 0)) := h.get i hi
/-! ### an element of a row that an element leads to -/
theorem Ch.rt_elem {W : World} {L : List Part} (h : Ch W L) (idx : Nat) {b e0 e1 e' lo hi n c : Nat} {ik ik2 : IntKind} {A : Option Addr} {v1 : Value} {xs : List (List Int)} {ys : List Int}
    (hp : L[idx]? = some (rt b (Kd.slice e0 (Kd.int ik)) e1 (Kd.int ik2) e' lo hi (.slice A n c) v1 xs ys)) (i j : Int) (h0 : 0 ≤ i) (h1 : i < xs.length) (h2 : 0 ≤ j) (h3 : j < (xs.getD i.toNat []).length) :
    ∃ (g0 g1 c1 : Nat), A = some ⟨g0, 0, none⟩ ∧ W.cell? ⟨g0, i.toNat, none⟩ = some (.slice (some ⟨g1, 0, none⟩) (xs.getD i.toNat []).length c1) ∧ b ≤ g1 ∧
      W.cell? ⟨g1, j.toNat, none⟩ = some (.int ik (rd (xs.getD i.toNat []) j)) ∧ W.frozen? ⟨g1, j.toNat, none⟩ = false ∧
      ∀ x, Ch (W.setCell ⟨g1, j.toNat, none⟩ (.int ik x)) (L.set idx (rt b (Kd.slice e0 (Kd.int ik)) e1 (Kd.int ik2) e' lo hi (.slice A n c) v1 (xs.set i.toNat ((xs.getD i.toNat []).set j.toNat x)) ys)) := by
  have hF := h.get idx hp
  obtain ⟨hS, hR⟩ : Kd.S (Kd.slice e0 (Kd.int ik)) e1 W b (fun k => (lo ≤ k ∧ k < hi) ∧ some k ≠ v1.ownBlock) (.slice A n c) xs ∧ (Kd.int ik2).R e' W b (fun k => lo ≤ k ∧ k < hi) v1 ys := hF
  have hn := (Kd.S_reads' hS).1
  obtain ⟨g0, cap, e, _, _, _⟩ := Kd.S_form hS (by omega)
  have eA : A = some ⟨g0, 0, none⟩ := by injection e
  subst eA
  obtain ⟨oki, cs, hcl, hM, hcell, hoki, HH⟩ := Kd.S_lend hS [] i h0 (by omega)
  obtain ⟨v, rfl, hV⟩ := hM
  have hx := hcell 0 v rfl
  rw [Nat.add_zero, show (Kd.slice e0 (Kd.int ik)).sz = 1 from rfl, Nat.mul_one] at hx
  obtain ⟨g1, c1, rfl, hb1, _, _⟩ := Kd.R_form hV (by omega)
  have hcellj := Kd.R_celln 0 hV j h2 (by omega)
  refine ⟨g0, g1, c1, rfl, hx, hb1, hcellj.1, hcellj.2, fun x => ?_⟩
  have hput := Kd.R_putg hV j x
  have hown : some g1 = (Value.slice (some ⟨g1, 0, none⟩) (xs.getD i.toNat []).length c1).ownBlock := by simp [Value.ownBlock]
  have hok1 : oki g1 := hV.1 g1 hown.symm
  have hS2 := Kd.H_back (Kd.H_grown HH hput.2 (fun k hk => by injection hk with hk; subst hk; exact hok1)) (x' := (xs.getD i.toNat []).set j.toNat x) (okp := oki) ⟨_, rfl, by have g := hput.1; rw [show (xs.getD i.toNat []).length = ((xs.getD i.toNat []).set j.toNat x).length from by rw [List.length_set]] at g ⊢; exact g⟩ (fun _ h => h)
  have hk1 := hoki g1 hok1
  refine h.write idx hp ((Kept.refl W _).setCell (.inl hk1.1.1) _) _ ?_ (rt_loc b (Kd.slice e0 (Kd.int ik)) e1 (Kd.int ik2) e' lo hi (.slice (some ⟨g0, 0, none⟩) n c) v1 (xs.set i.toNat ((xs.getD i.toNat []).set j.toNat x)) ys)
  exact ⟨hS2, Kd.R_reok rfl (Kd.R_grown (Kd.R_tight rfl hR) hput.2 (fun k hk he => hk1.1.2 (by rw [← he]; exact hk))) (fun k hk => hR.1 k hk)⟩
theorem Ch.rt_spent {W : World} {L : List Part} (h : Ch W L) (idx : Nat) {b e e' lo hi n c : Nat} {α : Type} {d : Kd α} {ik2 : IntKind} {A : Option Addr} {v0 : Value} {xs : List α} {ys : List Int}
    (hp : L[idx]? = some (rt b d e (Kd.int ik2) e' lo hi v0 (.slice A n c) xs ys)) (j : Int) (h2 : 0 ≤ j) (h3 : j < ys.length) :
    ∃ (g1 : Nat), A = some ⟨g1, 0, none⟩ ∧ b ≤ g1 ∧ W.cell? ⟨g1, j.toNat, none⟩ = some (.int ik2 (rd ys j)) ∧ W.frozen? ⟨g1, j.toNat, none⟩ = false ∧
      ∀ x, Ch (W.setCell ⟨g1, j.toNat, none⟩ (.int ik2 x)) (L.set idx (rt b d e (Kd.int ik2) e' lo hi v0 (.slice A n c) xs (ys.set j.toNat x))) := by
  have hF := h.get idx hp
  obtain ⟨hS, hR⟩ : Kd.S d e W b (fun k => (lo ≤ k ∧ k < hi) ∧ some k ≠ (Value.slice A n c).ownBlock) v0 xs ∧ (Kd.int ik2).R e' W b (fun k => lo ≤ k ∧ k < hi) (.slice A n c) ys := hF
  have hn := (Kd.R_reads' hR).1
  obtain ⟨g1, cap, e_, hb1, _, _⟩ := Kd.R_form hR (by omega)
  have eA : A = some ⟨g1, 0, none⟩ := by injection e_
  subst eA
  have hcellj := Kd.R_celln 0 hR j h2 (by omega)
  refine ⟨g1, rfl, hb1, hcellj.1, hcellj.2, fun x => ?_⟩
  have hput := Kd.R_putg hR j x
  have hown : some g1 = (Value.slice (some ⟨g1, 0, none⟩) n c).ownBlock := by simp [Value.ownBlock]
  have hok1 := hR.1 g1 hown.symm
  refine h.write idx hp ((Kept.refl W _).setCell (.inl hok1) _) _ ?_ (rt_loc b d e (Kd.int ik2) e' lo hi v0 (.slice (some ⟨g1, 0, none⟩) n c) xs (ys.set j.toNat x))
  exact ⟨Kd.S_grown hS hput.2 (fun k hk he => hk.2 (he.trans hown)), hput.1⟩
theorem V_slice {α : Type} {d : Kd α} {e base : Nat} {W : World} {ok : Nat → Prop} {v : Value} {xs : List α} (h : Kd.V d e W base ok v xs) : ∃ A c, v = .slice A xs.length c := by
  obtain ⟨A, c, hv, _⟩ := h
  exact ⟨A, c, hv⟩
end Go.Proofs.Ytcnanifokpcjaaa.Chn
