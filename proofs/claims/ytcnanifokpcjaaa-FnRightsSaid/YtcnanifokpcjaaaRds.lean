/- What reads as data (an argument of a row) reads as a value of a printed kind: whole numbers, strings, slices, structs of four fields. No conditions. -/
import Derived.Test.YtcnanifokpcjaaaWWords
import Derived.Test.YtcnanifokpcjaaaWMore
import Derived.Test.YtcnanifokpcjaaaWLast
import Derived.Lib.SmallJoins
import Derived.Deep.Slices
set_option linter.unusedVariables false
namespace Go.Proofs.Ytcnanifokpcjaaa.Rds
open Go Go.RowKit Go.ChangeShapes Go.WideShapes Go.Deep Go.Joins Go.Proofs.YtcnanifokpcjaaaW.PrintWords

/-- What reads as data at type t reads as a value of kind d with the property ok. -/
def Rds (P : Program) (W : World) (t : TypeId) {α : Type} (d : Kd α) (ok : α → Prop) : Prop :=
  ∀ (H : Type) (enc : TypeId × Value → H) (fuel : Nat) (cs : List Value) (x : DataW H × List MemPlace),
    DataW.trod enc P W 0 (fun _ => true) true fuel t cs = some x → ∃ y, d.K W y cs ∧ ok y

theorem rds_int {P : Program} {W : World} {t : TypeId} {k : IntKind} (hu : P.underlying t = some (.int k)) : Rds P W t (Kd.int k) (fun n => (Lit.int k n).wf = true) := by
  intro H enc fuel cs x h
  obtain ⟨n, rfl, _, hw⟩ := DataW.trod_int hu h
  exact ⟨n, rfl, hw⟩

theorem k_int {W : World} {k : IntKind} {a : Int} {v : Value} (h : (Kd.int k).K W a [v]) : v = .int k a := by
  have h' : [v] = [Value.int k a] := h
  simpa using h'

theorem rds_string {P : Program} {W : World} {t : TypeId} (hu : P.underlying t = some .string) : Rds P W t Kd.string (fun s => s.size ≤ maxLen) := by
  intro H enc fuel cs x h
  obtain ⟨s, rfl, _, hw⟩ := DataW.trod_string hu h
  exact ⟨s, rfl, hw⟩

theorem rds_slice {P : Program} {W : World} {t e : TypeId} {α : Type} [Inhabited α] {d : Kd α} {ok : α → Prop} (hu : P.underlying t = some (.slice e)) (hc : P.cellsOf e = d.sz) (h : Rds P W e d ok) :
    Rds P W t (Kd.slice e d) (fun xs => xs.length ≤ maxLen ∧ ∀ x ∈ xs, ok x) := by
  intro H enc fuel cs x hx
  rcases open_slice hu hx with ⟨rfl, _⟩ | ⟨a, len, cap, m, n, D, Pl, rfl, _, hl, hm, hmm, _, hel⟩
  · exact ⟨[], ⟨none, 0, rfl, Nat.zero_le _, Kd.C_nil d W⟩, Nat.zero_le _, fun x hx => by cases hx⟩
  · have hmm' : m = cap := by simpa using hmm
    subst hmm'
    obtain ⟨Y, hY⟩ := choose_lt (α := α) (n := len) (p := fun i y => ∃ cs', W.cells? 0 (a.add (i * P.cellsOf e)) (P.cellsOf e) = some cs' ∧ d.K W y cs' ∧ ok y) (fun i hi => by
      obtain ⟨cs', h1, h2⟩ := hel i (by omega)
      obtain ⟨y, hk, ho⟩ := h H enc n cs' _ h2
      exact ⟨y, cs', h1, hk, ho⟩)
    refine ⟨(List.range len).map Y, ⟨some a, m, by simp, by simpa using hl, ?_⟩, by simp; omega, ?_⟩
    · refine ⟨by simp, ?_, fun hn => ⟨a, rfl, fun j p hj => ?_⟩⟩
      · unfold maxLen at hm; simp; omega
      · have hj' : j < len := by
          rcases Nat.lt_or_ge j len with h' | h'
          · exact h'
          · rw [List.getElem?_eq_none (by simpa using h')] at hj; cases hj
        have hp : p = Y j := by
          rw [List.getElem?_map, List.getElem?_range hj'] at hj
          simpa using hj.symm
        obtain ⟨cs', h1, hk, ho⟩ := hY j hj'
        subst hp
        refine ⟨cs', d.K_len hk, hk, fun i u hu' => ?_⟩
        rw [hc] at h1
        obtain ⟨_, hlen, hcell⟩ := World.cells?_some h1
        have hi : i < d.sz := by
          rcases Nat.lt_or_ge i cs'.length with h' | h'
          · have := d.K_len hk; omega
          · rw [List.getElem?_eq_none h'] at hu'; cases hu'
        have := hcell i hi
        rw [Deep.add_add] at this
        exact this.trans hu'
    · intro x hx
      obtain ⟨i, hi, rfl⟩ := List.mem_map.1 hx
      obtain ⟨_, _, _, ho⟩ := hY i (List.mem_range.1 hi)
      exact ho

theorem rds_struct4 {P : Program} {W : World} {t : TypeId} {f0 f1 f2 f3 : Field} {α β γ δ σ : Type} {d0 : Kd α} {d1 : Kd β} {d2 : Kd γ} {d3 : Kd δ} {ok0 : α → Prop} {ok1 : β → Prop} {ok2 : γ → Prop} {ok3 : δ → Prop}
    (hs : P.underlying t = some (.struct #[f0, f1, f2, f3])) (hC : P.cellsOf t = 4) (o0 : f0.offset = 0) (o1 : f1.offset = 1) (o2 : f2.offset = 2) (o3 : f3.offset = 3)
    (s0 : P.cellsOf f0.type = 1) (s1 : P.cellsOf f1.type = 1) (s2 : P.cellsOf f2.type = 1) (s3 : P.cellsOf f3.type = 1)
    (h0 : Rds P W f0.type d0 ok0) (h1 : Rds P W f1.type d1 ok1) (h2 : Rds P W f2.type d2 ok2) (h3 : Rds P W f3.type d3 ok3)
    (f : σ → α × β × γ × δ) (mk : α → β → γ → δ → σ) (hf : ∀ a b c d, f (mk a b c d) = (a, b, c, d)) :
    Rds P W t (Kd.iso (Kd.pair d0 (Kd.pair d1 (Kd.pair d2 d3))) f) (fun s => ok0 (f s).1 ∧ ok1 (f s).2.1 ∧ ok2 (f s).2.2.1 ∧ ok3 (f s).2.2.2) := by
  intro H enc fuel cs x hx
  obtain ⟨y0, y1, y2, y3, n, _, hl, g0, g1, g2, g3⟩ := trod_struct4 hs hx
  rw [hC] at hl
  match cs, hl with
  | [c0, c1, c2, c3], _ =>
    rw [o0, s0] at g0; rw [o1, s1] at g1; rw [o2, s2] at g2; rw [o3, s3] at g3
    obtain ⟨a, ka, oa⟩ := h0 H enc n _ _ g0
    obtain ⟨b, kb, ob⟩ := h1 H enc n _ _ g1
    obtain ⟨c, kc, oc⟩ := h2 H enc n _ _ g2
    obtain ⟨d, kd, od⟩ := h3 H enc n _ _ g3
    refine ⟨mk a b c d, ?_, by simp only [hf]; exact ⟨oa, ob, oc, od⟩⟩
    show (Kd.pair d0 (Kd.pair d1 (Kd.pair d2 d3))).K W (f (mk a b c d)) [c0, c1, c2, c3]
    rw [hf]
    exact ⟨[c0], [c1, c2, c3], rfl, ka, [c1], [c2, c3], rfl, kb, [c2], [c3], rfl, kc, kd⟩
end Go.Proofs.Ytcnanifokpcjaaa.Rds
