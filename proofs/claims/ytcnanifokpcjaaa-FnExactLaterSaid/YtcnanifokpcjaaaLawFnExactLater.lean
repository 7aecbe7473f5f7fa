/- The law FnExactLater of the given program returns true, and each argument reads behind the call as it read before. Conditions: those of the given statement alone. -/
import Derived.Test.YtcnanifokpcjaaaRows
import Derived.Test.YtcnanifokpcjaaaPureFnExactLater
import Derived.Test.YtcnanifokpcjaaaRds
import Derived.WalkKit
import Derived.ProofKit
import Derived.OpenShut
import Derived.ShutString
import Derived.ChangeOld
import Derived.Below
import Derived.SizedLaws
import Derived.Lib.SmallJoins
namespace Go.Proofs.Ytcnanifokpcjaaa.fnExactLater
open Go.ChangeShapes Go.WideShapes Go.ChangeAt Go.RowKit Go.Proofs.Ytcnanifokpcjaaa.Rds Go.Proofs.YtcnanifokpcjaaaW.PrintWords
open Go.ChangeMaps (open_string shut_string)
set_option linter.unusedVariables false
set_option linter.unusedSimpArgs false
theorem own : ownKnob Try.prog.godebug = none := by kernel_rfl
theorem laidOut : laidOutB Try.prog = true := by kernel_rfl
set_option maxRecDepth 100000 in
theorem lifted (os : Os) (started : os.Started) (H : Type) (enc : TypeId × Value → H) :
    ReturnsInHanded {} Try.checked os 6 .any (Rows.fnExactLaterSpec.pre6 enc Try.prog Try.f6 Rows.fnExactLaterRow.domain false) (Rows.fnExactLaterSpec.post enc Try.prog Try.f6 false true false false) := by
  refine returnsInHanded_of_change_sized (C := Try.checked) own started (by kernel_rfl) Try.func6
    (ChangeSpec.witness6 (enc := enc) (C := Try.checked) false ⟨#[], #[.agg #[.slice none 0 0, .slice none 0 0], .agg #[.slice none 0 0, .slice none 0 0]], []⟩ 8 (by kernel_rfl) (by kernel_rfl) (by kernel_rfl) (by kernel_rfl)) ?_
  intro W base args ds gs before hval0 hW hcnd hsz0 _
  have hval : ∀ (j : Nat) t v, Try.f6.params[j]? = some t → args[j]? = some v → Value.okWide Try.prog W .any base t v := hval0
  have hW' := hW
  obtain ⟨p, q, hA0, hV, rfl, hfz, hnd⟩ := hW
  have hA : DataW.TrodAll enc Try.prog W 0 (fun _ => true) true Try.f6.params.toList args.toList ds p := hA0
  rw [Try.params6] at hA hval
  obtain ⟨v0, vs0, d0, ds0, p0, q0, hargs, rfl, rfl, h0, r0⟩ := trodAll_cons hA
  obtain ⟨v1, vs1, d1, ds1, p1, q1, rfl, rfl, rfl, h1, r1⟩ := trodAll_cons r0
  obtain ⟨rfl, rfl, rfl⟩ := trodAll_nil r1
  obtain rfl : args = #[v0, v1] := by cases args; simp_all
  obtain ⟨rfl, rfl⟩ := trodVars_none hV
  have k0 := h0
  have lt0 : ∀ x ∈ p0, x.block < W.heap.size := by obtain ⟨m, hm⟩ := k0; exact DataW.trod_lt m _ _ _ hm
  obtain ⟨v0_0, v0_1, y0_0, y0_1, n0, rfl, _, _, g0_0, g0_1⟩ := Go.Joins.open_agg2 Try.underlying25 (by kernel_rfl) (by kernel_rfl) (hval 0 25 v0 rfl rfl) h0
  obtain ⟨l0_0, ⟨A0_0, c0_0, e0_0, hc0_0, hr0_0⟩, w0_0⟩ := (rds_slice Try.underlying22 (by kernel_rfl) (rds_slice Try.underlying23 (by kernel_rfl) (rds_int Try.underlying3))) H enc _ _ _ g0_0
  obtain rfl : v0_0 = .slice A0_0 l0_0.length c0_0 := by simpa using e0_0
  obtain ⟨l0_1, ⟨A0_1, c0_1, e0_1, hc0_1, hr0_1⟩, w0_1⟩ := (rds_slice Try.underlying23 (by kernel_rfl) (rds_int Try.underlying3)) H enc _ _ _ g0_1
  obtain rfl : v0_1 = .slice A0_1 l0_1.length c0_1 := by simpa using e0_1
  have k1 := h1
  have lt1 : ∀ x ∈ p1, x.block < W.heap.size := by obtain ⟨m, hm⟩ := k1; exact DataW.trod_lt m _ _ _ hm
  obtain ⟨v1_0, v1_1, y1_0, y1_1, n1, rfl, _, _, g1_0, g1_1⟩ := Go.Joins.open_agg2 Try.underlying25 (by kernel_rfl) (by kernel_rfl) (hval 1 25 v1 rfl rfl) h1
  obtain ⟨l1_0, ⟨A1_0, c1_0, e1_0, hc1_0, hr1_0⟩, w1_0⟩ := (rds_slice Try.underlying22 (by kernel_rfl) (rds_slice Try.underlying23 (by kernel_rfl) (rds_int Try.underlying3))) H enc _ _ _ g1_0
  obtain rfl : v1_0 = .slice A1_0 l1_0.length c1_0 := by simpa using e1_0
  obtain ⟨l1_1, ⟨A1_1, c1_1, e1_1, hc1_1, hr1_1⟩, w1_1⟩ := (rds_slice Try.underlying23 (by kernel_rfl) (rds_int Try.underlying3)) H enc _ _ _ g1_1
  obtain rfl : v1_1 = .slice A1_1 l1_1.length c1_1 := by simpa using e1_1
  clear hA0 hval0 hsz0
  obtain ⟨k, hk⟩ := Pure.FnExactLater l0_0 l0_1 l1_0 l1_1 w0_0 w0_1 w1_0 w1_1
  refine (PFnExactLater.laws_FnExactLater.calls k _ _ l0_0 _ _ l0_1 _ _ l1_0 _ _ l1_1 true W hr0_0 hc0_0 hr0_1 hc0_1 hr1_0 hc1_0 hr1_1 hc1_1 (Aside0.mk rfl) hk).mono fun e W' ⟨he, bel⟩ => ?_
  subst he
  exact ⟨_, rfl, _, _, _, [], _, [], hW', trodAll_mk1 (shut_bool Try.underlying4 _), (trodAll_cons_mk (Below.trod laidOut (by kernel_rfl) (of_decide_eq_true (by kernel_rfl)) k0 bel lt0) (trodAll_cons_mk (Below.trod laidOut (by kernel_rfl) (of_decide_eq_true (by kernel_rfl)) k1 bel lt1) trodAll_mk0)), rfl, bel.frame _, fun h => by cases h⟩
theorem over : Rows.fnExactLaterRow.holds Try.pinned (OpenSpec.ofChange Rows.fnExactLaterSpec) :=
  OpenClaim.holds_of_wide 6 Try.f6 rfl rfl rfl rfl rfl rfl rfl ⟨rfl, rfl, rfl, rfl, rfl⟩ rfl rfl rfl rfl rfl (by kernel_rfl) Try.func6 (by kernel_rfl)
    (of_decide_eq_true (by kernel_rfl)) (by unfold Func.isWrapper; first | (rw [if_pos (by decide +kernel)]; kernel_rfl) | (rw [if_neg (by decide +kernel)]; exact ⟨rfl, rfl⟩))
    (fun os started H enc _ => lifted os started H enc)
theorem proved : Rows.FnExactLaterSaid := over
#print axioms proved
end Go.Proofs.Ytcnanifokpcjaaa.fnExactLater
namespace Go.Proofs.Ytcnanifokpcjaaa
/-- The row, under a short name, for the claim. -/
theorem fnExactLater_holds : Rows.FnExactLaterSaid := fnExactLater.proved
end Go.Proofs.Ytcnanifokpcjaaa
