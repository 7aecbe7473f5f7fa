/- The law FnExactOutSame of the given program returns true, and each argument reads behind the call as it read before. Conditions: those of the given statement alone. -/
import Derived.Test.YtgkjbechcbbgjaaRows
import Derived.Test.YtgkjbechcbbgjaaPureFnExactOutSame
import Derived.Test.YtgkjbechcbbgjaaRds
import Derived.WalkKit
import Derived.ProofKit
import Derived.OpenShut
import Derived.ShutString
import Derived.ChangeOld
import Derived.Below
import Derived.SizedLaws
import Derived.Lib.SmallJoins
namespace Go.Proofs.Ytgkjbechcbbgjaa.fnExactOutSame
open Go.ChangeShapes Go.WideShapes Go.ChangeAt Go.RowKit Go.Proofs.Ytgkjbechcbbgjaa.Rds Go.Proofs.YtgkjbechcbbgjaaW.PrintWords
open Go.ChangeMaps (open_string shut_string)
set_option linter.unusedVariables false
set_option linter.unusedSimpArgs false
instance : Inhabited PFnExactOutSame.S51 := ⟨PFnExactOutSame.z51⟩
theorem own : ownKnob Try.prog.godebug = none := by kernel_rfl
theorem laidOut : laidOutB Try.prog = true := by kernel_rfl
set_option maxRecDepth 100000 in
theorem lifted (os : Os) (started : os.Started) (H : Type) (enc : TypeId × Value → H) :
    ReturnsInHanded {} Try.checked os 14 .any (Rows.fnExactOutSameSpec.pre6 enc Try.prog Try.f14 Rows.fnExactOutSameRow.domain false) (Rows.fnExactOutSameSpec.post enc Try.prog Try.f14 false true false false) := by
  refine returnsInHanded_of_change_sized (C := Try.checked) own started (by kernel_rfl) Try.func14
    (ChangeSpec.witness6 (enc := enc) (C := Try.checked) false ⟨#[], #[.agg #[.int .i64 0, .slice none 0 0], .agg #[.int .i64 0, .slice none 0 0]], []⟩ 8 (by kernel_rfl) (by kernel_rfl) (by kernel_rfl) (by kernel_rfl)) ?_
  intro W base args ds gs before hval0 hW hcnd hsz0 _
  have hval : ∀ (j : Nat) t v, Try.f14.params[j]? = some t → args[j]? = some v → Value.okWide Try.prog W .any base t v := hval0
  have hW' := hW
  obtain ⟨p, q, hA0, hV, rfl, hfz, hnd⟩ := hW
  have hA : DataW.TrodAll enc Try.prog W 0 (fun _ => true) true Try.f14.params.toList args.toList ds p := hA0
  rw [Try.params14] at hA hval
  obtain ⟨v0, vs0, d0, ds0, p0, q0, hargs, rfl, rfl, h0, r0⟩ := trodAll_cons hA
  obtain ⟨v1, vs1, d1, ds1, p1, q1, rfl, rfl, rfl, h1, r1⟩ := trodAll_cons r0
  obtain ⟨rfl, rfl, rfl⟩ := trodAll_nil r1
  obtain rfl : args = #[v0, v1] := by cases args; simp_all
  obtain ⟨rfl, rfl⟩ := trodVars_none hV
  have k0 := h0
  have lt0 : ∀ x ∈ p0, x.block < W.heap.size := by obtain ⟨m, hm⟩ := k0; exact DataW.trod_lt m _ _ _ hm
  obtain ⟨v0_0, v0_1, y0_0, y0_1, n0, rfl, _, _, g0_0, g0_1⟩ := Go.Joins.open_agg2 Try.underlying68 (by kernel_rfl) (by kernel_rfl) (hval 0 68 v0 rfl rfl) h0
  obtain ⟨a0_0, e0_0, w0_0⟩ := (rds_int Try.underlying3) H enc _ _ _ g0_0
  obtain rfl := k_int e0_0
  obtain ⟨l0_1, ⟨A0_1, c0_1, e0_1, hc0_1, hr0_1⟩, w0_1⟩ := (rds_slice Try.underlying66 (by kernel_rfl) (rds_struct4 Try.underlying51 (by kernel_rfl) rfl rfl rfl rfl (by kernel_rfl) (by kernel_rfl) (by kernel_rfl) (by kernel_rfl) (rds_int Try.underlying3) (rds_int Try.underlying3) (rds_int Try.underlying3) (rds_int Try.underlying3) (fun x : PFnExactOutSame.S51 => (x.f0, x.f1, x.f2, x.f3)) (fun a b c d => ⟨a, b, c, d⟩) (fun _ _ _ _ => rfl))) H enc _ _ _ g0_1
  obtain rfl : v0_1 = .slice A0_1 l0_1.length c0_1 := by simpa using e0_1
  have k1 := h1
  have lt1 : ∀ x ∈ p1, x.block < W.heap.size := by obtain ⟨m, hm⟩ := k1; exact DataW.trod_lt m _ _ _ hm
  obtain ⟨v1_0, v1_1, y1_0, y1_1, n1, rfl, _, _, g1_0, g1_1⟩ := Go.Joins.open_agg2 Try.underlying68 (by kernel_rfl) (by kernel_rfl) (hval 1 68 v1 rfl rfl) h1
  obtain ⟨a1_0, e1_0, w1_0⟩ := (rds_int Try.underlying3) H enc _ _ _ g1_0
  obtain rfl := k_int e1_0
  obtain ⟨l1_1, ⟨A1_1, c1_1, e1_1, hc1_1, hr1_1⟩, w1_1⟩ := (rds_slice Try.underlying66 (by kernel_rfl) (rds_struct4 Try.underlying51 (by kernel_rfl) rfl rfl rfl rfl (by kernel_rfl) (by kernel_rfl) (by kernel_rfl) (by kernel_rfl) (rds_int Try.underlying3) (rds_int Try.underlying3) (rds_int Try.underlying3) (rds_int Try.underlying3) (fun x : PFnExactOutSame.S51 => (x.f0, x.f1, x.f2, x.f3)) (fun a b c d => ⟨a, b, c, d⟩) (fun _ _ _ _ => rfl))) H enc _ _ _ g1_1
  obtain rfl : v1_1 = .slice A1_1 l1_1.length c1_1 := by simpa using e1_1
  clear hA0 hval0 hsz0
  obtain ⟨k, hk⟩ := Pure.FnExactOutSame a0_0 l0_1 a1_0 l1_1 w0_0 w0_1 w1_0 w1_1
  refine (PFnExactOutSame.laws_FnExactOutSame.calls k a0_0 _ _ l0_1 a1_0 _ _ l1_1 true W hr0_1 hc0_1 hr1_1 hc1_1 (Aside0.mk rfl) hk).mono fun e W' ⟨he, bel⟩ => ?_
  subst he
  exact ⟨_, rfl, _, _, _, [], _, [], hW', trodAll_mk1 (shut_bool Try.underlying4 _), (trodAll_cons_mk (Below.trod laidOut (by kernel_rfl) (of_decide_eq_true (by kernel_rfl)) k0 bel lt0) (trodAll_cons_mk (Below.trod laidOut (by kernel_rfl) (of_decide_eq_true (by kernel_rfl)) k1 bel lt1) trodAll_mk0)), rfl, bel.frame _, fun h => by cases h⟩
theorem over : Rows.fnExactOutSameRow.holds Try.pinned (OpenSpec.ofChange Rows.fnExactOutSameSpec) :=
  OpenClaim.holds_of_wide 14 Try.f14 rfl rfl rfl rfl rfl rfl rfl ⟨rfl, rfl, rfl, rfl, rfl⟩ rfl rfl rfl rfl rfl (by kernel_rfl) Try.func14 (by kernel_rfl)
    (of_decide_eq_true (by kernel_rfl)) (by unfold Func.isWrapper; first | (rw [if_pos (by decide +kernel)]; kernel_rfl) | (rw [if_neg (by decide +kernel)]; exact ⟨rfl, rfl⟩))
    (fun os started H enc _ => lifted os started H enc)
theorem proved : Rows.FnExactOutSameSaid := over
#print axioms proved
end Go.Proofs.Ytgkjbechcbbgjaa.fnExactOutSame
namespace Go.Proofs.Ytgkjbechcbbgjaa
/-- The row, under a short name, for the claim. -/
theorem fnExactOutSame_holds : Rows.FnExactOutSameSaid := fnExactOutSame.proved
end Go.Proofs.Ytgkjbechcbbgjaa
