import Derived.Test.YtcnanifokpcjaaaPFnRightsx0
import Derived.Test.YtcnanifokpcjaaaPFnRightsx5
import Derived.Test.YtcnanifokpcjaaaPFnRightsx11
namespace Go.Proofs.Ytcnanifokpcjaaa.PFnRights
open Go.RowKit Go.Proofs.YtcnanifokpcjaaaW.PrintWords Go.Proofs.YtcnanifokpcjaaaW.PrintLast Go.Proofs.YtcnanifokpcjaaaW.PrintMore
attribute [local go_sem] max2_int min2_int max_two min_two max_three min_three max_four min_four   -- for this text's walks alone
set_option linter.unusedVariables false
set_option linter.unusedSimpArgs false

/-! ### spec_MakeRights: function 35 -/
def spec_MakeRights.f (k : Nat) (l0 : List Int) (a1 : Int) (a2 : Int) : Option ((List (List Int)) × List Int) := (spec_l01New.f k l0).bind fun bt364 => ((spec_l06Draw.f k bt364.1 bt364.2.1 (wrap64 (bt364.2.2 + (wrap64 (100 * a2)))) a1).bind fun bt368 => (some (bt368.1, bt368.2.1)))
theorem spec_MakeRights.mono : ∀ a0 a1 a2 k, LeO (spec_MakeRights.f k a0 a1 a2) (spec_MakeRights.f (k + 1) a0 a1 a2) := by
 intro a0 a1 a2 k
 unfold spec_MakeRights.f
 repeat' first
   | (with_reducible exact spec_l01New.mono _ _)
   | (with_reducible exact spec_l06Draw.mono _ _ _ _ _)
   | (with_reducible exact LeO.refl _)
   | (with_reducible exact LeO.none _)
   | (with_reducible refine LeO.ite ?_ ?_)
   | (with_reducible refine LeO.bind ?_ (fun _ => ?_))
   | exact spec_l01New.mono _ _
   | exact spec_l06Draw.mono _ _ _ _ _
   | exact LeO.none _
   | refine LeO.ite ?_ ?_
   | refine LeO.bind ?_ (fun _ => ?_)
set_option maxHeartbeats 8000000 in
set_option maxRecDepth 100000 in
theorem spec_MakeRights.calls (k : Nat) (A0 : Option Addr) (c0 : Nat) (l0 : List Int) (a1 : Int) (a2 : Int) (r1 : List (List Int)) (r2 : List Int) (w : World) (hr0 : Kd.C (Kd.int .u8) w A0 l0.length l0) (hc0 : l0.length ≤ c0) (h : spec_MakeRights.f k l0 a1 a2 = some (r1, r2)) :
  Calls Try.prog 35 #[.slice A0 l0.length c0, .int .i64 a1, .int .i64 a2] w fun e w' => ∃ v0_ v1_ : Value, e = .returned (.agg #[v0_, v1_]) ∧ Kd.V (Kd.slice 3 (Kd.int .i64)) 23 w' w.heap.size (fun k_ => (w.heap.size ≤ k_) ∧ some k_ ≠ (v1_ : Value).ownBlock) v0_ r1 ∧ Kd.R (Kd.int .i64) 3 w' w.heap.size (fun k_ => (w.heap.size ≤ k_)) v1_ r2 ∧ Below w.heap.size w w' := by
 have hu28 := Try.underlying28
 have HR0 := Aside0.mk hr0
 have HC0 := Aside0.mk hc0
 clear hr0 hc0
 have HB := k0 (Below.refl w.heap.size w)
 have H : ((spec_l01New.f k l0).bind fun bt364 => ((spec_l06Draw.f k bt364.1 bt364.2.1 (wrap64 (bt364.2.2 + (wrap64 (100 * a2)))) a1).bind fun bt368 => (some (bt368.1, bt368.2.1)))) = some (r1, r2) := h
 clear h
 replace H := Option.bind_eq_some_iff.mp H
 obtain ⟨⟨t364, t365, t366⟩, A40, H⟩ := H
 replace H : ((spec_l06Draw.f k t364 t365 (wrap64 (t366 + (wrap64 (100 * a2)))) a1).bind fun bt368 => (some (bt368.1, bt368.2.1))) = some (r1, r2) := H
 have A4 := Aside0.mk A40
 clear A40
 replace H := Option.bind_eq_some_iff.mp H
 obtain ⟨⟨t368, t371, t374, t375⟩, A50, H⟩ := H
 replace H : (some (t368, t371)) = some (r1, r2) := H
 have A5 := Aside0.mk A50
 clear A50
 simp only [Option.some.injEq, Prod.mk.injEq] at H
 obtain ⟨rfl, rfl⟩ := H
 go_enter Try.func35, Try.ntmps35
 go_wp2_with (first | ((with_reducible refine gate_dst (N := 6) rfl ?_); refine kE (N := 6) (cs := #[.slice none 0 0, .slice none 0 0]) (t := 28) ?_; intro gb363 hg w6 hbox hb; have n0_ := k0 (below_step (kW HB.out) hb); have n1_ := k0 (hbox); have n2_ := k0 (kY HB.out hg); have n3_ := k0 (kY HB.out hg); clear HB; have HB := n0_; have BK363 := n1_; have GW363 := n2_; have GE363 := n3_; clear n0_ n1_ n2_ n3_; clear hb hbox hg) | ((with_reducible refine gate_callee (f := 63) rfl ?_); refine kG (some 9) Try.func63 #[.slice A0 l0.length c0] ?_; (with_reducible refine (spec_l01New.calls k _ _ l0 t364 t365 t366 w _ ?side1 ?side2 ?side3 A4.out).mono ?_); (case side1 => repeat (first | (with_reducible first | exact HB.out | apply below_alloc | apply pw_below_drewN | apply below_drew1 | refine below_set ?_ GE363.out) | exact HB.out)); (case side2 => exact HR0.out); (case side3 => exact HC0.out); rintro e w7 ⟨g367, rfl, hi, hb, hb2⟩; refine ⟨_, rfl, ?_⟩; have n0_ := k0 (blk_below (g := gb363) (o := .cells #[.slice none 0 0, .slice none 0 0] 28 (0, 0)) (kB BK363.out) hb2); have n1_ := k0 (hb); have n2_ := k0 (hi); have n3_ := k0 (IsS65.ne_blk hi (blk_below (g := gb363) (o := .cells #[.slice none 0 0, .slice none 0 0] 28 (0, 0)) (kB BK363.out) hb2) (by decide)); have n4_ := k0 (Ne.symm (IsS65.ne_blk hi (blk_below (g := gb363) (o := .cells #[.slice none 0 0, .slice none 0 0] 28 (0, 0)) (kB BK363.out) hb2) (by decide))); clear BK363; clear HB; have BK363 := n0_; have HB := n1_; have HI367 := n2_; have NB367_363 := n3_; have NB363_367 := n4_; clear n0_ n1_ n2_ n3_ n4_; (try clear hb); (try clear hb2); (try clear hk); (try clear hi); obtain ⟨ASz8_0, cSz8_0, HGz8, hgz8, HSz8_0, HTz8_0⟩ := HI367.out; have hcz8_0 := cellS65_0 HGz8; have hcz8_1 := cellS65_1 HGz8; have hcz8_2 := cellS65_2 HGz8; have hfz8_1 := blk_frozen HGz8 1; have hfz8_2 := blk_frozen HGz8 2; clear HGz8 hgz8) | ((with_reducible refine gate_callee (f := 65) rfl ?_); refine kG (some 22) Try.func65 #[.pointer (some ⟨g367, 0, none⟩), .int .i64 a1] ?_; (with_reducible refine (spec_l06Draw.calls k g367 t364 t365 (wrap64 (t366 + (wrap64 (100 * a2)))) a1 t368 t371 t374 t375 w _ ?side1 ?side2 A5.out).mono ?_); (case side1 => repeat (first | (with_reducible first | exact HI367.out | apply IsS65.alloc | apply IsS65.drewN | apply IsS65.drew | apply IsS65.set_1 | apply IsS65.set_2 | apply IsS65.farB NB367_363.out) | exact HI367.out)); (case side2 => repeat (first | (with_reducible first | exact HB.out | apply below_alloc | apply pw_below_drewN | apply below_drew1 | refine below_set ?_ (IsS65.ge HI367.out) | refine below_set ?_ GE363.out) | exact HB.out)); rintro e w9 ⟨v369, v372, rfl, ho0, ho1, hi, hb, hk⟩; refine ⟨_, rfl, ?_⟩; have n0_ := k0 (KeepBut.blk hk (g' := gb363) (o := .cells #[.slice none 0 0, .slice none 0 0] 28 (0, 0)) (by (with_reducible repeat first | apply k1 | apply k2 | apply k3); refine blk_far ?_ NB363_367.out _; (with_reducible repeat first | apply k1 | apply k2 | apply k3); exact BK363.out) NB363_367.out (by simp)); have n1_ := k0 (Kd.V_lower (Kd.V_mono (ok' := fun k_ => (w.heap.size ≤ k_) ∧ some k_ ≠ (v372 : Value).ownBlock ∧ k_ ≠ gb363 ∧ k_ ≠ g367) ho0 (fun k_ hk_ => ⟨(Nat.le_trans (below_size (by repeat (first | (with_reducible first | exact HB.out | apply below_alloc | apply pw_below_drewN | apply below_drew1 | refine below_set ?_ (IsS65.ge HI367.out) | refine below_set ?_ GE363.out) | exact HB.out))) hk_.1), hk_.2, (Kd.freshB (g := gb363) (o := .cells #[.slice none 0 0, .slice none 0 0] 28 (0, 0)) (by (with_reducible repeat first | apply k1 | apply k2 | apply k3); refine blk_far ?_ NB363_367.out _; (with_reducible repeat first | apply k1 | apply k2 | apply k3); exact BK363.out) k_ hk_.1), (IsS65.fresh (by repeat (first | (with_reducible first | exact HI367.out | apply IsS65.alloc | apply IsS65.drewN | apply IsS65.drew | apply IsS65.set_1 | apply IsS65.set_2 | apply IsS65.farB NB367_363.out) | exact HI367.out)) k_ hk_.1)⟩)) (below_size (by repeat (first | (with_reducible first | exact HB.out | apply below_alloc | apply pw_below_drewN | apply below_drew1 | refine below_set ?_ (IsS65.ge HI367.out) | refine below_set ?_ GE363.out) | exact HB.out)))); have n2_ := k0 (Kd.R_lower (Kd.R_newM (M := fun k_ => (w.heap.size ≤ k_)) (Kd.R_mono (ok' := fun k_ => True) ho1 (fun _ hk_ => trivial)) (below_size (by repeat (first | (with_reducible first | exact HB.out | apply below_alloc | apply pw_below_drewN | apply below_drew1 | refine below_set ?_ (IsS65.ge HI367.out) | refine below_set ?_ GE363.out) | exact HB.out))) (fun k_ h_ => h_)) (below_size (by repeat (first | (with_reducible first | exact HB.out | apply below_alloc | apply pw_below_drewN | apply below_drew1 | refine below_set ?_ (IsS65.ge HI367.out) | refine below_set ?_ GE363.out) | exact HB.out)))); have n3_ := k0 (hb); have n4_ := k0 (hi); clear BK363; clear HB; clear HI367; have BK363 := n0_; have HO370 := n1_; have HO373 := n2_; have HB := n3_; have HI367 := n4_; clear n0_ n1_ n2_ n3_ n4_; (try clear hb); (try clear hb2); (try clear hk); (try clear hi); (try clear ho0); (try clear ho1); obtain ⟨Ao10, co10, eo10⟩ := Kd.V_slice HO370.out; subst eo10; have hnb11 := NB363_367.out; have hnc11 := NB367_363.out; have hcz12_0 : w9.cell? ⟨gb363, 0, none⟩ = some (.slice none 0 0) := kx BK363.out; have hcz12_1 : w9.cell? ⟨gb363, 1, none⟩ = some (.slice none 0 0) := kx BK363.out; have hfz12_0 := blk_frozen BK363.out 0; have hfz12_1 := blk_frozen BK363.out 1; obtain ⟨Ao13, co13, eo13⟩ := Kd.R_slice HO373.out; subst eo13))
 refine bodyPost_ret (results_cell_row rfl _ _ gb363 28 #[.slice Ao10 t368.length co10, .slice Ao13 t371.length co13] (0, 0) _ rfl (by (with_reducible repeat first | apply k1 | apply k2 | apply k3); refine blk_put (cs := #[.slice Ao10 t368.length co10, .slice none 0 0]) ?_ 1 _ rfl; (with_reducible repeat first | apply k1 | apply k2 | apply k3); refine blk_put (cs := #[.slice none 0 0, .slice none 0 0]) ?_ 0 _ rfl; (with_reducible repeat first | apply k1 | apply k2 | apply k3); exact BK363.out) Try.underlying28 rfl (by kernel_rfl)) rfl ?_
 exact ⟨_, _, by first | rfl | (simp [errW_none, errW_some] <;> rfl) | (simp [*, errW_none, errW_some] <;> rfl), by (with_reducible repeat (first | apply Kd.V_alloc | apply Kd.V_drewN | apply Kd.V_drew)); exact Kd.V_mono (Kd.V_far (p := ⟨gb363, 1, none⟩) (Kd.V_far (p := ⟨gb363, 0, none⟩) (Kd.V_mono HO370.out (fun k_ hk => (⟨hk, hk.2.2.1⟩ : _ ∧ k_ ≠ gb363))) (fun _ hk => hk.2) (.slice Ao10 t368.length co10)) (fun _ hk => hk.2) (.slice Ao13 t371.length co13)) (fun _ hk => ⟨hk.1.1, hk.1.2.1⟩), by (with_reducible repeat (first | apply Kd.R_alloc | apply Kd.R_drewN | apply Kd.R_drew)); exact Kd.R_mono (Kd.R_far (p := ⟨gb363, 1, none⟩) (Kd.R_far (p := ⟨gb363, 0, none⟩) (Kd.R_types HO373.out BK363.out (by decide)) (fun _ hk => hk.2) (.slice Ao10 t368.length co10)) (fun _ hk => hk.2) (.slice Ao13 t371.length co13)) (fun _ hk => hk.1.1), by repeat (first | (with_reducible first | exact HB.out | apply below_alloc | apply pw_below_drewN | apply below_drew1 | refine below_set ?_ (IsS65.ge HI367.out) | refine below_set ?_ GE363.out) | exact HB.out)⟩

end Go.Proofs.Ytcnanifokpcjaaa.PFnRights
