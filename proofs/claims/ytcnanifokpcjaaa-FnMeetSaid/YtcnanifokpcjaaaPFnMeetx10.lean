import Derived.Test.YtcnanifokpcjaaaPFnMeetx0
import Derived.Test.YtcnanifokpcjaaaPFnMeetx7
import Derived.Test.YtcnanifokpcjaaaPFnMeetx9
namespace Go.Proofs.Ytcnanifokpcjaaa.PFnMeet
open Go.RowKit Go.Proofs.YtcnanifokpcjaaaW.PrintWords Go.Proofs.YtcnanifokpcjaaaW.PrintLast Go.Proofs.YtcnanifokpcjaaaW.PrintMore
attribute [local go_sem] max2_int min2_int max_two min_two max_three min_three max_four min_four   -- for this text's walks alone
set_option linter.unusedVariables false
set_option linter.unusedSimpArgs false

/-! ### spec_Spend: function 30 -/
def spec_Spend.f (k : Nat) (l0_0 : List (List Int)) (l0_1 : List Int) (a1 : Int) (a2 : Int) : Option ((List (List Int)) × List Int × Bool) := (spec_l06May.f k l0_0 l0_1 a1 a2).bind fun t271 => (if t271 = true then ((spec_l06Copy.f k l0_0 l0_1).bind fun bt272 => (if 0 ≤ a1 then (if a1 < (bt272.2.length : Int) then ((spec_l06Done.f k bt272.1 (bt272.2.set (a1 : Int).toNat (wrap64 ((rd bt272.2 a1) + a2)))).bind fun bt281 => (some (bt281.1, bt281.2.1, bt281.2.2))) else (none)) else (none))) else (some (([] : List (List Int)), ([] : List Int), false)))
theorem spec_Spend.mono : ∀ a0 a1 a2 a3 k, LeO (spec_Spend.f k a0 a1 a2 a3) (spec_Spend.f (k + 1) a0 a1 a2 a3) := by
 intro a0 a1 a2 a3 k
 unfold spec_Spend.f
 repeat' first
   | (with_reducible exact spec_l06Copy.mono _ _ _)
   | (with_reducible exact spec_l06Done.mono _ _ _)
   | (with_reducible exact spec_l06May.mono _ _ _ _ _)
   | (with_reducible exact LeO.refl _)
   | (with_reducible exact LeO.none _)
   | (with_reducible refine LeO.ite ?_ ?_)
   | (with_reducible refine LeO.bind ?_ (fun _ => ?_))
   | exact spec_l06Copy.mono _ _ _
   | exact spec_l06Done.mono _ _ _
   | exact spec_l06May.mono _ _ _ _ _
   | exact LeO.none _
   | refine LeO.ite ?_ ?_
   | refine LeO.bind ?_ (fun _ => ?_)
def spec_Spend.T4 : Bool × List (List Nat × List Nat) := (true, [([], []), ([0], [0]), ([], []), ([], []), ([3], [3]), ([], []), ([4, 5], [4, 5]), ([6], [6]), ([], []), ([7, 8], [7, 8]), ([1, 2, 0, 1, 2, 3, 4, 5, 6, 7, 8, 9], [1, 2]), ([10, 9, 0, 1, 2, 3, 4, 5, 6, 7, 8, 9], [9, 10])])
def spec_Spend.B4 : List Nat := [0, 1, 0, 0, 8, 0, 56, 120, 0, 504, 1023, 2047]
theorem spec_Spend.tab4 : rtab .any (opsOf Try.f30 4) = spec_Spend.T4 := by kernel_rfl
theorem spec_Spend.bits4 : waitsOk spec_Spend.T4.2 spec_Spend.B4 = true := by kernel_rfl
set_option maxHeartbeats 8000000 in
set_option maxRecDepth 100000 in
theorem spec_Spend.calls (k : Nat) (A0_0 : Option Addr) (c0_0 : Nat) (l0_0 : List (List Int)) (A0_1 : Option Addr) (c0_1 : Nat) (l0_1 : List Int) (a1 : Int) (a2 : Int) (r1 : List (List Int)) (r2 : List Int) (r3 : Bool) (w : World) (hr0_0 : Kd.C (Kd.slice 3 (Kd.int .i64)) w A0_0 l0_0.length l0_0) (hc0_0 : l0_0.length ≤ c0_0) (hr0_1 : Kd.C (Kd.int .i64) w A0_1 l0_1.length l0_1) (hc0_1 : l0_1.length ≤ c0_1) (h : spec_Spend.f k l0_0 l0_1 a1 a2 = some (r1, r2, r3)) :
  Calls Try.prog 30 #[.agg #[.slice A0_0 l0_0.length c0_0, .slice A0_1 l0_1.length c0_1], .int .i64 a1, .int .i64 a2] w fun e w' => ∃ v0_ v1_ : Value, e = .returned (.tuple #[.agg #[v0_, v1_], .bool r3]) ∧ Kd.V (Kd.slice 3 (Kd.int .i64)) 23 w' w.heap.size (fun k_ => (w.heap.size ≤ k_) ∧ some k_ ≠ (v1_ : Value).ownBlock) v0_ r1 ∧ Kd.R (Kd.int .i64) 3 w' w.heap.size (fun k_ => (w.heap.size ≤ k_)) v1_ r2 ∧ Below w.heap.size w w' := by
 have hu28 := Try.underlying28
 have HR0_0 := Aside0.mk hr0_0
 have HC0_0 := Aside0.mk hc0_0
 clear hr0_0 hc0_0
 have HR0_1 := Aside0.mk hr0_1
 have HC0_1 := Aside0.mk hc0_1
 clear hr0_1 hc0_1
 have HB := k0 (Below.refl w.heap.size w)
 have H : ((spec_l06May.f k l0_0 l0_1 a1 a2).bind fun t271 => (if t271 = true then ((spec_l06Copy.f k l0_0 l0_1).bind fun bt272 => (if 0 ≤ a1 then (if a1 < (bt272.2.length : Int) then ((spec_l06Done.f k bt272.1 (bt272.2.set (a1 : Int).toNat (wrap64 ((rd bt272.2 a1) + a2)))).bind fun bt281 => (some (bt281.1, bt281.2.1, bt281.2.2))) else (none)) else (none))) else (some (([] : List (List Int)), ([] : List Int), false)))) = some (r1, r2, r3) := h
 clear h
 replace H := Option.bind_eq_some_iff.mp H
 obtain ⟨t271, A40, H⟩ := H
 replace H : (if t271 = true then ((spec_l06Copy.f k l0_0 l0_1).bind fun bt272 => (if 0 ≤ a1 then (if a1 < (bt272.2.length : Int) then ((spec_l06Done.f k bt272.1 (bt272.2.set (a1 : Int).toNat (wrap64 ((rd bt272.2 a1) + a2)))).bind fun bt281 => (some (bt281.1, bt281.2.1, bt281.2.2))) else (none)) else (none))) else (some (([] : List (List Int)), ([] : List Int), false))) = some (r1, r2, r3) := H
 have A4 := Aside0.mk A40
 clear A40
 by_cases c5 : t271 = true
 ·subst c5
  have H1 : ((spec_l06Copy.f k l0_0 l0_1).bind fun bt272 => (if 0 ≤ a1 then (if a1 < (bt272.2.length : Int) then ((spec_l06Done.f k bt272.1 (bt272.2.set (a1 : Int).toNat (wrap64 ((rd bt272.2 a1) + a2)))).bind fun bt281 => (some (bt281.1, bt281.2.1, bt281.2.2))) else (none)) else (none))) = some (r1, r2, r3) := by rw [if_pos rfl] at H; exact H
  clear H
  have H := H1
  clear H1
  replace H := Option.bind_eq_some_iff.mp H
  obtain ⟨⟨t272, t275⟩, A60, H⟩ := H
  replace H : (if 0 ≤ a1 then (if a1 < (t275.length : Int) then ((spec_l06Done.f k t272 (t275.set (a1 : Int).toNat (wrap64 ((rd t275 a1) + a2)))).bind fun bt281 => (some (bt281.1, bt281.2.1, bt281.2.2))) else (none)) else (none)) = some (r1, r2, r3) := H
  have A6 := Aside0.mk A60
  clear A60
  by_cases c7 : 0 ≤ a1
  ·rw [if_pos c7] at H
   have c7b0 : decide (0 ≤ a1) = true := decide_eq_true c7
   clear c7
   by_cases c8 : a1 < (t275.length : Int)
   ·rw [if_pos c8] at H
    have c8b0 : decide (a1 < (t275.length : Int)) = true := decide_eq_true c8
    clear c8
    obtain ⟨y280, hy280⟩ : ∃ y_ : List Int, y_ = (t275.set (a1 : Int).toNat (wrap64 ((rd t275 a1) + a2))) := ⟨_, rfl⟩
    replace H : ((spec_l06Done.f k t272 y280).bind fun bt281 => (some (bt281.1, bt281.2.1, bt281.2.2))) = some (r1, r2, r3) := by first | (rw [hy280]; with_reducible exact H) | (have H2_ := (Option.bind_some _ _).symm.trans H; rw [hy280]; with_reducible exact H2_) | (have H2_ := (Option.bind_some _ _).symm.trans H; with_reducible exact H2_) | with_reducible exact H | (rw [hy280]; exact H) | exact H
    have Ny280 := Aside0.mk hy280
    clear hy280
    replace H := Option.bind_eq_some_iff.mp H
    obtain ⟨⟨t281, t284, t287⟩, A100, H⟩ := H
    replace H : (some (t281, t284, t287)) = some (r1, r2, r3) := H
    have A10 := Aside0.mk A100
    clear A100
    simp only [Option.some.injEq, Prod.mk.injEq] at H
    obtain ⟨rfl, rfl, rfl⟩ := H
    go_enter Try.func30, Try.ntmps30
    try go_wp2_with (first | ((with_reducible refine gate_dst (N := 3) rfl ?_); refine kE (N := 3) (cs := #[.slice A0_0 l0_0.length c0_0, .slice A0_1 l0_1.length c0_1]) (t := 28) ?_; intro gb269 hg w11 hbox hb; have n0_ := k0 (below_step (kW HB.out) hb); have n1_ := k0 (hbox); have n2_ := k0 (kY HB.out hg); have n3_ := k0 (kY HB.out hg); clear HB; have HB := n0_; have BK269 := n1_; have GW269 := n2_; have GE269 := n3_; clear n0_ n1_ n2_ n3_; clear hb hbox hg) | ((with_reducible refine gate_dst (N := 6) rfl ?_); refine kE (N := 6) (cs := #[.slice none 0 0, .slice none 0 0]) (t := 28) ?_; intro gb270 hg w12 hbox hb; have n0_ := k0 (kb BK269.out hb); have n1_ := k0 (below_step (kW HB.out) hb); have n2_ := k0 (hbox); have n3_ := k0 (kY HB.out hg); have n4_ := k0 (kY HB.out hg); have n5_ := k0 ((by rw [hg]; exact Nat.ne_of_lt (blk_lt (g := gb269) (o := .cells #[.slice A0_0 l0_0.length c0_0, .slice A0_1 l0_1.length c0_1] 28 (0, 0)) (kB BK269.out)) : gb269 ≠ gb270)); have n6_ := k0 ((by rw [hg]; exact Nat.ne_of_gt (blk_lt (g := gb269) (o := .cells #[.slice A0_0 l0_0.length c0_0, .slice A0_1 l0_1.length c0_1] 28 (0, 0)) (kB BK269.out)) : gb270 ≠ gb269)); clear BK269; clear HB; have BK269 := n0_; have HB := n1_; have BK270 := n2_; have GW270 := n3_; have GE270 := n4_; have NB269_270 := n5_; have NB270_269 := n6_; clear n0_ n1_ n2_ n3_ n4_ n5_ n6_; clear hb hbox hg; have hnb13 := NB269_270.out; have hnc13 := NB270_269.out; have hcz14_0 : w12.cell? ⟨gb269, 0, none⟩ = some (.slice A0_0 l0_0.length c0_0) := kx BK269.out; have hcz14_1 : w12.cell? ⟨gb269, 1, none⟩ = some (.slice A0_1 l0_1.length c0_1) := kx BK269.out; have hfz14_0 := blk_frozen BK269.out 0; have hfz14_1 := blk_frozen BK269.out 1) | ((with_reducible refine gate_callee (f := 58) rfl ?_); refine kG (some 12) Try.func58 #[.agg #[.slice A0_0 l0_0.length c0_0, .slice A0_1 l0_1.length c0_1], .int .i64 a1, .int .i64 a2] ?_; (with_reducible refine (spec_l06May.calls k _ _ l0_0 _ _ l0_1 a1 a2 true _ ?side1 ?side2 ?side3 ?side4 A4.out).mono ?_); (case side1 => exact kC (Kd.C_below HR0_0.out HB.out)); (case side2 => exact HC0_0.out); (case side3 => exact kC (Kd.C_below HR0_1.out HB.out)); (case side4 => exact HC0_1.out); rintro e w15 ⟨rfl, hb⟩; refine ⟨_, rfl, ?_⟩; have n0_ := k0 (kb BK269.out hb); have n1_ := k0 (kb BK270.out hb); have n2_ := k0 (below_step (kW HB.out) hb); clear BK269; clear BK270; clear HB; have BK269 := n0_; have BK270 := n1_; have HB := n2_; clear n0_ n1_ n2_; (try clear hb); (try clear hb2); (try clear hk); (try clear hi); have hcz16_0 : w15.cell? ⟨gb269, 0, none⟩ = some (.slice A0_0 l0_0.length c0_0) := kx BK269.out; have hcz16_1 : w15.cell? ⟨gb269, 1, none⟩ = some (.slice A0_1 l0_1.length c0_1) := kx BK269.out; have hfz16_0 := blk_frozen BK269.out 0; have hfz16_1 := blk_frozen BK269.out 1) | ((with_reducible refine gate_callee (f := 50) rfl ?_); refine kG (some 16) Try.func50 #[.agg #[.slice A0_0 l0_0.length c0_0, .slice A0_1 l0_1.length c0_1]] ?_; (with_reducible refine (spec_l06Copy.calls k _ _ l0_0 _ _ l0_1 t272 t275 _ ?side1 ?side2 ?side3 ?side4 A6.out).mono ?_); (case side1 => exact kC (Kd.C_below HR0_0.out HB.out)); (case side2 => exact HC0_0.out); (case side3 => exact kC (Kd.C_below HR0_1.out HB.out)); (case side4 => exact HC0_1.out); rintro e w17 ⟨v273, v276, rfl, ho0, ho1, hb⟩; refine ⟨_, rfl, ?_⟩; have n0_ := k0 (Kd.S_lower (Kd.S_newM (M := fun k_ => (w.heap.size ≤ k_)) ho0 (below_size (kW HB.out)) (fun k_ h_ => h_)) (below_size (kW HB.out))); have n1_ := k0 (Kd.R_lower (Kd.R_newM (M := fun k_ => (w.heap.size ≤ k_)) ho1 (below_size (kW HB.out)) (fun k_ h_ => h_)) (below_size (kW HB.out))); have n2_ := k0 (kb BK269.out hb); have n3_ := k0 (kb BK270.out hb); have n4_ := k0 (below_step (kW HB.out) hb); clear BK269; clear BK270; clear HB; have HO274 := n0_; have HO277 := n1_; have BK269 := n2_; have BK270 := n3_; have HB := n4_; clear n0_ n1_ n2_ n3_ n4_; (try clear hb); (try clear hb2); (try clear hk); (try clear hi); (try clear ho0); (try clear ho1)) | ((with_reducible refine gate_dst (N := 8) rfl ?_); refine kE (N := 8) (cs := #[.slice none 0 0, .slice none 0 0]) (t := 28) ?_; intro gb278 hg w18 hbox hb; have n0_ := k0 (Kd.S_below (kS HO274.out) hb); have n1_ := k0 (Kd.R_below (kR HO277.out) hb); have n2_ := k0 (kb BK269.out hb); have n3_ := k0 (kb BK270.out hb); have n4_ := k0 (below_step (kW HB.out) hb); have n5_ := k0 (hbox); have n6_ := k0 (kY HB.out hg); have n7_ := k0 (kY HB.out hg); have n8_ := k0 ((by rw [hg]; exact Nat.ne_of_lt (blk_lt (g := gb269) (o := .cells #[.slice A0_0 l0_0.length c0_0, .slice A0_1 l0_1.length c0_1] 28 (0, 0)) (kB BK269.out)) : gb269 ≠ gb278)); have n9_ := k0 ((by rw [hg]; exact Nat.ne_of_gt (blk_lt (g := gb269) (o := .cells #[.slice A0_0 l0_0.length c0_0, .slice A0_1 l0_1.length c0_1] 28 (0, 0)) (kB BK269.out)) : gb278 ≠ gb269)); have n10_ := k0 ((by rw [hg]; exact Nat.ne_of_lt (blk_lt (g := gb270) (o := .cells #[.slice none 0 0, .slice none 0 0] 28 (0, 0)) (kB BK270.out)) : gb270 ≠ gb278)); have n11_ := k0 ((by rw [hg]; exact Nat.ne_of_gt (blk_lt (g := gb270) (o := .cells #[.slice none 0 0, .slice none 0 0] 28 (0, 0)) (kB BK270.out)) : gb278 ≠ gb270)); clear HO274; clear HO277; clear BK269; clear BK270; clear HB; have HO274 := n0_; have HO277 := n1_; have BK269 := n2_; have BK270 := n3_; have HB := n4_; have BK278 := n5_; have GW278 := n6_; have GE278 := n7_; have NB269_278 := n8_; have NB278_269 := n9_; have NB270_278 := n10_; have NB278_270 := n11_; clear n0_ n1_ n2_ n3_ n4_ n5_ n6_ n7_ n8_ n9_ n10_ n11_; clear hb hbox hg; obtain ⟨Ao19, co19, eo19⟩ := Kd.S_slice HO274.out; subst eo19; have hnb20 := NB278_269.out; have hnc20 := NB269_278.out; have hnb21 := NB278_270.out; have hnc21 := NB270_278.out; have hcz22_0 : w18.cell? ⟨gb278, 0, none⟩ = some (.slice none 0 0) := kx BK278.out; have hcz22_1 : w18.cell? ⟨gb278, 1, none⟩ = some (.slice none 0 0) := kx BK278.out; have hfz22_0 := blk_frozen BK278.out 0; have hfz22_1 := blk_frozen BK278.out 1; obtain ⟨Ao23, co23, eo23⟩ := Kd.R_slice HO277.out; subst eo23))
    have n0_ : Aside0 (Kd.S (Kd.slice 3 (Kd.int .i64)) 23 ((w18.setCell ⟨gb278, 0, none⟩ (.slice Ao19 t272.length co19)).setCell ⟨gb278, 1, none⟩ (.slice Ao23 t275.length co23)) w.heap.size (fun k_ => (w.heap.size ≤ k_) ∧ some k_ ≠ (.slice Ao23 t275.length co23 : Value).ownBlock) (.slice Ao19 t272.length co19) t272) := ⟨by (with_reducible repeat (first | apply Kd.S_alloc | apply Kd.S_drewN | apply Kd.S_drew)); exact Kd.S_mono (Kd.S_far (p := ⟨gb278, 1, none⟩) (Kd.S_far (p := ⟨gb278, 0, none⟩) (Kd.S_types HO274.out BK278.out (by decide)) (fun _ hk => hk.2) (.slice Ao19 t272.length co19)) (fun _ hk => hk.2) (.slice Ao23 t275.length co23)) (fun _ hk => ⟨hk.1.1, hk.1.2⟩)⟩
    have n1_ : Aside0 (Kd.R (Kd.int .i64) 3 ((w18.setCell ⟨gb278, 0, none⟩ (.slice Ao19 t272.length co19)).setCell ⟨gb278, 1, none⟩ (.slice Ao23 t275.length co23)) w.heap.size (fun k_ => (w.heap.size ≤ k_)) (.slice Ao23 t275.length co23) t275) := ⟨by (with_reducible repeat (first | apply Kd.R_alloc | apply Kd.R_drewN | apply Kd.R_drew)); exact Kd.R_mono (Kd.R_far (p := ⟨gb278, 1, none⟩) (Kd.R_far (p := ⟨gb278, 0, none⟩) (Kd.R_types HO277.out BK278.out (by decide)) (fun _ hk => hk.2) (.slice Ao19 t272.length co19)) (fun _ hk => hk.2) (.slice Ao23 t275.length co23)) (fun _ hk => hk.1.1)⟩
    have n2_ : Aside0 (((w18.setCell ⟨gb278, 0, none⟩ (.slice Ao19 t272.length co19)).setCell ⟨gb278, 1, none⟩ (.slice Ao23 t275.length co23)).heap[gb269]? = some (.cells #[.slice A0_0 l0_0.length c0_0, .slice A0_1 l0_1.length c0_1] 28 (0, 0))) := ⟨by (with_reducible repeat first | apply k1 | apply k2 | apply k3); refine blk_far ?_ NB269_278.out _; (with_reducible repeat first | apply k1 | apply k2 | apply k3); refine blk_far ?_ NB269_278.out _; (with_reducible repeat first | apply k1 | apply k2 | apply k3); exact BK269.out⟩
    have n3_ : Aside0 (((w18.setCell ⟨gb278, 0, none⟩ (.slice Ao19 t272.length co19)).setCell ⟨gb278, 1, none⟩ (.slice Ao23 t275.length co23)).heap[gb270]? = some (.cells #[.slice none 0 0, .slice none 0 0] 28 (0, 0))) := ⟨by (with_reducible repeat first | apply k1 | apply k2 | apply k3); refine blk_far ?_ NB270_278.out _; (with_reducible repeat first | apply k1 | apply k2 | apply k3); refine blk_far ?_ NB270_278.out _; (with_reducible repeat first | apply k1 | apply k2 | apply k3); exact BK270.out⟩
    have n4_ : Aside0 (((w18.setCell ⟨gb278, 0, none⟩ (.slice Ao19 t272.length co19)).setCell ⟨gb278, 1, none⟩ (.slice Ao23 t275.length co23)).heap[gb278]? = some (.cells #[.slice Ao19 t272.length co19, .slice Ao23 t275.length co23] 28 (0, 0))) := ⟨by (with_reducible repeat first | apply k1 | apply k2 | apply k3); refine blk_put (cs := #[.slice Ao19 t272.length co19, .slice none 0 0]) ?_ 1 _ rfl; (with_reducible repeat first | apply k1 | apply k2 | apply k3); refine blk_put (cs := #[.slice none 0 0, .slice none 0 0]) ?_ 0 _ rfl; (with_reducible repeat first | apply k1 | apply k2 | apply k3); exact BK278.out⟩
    have n5_ : Aside0 (Below w.heap.size w ((w18.setCell ⟨gb278, 0, none⟩ (.slice Ao19 t272.length co19)).setCell ⟨gb278, 1, none⟩ (.slice Ao23 t275.length co23))) := ⟨by repeat (first | (with_reducible first | exact HB.out | apply below_alloc | apply pw_below_drewN | apply below_drew1 | refine below_set ?_ GE269.out | refine below_set ?_ GE270.out | refine below_set ?_ GE278.out) | exact HB.out)⟩
    (try clear HO274)
    (try clear HO277)
    (try clear BK269)
    (try clear BK270)
    (try clear BK278)
    (try clear HB)
    generalize ((w18.setCell ⟨gb278, 0, none⟩ (.slice Ao19 t272.length co19)).setCell ⟨gb278, 1, none⟩ (.slice Ao23 t275.length co23)) = w24 at n0_ n1_ n2_ n3_ n4_ n5_ ⊢
    have HO274 := n0_
    have HO277 := n1_
    have BK269 := n2_
    have BK270 := n3_
    have BK278 := n4_
    have HB := n5_
    clear n0_ n1_ n2_ n3_ n4_ n5_
    have n0_ := k0 (Kd.S_drew HO274.out)
    have n1_ := k0 (Kd.R_drew HO277.out)
    have n2_ := k0 (blk_drew BK269.out)
    have n3_ := k0 (blk_drew BK270.out)
    have n4_ := k0 (blk_drew BK278.out)
    have n5_ := k0 (below_drew1 HB.out)
    clear HO274 HO277 BK269 BK270 BK278 HB
    have HO274 := n0_
    have HO277 := n1_
    have BK269 := n2_
    have BK270 := n3_
    have BK278 := n4_
    have HB := n5_
    clear n0_ n1_ n2_ n3_ n4_ n5_
    have p279 : 0 ≤ (a1 : Int) := kD
    have q279 : a1 < (t275.length : Int) := kD
    obtain ⟨ad279, e279, hx279_0⟩ := Kd.at_int (Kd.R_reads' HO277.out).2.2 a1 p279 q279
    cases e279
    replace p279 := eq_true p279
    replace q279 := eq_true q279
    have p9 : 0 ≤ (a1 : Int) := kD
    have q9 : (a1 : Int) < ((t275.length : Int) : Int) := kD
    obtain ⟨go9, co9, eo9, gb9, gl9, cl9, HG9⟩ := Kd.R_form HO277.out (by omega)
    (first | cases eo9 | (injection eo9 with ea_ en_ ec_; (first | subst ea_ | (injection ea_ with ea_; subst ea_)); subst ec_; clear en_))
    have GB9 := Aside0.mk gb9
    have GG9 := Aside0.mk HG9
    clear gb9 gl9 HG9
    (first | simp only [add_plain] at hx279_0 | skip)
    obtain ⟨hx9_0, hf9_0⟩ := Kd.R_celln 0 HO277.out (a1 : Int) p9 q9
    replace p9 := eq_true p9
    replace q9 := eq_true q9
    have HP26 := Kd.R_putn HO277.out (a1 : Int) (wrap64 ((rd t275 a1) + a2))
    rw [← Ny280.out] at HP26
    have HQ26 := Aside0.mk HP26
    clear HP26
    refine start_ (n := 12) (S := fun w' => w'.cell? ⟨gb278, 0, none⟩ = some (.slice Ao19 t272.length co19) ∧ w'.cell? ⟨gb278, 1, none⟩ = some (.slice (some ⟨go9, 0, none⟩) t275.length co23) ∧ w'.cell? ⟨go9, (a1).toNat, none⟩ = some (.int .i64 (rd t275 a1))) (ds := [11]) #[false, false, false, false, false, false, false, false, false, false, false, false] (by kernel_rfl) rfl rfl ⟨(blk_cell BK278.out 0).trans rfl, (blk_cell BK278.out 1).trans rfl, hx279_0⟩ (fun hHeld => ?_); refine with_tabW spec_Spend.tab4 spec_Spend.bits4 (fun HT_ HW_ => ?_)
    generalize w24.drew = w25 at HO274 HO277 BK269 BK270 BK278 HB GG9 HQ26 hf9_0 hx279_0 hx9_0 hHeld ⊢
    refine kP 0 17 12 1 HT_.out ?_
    refine kP 2 19 12 5 HT_.out ?_
    refine kP 3 20 12 13 HT_.out ?_
    refine kP 5 22 12 45 HT_.out ?_
    refine kP 8 25 12 301 HT_.out ?_
    refine take_ (i := 1) (N := some 18) (v := ?_) (a' := ?_) (bt 12 303) rfl rfl (take_ofW HT_.out HW_.out (by kernel_rfl)) (fun _ _ _ h => h) (Or.inl ⟨by rfl, ?_⟩) hHeld ?_ ?_
    rotate_left
    ·rintro w' ⟨s0, s1, s2⟩
     go_simp
     with_reducible rfl
    rotate_left
    ·simp only [Act.put, List.setIfInBounds_toArray, List.set_cons_zero, List.set_cons_succ, i64_w, i32_w]
     rfl
    refine take_ (i := 4) (N := some 21) (v := ?_) (a' := ?_) (bt 12 319) rfl rfl (take_ofW HT_.out HW_.out (by kernel_rfl)) (fun _ _ _ h => h) (Or.inl ⟨by rfl, ?_⟩) hHeld ?_ ?_
    rotate_left
    ·rintro w' ⟨s0, s1, s2⟩
     go_simp
     with_reducible rfl
    rotate_left
    ·simp only [Act.put, List.setIfInBounds_toArray, List.set_cons_zero, List.set_cons_succ, i64_w, i32_w]
     rfl
    refine kP 6 23 12 383 HT_.out ?_
    refine take_ (i := 7) (N := some 24) (v := ?_) (a' := ?_) (bt 12 511) rfl rfl (take_ofW HT_.out HW_.out (by kernel_rfl)) (fun _ _ _ h => h) (Or.inl ⟨by rfl, ?_⟩) hHeld ?_ ?_
    rotate_left
    ·rintro w' ⟨s0, s1, s2⟩
     go_simp
     with_reducible rfl
    rotate_left
    ·simp only [Act.put, List.setIfInBounds_toArray, List.set_cons_zero, List.set_cons_succ, i64_w, i32_w]
     rfl
    refine kP 9 26 12 1023 HT_.out ?_
    refine kP 10 27 12 2047 HT_.out ?_
    refine last_ (i := 11) (N := none) (bt 12 4095) rfl rfl (one_of HT_.out (by kernel_rfl)) (by decide) (fun K hK => ?_)
    refine skip_ (w1 := ?_) (by rfl) rfl ?_ ?_
    rotate_left
    ·go_simp
     rfl
    refine hK.out _ _ ?_
    clear hK K
    refine done_ (done_of HT_.out (by kernel_rfl)) ?_
    have n0_ : Aside0 (Kd.S (Kd.slice 3 (Kd.int .i64)) 23 (w25.setCell ⟨go9, (a1 : Int).toNat, none⟩ (.int .i64 (wrap64 ((rd t275 a1) + a2)))) w.heap.size (fun k_ => (w.heap.size ≤ k_) ∧ some k_ ≠ (.slice (some ⟨go9, 0, none⟩) t275.length co23 : Value).ownBlock) (.slice Ao19 t272.length co19) t272) := ⟨by (with_reducible repeat (first | apply Kd.S_alloc | apply Kd.S_drewN | apply Kd.S_drew)); exact Kd.S_mono (Kd.S_far (p := ⟨go9, (a1 : Int).toNat, none⟩) (Kd.S_mono HO274.out (fun k_ hk => (⟨hk, fun e_ => hk.2 (by rw [e_]; rfl)⟩ : _ ∧ k_ ≠ go9))) (fun _ hk => hk.2) (.int .i64 (wrap64 ((rd t275 a1) + a2)))) (fun _ hk => ⟨hk.1.1, hk.1.2⟩)⟩
    have n1_ : Aside0 (Kd.R (Kd.int .i64) 3 (w25.setCell ⟨go9, (a1 : Int).toNat, none⟩ (.int .i64 (wrap64 ((rd t275 a1) + a2)))) w.heap.size (fun k_ => (w.heap.size ≤ k_)) (.slice (some ⟨go9, 0, none⟩) t275.length co23) y280) := ⟨by (with_reducible repeat (first | apply Kd.R_alloc | apply Kd.R_drewN | apply Kd.R_drew)); exact HQ26.out⟩
    have n2_ : Aside0 ((w25.setCell ⟨go9, (a1 : Int).toNat, none⟩ (.int .i64 (wrap64 ((rd t275 a1) + a2)))).heap[gb269]? = some (.cells #[.slice A0_0 l0_0.length c0_0, .slice A0_1 l0_1.length c0_1] 28 (0, 0))) := ⟨by (with_reducible repeat first | apply k1 | apply k2 | apply k3); refine blk_far ?_ (by have h_ := Kd.R_ne HO277.out BK269.out (by decide); intro e_; exact h_ (by rw [e_]; rfl)) _; (with_reducible repeat first | apply k1 | apply k2 | apply k3); exact BK269.out⟩
    have n3_ : Aside0 ((w25.setCell ⟨go9, (a1 : Int).toNat, none⟩ (.int .i64 (wrap64 ((rd t275 a1) + a2)))).heap[gb270]? = some (.cells #[.slice none 0 0, .slice none 0 0] 28 (0, 0))) := ⟨by (with_reducible repeat first | apply k1 | apply k2 | apply k3); refine blk_far ?_ (by have h_ := Kd.R_ne HO277.out BK270.out (by decide); intro e_; exact h_ (by rw [e_]; rfl)) _; (with_reducible repeat first | apply k1 | apply k2 | apply k3); exact BK270.out⟩
    have n4_ : Aside0 ((w25.setCell ⟨go9, (a1 : Int).toNat, none⟩ (.int .i64 (wrap64 ((rd t275 a1) + a2)))).heap[gb278]? = some (.cells #[.slice Ao19 t272.length co19, .slice (some ⟨go9, 0, none⟩) t275.length co23] 28 (0, 0))) := ⟨by (with_reducible repeat first | apply k1 | apply k2 | apply k3); refine blk_far ?_ (by have h_ := Kd.R_ne HO277.out BK278.out (by decide); intro e_; exact h_ (by rw [e_]; rfl)) _; (with_reducible repeat first | apply k1 | apply k2 | apply k3); exact BK278.out⟩
    have n5_ : Aside0 (Below w.heap.size w (w25.setCell ⟨go9, (a1 : Int).toNat, none⟩ (.int .i64 (wrap64 ((rd t275 a1) + a2))))) := ⟨by repeat (first | (with_reducible first | exact HB.out | apply below_alloc | apply pw_below_drewN | apply below_drew1 | refine below_set ?_ GB9.out | refine below_set ?_ GE269.out | refine below_set ?_ GE270.out | refine below_set ?_ GE278.out) | exact HB.out)⟩
    (try clear HO274)
    (try clear HO277)
    (try clear BK269)
    (try clear BK270)
    (try clear BK278)
    (try clear HB)
    generalize (w25.setCell ⟨go9, (a1 : Int).toNat, none⟩ (.int .i64 (wrap64 ((rd t275 a1) + a2)))) = w27 at n0_ n1_ n2_ n3_ n4_ n5_ ⊢
    have HO274 := n0_
    have HO277 := n1_
    have BK269 := n2_
    have BK270 := n3_
    have BK278 := n4_
    have HB := n5_
    clear n0_ n1_ n2_ n3_ n4_ n5_
    have hcz28_0 : w27.cell? ⟨gb278, 0, none⟩ = some (.slice Ao19 t272.length co19) := kx BK278.out
    have hcz28_1 : w27.cell? ⟨gb278, 1, none⟩ = some (.slice (some ⟨go9, 0, none⟩) t275.length co23) := kx BK278.out
    have hfz28_0 := blk_frozen BK278.out 0
    have hfz28_1 := blk_frozen BK278.out 1
    try go_wp2_with (first | ((with_reducible refine gate_callee (f := 52) rfl ?_); refine kG (some 29) Try.func52 #[.agg #[.slice Ao19 t272.length co19, .slice (some ⟨go9, 0, none⟩) t275.length co23]] ?_; (with_reducible refine (spec_l06Done.calls k (fun k_ => (((((w.heap.size ≤ k_) ∧ some k_ ≠ (.slice (some ⟨go9, 0, none⟩) t275.length co23 : Value).ownBlock) ∧ k_ ≠ gb269) ∧ k_ ≠ gb270) ∧ k_ ≠ gb278)) _ _ t272 (fun k_ => some k_ = (.slice (some ⟨go9, 0, none⟩) t275.length co23 : Value).ownBlock) (.slice (some ⟨go9, 0, none⟩) t275.length co23) y280 t281 t284 t287 w _ ?side1 ?side2 ?side3 A10.out).mono ?_); (case side1 => repeat (first | (with_reducible first | exact HB.out | apply below_alloc | apply pw_below_drewN | apply below_drew1 | refine below_set ?_ GE269.out | refine below_set ?_ GE270.out | refine below_set ?_ GE278.out) | exact HB.out)); (case side2 => exact Kd.V_mono (Kd.S_V (Kd.S_types (Kd.S_types (Kd.S_types (HO274.out) BK269.out (by decide)) BK270.out (by decide)) BK278.out (by decide))) (fun k_ hk_ => ⟨hk_, hk_.1.1.1.2⟩)); (case side3 => exact Kd.R_tight rfl HO277.out); rintro e w29 ⟨v282, v285, rfl, ho0, ho1, hb, hkp⟩; refine ⟨_, rfl, ?_⟩; have n0_ := k0 (kK BK269.out hkp (fun hs_ => (fun e_ => (Kd.R_ne HO277.out BK269.out (by decide)) e_) hs_)); have n1_ := k0 (kK BK270.out hkp (fun hs_ => (fun e_ => (Kd.R_ne HO277.out BK270.out (by decide)) e_) hs_)); have n2_ := k0 (Kd.S_mono (ok' := fun k_ => (w.heap.size ≤ k_) ∧ some k_ ≠ (v285 : Value).ownBlock) (Kd.S_keptB (HO274.out) hkp (fun k_ hk_ hs_ => (hk_.2) hs_)) (fun k_ hk_ => ⟨hk_.1.1, fun e_ => Or.elim (ho1.1 k_ e_.symm) (fun hs_ => hk_.2.1 hs_) (fun hn_ => Nat.not_le.2 hk_.2.2 hn_)⟩)); have n3_ := k0 (kK BK278.out hkp (fun hs_ => (fun e_ => (Kd.R_ne HO277.out BK278.out (by decide)) e_) hs_)); have n4_ := k0 (Kd.V_mono (ok' := fun k_ => (w.heap.size ≤ k_) ∧ some k_ ≠ (v285 : Value).ownBlock ∧ k_ ≠ gb269 ∧ k_ ≠ gb270 ∧ k_ ≠ gb278) ho0 (fun k_ hk_ => ⟨Or.elim hk_.1 (fun hs_ => Or.elim hs_ (fun hs_ => (HO277.out.1 k_ (hs_).symm)) (fun hs_ => hs_.1.1.1.1)) (fun hn_ => (Nat.le_trans (below_size (kW HB.out)) hn_)), hk_.2, Or.elim hk_.1 (fun hs_ => Or.elim hs_ (fun hs_ => fun e_ => (Kd.R_ne HO277.out BK269.out (by decide)) (by rw [← e_]; exact hs_)) (fun hs_ => hs_.1.1.2)) (fun hn_ => (Kd.freshB (g := gb269) (o := .cells #[.slice A0_0 l0_0.length c0_0, .slice A0_1 l0_1.length c0_1] 28 (0, 0)) (kB BK269.out) k_ hn_)), Or.elim hk_.1 (fun hs_ => Or.elim hs_ (fun hs_ => fun e_ => (Kd.R_ne HO277.out BK270.out (by decide)) (by rw [← e_]; exact hs_)) (fun hs_ => hs_.1.2)) (fun hn_ => (Kd.freshB (g := gb270) (o := .cells #[.slice none 0 0, .slice none 0 0] 28 (0, 0)) (kB BK270.out) k_ hn_)), Or.elim hk_.1 (fun hs_ => Or.elim hs_ (fun hs_ => fun e_ => (Kd.R_ne HO277.out BK278.out (by decide)) (by rw [← e_]; exact hs_)) (fun hs_ => hs_.2)) (fun hn_ => (Kd.freshB (g := gb278) (o := .cells #[.slice Ao19 t272.length co19, .slice (some ⟨go9, 0, none⟩) t275.length co23] 28 (0, 0)) (kB BK278.out) k_ hn_))⟩)); have n5_ := k0 (Kd.R_mono (ok' := fun k_ => (w.heap.size ≤ k_)) ho1 (fun k_ hk_ => Or.elim hk_ (fun hs_ => (HO277.out.1 k_ (hs_).symm)) (fun hn_ => (Nat.le_trans (below_size (kW HB.out)) hn_)))); have n6_ := k0 (hb); clear BK269; clear BK270; clear HO274; clear BK278; clear HB; clear HO277; have BK269 := n0_; have BK270 := n1_; have HO274 := n2_; have BK278 := n3_; have HO283 := n4_; have HO286 := n5_; have HB := n6_; clear n0_ n1_ n2_ n3_ n4_ n5_ n6_; (try clear hb); (try clear hkp); (try clear ho0); (try clear ho1); obtain ⟨Ao30, co30, eo30⟩ := Kd.V_slice HO283.out; subst eo30; have hcz31_0 : w29.cell? ⟨gb270, 0, none⟩ = some (.slice none 0 0) := kx BK270.out; have hcz31_1 : w29.cell? ⟨gb270, 1, none⟩ = some (.slice none 0 0) := kx BK270.out; have hfz31_0 := blk_frozen BK270.out 0; have hfz31_1 := blk_frozen BK270.out 1; obtain ⟨Ao32, co32, eo32⟩ := Kd.R_slice HO286.out; subst eo32))
    refine bodyPost_ret (results_ct rfl _ _ gb270 28 #[.slice Ao30 t281.length co30, .slice Ao32 t284.length co32] (0, 0) _ rfl (by (with_reducible repeat first | apply k1 | apply k2 | apply k3); refine blk_put (cs := #[.slice Ao30 t281.length co30, .slice none 0 0]) ?_ 1 _ rfl; (with_reducible repeat first | apply k1 | apply k2 | apply k3); refine blk_put (cs := #[.slice none 0 0, .slice none 0 0]) ?_ 0 _ rfl; (with_reducible repeat first | apply k1 | apply k2 | apply k3); exact BK270.out) Try.underlying28 rfl (by kernel_rfl)) rfl ?_
    exact ⟨_, _, by first | rfl | (simp [errW_none, errW_some] <;> rfl) | (simp [*, errW_none, errW_some] <;> rfl), by (with_reducible repeat (first | apply Kd.V_alloc | apply Kd.V_drewN | apply Kd.V_drew)); exact Kd.V_mono (Kd.V_far (p := ⟨gb270, 1, none⟩) (Kd.V_far (p := ⟨gb270, 0, none⟩) (Kd.V_mono HO283.out (fun k_ hk => (⟨hk, hk.2.2.2.1⟩ : _ ∧ k_ ≠ gb270))) (fun _ hk => hk.2) (.slice Ao30 t281.length co30)) (fun _ hk => hk.2) (.slice Ao32 t284.length co32)) (fun _ hk => ⟨hk.1.1, hk.1.2.1⟩), by (with_reducible repeat (first | apply Kd.R_alloc | apply Kd.R_drewN | apply Kd.R_drew)); exact Kd.R_mono (Kd.R_far (p := ⟨gb270, 1, none⟩) (Kd.R_far (p := ⟨gb270, 0, none⟩) (Kd.R_types HO286.out BK270.out (by decide)) (fun _ hk => hk.2) (.slice Ao30 t281.length co30)) (fun _ hk => hk.2) (.slice Ao32 t284.length co32)) (fun _ hk => hk.1), by repeat (first | (with_reducible first | exact HB.out | apply below_alloc | apply pw_below_drewN | apply below_drew1 | refine below_set ?_ GE269.out | refine below_set ?_ GE270.out | refine below_set ?_ GE278.out) | exact HB.out)⟩
   ·rw [if_neg c8] at H
    exact absurd H (by simp)
  ·rw [if_neg c7] at H
   exact absurd H (by simp)
 ·replace c5 := Bool.eq_false_iff.mpr c5
  subst c5
  have H1 : (some (([] : List (List Int)), ([] : List Int), false)) = some (r1, r2, r3) := by rw [if_neg (show ¬ (false = true) by decide)] at H; exact H
  clear H
  have H := H1
  clear H1
  simp only [Option.some.injEq, Prod.mk.injEq] at H
  obtain ⟨rfl, rfl, rfl⟩ := H
  go_enter Try.func30, Try.ntmps30
  go_wp2_with (first | ((with_reducible refine gate_dst (N := 3) rfl ?_); refine kE (N := 3) (cs := #[.slice A0_0 l0_0.length c0_0, .slice A0_1 l0_1.length c0_1]) (t := 28) ?_; intro gb269 hg w33 hbox hb; have n0_ := k0 (below_step (kW HB.out) hb); have n1_ := k0 (hbox); have n2_ := k0 (kY HB.out hg); have n3_ := k0 (kY HB.out hg); clear HB; have HB := n0_; have BK269 := n1_; have GW269 := n2_; have GE269 := n3_; clear n0_ n1_ n2_ n3_; clear hb hbox hg) | ((with_reducible refine gate_dst (N := 6) rfl ?_); refine kE (N := 6) (cs := #[.slice none 0 0, .slice none 0 0]) (t := 28) ?_; intro gb270 hg w34 hbox hb; have n0_ := k0 (kb BK269.out hb); have n1_ := k0 (below_step (kW HB.out) hb); have n2_ := k0 (hbox); have n3_ := k0 (kY HB.out hg); have n4_ := k0 (kY HB.out hg); have n5_ := k0 ((by rw [hg]; exact Nat.ne_of_lt (blk_lt (g := gb269) (o := .cells #[.slice A0_0 l0_0.length c0_0, .slice A0_1 l0_1.length c0_1] 28 (0, 0)) (kB BK269.out)) : gb269 ≠ gb270)); have n6_ := k0 ((by rw [hg]; exact Nat.ne_of_gt (blk_lt (g := gb269) (o := .cells #[.slice A0_0 l0_0.length c0_0, .slice A0_1 l0_1.length c0_1] 28 (0, 0)) (kB BK269.out)) : gb270 ≠ gb269)); clear BK269; clear HB; have BK269 := n0_; have HB := n1_; have BK270 := n2_; have GW270 := n3_; have GE270 := n4_; have NB269_270 := n5_; have NB270_269 := n6_; clear n0_ n1_ n2_ n3_ n4_ n5_ n6_; clear hb hbox hg; have hnb35 := NB269_270.out; have hnc35 := NB270_269.out; have hcz36_0 : w34.cell? ⟨gb269, 0, none⟩ = some (.slice A0_0 l0_0.length c0_0) := kx BK269.out; have hcz36_1 : w34.cell? ⟨gb269, 1, none⟩ = some (.slice A0_1 l0_1.length c0_1) := kx BK269.out; have hfz36_0 := blk_frozen BK269.out 0; have hfz36_1 := blk_frozen BK269.out 1) | ((with_reducible refine gate_callee (f := 58) rfl ?_); refine kG (some 12) Try.func58 #[.agg #[.slice A0_0 l0_0.length c0_0, .slice A0_1 l0_1.length c0_1], .int .i64 a1, .int .i64 a2] ?_; (with_reducible refine (spec_l06May.calls k _ _ l0_0 _ _ l0_1 a1 a2 false _ ?side1 ?side2 ?side3 ?side4 A4.out).mono ?_); (case side1 => exact kC (Kd.C_below HR0_0.out HB.out)); (case side2 => exact HC0_0.out); (case side3 => exact kC (Kd.C_below HR0_1.out HB.out)); (case side4 => exact HC0_1.out); rintro e w37 ⟨rfl, hb⟩; refine ⟨_, rfl, ?_⟩; have n0_ := k0 (kb BK269.out hb); have n1_ := k0 (kb BK270.out hb); have n2_ := k0 (below_step (kW HB.out) hb); clear BK269; clear BK270; clear HB; have BK269 := n0_; have BK270 := n1_; have HB := n2_; clear n0_ n1_ n2_; (try clear hb); (try clear hb2); (try clear hk); (try clear hi); have hcz38_0 : w37.cell? ⟨gb270, 0, none⟩ = some (.slice none 0 0) := kx BK270.out; have hcz38_1 : w37.cell? ⟨gb270, 1, none⟩ = some (.slice none 0 0) := kx BK270.out; have hfz38_0 := blk_frozen BK270.out 0; have hfz38_1 := blk_frozen BK270.out 1))
  refine bodyPost_ret (results_ct rfl _ _ gb270 28 #[.slice none 0 0, .slice none 0 0] (0, 0) _ rfl (by (with_reducible repeat first | apply k1 | apply k2 | apply k3); refine blk_put (cs := #[.slice none 0 0, .slice none 0 0]) ?_ 1 _ rfl; (with_reducible repeat first | apply k1 | apply k2 | apply k3); refine blk_put (cs := #[.slice none 0 0, .slice none 0 0]) ?_ 0 _ rfl; (with_reducible repeat first | apply k1 | apply k2 | apply k3); exact BK270.out) Try.underlying28 rfl (by kernel_rfl)) rfl ?_
  exact ⟨_, _, by first | rfl | (simp [errW_none, errW_some] <;> rfl) | (simp [*, errW_none, errW_some] <;> rfl), Kd.V_nil _ _ _ _ _, by first | exact Kd.R_nil _ _ _ _ _ | exact Kd.N_nil _ _ _ _ _ | exact Kd.V_nil _ _ _ _ _ | exact Kd.Q_nil _ _ _ _ _ | exact Kd.S_nil _ _ _ _ _, by repeat (first | (with_reducible first | exact HB.out | apply below_alloc | apply pw_below_drewN | apply below_drew1 | refine below_set ?_ GE269.out | refine below_set ?_ GE270.out) | exact HB.out)⟩

/-! ### spec_Hand: function 32 -/
def spec_Hand.j0 : Nat → Int → Int → Int → Bool → List (List Int) → List Int → Option ((List (List Int)) × List Int × Bool)
 | 0, _, _, _, _, _, _ => none
 | k + 1, x1, x2, x3, x27, x289000, x289001 => if x27 = true then (some (([] : List (List Int)), ([] : List Int), false)) else ((spec_l06Copy.f k x289000 x289001).bind fun bt292 => (if 0 ≤ x1 then (if x1 < (bt292.1.length : Int) then (if 0 ≤ x2 then (if x2 < ((rd_L1 bt292.1 x1).length : Int) then ((spec_l06Done.f k (bt292.1.set (x1 : Int).toNat ((rd_L1 bt292.1 x1).set (x2 : Int).toNat (wrap64 ((rd (rd_L1 bt292.1 x1) x2) + x3)))) bt292.2).bind fun bt305 => (some (bt305.1, bt305.2.1, bt305.2.2))) else (none)) else (none)) else (none)) else (none)))
def spec_Hand.f (k : Nat) (l0_0 : List (List Int)) (l0_1 : List Int) (a1 : Int) (a2 : Int) (a3 : Int) : Option ((List (List Int)) × List Int × Bool) := (spec_l06May.f k l0_0 l0_1 a1 a3).bind fun t290 => (if t290 = true then ((spec_l06May.f k l0_0 l0_1 a2 a3).bind fun t291 => (if t291 = true then (spec_Hand.j0 k a1 a2 a3 (a1 == a2) l0_0 l0_1) else (spec_Hand.j0 k a1 a2 a3 true l0_0 l0_1))) else (spec_Hand.j0 k a1 a2 a3 true l0_0 l0_1))
theorem spec_Hand.mono_l : ∀ k, (∀ y0 y1 y2 y3 y4 y5, LeO (spec_Hand.j0 k y0 y1 y2 y3 y4 y5) (spec_Hand.j0 (k + 1) y0 y1 y2 y3 y4 y5))
 | 0 => fun _ _ _ _ _ _ r h => by simp [spec_Hand.j0] at h
 | k + 1 => by
  have ih0 := spec_Hand.mono_l k
  ·intro y0 y1 y2 y3 y4 y5
   unfold spec_Hand.j0
   repeat' first
   | (with_reducible exact ih0 _ _ _ _ _ _)
   | (with_reducible exact spec_l06Copy.mono _ _ _)
   | (with_reducible exact spec_l06Done.mono _ _ _)
   | (with_reducible exact spec_l06May.mono _ _ _ _ _)
   | (with_reducible exact LeO.refl _)
   | (with_reducible exact LeO.none _)
   | (with_reducible refine LeO.ite ?_ ?_)
   | (with_reducible refine LeO.bind ?_ (fun _ => ?_))
   | exact ih0 _ _ _ _ _ _
   | exact spec_l06Copy.mono _ _ _
   | exact spec_l06Done.mono _ _ _
   | exact spec_l06May.mono _ _ _ _ _
   | exact LeO.none _
   | refine LeO.ite ?_ ?_
   | refine LeO.bind ?_ (fun _ => ?_)
theorem spec_Hand.mono : ∀ a0 a1 a2 a3 a4 k, LeO (spec_Hand.f k a0 a1 a2 a3 a4) (spec_Hand.f (k + 1) a0 a1 a2 a3 a4) := by
 intro a0 a1 a2 a3 a4 k
 have ih0 := spec_Hand.mono_l k
 unfold spec_Hand.f
 repeat' first
   | (with_reducible exact ih0 _ _ _ _ _ _)
   | (with_reducible exact spec_l06Copy.mono _ _ _)
   | (with_reducible exact spec_l06Done.mono _ _ _)
   | (with_reducible exact spec_l06May.mono _ _ _ _ _)
   | (with_reducible exact LeO.refl _)
   | (with_reducible exact LeO.none _)
   | (with_reducible refine LeO.ite ?_ ?_)
   | (with_reducible refine LeO.bind ?_ (fun _ => ?_))
   | exact ih0 _ _ _ _ _ _
   | exact spec_l06Copy.mono _ _ _
   | exact spec_l06Done.mono _ _ _
   | exact spec_l06May.mono _ _ _ _ _
   | exact LeO.none _
   | refine LeO.ite ?_ ?_
   | refine LeO.bind ?_ (fun _ => ?_)
def spec_Hand.T4 : Bool × List (List Nat × List Nat) := (true, [([], []), ([0], [0]), ([], []), ([1, 2], [1, 2]), ([3], [3]), ([], []), ([], []), ([6], [6]), ([], []), ([7, 8], [7, 8]), ([9], [9]), ([], []), ([10, 11], [10, 11]), ([12], [12]), ([], []), ([13, 14], [13, 14]), ([4, 5, 0, 1, 2, 3, 4, 5, 6, 7, 8, 9, 10, 11, 12, 13, 14, 15], [4, 5]), ([16, 15, 0, 1, 2, 3, 4, 5, 6, 7, 8, 9, 10, 11, 12, 13, 14, 15], [15, 16])])
def spec_Hand.B4 : List Nat := [0, 1, 0, 7, 15, 0, 0, 64, 0, 448, 960, 0, 4032, 8128, 0, 32704, 65535, 131071]
theorem spec_Hand.tab4 : rtab .any (opsOf Try.f32 4) = spec_Hand.T4 := by kernel_rfl
theorem spec_Hand.bits4 : waitsOk spec_Hand.T4.2 spec_Hand.B4 = true := by kernel_rfl
set_option maxHeartbeats 8000000 in
set_option maxRecDepth 100000 in
theorem spec_Hand.calls (k : Nat) (A0_0 : Option Addr) (c0_0 : Nat) (l0_0 : List (List Int)) (A0_1 : Option Addr) (c0_1 : Nat) (l0_1 : List Int) (a1 : Int) (a2 : Int) (a3 : Int) (r1 : List (List Int)) (r2 : List Int) (r3 : Bool) (w : World) (hr0_0 : Kd.C (Kd.slice 3 (Kd.int .i64)) w A0_0 l0_0.length l0_0) (hc0_0 : l0_0.length ≤ c0_0) (hr0_1 : Kd.C (Kd.int .i64) w A0_1 l0_1.length l0_1) (hc0_1 : l0_1.length ≤ c0_1) (h : spec_Hand.f k l0_0 l0_1 a1 a2 a3 = some (r1, r2, r3)) :
  Calls Try.prog 32 #[.agg #[.slice A0_0 l0_0.length c0_0, .slice A0_1 l0_1.length c0_1], .int .i64 a1, .int .i64 a2, .int .i64 a3] w fun e w' => ∃ v0_ v1_ : Value, e = .returned (.tuple #[.agg #[v0_, v1_], .bool r3]) ∧ Kd.V (Kd.slice 3 (Kd.int .i64)) 23 w' w.heap.size (fun k_ => (w.heap.size ≤ k_) ∧ some k_ ≠ (v1_ : Value).ownBlock) v0_ r1 ∧ Kd.R (Kd.int .i64) 3 w' w.heap.size (fun k_ => (w.heap.size ≤ k_)) v1_ r2 ∧ Below w.heap.size w w' := by
 have hu28 := Try.underlying28
 have HR0_0 := Aside0.mk hr0_0
 have HC0_0 := Aside0.mk hc0_0
 clear hr0_0 hc0_0
 have HR0_1 := Aside0.mk hr0_1
 have HC0_1 := Aside0.mk hc0_1
 clear hr0_1 hc0_1
 have HB := k0 (Below.refl w.heap.size w)
 have H : ((spec_l06May.f k l0_0 l0_1 a1 a3).bind fun t290 => (if t290 = true then ((spec_l06May.f k l0_0 l0_1 a2 a3).bind fun t291 => (if t291 = true then (spec_Hand.j0 k a1 a2 a3 (a1 == a2) l0_0 l0_1) else (spec_Hand.j0 k a1 a2 a3 true l0_0 l0_1))) else (spec_Hand.j0 k a1 a2 a3 true l0_0 l0_1))) = some (r1, r2, r3) := h
 clear h
 have HC5 := Aside0.mk H
 clear H
 go_enter Try.func32, Try.ntmps32
 go_upto_region 1 with (first | ((with_reducible refine gate_dst (N := 4) rfl ?_); refine kE (N := 4) (cs := #[.slice A0_0 l0_0.length c0_0, .slice A0_1 l0_1.length c0_1]) (t := 28) ?_; intro gb288 hg w6 hbox hb; have n0_ := k0 (below_step (kW HB.out) hb); have n1_ := k0 (hbox); have n2_ := k0 (kY HB.out hg); have n3_ := k0 (kY HB.out hg); clear HB; have HB := n0_; have BK288 := n1_; have GW288 := n2_; have GE288 := n3_; clear n0_ n1_ n2_ n3_; clear hb hbox hg) | ((with_reducible refine gate_dst (N := 8) rfl ?_); refine kE (N := 8) (cs := #[.slice none 0 0, .slice none 0 0]) (t := 28) ?_; intro gb289 hg w7 hbox hb; have n0_ := k0 (kb BK288.out hb); have n1_ := k0 (below_step (kW HB.out) hb); have n2_ := k0 (hbox); have n3_ := k0 (kY HB.out hg); have n4_ := k0 (kY HB.out hg); have n5_ := k0 ((by rw [hg]; exact Nat.ne_of_lt (blk_lt (g := gb288) (o := .cells #[.slice A0_0 l0_0.length c0_0, .slice A0_1 l0_1.length c0_1] 28 (0, 0)) (kB BK288.out)) : gb288 ≠ gb289)); have n6_ := k0 ((by rw [hg]; exact Nat.ne_of_gt (blk_lt (g := gb288) (o := .cells #[.slice A0_0 l0_0.length c0_0, .slice A0_1 l0_1.length c0_1] 28 (0, 0)) (kB BK288.out)) : gb289 ≠ gb288)); clear BK288; clear HB; have BK288 := n0_; have HB := n1_; have BK289 := n2_; have GW289 := n3_; have GE289 := n4_; have NB288_289 := n5_; have NB289_288 := n6_; clear n0_ n1_ n2_ n3_ n4_ n5_ n6_; clear hb hbox hg))
 (try simp only [Act.put, List.setIfInBounds_toArray, List.set_cons_zero, List.set_cons_succ])
 go_cut [27] (fun v27 wc => ∃ (kq : Nat) (x27_4 : Bool), v27 = .bool x27_4 ∧ Aside0 (spec_Hand.j0 kq a1 a2 a3 x27_4 l0_0 l0_1 = some (r1, r2, r3)) ∧ Aside0 (kq ≤ k) ∧ Aside0 (wc.heap[gb288]? = some (.cells #[(.slice A0_0 l0_0.length c0_0), (.slice A0_1 l0_1.length c0_1)] 28 (0, 0))) ∧ Aside0 (wc.heap[gb289]? = some (.cells #[(.slice none 0 0), (.slice none 0 0)] 28 (0, 0))) ∧ Aside0 (Below w.heap.size w wc))
 case first =>
  have H := HC5.out
  clear HC5
  replace H := Option.bind_eq_some_iff.mp H
  obtain ⟨t290, A80, H⟩ := H
  replace H : (if t290 = true then ((spec_l06May.f k l0_0 l0_1 a2 a3).bind fun t291 => (if t291 = true then (spec_Hand.j0 k a1 a2 a3 (a1 == a2) l0_0 l0_1) else (spec_Hand.j0 k a1 a2 a3 true l0_0 l0_1))) else (spec_Hand.j0 k a1 a2 a3 true l0_0 l0_1)) = some (r1, r2, r3) := H
  have A8 := Aside0.mk A80
  clear A80
  by_cases c9 : t290 = true
  ·subst c9
   have H1 : ((spec_l06May.f k l0_0 l0_1 a2 a3).bind fun t291 => (if t291 = true then (spec_Hand.j0 k a1 a2 a3 (a1 == a2) l0_0 l0_1) else (spec_Hand.j0 k a1 a2 a3 true l0_0 l0_1))) = some (r1, r2, r3) := by rw [if_pos rfl] at H; exact H
   clear H
   have H := H1
   clear H1
   replace H := Option.bind_eq_some_iff.mp H
   obtain ⟨t291, A100, H⟩ := H
   replace H : (if t291 = true then (spec_Hand.j0 k a1 a2 a3 (a1 == a2) l0_0 l0_1) else (spec_Hand.j0 k a1 a2 a3 true l0_0 l0_1)) = some (r1, r2, r3) := H
   have A10 := Aside0.mk A100
   clear A100
   by_cases c11 : t291 = true
   ·subst c11
    have H1 : (spec_Hand.j0 k a1 a2 a3 (a1 == a2) l0_0 l0_1) = some (r1, r2, r3) := by rw [if_pos rfl] at H; exact H
    clear H
    have H := H1
    clear H1
    have H' := Aside0.mk H
    clear H
    have hnb12 := NB288_289.out
    have hnc12 := NB289_288.out
    have hcz13_0 : w7.cell? ⟨gb288, 0, none⟩ = some (.slice A0_0 l0_0.length c0_0) := kx BK288.out
    have hcz13_1 : w7.cell? ⟨gb288, 1, none⟩ = some (.slice A0_1 l0_1.length c0_1) := kx BK288.out
    have hfz13_0 := blk_frozen BK288.out 0
    have hfz13_1 := blk_frozen BK288.out 1
    go_wp2_with (first | ((with_reducible refine gate_callee (f := 58) rfl ?_); refine kG (some 14) Try.func58 #[.agg #[.slice A0_0 l0_0.length c0_0, .slice A0_1 l0_1.length c0_1], .int .i64 a1, .int .i64 a3] ?_; (with_reducible refine (spec_l06May.calls k _ _ l0_0 _ _ l0_1 a1 a3 true _ ?side1 ?side2 ?side3 ?side4 A8.out).mono ?_); (case side1 => exact kC (Kd.C_below HR0_0.out HB.out)); (case side2 => exact HC0_0.out); (case side3 => exact kC (Kd.C_below HR0_1.out HB.out)); (case side4 => exact HC0_1.out); rintro e w14 ⟨rfl, hb⟩; refine ⟨_, rfl, ?_⟩; have n0_ := k0 (kb BK288.out hb); have n1_ := k0 (kb BK289.out hb); have n2_ := k0 (below_step (kW HB.out) hb); clear BK288; clear BK289; clear HB; have BK288 := n0_; have BK289 := n1_; have HB := n2_; clear n0_ n1_ n2_; (try clear hb); (try clear hb2); (try clear hk); (try clear hi); have hcz15_0 : w14.cell? ⟨gb288, 0, none⟩ = some (.slice A0_0 l0_0.length c0_0) := kx BK288.out; have hcz15_1 : w14.cell? ⟨gb288, 1, none⟩ = some (.slice A0_1 l0_1.length c0_1) := kx BK288.out; have hfz15_0 := blk_frozen BK288.out 0; have hfz15_1 := blk_frozen BK288.out 1) | (go_at_call 58; (with_reducible refine (spec_l06May.calls k _ _ l0_0 _ _ l0_1 a2 a3 true _ ?side1 ?side2 ?side3 ?side4 A10.out).mono ?_); (case side1 => exact kC (Kd.C_below HR0_0.out HB.out)); (case side2 => exact HC0_0.out); (case side3 => exact kC (Kd.C_below HR0_1.out HB.out)); (case side4 => exact HC0_1.out); rintro e w16 ⟨rfl, hb⟩; have n0_ := k0 (kb BK288.out hb); have n1_ := k0 (kb BK289.out hb); have n2_ := k0 (below_step (kW HB.out) hb); clear BK288; clear BK289; clear HB; have BK288 := n0_; have BK289 := n1_; have HB := n2_; clear n0_ n1_ n2_; (try clear hb); (try clear hb2); (try clear hk); (try clear hi)))
    go_meet
    case rel => exact ⟨_, ((a1 == a2)), (by first | rfl | (simp; done) | (simp [*]; done)), H', ⟨by first | omega | exact Nat.le_refl _⟩, ⟨kB BK288.out⟩, ⟨kB BK289.out⟩, ⟨by repeat (first | (with_reducible first | exact HB.out | apply below_alloc | apply pw_below_drewN | apply below_drew1 | refine below_set ?_ GE288.out | refine below_set ?_ GE289.out) | exact HB.out)⟩⟩
   ·replace c11 := Bool.eq_false_iff.mpr c11
    subst c11
    have H1 : (spec_Hand.j0 k a1 a2 a3 true l0_0 l0_1) = some (r1, r2, r3) := by rw [if_neg (show ¬ (false = true) by decide)] at H; exact H
    clear H
    have H := H1
    clear H1
    have H' := Aside0.mk H
    clear H
    have hnb17 := NB288_289.out
    have hnc17 := NB289_288.out
    have hcz18_0 : w7.cell? ⟨gb288, 0, none⟩ = some (.slice A0_0 l0_0.length c0_0) := kx BK288.out
    have hcz18_1 : w7.cell? ⟨gb288, 1, none⟩ = some (.slice A0_1 l0_1.length c0_1) := kx BK288.out
    have hfz18_0 := blk_frozen BK288.out 0
    have hfz18_1 := blk_frozen BK288.out 1
    go_wp2_with (first | ((with_reducible refine gate_callee (f := 58) rfl ?_); refine kG (some 14) Try.func58 #[.agg #[.slice A0_0 l0_0.length c0_0, .slice A0_1 l0_1.length c0_1], .int .i64 a1, .int .i64 a3] ?_; (with_reducible refine (spec_l06May.calls k _ _ l0_0 _ _ l0_1 a1 a3 true _ ?side1 ?side2 ?side3 ?side4 A8.out).mono ?_); (case side1 => exact kC (Kd.C_below HR0_0.out HB.out)); (case side2 => exact HC0_0.out); (case side3 => exact kC (Kd.C_below HR0_1.out HB.out)); (case side4 => exact HC0_1.out); rintro e w19 ⟨rfl, hb⟩; refine ⟨_, rfl, ?_⟩; have n0_ := k0 (kb BK288.out hb); have n1_ := k0 (kb BK289.out hb); have n2_ := k0 (below_step (kW HB.out) hb); clear BK288; clear BK289; clear HB; have BK288 := n0_; have BK289 := n1_; have HB := n2_; clear n0_ n1_ n2_; (try clear hb); (try clear hb2); (try clear hk); (try clear hi); have hcz20_0 : w19.cell? ⟨gb288, 0, none⟩ = some (.slice A0_0 l0_0.length c0_0) := kx BK288.out; have hcz20_1 : w19.cell? ⟨gb288, 1, none⟩ = some (.slice A0_1 l0_1.length c0_1) := kx BK288.out; have hfz20_0 := blk_frozen BK288.out 0; have hfz20_1 := blk_frozen BK288.out 1) | (go_at_call 58; (with_reducible refine (spec_l06May.calls k _ _ l0_0 _ _ l0_1 a2 a3 false _ ?side1 ?side2 ?side3 ?side4 A10.out).mono ?_); (case side1 => exact kC (Kd.C_below HR0_0.out HB.out)); (case side2 => exact HC0_0.out); (case side3 => exact kC (Kd.C_below HR0_1.out HB.out)); (case side4 => exact HC0_1.out); rintro e w21 ⟨rfl, hb⟩; have n0_ := k0 (kb BK288.out hb); have n1_ := k0 (kb BK289.out hb); have n2_ := k0 (below_step (kW HB.out) hb); clear BK288; clear BK289; clear HB; have BK288 := n0_; have BK289 := n1_; have HB := n2_; clear n0_ n1_ n2_; (try clear hb); (try clear hb2); (try clear hk); (try clear hi)))
    go_meet
    case rel => exact ⟨_, (true), (by first | rfl | (simp; done) | (simp [*]; done)), H', ⟨by first | omega | exact Nat.le_refl _⟩, ⟨kB BK288.out⟩, ⟨kB BK289.out⟩, ⟨by repeat (first | (with_reducible first | exact HB.out | apply below_alloc | apply pw_below_drewN | apply below_drew1 | refine below_set ?_ GE288.out | refine below_set ?_ GE289.out) | exact HB.out)⟩⟩
  ·replace c9 := Bool.eq_false_iff.mpr c9
   subst c9
   have H1 : (spec_Hand.j0 k a1 a2 a3 true l0_0 l0_1) = some (r1, r2, r3) := by rw [if_neg (show ¬ (false = true) by decide)] at H; exact H
   clear H
   have H := H1
   clear H1
   have H' := Aside0.mk H
   clear H
   have hnb22 := NB288_289.out
   have hnc22 := NB289_288.out
   have hcz23_0 : w7.cell? ⟨gb288, 0, none⟩ = some (.slice A0_0 l0_0.length c0_0) := kx BK288.out
   have hcz23_1 : w7.cell? ⟨gb288, 1, none⟩ = some (.slice A0_1 l0_1.length c0_1) := kx BK288.out
   have hfz23_0 := blk_frozen BK288.out 0
   have hfz23_1 := blk_frozen BK288.out 1
   go_wp2_with (first | ((with_reducible refine gate_callee (f := 58) rfl ?_); refine kG (some 14) Try.func58 #[.agg #[.slice A0_0 l0_0.length c0_0, .slice A0_1 l0_1.length c0_1], .int .i64 a1, .int .i64 a3] ?_; (with_reducible refine (spec_l06May.calls k _ _ l0_0 _ _ l0_1 a1 a3 false _ ?side1 ?side2 ?side3 ?side4 A8.out).mono ?_); (case side1 => exact kC (Kd.C_below HR0_0.out HB.out)); (case side2 => exact HC0_0.out); (case side3 => exact kC (Kd.C_below HR0_1.out HB.out)); (case side4 => exact HC0_1.out); rintro e w24 ⟨rfl, hb⟩; refine ⟨_, rfl, ?_⟩; have n0_ := k0 (kb BK288.out hb); have n1_ := k0 (kb BK289.out hb); have n2_ := k0 (below_step (kW HB.out) hb); clear BK288; clear BK289; clear HB; have BK288 := n0_; have BK289 := n1_; have HB := n2_; clear n0_ n1_ n2_; (try clear hb); (try clear hb2); (try clear hk); (try clear hi)))
   go_meet
   case rel => exact ⟨_, (true), (by first | rfl | (simp; done) | (simp [*]; done)), H', ⟨by first | omega | exact Nat.le_refl _⟩, ⟨kB BK288.out⟩, ⟨kB BK289.out⟩, ⟨by repeat (first | (with_reducible first | exact HB.out | apply below_alloc | apply pw_below_drewN | apply below_drew1 | refine below_set ?_ GE288.out | refine below_set ?_ GE289.out) | exact HB.out)⟩⟩
 case rest =>
  clear HC5
  try clear c1
  try clear c2
  try clear p2
  try clear c3
  try clear c5
  try clear c9
  try clear c11
  try clear c12
  try clear c17
  try clear c22
  try clear hcz13_0
  try clear hcz13_1
  try clear hcz15_0
  try clear hcz15_1
  try clear hcz18_0
  try clear hcz18_1
  try clear hcz20_0
  try clear hcz20_1
  try clear hcz23_0
  try clear hcz23_1
  try clear hfz13_0
  try clear hfz13_1
  try clear hfz15_0
  try clear hfz15_1
  try clear hfz18_0
  try clear hfz18_1
  try clear hfz20_0
  try clear hfz20_1
  try clear hfz23_0
  try clear hfz23_1
  obtain ⟨kq, x27_4, rfl, HA, HJ4, BK288, BK289, HB⟩ := hcut
  cases kq with
  | zero => exact absurd HA.out (by simp [spec_Hand.j0])
  | succ kj4 =>
   have H := HA.out
   clear HA
   simp only [spec_Hand.j0] at H
   by_cases c25 : x27_4 = true
   ·subst c25
    have H1 : (some (([] : List (List Int)), ([] : List Int), false)) = some (r1, r2, r3) := by rw [if_pos rfl] at H; exact H
    clear H
    have H := H1
    clear H1
    simp only [Option.some.injEq, Prod.mk.injEq] at H
    obtain ⟨rfl, rfl, rfl⟩ := H
    have hnb26 := NB289_288.out
    have hnc26 := NB288_289.out
    have hcz27_0 : wc.cell? ⟨gb289, 0, none⟩ = some (.slice none 0 0) := kx BK289.out
    have hcz27_1 : wc.cell? ⟨gb289, 1, none⟩ = some (.slice none 0 0) := kx BK289.out
    have hfz27_0 := blk_frozen BK289.out 0
    have hfz27_1 := blk_frozen BK289.out 1
    go_wp2
    refine bodyPost_ret (results_ct rfl _ _ gb289 28 #[.slice none 0 0, .slice none 0 0] (0, 0) _ rfl (by (with_reducible repeat first | apply k1 | apply k2 | apply k3); refine blk_put (cs := #[.slice none 0 0, .slice none 0 0]) ?_ 1 _ rfl; (with_reducible repeat first | apply k1 | apply k2 | apply k3); refine blk_put (cs := #[.slice none 0 0, .slice none 0 0]) ?_ 0 _ rfl; (with_reducible repeat first | apply k1 | apply k2 | apply k3); exact BK289.out) Try.underlying28 rfl (by kernel_rfl)) rfl ?_
    exact ⟨_, _, by first | rfl | (simp [errW_none, errW_some] <;> rfl) | (simp [*, errW_none, errW_some] <;> rfl), Kd.V_nil _ _ _ _ _, by first | exact Kd.R_nil _ _ _ _ _ | exact Kd.N_nil _ _ _ _ _ | exact Kd.V_nil _ _ _ _ _ | exact Kd.Q_nil _ _ _ _ _ | exact Kd.S_nil _ _ _ _ _, by repeat (first | (with_reducible first | exact HB.out | apply below_alloc | apply pw_below_drewN | apply below_drew1 | refine below_set ?_ GE288.out | refine below_set ?_ GE289.out) | exact HB.out)⟩
   ·replace c25 := Bool.eq_false_iff.mpr c25
    subst c25
    have H1 : ((spec_l06Copy.f kj4 l0_0 l0_1).bind fun bt292 => (if 0 ≤ a1 then (if a1 < (bt292.1.length : Int) then (if 0 ≤ a2 then (if a2 < ((rd_L1 bt292.1 a1).length : Int) then ((spec_l06Done.f kj4 (bt292.1.set (a1 : Int).toNat ((rd_L1 bt292.1 a1).set (a2 : Int).toNat (wrap64 ((rd (rd_L1 bt292.1 a1) a2) + a3)))) bt292.2).bind fun bt305 => (some (bt305.1, bt305.2.1, bt305.2.2))) else (none)) else (none)) else (none)) else (none))) = some (r1, r2, r3) := by rw [if_neg (show ¬ (false = true) by decide)] at H; exact H
    clear H
    have H := H1
    clear H1
    replace H := Option.bind_eq_some_iff.mp H
    obtain ⟨⟨t292, t295⟩, A280, H⟩ := H
    replace H : (if 0 ≤ a1 then (if a1 < (t292.length : Int) then (if 0 ≤ a2 then (if a2 < ((rd_L1 t292 a1).length : Int) then ((spec_l06Done.f kj4 (t292.set (a1 : Int).toNat ((rd_L1 t292 a1).set (a2 : Int).toNat (wrap64 ((rd (rd_L1 t292 a1) a2) + a3)))) t295).bind fun bt305 => (some (bt305.1, bt305.2.1, bt305.2.2))) else (none)) else (none)) else (none)) else (none)) = some (r1, r2, r3) := H
    have A28 := Aside0.mk A280
    clear A280
    by_cases c29 : 0 ≤ a1
    ·rw [if_pos c29] at H
     have c29b0 : decide (0 ≤ a1) = true := decide_eq_true c29
     clear c29
     by_cases c30 : a1 < (t292.length : Int)
     ·rw [if_pos c30] at H
      have c30b0 : decide (a1 < (t292.length : Int)) = true := decide_eq_true c30
      clear c30
      by_cases c31 : 0 ≤ a2
      ·rw [if_pos c31] at H
       have c31b0 : decide (0 ≤ a2) = true := decide_eq_true c31
       clear c31
       by_cases c32 : a2 < ((rd_L1 t292 a1).length : Int)
       ·rw [if_pos c32] at H
        have c32b0 : decide (a2 < ((rd_L1 t292 a1).length : Int)) = true := decide_eq_true c32
        clear c32
        obtain ⟨y302, hy302⟩ : ∃ y_ : List Int, y_ = ((rd_L1 t292 a1).set (a2 : Int).toNat (wrap64 ((rd (rd_L1 t292 a1) a2) + a3))) := ⟨_, rfl⟩
        replace H : ((spec_l06Done.f kj4 (t292.set (a1 : Int).toNat y302) t295).bind fun bt305 => (some (bt305.1, bt305.2.1, bt305.2.2))) = some (r1, r2, r3) := by first | (rw [hy302]; with_reducible exact H) | (have H2_ := (Option.bind_some _ _).symm.trans H; rw [hy302]; with_reducible exact H2_) | (have H2_ := (Option.bind_some _ _).symm.trans H; with_reducible exact H2_) | with_reducible exact H | (rw [hy302]; exact H) | exact H
        have Ny302 := Aside0.mk hy302
        clear hy302
        obtain ⟨y304, hy304⟩ : ∃ y_ : List (List Int), y_ = (t292.set (a1 : Int).toNat y302) := ⟨_, rfl⟩
        replace H : ((spec_l06Done.f kj4 y304 t295).bind fun bt305 => (some (bt305.1, bt305.2.1, bt305.2.2))) = some (r1, r2, r3) := by first | (rw [hy304]; with_reducible exact H) | (have H2_ := (Option.bind_some _ _).symm.trans H; rw [hy304]; with_reducible exact H2_) | (have H2_ := (Option.bind_some _ _).symm.trans H; with_reducible exact H2_) | with_reducible exact H | (rw [hy304]; exact H) | exact H
        have Ny304 := Aside0.mk hy304
        clear hy304
        replace H := Option.bind_eq_some_iff.mp H
        obtain ⟨⟨t305, t308, t311⟩, A340, H⟩ := H
        replace H : (some (t305, t308, t311)) = some (r1, r2, r3) := H
        have A34 := Aside0.mk A340
        clear A340
        simp only [Option.some.injEq, Prod.mk.injEq] at H
        obtain ⟨rfl, rfl, rfl⟩ := H
        have hnb35 := NB288_289.out
        have hnc35 := NB289_288.out
        have hcz36_0 : wc.cell? ⟨gb288, 0, none⟩ = some (.slice A0_0 l0_0.length c0_0) := kx BK288.out
        have hcz36_1 : wc.cell? ⟨gb288, 1, none⟩ = some (.slice A0_1 l0_1.length c0_1) := kx BK288.out
        have hfz36_0 := blk_frozen BK288.out 0
        have hfz36_1 := blk_frozen BK288.out 1
        try go_wp2_with (first | ((with_reducible refine gate_callee (f := 50) rfl ?_); refine kG (some 30) Try.func50 #[.agg #[.slice A0_0 l0_0.length c0_0, .slice A0_1 l0_1.length c0_1]] ?_; (with_reducible refine (spec_l06Copy.calls kj4 _ _ l0_0 _ _ l0_1 t292 t295 _ ?side1 ?side2 ?side3 ?side4 A28.out).mono ?_); (case side1 => exact kC (Kd.C_below HR0_0.out HB.out)); (case side2 => exact HC0_0.out); (case side3 => exact kC (Kd.C_below HR0_1.out HB.out)); (case side4 => exact HC0_1.out); rintro e w37 ⟨v293, v296, rfl, ho0, ho1, hb⟩; refine ⟨_, rfl, ?_⟩; have n0_ := k0 (Kd.S_lower (Kd.S_newM (M := fun k_ => (w.heap.size ≤ k_)) ho0 (below_size (kW HB.out)) (fun k_ h_ => h_)) (below_size (kW HB.out))); have n1_ := k0 (Kd.R_lower (Kd.R_newM (M := fun k_ => (w.heap.size ≤ k_)) ho1 (below_size (kW HB.out)) (fun k_ h_ => h_)) (below_size (kW HB.out))); have n2_ := k0 (kb BK288.out hb); have n3_ := k0 (kb BK289.out hb); have n4_ := k0 (below_step (kW HB.out) hb); clear BK288; clear BK289; clear HB; have HO294 := n0_; have HO297 := n1_; have BK288 := n2_; have BK289 := n3_; have HB := n4_; clear n0_ n1_ n2_ n3_ n4_; (try clear hb); (try clear hb2); (try clear hk); (try clear hi); (try clear ho0); (try clear ho1)) | ((with_reducible refine gate_dst (N := 10) rfl ?_); refine kE (N := 10) (cs := #[.slice none 0 0, .slice none 0 0]) (t := 28) ?_; intro gb298 hg w38 hbox hb; have n0_ := k0 (Kd.S_below (kS HO294.out) hb); have n1_ := k0 (Kd.R_below (kR HO297.out) hb); have n2_ := k0 (kb BK288.out hb); have n3_ := k0 (kb BK289.out hb); have n4_ := k0 (below_step (kW HB.out) hb); have n5_ := k0 (hbox); have n6_ := k0 (kY HB.out hg); have n7_ := k0 (kY HB.out hg); have n8_ := k0 ((by rw [hg]; exact Nat.ne_of_lt (blk_lt (g := gb288) (o := .cells #[.slice A0_0 l0_0.length c0_0, .slice A0_1 l0_1.length c0_1] 28 (0, 0)) (kB BK288.out)) : gb288 ≠ gb298)); have n9_ := k0 ((by rw [hg]; exact Nat.ne_of_gt (blk_lt (g := gb288) (o := .cells #[.slice A0_0 l0_0.length c0_0, .slice A0_1 l0_1.length c0_1] 28 (0, 0)) (kB BK288.out)) : gb298 ≠ gb288)); have n10_ := k0 ((by rw [hg]; exact Nat.ne_of_lt (blk_lt (g := gb289) (o := .cells #[.slice none 0 0, .slice none 0 0] 28 (0, 0)) (kB BK289.out)) : gb289 ≠ gb298)); have n11_ := k0 ((by rw [hg]; exact Nat.ne_of_gt (blk_lt (g := gb289) (o := .cells #[.slice none 0 0, .slice none 0 0] 28 (0, 0)) (kB BK289.out)) : gb298 ≠ gb289)); clear HO294; clear HO297; clear BK288; clear BK289; clear HB; have HO294 := n0_; have HO297 := n1_; have BK288 := n2_; have BK289 := n3_; have HB := n4_; have BK298 := n5_; have GW298 := n6_; have GE298 := n7_; have NB288_298 := n8_; have NB298_288 := n9_; have NB289_298 := n10_; have NB298_289 := n11_; clear n0_ n1_ n2_ n3_ n4_ n5_ n6_ n7_ n8_ n9_ n10_ n11_; clear hb hbox hg; obtain ⟨Ao39, co39, eo39⟩ := Kd.S_slice HO294.out; subst eo39; have hnb40 := NB298_288.out; have hnc40 := NB288_298.out; have hnb41 := NB298_289.out; have hnc41 := NB289_298.out; have hcz42_0 : w38.cell? ⟨gb298, 0, none⟩ = some (.slice none 0 0) := kx BK298.out; have hcz42_1 : w38.cell? ⟨gb298, 1, none⟩ = some (.slice none 0 0) := kx BK298.out; have hfz42_0 := blk_frozen BK298.out 0; have hfz42_1 := blk_frozen BK298.out 1; obtain ⟨Ao43, co43, eo43⟩ := Kd.R_slice HO297.out; subst eo43))
        have n0_ : Aside0 (Kd.S (Kd.slice 3 (Kd.int .i64)) 23 ((w38.setCell ⟨gb298, 0, none⟩ (.slice Ao39 t292.length co39)).setCell ⟨gb298, 1, none⟩ (.slice Ao43 t295.length co43)) w.heap.size (fun k_ => (w.heap.size ≤ k_) ∧ some k_ ≠ (.slice Ao43 t295.length co43 : Value).ownBlock) (.slice Ao39 t292.length co39) t292) := ⟨by (with_reducible repeat (first | apply Kd.S_alloc | apply Kd.S_drewN | apply Kd.S_drew)); exact Kd.S_mono (Kd.S_far (p := ⟨gb298, 1, none⟩) (Kd.S_far (p := ⟨gb298, 0, none⟩) (Kd.S_types HO294.out BK298.out (by decide)) (fun _ hk => hk.2) (.slice Ao39 t292.length co39)) (fun _ hk => hk.2) (.slice Ao43 t295.length co43)) (fun _ hk => ⟨hk.1.1, hk.1.2⟩)⟩
        have n1_ : Aside0 (Kd.R (Kd.int .i64) 3 ((w38.setCell ⟨gb298, 0, none⟩ (.slice Ao39 t292.length co39)).setCell ⟨gb298, 1, none⟩ (.slice Ao43 t295.length co43)) w.heap.size (fun k_ => (w.heap.size ≤ k_)) (.slice Ao43 t295.length co43) t295) := ⟨by (with_reducible repeat (first | apply Kd.R_alloc | apply Kd.R_drewN | apply Kd.R_drew)); exact Kd.R_mono (Kd.R_far (p := ⟨gb298, 1, none⟩) (Kd.R_far (p := ⟨gb298, 0, none⟩) (Kd.R_types HO297.out BK298.out (by decide)) (fun _ hk => hk.2) (.slice Ao39 t292.length co39)) (fun _ hk => hk.2) (.slice Ao43 t295.length co43)) (fun _ hk => hk.1.1)⟩
        have n2_ : Aside0 (((w38.setCell ⟨gb298, 0, none⟩ (.slice Ao39 t292.length co39)).setCell ⟨gb298, 1, none⟩ (.slice Ao43 t295.length co43)).heap[gb288]? = some (.cells #[.slice A0_0 l0_0.length c0_0, .slice A0_1 l0_1.length c0_1] 28 (0, 0))) := ⟨by (with_reducible repeat first | apply k1 | apply k2 | apply k3); refine blk_far ?_ NB288_298.out _; (with_reducible repeat first | apply k1 | apply k2 | apply k3); refine blk_far ?_ NB288_298.out _; (with_reducible repeat first | apply k1 | apply k2 | apply k3); exact BK288.out⟩
        have n3_ : Aside0 (((w38.setCell ⟨gb298, 0, none⟩ (.slice Ao39 t292.length co39)).setCell ⟨gb298, 1, none⟩ (.slice Ao43 t295.length co43)).heap[gb289]? = some (.cells #[.slice none 0 0, .slice none 0 0] 28 (0, 0))) := ⟨by (with_reducible repeat first | apply k1 | apply k2 | apply k3); refine blk_far ?_ NB289_298.out _; (with_reducible repeat first | apply k1 | apply k2 | apply k3); refine blk_far ?_ NB289_298.out _; (with_reducible repeat first | apply k1 | apply k2 | apply k3); exact BK289.out⟩
        have n4_ : Aside0 (((w38.setCell ⟨gb298, 0, none⟩ (.slice Ao39 t292.length co39)).setCell ⟨gb298, 1, none⟩ (.slice Ao43 t295.length co43)).heap[gb298]? = some (.cells #[.slice Ao39 t292.length co39, .slice Ao43 t295.length co43] 28 (0, 0))) := ⟨by (with_reducible repeat first | apply k1 | apply k2 | apply k3); refine blk_put (cs := #[.slice Ao39 t292.length co39, .slice none 0 0]) ?_ 1 _ rfl; (with_reducible repeat first | apply k1 | apply k2 | apply k3); refine blk_put (cs := #[.slice none 0 0, .slice none 0 0]) ?_ 0 _ rfl; (with_reducible repeat first | apply k1 | apply k2 | apply k3); exact BK298.out⟩
        have n5_ : Aside0 (Below w.heap.size w ((w38.setCell ⟨gb298, 0, none⟩ (.slice Ao39 t292.length co39)).setCell ⟨gb298, 1, none⟩ (.slice Ao43 t295.length co43))) := ⟨by repeat (first | (with_reducible first | exact HB.out | apply below_alloc | apply pw_below_drewN | apply below_drew1 | refine below_set ?_ GE288.out | refine below_set ?_ GE289.out | refine below_set ?_ GE298.out) | exact HB.out)⟩
        (try clear HO294)
        (try clear HO297)
        (try clear BK288)
        (try clear BK289)
        (try clear BK298)
        (try clear HB)
        generalize ((w38.setCell ⟨gb298, 0, none⟩ (.slice Ao39 t292.length co39)).setCell ⟨gb298, 1, none⟩ (.slice Ao43 t295.length co43)) = w44 at n0_ n1_ n2_ n3_ n4_ n5_ ⊢
        have HO294 := n0_
        have HO297 := n1_
        have BK288 := n2_
        have BK289 := n3_
        have BK298 := n4_
        have HB := n5_
        clear n0_ n1_ n2_ n3_ n4_ n5_
        have n0_ := k0 (Kd.S_drew HO294.out)
        have n1_ := k0 (Kd.R_drew HO297.out)
        have n2_ := k0 (blk_drew BK288.out)
        have n3_ := k0 (blk_drew BK289.out)
        have n4_ := k0 (blk_drew BK298.out)
        have n5_ := k0 (below_drew1 HB.out)
        clear HO294 HO297 BK288 BK289 BK298 HB
        have HO294 := n0_
        have HO297 := n1_
        have BK288 := n2_
        have BK289 := n3_
        have BK298 := n4_
        have HB := n5_
        clear n0_ n1_ n2_ n3_ n4_ n5_
        have p299 : 0 ≤ (a1 : Int) := kD
        have q299 : a1 < (t292.length : Int) := kD
        obtain ⟨ad299, A299_0, c299_0, e299, hx299_0, hl299_0, hi299_0⟩ := at_L1 (Kd.S_reads' HO294.out).2.2 a1 p299 q299
        cases e299
        obtain ⟨ce299, hce299, hMe299, hcc299⟩ := Kd.S_get HO294.out [] a1 p299 (by first | exact q299 | exact kD | (have e_ := (Kd.S_reads' HO294.out).1; omega))
        obtain ⟨ve299_0, rfl, ge299_0⟩ := hMe299
        have hv299_0 := hcc299 0 _ rfl
        rw [Nat.add_zero, show ((Kd.slice 3 (Kd.int .i64))).sz = 1 from rfl, Nat.mul_one] at hv299_0
        replace hv299_0 := Option.some.inj (hv299_0.symm.trans hx299_0)
        rw [hv299_0] at ge299_0
        have HL299_0 := k0 (show Kd.R (Kd.int .i64) 3 _ _ _ _ (rd_L1 t292 a1) from ge299_0)
        clear hv299_0 ge299_0
        have HX299_0 := Aside0.mk hx299_0
        clear hcc299 hce299
        have HR299_0 := Aside0.mk hi299_0
        have HC299_0 := Aside0.mk hl299_0
        clear hi299_0 hl299_0
        replace p299 := eq_true p299
        replace q299 := eq_true q299
        have p300 : 0 ≤ (a1 : Int) := kD
        have q300 : a1 < (t292.length : Int) := kD
        obtain ⟨ad300, A300_0, c300_0, e300, hx300_0, hl300_0, hi300_0⟩ := at_L1 (Kd.S_reads' HO294.out).2.2 a1 p300 q300
        obtain rfl : ad299 = ad300 := (by injection e300)
        obtain ⟨ce300, hce300, hMe300, hcc300⟩ := Kd.S_get HO294.out [] a1 p300 (by first | exact q300 | exact kD | (have e_ := (Kd.S_reads' HO294.out).1; omega))
        obtain ⟨ve300_0, rfl, ge300_0⟩ := hMe300
        have hv300_0 := hcc300 0 _ rfl
        rw [Nat.add_zero, show ((Kd.slice 3 (Kd.int .i64))).sz = 1 from rfl, Nat.mul_one] at hv300_0
        replace hv300_0 := Option.some.inj (hv300_0.symm.trans hx300_0)
        rw [hv300_0] at ge300_0
        have HL300_0 := k0 (show Kd.R (Kd.int .i64) 3 _ _ _ _ (rd_L1 t292 a1) from ge300_0)
        clear hv300_0 ge300_0
        have HX300_0 := Aside0.mk hx300_0
        clear hcc300 hce300
        have HR300_0 := Aside0.mk hi300_0
        have HC300_0 := Aside0.mk hl300_0
        clear hi300_0 hl300_0
        replace p300 := eq_true p300
        replace q300 := eq_true q300
        have ea_ := Option.some.inj (hx299_0.symm.trans hx300_0)
        injection ea_ with ea_ en_ ec_
        subst ea_
        subst ec_
        clear en_
        have p301 : 0 ≤ (a2 : Int) := kD
        have q301 : a2 < ((rd_L1 t292 a1).length : Int) := kD
        obtain ⟨ad301, e301, hx301_0⟩ := Kd.at_int (by repeat (first | (with_reducible exact HR300_0.out) | (with_reducible refine Kd.C_alloc ?_ _) | (with_reducible refine Kd.C_drewN ?_ _) | (with_reducible refine Kd.C_drew ?_) | exact HR300_0.out)) a2 p301 q301
        cases e301
        replace p301 := eq_true p301
        replace q301 := eq_true q301
        have p33 : 0 ≤ (a2 : Int) := kD
        have q33 : (a2 : Int) < (((rd_L1 t292 a1).length : Int) : Int) := kD
        obtain ⟨go33, co33, eo33, gb33, gl33, cl33, HG33⟩ := Kd.R_form HL299_0.out (by omega)
        (first | cases eo33 | (injection eo33 with ea_ en_ ec_; (first | subst ea_ | (injection ea_ with ea_; subst ea_)); subst ec_; clear en_))
        have GB33 := Aside0.mk gb33
        have GG33 := Aside0.mk HG33
        clear gb33 gl33 HG33
        (first | simp only [add_plain] at hx301_0 | skip)
        obtain ⟨hx33_0, hf33_0⟩ := Kd.R_celln 0 HL299_0.out (a2 : Int) p33 q33
        replace p33 := eq_true p33
        replace q33 := eq_true q33
        have hq46 : (a1 : Int) < (t292.length : Int) := (by have h_ : (a1 : Int) < ((t292.length : Int) : Int) := kD; first | exact h_ | (have e_ := (Kd.S_reads' HO294.out).1; omega) | simpa only [List.length_set, List.length_set] using h_)
        obtain ⟨oki46, ce46, hcl46, hM46, hcc46, hok46, hbk46⟩ := Kd.S_borrow HO294.out [] (a1 : Int) kD hq46
        obtain ⟨ve46_0, rfl, ge46_0⟩ := hM46
        have hv46 := hcc46 0 _ rfl
        rw [Nat.add_zero, show ((Kd.slice 3 (Kd.int .i64))).sz = 1 from rfl, Nat.mul_one] at hv46
        replace hv46 := Option.some.inj (hv46.symm.trans HX299_0.out)
        subst hv46
        clear hcc46 hcl46
        replace ge46_0 := (show Kd.R (Kd.int .i64) 3 _ _ _ _ (rd_L1 t292 a1) from ge46_0)
        have HP46 := Kd.R_putg ge46_0 (a2 : Int) (wrap64 ((rd (rd_L1 t292 a1) a2) + a3))
        rw [← Ny302.out] at HP46
        have HS46 := hbk46 HP46.2 (fun k_ e_ => by injection e_ with e_; subst e_; exact ge46_0.1 _ rfl) (x' := y302) (Kd.M_row HP46.1)
        rw [← Ny304.out] at HS46
        have HQ46 := Aside0.mk HS46
        clear HP46 HS46 hbk46 hok46
        refine start_ (n := 18) (S := fun w' => w'.cell? ⟨gb298, 0, none⟩ = some (.slice (some ad299) t292.length co39) ∧ w'.cell? ⟨gb298, 1, none⟩ = some (.slice Ao43 t295.length co43) ∧ w'.cell? (ad299.add (a1).toNat) = some (.slice (some ⟨go33, 0, none⟩) (rd_L1 t292 a1).length c299_0) ∧ w'.cell? (ad299.add (a1).toNat) = some (.slice (some ⟨go33, 0, none⟩) (rd_L1 t292 a1).length c299_0) ∧ w'.cell? ⟨go33, (a2).toNat, none⟩ = some (.int .i64 (rd (rd_L1 t292 a1) a2))) (ds := [17]) #[false, false, false, false, false, false, false, false, false, false, false, false, false, false, false, false, false, false] (by kernel_rfl) rfl rfl ⟨(blk_cell BK298.out 0).trans rfl, (blk_cell BK298.out 1).trans rfl, hx299_0, hx300_0, hx301_0⟩ (fun hHeld => ?_); refine with_tabW spec_Hand.tab4 spec_Hand.bits4 (fun HT_ HW_ => ?_)
        generalize w44.drew = w45 at HO294 HO297 BK288 BK289 BK298 HB GG33 HL299_0 HL300_0 HQ46 HR299_0 HR300_0 HX299_0 HX300_0 hf33_0 hx299_0 hx300_0 hx301_0 hx33_0 hHeld ⊢
        refine kP 0 31 18 1 HT_.out ?_
        refine kP 2 33 18 5 HT_.out ?_
        refine kP 5 36 18 37 HT_.out ?_
        refine kP 6 37 18 101 HT_.out ?_
        refine kP 8 39 18 357 HT_.out ?_
        refine kP 11 42 18 2405 HT_.out ?_
        refine kP 14 45 18 18789 HT_.out ?_
        refine take_ (i := 1) (N := some 32) (v := ?_) (a' := ?_) (bt 18 18791) rfl rfl (take_ofW HT_.out HW_.out (by kernel_rfl)) (fun _ _ _ h => h) (Or.inl ⟨by rfl, ?_⟩) hHeld ?_ ?_
        rotate_left
        ·rintro w' ⟨s0, s1, s2, s3, s4⟩
         go_simp
         with_reducible rfl
        rotate_left
        ·simp only [Act.put, List.setIfInBounds_toArray, List.set_cons_zero, List.set_cons_succ, i64_w, i32_w]
         rfl
        refine kP 3 34 18 18799 HT_.out ?_
        refine take_ (i := 4) (N := some 35) (v := ?_) (a' := ?_) (bt 18 18815) rfl rfl (take_ofW HT_.out HW_.out (by kernel_rfl)) (fun _ _ _ h => h) (Or.inl ⟨by rfl, ?_⟩) hHeld ?_ ?_
        rotate_left
        ·rintro w' ⟨s0, s1, s2, s3, s4⟩
         go_simp
         with_reducible rfl
        rotate_left
        ·simp only [Act.put, List.setIfInBounds_toArray, List.set_cons_zero, List.set_cons_succ, i64_w, i32_w]
         rfl
        refine take_ (i := 7) (N := some 38) (v := ?_) (a' := ?_) (bt 18 18943) rfl rfl (take_ofW HT_.out HW_.out (by kernel_rfl)) (fun _ _ _ h => h) (Or.inl ⟨by rfl, ?_⟩) hHeld ?_ ?_
        rotate_left
        ·rintro w' ⟨s0, s1, s2, s3, s4⟩
         go_simp
         with_reducible rfl
        rotate_left
        ·simp only [Act.put, List.setIfInBounds_toArray, List.set_cons_zero, List.set_cons_succ, i64_w, i32_w]
         rfl
        refine kP 9 40 18 19455 HT_.out ?_
        refine take_ (i := 10) (N := some 41) (v := ?_) (a' := ?_) (bt 18 20479) rfl rfl (take_ofW HT_.out HW_.out (by kernel_rfl)) (fun _ _ _ h => h) (Or.inl ⟨by rfl, ?_⟩) hHeld ?_ ?_
        rotate_left
        ·rintro w' ⟨s0, s1, s2, s3, s4⟩
         go_simp
         with_reducible rfl
        rotate_left
        ·simp only [Act.put, List.setIfInBounds_toArray, List.set_cons_zero, List.set_cons_succ, i64_w, i32_w]
         rfl
        refine kP 12 43 18 24575 HT_.out ?_
        refine take_ (i := 13) (N := some 44) (v := ?_) (a' := ?_) (bt 18 32767) rfl rfl (take_ofW HT_.out HW_.out (by kernel_rfl)) (fun _ _ _ h => h) (Or.inl ⟨by rfl, ?_⟩) hHeld ?_ ?_
        rotate_left
        ·rintro w' ⟨s0, s1, s2, s3, s4⟩
         go_simp
         with_reducible rfl
        rotate_left
        ·simp only [Act.put, List.setIfInBounds_toArray, List.set_cons_zero, List.set_cons_succ, i64_w, i32_w]
         rfl
        refine kP 15 46 18 65535 HT_.out ?_
        refine kP 16 47 18 131071 HT_.out ?_
        refine last_ (i := 17) (N := none) (bt 18 262143) rfl rfl (one_of HT_.out (by kernel_rfl)) (by decide) (fun K hK => ?_)
        refine skip_ (w1 := ?_) (by rfl) rfl ?_ ?_
        rotate_left
        ·go_simp
         rfl
        refine hK.out _ _ ?_
        clear hK K
        refine done_ (done_of HT_.out (by kernel_rfl)) ?_
        have n0_ : Aside0 (Kd.S (Kd.slice 3 (Kd.int .i64)) 23 (w45.setCell ⟨go33, (a2 : Int).toNat, none⟩ (.int .i64 (wrap64 ((rd (rd_L1 t292 a1) a2) + a3)))) w.heap.size (fun k_ => (w.heap.size ≤ k_) ∧ some k_ ≠ (.slice Ao43 t295.length co43 : Value).ownBlock) (.slice (some ad299) t292.length co39) y304) := ⟨by (with_reducible repeat (first | apply Kd.S_alloc | apply Kd.S_drewN | apply Kd.S_drew)); exact HQ46.out⟩
        have n1_ : Aside0 (Kd.R (Kd.int .i64) 3 (w45.setCell ⟨go33, (a2 : Int).toNat, none⟩ (.int .i64 (wrap64 ((rd (rd_L1 t292 a1) a2) + a3)))) w.heap.size (fun k_ => (w.heap.size ≤ k_)) (.slice Ao43 t295.length co43) t295) := ⟨by (with_reducible repeat (first | apply Kd.R_alloc | apply Kd.R_drewN | apply Kd.R_drew)); exact Kd.R_mono (Kd.R_far (p := ⟨go33, (a2 : Int).toNat, none⟩) (Kd.R_far1 HO297.out rfl ((HL299_0.out.1 _ rfl).1.2)) (fun _ hk => hk.2) (.int .i64 (wrap64 ((rd (rd_L1 t292 a1) a2) + a3)))) (fun _ hk => hk.1)⟩
        have n2_ : Aside0 ((w45.setCell ⟨go33, (a2 : Int).toNat, none⟩ (.int .i64 (wrap64 ((rd (rd_L1 t292 a1) a2) + a3)))).heap[gb288]? = some (.cells #[.slice A0_0 l0_0.length c0_0, .slice A0_1 l0_1.length c0_1] 28 (0, 0))) := ⟨by (with_reducible repeat first | apply k1 | apply k2 | apply k3); refine blk_far ?_ (by have h_ := Kd.R_ne HL299_0.out BK288.out (by decide); intro e_; exact h_ (by rw [e_]; rfl)) _; (with_reducible repeat first | apply k1 | apply k2 | apply k3); exact BK288.out⟩
        have n3_ : Aside0 ((w45.setCell ⟨go33, (a2 : Int).toNat, none⟩ (.int .i64 (wrap64 ((rd (rd_L1 t292 a1) a2) + a3)))).heap[gb289]? = some (.cells #[.slice none 0 0, .slice none 0 0] 28 (0, 0))) := ⟨by (with_reducible repeat first | apply k1 | apply k2 | apply k3); refine blk_far ?_ (by have h_ := Kd.R_ne HL299_0.out BK289.out (by decide); intro e_; exact h_ (by rw [e_]; rfl)) _; (with_reducible repeat first | apply k1 | apply k2 | apply k3); exact BK289.out⟩
        have n4_ : Aside0 ((w45.setCell ⟨go33, (a2 : Int).toNat, none⟩ (.int .i64 (wrap64 ((rd (rd_L1 t292 a1) a2) + a3)))).heap[gb298]? = some (.cells #[.slice (some ad299) t292.length co39, .slice Ao43 t295.length co43] 28 (0, 0))) := ⟨by (with_reducible repeat first | apply k1 | apply k2 | apply k3); refine blk_far ?_ (by have h_ := Kd.R_ne HL299_0.out BK298.out (by decide); intro e_; exact h_ (by rw [e_]; rfl)) _; (with_reducible repeat first | apply k1 | apply k2 | apply k3); exact BK298.out⟩
        have n5_ : Aside0 (Below w.heap.size w (w45.setCell ⟨go33, (a2 : Int).toNat, none⟩ (.int .i64 (wrap64 ((rd (rd_L1 t292 a1) a2) + a3))))) := ⟨by repeat (first | (with_reducible first | exact HB.out | apply below_alloc | apply pw_below_drewN | apply below_drew1 | refine below_set ?_ GB33.out | refine below_set ?_ GE288.out | refine below_set ?_ GE289.out | refine below_set ?_ GE298.out) | exact HB.out)⟩
        (try clear HO294)
        (try clear HO297)
        (try clear BK288)
        (try clear BK289)
        (try clear BK298)
        (try clear HB)
        generalize (w45.setCell ⟨go33, (a2 : Int).toNat, none⟩ (.int .i64 (wrap64 ((rd (rd_L1 t292 a1) a2) + a3)))) = w48 at n0_ n1_ n2_ n3_ n4_ n5_ ⊢
        have HO294 := n0_
        have HO297 := n1_
        have BK288 := n2_
        have BK289 := n3_
        have BK298 := n4_
        have HB := n5_
        clear n0_ n1_ n2_ n3_ n4_ n5_
        have hcz49_0 : w48.cell? ⟨gb298, 0, none⟩ = some (.slice (some ad299) t292.length co39) := kx BK298.out
        have hcz49_1 : w48.cell? ⟨gb298, 1, none⟩ = some (.slice Ao43 t295.length co43) := kx BK298.out
        have hfz49_0 := blk_frozen BK298.out 0
        have hfz49_1 := blk_frozen BK298.out 1
        try go_wp2_with (first | ((with_reducible refine gate_callee (f := 52) rfl ?_); refine goesL_ (some 49) rfl rfl Try.func52 (by kernel_rfl) rfl #[.agg #[.slice (some ad299) y304.length co39, .slice Ao43 t295.length co43]] rfl (by (try simp only [List.map_toArray, List.map_cons, List.map_nil]); first | done | (rw [show y304.length = t292.length from (Kd.S_reads' HO294.out).1.symm] <;> rfl) | rfl | (simp only [List.length_drop, List.length_take]; rfl)) ?_; (with_reducible refine (spec_l06Done.calls kj4 (fun k_ => (((((w.heap.size ≤ k_) ∧ some k_ ≠ (.slice Ao43 t295.length co43 : Value).ownBlock) ∧ k_ ≠ gb288) ∧ k_ ≠ gb289) ∧ k_ ≠ gb298)) _ _ y304 (fun k_ => some k_ = (.slice Ao43 t295.length co43 : Value).ownBlock) (.slice Ao43 t295.length co43) t295 t305 t308 t311 w _ ?side1 ?side2 ?side3 A34.out).mono ?_); (case side1 => repeat (first | (with_reducible first | exact HB.out | apply below_alloc | apply pw_below_drewN | apply below_drew1 | refine below_set ?_ GE288.out | refine below_set ?_ GE289.out | refine below_set ?_ GE298.out) | exact HB.out)); (case side2 => rw [show y304.length = t292.length from (Kd.S_reads' HO294.out).1.symm]; exact Kd.V_mono (Kd.S_V (Kd.S_types (Kd.S_types (Kd.S_types (HO294.out) BK288.out (by decide)) BK289.out (by decide)) BK298.out (by decide))) (fun k_ hk_ => ⟨hk_, hk_.1.1.1.2⟩)); (case side3 => exact Kd.R_tight rfl HO297.out); rintro e w50 ⟨v306, v309, rfl, ho0, ho1, hb, hkp⟩; refine ⟨_, rfl, ?_⟩; have n0_ := k0 (kK BK288.out hkp (fun hs_ => (fun e_ => (Kd.R_ne HO297.out BK288.out (by decide)) e_) hs_)); have n1_ := k0 (kK BK289.out hkp (fun hs_ => (fun e_ => (Kd.R_ne HO297.out BK289.out (by decide)) e_) hs_)); have n2_ := k0 (Kd.S_mono (ok' := fun k_ => (w.heap.size ≤ k_) ∧ some k_ ≠ (v309 : Value).ownBlock) (Kd.S_keptB (HO294.out) hkp (fun k_ hk_ hs_ => (hk_.2) hs_)) (fun k_ hk_ => ⟨hk_.1.1, fun e_ => Or.elim (ho1.1 k_ e_.symm) (fun hs_ => hk_.2.1 hs_) (fun hn_ => Nat.not_le.2 hk_.2.2 hn_)⟩)); have n3_ := k0 (kK BK298.out hkp (fun hs_ => (fun e_ => (Kd.R_ne HO297.out BK298.out (by decide)) e_) hs_)); have n4_ := k0 (Kd.V_mono (ok' := fun k_ => (w.heap.size ≤ k_) ∧ some k_ ≠ (v309 : Value).ownBlock ∧ k_ ≠ gb288 ∧ k_ ≠ gb289 ∧ k_ ≠ gb298) ho0 (fun k_ hk_ => ⟨Or.elim hk_.1 (fun hs_ => Or.elim hs_ (fun hs_ => (HO297.out.1 k_ (hs_).symm)) (fun hs_ => hs_.1.1.1.1)) (fun hn_ => (Nat.le_trans (below_size (kW HB.out)) hn_)), hk_.2, Or.elim hk_.1 (fun hs_ => Or.elim hs_ (fun hs_ => fun e_ => (Kd.R_ne HO297.out BK288.out (by decide)) (by rw [← e_]; exact hs_)) (fun hs_ => hs_.1.1.2)) (fun hn_ => (Kd.freshB (g := gb288) (o := .cells #[.slice A0_0 l0_0.length c0_0, .slice A0_1 l0_1.length c0_1] 28 (0, 0)) (kB BK288.out) k_ hn_)), Or.elim hk_.1 (fun hs_ => Or.elim hs_ (fun hs_ => fun e_ => (Kd.R_ne HO297.out BK289.out (by decide)) (by rw [← e_]; exact hs_)) (fun hs_ => hs_.1.2)) (fun hn_ => (Kd.freshB (g := gb289) (o := .cells #[.slice none 0 0, .slice none 0 0] 28 (0, 0)) (kB BK289.out) k_ hn_)), Or.elim hk_.1 (fun hs_ => Or.elim hs_ (fun hs_ => fun e_ => (Kd.R_ne HO297.out BK298.out (by decide)) (by rw [← e_]; exact hs_)) (fun hs_ => hs_.2)) (fun hn_ => (Kd.freshB (g := gb298) (o := .cells #[.slice (some ad299) t292.length co39, .slice Ao43 t295.length co43] 28 (0, 0)) (kB BK298.out) k_ hn_))⟩)); have n5_ := k0 (Kd.R_mono (ok' := fun k_ => (w.heap.size ≤ k_)) ho1 (fun k_ hk_ => Or.elim hk_ (fun hs_ => (HO297.out.1 k_ (hs_).symm)) (fun hn_ => (Nat.le_trans (below_size (kW HB.out)) hn_)))); have n6_ := k0 (hb); clear BK288; clear BK289; clear HO294; clear BK298; clear HB; clear HO297; have BK288 := n0_; have BK289 := n1_; have HO294 := n2_; have BK298 := n3_; have HO307 := n4_; have HO310 := n5_; have HB := n6_; clear n0_ n1_ n2_ n3_ n4_ n5_ n6_; (try clear hb); (try clear hkp); (try clear ho0); (try clear ho1); obtain ⟨Ao51, co51, eo51⟩ := Kd.V_slice HO307.out; subst eo51; have hcz52_0 : w50.cell? ⟨gb289, 0, none⟩ = some (.slice none 0 0) := kx BK289.out; have hcz52_1 : w50.cell? ⟨gb289, 1, none⟩ = some (.slice none 0 0) := kx BK289.out; have hfz52_0 := blk_frozen BK289.out 0; have hfz52_1 := blk_frozen BK289.out 1; obtain ⟨Ao53, co53, eo53⟩ := Kd.R_slice HO310.out; subst eo53))
        refine bodyPost_ret (results_ct rfl _ _ gb289 28 #[.slice Ao51 t305.length co51, .slice Ao53 t308.length co53] (0, 0) _ rfl (by (with_reducible repeat first | apply k1 | apply k2 | apply k3); refine blk_put (cs := #[.slice Ao51 t305.length co51, .slice none 0 0]) ?_ 1 _ rfl; (with_reducible repeat first | apply k1 | apply k2 | apply k3); refine blk_put (cs := #[.slice none 0 0, .slice none 0 0]) ?_ 0 _ rfl; (with_reducible repeat first | apply k1 | apply k2 | apply k3); exact BK289.out) Try.underlying28 rfl (by kernel_rfl)) rfl ?_
        exact ⟨_, _, by first | rfl | (simp [errW_none, errW_some] <;> rfl) | (simp [*, errW_none, errW_some] <;> rfl), by (with_reducible repeat (first | apply Kd.V_alloc | apply Kd.V_drewN | apply Kd.V_drew)); exact Kd.V_mono (Kd.V_far (p := ⟨gb289, 1, none⟩) (Kd.V_far (p := ⟨gb289, 0, none⟩) (Kd.V_mono HO307.out (fun k_ hk => (⟨hk, hk.2.2.2.1⟩ : _ ∧ k_ ≠ gb289))) (fun _ hk => hk.2) (.slice Ao51 t305.length co51)) (fun _ hk => hk.2) (.slice Ao53 t308.length co53)) (fun _ hk => ⟨hk.1.1, hk.1.2.1⟩), by (with_reducible repeat (first | apply Kd.R_alloc | apply Kd.R_drewN | apply Kd.R_drew)); exact Kd.R_mono (Kd.R_far (p := ⟨gb289, 1, none⟩) (Kd.R_far (p := ⟨gb289, 0, none⟩) (Kd.R_types HO310.out BK289.out (by decide)) (fun _ hk => hk.2) (.slice Ao51 t305.length co51)) (fun _ hk => hk.2) (.slice Ao53 t308.length co53)) (fun _ hk => hk.1), by repeat (first | (with_reducible first | exact HB.out | apply below_alloc | apply pw_below_drewN | apply below_drew1 | refine below_set ?_ GE288.out | refine below_set ?_ GE289.out | refine below_set ?_ GE298.out) | exact HB.out)⟩
       ·rw [if_neg c32] at H
        exact absurd H (by simp)
      ·rw [if_neg c31] at H
       exact absurd H (by simp)
     ·rw [if_neg c30] at H
      exact absurd H (by simp)
    ·rw [if_neg c29] at H
     exact absurd H (by simp)

end Go.Proofs.Ytcnanifokpcjaaa.PFnMeet
