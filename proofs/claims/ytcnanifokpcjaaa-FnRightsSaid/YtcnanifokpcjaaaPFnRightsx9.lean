import Derived.Test.YtcnanifokpcjaaaPFnRightsx0
import Derived.Test.YtcnanifokpcjaaaPFnRightsx6
import Derived.Test.YtcnanifokpcjaaaPFnRightsx8
namespace Go.Proofs.Ytcnanifokpcjaaa.PFnRights
open Go.RowKit Go.Proofs.YtcnanifokpcjaaaW.PrintWords Go.Proofs.YtcnanifokpcjaaaW.PrintLast Go.Proofs.YtcnanifokpcjaaaW.PrintMore
attribute [local go_sem] max2_int min2_int max_two min_two max_three min_three max_four min_four   -- for this text's walks alone
set_option linter.unusedVariables false
set_option linter.unusedSimpArgs false

/-! ### spec_Spend: function 30 -/
def spec_Spend.f (k : Nat) (l0_0 : List (List Int)) (l0_1 : List Int) (a1 : Int) (a2 : Int) : Option ((List (List Int)) × List Int × Bool) := (spec_l06May.f k l0_0 l0_1 a1 a2).bind fun t253 => (if t253 = true then ((spec_l06Copy.f k l0_0 l0_1).bind fun bt254 => (if 0 ≤ a1 then (if a1 < (bt254.2.length : Int) then ((spec_l06Done.f k bt254.1 (bt254.2.set (a1 : Int).toNat (wrap64 ((rd bt254.2 a1) + a2)))).bind fun bt263 => (some (bt263.1, bt263.2.1, bt263.2.2))) else (none)) else (none))) else (some (([] : List (List Int)), ([] : List Int), false)))
theorem spec_Spend.mono : ∀ a0 a1 a2 a3 k, LeO (spec_Spend.f k a0 a1 a2 a3) (spec_Spend.f (k + 1) a0 a1 a2 a3) := by
 intro a0 a1 a2 a3 k
 unfold spec_Spend.f
 repeat' first
   | (with_reducible exact spec_l06Copy.mono _ _ _)
   | (with_reducible exact spec_l06Done.mono _ _ _)
   | (with_reducible exact spec_l06May.mono _ _ _ _ _)
   | (with_reducible exact LeO.refl _)
   | (with_reducible exact LeO.none _)
   | (with_reducible refine LeO.ite ?_ ?_)
   | (with_reducible refine LeO.bind ?_ (fun _ => ?_))
   | exact spec_l06Copy.mono _ _ _
   | exact spec_l06Done.mono _ _ _
   | exact spec_l06May.mono _ _ _ _ _
   | exact LeO.none _
   | refine LeO.ite ?_ ?_
   | refine LeO.bind ?_ (fun _ => ?_)
def spec_Spend.T4 : Bool × List (List Nat × List Nat) := (true, [([], []), ([0], [0]), ([], []), ([], []), ([3], [3]), ([], []), ([4, 5], [4, 5]), ([6], [6]), ([], []), ([7, 8], [7, 8]), ([1, 2, 0, 1, 2, 3, 4, 5, 6, 7, 8, 9], [1, 2]), ([10, 9, 0, 1, 2, 3, 4, 5, 6, 7, 8, 9], [9, 10])])
def spec_Spend.B4 : List Nat := [0, 1, 0, 0, 8, 0, 56, 120, 0, 504, 1023, 2047]
theorem spec_Spend.tab4 : rtab .any (opsOf Try.f30 4) = spec_Spend.T4 := by kernel_rfl
theorem spec_Spend.bits4 : waitsOk spec_Spend.T4.2 spec_Spend.B4 = true := by kernel_rfl
set_option maxHeartbeats 8000000 in
set_option maxRecDepth 100000 in
theorem spec_Spend.calls (k : Nat) (A0_0 : Option Addr) (c0_0 : Nat) (l0_0 : List (List Int)) (A0_1 : Option Addr) (c0_1 : Nat) (l0_1 : List Int) (a1 : Int) (a2 : Int) (r1 : List (List Int)) (r2 : List Int) (r3 : Bool) (w : World) (hr0_0 : Kd.C (Kd.slice 3 (Kd.int .i64)) w A0_0 l0_0.length l0_0) (hc0_0 : l0_0.length ≤ c0_0) (hr0_1 : Kd.C (Kd.int .i64) w A0_1 l0_1.length l0_1) (hc0_1 : l0_1.length ≤ c0_1) (h : spec_Spend.f k l0_0 l0_1 a1 a2 = some (r1, r2, r3)) :
  Calls Try.prog 30 #[.agg #[.slice A0_0 l0_0.length c0_0, .slice A0_1 l0_1.length c0_1], .int .i64 a1, .int .i64 a2] w fun e w' => ∃ v0_ v1_ : Value, e = .returned (.tuple #[.agg #[v0_, v1_], .bool r3]) ∧ Kd.V (Kd.slice 3 (Kd.int .i64)) 23 w' w.heap.size (fun k_ => (w.heap.size ≤ k_) ∧ some k_ ≠ (v1_ : Value).ownBlock) v0_ r1 ∧ Kd.R (Kd.int .i64) 3 w' w.heap.size (fun k_ => (w.heap.size ≤ k_)) v1_ r2 ∧ Below w.heap.size w w' := by
 have hu28 := Try.underlying28
 have HR0_0 := Aside0.mk hr0_0
 have HC0_0 := Aside0.mk hc0_0
 clear hr0_0 hc0_0
 have HR0_1 := Aside0.mk hr0_1
 have HC0_1 := Aside0.mk hc0_1
 clear hr0_1 hc0_1
 have HB := k0 (Below.refl w.heap.size w)
 have H : ((spec_l06May.f k l0_0 l0_1 a1 a2).bind fun t253 => (if t253 = true then ((spec_l06Copy.f k l0_0 l0_1).bind fun bt254 => (if 0 ≤ a1 then (if a1 < (bt254.2.length : Int) then ((spec_l06Done.f k bt254.1 (bt254.2.set (a1 : Int).toNat (wrap64 ((rd bt254.2 a1) + a2)))).bind fun bt263 => (some (bt263.1, bt263.2.1, bt263.2.2))) else (none)) else (none))) else (some (([] : List (List Int)), ([] : List Int), false)))) = some (r1, r2, r3) := h
 clear h
 replace H := Option.bind_eq_some_iff.mp H
 obtain ⟨t253, A40, H⟩ := H
 replace H : (if t253 = true then ((spec_l06Copy.f k l0_0 l0_1).bind fun bt254 => (if 0 ≤ a1 then (if a1 < (bt254.2.length : Int) then ((spec_l06Done.f k bt254.1 (bt254.2.set (a1 : Int).toNat (wrap64 ((rd bt254.2 a1) + a2)))).bind fun bt263 => (some (bt263.1, bt263.2.1, bt263.2.2))) else (none)) else (none))) else (some (([] : List (List Int)), ([] : List Int), false))) = some (r1, r2, r3) := H
 have A4 := Aside0.mk A40
 clear A40
 by_cases c5 : t253 = true
 ·subst c5
  have H1 : ((spec_l06Copy.f k l0_0 l0_1).bind fun bt254 => (if 0 ≤ a1 then (if a1 < (bt254.2.length : Int) then ((spec_l06Done.f k bt254.1 (bt254.2.set (a1 : Int).toNat (wrap64 ((rd bt254.2 a1) + a2)))).bind fun bt263 => (some (bt263.1, bt263.2.1, bt263.2.2))) else (none)) else (none))) = some (r1, r2, r3) := by rw [if_pos rfl] at H; exact H
  clear H
  have H := H1
  clear H1
  replace H := Option.bind_eq_some_iff.mp H
  obtain ⟨⟨t254, t257⟩, A60, H⟩ := H
  replace H : (if 0 ≤ a1 then (if a1 < (t257.length : Int) then ((spec_l06Done.f k t254 (t257.set (a1 : Int).toNat (wrap64 ((rd t257 a1) + a2)))).bind fun bt263 => (some (bt263.1, bt263.2.1, bt263.2.2))) else (none)) else (none)) = some (r1, r2, r3) := H
  have A6 := Aside0.mk A60
  clear A60
  by_cases c7 : 0 ≤ a1
  ·rw [if_pos c7] at H
   have c7b0 : decide (0 ≤ a1) = true := decide_eq_true c7
   clear c7
   by_cases c8 : a1 < (t257.length : Int)
   ·rw [if_pos c8] at H
    have c8b0 : decide (a1 < (t257.length : Int)) = true := decide_eq_true c8
    clear c8
    obtain ⟨y262, hy262⟩ : ∃ y_ : List Int, y_ = (t257.set (a1 : Int).toNat (wrap64 ((rd t257 a1) + a2))) := ⟨_, rfl⟩
    replace H : ((spec_l06Done.f k t254 y262).bind fun bt263 => (some (bt263.1, bt263.2.1, bt263.2.2))) = some (r1, r2, r3) := by first | (rw [hy262]; with_reducible exact H) | (have H2_ := (Option.bind_some _ _).symm.trans H; rw [hy262]; with_reducible exact H2_) | (have H2_ := (Option.bind_some _ _).symm.trans H; with_reducible exact H2_) | with_reducible exact H | (rw [hy262]; exact H) | exact H
    have Ny262 := Aside0.mk hy262
    clear hy262
    replace H := Option.bind_eq_some_iff.mp H
    obtain ⟨⟨t263, t266, t269⟩, A100, H⟩ := H
    replace H : (some (t263, t266, t269)) = some (r1, r2, r3) := H
    have A10 := Aside0.mk A100
    clear A100
    simp only [Option.some.injEq, Prod.mk.injEq] at H
    obtain ⟨rfl, rfl, rfl⟩ := H
    go_enter Try.func30, Try.ntmps30
    try go_wp2_with (first | ((with_reducible refine gate_dst (N := 3) rfl ?_); refine kE (N := 3) (cs := #[.slice A0_0 l0_0.length c0_0, .slice A0_1 l0_1.length c0_1]) (t := 28) ?_; intro gb251 hg w11 hbox hb; have n0_ := k0 (below_step (kW HB.out) hb); have n1_ := k0 (hbox); have n2_ := k0 (kY HB.out hg); have n3_ := k0 (kY HB.out hg); clear HB; have HB := n0_; have BK251 := n1_; have GW251 := n2_; have GE251 := n3_; clear n0_ n1_ n2_ n3_; clear hb hbox hg) | ((with_reducible refine gate_dst (N := 6) rfl ?_); refine kE (N := 6) (cs := #[.slice none 0 0, .slice none 0 0]) (t := 28) ?_; intro gb252 hg w12 hbox hb; have n0_ := k0 (kb BK251.out hb); have n1_ := k0 (below_step (kW HB.out) hb); have n2_ := k0 (hbox); have n3_ := k0 (kY HB.out hg); have n4_ := k0 (kY HB.out hg); have n5_ := k0 ((by rw [hg]; exact Nat.ne_of_lt (blk_lt (g := gb251) (o := .cells #[.slice A0_0 l0_0.length c0_0, .slice A0_1 l0_1.length c0_1] 28 (0, 0)) (kB BK251.out)) : gb251 ≠ gb252)); have n6_ := k0 ((by rw [hg]; exact Nat.ne_of_gt (blk_lt (g := gb251) (o := .cells #[.slice A0_0 l0_0.length c0_0, .slice A0_1 l0_1.length c0_1] 28 (0, 0)) (kB BK251.out)) : gb252 ≠ gb251)); clear BK251; clear HB; have BK251 := n0_; have HB := n1_; have BK252 := n2_; have GW252 := n3_; have GE252 := n4_; have NB251_252 := n5_; have NB252_251 := n6_; clear n0_ n1_ n2_ n3_ n4_ n5_ n6_; clear hb hbox hg; have hnb13 := NB251_252.out; have hnc13 := NB252_251.out; have hcz14_0 : w12.cell? ⟨gb251, 0, none⟩ = some (.slice A0_0 l0_0.length c0_0) := kx BK251.out; have hcz14_1 : w12.cell? ⟨gb251, 1, none⟩ = some (.slice A0_1 l0_1.length c0_1) := kx BK251.out; have hfz14_0 := blk_frozen BK251.out 0; have hfz14_1 := blk_frozen BK251.out 1) | ((with_reducible refine gate_callee (f := 58) rfl ?_); refine kG (some 12) Try.func58 #[.agg #[.slice A0_0 l0_0.length c0_0, .slice A0_1 l0_1.length c0_1], .int .i64 a1, .int .i64 a2] ?_; (with_reducible refine (spec_l06May.calls k _ _ l0_0 _ _ l0_1 a1 a2 true _ ?side1 ?side2 ?side3 ?side4 A4.out).mono ?_); (case side1 => exact kC (Kd.C_below HR0_0.out HB.out)); (case side2 => exact HC0_0.out); (case side3 => exact kC (Kd.C_below HR0_1.out HB.out)); (case side4 => exact HC0_1.out); rintro e w15 ⟨rfl, hb⟩; refine ⟨_, rfl, ?_⟩; have n0_ := k0 (kb BK251.out hb); have n1_ := k0 (kb BK252.out hb); have n2_ := k0 (below_step (kW HB.out) hb); clear BK251; clear BK252; clear HB; have BK251 := n0_; have BK252 := n1_; have HB := n2_; clear n0_ n1_ n2_; (try clear hb); (try clear hb2); (try clear hk); (try clear hi); have hcz16_0 : w15.cell? ⟨gb251, 0, none⟩ = some (.slice A0_0 l0_0.length c0_0) := kx BK251.out; have hcz16_1 : w15.cell? ⟨gb251, 1, none⟩ = some (.slice A0_1 l0_1.length c0_1) := kx BK251.out; have hfz16_0 := blk_frozen BK251.out 0; have hfz16_1 := blk_frozen BK251.out 1) | ((with_reducible refine gate_callee (f := 50) rfl ?_); refine kG (some 16) Try.func50 #[.agg #[.slice A0_0 l0_0.length c0_0, .slice A0_1 l0_1.length c0_1]] ?_; (with_reducible refine (spec_l06Copy.calls k _ _ l0_0 _ _ l0_1 t254 t257 _ ?side1 ?side2 ?side3 ?side4 A6.out).mono ?_); (case side1 => exact kC (Kd.C_below HR0_0.out HB.out)); (case side2 => exact HC0_0.out); (case side3 => exact kC (Kd.C_below HR0_1.out HB.out)); (case side4 => exact HC0_1.out); rintro e w17 ⟨v255, v258, rfl, ho0, ho1, hb⟩; refine ⟨_, rfl, ?_⟩; have n0_ := k0 (Kd.S_lower (Kd.S_newM (M := fun k_ => (w.heap.size ≤ k_)) ho0 (below_size (kW HB.out)) (fun k_ h_ => h_)) (below_size (kW HB.out))); have n1_ := k0 (Kd.R_lower (Kd.R_newM (M := fun k_ => (w.heap.size ≤ k_)) ho1 (below_size (kW HB.out)) (fun k_ h_ => h_)) (below_size (kW HB.out))); have n2_ := k0 (kb BK251.out hb); have n3_ := k0 (kb BK252.out hb); have n4_ := k0 (below_step (kW HB.out) hb); clear BK251; clear BK252; clear HB; have HO256 := n0_; have HO259 := n1_; have BK251 := n2_; have BK252 := n3_; have HB := n4_; clear n0_ n1_ n2_ n3_ n4_; (try clear hb); (try clear hb2); (try clear hk); (try clear hi); (try clear ho0); (try clear ho1)) | ((with_reducible refine gate_dst (N := 8) rfl ?_); refine kE (N := 8) (cs := #[.slice none 0 0, .slice none 0 0]) (t := 28) ?_; intro gb260 hg w18 hbox hb; have n0_ := k0 (Kd.S_below (kS HO256.out) hb); have n1_ := k0 (Kd.R_below (kR HO259.out) hb); have n2_ := k0 (kb BK251.out hb); have n3_ := k0 (kb BK252.out hb); have n4_ := k0 (below_step (kW HB.out) hb); have n5_ := k0 (hbox); have n6_ := k0 (kY HB.out hg); have n7_ := k0 (kY HB.out hg); have n8_ := k0 ((by rw [hg]; exact Nat.ne_of_lt (blk_lt (g := gb251) (o := .cells #[.slice A0_0 l0_0.length c0_0, .slice A0_1 l0_1.length c0_1] 28 (0, 0)) (kB BK251.out)) : gb251 ≠ gb260)); have n9_ := k0 ((by rw [hg]; exact Nat.ne_of_gt (blk_lt (g := gb251) (o := .cells #[.slice A0_0 l0_0.length c0_0, .slice A0_1 l0_1.length c0_1] 28 (0, 0)) (kB BK251.out)) : gb260 ≠ gb251)); have n10_ := k0 ((by rw [hg]; exact Nat.ne_of_lt (blk_lt (g := gb252) (o := .cells #[.slice none 0 0, .slice none 0 0] 28 (0, 0)) (kB BK252.out)) : gb252 ≠ gb260)); have n11_ := k0 ((by rw [hg]; exact Nat.ne_of_gt (blk_lt (g := gb252) (o := .cells #[.slice none 0 0, .slice none 0 0] 28 (0, 0)) (kB BK252.out)) : gb260 ≠ gb252)); clear HO256; clear HO259; clear BK251; clear BK252; clear HB; have HO256 := n0_; have HO259 := n1_; have BK251 := n2_; have BK252 := n3_; have HB := n4_; have BK260 := n5_; have GW260 := n6_; have GE260 := n7_; have NB251_260 := n8_; have NB260_251 := n9_; have NB252_260 := n10_; have NB260_252 := n11_; clear n0_ n1_ n2_ n3_ n4_ n5_ n6_ n7_ n8_ n9_ n10_ n11_; clear hb hbox hg; obtain ⟨Ao19, co19, eo19⟩ := Kd.S_slice HO256.out; subst eo19; have hnb20 := NB260_251.out; have hnc20 := NB251_260.out; have hnb21 := NB260_252.out; have hnc21 := NB252_260.out; have hcz22_0 : w18.cell? ⟨gb260, 0, none⟩ = some (.slice none 0 0) := kx BK260.out; have hcz22_1 : w18.cell? ⟨gb260, 1, none⟩ = some (.slice none 0 0) := kx BK260.out; have hfz22_0 := blk_frozen BK260.out 0; have hfz22_1 := blk_frozen BK260.out 1; obtain ⟨Ao23, co23, eo23⟩ := Kd.R_slice HO259.out; subst eo23))
    have n0_ : Aside0 (Kd.S (Kd.slice 3 (Kd.int .i64)) 23 ((w18.setCell ⟨gb260, 0, none⟩ (.slice Ao19 t254.length co19)).setCell ⟨gb260, 1, none⟩ (.slice Ao23 t257.length co23)) w.heap.size (fun k_ => (w.heap.size ≤ k_) ∧ some k_ ≠ (.slice Ao23 t257.length co23 : Value).ownBlock) (.slice Ao19 t254.length co19) t254) := ⟨by (with_reducible repeat (first | apply Kd.S_alloc | apply Kd.S_drewN | apply Kd.S_drew)); exact Kd.S_mono (Kd.S_far (p := ⟨gb260, 1, none⟩) (Kd.S_far (p := ⟨gb260, 0, none⟩) (Kd.S_types HO256.out BK260.out (by decide)) (fun _ hk => hk.2) (.slice Ao19 t254.length co19)) (fun _ hk => hk.2) (.slice Ao23 t257.length co23)) (fun _ hk => ⟨hk.1.1, hk.1.2⟩)⟩
    have n1_ : Aside0 (Kd.R (Kd.int .i64) 3 ((w18.setCell ⟨gb260, 0, none⟩ (.slice Ao19 t254.length co19)).setCell ⟨gb260, 1, none⟩ (.slice Ao23 t257.length co23)) w.heap.size (fun k_ => (w.heap.size ≤ k_)) (.slice Ao23 t257.length co23) t257) := ⟨by (with_reducible repeat (first | apply Kd.R_alloc | apply Kd.R_drewN | apply Kd.R_drew)); exact Kd.R_mono (Kd.R_far (p := ⟨gb260, 1, none⟩) (Kd.R_far (p := ⟨gb260, 0, none⟩) (Kd.R_types HO259.out BK260.out (by decide)) (fun _ hk => hk.2) (.slice Ao19 t254.length co19)) (fun _ hk => hk.2) (.slice Ao23 t257.length co23)) (fun _ hk => hk.1.1)⟩
    have n2_ : Aside0 (((w18.setCell ⟨gb260, 0, none⟩ (.slice Ao19 t254.length co19)).setCell ⟨gb260, 1, none⟩ (.slice Ao23 t257.length co23)).heap[gb251]? = some (.cells #[.slice A0_0 l0_0.length c0_0, .slice A0_1 l0_1.length c0_1] 28 (0, 0))) := ⟨by (with_reducible repeat first | apply k1 | apply k2 | apply k3); refine blk_far ?_ NB251_260.out _; (with_reducible repeat first | apply k1 | apply k2 | apply k3); refine blk_far ?_ NB251_260.out _; (with_reducible repeat first | apply k1 | apply k2 | apply k3); exact BK251.out⟩
    have n3_ : Aside0 (((w18.setCell ⟨gb260, 0, none⟩ (.slice Ao19 t254.length co19)).setCell ⟨gb260, 1, none⟩ (.slice Ao23 t257.length co23)).heap[gb252]? = some (.cells #[.slice none 0 0, .slice none 0 0] 28 (0, 0))) := ⟨by (with_reducible repeat first | apply k1 | apply k2 | apply k3); refine blk_far ?_ NB252_260.out _; (with_reducible repeat first | apply k1 | apply k2 | apply k3); refine blk_far ?_ NB252_260.out _; (with_reducible repeat first | apply k1 | apply k2 | apply k3); exact BK252.out⟩
    have n4_ : Aside0 (((w18.setCell ⟨gb260, 0, none⟩ (.slice Ao19 t254.length co19)).setCell ⟨gb260, 1, none⟩ (.slice Ao23 t257.length co23)).heap[gb260]? = some (.cells #[.slice Ao19 t254.length co19, .slice Ao23 t257.length co23] 28 (0, 0))) := ⟨by (with_reducible repeat first | apply k1 | apply k2 | apply k3); refine blk_put (cs := #[.slice Ao19 t254.length co19, .slice none 0 0]) ?_ 1 _ rfl; (with_reducible repeat first | apply k1 | apply k2 | apply k3); refine blk_put (cs := #[.slice none 0 0, .slice none 0 0]) ?_ 0 _ rfl; (with_reducible repeat first | apply k1 | apply k2 | apply k3); exact BK260.out⟩
    have n5_ : Aside0 (Below w.heap.size w ((w18.setCell ⟨gb260, 0, none⟩ (.slice Ao19 t254.length co19)).setCell ⟨gb260, 1, none⟩ (.slice Ao23 t257.length co23))) := ⟨by repeat (first | (with_reducible first | exact HB.out | apply below_alloc | apply pw_below_drewN | apply below_drew1 | refine below_set ?_ GE251.out | refine below_set ?_ GE252.out | refine below_set ?_ GE260.out) | exact HB.out)⟩
    (try clear HO256)
    (try clear HO259)
    (try clear BK251)
    (try clear BK252)
    (try clear BK260)
    (try clear HB)
    generalize ((w18.setCell ⟨gb260, 0, none⟩ (.slice Ao19 t254.length co19)).setCell ⟨gb260, 1, none⟩ (.slice Ao23 t257.length co23)) = w24 at n0_ n1_ n2_ n3_ n4_ n5_ ⊢
    have HO256 := n0_
    have HO259 := n1_
    have BK251 := n2_
    have BK252 := n3_
    have BK260 := n4_
    have HB := n5_
    clear n0_ n1_ n2_ n3_ n4_ n5_
    have n0_ := k0 (Kd.S_drew HO256.out)
    have n1_ := k0 (Kd.R_drew HO259.out)
    have n2_ := k0 (blk_drew BK251.out)
    have n3_ := k0 (blk_drew BK252.out)
    have n4_ := k0 (blk_drew BK260.out)
    have n5_ := k0 (below_drew1 HB.out)
    clear HO256 HO259 BK251 BK252 BK260 HB
    have HO256 := n0_
    have HO259 := n1_
    have BK251 := n2_
    have BK252 := n3_
    have BK260 := n4_
    have HB := n5_
    clear n0_ n1_ n2_ n3_ n4_ n5_
    have p261 : 0 ≤ (a1 : Int) := kD
    have q261 : a1 < (t257.length : Int) := kD
    obtain ⟨ad261, e261, hx261_0⟩ := Kd.at_int (Kd.R_reads' HO259.out).2.2 a1 p261 q261
    cases e261
    replace p261 := eq_true p261
    replace q261 := eq_true q261
    have p9 : 0 ≤ (a1 : Int) := kD
    have q9 : (a1 : Int) < ((t257.length : Int) : Int) := kD
    obtain ⟨go9, co9, eo9, gb9, gl9, cl9, HG9⟩ := Kd.R_form HO259.out (by omega)
    (first | cases eo9 | (injection eo9 with ea_ en_ ec_; (first | subst ea_ | (injection ea_ with ea_; subst ea_)); subst ec_; clear en_))
    have GB9 := Aside0.mk gb9
    have GG9 := Aside0.mk HG9
    clear gb9 gl9 HG9
    (first | simp only [add_plain] at hx261_0 | skip)
    obtain ⟨hx9_0, hf9_0⟩ := Kd.R_celln 0 HO259.out (a1 : Int) p9 q9
    replace p9 := eq_true p9
    replace q9 := eq_true q9
    have HP26 := Kd.R_putn HO259.out (a1 : Int) (wrap64 ((rd t257 a1) + a2))
    rw [← Ny262.out] at HP26
    have HQ26 := Aside0.mk HP26
    clear HP26
    refine start_ (n := 12) (S := fun w' => w'.cell? ⟨gb260, 0, none⟩ = some (.slice Ao19 t254.length co19) ∧ w'.cell? ⟨gb260, 1, none⟩ = some (.slice (some ⟨go9, 0, none⟩) t257.length co23) ∧ w'.cell? ⟨go9, (a1).toNat, none⟩ = some (.int .i64 (rd t257 a1))) (ds := [11]) #[false, false, false, false, false, false, false, false, false, false, false, false] (by kernel_rfl) rfl rfl ⟨(blk_cell BK260.out 0).trans rfl, (blk_cell BK260.out 1).trans rfl, hx261_0⟩ (fun hHeld => ?_); refine with_tabW spec_Spend.tab4 spec_Spend.bits4 (fun HT_ HW_ => ?_)
    generalize w24.drew = w25 at HO256 HO259 BK251 BK252 BK260 HB GG9 HQ26 hf9_0 hx261_0 hx9_0 hHeld ⊢
    refine kP 0 17 12 1 HT_.out ?_
    refine kP 2 19 12 5 HT_.out ?_
    refine kP 3 20 12 13 HT_.out ?_
    refine kP 5 22 12 45 HT_.out ?_
    refine kP 8 25 12 301 HT_.out ?_
    refine take_ (i := 1) (N := some 18) (v := ?_) (a' := ?_) (bt 12 303) rfl rfl (take_ofW HT_.out HW_.out (by kernel_rfl)) (fun _ _ _ h => h) (Or.inl ⟨by rfl, ?_⟩) hHeld ?_ ?_
    rotate_left
    ·rintro w' ⟨s0, s1, s2⟩
     go_simp
     with_reducible rfl
    rotate_left
    ·simp only [Act.put, List.setIfInBounds_toArray, List.set_cons_zero, List.set_cons_succ, i64_w, i32_w]
     rfl
    refine take_ (i := 4) (N := some 21) (v := ?_) (a' := ?_) (bt 12 319) rfl rfl (take_ofW HT_.out HW_.out (by kernel_rfl)) (fun _ _ _ h => h) (Or.inl ⟨by rfl, ?_⟩) hHeld ?_ ?_
    rotate_left
    ·rintro w' ⟨s0, s1, s2⟩
     go_simp
     with_reducible rfl
    rotate_left
    ·simp only [Act.put, List.setIfInBounds_toArray, List.set_cons_zero, List.set_cons_succ, i64_w, i32_w]
     rfl
    refine kP 6 23 12 383 HT_.out ?_
    refine take_ (i := 7) (N := some 24) (v := ?_) (a' := ?_) (bt 12 511) rfl rfl (take_ofW HT_.out HW_.out (by kernel_rfl)) (fun _ _ _ h => h) (Or.inl ⟨by rfl, ?_⟩) hHeld ?_ ?_
    rotate_left
    ·rintro w' ⟨s0, s1, s2⟩
     go_simp
     with_reducible rfl
    rotate_left
    ·simp only [Act.put, List.setIfInBounds_toArray, List.set_cons_zero, List.set_cons_succ, i64_w, i32_w]
     rfl
    refine kP 9 26 12 1023 HT_.out ?_
    refine kP 10 27 12 2047 HT_.out ?_
    refine last_ (i := 11) (N := none) (bt 12 4095) rfl rfl (one_of HT_.out (by kernel_rfl)) (by decide) (fun K hK => ?_)
    refine skip_ (w1 := ?_) (by rfl) rfl ?_ ?_
    rotate_left
    ·go_simp
     rfl
    refine hK.out _ _ ?_
    clear hK K
    refine done_ (done_of HT_.out (by kernel_rfl)) ?_
    have n0_ : Aside0 (Kd.S (Kd.slice 3 (Kd.int .i64)) 23 (w25.setCell ⟨go9, (a1 : Int).toNat, none⟩ (.int .i64 (wrap64 ((rd t257 a1) + a2)))) w.heap.size (fun k_ => (w.heap.size ≤ k_) ∧ some k_ ≠ (.slice (some ⟨go9, 0, none⟩) t257.length co23 : Value).ownBlock) (.slice Ao19 t254.length co19) t254) := ⟨by (with_reducible repeat (first | apply Kd.S_alloc | apply Kd.S_drewN | apply Kd.S_drew)); exact Kd.S_mono (Kd.S_far (p := ⟨go9, (a1 : Int).toNat, none⟩) (Kd.S_mono HO256.out (fun k_ hk => (⟨hk, fun e_ => hk.2 (by rw [e_]; rfl)⟩ : _ ∧ k_ ≠ go9))) (fun _ hk => hk.2) (.int .i64 (wrap64 ((rd t257 a1) + a2)))) (fun _ hk => ⟨hk.1.1, hk.1.2⟩)⟩
    have n1_ : Aside0 (Kd.R (Kd.int .i64) 3 (w25.setCell ⟨go9, (a1 : Int).toNat, none⟩ (.int .i64 (wrap64 ((rd t257 a1) + a2)))) w.heap.size (fun k_ => (w.heap.size ≤ k_)) (.slice (some ⟨go9, 0, none⟩) t257.length co23) y262) := ⟨by (with_reducible repeat (first | apply Kd.R_alloc | apply Kd.R_drewN | apply Kd.R_drew)); exact HQ26.out⟩
    have n2_ : Aside0 ((w25.setCell ⟨go9, (a1 : Int).toNat, none⟩ (.int .i64 (wrap64 ((rd t257 a1) + a2)))).heap[gb251]? = some (.cells #[.slice A0_0 l0_0.length c0_0, .slice A0_1 l0_1.length c0_1] 28 (0, 0))) := ⟨by (with_reducible repeat first | apply k1 | apply k2 | apply k3); refine blk_far ?_ (by have h_ := Kd.R_ne HO259.out BK251.out (by decide); intro e_; exact h_ (by rw [e_]; rfl)) _; (with_reducible repeat first | apply k1 | apply k2 | apply k3); exact BK251.out⟩
    have n3_ : Aside0 ((w25.setCell ⟨go9, (a1 : Int).toNat, none⟩ (.int .i64 (wrap64 ((rd t257 a1) + a2)))).heap[gb252]? = some (.cells #[.slice none 0 0, .slice none 0 0] 28 (0, 0))) := ⟨by (with_reducible repeat first | apply k1 | apply k2 | apply k3); refine blk_far ?_ (by have h_ := Kd.R_ne HO259.out BK252.out (by decide); intro e_; exact h_ (by rw [e_]; rfl)) _; (with_reducible repeat first | apply k1 | apply k2 | apply k3); exact BK252.out⟩
    have n4_ : Aside0 ((w25.setCell ⟨go9, (a1 : Int).toNat, none⟩ (.int .i64 (wrap64 ((rd t257 a1) + a2)))).heap[gb260]? = some (.cells #[.slice Ao19 t254.length co19, .slice (some ⟨go9, 0, none⟩) t257.length co23] 28 (0, 0))) := ⟨by (with_reducible repeat first | apply k1 | apply k2 | apply k3); refine blk_far ?_ (by have h_ := Kd.R_ne HO259.out BK260.out (by decide); intro e_; exact h_ (by rw [e_]; rfl)) _; (with_reducible repeat first | apply k1 | apply k2 | apply k3); exact BK260.out⟩
    have n5_ : Aside0 (Below w.heap.size w (w25.setCell ⟨go9, (a1 : Int).toNat, none⟩ (.int .i64 (wrap64 ((rd t257 a1) + a2))))) := ⟨by repeat (first | (with_reducible first | exact HB.out | apply below_alloc | apply pw_below_drewN | apply below_drew1 | refine below_set ?_ GB9.out | refine below_set ?_ GE251.out | refine below_set ?_ GE252.out | refine below_set ?_ GE260.out) | exact HB.out)⟩
    (try clear HO256)
    (try clear HO259)
    (try clear BK251)
    (try clear BK252)
    (try clear BK260)
    (try clear HB)
    generalize (w25.setCell ⟨go9, (a1 : Int).toNat, none⟩ (.int .i64 (wrap64 ((rd t257 a1) + a2)))) = w27 at n0_ n1_ n2_ n3_ n4_ n5_ ⊢
    have HO256 := n0_
    have HO259 := n1_
    have BK251 := n2_
    have BK252 := n3_
    have BK260 := n4_
    have HB := n5_
    clear n0_ n1_ n2_ n3_ n4_ n5_
    have hcz28_0 : w27.cell? ⟨gb260, 0, none⟩ = some (.slice Ao19 t254.length co19) := kx BK260.out
    have hcz28_1 : w27.cell? ⟨gb260, 1, none⟩ = some (.slice (some ⟨go9, 0, none⟩) t257.length co23) := kx BK260.out
    have hfz28_0 := blk_frozen BK260.out 0
    have hfz28_1 := blk_frozen BK260.out 1
    try go_wp2_with (first | ((with_reducible refine gate_callee (f := 52) rfl ?_); refine kG (some 29) Try.func52 #[.agg #[.slice Ao19 t254.length co19, .slice (some ⟨go9, 0, none⟩) t257.length co23]] ?_; (with_reducible refine (spec_l06Done.calls k (fun k_ => (((((w.heap.size ≤ k_) ∧ some k_ ≠ (.slice (some ⟨go9, 0, none⟩) t257.length co23 : Value).ownBlock) ∧ k_ ≠ gb251) ∧ k_ ≠ gb252) ∧ k_ ≠ gb260)) _ _ t254 (fun k_ => some k_ = (.slice (some ⟨go9, 0, none⟩) t257.length co23 : Value).ownBlock) (.slice (some ⟨go9, 0, none⟩) t257.length co23) y262 t263 t266 t269 w _ ?side1 ?side2 ?side3 A10.out).mono ?_); (case side1 => repeat (first | (with_reducible first | exact HB.out | apply below_alloc | apply pw_below_drewN | apply below_drew1 | refine below_set ?_ GE251.out | refine below_set ?_ GE252.out | refine below_set ?_ GE260.out) | exact HB.out)); (case side2 => exact Kd.V_mono (Kd.S_V (Kd.S_types (Kd.S_types (Kd.S_types (HO256.out) BK251.out (by decide)) BK252.out (by decide)) BK260.out (by decide))) (fun k_ hk_ => ⟨hk_, hk_.1.1.1.2⟩)); (case side3 => exact Kd.R_tight rfl HO259.out); rintro e w29 ⟨v264, v267, rfl, ho0, ho1, hb, hkp⟩; refine ⟨_, rfl, ?_⟩; have n0_ := k0 (kK BK251.out hkp (fun hs_ => (fun e_ => (Kd.R_ne HO259.out BK251.out (by decide)) e_) hs_)); have n1_ := k0 (kK BK252.out hkp (fun hs_ => (fun e_ => (Kd.R_ne HO259.out BK252.out (by decide)) e_) hs_)); have n2_ := k0 (Kd.S_mono (ok' := fun k_ => (w.heap.size ≤ k_) ∧ some k_ ≠ (v267 : Value).ownBlock) (Kd.S_keptB (HO256.out) hkp (fun k_ hk_ hs_ => (hk_.2) hs_)) (fun k_ hk_ => ⟨hk_.1.1, fun e_ => Or.elim (ho1.1 k_ e_.symm) (fun hs_ => hk_.2.1 hs_) (fun hn_ => Nat.not_le.2 hk_.2.2 hn_)⟩)); have n3_ := k0 (kK BK260.out hkp (fun hs_ => (fun e_ => (Kd.R_ne HO259.out BK260.out (by decide)) e_) hs_)); have n4_ := k0 (Kd.V_mono (ok' := fun k_ => (w.heap.size ≤ k_) ∧ some k_ ≠ (v267 : Value).ownBlock ∧ k_ ≠ gb251 ∧ k_ ≠ gb252 ∧ k_ ≠ gb260) ho0 (fun k_ hk_ => ⟨Or.elim hk_.1 (fun hs_ => Or.elim hs_ (fun hs_ => (HO259.out.1 k_ (hs_).symm)) (fun hs_ => hs_.1.1.1.1)) (fun hn_ => (Nat.le_trans (below_size (kW HB.out)) hn_)), hk_.2, Or.elim hk_.1 (fun hs_ => Or.elim hs_ (fun hs_ => fun e_ => (Kd.R_ne HO259.out BK251.out (by decide)) (by rw [← e_]; exact hs_)) (fun hs_ => hs_.1.1.2)) (fun hn_ => (Kd.freshB (g := gb251) (o := .cells #[.slice A0_0 l0_0.length c0_0, .slice A0_1 l0_1.length c0_1] 28 (0, 0)) (kB BK251.out) k_ hn_)), Or.elim hk_.1 (fun hs_ => Or.elim hs_ (fun hs_ => fun e_ => (Kd.R_ne HO259.out BK252.out (by decide)) (by rw [← e_]; exact hs_)) (fun hs_ => hs_.1.2)) (fun hn_ => (Kd.freshB (g := gb252) (o := .cells #[.slice none 0 0, .slice none 0 0] 28 (0, 0)) (kB BK252.out) k_ hn_)), Or.elim hk_.1 (fun hs_ => Or.elim hs_ (fun hs_ => fun e_ => (Kd.R_ne HO259.out BK260.out (by decide)) (by rw [← e_]; exact hs_)) (fun hs_ => hs_.2)) (fun hn_ => (Kd.freshB (g := gb260) (o := .cells #[.slice Ao19 t254.length co19, .slice (some ⟨go9, 0, none⟩) t257.length co23] 28 (0, 0)) (kB BK260.out) k_ hn_))⟩)); have n5_ := k0 (Kd.R_mono (ok' := fun k_ => (w.heap.size ≤ k_)) ho1 (fun k_ hk_ => Or.elim hk_ (fun hs_ => (HO259.out.1 k_ (hs_).symm)) (fun hn_ => (Nat.le_trans (below_size (kW HB.out)) hn_)))); have n6_ := k0 (hb); clear BK251; clear BK252; clear HO256; clear BK260; clear HB; clear HO259; have BK251 := n0_; have BK252 := n1_; have HO256 := n2_; have BK260 := n3_; have HO265 := n4_; have HO268 := n5_; have HB := n6_; clear n0_ n1_ n2_ n3_ n4_ n5_ n6_; (try clear hb); (try clear hkp); (try clear ho0); (try clear ho1); obtain ⟨Ao30, co30, eo30⟩ := Kd.V_slice HO265.out; subst eo30; have hcz31_0 : w29.cell? ⟨gb252, 0, none⟩ = some (.slice none 0 0) := kx BK252.out; have hcz31_1 : w29.cell? ⟨gb252, 1, none⟩ = some (.slice none 0 0) := kx BK252.out; have hfz31_0 := blk_frozen BK252.out 0; have hfz31_1 := blk_frozen BK252.out 1; obtain ⟨Ao32, co32, eo32⟩ := Kd.R_slice HO268.out; subst eo32))
    refine bodyPost_ret (results_ct rfl _ _ gb252 28 #[.slice Ao30 t263.length co30, .slice Ao32 t266.length co32] (0, 0) _ rfl (by (with_reducible repeat first | apply k1 | apply k2 | apply k3); refine blk_put (cs := #[.slice Ao30 t263.length co30, .slice none 0 0]) ?_ 1 _ rfl; (with_reducible repeat first | apply k1 | apply k2 | apply k3); refine blk_put (cs := #[.slice none 0 0, .slice none 0 0]) ?_ 0 _ rfl; (with_reducible repeat first | apply k1 | apply k2 | apply k3); exact BK252.out) Try.underlying28 rfl (by kernel_rfl)) rfl ?_
    exact ⟨_, _, by first | rfl | (simp [errW_none, errW_some] <;> rfl) | (simp [*, errW_none, errW_some] <;> rfl), by (with_reducible repeat (first | apply Kd.V_alloc | apply Kd.V_drewN | apply Kd.V_drew)); exact Kd.V_mono (Kd.V_far (p := ⟨gb252, 1, none⟩) (Kd.V_far (p := ⟨gb252, 0, none⟩) (Kd.V_mono HO265.out (fun k_ hk => (⟨hk, hk.2.2.2.1⟩ : _ ∧ k_ ≠ gb252))) (fun _ hk => hk.2) (.slice Ao30 t263.length co30)) (fun _ hk => hk.2) (.slice Ao32 t266.length co32)) (fun _ hk => ⟨hk.1.1, hk.1.2.1⟩), by (with_reducible repeat (first | apply Kd.R_alloc | apply Kd.R_drewN | apply Kd.R_drew)); exact Kd.R_mono (Kd.R_far (p := ⟨gb252, 1, none⟩) (Kd.R_far (p := ⟨gb252, 0, none⟩) (Kd.R_types HO268.out BK252.out (by decide)) (fun _ hk => hk.2) (.slice Ao30 t263.length co30)) (fun _ hk => hk.2) (.slice Ao32 t266.length co32)) (fun _ hk => hk.1), by repeat (first | (with_reducible first | exact HB.out | apply below_alloc | apply pw_below_drewN | apply below_drew1 | refine below_set ?_ GE251.out | refine below_set ?_ GE252.out | refine below_set ?_ GE260.out) | exact HB.out)⟩
   ·rw [if_neg c8] at H
    exact absurd H (by simp)
  ·rw [if_neg c7] at H
   exact absurd H (by simp)
 ·replace c5 := Bool.eq_false_iff.mpr c5
  subst c5
  have H1 : (some (([] : List (List Int)), ([] : List Int), false)) = some (r1, r2, r3) := by rw [if_neg (show ¬ (false = true) by decide)] at H; exact H
  clear H
  have H := H1
  clear H1
  simp only [Option.some.injEq, Prod.mk.injEq] at H
  obtain ⟨rfl, rfl, rfl⟩ := H
  go_enter Try.func30, Try.ntmps30
  go_wp2_with (first | ((with_reducible refine gate_dst (N := 3) rfl ?_); refine kE (N := 3) (cs := #[.slice A0_0 l0_0.length c0_0, .slice A0_1 l0_1.length c0_1]) (t := 28) ?_; intro gb251 hg w33 hbox hb; have n0_ := k0 (below_step (kW HB.out) hb); have n1_ := k0 (hbox); have n2_ := k0 (kY HB.out hg); have n3_ := k0 (kY HB.out hg); clear HB; have HB := n0_; have BK251 := n1_; have GW251 := n2_; have GE251 := n3_; clear n0_ n1_ n2_ n3_; clear hb hbox hg) | ((with_reducible refine gate_dst (N := 6) rfl ?_); refine kE (N := 6) (cs := #[.slice none 0 0, .slice none 0 0]) (t := 28) ?_; intro gb252 hg w34 hbox hb; have n0_ := k0 (kb BK251.out hb); have n1_ := k0 (below_step (kW HB.out) hb); have n2_ := k0 (hbox); have n3_ := k0 (kY HB.out hg); have n4_ := k0 (kY HB.out hg); have n5_ := k0 ((by rw [hg]; exact Nat.ne_of_lt (blk_lt (g := gb251) (o := .cells #[.slice A0_0 l0_0.length c0_0, .slice A0_1 l0_1.length c0_1] 28 (0, 0)) (kB BK251.out)) : gb251 ≠ gb252)); have n6_ := k0 ((by rw [hg]; exact Nat.ne_of_gt (blk_lt (g := gb251) (o := .cells #[.slice A0_0 l0_0.length c0_0, .slice A0_1 l0_1.length c0_1] 28 (0, 0)) (kB BK251.out)) : gb252 ≠ gb251)); clear BK251; clear HB; have BK251 := n0_; have HB := n1_; have BK252 := n2_; have GW252 := n3_; have GE252 := n4_; have NB251_252 := n5_; have NB252_251 := n6_; clear n0_ n1_ n2_ n3_ n4_ n5_ n6_; clear hb hbox hg; have hnb35 := NB251_252.out; have hnc35 := NB252_251.out; have hcz36_0 : w34.cell? ⟨gb251, 0, none⟩ = some (.slice A0_0 l0_0.length c0_0) := kx BK251.out; have hcz36_1 : w34.cell? ⟨gb251, 1, none⟩ = some (.slice A0_1 l0_1.length c0_1) := kx BK251.out; have hfz36_0 := blk_frozen BK251.out 0; have hfz36_1 := blk_frozen BK251.out 1) | ((with_reducible refine gate_callee (f := 58) rfl ?_); refine kG (some 12) Try.func58 #[.agg #[.slice A0_0 l0_0.length c0_0, .slice A0_1 l0_1.length c0_1], .int .i64 a1, .int .i64 a2] ?_; (with_reducible refine (spec_l06May.calls k _ _ l0_0 _ _ l0_1 a1 a2 false _ ?side1 ?side2 ?side3 ?side4 A4.out).mono ?_); (case side1 => exact kC (Kd.C_below HR0_0.out HB.out)); (case side2 => exact HC0_0.out); (case side3 => exact kC (Kd.C_below HR0_1.out HB.out)); (case side4 => exact HC0_1.out); rintro e w37 ⟨rfl, hb⟩; refine ⟨_, rfl, ?_⟩; have n0_ := k0 (kb BK251.out hb); have n1_ := k0 (kb BK252.out hb); have n2_ := k0 (below_step (kW HB.out) hb); clear BK251; clear BK252; clear HB; have BK251 := n0_; have BK252 := n1_; have HB := n2_; clear n0_ n1_ n2_; (try clear hb); (try clear hb2); (try clear hk); (try clear hi); have hcz38_0 : w37.cell? ⟨gb252, 0, none⟩ = some (.slice none 0 0) := kx BK252.out; have hcz38_1 : w37.cell? ⟨gb252, 1, none⟩ = some (.slice none 0 0) := kx BK252.out; have hfz38_0 := blk_frozen BK252.out 0; have hfz38_1 := blk_frozen BK252.out 1))
  refine bodyPost_ret (results_ct rfl _ _ gb252 28 #[.slice none 0 0, .slice none 0 0] (0, 0) _ rfl (by (with_reducible repeat first | apply k1 | apply k2 | apply k3); refine blk_put (cs := #[.slice none 0 0, .slice none 0 0]) ?_ 1 _ rfl; (with_reducible repeat first | apply k1 | apply k2 | apply k3); refine blk_put (cs := #[.slice none 0 0, .slice none 0 0]) ?_ 0 _ rfl; (with_reducible repeat first | apply k1 | apply k2 | apply k3); exact BK252.out) Try.underlying28 rfl (by kernel_rfl)) rfl ?_
  exact ⟨_, _, by first | rfl | (simp [errW_none, errW_some] <;> rfl) | (simp [*, errW_none, errW_some] <;> rfl), Kd.V_nil _ _ _ _ _, by first | exact Kd.R_nil _ _ _ _ _ | exact Kd.N_nil _ _ _ _ _ | exact Kd.V_nil _ _ _ _ _ | exact Kd.Q_nil _ _ _ _ _ | exact Kd.S_nil _ _ _ _ _, by repeat (first | (with_reducible first | exact HB.out | apply below_alloc | apply pw_below_drewN | apply below_drew1 | refine below_set ?_ GE251.out | refine below_set ?_ GE252.out) | exact HB.out)⟩

/-! ### spec_Hand: function 32 -/
def spec_Hand.j0 : Nat → Int → Int → Int → Bool → List (List Int) → List Int → Option ((List (List Int)) × List Int × Bool)
 | 0, _, _, _, _, _, _ => none
 | k + 1, x1, x2, x3, x27, x271000, x271001 => if x27 = true then (some (([] : List (List Int)), ([] : List Int), false)) else ((spec_l06Copy.f k x271000 x271001).bind fun bt274 => (if 0 ≤ x1 then (if x1 < (bt274.1.length : Int) then (if 0 ≤ x2 then (if x2 < ((rd_L1 bt274.1 x1).length : Int) then ((spec_l06Done.f k (bt274.1.set (x1 : Int).toNat ((rd_L1 bt274.1 x1).set (x2 : Int).toNat (wrap64 ((rd (rd_L1 bt274.1 x1) x2) + x3)))) bt274.2).bind fun bt287 => (some (bt287.1, bt287.2.1, bt287.2.2))) else (none)) else (none)) else (none)) else (none)))
def spec_Hand.f (k : Nat) (l0_0 : List (List Int)) (l0_1 : List Int) (a1 : Int) (a2 : Int) (a3 : Int) : Option ((List (List Int)) × List Int × Bool) := (spec_l06May.f k l0_0 l0_1 a1 a3).bind fun t272 => (if t272 = true then ((spec_l06May.f k l0_0 l0_1 a2 a3).bind fun t273 => (if t273 = true then (spec_Hand.j0 k a1 a2 a3 (a1 == a2) l0_0 l0_1) else (spec_Hand.j0 k a1 a2 a3 true l0_0 l0_1))) else (spec_Hand.j0 k a1 a2 a3 true l0_0 l0_1))
theorem spec_Hand.mono_l : ∀ k, (∀ y0 y1 y2 y3 y4 y5, LeO (spec_Hand.j0 k y0 y1 y2 y3 y4 y5) (spec_Hand.j0 (k + 1) y0 y1 y2 y3 y4 y5))
 | 0 => fun _ _ _ _ _ _ r h => by simp [spec_Hand.j0] at h
 | k + 1 => by
  have ih0 := spec_Hand.mono_l k
  ·intro y0 y1 y2 y3 y4 y5
   unfold spec_Hand.j0
   repeat' first
   | (with_reducible exact ih0 _ _ _ _ _ _)
   | (with_reducible exact spec_l06Copy.mono _ _ _)
   | (with_reducible exact spec_l06Done.mono _ _ _)
   | (with_reducible exact spec_l06May.mono _ _ _ _ _)
   | (with_reducible exact LeO.refl _)
   | (with_reducible exact LeO.none _)
   | (with_reducible refine LeO.ite ?_ ?_)
   | (with_reducible refine LeO.bind ?_ (fun _ => ?_))
   | exact ih0 _ _ _ _ _ _
   | exact spec_l06Copy.mono _ _ _
   | exact spec_l06Done.mono _ _ _
   | exact spec_l06May.mono _ _ _ _ _
   | exact LeO.none _
   | refine LeO.ite ?_ ?_
   | refine LeO.bind ?_ (fun _ => ?_)
theorem spec_Hand.mono : ∀ a0 a1 a2 a3 a4 k, LeO (spec_Hand.f k a0 a1 a2 a3 a4) (spec_Hand.f (k + 1) a0 a1 a2 a3 a4) := by
 intro a0 a1 a2 a3 a4 k
 have ih0 := spec_Hand.mono_l k
 unfold spec_Hand.f
 repeat' first
   | (with_reducible exact ih0 _ _ _ _ _ _)
   | (with_reducible exact spec_l06Copy.mono _ _ _)
   | (with_reducible exact spec_l06Done.mono _ _ _)
   | (with_reducible exact spec_l06May.mono _ _ _ _ _)
   | (with_reducible exact LeO.refl _)
   | (with_reducible exact LeO.none _)
   | (with_reducible refine LeO.ite ?_ ?_)
   | (with_reducible refine LeO.bind ?_ (fun _ => ?_))
   | exact ih0 _ _ _ _ _ _
   | exact spec_l06Copy.mono _ _ _
   | exact spec_l06Done.mono _ _ _
   | exact spec_l06May.mono _ _ _ _ _
   | exact LeO.none _
   | refine LeO.ite ?_ ?_
   | refine LeO.bind ?_ (fun _ => ?_)
def spec_Hand.T4 : Bool × List (List Nat × List Nat) := (true, [([], []), ([0], [0]), ([], []), ([1, 2], [1, 2]), ([3], [3]), ([], []), ([], []), ([6], [6]), ([], []), ([7, 8], [7, 8]), ([9], [9]), ([], []), ([10, 11], [10, 11]), ([12], [12]), ([], []), ([13, 14], [13, 14]), ([4, 5, 0, 1, 2, 3, 4, 5, 6, 7, 8, 9, 10, 11, 12, 13, 14, 15], [4, 5]), ([16, 15, 0, 1, 2, 3, 4, 5, 6, 7, 8, 9, 10, 11, 12, 13, 14, 15], [15, 16])])
def spec_Hand.B4 : List Nat := [0, 1, 0, 7, 15, 0, 0, 64, 0, 448, 960, 0, 4032, 8128, 0, 32704, 65535, 131071]
theorem spec_Hand.tab4 : rtab .any (opsOf Try.f32 4) = spec_Hand.T4 := by kernel_rfl
theorem spec_Hand.bits4 : waitsOk spec_Hand.T4.2 spec_Hand.B4 = true := by kernel_rfl
set_option maxHeartbeats 8000000 in
set_option maxRecDepth 100000 in
theorem spec_Hand.calls (k : Nat) (A0_0 : Option Addr) (c0_0 : Nat) (l0_0 : List (List Int)) (A0_1 : Option Addr) (c0_1 : Nat) (l0_1 : List Int) (a1 : Int) (a2 : Int) (a3 : Int) (r1 : List (List Int)) (r2 : List Int) (r3 : Bool) (w : World) (hr0_0 : Kd.C (Kd.slice 3 (Kd.int .i64)) w A0_0 l0_0.length l0_0) (hc0_0 : l0_0.length ≤ c0_0) (hr0_1 : Kd.C (Kd.int .i64) w A0_1 l0_1.length l0_1) (hc0_1 : l0_1.length ≤ c0_1) (h : spec_Hand.f k l0_0 l0_1 a1 a2 a3 = some (r1, r2, r3)) :
  Calls Try.prog 32 #[.agg #[.slice A0_0 l0_0.length c0_0, .slice A0_1 l0_1.length c0_1], .int .i64 a1, .int .i64 a2, .int .i64 a3] w fun e w' => ∃ v0_ v1_ : Value, e = .returned (.tuple #[.agg #[v0_, v1_], .bool r3]) ∧ Kd.V (Kd.slice 3 (Kd.int .i64)) 23 w' w.heap.size (fun k_ => (w.heap.size ≤ k_) ∧ some k_ ≠ (v1_ : Value).ownBlock) v0_ r1 ∧ Kd.R (Kd.int .i64) 3 w' w.heap.size (fun k_ => (w.heap.size ≤ k_)) v1_ r2 ∧ Below w.heap.size w w' := by
 have hu28 := Try.underlying28
 have HR0_0 := Aside0.mk hr0_0
 have HC0_0 := Aside0.mk hc0_0
 clear hr0_0 hc0_0
 have HR0_1 := Aside0.mk hr0_1
 have HC0_1 := Aside0.mk hc0_1
 clear hr0_1 hc0_1
 have HB := k0 (Below.refl w.heap.size w)
 have H : ((spec_l06May.f k l0_0 l0_1 a1 a3).bind fun t272 => (if t272 = true then ((spec_l06May.f k l0_0 l0_1 a2 a3).bind fun t273 => (if t273 = true then (spec_Hand.j0 k a1 a2 a3 (a1 == a2) l0_0 l0_1) else (spec_Hand.j0 k a1 a2 a3 true l0_0 l0_1))) else (spec_Hand.j0 k a1 a2 a3 true l0_0 l0_1))) = some (r1, r2, r3) := h
 clear h
 have HC5 := Aside0.mk H
 clear H
 go_enter Try.func32, Try.ntmps32
 go_upto_region 1 with (first | ((with_reducible refine gate_dst (N := 4) rfl ?_); refine kE (N := 4) (cs := #[.slice A0_0 l0_0.length c0_0, .slice A0_1 l0_1.length c0_1]) (t := 28) ?_; intro gb270 hg w6 hbox hb; have n0_ := k0 (below_step (kW HB.out) hb); have n1_ := k0 (hbox); have n2_ := k0 (kY HB.out hg); have n3_ := k0 (kY HB.out hg); clear HB; have HB := n0_; have BK270 := n1_; have GW270 := n2_; have GE270 := n3_; clear n0_ n1_ n2_ n3_; clear hb hbox hg) | ((with_reducible refine gate_dst (N := 8) rfl ?_); refine kE (N := 8) (cs := #[.slice none 0 0, .slice none 0 0]) (t := 28) ?_; intro gb271 hg w7 hbox hb; have n0_ := k0 (kb BK270.out hb); have n1_ := k0 (below_step (kW HB.out) hb); have n2_ := k0 (hbox); have n3_ := k0 (kY HB.out hg); have n4_ := k0 (kY HB.out hg); have n5_ := k0 ((by rw [hg]; exact Nat.ne_of_lt (blk_lt (g := gb270) (o := .cells #[.slice A0_0 l0_0.length c0_0, .slice A0_1 l0_1.length c0_1] 28 (0, 0)) (kB BK270.out)) : gb270 ≠ gb271)); have n6_ := k0 ((by rw [hg]; exact Nat.ne_of_gt (blk_lt (g := gb270) (o := .cells #[.slice A0_0 l0_0.length c0_0, .slice A0_1 l0_1.length c0_1] 28 (0, 0)) (kB BK270.out)) : gb271 ≠ gb270)); clear BK270; clear HB; have BK270 := n0_; have HB := n1_; have BK271 := n2_; have GW271 := n3_; have GE271 := n4_; have NB270_271 := n5_; have NB271_270 := n6_; clear n0_ n1_ n2_ n3_ n4_ n5_ n6_; clear hb hbox hg))
 (try simp only [Act.put, List.setIfInBounds_toArray, List.set_cons_zero, List.set_cons_succ])
 go_cut [27] (fun v27 wc => ∃ (kq : Nat) (x27_4 : Bool), v27 = .bool x27_4 ∧ Aside0 (spec_Hand.j0 kq a1 a2 a3 x27_4 l0_0 l0_1 = some (r1, r2, r3)) ∧ Aside0 (kq ≤ k) ∧ Aside0 (wc.heap[gb270]? = some (.cells #[(.slice A0_0 l0_0.length c0_0), (.slice A0_1 l0_1.length c0_1)] 28 (0, 0))) ∧ Aside0 (wc.heap[gb271]? = some (.cells #[(.slice none 0 0), (.slice none 0 0)] 28 (0, 0))) ∧ Aside0 (Below w.heap.size w wc))
 case first =>
  have H := HC5.out
  clear HC5
  replace H := Option.bind_eq_some_iff.mp H
  obtain ⟨t272, A80, H⟩ := H
  replace H : (if t272 = true then ((spec_l06May.f k l0_0 l0_1 a2 a3).bind fun t273 => (if t273 = true then (spec_Hand.j0 k a1 a2 a3 (a1 == a2) l0_0 l0_1) else (spec_Hand.j0 k a1 a2 a3 true l0_0 l0_1))) else (spec_Hand.j0 k a1 a2 a3 true l0_0 l0_1)) = some (r1, r2, r3) := H
  have A8 := Aside0.mk A80
  clear A80
  by_cases c9 : t272 = true
  ·subst c9
   have H1 : ((spec_l06May.f k l0_0 l0_1 a2 a3).bind fun t273 => (if t273 = true then (spec_Hand.j0 k a1 a2 a3 (a1 == a2) l0_0 l0_1) else (spec_Hand.j0 k a1 a2 a3 true l0_0 l0_1))) = some (r1, r2, r3) := by rw [if_pos rfl] at H; exact H
   clear H
   have H := H1
   clear H1
   replace H := Option.bind_eq_some_iff.mp H
   obtain ⟨t273, A100, H⟩ := H
   replace H : (if t273 = true then (spec_Hand.j0 k a1 a2 a3 (a1 == a2) l0_0 l0_1) else (spec_Hand.j0 k a1 a2 a3 true l0_0 l0_1)) = some (r1, r2, r3) := H
   have A10 := Aside0.mk A100
   clear A100
   by_cases c11 : t273 = true
   ·subst c11
    have H1 : (spec_Hand.j0 k a1 a2 a3 (a1 == a2) l0_0 l0_1) = some (r1, r2, r3) := by rw [if_pos rfl] at H; exact H
    clear H
    have H := H1
    clear H1
    have H' := Aside0.mk H
    clear H
    have hnb12 := NB270_271.out
    have hnc12 := NB271_270.out
    have hcz13_0 : w7.cell? ⟨gb270, 0, none⟩ = some (.slice A0_0 l0_0.length c0_0) := kx BK270.out
    have hcz13_1 : w7.cell? ⟨gb270, 1, none⟩ = some (.slice A0_1 l0_1.length c0_1) := kx BK270.out
    have hfz13_0 := blk_frozen BK270.out 0
    have hfz13_1 := blk_frozen BK270.out 1
    go_wp2_with (first | ((with_reducible refine gate_callee (f := 58) rfl ?_); refine kG (some 14) Try.func58 #[.agg #[.slice A0_0 l0_0.length c0_0, .slice A0_1 l0_1.length c0_1], .int .i64 a1, .int .i64 a3] ?_; (with_reducible refine (spec_l06May.calls k _ _ l0_0 _ _ l0_1 a1 a3 true _ ?side1 ?side2 ?side3 ?side4 A8.out).mono ?_); (case side1 => exact kC (Kd.C_below HR0_0.out HB.out)); (case side2 => exact HC0_0.out); (case side3 => exact kC (Kd.C_below HR0_1.out HB.out)); (case side4 => exact HC0_1.out); rintro e w14 ⟨rfl, hb⟩; refine ⟨_, rfl, ?_⟩; have n0_ := k0 (kb BK270.out hb); have n1_ := k0 (kb BK271.out hb); have n2_ := k0 (below_step (kW HB.out) hb); clear BK270; clear BK271; clear HB; have BK270 := n0_; have BK271 := n1_; have HB := n2_; clear n0_ n1_ n2_; (try clear hb); (try clear hb2); (try clear hk); (try clear hi); have hcz15_0 : w14.cell? ⟨gb270, 0, none⟩ = some (.slice A0_0 l0_0.length c0_0) := kx BK270.out; have hcz15_1 : w14.cell? ⟨gb270, 1, none⟩ = some (.slice A0_1 l0_1.length c0_1) := kx BK270.out; have hfz15_0 := blk_frozen BK270.out 0; have hfz15_1 := blk_frozen BK270.out 1) | (go_at_call 58; (with_reducible refine (spec_l06May.calls k _ _ l0_0 _ _ l0_1 a2 a3 true _ ?side1 ?side2 ?side3 ?side4 A10.out).mono ?_); (case side1 => exact kC (Kd.C_below HR0_0.out HB.out)); (case side2 => exact HC0_0.out); (case side3 => exact kC (Kd.C_below HR0_1.out HB.out)); (case side4 => exact HC0_1.out); rintro e w16 ⟨rfl, hb⟩; have n0_ := k0 (kb BK270.out hb); have n1_ := k0 (kb BK271.out hb); have n2_ := k0 (below_step (kW HB.out) hb); clear BK270; clear BK271; clear HB; have BK270 := n0_; have BK271 := n1_; have HB := n2_; clear n0_ n1_ n2_; (try clear hb); (try clear hb2); (try clear hk); (try clear hi)))
    go_meet
    case rel => exact ⟨_, ((a1 == a2)), (by first | rfl | (simp; done) | (simp [*]; done)), H', ⟨by first | omega | exact Nat.le_refl _⟩, ⟨kB BK270.out⟩, ⟨kB BK271.out⟩, ⟨by repeat (first | (with_reducible first | exact HB.out | apply below_alloc | apply pw_below_drewN | apply below_drew1 | refine below_set ?_ GE270.out | refine below_set ?_ GE271.out) | exact HB.out)⟩⟩
   ·replace c11 := Bool.eq_false_iff.mpr c11
    subst c11
    have H1 : (spec_Hand.j0 k a1 a2 a3 true l0_0 l0_1) = some (r1, r2, r3) := by rw [if_neg (show ¬ (false = true) by decide)] at H; exact H
    clear H
    have H := H1
    clear H1
    have H' := Aside0.mk H
    clear H
    have hnb17 := NB270_271.out
    have hnc17 := NB271_270.out
    have hcz18_0 : w7.cell? ⟨gb270, 0, none⟩ = some (.slice A0_0 l0_0.length c0_0) := kx BK270.out
    have hcz18_1 : w7.cell? ⟨gb270, 1, none⟩ = some (.slice A0_1 l0_1.length c0_1) := kx BK270.out
    have hfz18_0 := blk_frozen BK270.out 0
    have hfz18_1 := blk_frozen BK270.out 1
    go_wp2_with (first | ((with_reducible refine gate_callee (f := 58) rfl ?_); refine kG (some 14) Try.func58 #[.agg #[.slice A0_0 l0_0.length c0_0, .slice A0_1 l0_1.length c0_1], .int .i64 a1, .int .i64 a3] ?_; (with_reducible refine (spec_l06May.calls k _ _ l0_0 _ _ l0_1 a1 a3 true _ ?side1 ?side2 ?side3 ?side4 A8.out).mono ?_); (case side1 => exact kC (Kd.C_below HR0_0.out HB.out)); (case side2 => exact HC0_0.out); (case side3 => exact kC (Kd.C_below HR0_1.out HB.out)); (case side4 => exact HC0_1.out); rintro e w19 ⟨rfl, hb⟩; refine ⟨_, rfl, ?_⟩; have n0_ := k0 (kb BK270.out hb); have n1_ := k0 (kb BK271.out hb); have n2_ := k0 (below_step (kW HB.out) hb); clear BK270; clear BK271; clear HB; have BK270 := n0_; have BK271 := n1_; have HB := n2_; clear n0_ n1_ n2_; (try clear hb); (try clear hb2); (try clear hk); (try clear hi); have hcz20_0 : w19.cell? ⟨gb270, 0, none⟩ = some (.slice A0_0 l0_0.length c0_0) := kx BK270.out; have hcz20_1 : w19.cell? ⟨gb270, 1, none⟩ = some (.slice A0_1 l0_1.length c0_1) := kx BK270.out; have hfz20_0 := blk_frozen BK270.out 0; have hfz20_1 := blk_frozen BK270.out 1) | (go_at_call 58; (with_reducible refine (spec_l06May.calls k _ _ l0_0 _ _ l0_1 a2 a3 false _ ?side1 ?side2 ?side3 ?side4 A10.out).mono ?_); (case side1 => exact kC (Kd.C_below HR0_0.out HB.out)); (case side2 => exact HC0_0.out); (case side3 => exact kC (Kd.C_below HR0_1.out HB.out)); (case side4 => exact HC0_1.out); rintro e w21 ⟨rfl, hb⟩; have n0_ := k0 (kb BK270.out hb); have n1_ := k0 (kb BK271.out hb); have n2_ := k0 (below_step (kW HB.out) hb); clear BK270; clear BK271; clear HB; have BK270 := n0_; have BK271 := n1_; have HB := n2_; clear n0_ n1_ n2_; (try clear hb); (try clear hb2); (try clear hk); (try clear hi)))
    go_meet
    case rel => exact ⟨_, (true), (by first | rfl | (simp; done) | (simp [*]; done)), H', ⟨by first | omega | exact Nat.le_refl _⟩, ⟨kB BK270.out⟩, ⟨kB BK271.out⟩, ⟨by repeat (first | (with_reducible first | exact HB.out | apply below_alloc | apply pw_below_drewN | apply below_drew1 | refine below_set ?_ GE270.out | refine below_set ?_ GE271.out) | exact HB.out)⟩⟩
  ·replace c9 := Bool.eq_false_iff.mpr c9
   subst c9
   have H1 : (spec_Hand.j0 k a1 a2 a3 true l0_0 l0_1) = some (r1, r2, r3) := by rw [if_neg (show ¬ (false = true) by decide)] at H; exact H
   clear H
   have H := H1
   clear H1
   have H' := Aside0.mk H
   clear H
   have hnb22 := NB270_271.out
   have hnc22 := NB271_270.out
   have hcz23_0 : w7.cell? ⟨gb270, 0, none⟩ = some (.slice A0_0 l0_0.length c0_0) := kx BK270.out
   have hcz23_1 : w7.cell? ⟨gb270, 1, none⟩ = some (.slice A0_1 l0_1.length c0_1) := kx BK270.out
   have hfz23_0 := blk_frozen BK270.out 0
   have hfz23_1 := blk_frozen BK270.out 1
   go_wp2_with (first | ((with_reducible refine gate_callee (f := 58) rfl ?_); refine kG (some 14) Try.func58 #[.agg #[.slice A0_0 l0_0.length c0_0, .slice A0_1 l0_1.length c0_1], .int .i64 a1, .int .i64 a3] ?_; (with_reducible refine (spec_l06May.calls k _ _ l0_0 _ _ l0_1 a1 a3 false _ ?side1 ?side2 ?side3 ?side4 A8.out).mono ?_); (case side1 => exact kC (Kd.C_below HR0_0.out HB.out)); (case side2 => exact HC0_0.out); (case side3 => exact kC (Kd.C_below HR0_1.out HB.out)); (case side4 => exact HC0_1.out); rintro e w24 ⟨rfl, hb⟩; refine ⟨_, rfl, ?_⟩; have n0_ := k0 (kb BK270.out hb); have n1_ := k0 (kb BK271.out hb); have n2_ := k0 (below_step (kW HB.out) hb); clear BK270; clear BK271; clear HB; have BK270 := n0_; have BK271 := n1_; have HB := n2_; clear n0_ n1_ n2_; (try clear hb); (try clear hb2); (try clear hk); (try clear hi)))
   go_meet
   case rel => exact ⟨_, (true), (by first | rfl | (simp; done) | (simp [*]; done)), H', ⟨by first | omega | exact Nat.le_refl _⟩, ⟨kB BK270.out⟩, ⟨kB BK271.out⟩, ⟨by repeat (first | (with_reducible first | exact HB.out | apply below_alloc | apply pw_below_drewN | apply below_drew1 | refine below_set ?_ GE270.out | refine below_set ?_ GE271.out) | exact HB.out)⟩⟩
 case rest =>
  clear HC5
  try clear c1
  try clear c2
  try clear p2
  try clear c3
  try clear c5
  try clear c9
  try clear c11
  try clear c12
  try clear c17
  try clear c22
  try clear hcz13_0
  try clear hcz13_1
  try clear hcz15_0
  try clear hcz15_1
  try clear hcz18_0
  try clear hcz18_1
  try clear hcz20_0
  try clear hcz20_1
  try clear hcz23_0
  try clear hcz23_1
  try clear hfz13_0
  try clear hfz13_1
  try clear hfz15_0
  try clear hfz15_1
  try clear hfz18_0
  try clear hfz18_1
  try clear hfz20_0
  try clear hfz20_1
  try clear hfz23_0
  try clear hfz23_1
  obtain ⟨kq, x27_4, rfl, HA, HJ4, BK270, BK271, HB⟩ := hcut
  cases kq with
  | zero => exact absurd HA.out (by simp [spec_Hand.j0])
  | succ kj4 =>
   have H := HA.out
   clear HA
   simp only [spec_Hand.j0] at H
   by_cases c25 : x27_4 = true
   ·subst c25
    have H1 : (some (([] : List (List Int)), ([] : List Int), false)) = some (r1, r2, r3) := by rw [if_pos rfl] at H; exact H
    clear H
    have H := H1
    clear H1
    simp only [Option.some.injEq, Prod.mk.injEq] at H
    obtain ⟨rfl, rfl, rfl⟩ := H
    have hnb26 := NB271_270.out
    have hnc26 := NB270_271.out
    have hcz27_0 : wc.cell? ⟨gb271, 0, none⟩ = some (.slice none 0 0) := kx BK271.out
    have hcz27_1 : wc.cell? ⟨gb271, 1, none⟩ = some (.slice none 0 0) := kx BK271.out
    have hfz27_0 := blk_frozen BK271.out 0
    have hfz27_1 := blk_frozen BK271.out 1
    go_wp2
    refine bodyPost_ret (results_ct rfl _ _ gb271 28 #[.slice none 0 0, .slice none 0 0] (0, 0) _ rfl (by (with_reducible repeat first | apply k1 | apply k2 | apply k3); refine blk_put (cs := #[.slice none 0 0, .slice none 0 0]) ?_ 1 _ rfl; (with_reducible repeat first | apply k1 | apply k2 | apply k3); refine blk_put (cs := #[.slice none 0 0, .slice none 0 0]) ?_ 0 _ rfl; (with_reducible repeat first | apply k1 | apply k2 | apply k3); exact BK271.out) Try.underlying28 rfl (by kernel_rfl)) rfl ?_
    exact ⟨_, _, by first | rfl | (simp [errW_none, errW_some] <;> rfl) | (simp [*, errW_none, errW_some] <;> rfl), Kd.V_nil _ _ _ _ _, by first | exact Kd.R_nil _ _ _ _ _ | exact Kd.N_nil _ _ _ _ _ | exact Kd.V_nil _ _ _ _ _ | exact Kd.Q_nil _ _ _ _ _ | exact Kd.S_nil _ _ _ _ _, by repeat (first | (with_reducible first | exact HB.out | apply below_alloc | apply pw_below_drewN | apply below_drew1 | refine below_set ?_ GE270.out | refine below_set ?_ GE271.out) | exact HB.out)⟩
   ·replace c25 := Bool.eq_false_iff.mpr c25
    subst c25
    have H1 : ((spec_l06Copy.f kj4 l0_0 l0_1).bind fun bt274 => (if 0 ≤ a1 then (if a1 < (bt274.1.length : Int) then (if 0 ≤ a2 then (if a2 < ((rd_L1 bt274.1 a1).length : Int) then ((spec_l06Done.f kj4 (bt274.1.set (a1 : Int).toNat ((rd_L1 bt274.1 a1).set (a2 : Int).toNat (wrap64 ((rd (rd_L1 bt274.1 a1) a2) + a3)))) bt274.2).bind fun bt287 => (some (bt287.1, bt287.2.1, bt287.2.2))) else (none)) else (none)) else (none)) else (none))) = some (r1, r2, r3) := by rw [if_neg (show ¬ (false = true) by decide)] at H; exact H
    clear H
    have H := H1
    clear H1
    replace H := Option.bind_eq_some_iff.mp H
    obtain ⟨⟨t274, t277⟩, A280, H⟩ := H
    replace H : (if 0 ≤ a1 then (if a1 < (t274.length : Int) then (if 0 ≤ a2 then (if a2 < ((rd_L1 t274 a1).length : Int) then ((spec_l06Done.f kj4 (t274.set (a1 : Int).toNat ((rd_L1 t274 a1).set (a2 : Int).toNat (wrap64 ((rd (rd_L1 t274 a1) a2) + a3)))) t277).bind fun bt287 => (some (bt287.1, bt287.2.1, bt287.2.2))) else (none)) else (none)) else (none)) else (none)) = some (r1, r2, r3) := H
    have A28 := Aside0.mk A280
    clear A280
    by_cases c29 : 0 ≤ a1
    ·rw [if_pos c29] at H
     have c29b0 : decide (0 ≤ a1) = true := decide_eq_true c29
     clear c29
     by_cases c30 : a1 < (t274.length : Int)
     ·rw [if_pos c30] at H
      have c30b0 : decide (a1 < (t274.length : Int)) = true := decide_eq_true c30
      clear c30
      by_cases c31 : 0 ≤ a2
      ·rw [if_pos c31] at H
       have c31b0 : decide (0 ≤ a2) = true := decide_eq_true c31
       clear c31
       by_cases c32 : a2 < ((rd_L1 t274 a1).length : Int)
       ·rw [if_pos c32] at H
        have c32b0 : decide (a2 < ((rd_L1 t274 a1).length : Int)) = true := decide_eq_true c32
        clear c32
        obtain ⟨y284, hy284⟩ : ∃ y_ : List Int, y_ = ((rd_L1 t274 a1).set (a2 : Int).toNat (wrap64 ((rd (rd_L1 t274 a1) a2) + a3))) := ⟨_, rfl⟩
        replace H : ((spec_l06Done.f kj4 (t274.set (a1 : Int).toNat y284) t277).bind fun bt287 => (some (bt287.1, bt287.2.1, bt287.2.2))) = some (r1, r2, r3) := by first | (rw [hy284]; with_reducible exact H) | (have H2_ := (Option.bind_some _ _).symm.trans H; rw [hy284]; with_reducible exact H2_) | (have H2_ := (Option.bind_some _ _).symm.trans H; with_reducible exact H2_) | with_reducible exact H | (rw [hy284]; exact H) | exact H
        have Ny284 := Aside0.mk hy284
        clear hy284
        obtain ⟨y286, hy286⟩ : ∃ y_ : List (List Int), y_ = (t274.set (a1 : Int).toNat y284) := ⟨_, rfl⟩
        replace H : ((spec_l06Done.f kj4 y286 t277).bind fun bt287 => (some (bt287.1, bt287.2.1, bt287.2.2))) = some (r1, r2, r3) := by first | (rw [hy286]; with_reducible exact H) | (have H2_ := (Option.bind_some _ _).symm.trans H; rw [hy286]; with_reducible exact H2_) | (have H2_ := (Option.bind_some _ _).symm.trans H; with_reducible exact H2_) | with_reducible exact H | (rw [hy286]; exact H) | exact H
        have Ny286 := Aside0.mk hy286
        clear hy286
        replace H := Option.bind_eq_some_iff.mp H
        obtain ⟨⟨t287, t290, t293⟩, A340, H⟩ := H
        replace H : (some (t287, t290, t293)) = some (r1, r2, r3) := H
        have A34 := Aside0.mk A340
        clear A340
        simp only [Option.some.injEq, Prod.mk.injEq] at H
        obtain ⟨rfl, rfl, rfl⟩ := H
        have hnb35 := NB270_271.out
        have hnc35 := NB271_270.out
        have hcz36_0 : wc.cell? ⟨gb270, 0, none⟩ = some (.slice A0_0 l0_0.length c0_0) := kx BK270.out
        have hcz36_1 : wc.cell? ⟨gb270, 1, none⟩ = some (.slice A0_1 l0_1.length c0_1) := kx BK270.out
        have hfz36_0 := blk_frozen BK270.out 0
        have hfz36_1 := blk_frozen BK270.out 1
        try go_wp2_with (first | ((with_reducible refine gate_callee (f := 50) rfl ?_); refine kG (some 30) Try.func50 #[.agg #[.slice A0_0 l0_0.length c0_0, .slice A0_1 l0_1.length c0_1]] ?_; (with_reducible refine (spec_l06Copy.calls kj4 _ _ l0_0 _ _ l0_1 t274 t277 _ ?side1 ?side2 ?side3 ?side4 A28.out).mono ?_); (case side1 => exact kC (Kd.C_below HR0_0.out HB.out)); (case side2 => exact HC0_0.out); (case side3 => exact kC (Kd.C_below HR0_1.out HB.out)); (case side4 => exact HC0_1.out); rintro e w37 ⟨v275, v278, rfl, ho0, ho1, hb⟩; refine ⟨_, rfl, ?_⟩; have n0_ := k0 (Kd.S_lower (Kd.S_newM (M := fun k_ => (w.heap.size ≤ k_)) ho0 (below_size (kW HB.out)) (fun k_ h_ => h_)) (below_size (kW HB.out))); have n1_ := k0 (Kd.R_lower (Kd.R_newM (M := fun k_ => (w.heap.size ≤ k_)) ho1 (below_size (kW HB.out)) (fun k_ h_ => h_)) (below_size (kW HB.out))); have n2_ := k0 (kb BK270.out hb); have n3_ := k0 (kb BK271.out hb); have n4_ := k0 (below_step (kW HB.out) hb); clear BK270; clear BK271; clear HB; have HO276 := n0_; have HO279 := n1_; have BK270 := n2_; have BK271 := n3_; have HB := n4_; clear n0_ n1_ n2_ n3_ n4_; (try clear hb); (try clear hb2); (try clear hk); (try clear hi); (try clear ho0); (try clear ho1)) | ((with_reducible refine gate_dst (N := 10) rfl ?_); refine kE (N := 10) (cs := #[.slice none 0 0, .slice none 0 0]) (t := 28) ?_; intro gb280 hg w38 hbox hb; have n0_ := k0 (Kd.S_below (kS HO276.out) hb); have n1_ := k0 (Kd.R_below (kR HO279.out) hb); have n2_ := k0 (kb BK270.out hb); have n3_ := k0 (kb BK271.out hb); have n4_ := k0 (below_step (kW HB.out) hb); have n5_ := k0 (hbox); have n6_ := k0 (kY HB.out hg); have n7_ := k0 (kY HB.out hg); have n8_ := k0 ((by rw [hg]; exact Nat.ne_of_lt (blk_lt (g := gb270) (o := .cells #[.slice A0_0 l0_0.length c0_0, .slice A0_1 l0_1.length c0_1] 28 (0, 0)) (kB BK270.out)) : gb270 ≠ gb280)); have n9_ := k0 ((by rw [hg]; exact Nat.ne_of_gt (blk_lt (g := gb270) (o := .cells #[.slice A0_0 l0_0.length c0_0, .slice A0_1 l0_1.length c0_1] 28 (0, 0)) (kB BK270.out)) : gb280 ≠ gb270)); have n10_ := k0 ((by rw [hg]; exact Nat.ne_of_lt (blk_lt (g := gb271) (o := .cells #[.slice none 0 0, .slice none 0 0] 28 (0, 0)) (kB BK271.out)) : gb271 ≠ gb280)); have n11_ := k0 ((by rw [hg]; exact Nat.ne_of_gt (blk_lt (g := gb271) (o := .cells #[.slice none 0 0, .slice none 0 0] 28 (0, 0)) (kB BK271.out)) : gb280 ≠ gb271)); clear HO276; clear HO279; clear BK270; clear BK271; clear HB; have HO276 := n0_; have HO279 := n1_; have BK270 := n2_; have BK271 := n3_; have HB := n4_; have BK280 := n5_; have GW280 := n6_; have GE280 := n7_; have NB270_280 := n8_; have NB280_270 := n9_; have NB271_280 := n10_; have NB280_271 := n11_; clear n0_ n1_ n2_ n3_ n4_ n5_ n6_ n7_ n8_ n9_ n10_ n11_; clear hb hbox hg; obtain ⟨Ao39, co39, eo39⟩ := Kd.S_slice HO276.out; subst eo39; have hnb40 := NB280_270.out; have hnc40 := NB270_280.out; have hnb41 := NB280_271.out; have hnc41 := NB271_280.out; have hcz42_0 : w38.cell? ⟨gb280, 0, none⟩ = some (.slice none 0 0) := kx BK280.out; have hcz42_1 : w38.cell? ⟨gb280, 1, none⟩ = some (.slice none 0 0) := kx BK280.out; have hfz42_0 := blk_frozen BK280.out 0; have hfz42_1 := blk_frozen BK280.out 1; obtain ⟨Ao43, co43, eo43⟩ := Kd.R_slice HO279.out; subst eo43))
        have n0_ : Aside0 (Kd.S (Kd.slice 3 (Kd.int .i64)) 23 ((w38.setCell ⟨gb280, 0, none⟩ (.slice Ao39 t274.length co39)).setCell ⟨gb280, 1, none⟩ (.slice Ao43 t277.length co43)) w.heap.size (fun k_ => (w.heap.size ≤ k_) ∧ some k_ ≠ (.slice Ao43 t277.length co43 : Value).ownBlock) (.slice Ao39 t274.length co39) t274) := ⟨by (with_reducible repeat (first | apply Kd.S_alloc | apply Kd.S_drewN | apply Kd.S_drew)); exact Kd.S_mono (Kd.S_far (p := ⟨gb280, 1, none⟩) (Kd.S_far (p := ⟨gb280, 0, none⟩) (Kd.S_types HO276.out BK280.out (by decide)) (fun _ hk => hk.2) (.slice Ao39 t274.length co39)) (fun _ hk => hk.2) (.slice Ao43 t277.length co43)) (fun _ hk => ⟨hk.1.1, hk.1.2⟩)⟩
        have n1_ : Aside0 (Kd.R (Kd.int .i64) 3 ((w38.setCell ⟨gb280, 0, none⟩ (.slice Ao39 t274.length co39)).setCell ⟨gb280, 1, none⟩ (.slice Ao43 t277.length co43)) w.heap.size (fun k_ => (w.heap.size ≤ k_)) (.slice Ao43 t277.length co43) t277) := ⟨by (with_reducible repeat (first | apply Kd.R_alloc | apply Kd.R_drewN | apply Kd.R_drew)); exact Kd.R_mono (Kd.R_far (p := ⟨gb280, 1, none⟩) (Kd.R_far (p := ⟨gb280, 0, none⟩) (Kd.R_types HO279.out BK280.out (by decide)) (fun _ hk => hk.2) (.slice Ao39 t274.length co39)) (fun _ hk => hk.2) (.slice Ao43 t277.length co43)) (fun _ hk => hk.1.1)⟩
        have n2_ : Aside0 (((w38.setCell ⟨gb280, 0, none⟩ (.slice Ao39 t274.length co39)).setCell ⟨gb280, 1, none⟩ (.slice Ao43 t277.length co43)).heap[gb270]? = some (.cells #[.slice A0_0 l0_0.length c0_0, .slice A0_1 l0_1.length c0_1] 28 (0, 0))) := ⟨by (with_reducible repeat first | apply k1 | apply k2 | apply k3); refine blk_far ?_ NB270_280.out _; (with_reducible repeat first | apply k1 | apply k2 | apply k3); refine blk_far ?_ NB270_280.out _; (with_reducible repeat first | apply k1 | apply k2 | apply k3); exact BK270.out⟩
        have n3_ : Aside0 (((w38.setCell ⟨gb280, 0, none⟩ (.slice Ao39 t274.length co39)).setCell ⟨gb280, 1, none⟩ (.slice Ao43 t277.length co43)).heap[gb271]? = some (.cells #[.slice none 0 0, .slice none 0 0] 28 (0, 0))) := ⟨by (with_reducible repeat first | apply k1 | apply k2 | apply k3); refine blk_far ?_ NB271_280.out _; (with_reducible repeat first | apply k1 | apply k2 | apply k3); refine blk_far ?_ NB271_280.out _; (with_reducible repeat first | apply k1 | apply k2 | apply k3); exact BK271.out⟩
        have n4_ : Aside0 (((w38.setCell ⟨gb280, 0, none⟩ (.slice Ao39 t274.length co39)).setCell ⟨gb280, 1, none⟩ (.slice Ao43 t277.length co43)).heap[gb280]? = some (.cells #[.slice Ao39 t274.length co39, .slice Ao43 t277.length co43] 28 (0, 0))) := ⟨by (with_reducible repeat first | apply k1 | apply k2 | apply k3); refine blk_put (cs := #[.slice Ao39 t274.length co39, .slice none 0 0]) ?_ 1 _ rfl; (with_reducible repeat first | apply k1 | apply k2 | apply k3); refine blk_put (cs := #[.slice none 0 0, .slice none 0 0]) ?_ 0 _ rfl; (with_reducible repeat first | apply k1 | apply k2 | apply k3); exact BK280.out⟩
        have n5_ : Aside0 (Below w.heap.size w ((w38.setCell ⟨gb280, 0, none⟩ (.slice Ao39 t274.length co39)).setCell ⟨gb280, 1, none⟩ (.slice Ao43 t277.length co43))) := ⟨by repeat (first | (with_reducible first | exact HB.out | apply below_alloc | apply pw_below_drewN | apply below_drew1 | refine below_set ?_ GE270.out | refine below_set ?_ GE271.out | refine below_set ?_ GE280.out) | exact HB.out)⟩
        (try clear HO276)
        (try clear HO279)
        (try clear BK270)
        (try clear BK271)
        (try clear BK280)
        (try clear HB)
        generalize ((w38.setCell ⟨gb280, 0, none⟩ (.slice Ao39 t274.length co39)).setCell ⟨gb280, 1, none⟩ (.slice Ao43 t277.length co43)) = w44 at n0_ n1_ n2_ n3_ n4_ n5_ ⊢
        have HO276 := n0_
        have HO279 := n1_
        have BK270 := n2_
        have BK271 := n3_
        have BK280 := n4_
        have HB := n5_
        clear n0_ n1_ n2_ n3_ n4_ n5_
        have n0_ := k0 (Kd.S_drew HO276.out)
        have n1_ := k0 (Kd.R_drew HO279.out)
        have n2_ := k0 (blk_drew BK270.out)
        have n3_ := k0 (blk_drew BK271.out)
        have n4_ := k0 (blk_drew BK280.out)
        have n5_ := k0 (below_drew1 HB.out)
        clear HO276 HO279 BK270 BK271 BK280 HB
        have HO276 := n0_
        have HO279 := n1_
        have BK270 := n2_
        have BK271 := n3_
        have BK280 := n4_
        have HB := n5_
        clear n0_ n1_ n2_ n3_ n4_ n5_
        have p281 : 0 ≤ (a1 : Int) := kD
        have q281 : a1 < (t274.length : Int) := kD
        obtain ⟨ad281, A281_0, c281_0, e281, hx281_0, hl281_0, hi281_0⟩ := at_L1 (Kd.S_reads' HO276.out).2.2 a1 p281 q281
        cases e281
        obtain ⟨ce281, hce281, hMe281, hcc281⟩ := Kd.S_get HO276.out [] a1 p281 (by first | exact q281 | exact kD | (have e_ := (Kd.S_reads' HO276.out).1; omega))
        obtain ⟨ve281_0, rfl, ge281_0⟩ := hMe281
        have hv281_0 := hcc281 0 _ rfl
        rw [Nat.add_zero, show ((Kd.slice 3 (Kd.int .i64))).sz = 1 from rfl, Nat.mul_one] at hv281_0
        replace hv281_0 := Option.some.inj (hv281_0.symm.trans hx281_0)
        rw [hv281_0] at ge281_0
        have HL281_0 := k0 (show Kd.R (Kd.int .i64) 3 _ _ _ _ (rd_L1 t274 a1) from ge281_0)
        clear hv281_0 ge281_0
        have HX281_0 := Aside0.mk hx281_0
        clear hcc281 hce281
        have HR281_0 := Aside0.mk hi281_0
        have HC281_0 := Aside0.mk hl281_0
        clear hi281_0 hl281_0
        replace p281 := eq_true p281
        replace q281 := eq_true q281
        have p282 : 0 ≤ (a1 : Int) := kD
        have q282 : a1 < (t274.length : Int) := kD
        obtain ⟨ad282, A282_0, c282_0, e282, hx282_0, hl282_0, hi282_0⟩ := at_L1 (Kd.S_reads' HO276.out).2.2 a1 p282 q282
        obtain rfl : ad281 = ad282 := (by injection e282)
        obtain ⟨ce282, hce282, hMe282, hcc282⟩ := Kd.S_get HO276.out [] a1 p282 (by first | exact q282 | exact kD | (have e_ := (Kd.S_reads' HO276.out).1; omega))
        obtain ⟨ve282_0, rfl, ge282_0⟩ := hMe282
        have hv282_0 := hcc282 0 _ rfl
        rw [Nat.add_zero, show ((Kd.slice 3 (Kd.int .i64))).sz = 1 from rfl, Nat.mul_one] at hv282_0
        replace hv282_0 := Option.some.inj (hv282_0.symm.trans hx282_0)
        rw [hv282_0] at ge282_0
        have HL282_0 := k0 (show Kd.R (Kd.int .i64) 3 _ _ _ _ (rd_L1 t274 a1) from ge282_0)
        clear hv282_0 ge282_0
        have HX282_0 := Aside0.mk hx282_0
        clear hcc282 hce282
        have HR282_0 := Aside0.mk hi282_0
        have HC282_0 := Aside0.mk hl282_0
        clear hi282_0 hl282_0
        replace p282 := eq_true p282
        replace q282 := eq_true q282
        have ea_ := Option.some.inj (hx281_0.symm.trans hx282_0)
        injection ea_ with ea_ en_ ec_
        subst ea_
        subst ec_
        clear en_
        have p283 : 0 ≤ (a2 : Int) := kD
        have q283 : a2 < ((rd_L1 t274 a1).length : Int) := kD
        obtain ⟨ad283, e283, hx283_0⟩ := Kd.at_int (by repeat (first | (with_reducible exact HR282_0.out) | (with_reducible refine Kd.C_alloc ?_ _) | (with_reducible refine Kd.C_drewN ?_ _) | (with_reducible refine Kd.C_drew ?_) | exact HR282_0.out)) a2 p283 q283
        cases e283
        replace p283 := eq_true p283
        replace q283 := eq_true q283
        have p33 : 0 ≤ (a2 : Int) := kD
        have q33 : (a2 : Int) < (((rd_L1 t274 a1).length : Int) : Int) := kD
        obtain ⟨go33, co33, eo33, gb33, gl33, cl33, HG33⟩ := Kd.R_form HL281_0.out (by omega)
        (first | cases eo33 | (injection eo33 with ea_ en_ ec_; (first | subst ea_ | (injection ea_ with ea_; subst ea_)); subst ec_; clear en_))
        have GB33 := Aside0.mk gb33
        have GG33 := Aside0.mk HG33
        clear gb33 gl33 HG33
        (first | simp only [add_plain] at hx283_0 | skip)
        obtain ⟨hx33_0, hf33_0⟩ := Kd.R_celln 0 HL281_0.out (a2 : Int) p33 q33
        replace p33 := eq_true p33
        replace q33 := eq_true q33
        have hq46 : (a1 : Int) < (t274.length : Int) := (by have h_ : (a1 : Int) < ((t274.length : Int) : Int) := kD; first | exact h_ | (have e_ := (Kd.S_reads' HO276.out).1; omega) | simpa only [List.length_set, List.length_set] using h_)
        obtain ⟨oki46, ce46, hcl46, hM46, hcc46, hok46, hbk46⟩ := Kd.S_borrow HO276.out [] (a1 : Int) kD hq46
        obtain ⟨ve46_0, rfl, ge46_0⟩ := hM46
        have hv46 := hcc46 0 _ rfl
        rw [Nat.add_zero, show ((Kd.slice 3 (Kd.int .i64))).sz = 1 from rfl, Nat.mul_one] at hv46
        replace hv46 := Option.some.inj (hv46.symm.trans HX281_0.out)
        subst hv46
        clear hcc46 hcl46
        replace ge46_0 := (show Kd.R (Kd.int .i64) 3 _ _ _ _ (rd_L1 t274 a1) from ge46_0)
        have HP46 := Kd.R_putg ge46_0 (a2 : Int) (wrap64 ((rd (rd_L1 t274 a1) a2) + a3))
        rw [← Ny284.out] at HP46
        have HS46 := hbk46 HP46.2 (fun k_ e_ => by injection e_ with e_; subst e_; exact ge46_0.1 _ rfl) (x' := y284) (Kd.M_row HP46.1)
        rw [← Ny286.out] at HS46
        have HQ46 := Aside0.mk HS46
        clear HP46 HS46 hbk46 hok46
        refine start_ (n := 18) (S := fun w' => w'.cell? ⟨gb280, 0, none⟩ = some (.slice (some ad281) t274.length co39) ∧ w'.cell? ⟨gb280, 1, none⟩ = some (.slice Ao43 t277.length co43) ∧ w'.cell? (ad281.add (a1).toNat) = some (.slice (some ⟨go33, 0, none⟩) (rd_L1 t274 a1).length c281_0) ∧ w'.cell? (ad281.add (a1).toNat) = some (.slice (some ⟨go33, 0, none⟩) (rd_L1 t274 a1).length c281_0) ∧ w'.cell? ⟨go33, (a2).toNat, none⟩ = some (.int .i64 (rd (rd_L1 t274 a1) a2))) (ds := [17]) #[false, false, false, false, false, false, false, false, false, false, false, false, false, false, false, false, false, false] (by kernel_rfl) rfl rfl ⟨(blk_cell BK280.out 0).trans rfl, (blk_cell BK280.out 1).trans rfl, hx281_0, hx282_0, hx283_0⟩ (fun hHeld => ?_); refine with_tabW spec_Hand.tab4 spec_Hand.bits4 (fun HT_ HW_ => ?_)
        generalize w44.drew = w45 at HO276 HO279 BK270 BK271 BK280 HB GG33 HL281_0 HL282_0 HQ46 HR281_0 HR282_0 HX281_0 HX282_0 hf33_0 hx281_0 hx282_0 hx283_0 hx33_0 hHeld ⊢
        refine kP 0 31 18 1 HT_.out ?_
        refine kP 2 33 18 5 HT_.out ?_
        refine kP 5 36 18 37 HT_.out ?_
        refine kP 6 37 18 101 HT_.out ?_
        refine kP 8 39 18 357 HT_.out ?_
        refine kP 11 42 18 2405 HT_.out ?_
        refine kP 14 45 18 18789 HT_.out ?_
        refine take_ (i := 1) (N := some 32) (v := ?_) (a' := ?_) (bt 18 18791) rfl rfl (take_ofW HT_.out HW_.out (by kernel_rfl)) (fun _ _ _ h => h) (Or.inl ⟨by rfl, ?_⟩) hHeld ?_ ?_
        rotate_left
        ·rintro w' ⟨s0, s1, s2, s3, s4⟩
         go_simp
         with_reducible rfl
        rotate_left
        ·simp only [Act.put, List.setIfInBounds_toArray, List.set_cons_zero, List.set_cons_succ, i64_w, i32_w]
         rfl
        refine kP 3 34 18 18799 HT_.out ?_
        refine take_ (i := 4) (N := some 35) (v := ?_) (a' := ?_) (bt 18 18815) rfl rfl (take_ofW HT_.out HW_.out (by kernel_rfl)) (fun _ _ _ h => h) (Or.inl ⟨by rfl, ?_⟩) hHeld ?_ ?_
        rotate_left
        ·rintro w' ⟨s0, s1, s2, s3, s4⟩
         go_simp
         with_reducible rfl
        rotate_left
        ·simp only [Act.put, List.setIfInBounds_toArray, List.set_cons_zero, List.set_cons_succ, i64_w, i32_w]
         rfl
        refine take_ (i := 7) (N := some 38) (v := ?_) (a' := ?_) (bt 18 18943) rfl rfl (take_ofW HT_.out HW_.out (by kernel_rfl)) (fun _ _ _ h => h) (Or.inl ⟨by rfl, ?_⟩) hHeld ?_ ?_
        rotate_left
        ·rintro w' ⟨s0, s1, s2, s3, s4⟩
         go_simp
         with_reducible rfl
        rotate_left
        ·simp only [Act.put, List.setIfInBounds_toArray, List.set_cons_zero, List.set_cons_succ, i64_w, i32_w]
         rfl
        refine kP 9 40 18 19455 HT_.out ?_
        refine take_ (i := 10) (N := some 41) (v := ?_) (a' := ?_) (bt 18 20479) rfl rfl (take_ofW HT_.out HW_.out (by kernel_rfl)) (fun _ _ _ h => h) (Or.inl ⟨by rfl, ?_⟩) hHeld ?_ ?_
        rotate_left
        ·rintro w' ⟨s0, s1, s2, s3, s4⟩
         go_simp
         with_reducible rfl
        rotate_left
        ·simp only [Act.put, List.setIfInBounds_toArray, List.set_cons_zero, List.set_cons_succ, i64_w, i32_w]
         rfl
        refine kP 12 43 18 24575 HT_.out ?_
        refine take_ (i := 13) (N := some 44) (v := ?_) (a' := ?_) (bt 18 32767) rfl rfl (take_ofW HT_.out HW_.out (by kernel_rfl)) (fun _ _ _ h => h) (Or.inl ⟨by rfl, ?_⟩) hHeld ?_ ?_
        rotate_left
        ·rintro w' ⟨s0, s1, s2, s3, s4⟩
         go_simp
         with_reducible rfl
        rotate_left
        ·simp only [Act.put, List.setIfInBounds_toArray, List.set_cons_zero, List.set_cons_succ, i64_w, i32_w]
         rfl
        refine kP 15 46 18 65535 HT_.out ?_
        refine kP 16 47 18 131071 HT_.out ?_
        refine last_ (i := 17) (N := none) (bt 18 262143) rfl rfl (one_of HT_.out (by kernel_rfl)) (by decide) (fun K hK => ?_)
        refine skip_ (w1 := ?_) (by rfl) rfl ?_ ?_
        rotate_left
        ·go_simp
         rfl
        refine hK.out _ _ ?_
        clear hK K
        refine done_ (done_of HT_.out (by kernel_rfl)) ?_
        have n0_ : Aside0 (Kd.S (Kd.slice 3 (Kd.int .i64)) 23 (w45.setCell ⟨go33, (a2 : Int).toNat, none⟩ (.int .i64 (wrap64 ((rd (rd_L1 t274 a1) a2) + a3)))) w.heap.size (fun k_ => (w.heap.size ≤ k_) ∧ some k_ ≠ (.slice Ao43 t277.length co43 : Value).ownBlock) (.slice (some ad281) t274.length co39) y286) := ⟨by (with_reducible repeat (first | apply Kd.S_alloc | apply Kd.S_drewN | apply Kd.S_drew)); exact HQ46.out⟩
        have n1_ : Aside0 (Kd.R (Kd.int .i64) 3 (w45.setCell ⟨go33, (a2 : Int).toNat, none⟩ (.int .i64 (wrap64 ((rd (rd_L1 t274 a1) a2) + a3)))) w.heap.size (fun k_ => (w.heap.size ≤ k_)) (.slice Ao43 t277.length co43) t277) := ⟨by (with_reducible repeat (first | apply Kd.R_alloc | apply Kd.R_drewN | apply Kd.R_drew)); exact Kd.R_mono (Kd.R_far (p := ⟨go33, (a2 : Int).toNat, none⟩) (Kd.R_far1 HO279.out rfl ((HL281_0.out.1 _ rfl).1.2)) (fun _ hk => hk.2) (.int .i64 (wrap64 ((rd (rd_L1 t274 a1) a2) + a3)))) (fun _ hk => hk.1)⟩
        have n2_ : Aside0 ((w45.setCell ⟨go33, (a2 : Int).toNat, none⟩ (.int .i64 (wrap64 ((rd (rd_L1 t274 a1) a2) + a3)))).heap[gb270]? = some (.cells #[.slice A0_0 l0_0.length c0_0, .slice A0_1 l0_1.length c0_1] 28 (0, 0))) := ⟨by (with_reducible repeat first | apply k1 | apply k2 | apply k3); refine blk_far ?_ (by have h_ := Kd.R_ne HL281_0.out BK270.out (by decide); intro e_; exact h_ (by rw [e_]; rfl)) _; (with_reducible repeat first | apply k1 | apply k2 | apply k3); exact BK270.out⟩
        have n3_ : Aside0 ((w45.setCell ⟨go33, (a2 : Int).toNat, none⟩ (.int .i64 (wrap64 ((rd (rd_L1 t274 a1) a2) + a3)))).heap[gb271]? = some (.cells #[.slice none 0 0, .slice none 0 0] 28 (0, 0))) := ⟨by (with_reducible repeat first | apply k1 | apply k2 | apply k3); refine blk_far ?_ (by have h_ := Kd.R_ne HL281_0.out BK271.out (by decide); intro e_; exact h_ (by rw [e_]; rfl)) _; (with_reducible repeat first | apply k1 | apply k2 | apply k3); exact BK271.out⟩
        have n4_ : Aside0 ((w45.setCell ⟨go33, (a2 : Int).toNat, none⟩ (.int .i64 (wrap64 ((rd (rd_L1 t274 a1) a2) + a3)))).heap[gb280]? = some (.cells #[.slice (some ad281) t274.length co39, .slice Ao43 t277.length co43] 28 (0, 0))) := ⟨by (with_reducible repeat first | apply k1 | apply k2 | apply k3); refine blk_far ?_ (by have h_ := Kd.R_ne HL281_0.out BK280.out (by decide); intro e_; exact h_ (by rw [e_]; rfl)) _; (with_reducible repeat first | apply k1 | apply k2 | apply k3); exact BK280.out⟩
        have n5_ : Aside0 (Below w.heap.size w (w45.setCell ⟨go33, (a2 : Int).toNat, none⟩ (.int .i64 (wrap64 ((rd (rd_L1 t274 a1) a2) + a3))))) := ⟨by repeat (first | (with_reducible first | exact HB.out | apply below_alloc | apply pw_below_drewN | apply below_drew1 | refine below_set ?_ GB33.out | refine below_set ?_ GE270.out | refine below_set ?_ GE271.out | refine below_set ?_ GE280.out) | exact HB.out)⟩
        (try clear HO276)
        (try clear HO279)
        (try clear BK270)
        (try clear BK271)
        (try clear BK280)
        (try clear HB)
        generalize (w45.setCell ⟨go33, (a2 : Int).toNat, none⟩ (.int .i64 (wrap64 ((rd (rd_L1 t274 a1) a2) + a3)))) = w48 at n0_ n1_ n2_ n3_ n4_ n5_ ⊢
        have HO276 := n0_
        have HO279 := n1_
        have BK270 := n2_
        have BK271 := n3_
        have BK280 := n4_
        have HB := n5_
        clear n0_ n1_ n2_ n3_ n4_ n5_
        have hcz49_0 : w48.cell? ⟨gb280, 0, none⟩ = some (.slice (some ad281) t274.length co39) := kx BK280.out
        have hcz49_1 : w48.cell? ⟨gb280, 1, none⟩ = some (.slice Ao43 t277.length co43) := kx BK280.out
        have hfz49_0 := blk_frozen BK280.out 0
        have hfz49_1 := blk_frozen BK280.out 1
        try go_wp2_with (first | ((with_reducible refine gate_callee (f := 52) rfl ?_); refine goesL_ (some 49) rfl rfl Try.func52 (by kernel_rfl) rfl #[.agg #[.slice (some ad281) y286.length co39, .slice Ao43 t277.length co43]] rfl (by (try simp only [List.map_toArray, List.map_cons, List.map_nil]); first | done | (rw [show y286.length = t274.length from (Kd.S_reads' HO276.out).1.symm] <;> rfl) | rfl | (simp only [List.length_drop, List.length_take]; rfl)) ?_; (with_reducible refine (spec_l06Done.calls kj4 (fun k_ => (((((w.heap.size ≤ k_) ∧ some k_ ≠ (.slice Ao43 t277.length co43 : Value).ownBlock) ∧ k_ ≠ gb270) ∧ k_ ≠ gb271) ∧ k_ ≠ gb280)) _ _ y286 (fun k_ => some k_ = (.slice Ao43 t277.length co43 : Value).ownBlock) (.slice Ao43 t277.length co43) t277 t287 t290 t293 w _ ?side1 ?side2 ?side3 A34.out).mono ?_); (case side1 => repeat (first | (with_reducible first | exact HB.out | apply below_alloc | apply pw_below_drewN | apply below_drew1 | refine below_set ?_ GE270.out | refine below_set ?_ GE271.out | refine below_set ?_ GE280.out) | exact HB.out)); (case side2 => rw [show y286.length = t274.length from (Kd.S_reads' HO276.out).1.symm]; exact Kd.V_mono (Kd.S_V (Kd.S_types (Kd.S_types (Kd.S_types (HO276.out) BK270.out (by decide)) BK271.out (by decide)) BK280.out (by decide))) (fun k_ hk_ => ⟨hk_, hk_.1.1.1.2⟩)); (case side3 => exact Kd.R_tight rfl HO279.out); rintro e w50 ⟨v288, v291, rfl, ho0, ho1, hb, hkp⟩; refine ⟨_, rfl, ?_⟩; have n0_ := k0 (kK BK270.out hkp (fun hs_ => (fun e_ => (Kd.R_ne HO279.out BK270.out (by decide)) e_) hs_)); have n1_ := k0 (kK BK271.out hkp (fun hs_ => (fun e_ => (Kd.R_ne HO279.out BK271.out (by decide)) e_) hs_)); have n2_ := k0 (Kd.S_mono (ok' := fun k_ => (w.heap.size ≤ k_) ∧ some k_ ≠ (v291 : Value).ownBlock) (Kd.S_keptB (HO276.out) hkp (fun k_ hk_ hs_ => (hk_.2) hs_)) (fun k_ hk_ => ⟨hk_.1.1, fun e_ => Or.elim (ho1.1 k_ e_.symm) (fun hs_ => hk_.2.1 hs_) (fun hn_ => Nat.not_le.2 hk_.2.2 hn_)⟩)); have n3_ := k0 (kK BK280.out hkp (fun hs_ => (fun e_ => (Kd.R_ne HO279.out BK280.out (by decide)) e_) hs_)); have n4_ := k0 (Kd.V_mono (ok' := fun k_ => (w.heap.size ≤ k_) ∧ some k_ ≠ (v291 : Value).ownBlock ∧ k_ ≠ gb270 ∧ k_ ≠ gb271 ∧ k_ ≠ gb280) ho0 (fun k_ hk_ => ⟨Or.elim hk_.1 (fun hs_ => Or.elim hs_ (fun hs_ => (HO279.out.1 k_ (hs_).symm)) (fun hs_ => hs_.1.1.1.1)) (fun hn_ => (Nat.le_trans (below_size (kW HB.out)) hn_)), hk_.2, Or.elim hk_.1 (fun hs_ => Or.elim hs_ (fun hs_ => fun e_ => (Kd.R_ne HO279.out BK270.out (by decide)) (by rw [← e_]; exact hs_)) (fun hs_ => hs_.1.1.2)) (fun hn_ => (Kd.freshB (g := gb270) (o := .cells #[.slice A0_0 l0_0.length c0_0, .slice A0_1 l0_1.length c0_1] 28 (0, 0)) (kB BK270.out) k_ hn_)), Or.elim hk_.1 (fun hs_ => Or.elim hs_ (fun hs_ => fun e_ => (Kd.R_ne HO279.out BK271.out (by decide)) (by rw [← e_]; exact hs_)) (fun hs_ => hs_.1.2)) (fun hn_ => (Kd.freshB (g := gb271) (o := .cells #[.slice none 0 0, .slice none 0 0] 28 (0, 0)) (kB BK271.out) k_ hn_)), Or.elim hk_.1 (fun hs_ => Or.elim hs_ (fun hs_ => fun e_ => (Kd.R_ne HO279.out BK280.out (by decide)) (by rw [← e_]; exact hs_)) (fun hs_ => hs_.2)) (fun hn_ => (Kd.freshB (g := gb280) (o := .cells #[.slice (some ad281) t274.length co39, .slice Ao43 t277.length co43] 28 (0, 0)) (kB BK280.out) k_ hn_))⟩)); have n5_ := k0 (Kd.R_mono (ok' := fun k_ => (w.heap.size ≤ k_)) ho1 (fun k_ hk_ => Or.elim hk_ (fun hs_ => (HO279.out.1 k_ (hs_).symm)) (fun hn_ => (Nat.le_trans (below_size (kW HB.out)) hn_)))); have n6_ := k0 (hb); clear BK270; clear BK271; clear HO276; clear BK280; clear HB; clear HO279; have BK270 := n0_; have BK271 := n1_; have HO276 := n2_; have BK280 := n3_; have HO289 := n4_; have HO292 := n5_; have HB := n6_; clear n0_ n1_ n2_ n3_ n4_ n5_ n6_; (try clear hb); (try clear hkp); (try clear ho0); (try clear ho1); obtain ⟨Ao51, co51, eo51⟩ := Kd.V_slice HO289.out; subst eo51; have hcz52_0 : w50.cell? ⟨gb271, 0, none⟩ = some (.slice none 0 0) := kx BK271.out; have hcz52_1 : w50.cell? ⟨gb271, 1, none⟩ = some (.slice none 0 0) := kx BK271.out; have hfz52_0 := blk_frozen BK271.out 0; have hfz52_1 := blk_frozen BK271.out 1; obtain ⟨Ao53, co53, eo53⟩ := Kd.R_slice HO292.out; subst eo53))
        refine bodyPost_ret (results_ct rfl _ _ gb271 28 #[.slice Ao51 t287.length co51, .slice Ao53 t290.length co53] (0, 0) _ rfl (by (with_reducible repeat first | apply k1 | apply k2 | apply k3); refine blk_put (cs := #[.slice Ao51 t287.length co51, .slice none 0 0]) ?_ 1 _ rfl; (with_reducible repeat first | apply k1 | apply k2 | apply k3); refine blk_put (cs := #[.slice none 0 0, .slice none 0 0]) ?_ 0 _ rfl; (with_reducible repeat first | apply k1 | apply k2 | apply k3); exact BK271.out) Try.underlying28 rfl (by kernel_rfl)) rfl ?_
        exact ⟨_, _, by first | rfl | (simp [errW_none, errW_some] <;> rfl) | (simp [*, errW_none, errW_some] <;> rfl), by (with_reducible repeat (first | apply Kd.V_alloc | apply Kd.V_drewN | apply Kd.V_drew)); exact Kd.V_mono (Kd.V_far (p := ⟨gb271, 1, none⟩) (Kd.V_far (p := ⟨gb271, 0, none⟩) (Kd.V_mono HO289.out (fun k_ hk => (⟨hk, hk.2.2.2.1⟩ : _ ∧ k_ ≠ gb271))) (fun _ hk => hk.2) (.slice Ao51 t287.length co51)) (fun _ hk => hk.2) (.slice Ao53 t290.length co53)) (fun _ hk => ⟨hk.1.1, hk.1.2.1⟩), by (with_reducible repeat (first | apply Kd.R_alloc | apply Kd.R_drewN | apply Kd.R_drew)); exact Kd.R_mono (Kd.R_far (p := ⟨gb271, 1, none⟩) (Kd.R_far (p := ⟨gb271, 0, none⟩) (Kd.R_types HO292.out BK271.out (by decide)) (fun _ hk => hk.2) (.slice Ao51 t287.length co51)) (fun _ hk => hk.2) (.slice Ao53 t290.length co53)) (fun _ hk => hk.1), by repeat (first | (with_reducible first | exact HB.out | apply below_alloc | apply pw_below_drewN | apply below_drew1 | refine below_set ?_ GE270.out | refine below_set ?_ GE271.out | refine below_set ?_ GE280.out) | exact HB.out)⟩
       ·rw [if_neg c32] at H
        exact absurd H (by simp)
      ·rw [if_neg c31] at H
       exact absurd H (by simp)
     ·rw [if_neg c30] at H
      exact absurd H (by simp)
    ·rw [if_neg c29] at H
     exact absurd H (by simp)

end Go.Proofs.Ytcnanifokpcjaaa.PFnRights
