import Derived.Test.YtcnanifokpcjaaaPFnMeetx0
import Derived.Test.YtcnanifokpcjaaaPFnMeetx7
import Derived.Test.YtcnanifokpcjaaaPFnMeetx8
namespace Go.Proofs.Ytcnanifokpcjaaa.PFnMeet
open Go.RowKit Go.Proofs.YtcnanifokpcjaaaW.PrintWords Go.Proofs.YtcnanifokpcjaaaW.PrintLast Go.Proofs.YtcnanifokpcjaaaW.PrintMore
attribute [local go_sem] max2_int min2_int max_two min_two max_three min_three max_four min_four   -- for this text's walks alone
set_option linter.unusedVariables false
set_option linter.unusedSimpArgs false

/-! ### spec_RightsOk: function 14 -/
def spec_RightsOk.l0 : Nat → Int → Int → Int → List (List Int) → List Int → Option (Bool)
 | 0, _, _, _, _, _ => none
 | k + 1, x3, x10, x11, x233000, x233001 => if x11 < x10 then ((spec_l06Has.f k x233000 x233001 x11).bind fun t234 => (if t234 < 0 then (some false) else (if 0 ≤ x11 then (if x11 < (x233000.length : Int) then (if x11 < ((rd_L1 x233000 x11).length : Int) then (spec_RightsOk.l0 k (wrap64 (x3 + (rd (rd_L1 x233000 x11) x11))) x10 (wrap64 (x11 + 1)) x233000 x233001) else (none)) else (none)) else (none)))) else ((spec_l01Num.f x3).bind fun t237 => (some t237))
def spec_RightsOk.f (k : Nat) (l0_0 : List (List Int)) (l0_1 : List Int) : Option (Bool) := (spec_l06Form.f k l0_0 l0_1).bind fun t233 => (if t233 = true then (spec_RightsOk.l0 k 0 (l0_0.length : Int) 0 l0_0 l0_1) else (some false))
theorem spec_RightsOk.mono_l : ∀ k, (∀ y0 y1 y2 y3 y4, LeO (spec_RightsOk.l0 k y0 y1 y2 y3 y4) (spec_RightsOk.l0 (k + 1) y0 y1 y2 y3 y4))
 | 0 => fun _ _ _ _ _ r h => by simp [spec_RightsOk.l0] at h
 | k + 1 => by
  have ih0 := spec_RightsOk.mono_l k
  ·intro y0 y1 y2 y3 y4
   unfold spec_RightsOk.l0
   repeat' first
   | (with_reducible exact ih0 _ _ _ _ _)
   | (with_reducible exact spec_l06Form.mono _ _ _)
   | (with_reducible exact spec_l06Has.mono _ _ _ _)
   | (with_reducible exact LeO.refl _)
   | (with_reducible exact LeO.none _)
   | (with_reducible refine LeO.ite ?_ ?_)
   | (with_reducible refine LeO.bind ?_ (fun _ => ?_))
   | exact ih0 _ _ _ _ _
   | exact spec_l06Form.mono _ _ _
   | exact spec_l06Has.mono _ _ _ _
   | exact LeO.none _
   | refine LeO.ite ?_ ?_
   | refine LeO.bind ?_ (fun _ => ?_)
theorem spec_RightsOk.mono : ∀ a0 a1 k, LeO (spec_RightsOk.f k a0 a1) (spec_RightsOk.f (k + 1) a0 a1) := by
 intro a0 a1 k
 have ih0 := spec_RightsOk.mono_l k
 unfold spec_RightsOk.f
 repeat' first
   | (with_reducible exact ih0 _ _ _ _ _)
   | (with_reducible exact spec_l06Form.mono _ _ _)
   | (with_reducible exact spec_l06Has.mono _ _ _ _)
   | (with_reducible exact LeO.refl _)
   | (with_reducible exact LeO.none _)
   | (with_reducible refine LeO.ite ?_ ?_)
   | (with_reducible refine LeO.bind ?_ (fun _ => ?_))
   | exact ih0 _ _ _ _ _
   | exact spec_l06Form.mono _ _ _
   | exact spec_l06Has.mono _ _ _ _
   | exact LeO.none _
   | refine LeO.ite ?_ ?_
   | refine LeO.bind ?_ (fun _ => ?_)
set_option maxHeartbeats 8000000 in
set_option maxRecDepth 100000 in
theorem spec_RightsOk.calls (k : Nat) (A0_0 : Option Addr) (c0_0 : Nat) (l0_0 : List (List Int)) (A0_1 : Option Addr) (c0_1 : Nat) (l0_1 : List Int) (r : Bool) (w : World) (hr0_0 : Kd.C (Kd.slice 3 (Kd.int .i64)) w A0_0 l0_0.length l0_0) (hc0_0 : l0_0.length ≤ c0_0) (hr0_1 : Kd.C (Kd.int .i64) w A0_1 l0_1.length l0_1) (hc0_1 : l0_1.length ≤ c0_1) (h : spec_RightsOk.f k l0_0 l0_1 = some r) :
  Calls Try.prog 14 #[.agg #[.slice A0_0 l0_0.length c0_0, .slice A0_1 l0_1.length c0_1]] w fun e w' => e = .returned (.bool r) ∧ Below w.heap.size w w' := by
 have hu28 := Try.underlying28
 have HR0_0 := Aside0.mk hr0_0
 have HC0_0 := Aside0.mk hc0_0
 clear hr0_0 hc0_0
 have HR0_1 := Aside0.mk hr0_1
 have HC0_1 := Aside0.mk hc0_1
 clear hr0_1 hc0_1
 have HB := k0 (Below.refl w.heap.size w)
 have H : ((spec_l06Form.f k l0_0 l0_1).bind fun t233 => (if t233 = true then (spec_RightsOk.l0 k 0 (l0_0.length : Int) 0 l0_0 l0_1) else (some false))) = some r := h
 clear h
 replace H := Option.bind_eq_some_iff.mp H
 obtain ⟨t233, A20, H⟩ := H
 replace H : (if t233 = true then (spec_RightsOk.l0 k 0 (l0_0.length : Int) 0 l0_0 l0_1) else (some false)) = some r := H
 have A2 := Aside0.mk A20
 clear A20
 by_cases c3 : t233 = true
 ·subst c3
  have H1 : (spec_RightsOk.l0 k 0 (l0_0.length : Int) 0 l0_0 l0_1) = some r := by rw [if_pos rfl] at H; exact H
  clear H
  have H := H1
  clear H1
  have H' := Aside0.mk H
  clear H
  go_enter Try.func14, Try.ntmps14
  go_wp2_with (first | ((with_reducible refine gate_dst (N := 1) rfl ?_); refine kE (N := 1) (cs := #[.slice A0_0 l0_0.length c0_0, .slice A0_1 l0_1.length c0_1]) (t := 28) ?_; intro gb232 hg w4 hbox hb; have n0_ := k0 (below_step (kW HB.out) hb); have n1_ := k0 (hbox); have n2_ := k0 (kY HB.out hg); have n3_ := k0 (kY HB.out hg); clear HB; have HB := n0_; have BK232 := n1_; have GW232 := n2_; have GE232 := n3_; clear n0_ n1_ n2_ n3_; clear hb hbox hg; have hcz5_0 : w4.cell? ⟨gb232, 0, none⟩ = some (.slice A0_0 l0_0.length c0_0) := kx BK232.out; have hcz5_1 : w4.cell? ⟨gb232, 1, none⟩ = some (.slice A0_1 l0_1.length c0_1) := kx BK232.out; have hfz5_0 := blk_frozen BK232.out 0; have hfz5_1 := blk_frozen BK232.out 1) | ((with_reducible refine gate_callee (f := 39) rfl ?_); refine kG (some 6) Try.func39 #[.agg #[.slice A0_0 l0_0.length c0_0, .slice A0_1 l0_1.length c0_1]] ?_; (with_reducible refine (spec_l06Form.calls k _ _ l0_0 _ _ l0_1 true _ ?side1 ?side2 ?side3 ?side4 A2.out).mono ?_); (case side1 => exact kC (Kd.C_below HR0_0.out HB.out)); (case side2 => exact HC0_0.out); (case side3 => exact kC (Kd.C_below HR0_1.out HB.out)); (case side4 => exact HC0_1.out); rintro e w6 ⟨rfl, hb⟩; refine ⟨_, rfl, ?_⟩; have n0_ := k0 (kb BK232.out hb); have n1_ := k0 (below_step (kW HB.out) hb); clear BK232; clear HB; have BK232 := n0_; have HB := n1_; clear n0_ n1_; (try clear hb); (try clear hb2); (try clear hk); (try clear hi); have hcz7_0 : w6.cell? ⟨gb232, 0, none⟩ = some (.slice A0_0 l0_0.length c0_0) := kx BK232.out; have hcz7_1 : w6.cell? ⟨gb232, 1, none⟩ = some (.slice A0_1 l0_1.length c0_1) := kx BK232.out; have hfz7_0 := blk_frozen BK232.out 0; have hfz7_1 := blk_frozen BK232.out 1))
  go_loopg [3, 11] k (fun kq v3 v11 w' => ∃ (x3_1 : Int) (x11_1 : Int), v3 = .int .i64 x3_1 ∧ v11 = .int .i64 x11_1 ∧ Aside0 (spec_RightsOk.l0 kq x3_1 (l0_0.length : Int) x11_1 l0_0 l0_1 = some r) ∧ Aside0 (kq ≤ k) ∧ Aside0 (w'.heap[gb232]? = some (.cells #[(.slice A0_0 l0_0.length c0_0), (.slice A0_1 l0_1.length c0_1)] 28 (0, 0))) ∧ Aside0 (Below w.heap.size w w'))
  case atStart => exact ⟨(0), (0), (by first | rfl | (simp; done) | (simp [*]; done)), (by first | rfl | (simp; done) | (simp [*]; done)), H', ⟨Nat.le_refl _⟩, ⟨kB BK232.out⟩, ⟨by repeat (first | (with_reducible first | exact HB.out | apply below_alloc | apply pw_below_drewN | apply below_drew1 | refine below_set ?_ GE232.out) | exact HB.out)⟩⟩
  case round =>
   clear H'
   try clear c1
   try clear p2
   try clear c3
   try clear hcz5_0
   try clear hcz5_1
   try clear hcz7_0
   try clear hcz7_1
   try clear hfz5_0
   try clear hfz5_1
   try clear hfz7_0
   try clear hfz7_1
   obtain ⟨x3_1, x11_1, rfl, rfl, HA, HK1, BK232, HB⟩ := hrel
   cases gk with
   | zero => exact absurd HA.out (by simp [spec_RightsOk.l0])
   | succ k1 =>
    have H := HA.out
    clear HA
    simp only [spec_RightsOk.l0] at H
    by_cases c8 : x11_1 < (l0_0.length : Int)
    ·rw [if_pos c8] at H
     have c8b0 : decide (x11_1 < (l0_0.length : Int)) = true := decide_eq_true c8
     clear c8
     replace H := Option.bind_eq_some_iff.mp H
     obtain ⟨t234, A90, H⟩ := H
     replace H : (if t234 < 0 then (some false) else (if 0 ≤ x11_1 then (if x11_1 < (l0_0.length : Int) then (if x11_1 < ((rd_L1 l0_0 x11_1).length : Int) then (spec_RightsOk.l0 k1 (wrap64 (x3_1 + (rd (rd_L1 l0_0 x11_1) x11_1))) (l0_0.length : Int) (wrap64 (x11_1 + 1)) l0_0 l0_1) else (none)) else (none)) else (none))) = some r := H
     have A9 := Aside0.mk A90
     clear A90
     by_cases c10 : t234 < 0
     ·rw [if_pos c10] at H
      have c10b0 : decide (t234 < 0) = true := decide_eq_true c10
      clear c10
      obtain rfl := Option.some.inj H
      have hcz11_0 : wr.cell? ⟨gb232, 0, none⟩ = some (.slice A0_0 l0_0.length c0_0) := kx BK232.out
      have hcz11_1 : wr.cell? ⟨gb232, 1, none⟩ = some (.slice A0_1 l0_1.length c0_1) := kx BK232.out
      have hfz11_0 := blk_frozen BK232.out 0
      have hfz11_1 := blk_frozen BK232.out 1
      go_wp2_with (first | ((with_reducible refine gate_callee (f := 40) rfl ?_); refine kG (some 16) Try.func40 #[.agg #[.slice A0_0 l0_0.length c0_0, .slice A0_1 l0_1.length c0_1], .int .i64 x11_1] ?_; (with_reducible refine (spec_l06Has.calls k1 _ _ l0_0 _ _ l0_1 x11_1 t234 _ ?side1 ?side2 ?side3 ?side4 A9.out).mono ?_); (case side1 => exact kC (Kd.C_below HR0_0.out HB.out)); (case side2 => exact HC0_0.out); (case side3 => exact kC (Kd.C_below HR0_1.out HB.out)); (case side4 => exact HC0_1.out); rintro e w12 ⟨rfl, hb⟩; refine ⟨_, rfl, ?_⟩; have n0_ := k0 (kb BK232.out hb); have n1_ := k0 (below_step (kW HB.out) hb); clear BK232; clear HB; have BK232 := n0_; have HB := n1_; clear n0_ n1_; (try clear hb); (try clear hb2); (try clear hk); (try clear hi)))
      go_ret
      exact ⟨by first | rfl | (simp [errW_none, errW_some] <;> rfl) | (simp [*, errW_none, errW_some] <;> rfl), by repeat (first | (with_reducible first | exact HB.out | apply below_alloc | apply pw_below_drewN | apply below_drew1 | refine below_set ?_ GE232.out) | exact HB.out)⟩
     ·rw [if_neg c10] at H
      have c10b0 : decide (t234 < 0) = false := decide_eq_false c10
      clear c10
      by_cases c13 : 0 ≤ x11_1
      ·rw [if_pos c13] at H
       have c13b0 : decide (0 ≤ x11_1) = true := decide_eq_true c13
       clear c13
       by_cases c14 : x11_1 < (l0_0.length : Int)
       ·rw [if_pos c14] at H
        have c14b0 : decide (x11_1 < (l0_0.length : Int)) = true := decide_eq_true c14
        clear c14
        by_cases c15 : x11_1 < ((rd_L1 l0_0 x11_1).length : Int)
        ·rw [if_pos c15] at H
         have c15b0 : decide (x11_1 < ((rd_L1 l0_0 x11_1).length : Int)) = true := decide_eq_true c15
         clear c15
         have H' := Aside0.mk H
         clear H
         have hcz16_0 : wr.cell? ⟨gb232, 0, none⟩ = some (.slice A0_0 l0_0.length c0_0) := kx BK232.out
         have hcz16_1 : wr.cell? ⟨gb232, 1, none⟩ = some (.slice A0_1 l0_1.length c0_1) := kx BK232.out
         have hfz16_0 := blk_frozen BK232.out 0
         have hfz16_1 := blk_frozen BK232.out 1
         go_wp2_with (first | ((with_reducible refine gate_callee (f := 40) rfl ?_); refine kG (some 16) Try.func40 #[.agg #[.slice A0_0 l0_0.length c0_0, .slice A0_1 l0_1.length c0_1], .int .i64 x11_1] ?_; (with_reducible refine (spec_l06Has.calls k1 _ _ l0_0 _ _ l0_1 x11_1 t234 _ ?side1 ?side2 ?side3 ?side4 A9.out).mono ?_); (case side1 => exact kC (Kd.C_below HR0_0.out HB.out)); (case side2 => exact HC0_0.out); (case side3 => exact kC (Kd.C_below HR0_1.out HB.out)); (case side4 => exact HC0_1.out); rintro e w17 ⟨rfl, hb⟩; refine ⟨_, rfl, ?_⟩; have n0_ := k0 (kb BK232.out hb); have n1_ := k0 (below_step (kW HB.out) hb); clear BK232; clear HB; have BK232 := n0_; have HB := n1_; clear n0_ n1_; (try clear hb); (try clear hb2); (try clear hk); (try clear hi); have hcz18_0 : w17.cell? ⟨gb232, 0, none⟩ = some (.slice A0_0 l0_0.length c0_0) := kx BK232.out; have hcz18_1 : w17.cell? ⟨gb232, 1, none⟩ = some (.slice A0_1 l0_1.length c0_1) := kx BK232.out; have hfz18_0 := blk_frozen BK232.out 0; have hfz18_1 := blk_frozen BK232.out 1; have p235 : 0 ≤ (x11_1 : Int) := kD; have q235 : x11_1 < (l0_0.length : Int) := kD; obtain ⟨ad235, A235_0, c235_0, e235, hx235_0, hl235_0, hi235_0⟩ := at_L1 HR0_0.out x11_1 p235 q235; cases e235; replace hx235_0 := (HB.out.cell (World.block_lt_of_cell? w _ hx235_0)).trans hx235_0; have HR235_0 := Aside0.mk hi235_0; have HC235_0 := Aside0.mk hl235_0; clear hi235_0 hl235_0; replace p235 := eq_true p235; replace q235 := eq_true q235; have p236 : 0 ≤ (x11_1 : Int) := kD; have q236 : x11_1 < ((rd_L1 l0_0 x11_1).length : Int) := kD; obtain ⟨ad236, e236, hx236_0⟩ := Kd.at_int HR235_0.out x11_1 p236 q236; cases e236; replace hx236_0 := (HB.out.cell (World.block_lt_of_cell? w _ hx236_0)).trans hx236_0; replace p236 := eq_true p236; replace q236 := eq_true q236))
         go_roundg k1
         case measure => have := HK1.out; omega
         case rel => exact ⟨(wrap64 (x3_1 + (rd (rd_L1 l0_0 x11_1) x11_1))), (wrap64 (x11_1 + 1)), (by first | rfl | (simp; done) | (simp [*]; done)), (by first | rfl | (simp; done) | (simp [*]; done)), H', ⟨by have := HK1.out; omega⟩, ⟨kB BK232.out⟩, ⟨by repeat (first | (with_reducible first | exact HB.out | apply below_alloc | apply pw_below_drewN | apply below_drew1 | refine below_set ?_ GE232.out) | exact HB.out)⟩⟩
        ·rw [if_neg c15] at H
         exact absurd H (by simp)
       ·rw [if_neg c14] at H
        exact absurd H (by simp)
      ·rw [if_neg c13] at H
       exact absurd H (by simp)
    ·rw [if_neg c8] at H
     have c8b0 : decide (x11_1 < (l0_0.length : Int)) = false := decide_eq_false c8
     clear c8
     replace H := Option.bind_eq_some_iff.mp H
     obtain ⟨t237, A190, H⟩ := H
     replace H : (some t237) = some r := H
     have A19 := Aside0.mk A190
     clear A190
     obtain rfl := Option.some.inj H
     go_wp2_with (first | ((with_reducible refine gate_callee (f := 41) rfl ?_); refine kG (some 30) Try.func41 #[.int .i64 x3_1] ?_; (with_reducible refine (spec_l01Num.calls x3_1 t237 _ A19.out).mono ?_); rintro e w' ⟨rfl, ⟨nd, rfl⟩⟩; refine ⟨_, rfl, ?_⟩))
     go_ret
     exact ⟨by first | rfl | (simp [errW_none, errW_some] <;> rfl) | (simp [*, errW_none, errW_some] <;> rfl), by repeat (first | (with_reducible first | exact HB.out | apply below_alloc | apply pw_below_drewN | apply below_drew1 | refine below_set ?_ GE232.out) | exact HB.out)⟩
 ·replace c3 := Bool.eq_false_iff.mpr c3
  subst c3
  have H1 : (some false) = some r := by rw [if_neg (show ¬ (false = true) by decide)] at H; exact H
  clear H
  have H := H1
  clear H1
  obtain rfl := Option.some.inj H
  go_enter Try.func14, Try.ntmps14
  go_wp2_with (first | ((with_reducible refine gate_dst (N := 1) rfl ?_); refine kE (N := 1) (cs := #[.slice A0_0 l0_0.length c0_0, .slice A0_1 l0_1.length c0_1]) (t := 28) ?_; intro gb232 hg w20 hbox hb; have n0_ := k0 (below_step (kW HB.out) hb); have n1_ := k0 (hbox); have n2_ := k0 (kY HB.out hg); have n3_ := k0 (kY HB.out hg); clear HB; have HB := n0_; have BK232 := n1_; have GW232 := n2_; have GE232 := n3_; clear n0_ n1_ n2_ n3_; clear hb hbox hg; have hcz21_0 : w20.cell? ⟨gb232, 0, none⟩ = some (.slice A0_0 l0_0.length c0_0) := kx BK232.out; have hcz21_1 : w20.cell? ⟨gb232, 1, none⟩ = some (.slice A0_1 l0_1.length c0_1) := kx BK232.out; have hfz21_0 := blk_frozen BK232.out 0; have hfz21_1 := blk_frozen BK232.out 1) | ((with_reducible refine gate_callee (f := 39) rfl ?_); refine kG (some 6) Try.func39 #[.agg #[.slice A0_0 l0_0.length c0_0, .slice A0_1 l0_1.length c0_1]] ?_; (with_reducible refine (spec_l06Form.calls k _ _ l0_0 _ _ l0_1 false _ ?side1 ?side2 ?side3 ?side4 A2.out).mono ?_); (case side1 => exact kC (Kd.C_below HR0_0.out HB.out)); (case side2 => exact HC0_0.out); (case side3 => exact kC (Kd.C_below HR0_1.out HB.out)); (case side4 => exact HC0_1.out); rintro e w22 ⟨rfl, hb⟩; refine ⟨_, rfl, ?_⟩; have n0_ := k0 (kb BK232.out hb); have n1_ := k0 (below_step (kW HB.out) hb); clear BK232; clear HB; have BK232 := n0_; have HB := n1_; clear n0_ n1_; (try clear hb); (try clear hb2); (try clear hk); (try clear hi)))
  go_ret
  exact ⟨by first | rfl | (simp [errW_none, errW_some] <;> rfl) | (simp [*, errW_none, errW_some] <;> rfl), by repeat (first | (with_reducible first | exact HB.out | apply below_alloc | apply pw_below_drewN | apply below_drew1 | refine below_set ?_ GE232.out) | exact HB.out)⟩

/-! ### spec_l06Done: function 52 -/
def spec_l06Done.f (k : Nat) (l0_0 : List (List Int)) (l0_1 : List Int) : Option ((List (List Int)) × List Int × Bool) := (spec_RightsOk.f k l0_0 l0_1).bind fun t240 => (if t240 = true then (some (l0_0, l0_1, true)) else (some (([] : List (List Int)), ([] : List Int), false)))
theorem spec_l06Done.mono : ∀ a0 a1 k, LeO (spec_l06Done.f k a0 a1) (spec_l06Done.f (k + 1) a0 a1) := by
 intro a0 a1 k
 unfold spec_l06Done.f
 repeat' first
   | (with_reducible exact spec_RightsOk.mono _ _ _)
   | (with_reducible exact LeO.refl _)
   | (with_reducible exact LeO.none _)
   | (with_reducible refine LeO.ite ?_ ?_)
   | (with_reducible refine LeO.bind ?_ (fun _ => ?_))
   | exact spec_RightsOk.mono _ _ _
   | exact LeO.none _
   | refine LeO.ite ?_ ?_
   | refine LeO.bind ?_ (fun _ => ?_)
set_option maxHeartbeats 8000000 in
set_option maxRecDepth 100000 in
theorem spec_l06Done.calls (k : Nat) (P0_0_ : Nat → Prop) (A0_0 : Option Addr) (c0_0 : Nat) (l0_0 : List (List Int)) (P0_1_ : Nat → Prop) (u9000_ : Value) (l0_1 : List Int) (r1 : List (List Int)) (r2 : List Int) (r3 : Bool) (w0 w : World) (hB : Below w0.heap.size w0 w) (hs0_0 : Kd.V (Kd.slice 3 (Kd.int .i64)) 23 w w0.heap.size (fun k_ => P0_0_ k_ ∧ some k_ ≠ (u9000_ : Value).ownBlock) (.slice A0_0 l0_0.length c0_0) l0_0) (ho0_1 : Kd.R (Kd.int .i64) 3 w w0.heap.size P0_1_ u9000_ l0_1) (h : spec_l06Done.f k l0_0 l0_1 = some (r1, r2, r3)) :
  Calls Try.prog 52 #[.agg #[.slice A0_0 l0_0.length c0_0, u9000_]] w fun e w' => ∃ v0_ v1_ : Value, e = .returned (.tuple #[.agg #[v0_, v1_], .bool r3]) ∧ Kd.V (Kd.slice 3 (Kd.int .i64)) 23 w' w0.heap.size (fun k_ => ((P0_1_ k_ ∨ P0_0_ k_) ∨ w.heap.size ≤ k_) ∧ some k_ ≠ (v1_ : Value).ownBlock) v0_ r1 ∧ Kd.R (Kd.int .i64) 3 w' w0.heap.size (fun k_ => (P0_1_ k_ ∨ w.heap.size ≤ k_)) v1_ r2 ∧ Below w0.heap.size w0 w' ∧ Kept w w' (fun k_ => P0_1_ k_) := by
 have hu28 := Try.underlying28
 have HO0_0 := k0 (show Kd.V (Kd.slice 3 (Kd.int .i64)) 23 w w0.heap.size (fun k_ => ((P0_1_ k_ ∨ P0_0_ k_) ∨ w.heap.size ≤ k_) ∧ some k_ ≠ (u9000_ : Value).ownBlock) (.slice A0_0 l0_0.length c0_0) l0_0 from Kd.V_mono hs0_0 (fun k_ hk => ⟨.inl (.inr hk.1), hk.2⟩))
 have HO0_1 := k0 (show Kd.R (Kd.int .i64) 3 w w0.heap.size (fun k_ => (P0_1_ k_ ∨ w.heap.size ≤ k_)) u9000_ l0_1 from Kd.R_mono ho0_1 (fun k_ hk => (.inl hk)))
 have HK := k0 (Kept.refl w (fun k_ => P0_1_ k_))
 have HW0 := Aside0.mk hB.size
 have HB := Aside0.mk hB
 clear hB
 have H : ((spec_RightsOk.f k l0_0 l0_1).bind fun t240 => (if t240 = true then (some (l0_0, l0_1, true)) else (some (([] : List (List Int)), ([] : List Int), false)))) = some (r1, r2, r3) := h
 clear h
 replace H := Option.bind_eq_some_iff.mp H
 obtain ⟨t240, A20, H⟩ := H
 replace H : (if t240 = true then (some (l0_0, l0_1, true)) else (some (([] : List (List Int)), ([] : List Int), false))) = some (r1, r2, r3) := H
 have A2 := Aside0.mk A20
 clear A20
 by_cases c3 : t240 = true
 ·subst c3
  have H1 : (some (l0_0, l0_1, true)) = some (r1, r2, r3) := by rw [if_pos rfl] at H; exact H
  clear H
  have H := H1
  clear H1
  simp only [Option.some.injEq, Prod.mk.injEq] at H
  obtain ⟨rfl, rfl, rfl⟩ := H
  obtain ⟨Ao4, co4, eo4⟩ := Kd.R_slice HO0_1.out
  subst eo4
  go_enter Try.func52, Try.ntmps52
  go_wp2_with (first | ((with_reducible refine gate_dst (N := 1) rfl ?_); refine kE (N := 1) (cs := #[.slice A0_0 l0_0.length c0_0, .slice Ao4 l0_1.length co4]) (t := 28) ?_; intro gb238 hg w5 hbox hb; have n0_ := k0 (Kd.R_below (kR HO0_1.out) hb); have n1_ := k0 (Kd.V_below (Kd.V_elderB (kV HO0_0.out) gb238 (Nat.le_of_eq hg.symm)) hb); have n2_ := k0 (Kept.below (S := (fun k_ => P0_1_ k_)) (by repeat (first | (with_reducible first | exact HK.out | apply Kept.alloc | apply Kept.drewN | apply Kept.drew) | exact HK.out)) hb); have n3_ := k0 (below_step (kW HB.out) hb); have n4_ := k0 (hbox); have n5_ := k0 ((by rw [hg]; exact (by first | exact HK.out.1 | exact (show Kept w _ (fun k_ => P0_1_ k_) from by repeat (first | (with_reducible first | exact HK.out | apply Kept.alloc | apply Kept.drewN | apply Kept.drew) | exact HK.out)).1) : w.heap.size ≤ gb238)); have n6_ := k0 (kY HB.out hg); clear HO0_1; clear HO0_0; clear HK; clear HB; have HO0_1 := n0_; have HO0_0 := n1_; have HK := n2_; have HB := n3_; have BK238 := n4_; have GW238 := n5_; have GE238 := n6_; clear n0_ n1_ n2_ n3_ n4_ n5_ n6_; clear hb hbox hg) | ((with_reducible refine gate_dst (N := 2) rfl ?_); refine kE (N := 2) (cs := #[.slice none 0 0, .slice none 0 0]) (t := 28) ?_; intro gb239 hg w6 hbox hb; have n0_ := k0 (Kd.R_below (kR HO0_1.out) hb); have n1_ := k0 (Kd.V_below (Kd.V_elderB (kV HO0_0.out) gb239 (Nat.le_of_eq hg.symm)) hb); have n2_ := k0 (kb BK238.out hb); have n3_ := k0 (Kept.below (S := (fun k_ => P0_1_ k_)) (by repeat (first | (with_reducible first | exact HK.out | apply Kept.alloc | apply Kept.drewN | apply Kept.drew | refine Kept.setCell ?_ (.inr GW238.out) _) | exact HK.out)) hb); have n4_ := k0 (below_step (kW HB.out) hb); have n5_ := k0 (hbox); have n6_ := k0 ((by rw [hg]; exact (by first | exact HK.out.1 | exact (show Kept w _ (fun k_ => P0_1_ k_) from by repeat (first | (with_reducible first | exact HK.out | apply Kept.alloc | apply Kept.drewN | apply Kept.drew | refine Kept.setCell ?_ (.inr GW238.out) _) | exact HK.out)).1) : w.heap.size ≤ gb239)); have n7_ := k0 (kY HB.out hg); have n8_ := k0 ((by rw [hg]; exact Nat.ne_of_lt (blk_lt (g := gb238) (o := .cells #[.slice A0_0 l0_0.length c0_0, .slice Ao4 l0_1.length co4] 28 (0, 0)) (kB BK238.out)) : gb238 ≠ gb239)); have n9_ := k0 ((by rw [hg]; exact Nat.ne_of_gt (blk_lt (g := gb238) (o := .cells #[.slice A0_0 l0_0.length c0_0, .slice Ao4 l0_1.length co4] 28 (0, 0)) (kB BK238.out)) : gb239 ≠ gb238)); clear HO0_1; clear HO0_0; clear BK238; clear HK; clear HB; have HO0_1 := n0_; have HO0_0 := n1_; have BK238 := n2_; have HK := n3_; have HB := n4_; have BK239 := n5_; have GW239 := n6_; have GE239 := n7_; have NB238_239 := n8_; have NB239_238 := n9_; clear n0_ n1_ n2_ n3_ n4_ n5_ n6_ n7_ n8_ n9_; clear hb hbox hg; have hnb7 := NB238_239.out; have hnc7 := NB239_238.out; have hcz8_0 : w6.cell? ⟨gb238, 0, none⟩ = some (.slice A0_0 l0_0.length c0_0) := kx BK238.out; have hcz8_1 : w6.cell? ⟨gb238, 1, none⟩ = some (.slice Ao4 l0_1.length co4) := kx BK238.out; have hfz8_0 := blk_frozen BK238.out 0; have hfz8_1 := blk_frozen BK238.out 1) | ((with_reducible refine gate_callee (f := 14) rfl ?_); refine kG (some 5) Try.func14 #[.agg #[.slice A0_0 l0_0.length c0_0, .slice Ao4 l0_1.length co4]] ?_; (with_reducible refine (spec_RightsOk.calls k _ _ l0_0 _ _ l0_1 true _ ?side1 ?side2 ?side3 ?side4 A2.out).mono ?_); (case side1 => exact kC (Kd.V_reads' HO0_0.out).2.2); (case side2 => exact (Kd.V_reads' HO0_0.out).2.1); (case side3 => exact kC (Kd.R_reads' HO0_1.out).2.2); (case side4 => exact (Kd.R_reads' HO0_1.out).2.1); rintro e w9 ⟨rfl, hb⟩; refine ⟨_, rfl, ?_⟩; have n0_ := k0 (Kd.R_below (kR HO0_1.out) hb); have n1_ := k0 (Kd.V_below (kV HO0_0.out) hb); have n2_ := k0 (kb BK238.out hb); have n3_ := k0 (kb BK239.out hb); have n4_ := k0 (Kept.below (S := (fun k_ => P0_1_ k_)) (by repeat (first | (with_reducible first | exact HK.out | apply Kept.alloc | apply Kept.drewN | apply Kept.drew | refine Kept.setCell ?_ (.inr GW238.out) _ | refine Kept.setCell ?_ (.inr GW239.out) _) | exact HK.out)) hb); have n5_ := k0 (below_step (kW HB.out) hb); clear HO0_1; clear HO0_0; clear BK238; clear BK239; clear HK; clear HB; have HO0_1 := n0_; have HO0_0 := n1_; have BK238 := n2_; have BK239 := n3_; have HK := n4_; have HB := n5_; clear n0_ n1_ n2_ n3_ n4_ n5_; (try clear hb); (try clear hb2); (try clear hk); (try clear hi); have hcz10_0 : w9.cell? ⟨gb238, 0, none⟩ = some (.slice A0_0 l0_0.length c0_0) := kx BK238.out; have hcz10_1 : w9.cell? ⟨gb238, 1, none⟩ = some (.slice Ao4 l0_1.length co4) := kx BK238.out; have hfz10_0 := blk_frozen BK238.out 0; have hfz10_1 := blk_frozen BK238.out 1; have hcz11_0 : w9.cell? ⟨gb239, 0, none⟩ = some (.slice none 0 0) := kx BK239.out; have hcz11_1 : w9.cell? ⟨gb239, 1, none⟩ = some (.slice none 0 0) := kx BK239.out; have hfz11_0 := blk_frozen BK239.out 0; have hfz11_1 := blk_frozen BK239.out 1))
  refine bodyPost_ret (results_ct rfl _ _ gb239 28 #[.slice A0_0 l0_0.length c0_0, .slice Ao4 l0_1.length co4] (0, 0) _ rfl (by (with_reducible repeat first | apply k1 | apply k2 | apply k3); refine blk_put (cs := #[.slice A0_0 l0_0.length c0_0, .slice none 0 0]) ?_ 1 _ rfl; (with_reducible repeat first | apply k1 | apply k2 | apply k3); refine blk_put (cs := #[.slice none 0 0, .slice none 0 0]) ?_ 0 _ rfl; (with_reducible repeat first | apply k1 | apply k2 | apply k3); exact BK239.out) Try.underlying28 rfl (by kernel_rfl)) rfl ?_
  exact ⟨_, _, by first | rfl | (simp [errW_none, errW_some] <;> rfl) | (simp [*, errW_none, errW_some] <;> rfl), by (with_reducible repeat (first | apply Kd.V_alloc | apply Kd.V_drewN | apply Kd.V_drew)); exact Kd.V_mono (Kd.V_far (p := ⟨gb239, 1, none⟩) (Kd.V_far (p := ⟨gb239, 0, none⟩) (Kd.V_mono HO0_0.out (fun k_ hk => (⟨hk, hk.2⟩ : _ ∧ k_ ≠ gb239))) (fun _ hk => hk.2) (.slice A0_0 l0_0.length c0_0)) (fun _ hk => hk.2) (.slice Ao4 l0_1.length co4)) (fun _ hk => ⟨hk.1.1.1.1, hk.1.1.1.2⟩), by (with_reducible repeat (first | apply Kd.R_alloc | apply Kd.R_drewN | apply Kd.R_drew)); exact Kd.R_mono (Kd.R_far (p := ⟨gb239, 1, none⟩) (Kd.R_far (p := ⟨gb239, 0, none⟩) (Kd.R_types HO0_1.out BK239.out (by decide)) (fun _ hk => hk.2) (.slice A0_0 l0_0.length c0_0)) (fun _ hk => hk.2) (.slice Ao4 l0_1.length co4)) (fun _ hk => hk.1), by repeat (first | (with_reducible first | exact HB.out | apply below_alloc | apply pw_below_drewN | apply below_drew1 | refine below_set ?_ GE238.out | refine below_set ?_ GE239.out) | exact HB.out), by repeat (first | (with_reducible first | exact HK.out | apply Kept.alloc | apply Kept.drewN | apply Kept.drew | refine Kept.setCell ?_ (.inr GW238.out) _ | refine Kept.setCell ?_ (.inr GW239.out) _) | exact HK.out)⟩
 ·replace c3 := Bool.eq_false_iff.mpr c3
  subst c3
  have H1 : (some (([] : List (List Int)), ([] : List Int), false)) = some (r1, r2, r3) := by rw [if_neg (show ¬ (false = true) by decide)] at H; exact H
  clear H
  have H := H1
  clear H1
  simp only [Option.some.injEq, Prod.mk.injEq] at H
  obtain ⟨rfl, rfl, rfl⟩ := H
  obtain ⟨Ao12, co12, eo12⟩ := Kd.R_slice HO0_1.out
  subst eo12
  go_enter Try.func52, Try.ntmps52
  go_wp2_with (first | ((with_reducible refine gate_dst (N := 1) rfl ?_); refine kE (N := 1) (cs := #[.slice A0_0 l0_0.length c0_0, .slice Ao12 l0_1.length co12]) (t := 28) ?_; intro gb238 hg w13 hbox hb; have n0_ := k0 (Kd.R_below (kR HO0_1.out) hb); have n1_ := k0 (Kd.V_below (Kd.V_elderB (kV HO0_0.out) gb238 (Nat.le_of_eq hg.symm)) hb); have n2_ := k0 (Kept.below (S := (fun k_ => P0_1_ k_)) (by repeat (first | (with_reducible first | exact HK.out | apply Kept.alloc | apply Kept.drewN | apply Kept.drew) | exact HK.out)) hb); have n3_ := k0 (below_step (kW HB.out) hb); have n4_ := k0 (hbox); have n5_ := k0 ((by rw [hg]; exact (by first | exact HK.out.1 | exact (show Kept w _ (fun k_ => P0_1_ k_) from by repeat (first | (with_reducible first | exact HK.out | apply Kept.alloc | apply Kept.drewN | apply Kept.drew) | exact HK.out)).1) : w.heap.size ≤ gb238)); have n6_ := k0 (kY HB.out hg); clear HO0_1; clear HO0_0; clear HK; clear HB; have HO0_1 := n0_; have HO0_0 := n1_; have HK := n2_; have HB := n3_; have BK238 := n4_; have GW238 := n5_; have GE238 := n6_; clear n0_ n1_ n2_ n3_ n4_ n5_ n6_; clear hb hbox hg) | ((with_reducible refine gate_dst (N := 2) rfl ?_); refine kE (N := 2) (cs := #[.slice none 0 0, .slice none 0 0]) (t := 28) ?_; intro gb239 hg w14 hbox hb; have n0_ := k0 (Kd.R_below (kR HO0_1.out) hb); have n1_ := k0 (Kd.V_below (Kd.V_elderB (kV HO0_0.out) gb239 (Nat.le_of_eq hg.symm)) hb); have n2_ := k0 (kb BK238.out hb); have n3_ := k0 (Kept.below (S := (fun k_ => P0_1_ k_)) (by repeat (first | (with_reducible first | exact HK.out | apply Kept.alloc | apply Kept.drewN | apply Kept.drew | refine Kept.setCell ?_ (.inr GW238.out) _) | exact HK.out)) hb); have n4_ := k0 (below_step (kW HB.out) hb); have n5_ := k0 (hbox); have n6_ := k0 ((by rw [hg]; exact (by first | exact HK.out.1 | exact (show Kept w _ (fun k_ => P0_1_ k_) from by repeat (first | (with_reducible first | exact HK.out | apply Kept.alloc | apply Kept.drewN | apply Kept.drew | refine Kept.setCell ?_ (.inr GW238.out) _) | exact HK.out)).1) : w.heap.size ≤ gb239)); have n7_ := k0 (kY HB.out hg); have n8_ := k0 ((by rw [hg]; exact Nat.ne_of_lt (blk_lt (g := gb238) (o := .cells #[.slice A0_0 l0_0.length c0_0, .slice Ao12 l0_1.length co12] 28 (0, 0)) (kB BK238.out)) : gb238 ≠ gb239)); have n9_ := k0 ((by rw [hg]; exact Nat.ne_of_gt (blk_lt (g := gb238) (o := .cells #[.slice A0_0 l0_0.length c0_0, .slice Ao12 l0_1.length co12] 28 (0, 0)) (kB BK238.out)) : gb239 ≠ gb238)); clear HO0_1; clear HO0_0; clear BK238; clear HK; clear HB; have HO0_1 := n0_; have HO0_0 := n1_; have BK238 := n2_; have HK := n3_; have HB := n4_; have BK239 := n5_; have GW239 := n6_; have GE239 := n7_; have NB238_239 := n8_; have NB239_238 := n9_; clear n0_ n1_ n2_ n3_ n4_ n5_ n6_ n7_ n8_ n9_; clear hb hbox hg; have hnb15 := NB238_239.out; have hnc15 := NB239_238.out; have hcz16_0 : w14.cell? ⟨gb238, 0, none⟩ = some (.slice A0_0 l0_0.length c0_0) := kx BK238.out; have hcz16_1 : w14.cell? ⟨gb238, 1, none⟩ = some (.slice Ao12 l0_1.length co12) := kx BK238.out; have hfz16_0 := blk_frozen BK238.out 0; have hfz16_1 := blk_frozen BK238.out 1) | ((with_reducible refine gate_callee (f := 14) rfl ?_); refine kG (some 5) Try.func14 #[.agg #[.slice A0_0 l0_0.length c0_0, .slice Ao12 l0_1.length co12]] ?_; (with_reducible refine (spec_RightsOk.calls k _ _ l0_0 _ _ l0_1 false _ ?side1 ?side2 ?side3 ?side4 A2.out).mono ?_); (case side1 => exact kC (Kd.V_reads' HO0_0.out).2.2); (case side2 => exact (Kd.V_reads' HO0_0.out).2.1); (case side3 => exact kC (Kd.R_reads' HO0_1.out).2.2); (case side4 => exact (Kd.R_reads' HO0_1.out).2.1); rintro e w17 ⟨rfl, hb⟩; refine ⟨_, rfl, ?_⟩; have n0_ := k0 (Kd.R_below (kR HO0_1.out) hb); have n1_ := k0 (Kd.V_below (kV HO0_0.out) hb); have n2_ := k0 (kb BK238.out hb); have n3_ := k0 (kb BK239.out hb); have n4_ := k0 (Kept.below (S := (fun k_ => P0_1_ k_)) (by repeat (first | (with_reducible first | exact HK.out | apply Kept.alloc | apply Kept.drewN | apply Kept.drew | refine Kept.setCell ?_ (.inr GW238.out) _ | refine Kept.setCell ?_ (.inr GW239.out) _) | exact HK.out)) hb); have n5_ := k0 (below_step (kW HB.out) hb); clear HO0_1; clear HO0_0; clear BK238; clear BK239; clear HK; clear HB; have HO0_1 := n0_; have HO0_0 := n1_; have BK238 := n2_; have BK239 := n3_; have HK := n4_; have HB := n5_; clear n0_ n1_ n2_ n3_ n4_ n5_; (try clear hb); (try clear hb2); (try clear hk); (try clear hi); have hcz18_0 : w17.cell? ⟨gb239, 0, none⟩ = some (.slice none 0 0) := kx BK239.out; have hcz18_1 : w17.cell? ⟨gb239, 1, none⟩ = some (.slice none 0 0) := kx BK239.out; have hfz18_0 := blk_frozen BK239.out 0; have hfz18_1 := blk_frozen BK239.out 1))
  refine bodyPost_ret (results_ct rfl _ _ gb239 28 #[.slice none 0 0, .slice none 0 0] (0, 0) _ rfl (by (with_reducible repeat first | apply k1 | apply k2 | apply k3); refine blk_put (cs := #[.slice none 0 0, .slice none 0 0]) ?_ 1 _ rfl; (with_reducible repeat first | apply k1 | apply k2 | apply k3); refine blk_put (cs := #[.slice none 0 0, .slice none 0 0]) ?_ 0 _ rfl; (with_reducible repeat first | apply k1 | apply k2 | apply k3); exact BK239.out) Try.underlying28 rfl (by kernel_rfl)) rfl ?_
  exact ⟨_, _, by first | rfl | (simp [errW_none, errW_some] <;> rfl) | (simp [*, errW_none, errW_some] <;> rfl), Kd.V_nil _ _ _ _ _, by first | exact Kd.R_nil _ _ _ _ _ | exact Kd.N_nil _ _ _ _ _ | exact Kd.V_nil _ _ _ _ _ | exact Kd.Q_nil _ _ _ _ _ | exact Kd.S_nil _ _ _ _ _, by repeat (first | (with_reducible first | exact HB.out | apply below_alloc | apply pw_below_drewN | apply below_drew1 | refine below_set ?_ GE238.out | refine below_set ?_ GE239.out) | exact HB.out), by repeat (first | (with_reducible first | exact HK.out | apply Kept.alloc | apply Kept.drewN | apply Kept.drew | refine Kept.setCell ?_ (.inr GW238.out) _ | refine Kept.setCell ?_ (.inr GW239.out) _) | exact HK.out)⟩

/-! ### spec_IsAmt: function 68 -/
def spec_IsAmt.f (a0 : Int) : Option (Bool) := (spec_l01In.f a0 1 1000000000).bind fun t241 => (some t241)
set_option maxHeartbeats 8000000 in
set_option maxRecDepth 100000 in
theorem spec_IsAmt.calls (a0 : Int) (r : Bool) (w : World) (h : spec_IsAmt.f a0 = some r) :
  Calls Try.prog 68 #[.int .i64 a0] w fun e w' => e = .returned (.bool r) ∧ Drawn0 w w' := by
 have H : ((spec_l01In.f a0 1 1000000000).bind fun t241 => (some t241)) = some r := h
 clear h
 replace H := Option.bind_eq_some_iff.mp H
 obtain ⟨t241, A20, H⟩ := H
 replace H : (some t241) = some r := H
 have A2 := Aside0.mk A20
 clear A20
 obtain rfl := Option.some.inj H
 go_enter Try.func68, Try.ntmps68
 go_wp2_with (first | ((with_reducible refine gate_callee (f := 49) rfl ?_); refine kG (some 4) Try.func49 #[.int .i64 a0, .int .i64 1, .int .i64 1000000000] ?_; (with_reducible refine (spec_l01In.calls a0 1 1000000000 t241 _ A2.out).mono ?_); rintro e w' ⟨rfl, ⟨nd, rfl⟩⟩; refine ⟨_, rfl, ?_⟩))
 go_ret
 exact ⟨by first | rfl | (simp; done) | (simp [*]; done), by repeat (first | exact Drawn0.refl _ | apply Drawn0.step)⟩

/-! ### spec_l06May: function 58 -/
def spec_l06May.f (k : Nat) (l0_0 : List (List Int)) (l0_1 : List Int) (a1 : Int) (a2 : Int) : Option (Bool) := (spec_RightsOk.f k l0_0 l0_1).bind fun t243 => (if t243 = true then ((spec_l01In.f a1 0 (wrap64 ((l0_0.length : Int) - 1))).bind fun t244 => (if t244 = true then ((spec_IsAmt.f a2).bind fun t245 => (some t245)) else (some false))) else (some false))
theorem spec_l06May.mono : ∀ a0 a1 a2 a3 k, LeO (spec_l06May.f k a0 a1 a2 a3) (spec_l06May.f (k + 1) a0 a1 a2 a3) := by
 intro a0 a1 a2 a3 k
 unfold spec_l06May.f
 repeat' first
   | (with_reducible exact spec_RightsOk.mono _ _ _)
   | (with_reducible exact LeO.refl _)
   | (with_reducible exact LeO.none _)
   | (with_reducible refine LeO.ite ?_ ?_)
   | (with_reducible refine LeO.bind ?_ (fun _ => ?_))
   | exact spec_RightsOk.mono _ _ _
   | exact LeO.none _
   | refine LeO.ite ?_ ?_
   | refine LeO.bind ?_ (fun _ => ?_)
set_option maxHeartbeats 8000000 in
set_option maxRecDepth 100000 in
theorem spec_l06May.calls (k : Nat) (A0_0 : Option Addr) (c0_0 : Nat) (l0_0 : List (List Int)) (A0_1 : Option Addr) (c0_1 : Nat) (l0_1 : List Int) (a1 : Int) (a2 : Int) (r : Bool) (w : World) (hr0_0 : Kd.C (Kd.slice 3 (Kd.int .i64)) w A0_0 l0_0.length l0_0) (hc0_0 : l0_0.length ≤ c0_0) (hr0_1 : Kd.C (Kd.int .i64) w A0_1 l0_1.length l0_1) (hc0_1 : l0_1.length ≤ c0_1) (h : spec_l06May.f k l0_0 l0_1 a1 a2 = some r) :
  Calls Try.prog 58 #[.agg #[.slice A0_0 l0_0.length c0_0, .slice A0_1 l0_1.length c0_1], .int .i64 a1, .int .i64 a2] w fun e w' => e = .returned (.bool r) ∧ Below w.heap.size w w' := by
 have hu28 := Try.underlying28
 have HR0_0 := Aside0.mk hr0_0
 have HC0_0 := Aside0.mk hc0_0
 clear hr0_0 hc0_0
 have HR0_1 := Aside0.mk hr0_1
 have HC0_1 := Aside0.mk hc0_1
 clear hr0_1 hc0_1
 have HB := k0 (Below.refl w.heap.size w)
 have H : ((spec_RightsOk.f k l0_0 l0_1).bind fun t243 => (if t243 = true then ((spec_l01In.f a1 0 (wrap64 ((l0_0.length : Int) - 1))).bind fun t244 => (if t244 = true then ((spec_IsAmt.f a2).bind fun t245 => (some t245)) else (some false))) else (some false))) = some r := h
 clear h
 replace H := Option.bind_eq_some_iff.mp H
 obtain ⟨t243, A40, H⟩ := H
 replace H : (if t243 = true then ((spec_l01In.f a1 0 (wrap64 ((l0_0.length : Int) - 1))).bind fun t244 => (if t244 = true then ((spec_IsAmt.f a2).bind fun t245 => (some t245)) else (some false))) else (some false)) = some r := H
 have A4 := Aside0.mk A40
 clear A40
 by_cases c5 : t243 = true
 ·subst c5
  have H1 : ((spec_l01In.f a1 0 (wrap64 ((l0_0.length : Int) - 1))).bind fun t244 => (if t244 = true then ((spec_IsAmt.f a2).bind fun t245 => (some t245)) else (some false))) = some r := by rw [if_pos rfl] at H; exact H
  clear H
  have H := H1
  clear H1
  replace H := Option.bind_eq_some_iff.mp H
  obtain ⟨t244, A60, H⟩ := H
  replace H : (if t244 = true then ((spec_IsAmt.f a2).bind fun t245 => (some t245)) else (some false)) = some r := H
  have A6 := Aside0.mk A60
  clear A60
  by_cases c7 : t244 = true
  ·subst c7
   have H1 : ((spec_IsAmt.f a2).bind fun t245 => (some t245)) = some r := by rw [if_pos rfl] at H; exact H
   clear H
   have H := H1
   clear H1
   replace H := Option.bind_eq_some_iff.mp H
   obtain ⟨t245, A80, H⟩ := H
   replace H : (some t245) = some r := H
   have A8 := Aside0.mk A80
   clear A80
   obtain rfl := Option.some.inj H
   go_enter Try.func58, Try.ntmps58
   go_wp2_with (first | ((with_reducible refine gate_dst (N := 3) rfl ?_); (try (refine gate_guard (by rfl) ?_; dsimp only)); refine kE (N := 3) (cs := #[.slice A0_0 l0_0.length c0_0, .slice A0_1 l0_1.length c0_1]) (t := 28) ?_; intro gb242 hg w9 hbox hb; have n0_ := k0 (below_step (kW HB.out) hb); have n1_ := k0 (hbox); have n2_ := k0 (kY HB.out hg); have n3_ := k0 (kY HB.out hg); clear HB; have HB := n0_; have BK242 := n1_; have GW242 := n2_; have GE242 := n3_; clear n0_ n1_ n2_ n3_; clear hb hbox hg; have hcz10_0 : w9.cell? ⟨gb242, 0, none⟩ = some (.slice A0_0 l0_0.length c0_0) := kx BK242.out; have hcz10_1 : w9.cell? ⟨gb242, 1, none⟩ = some (.slice A0_1 l0_1.length c0_1) := kx BK242.out; have hfz10_0 := blk_frozen BK242.out 0; have hfz10_1 := blk_frozen BK242.out 1) | ((with_reducible refine gate_callee (f := 14) rfl ?_); refine kG (some 8) Try.func14 #[.agg #[.slice A0_0 l0_0.length c0_0, .slice A0_1 l0_1.length c0_1]] ?_; (with_reducible refine (spec_RightsOk.calls k _ _ l0_0 _ _ l0_1 true _ ?side1 ?side2 ?side3 ?side4 A4.out).mono ?_); (case side1 => exact kC (Kd.C_below HR0_0.out HB.out)); (case side2 => exact HC0_0.out); (case side3 => exact kC (Kd.C_below HR0_1.out HB.out)); (case side4 => exact HC0_1.out); rintro e w11 ⟨rfl, hb⟩; refine ⟨_, rfl, ?_⟩; have n0_ := k0 (kb BK242.out hb); have n1_ := k0 (below_step (kW HB.out) hb); clear BK242; clear HB; have BK242 := n0_; have HB := n1_; clear n0_ n1_; (try clear hb); (try clear hb2); (try clear hk); (try clear hi); have hcz12_0 : w11.cell? ⟨gb242, 0, none⟩ = some (.slice A0_0 l0_0.length c0_0) := kx BK242.out; have hcz12_1 : w11.cell? ⟨gb242, 1, none⟩ = some (.slice A0_1 l0_1.length c0_1) := kx BK242.out; have hfz12_0 := blk_frozen BK242.out 0; have hfz12_1 := blk_frozen BK242.out 1) | (go_at_call 49; (with_reducible refine (spec_l01In.calls a1 0 (wrap64 ((l0_0.length : Int) - 1)) true _ A6.out).mono ?_); rintro e w' ⟨rfl, ⟨nd, rfl⟩⟩) | (go_at_call 68; (with_reducible refine (spec_IsAmt.calls a2 t245 _ A8.out).mono ?_); rintro e w' ⟨rfl, ⟨nd, rfl⟩⟩))
   go_ret
   exact ⟨by first | rfl | (simp [errW_none, errW_some] <;> rfl) | (simp [*, errW_none, errW_some] <;> rfl), by repeat (first | (with_reducible first | exact HB.out | apply below_alloc | apply pw_below_drewN | apply below_drew1 | refine below_set ?_ GE242.out) | exact HB.out)⟩
  ·replace c7 := Bool.eq_false_iff.mpr c7
   subst c7
   have H1 : (some false) = some r := by rw [if_neg (show ¬ (false = true) by decide)] at H; exact H
   clear H
   have H := H1
   clear H1
   obtain rfl := Option.some.inj H
   go_enter Try.func58, Try.ntmps58
   go_wp2_with (first | ((with_reducible refine gate_dst (N := 3) rfl ?_); (try (refine gate_guard (by rfl) ?_; dsimp only)); refine kE (N := 3) (cs := #[.slice A0_0 l0_0.length c0_0, .slice A0_1 l0_1.length c0_1]) (t := 28) ?_; intro gb242 hg w13 hbox hb; have n0_ := k0 (below_step (kW HB.out) hb); have n1_ := k0 (hbox); have n2_ := k0 (kY HB.out hg); have n3_ := k0 (kY HB.out hg); clear HB; have HB := n0_; have BK242 := n1_; have GW242 := n2_; have GE242 := n3_; clear n0_ n1_ n2_ n3_; clear hb hbox hg; have hcz14_0 : w13.cell? ⟨gb242, 0, none⟩ = some (.slice A0_0 l0_0.length c0_0) := kx BK242.out; have hcz14_1 : w13.cell? ⟨gb242, 1, none⟩ = some (.slice A0_1 l0_1.length c0_1) := kx BK242.out; have hfz14_0 := blk_frozen BK242.out 0; have hfz14_1 := blk_frozen BK242.out 1) | ((with_reducible refine gate_callee (f := 14) rfl ?_); refine kG (some 8) Try.func14 #[.agg #[.slice A0_0 l0_0.length c0_0, .slice A0_1 l0_1.length c0_1]] ?_; (with_reducible refine (spec_RightsOk.calls k _ _ l0_0 _ _ l0_1 true _ ?side1 ?side2 ?side3 ?side4 A4.out).mono ?_); (case side1 => exact kC (Kd.C_below HR0_0.out HB.out)); (case side2 => exact HC0_0.out); (case side3 => exact kC (Kd.C_below HR0_1.out HB.out)); (case side4 => exact HC0_1.out); rintro e w15 ⟨rfl, hb⟩; refine ⟨_, rfl, ?_⟩; have n0_ := k0 (kb BK242.out hb); have n1_ := k0 (below_step (kW HB.out) hb); clear BK242; clear HB; have BK242 := n0_; have HB := n1_; clear n0_ n1_; (try clear hb); (try clear hb2); (try clear hk); (try clear hi); have hcz16_0 : w15.cell? ⟨gb242, 0, none⟩ = some (.slice A0_0 l0_0.length c0_0) := kx BK242.out; have hcz16_1 : w15.cell? ⟨gb242, 1, none⟩ = some (.slice A0_1 l0_1.length c0_1) := kx BK242.out; have hfz16_0 := blk_frozen BK242.out 0; have hfz16_1 := blk_frozen BK242.out 1) | (go_at_call 49; (with_reducible refine (spec_l01In.calls a1 0 (wrap64 ((l0_0.length : Int) - 1)) false _ A6.out).mono ?_); rintro e w' ⟨rfl, ⟨nd, rfl⟩⟩))
   go_ret
   exact ⟨by first | rfl | (simp [errW_none, errW_some] <;> rfl) | (simp [*, errW_none, errW_some] <;> rfl), by repeat (first | (with_reducible first | exact HB.out | apply below_alloc | apply pw_below_drewN | apply below_drew1 | refine below_set ?_ GE242.out) | exact HB.out)⟩
 ·replace c5 := Bool.eq_false_iff.mpr c5
  subst c5
  have H1 : (some false) = some r := by rw [if_neg (show ¬ (false = true) by decide)] at H; exact H
  clear H
  have H := H1
  clear H1
  obtain rfl := Option.some.inj H
  go_enter Try.func58, Try.ntmps58
  go_wp2_with (first | ((with_reducible refine gate_dst (N := 3) rfl ?_); (try (refine gate_guard (by rfl) ?_; dsimp only)); refine kE (N := 3) (cs := #[.slice A0_0 l0_0.length c0_0, .slice A0_1 l0_1.length c0_1]) (t := 28) ?_; intro gb242 hg w17 hbox hb; have n0_ := k0 (below_step (kW HB.out) hb); have n1_ := k0 (hbox); have n2_ := k0 (kY HB.out hg); have n3_ := k0 (kY HB.out hg); clear HB; have HB := n0_; have BK242 := n1_; have GW242 := n2_; have GE242 := n3_; clear n0_ n1_ n2_ n3_; clear hb hbox hg; have hcz18_0 : w17.cell? ⟨gb242, 0, none⟩ = some (.slice A0_0 l0_0.length c0_0) := kx BK242.out; have hcz18_1 : w17.cell? ⟨gb242, 1, none⟩ = some (.slice A0_1 l0_1.length c0_1) := kx BK242.out; have hfz18_0 := blk_frozen BK242.out 0; have hfz18_1 := blk_frozen BK242.out 1) | ((with_reducible refine gate_callee (f := 14) rfl ?_); refine kG (some 8) Try.func14 #[.agg #[.slice A0_0 l0_0.length c0_0, .slice A0_1 l0_1.length c0_1]] ?_; (with_reducible refine (spec_RightsOk.calls k _ _ l0_0 _ _ l0_1 false _ ?side1 ?side2 ?side3 ?side4 A4.out).mono ?_); (case side1 => exact kC (Kd.C_below HR0_0.out HB.out)); (case side2 => exact HC0_0.out); (case side3 => exact kC (Kd.C_below HR0_1.out HB.out)); (case side4 => exact HC0_1.out); rintro e w19 ⟨rfl, hb⟩; refine ⟨_, rfl, ?_⟩; have n0_ := k0 (kb BK242.out hb); have n1_ := k0 (below_step (kW HB.out) hb); clear BK242; clear HB; have BK242 := n0_; have HB := n1_; clear n0_ n1_; (try clear hb); (try clear hb2); (try clear hk); (try clear hi)))
  go_ret
  exact ⟨by first | rfl | (simp [errW_none, errW_some] <;> rfl) | (simp [*, errW_none, errW_some] <;> rfl), by repeat (first | (with_reducible first | exact HB.out | apply below_alloc | apply pw_below_drewN | apply below_drew1 | refine below_set ?_ GE242.out) | exact HB.out)⟩

/-! ### spec_Mint: function 28 -/
def spec_Mint.f (k : Nat) (l0_0 : List (List Int)) (l0_1 : List Int) (a1 : Int) (a2 : Int) : Option ((List (List Int)) × List Int × Bool) := (spec_l06May.f k l0_0 l0_1 a1 a2).bind fun t248 => (if t248 = true then ((spec_l06Copy.f k l0_0 l0_1).bind fun bt249 => (if 0 ≤ a1 then (if a1 < (bt249.1.length : Int) then (if a1 < ((rd_L1 bt249.1 a1).length : Int) then ((spec_l06Done.f k (bt249.1.set (a1 : Int).toNat ((rd_L1 bt249.1 a1).set (a1 : Int).toNat (wrap64 ((rd (rd_L1 bt249.1 a1) a1) + a2)))) bt249.2).bind fun bt262 => (some (bt262.1, bt262.2.1, bt262.2.2))) else (none)) else (none)) else (none))) else (some (([] : List (List Int)), ([] : List Int), false)))
theorem spec_Mint.mono : ∀ a0 a1 a2 a3 k, LeO (spec_Mint.f k a0 a1 a2 a3) (spec_Mint.f (k + 1) a0 a1 a2 a3) := by
 intro a0 a1 a2 a3 k
 unfold spec_Mint.f
 repeat' first
   | (with_reducible exact spec_l06Copy.mono _ _ _)
   | (with_reducible exact spec_l06Done.mono _ _ _)
   | (with_reducible exact spec_l06May.mono _ _ _ _ _)
   | (with_reducible exact LeO.refl _)
   | (with_reducible exact LeO.none _)
   | (with_reducible refine LeO.ite ?_ ?_)
   | (with_reducible refine LeO.bind ?_ (fun _ => ?_))
   | exact spec_l06Copy.mono _ _ _
   | exact spec_l06Done.mono _ _ _
   | exact spec_l06May.mono _ _ _ _ _
   | exact LeO.none _
   | refine LeO.ite ?_ ?_
   | refine LeO.bind ?_ (fun _ => ?_)
def spec_Mint.T4 : Bool × List (List Nat × List Nat) := (true, [([], []), ([0], [0]), ([], []), ([1, 2], [1, 2]), ([3], [3]), ([], []), ([], []), ([6], [6]), ([], []), ([7, 8], [7, 8]), ([9], [9]), ([], []), ([10, 11], [10, 11]), ([12], [12]), ([], []), ([13, 14], [13, 14]), ([4, 5, 0, 1, 2, 3, 4, 5, 6, 7, 8, 9, 10, 11, 12, 13, 14, 15], [4, 5]), ([16, 15, 0, 1, 2, 3, 4, 5, 6, 7, 8, 9, 10, 11, 12, 13, 14, 15], [15, 16])])
def spec_Mint.B4 : List Nat := [0, 1, 0, 7, 15, 0, 0, 64, 0, 448, 960, 0, 4032, 8128, 0, 32704, 65535, 131071]
theorem spec_Mint.tab4 : rtab .any (opsOf Try.f28 4) = spec_Mint.T4 := by kernel_rfl
theorem spec_Mint.bits4 : waitsOk spec_Mint.T4.2 spec_Mint.B4 = true := by kernel_rfl
set_option maxHeartbeats 8000000 in
set_option maxRecDepth 100000 in
theorem spec_Mint.calls (k : Nat) (A0_0 : Option Addr) (c0_0 : Nat) (l0_0 : List (List Int)) (A0_1 : Option Addr) (c0_1 : Nat) (l0_1 : List Int) (a1 : Int) (a2 : Int) (r1 : List (List Int)) (r2 : List Int) (r3 : Bool) (w : World) (hr0_0 : Kd.C (Kd.slice 3 (Kd.int .i64)) w A0_0 l0_0.length l0_0) (hc0_0 : l0_0.length ≤ c0_0) (hr0_1 : Kd.C (Kd.int .i64) w A0_1 l0_1.length l0_1) (hc0_1 : l0_1.length ≤ c0_1) (h : spec_Mint.f k l0_0 l0_1 a1 a2 = some (r1, r2, r3)) :
  Calls Try.prog 28 #[.agg #[.slice A0_0 l0_0.length c0_0, .slice A0_1 l0_1.length c0_1], .int .i64 a1, .int .i64 a2] w fun e w' => ∃ v0_ v1_ : Value, e = .returned (.tuple #[.agg #[v0_, v1_], .bool r3]) ∧ Kd.V (Kd.slice 3 (Kd.int .i64)) 23 w' w.heap.size (fun k_ => (w.heap.size ≤ k_) ∧ some k_ ≠ (v1_ : Value).ownBlock) v0_ r1 ∧ Kd.R (Kd.int .i64) 3 w' w.heap.size (fun k_ => (w.heap.size ≤ k_)) v1_ r2 ∧ Below w.heap.size w w' := by
 have hu28 := Try.underlying28
 have HR0_0 := Aside0.mk hr0_0
 have HC0_0 := Aside0.mk hc0_0
 clear hr0_0 hc0_0
 have HR0_1 := Aside0.mk hr0_1
 have HC0_1 := Aside0.mk hc0_1
 clear hr0_1 hc0_1
 have HB := k0 (Below.refl w.heap.size w)
 have H : ((spec_l06May.f k l0_0 l0_1 a1 a2).bind fun t248 => (if t248 = true then ((spec_l06Copy.f k l0_0 l0_1).bind fun bt249 => (if 0 ≤ a1 then (if a1 < (bt249.1.length : Int) then (if a1 < ((rd_L1 bt249.1 a1).length : Int) then ((spec_l06Done.f k (bt249.1.set (a1 : Int).toNat ((rd_L1 bt249.1 a1).set (a1 : Int).toNat (wrap64 ((rd (rd_L1 bt249.1 a1) a1) + a2)))) bt249.2).bind fun bt262 => (some (bt262.1, bt262.2.1, bt262.2.2))) else (none)) else (none)) else (none))) else (some (([] : List (List Int)), ([] : List Int), false)))) = some (r1, r2, r3) := h
 clear h
 replace H := Option.bind_eq_some_iff.mp H
 obtain ⟨t248, A40, H⟩ := H
 replace H : (if t248 = true then ((spec_l06Copy.f k l0_0 l0_1).bind fun bt249 => (if 0 ≤ a1 then (if a1 < (bt249.1.length : Int) then (if a1 < ((rd_L1 bt249.1 a1).length : Int) then ((spec_l06Done.f k (bt249.1.set (a1 : Int).toNat ((rd_L1 bt249.1 a1).set (a1 : Int).toNat (wrap64 ((rd (rd_L1 bt249.1 a1) a1) + a2)))) bt249.2).bind fun bt262 => (some (bt262.1, bt262.2.1, bt262.2.2))) else (none)) else (none)) else (none))) else (some (([] : List (List Int)), ([] : List Int), false))) = some (r1, r2, r3) := H
 have A4 := Aside0.mk A40
 clear A40
 by_cases c5 : t248 = true
 ·subst c5
  have H1 : ((spec_l06Copy.f k l0_0 l0_1).bind fun bt249 => (if 0 ≤ a1 then (if a1 < (bt249.1.length : Int) then (if a1 < ((rd_L1 bt249.1 a1).length : Int) then ((spec_l06Done.f k (bt249.1.set (a1 : Int).toNat ((rd_L1 bt249.1 a1).set (a1 : Int).toNat (wrap64 ((rd (rd_L1 bt249.1 a1) a1) + a2)))) bt249.2).bind fun bt262 => (some (bt262.1, bt262.2.1, bt262.2.2))) else (none)) else (none)) else (none))) = some (r1, r2, r3) := by rw [if_pos rfl] at H; exact H
  clear H
  have H := H1
  clear H1
  replace H := Option.bind_eq_some_iff.mp H
  obtain ⟨⟨t249, t252⟩, A60, H⟩ := H
  replace H : (if 0 ≤ a1 then (if a1 < (t249.length : Int) then (if a1 < ((rd_L1 t249 a1).length : Int) then ((spec_l06Done.f k (t249.set (a1 : Int).toNat ((rd_L1 t249 a1).set (a1 : Int).toNat (wrap64 ((rd (rd_L1 t249 a1) a1) + a2)))) t252).bind fun bt262 => (some (bt262.1, bt262.2.1, bt262.2.2))) else (none)) else (none)) else (none)) = some (r1, r2, r3) := H
  have A6 := Aside0.mk A60
  clear A60
  by_cases c7 : 0 ≤ a1
  ·rw [if_pos c7] at H
   have c7b0 : decide (0 ≤ a1) = true := decide_eq_true c7
   clear c7
   by_cases c8 : a1 < (t249.length : Int)
   ·rw [if_pos c8] at H
    have c8b0 : decide (a1 < (t249.length : Int)) = true := decide_eq_true c8
    clear c8
    by_cases c9 : a1 < ((rd_L1 t249 a1).length : Int)
    ·rw [if_pos c9] at H
     have c9b0 : decide (a1 < ((rd_L1 t249 a1).length : Int)) = true := decide_eq_true c9
     clear c9
     obtain ⟨y259, hy259⟩ : ∃ y_ : List Int, y_ = ((rd_L1 t249 a1).set (a1 : Int).toNat (wrap64 ((rd (rd_L1 t249 a1) a1) + a2))) := ⟨_, rfl⟩
     replace H : ((spec_l06Done.f k (t249.set (a1 : Int).toNat y259) t252).bind fun bt262 => (some (bt262.1, bt262.2.1, bt262.2.2))) = some (r1, r2, r3) := by first | (rw [hy259]; with_reducible exact H) | (have H2_ := (Option.bind_some _ _).symm.trans H; rw [hy259]; with_reducible exact H2_) | (have H2_ := (Option.bind_some _ _).symm.trans H; with_reducible exact H2_) | with_reducible exact H | (rw [hy259]; exact H) | exact H
     have Ny259 := Aside0.mk hy259
     clear hy259
     obtain ⟨y261, hy261⟩ : ∃ y_ : List (List Int), y_ = (t249.set (a1 : Int).toNat y259) := ⟨_, rfl⟩
     replace H : ((spec_l06Done.f k y261 t252).bind fun bt262 => (some (bt262.1, bt262.2.1, bt262.2.2))) = some (r1, r2, r3) := by first | (rw [hy261]; with_reducible exact H) | (have H2_ := (Option.bind_some _ _).symm.trans H; rw [hy261]; with_reducible exact H2_) | (have H2_ := (Option.bind_some _ _).symm.trans H; with_reducible exact H2_) | with_reducible exact H | (rw [hy261]; exact H) | exact H
     have Ny261 := Aside0.mk hy261
     clear hy261
     replace H := Option.bind_eq_some_iff.mp H
     obtain ⟨⟨t262, t265, t268⟩, A110, H⟩ := H
     replace H : (some (t262, t265, t268)) = some (r1, r2, r3) := H
     have A11 := Aside0.mk A110
     clear A110
     simp only [Option.some.injEq, Prod.mk.injEq] at H
     obtain ⟨rfl, rfl, rfl⟩ := H
     go_enter Try.func28, Try.ntmps28
     try go_wp2_with (first | ((with_reducible refine gate_dst (N := 3) rfl ?_); refine kE (N := 3) (cs := #[.slice A0_0 l0_0.length c0_0, .slice A0_1 l0_1.length c0_1]) (t := 28) ?_; intro gb246 hg w12 hbox hb; have n0_ := k0 (below_step (kW HB.out) hb); have n1_ := k0 (hbox); have n2_ := k0 (kY HB.out hg); have n3_ := k0 (kY HB.out hg); clear HB; have HB := n0_; have BK246 := n1_; have GW246 := n2_; have GE246 := n3_; clear n0_ n1_ n2_ n3_; clear hb hbox hg) | ((with_reducible refine gate_dst (N := 6) rfl ?_); refine kE (N := 6) (cs := #[.slice none 0 0, .slice none 0 0]) (t := 28) ?_; intro gb247 hg w13 hbox hb; have n0_ := k0 (kb BK246.out hb); have n1_ := k0 (below_step (kW HB.out) hb); have n2_ := k0 (hbox); have n3_ := k0 (kY HB.out hg); have n4_ := k0 (kY HB.out hg); have n5_ := k0 ((by rw [hg]; exact Nat.ne_of_lt (blk_lt (g := gb246) (o := .cells #[.slice A0_0 l0_0.length c0_0, .slice A0_1 l0_1.length c0_1] 28 (0, 0)) (kB BK246.out)) : gb246 ≠ gb247)); have n6_ := k0 ((by rw [hg]; exact Nat.ne_of_gt (blk_lt (g := gb246) (o := .cells #[.slice A0_0 l0_0.length c0_0, .slice A0_1 l0_1.length c0_1] 28 (0, 0)) (kB BK246.out)) : gb247 ≠ gb246)); clear BK246; clear HB; have BK246 := n0_; have HB := n1_; have BK247 := n2_; have GW247 := n3_; have GE247 := n4_; have NB246_247 := n5_; have NB247_246 := n6_; clear n0_ n1_ n2_ n3_ n4_ n5_ n6_; clear hb hbox hg; have hnb14 := NB246_247.out; have hnc14 := NB247_246.out; have hcz15_0 : w13.cell? ⟨gb246, 0, none⟩ = some (.slice A0_0 l0_0.length c0_0) := kx BK246.out; have hcz15_1 : w13.cell? ⟨gb246, 1, none⟩ = some (.slice A0_1 l0_1.length c0_1) := kx BK246.out; have hfz15_0 := blk_frozen BK246.out 0; have hfz15_1 := blk_frozen BK246.out 1) | ((with_reducible refine gate_callee (f := 58) rfl ?_); refine kG (some 12) Try.func58 #[.agg #[.slice A0_0 l0_0.length c0_0, .slice A0_1 l0_1.length c0_1], .int .i64 a1, .int .i64 a2] ?_; (with_reducible refine (spec_l06May.calls k _ _ l0_0 _ _ l0_1 a1 a2 true _ ?side1 ?side2 ?side3 ?side4 A4.out).mono ?_); (case side1 => exact kC (Kd.C_below HR0_0.out HB.out)); (case side2 => exact HC0_0.out); (case side3 => exact kC (Kd.C_below HR0_1.out HB.out)); (case side4 => exact HC0_1.out); rintro e w16 ⟨rfl, hb⟩; refine ⟨_, rfl, ?_⟩; have n0_ := k0 (kb BK246.out hb); have n1_ := k0 (kb BK247.out hb); have n2_ := k0 (below_step (kW HB.out) hb); clear BK246; clear BK247; clear HB; have BK246 := n0_; have BK247 := n1_; have HB := n2_; clear n0_ n1_ n2_; (try clear hb); (try clear hb2); (try clear hk); (try clear hi); have hcz17_0 : w16.cell? ⟨gb246, 0, none⟩ = some (.slice A0_0 l0_0.length c0_0) := kx BK246.out; have hcz17_1 : w16.cell? ⟨gb246, 1, none⟩ = some (.slice A0_1 l0_1.length c0_1) := kx BK246.out; have hfz17_0 := blk_frozen BK246.out 0; have hfz17_1 := blk_frozen BK246.out 1) | ((with_reducible refine gate_callee (f := 50) rfl ?_); refine kG (some 16) Try.func50 #[.agg #[.slice A0_0 l0_0.length c0_0, .slice A0_1 l0_1.length c0_1]] ?_; (with_reducible refine (spec_l06Copy.calls k _ _ l0_0 _ _ l0_1 t249 t252 _ ?side1 ?side2 ?side3 ?side4 A6.out).mono ?_); (case side1 => exact kC (Kd.C_below HR0_0.out HB.out)); (case side2 => exact HC0_0.out); (case side3 => exact kC (Kd.C_below HR0_1.out HB.out)); (case side4 => exact HC0_1.out); rintro e w18 ⟨v250, v253, rfl, ho0, ho1, hb⟩; refine ⟨_, rfl, ?_⟩; have n0_ := k0 (Kd.S_lower (Kd.S_newM (M := fun k_ => (w.heap.size ≤ k_)) ho0 (below_size (kW HB.out)) (fun k_ h_ => h_)) (below_size (kW HB.out))); have n1_ := k0 (Kd.R_lower (Kd.R_newM (M := fun k_ => (w.heap.size ≤ k_)) ho1 (below_size (kW HB.out)) (fun k_ h_ => h_)) (below_size (kW HB.out))); have n2_ := k0 (kb BK246.out hb); have n3_ := k0 (kb BK247.out hb); have n4_ := k0 (below_step (kW HB.out) hb); clear BK246; clear BK247; clear HB; have HO251 := n0_; have HO254 := n1_; have BK246 := n2_; have BK247 := n3_; have HB := n4_; clear n0_ n1_ n2_ n3_ n4_; (try clear hb); (try clear hb2); (try clear hk); (try clear hi); (try clear ho0); (try clear ho1)) | ((with_reducible refine gate_dst (N := 8) rfl ?_); refine kE (N := 8) (cs := #[.slice none 0 0, .slice none 0 0]) (t := 28) ?_; intro gb255 hg w19 hbox hb; have n0_ := k0 (Kd.S_below (kS HO251.out) hb); have n1_ := k0 (Kd.R_below (kR HO254.out) hb); have n2_ := k0 (kb BK246.out hb); have n3_ := k0 (kb BK247.out hb); have n4_ := k0 (below_step (kW HB.out) hb); have n5_ := k0 (hbox); have n6_ := k0 (kY HB.out hg); have n7_ := k0 (kY HB.out hg); have n8_ := k0 ((by rw [hg]; exact Nat.ne_of_lt (blk_lt (g := gb246) (o := .cells #[.slice A0_0 l0_0.length c0_0, .slice A0_1 l0_1.length c0_1] 28 (0, 0)) (kB BK246.out)) : gb246 ≠ gb255)); have n9_ := k0 ((by rw [hg]; exact Nat.ne_of_gt (blk_lt (g := gb246) (o := .cells #[.slice A0_0 l0_0.length c0_0, .slice A0_1 l0_1.length c0_1] 28 (0, 0)) (kB BK246.out)) : gb255 ≠ gb246)); have n10_ := k0 ((by rw [hg]; exact Nat.ne_of_lt (blk_lt (g := gb247) (o := .cells #[.slice none 0 0, .slice none 0 0] 28 (0, 0)) (kB BK247.out)) : gb247 ≠ gb255)); have n11_ := k0 ((by rw [hg]; exact Nat.ne_of_gt (blk_lt (g := gb247) (o := .cells #[.slice none 0 0, .slice none 0 0] 28 (0, 0)) (kB BK247.out)) : gb255 ≠ gb247)); clear HO251; clear HO254; clear BK246; clear BK247; clear HB; have HO251 := n0_; have HO254 := n1_; have BK246 := n2_; have BK247 := n3_; have HB := n4_; have BK255 := n5_; have GW255 := n6_; have GE255 := n7_; have NB246_255 := n8_; have NB255_246 := n9_; have NB247_255 := n10_; have NB255_247 := n11_; clear n0_ n1_ n2_ n3_ n4_ n5_ n6_ n7_ n8_ n9_ n10_ n11_; clear hb hbox hg; obtain ⟨Ao20, co20, eo20⟩ := Kd.S_slice HO251.out; subst eo20; have hnb21 := NB255_246.out; have hnc21 := NB246_255.out; have hnb22 := NB255_247.out; have hnc22 := NB247_255.out; have hcz23_0 : w19.cell? ⟨gb255, 0, none⟩ = some (.slice none 0 0) := kx BK255.out; have hcz23_1 : w19.cell? ⟨gb255, 1, none⟩ = some (.slice none 0 0) := kx BK255.out; have hfz23_0 := blk_frozen BK255.out 0; have hfz23_1 := blk_frozen BK255.out 1; obtain ⟨Ao24, co24, eo24⟩ := Kd.R_slice HO254.out; subst eo24))
     have n0_ : Aside0 (Kd.S (Kd.slice 3 (Kd.int .i64)) 23 ((w19.setCell ⟨gb255, 0, none⟩ (.slice Ao20 t249.length co20)).setCell ⟨gb255, 1, none⟩ (.slice Ao24 t252.length co24)) w.heap.size (fun k_ => (w.heap.size ≤ k_) ∧ some k_ ≠ (.slice Ao24 t252.length co24 : Value).ownBlock) (.slice Ao20 t249.length co20) t249) := ⟨by (with_reducible repeat (first | apply Kd.S_alloc | apply Kd.S_drewN | apply Kd.S_drew)); exact Kd.S_mono (Kd.S_far (p := ⟨gb255, 1, none⟩) (Kd.S_far (p := ⟨gb255, 0, none⟩) (Kd.S_types HO251.out BK255.out (by decide)) (fun _ hk => hk.2) (.slice Ao20 t249.length co20)) (fun _ hk => hk.2) (.slice Ao24 t252.length co24)) (fun _ hk => ⟨hk.1.1, hk.1.2⟩)⟩
     have n1_ : Aside0 (Kd.R (Kd.int .i64) 3 ((w19.setCell ⟨gb255, 0, none⟩ (.slice Ao20 t249.length co20)).setCell ⟨gb255, 1, none⟩ (.slice Ao24 t252.length co24)) w.heap.size (fun k_ => (w.heap.size ≤ k_)) (.slice Ao24 t252.length co24) t252) := ⟨by (with_reducible repeat (first | apply Kd.R_alloc | apply Kd.R_drewN | apply Kd.R_drew)); exact Kd.R_mono (Kd.R_far (p := ⟨gb255, 1, none⟩) (Kd.R_far (p := ⟨gb255, 0, none⟩) (Kd.R_types HO254.out BK255.out (by decide)) (fun _ hk => hk.2) (.slice Ao20 t249.length co20)) (fun _ hk => hk.2) (.slice Ao24 t252.length co24)) (fun _ hk => hk.1.1)⟩
     have n2_ : Aside0 (((w19.setCell ⟨gb255, 0, none⟩ (.slice Ao20 t249.length co20)).setCell ⟨gb255, 1, none⟩ (.slice Ao24 t252.length co24)).heap[gb246]? = some (.cells #[.slice A0_0 l0_0.length c0_0, .slice A0_1 l0_1.length c0_1] 28 (0, 0))) := ⟨by (with_reducible repeat first | apply k1 | apply k2 | apply k3); refine blk_far ?_ NB246_255.out _; (with_reducible repeat first | apply k1 | apply k2 | apply k3); refine blk_far ?_ NB246_255.out _; (with_reducible repeat first | apply k1 | apply k2 | apply k3); exact BK246.out⟩
     have n3_ : Aside0 (((w19.setCell ⟨gb255, 0, none⟩ (.slice Ao20 t249.length co20)).setCell ⟨gb255, 1, none⟩ (.slice Ao24 t252.length co24)).heap[gb247]? = some (.cells #[.slice none 0 0, .slice none 0 0] 28 (0, 0))) := ⟨by (with_reducible repeat first | apply k1 | apply k2 | apply k3); refine blk_far ?_ NB247_255.out _; (with_reducible repeat first | apply k1 | apply k2 | apply k3); refine blk_far ?_ NB247_255.out _; (with_reducible repeat first | apply k1 | apply k2 | apply k3); exact BK247.out⟩
     have n4_ : Aside0 (((w19.setCell ⟨gb255, 0, none⟩ (.slice Ao20 t249.length co20)).setCell ⟨gb255, 1, none⟩ (.slice Ao24 t252.length co24)).heap[gb255]? = some (.cells #[.slice Ao20 t249.length co20, .slice Ao24 t252.length co24] 28 (0, 0))) := ⟨by (with_reducible repeat first | apply k1 | apply k2 | apply k3); refine blk_put (cs := #[.slice Ao20 t249.length co20, .slice none 0 0]) ?_ 1 _ rfl; (with_reducible repeat first | apply k1 | apply k2 | apply k3); refine blk_put (cs := #[.slice none 0 0, .slice none 0 0]) ?_ 0 _ rfl; (with_reducible repeat first | apply k1 | apply k2 | apply k3); exact BK255.out⟩
     have n5_ : Aside0 (Below w.heap.size w ((w19.setCell ⟨gb255, 0, none⟩ (.slice Ao20 t249.length co20)).setCell ⟨gb255, 1, none⟩ (.slice Ao24 t252.length co24))) := ⟨by repeat (first | (with_reducible first | exact HB.out | apply below_alloc | apply pw_below_drewN | apply below_drew1 | refine below_set ?_ GE246.out | refine below_set ?_ GE247.out | refine below_set ?_ GE255.out) | exact HB.out)⟩
     (try clear HO251)
     (try clear HO254)
     (try clear BK246)
     (try clear BK247)
     (try clear BK255)
     (try clear HB)
     generalize ((w19.setCell ⟨gb255, 0, none⟩ (.slice Ao20 t249.length co20)).setCell ⟨gb255, 1, none⟩ (.slice Ao24 t252.length co24)) = w25 at n0_ n1_ n2_ n3_ n4_ n5_ ⊢
     have HO251 := n0_
     have HO254 := n1_
     have BK246 := n2_
     have BK247 := n3_
     have BK255 := n4_
     have HB := n5_
     clear n0_ n1_ n2_ n3_ n4_ n5_
     have n0_ := k0 (Kd.S_drew HO251.out)
     have n1_ := k0 (Kd.R_drew HO254.out)
     have n2_ := k0 (blk_drew BK246.out)
     have n3_ := k0 (blk_drew BK247.out)
     have n4_ := k0 (blk_drew BK255.out)
     have n5_ := k0 (below_drew1 HB.out)
     clear HO251 HO254 BK246 BK247 BK255 HB
     have HO251 := n0_
     have HO254 := n1_
     have BK246 := n2_
     have BK247 := n3_
     have BK255 := n4_
     have HB := n5_
     clear n0_ n1_ n2_ n3_ n4_ n5_
     have p256 : 0 ≤ (a1 : Int) := kD
     have q256 : a1 < (t249.length : Int) := kD
     obtain ⟨ad256, A256_0, c256_0, e256, hx256_0, hl256_0, hi256_0⟩ := at_L1 (Kd.S_reads' HO251.out).2.2 a1 p256 q256
     cases e256
     obtain ⟨ce256, hce256, hMe256, hcc256⟩ := Kd.S_get HO251.out [] a1 p256 (by first | exact q256 | exact kD | (have e_ := (Kd.S_reads' HO251.out).1; omega))
     obtain ⟨ve256_0, rfl, ge256_0⟩ := hMe256
     have hv256_0 := hcc256 0 _ rfl
     rw [Nat.add_zero, show ((Kd.slice 3 (Kd.int .i64))).sz = 1 from rfl, Nat.mul_one] at hv256_0
     replace hv256_0 := Option.some.inj (hv256_0.symm.trans hx256_0)
     rw [hv256_0] at ge256_0
     have HL256_0 := k0 (show Kd.R (Kd.int .i64) 3 _ _ _ _ (rd_L1 t249 a1) from ge256_0)
     clear hv256_0 ge256_0
     have HX256_0 := Aside0.mk hx256_0
     clear hcc256 hce256
     have HR256_0 := Aside0.mk hi256_0
     have HC256_0 := Aside0.mk hl256_0
     clear hi256_0 hl256_0
     replace p256 := eq_true p256
     replace q256 := eq_true q256
     have p257 : 0 ≤ (a1 : Int) := kD
     have q257 : a1 < (t249.length : Int) := kD
     obtain ⟨ad257, A257_0, c257_0, e257, hx257_0, hl257_0, hi257_0⟩ := at_L1 (Kd.S_reads' HO251.out).2.2 a1 p257 q257
     obtain rfl : ad256 = ad257 := (by injection e257)
     obtain ⟨ce257, hce257, hMe257, hcc257⟩ := Kd.S_get HO251.out [] a1 p257 (by first | exact q257 | exact kD | (have e_ := (Kd.S_reads' HO251.out).1; omega))
     obtain ⟨ve257_0, rfl, ge257_0⟩ := hMe257
     have hv257_0 := hcc257 0 _ rfl
     rw [Nat.add_zero, show ((Kd.slice 3 (Kd.int .i64))).sz = 1 from rfl, Nat.mul_one] at hv257_0
     replace hv257_0 := Option.some.inj (hv257_0.symm.trans hx257_0)
     rw [hv257_0] at ge257_0
     have HL257_0 := k0 (show Kd.R (Kd.int .i64) 3 _ _ _ _ (rd_L1 t249 a1) from ge257_0)
     clear hv257_0 ge257_0
     have HX257_0 := Aside0.mk hx257_0
     clear hcc257 hce257
     have HR257_0 := Aside0.mk hi257_0
     have HC257_0 := Aside0.mk hl257_0
     clear hi257_0 hl257_0
     replace p257 := eq_true p257
     replace q257 := eq_true q257
     have ea_ := Option.some.inj (hx256_0.symm.trans hx257_0)
     injection ea_ with ea_ en_ ec_
     subst ea_
     subst ec_
     clear en_
     have p258 : 0 ≤ (a1 : Int) := kD
     have q258 : a1 < ((rd_L1 t249 a1).length : Int) := kD
     obtain ⟨ad258, e258, hx258_0⟩ := Kd.at_int (by repeat (first | (with_reducible exact HR257_0.out) | (with_reducible refine Kd.C_alloc ?_ _) | (with_reducible refine Kd.C_drewN ?_ _) | (with_reducible refine Kd.C_drew ?_) | exact HR257_0.out)) a1 p258 q258
     cases e258
     replace p258 := eq_true p258
     replace q258 := eq_true q258
     have p10 : 0 ≤ (a1 : Int) := kD
     have q10 : (a1 : Int) < (((rd_L1 t249 a1).length : Int) : Int) := kD
     obtain ⟨go10, co10, eo10, gb10, gl10, cl10, HG10⟩ := Kd.R_form HL256_0.out (by omega)
     (first | cases eo10 | (injection eo10 with ea_ en_ ec_; (first | subst ea_ | (injection ea_ with ea_; subst ea_)); subst ec_; clear en_))
     have GB10 := Aside0.mk gb10
     have GG10 := Aside0.mk HG10
     clear gb10 gl10 HG10
     (first | simp only [add_plain] at hx258_0 | skip)
     obtain ⟨hx10_0, hf10_0⟩ := Kd.R_celln 0 HL256_0.out (a1 : Int) p10 q10
     replace p10 := eq_true p10
     replace q10 := eq_true q10
     have hq27 : (a1 : Int) < (t249.length : Int) := (by have h_ : (a1 : Int) < ((t249.length : Int) : Int) := kD; first | exact h_ | (have e_ := (Kd.S_reads' HO251.out).1; omega) | simpa only [List.length_set, List.length_set] using h_)
     obtain ⟨oki27, ce27, hcl27, hM27, hcc27, hok27, hbk27⟩ := Kd.S_borrow HO251.out [] (a1 : Int) kD hq27
     obtain ⟨ve27_0, rfl, ge27_0⟩ := hM27
     have hv27 := hcc27 0 _ rfl
     rw [Nat.add_zero, show ((Kd.slice 3 (Kd.int .i64))).sz = 1 from rfl, Nat.mul_one] at hv27
     replace hv27 := Option.some.inj (hv27.symm.trans HX256_0.out)
     subst hv27
     clear hcc27 hcl27
     replace ge27_0 := (show Kd.R (Kd.int .i64) 3 _ _ _ _ (rd_L1 t249 a1) from ge27_0)
     have HP27 := Kd.R_putg ge27_0 (a1 : Int) (wrap64 ((rd (rd_L1 t249 a1) a1) + a2))
     rw [← Ny259.out] at HP27
     have HS27 := hbk27 HP27.2 (fun k_ e_ => by injection e_ with e_; subst e_; exact ge27_0.1 _ rfl) (x' := y259) (Kd.M_row HP27.1)
     rw [← Ny261.out] at HS27
     have HQ27 := Aside0.mk HS27
     clear HP27 HS27 hbk27 hok27
     refine start_ (n := 18) (S := fun w' => w'.cell? ⟨gb255, 0, none⟩ = some (.slice (some ad256) t249.length co20) ∧ w'.cell? ⟨gb255, 1, none⟩ = some (.slice Ao24 t252.length co24) ∧ w'.cell? (ad256.add (a1).toNat) = some (.slice (some ⟨go10, 0, none⟩) (rd_L1 t249 a1).length c256_0) ∧ w'.cell? (ad256.add (a1).toNat) = some (.slice (some ⟨go10, 0, none⟩) (rd_L1 t249 a1).length c256_0) ∧ w'.cell? ⟨go10, (a1).toNat, none⟩ = some (.int .i64 (rd (rd_L1 t249 a1) a1))) (ds := [17]) #[false, false, false, false, false, false, false, false, false, false, false, false, false, false, false, false, false, false] (by kernel_rfl) rfl rfl ⟨(blk_cell BK255.out 0).trans rfl, (blk_cell BK255.out 1).trans rfl, hx256_0, hx257_0, hx258_0⟩ (fun hHeld => ?_); refine with_tabW spec_Mint.tab4 spec_Mint.bits4 (fun HT_ HW_ => ?_)
     generalize w25.drew = w26 at HO251 HO254 BK246 BK247 BK255 HB GG10 HL256_0 HL257_0 HQ27 HR256_0 HR257_0 HX256_0 HX257_0 hf10_0 hx10_0 hx256_0 hx257_0 hx258_0 hHeld ⊢
     refine kP 0 17 18 1 HT_.out ?_
     refine kP 2 19 18 5 HT_.out ?_
     refine kP 5 22 18 37 HT_.out ?_
     refine kP 6 23 18 101 HT_.out ?_
     refine kP 8 25 18 357 HT_.out ?_
     refine kP 11 28 18 2405 HT_.out ?_
     refine kP 14 31 18 18789 HT_.out ?_
     refine take_ (i := 1) (N := some 18) (v := ?_) (a' := ?_) (bt 18 18791) rfl rfl (take_ofW HT_.out HW_.out (by kernel_rfl)) (fun _ _ _ h => h) (Or.inl ⟨by rfl, ?_⟩) hHeld ?_ ?_
     rotate_left
     ·rintro w' ⟨s0, s1, s2, s3, s4⟩
      go_simp
      with_reducible rfl
     rotate_left
     ·simp only [Act.put, List.setIfInBounds_toArray, List.set_cons_zero, List.set_cons_succ, i64_w, i32_w]
      rfl
     refine kP 3 20 18 18799 HT_.out ?_
     refine take_ (i := 4) (N := some 21) (v := ?_) (a' := ?_) (bt 18 18815) rfl rfl (take_ofW HT_.out HW_.out (by kernel_rfl)) (fun _ _ _ h => h) (Or.inl ⟨by rfl, ?_⟩) hHeld ?_ ?_
     rotate_left
     ·rintro w' ⟨s0, s1, s2, s3, s4⟩
      go_simp
      with_reducible rfl
     rotate_left
     ·simp only [Act.put, List.setIfInBounds_toArray, List.set_cons_zero, List.set_cons_succ, i64_w, i32_w]
      rfl
     refine take_ (i := 7) (N := some 24) (v := ?_) (a' := ?_) (bt 18 18943) rfl rfl (take_ofW HT_.out HW_.out (by kernel_rfl)) (fun _ _ _ h => h) (Or.inl ⟨by rfl, ?_⟩) hHeld ?_ ?_
     rotate_left
     ·rintro w' ⟨s0, s1, s2, s3, s4⟩
      go_simp
      with_reducible rfl
     rotate_left
     ·simp only [Act.put, List.setIfInBounds_toArray, List.set_cons_zero, List.set_cons_succ, i64_w, i32_w]
      rfl
     refine kP 9 26 18 19455 HT_.out ?_
     refine take_ (i := 10) (N := some 27) (v := ?_) (a' := ?_) (bt 18 20479) rfl rfl (take_ofW HT_.out HW_.out (by kernel_rfl)) (fun _ _ _ h => h) (Or.inl ⟨by rfl, ?_⟩) hHeld ?_ ?_
     rotate_left
     ·rintro w' ⟨s0, s1, s2, s3, s4⟩
      go_simp
      with_reducible rfl
     rotate_left
     ·simp only [Act.put, List.setIfInBounds_toArray, List.set_cons_zero, List.set_cons_succ, i64_w, i32_w]
      rfl
     refine kP 12 29 18 24575 HT_.out ?_
     refine take_ (i := 13) (N := some 30) (v := ?_) (a' := ?_) (bt 18 32767) rfl rfl (take_ofW HT_.out HW_.out (by kernel_rfl)) (fun _ _ _ h => h) (Or.inl ⟨by rfl, ?_⟩) hHeld ?_ ?_
     rotate_left
     ·rintro w' ⟨s0, s1, s2, s3, s4⟩
      go_simp
      with_reducible rfl
     rotate_left
     ·simp only [Act.put, List.setIfInBounds_toArray, List.set_cons_zero, List.set_cons_succ, i64_w, i32_w]
      rfl
     refine kP 15 32 18 65535 HT_.out ?_
     refine kP 16 33 18 131071 HT_.out ?_
     refine last_ (i := 17) (N := none) (bt 18 262143) rfl rfl (one_of HT_.out (by kernel_rfl)) (by decide) (fun K hK => ?_)
     refine skip_ (w1 := ?_) (by rfl) rfl ?_ ?_
     rotate_left
     ·go_simp
      rfl
     refine hK.out _ _ ?_
     clear hK K
     refine done_ (done_of HT_.out (by kernel_rfl)) ?_
     have n0_ : Aside0 (Kd.S (Kd.slice 3 (Kd.int .i64)) 23 (w26.setCell ⟨go10, (a1 : Int).toNat, none⟩ (.int .i64 (wrap64 ((rd (rd_L1 t249 a1) a1) + a2)))) w.heap.size (fun k_ => (w.heap.size ≤ k_) ∧ some k_ ≠ (.slice Ao24 t252.length co24 : Value).ownBlock) (.slice (some ad256) t249.length co20) y261) := ⟨by (with_reducible repeat (first | apply Kd.S_alloc | apply Kd.S_drewN | apply Kd.S_drew)); exact HQ27.out⟩
     have n1_ : Aside0 (Kd.R (Kd.int .i64) 3 (w26.setCell ⟨go10, (a1 : Int).toNat, none⟩ (.int .i64 (wrap64 ((rd (rd_L1 t249 a1) a1) + a2)))) w.heap.size (fun k_ => (w.heap.size ≤ k_)) (.slice Ao24 t252.length co24) t252) := ⟨by (with_reducible repeat (first | apply Kd.R_alloc | apply Kd.R_drewN | apply Kd.R_drew)); exact Kd.R_mono (Kd.R_far (p := ⟨go10, (a1 : Int).toNat, none⟩) (Kd.R_far1 HO254.out rfl ((HL256_0.out.1 _ rfl).1.2)) (fun _ hk => hk.2) (.int .i64 (wrap64 ((rd (rd_L1 t249 a1) a1) + a2)))) (fun _ hk => hk.1)⟩
     have n2_ : Aside0 ((w26.setCell ⟨go10, (a1 : Int).toNat, none⟩ (.int .i64 (wrap64 ((rd (rd_L1 t249 a1) a1) + a2)))).heap[gb246]? = some (.cells #[.slice A0_0 l0_0.length c0_0, .slice A0_1 l0_1.length c0_1] 28 (0, 0))) := ⟨by (with_reducible repeat first | apply k1 | apply k2 | apply k3); refine blk_far ?_ (by have h_ := Kd.R_ne HL256_0.out BK246.out (by decide); intro e_; exact h_ (by rw [e_]; rfl)) _; (with_reducible repeat first | apply k1 | apply k2 | apply k3); exact BK246.out⟩
     have n3_ : Aside0 ((w26.setCell ⟨go10, (a1 : Int).toNat, none⟩ (.int .i64 (wrap64 ((rd (rd_L1 t249 a1) a1) + a2)))).heap[gb247]? = some (.cells #[.slice none 0 0, .slice none 0 0] 28 (0, 0))) := ⟨by (with_reducible repeat first | apply k1 | apply k2 | apply k3); refine blk_far ?_ (by have h_ := Kd.R_ne HL256_0.out BK247.out (by decide); intro e_; exact h_ (by rw [e_]; rfl)) _; (with_reducible repeat first | apply k1 | apply k2 | apply k3); exact BK247.out⟩
     have n4_ : Aside0 ((w26.setCell ⟨go10, (a1 : Int).toNat, none⟩ (.int .i64 (wrap64 ((rd (rd_L1 t249 a1) a1) + a2)))).heap[gb255]? = some (.cells #[.slice (some ad256) t249.length co20, .slice Ao24 t252.length co24] 28 (0, 0))) := ⟨by (with_reducible repeat first | apply k1 | apply k2 | apply k3); refine blk_far ?_ (by have h_ := Kd.R_ne HL256_0.out BK255.out (by decide); intro e_; exact h_ (by rw [e_]; rfl)) _; (with_reducible repeat first | apply k1 | apply k2 | apply k3); exact BK255.out⟩
     have n5_ : Aside0 (Below w.heap.size w (w26.setCell ⟨go10, (a1 : Int).toNat, none⟩ (.int .i64 (wrap64 ((rd (rd_L1 t249 a1) a1) + a2))))) := ⟨by repeat (first | (with_reducible first | exact HB.out | apply below_alloc | apply pw_below_drewN | apply below_drew1 | refine below_set ?_ GB10.out | refine below_set ?_ GE246.out | refine below_set ?_ GE247.out | refine below_set ?_ GE255.out) | exact HB.out)⟩
     (try clear HO251)
     (try clear HO254)
     (try clear BK246)
     (try clear BK247)
     (try clear BK255)
     (try clear HB)
     generalize (w26.setCell ⟨go10, (a1 : Int).toNat, none⟩ (.int .i64 (wrap64 ((rd (rd_L1 t249 a1) a1) + a2)))) = w29 at n0_ n1_ n2_ n3_ n4_ n5_ ⊢
     have HO251 := n0_
     have HO254 := n1_
     have BK246 := n2_
     have BK247 := n3_
     have BK255 := n4_
     have HB := n5_
     clear n0_ n1_ n2_ n3_ n4_ n5_
     have hcz30_0 : w29.cell? ⟨gb255, 0, none⟩ = some (.slice (some ad256) t249.length co20) := kx BK255.out
     have hcz30_1 : w29.cell? ⟨gb255, 1, none⟩ = some (.slice Ao24 t252.length co24) := kx BK255.out
     have hfz30_0 := blk_frozen BK255.out 0
     have hfz30_1 := blk_frozen BK255.out 1
     try go_wp2_with (first | ((with_reducible refine gate_callee (f := 52) rfl ?_); refine goesL_ (some 35) rfl rfl Try.func52 (by kernel_rfl) rfl #[.agg #[.slice (some ad256) y261.length co20, .slice Ao24 t252.length co24]] rfl (by (try simp only [List.map_toArray, List.map_cons, List.map_nil]); first | done | (rw [show y261.length = t249.length from (Kd.S_reads' HO251.out).1.symm] <;> rfl) | rfl | (simp only [List.length_drop, List.length_take]; rfl)) ?_; (with_reducible refine (spec_l06Done.calls k (fun k_ => (((((w.heap.size ≤ k_) ∧ some k_ ≠ (.slice Ao24 t252.length co24 : Value).ownBlock) ∧ k_ ≠ gb246) ∧ k_ ≠ gb247) ∧ k_ ≠ gb255)) _ _ y261 (fun k_ => some k_ = (.slice Ao24 t252.length co24 : Value).ownBlock) (.slice Ao24 t252.length co24) t252 t262 t265 t268 w _ ?side1 ?side2 ?side3 A11.out).mono ?_); (case side1 => repeat (first | (with_reducible first | exact HB.out | apply below_alloc | apply pw_below_drewN | apply below_drew1 | refine below_set ?_ GE246.out | refine below_set ?_ GE247.out | refine below_set ?_ GE255.out) | exact HB.out)); (case side2 => rw [show y261.length = t249.length from (Kd.S_reads' HO251.out).1.symm]; exact Kd.V_mono (Kd.S_V (Kd.S_types (Kd.S_types (Kd.S_types (HO251.out) BK246.out (by decide)) BK247.out (by decide)) BK255.out (by decide))) (fun k_ hk_ => ⟨hk_, hk_.1.1.1.2⟩)); (case side3 => exact Kd.R_tight rfl HO254.out); rintro e w31 ⟨v263, v266, rfl, ho0, ho1, hb, hkp⟩; refine ⟨_, rfl, ?_⟩; have n0_ := k0 (kK BK246.out hkp (fun hs_ => (fun e_ => (Kd.R_ne HO254.out BK246.out (by decide)) e_) hs_)); have n1_ := k0 (kK BK247.out hkp (fun hs_ => (fun e_ => (Kd.R_ne HO254.out BK247.out (by decide)) e_) hs_)); have n2_ := k0 (Kd.S_mono (ok' := fun k_ => (w.heap.size ≤ k_) ∧ some k_ ≠ (v266 : Value).ownBlock) (Kd.S_keptB (HO251.out) hkp (fun k_ hk_ hs_ => (hk_.2) hs_)) (fun k_ hk_ => ⟨hk_.1.1, fun e_ => Or.elim (ho1.1 k_ e_.symm) (fun hs_ => hk_.2.1 hs_) (fun hn_ => Nat.not_le.2 hk_.2.2 hn_)⟩)); have n3_ := k0 (kK BK255.out hkp (fun hs_ => (fun e_ => (Kd.R_ne HO254.out BK255.out (by decide)) e_) hs_)); have n4_ := k0 (Kd.V_mono (ok' := fun k_ => (w.heap.size ≤ k_) ∧ some k_ ≠ (v266 : Value).ownBlock ∧ k_ ≠ gb246 ∧ k_ ≠ gb247 ∧ k_ ≠ gb255) ho0 (fun k_ hk_ => ⟨Or.elim hk_.1 (fun hs_ => Or.elim hs_ (fun hs_ => (HO254.out.1 k_ (hs_).symm)) (fun hs_ => hs_.1.1.1.1)) (fun hn_ => (Nat.le_trans (below_size (kW HB.out)) hn_)), hk_.2, Or.elim hk_.1 (fun hs_ => Or.elim hs_ (fun hs_ => fun e_ => (Kd.R_ne HO254.out BK246.out (by decide)) (by rw [← e_]; exact hs_)) (fun hs_ => hs_.1.1.2)) (fun hn_ => (Kd.freshB (g := gb246) (o := .cells #[.slice A0_0 l0_0.length c0_0, .slice A0_1 l0_1.length c0_1] 28 (0, 0)) (kB BK246.out) k_ hn_)), Or.elim hk_.1 (fun hs_ => Or.elim hs_ (fun hs_ => fun e_ => (Kd.R_ne HO254.out BK247.out (by decide)) (by rw [← e_]; exact hs_)) (fun hs_ => hs_.1.2)) (fun hn_ => (Kd.freshB (g := gb247) (o := .cells #[.slice none 0 0, .slice none 0 0] 28 (0, 0)) (kB BK247.out) k_ hn_)), Or.elim hk_.1 (fun hs_ => Or.elim hs_ (fun hs_ => fun e_ => (Kd.R_ne HO254.out BK255.out (by decide)) (by rw [← e_]; exact hs_)) (fun hs_ => hs_.2)) (fun hn_ => (Kd.freshB (g := gb255) (o := .cells #[.slice (some ad256) t249.length co20, .slice Ao24 t252.length co24] 28 (0, 0)) (kB BK255.out) k_ hn_))⟩)); have n5_ := k0 (Kd.R_mono (ok' := fun k_ => (w.heap.size ≤ k_)) ho1 (fun k_ hk_ => Or.elim hk_ (fun hs_ => (HO254.out.1 k_ (hs_).symm)) (fun hn_ => (Nat.le_trans (below_size (kW HB.out)) hn_)))); have n6_ := k0 (hb); clear BK246; clear BK247; clear HO251; clear BK255; clear HB; clear HO254; have BK246 := n0_; have BK247 := n1_; have HO251 := n2_; have BK255 := n3_; have HO264 := n4_; have HO267 := n5_; have HB := n6_; clear n0_ n1_ n2_ n3_ n4_ n5_ n6_; (try clear hb); (try clear hkp); (try clear ho0); (try clear ho1); obtain ⟨Ao32, co32, eo32⟩ := Kd.V_slice HO264.out; subst eo32; have hcz33_0 : w31.cell? ⟨gb247, 0, none⟩ = some (.slice none 0 0) := kx BK247.out; have hcz33_1 : w31.cell? ⟨gb247, 1, none⟩ = some (.slice none 0 0) := kx BK247.out; have hfz33_0 := blk_frozen BK247.out 0; have hfz33_1 := blk_frozen BK247.out 1; obtain ⟨Ao34, co34, eo34⟩ := Kd.R_slice HO267.out; subst eo34))
     refine bodyPost_ret (results_ct rfl _ _ gb247 28 #[.slice Ao32 t262.length co32, .slice Ao34 t265.length co34] (0, 0) _ rfl (by (with_reducible repeat first | apply k1 | apply k2 | apply k3); refine blk_put (cs := #[.slice Ao32 t262.length co32, .slice none 0 0]) ?_ 1 _ rfl; (with_reducible repeat first | apply k1 | apply k2 | apply k3); refine blk_put (cs := #[.slice none 0 0, .slice none 0 0]) ?_ 0 _ rfl; (with_reducible repeat first | apply k1 | apply k2 | apply k3); exact BK247.out) Try.underlying28 rfl (by kernel_rfl)) rfl ?_
     exact ⟨_, _, by first | rfl | (simp [errW_none, errW_some] <;> rfl) | (simp [*, errW_none, errW_some] <;> rfl), by (with_reducible repeat (first | apply Kd.V_alloc | apply Kd.V_drewN | apply Kd.V_drew)); exact Kd.V_mono (Kd.V_far (p := ⟨gb247, 1, none⟩) (Kd.V_far (p := ⟨gb247, 0, none⟩) (Kd.V_mono HO264.out (fun k_ hk => (⟨hk, hk.2.2.2.1⟩ : _ ∧ k_ ≠ gb247))) (fun _ hk => hk.2) (.slice Ao32 t262.length co32)) (fun _ hk => hk.2) (.slice Ao34 t265.length co34)) (fun _ hk => ⟨hk.1.1, hk.1.2.1⟩), by (with_reducible repeat (first | apply Kd.R_alloc | apply Kd.R_drewN | apply Kd.R_drew)); exact Kd.R_mono (Kd.R_far (p := ⟨gb247, 1, none⟩) (Kd.R_far (p := ⟨gb247, 0, none⟩) (Kd.R_types HO267.out BK247.out (by decide)) (fun _ hk => hk.2) (.slice Ao32 t262.length co32)) (fun _ hk => hk.2) (.slice Ao34 t265.length co34)) (fun _ hk => hk.1), by repeat (first | (with_reducible first | exact HB.out | apply below_alloc | apply pw_below_drewN | apply below_drew1 | refine below_set ?_ GE246.out | refine below_set ?_ GE247.out | refine below_set ?_ GE255.out) | exact HB.out)⟩
    ·rw [if_neg c9] at H
     exact absurd H (by simp)
   ·rw [if_neg c8] at H
    exact absurd H (by simp)
  ·rw [if_neg c7] at H
   exact absurd H (by simp)
 ·replace c5 := Bool.eq_false_iff.mpr c5
  subst c5
  have H1 : (some (([] : List (List Int)), ([] : List Int), false)) = some (r1, r2, r3) := by rw [if_neg (show ¬ (false = true) by decide)] at H; exact H
  clear H
  have H := H1
  clear H1
  simp only [Option.some.injEq, Prod.mk.injEq] at H
  obtain ⟨rfl, rfl, rfl⟩ := H
  go_enter Try.func28, Try.ntmps28
  go_wp2_with (first | ((with_reducible refine gate_dst (N := 3) rfl ?_); refine kE (N := 3) (cs := #[.slice A0_0 l0_0.length c0_0, .slice A0_1 l0_1.length c0_1]) (t := 28) ?_; intro gb246 hg w35 hbox hb; have n0_ := k0 (below_step (kW HB.out) hb); have n1_ := k0 (hbox); have n2_ := k0 (kY HB.out hg); have n3_ := k0 (kY HB.out hg); clear HB; have HB := n0_; have BK246 := n1_; have GW246 := n2_; have GE246 := n3_; clear n0_ n1_ n2_ n3_; clear hb hbox hg) | ((with_reducible refine gate_dst (N := 6) rfl ?_); refine kE (N := 6) (cs := #[.slice none 0 0, .slice none 0 0]) (t := 28) ?_; intro gb247 hg w36 hbox hb; have n0_ := k0 (kb BK246.out hb); have n1_ := k0 (below_step (kW HB.out) hb); have n2_ := k0 (hbox); have n3_ := k0 (kY HB.out hg); have n4_ := k0 (kY HB.out hg); have n5_ := k0 ((by rw [hg]; exact Nat.ne_of_lt (blk_lt (g := gb246) (o := .cells #[.slice A0_0 l0_0.length c0_0, .slice A0_1 l0_1.length c0_1] 28 (0, 0)) (kB BK246.out)) : gb246 ≠ gb247)); have n6_ := k0 ((by rw [hg]; exact Nat.ne_of_gt (blk_lt (g := gb246) (o := .cells #[.slice A0_0 l0_0.length c0_0, .slice A0_1 l0_1.length c0_1] 28 (0, 0)) (kB BK246.out)) : gb247 ≠ gb246)); clear BK246; clear HB; have BK246 := n0_; have HB := n1_; have BK247 := n2_; have GW247 := n3_; have GE247 := n4_; have NB246_247 := n5_; have NB247_246 := n6_; clear n0_ n1_ n2_ n3_ n4_ n5_ n6_; clear hb hbox hg; have hnb37 := NB246_247.out; have hnc37 := NB247_246.out; have hcz38_0 : w36.cell? ⟨gb246, 0, none⟩ = some (.slice A0_0 l0_0.length c0_0) := kx BK246.out; have hcz38_1 : w36.cell? ⟨gb246, 1, none⟩ = some (.slice A0_1 l0_1.length c0_1) := kx BK246.out; have hfz38_0 := blk_frozen BK246.out 0; have hfz38_1 := blk_frozen BK246.out 1) | ((with_reducible refine gate_callee (f := 58) rfl ?_); refine kG (some 12) Try.func58 #[.agg #[.slice A0_0 l0_0.length c0_0, .slice A0_1 l0_1.length c0_1], .int .i64 a1, .int .i64 a2] ?_; (with_reducible refine (spec_l06May.calls k _ _ l0_0 _ _ l0_1 a1 a2 false _ ?side1 ?side2 ?side3 ?side4 A4.out).mono ?_); (case side1 => exact kC (Kd.C_below HR0_0.out HB.out)); (case side2 => exact HC0_0.out); (case side3 => exact kC (Kd.C_below HR0_1.out HB.out)); (case side4 => exact HC0_1.out); rintro e w39 ⟨rfl, hb⟩; refine ⟨_, rfl, ?_⟩; have n0_ := k0 (kb BK246.out hb); have n1_ := k0 (kb BK247.out hb); have n2_ := k0 (below_step (kW HB.out) hb); clear BK246; clear BK247; clear HB; have BK246 := n0_; have BK247 := n1_; have HB := n2_; clear n0_ n1_ n2_; (try clear hb); (try clear hb2); (try clear hk); (try clear hi); have hcz40_0 : w39.cell? ⟨gb247, 0, none⟩ = some (.slice none 0 0) := kx BK247.out; have hcz40_1 : w39.cell? ⟨gb247, 1, none⟩ = some (.slice none 0 0) := kx BK247.out; have hfz40_0 := blk_frozen BK247.out 0; have hfz40_1 := blk_frozen BK247.out 1))
  refine bodyPost_ret (results_ct rfl _ _ gb247 28 #[.slice none 0 0, .slice none 0 0] (0, 0) _ rfl (by (with_reducible repeat first | apply k1 | apply k2 | apply k3); refine blk_put (cs := #[.slice none 0 0, .slice none 0 0]) ?_ 1 _ rfl; (with_reducible repeat first | apply k1 | apply k2 | apply k3); refine blk_put (cs := #[.slice none 0 0, .slice none 0 0]) ?_ 0 _ rfl; (with_reducible repeat first | apply k1 | apply k2 | apply k3); exact BK247.out) Try.underlying28 rfl (by kernel_rfl)) rfl ?_
  exact ⟨_, _, by first | rfl | (simp [errW_none, errW_some] <;> rfl) | (simp [*, errW_none, errW_some] <;> rfl), Kd.V_nil _ _ _ _ _, by first | exact Kd.R_nil _ _ _ _ _ | exact Kd.N_nil _ _ _ _ _ | exact Kd.V_nil _ _ _ _ _ | exact Kd.Q_nil _ _ _ _ _ | exact Kd.S_nil _ _ _ _ _, by repeat (first | (with_reducible first | exact HB.out | apply below_alloc | apply pw_below_drewN | apply below_drew1 | refine below_set ?_ GE246.out | refine below_set ?_ GE247.out) | exact HB.out)⟩

end Go.Proofs.Ytcnanifokpcjaaa.PFnMeet
