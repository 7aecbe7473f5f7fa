import Derived.Test.YtcnanifokpcjaaaPFnRightsx0
import Derived.Test.YtcnanifokpcjaaaPFnRightsx6
import Derived.Test.YtcnanifokpcjaaaPFnRightsx7
namespace Go.Proofs.Ytcnanifokpcjaaa.PFnRights
open Go.RowKit Go.Proofs.YtcnanifokpcjaaaW.PrintWords Go.Proofs.YtcnanifokpcjaaaW.PrintLast Go.Proofs.YtcnanifokpcjaaaW.PrintMore
attribute [local go_sem] max2_int min2_int max_two min_two max_three min_three max_four min_four   -- for this text's walks alone
set_option linter.unusedVariables false
set_option linter.unusedSimpArgs false

/-! ### spec_RightsOk: function 14 -/
def spec_RightsOk.l0 : Nat → Int → Int → Int → List (List Int) → List Int → Option (Bool)
 | 0, _, _, _, _, _ => none
 | k + 1, x3, x10, x11, x215000, x215001 => if x11 < x10 then ((spec_l06Has.f k x215000 x215001 x11).bind fun t216 => (if t216 < 0 then (some false) else (if 0 ≤ x11 then (if x11 < (x215000.length : Int) then (if x11 < ((rd_L1 x215000 x11).length : Int) then (spec_RightsOk.l0 k (wrap64 (x3 + (rd (rd_L1 x215000 x11) x11))) x10 (wrap64 (x11 + 1)) x215000 x215001) else (none)) else (none)) else (none)))) else ((spec_l01Num.f x3).bind fun t219 => (some t219))
def spec_RightsOk.f (k : Nat) (l0_0 : List (List Int)) (l0_1 : List Int) : Option (Bool) := (spec_l06Form.f k l0_0 l0_1).bind fun t215 => (if t215 = true then (spec_RightsOk.l0 k 0 (l0_0.length : Int) 0 l0_0 l0_1) else (some false))
theorem spec_RightsOk.mono_l : ∀ k, (∀ y0 y1 y2 y3 y4, LeO (spec_RightsOk.l0 k y0 y1 y2 y3 y4) (spec_RightsOk.l0 (k + 1) y0 y1 y2 y3 y4))
 | 0 => fun _ _ _ _ _ r h => by simp [spec_RightsOk.l0] at h
 | k + 1 => by
  have ih0 := spec_RightsOk.mono_l k
  ·intro y0 y1 y2 y3 y4
   unfold spec_RightsOk.l0
   repeat' first
   | (with_reducible exact ih0 _ _ _ _ _)
   | (with_reducible exact spec_l06Form.mono _ _ _)
   | (with_reducible exact spec_l06Has.mono _ _ _ _)
   | (with_reducible exact LeO.refl _)
   | (with_reducible exact LeO.none _)
   | (with_reducible refine LeO.ite ?_ ?_)
   | (with_reducible refine LeO.bind ?_ (fun _ => ?_))
   | exact ih0 _ _ _ _ _
   | exact spec_l06Form.mono _ _ _
   | exact spec_l06Has.mono _ _ _ _
   | exact LeO.none _
   | refine LeO.ite ?_ ?_
   | refine LeO.bind ?_ (fun _ => ?_)
theorem spec_RightsOk.mono : ∀ a0 a1 k, LeO (spec_RightsOk.f k a0 a1) (spec_RightsOk.f (k + 1) a0 a1) := by
 intro a0 a1 k
 have ih0 := spec_RightsOk.mono_l k
 unfold spec_RightsOk.f
 repeat' first
   | (with_reducible exact ih0 _ _ _ _ _)
   | (with_reducible exact spec_l06Form.mono _ _ _)
   | (with_reducible exact spec_l06Has.mono _ _ _ _)
   | (with_reducible exact LeO.refl _)
   | (with_reducible exact LeO.none _)
   | (with_reducible refine LeO.ite ?_ ?_)
   | (with_reducible refine LeO.bind ?_ (fun _ => ?_))
   | exact ih0 _ _ _ _ _
   | exact spec_l06Form.mono _ _ _
   | exact spec_l06Has.mono _ _ _ _
   | exact LeO.none _
   | refine LeO.ite ?_ ?_
   | refine LeO.bind ?_ (fun _ => ?_)
set_option maxHeartbeats 8000000 in
set_option maxRecDepth 100000 in
theorem spec_RightsOk.calls (k : Nat) (A0_0 : Option Addr) (c0_0 : Nat) (l0_0 : List (List Int)) (A0_1 : Option Addr) (c0_1 : Nat) (l0_1 : List Int) (r : Bool) (w : World) (hr0_0 : Kd.C (Kd.slice 3 (Kd.int .i64)) w A0_0 l0_0.length l0_0) (hc0_0 : l0_0.length ≤ c0_0) (hr0_1 : Kd.C (Kd.int .i64) w A0_1 l0_1.length l0_1) (hc0_1 : l0_1.length ≤ c0_1) (h : spec_RightsOk.f k l0_0 l0_1 = some r) :
  Calls Try.prog 14 #[.agg #[.slice A0_0 l0_0.length c0_0, .slice A0_1 l0_1.length c0_1]] w fun e w' => e = .returned (.bool r) ∧ Below w.heap.size w w' := by
 have hu28 := Try.underlying28
 have HR0_0 := Aside0.mk hr0_0
 have HC0_0 := Aside0.mk hc0_0
 clear hr0_0 hc0_0
 have HR0_1 := Aside0.mk hr0_1
 have HC0_1 := Aside0.mk hc0_1
 clear hr0_1 hc0_1
 have HB := k0 (Below.refl w.heap.size w)
 have H : ((spec_l06Form.f k l0_0 l0_1).bind fun t215 => (if t215 = true then (spec_RightsOk.l0 k 0 (l0_0.length : Int) 0 l0_0 l0_1) else (some false))) = some r := h
 clear h
 replace H := Option.bind_eq_some_iff.mp H
 obtain ⟨t215, A20, H⟩ := H
 replace H : (if t215 = true then (spec_RightsOk.l0 k 0 (l0_0.length : Int) 0 l0_0 l0_1) else (some false)) = some r := H
 have A2 := Aside0.mk A20
 clear A20
 by_cases c3 : t215 = true
 ·subst c3
  have H1 : (spec_RightsOk.l0 k 0 (l0_0.length : Int) 0 l0_0 l0_1) = some r := by rw [if_pos rfl] at H; exact H
  clear H
  have H := H1
  clear H1
  have H' := Aside0.mk H
  clear H
  go_enter Try.func14, Try.ntmps14
  go_wp2_with (first | ((with_reducible refine gate_dst (N := 1) rfl ?_); refine kE (N := 1) (cs := #[.slice A0_0 l0_0.length c0_0, .slice A0_1 l0_1.length c0_1]) (t := 28) ?_; intro gb214 hg w4 hbox hb; have n0_ := k0 (below_step (kW HB.out) hb); have n1_ := k0 (hbox); have n2_ := k0 (kY HB.out hg); have n3_ := k0 (kY HB.out hg); clear HB; have HB := n0_; have BK214 := n1_; have GW214 := n2_; have GE214 := n3_; clear n0_ n1_ n2_ n3_; clear hb hbox hg; have hcz5_0 : w4.cell? ⟨gb214, 0, none⟩ = some (.slice A0_0 l0_0.length c0_0) := kx BK214.out; have hcz5_1 : w4.cell? ⟨gb214, 1, none⟩ = some (.slice A0_1 l0_1.length c0_1) := kx BK214.out; have hfz5_0 := blk_frozen BK214.out 0; have hfz5_1 := blk_frozen BK214.out 1) | ((with_reducible refine gate_callee (f := 39) rfl ?_); refine kG (some 6) Try.func39 #[.agg #[.slice A0_0 l0_0.length c0_0, .slice A0_1 l0_1.length c0_1]] ?_; (with_reducible refine (spec_l06Form.calls k _ _ l0_0 _ _ l0_1 true _ ?side1 ?side2 ?side3 ?side4 A2.out).mono ?_); (case side1 => exact kC (Kd.C_below HR0_0.out HB.out)); (case side2 => exact HC0_0.out); (case side3 => exact kC (Kd.C_below HR0_1.out HB.out)); (case side4 => exact HC0_1.out); rintro e w6 ⟨rfl, hb⟩; refine ⟨_, rfl, ?_⟩; have n0_ := k0 (kb BK214.out hb); have n1_ := k0 (below_step (kW HB.out) hb); clear BK214; clear HB; have BK214 := n0_; have HB := n1_; clear n0_ n1_; (try clear hb); (try clear hb2); (try clear hk); (try clear hi); have hcz7_0 : w6.cell? ⟨gb214, 0, none⟩ = some (.slice A0_0 l0_0.length c0_0) := kx BK214.out; have hcz7_1 : w6.cell? ⟨gb214, 1, none⟩ = some (.slice A0_1 l0_1.length c0_1) := kx BK214.out; have hfz7_0 := blk_frozen BK214.out 0; have hfz7_1 := blk_frozen BK214.out 1))
  go_loopg [3, 11] k (fun kq v3 v11 w' => ∃ (x3_1 : Int) (x11_1 : Int), v3 = .int .i64 x3_1 ∧ v11 = .int .i64 x11_1 ∧ Aside0 (spec_RightsOk.l0 kq x3_1 (l0_0.length : Int) x11_1 l0_0 l0_1 = some r) ∧ Aside0 (kq ≤ k) ∧ Aside0 (w'.heap[gb214]? = some (.cells #[(.slice A0_0 l0_0.length c0_0), (.slice A0_1 l0_1.length c0_1)] 28 (0, 0))) ∧ Aside0 (Below w.heap.size w w'))
  case atStart => exact ⟨(0), (0), (by first | rfl | (simp; done) | (simp [*]; done)), (by first | rfl | (simp; done) | (simp [*]; done)), H', ⟨Nat.le_refl _⟩, ⟨kB BK214.out⟩, ⟨by repeat (first | (with_reducible first | exact HB.out | apply below_alloc | apply pw_below_drewN | apply below_drew1 | refine below_set ?_ GE214.out) | exact HB.out)⟩⟩
  case round =>
   clear H'
   try clear c1
   try clear p2
   try clear c3
   try clear hcz5_0
   try clear hcz5_1
   try clear hcz7_0
   try clear hcz7_1
   try clear hfz5_0
   try clear hfz5_1
   try clear hfz7_0
   try clear hfz7_1
   obtain ⟨x3_1, x11_1, rfl, rfl, HA, HK1, BK214, HB⟩ := hrel
   cases gk with
   | zero => exact absurd HA.out (by simp [spec_RightsOk.l0])
   | succ k1 =>
    have H := HA.out
    clear HA
    simp only [spec_RightsOk.l0] at H
    by_cases c8 : x11_1 < (l0_0.length : Int)
    ·rw [if_pos c8] at H
     have c8b0 : decide (x11_1 < (l0_0.length : Int)) = true := decide_eq_true c8
     clear c8
     replace H := Option.bind_eq_some_iff.mp H
     obtain ⟨t216, A90, H⟩ := H
     replace H : (if t216 < 0 then (some false) else (if 0 ≤ x11_1 then (if x11_1 < (l0_0.length : Int) then (if x11_1 < ((rd_L1 l0_0 x11_1).length : Int) then (spec_RightsOk.l0 k1 (wrap64 (x3_1 + (rd (rd_L1 l0_0 x11_1) x11_1))) (l0_0.length : Int) (wrap64 (x11_1 + 1)) l0_0 l0_1) else (none)) else (none)) else (none))) = some r := H
     have A9 := Aside0.mk A90
     clear A90
     by_cases c10 : t216 < 0
     ·rw [if_pos c10] at H
      have c10b0 : decide (t216 < 0) = true := decide_eq_true c10
      clear c10
      obtain rfl := Option.some.inj H
      have hcz11_0 : wr.cell? ⟨gb214, 0, none⟩ = some (.slice A0_0 l0_0.length c0_0) := kx BK214.out
      have hcz11_1 : wr.cell? ⟨gb214, 1, none⟩ = some (.slice A0_1 l0_1.length c0_1) := kx BK214.out
      have hfz11_0 := blk_frozen BK214.out 0
      have hfz11_1 := blk_frozen BK214.out 1
      go_wp2_with (first | ((with_reducible refine gate_callee (f := 40) rfl ?_); refine kG (some 16) Try.func40 #[.agg #[.slice A0_0 l0_0.length c0_0, .slice A0_1 l0_1.length c0_1], .int .i64 x11_1] ?_; (with_reducible refine (spec_l06Has.calls k1 _ _ l0_0 _ _ l0_1 x11_1 t216 _ ?side1 ?side2 ?side3 ?side4 A9.out).mono ?_); (case side1 => exact kC (Kd.C_below HR0_0.out HB.out)); (case side2 => exact HC0_0.out); (case side3 => exact kC (Kd.C_below HR0_1.out HB.out)); (case side4 => exact HC0_1.out); rintro e w12 ⟨rfl, hb⟩; refine ⟨_, rfl, ?_⟩; have n0_ := k0 (kb BK214.out hb); have n1_ := k0 (below_step (kW HB.out) hb); clear BK214; clear HB; have BK214 := n0_; have HB := n1_; clear n0_ n1_; (try clear hb); (try clear hb2); (try clear hk); (try clear hi)))
      go_ret
      exact ⟨by first | rfl | (simp [errW_none, errW_some] <;> rfl) | (simp [*, errW_none, errW_some] <;> rfl), by repeat (first | (with_reducible first | exact HB.out | apply below_alloc | apply pw_below_drewN | apply below_drew1 | refine below_set ?_ GE214.out) | exact HB.out)⟩
     ·rw [if_neg c10] at H
      have c10b0 : decide (t216 < 0) = false := decide_eq_false c10
      clear c10
      by_cases c13 : 0 ≤ x11_1
      ·rw [if_pos c13] at H
       have c13b0 : decide (0 ≤ x11_1) = true := decide_eq_true c13
       clear c13
       by_cases c14 : x11_1 < (l0_0.length : Int)
       ·rw [if_pos c14] at H
        have c14b0 : decide (x11_1 < (l0_0.length : Int)) = true := decide_eq_true c14
        clear c14
        by_cases c15 : x11_1 < ((rd_L1 l0_0 x11_1).length : Int)
        ·rw [if_pos c15] at H
         have c15b0 : decide (x11_1 < ((rd_L1 l0_0 x11_1).length : Int)) = true := decide_eq_true c15
         clear c15
         have H' := Aside0.mk H
         clear H
         have hcz16_0 : wr.cell? ⟨gb214, 0, none⟩ = some (.slice A0_0 l0_0.length c0_0) := kx BK214.out
         have hcz16_1 : wr.cell? ⟨gb214, 1, none⟩ = some (.slice A0_1 l0_1.length c0_1) := kx BK214.out
         have hfz16_0 := blk_frozen BK214.out 0
         have hfz16_1 := blk_frozen BK214.out 1
         go_wp2_with (first | ((with_reducible refine gate_callee (f := 40) rfl ?_); refine kG (some 16) Try.func40 #[.agg #[.slice A0_0 l0_0.length c0_0, .slice A0_1 l0_1.length c0_1], .int .i64 x11_1] ?_; (with_reducible refine (spec_l06Has.calls k1 _ _ l0_0 _ _ l0_1 x11_1 t216 _ ?side1 ?side2 ?side3 ?side4 A9.out).mono ?_); (case side1 => exact kC (Kd.C_below HR0_0.out HB.out)); (case side2 => exact HC0_0.out); (case side3 => exact kC (Kd.C_below HR0_1.out HB.out)); (case side4 => exact HC0_1.out); rintro e w17 ⟨rfl, hb⟩; refine ⟨_, rfl, ?_⟩; have n0_ := k0 (kb BK214.out hb); have n1_ := k0 (below_step (kW HB.out) hb); clear BK214; clear HB; have BK214 := n0_; have HB := n1_; clear n0_ n1_; (try clear hb); (try clear hb2); (try clear hk); (try clear hi); have hcz18_0 : w17.cell? ⟨gb214, 0, none⟩ = some (.slice A0_0 l0_0.length c0_0) := kx BK214.out; have hcz18_1 : w17.cell? ⟨gb214, 1, none⟩ = some (.slice A0_1 l0_1.length c0_1) := kx BK214.out; have hfz18_0 := blk_frozen BK214.out 0; have hfz18_1 := blk_frozen BK214.out 1; have p217 : 0 ≤ (x11_1 : Int) := kD; have q217 : x11_1 < (l0_0.length : Int) := kD; obtain ⟨ad217, A217_0, c217_0, e217, hx217_0, hl217_0, hi217_0⟩ := at_L1 HR0_0.out x11_1 p217 q217; cases e217; replace hx217_0 := (HB.out.cell (World.block_lt_of_cell? w _ hx217_0)).trans hx217_0; have HR217_0 := Aside0.mk hi217_0; have HC217_0 := Aside0.mk hl217_0; clear hi217_0 hl217_0; replace p217 := eq_true p217; replace q217 := eq_true q217; have p218 : 0 ≤ (x11_1 : Int) := kD; have q218 : x11_1 < ((rd_L1 l0_0 x11_1).length : Int) := kD; obtain ⟨ad218, e218, hx218_0⟩ := Kd.at_int HR217_0.out x11_1 p218 q218; cases e218; replace hx218_0 := (HB.out.cell (World.block_lt_of_cell? w _ hx218_0)).trans hx218_0; replace p218 := eq_true p218; replace q218 := eq_true q218))
         go_roundg k1
         case measure => have := HK1.out; omega
         case rel => exact ⟨(wrap64 (x3_1 + (rd (rd_L1 l0_0 x11_1) x11_1))), (wrap64 (x11_1 + 1)), (by first | rfl | (simp; done) | (simp [*]; done)), (by first | rfl | (simp; done) | (simp [*]; done)), H', ⟨by have := HK1.out; omega⟩, ⟨kB BK214.out⟩, ⟨by repeat (first | (with_reducible first | exact HB.out | apply below_alloc | apply pw_below_drewN | apply below_drew1 | refine below_set ?_ GE214.out) | exact HB.out)⟩⟩
        ·rw [if_neg c15] at H
         exact absurd H (by simp)
       ·rw [if_neg c14] at H
        exact absurd H (by simp)
      ·rw [if_neg c13] at H
       exact absurd H (by simp)
    ·rw [if_neg c8] at H
     have c8b0 : decide (x11_1 < (l0_0.length : Int)) = false := decide_eq_false c8
     clear c8
     replace H := Option.bind_eq_some_iff.mp H
     obtain ⟨t219, A190, H⟩ := H
     replace H : (some t219) = some r := H
     have A19 := Aside0.mk A190
     clear A190
     obtain rfl := Option.some.inj H
     go_wp2_with (first | ((with_reducible refine gate_callee (f := 41) rfl ?_); refine kG (some 30) Try.func41 #[.int .i64 x3_1] ?_; (with_reducible refine (spec_l01Num.calls x3_1 t219 _ A19.out).mono ?_); rintro e w' ⟨rfl, ⟨nd, rfl⟩⟩; refine ⟨_, rfl, ?_⟩))
     go_ret
     exact ⟨by first | rfl | (simp [errW_none, errW_some] <;> rfl) | (simp [*, errW_none, errW_some] <;> rfl), by repeat (first | (with_reducible first | exact HB.out | apply below_alloc | apply pw_below_drewN | apply below_drew1 | refine below_set ?_ GE214.out) | exact HB.out)⟩
 ·replace c3 := Bool.eq_false_iff.mpr c3
  subst c3
  have H1 : (some false) = some r := by rw [if_neg (show ¬ (false = true) by decide)] at H; exact H
  clear H
  have H := H1
  clear H1
  obtain rfl := Option.some.inj H
  go_enter Try.func14, Try.ntmps14
  go_wp2_with (first | ((with_reducible refine gate_dst (N := 1) rfl ?_); refine kE (N := 1) (cs := #[.slice A0_0 l0_0.length c0_0, .slice A0_1 l0_1.length c0_1]) (t := 28) ?_; intro gb214 hg w20 hbox hb; have n0_ := k0 (below_step (kW HB.out) hb); have n1_ := k0 (hbox); have n2_ := k0 (kY HB.out hg); have n3_ := k0 (kY HB.out hg); clear HB; have HB := n0_; have BK214 := n1_; have GW214 := n2_; have GE214 := n3_; clear n0_ n1_ n2_ n3_; clear hb hbox hg; have hcz21_0 : w20.cell? ⟨gb214, 0, none⟩ = some (.slice A0_0 l0_0.length c0_0) := kx BK214.out; have hcz21_1 : w20.cell? ⟨gb214, 1, none⟩ = some (.slice A0_1 l0_1.length c0_1) := kx BK214.out; have hfz21_0 := blk_frozen BK214.out 0; have hfz21_1 := blk_frozen BK214.out 1) | ((with_reducible refine gate_callee (f := 39) rfl ?_); refine kG (some 6) Try.func39 #[.agg #[.slice A0_0 l0_0.length c0_0, .slice A0_1 l0_1.length c0_1]] ?_; (with_reducible refine (spec_l06Form.calls k _ _ l0_0 _ _ l0_1 false _ ?side1 ?side2 ?side3 ?side4 A2.out).mono ?_); (case side1 => exact kC (Kd.C_below HR0_0.out HB.out)); (case side2 => exact HC0_0.out); (case side3 => exact kC (Kd.C_below HR0_1.out HB.out)); (case side4 => exact HC0_1.out); rintro e w22 ⟨rfl, hb⟩; refine ⟨_, rfl, ?_⟩; have n0_ := k0 (kb BK214.out hb); have n1_ := k0 (below_step (kW HB.out) hb); clear BK214; clear HB; have BK214 := n0_; have HB := n1_; clear n0_ n1_; (try clear hb); (try clear hb2); (try clear hk); (try clear hi)))
  go_ret
  exact ⟨by first | rfl | (simp [errW_none, errW_some] <;> rfl) | (simp [*, errW_none, errW_some] <;> rfl), by repeat (first | (with_reducible first | exact HB.out | apply below_alloc | apply pw_below_drewN | apply below_drew1 | refine below_set ?_ GE214.out) | exact HB.out)⟩

/-! ### spec_l06Done: function 52 -/
def spec_l06Done.f (k : Nat) (l0_0 : List (List Int)) (l0_1 : List Int) : Option ((List (List Int)) × List Int × Bool) := (spec_RightsOk.f k l0_0 l0_1).bind fun t222 => (if t222 = true then (some (l0_0, l0_1, true)) else (some (([] : List (List Int)), ([] : List Int), false)))
theorem spec_l06Done.mono : ∀ a0 a1 k, LeO (spec_l06Done.f k a0 a1) (spec_l06Done.f (k + 1) a0 a1) := by
 intro a0 a1 k
 unfold spec_l06Done.f
 repeat' first
   | (with_reducible exact spec_RightsOk.mono _ _ _)
   | (with_reducible exact LeO.refl _)
   | (with_reducible exact LeO.none _)
   | (with_reducible refine LeO.ite ?_ ?_)
   | (with_reducible refine LeO.bind ?_ (fun _ => ?_))
   | exact spec_RightsOk.mono _ _ _
   | exact LeO.none _
   | refine LeO.ite ?_ ?_
   | refine LeO.bind ?_ (fun _ => ?_)
set_option maxHeartbeats 8000000 in
set_option maxRecDepth 100000 in
theorem spec_l06Done.calls (k : Nat) (P0_0_ : Nat → Prop) (A0_0 : Option Addr) (c0_0 : Nat) (l0_0 : List (List Int)) (P0_1_ : Nat → Prop) (u9000_ : Value) (l0_1 : List Int) (r1 : List (List Int)) (r2 : List Int) (r3 : Bool) (w0 w : World) (hB : Below w0.heap.size w0 w) (hs0_0 : Kd.V (Kd.slice 3 (Kd.int .i64)) 23 w w0.heap.size (fun k_ => P0_0_ k_ ∧ some k_ ≠ (u9000_ : Value).ownBlock) (.slice A0_0 l0_0.length c0_0) l0_0) (ho0_1 : Kd.R (Kd.int .i64) 3 w w0.heap.size P0_1_ u9000_ l0_1) (h : spec_l06Done.f k l0_0 l0_1 = some (r1, r2, r3)) :
  Calls Try.prog 52 #[.agg #[.slice A0_0 l0_0.length c0_0, u9000_]] w fun e w' => ∃ v0_ v1_ : Value, e = .returned (.tuple #[.agg #[v0_, v1_], .bool r3]) ∧ Kd.V (Kd.slice 3 (Kd.int .i64)) 23 w' w0.heap.size (fun k_ => ((P0_1_ k_ ∨ P0_0_ k_) ∨ w.heap.size ≤ k_) ∧ some k_ ≠ (v1_ : Value).ownBlock) v0_ r1 ∧ Kd.R (Kd.int .i64) 3 w' w0.heap.size (fun k_ => (P0_1_ k_ ∨ w.heap.size ≤ k_)) v1_ r2 ∧ Below w0.heap.size w0 w' ∧ Kept w w' (fun k_ => P0_1_ k_) := by
 have hu28 := Try.underlying28
 have HO0_0 := k0 (show Kd.V (Kd.slice 3 (Kd.int .i64)) 23 w w0.heap.size (fun k_ => ((P0_1_ k_ ∨ P0_0_ k_) ∨ w.heap.size ≤ k_) ∧ some k_ ≠ (u9000_ : Value).ownBlock) (.slice A0_0 l0_0.length c0_0) l0_0 from Kd.V_mono hs0_0 (fun k_ hk => ⟨.inl (.inr hk.1), hk.2⟩))
 have HO0_1 := k0 (show Kd.R (Kd.int .i64) 3 w w0.heap.size (fun k_ => (P0_1_ k_ ∨ w.heap.size ≤ k_)) u9000_ l0_1 from Kd.R_mono ho0_1 (fun k_ hk => (.inl hk)))
 have HK := k0 (Kept.refl w (fun k_ => P0_1_ k_))
 have HW0 := Aside0.mk hB.size
 have HB := Aside0.mk hB
 clear hB
 have H : ((spec_RightsOk.f k l0_0 l0_1).bind fun t222 => (if t222 = true then (some (l0_0, l0_1, true)) else (some (([] : List (List Int)), ([] : List Int), false)))) = some (r1, r2, r3) := h
 clear h
 replace H := Option.bind_eq_some_iff.mp H
 obtain ⟨t222, A20, H⟩ := H
 replace H : (if t222 = true then (some (l0_0, l0_1, true)) else (some (([] : List (List Int)), ([] : List Int), false))) = some (r1, r2, r3) := H
 have A2 := Aside0.mk A20
 clear A20
 by_cases c3 : t222 = true
 ·subst c3
  have H1 : (some (l0_0, l0_1, true)) = some (r1, r2, r3) := by rw [if_pos rfl] at H; exact H
  clear H
  have H := H1
  clear H1
  simp only [Option.some.injEq, Prod.mk.injEq] at H
  obtain ⟨rfl, rfl, rfl⟩ := H
  obtain ⟨Ao4, co4, eo4⟩ := Kd.R_slice HO0_1.out
  subst eo4
  go_enter Try.func52, Try.ntmps52
  go_wp2_with (first | ((with_reducible refine gate_dst (N := 1) rfl ?_); refine kE (N := 1) (cs := #[.slice A0_0 l0_0.length c0_0, .slice Ao4 l0_1.length co4]) (t := 28) ?_; intro gb220 hg w5 hbox hb; have n0_ := k0 (Kd.R_below (kR HO0_1.out) hb); have n1_ := k0 (Kd.V_below (Kd.V_elderB (kV HO0_0.out) gb220 (Nat.le_of_eq hg.symm)) hb); have n2_ := k0 (Kept.below (S := (fun k_ => P0_1_ k_)) (by repeat (first | (with_reducible first | exact HK.out | apply Kept.alloc | apply Kept.drewN | apply Kept.drew) | exact HK.out)) hb); have n3_ := k0 (below_step (kW HB.out) hb); have n4_ := k0 (hbox); have n5_ := k0 ((by rw [hg]; exact (by first | exact HK.out.1 | exact (show Kept w _ (fun k_ => P0_1_ k_) from by repeat (first | (with_reducible first | exact HK.out | apply Kept.alloc | apply Kept.drewN | apply Kept.drew) | exact HK.out)).1) : w.heap.size ≤ gb220)); have n6_ := k0 (kY HB.out hg); clear HO0_1; clear HO0_0; clear HK; clear HB; have HO0_1 := n0_; have HO0_0 := n1_; have HK := n2_; have HB := n3_; have BK220 := n4_; have GW220 := n5_; have GE220 := n6_; clear n0_ n1_ n2_ n3_ n4_ n5_ n6_; clear hb hbox hg) | ((with_reducible refine gate_dst (N := 2) rfl ?_); refine kE (N := 2) (cs := #[.slice none 0 0, .slice none 0 0]) (t := 28) ?_; intro gb221 hg w6 hbox hb; have n0_ := k0 (Kd.R_below (kR HO0_1.out) hb); have n1_ := k0 (Kd.V_below (Kd.V_elderB (kV HO0_0.out) gb221 (Nat.le_of_eq hg.symm)) hb); have n2_ := k0 (kb BK220.out hb); have n3_ := k0 (Kept.below (S := (fun k_ => P0_1_ k_)) (by repeat (first | (with_reducible first | exact HK.out | apply Kept.alloc | apply Kept.drewN | apply Kept.drew | refine Kept.setCell ?_ (.inr GW220.out) _) | exact HK.out)) hb); have n4_ := k0 (below_step (kW HB.out) hb); have n5_ := k0 (hbox); have n6_ := k0 ((by rw [hg]; exact (by first | exact HK.out.1 | exact (show Kept w _ (fun k_ => P0_1_ k_) from by repeat (first | (with_reducible first | exact HK.out | apply Kept.alloc | apply Kept.drewN | apply Kept.drew | refine Kept.setCell ?_ (.inr GW220.out) _) | exact HK.out)).1) : w.heap.size ≤ gb221)); have n7_ := k0 (kY HB.out hg); have n8_ := k0 ((by rw [hg]; exact Nat.ne_of_lt (blk_lt (g := gb220) (o := .cells #[.slice A0_0 l0_0.length c0_0, .slice Ao4 l0_1.length co4] 28 (0, 0)) (kB BK220.out)) : gb220 ≠ gb221)); have n9_ := k0 ((by rw [hg]; exact Nat.ne_of_gt (blk_lt (g := gb220) (o := .cells #[.slice A0_0 l0_0.length c0_0, .slice Ao4 l0_1.length co4] 28 (0, 0)) (kB BK220.out)) : gb221 ≠ gb220)); clear HO0_1; clear HO0_0; clear BK220; clear HK; clear HB; have HO0_1 := n0_; have HO0_0 := n1_; have BK220 := n2_; have HK := n3_; have HB := n4_; have BK221 := n5_; have GW221 := n6_; have GE221 := n7_; have NB220_221 := n8_; have NB221_220 := n9_; clear n0_ n1_ n2_ n3_ n4_ n5_ n6_ n7_ n8_ n9_; clear hb hbox hg; have hnb7 := NB220_221.out; have hnc7 := NB221_220.out; have hcz8_0 : w6.cell? ⟨gb220, 0, none⟩ = some (.slice A0_0 l0_0.length c0_0) := kx BK220.out; have hcz8_1 : w6.cell? ⟨gb220, 1, none⟩ = some (.slice Ao4 l0_1.length co4) := kx BK220.out; have hfz8_0 := blk_frozen BK220.out 0; have hfz8_1 := blk_frozen BK220.out 1) | ((with_reducible refine gate_callee (f := 14) rfl ?_); refine kG (some 5) Try.func14 #[.agg #[.slice A0_0 l0_0.length c0_0, .slice Ao4 l0_1.length co4]] ?_; (with_reducible refine (spec_RightsOk.calls k _ _ l0_0 _ _ l0_1 true _ ?side1 ?side2 ?side3 ?side4 A2.out).mono ?_); (case side1 => exact kC (Kd.V_reads' HO0_0.out).2.2); (case side2 => exact (Kd.V_reads' HO0_0.out).2.1); (case side3 => exact kC (Kd.R_reads' HO0_1.out).2.2); (case side4 => exact (Kd.R_reads' HO0_1.out).2.1); rintro e w9 ⟨rfl, hb⟩; refine ⟨_, rfl, ?_⟩; have n0_ := k0 (Kd.R_below (kR HO0_1.out) hb); have n1_ := k0 (Kd.V_below (kV HO0_0.out) hb); have n2_ := k0 (kb BK220.out hb); have n3_ := k0 (kb BK221.out hb); have n4_ := k0 (Kept.below (S := (fun k_ => P0_1_ k_)) (by repeat (first | (with_reducible first | exact HK.out | apply Kept.alloc | apply Kept.drewN | apply Kept.drew | refine Kept.setCell ?_ (.inr GW220.out) _ | refine Kept.setCell ?_ (.inr GW221.out) _) | exact HK.out)) hb); have n5_ := k0 (below_step (kW HB.out) hb); clear HO0_1; clear HO0_0; clear BK220; clear BK221; clear HK; clear HB; have HO0_1 := n0_; have HO0_0 := n1_; have BK220 := n2_; have BK221 := n3_; have HK := n4_; have HB := n5_; clear n0_ n1_ n2_ n3_ n4_ n5_; (try clear hb); (try clear hb2); (try clear hk); (try clear hi); have hcz10_0 : w9.cell? ⟨gb220, 0, none⟩ = some (.slice A0_0 l0_0.length c0_0) := kx BK220.out; have hcz10_1 : w9.cell? ⟨gb220, 1, none⟩ = some (.slice Ao4 l0_1.length co4) := kx BK220.out; have hfz10_0 := blk_frozen BK220.out 0; have hfz10_1 := blk_frozen BK220.out 1; have hcz11_0 : w9.cell? ⟨gb221, 0, none⟩ = some (.slice none 0 0) := kx BK221.out; have hcz11_1 : w9.cell? ⟨gb221, 1, none⟩ = some (.slice none 0 0) := kx BK221.out; have hfz11_0 := blk_frozen BK221.out 0; have hfz11_1 := blk_frozen BK221.out 1))
  refine bodyPost_ret (results_ct rfl _ _ gb221 28 #[.slice A0_0 l0_0.length c0_0, .slice Ao4 l0_1.length co4] (0, 0) _ rfl (by (with_reducible repeat first | apply k1 | apply k2 | apply k3); refine blk_put (cs := #[.slice A0_0 l0_0.length c0_0, .slice none 0 0]) ?_ 1 _ rfl; (with_reducible repeat first | apply k1 | apply k2 | apply k3); refine blk_put (cs := #[.slice none 0 0, .slice none 0 0]) ?_ 0 _ rfl; (with_reducible repeat first | apply k1 | apply k2 | apply k3); exact BK221.out) Try.underlying28 rfl (by kernel_rfl)) rfl ?_
  exact ⟨_, _, by first | rfl | (simp [errW_none, errW_some] <;> rfl) | (simp [*, errW_none, errW_some] <;> rfl), by (with_reducible repeat (first | apply Kd.V_alloc | apply Kd.V_drewN | apply Kd.V_drew)); exact Kd.V_mono (Kd.V_far (p := ⟨gb221, 1, none⟩) (Kd.V_far (p := ⟨gb221, 0, none⟩) (Kd.V_mono HO0_0.out (fun k_ hk => (⟨hk, hk.2⟩ : _ ∧ k_ ≠ gb221))) (fun _ hk => hk.2) (.slice A0_0 l0_0.length c0_0)) (fun _ hk => hk.2) (.slice Ao4 l0_1.length co4)) (fun _ hk => ⟨hk.1.1.1.1, hk.1.1.1.2⟩), by (with_reducible repeat (first | apply Kd.R_alloc | apply Kd.R_drewN | apply Kd.R_drew)); exact Kd.R_mono (Kd.R_far (p := ⟨gb221, 1, none⟩) (Kd.R_far (p := ⟨gb221, 0, none⟩) (Kd.R_types HO0_1.out BK221.out (by decide)) (fun _ hk => hk.2) (.slice A0_0 l0_0.length c0_0)) (fun _ hk => hk.2) (.slice Ao4 l0_1.length co4)) (fun _ hk => hk.1), by repeat (first | (with_reducible first | exact HB.out | apply below_alloc | apply pw_below_drewN | apply below_drew1 | refine below_set ?_ GE220.out | refine below_set ?_ GE221.out) | exact HB.out), by repeat (first | (with_reducible first | exact HK.out | apply Kept.alloc | apply Kept.drewN | apply Kept.drew | refine Kept.setCell ?_ (.inr GW220.out) _ | refine Kept.setCell ?_ (.inr GW221.out) _) | exact HK.out)⟩
 ·replace c3 := Bool.eq_false_iff.mpr c3
  subst c3
  have H1 : (some (([] : List (List Int)), ([] : List Int), false)) = some (r1, r2, r3) := by rw [if_neg (show ¬ (false = true) by decide)] at H; exact H
  clear H
  have H := H1
  clear H1
  simp only [Option.some.injEq, Prod.mk.injEq] at H
  obtain ⟨rfl, rfl, rfl⟩ := H
  obtain ⟨Ao12, co12, eo12⟩ := Kd.R_slice HO0_1.out
  subst eo12
  go_enter Try.func52, Try.ntmps52
  go_wp2_with (first | ((with_reducible refine gate_dst (N := 1) rfl ?_); refine kE (N := 1) (cs := #[.slice A0_0 l0_0.length c0_0, .slice Ao12 l0_1.length co12]) (t := 28) ?_; intro gb220 hg w13 hbox hb; have n0_ := k0 (Kd.R_below (kR HO0_1.out) hb); have n1_ := k0 (Kd.V_below (Kd.V_elderB (kV HO0_0.out) gb220 (Nat.le_of_eq hg.symm)) hb); have n2_ := k0 (Kept.below (S := (fun k_ => P0_1_ k_)) (by repeat (first | (with_reducible first | exact HK.out | apply Kept.alloc | apply Kept.drewN | apply Kept.drew) | exact HK.out)) hb); have n3_ := k0 (below_step (kW HB.out) hb); have n4_ := k0 (hbox); have n5_ := k0 ((by rw [hg]; exact (by first | exact HK.out.1 | exact (show Kept w _ (fun k_ => P0_1_ k_) from by repeat (first | (with_reducible first | exact HK.out | apply Kept.alloc | apply Kept.drewN | apply Kept.drew) | exact HK.out)).1) : w.heap.size ≤ gb220)); have n6_ := k0 (kY HB.out hg); clear HO0_1; clear HO0_0; clear HK; clear HB; have HO0_1 := n0_; have HO0_0 := n1_; have HK := n2_; have HB := n3_; have BK220 := n4_; have GW220 := n5_; have GE220 := n6_; clear n0_ n1_ n2_ n3_ n4_ n5_ n6_; clear hb hbox hg) | ((with_reducible refine gate_dst (N := 2) rfl ?_); refine kE (N := 2) (cs := #[.slice none 0 0, .slice none 0 0]) (t := 28) ?_; intro gb221 hg w14 hbox hb; have n0_ := k0 (Kd.R_below (kR HO0_1.out) hb); have n1_ := k0 (Kd.V_below (Kd.V_elderB (kV HO0_0.out) gb221 (Nat.le_of_eq hg.symm)) hb); have n2_ := k0 (kb BK220.out hb); have n3_ := k0 (Kept.below (S := (fun k_ => P0_1_ k_)) (by repeat (first | (with_reducible first | exact HK.out | apply Kept.alloc | apply Kept.drewN | apply Kept.drew | refine Kept.setCell ?_ (.inr GW220.out) _) | exact HK.out)) hb); have n4_ := k0 (below_step (kW HB.out) hb); have n5_ := k0 (hbox); have n6_ := k0 ((by rw [hg]; exact (by first | exact HK.out.1 | exact (show Kept w _ (fun k_ => P0_1_ k_) from by repeat (first | (with_reducible first | exact HK.out | apply Kept.alloc | apply Kept.drewN | apply Kept.drew | refine Kept.setCell ?_ (.inr GW220.out) _) | exact HK.out)).1) : w.heap.size ≤ gb221)); have n7_ := k0 (kY HB.out hg); have n8_ := k0 ((by rw [hg]; exact Nat.ne_of_lt (blk_lt (g := gb220) (o := .cells #[.slice A0_0 l0_0.length c0_0, .slice Ao12 l0_1.length co12] 28 (0, 0)) (kB BK220.out)) : gb220 ≠ gb221)); have n9_ := k0 ((by rw [hg]; exact Nat.ne_of_gt (blk_lt (g := gb220) (o := .cells #[.slice A0_0 l0_0.length c0_0, .slice Ao12 l0_1.length co12] 28 (0, 0)) (kB BK220.out)) : gb221 ≠ gb220)); clear HO0_1; clear HO0_0; clear BK220; clear HK; clear HB; have HO0_1 := n0_; have HO0_0 := n1_; have BK220 := n2_; have HK := n3_; have HB := n4_; have BK221 := n5_; have GW221 := n6_; have GE221 := n7_; have NB220_221 := n8_; have NB221_220 := n9_; clear n0_ n1_ n2_ n3_ n4_ n5_ n6_ n7_ n8_ n9_; clear hb hbox hg; have hnb15 := NB220_221.out; have hnc15 := NB221_220.out; have hcz16_0 : w14.cell? ⟨gb220, 0, none⟩ = some (.slice A0_0 l0_0.length c0_0) := kx BK220.out; have hcz16_1 : w14.cell? ⟨gb220, 1, none⟩ = some (.slice Ao12 l0_1.length co12) := kx BK220.out; have hfz16_0 := blk_frozen BK220.out 0; have hfz16_1 := blk_frozen BK220.out 1) | ((with_reducible refine gate_callee (f := 14) rfl ?_); refine kG (some 5) Try.func14 #[.agg #[.slice A0_0 l0_0.length c0_0, .slice Ao12 l0_1.length co12]] ?_; (with_reducible refine (spec_RightsOk.calls k _ _ l0_0 _ _ l0_1 false _ ?side1 ?side2 ?side3 ?side4 A2.out).mono ?_); (case side1 => exact kC (Kd.V_reads' HO0_0.out).2.2); (case side2 => exact (Kd.V_reads' HO0_0.out).2.1); (case side3 => exact kC (Kd.R_reads' HO0_1.out).2.2); (case side4 => exact (Kd.R_reads' HO0_1.out).2.1); rintro e w17 ⟨rfl, hb⟩; refine ⟨_, rfl, ?_⟩; have n0_ := k0 (Kd.R_below (kR HO0_1.out) hb); have n1_ := k0 (Kd.V_below (kV HO0_0.out) hb); have n2_ := k0 (kb BK220.out hb); have n3_ := k0 (kb BK221.out hb); have n4_ := k0 (Kept.below (S := (fun k_ => P0_1_ k_)) (by repeat (first | (with_reducible first | exact HK.out | apply Kept.alloc | apply Kept.drewN | apply Kept.drew | refine Kept.setCell ?_ (.inr GW220.out) _ | refine Kept.setCell ?_ (.inr GW221.out) _) | exact HK.out)) hb); have n5_ := k0 (below_step (kW HB.out) hb); clear HO0_1; clear HO0_0; clear BK220; clear BK221; clear HK; clear HB; have HO0_1 := n0_; have HO0_0 := n1_; have BK220 := n2_; have BK221 := n3_; have HK := n4_; have HB := n5_; clear n0_ n1_ n2_ n3_ n4_ n5_; (try clear hb); (try clear hb2); (try clear hk); (try clear hi); have hcz18_0 : w17.cell? ⟨gb221, 0, none⟩ = some (.slice none 0 0) := kx BK221.out; have hcz18_1 : w17.cell? ⟨gb221, 1, none⟩ = some (.slice none 0 0) := kx BK221.out; have hfz18_0 := blk_frozen BK221.out 0; have hfz18_1 := blk_frozen BK221.out 1))
  refine bodyPost_ret (results_ct rfl _ _ gb221 28 #[.slice none 0 0, .slice none 0 0] (0, 0) _ rfl (by (with_reducible repeat first | apply k1 | apply k2 | apply k3); refine blk_put (cs := #[.slice none 0 0, .slice none 0 0]) ?_ 1 _ rfl; (with_reducible repeat first | apply k1 | apply k2 | apply k3); refine blk_put (cs := #[.slice none 0 0, .slice none 0 0]) ?_ 0 _ rfl; (with_reducible repeat first | apply k1 | apply k2 | apply k3); exact BK221.out) Try.underlying28 rfl (by kernel_rfl)) rfl ?_
  exact ⟨_, _, by first | rfl | (simp [errW_none, errW_some] <;> rfl) | (simp [*, errW_none, errW_some] <;> rfl), Kd.V_nil _ _ _ _ _, by first | exact Kd.R_nil _ _ _ _ _ | exact Kd.N_nil _ _ _ _ _ | exact Kd.V_nil _ _ _ _ _ | exact Kd.Q_nil _ _ _ _ _ | exact Kd.S_nil _ _ _ _ _, by repeat (first | (with_reducible first | exact HB.out | apply below_alloc | apply pw_below_drewN | apply below_drew1 | refine below_set ?_ GE220.out | refine below_set ?_ GE221.out) | exact HB.out), by repeat (first | (with_reducible first | exact HK.out | apply Kept.alloc | apply Kept.drewN | apply Kept.drew | refine Kept.setCell ?_ (.inr GW220.out) _ | refine Kept.setCell ?_ (.inr GW221.out) _) | exact HK.out)⟩

/-! ### spec_IsAmt: function 68 -/
def spec_IsAmt.f (a0 : Int) : Option (Bool) := (spec_l01In.f a0 1 1000000000).bind fun t223 => (some t223)
set_option maxHeartbeats 8000000 in
set_option maxRecDepth 100000 in
theorem spec_IsAmt.calls (a0 : Int) (r : Bool) (w : World) (h : spec_IsAmt.f a0 = some r) :
  Calls Try.prog 68 #[.int .i64 a0] w fun e w' => e = .returned (.bool r) ∧ Drawn0 w w' := by
 have H : ((spec_l01In.f a0 1 1000000000).bind fun t223 => (some t223)) = some r := h
 clear h
 replace H := Option.bind_eq_some_iff.mp H
 obtain ⟨t223, A20, H⟩ := H
 replace H : (some t223) = some r := H
 have A2 := Aside0.mk A20
 clear A20
 obtain rfl := Option.some.inj H
 go_enter Try.func68, Try.ntmps68
 go_wp2_with (first | ((with_reducible refine gate_callee (f := 49) rfl ?_); refine kG (some 4) Try.func49 #[.int .i64 a0, .int .i64 1, .int .i64 1000000000] ?_; (with_reducible refine (spec_l01In.calls a0 1 1000000000 t223 _ A2.out).mono ?_); rintro e w' ⟨rfl, ⟨nd, rfl⟩⟩; refine ⟨_, rfl, ?_⟩))
 go_ret
 exact ⟨by first | rfl | (simp; done) | (simp [*]; done), by repeat (first | exact Drawn0.refl _ | apply Drawn0.step)⟩

/-! ### spec_l06May: function 58 -/
def spec_l06May.f (k : Nat) (l0_0 : List (List Int)) (l0_1 : List Int) (a1 : Int) (a2 : Int) : Option (Bool) := (spec_RightsOk.f k l0_0 l0_1).bind fun t225 => (if t225 = true then ((spec_l01In.f a1 0 (wrap64 ((l0_0.length : Int) - 1))).bind fun t226 => (if t226 = true then ((spec_IsAmt.f a2).bind fun t227 => (some t227)) else (some false))) else (some false))
theorem spec_l06May.mono : ∀ a0 a1 a2 a3 k, LeO (spec_l06May.f k a0 a1 a2 a3) (spec_l06May.f (k + 1) a0 a1 a2 a3) := by
 intro a0 a1 a2 a3 k
 unfold spec_l06May.f
 repeat' first
   | (with_reducible exact spec_RightsOk.mono _ _ _)
   | (with_reducible exact LeO.refl _)
   | (with_reducible exact LeO.none _)
   | (with_reducible refine LeO.ite ?_ ?_)
   | (with_reducible refine LeO.bind ?_ (fun _ => ?_))
   | exact spec_RightsOk.mono _ _ _
   | exact LeO.none _
   | refine LeO.ite ?_ ?_
   | refine LeO.bind ?_ (fun _ => ?_)
set_option maxHeartbeats 8000000 in
set_option maxRecDepth 100000 in
theorem spec_l06May.calls (k : Nat) (A0_0 : Option Addr) (c0_0 : Nat) (l0_0 : List (List Int)) (A0_1 : Option Addr) (c0_1 : Nat) (l0_1 : List Int) (a1 : Int) (a2 : Int) (r : Bool) (w : World) (hr0_0 : Kd.C (Kd.slice 3 (Kd.int .i64)) w A0_0 l0_0.length l0_0) (hc0_0 : l0_0.length ≤ c0_0) (hr0_1 : Kd.C (Kd.int .i64) w A0_1 l0_1.length l0_1) (hc0_1 : l0_1.length ≤ c0_1) (h : spec_l06May.f k l0_0 l0_1 a1 a2 = some r) :
  Calls Try.prog 58 #[.agg #[.slice A0_0 l0_0.length c0_0, .slice A0_1 l0_1.length c0_1], .int .i64 a1, .int .i64 a2] w fun e w' => e = .returned (.bool r) ∧ Below w.heap.size w w' := by
 have hu28 := Try.underlying28
 have HR0_0 := Aside0.mk hr0_0
 have HC0_0 := Aside0.mk hc0_0
 clear hr0_0 hc0_0
 have HR0_1 := Aside0.mk hr0_1
 have HC0_1 := Aside0.mk hc0_1
 clear hr0_1 hc0_1
 have HB := k0 (Below.refl w.heap.size w)
 have H : ((spec_RightsOk.f k l0_0 l0_1).bind fun t225 => (if t225 = true then ((spec_l01In.f a1 0 (wrap64 ((l0_0.length : Int) - 1))).bind fun t226 => (if t226 = true then ((spec_IsAmt.f a2).bind fun t227 => (some t227)) else (some false))) else (some false))) = some r := h
 clear h
 replace H := Option.bind_eq_some_iff.mp H
 obtain ⟨t225, A40, H⟩ := H
 replace H : (if t225 = true then ((spec_l01In.f a1 0 (wrap64 ((l0_0.length : Int) - 1))).bind fun t226 => (if t226 = true then ((spec_IsAmt.f a2).bind fun t227 => (some t227)) else (some false))) else (some false)) = some r := H
 have A4 := Aside0.mk A40
 clear A40
 by_cases c5 : t225 = true
 ·subst c5
  have H1 : ((spec_l01In.f a1 0 (wrap64 ((l0_0.length : Int) - 1))).bind fun t226 => (if t226 = true then ((spec_IsAmt.f a2).bind fun t227 => (some t227)) else (some false))) = some r := by rw [if_pos rfl] at H; exact H
  clear H
  have H := H1
  clear H1
  replace H := Option.bind_eq_some_iff.mp H
  obtain ⟨t226, A60, H⟩ := H
  replace H : (if t226 = true then ((spec_IsAmt.f a2).bind fun t227 => (some t227)) else (some false)) = some r := H
  have A6 := Aside0.mk A60
  clear A60
  by_cases c7 : t226 = true
  ·subst c7
   have H1 : ((spec_IsAmt.f a2).bind fun t227 => (some t227)) = some r := by rw [if_pos rfl] at H; exact H
   clear H
   have H := H1
   clear H1
   replace H := Option.bind_eq_some_iff.mp H
   obtain ⟨t227, A80, H⟩ := H
   replace H : (some t227) = some r := H
   have A8 := Aside0.mk A80
   clear A80
   obtain rfl := Option.some.inj H
   go_enter Try.func58, Try.ntmps58
   go_wp2_with (first | ((with_reducible refine gate_dst (N := 3) rfl ?_); (try (refine gate_guard (by rfl) ?_; dsimp only)); refine kE (N := 3) (cs := #[.slice A0_0 l0_0.length c0_0, .slice A0_1 l0_1.length c0_1]) (t := 28) ?_; intro gb224 hg w9 hbox hb; have n0_ := k0 (below_step (kW HB.out) hb); have n1_ := k0 (hbox); have n2_ := k0 (kY HB.out hg); have n3_ := k0 (kY HB.out hg); clear HB; have HB := n0_; have BK224 := n1_; have GW224 := n2_; have GE224 := n3_; clear n0_ n1_ n2_ n3_; clear hb hbox hg; have hcz10_0 : w9.cell? ⟨gb224, 0, none⟩ = some (.slice A0_0 l0_0.length c0_0) := kx BK224.out; have hcz10_1 : w9.cell? ⟨gb224, 1, none⟩ = some (.slice A0_1 l0_1.length c0_1) := kx BK224.out; have hfz10_0 := blk_frozen BK224.out 0; have hfz10_1 := blk_frozen BK224.out 1) | ((with_reducible refine gate_callee (f := 14) rfl ?_); refine kG (some 8) Try.func14 #[.agg #[.slice A0_0 l0_0.length c0_0, .slice A0_1 l0_1.length c0_1]] ?_; (with_reducible refine (spec_RightsOk.calls k _ _ l0_0 _ _ l0_1 true _ ?side1 ?side2 ?side3 ?side4 A4.out).mono ?_); (case side1 => exact kC (Kd.C_below HR0_0.out HB.out)); (case side2 => exact HC0_0.out); (case side3 => exact kC (Kd.C_below HR0_1.out HB.out)); (case side4 => exact HC0_1.out); rintro e w11 ⟨rfl, hb⟩; refine ⟨_, rfl, ?_⟩; have n0_ := k0 (kb BK224.out hb); have n1_ := k0 (below_step (kW HB.out) hb); clear BK224; clear HB; have BK224 := n0_; have HB := n1_; clear n0_ n1_; (try clear hb); (try clear hb2); (try clear hk); (try clear hi); have hcz12_0 : w11.cell? ⟨gb224, 0, none⟩ = some (.slice A0_0 l0_0.length c0_0) := kx BK224.out; have hcz12_1 : w11.cell? ⟨gb224, 1, none⟩ = some (.slice A0_1 l0_1.length c0_1) := kx BK224.out; have hfz12_0 := blk_frozen BK224.out 0; have hfz12_1 := blk_frozen BK224.out 1) | (go_at_call 49; (with_reducible refine (spec_l01In.calls a1 0 (wrap64 ((l0_0.length : Int) - 1)) true _ A6.out).mono ?_); rintro e w' ⟨rfl, ⟨nd, rfl⟩⟩) | (go_at_call 68; (with_reducible refine (spec_IsAmt.calls a2 t227 _ A8.out).mono ?_); rintro e w' ⟨rfl, ⟨nd, rfl⟩⟩))
   go_ret
   exact ⟨by first | rfl | (simp [errW_none, errW_some] <;> rfl) | (simp [*, errW_none, errW_some] <;> rfl), by repeat (first | (with_reducible first | exact HB.out | apply below_alloc | apply pw_below_drewN | apply below_drew1 | refine below_set ?_ GE224.out) | exact HB.out)⟩
  ·replace c7 := Bool.eq_false_iff.mpr c7
   subst c7
   have H1 : (some false) = some r := by rw [if_neg (show ¬ (false = true) by decide)] at H; exact H
   clear H
   have H := H1
   clear H1
   obtain rfl := Option.some.inj H
   go_enter Try.func58, Try.ntmps58
   go_wp2_with (first | ((with_reducible refine gate_dst (N := 3) rfl ?_); (try (refine gate_guard (by rfl) ?_; dsimp only)); refine kE (N := 3) (cs := #[.slice A0_0 l0_0.length c0_0, .slice A0_1 l0_1.length c0_1]) (t := 28) ?_; intro gb224 hg w13 hbox hb; have n0_ := k0 (below_step (kW HB.out) hb); have n1_ := k0 (hbox); have n2_ := k0 (kY HB.out hg); have n3_ := k0 (kY HB.out hg); clear HB; have HB := n0_; have BK224 := n1_; have GW224 := n2_; have GE224 := n3_; clear n0_ n1_ n2_ n3_; clear hb hbox hg; have hcz14_0 : w13.cell? ⟨gb224, 0, none⟩ = some (.slice A0_0 l0_0.length c0_0) := kx BK224.out; have hcz14_1 : w13.cell? ⟨gb224, 1, none⟩ = some (.slice A0_1 l0_1.length c0_1) := kx BK224.out; have hfz14_0 := blk_frozen BK224.out 0; have hfz14_1 := blk_frozen BK224.out 1) | ((with_reducible refine gate_callee (f := 14) rfl ?_); refine kG (some 8) Try.func14 #[.agg #[.slice A0_0 l0_0.length c0_0, .slice A0_1 l0_1.length c0_1]] ?_; (with_reducible refine (spec_RightsOk.calls k _ _ l0_0 _ _ l0_1 true _ ?side1 ?side2 ?side3 ?side4 A4.out).mono ?_); (case side1 => exact kC (Kd.C_below HR0_0.out HB.out)); (case side2 => exact HC0_0.out); (case side3 => exact kC (Kd.C_below HR0_1.out HB.out)); (case side4 => exact HC0_1.out); rintro e w15 ⟨rfl, hb⟩; refine ⟨_, rfl, ?_⟩; have n0_ := k0 (kb BK224.out hb); have n1_ := k0 (below_step (kW HB.out) hb); clear BK224; clear HB; have BK224 := n0_; have HB := n1_; clear n0_ n1_; (try clear hb); (try clear hb2); (try clear hk); (try clear hi); have hcz16_0 : w15.cell? ⟨gb224, 0, none⟩ = some (.slice A0_0 l0_0.length c0_0) := kx BK224.out; have hcz16_1 : w15.cell? ⟨gb224, 1, none⟩ = some (.slice A0_1 l0_1.length c0_1) := kx BK224.out; have hfz16_0 := blk_frozen BK224.out 0; have hfz16_1 := blk_frozen BK224.out 1) | (go_at_call 49; (with_reducible refine (spec_l01In.calls a1 0 (wrap64 ((l0_0.length : Int) - 1)) false _ A6.out).mono ?_); rintro e w' ⟨rfl, ⟨nd, rfl⟩⟩))
   go_ret
   exact ⟨by first | rfl | (simp [errW_none, errW_some] <;> rfl) | (simp [*, errW_none, errW_some] <;> rfl), by repeat (first | (with_reducible first | exact HB.out | apply below_alloc | apply pw_below_drewN | apply below_drew1 | refine below_set ?_ GE224.out) | exact HB.out)⟩
 ·replace c5 := Bool.eq_false_iff.mpr c5
  subst c5
  have H1 : (some false) = some r := by rw [if_neg (show ¬ (false = true) by decide)] at H; exact H
  clear H
  have H := H1
  clear H1
  obtain rfl := Option.some.inj H
  go_enter Try.func58, Try.ntmps58
  go_wp2_with (first | ((with_reducible refine gate_dst (N := 3) rfl ?_); (try (refine gate_guard (by rfl) ?_; dsimp only)); refine kE (N := 3) (cs := #[.slice A0_0 l0_0.length c0_0, .slice A0_1 l0_1.length c0_1]) (t := 28) ?_; intro gb224 hg w17 hbox hb; have n0_ := k0 (below_step (kW HB.out) hb); have n1_ := k0 (hbox); have n2_ := k0 (kY HB.out hg); have n3_ := k0 (kY HB.out hg); clear HB; have HB := n0_; have BK224 := n1_; have GW224 := n2_; have GE224 := n3_; clear n0_ n1_ n2_ n3_; clear hb hbox hg; have hcz18_0 : w17.cell? ⟨gb224, 0, none⟩ = some (.slice A0_0 l0_0.length c0_0) := kx BK224.out; have hcz18_1 : w17.cell? ⟨gb224, 1, none⟩ = some (.slice A0_1 l0_1.length c0_1) := kx BK224.out; have hfz18_0 := blk_frozen BK224.out 0; have hfz18_1 := blk_frozen BK224.out 1) | ((with_reducible refine gate_callee (f := 14) rfl ?_); refine kG (some 8) Try.func14 #[.agg #[.slice A0_0 l0_0.length c0_0, .slice A0_1 l0_1.length c0_1]] ?_; (with_reducible refine (spec_RightsOk.calls k _ _ l0_0 _ _ l0_1 false _ ?side1 ?side2 ?side3 ?side4 A4.out).mono ?_); (case side1 => exact kC (Kd.C_below HR0_0.out HB.out)); (case side2 => exact HC0_0.out); (case side3 => exact kC (Kd.C_below HR0_1.out HB.out)); (case side4 => exact HC0_1.out); rintro e w19 ⟨rfl, hb⟩; refine ⟨_, rfl, ?_⟩; have n0_ := k0 (kb BK224.out hb); have n1_ := k0 (below_step (kW HB.out) hb); clear BK224; clear HB; have BK224 := n0_; have HB := n1_; clear n0_ n1_; (try clear hb); (try clear hb2); (try clear hk); (try clear hi)))
  go_ret
  exact ⟨by first | rfl | (simp [errW_none, errW_some] <;> rfl) | (simp [*, errW_none, errW_some] <;> rfl), by repeat (first | (with_reducible first | exact HB.out | apply below_alloc | apply pw_below_drewN | apply below_drew1 | refine below_set ?_ GE224.out) | exact HB.out)⟩

/-! ### spec_Mint: function 28 -/
def spec_Mint.f (k : Nat) (l0_0 : List (List Int)) (l0_1 : List Int) (a1 : Int) (a2 : Int) : Option ((List (List Int)) × List Int × Bool) := (spec_l06May.f k l0_0 l0_1 a1 a2).bind fun t230 => (if t230 = true then ((spec_l06Copy.f k l0_0 l0_1).bind fun bt231 => (if 0 ≤ a1 then (if a1 < (bt231.1.length : Int) then (if a1 < ((rd_L1 bt231.1 a1).length : Int) then ((spec_l06Done.f k (bt231.1.set (a1 : Int).toNat ((rd_L1 bt231.1 a1).set (a1 : Int).toNat (wrap64 ((rd (rd_L1 bt231.1 a1) a1) + a2)))) bt231.2).bind fun bt244 => (some (bt244.1, bt244.2.1, bt244.2.2))) else (none)) else (none)) else (none))) else (some (([] : List (List Int)), ([] : List Int), false)))
theorem spec_Mint.mono : ∀ a0 a1 a2 a3 k, LeO (spec_Mint.f k a0 a1 a2 a3) (spec_Mint.f (k + 1) a0 a1 a2 a3) := by
 intro a0 a1 a2 a3 k
 unfold spec_Mint.f
 repeat' first
   | (with_reducible exact spec_l06Copy.mono _ _ _)
   | (with_reducible exact spec_l06Done.mono _ _ _)
   | (with_reducible exact spec_l06May.mono _ _ _ _ _)
   | (with_reducible exact LeO.refl _)
   | (with_reducible exact LeO.none _)
   | (with_reducible refine LeO.ite ?_ ?_)
   | (with_reducible refine LeO.bind ?_ (fun _ => ?_))
   | exact spec_l06Copy.mono _ _ _
   | exact spec_l06Done.mono _ _ _
   | exact spec_l06May.mono _ _ _ _ _
   | exact LeO.none _
   | refine LeO.ite ?_ ?_
   | refine LeO.bind ?_ (fun _ => ?_)
def spec_Mint.T4 : Bool × List (List Nat × List Nat) := (true, [([], []), ([0], [0]), ([], []), ([1, 2], [1, 2]), ([3], [3]), ([], []), ([], []), ([6], [6]), ([], []), ([7, 8], [7, 8]), ([9], [9]), ([], []), ([10, 11], [10, 11]), ([12], [12]), ([], []), ([13, 14], [13, 14]), ([4, 5, 0, 1, 2, 3, 4, 5, 6, 7, 8, 9, 10, 11, 12, 13, 14, 15], [4, 5]), ([16, 15, 0, 1, 2, 3, 4, 5, 6, 7, 8, 9, 10, 11, 12, 13, 14, 15], [15, 16])])
def spec_Mint.B4 : List Nat := [0, 1, 0, 7, 15, 0, 0, 64, 0, 448, 960, 0, 4032, 8128, 0, 32704, 65535, 131071]
theorem spec_Mint.tab4 : rtab .any (opsOf Try.f28 4) = spec_Mint.T4 := by kernel_rfl
theorem spec_Mint.bits4 : waitsOk spec_Mint.T4.2 spec_Mint.B4 = true := by kernel_rfl
set_option maxHeartbeats 8000000 in
set_option maxRecDepth 100000 in
theorem spec_Mint.calls (k : Nat) (A0_0 : Option Addr) (c0_0 : Nat) (l0_0 : List (List Int)) (A0_1 : Option Addr) (c0_1 : Nat) (l0_1 : List Int) (a1 : Int) (a2 : Int) (r1 : List (List Int)) (r2 : List Int) (r3 : Bool) (w : World) (hr0_0 : Kd.C (Kd.slice 3 (Kd.int .i64)) w A0_0 l0_0.length l0_0) (hc0_0 : l0_0.length ≤ c0_0) (hr0_1 : Kd.C (Kd.int .i64) w A0_1 l0_1.length l0_1) (hc0_1 : l0_1.length ≤ c0_1) (h : spec_Mint.f k l0_0 l0_1 a1 a2 = some (r1, r2, r3)) :
  Calls Try.prog 28 #[.agg #[.slice A0_0 l0_0.length c0_0, .slice A0_1 l0_1.length c0_1], .int .i64 a1, .int .i64 a2] w fun e w' => ∃ v0_ v1_ : Value, e = .returned (.tuple #[.agg #[v0_, v1_], .bool r3]) ∧ Kd.V (Kd.slice 3 (Kd.int .i64)) 23 w' w.heap.size (fun k_ => (w.heap.size ≤ k_) ∧ some k_ ≠ (v1_ : Value).ownBlock) v0_ r1 ∧ Kd.R (Kd.int .i64) 3 w' w.heap.size (fun k_ => (w.heap.size ≤ k_)) v1_ r2 ∧ Below w.heap.size w w' := by
 have hu28 := Try.underlying28
 have HR0_0 := Aside0.mk hr0_0
 have HC0_0 := Aside0.mk hc0_0
 clear hr0_0 hc0_0
 have HR0_1 := Aside0.mk hr0_1
 have HC0_1 := Aside0.mk hc0_1
 clear hr0_1 hc0_1
 have HB := k0 (Below.refl w.heap.size w)
 have H : ((spec_l06May.f k l0_0 l0_1 a1 a2).bind fun t230 => (if t230 = true then ((spec_l06Copy.f k l0_0 l0_1).bind fun bt231 => (if 0 ≤ a1 then (if a1 < (bt231.1.length : Int) then (if a1 < ((rd_L1 bt231.1 a1).length : Int) then ((spec_l06Done.f k (bt231.1.set (a1 : Int).toNat ((rd_L1 bt231.1 a1).set (a1 : Int).toNat (wrap64 ((rd (rd_L1 bt231.1 a1) a1) + a2)))) bt231.2).bind fun bt244 => (some (bt244.1, bt244.2.1, bt244.2.2))) else (none)) else (none)) else (none))) else (some (([] : List (List Int)), ([] : List Int), false)))) = some (r1, r2, r3) := h
 clear h
 replace H := Option.bind_eq_some_iff.mp H
 obtain ⟨t230, A40, H⟩ := H
 replace H : (if t230 = true then ((spec_l06Copy.f k l0_0 l0_1).bind fun bt231 => (if 0 ≤ a1 then (if a1 < (bt231.1.length : Int) then (if a1 < ((rd_L1 bt231.1 a1).length : Int) then ((spec_l06Done.f k (bt231.1.set (a1 : Int).toNat ((rd_L1 bt231.1 a1).set (a1 : Int).toNat (wrap64 ((rd (rd_L1 bt231.1 a1) a1) + a2)))) bt231.2).bind fun bt244 => (some (bt244.1, bt244.2.1, bt244.2.2))) else (none)) else (none)) else (none))) else (some (([] : List (List Int)), ([] : List Int), false))) = some (r1, r2, r3) := H
 have A4 := Aside0.mk A40
 clear A40
 by_cases c5 : t230 = true
 ·subst c5
  have H1 : ((spec_l06Copy.f k l0_0 l0_1).bind fun bt231 => (if 0 ≤ a1 then (if a1 < (bt231.1.length : Int) then (if a1 < ((rd_L1 bt231.1 a1).length : Int) then ((spec_l06Done.f k (bt231.1.set (a1 : Int).toNat ((rd_L1 bt231.1 a1).set (a1 : Int).toNat (wrap64 ((rd (rd_L1 bt231.1 a1) a1) + a2)))) bt231.2).bind fun bt244 => (some (bt244.1, bt244.2.1, bt244.2.2))) else (none)) else (none)) else (none))) = some (r1, r2, r3) := by rw [if_pos rfl] at H; exact H
  clear H
  have H := H1
  clear H1
  replace H := Option.bind_eq_some_iff.mp H
  obtain ⟨⟨t231, t234⟩, A60, H⟩ := H
  replace H : (if 0 ≤ a1 then (if a1 < (t231.length : Int) then (if a1 < ((rd_L1 t231 a1).length : Int) then ((spec_l06Done.f k (t231.set (a1 : Int).toNat ((rd_L1 t231 a1).set (a1 : Int).toNat (wrap64 ((rd (rd_L1 t231 a1) a1) + a2)))) t234).bind fun bt244 => (some (bt244.1, bt244.2.1, bt244.2.2))) else (none)) else (none)) else (none)) = some (r1, r2, r3) := H
  have A6 := Aside0.mk A60
  clear A60
  by_cases c7 : 0 ≤ a1
  ·rw [if_pos c7] at H
   have c7b0 : decide (0 ≤ a1) = true := decide_eq_true c7
   clear c7
   by_cases c8 : a1 < (t231.length : Int)
   ·rw [if_pos c8] at H
    have c8b0 : decide (a1 < (t231.length : Int)) = true := decide_eq_true c8
    clear c8
    by_cases c9 : a1 < ((rd_L1 t231 a1).length : Int)
    ·rw [if_pos c9] at H
     have c9b0 : decide (a1 < ((rd_L1 t231 a1).length : Int)) = true := decide_eq_true c9
     clear c9
     obtain ⟨y241, hy241⟩ : ∃ y_ : List Int, y_ = ((rd_L1 t231 a1).set (a1 : Int).toNat (wrap64 ((rd (rd_L1 t231 a1) a1) + a2))) := ⟨_, rfl⟩
     replace H : ((spec_l06Done.f k (t231.set (a1 : Int).toNat y241) t234).bind fun bt244 => (some (bt244.1, bt244.2.1, bt244.2.2))) = some (r1, r2, r3) := by first | (rw [hy241]; with_reducible exact H) | (have H2_ := (Option.bind_some _ _).symm.trans H; rw [hy241]; with_reducible exact H2_) | (have H2_ := (Option.bind_some _ _).symm.trans H; with_reducible exact H2_) | with_reducible exact H | (rw [hy241]; exact H) | exact H
     have Ny241 := Aside0.mk hy241
     clear hy241
     obtain ⟨y243, hy243⟩ : ∃ y_ : List (List Int), y_ = (t231.set (a1 : Int).toNat y241) := ⟨_, rfl⟩
     replace H : ((spec_l06Done.f k y243 t234).bind fun bt244 => (some (bt244.1, bt244.2.1, bt244.2.2))) = some (r1, r2, r3) := by first | (rw [hy243]; with_reducible exact H) | (have H2_ := (Option.bind_some _ _).symm.trans H; rw [hy243]; with_reducible exact H2_) | (have H2_ := (Option.bind_some _ _).symm.trans H; with_reducible exact H2_) | with_reducible exact H | (rw [hy243]; exact H) | exact H
     have Ny243 := Aside0.mk hy243
     clear hy243
     replace H := Option.bind_eq_some_iff.mp H
     obtain ⟨⟨t244, t247, t250⟩, A110, H⟩ := H
     replace H : (some (t244, t247, t250)) = some (r1, r2, r3) := H
     have A11 := Aside0.mk A110
     clear A110
     simp only [Option.some.injEq, Prod.mk.injEq] at H
     obtain ⟨rfl, rfl, rfl⟩ := H
     go_enter Try.func28, Try.ntmps28
     try go_wp2_with (first | ((with_reducible refine gate_dst (N := 3) rfl ?_); refine kE (N := 3) (cs := #[.slice A0_0 l0_0.length c0_0, .slice A0_1 l0_1.length c0_1]) (t := 28) ?_; intro gb228 hg w12 hbox hb; have n0_ := k0 (below_step (kW HB.out) hb); have n1_ := k0 (hbox); have n2_ := k0 (kY HB.out hg); have n3_ := k0 (kY HB.out hg); clear HB; have HB := n0_; have BK228 := n1_; have GW228 := n2_; have GE228 := n3_; clear n0_ n1_ n2_ n3_; clear hb hbox hg) | ((with_reducible refine gate_dst (N := 6) rfl ?_); refine kE (N := 6) (cs := #[.slice none 0 0, .slice none 0 0]) (t := 28) ?_; intro gb229 hg w13 hbox hb; have n0_ := k0 (kb BK228.out hb); have n1_ := k0 (below_step (kW HB.out) hb); have n2_ := k0 (hbox); have n3_ := k0 (kY HB.out hg); have n4_ := k0 (kY HB.out hg); have n5_ := k0 ((by rw [hg]; exact Nat.ne_of_lt (blk_lt (g := gb228) (o := .cells #[.slice A0_0 l0_0.length c0_0, .slice A0_1 l0_1.length c0_1] 28 (0, 0)) (kB BK228.out)) : gb228 ≠ gb229)); have n6_ := k0 ((by rw [hg]; exact Nat.ne_of_gt (blk_lt (g := gb228) (o := .cells #[.slice A0_0 l0_0.length c0_0, .slice A0_1 l0_1.length c0_1] 28 (0, 0)) (kB BK228.out)) : gb229 ≠ gb228)); clear BK228; clear HB; have BK228 := n0_; have HB := n1_; have BK229 := n2_; have GW229 := n3_; have GE229 := n4_; have NB228_229 := n5_; have NB229_228 := n6_; clear n0_ n1_ n2_ n3_ n4_ n5_ n6_; clear hb hbox hg; have hnb14 := NB228_229.out; have hnc14 := NB229_228.out; have hcz15_0 : w13.cell? ⟨gb228, 0, none⟩ = some (.slice A0_0 l0_0.length c0_0) := kx BK228.out; have hcz15_1 : w13.cell? ⟨gb228, 1, none⟩ = some (.slice A0_1 l0_1.length c0_1) := kx BK228.out; have hfz15_0 := blk_frozen BK228.out 0; have hfz15_1 := blk_frozen BK228.out 1) | ((with_reducible refine gate_callee (f := 58) rfl ?_); refine kG (some 12) Try.func58 #[.agg #[.slice A0_0 l0_0.length c0_0, .slice A0_1 l0_1.length c0_1], .int .i64 a1, .int .i64 a2] ?_; (with_reducible refine (spec_l06May.calls k _ _ l0_0 _ _ l0_1 a1 a2 true _ ?side1 ?side2 ?side3 ?side4 A4.out).mono ?_); (case side1 => exact kC (Kd.C_below HR0_0.out HB.out)); (case side2 => exact HC0_0.out); (case side3 => exact kC (Kd.C_below HR0_1.out HB.out)); (case side4 => exact HC0_1.out); rintro e w16 ⟨rfl, hb⟩; refine ⟨_, rfl, ?_⟩; have n0_ := k0 (kb BK228.out hb); have n1_ := k0 (kb BK229.out hb); have n2_ := k0 (below_step (kW HB.out) hb); clear BK228; clear BK229; clear HB; have BK228 := n0_; have BK229 := n1_; have HB := n2_; clear n0_ n1_ n2_; (try clear hb); (try clear hb2); (try clear hk); (try clear hi); have hcz17_0 : w16.cell? ⟨gb228, 0, none⟩ = some (.slice A0_0 l0_0.length c0_0) := kx BK228.out; have hcz17_1 : w16.cell? ⟨gb228, 1, none⟩ = some (.slice A0_1 l0_1.length c0_1) := kx BK228.out; have hfz17_0 := blk_frozen BK228.out 0; have hfz17_1 := blk_frozen BK228.out 1) | ((with_reducible refine gate_callee (f := 50) rfl ?_); refine kG (some 16) Try.func50 #[.agg #[.slice A0_0 l0_0.length c0_0, .slice A0_1 l0_1.length c0_1]] ?_; (with_reducible refine (spec_l06Copy.calls k _ _ l0_0 _ _ l0_1 t231 t234 _ ?side1 ?side2 ?side3 ?side4 A6.out).mono ?_); (case side1 => exact kC (Kd.C_below HR0_0.out HB.out)); (case side2 => exact HC0_0.out); (case side3 => exact kC (Kd.C_below HR0_1.out HB.out)); (case side4 => exact HC0_1.out); rintro e w18 ⟨v232, v235, rfl, ho0, ho1, hb⟩; refine ⟨_, rfl, ?_⟩; have n0_ := k0 (Kd.S_lower (Kd.S_newM (M := fun k_ => (w.heap.size ≤ k_)) ho0 (below_size (kW HB.out)) (fun k_ h_ => h_)) (below_size (kW HB.out))); have n1_ := k0 (Kd.R_lower (Kd.R_newM (M := fun k_ => (w.heap.size ≤ k_)) ho1 (below_size (kW HB.out)) (fun k_ h_ => h_)) (below_size (kW HB.out))); have n2_ := k0 (kb BK228.out hb); have n3_ := k0 (kb BK229.out hb); have n4_ := k0 (below_step (kW HB.out) hb); clear BK228; clear BK229; clear HB; have HO233 := n0_; have HO236 := n1_; have BK228 := n2_; have BK229 := n3_; have HB := n4_; clear n0_ n1_ n2_ n3_ n4_; (try clear hb); (try clear hb2); (try clear hk); (try clear hi); (try clear ho0); (try clear ho1)) | ((with_reducible refine gate_dst (N := 8) rfl ?_); refine kE (N := 8) (cs := #[.slice none 0 0, .slice none 0 0]) (t := 28) ?_; intro gb237 hg w19 hbox hb; have n0_ := k0 (Kd.S_below (kS HO233.out) hb); have n1_ := k0 (Kd.R_below (kR HO236.out) hb); have n2_ := k0 (kb BK228.out hb); have n3_ := k0 (kb BK229.out hb); have n4_ := k0 (below_step (kW HB.out) hb); have n5_ := k0 (hbox); have n6_ := k0 (kY HB.out hg); have n7_ := k0 (kY HB.out hg); have n8_ := k0 ((by rw [hg]; exact Nat.ne_of_lt (blk_lt (g := gb228) (o := .cells #[.slice A0_0 l0_0.length c0_0, .slice A0_1 l0_1.length c0_1] 28 (0, 0)) (kB BK228.out)) : gb228 ≠ gb237)); have n9_ := k0 ((by rw [hg]; exact Nat.ne_of_gt (blk_lt (g := gb228) (o := .cells #[.slice A0_0 l0_0.length c0_0, .slice A0_1 l0_1.length c0_1] 28 (0, 0)) (kB BK228.out)) : gb237 ≠ gb228)); have n10_ := k0 ((by rw [hg]; exact Nat.ne_of_lt (blk_lt (g := gb229) (o := .cells #[.slice none 0 0, .slice none 0 0] 28 (0, 0)) (kB BK229.out)) : gb229 ≠ gb237)); have n11_ := k0 ((by rw [hg]; exact Nat.ne_of_gt (blk_lt (g := gb229) (o := .cells #[.slice none 0 0, .slice none 0 0] 28 (0, 0)) (kB BK229.out)) : gb237 ≠ gb229)); clear HO233; clear HO236; clear BK228; clear BK229; clear HB; have HO233 := n0_; have HO236 := n1_; have BK228 := n2_; have BK229 := n3_; have HB := n4_; have BK237 := n5_; have GW237 := n6_; have GE237 := n7_; have NB228_237 := n8_; have NB237_228 := n9_; have NB229_237 := n10_; have NB237_229 := n11_; clear n0_ n1_ n2_ n3_ n4_ n5_ n6_ n7_ n8_ n9_ n10_ n11_; clear hb hbox hg; obtain ⟨Ao20, co20, eo20⟩ := Kd.S_slice HO233.out; subst eo20; have hnb21 := NB237_228.out; have hnc21 := NB228_237.out; have hnb22 := NB237_229.out; have hnc22 := NB229_237.out; have hcz23_0 : w19.cell? ⟨gb237, 0, none⟩ = some (.slice none 0 0) := kx BK237.out; have hcz23_1 : w19.cell? ⟨gb237, 1, none⟩ = some (.slice none 0 0) := kx BK237.out; have hfz23_0 := blk_frozen BK237.out 0; have hfz23_1 := blk_frozen BK237.out 1; obtain ⟨Ao24, co24, eo24⟩ := Kd.R_slice HO236.out; subst eo24))
     have n0_ : Aside0 (Kd.S (Kd.slice 3 (Kd.int .i64)) 23 ((w19.setCell ⟨gb237, 0, none⟩ (.slice Ao20 t231.length co20)).setCell ⟨gb237, 1, none⟩ (.slice Ao24 t234.length co24)) w.heap.size (fun k_ => (w.heap.size ≤ k_) ∧ some k_ ≠ (.slice Ao24 t234.length co24 : Value).ownBlock) (.slice Ao20 t231.length co20) t231) := ⟨by (with_reducible repeat (first | apply Kd.S_alloc | apply Kd.S_drewN | apply Kd.S_drew)); exact Kd.S_mono (Kd.S_far (p := ⟨gb237, 1, none⟩) (Kd.S_far (p := ⟨gb237, 0, none⟩) (Kd.S_types HO233.out BK237.out (by decide)) (fun _ hk => hk.2) (.slice Ao20 t231.length co20)) (fun _ hk => hk.2) (.slice Ao24 t234.length co24)) (fun _ hk => ⟨hk.1.1, hk.1.2⟩)⟩
     have n1_ : Aside0 (Kd.R (Kd.int .i64) 3 ((w19.setCell ⟨gb237, 0, none⟩ (.slice Ao20 t231.length co20)).setCell ⟨gb237, 1, none⟩ (.slice Ao24 t234.length co24)) w.heap.size (fun k_ => (w.heap.size ≤ k_)) (.slice Ao24 t234.length co24) t234) := ⟨by (with_reducible repeat (first | apply Kd.R_alloc | apply Kd.R_drewN | apply Kd.R_drew)); exact Kd.R_mono (Kd.R_far (p := ⟨gb237, 1, none⟩) (Kd.R_far (p := ⟨gb237, 0, none⟩) (Kd.R_types HO236.out BK237.out (by decide)) (fun _ hk => hk.2) (.slice Ao20 t231.length co20)) (fun _ hk => hk.2) (.slice Ao24 t234.length co24)) (fun _ hk => hk.1.1)⟩
     have n2_ : Aside0 (((w19.setCell ⟨gb237, 0, none⟩ (.slice Ao20 t231.length co20)).setCell ⟨gb237, 1, none⟩ (.slice Ao24 t234.length co24)).heap[gb228]? = some (.cells #[.slice A0_0 l0_0.length c0_0, .slice A0_1 l0_1.length c0_1] 28 (0, 0))) := ⟨by (with_reducible repeat first | apply k1 | apply k2 | apply k3); refine blk_far ?_ NB228_237.out _; (with_reducible repeat first | apply k1 | apply k2 | apply k3); refine blk_far ?_ NB228_237.out _; (with_reducible repeat first | apply k1 | apply k2 | apply k3); exact BK228.out⟩
     have n3_ : Aside0 (((w19.setCell ⟨gb237, 0, none⟩ (.slice Ao20 t231.length co20)).setCell ⟨gb237, 1, none⟩ (.slice Ao24 t234.length co24)).heap[gb229]? = some (.cells #[.slice none 0 0, .slice none 0 0] 28 (0, 0))) := ⟨by (with_reducible repeat first | apply k1 | apply k2 | apply k3); refine blk_far ?_ NB229_237.out _; (with_reducible repeat first | apply k1 | apply k2 | apply k3); refine blk_far ?_ NB229_237.out _; (with_reducible repeat first | apply k1 | apply k2 | apply k3); exact BK229.out⟩
     have n4_ : Aside0 (((w19.setCell ⟨gb237, 0, none⟩ (.slice Ao20 t231.length co20)).setCell ⟨gb237, 1, none⟩ (.slice Ao24 t234.length co24)).heap[gb237]? = some (.cells #[.slice Ao20 t231.length co20, .slice Ao24 t234.length co24] 28 (0, 0))) := ⟨by (with_reducible repeat first | apply k1 | apply k2 | apply k3); refine blk_put (cs := #[.slice Ao20 t231.length co20, .slice none 0 0]) ?_ 1 _ rfl; (with_reducible repeat first | apply k1 | apply k2 | apply k3); refine blk_put (cs := #[.slice none 0 0, .slice none 0 0]) ?_ 0 _ rfl; (with_reducible repeat first | apply k1 | apply k2 | apply k3); exact BK237.out⟩
     have n5_ : Aside0 (Below w.heap.size w ((w19.setCell ⟨gb237, 0, none⟩ (.slice Ao20 t231.length co20)).setCell ⟨gb237, 1, none⟩ (.slice Ao24 t234.length co24))) := ⟨by repeat (first | (with_reducible first | exact HB.out | apply below_alloc | apply pw_below_drewN | apply below_drew1 | refine below_set ?_ GE228.out | refine below_set ?_ GE229.out | refine below_set ?_ GE237.out) | exact HB.out)⟩
     (try clear HO233)
     (try clear HO236)
     (try clear BK228)
     (try clear BK229)
     (try clear BK237)
     (try clear HB)
     generalize ((w19.setCell ⟨gb237, 0, none⟩ (.slice Ao20 t231.length co20)).setCell ⟨gb237, 1, none⟩ (.slice Ao24 t234.length co24)) = w25 at n0_ n1_ n2_ n3_ n4_ n5_ ⊢
     have HO233 := n0_
     have HO236 := n1_
     have BK228 := n2_
     have BK229 := n3_
     have BK237 := n4_
     have HB := n5_
     clear n0_ n1_ n2_ n3_ n4_ n5_
     have n0_ := k0 (Kd.S_drew HO233.out)
     have n1_ := k0 (Kd.R_drew HO236.out)
     have n2_ := k0 (blk_drew BK228.out)
     have n3_ := k0 (blk_drew BK229.out)
     have n4_ := k0 (blk_drew BK237.out)
     have n5_ := k0 (below_drew1 HB.out)
     clear HO233 HO236 BK228 BK229 BK237 HB
     have HO233 := n0_
     have HO236 := n1_
     have BK228 := n2_
     have BK229 := n3_
     have BK237 := n4_
     have HB := n5_
     clear n0_ n1_ n2_ n3_ n4_ n5_
     have p238 : 0 ≤ (a1 : Int) := kD
     have q238 : a1 < (t231.length : Int) := kD
     obtain ⟨ad238, A238_0, c238_0, e238, hx238_0, hl238_0, hi238_0⟩ := at_L1 (Kd.S_reads' HO233.out).2.2 a1 p238 q238
     cases e238
     obtain ⟨ce238, hce238, hMe238, hcc238⟩ := Kd.S_get HO233.out [] a1 p238 (by first | exact q238 | exact kD | (have e_ := (Kd.S_reads' HO233.out).1; omega))
     obtain ⟨ve238_0, rfl, ge238_0⟩ := hMe238
     have hv238_0 := hcc238 0 _ rfl
     rw [Nat.add_zero, show ((Kd.slice 3 (Kd.int .i64))).sz = 1 from rfl, Nat.mul_one] at hv238_0
     replace hv238_0 := Option.some.inj (hv238_0.symm.trans hx238_0)
     rw [hv238_0] at ge238_0
     have HL238_0 := k0 (show Kd.R (Kd.int .i64) 3 _ _ _ _ (rd_L1 t231 a1) from ge238_0)
     clear hv238_0 ge238_0
     have HX238_0 := Aside0.mk hx238_0
     clear hcc238 hce238
     have HR238_0 := Aside0.mk hi238_0
     have HC238_0 := Aside0.mk hl238_0
     clear hi238_0 hl238_0
     replace p238 := eq_true p238
     replace q238 := eq_true q238
     have p239 : 0 ≤ (a1 : Int) := kD
     have q239 : a1 < (t231.length : Int) := kD
     obtain ⟨ad239, A239_0, c239_0, e239, hx239_0, hl239_0, hi239_0⟩ := at_L1 (Kd.S_reads' HO233.out).2.2 a1 p239 q239
     obtain rfl : ad238 = ad239 := (by injection e239)
     obtain ⟨ce239, hce239, hMe239, hcc239⟩ := Kd.S_get HO233.out [] a1 p239 (by first | exact q239 | exact kD | (have e_ := (Kd.S_reads' HO233.out).1; omega))
     obtain ⟨ve239_0, rfl, ge239_0⟩ := hMe239
     have hv239_0 := hcc239 0 _ rfl
     rw [Nat.add_zero, show ((Kd.slice 3 (Kd.int .i64))).sz = 1 from rfl, Nat.mul_one] at hv239_0
     replace hv239_0 := Option.some.inj (hv239_0.symm.trans hx239_0)
     rw [hv239_0] at ge239_0
     have HL239_0 := k0 (show Kd.R (Kd.int .i64) 3 _ _ _ _ (rd_L1 t231 a1) from ge239_0)
     clear hv239_0 ge239_0
     have HX239_0 := Aside0.mk hx239_0
     clear hcc239 hce239
     have HR239_0 := Aside0.mk hi239_0
     have HC239_0 := Aside0.mk hl239_0
     clear hi239_0 hl239_0
     replace p239 := eq_true p239
     replace q239 := eq_true q239
     have ea_ := Option.some.inj (hx238_0.symm.trans hx239_0)
     injection ea_ with ea_ en_ ec_
     subst ea_
     subst ec_
     clear en_
     have p240 : 0 ≤ (a1 : Int) := kD
     have q240 : a1 < ((rd_L1 t231 a1).length : Int) := kD
     obtain ⟨ad240, e240, hx240_0⟩ := Kd.at_int (by repeat (first | (with_reducible exact HR239_0.out) | (with_reducible refine Kd.C_alloc ?_ _) | (with_reducible refine Kd.C_drewN ?_ _) | (with_reducible refine Kd.C_drew ?_) | exact HR239_0.out)) a1 p240 q240
     cases e240
     replace p240 := eq_true p240
     replace q240 := eq_true q240
     have p10 : 0 ≤ (a1 : Int) := kD
     have q10 : (a1 : Int) < (((rd_L1 t231 a1).length : Int) : Int) := kD
     obtain ⟨go10, co10, eo10, gb10, gl10, cl10, HG10⟩ := Kd.R_form HL238_0.out (by omega)
     (first | cases eo10 | (injection eo10 with ea_ en_ ec_; (first | subst ea_ | (injection ea_ with ea_; subst ea_)); subst ec_; clear en_))
     have GB10 := Aside0.mk gb10
     have GG10 := Aside0.mk HG10
     clear gb10 gl10 HG10
     (first | simp only [add_plain] at hx240_0 | skip)
     obtain ⟨hx10_0, hf10_0⟩ := Kd.R_celln 0 HL238_0.out (a1 : Int) p10 q10
     replace p10 := eq_true p10
     replace q10 := eq_true q10
     have hq27 : (a1 : Int) < (t231.length : Int) := (by have h_ : (a1 : Int) < ((t231.length : Int) : Int) := kD; first | exact h_ | (have e_ := (Kd.S_reads' HO233.out).1; omega) | simpa only [List.length_set, List.length_set] using h_)
     obtain ⟨oki27, ce27, hcl27, hM27, hcc27, hok27, hbk27⟩ := Kd.S_borrow HO233.out [] (a1 : Int) kD hq27
     obtain ⟨ve27_0, rfl, ge27_0⟩ := hM27
     have hv27 := hcc27 0 _ rfl
     rw [Nat.add_zero, show ((Kd.slice 3 (Kd.int .i64))).sz = 1 from rfl, Nat.mul_one] at hv27
     replace hv27 := Option.some.inj (hv27.symm.trans HX238_0.out)
     subst hv27
     clear hcc27 hcl27
     replace ge27_0 := (show Kd.R (Kd.int .i64) 3 _ _ _ _ (rd_L1 t231 a1) from ge27_0)
     have HP27 := Kd.R_putg ge27_0 (a1 : Int) (wrap64 ((rd (rd_L1 t231 a1) a1) + a2))
     rw [← Ny241.out] at HP27
     have HS27 := hbk27 HP27.2 (fun k_ e_ => by injection e_ with e_; subst e_; exact ge27_0.1 _ rfl) (x' := y241) (Kd.M_row HP27.1)
     rw [← Ny243.out] at HS27
     have HQ27 := Aside0.mk HS27
     clear HP27 HS27 hbk27 hok27
     refine start_ (n := 18) (S := fun w' => w'.cell? ⟨gb237, 0, none⟩ = some (.slice (some ad238) t231.length co20) ∧ w'.cell? ⟨gb237, 1, none⟩ = some (.slice Ao24 t234.length co24) ∧ w'.cell? (ad238.add (a1).toNat) = some (.slice (some ⟨go10, 0, none⟩) (rd_L1 t231 a1).length c238_0) ∧ w'.cell? (ad238.add (a1).toNat) = some (.slice (some ⟨go10, 0, none⟩) (rd_L1 t231 a1).length c238_0) ∧ w'.cell? ⟨go10, (a1).toNat, none⟩ = some (.int .i64 (rd (rd_L1 t231 a1) a1))) (ds := [17]) #[false, false, false, false, false, false, false, false, false, false, false, false, false, false, false, false, false, false] (by kernel_rfl) rfl rfl ⟨(blk_cell BK237.out 0).trans rfl, (blk_cell BK237.out 1).trans rfl, hx238_0, hx239_0, hx240_0⟩ (fun hHeld => ?_); refine with_tabW spec_Mint.tab4 spec_Mint.bits4 (fun HT_ HW_ => ?_)
     generalize w25.drew = w26 at HO233 HO236 BK228 BK229 BK237 HB GG10 HL238_0 HL239_0 HQ27 HR238_0 HR239_0 HX238_0 HX239_0 hf10_0 hx10_0 hx238_0 hx239_0 hx240_0 hHeld ⊢
     refine kP 0 17 18 1 HT_.out ?_
     refine kP 2 19 18 5 HT_.out ?_
     refine kP 5 22 18 37 HT_.out ?_
     refine kP 6 23 18 101 HT_.out ?_
     refine kP 8 25 18 357 HT_.out ?_
     refine kP 11 28 18 2405 HT_.out ?_
     refine kP 14 31 18 18789 HT_.out ?_
     refine take_ (i := 1) (N := some 18) (v := ?_) (a' := ?_) (bt 18 18791) rfl rfl (take_ofW HT_.out HW_.out (by kernel_rfl)) (fun _ _ _ h => h) (Or.inl ⟨by rfl, ?_⟩) hHeld ?_ ?_
     rotate_left
     ·rintro w' ⟨s0, s1, s2, s3, s4⟩
      go_simp
      with_reducible rfl
     rotate_left
     ·simp only [Act.put, List.setIfInBounds_toArray, List.set_cons_zero, List.set_cons_succ, i64_w, i32_w]
      rfl
     refine kP 3 20 18 18799 HT_.out ?_
     refine take_ (i := 4) (N := some 21) (v := ?_) (a' := ?_) (bt 18 18815) rfl rfl (take_ofW HT_.out HW_.out (by kernel_rfl)) (fun _ _ _ h => h) (Or.inl ⟨by rfl, ?_⟩) hHeld ?_ ?_
     rotate_left
     ·rintro w' ⟨s0, s1, s2, s3, s4⟩
      go_simp
      with_reducible rfl
     rotate_left
     ·simp only [Act.put, List.setIfInBounds_toArray, List.set_cons_zero, List.set_cons_succ, i64_w, i32_w]
      rfl
     refine take_ (i := 7) (N := some 24) (v := ?_) (a' := ?_) (bt 18 18943) rfl rfl (take_ofW HT_.out HW_.out (by kernel_rfl)) (fun _ _ _ h => h) (Or.inl ⟨by rfl, ?_⟩) hHeld ?_ ?_
     rotate_left
     ·rintro w' ⟨s0, s1, s2, s3, s4⟩
      go_simp
      with_reducible rfl
     rotate_left
     ·simp only [Act.put, List.setIfInBounds_toArray, List.set_cons_zero, List.set_cons_succ, i64_w, i32_w]
      rfl
     refine kP 9 26 18 19455 HT_.out ?_
     refine take_ (i := 10) (N := some 27) (v := ?_) (a' := ?_) (bt 18 20479) rfl rfl (take_ofW HT_.out HW_.out (by kernel_rfl)) (fun _ _ _ h => h) (Or.inl ⟨by rfl, ?_⟩) hHeld ?_ ?_
     rotate_left
     ·rintro w' ⟨s0, s1, s2, s3, s4⟩
      go_simp
      with_reducible rfl
     rotate_left
     ·simp only [Act.put, List.setIfInBounds_toArray, List.set_cons_zero, List.set_cons_succ, i64_w, i32_w]
      rfl
     refine kP 12 29 18 24575 HT_.out ?_
     refine take_ (i := 13) (N := some 30) (v := ?_) (a' := ?_) (bt 18 32767) rfl rfl (take_ofW HT_.out HW_.out (by kernel_rfl)) (fun _ _ _ h => h) (Or.inl ⟨by rfl, ?_⟩) hHeld ?_ ?_
     rotate_left
     ·rintro w' ⟨s0, s1, s2, s3, s4⟩
      go_simp
      with_reducible rfl
     rotate_left
     ·simp only [Act.put, List.setIfInBounds_toArray, List.set_cons_zero, List.set_cons_succ, i64_w, i32_w]
      rfl
     refine kP 15 32 18 65535 HT_.out ?_
     refine kP 16 33 18 131071 HT_.out ?_
     refine last_ (i := 17) (N := none) (bt 18 262143) rfl rfl (one_of HT_.out (by kernel_rfl)) (by decide) (fun K hK => ?_)
     refine skip_ (w1 := ?_) (by rfl) rfl ?_ ?_
     rotate_left
     ·go_simp
      rfl
     refine hK.out _ _ ?_
     clear hK K
     refine done_ (done_of HT_.out (by kernel_rfl)) ?_
     have n0_ : Aside0 (Kd.S (Kd.slice 3 (Kd.int .i64)) 23 (w26.setCell ⟨go10, (a1 : Int).toNat, none⟩ (.int .i64 (wrap64 ((rd (rd_L1 t231 a1) a1) + a2)))) w.heap.size (fun k_ => (w.heap.size ≤ k_) ∧ some k_ ≠ (.slice Ao24 t234.length co24 : Value).ownBlock) (.slice (some ad238) t231.length co20) y243) := ⟨by (with_reducible repeat (first | apply Kd.S_alloc | apply Kd.S_drewN | apply Kd.S_drew)); exact HQ27.out⟩
     have n1_ : Aside0 (Kd.R (Kd.int .i64) 3 (w26.setCell ⟨go10, (a1 : Int).toNat, none⟩ (.int .i64 (wrap64 ((rd (rd_L1 t231 a1) a1) + a2)))) w.heap.size (fun k_ => (w.heap.size ≤ k_)) (.slice Ao24 t234.length co24) t234) := ⟨by (with_reducible repeat (first | apply Kd.R_alloc | apply Kd.R_drewN | apply Kd.R_drew)); exact Kd.R_mono (Kd.R_far (p := ⟨go10, (a1 : Int).toNat, none⟩) (Kd.R_far1 HO236.out rfl ((HL238_0.out.1 _ rfl).1.2)) (fun _ hk => hk.2) (.int .i64 (wrap64 ((rd (rd_L1 t231 a1) a1) + a2)))) (fun _ hk => hk.1)⟩
     have n2_ : Aside0 ((w26.setCell ⟨go10, (a1 : Int).toNat, none⟩ (.int .i64 (wrap64 ((rd (rd_L1 t231 a1) a1) + a2)))).heap[gb228]? = some (.cells #[.slice A0_0 l0_0.length c0_0, .slice A0_1 l0_1.length c0_1] 28 (0, 0))) := ⟨by (with_reducible repeat first | apply k1 | apply k2 | apply k3); refine blk_far ?_ (by have h_ := Kd.R_ne HL238_0.out BK228.out (by decide); intro e_; exact h_ (by rw [e_]; rfl)) _; (with_reducible repeat first | apply k1 | apply k2 | apply k3); exact BK228.out⟩
     have n3_ : Aside0 ((w26.setCell ⟨go10, (a1 : Int).toNat, none⟩ (.int .i64 (wrap64 ((rd (rd_L1 t231 a1) a1) + a2)))).heap[gb229]? = some (.cells #[.slice none 0 0, .slice none 0 0] 28 (0, 0))) := ⟨by (with_reducible repeat first | apply k1 | apply k2 | apply k3); refine blk_far ?_ (by have h_ := Kd.R_ne HL238_0.out BK229.out (by decide); intro e_; exact h_ (by rw [e_]; rfl)) _; (with_reducible repeat first | apply k1 | apply k2 | apply k3); exact BK229.out⟩
     have n4_ : Aside0 ((w26.setCell ⟨go10, (a1 : Int).toNat, none⟩ (.int .i64 (wrap64 ((rd (rd_L1 t231 a1) a1) + a2)))).heap[gb237]? = some (.cells #[.slice (some ad238) t231.length co20, .slice Ao24 t234.length co24] 28 (0, 0))) := ⟨by (with_reducible repeat first | apply k1 | apply k2 | apply k3); refine blk_far ?_ (by have h_ := Kd.R_ne HL238_0.out BK237.out (by decide); intro e_; exact h_ (by rw [e_]; rfl)) _; (with_reducible repeat first | apply k1 | apply k2 | apply k3); exact BK237.out⟩
     have n5_ : Aside0 (Below w.heap.size w (w26.setCell ⟨go10, (a1 : Int).toNat, none⟩ (.int .i64 (wrap64 ((rd (rd_L1 t231 a1) a1) + a2))))) := ⟨by repeat (first | (with_reducible first | exact HB.out | apply below_alloc | apply pw_below_drewN | apply below_drew1 | refine below_set ?_ GB10.out | refine below_set ?_ GE228.out | refine below_set ?_ GE229.out | refine below_set ?_ GE237.out) | exact HB.out)⟩
     (try clear HO233)
     (try clear HO236)
     (try clear BK228)
     (try clear BK229)
     (try clear BK237)
     (try clear HB)
     generalize (w26.setCell ⟨go10, (a1 : Int).toNat, none⟩ (.int .i64 (wrap64 ((rd (rd_L1 t231 a1) a1) + a2)))) = w29 at n0_ n1_ n2_ n3_ n4_ n5_ ⊢
     have HO233 := n0_
     have HO236 := n1_
     have BK228 := n2_
     have BK229 := n3_
     have BK237 := n4_
     have HB := n5_
     clear n0_ n1_ n2_ n3_ n4_ n5_
     have hcz30_0 : w29.cell? ⟨gb237, 0, none⟩ = some (.slice (some ad238) t231.length co20) := kx BK237.out
     have hcz30_1 : w29.cell? ⟨gb237, 1, none⟩ = some (.slice Ao24 t234.length co24) := kx BK237.out
     have hfz30_0 := blk_frozen BK237.out 0
     have hfz30_1 := blk_frozen BK237.out 1
     try go_wp2_with (first | ((with_reducible refine gate_callee (f := 52) rfl ?_); refine goesL_ (some 35) rfl rfl Try.func52 (by kernel_rfl) rfl #[.agg #[.slice (some ad238) y243.length co20, .slice Ao24 t234.length co24]] rfl (by (try simp only [List.map_toArray, List.map_cons, List.map_nil]); first | done | (rw [show y243.length = t231.length from (Kd.S_reads' HO233.out).1.symm] <;> rfl) | rfl | (simp only [List.length_drop, List.length_take]; rfl)) ?_; (with_reducible refine (spec_l06Done.calls k (fun k_ => (((((w.heap.size ≤ k_) ∧ some k_ ≠ (.slice Ao24 t234.length co24 : Value).ownBlock) ∧ k_ ≠ gb228) ∧ k_ ≠ gb229) ∧ k_ ≠ gb237)) _ _ y243 (fun k_ => some k_ = (.slice Ao24 t234.length co24 : Value).ownBlock) (.slice Ao24 t234.length co24) t234 t244 t247 t250 w _ ?side1 ?side2 ?side3 A11.out).mono ?_); (case side1 => repeat (first | (with_reducible first | exact HB.out | apply below_alloc | apply pw_below_drewN | apply below_drew1 | refine below_set ?_ GE228.out | refine below_set ?_ GE229.out | refine below_set ?_ GE237.out) | exact HB.out)); (case side2 => rw [show y243.length = t231.length from (Kd.S_reads' HO233.out).1.symm]; exact Kd.V_mono (Kd.S_V (Kd.S_types (Kd.S_types (Kd.S_types (HO233.out) BK228.out (by decide)) BK229.out (by decide)) BK237.out (by decide))) (fun k_ hk_ => ⟨hk_, hk_.1.1.1.2⟩)); (case side3 => exact Kd.R_tight rfl HO236.out); rintro e w31 ⟨v245, v248, rfl, ho0, ho1, hb, hkp⟩; refine ⟨_, rfl, ?_⟩; have n0_ := k0 (kK BK228.out hkp (fun hs_ => (fun e_ => (Kd.R_ne HO236.out BK228.out (by decide)) e_) hs_)); have n1_ := k0 (kK BK229.out hkp (fun hs_ => (fun e_ => (Kd.R_ne HO236.out BK229.out (by decide)) e_) hs_)); have n2_ := k0 (Kd.S_mono (ok' := fun k_ => (w.heap.size ≤ k_) ∧ some k_ ≠ (v248 : Value).ownBlock) (Kd.S_keptB (HO233.out) hkp (fun k_ hk_ hs_ => (hk_.2) hs_)) (fun k_ hk_ => ⟨hk_.1.1, fun e_ => Or.elim (ho1.1 k_ e_.symm) (fun hs_ => hk_.2.1 hs_) (fun hn_ => Nat.not_le.2 hk_.2.2 hn_)⟩)); have n3_ := k0 (kK BK237.out hkp (fun hs_ => (fun e_ => (Kd.R_ne HO236.out BK237.out (by decide)) e_) hs_)); have n4_ := k0 (Kd.V_mono (ok' := fun k_ => (w.heap.size ≤ k_) ∧ some k_ ≠ (v248 : Value).ownBlock ∧ k_ ≠ gb228 ∧ k_ ≠ gb229 ∧ k_ ≠ gb237) ho0 (fun k_ hk_ => ⟨Or.elim hk_.1 (fun hs_ => Or.elim hs_ (fun hs_ => (HO236.out.1 k_ (hs_).symm)) (fun hs_ => hs_.1.1.1.1)) (fun hn_ => (Nat.le_trans (below_size (kW HB.out)) hn_)), hk_.2, Or.elim hk_.1 (fun hs_ => Or.elim hs_ (fun hs_ => fun e_ => (Kd.R_ne HO236.out BK228.out (by decide)) (by rw [← e_]; exact hs_)) (fun hs_ => hs_.1.1.2)) (fun hn_ => (Kd.freshB (g := gb228) (o := .cells #[.slice A0_0 l0_0.length c0_0, .slice A0_1 l0_1.length c0_1] 28 (0, 0)) (kB BK228.out) k_ hn_)), Or.elim hk_.1 (fun hs_ => Or.elim hs_ (fun hs_ => fun e_ => (Kd.R_ne HO236.out BK229.out (by decide)) (by rw [← e_]; exact hs_)) (fun hs_ => hs_.1.2)) (fun hn_ => (Kd.freshB (g := gb229) (o := .cells #[.slice none 0 0, .slice none 0 0] 28 (0, 0)) (kB BK229.out) k_ hn_)), Or.elim hk_.1 (fun hs_ => Or.elim hs_ (fun hs_ => fun e_ => (Kd.R_ne HO236.out BK237.out (by decide)) (by rw [← e_]; exact hs_)) (fun hs_ => hs_.2)) (fun hn_ => (Kd.freshB (g := gb237) (o := .cells #[.slice (some ad238) t231.length co20, .slice Ao24 t234.length co24] 28 (0, 0)) (kB BK237.out) k_ hn_))⟩)); have n5_ := k0 (Kd.R_mono (ok' := fun k_ => (w.heap.size ≤ k_)) ho1 (fun k_ hk_ => Or.elim hk_ (fun hs_ => (HO236.out.1 k_ (hs_).symm)) (fun hn_ => (Nat.le_trans (below_size (kW HB.out)) hn_)))); have n6_ := k0 (hb); clear BK228; clear BK229; clear HO233; clear BK237; clear HB; clear HO236; have BK228 := n0_; have BK229 := n1_; have HO233 := n2_; have BK237 := n3_; have HO246 := n4_; have HO249 := n5_; have HB := n6_; clear n0_ n1_ n2_ n3_ n4_ n5_ n6_; (try clear hb); (try clear hkp); (try clear ho0); (try clear ho1); obtain ⟨Ao32, co32, eo32⟩ := Kd.V_slice HO246.out; subst eo32; have hcz33_0 : w31.cell? ⟨gb229, 0, none⟩ = some (.slice none 0 0) := kx BK229.out; have hcz33_1 : w31.cell? ⟨gb229, 1, none⟩ = some (.slice none 0 0) := kx BK229.out; have hfz33_0 := blk_frozen BK229.out 0; have hfz33_1 := blk_frozen BK229.out 1; obtain ⟨Ao34, co34, eo34⟩ := Kd.R_slice HO249.out; subst eo34))
     refine bodyPost_ret (results_ct rfl _ _ gb229 28 #[.slice Ao32 t244.length co32, .slice Ao34 t247.length co34] (0, 0) _ rfl (by (with_reducible repeat first | apply k1 | apply k2 | apply k3); refine blk_put (cs := #[.slice Ao32 t244.length co32, .slice none 0 0]) ?_ 1 _ rfl; (with_reducible repeat first | apply k1 | apply k2 | apply k3); refine blk_put (cs := #[.slice none 0 0, .slice none 0 0]) ?_ 0 _ rfl; (with_reducible repeat first | apply k1 | apply k2 | apply k3); exact BK229.out) Try.underlying28 rfl (by kernel_rfl)) rfl ?_
     exact ⟨_, _, by first | rfl | (simp [errW_none, errW_some] <;> rfl) | (simp [*, errW_none, errW_some] <;> rfl), by (with_reducible repeat (first | apply Kd.V_alloc | apply Kd.V_drewN | apply Kd.V_drew)); exact Kd.V_mono (Kd.V_far (p := ⟨gb229, 1, none⟩) (Kd.V_far (p := ⟨gb229, 0, none⟩) (Kd.V_mono HO246.out (fun k_ hk => (⟨hk, hk.2.2.2.1⟩ : _ ∧ k_ ≠ gb229))) (fun _ hk => hk.2) (.slice Ao32 t244.length co32)) (fun _ hk => hk.2) (.slice Ao34 t247.length co34)) (fun _ hk => ⟨hk.1.1, hk.1.2.1⟩), by (with_reducible repeat (first | apply Kd.R_alloc | apply Kd.R_drewN | apply Kd.R_drew)); exact Kd.R_mono (Kd.R_far (p := ⟨gb229, 1, none⟩) (Kd.R_far (p := ⟨gb229, 0, none⟩) (Kd.R_types HO249.out BK229.out (by decide)) (fun _ hk => hk.2) (.slice Ao32 t244.length co32)) (fun _ hk => hk.2) (.slice Ao34 t247.length co34)) (fun _ hk => hk.1), by repeat (first | (with_reducible first | exact HB.out | apply below_alloc | apply pw_below_drewN | apply below_drew1 | refine below_set ?_ GE228.out | refine below_set ?_ GE229.out | refine below_set ?_ GE237.out) | exact HB.out)⟩
    ·rw [if_neg c9] at H
     exact absurd H (by simp)
   ·rw [if_neg c8] at H
    exact absurd H (by simp)
  ·rw [if_neg c7] at H
   exact absurd H (by simp)
 ·replace c5 := Bool.eq_false_iff.mpr c5
  subst c5
  have H1 : (some (([] : List (List Int)), ([] : List Int), false)) = some (r1, r2, r3) := by rw [if_neg (show ¬ (false = true) by decide)] at H; exact H
  clear H
  have H := H1
  clear H1
  simp only [Option.some.injEq, Prod.mk.injEq] at H
  obtain ⟨rfl, rfl, rfl⟩ := H
  go_enter Try.func28, Try.ntmps28
  go_wp2_with (first | ((with_reducible refine gate_dst (N := 3) rfl ?_); refine kE (N := 3) (cs := #[.slice A0_0 l0_0.length c0_0, .slice A0_1 l0_1.length c0_1]) (t := 28) ?_; intro gb228 hg w35 hbox hb; have n0_ := k0 (below_step (kW HB.out) hb); have n1_ := k0 (hbox); have n2_ := k0 (kY HB.out hg); have n3_ := k0 (kY HB.out hg); clear HB; have HB := n0_; have BK228 := n1_; have GW228 := n2_; have GE228 := n3_; clear n0_ n1_ n2_ n3_; clear hb hbox hg) | ((with_reducible refine gate_dst (N := 6) rfl ?_); refine kE (N := 6) (cs := #[.slice none 0 0, .slice none 0 0]) (t := 28) ?_; intro gb229 hg w36 hbox hb; have n0_ := k0 (kb BK228.out hb); have n1_ := k0 (below_step (kW HB.out) hb); have n2_ := k0 (hbox); have n3_ := k0 (kY HB.out hg); have n4_ := k0 (kY HB.out hg); have n5_ := k0 ((by rw [hg]; exact Nat.ne_of_lt (blk_lt (g := gb228) (o := .cells #[.slice A0_0 l0_0.length c0_0, .slice A0_1 l0_1.length c0_1] 28 (0, 0)) (kB BK228.out)) : gb228 ≠ gb229)); have n6_ := k0 ((by rw [hg]; exact Nat.ne_of_gt (blk_lt (g := gb228) (o := .cells #[.slice A0_0 l0_0.length c0_0, .slice A0_1 l0_1.length c0_1] 28 (0, 0)) (kB BK228.out)) : gb229 ≠ gb228)); clear BK228; clear HB; have BK228 := n0_; have HB := n1_; have BK229 := n2_; have GW229 := n3_; have GE229 := n4_; have NB228_229 := n5_; have NB229_228 := n6_; clear n0_ n1_ n2_ n3_ n4_ n5_ n6_; clear hb hbox hg; have hnb37 := NB228_229.out; have hnc37 := NB229_228.out; have hcz38_0 : w36.cell? ⟨gb228, 0, none⟩ = some (.slice A0_0 l0_0.length c0_0) := kx BK228.out; have hcz38_1 : w36.cell? ⟨gb228, 1, none⟩ = some (.slice A0_1 l0_1.length c0_1) := kx BK228.out; have hfz38_0 := blk_frozen BK228.out 0; have hfz38_1 := blk_frozen BK228.out 1) | ((with_reducible refine gate_callee (f := 58) rfl ?_); refine kG (some 12) Try.func58 #[.agg #[.slice A0_0 l0_0.length c0_0, .slice A0_1 l0_1.length c0_1], .int .i64 a1, .int .i64 a2] ?_; (with_reducible refine (spec_l06May.calls k _ _ l0_0 _ _ l0_1 a1 a2 false _ ?side1 ?side2 ?side3 ?side4 A4.out).mono ?_); (case side1 => exact kC (Kd.C_below HR0_0.out HB.out)); (case side2 => exact HC0_0.out); (case side3 => exact kC (Kd.C_below HR0_1.out HB.out)); (case side4 => exact HC0_1.out); rintro e w39 ⟨rfl, hb⟩; refine ⟨_, rfl, ?_⟩; have n0_ := k0 (kb BK228.out hb); have n1_ := k0 (kb BK229.out hb); have n2_ := k0 (below_step (kW HB.out) hb); clear BK228; clear BK229; clear HB; have BK228 := n0_; have BK229 := n1_; have HB := n2_; clear n0_ n1_ n2_; (try clear hb); (try clear hb2); (try clear hk); (try clear hi); have hcz40_0 : w39.cell? ⟨gb229, 0, none⟩ = some (.slice none 0 0) := kx BK229.out; have hcz40_1 : w39.cell? ⟨gb229, 1, none⟩ = some (.slice none 0 0) := kx BK229.out; have hfz40_0 := blk_frozen BK229.out 0; have hfz40_1 := blk_frozen BK229.out 1))
  refine bodyPost_ret (results_ct rfl _ _ gb229 28 #[.slice none 0 0, .slice none 0 0] (0, 0) _ rfl (by (with_reducible repeat first | apply k1 | apply k2 | apply k3); refine blk_put (cs := #[.slice none 0 0, .slice none 0 0]) ?_ 1 _ rfl; (with_reducible repeat first | apply k1 | apply k2 | apply k3); refine blk_put (cs := #[.slice none 0 0, .slice none 0 0]) ?_ 0 _ rfl; (with_reducible repeat first | apply k1 | apply k2 | apply k3); exact BK229.out) Try.underlying28 rfl (by kernel_rfl)) rfl ?_
  exact ⟨_, _, by first | rfl | (simp [errW_none, errW_some] <;> rfl) | (simp [*, errW_none, errW_some] <;> rfl), Kd.V_nil _ _ _ _ _, by first | exact Kd.R_nil _ _ _ _ _ | exact Kd.N_nil _ _ _ _ _ | exact Kd.V_nil _ _ _ _ _ | exact Kd.Q_nil _ _ _ _ _ | exact Kd.S_nil _ _ _ _ _, by repeat (first | (with_reducible first | exact HB.out | apply below_alloc | apply pw_below_drewN | apply below_drew1 | refine below_set ?_ GE228.out | refine below_set ?_ GE229.out) | exact HB.out)⟩

end Go.Proofs.Ytcnanifokpcjaaa.PFnRights
