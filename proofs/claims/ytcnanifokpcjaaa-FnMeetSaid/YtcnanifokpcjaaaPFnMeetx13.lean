import Derived.Test.YtcnanifokpcjaaaPFnMeetx0
import Derived.Test.YtcnanifokpcjaaaPFnMeetx6
import Derived.Test.YtcnanifokpcjaaaPFnMeetx12
namespace Go.Proofs.Ytcnanifokpcjaaa.PFnMeet
open Go.RowKit Go.Proofs.YtcnanifokpcjaaaW.PrintWords Go.Proofs.YtcnanifokpcjaaaW.PrintLast Go.Proofs.YtcnanifokpcjaaaW.PrintMore
attribute [local go_sem] max2_int min2_int max_two min_two max_three min_three max_four min_four   -- for this text's walks alone
set_option linter.unusedVariables false
set_option linter.unusedSimpArgs false

/-! ### spec_MakeRights: function 35 -/
def spec_MakeRights.f (k : Nat) (l0 : List Int) (a1 : Int) (a2 : Int) : Option ((List (List Int)) × List Int) := (spec_l01New.f k l0).bind fun bt382 => ((spec_l06Draw.f k bt382.1 bt382.2.1 (wrap64 (bt382.2.2 + (wrap64 (100 * a2)))) a1).bind fun bt386 => (some (bt386.1, bt386.2.1)))
theorem spec_MakeRights.mono : ∀ a0 a1 a2 k, LeO (spec_MakeRights.f k a0 a1 a2) (spec_MakeRights.f (k + 1) a0 a1 a2) := by
 intro a0 a1 a2 k
 unfold spec_MakeRights.f
 repeat' first
   | (with_reducible exact spec_l01New.mono _ _)
   | (with_reducible exact spec_l06Draw.mono _ _ _ _ _)
   | (with_reducible exact LeO.refl _)
   | (with_reducible exact LeO.none _)
   | (with_reducible refine LeO.ite ?_ ?_)
   | (with_reducible refine LeO.bind ?_ (fun _ => ?_))
   | exact spec_l01New.mono _ _
   | exact spec_l06Draw.mono _ _ _ _ _
   | exact LeO.none _
   | refine LeO.ite ?_ ?_
   | refine LeO.bind ?_ (fun _ => ?_)
set_option maxHeartbeats 8000000 in
set_option maxRecDepth 100000 in
theorem spec_MakeRights.calls (k : Nat) (A0 : Option Addr) (c0 : Nat) (l0 : List Int) (a1 : Int) (a2 : Int) (r1 : List (List Int)) (r2 : List Int) (w : World) (hr0 : Kd.C (Kd.int .u8) w A0 l0.length l0) (hc0 : l0.length ≤ c0) (h : spec_MakeRights.f k l0 a1 a2 = some (r1, r2)) :
  Calls Try.prog 35 #[.slice A0 l0.length c0, .int .i64 a1, .int .i64 a2] w fun e w' => ∃ v0_ v1_ : Value, e = .returned (.agg #[v0_, v1_]) ∧ Kd.V (Kd.slice 3 (Kd.int .i64)) 23 w' w.heap.size (fun k_ => (w.heap.size ≤ k_) ∧ some k_ ≠ (v1_ : Value).ownBlock) v0_ r1 ∧ Kd.R (Kd.int .i64) 3 w' w.heap.size (fun k_ => (w.heap.size ≤ k_)) v1_ r2 ∧ Below w.heap.size w w' := by
 have hu28 := Try.underlying28
 have HR0 := Aside0.mk hr0
 have HC0 := Aside0.mk hc0
 clear hr0 hc0
 have HB := k0 (Below.refl w.heap.size w)
 have H : ((spec_l01New.f k l0).bind fun bt382 => ((spec_l06Draw.f k bt382.1 bt382.2.1 (wrap64 (bt382.2.2 + (wrap64 (100 * a2)))) a1).bind fun bt386 => (some (bt386.1, bt386.2.1)))) = some (r1, r2) := h
 clear h
 replace H := Option.bind_eq_some_iff.mp H
 obtain ⟨⟨t382, t383, t384⟩, A40, H⟩ := H
 replace H : ((spec_l06Draw.f k t382 t383 (wrap64 (t384 + (wrap64 (100 * a2)))) a1).bind fun bt386 => (some (bt386.1, bt386.2.1))) = some (r1, r2) := H
 have A4 := Aside0.mk A40
 clear A40
 replace H := Option.bind_eq_some_iff.mp H
 obtain ⟨⟨t386, t389, t392, t393⟩, A50, H⟩ := H
 replace H : (some (t386, t389)) = some (r1, r2) := H
 have A5 := Aside0.mk A50
 clear A50
 simp only [Option.some.injEq, Prod.mk.injEq] at H
 obtain ⟨rfl, rfl⟩ := H
 go_enter Try.func35, Try.ntmps35
 go_wp2_with (first | ((with_reducible refine gate_dst (N := 6) rfl ?_); refine kE (N := 6) (cs := #[.slice none 0 0, .slice none 0 0]) (t := 28) ?_; intro gb381 hg w6 hbox hb; have n0_ := k0 (below_step (kW HB.out) hb); have n1_ := k0 (hbox); have n2_ := k0 (kY HB.out hg); have n3_ := k0 (kY HB.out hg); clear HB; have HB := n0_; have BK381 := n1_; have GW381 := n2_; have GE381 := n3_; clear n0_ n1_ n2_ n3_; clear hb hbox hg) | ((with_reducible refine gate_callee (f := 63) rfl ?_); refine kG (some 9) Try.func63 #[.slice A0 l0.length c0] ?_; (with_reducible refine (spec_l01New.calls k _ _ l0 t382 t383 t384 w _ ?side1 ?side2 ?side3 A4.out).mono ?_); (case side1 => repeat (first | (with_reducible first | exact HB.out | apply below_alloc | apply pw_below_drewN | apply below_drew1 | refine below_set ?_ GE381.out) | exact HB.out)); (case side2 => exact HR0.out); (case side3 => exact HC0.out); rintro e w7 ⟨g385, rfl, hi, hb, hb2⟩; refine ⟨_, rfl, ?_⟩; have n0_ := k0 (blk_below (g := gb381) (o := .cells #[.slice none 0 0, .slice none 0 0] 28 (0, 0)) (kB BK381.out) hb2); have n1_ := k0 (hb); have n2_ := k0 (hi); have n3_ := k0 (IsS65.ne_blk hi (blk_below (g := gb381) (o := .cells #[.slice none 0 0, .slice none 0 0] 28 (0, 0)) (kB BK381.out) hb2) (by decide)); have n4_ := k0 (Ne.symm (IsS65.ne_blk hi (blk_below (g := gb381) (o := .cells #[.slice none 0 0, .slice none 0 0] 28 (0, 0)) (kB BK381.out) hb2) (by decide))); clear BK381; clear HB; have BK381 := n0_; have HB := n1_; have HI385 := n2_; have NB385_381 := n3_; have NB381_385 := n4_; clear n0_ n1_ n2_ n3_ n4_; (try clear hb); (try clear hb2); (try clear hk); (try clear hi); obtain ⟨ASz8_0, cSz8_0, HGz8, hgz8, HSz8_0, HTz8_0⟩ := HI385.out; have hcz8_0 := cellS65_0 HGz8; have hcz8_1 := cellS65_1 HGz8; have hcz8_2 := cellS65_2 HGz8; have hfz8_1 := blk_frozen HGz8 1; have hfz8_2 := blk_frozen HGz8 2; clear HGz8 hgz8) | ((with_reducible refine gate_callee (f := 65) rfl ?_); refine kG (some 22) Try.func65 #[.pointer (some ⟨g385, 0, none⟩), .int .i64 a1] ?_; (with_reducible refine (spec_l06Draw.calls k g385 t382 t383 (wrap64 (t384 + (wrap64 (100 * a2)))) a1 t386 t389 t392 t393 w _ ?side1 ?side2 A5.out).mono ?_); (case side1 => repeat (first | (with_reducible first | exact HI385.out | apply IsS65.alloc | apply IsS65.drewN | apply IsS65.drew | apply IsS65.set_1 | apply IsS65.set_2 | apply IsS65.farB NB385_381.out) | exact HI385.out)); (case side2 => repeat (first | (with_reducible first | exact HB.out | apply below_alloc | apply pw_below_drewN | apply below_drew1 | refine below_set ?_ (IsS65.ge HI385.out) | refine below_set ?_ GE381.out) | exact HB.out)); rintro e w9 ⟨v387, v390, rfl, ho0, ho1, hi, hb, hk⟩; refine ⟨_, rfl, ?_⟩; have n0_ := k0 (KeepBut.blk hk (g' := gb381) (o := .cells #[.slice none 0 0, .slice none 0 0] 28 (0, 0)) (by (with_reducible repeat first | apply k1 | apply k2 | apply k3); refine blk_far ?_ NB381_385.out _; (with_reducible repeat first | apply k1 | apply k2 | apply k3); exact BK381.out) NB381_385.out (by simp)); have n1_ := k0 (Kd.V_lower (Kd.V_mono (ok' := fun k_ => (w.heap.size ≤ k_) ∧ some k_ ≠ (v390 : Value).ownBlock ∧ k_ ≠ gb381 ∧ k_ ≠ g385) ho0 (fun k_ hk_ => ⟨(Nat.le_trans (below_size (by repeat (first | (with_reducible first | exact HB.out | apply below_alloc | apply pw_below_drewN | apply below_drew1 | refine below_set ?_ (IsS65.ge HI385.out) | refine below_set ?_ GE381.out) | exact HB.out))) hk_.1), hk_.2, (Kd.freshB (g := gb381) (o := .cells #[.slice none 0 0, .slice none 0 0] 28 (0, 0)) (by (with_reducible repeat first | apply k1 | apply k2 | apply k3); refine blk_far ?_ NB381_385.out _; (with_reducible repeat first | apply k1 | apply k2 | apply k3); exact BK381.out) k_ hk_.1), (IsS65.fresh (by repeat (first | (with_reducible first | exact HI385.out | apply IsS65.alloc | apply IsS65.drewN | apply IsS65.drew | apply IsS65.set_1 | apply IsS65.set_2 | apply IsS65.farB NB385_381.out) | exact HI385.out)) k_ hk_.1)⟩)) (below_size (by repeat (first | (with_reducible first | exact HB.out | apply below_alloc | apply pw_below_drewN | apply below_drew1 | refine below_set ?_ (IsS65.ge HI385.out) | refine below_set ?_ GE381.out) | exact HB.out)))); have n2_ := k0 (Kd.R_lower (Kd.R_newM (M := fun k_ => (w.heap.size ≤ k_)) (Kd.R_mono (ok' := fun k_ => True) ho1 (fun _ hk_ => trivial)) (below_size (by repeat (first | (with_reducible first | exact HB.out | apply below_alloc | apply pw_below_drewN | apply below_drew1 | refine below_set ?_ (IsS65.ge HI385.out) | refine below_set ?_ GE381.out) | exact HB.out))) (fun k_ h_ => h_)) (below_size (by repeat (first | (with_reducible first | exact HB.out | apply below_alloc | apply pw_below_drewN | apply below_drew1 | refine below_set ?_ (IsS65.ge HI385.out) | refine below_set ?_ GE381.out) | exact HB.out)))); have n3_ := k0 (hb); have n4_ := k0 (hi); clear BK381; clear HB; clear HI385; have BK381 := n0_; have HO388 := n1_; have HO391 := n2_; have HB := n3_; have HI385 := n4_; clear n0_ n1_ n2_ n3_ n4_; (try clear hb); (try clear hb2); (try clear hk); (try clear hi); (try clear ho0); (try clear ho1); obtain ⟨Ao10, co10, eo10⟩ := Kd.V_slice HO388.out; subst eo10; have hnb11 := NB381_385.out; have hnc11 := NB385_381.out; have hcz12_0 : w9.cell? ⟨gb381, 0, none⟩ = some (.slice none 0 0) := kx BK381.out; have hcz12_1 : w9.cell? ⟨gb381, 1, none⟩ = some (.slice none 0 0) := kx BK381.out; have hfz12_0 := blk_frozen BK381.out 0; have hfz12_1 := blk_frozen BK381.out 1; obtain ⟨Ao13, co13, eo13⟩ := Kd.R_slice HO391.out; subst eo13))
 refine bodyPost_ret (results_cell_row rfl _ _ gb381 28 #[.slice Ao10 t386.length co10, .slice Ao13 t389.length co13] (0, 0) _ rfl (by (with_reducible repeat first | apply k1 | apply k2 | apply k3); refine blk_put (cs := #[.slice Ao10 t386.length co10, .slice none 0 0]) ?_ 1 _ rfl; (with_reducible repeat first | apply k1 | apply k2 | apply k3); refine blk_put (cs := #[.slice none 0 0, .slice none 0 0]) ?_ 0 _ rfl; (with_reducible repeat first | apply k1 | apply k2 | apply k3); exact BK381.out) Try.underlying28 rfl (by kernel_rfl)) rfl ?_
 exact ⟨_, _, by first | rfl | (simp [errW_none, errW_some] <;> rfl) | (simp [*, errW_none, errW_some] <;> rfl), by (with_reducible repeat (first | apply Kd.V_alloc | apply Kd.V_drewN | apply Kd.V_drew)); exact Kd.V_mono (Kd.V_far (p := ⟨gb381, 1, none⟩) (Kd.V_far (p := ⟨gb381, 0, none⟩) (Kd.V_mono HO388.out (fun k_ hk => (⟨hk, hk.2.2.1⟩ : _ ∧ k_ ≠ gb381))) (fun _ hk => hk.2) (.slice Ao10 t386.length co10)) (fun _ hk => hk.2) (.slice Ao13 t389.length co13)) (fun _ hk => ⟨hk.1.1, hk.1.2.1⟩), by (with_reducible repeat (first | apply Kd.R_alloc | apply Kd.R_drewN | apply Kd.R_drew)); exact Kd.R_mono (Kd.R_far (p := ⟨gb381, 1, none⟩) (Kd.R_far (p := ⟨gb381, 0, none⟩) (Kd.R_types HO391.out BK381.out (by decide)) (fun _ hk => hk.2) (.slice Ao10 t386.length co10)) (fun _ hk => hk.2) (.slice Ao13 t389.length co13)) (fun _ hk => hk.1.1), by repeat (first | (with_reducible first | exact HB.out | apply below_alloc | apply pw_below_drewN | apply below_drew1 | refine below_set ?_ (IsS65.ge HI385.out) | refine below_set ?_ GE381.out) | exact HB.out)⟩

/-! ### impl_sameInts: function 66 -/
def impl_sameInts.l0 : Nat → List Int → List Int → Int → Int → Option (Bool)
 | 0, _, _, _, _ => none
 | k + 1, x0, x1, x12, x13 => if x13 < x12 then (if 0 ≤ x13 then (if x13 < (x0.length : Int) then (if x13 < (x1.length : Int) then (if (rd x0 x13) = (rd x1 x13) then (impl_sameInts.l0 k x0 x1 x12 (wrap64 (x13 + 1))) else (some false)) else (none)) else (none)) else (none)) else (some true)
def impl_sameInts.f (k : Nat) (l0 : List Int) (l1 : List Int) : Option (Bool) := if (l0.length : Int) = (l1.length : Int) then (impl_sameInts.l0 k l0 l1 (l0.length : Int) 0) else (some false)
theorem impl_sameInts.mono_l : ∀ k, (∀ y0 y1 y2 y3, LeO (impl_sameInts.l0 k y0 y1 y2 y3) (impl_sameInts.l0 (k + 1) y0 y1 y2 y3))
 | 0 => fun _ _ _ _ r h => by simp [impl_sameInts.l0] at h
 | k + 1 => by
  have ih0 := impl_sameInts.mono_l k
  ·intro y0 y1 y2 y3
   unfold impl_sameInts.l0
   repeat' first
   | (with_reducible exact ih0 _ _ _ _)
   | (with_reducible exact LeO.refl _)
   | (with_reducible exact LeO.none _)
   | (with_reducible refine LeO.ite ?_ ?_)
   | (with_reducible refine LeO.bind ?_ (fun _ => ?_))
   | exact ih0 _ _ _ _
   | exact LeO.none _
   | refine LeO.ite ?_ ?_
   | refine LeO.bind ?_ (fun _ => ?_)
theorem impl_sameInts.mono : ∀ a0 a1 k, LeO (impl_sameInts.f k a0 a1) (impl_sameInts.f (k + 1) a0 a1) := by
 intro a0 a1 k
 have ih0 := impl_sameInts.mono_l k
 unfold impl_sameInts.f
 repeat' first
   | (with_reducible exact ih0 _ _ _ _)
   | (with_reducible exact LeO.refl _)
   | (with_reducible exact LeO.none _)
   | (with_reducible refine LeO.ite ?_ ?_)
   | (with_reducible refine LeO.bind ?_ (fun _ => ?_))
   | exact ih0 _ _ _ _
   | exact LeO.none _
   | refine LeO.ite ?_ ?_
   | refine LeO.bind ?_ (fun _ => ?_)
set_option maxHeartbeats 8000000 in
set_option maxRecDepth 100000 in
theorem impl_sameInts.calls (k : Nat) (A0 : Option Addr) (c0 : Nat) (l0 : List Int) (A1 : Option Addr) (c1 : Nat) (l1 : List Int) (r : Bool) (w : World) (hr0 : Kd.C (Kd.int .i64) w A0 l0.length l0) (hc0 : l0.length ≤ c0) (hr1 : Kd.C (Kd.int .i64) w A1 l1.length l1) (hc1 : l1.length ≤ c1) (h : impl_sameInts.f k l0 l1 = some r) :
  Calls Try.prog 66 #[.slice A0 l0.length c0, .slice A1 l1.length c1] w fun e w' => e = .returned (.bool r) ∧ Drawn0 w w' := by
 have HR0 := Aside0.mk hr0
 have HC0 := Aside0.mk hc0
 clear hr0 hc0
 have HR1 := Aside0.mk hr1
 have HC1 := Aside0.mk hc1
 clear hr1 hc1
 have H : (if (l0.length : Int) = (l1.length : Int) then (impl_sameInts.l0 k l0 l1 (l0.length : Int) 0) else (some false)) = some r := h
 clear h
 by_cases c3 : (l0.length : Int) = (l1.length : Int)
 ·rw [if_pos c3] at H
  have c3b0 : ((l0.length : Int) == (l1.length : Int)) = true := beq_iff_eq.mpr c3
  have c3b1 : ((l0.length : Int) != (l1.length : Int)) = false := bne_eq_false_iff_eq.mpr c3
  have c3b2 : (l0.length == l1.length) = true := by first | simpa using c3 | (simp at c3 ⊢; omega)
  clear c3
  have H' := Aside0.mk H
  clear H
  go_enter Try.func66, Try.ntmps66
  go_wp2
  repeat (go_quiet (fail); try go_wp2)
  go_loopg [13] k (fun kq v13 w' => ∃ (x13_1 : Int), v13 = .int .i64 x13_1 ∧ Aside0 (impl_sameInts.l0 kq l0 l1 (l0.length : Int) x13_1 = some r) ∧ Aside0 (kq ≤ k) ∧ Drawn0 w w')
  case atStart => exact ⟨(0), (by first | rfl | (simp; done) | (simp [*]; done)), H', ⟨Nat.le_refl _⟩, by repeat (first | exact Drawn0.refl _ | apply Drawn0.step)⟩
  case round =>
   clear H'
   try clear c1
   try clear p2
   try clear c3
   try clear c3b0
   try clear c3b1
   try clear c3b2
   obtain ⟨x13_1, rfl, HA, HK1, ⟨m1, rfl⟩⟩ := hrel
   cases gk with
   | zero => exact absurd HA.out (by simp [impl_sameInts.l0])
   | succ k1 =>
    have H := HA.out
    clear HA
    simp only [impl_sameInts.l0] at H
    by_cases c4 : x13_1 < (l0.length : Int)
    ·rw [if_pos c4] at H
     have c4b0 : decide (x13_1 < (l0.length : Int)) = true := decide_eq_true c4
     clear c4
     by_cases c5 : 0 ≤ x13_1
     ·rw [if_pos c5] at H
      have c5b0 : decide (0 ≤ x13_1) = true := decide_eq_true c5
      clear c5
      by_cases c6 : x13_1 < (l0.length : Int)
      ·rw [if_pos c6] at H
       have c6b0 : decide (x13_1 < (l0.length : Int)) = true := decide_eq_true c6
       clear c6
       by_cases c7 : x13_1 < (l1.length : Int)
       ·rw [if_pos c7] at H
        have c7b0 : decide (x13_1 < (l1.length : Int)) = true := decide_eq_true c7
        clear c7
        by_cases c8 : (rd l0 x13_1) = (rd l1 x13_1)
        ·rw [if_pos c8] at H
         have c8b0 : ((rd l0 x13_1) == (rd l1 x13_1)) = true := beq_iff_eq.mpr c8
         have c8b1 : ((rd l0 x13_1) != (rd l1 x13_1)) = false := bne_eq_false_iff_eq.mpr c8
         clear c8
         have H' := Aside0.mk H
         clear H
         have p394 : 0 ≤ (x13_1 : Int) := kD
         have q394 : x13_1 < (l0.length : Int) := kD
         obtain ⟨ad394, e394, hx394_0⟩ := Kd.at_int HR0.out x13_1 p394 q394
         cases e394
         replace p394 := eq_true p394
         replace q394 := eq_true q394
         have p395 : 0 ≤ (x13_1 : Int) := kD
         have q395 : x13_1 < (l1.length : Int) := kD
         obtain ⟨ad395, e395, hx395_0⟩ := Kd.at_int HR1.out x13_1 p395 q395
         cases e395
         replace p395 := eq_true p395
         replace q395 := eq_true q395
         go_wp2
         repeat (go_quiet (fail); try go_wp2)
         go_roundg k1
         case measure => have := HK1.out; omega
         case rel => exact ⟨(wrap64 (x13_1 + 1)), (by first | rfl | (simp; done) | (simp [*]; done)), H', ⟨by have := HK1.out; omega⟩, by repeat (first | exact Drawn0.refl _ | apply Drawn0.step)⟩
        ·rw [if_neg c8] at H
         have c8b0 : ((rd l0 x13_1) == (rd l1 x13_1)) = false := beq_eq_false_iff_ne.mpr c8
         have c8b1 : ((rd l0 x13_1) != (rd l1 x13_1)) = true := bne_iff_ne.mpr c8
         obtain rfl := Option.some.inj H
         have p394 : 0 ≤ (x13_1 : Int) := kD
         have q394 : x13_1 < (l0.length : Int) := kD
         obtain ⟨ad394, e394, hx394_0⟩ := Kd.at_int HR0.out x13_1 p394 q394
         cases e394
         replace p394 := eq_true p394
         replace q394 := eq_true q394
         have p395 : 0 ≤ (x13_1 : Int) := kD
         have q395 : x13_1 < (l1.length : Int) := kD
         obtain ⟨ad395, e395, hx395_0⟩ := Kd.at_int HR1.out x13_1 p395 q395
         cases e395
         replace p395 := eq_true p395
         replace q395 := eq_true q395
         go_wp2
         repeat (go_quiet (fail); try go_wp2)
         go_ret
         exact ⟨by first | rfl | (simp; done) | (simp [*]; done), by repeat (first | exact Drawn0.refl _ | apply Drawn0.step)⟩
       ·rw [if_neg c7] at H
        exact absurd H (by simp)
      ·rw [if_neg c6] at H
       exact absurd H (by simp)
     ·rw [if_neg c5] at H
      exact absurd H (by simp)
    ·rw [if_neg c4] at H
     have c4b0 : decide (x13_1 < (l0.length : Int)) = false := decide_eq_false c4
     clear c4
     obtain rfl := Option.some.inj H
     go_wp2
     repeat (go_quiet (fail); try go_wp2)
     go_ret
     exact ⟨by first | rfl | (simp; done) | (simp [*]; done), by repeat (first | exact Drawn0.refl _ | apply Drawn0.step)⟩
 ·rw [if_neg c3] at H
  have c3b0 : ((l0.length : Int) == (l1.length : Int)) = false := beq_eq_false_iff_ne.mpr c3
  have c3b1 : ((l0.length : Int) != (l1.length : Int)) = true := bne_iff_ne.mpr c3
  have c3b2 : (l0.length == l1.length) = false := by first | simpa using c3 | (simp at c3 ⊢; omega)
  obtain rfl := Option.some.inj H
  go_enter Try.func66, Try.ntmps66
  go_wp2
  repeat (go_quiet (fail); try go_wp2)
  go_ret
  exact ⟨by first | rfl | (simp; done) | (simp [*]; done), by repeat (first | exact Drawn0.refl _ | apply Drawn0.step)⟩

/-! ### impl_RightsSame: function 36 -/
mutual
def impl_RightsSame.j0 : Nat → Bool → List (List Int) → List Int → List (List Int) → List Int → Option (Bool)
 | 0, _, _, _, _, _ => none
 | k + 1, x20, x397000, x397001, x398000, x398001 => if x20 = true then (some false) else (impl_RightsSame.l0 k (x397000.length : Int) 0 x397000 x397001 x398000 x398001)
def impl_RightsSame.l0 : Nat → Int → Int → List (List Int) → List Int → List (List Int) → List Int → Option (Bool)
 | 0, _, _, _, _, _, _ => none
 | k + 1, x23, x24, x397000, x397001, x398000, x398001 => if x24 < x23 then (if 0 ≤ x24 then (if x24 < (x397000.length : Int) then (if x24 < (x398000.length : Int) then ((impl_sameInts.f k (rd_L1 x397000 x24) (rd_L1 x398000 x24)).bind fun t401 => (if t401 = true then (impl_RightsSame.l0 k x23 (wrap64 (x24 + 1)) x397000 x397001 x398000 x398001) else (some false))) else (none)) else (none)) else (none)) else (some true)
end
def impl_RightsSame.f (k : Nat) (l0_0 : List (List Int)) (l0_1 : List Int) (l1_0 : List (List Int)) (l1_1 : List Int) : Option (Bool) := if (l0_0.length : Int) = (l1_0.length : Int) then ((impl_sameInts.f k l0_1 l1_1).bind fun t398 => (impl_RightsSame.j0 k (!t398) l0_0 l0_1 l1_0 l1_1)) else (impl_RightsSame.j0 k true l0_0 l0_1 l1_0 l1_1)
theorem impl_RightsSame.mono_l : ∀ k, (∀ y0 y1 y2 y3 y4, LeO (impl_RightsSame.j0 k y0 y1 y2 y3 y4) (impl_RightsSame.j0 (k + 1) y0 y1 y2 y3 y4)) ∧ (∀ y0 y1 y2 y3 y4 y5, LeO (impl_RightsSame.l0 k y0 y1 y2 y3 y4 y5) (impl_RightsSame.l0 (k + 1) y0 y1 y2 y3 y4 y5))
 | 0 => ⟨fun _ _ _ _ _ r h => by simp [impl_RightsSame.j0] at h, fun _ _ _ _ _ _ r h => by simp [impl_RightsSame.l0] at h⟩
 | k + 1 => by
  obtain ⟨ih0, ih1⟩ := impl_RightsSame.mono_l k
  refine ⟨?_, ?_⟩
  ·intro y0 y1 y2 y3 y4
   unfold impl_RightsSame.j0
   repeat' first
   | (with_reducible exact ih0 _ _ _ _ _)
   | (with_reducible exact ih1 _ _ _ _ _ _)
   | (with_reducible exact impl_sameInts.mono _ _ _)
   | (with_reducible exact LeO.refl _)
   | (with_reducible exact LeO.none _)
   | (with_reducible refine LeO.ite ?_ ?_)
   | (with_reducible refine LeO.bind ?_ (fun _ => ?_))
   | exact ih0 _ _ _ _ _
   | exact ih1 _ _ _ _ _ _
   | exact impl_sameInts.mono _ _ _
   | exact LeO.none _
   | refine LeO.ite ?_ ?_
   | refine LeO.bind ?_ (fun _ => ?_)
  ·intro y0 y1 y2 y3 y4 y5
   unfold impl_RightsSame.l0
   repeat' first
   | (with_reducible exact ih0 _ _ _ _ _)
   | (with_reducible exact ih1 _ _ _ _ _ _)
   | (with_reducible exact impl_sameInts.mono _ _ _)
   | (with_reducible exact LeO.refl _)
   | (with_reducible exact LeO.none _)
   | (with_reducible refine LeO.ite ?_ ?_)
   | (with_reducible refine LeO.bind ?_ (fun _ => ?_))
   | exact ih0 _ _ _ _ _
   | exact ih1 _ _ _ _ _ _
   | exact impl_sameInts.mono _ _ _
   | exact LeO.none _
   | refine LeO.ite ?_ ?_
   | refine LeO.bind ?_ (fun _ => ?_)
theorem impl_RightsSame.mono : ∀ a0 a1 a2 a3 k, LeO (impl_RightsSame.f k a0 a1 a2 a3) (impl_RightsSame.f (k + 1) a0 a1 a2 a3) := by
 intro a0 a1 a2 a3 k
 obtain ⟨ih0, ih1⟩ := impl_RightsSame.mono_l k
 unfold impl_RightsSame.f
 repeat' first
   | (with_reducible exact ih0 _ _ _ _ _)
   | (with_reducible exact ih1 _ _ _ _ _ _)
   | (with_reducible exact impl_sameInts.mono _ _ _)
   | (with_reducible exact LeO.refl _)
   | (with_reducible exact LeO.none _)
   | (with_reducible refine LeO.ite ?_ ?_)
   | (with_reducible refine LeO.bind ?_ (fun _ => ?_))
   | exact ih0 _ _ _ _ _
   | exact ih1 _ _ _ _ _ _
   | exact impl_sameInts.mono _ _ _
   | exact LeO.none _
   | refine LeO.ite ?_ ?_
   | refine LeO.bind ?_ (fun _ => ?_)
set_option maxHeartbeats 8000000 in
set_option maxRecDepth 100000 in
theorem impl_RightsSame.calls (k : Nat) (A0_0 : Option Addr) (c0_0 : Nat) (l0_0 : List (List Int)) (A0_1 : Option Addr) (c0_1 : Nat) (l0_1 : List Int) (A1_0 : Option Addr) (c1_0 : Nat) (l1_0 : List (List Int)) (A1_1 : Option Addr) (c1_1 : Nat) (l1_1 : List Int) (r : Bool) (w : World) (hr0_0 : Kd.C (Kd.slice 3 (Kd.int .i64)) w A0_0 l0_0.length l0_0) (hc0_0 : l0_0.length ≤ c0_0) (hr0_1 : Kd.C (Kd.int .i64) w A0_1 l0_1.length l0_1) (hc0_1 : l0_1.length ≤ c0_1) (hr1_0 : Kd.C (Kd.slice 3 (Kd.int .i64)) w A1_0 l1_0.length l1_0) (hc1_0 : l1_0.length ≤ c1_0) (hr1_1 : Kd.C (Kd.int .i64) w A1_1 l1_1.length l1_1) (hc1_1 : l1_1.length ≤ c1_1) (h : impl_RightsSame.f k l0_0 l0_1 l1_0 l1_1 = some r) :
  Calls Try.prog 36 #[.agg #[.slice A0_0 l0_0.length c0_0, .slice A0_1 l0_1.length c0_1], .agg #[.slice A1_0 l1_0.length c1_0, .slice A1_1 l1_1.length c1_1]] w fun e w' => e = .returned (.bool r) ∧ Below w.heap.size w w' := by
 have hu28 := Try.underlying28
 have HR0_0 := Aside0.mk hr0_0
 have HC0_0 := Aside0.mk hc0_0
 clear hr0_0 hc0_0
 have HR0_1 := Aside0.mk hr0_1
 have HC0_1 := Aside0.mk hc0_1
 clear hr0_1 hc0_1
 have HR1_0 := Aside0.mk hr1_0
 have HC1_0 := Aside0.mk hc1_0
 clear hr1_0 hc1_0
 have HR1_1 := Aside0.mk hr1_1
 have HC1_1 := Aside0.mk hc1_1
 clear hr1_1 hc1_1
 have HB := k0 (Below.refl w.heap.size w)
 have H : (if (l0_0.length : Int) = (l1_0.length : Int) then ((impl_sameInts.f k l0_1 l1_1).bind fun t398 => (impl_RightsSame.j0 k (!t398) l0_0 l0_1 l1_0 l1_1)) else (impl_RightsSame.j0 k true l0_0 l0_1 l1_0 l1_1)) = some r := h
 clear h
 have HC3 := Aside0.mk H
 clear H
 go_enter Try.func36, Try.ntmps36
 go_upto_region 1 with (first | ((with_reducible refine gate_dst (N := 2) rfl ?_); refine kE (N := 2) (cs := #[.slice A0_0 l0_0.length c0_0, .slice A0_1 l0_1.length c0_1]) (t := 28) ?_; intro gb396 hg w4 hbox hb; have n0_ := k0 (below_step (kW HB.out) hb); have n1_ := k0 (hbox); have n2_ := k0 (kY HB.out hg); have n3_ := k0 (kY HB.out hg); clear HB; have HB := n0_; have BK396 := n1_; have GW396 := n2_; have GE396 := n3_; clear n0_ n1_ n2_ n3_; clear hb hbox hg) | ((with_reducible refine gate_dst (N := 3) rfl ?_); refine kE (N := 3) (cs := #[.slice A1_0 l1_0.length c1_0, .slice A1_1 l1_1.length c1_1]) (t := 28) ?_; intro gb397 hg w5 hbox hb; have n0_ := k0 (kb BK396.out hb); have n1_ := k0 (below_step (kW HB.out) hb); have n2_ := k0 (hbox); have n3_ := k0 (kY HB.out hg); have n4_ := k0 (kY HB.out hg); have n5_ := k0 ((by rw [hg]; exact Nat.ne_of_lt (blk_lt (g := gb396) (o := .cells #[.slice A0_0 l0_0.length c0_0, .slice A0_1 l0_1.length c0_1] 28 (0, 0)) (kB BK396.out)) : gb396 ≠ gb397)); have n6_ := k0 ((by rw [hg]; exact Nat.ne_of_gt (blk_lt (g := gb396) (o := .cells #[.slice A0_0 l0_0.length c0_0, .slice A0_1 l0_1.length c0_1] 28 (0, 0)) (kB BK396.out)) : gb397 ≠ gb396)); clear BK396; clear HB; have BK396 := n0_; have HB := n1_; have BK397 := n2_; have GW397 := n3_; have GE397 := n4_; have NB396_397 := n5_; have NB397_396 := n6_; clear n0_ n1_ n2_ n3_ n4_ n5_ n6_; clear hb hbox hg))
 repeat (go_quiet (first | ((with_reducible refine gate_dst (N := 2) rfl ?_); refine kE (N := 2) (cs := #[.slice A0_0 l0_0.length c0_0, .slice A0_1 l0_1.length c0_1]) (t := 28) ?_; intro gb396 hg w4 hbox hb; have n0_ := k0 (below_step (kW HB.out) hb); have n1_ := k0 (hbox); have n2_ := k0 (kY HB.out hg); have n3_ := k0 (kY HB.out hg); clear HB; have HB := n0_; have BK396 := n1_; have GW396 := n2_; have GE396 := n3_; clear n0_ n1_ n2_ n3_; clear hb hbox hg) | ((with_reducible refine gate_dst (N := 3) rfl ?_); refine kE (N := 3) (cs := #[.slice A1_0 l1_0.length c1_0, .slice A1_1 l1_1.length c1_1]) (t := 28) ?_; intro gb397 hg w5 hbox hb; have n0_ := k0 (kb BK396.out hb); have n1_ := k0 (below_step (kW HB.out) hb); have n2_ := k0 (hbox); have n3_ := k0 (kY HB.out hg); have n4_ := k0 (kY HB.out hg); have n5_ := k0 ((by rw [hg]; exact Nat.ne_of_lt (blk_lt (g := gb396) (o := .cells #[.slice A0_0 l0_0.length c0_0, .slice A0_1 l0_1.length c0_1] 28 (0, 0)) (kB BK396.out)) : gb396 ≠ gb397)); have n6_ := k0 ((by rw [hg]; exact Nat.ne_of_gt (blk_lt (g := gb396) (o := .cells #[.slice A0_0 l0_0.length c0_0, .slice A0_1 l0_1.length c0_1] 28 (0, 0)) (kB BK396.out)) : gb397 ≠ gb396)); clear BK396; clear HB; have BK396 := n0_; have HB := n1_; have BK397 := n2_; have GW397 := n3_; have GE397 := n4_; have NB396_397 := n5_; have NB397_396 := n6_; clear n0_ n1_ n2_ n3_ n4_ n5_ n6_; clear hb hbox hg)); go_upto_region 1 with (first | ((with_reducible refine gate_dst (N := 2) rfl ?_); refine kE (N := 2) (cs := #[.slice A0_0 l0_0.length c0_0, .slice A0_1 l0_1.length c0_1]) (t := 28) ?_; intro gb396 hg w4 hbox hb; have n0_ := k0 (below_step (kW HB.out) hb); have n1_ := k0 (hbox); have n2_ := k0 (kY HB.out hg); have n3_ := k0 (kY HB.out hg); clear HB; have HB := n0_; have BK396 := n1_; have GW396 := n2_; have GE396 := n3_; clear n0_ n1_ n2_ n3_; clear hb hbox hg) | ((with_reducible refine gate_dst (N := 3) rfl ?_); refine kE (N := 3) (cs := #[.slice A1_0 l1_0.length c1_0, .slice A1_1 l1_1.length c1_1]) (t := 28) ?_; intro gb397 hg w5 hbox hb; have n0_ := k0 (kb BK396.out hb); have n1_ := k0 (below_step (kW HB.out) hb); have n2_ := k0 (hbox); have n3_ := k0 (kY HB.out hg); have n4_ := k0 (kY HB.out hg); have n5_ := k0 ((by rw [hg]; exact Nat.ne_of_lt (blk_lt (g := gb396) (o := .cells #[.slice A0_0 l0_0.length c0_0, .slice A0_1 l0_1.length c0_1] 28 (0, 0)) (kB BK396.out)) : gb396 ≠ gb397)); have n6_ := k0 ((by rw [hg]; exact Nat.ne_of_gt (blk_lt (g := gb396) (o := .cells #[.slice A0_0 l0_0.length c0_0, .slice A0_1 l0_1.length c0_1] 28 (0, 0)) (kB BK396.out)) : gb397 ≠ gb396)); clear BK396; clear HB; have BK396 := n0_; have HB := n1_; have BK397 := n2_; have GW397 := n3_; have GE397 := n4_; have NB396_397 := n5_; have NB397_396 := n6_; clear n0_ n1_ n2_ n3_ n4_ n5_ n6_; clear hb hbox hg)))
 (try simp only [Act.put, List.setIfInBounds_toArray, List.set_cons_zero, List.set_cons_succ])
 go_cut [20] (fun v20 wc => ∃ (kq : Nat) (x20_2 : Bool), v20 = .bool x20_2 ∧ Aside0 (impl_RightsSame.j0 kq x20_2 l0_0 l0_1 l1_0 l1_1 = some r) ∧ Aside0 (kq ≤ k) ∧ Aside0 (wc.heap[gb396]? = some (.cells #[(.slice A0_0 l0_0.length c0_0), (.slice A0_1 l0_1.length c0_1)] 28 (0, 0))) ∧ Aside0 (wc.heap[gb397]? = some (.cells #[(.slice A1_0 l1_0.length c1_0), (.slice A1_1 l1_1.length c1_1)] 28 (0, 0))) ∧ Aside0 (Below w.heap.size w wc))
 case first =>
  have H := HC3.out
  clear HC3
  by_cases c6 : (l0_0.length : Int) = (l1_0.length : Int)
  ·rw [if_pos c6] at H
   have c6b0 : ((l0_0.length : Int) == (l1_0.length : Int)) = true := beq_iff_eq.mpr c6
   have c6b1 : ((l0_0.length : Int) != (l1_0.length : Int)) = false := bne_eq_false_iff_eq.mpr c6
   have c6b2 : (l0_0.length == l1_0.length) = true := by first | simpa using c6 | (simp at c6 ⊢; omega)
   clear c6
   (first | rw [c6b0] | (simp only [i64_w, i32_w]; rw [c6b0]) | skip)
   replace H := Option.bind_eq_some_iff.mp H
   obtain ⟨t398, A70, H⟩ := H
   replace H : (impl_RightsSame.j0 k (!t398) l0_0 l0_1 l1_0 l1_1) = some r := H
   have A7 := Aside0.mk A70
   clear A70
   have H' := Aside0.mk H
   clear H
   have hnb8 := NB396_397.out
   have hnc8 := NB397_396.out
   have hcz9_0 : w5.cell? ⟨gb396, 0, none⟩ = some (.slice A0_0 l0_0.length c0_0) := kx BK396.out
   have hcz9_1 : w5.cell? ⟨gb396, 1, none⟩ = some (.slice A0_1 l0_1.length c0_1) := kx BK396.out
   have hfz9_0 := blk_frozen BK396.out 0
   have hfz9_1 := blk_frozen BK396.out 1
   have hcz10_0 : w5.cell? ⟨gb397, 0, none⟩ = some (.slice A1_0 l1_0.length c1_0) := kx BK397.out
   have hcz10_1 : w5.cell? ⟨gb397, 1, none⟩ = some (.slice A1_1 l1_1.length c1_1) := kx BK397.out
   have hfz10_0 := blk_frozen BK397.out 0
   have hfz10_1 := blk_frozen BK397.out 1
   go_wp2_with (first | (go_at_call 66; (with_reducible refine (impl_sameInts.calls k _ _ l0_1 _ _ l1_1 t398 _ ?side1 ?side2 ?side3 ?side4 A7.out).mono ?_); (case side1 => exact kC (Kd.C_below HR0_1.out HB.out)); (case side2 => exact HC0_1.out); (case side3 => exact kC (Kd.C_below HR1_1.out HB.out)); (case side4 => exact HC1_1.out); rintro e w' ⟨rfl, ⟨nd, rfl⟩⟩; (try first | exact ⟨rfl, _, World.drewN_drewN _ _ _⟩ | exact ⟨rfl, _, Eq.trans (World.drewN_drewN _ _ _) (congrArg (World.drewN _) (Nat.add_assoc _ _ _))⟩)))
   repeat (go_quiet (first | (go_at_call 66; (with_reducible refine (impl_sameInts.calls k _ _ l0_1 _ _ l1_1 t398 _ ?side1 ?side2 ?side3 ?side4 A7.out).mono ?_); (case side1 => exact kC (Kd.C_below HR0_1.out HB.out)); (case side2 => exact HC0_1.out); (case side3 => exact kC (Kd.C_below HR1_1.out HB.out)); (case side4 => exact HC1_1.out); rintro e w' ⟨rfl, ⟨nd, rfl⟩⟩; (try first | exact ⟨rfl, _, World.drewN_drewN _ _ _⟩ | exact ⟨rfl, _, Eq.trans (World.drewN_drewN _ _ _) (congrArg (World.drewN _) (Nat.add_assoc _ _ _))⟩))); try go_wp2_with (first | (go_at_call 66; (with_reducible refine (impl_sameInts.calls k _ _ l0_1 _ _ l1_1 t398 _ ?side1 ?side2 ?side3 ?side4 A7.out).mono ?_); (case side1 => exact kC (Kd.C_below HR0_1.out HB.out)); (case side2 => exact HC0_1.out); (case side3 => exact kC (Kd.C_below HR1_1.out HB.out)); (case side4 => exact HC1_1.out); rintro e w' ⟨rfl, ⟨nd, rfl⟩⟩; (try first | exact ⟨rfl, _, World.drewN_drewN _ _ _⟩ | exact ⟨rfl, _, Eq.trans (World.drewN_drewN _ _ _) (congrArg (World.drewN _) (Nat.add_assoc _ _ _))⟩))))
   go_meet
   case rel => exact ⟨_, (!t398), (by first | rfl | (simp; done) | (simp [*]; done)), H', ⟨by first | omega | exact Nat.le_refl _⟩, ⟨kB BK396.out⟩, ⟨kB BK397.out⟩, ⟨by repeat (first | (with_reducible first | exact HB.out | apply below_alloc | apply pw_below_drewN | apply below_drew1 | refine below_set ?_ GE396.out | refine below_set ?_ GE397.out) | exact HB.out)⟩⟩
  ·rw [if_neg c6] at H
   have c6b0 : ((l0_0.length : Int) == (l1_0.length : Int)) = false := beq_eq_false_iff_ne.mpr c6
   have c6b1 : ((l0_0.length : Int) != (l1_0.length : Int)) = true := bne_iff_ne.mpr c6
   have c6b2 : (l0_0.length == l1_0.length) = false := by first | simpa using c6 | (simp at c6 ⊢; omega)
   (first | rw [c6b0] | (simp only [i64_w, i32_w]; rw [c6b0]) | skip)
   have H' := Aside0.mk H
   clear H
   have hnb11 := NB396_397.out
   have hnc11 := NB397_396.out
   have hcz12_0 : w5.cell? ⟨gb396, 0, none⟩ = some (.slice A0_0 l0_0.length c0_0) := kx BK396.out
   have hcz12_1 : w5.cell? ⟨gb396, 1, none⟩ = some (.slice A0_1 l0_1.length c0_1) := kx BK396.out
   have hfz12_0 := blk_frozen BK396.out 0
   have hfz12_1 := blk_frozen BK396.out 1
   have hcz13_0 : w5.cell? ⟨gb397, 0, none⟩ = some (.slice A1_0 l1_0.length c1_0) := kx BK397.out
   have hcz13_1 : w5.cell? ⟨gb397, 1, none⟩ = some (.slice A1_1 l1_1.length c1_1) := kx BK397.out
   have hfz13_0 := blk_frozen BK397.out 0
   have hfz13_1 := blk_frozen BK397.out 1
   go_wp2
   repeat (go_quiet (fail); try go_wp2)
   go_meet
   case rel => exact ⟨_, (true), (by first | rfl | (simp; done) | (simp [*]; done)), H', ⟨by first | omega | exact Nat.le_refl _⟩, ⟨kB BK396.out⟩, ⟨kB BK397.out⟩, ⟨by repeat (first | (with_reducible first | exact HB.out | apply below_alloc | apply pw_below_drewN | apply below_drew1 | refine below_set ?_ GE396.out | refine below_set ?_ GE397.out) | exact HB.out)⟩⟩
 case rest =>
  clear HC3
  try clear c1
  try clear p2
  try clear c3
  try clear c6
  try clear c6b0
  try clear c6b1
  try clear c6b2
  try clear c8
  try clear c11
  try clear hcz10_0
  try clear hcz10_1
  try clear hcz12_0
  try clear hcz12_1
  try clear hcz13_0
  try clear hcz13_1
  try clear hcz9_0
  try clear hcz9_1
  try clear hfz10_0
  try clear hfz10_1
  try clear hfz12_0
  try clear hfz12_1
  try clear hfz13_0
  try clear hfz13_1
  try clear hfz9_0
  try clear hfz9_1
  obtain ⟨kq, x20_2, rfl, HA, HJ2, BK396, BK397, HB⟩ := hcut
  cases kq with
  | zero => exact absurd HA.out (by simp [impl_RightsSame.j0])
  | succ kj2 =>
   have H := HA.out
   clear HA
   simp only [impl_RightsSame.j0] at H
   by_cases c14 : x20_2 = true
   ·subst c14
    have H1 : (some false) = some r := by rw [if_pos rfl] at H; exact H
    clear H
    have H := H1
    clear H1
    obtain rfl := Option.some.inj H
    go_wp2
    repeat (go_quiet (fail); try go_wp2)
    go_ret
    exact ⟨by first | rfl | (simp [errW_none, errW_some] <;> rfl) | (simp [*, errW_none, errW_some] <;> rfl), by repeat (first | (with_reducible first | exact HB.out | apply below_alloc | apply pw_below_drewN | apply below_drew1 | refine below_set ?_ GE396.out | refine below_set ?_ GE397.out) | exact HB.out)⟩
   ·replace c14 := Bool.eq_false_iff.mpr c14
    subst c14
    have H1 : (impl_RightsSame.l0 kj2 (l0_0.length : Int) 0 l0_0 l0_1 l1_0 l1_1) = some r := by rw [if_neg (show ¬ (false = true) by decide)] at H; exact H
    clear H
    have H := H1
    clear H1
    have H' := Aside0.mk H
    clear H
    have hnb15 := NB396_397.out
    have hnc15 := NB397_396.out
    have hcz16_0 : wc.cell? ⟨gb396, 0, none⟩ = some (.slice A0_0 l0_0.length c0_0) := kx BK396.out
    have hcz16_1 : wc.cell? ⟨gb396, 1, none⟩ = some (.slice A0_1 l0_1.length c0_1) := kx BK396.out
    have hfz16_0 := blk_frozen BK396.out 0
    have hfz16_1 := blk_frozen BK396.out 1
    go_wp2
    repeat (go_quiet (fail); try go_wp2)
    go_loopg [24] kj2 (fun kq v24 w' => ∃ (x24_2 : Int), v24 = .int .i64 x24_2 ∧ Aside0 (impl_RightsSame.l0 kq (l0_0.length : Int) x24_2 l0_0 l0_1 l1_0 l1_1 = some r) ∧ Aside0 (kq ≤ kj2) ∧ Aside0 (w'.heap[gb396]? = some (.cells #[(.slice A0_0 l0_0.length c0_0), (.slice A0_1 l0_1.length c0_1)] 28 (0, 0))) ∧ Aside0 (w'.heap[gb397]? = some (.cells #[(.slice A1_0 l1_0.length c1_0), (.slice A1_1 l1_1.length c1_1)] 28 (0, 0))) ∧ Aside0 (Below w.heap.size w w'))
    case atStart => exact ⟨(0), (by first | rfl | (simp; done) | (simp [*]; done)), H', ⟨Nat.le_refl _⟩, ⟨kB BK396.out⟩, ⟨kB BK397.out⟩, ⟨by repeat (first | (with_reducible first | exact HB.out | apply below_alloc | apply pw_below_drewN | apply below_drew1 | refine below_set ?_ GE396.out | refine below_set ?_ GE397.out) | exact HB.out)⟩⟩
    case round =>
     clear H'
     try clear c1
     try clear p2
     try clear c3
     try clear c6
     try clear c6b0
     try clear c6b1
     try clear c6b2
     try clear c8
     try clear c11
     try clear c14
     try clear c15
     try clear hcz10_0
     try clear hcz10_1
     try clear hcz12_0
     try clear hcz12_1
     try clear hcz13_0
     try clear hcz13_1
     try clear hcz16_0
     try clear hcz16_1
     try clear hcz9_0
     try clear hcz9_1
     try clear hfz10_0
     try clear hfz10_1
     try clear hfz12_0
     try clear hfz12_1
     try clear hfz13_0
     try clear hfz13_1
     try clear hfz16_0
     try clear hfz16_1
     try clear hfz9_0
     try clear hfz9_1
     try clear p2
     obtain ⟨x24_2, rfl, HA, HK2, BK396, BK397, HB⟩ := hrel
     cases gk with
     | zero => exact absurd HA.out (by simp [impl_RightsSame.l0])
     | succ k2 =>
      have H := HA.out
      clear HA
      simp only [impl_RightsSame.l0] at H
      by_cases c17 : x24_2 < (l0_0.length : Int)
      ·rw [if_pos c17] at H
       have c17b0 : decide (x24_2 < (l0_0.length : Int)) = true := decide_eq_true c17
       clear c17
       by_cases c18 : 0 ≤ x24_2
       ·rw [if_pos c18] at H
        have c18b0 : decide (0 ≤ x24_2) = true := decide_eq_true c18
        clear c18
        by_cases c19 : x24_2 < (l0_0.length : Int)
        ·rw [if_pos c19] at H
         have c19b0 : decide (x24_2 < (l0_0.length : Int)) = true := decide_eq_true c19
         clear c19
         by_cases c20 : x24_2 < (l1_0.length : Int)
         ·rw [if_pos c20] at H
          have c20b0 : decide (x24_2 < (l1_0.length : Int)) = true := decide_eq_true c20
          clear c20
          replace H := Option.bind_eq_some_iff.mp H
          obtain ⟨t401, A210, H⟩ := H
          replace H : (if t401 = true then (impl_RightsSame.l0 k2 (l0_0.length : Int) (wrap64 (x24_2 + 1)) l0_0 l0_1 l1_0 l1_1) else (some false)) = some r := H
          have A21 := Aside0.mk A210
          clear A210
          by_cases c22 : t401 = true
          ·subst c22
           have H1 : (impl_RightsSame.l0 k2 (l0_0.length : Int) (wrap64 (x24_2 + 1)) l0_0 l0_1 l1_0 l1_1) = some r := by rw [if_pos rfl] at H; exact H
           clear H
           have H := H1
           clear H1
           have H' := Aside0.mk H
           clear H
           have hnb23 := NB396_397.out
           have hnc23 := NB397_396.out
           have hcz24_0 : wr.cell? ⟨gb396, 0, none⟩ = some (.slice A0_0 l0_0.length c0_0) := kx BK396.out
           have hcz24_1 : wr.cell? ⟨gb396, 1, none⟩ = some (.slice A0_1 l0_1.length c0_1) := kx BK396.out
           have hfz24_0 := blk_frozen BK396.out 0
           have hfz24_1 := blk_frozen BK396.out 1
           have p399 : 0 ≤ (x24_2 : Int) := kD
           have q399 : x24_2 < (l0_0.length : Int) := kD
           obtain ⟨ad399, A399_0, c399_0, e399, hx399_0, hl399_0, hi399_0⟩ := at_L1 HR0_0.out x24_2 p399 q399
           cases e399
           replace hx399_0 := (HB.out.cell (World.block_lt_of_cell? w _ hx399_0)).trans hx399_0
           have HR399_0 := Aside0.mk hi399_0
           have HC399_0 := Aside0.mk hl399_0
           clear hi399_0 hl399_0
           replace p399 := eq_true p399
           replace q399 := eq_true q399
           have hcz25_0 : wr.cell? ⟨gb397, 0, none⟩ = some (.slice A1_0 l1_0.length c1_0) := kx BK397.out
           have hcz25_1 : wr.cell? ⟨gb397, 1, none⟩ = some (.slice A1_1 l1_1.length c1_1) := kx BK397.out
           have hfz25_0 := blk_frozen BK397.out 0
           have hfz25_1 := blk_frozen BK397.out 1
           have p400 : 0 ≤ (x24_2 : Int) := kD
           have q400 : x24_2 < (l1_0.length : Int) := kD
           obtain ⟨ad400, A400_0, c400_0, e400, hx400_0, hl400_0, hi400_0⟩ := at_L1 HR1_0.out x24_2 p400 q400
           cases e400
           replace hx400_0 := (HB.out.cell (World.block_lt_of_cell? w _ hx400_0)).trans hx400_0
           have HR400_0 := Aside0.mk hi400_0
           have HC400_0 := Aside0.mk hl400_0
           clear hi400_0 hl400_0
           replace p400 := eq_true p400
           replace q400 := eq_true q400
           go_wp2_with (first | (go_at_call 66; (with_reducible refine (impl_sameInts.calls k2 _ _ (rd_L1 l0_0 x24_2) _ _ (rd_L1 l1_0 x24_2) true _ ?side1 ?side2 ?side3 ?side4 A21.out).mono ?_); (case side1 => exact kC (Kd.C_below HR399_0.out HB.out)); (case side2 => exact HC399_0.out); (case side3 => exact kC (Kd.C_below HR400_0.out HB.out)); (case side4 => exact HC400_0.out); rintro e w' ⟨rfl, ⟨nd, rfl⟩⟩; (try first | exact ⟨rfl, _, World.drewN_drewN _ _ _⟩ | exact ⟨rfl, _, Eq.trans (World.drewN_drewN _ _ _) (congrArg (World.drewN _) (Nat.add_assoc _ _ _))⟩)))
           repeat (go_quiet (first | (go_at_call 66; (with_reducible refine (impl_sameInts.calls k2 _ _ (rd_L1 l0_0 x24_2) _ _ (rd_L1 l1_0 x24_2) true _ ?side1 ?side2 ?side3 ?side4 A21.out).mono ?_); (case side1 => exact kC (Kd.C_below HR399_0.out HB.out)); (case side2 => exact HC399_0.out); (case side3 => exact kC (Kd.C_below HR400_0.out HB.out)); (case side4 => exact HC400_0.out); rintro e w' ⟨rfl, ⟨nd, rfl⟩⟩; (try first | exact ⟨rfl, _, World.drewN_drewN _ _ _⟩ | exact ⟨rfl, _, Eq.trans (World.drewN_drewN _ _ _) (congrArg (World.drewN _) (Nat.add_assoc _ _ _))⟩))); try go_wp2_with (first | (go_at_call 66; (with_reducible refine (impl_sameInts.calls k2 _ _ (rd_L1 l0_0 x24_2) _ _ (rd_L1 l1_0 x24_2) true _ ?side1 ?side2 ?side3 ?side4 A21.out).mono ?_); (case side1 => exact kC (Kd.C_below HR399_0.out HB.out)); (case side2 => exact HC399_0.out); (case side3 => exact kC (Kd.C_below HR400_0.out HB.out)); (case side4 => exact HC400_0.out); rintro e w' ⟨rfl, ⟨nd, rfl⟩⟩; (try first | exact ⟨rfl, _, World.drewN_drewN _ _ _⟩ | exact ⟨rfl, _, Eq.trans (World.drewN_drewN _ _ _) (congrArg (World.drewN _) (Nat.add_assoc _ _ _))⟩))))
           go_roundg k2
           case measure => have := HJ2.out; have := HK2.out; omega
           case rel => exact ⟨(wrap64 (x24_2 + 1)), (by first | rfl | (simp; done) | (simp [*]; done)), H', ⟨by have := HJ2.out; have := HK2.out; omega⟩, ⟨kB BK396.out⟩, ⟨kB BK397.out⟩, ⟨by repeat (first | (with_reducible first | exact HB.out | apply below_alloc | apply pw_below_drewN | apply below_drew1 | refine below_set ?_ GE396.out | refine below_set ?_ GE397.out) | exact HB.out)⟩⟩
          ·replace c22 := Bool.eq_false_iff.mpr c22
           subst c22
           have H1 : (some false) = some r := by rw [if_neg (show ¬ (false = true) by decide)] at H; exact H
           clear H
           have H := H1
           clear H1
           obtain rfl := Option.some.inj H
           have hnb26 := NB396_397.out
           have hnc26 := NB397_396.out
           have hcz27_0 : wr.cell? ⟨gb396, 0, none⟩ = some (.slice A0_0 l0_0.length c0_0) := kx BK396.out
           have hcz27_1 : wr.cell? ⟨gb396, 1, none⟩ = some (.slice A0_1 l0_1.length c0_1) := kx BK396.out
           have hfz27_0 := blk_frozen BK396.out 0
           have hfz27_1 := blk_frozen BK396.out 1
           have p399 : 0 ≤ (x24_2 : Int) := kD
           have q399 : x24_2 < (l0_0.length : Int) := kD
           obtain ⟨ad399, A399_0, c399_0, e399, hx399_0, hl399_0, hi399_0⟩ := at_L1 HR0_0.out x24_2 p399 q399
           cases e399
           replace hx399_0 := (HB.out.cell (World.block_lt_of_cell? w _ hx399_0)).trans hx399_0
           have HR399_0 := Aside0.mk hi399_0
           have HC399_0 := Aside0.mk hl399_0
           clear hi399_0 hl399_0
           replace p399 := eq_true p399
           replace q399 := eq_true q399
           have hcz28_0 : wr.cell? ⟨gb397, 0, none⟩ = some (.slice A1_0 l1_0.length c1_0) := kx BK397.out
           have hcz28_1 : wr.cell? ⟨gb397, 1, none⟩ = some (.slice A1_1 l1_1.length c1_1) := kx BK397.out
           have hfz28_0 := blk_frozen BK397.out 0
           have hfz28_1 := blk_frozen BK397.out 1
           have p400 : 0 ≤ (x24_2 : Int) := kD
           have q400 : x24_2 < (l1_0.length : Int) := kD
           obtain ⟨ad400, A400_0, c400_0, e400, hx400_0, hl400_0, hi400_0⟩ := at_L1 HR1_0.out x24_2 p400 q400
           cases e400
           replace hx400_0 := (HB.out.cell (World.block_lt_of_cell? w _ hx400_0)).trans hx400_0
           have HR400_0 := Aside0.mk hi400_0
           have HC400_0 := Aside0.mk hl400_0
           clear hi400_0 hl400_0
           replace p400 := eq_true p400
           replace q400 := eq_true q400
           go_wp2_with (first | (go_at_call 66; (with_reducible refine (impl_sameInts.calls k2 _ _ (rd_L1 l0_0 x24_2) _ _ (rd_L1 l1_0 x24_2) false _ ?side1 ?side2 ?side3 ?side4 A21.out).mono ?_); (case side1 => exact kC (Kd.C_below HR399_0.out HB.out)); (case side2 => exact HC399_0.out); (case side3 => exact kC (Kd.C_below HR400_0.out HB.out)); (case side4 => exact HC400_0.out); rintro e w' ⟨rfl, ⟨nd, rfl⟩⟩; (try first | exact ⟨rfl, _, World.drewN_drewN _ _ _⟩ | exact ⟨rfl, _, Eq.trans (World.drewN_drewN _ _ _) (congrArg (World.drewN _) (Nat.add_assoc _ _ _))⟩)))
           repeat (go_quiet (first | (go_at_call 66; (with_reducible refine (impl_sameInts.calls k2 _ _ (rd_L1 l0_0 x24_2) _ _ (rd_L1 l1_0 x24_2) false _ ?side1 ?side2 ?side3 ?side4 A21.out).mono ?_); (case side1 => exact kC (Kd.C_below HR399_0.out HB.out)); (case side2 => exact HC399_0.out); (case side3 => exact kC (Kd.C_below HR400_0.out HB.out)); (case side4 => exact HC400_0.out); rintro e w' ⟨rfl, ⟨nd, rfl⟩⟩; (try first | exact ⟨rfl, _, World.drewN_drewN _ _ _⟩ | exact ⟨rfl, _, Eq.trans (World.drewN_drewN _ _ _) (congrArg (World.drewN _) (Nat.add_assoc _ _ _))⟩))); try go_wp2_with (first | (go_at_call 66; (with_reducible refine (impl_sameInts.calls k2 _ _ (rd_L1 l0_0 x24_2) _ _ (rd_L1 l1_0 x24_2) false _ ?side1 ?side2 ?side3 ?side4 A21.out).mono ?_); (case side1 => exact kC (Kd.C_below HR399_0.out HB.out)); (case side2 => exact HC399_0.out); (case side3 => exact kC (Kd.C_below HR400_0.out HB.out)); (case side4 => exact HC400_0.out); rintro e w' ⟨rfl, ⟨nd, rfl⟩⟩; (try first | exact ⟨rfl, _, World.drewN_drewN _ _ _⟩ | exact ⟨rfl, _, Eq.trans (World.drewN_drewN _ _ _) (congrArg (World.drewN _) (Nat.add_assoc _ _ _))⟩))))
           go_ret
           exact ⟨by first | rfl | (simp [errW_none, errW_some] <;> rfl) | (simp [*, errW_none, errW_some] <;> rfl), by repeat (first | (with_reducible first | exact HB.out | apply below_alloc | apply pw_below_drewN | apply below_drew1 | refine below_set ?_ GE396.out | refine below_set ?_ GE397.out) | exact HB.out)⟩
         ·rw [if_neg c20] at H
          exact absurd H (by simp)
        ·rw [if_neg c19] at H
         exact absurd H (by simp)
       ·rw [if_neg c18] at H
        exact absurd H (by simp)
      ·rw [if_neg c17] at H
       have c17b0 : decide (x24_2 < (l0_0.length : Int)) = false := decide_eq_false c17
       clear c17
       obtain rfl := Option.some.inj H
       go_wp2
       repeat (go_quiet (fail); try go_wp2)
       go_ret
       exact ⟨by first | rfl | (simp [errW_none, errW_some] <;> rfl) | (simp [*, errW_none, errW_some] <;> rfl), by repeat (first | (with_reducible first | exact HB.out | apply below_alloc | apply pw_below_drewN | apply below_drew1 | refine below_set ?_ GE396.out | refine below_set ?_ GE397.out) | exact HB.out)⟩

end Go.Proofs.Ytcnanifokpcjaaa.PFnMeet
