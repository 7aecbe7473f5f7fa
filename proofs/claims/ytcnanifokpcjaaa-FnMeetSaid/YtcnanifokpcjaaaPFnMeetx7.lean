import Derived.Test.YtcnanifokpcjaaaPFnMeetx0
namespace Go.Proofs.Ytcnanifokpcjaaa.PFnMeet
open Go.RowKit Go.Proofs.YtcnanifokpcjaaaW.PrintWords Go.Proofs.YtcnanifokpcjaaaW.PrintLast Go.Proofs.YtcnanifokpcjaaaW.PrintMore
attribute [local go_sem] max2_int min2_int max_two min_two max_three min_three max_four min_four   -- for this text's walks alone
set_option linter.unusedVariables false
set_option linter.unusedSimpArgs false

/-! ### spec_l06Copy: function 50 -/
def spec_l06Copy.l0 : Nat → List (List Int) → Int → Int → List (List Int) → List Int → Option ((List (List Int)) × List Int)
 | 0, _, _, _, _, _ => none
 | k + 1, x12, x13, x14, x206000, x206001 => if x14 < x13 then (if 0 ≤ x14 then (if x14 < (x12.length : Int) then ((some (([] : List Int) : List Int)).bind fun y207 => (if y207.length + (rd_L1 x12 x14).length < 17592186044416 then (if x206000.length < 5864062014805 then (spec_l06Copy.l0 k x12 x13 (wrap64 (x14 + 1)) (x206000 ++ [(y207 ++ (rd_L1 x12 x14))]) x206001) else (none)) else (none))) else (none)) else (none)) else (some (x206000, x206001))
def spec_l06Copy.f (k : Nat) (l0_0 : List (List Int)) (l0_1 : List Int) : Option ((List (List Int)) × List Int) := (some (([] : List Int) : List Int)).bind fun y199 => (if y199.length + l0_1.length < 17592186044416 then (spec_l06Copy.l0 k l0_0 (l0_0.length : Int) 0 ([] : List (List Int)) (y199 ++ l0_1)) else (none))
theorem spec_l06Copy.mono_l : ∀ k, (∀ y0 y1 y2 y3 y4, LeO (spec_l06Copy.l0 k y0 y1 y2 y3 y4) (spec_l06Copy.l0 (k + 1) y0 y1 y2 y3 y4))
 | 0 => fun _ _ _ _ _ r h => by simp [spec_l06Copy.l0] at h
 | k + 1 => by
  have ih0 := spec_l06Copy.mono_l k
  ·intro y0 y1 y2 y3 y4
   unfold spec_l06Copy.l0
   repeat' first
   | (with_reducible exact ih0 _ _ _ _ _)
   | (with_reducible exact LeO.refl _)
   | (with_reducible exact LeO.none _)
   | (with_reducible refine LeO.ite ?_ ?_)
   | (with_reducible refine LeO.bind ?_ (fun _ => ?_))
   | exact ih0 _ _ _ _ _
   | exact LeO.none _
   | refine LeO.ite ?_ ?_
   | refine LeO.bind ?_ (fun _ => ?_)
theorem spec_l06Copy.mono : ∀ a0 a1 k, LeO (spec_l06Copy.f k a0 a1) (spec_l06Copy.f (k + 1) a0 a1) := by
 intro a0 a1 k
 have ih0 := spec_l06Copy.mono_l k
 unfold spec_l06Copy.f
 repeat' first
   | (with_reducible exact ih0 _ _ _ _ _)
   | (with_reducible exact LeO.refl _)
   | (with_reducible exact LeO.none _)
   | (with_reducible refine LeO.ite ?_ ?_)
   | (with_reducible refine LeO.bind ?_ (fun _ => ?_))
   | exact ih0 _ _ _ _ _
   | exact LeO.none _
   | refine LeO.ite ?_ ?_
   | refine LeO.bind ?_ (fun _ => ?_)
def spec_l06Copy.T5 : Bool × List (List Nat × List Nat) := (true, [([], []), ([0], [0]), ([], []), ([], []), ([2, 3], [2, 3]), ([4], [4]), ([1, 5, 4], [1, 5]), ([0, 1, 2, 3, 4, 5, 6], []), ([7, 6, 6, 0, 1, 2, 3, 4, 5, 6], [6, 7])])
def spec_l06Copy.B5 : List Nat := [0, 1, 0, 0, 12, 28, 63, 127, 255]
theorem spec_l06Copy.tab5 : rtab .any (opsOf Try.f50 5) = spec_l06Copy.T5 := by kernel_rfl
theorem spec_l06Copy.bits5 : waitsOk spec_l06Copy.T5.2 spec_l06Copy.B5 = true := by kernel_rfl
set_option maxHeartbeats 8000000 in
set_option maxRecDepth 100000 in
theorem spec_l06Copy.calls (k : Nat) (A0_0 : Option Addr) (c0_0 : Nat) (l0_0 : List (List Int)) (A0_1 : Option Addr) (c0_1 : Nat) (l0_1 : List Int) (r1 : List (List Int)) (r2 : List Int) (w : World) (hr0_0 : Kd.C (Kd.slice 3 (Kd.int .i64)) w A0_0 l0_0.length l0_0) (hc0_0 : l0_0.length ≤ c0_0) (hr0_1 : Kd.C (Kd.int .i64) w A0_1 l0_1.length l0_1) (hc0_1 : l0_1.length ≤ c0_1) (h : spec_l06Copy.f k l0_0 l0_1 = some (r1, r2)) :
  Calls Try.prog 50 #[.agg #[.slice A0_0 l0_0.length c0_0, .slice A0_1 l0_1.length c0_1]] w fun e w' => ∃ v0_ v1_ : Value, e = .returned (.agg #[v0_, v1_]) ∧ Kd.S (Kd.slice 3 (Kd.int .i64)) 23 w' w.heap.size (fun k_ => some k_ ≠ (v1_ : Value).ownBlock) v0_ r1 ∧ Kd.R (Kd.int .i64) 3 w' w.heap.size (fun _ => True) v1_ r2 ∧ Below w.heap.size w w' := by
 have hu28 := Try.underlying28
 have HR0_0 := Aside0.mk hr0_0
 have HC0_0 := Aside0.mk hc0_0
 clear hr0_0 hc0_0
 have HR0_1 := Aside0.mk hr0_1
 have HC0_1 := Aside0.mk hc0_1
 clear hr0_1 hc0_1
 have HB := k0 (Below.refl w.heap.size w)
 have H : ((some (([] : List Int) : List Int)).bind fun y199 => (if y199.length + l0_1.length < 17592186044416 then (spec_l06Copy.l0 k l0_0 (l0_0.length : Int) 0 ([] : List (List Int)) (y199 ++ l0_1)) else (none))) = some (r1, r2) := h
 clear h
 obtain ⟨y199, hy199⟩ : ∃ y_ : List Int, y_ = (([] : List Int)) := ⟨_, rfl⟩
 replace H : (if y199.length + l0_1.length < 17592186044416 then (spec_l06Copy.l0 k l0_0 (l0_0.length : Int) 0 ([] : List (List Int)) (y199 ++ l0_1)) else (none)) = some (r1, r2) := by first | (rw [hy199]; with_reducible exact H) | (have H2_ := (Option.bind_some _ _).symm.trans H; rw [hy199]; with_reducible exact H2_) | (have H2_ := (Option.bind_some _ _).symm.trans H; with_reducible exact H2_) | with_reducible exact H | (rw [hy199]; exact H) | exact H
 have Ny199 := Aside0.mk hy199
 clear hy199
 by_cases c2 : y199.length + l0_1.length < 17592186044416
 ·rw [if_pos c2] at H
  have LMc2 := Aside0.mk c2
  clear c2
  obtain ⟨y202, hy202⟩ : ∃ y_ : List Int, y_ = (y199 ++ l0_1) := ⟨_, rfl⟩
  replace H : (spec_l06Copy.l0 k l0_0 (l0_0.length : Int) 0 ([] : List (List Int)) y202) = some (r1, r2) := by first | (rw [hy202]; with_reducible exact H) | (have H2_ := (Option.bind_some _ _).symm.trans H; rw [hy202]; with_reducible exact H2_) | (have H2_ := (Option.bind_some _ _).symm.trans H; with_reducible exact H2_) | with_reducible exact H | (rw [hy202]; exact H) | exact H
  have Ny202 := Aside0.mk hy202
  clear hy202
  have H' := Aside0.mk H
  clear H
  go_enter Try.func50, Try.ntmps50
  go_wp2_with (first | ((with_reducible refine gate_dst (N := 1) rfl ?_); refine kE (N := 1) (cs := #[.slice A0_0 l0_0.length c0_0, .slice A0_1 l0_1.length c0_1]) (t := 28) ?_; intro gb197 hg w3 hbox hb; have n0_ := k0 (below_step (kW HB.out) hb); have n1_ := k0 (hbox); have n2_ := k0 (kY HB.out hg); have n3_ := k0 (kY HB.out hg); clear HB; have HB := n0_; have BK197 := n1_; have GW197 := n2_; have GE197 := n3_; clear n0_ n1_ n2_ n3_; clear hb hbox hg) | ((with_reducible refine gate_dst (N := 2) rfl ?_); refine kE (N := 2) (cs := #[.slice none 0 0, .slice none 0 0]) (t := 28) ?_; intro gb198 hg w4 hbox hb; have n0_ := k0 (kb BK197.out hb); have n1_ := k0 (below_step (kW HB.out) hb); have n2_ := k0 (hbox); have n3_ := k0 (kY HB.out hg); have n4_ := k0 (kY HB.out hg); have n5_ := k0 ((by rw [hg]; exact Nat.ne_of_lt (blk_lt (g := gb197) (o := .cells #[.slice A0_0 l0_0.length c0_0, .slice A0_1 l0_1.length c0_1] 28 (0, 0)) (kB BK197.out)) : gb197 ≠ gb198)); have n6_ := k0 ((by rw [hg]; exact Nat.ne_of_gt (blk_lt (g := gb197) (o := .cells #[.slice A0_0 l0_0.length c0_0, .slice A0_1 l0_1.length c0_1] 28 (0, 0)) (kB BK197.out)) : gb198 ≠ gb197)); clear BK197; clear HB; have BK197 := n0_; have HB := n1_; have BK198 := n2_; have GW198 := n3_; have GE198 := n4_; have NB197_198 := n5_; have NB198_197 := n6_; clear n0_ n1_ n2_ n3_ n4_ n5_ n6_; clear hb hbox hg) | ((with_reducible refine gate_dst (N := 6) rfl ?_); refine Kd.R_lit (Kd.int .i64) _ 3 ?hg (N := 6) ?hd (xs := ([] : List Int)) (inner := []) (ok := fun _ => True) (okp := fun _ => True) ?hr ?hp (fun _ hk => hk) trivial (Below.refl _ _) (Nat.le_refl _) (by simp) ?_; (case hd => rfl); (case hg => rfl); (case hr => first | (go_simp; done) | (go_simp; rfl)); (case hp => exact (Reps.none _ _)); intro v200 w5 ho6 hb hg_ hnew_; clear hg_ hnew_; (first | rw [← Ny199.out] at ho6 | (simp only [Int.reduceToNat] at ho6; rw [← Ny199.out] at ho6)); have n0_ := k0 (Kd.R_lower ho6 (below_size (kW HB.out))); have n1_ := k0 (kb BK197.out hb); have n2_ := k0 (kb BK198.out hb); have n3_ := k0 (below_step (kW HB.out) hb); clear BK197; clear BK198; clear HB; have HO201 := n0_; have BK197 := n1_; have BK198 := n2_; have HB := n3_; clear n0_ n1_ n2_ n3_; clear hb ho6; have hnb7 := NB197_198.out; have hnc7 := NB198_197.out; have hcz8_0 : w5.cell? ⟨gb197, 0, none⟩ = some (.slice A0_0 l0_0.length c0_0) := kx BK197.out; have hcz8_1 : w5.cell? ⟨gb197, 1, none⟩ = some (.slice A0_1 l0_1.length c0_1) := kx BK197.out; have hfz8_0 := blk_frozen BK197.out 0; have hfz8_1 := blk_frozen BK197.out 1) | ((with_reducible refine gate_builtin (b := .append) (xs := #[.tmp 6, .tmp 8]) rfl ?_); at_builtin; refine Kd.R_append_rows (Kd.int .i64) (w0 := w) w.heap.size rfl (.tmp 6) (.tmp 8) 23 3 (.int .i64 0) 8 rfl Try.underlying23 info3 rfl (by decide) (by omega) v200 y199 l0_1 _ _ _ (fun _ => True) (fun _ => False) rfl rfl ?aO ?aR (fun _ _ h => h) (fun _ h => h.elim) ?aF ?aB ?aS ?aL ?_; (case aR => exact kC (Kd.C_below HR0_1.out HB.out)); (case aB => exact (kW HB.out)); (case aF => exact (fun _ _ => trivial)); (case aO => exact (kR HO201.out)); (case aS => exact (below_size (kW HB.out))); (case aL => have := LMc2.out; omega); intro v203 w9 ho hb hg hat; rw [← Ny202.out] at ho; have n0_ := k0 (blk_grown (g := gb197) (o := .cells #[.slice A0_0 l0_0.length c0_0, .slice A0_1 l0_1.length c0_1] 28 (0, 0)) (kB BK197.out) hg (Kd.R_ne HO201.out BK197.out (by decide))); have n1_ := k0 (blk_grown (g := gb198) (o := .cells #[.slice none 0 0, .slice none 0 0] 28 (0, 0)) (kB BK198.out) hg (Kd.R_ne HO201.out BK198.out (by decide))); have n2_ := k0 (hb); have n3_ := k0 (ho); clear BK197; clear BK198; clear HB; clear HO201; have BK197 := n0_; have BK198 := n1_; have HB := n2_; have HO204 := n3_; clear n0_ n1_ n2_ n3_; clear ho hb hg hat; obtain ⟨Ao10, co10, eo10⟩ := Kd.R_slice HO204.out; subst eo10) | ((with_reducible refine gate_dst (N := 3) rfl ?_); refine kE (N := 3) (cs := #[.slice none 0 0, .slice none 0 0]) (t := 28) ?_; intro gb205 hg w11 hbox hb; have n0_ := k0 (Kd.R_below (kR HO204.out) hb); have n1_ := k0 (kb BK197.out hb); have n2_ := k0 (kb BK198.out hb); have n3_ := k0 (below_step (kW HB.out) hb); have n4_ := k0 (hbox); have n5_ := k0 (kY HB.out hg); have n6_ := k0 (kY HB.out hg); have n7_ := k0 ((by rw [hg]; exact Nat.ne_of_lt (blk_lt (g := gb197) (o := .cells #[.slice A0_0 l0_0.length c0_0, .slice A0_1 l0_1.length c0_1] 28 (0, 0)) (kB BK197.out)) : gb197 ≠ gb205)); have n8_ := k0 ((by rw [hg]; exact Nat.ne_of_gt (blk_lt (g := gb197) (o := .cells #[.slice A0_0 l0_0.length c0_0, .slice A0_1 l0_1.length c0_1] 28 (0, 0)) (kB BK197.out)) : gb205 ≠ gb197)); have n9_ := k0 ((by rw [hg]; exact Nat.ne_of_lt (blk_lt (g := gb198) (o := .cells #[.slice none 0 0, .slice none 0 0] 28 (0, 0)) (kB BK198.out)) : gb198 ≠ gb205)); have n10_ := k0 ((by rw [hg]; exact Nat.ne_of_gt (blk_lt (g := gb198) (o := .cells #[.slice none 0 0, .slice none 0 0] 28 (0, 0)) (kB BK198.out)) : gb205 ≠ gb198)); clear HO204; clear BK197; clear BK198; clear HB; have HO204 := n0_; have BK197 := n1_; have BK198 := n2_; have HB := n3_; have BK205 := n4_; have GW205 := n5_; have GE205 := n6_; have NB197_205 := n7_; have NB205_197 := n8_; have NB198_205 := n9_; have NB205_198 := n10_; clear n0_ n1_ n2_ n3_ n4_ n5_ n6_ n7_ n8_ n9_ n10_; clear hb hbox hg; have hnb12 := NB205_197.out; have hnc12 := NB197_205.out; have hnb13 := NB205_198.out; have hnc13 := NB198_205.out; have hcz14_0 : w11.cell? ⟨gb205, 0, none⟩ = some (.slice none 0 0) := kx BK205.out; have hcz14_1 : w11.cell? ⟨gb205, 1, none⟩ = some (.slice none 0 0) := kx BK205.out; have hfz14_0 := blk_frozen BK205.out 0; have hfz14_1 := blk_frozen BK205.out 1; have hcz15_0 : w11.cell? ⟨gb197, 0, none⟩ = some (.slice A0_0 l0_0.length c0_0) := kx BK197.out; have hcz15_1 : w11.cell? ⟨gb197, 1, none⟩ = some (.slice A0_1 l0_1.length c0_1) := kx BK197.out; have hfz15_0 := blk_frozen BK197.out 0; have hfz15_1 := blk_frozen BK197.out 1))
  go_loopg [14] k (fun kq v14 w' => ∃ (x14_1 : Int) (x206000_1 : List (List Int)) (u206000 : Value), v14 = .int .i64 x14_1 ∧ Aside0 (spec_l06Copy.l0 kq l0_0 (l0_0.length : Int) x14_1 x206000_1 y202 = some (r1, r2)) ∧ Aside0 (kq ≤ k) ∧ Aside0 (Kd.S (Kd.slice 3 (Kd.int .i64)) 23 w' w.heap.size (fun k_ => some k_ ≠ ((.slice Ao10 y202.length co10) : Value).ownBlock) u206000 x206000_1) ∧ Aside0 (Kd.R (Kd.int .i64) 3 w' w.heap.size (fun _ => True) (.slice Ao10 y202.length co10) y202) ∧ Aside0 (w'.heap[gb197]? = some (.cells #[(.slice A0_0 l0_0.length c0_0), (.slice A0_1 l0_1.length c0_1)] 28 (0, 0))) ∧ Aside0 (w'.heap[gb198]? = some (.cells #[(.slice none 0 0), (.slice none 0 0)] 28 (0, 0))) ∧ Aside0 (w'.heap[gb205]? = some (.cells #[u206000, (.slice Ao10 y202.length co10)] 28 (0, 0))) ∧ Aside0 (Below w.heap.size w w'))
  case atStart => exact ⟨(0), (([] : List (List Int))), (.slice none 0 0), (by first | rfl | (simp; done) | (simp [*]; done)), H', ⟨Nat.le_refl _⟩, ⟨by first | exact Kd.S_nil _ _ _ _ _ | exact Kd.N_nil _ _ _ _ _ | exact Kd.V_nil _ _ _ _ _ | exact Kd.Q_nil _ _ _ _ _ | exact Kd.R_nil _ _ _ _ _⟩, ⟨by (with_reducible repeat (first | apply Kd.R_alloc | apply Kd.R_drewN | apply Kd.R_drew)); exact Kd.R_mono (Kd.R_far (p := ⟨gb205, 1, none⟩) (Kd.R_far (p := ⟨gb205, 0, none⟩) (Kd.R_types HO204.out BK205.out (by decide)) (fun _ hk => hk.2) (.slice none 0 0)) (fun _ hk => hk.2) (.slice Ao10 y202.length co10)) (fun _ hk => trivial)⟩, ⟨by (with_reducible repeat first | apply k1 | apply k2 | apply k3); refine blk_far ?_ NB197_205.out _; (with_reducible repeat first | apply k1 | apply k2 | apply k3); refine blk_far ?_ NB197_205.out _; (with_reducible repeat first | apply k1 | apply k2 | apply k3); exact BK197.out⟩, ⟨by (with_reducible repeat first | apply k1 | apply k2 | apply k3); refine blk_far ?_ NB198_205.out _; (with_reducible repeat first | apply k1 | apply k2 | apply k3); refine blk_far ?_ NB198_205.out _; (with_reducible repeat first | apply k1 | apply k2 | apply k3); exact BK198.out⟩, ⟨by (with_reducible repeat first | apply k1 | apply k2 | apply k3); refine blk_put (cs := #[.slice none 0 0, .slice none 0 0]) ?_ 1 _ rfl; (with_reducible repeat first | apply k1 | apply k2 | apply k3); refine blk_put (cs := #[.slice none 0 0, .slice none 0 0]) ?_ 0 _ rfl; (with_reducible repeat first | apply k1 | apply k2 | apply k3); exact BK205.out⟩, ⟨by repeat (first | (with_reducible first | exact HB.out | apply below_alloc | apply pw_below_drewN | apply below_drew1 | refine below_set ?_ GE197.out | refine below_set ?_ GE198.out | refine below_set ?_ GE205.out) | exact HB.out)⟩⟩
  case round =>
   clear H'
   try clear c1
   try clear c2
   try clear p2
   try clear c5
   try clear c7
   try clear c12
   try clear c13
   try clear hcz14_0
   try clear hcz14_1
   try clear hcz15_0
   try clear hcz15_1
   try clear hcz8_0
   try clear hcz8_1
   try clear hfz14_0
   try clear hfz14_1
   try clear hfz15_0
   try clear hfz15_1
   try clear hfz8_0
   try clear hfz8_1
   obtain ⟨x14_1, x206000_1, u206000, rfl, HA, HK1, HO_206000, HO_206001, BK197, BK198, BK205, HB⟩ := hrel
   cases gk with
   | zero => exact absurd HA.out (by simp [spec_l06Copy.l0])
   | succ k1 =>
    have H := HA.out
    clear HA
    simp only [spec_l06Copy.l0] at H
    by_cases c16 : x14_1 < (l0_0.length : Int)
    ·rw [if_pos c16] at H
     have c16b0 : decide (x14_1 < (l0_0.length : Int)) = true := decide_eq_true c16
     clear c16
     by_cases c17 : 0 ≤ x14_1
     ·rw [if_pos c17] at H
      have c17b0 : decide (0 ≤ x14_1) = true := decide_eq_true c17
      clear c17
      by_cases c18 : x14_1 < (l0_0.length : Int)
      ·rw [if_pos c18] at H
       have c18b0 : decide (x14_1 < (l0_0.length : Int)) = true := decide_eq_true c18
       clear c18
       obtain ⟨y207, hy207⟩ : ∃ y_ : List Int, y_ = (([] : List Int)) := ⟨_, rfl⟩
       replace H : (if y207.length + (rd_L1 l0_0 x14_1).length < 17592186044416 then (if x206000_1.length < 5864062014805 then (spec_l06Copy.l0 k1 l0_0 (l0_0.length : Int) (wrap64 (x14_1 + 1)) (x206000_1 ++ [(y207 ++ (rd_L1 l0_0 x14_1))]) y202) else (none)) else (none)) = some (r1, r2) := by first | (rw [hy207]; with_reducible exact H) | (have H2_ := (Option.bind_some _ _).symm.trans H; rw [hy207]; with_reducible exact H2_) | (have H2_ := (Option.bind_some _ _).symm.trans H; with_reducible exact H2_) | with_reducible exact H | (rw [hy207]; exact H) | exact H
       have Ny207 := Aside0.mk hy207
       clear hy207
       by_cases c19 : y207.length + (rd_L1 l0_0 x14_1).length < 17592186044416
       ·rw [if_pos c19] at H
        have LMc19 := Aside0.mk c19
        clear c19
        obtain ⟨y210, hy210⟩ : ∃ y_ : List Int, y_ = (y207 ++ (rd_L1 l0_0 x14_1)) := ⟨_, rfl⟩
        replace H : (if x206000_1.length < 5864062014805 then (spec_l06Copy.l0 k1 l0_0 (l0_0.length : Int) (wrap64 (x14_1 + 1)) (x206000_1 ++ [y210]) y202) else (none)) = some (r1, r2) := by first | (rw [hy210]; with_reducible exact H) | (have H2_ := (Option.bind_some _ _).symm.trans H; rw [hy210]; with_reducible exact H2_) | (have H2_ := (Option.bind_some _ _).symm.trans H; with_reducible exact H2_) | with_reducible exact H | (rw [hy210]; exact H) | exact H
        have Ny210 := Aside0.mk hy210
        clear hy210
        by_cases c20 : x206000_1.length < 5864062014805
        ·rw [if_pos c20] at H
         have LMc20 := Aside0.mk c20
         clear c20
         obtain ⟨y213, hy213⟩ : ∃ y_ : List (List Int), y_ = (x206000_1 ++ [y210]) := ⟨_, rfl⟩
         replace H : (spec_l06Copy.l0 k1 l0_0 (l0_0.length : Int) (wrap64 (x14_1 + 1)) y213 y202) = some (r1, r2) := by first | (rw [hy213]; with_reducible exact H) | (have H2_ := (Option.bind_some _ _).symm.trans H; rw [hy213]; with_reducible exact H2_) | (have H2_ := (Option.bind_some _ _).symm.trans H; with_reducible exact H2_) | with_reducible exact H | (rw [hy213]; exact H) | exact H
         have Ny213 := Aside0.mk hy213
         clear hy213
         have H' := Aside0.mk H
         clear H
         have p206 : 0 ≤ (x14_1 : Int) := kD
         have q206 : x14_1 < (l0_0.length : Int) := kD
         obtain ⟨ad206, A206_0, c206_0, e206, hx206_0, hl206_0, hi206_0⟩ := at_L1 HR0_0.out x14_1 p206 q206
         cases e206
         replace hx206_0 := (HB.out.cell (World.block_lt_of_cell? w _ hx206_0)).trans hx206_0
         have HR206_0 := Aside0.mk hi206_0
         have HC206_0 := Aside0.mk hl206_0
         clear hi206_0 hl206_0
         replace p206 := eq_true p206
         replace q206 := eq_true q206
         try go_wp2
         have n0_ := k0 (Kd.S_drew HO_206000.out)
         have n1_ := k0 (Kd.R_drew HO_206001.out)
         have n2_ := k0 (blk_drew BK197.out)
         have n3_ := k0 (blk_drew BK198.out)
         have n4_ := k0 (blk_drew BK205.out)
         have n5_ := k0 (below_drew1 HB.out)
         clear HO_206000 HO_206001 BK197 BK198 BK205 HB
         have HO_206000 := n0_
         have HO_206001 := n1_
         have BK197 := n2_
         have BK198 := n3_
         have BK205 := n4_
         have HB := n5_
         clear n0_ n1_ n2_ n3_ n4_ n5_
         refine start_ (n := 9) (S := fun w' => w'.cell? ⟨gb205, 0, none⟩ = some (u206000) ∧ w'.cell? ⟨gb205, 1, none⟩ = some (.slice Ao10 y202.length co10)) (ds := [8]) #[false, false, false, false, false, false, false, false, false] (by kernel_rfl) rfl rfl ⟨(blk_cell BK205.out 0).trans rfl, (blk_cell BK205.out 1).trans rfl⟩ (fun hHeld => ?_); refine with_tabW spec_l06Copy.tab5 spec_l06Copy.bits5 (fun HT_ HW_ => ?_)
         generalize wr.drew = w21 at HO_206000 HO_206001 BK197 BK198 BK205 HB hHeld ⊢
         refine kP 0 18 9 1 HT_.out ?_
         refine kP 3 21 9 9 HT_.out ?_
         refine take_ (i := 1) (N := some 19) (v := ?_) (a' := ?_) (bt 9 11) rfl rfl (take_ofW HT_.out HW_.out (by kernel_rfl)) (fun _ _ _ h => h) (Or.inl ⟨by rfl, ?_⟩) hHeld ?_ ?_
         rotate_left
         ·rintro w' ⟨s0, s1⟩
          go_simp
          with_reducible rfl
         rotate_left
         ·simp only [Act.put, List.setIfInBounds_toArray, List.set_cons_zero, List.set_cons_succ, i64_w, i32_w]
          rfl
         refine one_ (i := 2) (N := some 20) (bt 9 15) rfl rfl (one_of HT_.out (by kernel_rfl)) (by decide) (fun K hK => ?_)
         refine Kd.R_lit_step (Kd.int .i64) _ 3 ?hg (N := 20) ?hd (xs := ([] : List Int)) (inner := []) (ok := fun _ => True) (okp := fun _ => True) ?hr ?hp (fun _ hk => hk) trivial (Below.refl _ _) (Nat.le_refl _) (by simp) ?_; (case hd => rfl); (case hg => rfl); (case hr => first | (go_simp; done) | (go_simp; rfl)); (case hp => exact (Reps.none _ _))
         intro v208 w22 ho23 hb hg_ hnew_
         clear hg_ hnew_
         (first | rw [← Ny207.out] at ho23 | (simp only [Int.reduceToNat] at ho23; rw [← Ny207.out] at ho23))
         have n0_ := k0 (Kd.S_elder' (kS HO_206000.out) (Kd.R_base ho23) hb)
         have n1_ := k0 (Kd.R_elder' (kR HO_206001.out) (Kd.R_base ho23) hb)
         have n2_ := k0 (Kd.R_lower (Kd.R_new' ho23 (Kd.R_lt (kR HO_206001.out))) (below_size (kW HB.out)))
         have n3_ := k0 (kb BK197.out hb)
         have n4_ := k0 (kb BK198.out hb)
         have n5_ := k0 (kb BK205.out hb)
         have n6_ := k0 (below_step (kW HB.out) hb)
         clear HO_206000 HO_206001 BK197 BK198 BK205 HB
         have HO_206000 := n0_
         have HO_206001 := n1_
         have HO209 := n2_
         have BK197 := n3_
         have BK198 := n4_
         have BK205 := n5_
         have HB := n6_
         clear n0_ n1_ n2_ n3_ n4_ n5_ n6_
         clear hb ho23
         refine hK.out _ _ ⟨(blk_cell BK205.out 0).trans rfl, (blk_cell BK205.out 1).trans rfl⟩ (fun hHeld => ?_)
         clear hK K
         refine norm_ (a' := ?_) ?_ ?_
         rotate_left
         ·show Act.put _ (some 20) _ = _
          simp only [Act.put, List.setIfInBounds_toArray, List.set_cons_zero, List.set_cons_succ, i64_w, i32_w]
          rfl
         refine one_ (i := 4) (N := some 22) (bt 9 31) rfl rfl (one_of HT_.out (by kernel_rfl)) (by decide) (fun K hK => ?_)
         refine Kd.R_append_rows_step (Kd.int .i64) (w0 := w) w.heap.size (by rfl) (.tmp 20) (.tmp 21) 23 3 (.int .i64 0) 8 rfl Try.underlying23 info3 rfl (by decide) (by omega) v208 y207 (rd_L1 l0_0 x14_1) _ _ _ (fun k_ => some k_ ≠ (.slice Ao10 y202.length co10 : Value).ownBlock) (fun _ => False) rfl rfl ?aO ?aR (fun _ _ h => h) (fun _ h => h.elim) ?aF ?aB ?aS ?aL ?_
         (case aR => exact kC (Kd.C_below HR206_0.out HB.out))
         (case aB => exact (kW HB.out))
         (case aF => exact (fun k_ hk => Kd.fresh' (Kd.R_lt (kR HO_206001.out)) k_ hk))
         (case aO => exact (by (with_reducible repeat (first | apply Kd.R_alloc | apply Kd.R_drewN | apply Kd.R_drew)); exact Kd.R_mono HO209.out (fun _ hk => hk.2)))
         (case aS => exact (below_size (kW HB.out)))
         (case aL => have := LMc19.out; omega)
         intro v211 w24 ho hb hg hat
         rw [← Ny210.out] at ho
         have n0_ := k0 (Kd.S_after (ok := (fun k_ => some k_ ≠ (.slice Ao10 y202.length co10 : Value).ownBlock)) (kS HO_206000.out) hg hat)
         have n1_ := k0 (Kd.R_after (ok := (fun _ => True)) (kR HO_206001.out) hg hat)
         have n2_ := k0 (blk_grown (g := gb197) (o := .cells #[.slice (some ad206) l0_0.length c0_0, .slice A0_1 l0_1.length c0_1] 28 (0, 0)) (kB BK197.out) hg (Kd.R_ne HO209.out BK197.out (by decide)))
         have n3_ := k0 (blk_grown (g := gb198) (o := .cells #[.slice none 0 0, .slice none 0 0] 28 (0, 0)) (kB BK198.out) hg (Kd.R_ne HO209.out BK198.out (by decide)))
         have n4_ := k0 (blk_grown (g := gb205) (o := .cells #[u206000, .slice Ao10 y202.length co10] 28 (0, 0)) (kB BK205.out) hg (Kd.R_ne HO209.out BK205.out (by decide)))
         have n5_ := k0 (hb)
         have n6_ := k0 (ho)
         clear HO_206000 HO_206001 BK197 BK198 BK205 HB HO209
         have HO_206000 := n0_
         have HO_206001 := n1_
         have BK197 := n2_
         have BK198 := n3_
         have BK205 := n4_
         have HB := n5_
         have HO212 := n6_
         clear n0_ n1_ n2_ n3_ n4_ n5_ n6_
         clear ho hb hg hat
         obtain ⟨Ao26, co26, eo26⟩ := Kd.R_slice HO212.out
         (first | subst eo26 | (injection eo26 with f1_ f2_ f3_; have f4_ := f1_.symm; have f5_ := f3_.symm; clear f1_ f2_ f3_; subst f4_; subst f5_))
         refine hK.out _ _ ⟨(blk_cell BK205.out 0).trans rfl, (blk_cell BK205.out 1).trans rfl⟩ (fun hHeld => ?_)
         clear hK K
         refine norm_ (a' := ?_) ?_ ?_
         rotate_left
         ·show Act.put _ (some 22) _ = _
          simp only [Act.put, List.setIfInBounds_toArray, List.set_cons_zero, List.set_cons_succ, i64_w, i32_w]
          rfl
         refine one_ (i := 5) (N := some 23) (bt 9 63) rfl rfl (one_of HT_.out (by kernel_rfl)) (by decide) (fun K hK => ?_)
         refine value_ (w1 := ?_) (v := ?_) (by rfl) rfl ?_ ?_
         rotate_left 2
         ·go_simp
          constructor
          ·rfl
          ·rfl
         refine hK.out _ _ ⟨(blk_cell (blk_alloc BK205.out _) 0).trans rfl, (blk_cell (blk_alloc BK205.out _) 1).trans rfl⟩ (fun hHeld => ?_)
         clear hK K
         refine norm_ (a' := ?_) ?_ ?_
         rotate_left
         ·show Act.put _ (some 23) _ = _
          simp only [Act.put, List.setIfInBounds_toArray, List.set_cons_zero, List.set_cons_succ, i64_w, i32_w]
          rfl
         refine one_ (i := 6) (N := some 24) (bt 9 127) rfl rfl (one_of HT_.out (by kernel_rfl)) (by decide) (fun K hK => ?_)
         refine Kd.S_append_step (Kd.slice 3 (Kd.int .i64)) (w0 := w) w.heap.size (by rfl) (.tmp 19) (.tmp 23) 22 23 (.slice none 0 0) 24 rfl Try.underlying22 info23 rfl (by decide) (by omega) u206000 x206000_1 y210 [.slice Ao26 y210.length co26] (fun k_ => some k_ ≠ (.slice Ao10 y202.length co10 : Value).ownBlock) (fun k_ => some k_ = (.slice Ao26 y210.length co26 : Value).ownBlock) rfl rfl ?aP (fun k_ hk_ => ((Kd.R_mono (ok' := fun k_ => ((fun k_ => some k_ ≠ (.slice Ao10 y202.length co10 : Value).ownBlock)) k_ ∧ some k_ ≠ (u206000 : Value).ownBlock) (Kd.R_apart' (HO212.out) (Kd.S_typed HO_206000.out) (by decide)) (fun k_ hk => ⟨hk.1, hk.2⟩))).1 k_ hk_.symm) ?aF ?aO ?aB ?aS ?aL ?_
         (case aP => exact Kd.M_row (Kd.R_mono (Kd.R_tight rfl (Kd.R_mono (ok' := fun k_ => ((fun k_ => some k_ ≠ (.slice Ao10 y202.length co10 : Value).ownBlock)) k_ ∧ some k_ ≠ (u206000 : Value).ownBlock) (Kd.R_apart' (HO212.out) (Kd.S_typed HO_206000.out) (by decide)) (fun k_ hk => ⟨hk.1, hk.2⟩))) (fun _ h_ => h_)))
         (case aB => exact (kW HB.out))
         (case aF => exact (fun k_ hk => Kd.fresh' (Kd.R_lt (kR HO_206001.out)) k_ hk))
         (case aO => exact (by (with_reducible repeat (first | apply Kd.S_alloc | apply Kd.S_drewN | apply Kd.S_drew)); exact Kd.S_mono HO_206000.out (fun k_ hk => ⟨hk.1, fun e_ => hk.2 e_⟩)))
         (case aS => exact (below_size (kW HB.out)))
         (case aL => have := LMc20.out; omega)
         intro v214 w25 ho hb hg hat
         rw [← Ny213.out] at ho
         have n0_ := k0 (Kd.R_over' (kR HO_206001.out) (Kd.S_typed (kS HO_206000.out)) (by decide) hg)
         have n1_ := k0 (blk_grown (g := gb197) (o := .cells #[.slice (some ad206) l0_0.length c0_0, .slice A0_1 l0_1.length c0_1] 28 (0, 0)) (kB BK197.out) hg (Kd.S_ne HO_206000.out BK197.out (by decide)))
         have n2_ := k0 (blk_grown (g := gb198) (o := .cells #[.slice none 0 0, .slice none 0 0] 28 (0, 0)) (kB BK198.out) hg (Kd.S_ne HO_206000.out BK198.out (by decide)))
         have n3_ := k0 (blk_grown (g := gb205) (o := .cells #[u206000, .slice Ao10 y202.length co10] 28 (0, 0)) (kB BK205.out) hg (Kd.S_ne HO_206000.out BK205.out (by decide)))
         have n4_ := k0 (hb)
         have n5_ := k0 (ho)
         clear HO_206001 BK197 BK198 BK205 HB HO_206000 HO212
         have HO_206001 := n0_
         have BK197 := n1_
         have BK198 := n2_
         have BK205 := n3_
         have HB := n4_
         have HO215 := n5_
         clear n0_ n1_ n2_ n3_ n4_ n5_
         clear ho hb hg hat
         obtain ⟨Ao27, co27, eo27⟩ := Kd.S_slice HO215.out
         (first | subst eo27 | (injection eo27 with f1_ f2_ f3_; have f4_ := f1_.symm; have f5_ := f3_.symm; clear f1_ f2_ f3_; subst f4_; subst f5_))
         refine hK.out _ _ ⟨(blk_cell BK205.out 0).trans rfl, (blk_cell BK205.out 1).trans rfl⟩ (fun hHeld => ?_)
         clear hK K
         refine norm_ (a' := ?_) ?_ ?_
         rotate_left
         ·show Act.put _ (some 24) _ = _
          simp only [Act.put, List.setIfInBounds_toArray, List.set_cons_zero, List.set_cons_succ, i64_w, i32_w]
          rfl
         refine kP 7 25 9 255 HT_.out ?_
         refine last_ (i := 8) (N := none) (bt 9 511) rfl rfl (one_of HT_.out (by kernel_rfl)) (by decide) (fun K hK => ?_)
         have hs28 : w25.cell? ⟨gb205, 0, none⟩ = some (u206000) := (blk_cell BK205.out 0).trans rfl
         have hfs28 := blk_frozen BK205.out 0
         have hns28_0 := NB197_205.out
         have hns28_1 := NB198_205.out
         have hms28_0 := NB205_197.out
         have hms28_1 := NB205_198.out
         refine skip_ (w1 := ?_) (by rfl) rfl ?_ ?_
         rotate_left
         ·go_simp
          rfl
         refine hK.out _ _ ?_
         clear hK K
         refine done_ (done_of HT_.out (by kernel_rfl)) ?_
         try go_wp2
         go_roundg k1
         case measure => have := HK1.out; omega
         case rel => exact ⟨(wrap64 (x14_1 + 1)), (y213), (.slice Ao27 y213.length co27), (by first | rfl | (simp; done) | (simp [*]; done)), H', ⟨by have := HK1.out; omega⟩, ⟨by (with_reducible repeat (first | apply Kd.S_alloc | apply Kd.S_drewN | apply Kd.S_drew)); exact Kd.S_mono (Kd.S_far (p := ⟨gb205, 0, none⟩) (Kd.S_types HO215.out BK205.out (by decide)) (fun _ hk => hk.2) (.slice Ao27 y213.length co27)) (fun _ hk => hk.1)⟩, ⟨by (with_reducible repeat (first | apply Kd.R_alloc | apply Kd.R_drewN | apply Kd.R_drew)); exact Kd.R_mono (Kd.R_far (p := ⟨gb205, 0, none⟩) (Kd.R_types HO_206001.out BK205.out (by decide)) (fun _ hk => hk.2) (.slice Ao27 y213.length co27)) (fun _ hk => trivial)⟩, ⟨by (with_reducible repeat first | apply k1 | apply k2 | apply k3); refine blk_far ?_ NB197_205.out _; (with_reducible repeat first | apply k1 | apply k2 | apply k3); exact BK197.out⟩, ⟨by (with_reducible repeat first | apply k1 | apply k2 | apply k3); refine blk_far ?_ NB198_205.out _; (with_reducible repeat first | apply k1 | apply k2 | apply k3); exact BK198.out⟩, ⟨by (with_reducible repeat first | apply k1 | apply k2 | apply k3); refine blk_put (cs := #[u206000, .slice Ao10 y202.length co10]) ?_ 0 _ rfl; (with_reducible repeat first | apply k1 | apply k2 | apply k3); exact BK205.out⟩, ⟨by repeat (first | (with_reducible first | exact HB.out | apply below_alloc | apply pw_below_drewN | apply below_drew1 | refine below_set ?_ GE197.out | refine below_set ?_ GE198.out | refine below_set ?_ GE205.out) | exact HB.out)⟩⟩
        ·rw [if_neg c20] at H
         exact absurd H (by simp)
       ·rw [if_neg c19] at H
        exact absurd H (by simp)
      ·rw [if_neg c18] at H
       exact absurd H (by simp)
     ·rw [if_neg c17] at H
      exact absurd H (by simp)
    ·rw [if_neg c16] at H
     have c16b0 : decide (x14_1 < (l0_0.length : Int)) = false := decide_eq_false c16
     clear c16
     simp only [Option.some.injEq, Prod.mk.injEq] at H
     obtain ⟨rfl, rfl⟩ := H
     have hnb29 := NB205_197.out
     have hnc29 := NB197_205.out
     have hnb30 := NB205_198.out
     have hnc30 := NB198_205.out
     have hcz31_0 : wr.cell? ⟨gb205, 0, none⟩ = some (u206000) := kx BK205.out
     have hcz31_1 : wr.cell? ⟨gb205, 1, none⟩ = some (.slice Ao10 y202.length co10) := kx BK205.out
     have hfz31_0 := blk_frozen BK205.out 0
     have hfz31_1 := blk_frozen BK205.out 1
     obtain ⟨Ao32, co32, eo32⟩ := Kd.S_slice HO_206000.out
     subst eo32
     have hnb33 := NB198_197.out
     have hnc33 := NB197_198.out
     have hcz34_0 : wr.cell? ⟨gb198, 0, none⟩ = some (.slice none 0 0) := kx BK198.out
     have hcz34_1 : wr.cell? ⟨gb198, 1, none⟩ = some (.slice none 0 0) := kx BK198.out
     have hfz34_0 := blk_frozen BK198.out 0
     have hfz34_1 := blk_frozen BK198.out 1
     go_wp2
     refine bodyPost_ret (results_cell_row rfl _ _ gb198 28 #[.slice Ao32 x206000_1.length co32, .slice Ao10 y202.length co10] (0, 0) _ rfl (by (with_reducible repeat first | apply k1 | apply k2 | apply k3); refine blk_put (cs := #[.slice Ao32 x206000_1.length co32, .slice none 0 0]) ?_ 1 _ rfl; (with_reducible repeat first | apply k1 | apply k2 | apply k3); refine blk_put (cs := #[.slice none 0 0, .slice none 0 0]) ?_ 0 _ rfl; (with_reducible repeat first | apply k1 | apply k2 | apply k3); exact BK198.out) Try.underlying28 rfl (by kernel_rfl)) rfl ?_
     exact ⟨_, _, by first | rfl | (simp [errW_none, errW_some] <;> rfl) | (simp [*, errW_none, errW_some] <;> rfl), by (with_reducible repeat (first | apply Kd.S_alloc | apply Kd.S_drewN | apply Kd.S_drew)); exact Kd.S_mono (Kd.S_far (p := ⟨gb198, 1, none⟩) (Kd.S_far (p := ⟨gb198, 0, none⟩) (Kd.S_types HO_206000.out BK198.out (by decide)) (fun _ hk => hk.2) (.slice Ao32 x206000_1.length co32)) (fun _ hk => hk.2) (.slice Ao10 y202.length co10)) (fun _ hk => hk.1), by (with_reducible repeat (first | apply Kd.R_alloc | apply Kd.R_drewN | apply Kd.R_drew)); exact Kd.R_mono (Kd.R_far (p := ⟨gb198, 1, none⟩) (Kd.R_far (p := ⟨gb198, 0, none⟩) (Kd.R_types HO_206001.out BK198.out (by decide)) (fun _ hk => hk.2) (.slice Ao32 x206000_1.length co32)) (fun _ hk => hk.2) (.slice Ao10 y202.length co10)) (fun _ hk => trivial), by repeat (first | (with_reducible first | exact HB.out | apply below_alloc | apply pw_below_drewN | apply below_drew1 | refine below_set ?_ GE197.out | refine below_set ?_ GE198.out | refine below_set ?_ GE205.out) | exact HB.out)⟩
 ·rw [if_neg c2] at H
  exact absurd H (by simp)

/-! ### spec_l01In: function 49 -/
def spec_l01In.f (a0 : Int) (a1 : Int) (a2 : Int) : Option (Bool) := if a0 ≥ a1 then (some (decide (a0 ≤ a2))) else (some false)
set_option maxHeartbeats 8000000 in
set_option maxRecDepth 100000 in
theorem spec_l01In.calls (a0 : Int) (a1 : Int) (a2 : Int) (r : Bool) (w : World) (h : spec_l01In.f a0 a1 a2 = some r) :
  Calls Try.prog 49 #[.int .i64 a0, .int .i64 a1, .int .i64 a2] w fun e w' => e = .returned (.bool r) ∧ Drawn0 w w' := by
 have H : (if a0 ≥ a1 then (some (decide (a0 ≤ a2))) else (some false)) = some r := h
 clear h
 by_cases c4 : a0 ≥ a1
 ·rw [if_pos c4] at H
  have c4b0 : decide (a1 ≤ a0) = true := decide_eq_true c4
  clear c4
  obtain rfl := Option.some.inj H
  go_enter Try.func49, Try.ntmps49
  go_wp2
  go_ret
  exact ⟨by first | rfl | (simp; done) | (simp [*]; done), by repeat (first | exact Drawn0.refl _ | apply Drawn0.step)⟩
 ·rw [if_neg c4] at H
  have c4b0 : decide (a1 ≤ a0) = false := decide_eq_false c4
  clear c4
  obtain rfl := Option.some.inj H
  go_enter Try.func49, Try.ntmps49
  go_wp2
  go_ret
  exact ⟨by first | rfl | (simp; done) | (simp [*]; done), by repeat (first | exact Drawn0.refl _ | apply Drawn0.step)⟩

/-! ### spec_l01Num: function 41 -/
def spec_l01Num.f (a0 : Int) : Option (Bool) := (spec_l01In.f a0 0 1125899906842624).bind fun t216 => (some t216)
set_option maxHeartbeats 8000000 in
set_option maxRecDepth 100000 in
theorem spec_l01Num.calls (a0 : Int) (r : Bool) (w : World) (h : spec_l01Num.f a0 = some r) :
  Calls Try.prog 41 #[.int .i64 a0] w fun e w' => e = .returned (.bool r) ∧ Drawn0 w w' := by
 have H : ((spec_l01In.f a0 0 1125899906842624).bind fun t216 => (some t216)) = some r := h
 clear h
 replace H := Option.bind_eq_some_iff.mp H
 obtain ⟨t216, A20, H⟩ := H
 replace H : (some t216) = some r := H
 have A2 := Aside0.mk A20
 clear A20
 obtain rfl := Option.some.inj H
 go_enter Try.func41, Try.ntmps41
 go_wp2_with (first | ((with_reducible refine gate_callee (f := 49) rfl ?_); refine kG (some 4) Try.func49 #[.int .i64 a0, .int .i64 0, .int .i64 1125899906842624] ?_; (with_reducible refine (spec_l01In.calls a0 0 1125899906842624 t216 _ A2.out).mono ?_); rintro e w' ⟨rfl, ⟨nd, rfl⟩⟩; refine ⟨_, rfl, ?_⟩))
 go_ret
 exact ⟨by first | rfl | (simp; done) | (simp [*]; done), by repeat (first | exact Drawn0.refl _ | apply Drawn0.step)⟩

end Go.Proofs.Ytcnanifokpcjaaa.PFnMeet
