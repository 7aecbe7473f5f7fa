import Derived.Test.YtcnanifokpcjaaaPFnRightsx0
namespace Go.Proofs.Ytcnanifokpcjaaa.PFnRights
open Go.RowKit Go.Proofs.YtcnanifokpcjaaaW.PrintWords Go.Proofs.YtcnanifokpcjaaaW.PrintLast Go.Proofs.YtcnanifokpcjaaaW.PrintMore
attribute [local go_sem] max2_int min2_int max_two min_two max_three min_three max_four min_four   -- for this text's walks alone
set_option linter.unusedVariables false
set_option linter.unusedSimpArgs false

/-! ### spec_l06Copy: function 50 -/
def spec_l06Copy.l0 : Nat → List (List Int) → Int → Int → List (List Int) → List Int → Option ((List (List Int)) × List Int)
 | 0, _, _, _, _, _ => none
 | k + 1, x12, x13, x14, x188000, x188001 => if x14 < x13 then (if 0 ≤ x14 then (if x14 < (x12.length : Int) then ((some (([] : List Int) : List Int)).bind fun y189 => (if y189.length + (rd_L1 x12 x14).length < 17592186044416 then (if x188000.length < 5864062014805 then (spec_l06Copy.l0 k x12 x13 (wrap64 (x14 + 1)) (x188000 ++ [(y189 ++ (rd_L1 x12 x14))]) x188001) else (none)) else (none))) else (none)) else (none)) else (some (x188000, x188001))
def spec_l06Copy.f (k : Nat) (l0_0 : List (List Int)) (l0_1 : List Int) : Option ((List (List Int)) × List Int) := (some (([] : List Int) : List Int)).bind fun y181 => (if y181.length + l0_1.length < 17592186044416 then (spec_l06Copy.l0 k l0_0 (l0_0.length : Int) 0 ([] : List (List Int)) (y181 ++ l0_1)) else (none))
theorem spec_l06Copy.mono_l : ∀ k, (∀ y0 y1 y2 y3 y4, LeO (spec_l06Copy.l0 k y0 y1 y2 y3 y4) (spec_l06Copy.l0 (k + 1) y0 y1 y2 y3 y4))
 | 0 => fun _ _ _ _ _ r h => by simp [spec_l06Copy.l0] at h
 | k + 1 => by
  have ih0 := spec_l06Copy.mono_l k
  ·intro y0 y1 y2 y3 y4
   unfold spec_l06Copy.l0
   repeat' first
   | (with_reducible exact ih0 _ _ _ _ _)
   | (with_reducible exact LeO.refl _)
   | (with_reducible exact LeO.none _)
   | (with_reducible refine LeO.ite ?_ ?_)
   | (with_reducible refine LeO.bind ?_ (fun _ => ?_))
   | exact ih0 _ _ _ _ _
   | exact LeO.none _
   | refine LeO.ite ?_ ?_
   | refine LeO.bind ?_ (fun _ => ?_)
theorem spec_l06Copy.mono : ∀ a0 a1 k, LeO (spec_l06Copy.f k a0 a1) (spec_l06Copy.f (k + 1) a0 a1) := by
 intro a0 a1 k
 have ih0 := spec_l06Copy.mono_l k
 unfold spec_l06Copy.f
 repeat' first
   | (with_reducible exact ih0 _ _ _ _ _)
   | (with_reducible exact LeO.refl _)
   | (with_reducible exact LeO.none _)
   | (with_reducible refine LeO.ite ?_ ?_)
   | (with_reducible refine LeO.bind ?_ (fun _ => ?_))
   | exact ih0 _ _ _ _ _
   | exact LeO.none _
   | refine LeO.ite ?_ ?_
   | refine LeO.bind ?_ (fun _ => ?_)
def spec_l06Copy.T5 : Bool × List (List Nat × List Nat) := (true, [([], []), ([0], [0]), ([], []), ([], []), ([2, 3], [2, 3]), ([4], [4]), ([1, 5, 4], [1, 5]), ([0, 1, 2, 3, 4, 5, 6], []), ([7, 6, 6, 0, 1, 2, 3, 4, 5, 6], [6, 7])])
def spec_l06Copy.B5 : List Nat := [0, 1, 0, 0, 12, 28, 63, 127, 255]
theorem spec_l06Copy.tab5 : rtab .any (opsOf Try.f50 5) = spec_l06Copy.T5 := by kernel_rfl
theorem spec_l06Copy.bits5 : waitsOk spec_l06Copy.T5.2 spec_l06Copy.B5 = true := by kernel_rfl
set_option maxHeartbeats 8000000 in
set_option maxRecDepth 100000 in
theorem spec_l06Copy.calls (k : Nat) (A0_0 : Option Addr) (c0_0 : Nat) (l0_0 : List (List Int)) (A0_1 : Option Addr) (c0_1 : Nat) (l0_1 : List Int) (r1 : List (List Int)) (r2 : List Int) (w : World) (hr0_0 : Kd.C (Kd.slice 3 (Kd.int .i64)) w A0_0 l0_0.length l0_0) (hc0_0 : l0_0.length ≤ c0_0) (hr0_1 : Kd.C (Kd.int .i64) w A0_1 l0_1.length l0_1) (hc0_1 : l0_1.length ≤ c0_1) (h : spec_l06Copy.f k l0_0 l0_1 = some (r1, r2)) :
  Calls Try.prog 50 #[.agg #[.slice A0_0 l0_0.length c0_0, .slice A0_1 l0_1.length c0_1]] w fun e w' => ∃ v0_ v1_ : Value, e = .returned (.agg #[v0_, v1_]) ∧ Kd.S (Kd.slice 3 (Kd.int .i64)) 23 w' w.heap.size (fun k_ => some k_ ≠ (v1_ : Value).ownBlock) v0_ r1 ∧ Kd.R (Kd.int .i64) 3 w' w.heap.size (fun _ => True) v1_ r2 ∧ Below w.heap.size w w' := by
 have hu28 := Try.underlying28
 have HR0_0 := Aside0.mk hr0_0
 have HC0_0 := Aside0.mk hc0_0
 clear hr0_0 hc0_0
 have HR0_1 := Aside0.mk hr0_1
 have HC0_1 := Aside0.mk hc0_1
 clear hr0_1 hc0_1
 have HB := k0 (Below.refl w.heap.size w)
 have H : ((some (([] : List Int) : List Int)).bind fun y181 => (if y181.length + l0_1.length < 17592186044416 then (spec_l06Copy.l0 k l0_0 (l0_0.length : Int) 0 ([] : List (List Int)) (y181 ++ l0_1)) else (none))) = some (r1, r2) := h
 clear h
 obtain ⟨y181, hy181⟩ : ∃ y_ : List Int, y_ = (([] : List Int)) := ⟨_, rfl⟩
 replace H : (if y181.length + l0_1.length < 17592186044416 then (spec_l06Copy.l0 k l0_0 (l0_0.length : Int) 0 ([] : List (List Int)) (y181 ++ l0_1)) else (none)) = some (r1, r2) := by first | (rw [hy181]; with_reducible exact H) | (have H2_ := (Option.bind_some _ _).symm.trans H; rw [hy181]; with_reducible exact H2_) | (have H2_ := (Option.bind_some _ _).symm.trans H; with_reducible exact H2_) | with_reducible exact H | (rw [hy181]; exact H) | exact H
 have Ny181 := Aside0.mk hy181
 clear hy181
 by_cases c2 : y181.length + l0_1.length < 17592186044416
 ·rw [if_pos c2] at H
  have LMc2 := Aside0.mk c2
  clear c2
  obtain ⟨y184, hy184⟩ : ∃ y_ : List Int, y_ = (y181 ++ l0_1) := ⟨_, rfl⟩
  replace H : (spec_l06Copy.l0 k l0_0 (l0_0.length : Int) 0 ([] : List (List Int)) y184) = some (r1, r2) := by first | (rw [hy184]; with_reducible exact H) | (have H2_ := (Option.bind_some _ _).symm.trans H; rw [hy184]; with_reducible exact H2_) | (have H2_ := (Option.bind_some _ _).symm.trans H; with_reducible exact H2_) | with_reducible exact H | (rw [hy184]; exact H) | exact H
  have Ny184 := Aside0.mk hy184
  clear hy184
  have H' := Aside0.mk H
  clear H
  go_enter Try.func50, Try.ntmps50
  go_wp2_with (first | ((with_reducible refine gate_dst (N := 1) rfl ?_); refine kE (N := 1) (cs := #[.slice A0_0 l0_0.length c0_0, .slice A0_1 l0_1.length c0_1]) (t := 28) ?_; intro gb179 hg w3 hbox hb; have n0_ := k0 (below_step (kW HB.out) hb); have n1_ := k0 (hbox); have n2_ := k0 (kY HB.out hg); have n3_ := k0 (kY HB.out hg); clear HB; have HB := n0_; have BK179 := n1_; have GW179 := n2_; have GE179 := n3_; clear n0_ n1_ n2_ n3_; clear hb hbox hg) | ((with_reducible refine gate_dst (N := 2) rfl ?_); refine kE (N := 2) (cs := #[.slice none 0 0, .slice none 0 0]) (t := 28) ?_; intro gb180 hg w4 hbox hb; have n0_ := k0 (kb BK179.out hb); have n1_ := k0 (below_step (kW HB.out) hb); have n2_ := k0 (hbox); have n3_ := k0 (kY HB.out hg); have n4_ := k0 (kY HB.out hg); have n5_ := k0 ((by rw [hg]; exact Nat.ne_of_lt (blk_lt (g := gb179) (o := .cells #[.slice A0_0 l0_0.length c0_0, .slice A0_1 l0_1.length c0_1] 28 (0, 0)) (kB BK179.out)) : gb179 ≠ gb180)); have n6_ := k0 ((by rw [hg]; exact Nat.ne_of_gt (blk_lt (g := gb179) (o := .cells #[.slice A0_0 l0_0.length c0_0, .slice A0_1 l0_1.length c0_1] 28 (0, 0)) (kB BK179.out)) : gb180 ≠ gb179)); clear BK179; clear HB; have BK179 := n0_; have HB := n1_; have BK180 := n2_; have GW180 := n3_; have GE180 := n4_; have NB179_180 := n5_; have NB180_179 := n6_; clear n0_ n1_ n2_ n3_ n4_ n5_ n6_; clear hb hbox hg) | ((with_reducible refine gate_dst (N := 6) rfl ?_); refine Kd.R_lit (Kd.int .i64) _ 3 ?hg (N := 6) ?hd (xs := ([] : List Int)) (inner := []) (ok := fun _ => True) (okp := fun _ => True) ?hr ?hp (fun _ hk => hk) trivial (Below.refl _ _) (Nat.le_refl _) (by simp) ?_; (case hd => rfl); (case hg => rfl); (case hr => first | (go_simp; done) | (go_simp; rfl)); (case hp => exact (Reps.none _ _)); intro v182 w5 ho6 hb hg_ hnew_; clear hg_ hnew_; (first | rw [← Ny181.out] at ho6 | (simp only [Int.reduceToNat] at ho6; rw [← Ny181.out] at ho6)); have n0_ := k0 (Kd.R_lower ho6 (below_size (kW HB.out))); have n1_ := k0 (kb BK179.out hb); have n2_ := k0 (kb BK180.out hb); have n3_ := k0 (below_step (kW HB.out) hb); clear BK179; clear BK180; clear HB; have HO183 := n0_; have BK179 := n1_; have BK180 := n2_; have HB := n3_; clear n0_ n1_ n2_ n3_; clear hb ho6; have hnb7 := NB179_180.out; have hnc7 := NB180_179.out; have hcz8_0 : w5.cell? ⟨gb179, 0, none⟩ = some (.slice A0_0 l0_0.length c0_0) := kx BK179.out; have hcz8_1 : w5.cell? ⟨gb179, 1, none⟩ = some (.slice A0_1 l0_1.length c0_1) := kx BK179.out; have hfz8_0 := blk_frozen BK179.out 0; have hfz8_1 := blk_frozen BK179.out 1) | ((with_reducible refine gate_builtin (b := .append) (xs := #[.tmp 6, .tmp 8]) rfl ?_); at_builtin; refine Kd.R_append_rows (Kd.int .i64) (w0 := w) w.heap.size rfl (.tmp 6) (.tmp 8) 23 3 (.int .i64 0) 8 rfl Try.underlying23 info3 rfl (by decide) (by omega) v182 y181 l0_1 _ _ _ (fun _ => True) (fun _ => False) rfl rfl ?aO ?aR (fun _ _ h => h) (fun _ h => h.elim) ?aF ?aB ?aS ?aL ?_; (case aR => exact kC (Kd.C_below HR0_1.out HB.out)); (case aB => exact (kW HB.out)); (case aF => exact (fun _ _ => trivial)); (case aO => exact (kR HO183.out)); (case aS => exact (below_size (kW HB.out))); (case aL => have := LMc2.out; omega); intro v185 w9 ho hb hg hat; rw [← Ny184.out] at ho; have n0_ := k0 (blk_grown (g := gb179) (o := .cells #[.slice A0_0 l0_0.length c0_0, .slice A0_1 l0_1.length c0_1] 28 (0, 0)) (kB BK179.out) hg (Kd.R_ne HO183.out BK179.out (by decide))); have n1_ := k0 (blk_grown (g := gb180) (o := .cells #[.slice none 0 0, .slice none 0 0] 28 (0, 0)) (kB BK180.out) hg (Kd.R_ne HO183.out BK180.out (by decide))); have n2_ := k0 (hb); have n3_ := k0 (ho); clear BK179; clear BK180; clear HB; clear HO183; have BK179 := n0_; have BK180 := n1_; have HB := n2_; have HO186 := n3_; clear n0_ n1_ n2_ n3_; clear ho hb hg hat; obtain ⟨Ao10, co10, eo10⟩ := Kd.R_slice HO186.out; subst eo10) | ((with_reducible refine gate_dst (N := 3) rfl ?_); refine kE (N := 3) (cs := #[.slice none 0 0, .slice none 0 0]) (t := 28) ?_; intro gb187 hg w11 hbox hb; have n0_ := k0 (Kd.R_below (kR HO186.out) hb); have n1_ := k0 (kb BK179.out hb); have n2_ := k0 (kb BK180.out hb); have n3_ := k0 (below_step (kW HB.out) hb); have n4_ := k0 (hbox); have n5_ := k0 (kY HB.out hg); have n6_ := k0 (kY HB.out hg); have n7_ := k0 ((by rw [hg]; exact Nat.ne_of_lt (blk_lt (g := gb179) (o := .cells #[.slice A0_0 l0_0.length c0_0, .slice A0_1 l0_1.length c0_1] 28 (0, 0)) (kB BK179.out)) : gb179 ≠ gb187)); have n8_ := k0 ((by rw [hg]; exact Nat.ne_of_gt (blk_lt (g := gb179) (o := .cells #[.slice A0_0 l0_0.length c0_0, .slice A0_1 l0_1.length c0_1] 28 (0, 0)) (kB BK179.out)) : gb187 ≠ gb179)); have n9_ := k0 ((by rw [hg]; exact Nat.ne_of_lt (blk_lt (g := gb180) (o := .cells #[.slice none 0 0, .slice none 0 0] 28 (0, 0)) (kB BK180.out)) : gb180 ≠ gb187)); have n10_ := k0 ((by rw [hg]; exact Nat.ne_of_gt (blk_lt (g := gb180) (o := .cells #[.slice none 0 0, .slice none 0 0] 28 (0, 0)) (kB BK180.out)) : gb187 ≠ gb180)); clear HO186; clear BK179; clear BK180; clear HB; have HO186 := n0_; have BK179 := n1_; have BK180 := n2_; have HB := n3_; have BK187 := n4_; have GW187 := n5_; have GE187 := n6_; have NB179_187 := n7_; have NB187_179 := n8_; have NB180_187 := n9_; have NB187_180 := n10_; clear n0_ n1_ n2_ n3_ n4_ n5_ n6_ n7_ n8_ n9_ n10_; clear hb hbox hg; have hnb12 := NB187_179.out; have hnc12 := NB179_187.out; have hnb13 := NB187_180.out; have hnc13 := NB180_187.out; have hcz14_0 : w11.cell? ⟨gb187, 0, none⟩ = some (.slice none 0 0) := kx BK187.out; have hcz14_1 : w11.cell? ⟨gb187, 1, none⟩ = some (.slice none 0 0) := kx BK187.out; have hfz14_0 := blk_frozen BK187.out 0; have hfz14_1 := blk_frozen BK187.out 1; have hcz15_0 : w11.cell? ⟨gb179, 0, none⟩ = some (.slice A0_0 l0_0.length c0_0) := kx BK179.out; have hcz15_1 : w11.cell? ⟨gb179, 1, none⟩ = some (.slice A0_1 l0_1.length c0_1) := kx BK179.out; have hfz15_0 := blk_frozen BK179.out 0; have hfz15_1 := blk_frozen BK179.out 1))
  go_loopg [14] k (fun kq v14 w' => ∃ (x14_1 : Int) (x188000_1 : List (List Int)) (u188000 : Value), v14 = .int .i64 x14_1 ∧ Aside0 (spec_l06Copy.l0 kq l0_0 (l0_0.length : Int) x14_1 x188000_1 y184 = some (r1, r2)) ∧ Aside0 (kq ≤ k) ∧ Aside0 (Kd.S (Kd.slice 3 (Kd.int .i64)) 23 w' w.heap.size (fun k_ => some k_ ≠ ((.slice Ao10 y184.length co10) : Value).ownBlock) u188000 x188000_1) ∧ Aside0 (Kd.R (Kd.int .i64) 3 w' w.heap.size (fun _ => True) (.slice Ao10 y184.length co10) y184) ∧ Aside0 (w'.heap[gb179]? = some (.cells #[(.slice A0_0 l0_0.length c0_0), (.slice A0_1 l0_1.length c0_1)] 28 (0, 0))) ∧ Aside0 (w'.heap[gb180]? = some (.cells #[(.slice none 0 0), (.slice none 0 0)] 28 (0, 0))) ∧ Aside0 (w'.heap[gb187]? = some (.cells #[u188000, (.slice Ao10 y184.length co10)] 28 (0, 0))) ∧ Aside0 (Below w.heap.size w w'))
  case atStart => exact ⟨(0), (([] : List (List Int))), (.slice none 0 0), (by first | rfl | (simp; done) | (simp [*]; done)), H', ⟨Nat.le_refl _⟩, ⟨by first | exact Kd.S_nil _ _ _ _ _ | exact Kd.N_nil _ _ _ _ _ | exact Kd.V_nil _ _ _ _ _ | exact Kd.Q_nil _ _ _ _ _ | exact Kd.R_nil _ _ _ _ _⟩, ⟨by (with_reducible repeat (first | apply Kd.R_alloc | apply Kd.R_drewN | apply Kd.R_drew)); exact Kd.R_mono (Kd.R_far (p := ⟨gb187, 1, none⟩) (Kd.R_far (p := ⟨gb187, 0, none⟩) (Kd.R_types HO186.out BK187.out (by decide)) (fun _ hk => hk.2) (.slice none 0 0)) (fun _ hk => hk.2) (.slice Ao10 y184.length co10)) (fun _ hk => trivial)⟩, ⟨by (with_reducible repeat first | apply k1 | apply k2 | apply k3); refine blk_far ?_ NB179_187.out _; (with_reducible repeat first | apply k1 | apply k2 | apply k3); refine blk_far ?_ NB179_187.out _; (with_reducible repeat first | apply k1 | apply k2 | apply k3); exact BK179.out⟩, ⟨by (with_reducible repeat first | apply k1 | apply k2 | apply k3); refine blk_far ?_ NB180_187.out _; (with_reducible repeat first | apply k1 | apply k2 | apply k3); refine blk_far ?_ NB180_187.out _; (with_reducible repeat first | apply k1 | apply k2 | apply k3); exact BK180.out⟩, ⟨by (with_reducible repeat first | apply k1 | apply k2 | apply k3); refine blk_put (cs := #[.slice none 0 0, .slice none 0 0]) ?_ 1 _ rfl; (with_reducible repeat first | apply k1 | apply k2 | apply k3); refine blk_put (cs := #[.slice none 0 0, .slice none 0 0]) ?_ 0 _ rfl; (with_reducible repeat first | apply k1 | apply k2 | apply k3); exact BK187.out⟩, ⟨by repeat (first | (with_reducible first | exact HB.out | apply below_alloc | apply pw_below_drewN | apply below_drew1 | refine below_set ?_ GE179.out | refine below_set ?_ GE180.out | refine below_set ?_ GE187.out) | exact HB.out)⟩⟩
  case round =>
   clear H'
   try clear c1
   try clear c2
   try clear p2
   try clear c5
   try clear c7
   try clear c12
   try clear c13
   try clear hcz14_0
   try clear hcz14_1
   try clear hcz15_0
   try clear hcz15_1
   try clear hcz8_0
   try clear hcz8_1
   try clear hfz14_0
   try clear hfz14_1
   try clear hfz15_0
   try clear hfz15_1
   try clear hfz8_0
   try clear hfz8_1
   obtain ⟨x14_1, x188000_1, u188000, rfl, HA, HK1, HO_188000, HO_188001, BK179, BK180, BK187, HB⟩ := hrel
   cases gk with
   | zero => exact absurd HA.out (by simp [spec_l06Copy.l0])
   | succ k1 =>
    have H := HA.out
    clear HA
    simp only [spec_l06Copy.l0] at H
    by_cases c16 : x14_1 < (l0_0.length : Int)
    ·rw [if_pos c16] at H
     have c16b0 : decide (x14_1 < (l0_0.length : Int)) = true := decide_eq_true c16
     clear c16
     by_cases c17 : 0 ≤ x14_1
     ·rw [if_pos c17] at H
      have c17b0 : decide (0 ≤ x14_1) = true := decide_eq_true c17
      clear c17
      by_cases c18 : x14_1 < (l0_0.length : Int)
      ·rw [if_pos c18] at H
       have c18b0 : decide (x14_1 < (l0_0.length : Int)) = true := decide_eq_true c18
       clear c18
       obtain ⟨y189, hy189⟩ : ∃ y_ : List Int, y_ = (([] : List Int)) := ⟨_, rfl⟩
       replace H : (if y189.length + (rd_L1 l0_0 x14_1).length < 17592186044416 then (if x188000_1.length < 5864062014805 then (spec_l06Copy.l0 k1 l0_0 (l0_0.length : Int) (wrap64 (x14_1 + 1)) (x188000_1 ++ [(y189 ++ (rd_L1 l0_0 x14_1))]) y184) else (none)) else (none)) = some (r1, r2) := by first | (rw [hy189]; with_reducible exact H) | (have H2_ := (Option.bind_some _ _).symm.trans H; rw [hy189]; with_reducible exact H2_) | (have H2_ := (Option.bind_some _ _).symm.trans H; with_reducible exact H2_) | with_reducible exact H | (rw [hy189]; exact H) | exact H
       have Ny189 := Aside0.mk hy189
       clear hy189
       by_cases c19 : y189.length + (rd_L1 l0_0 x14_1).length < 17592186044416
       ·rw [if_pos c19] at H
        have LMc19 := Aside0.mk c19
        clear c19
        obtain ⟨y192, hy192⟩ : ∃ y_ : List Int, y_ = (y189 ++ (rd_L1 l0_0 x14_1)) := ⟨_, rfl⟩
        replace H : (if x188000_1.length < 5864062014805 then (spec_l06Copy.l0 k1 l0_0 (l0_0.length : Int) (wrap64 (x14_1 + 1)) (x188000_1 ++ [y192]) y184) else (none)) = some (r1, r2) := by first | (rw [hy192]; with_reducible exact H) | (have H2_ := (Option.bind_some _ _).symm.trans H; rw [hy192]; with_reducible exact H2_) | (have H2_ := (Option.bind_some _ _).symm.trans H; with_reducible exact H2_) | with_reducible exact H | (rw [hy192]; exact H) | exact H
        have Ny192 := Aside0.mk hy192
        clear hy192
        by_cases c20 : x188000_1.length < 5864062014805
        ·rw [if_pos c20] at H
         have LMc20 := Aside0.mk c20
         clear c20
         obtain ⟨y195, hy195⟩ : ∃ y_ : List (List Int), y_ = (x188000_1 ++ [y192]) := ⟨_, rfl⟩
         replace H : (spec_l06Copy.l0 k1 l0_0 (l0_0.length : Int) (wrap64 (x14_1 + 1)) y195 y184) = some (r1, r2) := by first | (rw [hy195]; with_reducible exact H) | (have H2_ := (Option.bind_some _ _).symm.trans H; rw [hy195]; with_reducible exact H2_) | (have H2_ := (Option.bind_some _ _).symm.trans H; with_reducible exact H2_) | with_reducible exact H | (rw [hy195]; exact H) | exact H
         have Ny195 := Aside0.mk hy195
         clear hy195
         have H' := Aside0.mk H
         clear H
         have p188 : 0 ≤ (x14_1 : Int) := kD
         have q188 : x14_1 < (l0_0.length : Int) := kD
         obtain ⟨ad188, A188_0, c188_0, e188, hx188_0, hl188_0, hi188_0⟩ := at_L1 HR0_0.out x14_1 p188 q188
         cases e188
         replace hx188_0 := (HB.out.cell (World.block_lt_of_cell? w _ hx188_0)).trans hx188_0
         have HR188_0 := Aside0.mk hi188_0
         have HC188_0 := Aside0.mk hl188_0
         clear hi188_0 hl188_0
         replace p188 := eq_true p188
         replace q188 := eq_true q188
         try go_wp2
         have n0_ := k0 (Kd.S_drew HO_188000.out)
         have n1_ := k0 (Kd.R_drew HO_188001.out)
         have n2_ := k0 (blk_drew BK179.out)
         have n3_ := k0 (blk_drew BK180.out)
         have n4_ := k0 (blk_drew BK187.out)
         have n5_ := k0 (below_drew1 HB.out)
         clear HO_188000 HO_188001 BK179 BK180 BK187 HB
         have HO_188000 := n0_
         have HO_188001 := n1_
         have BK179 := n2_
         have BK180 := n3_
         have BK187 := n4_
         have HB := n5_
         clear n0_ n1_ n2_ n3_ n4_ n5_
         refine start_ (n := 9) (S := fun w' => w'.cell? ⟨gb187, 0, none⟩ = some (u188000) ∧ w'.cell? ⟨gb187, 1, none⟩ = some (.slice Ao10 y184.length co10)) (ds := [8]) #[false, false, false, false, false, false, false, false, false] (by kernel_rfl) rfl rfl ⟨(blk_cell BK187.out 0).trans rfl, (blk_cell BK187.out 1).trans rfl⟩ (fun hHeld => ?_); refine with_tabW spec_l06Copy.tab5 spec_l06Copy.bits5 (fun HT_ HW_ => ?_)
         generalize wr.drew = w21 at HO_188000 HO_188001 BK179 BK180 BK187 HB hHeld ⊢
         refine kP 0 18 9 1 HT_.out ?_
         refine kP 3 21 9 9 HT_.out ?_
         refine take_ (i := 1) (N := some 19) (v := ?_) (a' := ?_) (bt 9 11) rfl rfl (take_ofW HT_.out HW_.out (by kernel_rfl)) (fun _ _ _ h => h) (Or.inl ⟨by rfl, ?_⟩) hHeld ?_ ?_
         rotate_left
         ·rintro w' ⟨s0, s1⟩
          go_simp
          with_reducible rfl
         rotate_left
         ·simp only [Act.put, List.setIfInBounds_toArray, List.set_cons_zero, List.set_cons_succ, i64_w, i32_w]
          rfl
         refine one_ (i := 2) (N := some 20) (bt 9 15) rfl rfl (one_of HT_.out (by kernel_rfl)) (by decide) (fun K hK => ?_)
         refine Kd.R_lit_step (Kd.int .i64) _ 3 ?hg (N := 20) ?hd (xs := ([] : List Int)) (inner := []) (ok := fun _ => True) (okp := fun _ => True) ?hr ?hp (fun _ hk => hk) trivial (Below.refl _ _) (Nat.le_refl _) (by simp) ?_; (case hd => rfl); (case hg => rfl); (case hr => first | (go_simp; done) | (go_simp; rfl)); (case hp => exact (Reps.none _ _))
         intro v190 w22 ho23 hb hg_ hnew_
         clear hg_ hnew_
         (first | rw [← Ny189.out] at ho23 | (simp only [Int.reduceToNat] at ho23; rw [← Ny189.out] at ho23))
         have n0_ := k0 (Kd.S_elder' (kS HO_188000.out) (Kd.R_base ho23) hb)
         have n1_ := k0 (Kd.R_elder' (kR HO_188001.out) (Kd.R_base ho23) hb)
         have n2_ := k0 (Kd.R_lower (Kd.R_new' ho23 (Kd.R_lt (kR HO_188001.out))) (below_size (kW HB.out)))
         have n3_ := k0 (kb BK179.out hb)
         have n4_ := k0 (kb BK180.out hb)
         have n5_ := k0 (kb BK187.out hb)
         have n6_ := k0 (below_step (kW HB.out) hb)
         clear HO_188000 HO_188001 BK179 BK180 BK187 HB
         have HO_188000 := n0_
         have HO_188001 := n1_
         have HO191 := n2_
         have BK179 := n3_
         have BK180 := n4_
         have BK187 := n5_
         have HB := n6_
         clear n0_ n1_ n2_ n3_ n4_ n5_ n6_
         clear hb ho23
         refine hK.out _ _ ⟨(blk_cell BK187.out 0).trans rfl, (blk_cell BK187.out 1).trans rfl⟩ (fun hHeld => ?_)
         clear hK K
         refine norm_ (a' := ?_) ?_ ?_
         rotate_left
         ·show Act.put _ (some 20) _ = _
          simp only [Act.put, List.setIfInBounds_toArray, List.set_cons_zero, List.set_cons_succ, i64_w, i32_w]
          rfl
         refine one_ (i := 4) (N := some 22) (bt 9 31) rfl rfl (one_of HT_.out (by kernel_rfl)) (by decide) (fun K hK => ?_)
         refine Kd.R_append_rows_step (Kd.int .i64) (w0 := w) w.heap.size (by rfl) (.tmp 20) (.tmp 21) 23 3 (.int .i64 0) 8 rfl Try.underlying23 info3 rfl (by decide) (by omega) v190 y189 (rd_L1 l0_0 x14_1) _ _ _ (fun k_ => some k_ ≠ (.slice Ao10 y184.length co10 : Value).ownBlock) (fun _ => False) rfl rfl ?aO ?aR (fun _ _ h => h) (fun _ h => h.elim) ?aF ?aB ?aS ?aL ?_
         (case aR => exact kC (Kd.C_below HR188_0.out HB.out))
         (case aB => exact (kW HB.out))
         (case aF => exact (fun k_ hk => Kd.fresh' (Kd.R_lt (kR HO_188001.out)) k_ hk))
         (case aO => exact (by (with_reducible repeat (first | apply Kd.R_alloc | apply Kd.R_drewN | apply Kd.R_drew)); exact Kd.R_mono HO191.out (fun _ hk => hk.2)))
         (case aS => exact (below_size (kW HB.out)))
         (case aL => have := LMc19.out; omega)
         intro v193 w24 ho hb hg hat
         rw [← Ny192.out] at ho
         have n0_ := k0 (Kd.S_after (ok := (fun k_ => some k_ ≠ (.slice Ao10 y184.length co10 : Value).ownBlock)) (kS HO_188000.out) hg hat)
         have n1_ := k0 (Kd.R_after (ok := (fun _ => True)) (kR HO_188001.out) hg hat)
         have n2_ := k0 (blk_grown (g := gb179) (o := .cells #[.slice (some ad188) l0_0.length c0_0, .slice A0_1 l0_1.length c0_1] 28 (0, 0)) (kB BK179.out) hg (Kd.R_ne HO191.out BK179.out (by decide)))
         have n3_ := k0 (blk_grown (g := gb180) (o := .cells #[.slice none 0 0, .slice none 0 0] 28 (0, 0)) (kB BK180.out) hg (Kd.R_ne HO191.out BK180.out (by decide)))
         have n4_ := k0 (blk_grown (g := gb187) (o := .cells #[u188000, .slice Ao10 y184.length co10] 28 (0, 0)) (kB BK187.out) hg (Kd.R_ne HO191.out BK187.out (by decide)))
         have n5_ := k0 (hb)
         have n6_ := k0 (ho)
         clear HO_188000 HO_188001 BK179 BK180 BK187 HB HO191
         have HO_188000 := n0_
         have HO_188001 := n1_
         have BK179 := n2_
         have BK180 := n3_
         have BK187 := n4_
         have HB := n5_
         have HO194 := n6_
         clear n0_ n1_ n2_ n3_ n4_ n5_ n6_
         clear ho hb hg hat
         obtain ⟨Ao26, co26, eo26⟩ := Kd.R_slice HO194.out
         (first | subst eo26 | (injection eo26 with f1_ f2_ f3_; have f4_ := f1_.symm; have f5_ := f3_.symm; clear f1_ f2_ f3_; subst f4_; subst f5_))
         refine hK.out _ _ ⟨(blk_cell BK187.out 0).trans rfl, (blk_cell BK187.out 1).trans rfl⟩ (fun hHeld => ?_)
         clear hK K
         refine norm_ (a' := ?_) ?_ ?_
         rotate_left
         ·show Act.put _ (some 22) _ = _
          simp only [Act.put, List.setIfInBounds_toArray, List.set_cons_zero, List.set_cons_succ, i64_w, i32_w]
          rfl
         refine one_ (i := 5) (N := some 23) (bt 9 63) rfl rfl (one_of HT_.out (by kernel_rfl)) (by decide) (fun K hK => ?_)
         refine value_ (w1 := ?_) (v := ?_) (by rfl) rfl ?_ ?_
         rotate_left 2
         ·go_simp
          constructor
          ·rfl
          ·rfl
         refine hK.out _ _ ⟨(blk_cell (blk_alloc BK187.out _) 0).trans rfl, (blk_cell (blk_alloc BK187.out _) 1).trans rfl⟩ (fun hHeld => ?_)
         clear hK K
         refine norm_ (a' := ?_) ?_ ?_
         rotate_left
         ·show Act.put _ (some 23) _ = _
          simp only [Act.put, List.setIfInBounds_toArray, List.set_cons_zero, List.set_cons_succ, i64_w, i32_w]
          rfl
         refine one_ (i := 6) (N := some 24) (bt 9 127) rfl rfl (one_of HT_.out (by kernel_rfl)) (by decide) (fun K hK => ?_)
         refine Kd.S_append_step (Kd.slice 3 (Kd.int .i64)) (w0 := w) w.heap.size (by rfl) (.tmp 19) (.tmp 23) 22 23 (.slice none 0 0) 24 rfl Try.underlying22 info23 rfl (by decide) (by omega) u188000 x188000_1 y192 [.slice Ao26 y192.length co26] (fun k_ => some k_ ≠ (.slice Ao10 y184.length co10 : Value).ownBlock) (fun k_ => some k_ = (.slice Ao26 y192.length co26 : Value).ownBlock) rfl rfl ?aP (fun k_ hk_ => ((Kd.R_mono (ok' := fun k_ => ((fun k_ => some k_ ≠ (.slice Ao10 y184.length co10 : Value).ownBlock)) k_ ∧ some k_ ≠ (u188000 : Value).ownBlock) (Kd.R_apart' (HO194.out) (Kd.S_typed HO_188000.out) (by decide)) (fun k_ hk => ⟨hk.1, hk.2⟩))).1 k_ hk_.symm) ?aF ?aO ?aB ?aS ?aL ?_
         (case aP => exact Kd.M_row (Kd.R_mono (Kd.R_tight rfl (Kd.R_mono (ok' := fun k_ => ((fun k_ => some k_ ≠ (.slice Ao10 y184.length co10 : Value).ownBlock)) k_ ∧ some k_ ≠ (u188000 : Value).ownBlock) (Kd.R_apart' (HO194.out) (Kd.S_typed HO_188000.out) (by decide)) (fun k_ hk => ⟨hk.1, hk.2⟩))) (fun _ h_ => h_)))
         (case aB => exact (kW HB.out))
         (case aF => exact (fun k_ hk => Kd.fresh' (Kd.R_lt (kR HO_188001.out)) k_ hk))
         (case aO => exact (by (with_reducible repeat (first | apply Kd.S_alloc | apply Kd.S_drewN | apply Kd.S_drew)); exact Kd.S_mono HO_188000.out (fun k_ hk => ⟨hk.1, fun e_ => hk.2 e_⟩)))
         (case aS => exact (below_size (kW HB.out)))
         (case aL => have := LMc20.out; omega)
         intro v196 w25 ho hb hg hat
         rw [← Ny195.out] at ho
         have n0_ := k0 (Kd.R_over' (kR HO_188001.out) (Kd.S_typed (kS HO_188000.out)) (by decide) hg)
         have n1_ := k0 (blk_grown (g := gb179) (o := .cells #[.slice (some ad188) l0_0.length c0_0, .slice A0_1 l0_1.length c0_1] 28 (0, 0)) (kB BK179.out) hg (Kd.S_ne HO_188000.out BK179.out (by decide)))
         have n2_ := k0 (blk_grown (g := gb180) (o := .cells #[.slice none 0 0, .slice none 0 0] 28 (0, 0)) (kB BK180.out) hg (Kd.S_ne HO_188000.out BK180.out (by decide)))
         have n3_ := k0 (blk_grown (g := gb187) (o := .cells #[u188000, .slice Ao10 y184.length co10] 28 (0, 0)) (kB BK187.out) hg (Kd.S_ne HO_188000.out BK187.out (by decide)))
         have n4_ := k0 (hb)
         have n5_ := k0 (ho)
         clear HO_188001 BK179 BK180 BK187 HB HO_188000 HO194
         have HO_188001 := n0_
         have BK179 := n1_
         have BK180 := n2_
         have BK187 := n3_
         have HB := n4_
         have HO197 := n5_
         clear n0_ n1_ n2_ n3_ n4_ n5_
         clear ho hb hg hat
         obtain ⟨Ao27, co27, eo27⟩ := Kd.S_slice HO197.out
         (first | subst eo27 | (injection eo27 with f1_ f2_ f3_; have f4_ := f1_.symm; have f5_ := f3_.symm; clear f1_ f2_ f3_; subst f4_; subst f5_))
         refine hK.out _ _ ⟨(blk_cell BK187.out 0).trans rfl, (blk_cell BK187.out 1).trans rfl⟩ (fun hHeld => ?_)
         clear hK K
         refine norm_ (a' := ?_) ?_ ?_
         rotate_left
         ·show Act.put _ (some 24) _ = _
          simp only [Act.put, List.setIfInBounds_toArray, List.set_cons_zero, List.set_cons_succ, i64_w, i32_w]
          rfl
         refine kP 7 25 9 255 HT_.out ?_
         refine last_ (i := 8) (N := none) (bt 9 511) rfl rfl (one_of HT_.out (by kernel_rfl)) (by decide) (fun K hK => ?_)
         have hs28 : w25.cell? ⟨gb187, 0, none⟩ = some (u188000) := (blk_cell BK187.out 0).trans rfl
         have hfs28 := blk_frozen BK187.out 0
         have hns28_0 := NB179_187.out
         have hns28_1 := NB180_187.out
         have hms28_0 := NB187_179.out
         have hms28_1 := NB187_180.out
         refine skip_ (w1 := ?_) (by rfl) rfl ?_ ?_
         rotate_left
         ·go_simp
          rfl
         refine hK.out _ _ ?_
         clear hK K
         refine done_ (done_of HT_.out (by kernel_rfl)) ?_
         try go_wp2
         go_roundg k1
         case measure => have := HK1.out; omega
         case rel => exact ⟨(wrap64 (x14_1 + 1)), (y195), (.slice Ao27 y195.length co27), (by first | rfl | (simp; done) | (simp [*]; done)), H', ⟨by have := HK1.out; omega⟩, ⟨by (with_reducible repeat (first | apply Kd.S_alloc | apply Kd.S_drewN | apply Kd.S_drew)); exact Kd.S_mono (Kd.S_far (p := ⟨gb187, 0, none⟩) (Kd.S_types HO197.out BK187.out (by decide)) (fun _ hk => hk.2) (.slice Ao27 y195.length co27)) (fun _ hk => hk.1)⟩, ⟨by (with_reducible repeat (first | apply Kd.R_alloc | apply Kd.R_drewN | apply Kd.R_drew)); exact Kd.R_mono (Kd.R_far (p := ⟨gb187, 0, none⟩) (Kd.R_types HO_188001.out BK187.out (by decide)) (fun _ hk => hk.2) (.slice Ao27 y195.length co27)) (fun _ hk => trivial)⟩, ⟨by (with_reducible repeat first | apply k1 | apply k2 | apply k3); refine blk_far ?_ NB179_187.out _; (with_reducible repeat first | apply k1 | apply k2 | apply k3); exact BK179.out⟩, ⟨by (with_reducible repeat first | apply k1 | apply k2 | apply k3); refine blk_far ?_ NB180_187.out _; (with_reducible repeat first | apply k1 | apply k2 | apply k3); exact BK180.out⟩, ⟨by (with_reducible repeat first | apply k1 | apply k2 | apply k3); refine blk_put (cs := #[u188000, .slice Ao10 y184.length co10]) ?_ 0 _ rfl; (with_reducible repeat first | apply k1 | apply k2 | apply k3); exact BK187.out⟩, ⟨by repeat (first | (with_reducible first | exact HB.out | apply below_alloc | apply pw_below_drewN | apply below_drew1 | refine below_set ?_ GE179.out | refine below_set ?_ GE180.out | refine below_set ?_ GE187.out) | exact HB.out)⟩⟩
        ·rw [if_neg c20] at H
         exact absurd H (by simp)
       ·rw [if_neg c19] at H
        exact absurd H (by simp)
      ·rw [if_neg c18] at H
       exact absurd H (by simp)
     ·rw [if_neg c17] at H
      exact absurd H (by simp)
    ·rw [if_neg c16] at H
     have c16b0 : decide (x14_1 < (l0_0.length : Int)) = false := decide_eq_false c16
     clear c16
     simp only [Option.some.injEq, Prod.mk.injEq] at H
     obtain ⟨rfl, rfl⟩ := H
     have hnb29 := NB187_179.out
     have hnc29 := NB179_187.out
     have hnb30 := NB187_180.out
     have hnc30 := NB180_187.out
     have hcz31_0 : wr.cell? ⟨gb187, 0, none⟩ = some (u188000) := kx BK187.out
     have hcz31_1 : wr.cell? ⟨gb187, 1, none⟩ = some (.slice Ao10 y184.length co10) := kx BK187.out
     have hfz31_0 := blk_frozen BK187.out 0
     have hfz31_1 := blk_frozen BK187.out 1
     obtain ⟨Ao32, co32, eo32⟩ := Kd.S_slice HO_188000.out
     subst eo32
     have hnb33 := NB180_179.out
     have hnc33 := NB179_180.out
     have hcz34_0 : wr.cell? ⟨gb180, 0, none⟩ = some (.slice none 0 0) := kx BK180.out
     have hcz34_1 : wr.cell? ⟨gb180, 1, none⟩ = some (.slice none 0 0) := kx BK180.out
     have hfz34_0 := blk_frozen BK180.out 0
     have hfz34_1 := blk_frozen BK180.out 1
     go_wp2
     refine bodyPost_ret (results_cell_row rfl _ _ gb180 28 #[.slice Ao32 x188000_1.length co32, .slice Ao10 y184.length co10] (0, 0) _ rfl (by (with_reducible repeat first | apply k1 | apply k2 | apply k3); refine blk_put (cs := #[.slice Ao32 x188000_1.length co32, .slice none 0 0]) ?_ 1 _ rfl; (with_reducible repeat first | apply k1 | apply k2 | apply k3); refine blk_put (cs := #[.slice none 0 0, .slice none 0 0]) ?_ 0 _ rfl; (with_reducible repeat first | apply k1 | apply k2 | apply k3); exact BK180.out) Try.underlying28 rfl (by kernel_rfl)) rfl ?_
     exact ⟨_, _, by first | rfl | (simp [errW_none, errW_some] <;> rfl) | (simp [*, errW_none, errW_some] <;> rfl), by (with_reducible repeat (first | apply Kd.S_alloc | apply Kd.S_drewN | apply Kd.S_drew)); exact Kd.S_mono (Kd.S_far (p := ⟨gb180, 1, none⟩) (Kd.S_far (p := ⟨gb180, 0, none⟩) (Kd.S_types HO_188000.out BK180.out (by decide)) (fun _ hk => hk.2) (.slice Ao32 x188000_1.length co32)) (fun _ hk => hk.2) (.slice Ao10 y184.length co10)) (fun _ hk => hk.1), by (with_reducible repeat (first | apply Kd.R_alloc | apply Kd.R_drewN | apply Kd.R_drew)); exact Kd.R_mono (Kd.R_far (p := ⟨gb180, 1, none⟩) (Kd.R_far (p := ⟨gb180, 0, none⟩) (Kd.R_types HO_188001.out BK180.out (by decide)) (fun _ hk => hk.2) (.slice Ao32 x188000_1.length co32)) (fun _ hk => hk.2) (.slice Ao10 y184.length co10)) (fun _ hk => trivial), by repeat (first | (with_reducible first | exact HB.out | apply below_alloc | apply pw_below_drewN | apply below_drew1 | refine below_set ?_ GE179.out | refine below_set ?_ GE180.out | refine below_set ?_ GE187.out) | exact HB.out)⟩
 ·rw [if_neg c2] at H
  exact absurd H (by simp)

/-! ### spec_l01In: function 49 -/
def spec_l01In.f (a0 : Int) (a1 : Int) (a2 : Int) : Option (Bool) := if a0 ≥ a1 then (some (decide (a0 ≤ a2))) else (some false)
set_option maxHeartbeats 8000000 in
set_option maxRecDepth 100000 in
theorem spec_l01In.calls (a0 : Int) (a1 : Int) (a2 : Int) (r : Bool) (w : World) (h : spec_l01In.f a0 a1 a2 = some r) :
  Calls Try.prog 49 #[.int .i64 a0, .int .i64 a1, .int .i64 a2] w fun e w' => e = .returned (.bool r) ∧ Drawn0 w w' := by
 have H : (if a0 ≥ a1 then (some (decide (a0 ≤ a2))) else (some false)) = some r := h
 clear h
 by_cases c4 : a0 ≥ a1
 ·rw [if_pos c4] at H
  have c4b0 : decide (a1 ≤ a0) = true := decide_eq_true c4
  clear c4
  obtain rfl := Option.some.inj H
  go_enter Try.func49, Try.ntmps49
  go_wp2
  go_ret
  exact ⟨by first | rfl | (simp; done) | (simp [*]; done), by repeat (first | exact Drawn0.refl _ | apply Drawn0.step)⟩
 ·rw [if_neg c4] at H
  have c4b0 : decide (a1 ≤ a0) = false := decide_eq_false c4
  clear c4
  obtain rfl := Option.some.inj H
  go_enter Try.func49, Try.ntmps49
  go_wp2
  go_ret
  exact ⟨by first | rfl | (simp; done) | (simp [*]; done), by repeat (first | exact Drawn0.refl _ | apply Drawn0.step)⟩

/-! ### spec_l01Num: function 41 -/
def spec_l01Num.f (a0 : Int) : Option (Bool) := (spec_l01In.f a0 0 1125899906842624).bind fun t198 => (some t198)
set_option maxHeartbeats 8000000 in
set_option maxRecDepth 100000 in
theorem spec_l01Num.calls (a0 : Int) (r : Bool) (w : World) (h : spec_l01Num.f a0 = some r) :
  Calls Try.prog 41 #[.int .i64 a0] w fun e w' => e = .returned (.bool r) ∧ Drawn0 w w' := by
 have H : ((spec_l01In.f a0 0 1125899906842624).bind fun t198 => (some t198)) = some r := h
 clear h
 replace H := Option.bind_eq_some_iff.mp H
 obtain ⟨t198, A20, H⟩ := H
 replace H : (some t198) = some r := H
 have A2 := Aside0.mk A20
 clear A20
 obtain rfl := Option.some.inj H
 go_enter Try.func41, Try.ntmps41
 go_wp2_with (first | ((with_reducible refine gate_callee (f := 49) rfl ?_); refine kG (some 4) Try.func49 #[.int .i64 a0, .int .i64 0, .int .i64 1125899906842624] ?_; (with_reducible refine (spec_l01In.calls a0 0 1125899906842624 t198 _ A2.out).mono ?_); rintro e w' ⟨rfl, ⟨nd, rfl⟩⟩; refine ⟨_, rfl, ?_⟩))
 go_ret
 exact ⟨by first | rfl | (simp; done) | (simp [*]; done), by repeat (first | exact Drawn0.refl _ | apply Drawn0.step)⟩

end Go.Proofs.Ytcnanifokpcjaaa.PFnRights
