import Derived.Test.YtcnanifokpcjaaaPFnMeetx0
import Derived.Test.YtcnanifokpcjaaaPFnMeetx2
import Derived.Test.YtcnanifokpcjaaaPFnMeetx4
namespace Go.Proofs.Ytcnanifokpcjaaa.PFnMeet
open Go.RowKit Go.Proofs.YtcnanifokpcjaaaW.PrintWords Go.Proofs.YtcnanifokpcjaaaW.PrintLast Go.Proofs.YtcnanifokpcjaaaW.PrintMore
attribute [local go_sem] max2_int min2_int max_two min_two max_three min_three max_four min_four   -- for this text's walks alone
set_option linter.unusedVariables false
set_option linter.unusedSimpArgs false

/-! ### impl_Meet: function 25 -/
mutual
def impl_Meet.j0 : Nat → Bool → List (List Int) → List Int → List (List Int) → List Int → Option ((List (List Int)) × List Int × Bool)
 | 0, _, _, _, _, _ => none
 | k + 1, x25, x147000, x147001, x148000, x148001 => if x25 = true then (some (([] : List (List Int)), ([] : List Int), false)) else ((impl_copyRights.f k x147000 x147001).bind fun bt151 => (impl_Meet.l0 k (x147001.length : Int) 0 x147000 x147001 x148000 x148001 bt151.1 bt151.2))
def impl_Meet.l0 : Nat → Int → Int → List (List Int) → List Int → List (List Int) → List Int → List (List Int) → List Int → Option ((List (List Int)) × List Int × Bool)
 | 0, _, _, _, _, _, _, _, _ => none
 | k + 1, x31, x32, x147000, x147001, x148000, x148001, x158000, x158001 => if x32 < x31 then (if 0 ≤ x32 then (if x32 < (x147001.length : Int) then (if x32 < (x148001.length : Int) then (if x32 < (x158001.length : Int) then (impl_Meet.l1 k x32 x31 x32 (x147001.length : Int) 0 x147000 x147001 x148000 x148001 x158000 (x158001.set (x32 : Int).toNat (mx (rd x147001 x32) (rd x148001 x32)))) else (none)) else (none)) else (none)) else (none)) else ((impl_RightsOk.f k x158000 x158001).bind fun t158 => (if t158 = true then (some (x158000, x158001, true)) else (some (([] : List (List Int)), ([] : List Int), false))))
def impl_Meet.l1 : Nat → Int → Int → Int → Int → Int → List (List Int) → List Int → List (List Int) → List Int → List (List Int) → List Int → Option ((List (List Int)) × List Int × Bool)
 | 0, _, _, _, _, _, _, _, _, _, _, _ => none
 | k + 1, x7, x31, x32, x52, x53, x147000, x147001, x148000, x148001, x158000, x158001 => if x53 < x52 then (if 0 ≤ x7 then (if x7 < (x158000.length : Int) then (if x7 < (x147000.length : Int) then (if 0 ≤ x53 then (if x53 < ((rd_L1 x147000 x7).length : Int) then (if x7 < (x148000.length : Int) then (if x53 < ((rd_L1 x148000 x7).length : Int) then (if x53 < ((rd_L1 x158000 x7).length : Int) then (impl_Meet.l1 k x7 x31 x32 x52 (wrap64 (x53 + 1)) x147000 x147001 x148000 x148001 (x158000.set (x7 : Int).toNat ((rd_L1 x158000 x7).set (x53 : Int).toNat (mx (rd (rd_L1 x147000 x7) x53) (rd (rd_L1 x148000 x7) x53)))) x158001) else (none)) else (none)) else (none)) else (none)) else (none)) else (none)) else (none)) else (none)) else (impl_Meet.l0 k x31 (wrap64 (x32 + 1)) x147000 x147001 x148000 x148001 x158000 x158001)
end
def impl_Meet.f (k : Nat) (l0_0 : List (List Int)) (l0_1 : List Int) (l1_0 : List (List Int)) (l1_1 : List Int) : Option ((List (List Int)) × List Int × Bool) := (impl_RightsOk.f k l0_0 l0_1).bind fun t149 => (if t149 = true then ((impl_RightsOk.f k l1_0 l1_1).bind fun t150 => (if t150 = true then (impl_Meet.j0 k ((l0_1.length : Int) != (l1_1.length : Int)) l0_0 l0_1 l1_0 l1_1) else (impl_Meet.j0 k true l0_0 l0_1 l1_0 l1_1))) else (impl_Meet.j0 k true l0_0 l0_1 l1_0 l1_1))
theorem impl_Meet.mono_l : ∀ k, (∀ y0 y1 y2 y3 y4, LeO (impl_Meet.j0 k y0 y1 y2 y3 y4) (impl_Meet.j0 (k + 1) y0 y1 y2 y3 y4)) ∧ (∀ y0 y1 y2 y3 y4 y5 y6 y7, LeO (impl_Meet.l0 k y0 y1 y2 y3 y4 y5 y6 y7) (impl_Meet.l0 (k + 1) y0 y1 y2 y3 y4 y5 y6 y7)) ∧ (∀ y0 y1 y2 y3 y4 y5 y6 y7 y8 y9 y10, LeO (impl_Meet.l1 k y0 y1 y2 y3 y4 y5 y6 y7 y8 y9 y10) (impl_Meet.l1 (k + 1) y0 y1 y2 y3 y4 y5 y6 y7 y8 y9 y10))
 | 0 => ⟨fun _ _ _ _ _ r h => by simp [impl_Meet.j0] at h, fun _ _ _ _ _ _ _ _ r h => by simp [impl_Meet.l0] at h, fun _ _ _ _ _ _ _ _ _ _ _ r h => by simp [impl_Meet.l1] at h⟩
 | k + 1 => by
  obtain ⟨ih0, ih1, ih2⟩ := impl_Meet.mono_l k
  refine ⟨?_, ?_, ?_⟩
  ·intro y0 y1 y2 y3 y4
   unfold impl_Meet.j0
   repeat' first
   | (with_reducible exact ih0 _ _ _ _ _)
   | (with_reducible exact ih1 _ _ _ _ _ _ _ _)
   | (with_reducible exact ih2 _ _ _ _ _ _ _ _ _ _ _)
   | (with_reducible exact impl_RightsOk.mono _ _ _)
   | (with_reducible exact impl_copyRights.mono _ _ _)
   | (with_reducible exact LeO.refl _)
   | (with_reducible exact LeO.none _)
   | (with_reducible refine LeO.ite ?_ ?_)
   | (with_reducible refine LeO.bind ?_ (fun _ => ?_))
   | exact ih0 _ _ _ _ _
   | exact ih1 _ _ _ _ _ _ _ _
   | exact ih2 _ _ _ _ _ _ _ _ _ _ _
   | exact impl_RightsOk.mono _ _ _
   | exact impl_copyRights.mono _ _ _
   | exact LeO.none _
   | refine LeO.ite ?_ ?_
   | refine LeO.bind ?_ (fun _ => ?_)
  ·intro y0 y1 y2 y3 y4 y5 y6 y7
   unfold impl_Meet.l0
   repeat' first
   | (with_reducible exact ih0 _ _ _ _ _)
   | (with_reducible exact ih1 _ _ _ _ _ _ _ _)
   | (with_reducible exact ih2 _ _ _ _ _ _ _ _ _ _ _)
   | (with_reducible exact impl_RightsOk.mono _ _ _)
   | (with_reducible exact impl_copyRights.mono _ _ _)
   | (with_reducible exact LeO.refl _)
   | (with_reducible exact LeO.none _)
   | (with_reducible refine LeO.ite ?_ ?_)
   | (with_reducible refine LeO.bind ?_ (fun _ => ?_))
   | exact ih0 _ _ _ _ _
   | exact ih1 _ _ _ _ _ _ _ _
   | exact ih2 _ _ _ _ _ _ _ _ _ _ _
   | exact impl_RightsOk.mono _ _ _
   | exact impl_copyRights.mono _ _ _
   | exact LeO.none _
   | refine LeO.ite ?_ ?_
   | refine LeO.bind ?_ (fun _ => ?_)
  ·intro y0 y1 y2 y3 y4 y5 y6 y7 y8 y9 y10
   unfold impl_Meet.l1
   repeat' first
   | (with_reducible exact ih0 _ _ _ _ _)
   | (with_reducible exact ih1 _ _ _ _ _ _ _ _)
   | (with_reducible exact ih2 _ _ _ _ _ _ _ _ _ _ _)
   | (with_reducible exact impl_RightsOk.mono _ _ _)
   | (with_reducible exact impl_copyRights.mono _ _ _)
   | (with_reducible exact LeO.refl _)
   | (with_reducible exact LeO.none _)
   | (with_reducible refine LeO.ite ?_ ?_)
   | (with_reducible refine LeO.bind ?_ (fun _ => ?_))
   | exact ih0 _ _ _ _ _
   | exact ih1 _ _ _ _ _ _ _ _
   | exact ih2 _ _ _ _ _ _ _ _ _ _ _
   | exact impl_RightsOk.mono _ _ _
   | exact impl_copyRights.mono _ _ _
   | exact LeO.none _
   | refine LeO.ite ?_ ?_
   | refine LeO.bind ?_ (fun _ => ?_)
theorem impl_Meet.mono : ∀ a0 a1 a2 a3 k, LeO (impl_Meet.f k a0 a1 a2 a3) (impl_Meet.f (k + 1) a0 a1 a2 a3) := by
 intro a0 a1 a2 a3 k
 obtain ⟨ih0, ih1, ih2⟩ := impl_Meet.mono_l k
 unfold impl_Meet.f
 repeat' first
   | (with_reducible exact ih0 _ _ _ _ _)
   | (with_reducible exact ih1 _ _ _ _ _ _ _ _)
   | (with_reducible exact ih2 _ _ _ _ _ _ _ _ _ _ _)
   | (with_reducible exact impl_RightsOk.mono _ _ _)
   | (with_reducible exact impl_copyRights.mono _ _ _)
   | (with_reducible exact LeO.refl _)
   | (with_reducible exact LeO.none _)
   | (with_reducible refine LeO.ite ?_ ?_)
   | (with_reducible refine LeO.bind ?_ (fun _ => ?_))
   | exact ih0 _ _ _ _ _
   | exact ih1 _ _ _ _ _ _ _ _
   | exact ih2 _ _ _ _ _ _ _ _ _ _ _
   | exact impl_RightsOk.mono _ _ _
   | exact impl_copyRights.mono _ _ _
   | exact LeO.none _
   | refine LeO.ite ?_ ?_
   | refine LeO.bind ?_ (fun _ => ?_)
def impl_Meet.T7 : Bool × List (List Nat × List Nat) := (true, [([], []), ([0], [0]), ([], []), ([], []), ([3], [3]), ([], []), ([4, 5], [4, 5]), ([6], [6]), ([], []), ([8], [8]), ([], []), ([9, 10], [9, 10]), ([11], [11]), ([7, 12], [7, 12]), ([1, 2, 0, 1, 2, 3, 4, 5, 6, 7, 8, 9, 10, 11, 12, 13], [1, 2]), ([14, 13, 0, 1, 2, 3, 4, 5, 6, 7, 8, 9, 10, 11, 12, 13], [13, 14])])
def impl_Meet.B7 : List Nat := [0, 1, 0, 0, 8, 0, 56, 120, 0, 256, 0, 1792, 3840, 8184, 16383, 32767]
theorem impl_Meet.tab7 : rtab .any (opsOf Try.f25 7) = impl_Meet.T7 := by kernel_rfl
theorem impl_Meet.bits7 : waitsOk impl_Meet.T7.2 impl_Meet.B7 = true := by kernel_rfl
def impl_Meet.T11 : Bool × List (List Nat × List Nat) := (true, [([], []), ([0], [0]), ([], []), ([1, 2], [1, 2]), ([3], [3]), ([], []), ([], []), ([6], [6]), ([], []), ([7, 8], [7, 8]), ([9], [9]), ([], []), ([10, 11], [10, 11]), ([12], [12]), ([], []), ([14], [14]), ([], []), ([15, 16], [15, 16]), ([17], [17]), ([], []), ([18, 19], [18, 19]), ([20], [20]), ([13, 21], [13, 21]), ([4, 5, 0, 1, 2, 3, 4, 5, 6, 7, 8, 9, 10, 11, 12, 13, 14, 15, 16, 17, 18, 19, 20, 21, 22], [4, 5]), ([23, 22, 0, 1, 2, 3, 4, 5, 6, 7, 8, 9, 10, 11, 12, 13, 14, 15, 16, 17, 18, 19, 20, 21, 22], [22, 23])])
def impl_Meet.B11 : List Nat := [0, 1, 0, 7, 15, 0, 0, 64, 0, 448, 960, 0, 4032, 8128, 0, 16384, 0, 114688, 245760, 0, 1032192, 2080768, 4194240, 8388607, 16777215]
theorem impl_Meet.tab11 : rtab .any (opsOf Try.f25 11) = impl_Meet.T11 := by kernel_rfl
theorem impl_Meet.bits11 : waitsOk impl_Meet.T11.2 impl_Meet.B11 = true := by kernel_rfl
set_option maxHeartbeats 8000000 in
set_option maxRecDepth 100000 in
theorem impl_Meet.calls (k : Nat) (A0_0 : Option Addr) (c0_0 : Nat) (l0_0 : List (List Int)) (A0_1 : Option Addr) (c0_1 : Nat) (l0_1 : List Int) (A1_0 : Option Addr) (c1_0 : Nat) (l1_0 : List (List Int)) (A1_1 : Option Addr) (c1_1 : Nat) (l1_1 : List Int) (r1 : List (List Int)) (r2 : List Int) (r3 : Bool) (w : World) (hr0_0 : Kd.C (Kd.slice 3 (Kd.int .i64)) w A0_0 l0_0.length l0_0) (hc0_0 : l0_0.length ≤ c0_0) (hr0_1 : Kd.C (Kd.int .i64) w A0_1 l0_1.length l0_1) (hc0_1 : l0_1.length ≤ c0_1) (hr1_0 : Kd.C (Kd.slice 3 (Kd.int .i64)) w A1_0 l1_0.length l1_0) (hc1_0 : l1_0.length ≤ c1_0) (hr1_1 : Kd.C (Kd.int .i64) w A1_1 l1_1.length l1_1) (hc1_1 : l1_1.length ≤ c1_1) (h : impl_Meet.f k l0_0 l0_1 l1_0 l1_1 = some (r1, r2, r3)) :
  Calls Try.prog 25 #[.agg #[.slice A0_0 l0_0.length c0_0, .slice A0_1 l0_1.length c0_1], .agg #[.slice A1_0 l1_0.length c1_0, .slice A1_1 l1_1.length c1_1]] w fun e w' => ∃ v0_ v1_ : Value, e = .returned (.tuple #[.agg #[v0_, v1_], .bool r3]) ∧ Kd.S (Kd.slice 3 (Kd.int .i64)) 23 w' w.heap.size (fun k_ => some k_ ≠ (v1_ : Value).ownBlock) v0_ r1 ∧ Kd.R (Kd.int .i64) 3 w' w.heap.size (fun _ => True) v1_ r2 ∧ Below w.heap.size w w' := by
 have hu28 := Try.underlying28
 have HR0_0 := Aside0.mk hr0_0
 have HC0_0 := Aside0.mk hc0_0
 clear hr0_0 hc0_0
 have HR0_1 := Aside0.mk hr0_1
 have HC0_1 := Aside0.mk hc0_1
 clear hr0_1 hc0_1
 have HR1_0 := Aside0.mk hr1_0
 have HC1_0 := Aside0.mk hc1_0
 clear hr1_0 hc1_0
 have HR1_1 := Aside0.mk hr1_1
 have HC1_1 := Aside0.mk hc1_1
 clear hr1_1 hc1_1
 have HB := k0 (Below.refl w.heap.size w)
 have H : ((impl_RightsOk.f k l0_0 l0_1).bind fun t149 => (if t149 = true then ((impl_RightsOk.f k l1_0 l1_1).bind fun t150 => (if t150 = true then (impl_Meet.j0 k ((l0_1.length : Int) != (l1_1.length : Int)) l0_0 l0_1 l1_0 l1_1) else (impl_Meet.j0 k true l0_0 l0_1 l1_0 l1_1))) else (impl_Meet.j0 k true l0_0 l0_1 l1_0 l1_1))) = some (r1, r2, r3) := h
 clear h
 have HC3 := Aside0.mk H
 clear H
 go_enter Try.func25, Try.ntmps25
 go_upto_region 1 with (first | ((with_reducible refine gate_dst (N := 2) rfl ?_); (try (refine gate_guard (by rfl) ?_; dsimp only)); refine kE (N := 2) (cs := #[.slice A0_0 l0_0.length c0_0, .slice A0_1 l0_1.length c0_1]) (t := 28) ?_; intro gb146 hg w4 hbox hb; have n0_ := k0 (below_step (kW HB.out) hb); have n1_ := k0 (hbox); have n2_ := k0 (kY HB.out hg); have n3_ := k0 (kY HB.out hg); clear HB; have HB := n0_; have BK146 := n1_; have GW146 := n2_; have GE146 := n3_; clear n0_ n1_ n2_ n3_; clear hb hbox hg) | ((with_reducible refine gate_dst (N := 3) rfl ?_); (try (refine gate_guard (by rfl) ?_; dsimp only)); refine kE (N := 3) (cs := #[.slice A1_0 l1_0.length c1_0, .slice A1_1 l1_1.length c1_1]) (t := 28) ?_; intro gb147 hg w5 hbox hb; have n0_ := k0 (kb BK146.out hb); have n1_ := k0 (below_step (kW HB.out) hb); have n2_ := k0 (hbox); have n3_ := k0 (kY HB.out hg); have n4_ := k0 (kY HB.out hg); have n5_ := k0 ((by rw [hg]; exact Nat.ne_of_lt (blk_lt (g := gb146) (o := .cells #[.slice A0_0 l0_0.length c0_0, .slice A0_1 l0_1.length c0_1] 28 (0, 0)) (kB BK146.out)) : gb146 ≠ gb147)); have n6_ := k0 ((by rw [hg]; exact Nat.ne_of_gt (blk_lt (g := gb146) (o := .cells #[.slice A0_0 l0_0.length c0_0, .slice A0_1 l0_1.length c0_1] 28 (0, 0)) (kB BK146.out)) : gb147 ≠ gb146)); clear BK146; clear HB; have BK146 := n0_; have HB := n1_; have BK147 := n2_; have GW147 := n3_; have GE147 := n4_; have NB146_147 := n5_; have NB147_146 := n6_; clear n0_ n1_ n2_ n3_ n4_ n5_ n6_; clear hb hbox hg) | ((with_reducible refine gate_dst (N := 4) rfl ?_); (try (refine gate_guard (by rfl) ?_; dsimp only)); refine kE (N := 4) (cs := #[.slice none 0 0, .slice none 0 0]) (t := 28) ?_; intro gb148 hg w6 hbox hb; have n0_ := k0 (kb BK146.out hb); have n1_ := k0 (kb BK147.out hb); have n2_ := k0 (below_step (kW HB.out) hb); have n3_ := k0 (hbox); have n4_ := k0 (kY HB.out hg); have n5_ := k0 (kY HB.out hg); have n6_ := k0 ((by rw [hg]; exact Nat.ne_of_lt (blk_lt (g := gb146) (o := .cells #[.slice A0_0 l0_0.length c0_0, .slice A0_1 l0_1.length c0_1] 28 (0, 0)) (kB BK146.out)) : gb146 ≠ gb148)); have n7_ := k0 ((by rw [hg]; exact Nat.ne_of_gt (blk_lt (g := gb146) (o := .cells #[.slice A0_0 l0_0.length c0_0, .slice A0_1 l0_1.length c0_1] 28 (0, 0)) (kB BK146.out)) : gb148 ≠ gb146)); have n8_ := k0 ((by rw [hg]; exact Nat.ne_of_lt (blk_lt (g := gb147) (o := .cells #[.slice A1_0 l1_0.length c1_0, .slice A1_1 l1_1.length c1_1] 28 (0, 0)) (kB BK147.out)) : gb147 ≠ gb148)); have n9_ := k0 ((by rw [hg]; exact Nat.ne_of_gt (blk_lt (g := gb147) (o := .cells #[.slice A1_0 l1_0.length c1_0, .slice A1_1 l1_1.length c1_1] 28 (0, 0)) (kB BK147.out)) : gb148 ≠ gb147)); clear BK146; clear BK147; clear HB; have BK146 := n0_; have BK147 := n1_; have HB := n2_; have BK148 := n3_; have GW148 := n4_; have GE148 := n5_; have NB146_148 := n6_; have NB148_146 := n7_; have NB147_148 := n8_; have NB148_147 := n9_; clear n0_ n1_ n2_ n3_ n4_ n5_ n6_ n7_ n8_ n9_; clear hb hbox hg))
 (try simp only [Act.put, List.setIfInBounds_toArray, List.set_cons_zero, List.set_cons_succ])
 go_cut [25] (fun v25 wc => ∃ (kq : Nat) (x25_2 : Bool), v25 = .bool x25_2 ∧ Aside0 (impl_Meet.j0 kq x25_2 l0_0 l0_1 l1_0 l1_1 = some (r1, r2, r3)) ∧ Aside0 (kq ≤ k) ∧ Aside0 (wc.heap[gb146]? = some (.cells #[(.slice A0_0 l0_0.length c0_0), (.slice A0_1 l0_1.length c0_1)] 28 (0, 0))) ∧ Aside0 (wc.heap[gb147]? = some (.cells #[(.slice A1_0 l1_0.length c1_0), (.slice A1_1 l1_1.length c1_1)] 28 (0, 0))) ∧ Aside0 (wc.heap[gb148]? = some (.cells #[(.slice none 0 0), (.slice none 0 0)] 28 (0, 0))) ∧ Aside0 (Below w.heap.size w wc))
 case first =>
  have H := HC3.out
  clear HC3
  replace H := Option.bind_eq_some_iff.mp H
  obtain ⟨t149, A70, H⟩ := H
  replace H : (if t149 = true then ((impl_RightsOk.f k l1_0 l1_1).bind fun t150 => (if t150 = true then (impl_Meet.j0 k ((l0_1.length : Int) != (l1_1.length : Int)) l0_0 l0_1 l1_0 l1_1) else (impl_Meet.j0 k true l0_0 l0_1 l1_0 l1_1))) else (impl_Meet.j0 k true l0_0 l0_1 l1_0 l1_1)) = some (r1, r2, r3) := H
  have A7 := Aside0.mk A70
  clear A70
  by_cases c8 : t149 = true
  ·subst c8
   have H1 : ((impl_RightsOk.f k l1_0 l1_1).bind fun t150 => (if t150 = true then (impl_Meet.j0 k ((l0_1.length : Int) != (l1_1.length : Int)) l0_0 l0_1 l1_0 l1_1) else (impl_Meet.j0 k true l0_0 l0_1 l1_0 l1_1))) = some (r1, r2, r3) := by rw [if_pos rfl] at H; exact H
   clear H
   have H := H1
   clear H1
   replace H := Option.bind_eq_some_iff.mp H
   obtain ⟨t150, A90, H⟩ := H
   replace H : (if t150 = true then (impl_Meet.j0 k ((l0_1.length : Int) != (l1_1.length : Int)) l0_0 l0_1 l1_0 l1_1) else (impl_Meet.j0 k true l0_0 l0_1 l1_0 l1_1)) = some (r1, r2, r3) := H
   have A9 := Aside0.mk A90
   clear A90
   by_cases c10 : t150 = true
   ·subst c10
    have H1 : (impl_Meet.j0 k ((l0_1.length : Int) != (l1_1.length : Int)) l0_0 l0_1 l1_0 l1_1) = some (r1, r2, r3) := by rw [if_pos rfl] at H; exact H
    clear H
    have H := H1
    clear H1
    have H' := Aside0.mk H
    clear H
    have hnb11 := NB146_147.out
    have hnc11 := NB147_146.out
    have hnb12 := NB146_148.out
    have hnc12 := NB148_146.out
    have hcz13_0 : w6.cell? ⟨gb146, 0, none⟩ = some (.slice A0_0 l0_0.length c0_0) := kx BK146.out
    have hcz13_1 : w6.cell? ⟨gb146, 1, none⟩ = some (.slice A0_1 l0_1.length c0_1) := kx BK146.out
    have hfz13_0 := blk_frozen BK146.out 0
    have hfz13_1 := blk_frozen BK146.out 1
    go_wp2_with (first | ((with_reducible refine gate_callee (f := 16) rfl ?_); refine kG (some 10) Try.func16 #[.agg #[.slice A0_0 l0_0.length c0_0, .slice A0_1 l0_1.length c0_1]] ?_; (with_reducible refine (impl_RightsOk.calls k _ _ l0_0 _ _ l0_1 true _ ?side1 ?side2 ?side3 ?side4 A7.out).mono ?_); (case side1 => exact kC (Kd.C_below HR0_0.out HB.out)); (case side2 => exact HC0_0.out); (case side3 => exact kC (Kd.C_below HR0_1.out HB.out)); (case side4 => exact HC0_1.out); rintro e w14 ⟨rfl, hb⟩; refine ⟨_, rfl, ?_⟩; have n0_ := k0 (kb BK146.out hb); have n1_ := k0 (kb BK147.out hb); have n2_ := k0 (kb BK148.out hb); have n3_ := k0 (below_step (kW HB.out) hb); clear BK146; clear BK147; clear BK148; clear HB; have BK146 := n0_; have BK147 := n1_; have BK148 := n2_; have HB := n3_; clear n0_ n1_ n2_ n3_; (try clear hb); (try clear hb2); (try clear hk); (try clear hi); have hnb15 := NB147_148.out; have hnc15 := NB148_147.out; have hcz16_0 : w14.cell? ⟨gb147, 0, none⟩ = some (.slice A1_0 l1_0.length c1_0) := kx BK147.out; have hcz16_1 : w14.cell? ⟨gb147, 1, none⟩ = some (.slice A1_1 l1_1.length c1_1) := kx BK147.out; have hfz16_0 := blk_frozen BK147.out 0; have hfz16_1 := blk_frozen BK147.out 1) | (go_at_call 16; (with_reducible refine (impl_RightsOk.calls k _ _ l1_0 _ _ l1_1 true _ ?side1 ?side2 ?side3 ?side4 A9.out).mono ?_); (case side1 => exact kC (Kd.C_below HR1_0.out HB.out)); (case side2 => exact HC1_0.out); (case side3 => exact kC (Kd.C_below HR1_1.out HB.out)); (case side4 => exact HC1_1.out); rintro e w17 ⟨rfl, hb⟩; have n0_ := k0 (kb BK146.out hb); have n1_ := k0 (kb BK147.out hb); have n2_ := k0 (kb BK148.out hb); have n3_ := k0 (below_step (kW HB.out) hb); clear BK146; clear BK147; clear BK148; clear HB; have BK146 := n0_; have BK147 := n1_; have BK148 := n2_; have HB := n3_; clear n0_ n1_ n2_ n3_; (try clear hb); (try clear hb2); (try clear hk); (try clear hi); have hcz18_0 : w17.cell? ⟨gb146, 0, none⟩ = some (.slice A0_0 l0_0.length c0_0) := kx BK146.out; have hcz18_1 : w17.cell? ⟨gb146, 1, none⟩ = some (.slice A0_1 l0_1.length c0_1) := kx BK146.out; have hfz18_0 := blk_frozen BK146.out 0; have hfz18_1 := blk_frozen BK146.out 1; have hcz19_0 : w17.cell? ⟨gb147, 0, none⟩ = some (.slice A1_0 l1_0.length c1_0) := kx BK147.out; have hcz19_1 : w17.cell? ⟨gb147, 1, none⟩ = some (.slice A1_1 l1_1.length c1_1) := kx BK147.out; have hfz19_0 := blk_frozen BK147.out 0; have hfz19_1 := blk_frozen BK147.out 1))
    go_meet
    case rel => exact ⟨_, (((l0_1.length : Int) != (l1_1.length : Int))), (by first | rfl | (simp; done) | (simp [*]; done)), H', ⟨by first | omega | exact Nat.le_refl _⟩, ⟨kB BK146.out⟩, ⟨kB BK147.out⟩, ⟨kB BK148.out⟩, ⟨by repeat (first | (with_reducible first | exact HB.out | apply below_alloc | apply pw_below_drewN | apply below_drew1 | refine below_set ?_ GE146.out | refine below_set ?_ GE147.out | refine below_set ?_ GE148.out) | exact HB.out)⟩⟩
   ·replace c10 := Bool.eq_false_iff.mpr c10
    subst c10
    have H1 : (impl_Meet.j0 k true l0_0 l0_1 l1_0 l1_1) = some (r1, r2, r3) := by rw [if_neg (show ¬ (false = true) by decide)] at H; exact H
    clear H
    have H := H1
    clear H1
    have H' := Aside0.mk H
    clear H
    have hnb20 := NB146_147.out
    have hnc20 := NB147_146.out
    have hnb21 := NB146_148.out
    have hnc21 := NB148_146.out
    have hcz22_0 : w6.cell? ⟨gb146, 0, none⟩ = some (.slice A0_0 l0_0.length c0_0) := kx BK146.out
    have hcz22_1 : w6.cell? ⟨gb146, 1, none⟩ = some (.slice A0_1 l0_1.length c0_1) := kx BK146.out
    have hfz22_0 := blk_frozen BK146.out 0
    have hfz22_1 := blk_frozen BK146.out 1
    go_wp2_with (first | ((with_reducible refine gate_callee (f := 16) rfl ?_); refine kG (some 10) Try.func16 #[.agg #[.slice A0_0 l0_0.length c0_0, .slice A0_1 l0_1.length c0_1]] ?_; (with_reducible refine (impl_RightsOk.calls k _ _ l0_0 _ _ l0_1 true _ ?side1 ?side2 ?side3 ?side4 A7.out).mono ?_); (case side1 => exact kC (Kd.C_below HR0_0.out HB.out)); (case side2 => exact HC0_0.out); (case side3 => exact kC (Kd.C_below HR0_1.out HB.out)); (case side4 => exact HC0_1.out); rintro e w23 ⟨rfl, hb⟩; refine ⟨_, rfl, ?_⟩; have n0_ := k0 (kb BK146.out hb); have n1_ := k0 (kb BK147.out hb); have n2_ := k0 (kb BK148.out hb); have n3_ := k0 (below_step (kW HB.out) hb); clear BK146; clear BK147; clear BK148; clear HB; have BK146 := n0_; have BK147 := n1_; have BK148 := n2_; have HB := n3_; clear n0_ n1_ n2_ n3_; (try clear hb); (try clear hb2); (try clear hk); (try clear hi); have hnb24 := NB147_148.out; have hnc24 := NB148_147.out; have hcz25_0 : w23.cell? ⟨gb147, 0, none⟩ = some (.slice A1_0 l1_0.length c1_0) := kx BK147.out; have hcz25_1 : w23.cell? ⟨gb147, 1, none⟩ = some (.slice A1_1 l1_1.length c1_1) := kx BK147.out; have hfz25_0 := blk_frozen BK147.out 0; have hfz25_1 := blk_frozen BK147.out 1) | (go_at_call 16; (with_reducible refine (impl_RightsOk.calls k _ _ l1_0 _ _ l1_1 false _ ?side1 ?side2 ?side3 ?side4 A9.out).mono ?_); (case side1 => exact kC (Kd.C_below HR1_0.out HB.out)); (case side2 => exact HC1_0.out); (case side3 => exact kC (Kd.C_below HR1_1.out HB.out)); (case side4 => exact HC1_1.out); rintro e w26 ⟨rfl, hb⟩; have n0_ := k0 (kb BK146.out hb); have n1_ := k0 (kb BK147.out hb); have n2_ := k0 (kb BK148.out hb); have n3_ := k0 (below_step (kW HB.out) hb); clear BK146; clear BK147; clear BK148; clear HB; have BK146 := n0_; have BK147 := n1_; have BK148 := n2_; have HB := n3_; clear n0_ n1_ n2_ n3_; (try clear hb); (try clear hb2); (try clear hk); (try clear hi)))
    go_meet
    case rel => exact ⟨_, (true), (by first | rfl | (simp; done) | (simp [*]; done)), H', ⟨by first | omega | exact Nat.le_refl _⟩, ⟨kB BK146.out⟩, ⟨kB BK147.out⟩, ⟨kB BK148.out⟩, ⟨by repeat (first | (with_reducible first | exact HB.out | apply below_alloc | apply pw_below_drewN | apply below_drew1 | refine below_set ?_ GE146.out | refine below_set ?_ GE147.out | refine below_set ?_ GE148.out) | exact HB.out)⟩⟩
  ·replace c8 := Bool.eq_false_iff.mpr c8
   subst c8
   have H1 : (impl_Meet.j0 k true l0_0 l0_1 l1_0 l1_1) = some (r1, r2, r3) := by rw [if_neg (show ¬ (false = true) by decide)] at H; exact H
   clear H
   have H := H1
   clear H1
   have H' := Aside0.mk H
   clear H
   have hnb27 := NB146_147.out
   have hnc27 := NB147_146.out
   have hnb28 := NB146_148.out
   have hnc28 := NB148_146.out
   have hcz29_0 : w6.cell? ⟨gb146, 0, none⟩ = some (.slice A0_0 l0_0.length c0_0) := kx BK146.out
   have hcz29_1 : w6.cell? ⟨gb146, 1, none⟩ = some (.slice A0_1 l0_1.length c0_1) := kx BK146.out
   have hfz29_0 := blk_frozen BK146.out 0
   have hfz29_1 := blk_frozen BK146.out 1
   go_wp2_with (first | ((with_reducible refine gate_callee (f := 16) rfl ?_); refine kG (some 10) Try.func16 #[.agg #[.slice A0_0 l0_0.length c0_0, .slice A0_1 l0_1.length c0_1]] ?_; (with_reducible refine (impl_RightsOk.calls k _ _ l0_0 _ _ l0_1 false _ ?side1 ?side2 ?side3 ?side4 A7.out).mono ?_); (case side1 => exact kC (Kd.C_below HR0_0.out HB.out)); (case side2 => exact HC0_0.out); (case side3 => exact kC (Kd.C_below HR0_1.out HB.out)); (case side4 => exact HC0_1.out); rintro e w30 ⟨rfl, hb⟩; refine ⟨_, rfl, ?_⟩; have n0_ := k0 (kb BK146.out hb); have n1_ := k0 (kb BK147.out hb); have n2_ := k0 (kb BK148.out hb); have n3_ := k0 (below_step (kW HB.out) hb); clear BK146; clear BK147; clear BK148; clear HB; have BK146 := n0_; have BK147 := n1_; have BK148 := n2_; have HB := n3_; clear n0_ n1_ n2_ n3_; (try clear hb); (try clear hb2); (try clear hk); (try clear hi)))
   go_meet
   case rel => exact ⟨_, (true), (by first | rfl | (simp; done) | (simp [*]; done)), H', ⟨by first | omega | exact Nat.le_refl _⟩, ⟨kB BK146.out⟩, ⟨kB BK147.out⟩, ⟨kB BK148.out⟩, ⟨by repeat (first | (with_reducible first | exact HB.out | apply below_alloc | apply pw_below_drewN | apply below_drew1 | refine below_set ?_ GE146.out | refine below_set ?_ GE147.out | refine below_set ?_ GE148.out) | exact HB.out)⟩⟩
 case rest =>
  clear HC3
  try clear c1
  try clear c2
  try clear p2
  try clear c8
  try clear c10
  try clear c11
  try clear c12
  try clear c15
  try clear c16
  try clear c20
  try clear c21
  try clear c24
  try clear c25
  try clear c27
  try clear c28
  try clear hcz13_0
  try clear hcz13_1
  try clear hcz16_0
  try clear hcz16_1
  try clear hcz18_0
  try clear hcz18_1
  try clear hcz19_0
  try clear hcz19_1
  try clear hcz22_0
  try clear hcz22_1
  try clear hcz25_0
  try clear hcz25_1
  try clear hcz29_0
  try clear hcz29_1
  try clear hfz13_0
  try clear hfz13_1
  try clear hfz16_0
  try clear hfz16_1
  try clear hfz18_0
  try clear hfz18_1
  try clear hfz19_0
  try clear hfz19_1
  try clear hfz22_0
  try clear hfz22_1
  try clear hfz25_0
  try clear hfz25_1
  try clear hfz29_0
  try clear hfz29_1
  obtain ⟨kq, x25_2, rfl, HA, HJ2, BK146, BK147, BK148, HB⟩ := hcut
  cases kq with
  | zero => exact absurd HA.out (by simp [impl_Meet.j0])
  | succ kj2 =>
   have H := HA.out
   clear HA
   simp only [impl_Meet.j0] at H
   by_cases c31 : x25_2 = true
   ·subst c31
    have H1 : (some (([] : List (List Int)), ([] : List Int), false)) = some (r1, r2, r3) := by rw [if_pos rfl] at H; exact H
    clear H
    have H := H1
    clear H1
    simp only [Option.some.injEq, Prod.mk.injEq] at H
    obtain ⟨rfl, rfl, rfl⟩ := H
    have hnb32 := NB148_146.out
    have hnc32 := NB146_148.out
    have hnb33 := NB148_147.out
    have hnc33 := NB147_148.out
    have hcz34_0 : wc.cell? ⟨gb148, 0, none⟩ = some (.slice none 0 0) := kx BK148.out
    have hcz34_1 : wc.cell? ⟨gb148, 1, none⟩ = some (.slice none 0 0) := kx BK148.out
    have hfz34_0 := blk_frozen BK148.out 0
    have hfz34_1 := blk_frozen BK148.out 1
    go_wp2
    refine bodyPost_ret (results_ct rfl _ _ gb148 28 #[.slice none 0 0, .slice none 0 0] (0, 0) _ rfl (by (with_reducible repeat first | apply k1 | apply k2 | apply k3); refine blk_put (cs := #[.slice none 0 0, .slice none 0 0]) ?_ 1 _ rfl; (with_reducible repeat first | apply k1 | apply k2 | apply k3); refine blk_put (cs := #[.slice none 0 0, .slice none 0 0]) ?_ 0 _ rfl; (with_reducible repeat first | apply k1 | apply k2 | apply k3); exact BK148.out) Try.underlying28 rfl (by kernel_rfl)) rfl ?_
    exact ⟨_, _, by first | rfl | (simp [errW_none, errW_some] <;> rfl) | (simp [*, errW_none, errW_some] <;> rfl), by first | exact Kd.S_nil _ _ _ _ _ | exact Kd.N_nil _ _ _ _ _ | exact Kd.V_nil _ _ _ _ _ | exact Kd.Q_nil _ _ _ _ _ | exact Kd.R_nil _ _ _ _ _, by first | exact Kd.R_nil _ _ _ _ _ | exact Kd.N_nil _ _ _ _ _ | exact Kd.V_nil _ _ _ _ _ | exact Kd.Q_nil _ _ _ _ _ | exact Kd.S_nil _ _ _ _ _, by repeat (first | (with_reducible first | exact HB.out | apply below_alloc | apply pw_below_drewN | apply below_drew1 | refine below_set ?_ GE146.out | refine below_set ?_ GE147.out | refine below_set ?_ GE148.out) | exact HB.out)⟩
   ·replace c31 := Bool.eq_false_iff.mpr c31
    subst c31
    have H1 : ((impl_copyRights.f kj2 l0_0 l0_1).bind fun bt151 => (impl_Meet.l0 kj2 (l0_1.length : Int) 0 l0_0 l0_1 l1_0 l1_1 bt151.1 bt151.2)) = some (r1, r2, r3) := by rw [if_neg (show ¬ (false = true) by decide)] at H; exact H
    clear H
    have H := H1
    clear H1
    replace H := Option.bind_eq_some_iff.mp H
    obtain ⟨⟨t151, t154⟩, A350, H⟩ := H
    replace H : (impl_Meet.l0 kj2 (l0_1.length : Int) 0 l0_0 l0_1 l1_0 l1_1 t151 t154) = some (r1, r2, r3) := H
    have A35 := Aside0.mk A350
    clear A350
    have H' := Aside0.mk H
    clear H
    have hnb36 := NB146_147.out
    have hnc36 := NB147_146.out
    have hnb37 := NB146_148.out
    have hnc37 := NB148_146.out
    have hcz38_0 : wc.cell? ⟨gb146, 0, none⟩ = some (.slice A0_0 l0_0.length c0_0) := kx BK146.out
    have hcz38_1 : wc.cell? ⟨gb146, 1, none⟩ = some (.slice A0_1 l0_1.length c0_1) := kx BK146.out
    have hfz38_0 := blk_frozen BK146.out 0
    have hfz38_1 := blk_frozen BK146.out 1
    go_wp2_with (first | ((with_reducible refine gate_callee (f := 53) rfl ?_); refine kG (some 28) Try.func53 #[.agg #[.slice A0_0 l0_0.length c0_0, .slice A0_1 l0_1.length c0_1]] ?_; (with_reducible refine (impl_copyRights.calls kj2 _ _ l0_0 _ _ l0_1 t151 t154 _ ?side1 ?side2 ?side3 ?side4 A35.out).mono ?_); (case side1 => exact kC (Kd.C_below HR0_0.out HB.out)); (case side2 => exact HC0_0.out); (case side3 => exact kC (Kd.C_below HR0_1.out HB.out)); (case side4 => exact HC0_1.out); rintro e w39 ⟨v152, v155, rfl, ho0, ho1, hb⟩; refine ⟨_, rfl, ?_⟩; have n0_ := k0 (Kd.S_lower ho0 (below_size (kW HB.out))); have n1_ := k0 (Kd.R_lower ho1 (below_size (kW HB.out))); have n2_ := k0 (kb BK146.out hb); have n3_ := k0 (kb BK147.out hb); have n4_ := k0 (kb BK148.out hb); have n5_ := k0 (below_step (kW HB.out) hb); clear BK146; clear BK147; clear BK148; clear HB; have HO153 := n0_; have HO156 := n1_; have BK146 := n2_; have BK147 := n3_; have BK148 := n4_; have HB := n5_; clear n0_ n1_ n2_ n3_ n4_ n5_; (try clear hb); (try clear hb2); (try clear hk); (try clear hi); (try clear ho0); (try clear ho1)) | ((with_reducible refine gate_dst (N := 6) rfl ?_); (try (refine gate_guard (by rfl) ?_; dsimp only)); refine kE (N := 6) (cs := #[.slice none 0 0, .slice none 0 0]) (t := 28) ?_; intro gb157 hg w40 hbox hb; have n0_ := k0 (Kd.S_below (kS HO153.out) hb); have n1_ := k0 (Kd.R_below (kR HO156.out) hb); have n2_ := k0 (kb BK146.out hb); have n3_ := k0 (kb BK147.out hb); have n4_ := k0 (kb BK148.out hb); have n5_ := k0 (below_step (kW HB.out) hb); have n6_ := k0 (hbox); have n7_ := k0 (kY HB.out hg); have n8_ := k0 (kY HB.out hg); have n9_ := k0 ((by rw [hg]; exact Nat.ne_of_lt (blk_lt (g := gb146) (o := .cells #[.slice A0_0 l0_0.length c0_0, .slice A0_1 l0_1.length c0_1] 28 (0, 0)) (kB BK146.out)) : gb146 ≠ gb157)); have n10_ := k0 ((by rw [hg]; exact Nat.ne_of_gt (blk_lt (g := gb146) (o := .cells #[.slice A0_0 l0_0.length c0_0, .slice A0_1 l0_1.length c0_1] 28 (0, 0)) (kB BK146.out)) : gb157 ≠ gb146)); have n11_ := k0 ((by rw [hg]; exact Nat.ne_of_lt (blk_lt (g := gb147) (o := .cells #[.slice A1_0 l1_0.length c1_0, .slice A1_1 l1_1.length c1_1] 28 (0, 0)) (kB BK147.out)) : gb147 ≠ gb157)); have n12_ := k0 ((by rw [hg]; exact Nat.ne_of_gt (blk_lt (g := gb147) (o := .cells #[.slice A1_0 l1_0.length c1_0, .slice A1_1 l1_1.length c1_1] 28 (0, 0)) (kB BK147.out)) : gb157 ≠ gb147)); have n13_ := k0 ((by rw [hg]; exact Nat.ne_of_lt (blk_lt (g := gb148) (o := .cells #[.slice none 0 0, .slice none 0 0] 28 (0, 0)) (kB BK148.out)) : gb148 ≠ gb157)); have n14_ := k0 ((by rw [hg]; exact Nat.ne_of_gt (blk_lt (g := gb148) (o := .cells #[.slice none 0 0, .slice none 0 0] 28 (0, 0)) (kB BK148.out)) : gb157 ≠ gb148)); clear HO153; clear HO156; clear BK146; clear BK147; clear BK148; clear HB; have HO153 := n0_; have HO156 := n1_; have BK146 := n2_; have BK147 := n3_; have BK148 := n4_; have HB := n5_; have BK157 := n6_; have GW157 := n7_; have GE157 := n8_; have NB146_157 := n9_; have NB157_146 := n10_; have NB147_157 := n11_; have NB157_147 := n12_; have NB148_157 := n13_; have NB157_148 := n14_; clear n0_ n1_ n2_ n3_ n4_ n5_ n6_ n7_ n8_ n9_ n10_ n11_ n12_ n13_ n14_; clear hb hbox hg; obtain ⟨Ao41, co41, eo41⟩ := Kd.S_slice HO153.out; subst eo41; have hnb42 := NB157_146.out; have hnc42 := NB146_157.out; have hnb43 := NB157_147.out; have hnc43 := NB147_157.out; have hnb44 := NB157_148.out; have hnc44 := NB148_157.out; have hcz45_0 : w40.cell? ⟨gb157, 0, none⟩ = some (.slice none 0 0) := kx BK157.out; have hcz45_1 : w40.cell? ⟨gb157, 1, none⟩ = some (.slice none 0 0) := kx BK157.out; have hfz45_0 := blk_frozen BK157.out 0; have hfz45_1 := blk_frozen BK157.out 1; obtain ⟨Ao46, co46, eo46⟩ := Kd.R_slice HO156.out; subst eo46; have hcz47_0 : w40.cell? ⟨gb146, 0, none⟩ = some (.slice A0_0 l0_0.length c0_0) := kx BK146.out; have hcz47_1 : w40.cell? ⟨gb146, 1, none⟩ = some (.slice A0_1 l0_1.length c0_1) := kx BK146.out; have hfz47_0 := blk_frozen BK146.out 0; have hfz47_1 := blk_frozen BK146.out 1))
    go_loopg [32] kj2 (fun kq v32 w' => ∃ (x32_2 : Int) (x158000_2 : List (List Int)) (x158001_2 : List Int) (u158000 : Value) (u158001 : Value), v32 = .int .i64 x32_2 ∧ Aside0 (impl_Meet.l0 kq (l0_1.length : Int) x32_2 l0_0 l0_1 l1_0 l1_1 x158000_2 x158001_2 = some (r1, r2, r3)) ∧ Aside0 (kq ≤ kj2) ∧ Aside0 (Kd.S (Kd.slice 3 (Kd.int .i64)) 23 w' w.heap.size (fun k_ => some k_ ≠ (u158001 : Value).ownBlock) u158000 x158000_2) ∧ Aside0 (Kd.R (Kd.int .i64) 3 w' w.heap.size (fun _ => True) u158001 x158001_2) ∧ Aside0 (w'.heap[gb146]? = some (.cells #[(.slice A0_0 l0_0.length c0_0), (.slice A0_1 l0_1.length c0_1)] 28 (0, 0))) ∧ Aside0 (w'.heap[gb147]? = some (.cells #[(.slice A1_0 l1_0.length c1_0), (.slice A1_1 l1_1.length c1_1)] 28 (0, 0))) ∧ Aside0 (w'.heap[gb148]? = some (.cells #[(.slice none 0 0), (.slice none 0 0)] 28 (0, 0))) ∧ Aside0 (w'.heap[gb157]? = some (.cells #[u158000, u158001] 28 (0, 0))) ∧ Aside0 (Below w.heap.size w w'))
    case atStart => exact ⟨(0), (t151), (t154), (.slice Ao41 t151.length co41), (.slice Ao46 t154.length co46), (by first | rfl | (simp; done) | (simp [*]; done)), H', ⟨Nat.le_refl _⟩, ⟨by (with_reducible repeat (first | apply Kd.S_alloc | apply Kd.S_drewN | apply Kd.S_drew)); exact Kd.S_mono (Kd.S_far (p := ⟨gb157, 1, none⟩) (Kd.S_far (p := ⟨gb157, 0, none⟩) (Kd.S_types HO153.out BK157.out (by decide)) (fun _ hk => hk.2) (.slice Ao41 t151.length co41)) (fun _ hk => hk.2) (.slice Ao46 t154.length co46)) (fun _ hk => hk.1)⟩, ⟨by (with_reducible repeat (first | apply Kd.R_alloc | apply Kd.R_drewN | apply Kd.R_drew)); exact Kd.R_mono (Kd.R_far (p := ⟨gb157, 1, none⟩) (Kd.R_far (p := ⟨gb157, 0, none⟩) (Kd.R_types HO156.out BK157.out (by decide)) (fun _ hk => hk.2) (.slice Ao41 t151.length co41)) (fun _ hk => hk.2) (.slice Ao46 t154.length co46)) (fun _ hk => trivial)⟩, ⟨by (with_reducible repeat first | apply k1 | apply k2 | apply k3); refine blk_far ?_ NB146_157.out _; (with_reducible repeat first | apply k1 | apply k2 | apply k3); refine blk_far ?_ NB146_157.out _; (with_reducible repeat first | apply k1 | apply k2 | apply k3); exact BK146.out⟩, ⟨by (with_reducible repeat first | apply k1 | apply k2 | apply k3); refine blk_far ?_ NB147_157.out _; (with_reducible repeat first | apply k1 | apply k2 | apply k3); refine blk_far ?_ NB147_157.out _; (with_reducible repeat first | apply k1 | apply k2 | apply k3); exact BK147.out⟩, ⟨by (with_reducible repeat first | apply k1 | apply k2 | apply k3); refine blk_far ?_ NB148_157.out _; (with_reducible repeat first | apply k1 | apply k2 | apply k3); refine blk_far ?_ NB148_157.out _; (with_reducible repeat first | apply k1 | apply k2 | apply k3); exact BK148.out⟩, ⟨by (with_reducible repeat first | apply k1 | apply k2 | apply k3); refine blk_put (cs := #[.slice Ao41 t151.length co41, .slice none 0 0]) ?_ 1 _ rfl; (with_reducible repeat first | apply k1 | apply k2 | apply k3); refine blk_put (cs := #[.slice none 0 0, .slice none 0 0]) ?_ 0 _ rfl; (with_reducible repeat first | apply k1 | apply k2 | apply k3); exact BK157.out⟩, ⟨by repeat (first | (with_reducible first | exact HB.out | apply below_alloc | apply pw_below_drewN | apply below_drew1 | refine below_set ?_ GE146.out | refine below_set ?_ GE147.out | refine below_set ?_ GE148.out | refine below_set ?_ GE157.out) | exact HB.out)⟩⟩
    case round =>
     clear H'
     try clear c1
     try clear c2
     try clear p2
     try clear c3
     try clear c4
     try clear c5
     try clear c8
     try clear c10
     try clear c11
     try clear c12
     try clear c15
     try clear c16
     try clear c20
     try clear c21
     try clear c24
     try clear c25
     try clear c27
     try clear c28
     try clear c31
     try clear c32
     try clear c33
     try clear c36
     try clear c37
     try clear c42
     try clear c43
     try clear c44
     try clear hcz13_0
     try clear hcz13_1
     try clear hcz16_0
     try clear hcz16_1
     try clear hcz18_0
     try clear hcz18_1
     try clear hcz19_0
     try clear hcz19_1
     try clear hcz22_0
     try clear hcz22_1
     try clear hcz25_0
     try clear hcz25_1
     try clear hcz29_0
     try clear hcz29_1
     try clear hcz34_0
     try clear hcz34_1
     try clear hcz38_0
     try clear hcz38_1
     try clear hcz45_0
     try clear hcz45_1
     try clear hcz47_0
     try clear hcz47_1
     try clear hfz13_0
     try clear hfz13_1
     try clear hfz16_0
     try clear hfz16_1
     try clear hfz18_0
     try clear hfz18_1
     try clear hfz19_0
     try clear hfz19_1
     try clear hfz22_0
     try clear hfz22_1
     try clear hfz25_0
     try clear hfz25_1
     try clear hfz29_0
     try clear hfz29_1
     try clear hfz34_0
     try clear hfz34_1
     try clear hfz38_0
     try clear hfz38_1
     try clear hfz45_0
     try clear hfz45_1
     try clear hfz47_0
     try clear hfz47_1
     try clear p2
     obtain ⟨x32_2, x158000_2, x158001_2, u158000, u158001, rfl, HA, HK2, HO_158000, HO_158001, BK146, BK147, BK148, BK157, HB⟩ := hrel
     cases gk with
     | zero => exact absurd HA.out (by simp [impl_Meet.l0])
     | succ k2 =>
      have H := HA.out
      clear HA
      simp only [impl_Meet.l0] at H
      by_cases c48 : x32_2 < (l0_1.length : Int)
      ·rw [if_pos c48] at H
       have c48b0 : decide (x32_2 < (l0_1.length : Int)) = true := decide_eq_true c48
       clear c48
       by_cases c49 : 0 ≤ x32_2
       ·rw [if_pos c49] at H
        have c49b0 : decide (0 ≤ x32_2) = true := decide_eq_true c49
        clear c49
        by_cases c50 : x32_2 < (l0_1.length : Int)
        ·rw [if_pos c50] at H
         have c50b0 : decide (x32_2 < (l0_1.length : Int)) = true := decide_eq_true c50
         clear c50
         by_cases c51 : x32_2 < (l1_1.length : Int)
         ·rw [if_pos c51] at H
          have c51b0 : decide (x32_2 < (l1_1.length : Int)) = true := decide_eq_true c51
          clear c51
          obtain ⟨ji52, hji52⟩ : ∃ j_ : Int, (mx (rd l0_1 x32_2) (rd l1_1 x32_2)) = j_ := ⟨_, rfl⟩
          replace H : (if x32_2 < (x158001_2.length : Int) then (impl_Meet.l1 k2 x32_2 (l0_1.length : Int) x32_2 (l0_1.length : Int) 0 l0_0 l0_1 l1_0 l1_1 x158000_2 (x158001_2.set (x32_2 : Int).toNat (ji52))) else (none)) = some (r1, r2, r3) := by first | (rw [hji52] at H; exact H) | (simp only [hji52] at H ⊢; exact H)
          have hji52_ : (if (rd l0_1 x32_2) < (rd l1_1 x32_2) then (rd l1_1 x32_2) else (rd l0_1 x32_2)) = ji52 := hji52
          by_cases c53 : x32_2 < (x158001_2.length : Int)
          ·rw [if_pos c53] at H
           have c53b0 : decide (x32_2 < (x158001_2.length : Int)) = true := decide_eq_true c53
           clear c53
           obtain ⟨y161, hy161⟩ : ∃ y_ : List Int, y_ = (x158001_2.set (x32_2 : Int).toNat (ji52)) := ⟨_, rfl⟩
           replace H : (impl_Meet.l1 k2 x32_2 (l0_1.length : Int) x32_2 (l0_1.length : Int) 0 l0_0 l0_1 l1_0 l1_1 x158000_2 y161) = some (r1, r2, r3) := by first | (rw [hy161]; with_reducible exact H) | (have H2_ := (Option.bind_some _ _).symm.trans H; rw [hy161]; with_reducible exact H2_) | (have H2_ := (Option.bind_some _ _).symm.trans H; with_reducible exact H2_) | with_reducible exact H | (rw [hy161]; exact H) | exact H
           have Ny161 := Aside0.mk hy161
           clear hy161
           have H' := Aside0.mk H
           clear H
           try go_wp2
           have n0_ := k0 (Kd.S_drew HO_158000.out)
           have n1_ := k0 (Kd.R_drew HO_158001.out)
           have n2_ := k0 (blk_drew BK146.out)
           have n3_ := k0 (blk_drew BK147.out)
           have n4_ := k0 (blk_drew BK148.out)
           have n5_ := k0 (blk_drew BK157.out)
           have n6_ := k0 (below_drew1 HB.out)
           clear HO_158000 HO_158001 BK146 BK147 BK148 BK157 HB
           have HO_158000 := n0_
           have HO_158001 := n1_
           have BK146 := n2_
           have BK147 := n3_
           have BK148 := n4_
           have BK157 := n5_
           have HB := n6_
           clear n0_ n1_ n2_ n3_ n4_ n5_ n6_
           have p159 : 0 ≤ (x32_2 : Int) := kD
           have q159 : x32_2 < (l0_1.length : Int) := kD
           obtain ⟨ad159, e159, hx159_0⟩ := Kd.at_int HR0_1.out x32_2 p159 q159
           have hw159_0 := hx159_0
           cases e159
           replace hx159_0 := (HB.out.cell (World.block_lt_of_cell? w _ hx159_0)).trans hx159_0
           replace p159 := eq_true p159
           replace q159 := eq_true q159
           have p160 : 0 ≤ (x32_2 : Int) := kD
           have q160 : x32_2 < (l1_1.length : Int) := kD
           obtain ⟨ad160, e160, hx160_0⟩ := Kd.at_int HR1_1.out x32_2 p160 q160
           have hw160_0 := hx160_0
           cases e160
           replace hx160_0 := (HB.out.cell (World.block_lt_of_cell? w _ hx160_0)).trans hx160_0
           replace p160 := eq_true p160
           replace q160 := eq_true q160
           have p54 : 0 ≤ (x32_2 : Int) := kD
           have q54 : (x32_2 : Int) < ((x158001_2.length : Int) : Int) := kD
           obtain ⟨go54, co54, eo54, gb54, gl54, cl54, HG54⟩ := Kd.R_form HO_158001.out (by omega)
           (first | cases eo54 | (injection eo54 with ea_ en_ ec_; (first | subst ea_ | (injection ea_ with ea_; subst ea_)); subst ec_; clear en_))
           have GB54 := Aside0.mk gb54
           have GG54 := Aside0.mk HG54
           clear gb54 gl54 HG54
           obtain ⟨hx54_0, hf54_0⟩ := Kd.R_celln 0 HO_158001.out (x32_2 : Int) p54 q54
           replace p54 := eq_true p54
           replace q54 := eq_true q54
           have HP56 := Kd.R_putn HO_158001.out (x32_2 : Int) ji52
           rw [← Ny161.out] at HP56
           have HQ56 := Aside0.mk HP56
           clear HP56
           refine start_ (n := 16) (S := fun w' => w'.cell? ⟨gb157, 0, none⟩ = some (u158000) ∧ w'.cell? ⟨gb157, 1, none⟩ = some (.slice (some ⟨go54, 0, none⟩) x158001_2.length co54) ∧ w'.cell? ⟨gb146, 0, none⟩ = some (.slice A0_0 l0_0.length c0_0) ∧ w'.cell? ⟨gb146, 1, none⟩ = some (.slice (some ad159) l0_1.length c0_1) ∧ w'.cell? ⟨gb147, 0, none⟩ = some (.slice A1_0 l1_0.length c1_0) ∧ w'.cell? ⟨gb147, 1, none⟩ = some (.slice (some ad160) l1_1.length c1_1) ∧ w'.cell? (ad159.add (x32_2).toNat) = some (.int .i64 (rd l0_1 x32_2)) ∧ w'.cell? (ad160.add (x32_2).toNat) = some (.int .i64 (rd l1_1 x32_2))) (ds := [15]) #[false, false, false, false, false, false, false, false, false, false, false, false, false, false, false, false] (by kernel_rfl) rfl rfl ⟨(blk_cell BK157.out 0).trans rfl, (blk_cell BK157.out 1).trans rfl, (blk_cell BK146.out 0).trans rfl, (blk_cell BK146.out 1).trans rfl, (blk_cell BK147.out 0).trans rfl, (blk_cell BK147.out 1).trans rfl, ((HB.out.cell (World.block_lt_of_cell? w _ hw159_0)).trans hw159_0), ((HB.out.cell (World.block_lt_of_cell? w _ hw160_0)).trans hw160_0)⟩ (fun hHeld => ?_); refine with_tabW impl_Meet.tab7 impl_Meet.bits7 (fun HT_ HW_ => ?_)
           generalize wr.drew = w55 at HO_158000 HO_158001 BK146 BK147 BK148 BK157 HB GG54 HQ56 hf54_0 hx159_0 hx160_0 hx54_0 hHeld ⊢
           refine kP 0 35 16 1 HT_.out ?_
           refine kP 2 37 16 5 HT_.out ?_
           refine kP 3 38 16 13 HT_.out ?_
           refine kP 5 40 16 45 HT_.out ?_
           refine kP 8 43 16 301 HT_.out ?_
           refine kP 10 45 16 1325 HT_.out ?_
           refine take_ (i := 1) (N := some 36) (v := ?_) (a' := ?_) (bt 16 1327) rfl rfl (take_ofW HT_.out HW_.out (by kernel_rfl)) (fun _ _ _ h => h) (Or.inl ⟨by rfl, ?_⟩) hHeld ?_ ?_
           rotate_left
           ·rintro w' ⟨s0, s1, s2, s3, s4, s5, s6, s7⟩
            go_simp
            with_reducible rfl
           rotate_left
           ·simp only [Act.put, List.setIfInBounds_toArray, List.set_cons_zero, List.set_cons_succ, i64_w, i32_w]
            rfl
           refine take_ (i := 4) (N := some 39) (v := ?_) (a' := ?_) (bt 16 1343) rfl rfl (take_ofW HT_.out HW_.out (by kernel_rfl)) (fun _ _ _ h => h) (Or.inl ⟨by rfl, ?_⟩) hHeld ?_ ?_
           rotate_left
           ·rintro w' ⟨s0, s1, s2, s3, s4, s5, s6, s7⟩
            go_simp
            with_reducible rfl
           rotate_left
           ·simp only [Act.put, List.setIfInBounds_toArray, List.set_cons_zero, List.set_cons_succ, i64_w, i32_w]
            rfl
           refine kP 6 41 16 1407 HT_.out ?_
           refine take_ (i := 7) (N := some 42) (v := ?_) (a' := ?_) (bt 16 1535) rfl rfl (take_ofW HT_.out HW_.out (by kernel_rfl)) (fun _ _ _ h => h) (Or.inl ⟨by rfl, ?_⟩) hHeld ?_ ?_
           rotate_left
           ·rintro w' ⟨s0, s1, s2, s3, s4, s5, s6, s7⟩
            go_simp
            with_reducible rfl
           rotate_left
           ·simp only [Act.put, List.setIfInBounds_toArray, List.set_cons_zero, List.set_cons_succ, i64_w, i32_w]
            rfl
           refine take_ (i := 9) (N := some 44) (v := ?_) (a' := ?_) (bt 16 2047) rfl rfl (take_ofW HT_.out HW_.out (by kernel_rfl)) (fun _ _ _ h => h) (Or.inl ⟨by rfl, ?_⟩) hHeld ?_ ?_
           rotate_left
           ·rintro w' ⟨s0, s1, s2, s3, s4, s5, s6, s7⟩
            go_simp
            with_reducible rfl
           rotate_left
           ·simp only [Act.put, List.setIfInBounds_toArray, List.set_cons_zero, List.set_cons_succ, i64_w, i32_w]
            rfl
           refine kP 11 46 16 4095 HT_.out ?_
           refine take_ (i := 12) (N := some 47) (v := ?_) (a' := ?_) (bt 16 8191) rfl rfl (take_ofW HT_.out HW_.out (by kernel_rfl)) (fun _ _ _ h => h) (Or.inl ⟨by rfl, ?_⟩) hHeld ?_ ?_
           rotate_left
           ·rintro w' ⟨s0, s1, s2, s3, s4, s5, s6, s7⟩
            go_simp
            with_reducible rfl
           rotate_left
           ·simp only [Act.put, List.setIfInBounds_toArray, List.set_cons_zero, List.set_cons_succ, i64_w, i32_w]
            rfl
           refine kP 13 48 16 16383 HT_.out ?_
           refine kP 14 49 16 32767 HT_.out ?_
           refine last_ (i := 15) (N := none) (bt 16 65535) rfl rfl (one_of HT_.out (by kernel_rfl)) (by decide) (fun K hK => ?_)
           refine skip_ (w1 := ?_) (by rfl) rfl ?_ ?_
           rotate_left
           ·go_simp
            rfl
           refine hK.out _ _ ?_
           clear hK K
           refine done_ (done_of HT_.out (by kernel_rfl)) ?_
           have hnb57 := NB146_147.out
           have hnc57 := NB147_146.out
           have hnb58 := NB146_148.out
           have hnc58 := NB148_146.out
           have hnb59 := NB146_157.out
           have hnc59 := NB157_146.out
           have hcz60_0 : w55.cell? ⟨gb146, 0, none⟩ = some (.slice A0_0 l0_0.length c0_0) := kx BK146.out
           have hcz60_1 : w55.cell? ⟨gb146, 1, none⟩ = some (.slice (some ad159) l0_1.length c0_1) := kx BK146.out
           have hfz60_0 := blk_frozen BK146.out 0
           have hfz60_1 := blk_frozen BK146.out 1
           try have hnx0 : gb146 ≠ go54 := by have h_ := Kd.R_ne HO_158001.out BK146.out (by decide); intro e_; exact h_ (by rw [e_]; rfl)
           try go_wp2
           go_loopg [53] k2 (fun kq v53 w' => ∃ (x53_3 : Int) (x158000_3 : List (List Int)) (x158001_3 : List Int) (u158000 : Value) (u158001 : Value), v53 = .int .i64 x53_3 ∧ Aside0 (impl_Meet.l1 kq x32_2 (l0_1.length : Int) x32_2 (l0_1.length : Int) x53_3 l0_0 l0_1 l1_0 l1_1 x158000_3 x158001_3 = some (r1, r2, r3)) ∧ Aside0 (kq ≤ k2) ∧ Aside0 (Kd.S (Kd.slice 3 (Kd.int .i64)) 23 w' w.heap.size (fun k_ => some k_ ≠ (u158001 : Value).ownBlock) u158000 x158000_3) ∧ Aside0 (Kd.R (Kd.int .i64) 3 w' w.heap.size (fun _ => True) u158001 x158001_3) ∧ Aside0 (w'.heap[gb146]? = some (.cells #[(.slice A0_0 l0_0.length c0_0), (.slice (some ad159) l0_1.length c0_1)] 28 (0, 0))) ∧ Aside0 (w'.heap[gb147]? = some (.cells #[(.slice A1_0 l1_0.length c1_0), (.slice (some ad160) l1_1.length c1_1)] 28 (0, 0))) ∧ Aside0 (w'.heap[gb148]? = some (.cells #[(.slice none 0 0), (.slice none 0 0)] 28 (0, 0))) ∧ Aside0 (w'.heap[gb157]? = some (.cells #[u158000, u158001] 28 (0, 0))) ∧ Aside0 (Below w.heap.size w w'))
           case atStart => exact ⟨(0), (x158000_2), (y161), (u158000), (.slice (some ⟨go54, 0, none⟩) x158001_2.length co54), (by first | rfl | (simp; done) | (simp [*]; done)), H', ⟨Nat.le_refl _⟩, ⟨by (with_reducible repeat (first | apply Kd.S_alloc | apply Kd.S_drewN | apply Kd.S_drew)); exact Kd.S_mono (Kd.S_far (p := ⟨go54, (x32_2 : Int).toNat, none⟩) (Kd.S_mono HO_158000.out (fun k_ hk => (⟨hk, fun e_ => hk (by rw [e_]; rfl)⟩ : _ ∧ k_ ≠ go54))) (fun _ hk => hk.2) (.int .i64 ji52)) (fun _ hk => hk.1)⟩, ⟨by (with_reducible repeat (first | apply Kd.R_alloc | apply Kd.R_drewN | apply Kd.R_drew)); exact HQ56.out⟩, ⟨by (with_reducible repeat first | apply k1 | apply k2 | apply k3); refine blk_far ?_ (by have h_ := Kd.R_ne HO_158001.out BK146.out (by decide); intro e_; exact h_ (by rw [e_]; rfl)) _; (with_reducible repeat first | apply k1 | apply k2 | apply k3); exact BK146.out⟩, ⟨by (with_reducible repeat first | apply k1 | apply k2 | apply k3); refine blk_far ?_ (by have h_ := Kd.R_ne HO_158001.out BK147.out (by decide); intro e_; exact h_ (by rw [e_]; rfl)) _; (with_reducible repeat first | apply k1 | apply k2 | apply k3); exact BK147.out⟩, ⟨by (with_reducible repeat first | apply k1 | apply k2 | apply k3); refine blk_far ?_ (by have h_ := Kd.R_ne HO_158001.out BK148.out (by decide); intro e_; exact h_ (by rw [e_]; rfl)) _; (with_reducible repeat first | apply k1 | apply k2 | apply k3); exact BK148.out⟩, ⟨by (with_reducible repeat first | apply k1 | apply k2 | apply k3); refine blk_far ?_ (by have h_ := Kd.R_ne HO_158001.out BK157.out (by decide); intro e_; exact h_ (by rw [e_]; rfl)) _; (with_reducible repeat first | apply k1 | apply k2 | apply k3); exact BK157.out⟩, ⟨by repeat (first | (with_reducible first | exact HB.out | apply below_alloc | apply pw_below_drewN | apply below_drew1 | refine below_set ?_ GB54.out | refine below_set ?_ GE146.out | refine below_set ?_ GE147.out | refine below_set ?_ GE148.out | refine below_set ?_ GE157.out) | exact HB.out)⟩⟩
           case round =>
            clear H'
            try clear c1
            try clear p1
            try clear q1
            try clear hx1
            try clear c2
            try clear p2
            try clear c3
            try clear c4
            try clear c5
            try clear p5
            try clear q5
            try clear hx5
            try clear hf5
            try clear c8
            try clear c10
            try clear c11
            try clear c12
            try clear c15
            try clear p15
            try clear q15
            try clear hx15
            try clear c16
            try clear p16
            try clear q16
            try clear hx16
            try clear c20
            try clear c21
            try clear c24
            try clear c25
            try clear c27
            try clear c28
            try clear c31
            try clear c32
            try clear c33
            try clear c36
            try clear c37
            try clear c42
            try clear c43
            try clear c44
            try clear c48
            try clear c48b0
            try clear c49
            try clear c49b0
            try clear c50
            try clear c50b0
            try clear c51
            try clear c51b0
            try clear c53
            try clear c53b0
            try clear p54
            try clear q54
            try clear hx54
            try clear hf54
            try clear c57
            try clear c58
            try clear c59
            try clear hcz13_0
            try clear hcz13_1
            try clear hcz16_0
            try clear hcz16_1
            try clear hcz18_0
            try clear hcz18_1
            try clear hcz19_0
            try clear hcz19_1
            try clear hcz22_0
            try clear hcz22_1
            try clear hcz25_0
            try clear hcz25_1
            try clear hcz29_0
            try clear hcz29_1
            try clear hcz34_0
            try clear hcz34_1
            try clear hcz38_0
            try clear hcz38_1
            try clear hcz45_0
            try clear hcz45_1
            try clear hcz47_0
            try clear hcz47_1
            try clear hcz60_0
            try clear hcz60_1
            try clear hfz13_0
            try clear hfz13_1
            try clear hfz16_0
            try clear hfz16_1
            try clear hfz18_0
            try clear hfz18_1
            try clear hfz19_0
            try clear hfz19_1
            try clear hfz22_0
            try clear hfz22_1
            try clear hfz25_0
            try clear hfz25_1
            try clear hfz29_0
            try clear hfz29_1
            try clear hfz34_0
            try clear hfz34_1
            try clear hfz38_0
            try clear hfz38_1
            try clear hfz45_0
            try clear hfz45_1
            try clear hfz47_0
            try clear hfz47_1
            try clear hfz60_0
            try clear hfz60_1
            try clear hx159_0
            try clear hx160_0
            try clear hx54_0
            try clear p159
            try clear p160
            try clear p2
            try clear p54
            try clear q159
            try clear q160
            try clear q54
            obtain ⟨x53_3, x158000_3, x158001_3, u158000, u158001, rfl, HA, HK3, HO_158000, HO_158001, BK146, BK147, BK148, BK157, HB⟩ := hrel
            cases gk with
            | zero => exact absurd HA.out (by simp [impl_Meet.l1])
            | succ k3 =>
             have H := HA.out
             clear HA
             simp only [impl_Meet.l1] at H
             by_cases c61 : x53_3 < (l0_1.length : Int)
             ·rw [if_pos c61] at H
              have c61b0 : decide (x53_3 < (l0_1.length : Int)) = true := decide_eq_true c61
              clear c61
              by_cases c62 : 0 ≤ x32_2
              ·rw [if_pos c62] at H
               have c62b0 : decide (0 ≤ x32_2) = true := decide_eq_true c62
               clear c62
               by_cases c63 : x32_2 < (x158000_3.length : Int)
               ·rw [if_pos c63] at H
                have c63b0 : decide (x32_2 < (x158000_3.length : Int)) = true := decide_eq_true c63
                clear c63
                by_cases c64 : x32_2 < (l0_0.length : Int)
                ·rw [if_pos c64] at H
                 have c64b0 : decide (x32_2 < (l0_0.length : Int)) = true := decide_eq_true c64
                 clear c64
                 by_cases c65 : 0 ≤ x53_3
                 ·rw [if_pos c65] at H
                  have c65b0 : decide (0 ≤ x53_3) = true := decide_eq_true c65
                  clear c65
                  by_cases c66 : x53_3 < ((rd_L1 l0_0 x32_2).length : Int)
                  ·rw [if_pos c66] at H
                   have c66b0 : decide (x53_3 < ((rd_L1 l0_0 x32_2).length : Int)) = true := decide_eq_true c66
                   clear c66
                   by_cases c67 : x32_2 < (l1_0.length : Int)
                   ·rw [if_pos c67] at H
                    have c67b0 : decide (x32_2 < (l1_0.length : Int)) = true := decide_eq_true c67
                    clear c67
                    by_cases c68 : x53_3 < ((rd_L1 l1_0 x32_2).length : Int)
                    ·rw [if_pos c68] at H
                     have c68b0 : decide (x53_3 < ((rd_L1 l1_0 x32_2).length : Int)) = true := decide_eq_true c68
                     clear c68
                     obtain ⟨ji69, hji69⟩ : ∃ j_ : Int, (mx (rd (rd_L1 l0_0 x32_2) x53_3) (rd (rd_L1 l1_0 x32_2) x53_3)) = j_ := ⟨_, rfl⟩
                     replace H : (if x53_3 < ((rd_L1 x158000_3 x32_2).length : Int) then (impl_Meet.l1 k3 x32_2 (l0_1.length : Int) x32_2 (l0_1.length : Int) (wrap64 (x53_3 + 1)) l0_0 l0_1 l1_0 l1_1 (x158000_3.set (x32_2 : Int).toNat ((rd_L1 x158000_3 x32_2).set (x53_3 : Int).toNat (ji69))) x158001_3) else (none)) = some (r1, r2, r3) := by first | (rw [hji69] at H; exact H) | (simp only [hji69] at H ⊢; exact H)
                     have hji69_ : (if (rd (rd_L1 l0_0 x32_2) x53_3) < (rd (rd_L1 l1_0 x32_2) x53_3) then (rd (rd_L1 l1_0 x32_2) x53_3) else (rd (rd_L1 l0_0 x32_2) x53_3)) = ji69 := hji69
                     by_cases c70 : x53_3 < ((rd_L1 x158000_3 x32_2).length : Int)
                     ·rw [if_pos c70] at H
                      have c70b0 : decide (x53_3 < ((rd_L1 x158000_3 x32_2).length : Int)) = true := decide_eq_true c70
                      clear c70
                      obtain ⟨y167, hy167⟩ : ∃ y_ : List Int, y_ = ((rd_L1 x158000_3 x32_2).set (x53_3 : Int).toNat (ji69)) := ⟨_, rfl⟩
                      replace H : (impl_Meet.l1 k3 x32_2 (l0_1.length : Int) x32_2 (l0_1.length : Int) (wrap64 (x53_3 + 1)) l0_0 l0_1 l1_0 l1_1 (x158000_3.set (x32_2 : Int).toNat y167) x158001_3) = some (r1, r2, r3) := by first | (rw [hy167]; with_reducible exact H) | (have H2_ := (Option.bind_some _ _).symm.trans H; rw [hy167]; with_reducible exact H2_) | (have H2_ := (Option.bind_some _ _).symm.trans H; with_reducible exact H2_) | with_reducible exact H | (rw [hy167]; exact H) | exact H
                      have Ny167 := Aside0.mk hy167
                      clear hy167
                      obtain ⟨y169, hy169⟩ : ∃ y_ : List (List Int), y_ = (x158000_3.set (x32_2 : Int).toNat y167) := ⟨_, rfl⟩
                      replace H : (impl_Meet.l1 k3 x32_2 (l0_1.length : Int) x32_2 (l0_1.length : Int) (wrap64 (x53_3 + 1)) l0_0 l0_1 l1_0 l1_1 y169 x158001_3) = some (r1, r2, r3) := by first | (rw [hy169]; with_reducible exact H) | (have H2_ := (Option.bind_some _ _).symm.trans H; rw [hy169]; with_reducible exact H2_) | (have H2_ := (Option.bind_some _ _).symm.trans H; with_reducible exact H2_) | with_reducible exact H | (rw [hy169]; exact H) | exact H
                      have Ny169 := Aside0.mk hy169
                      clear hy169
                      have H' := Aside0.mk H
                      clear H
                      try go_wp2
                      have n0_ := k0 (Kd.S_drew HO_158000.out)
                      have n1_ := k0 (Kd.R_drew HO_158001.out)
                      have n2_ := k0 (blk_drew BK146.out)
                      have n3_ := k0 (blk_drew BK147.out)
                      have n4_ := k0 (blk_drew BK148.out)
                      have n5_ := k0 (blk_drew BK157.out)
                      have n6_ := k0 (below_drew1 HB.out)
                      clear HO_158000 HO_158001 BK146 BK147 BK148 BK157 HB
                      have HO_158000 := n0_
                      have HO_158001 := n1_
                      have BK146 := n2_
                      have BK147 := n3_
                      have BK148 := n4_
                      have BK157 := n5_
                      have HB := n6_
                      clear n0_ n1_ n2_ n3_ n4_ n5_ n6_
                      obtain ⟨Ao73, co73, eo73⟩ := Kd.S_slice HO_158000.out
                      (first | subst eo73 | (injection eo73 with f1_ f2_ f3_; have f4_ := f1_.symm; have f5_ := f3_.symm; clear f1_ f2_ f3_; subst f4_; subst f5_))
                      have p162 : 0 ≤ (x32_2 : Int) := kD
                      have q162 : x32_2 < (x158000_3.length : Int) := kD
                      obtain ⟨ad162, A162_0, c162_0, e162, hx162_0, hl162_0, hi162_0⟩ := at_L1 (Kd.S_reads' HO_158000.out).2.2 x32_2 p162 q162
                      cases e162
                      obtain ⟨ce162, hce162, hMe162, hcc162⟩ := Kd.S_get HO_158000.out [] x32_2 p162 (by first | exact q162 | exact kD | (have e_ := (Kd.S_reads' HO_158000.out).1; omega))
                      obtain ⟨ve162_0, rfl, ge162_0⟩ := hMe162
                      have hv162_0 := hcc162 0 _ rfl
                      rw [Nat.add_zero, show ((Kd.slice 3 (Kd.int .i64))).sz = 1 from rfl, Nat.mul_one] at hv162_0
                      replace hv162_0 := Option.some.inj (hv162_0.symm.trans hx162_0)
                      rw [hv162_0] at ge162_0
                      have HL162_0 := k0 (show Kd.R (Kd.int .i64) 3 _ _ _ _ (rd_L1 x158000_3 x32_2) from ge162_0)
                      clear hv162_0 ge162_0
                      have HX162_0 := Aside0.mk hx162_0
                      clear hcc162 hce162
                      have HR162_0 := Aside0.mk hi162_0
                      have HC162_0 := Aside0.mk hl162_0
                      clear hi162_0 hl162_0
                      replace p162 := eq_true p162
                      replace q162 := eq_true q162
                      have p163 : 0 ≤ (x32_2 : Int) := kD
                      have q163 : x32_2 < (l0_0.length : Int) := kD
                      obtain ⟨ad163, A163_0, c163_0, e163, hx163_0, hl163_0, hi163_0⟩ := at_L1 HR0_0.out x32_2 p163 q163
                      have hw163_0 := hx163_0
                      cases e163
                      replace hx163_0 := (HB.out.cell (World.block_lt_of_cell? w _ hx163_0)).trans hx163_0
                      have HR163_0 := Aside0.mk hi163_0
                      have HC163_0 := Aside0.mk hl163_0
                      clear hi163_0 hl163_0
                      replace p163 := eq_true p163
                      replace q163 := eq_true q163
                      have p164 : 0 ≤ (x53_3 : Int) := kD
                      have q164 : x53_3 < ((rd_L1 l0_0 x32_2).length : Int) := kD
                      obtain ⟨ad164, e164, hx164_0⟩ := Kd.at_int HR163_0.out x53_3 p164 q164
                      have hw164_0 := hx164_0
                      cases e164
                      replace hx164_0 := (HB.out.cell (World.block_lt_of_cell? w _ hx164_0)).trans hx164_0
                      replace p164 := eq_true p164
                      replace q164 := eq_true q164
                      have p165 : 0 ≤ (x32_2 : Int) := kD
                      have q165 : x32_2 < (l1_0.length : Int) := kD
                      obtain ⟨ad165, A165_0, c165_0, e165, hx165_0, hl165_0, hi165_0⟩ := at_L1 HR1_0.out x32_2 p165 q165
                      have hw165_0 := hx165_0
                      cases e165
                      replace hx165_0 := (HB.out.cell (World.block_lt_of_cell? w _ hx165_0)).trans hx165_0
                      have HR165_0 := Aside0.mk hi165_0
                      have HC165_0 := Aside0.mk hl165_0
                      clear hi165_0 hl165_0
                      replace p165 := eq_true p165
                      replace q165 := eq_true q165
                      have p166 : 0 ≤ (x53_3 : Int) := kD
                      have q166 : x53_3 < ((rd_L1 l1_0 x32_2).length : Int) := kD
                      obtain ⟨ad166, e166, hx166_0⟩ := Kd.at_int HR165_0.out x53_3 p166 q166
                      have hw166_0 := hx166_0
                      cases e166
                      replace hx166_0 := (HB.out.cell (World.block_lt_of_cell? w _ hx166_0)).trans hx166_0
                      replace p166 := eq_true p166
                      replace q166 := eq_true q166
                      have p71 : 0 ≤ (x53_3 : Int) := kD
                      have q71 : (x53_3 : Int) < (((rd_L1 x158000_3 x32_2).length : Int) : Int) := kD
                      obtain ⟨go71, co71, eo71, gb71, gl71, cl71, HG71⟩ := Kd.R_form HL162_0.out (by omega)
                      (first | cases eo71 | (injection eo71 with ea_ en_ ec_; (first | subst ea_ | (injection ea_ with ea_; subst ea_)); subst ec_; clear en_))
                      have GB71 := Aside0.mk gb71
                      have GG71 := Aside0.mk HG71
                      clear gb71 gl71 HG71
                      obtain ⟨hx71_0, hf71_0⟩ := Kd.R_celln 0 HL162_0.out (x53_3 : Int) p71 q71
                      replace p71 := eq_true p71
                      replace q71 := eq_true q71
                      have hq74 : (x32_2 : Int) < (x158000_3.length : Int) := (by have h_ : (x32_2 : Int) < ((x158000_3.length : Int) : Int) := kD; first | exact h_ | (have e_ := (Kd.S_reads' HO_158000.out).1; omega) | simpa only [List.length_set, List.length_set] using h_)
                      obtain ⟨oki74, ce74, hcl74, hM74, hcc74, hok74, hbk74⟩ := Kd.S_borrow HO_158000.out [] (x32_2 : Int) kD hq74
                      obtain ⟨ve74_0, rfl, ge74_0⟩ := hM74
                      have hv74 := hcc74 0 _ rfl
                      rw [Nat.add_zero, show ((Kd.slice 3 (Kd.int .i64))).sz = 1 from rfl, Nat.mul_one] at hv74
                      replace hv74 := Option.some.inj (hv74.symm.trans HX162_0.out)
                      subst hv74
                      clear hcc74 hcl74
                      replace ge74_0 := (show Kd.R (Kd.int .i64) 3 _ _ _ _ (rd_L1 x158000_3 x32_2) from ge74_0)
                      have HP74 := Kd.R_putg ge74_0 (x53_3 : Int) ji69
                      rw [← Ny167.out] at HP74
                      have HS74 := hbk74 HP74.2 (fun k_ e_ => by injection e_ with e_; subst e_; exact ge74_0.1 _ rfl) (x' := y167) (Kd.M_row HP74.1)
                      rw [← Ny169.out] at HS74
                      have HQ74 := Aside0.mk HS74
                      clear HP74 HS74 hbk74 hok74
                      refine start_ (n := 25) (S := fun w' => w'.cell? ⟨gb157, 0, none⟩ = some (.slice (some ad162) x158000_3.length co73) ∧ w'.cell? ⟨gb157, 1, none⟩ = some (u158001) ∧ w'.cell? ⟨gb146, 0, none⟩ = some (.slice (some ad163) l0_0.length c0_0) ∧ w'.cell? ⟨gb146, 1, none⟩ = some (.slice (some ad159) l0_1.length c0_1) ∧ w'.cell? ⟨gb147, 0, none⟩ = some (.slice (some ad165) l1_0.length c1_0) ∧ w'.cell? ⟨gb147, 1, none⟩ = some (.slice (some ad160) l1_1.length c1_1) ∧ w'.cell? (ad162.add (x32_2).toNat) = some (.slice (some ⟨go71, 0, none⟩) (rd_L1 x158000_3 x32_2).length c162_0) ∧ w'.cell? (ad163.add (x32_2).toNat) = some (.slice (some ad164) (rd_L1 l0_0 x32_2).length c163_0) ∧ w'.cell? (ad164.add (x53_3).toNat) = some (.int .i64 (rd (rd_L1 l0_0 x32_2) x53_3)) ∧ w'.cell? (ad165.add (x32_2).toNat) = some (.slice (some ad166) (rd_L1 l1_0 x32_2).length c165_0) ∧ w'.cell? (ad166.add (x53_3).toNat) = some (.int .i64 (rd (rd_L1 l1_0 x32_2) x53_3))) (ds := [24]) #[false, false, false, false, false, false, false, false, false, false, false, false, false, false, false, false, false, false, false, false, false, false, false, false, false] (by kernel_rfl) rfl rfl ⟨(blk_cell BK157.out 0).trans rfl, (blk_cell BK157.out 1).trans rfl, (blk_cell BK146.out 0).trans rfl, (blk_cell BK146.out 1).trans rfl, (blk_cell BK147.out 0).trans rfl, (blk_cell BK147.out 1).trans rfl, hx162_0, ((HB.out.cell (World.block_lt_of_cell? w _ hw163_0)).trans hw163_0), ((HB.out.cell (World.block_lt_of_cell? w _ hw164_0)).trans hw164_0), ((HB.out.cell (World.block_lt_of_cell? w _ hw165_0)).trans hw165_0), ((HB.out.cell (World.block_lt_of_cell? w _ hw166_0)).trans hw166_0)⟩ (fun hHeld => ?_); refine with_tabW impl_Meet.tab11 impl_Meet.bits11 (fun HT_ HW_ => ?_)
                      generalize wr.drew = w72 at HO_158000 HO_158001 BK146 BK147 BK148 BK157 HB GG71 HL162_0 HQ74 HR162_0 HR163_0 HR165_0 HX162_0 hf71_0 hx162_0 hx163_0 hx164_0 hx165_0 hx166_0 hx71_0 hHeld ⊢
                      refine kP 0 56 25 1 HT_.out ?_
                      refine kP 2 58 25 5 HT_.out ?_
                      refine kP 5 61 25 37 HT_.out ?_
                      refine kP 6 62 25 101 HT_.out ?_
                      refine kP 8 64 25 357 HT_.out ?_
                      refine kP 11 67 25 2405 HT_.out ?_
                      refine kP 14 70 25 18789 HT_.out ?_
                      refine kP 16 72 25 84325 HT_.out ?_
                      refine kP 19 75 25 608613 HT_.out ?_
                      refine take_ (i := 1) (N := some 57) (v := ?_) (a' := ?_) (bt 25 608615) rfl rfl (take_ofW HT_.out HW_.out (by kernel_rfl)) (fun _ _ _ h => h) (Or.inl ⟨by rfl, ?_⟩) hHeld ?_ ?_
                      rotate_left
                      ·rintro w' ⟨s0, s1, s2, s3, s4, s5, s6, s7, s8, s9, s10⟩
                       go_simp
                       with_reducible rfl
                      rotate_left
                      ·simp only [Act.put, List.setIfInBounds_toArray, List.set_cons_zero, List.set_cons_succ, i64_w, i32_w]
                       rfl
                      refine kP 3 59 25 608623 HT_.out ?_
                      refine take_ (i := 4) (N := some 60) (v := ?_) (a' := ?_) (bt 25 608639) rfl rfl (take_ofW HT_.out HW_.out (by kernel_rfl)) (fun _ _ _ h => h) (Or.inl ⟨by rfl, ?_⟩) hHeld ?_ ?_
                      rotate_left
                      ·rintro w' ⟨s0, s1, s2, s3, s4, s5, s6, s7, s8, s9, s10⟩
                       go_simp
                       with_reducible rfl
                      rotate_left
                      ·simp only [Act.put, List.setIfInBounds_toArray, List.set_cons_zero, List.set_cons_succ, i64_w, i32_w]
                       rfl
                      refine take_ (i := 7) (N := some 63) (v := ?_) (a' := ?_) (bt 25 608767) rfl rfl (take_ofW HT_.out HW_.out (by kernel_rfl)) (fun _ _ _ h => h) (Or.inl ⟨by rfl, ?_⟩) hHeld ?_ ?_
                      rotate_left
                      ·rintro w' ⟨s0, s1, s2, s3, s4, s5, s6, s7, s8, s9, s10⟩
                       go_simp
                       with_reducible rfl
                      rotate_left
                      ·simp only [Act.put, List.setIfInBounds_toArray, List.set_cons_zero, List.set_cons_succ, i64_w, i32_w]
                       rfl
                      refine kP 9 65 25 609279 HT_.out ?_
                      refine take_ (i := 10) (N := some 66) (v := ?_) (a' := ?_) (bt 25 610303) rfl rfl (take_ofW HT_.out HW_.out (by kernel_rfl)) (fun _ _ _ h => h) (Or.inl ⟨by rfl, ?_⟩) hHeld ?_ ?_
                      rotate_left
                      ·rintro w' ⟨s0, s1, s2, s3, s4, s5, s6, s7, s8, s9, s10⟩
                       go_simp
                       with_reducible rfl
                      rotate_left
                      ·simp only [Act.put, List.setIfInBounds_toArray, List.set_cons_zero, List.set_cons_succ, i64_w, i32_w]
                       rfl
                      refine kP 12 68 25 614399 HT_.out ?_
                      refine take_ (i := 13) (N := some 69) (v := ?_) (a' := ?_) (bt 25 622591) rfl rfl (take_ofW HT_.out HW_.out (by kernel_rfl)) (fun _ _ _ h => h) (Or.inl ⟨by rfl, ?_⟩) hHeld ?_ ?_
                      rotate_left
                      ·rintro w' ⟨s0, s1, s2, s3, s4, s5, s6, s7, s8, s9, s10⟩
                       go_simp
                       with_reducible rfl
                      rotate_left
                      ·simp only [Act.put, List.setIfInBounds_toArray, List.set_cons_zero, List.set_cons_succ, i64_w, i32_w]
                       rfl
                      refine take_ (i := 15) (N := some 71) (v := ?_) (a' := ?_) (bt 25 655359) rfl rfl (take_ofW HT_.out HW_.out (by kernel_rfl)) (fun _ _ _ h => h) (Or.inl ⟨by rfl, ?_⟩) hHeld ?_ ?_
                      rotate_left
                      ·rintro w' ⟨s0, s1, s2, s3, s4, s5, s6, s7, s8, s9, s10⟩
                       go_simp
                       with_reducible rfl
                      rotate_left
                      ·simp only [Act.put, List.setIfInBounds_toArray, List.set_cons_zero, List.set_cons_succ, i64_w, i32_w]
                       rfl
                      refine kP 17 73 25 786431 HT_.out ?_
                      refine take_ (i := 18) (N := some 74) (v := ?_) (a' := ?_) (bt 25 1048575) rfl rfl (take_ofW HT_.out HW_.out (by kernel_rfl)) (fun _ _ _ h => h) (Or.inl ⟨by rfl, ?_⟩) hHeld ?_ ?_
                      rotate_left
                      ·rintro w' ⟨s0, s1, s2, s3, s4, s5, s6, s7, s8, s9, s10⟩
                       go_simp
                       with_reducible rfl
                      rotate_left
                      ·simp only [Act.put, List.setIfInBounds_toArray, List.set_cons_zero, List.set_cons_succ, i64_w, i32_w]
                       rfl
                      refine kP 20 76 25 2097151 HT_.out ?_
                      refine take_ (i := 21) (N := some 77) (v := ?_) (a' := ?_) (bt 25 4194303) rfl rfl (take_ofW HT_.out HW_.out (by kernel_rfl)) (fun _ _ _ h => h) (Or.inl ⟨by rfl, ?_⟩) hHeld ?_ ?_
                      rotate_left
                      ·rintro w' ⟨s0, s1, s2, s3, s4, s5, s6, s7, s8, s9, s10⟩
                       go_simp
                       with_reducible rfl
                      rotate_left
                      ·simp only [Act.put, List.setIfInBounds_toArray, List.set_cons_zero, List.set_cons_succ, i64_w, i32_w]
                       rfl
                      refine kP 22 78 25 8388607 HT_.out ?_
                      refine kP 23 79 25 16777215 HT_.out ?_
                      refine last_ (i := 24) (N := none) (bt 25 33554431) rfl rfl (one_of HT_.out (by kernel_rfl)) (by decide) (fun K hK => ?_)
                      refine skip_ (w1 := ?_) (by rfl) rfl ?_ ?_
                      rotate_left
                      ·go_simp
                       rfl
                      refine hK.out _ _ ?_
                      clear hK K
                      refine done_ (done_of HT_.out (by kernel_rfl)) ?_
                      try go_wp2
                      go_roundg k3
                      case measure => have := HJ2.out; have := HK2.out; have := HK3.out; omega
                      case rel => exact ⟨(wrap64 (x53_3 + 1)), (y169), (x158001_3), (.slice (some ad162) x158000_3.length co73), (u158001), (by first | rfl | (simp; done) | (simp [*]; done)), H', ⟨by have := HJ2.out; have := HK2.out; have := HK3.out; omega⟩, ⟨by (with_reducible repeat (first | apply Kd.S_alloc | apply Kd.S_drewN | apply Kd.S_drew)); exact HQ74.out⟩, ⟨by (with_reducible repeat (first | apply Kd.R_alloc | apply Kd.R_drewN | apply Kd.R_drew)); exact Kd.R_mono (Kd.R_far (p := ⟨go71, (x53_3 : Int).toNat, none⟩) (Kd.R_far1 HO_158001.out rfl ((HL162_0.out.1 _ rfl).1)) (fun _ hk => hk.2) (.int .i64 ji69)) (fun _ hk => trivial)⟩, ⟨by (with_reducible repeat first | apply k1 | apply k2 | apply k3); refine blk_far ?_ (by have h_ := Kd.R_ne HL162_0.out BK146.out (by decide); intro e_; exact h_ (by rw [e_]; rfl)) _; (with_reducible repeat first | apply k1 | apply k2 | apply k3); exact BK146.out⟩, ⟨by (with_reducible repeat first | apply k1 | apply k2 | apply k3); refine blk_far ?_ (by have h_ := Kd.R_ne HL162_0.out BK147.out (by decide); intro e_; exact h_ (by rw [e_]; rfl)) _; (with_reducible repeat first | apply k1 | apply k2 | apply k3); exact BK147.out⟩, ⟨by (with_reducible repeat first | apply k1 | apply k2 | apply k3); refine blk_far ?_ (by have h_ := Kd.R_ne HL162_0.out BK148.out (by decide); intro e_; exact h_ (by rw [e_]; rfl)) _; (with_reducible repeat first | apply k1 | apply k2 | apply k3); exact BK148.out⟩, ⟨by (with_reducible repeat first | apply k1 | apply k2 | apply k3); refine blk_far ?_ (by have h_ := Kd.R_ne HL162_0.out BK157.out (by decide); intro e_; exact h_ (by rw [e_]; rfl)) _; (with_reducible repeat first | apply k1 | apply k2 | apply k3); exact BK157.out⟩, ⟨by repeat (first | (with_reducible first | exact HB.out | apply below_alloc | apply pw_below_drewN | apply below_drew1 | refine below_set ?_ GB71.out | refine below_set ?_ GE146.out | refine below_set ?_ GE147.out | refine below_set ?_ GE148.out | refine below_set ?_ GE157.out) | exact HB.out)⟩⟩
                     ·rw [if_neg c70] at H
                      exact absurd H (by simp)
                    ·rw [if_neg c68] at H
                     exact absurd H (by simp)
                   ·rw [if_neg c67] at H
                    exact absurd H (by simp)
                  ·rw [if_neg c66] at H
                   exact absurd H (by simp)
                 ·rw [if_neg c65] at H
                  exact absurd H (by simp)
                ·rw [if_neg c64] at H
                 exact absurd H (by simp)
               ·rw [if_neg c63] at H
                exact absurd H (by simp)
              ·rw [if_neg c62] at H
               exact absurd H (by simp)
             ·rw [if_neg c61] at H
              have c61b0 : decide (x53_3 < (l0_1.length : Int)) = false := decide_eq_false c61
              clear c61
              have H' := Aside0.mk H
              clear H
              go_wp2
              go_roundg k3
              case measure => have := HJ2.out; have := HK2.out; have := HK3.out; omega
              case rel => exact ⟨(wrap64 (x32_2 + 1)), (x158000_3), (x158001_3), (u158000), (u158001), (by first | rfl | (simp; done) | (simp [*]; done)), H', ⟨by have := HJ2.out; have := HK2.out; have := HK3.out; omega⟩, ⟨by (with_reducible repeat (first | apply Kd.S_alloc | apply Kd.S_drewN | apply Kd.S_drew)); exact HO_158000.out⟩, ⟨by (with_reducible repeat (first | apply Kd.R_alloc | apply Kd.R_drewN | apply Kd.R_drew)); exact HO_158001.out⟩, ⟨kB BK146.out⟩, ⟨kB BK147.out⟩, ⟨kB BK148.out⟩, ⟨kB BK157.out⟩, ⟨by repeat (first | (with_reducible first | exact HB.out | apply below_alloc | apply pw_below_drewN | apply below_drew1 | refine below_set ?_ GE146.out | refine below_set ?_ GE147.out | refine below_set ?_ GE148.out | refine below_set ?_ GE157.out) | exact HB.out)⟩⟩
          ·rw [if_neg c53] at H
           exact absurd H (by simp)
         ·rw [if_neg c51] at H
          exact absurd H (by simp)
        ·rw [if_neg c50] at H
         exact absurd H (by simp)
       ·rw [if_neg c49] at H
        exact absurd H (by simp)
      ·rw [if_neg c48] at H
       have c48b0 : decide (x32_2 < (l0_1.length : Int)) = false := decide_eq_false c48
       clear c48
       replace H := Option.bind_eq_some_iff.mp H
       obtain ⟨t158, A760, H⟩ := H
       replace H : (if t158 = true then (some (x158000_2, x158001_2, true)) else (some (([] : List (List Int)), ([] : List Int), false))) = some (r1, r2, r3) := H
       have A76 := Aside0.mk A760
       clear A760
       by_cases c77 : t158 = true
       ·subst c77
        have H1 : (some (x158000_2, x158001_2, true)) = some (r1, r2, r3) := by rw [if_pos rfl] at H; exact H
        clear H
        have H := H1
        clear H1
        simp only [Option.some.injEq, Prod.mk.injEq] at H
        obtain ⟨rfl, rfl, rfl⟩ := H
        have hnb78 := NB157_146.out
        have hnc78 := NB146_157.out
        have hnb79 := NB157_147.out
        have hnc79 := NB147_157.out
        have hnb80 := NB157_148.out
        have hnc80 := NB148_157.out
        have hcz81_0 : wr.cell? ⟨gb157, 0, none⟩ = some (u158000) := kx BK157.out
        have hcz81_1 : wr.cell? ⟨gb157, 1, none⟩ = some (u158001) := kx BK157.out
        have hfz81_0 := blk_frozen BK157.out 0
        have hfz81_1 := blk_frozen BK157.out 1
        obtain ⟨Ao82, co82, eo82⟩ := Kd.S_slice HO_158000.out
        subst eo82
        obtain ⟨Ao83, co83, eo83⟩ := Kd.R_slice HO_158001.out
        subst eo83
        go_wp2_with (first | ((with_reducible refine gate_callee (f := 16) rfl ?_); refine kG (some 83) Try.func16 #[.agg #[.slice Ao82 x158000_2.length co82, .slice Ao83 x158001_2.length co83]] ?_; (with_reducible refine (impl_RightsOk.calls k2 _ _ x158000_2 _ _ x158001_2 true _ ?side1 ?side2 ?side3 ?side4 A76.out).mono ?_); (case side1 => exact kC (Kd.S_reads' HO_158000.out).2.2); (case side2 => exact (Kd.S_reads' HO_158000.out).2.1); (case side3 => exact kC (Kd.R_reads' HO_158001.out).2.2); (case side4 => exact (Kd.R_reads' HO_158001.out).2.1); rintro e w84 ⟨rfl, hb⟩; refine ⟨_, rfl, ?_⟩; have n0_ := k0 (Kd.S_below (kS HO_158000.out) hb); have n1_ := k0 (Kd.R_below (kR HO_158001.out) hb); have n2_ := k0 (kb BK146.out hb); have n3_ := k0 (kb BK147.out hb); have n4_ := k0 (kb BK148.out hb); have n5_ := k0 (kb BK157.out hb); have n6_ := k0 (below_step (kW HB.out) hb); clear HO_158000; clear HO_158001; clear BK146; clear BK147; clear BK148; clear BK157; clear HB; have HO_158000 := n0_; have HO_158001 := n1_; have BK146 := n2_; have BK147 := n3_; have BK148 := n4_; have BK157 := n5_; have HB := n6_; clear n0_ n1_ n2_ n3_ n4_ n5_ n6_; (try clear hb); (try clear hb2); (try clear hk); (try clear hi); have hcz85_0 : w84.cell? ⟨gb157, 0, none⟩ = some (.slice Ao82 x158000_2.length co82) := kx BK157.out; have hcz85_1 : w84.cell? ⟨gb157, 1, none⟩ = some (.slice Ao83 x158001_2.length co83) := kx BK157.out; have hfz85_0 := blk_frozen BK157.out 0; have hfz85_1 := blk_frozen BK157.out 1; have hnb86 := NB148_146.out; have hnc86 := NB146_148.out; have hnb87 := NB148_147.out; have hnc87 := NB147_148.out; have hcz88_0 : w84.cell? ⟨gb148, 0, none⟩ = some (.slice none 0 0) := kx BK148.out; have hcz88_1 : w84.cell? ⟨gb148, 1, none⟩ = some (.slice none 0 0) := kx BK148.out; have hfz88_0 := blk_frozen BK148.out 0; have hfz88_1 := blk_frozen BK148.out 1))
        refine bodyPost_ret (results_ct rfl _ _ gb148 28 #[.slice Ao82 x158000_2.length co82, .slice Ao83 x158001_2.length co83] (0, 0) _ rfl (by (with_reducible repeat first | apply k1 | apply k2 | apply k3); refine blk_put (cs := #[.slice Ao82 x158000_2.length co82, .slice none 0 0]) ?_ 1 _ rfl; (with_reducible repeat first | apply k1 | apply k2 | apply k3); refine blk_put (cs := #[.slice none 0 0, .slice none 0 0]) ?_ 0 _ rfl; (with_reducible repeat first | apply k1 | apply k2 | apply k3); exact BK148.out) Try.underlying28 rfl (by kernel_rfl)) rfl ?_
        exact ⟨_, _, by first | rfl | (simp [errW_none, errW_some] <;> rfl) | (simp [*, errW_none, errW_some] <;> rfl), by (with_reducible repeat (first | apply Kd.S_alloc | apply Kd.S_drewN | apply Kd.S_drew)); exact Kd.S_mono (Kd.S_far (p := ⟨gb148, 1, none⟩) (Kd.S_far (p := ⟨gb148, 0, none⟩) (Kd.S_types HO_158000.out BK148.out (by decide)) (fun _ hk => hk.2) (.slice Ao82 x158000_2.length co82)) (fun _ hk => hk.2) (.slice Ao83 x158001_2.length co83)) (fun _ hk => hk.1), by (with_reducible repeat (first | apply Kd.R_alloc | apply Kd.R_drewN | apply Kd.R_drew)); exact Kd.R_mono (Kd.R_far (p := ⟨gb148, 1, none⟩) (Kd.R_far (p := ⟨gb148, 0, none⟩) (Kd.R_types HO_158001.out BK148.out (by decide)) (fun _ hk => hk.2) (.slice Ao82 x158000_2.length co82)) (fun _ hk => hk.2) (.slice Ao83 x158001_2.length co83)) (fun _ hk => trivial), by repeat (first | (with_reducible first | exact HB.out | apply below_alloc | apply pw_below_drewN | apply below_drew1 | refine below_set ?_ GE146.out | refine below_set ?_ GE147.out | refine below_set ?_ GE148.out | refine below_set ?_ GE157.out) | exact HB.out)⟩
       ·replace c77 := Bool.eq_false_iff.mpr c77
        subst c77
        have H1 : (some (([] : List (List Int)), ([] : List Int), false)) = some (r1, r2, r3) := by rw [if_neg (show ¬ (false = true) by decide)] at H; exact H
        clear H
        have H := H1
        clear H1
        simp only [Option.some.injEq, Prod.mk.injEq] at H
        obtain ⟨rfl, rfl, rfl⟩ := H
        have hnb89 := NB157_146.out
        have hnc89 := NB146_157.out
        have hnb90 := NB157_147.out
        have hnc90 := NB147_157.out
        have hnb91 := NB157_148.out
        have hnc91 := NB148_157.out
        have hcz92_0 : wr.cell? ⟨gb157, 0, none⟩ = some (u158000) := kx BK157.out
        have hcz92_1 : wr.cell? ⟨gb157, 1, none⟩ = some (u158001) := kx BK157.out
        have hfz92_0 := blk_frozen BK157.out 0
        have hfz92_1 := blk_frozen BK157.out 1
        obtain ⟨Ao93, co93, eo93⟩ := Kd.S_slice HO_158000.out
        subst eo93
        obtain ⟨Ao94, co94, eo94⟩ := Kd.R_slice HO_158001.out
        subst eo94
        go_wp2_with (first | ((with_reducible refine gate_callee (f := 16) rfl ?_); refine kG (some 83) Try.func16 #[.agg #[.slice Ao93 x158000_2.length co93, .slice Ao94 x158001_2.length co94]] ?_; (with_reducible refine (impl_RightsOk.calls k2 _ _ x158000_2 _ _ x158001_2 false _ ?side1 ?side2 ?side3 ?side4 A76.out).mono ?_); (case side1 => exact kC (Kd.S_reads' HO_158000.out).2.2); (case side2 => exact (Kd.S_reads' HO_158000.out).2.1); (case side3 => exact kC (Kd.R_reads' HO_158001.out).2.2); (case side4 => exact (Kd.R_reads' HO_158001.out).2.1); rintro e w95 ⟨rfl, hb⟩; refine ⟨_, rfl, ?_⟩; have n0_ := k0 (Kd.S_below (kS HO_158000.out) hb); have n1_ := k0 (Kd.R_below (kR HO_158001.out) hb); have n2_ := k0 (kb BK146.out hb); have n3_ := k0 (kb BK147.out hb); have n4_ := k0 (kb BK148.out hb); have n5_ := k0 (kb BK157.out hb); have n6_ := k0 (below_step (kW HB.out) hb); clear HO_158000; clear HO_158001; clear BK146; clear BK147; clear BK148; clear BK157; clear HB; have HO_158000 := n0_; have HO_158001 := n1_; have BK146 := n2_; have BK147 := n3_; have BK148 := n4_; have BK157 := n5_; have HB := n6_; clear n0_ n1_ n2_ n3_ n4_ n5_ n6_; (try clear hb); (try clear hb2); (try clear hk); (try clear hi); have hnb96 := NB148_146.out; have hnc96 := NB146_148.out; have hnb97 := NB148_147.out; have hnc97 := NB147_148.out; have hcz98_0 : w95.cell? ⟨gb148, 0, none⟩ = some (.slice none 0 0) := kx BK148.out; have hcz98_1 : w95.cell? ⟨gb148, 1, none⟩ = some (.slice none 0 0) := kx BK148.out; have hfz98_0 := blk_frozen BK148.out 0; have hfz98_1 := blk_frozen BK148.out 1))
        refine bodyPost_ret (results_ct rfl _ _ gb148 28 #[.slice none 0 0, .slice none 0 0] (0, 0) _ rfl (by (with_reducible repeat first | apply k1 | apply k2 | apply k3); refine blk_put (cs := #[.slice none 0 0, .slice none 0 0]) ?_ 1 _ rfl; (with_reducible repeat first | apply k1 | apply k2 | apply k3); refine blk_put (cs := #[.slice none 0 0, .slice none 0 0]) ?_ 0 _ rfl; (with_reducible repeat first | apply k1 | apply k2 | apply k3); exact BK148.out) Try.underlying28 rfl (by kernel_rfl)) rfl ?_
        exact ⟨_, _, by first | rfl | (simp [errW_none, errW_some] <;> rfl) | (simp [*, errW_none, errW_some] <;> rfl), by first | exact Kd.S_nil _ _ _ _ _ | exact Kd.N_nil _ _ _ _ _ | exact Kd.V_nil _ _ _ _ _ | exact Kd.Q_nil _ _ _ _ _ | exact Kd.R_nil _ _ _ _ _, by first | exact Kd.R_nil _ _ _ _ _ | exact Kd.N_nil _ _ _ _ _ | exact Kd.V_nil _ _ _ _ _ | exact Kd.Q_nil _ _ _ _ _ | exact Kd.S_nil _ _ _ _ _, by repeat (first | (with_reducible first | exact HB.out | apply below_alloc | apply pw_below_drewN | apply below_drew1 | refine below_set ?_ GE146.out | refine below_set ?_ GE147.out | refine below_set ?_ GE148.out | refine below_set ?_ GE157.out) | exact HB.out)⟩

end Go.Proofs.Ytcnanifokpcjaaa.PFnMeet
