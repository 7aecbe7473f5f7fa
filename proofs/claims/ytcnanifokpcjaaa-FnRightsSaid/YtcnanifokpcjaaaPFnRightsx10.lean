import Derived.Test.YtcnanifokpcjaaaPFnRightsx0
import Derived.Test.YtcnanifokpcjaaaPFnRightsx6
namespace Go.Proofs.Ytcnanifokpcjaaa.PFnRights
open Go.RowKit Go.Proofs.YtcnanifokpcjaaaW.PrintWords Go.Proofs.YtcnanifokpcjaaaW.PrintLast Go.Proofs.YtcnanifokpcjaaaW.PrintMore
attribute [local go_sem] max2_int min2_int max_two min_two max_three min_three max_four min_four   -- for this text's walks alone
set_option linter.unusedVariables false
set_option linter.unusedSimpArgs false

/-! ### spec_RightsNew: function 71 -/
def spec_RightsNew.l0 : Nat → Int → Int → List (List Int) → List Int → Option ((List (List Int)) × List Int)
 | 0, _, _, _, _ => none
 | k + 1, x0, x4, x300000, x300001 => if x4 < x0 then (if 0 ≤ x0 then (if (x0 : Int).toNat ≤ 35184372088832 then (if x300000.length < 5864062014805 then (spec_RightsNew.l0 k x0 (wrap64 (x4 + 1)) (x300000 ++ [(List.replicate (x0 : Int).toNat 0)]) x300001) else (none)) else (none)) else (none)) else (some (x300000, x300001))
def spec_RightsNew.f (k : Nat) (a0 : Int) : Option ((List (List Int)) × List Int) := (spec_l01In.f a0 1 4).bind fun t295 => (if t295 = true then (if 0 ≤ a0 then (if (a0 : Int).toNat ≤ 35184372088832 then (spec_RightsNew.l0 k a0 0 ([] : List (List Int)) (List.replicate (a0 : Int).toNat 0)) else (none)) else (none)) else (some (([] : List (List Int)), ([] : List Int))))
theorem spec_RightsNew.mono_l : ∀ k, (∀ y0 y1 y2 y3, LeO (spec_RightsNew.l0 k y0 y1 y2 y3) (spec_RightsNew.l0 (k + 1) y0 y1 y2 y3))
 | 0 => fun _ _ _ _ r h => by simp [spec_RightsNew.l0] at h
 | k + 1 => by
  have ih0 := spec_RightsNew.mono_l k
  ·intro y0 y1 y2 y3
   unfold spec_RightsNew.l0
   repeat' first
   | (with_reducible exact ih0 _ _ _ _)
   | (with_reducible exact LeO.refl _)
   | (with_reducible exact LeO.none _)
   | (with_reducible refine LeO.ite ?_ ?_)
   | (with_reducible refine LeO.bind ?_ (fun _ => ?_))
   | exact ih0 _ _ _ _
   | exact LeO.none _
   | refine LeO.ite ?_ ?_
   | refine LeO.bind ?_ (fun _ => ?_)
theorem spec_RightsNew.mono : ∀ a0 k, LeO (spec_RightsNew.f k a0) (spec_RightsNew.f (k + 1) a0) := by
 intro a0 k
 have ih0 := spec_RightsNew.mono_l k
 unfold spec_RightsNew.f
 repeat' first
   | (with_reducible exact ih0 _ _ _ _)
   | (with_reducible exact LeO.refl _)
   | (with_reducible exact LeO.none _)
   | (with_reducible refine LeO.ite ?_ ?_)
   | (with_reducible refine LeO.bind ?_ (fun _ => ?_))
   | exact ih0 _ _ _ _
   | exact LeO.none _
   | refine LeO.ite ?_ ?_
   | refine LeO.bind ?_ (fun _ => ?_)
def spec_RightsNew.T7 : Bool × List (List Nat × List Nat) := (true, [([], []), ([0], [0]), ([], []), ([2, 2], [2]), ([3], [3]), ([1, 4], [1, 4]), ([0, 1, 2, 3, 4, 5], []), ([6, 5, 5, 0, 1, 2, 3, 4, 5], [5, 6])])
def spec_RightsNew.B7 : List Nat := [0, 1, 0, 4, 12, 31, 63, 127]
theorem spec_RightsNew.tab7 : rtab .any (opsOf Try.f71 7) = spec_RightsNew.T7 := by kernel_rfl
theorem spec_RightsNew.bits7 : waitsOk spec_RightsNew.T7.2 spec_RightsNew.B7 = true := by kernel_rfl
set_option maxHeartbeats 8000000 in
set_option maxRecDepth 100000 in
theorem spec_RightsNew.calls (k : Nat) (a0 : Int) (r1 : List (List Int)) (r2 : List Int) (w : World) (h : spec_RightsNew.f k a0 = some (r1, r2)) :
  Calls Try.prog 71 #[.int .i64 a0] w fun e w' => ∃ v0_ v1_ : Value, e = .returned (.agg #[v0_, v1_]) ∧ Kd.S (Kd.slice 3 (Kd.int .i64)) 23 w' w.heap.size (fun k_ => some k_ ≠ (v1_ : Value).ownBlock) v0_ r1 ∧ Kd.R (Kd.int .i64) 3 w' w.heap.size (fun _ => True) v1_ r2 ∧ Below w.heap.size w w' := by
 have hu28 := Try.underlying28
 have HB := k0 (Below.refl w.heap.size w)
 have H : ((spec_l01In.f a0 1 4).bind fun t295 => (if t295 = true then (if 0 ≤ a0 then (if (a0 : Int).toNat ≤ 35184372088832 then (spec_RightsNew.l0 k a0 0 ([] : List (List Int)) (List.replicate (a0 : Int).toNat 0)) else (none)) else (none)) else (some (([] : List (List Int)), ([] : List Int))))) = some (r1, r2) := h
 clear h
 replace H := Option.bind_eq_some_iff.mp H
 obtain ⟨t295, A20, H⟩ := H
 replace H : (if t295 = true then (if 0 ≤ a0 then (if (a0 : Int).toNat ≤ 35184372088832 then (spec_RightsNew.l0 k a0 0 ([] : List (List Int)) (List.replicate (a0 : Int).toNat 0)) else (none)) else (none)) else (some (([] : List (List Int)), ([] : List Int)))) = some (r1, r2) := H
 have A2 := Aside0.mk A20
 clear A20
 by_cases c3 : t295 = true
 ·subst c3
  have H1 : (if 0 ≤ a0 then (if (a0 : Int).toNat ≤ 35184372088832 then (spec_RightsNew.l0 k a0 0 ([] : List (List Int)) (List.replicate (a0 : Int).toNat 0)) else (none)) else (none)) = some (r1, r2) := by rw [if_pos rfl] at H; exact H
  clear H
  have H := H1
  clear H1
  by_cases c4 : 0 ≤ a0
  ·rw [if_pos c4] at H
   have c4b0 := eq_true c4
   have c4b1 : decide (0 ≤ a0) = true := decide_eq_true c4
   clear c4
   by_cases c5 : (a0 : Int).toNat ≤ 35184372088832
   ·rw [if_pos c5] at H
    have c5b0 := eq_true c5
    have c5b1 : decide ((a0 : Int).toNat ≤ 35184372088832) = true := decide_eq_true c5
    clear c5
    obtain ⟨y296, hy296⟩ : ∃ y_ : List Int, y_ = (List.replicate (a0 : Int).toNat 0) := ⟨_, rfl⟩
    replace H : (spec_RightsNew.l0 k a0 0 ([] : List (List Int)) y296) = some (r1, r2) := by first | (rw [hy296]; with_reducible exact H) | (have H2_ := (Option.bind_some _ _).symm.trans H; rw [hy296]; with_reducible exact H2_) | (have H2_ := (Option.bind_some _ _).symm.trans H; with_reducible exact H2_) | with_reducible exact H | (rw [hy296]; exact H) | exact H
    have Ny296 := Aside0.mk hy296
    clear hy296
    have H' := Aside0.mk H
    clear H
    go_enter Try.func71, Try.ntmps71
    go_wp2_with (first | ((with_reducible refine gate_dst (N := 2) rfl ?_); refine kE (N := 2) (cs := #[.slice none 0 0, .slice none 0 0]) (t := 28) ?_; intro gb294 hg w6 hbox hb; have n0_ := k0 (below_step (kW HB.out) hb); have n1_ := k0 (hbox); have n2_ := k0 (kY HB.out hg); have n3_ := k0 (kY HB.out hg); clear HB; have HB := n0_; have BK294 := n1_; have GW294 := n2_; have GE294 := n3_; clear n0_ n1_ n2_ n3_; clear hb hbox hg) | ((with_reducible refine gate_callee (f := 49) rfl ?_); refine kG (some 6) Try.func49 #[.int .i64 a0, .int .i64 1, .int .i64 4] ?_; (with_reducible refine (spec_l01In.calls a0 1 4 true _ A2.out).mono ?_); rintro e w' ⟨rfl, ⟨nd, rfl⟩⟩; refine ⟨_, rfl, ?_⟩; (try (rw [drewN_self w6]; generalize hq_ : World.drewN w6 _ = w6; have n0_ : Aside0 (w6.heap[gb294]? = some (.cells #[.slice none 0 0, .slice none 0 0] 28 (0, 0))) := ⟨by rw [← hq_]; exact (kB BK294.out)⟩; have n1_ : Aside0 (Below w.heap.size w w6) := ⟨by rw [← hq_]; exact (kW HB.out)⟩; clear BK294 HB hq_; have BK294 := n0_; have HB := n1_; clear n0_ n1_))) | ((with_reducible refine gate_dst (N := 10) rfl ?_); refine Kd.R_make (Kd.int .i64) _ 3 rfl (N := 10) rfl 23 _ _ rfl a0 rfl rfl Try.underlying23 (.int .i64 0) 8 info3 rfl (by decide) (by omega) 0 (ok := fun _ => True) (okp := fun _ => True) rfl (fun _ hk => hk) trivial kD (Nat.le_trans (Nat.mul_le_mul_right _ (kD : a0.toNat ≤ 35184372088832)) (by omega)) (Below.refl _ _) (Nat.le_refl _) ?_; intro v297 w7 ho8 hb hg_ hnew_; clear hg_ hnew_; (first | rw [← Ny296.out] at ho8 | (simp only [Int.reduceToNat] at ho8; rw [← Ny296.out] at ho8)); have n0_ := k0 (Kd.R_lower ho8 (below_size (kW HB.out))); have n1_ := k0 (kb BK294.out hb); have n2_ := k0 (below_step (kW HB.out) hb); clear BK294; clear HB; have HO298 := n0_; have BK294 := n1_; have HB := n2_; clear n0_ n1_ n2_; clear hb ho8; obtain ⟨Ao9, co9, eo9⟩ := Kd.R_slice HO298.out; subst eo9) | ((with_reducible refine gate_dst (N := 3) rfl ?_); refine kE (N := 3) (cs := #[.slice none 0 0, .slice none 0 0]) (t := 28) ?_; intro gb299 hg w10 hbox hb; have n0_ := k0 (Kd.R_below (kR HO298.out) hb); have n1_ := k0 (kb BK294.out hb); have n2_ := k0 (below_step (kW HB.out) hb); have n3_ := k0 (hbox); have n4_ := k0 (kY HB.out hg); have n5_ := k0 (kY HB.out hg); have n6_ := k0 ((by rw [hg]; exact Nat.ne_of_lt (blk_lt (g := gb294) (o := .cells #[.slice none 0 0, .slice none 0 0] 28 (0, 0)) (kB BK294.out)) : gb294 ≠ gb299)); have n7_ := k0 ((by rw [hg]; exact Nat.ne_of_gt (blk_lt (g := gb294) (o := .cells #[.slice none 0 0, .slice none 0 0] 28 (0, 0)) (kB BK294.out)) : gb299 ≠ gb294)); clear HO298; clear BK294; clear HB; have HO298 := n0_; have BK294 := n1_; have HB := n2_; have BK299 := n3_; have GW299 := n4_; have GE299 := n5_; have NB294_299 := n6_; have NB299_294 := n7_; clear n0_ n1_ n2_ n3_ n4_ n5_ n6_ n7_; clear hb hbox hg; have hnb11 := NB299_294.out; have hnc11 := NB294_299.out; have hcz12_0 : w10.cell? ⟨gb299, 0, none⟩ = some (.slice none 0 0) := kx BK299.out; have hcz12_1 : w10.cell? ⟨gb299, 1, none⟩ = some (.slice none 0 0) := kx BK299.out; have hfz12_0 := blk_frozen BK299.out 0; have hfz12_1 := blk_frozen BK299.out 1))
    go_loopg [4] k (fun kq v4 w' => ∃ (x4_1 : Int) (x300000_1 : List (List Int)) (u300000 : Value), v4 = .int .i64 x4_1 ∧ Aside0 (spec_RightsNew.l0 kq a0 x4_1 x300000_1 y296 = some (r1, r2)) ∧ Aside0 (kq ≤ k) ∧ Aside0 (Kd.S (Kd.slice 3 (Kd.int .i64)) 23 w' w.heap.size (fun k_ => some k_ ≠ ((.slice Ao9 y296.length co9) : Value).ownBlock) u300000 x300000_1) ∧ Aside0 (Kd.R (Kd.int .i64) 3 w' w.heap.size (fun _ => True) (.slice Ao9 y296.length co9) y296) ∧ Aside0 (w'.heap[gb294]? = some (.cells #[(.slice none 0 0), (.slice none 0 0)] 28 (0, 0))) ∧ Aside0 (w'.heap[gb299]? = some (.cells #[u300000, (.slice Ao9 y296.length co9)] 28 (0, 0))) ∧ Aside0 (Below w.heap.size w w'))
    case atStart => exact ⟨(0), (([] : List (List Int))), (.slice none 0 0), (by first | rfl | (simp; done) | (simp [*]; done)), H', ⟨Nat.le_refl _⟩, ⟨by first | exact Kd.S_nil _ _ _ _ _ | exact Kd.N_nil _ _ _ _ _ | exact Kd.V_nil _ _ _ _ _ | exact Kd.Q_nil _ _ _ _ _ | exact Kd.R_nil _ _ _ _ _⟩, ⟨by (with_reducible repeat (first | apply Kd.R_alloc | apply Kd.R_drewN | apply Kd.R_drew)); exact Kd.R_mono (Kd.R_far (p := ⟨gb299, 1, none⟩) (Kd.R_far (p := ⟨gb299, 0, none⟩) (Kd.R_types HO298.out BK299.out (by decide)) (fun _ hk => hk.2) (.slice none 0 0)) (fun _ hk => hk.2) (.slice Ao9 y296.length co9)) (fun _ hk => trivial)⟩, ⟨by (with_reducible repeat first | apply k1 | apply k2 | apply k3); refine blk_far ?_ NB294_299.out _; (with_reducible repeat first | apply k1 | apply k2 | apply k3); refine blk_far ?_ NB294_299.out _; (with_reducible repeat first | apply k1 | apply k2 | apply k3); exact BK294.out⟩, ⟨by (with_reducible repeat first | apply k1 | apply k2 | apply k3); refine blk_put (cs := #[.slice none 0 0, .slice none 0 0]) ?_ 1 _ rfl; (with_reducible repeat first | apply k1 | apply k2 | apply k3); refine blk_put (cs := #[.slice none 0 0, .slice none 0 0]) ?_ 0 _ rfl; (with_reducible repeat first | apply k1 | apply k2 | apply k3); exact BK299.out⟩, ⟨by repeat (first | (with_reducible first | exact HB.out | apply below_alloc | apply pw_below_drewN | apply below_drew1 | refine below_set ?_ GE294.out | refine below_set ?_ GE299.out) | exact HB.out)⟩⟩
    case round =>
     clear H'
     try clear c1
     try clear p2
     try clear c3
     try clear c4
     try clear c4b0
     try clear c4b1
     try clear c5
     try clear c5b0
     try clear c5b1
     try clear c7
     try clear c11
     try clear hcz12_0
     try clear hcz12_1
     try clear hfz12_0
     try clear hfz12_1
     obtain ⟨x4_1, x300000_1, u300000, rfl, HA, HK1, HO_300000, HO_300001, BK294, BK299, HB⟩ := hrel
     cases gk with
     | zero => exact absurd HA.out (by simp [spec_RightsNew.l0])
     | succ k1 =>
      have H := HA.out
      clear HA
      simp only [spec_RightsNew.l0] at H
      by_cases c13 : x4_1 < a0
      ·rw [if_pos c13] at H
       have c13b0 : decide (x4_1 < a0) = true := decide_eq_true c13
       clear c13
       by_cases c14 : 0 ≤ a0
       ·rw [if_pos c14] at H
        have c14b0 := eq_true c14
        have c14b1 : decide (0 ≤ a0) = true := decide_eq_true c14
        clear c14
        by_cases c15 : (a0 : Int).toNat ≤ 35184372088832
        ·rw [if_pos c15] at H
         have c15b0 := eq_true c15
         have c15b1 : decide ((a0 : Int).toNat ≤ 35184372088832) = true := decide_eq_true c15
         clear c15
         obtain ⟨y300, hy300⟩ : ∃ y_ : List Int, y_ = (List.replicate (a0 : Int).toNat 0) := ⟨_, rfl⟩
         replace H : (if x300000_1.length < 5864062014805 then (spec_RightsNew.l0 k1 a0 (wrap64 (x4_1 + 1)) (x300000_1 ++ [y300]) y296) else (none)) = some (r1, r2) := by first | (rw [hy300]; with_reducible exact H) | (have H2_ := (Option.bind_some _ _).symm.trans H; rw [hy300]; with_reducible exact H2_) | (have H2_ := (Option.bind_some _ _).symm.trans H; with_reducible exact H2_) | with_reducible exact H | (rw [hy300]; exact H) | exact H
         have Ny300 := Aside0.mk hy300
         clear hy300
         by_cases c16 : x300000_1.length < 5864062014805
         ·rw [if_pos c16] at H
          have LMc16 := Aside0.mk c16
          clear c16
          obtain ⟨y303, hy303⟩ : ∃ y_ : List (List Int), y_ = (x300000_1 ++ [y300]) := ⟨_, rfl⟩
          replace H : (spec_RightsNew.l0 k1 a0 (wrap64 (x4_1 + 1)) y303 y296) = some (r1, r2) := by first | (rw [hy303]; with_reducible exact H) | (have H2_ := (Option.bind_some _ _).symm.trans H; rw [hy303]; with_reducible exact H2_) | (have H2_ := (Option.bind_some _ _).symm.trans H; with_reducible exact H2_) | with_reducible exact H | (rw [hy303]; exact H) | exact H
          have Ny303 := Aside0.mk hy303
          clear hy303
          have H' := Aside0.mk H
          clear H
          try go_wp2
          have n0_ := k0 (Kd.S_drew HO_300000.out)
          have n1_ := k0 (Kd.R_drew HO_300001.out)
          have n2_ := k0 (blk_drew BK294.out)
          have n3_ := k0 (blk_drew BK299.out)
          have n4_ := k0 (below_drew1 HB.out)
          clear HO_300000 HO_300001 BK294 BK299 HB
          have HO_300000 := n0_
          have HO_300001 := n1_
          have BK294 := n2_
          have BK299 := n3_
          have HB := n4_
          clear n0_ n1_ n2_ n3_ n4_
          refine start_ (n := 8) (S := fun w' => w'.cell? ⟨gb299, 0, none⟩ = some (u300000) ∧ w'.cell? ⟨gb299, 1, none⟩ = some (.slice Ao9 y296.length co9)) (ds := [7]) #[false, false, false, false, false, false, false, false] (by kernel_rfl) rfl rfl ⟨(blk_cell BK299.out 0).trans rfl, (blk_cell BK299.out 1).trans rfl⟩ (fun hHeld => ?_); refine with_tabW spec_RightsNew.tab7 spec_RightsNew.bits7 (fun HT_ HW_ => ?_)
          generalize wr.drew = w17 at HO_300000 HO_300001 BK294 BK299 HB hHeld ⊢
          refine kP 0 17 8 1 HT_.out ?_
          refine kP 2 19 8 5 HT_.out ?_
          refine take_ (i := 1) (N := some 18) (v := ?_) (a' := ?_) (bt 8 7) rfl rfl (take_ofW HT_.out HW_.out (by kernel_rfl)) (fun _ _ _ h => h) (Or.inl ⟨by rfl, ?_⟩) hHeld ?_ ?_
          rotate_left
          ·rintro w' ⟨s0, s1⟩
           go_simp
           with_reducible rfl
          rotate_left
          ·simp only [Act.put, List.setIfInBounds_toArray, List.set_cons_zero, List.set_cons_succ, i64_w, i32_w]
           rfl
          refine one_ (i := 3) (N := some 20) (bt 8 15) rfl rfl (one_of HT_.out (by kernel_rfl)) (by decide) (fun K hK => ?_)
          refine Kd.R_make_step (Kd.int .i64) _ 3 (by rfl) (N := 20) rfl 23 _ _ rfl a0 rfl rfl Try.underlying23 (.int .i64 0) 8 info3 rfl (by decide) (by omega) 0 (ok := fun _ => True) (okp := fun _ => True) rfl (fun _ hk => hk) trivial kD (Nat.le_trans (Nat.mul_le_mul_right _ (kD : a0.toNat ≤ 35184372088832)) (by omega)) (Below.refl _ _) (Nat.le_refl _) ?_
          intro v301 w18 ho19 hb hg_ hnew_
          clear hg_ hnew_
          (first | rw [← Ny300.out] at ho19 | (simp only [Int.reduceToNat] at ho19; rw [← Ny300.out] at ho19))
          have n0_ := k0 (Kd.S_elder' (kS HO_300000.out) (Kd.R_base ho19) hb)
          have n1_ := k0 (Kd.R_elder' (kR HO_300001.out) (Kd.R_base ho19) hb)
          have n2_ := k0 (Kd.R_lower (Kd.R_new' ho19 (Kd.R_lt (kR HO_300001.out))) (below_size (kW HB.out)))
          have n3_ := k0 (kb BK294.out hb)
          have n4_ := k0 (kb BK299.out hb)
          have n5_ := k0 (below_step (kW HB.out) hb)
          clear HO_300000 HO_300001 BK294 BK299 HB
          have HO_300000 := n0_
          have HO_300001 := n1_
          have HO302 := n2_
          have BK294 := n3_
          have BK299 := n4_
          have HB := n5_
          clear n0_ n1_ n2_ n3_ n4_ n5_
          clear hb ho19
          obtain ⟨Ao21, co21, eo21⟩ := Kd.R_slice HO302.out
          (first | subst eo21 | (injection eo21 with f1_ f2_ f3_; have f4_ := f1_.symm; have f5_ := f3_.symm; clear f1_ f2_ f3_; subst f4_; subst f5_))
          refine hK.out _ _ ⟨(blk_cell BK299.out 0).trans rfl, (blk_cell BK299.out 1).trans rfl⟩ (fun hHeld => ?_)
          clear hK K
          refine norm_ (a' := ?_) ?_ ?_
          rotate_left
          ·show Act.put _ (some 20) _ = _
           simp only [Act.put, List.setIfInBounds_toArray, List.set_cons_zero, List.set_cons_succ, i64_w, i32_w]
           rfl
          refine one_ (i := 4) (N := some 21) (bt 8 31) rfl rfl (one_of HT_.out (by kernel_rfl)) (by decide) (fun K hK => ?_)
          refine value_ (w1 := ?_) (v := ?_) (by rfl) rfl ?_ ?_
          rotate_left 2
          ·go_simp
           constructor
           ·rfl
           ·rfl
          refine hK.out _ _ ⟨(blk_cell (blk_alloc BK299.out _) 0).trans rfl, (blk_cell (blk_alloc BK299.out _) 1).trans rfl⟩ (fun hHeld => ?_)
          clear hK K
          refine norm_ (a' := ?_) ?_ ?_
          rotate_left
          ·show Act.put _ (some 21) _ = _
           simp only [Act.put, List.setIfInBounds_toArray, List.set_cons_zero, List.set_cons_succ, i64_w, i32_w]
           rfl
          refine one_ (i := 5) (N := some 22) (bt 8 63) rfl rfl (one_of HT_.out (by kernel_rfl)) (by decide) (fun K hK => ?_)
          refine Kd.S_append_step (Kd.slice 3 (Kd.int .i64)) (w0 := w) w.heap.size (by rfl) (.tmp 18) (.tmp 21) 22 23 (.slice none 0 0) 24 rfl Try.underlying22 info23 rfl (by decide) (by omega) u300000 x300000_1 y300 [.slice Ao21 y300.length co21] (fun k_ => some k_ ≠ (.slice Ao9 y296.length co9 : Value).ownBlock) (fun k_ => some k_ = (.slice Ao21 y300.length co21 : Value).ownBlock) rfl rfl ?aP (fun k_ hk_ => ((Kd.R_mono (ok' := fun k_ => ((fun k_ => some k_ ≠ (.slice Ao9 y296.length co9 : Value).ownBlock)) k_ ∧ some k_ ≠ (u300000 : Value).ownBlock) (Kd.R_apart' (HO302.out) (Kd.S_typed HO_300000.out) (by decide)) (fun k_ hk => ⟨hk.1.2, hk.2⟩))).1 k_ hk_.symm) ?aF ?aO ?aB ?aS ?aL ?_
          (case aP => exact Kd.M_row (Kd.R_mono (Kd.R_tight rfl (Kd.R_mono (ok' := fun k_ => ((fun k_ => some k_ ≠ (.slice Ao9 y296.length co9 : Value).ownBlock)) k_ ∧ some k_ ≠ (u300000 : Value).ownBlock) (Kd.R_apart' (HO302.out) (Kd.S_typed HO_300000.out) (by decide)) (fun k_ hk => ⟨hk.1.2, hk.2⟩))) (fun _ h_ => h_)))
          (case aB => exact (kW HB.out))
          (case aF => exact (fun k_ hk => Kd.fresh' (Kd.R_lt (kR HO_300001.out)) k_ hk))
          (case aO => exact (by (with_reducible repeat (first | apply Kd.S_alloc | apply Kd.S_drewN | apply Kd.S_drew)); exact Kd.S_mono HO_300000.out (fun k_ hk => ⟨hk.1, fun e_ => hk.2 e_⟩)))
          (case aS => exact (below_size (kW HB.out)))
          (case aL => have := LMc16.out; omega)
          intro v304 w20 ho hb hg hat
          rw [← Ny303.out] at ho
          have n0_ := k0 (Kd.R_over' (kR HO_300001.out) (Kd.S_typed (kS HO_300000.out)) (by decide) hg)
          have n1_ := k0 (blk_grown (g := gb294) (o := .cells #[.slice none 0 0, .slice none 0 0] 28 (0, 0)) (kB BK294.out) hg (Kd.S_ne HO_300000.out BK294.out (by decide)))
          have n2_ := k0 (blk_grown (g := gb299) (o := .cells #[u300000, .slice Ao9 y296.length co9] 28 (0, 0)) (kB BK299.out) hg (Kd.S_ne HO_300000.out BK299.out (by decide)))
          have n3_ := k0 (hb)
          have n4_ := k0 (ho)
          clear HO_300001 BK294 BK299 HB HO_300000 HO302
          have HO_300001 := n0_
          have BK294 := n1_
          have BK299 := n2_
          have HB := n3_
          have HO305 := n4_
          clear n0_ n1_ n2_ n3_ n4_
          clear ho hb hg hat
          obtain ⟨Ao22, co22, eo22⟩ := Kd.S_slice HO305.out
          (first | subst eo22 | (injection eo22 with f1_ f2_ f3_; have f4_ := f1_.symm; have f5_ := f3_.symm; clear f1_ f2_ f3_; subst f4_; subst f5_))
          refine hK.out _ _ ⟨(blk_cell BK299.out 0).trans rfl, (blk_cell BK299.out 1).trans rfl⟩ (fun hHeld => ?_)
          clear hK K
          refine norm_ (a' := ?_) ?_ ?_
          rotate_left
          ·show Act.put _ (some 22) _ = _
           simp only [Act.put, List.setIfInBounds_toArray, List.set_cons_zero, List.set_cons_succ, i64_w, i32_w]
           rfl
          refine kP 6 23 8 127 HT_.out ?_
          refine last_ (i := 7) (N := none) (bt 8 255) rfl rfl (one_of HT_.out (by kernel_rfl)) (by decide) (fun K hK => ?_)
          have hs23 : w20.cell? ⟨gb299, 0, none⟩ = some (u300000) := (blk_cell BK299.out 0).trans rfl
          have hfs23 := blk_frozen BK299.out 0
          have hns23_0 := NB294_299.out
          have hms23_0 := NB299_294.out
          refine skip_ (w1 := ?_) (by rfl) rfl ?_ ?_
          rotate_left
          ·go_simp
           rfl
          refine hK.out _ _ ?_
          clear hK K
          refine done_ (done_of HT_.out (by kernel_rfl)) ?_
          try go_wp2
          go_roundg k1
          case measure => have := HK1.out; omega
          case rel => exact ⟨(wrap64 (x4_1 + 1)), (y303), (.slice Ao22 y303.length co22), (by first | rfl | (simp; done) | (simp [*]; done)), H', ⟨by have := HK1.out; omega⟩, ⟨by (with_reducible repeat (first | apply Kd.S_alloc | apply Kd.S_drewN | apply Kd.S_drew)); exact Kd.S_mono (Kd.S_far (p := ⟨gb299, 0, none⟩) (Kd.S_types HO305.out BK299.out (by decide)) (fun _ hk => hk.2) (.slice Ao22 y303.length co22)) (fun _ hk => hk.1)⟩, ⟨by (with_reducible repeat (first | apply Kd.R_alloc | apply Kd.R_drewN | apply Kd.R_drew)); exact Kd.R_mono (Kd.R_far (p := ⟨gb299, 0, none⟩) (Kd.R_types HO_300001.out BK299.out (by decide)) (fun _ hk => hk.2) (.slice Ao22 y303.length co22)) (fun _ hk => trivial)⟩, ⟨by (with_reducible repeat first | apply k1 | apply k2 | apply k3); refine blk_far ?_ NB294_299.out _; (with_reducible repeat first | apply k1 | apply k2 | apply k3); exact BK294.out⟩, ⟨by (with_reducible repeat first | apply k1 | apply k2 | apply k3); refine blk_put (cs := #[u300000, .slice Ao9 y296.length co9]) ?_ 0 _ rfl; (with_reducible repeat first | apply k1 | apply k2 | apply k3); exact BK299.out⟩, ⟨by repeat (first | (with_reducible first | exact HB.out | apply below_alloc | apply pw_below_drewN | apply below_drew1 | refine below_set ?_ GE294.out | refine below_set ?_ GE299.out) | exact HB.out)⟩⟩
         ·rw [if_neg c16] at H
          exact absurd H (by simp)
        ·rw [if_neg c15] at H
         exact absurd H (by simp)
       ·rw [if_neg c14] at H
        exact absurd H (by simp)
      ·rw [if_neg c13] at H
       have c13b0 : decide (x4_1 < a0) = false := decide_eq_false c13
       clear c13
       simp only [Option.some.injEq, Prod.mk.injEq] at H
       obtain ⟨rfl, rfl⟩ := H
       have hnb24 := NB299_294.out
       have hnc24 := NB294_299.out
       have hcz25_0 : wr.cell? ⟨gb299, 0, none⟩ = some (u300000) := kx BK299.out
       have hcz25_1 : wr.cell? ⟨gb299, 1, none⟩ = some (.slice Ao9 y296.length co9) := kx BK299.out
       have hfz25_0 := blk_frozen BK299.out 0
       have hfz25_1 := blk_frozen BK299.out 1
       obtain ⟨Ao26, co26, eo26⟩ := Kd.S_slice HO_300000.out
       subst eo26
       have hcz27_0 : wr.cell? ⟨gb294, 0, none⟩ = some (.slice none 0 0) := kx BK294.out
       have hcz27_1 : wr.cell? ⟨gb294, 1, none⟩ = some (.slice none 0 0) := kx BK294.out
       have hfz27_0 := blk_frozen BK294.out 0
       have hfz27_1 := blk_frozen BK294.out 1
       go_wp2
       refine bodyPost_ret (results_cell_row rfl _ _ gb294 28 #[.slice Ao26 x300000_1.length co26, .slice Ao9 y296.length co9] (0, 0) _ rfl (by (with_reducible repeat first | apply k1 | apply k2 | apply k3); refine blk_put (cs := #[.slice Ao26 x300000_1.length co26, .slice none 0 0]) ?_ 1 _ rfl; (with_reducible repeat first | apply k1 | apply k2 | apply k3); refine blk_put (cs := #[.slice none 0 0, .slice none 0 0]) ?_ 0 _ rfl; (with_reducible repeat first | apply k1 | apply k2 | apply k3); exact BK294.out) Try.underlying28 rfl (by kernel_rfl)) rfl ?_
       exact ⟨_, _, by first | rfl | (simp [errW_none, errW_some] <;> rfl) | (simp [*, errW_none, errW_some] <;> rfl), by (with_reducible repeat (first | apply Kd.S_alloc | apply Kd.S_drewN | apply Kd.S_drew)); exact Kd.S_mono (Kd.S_far (p := ⟨gb294, 1, none⟩) (Kd.S_far (p := ⟨gb294, 0, none⟩) (Kd.S_types HO_300000.out BK294.out (by decide)) (fun _ hk => hk.2) (.slice Ao26 x300000_1.length co26)) (fun _ hk => hk.2) (.slice Ao9 y296.length co9)) (fun _ hk => hk.1), by (with_reducible repeat (first | apply Kd.R_alloc | apply Kd.R_drewN | apply Kd.R_drew)); exact Kd.R_mono (Kd.R_far (p := ⟨gb294, 1, none⟩) (Kd.R_far (p := ⟨gb294, 0, none⟩) (Kd.R_types HO_300001.out BK294.out (by decide)) (fun _ hk => hk.2) (.slice Ao26 x300000_1.length co26)) (fun _ hk => hk.2) (.slice Ao9 y296.length co9)) (fun _ hk => trivial), by repeat (first | (with_reducible first | exact HB.out | apply below_alloc | apply pw_below_drewN | apply below_drew1 | refine below_set ?_ GE294.out | refine below_set ?_ GE299.out) | exact HB.out)⟩
   ·rw [if_neg c5] at H
    exact absurd H (by simp)
  ·rw [if_neg c4] at H
   exact absurd H (by simp)
 ·replace c3 := Bool.eq_false_iff.mpr c3
  subst c3
  have H1 : (some (([] : List (List Int)), ([] : List Int))) = some (r1, r2) := by rw [if_neg (show ¬ (false = true) by decide)] at H; exact H
  clear H
  have H := H1
  clear H1
  simp only [Option.some.injEq, Prod.mk.injEq] at H
  obtain ⟨rfl, rfl⟩ := H
  go_enter Try.func71, Try.ntmps71
  go_wp2_with (first | ((with_reducible refine gate_dst (N := 2) rfl ?_); refine kE (N := 2) (cs := #[.slice none 0 0, .slice none 0 0]) (t := 28) ?_; intro gb294 hg w28 hbox hb; have n0_ := k0 (below_step (kW HB.out) hb); have n1_ := k0 (hbox); have n2_ := k0 (kY HB.out hg); have n3_ := k0 (kY HB.out hg); clear HB; have HB := n0_; have BK294 := n1_; have GW294 := n2_; have GE294 := n3_; clear n0_ n1_ n2_ n3_; clear hb hbox hg) | ((with_reducible refine gate_callee (f := 49) rfl ?_); refine kG (some 6) Try.func49 #[.int .i64 a0, .int .i64 1, .int .i64 4] ?_; (with_reducible refine (spec_l01In.calls a0 1 4 false _ A2.out).mono ?_); rintro e w' ⟨rfl, ⟨nd, rfl⟩⟩; refine ⟨_, rfl, ?_⟩; (try (rw [drewN_self w28]; generalize hq_ : World.drewN w28 _ = w28; have n0_ : Aside0 (w28.heap[gb294]? = some (.cells #[.slice none 0 0, .slice none 0 0] 28 (0, 0))) := ⟨by rw [← hq_]; exact (kB BK294.out)⟩; have n1_ : Aside0 (Below w.heap.size w w28) := ⟨by rw [← hq_]; exact (kW HB.out)⟩; clear BK294 HB hq_; have BK294 := n0_; have HB := n1_; clear n0_ n1_)); have hcz29_0 : w28.cell? ⟨gb294, 0, none⟩ = some (.slice none 0 0) := kx BK294.out; have hcz29_1 : w28.cell? ⟨gb294, 1, none⟩ = some (.slice none 0 0) := kx BK294.out; have hfz29_0 := blk_frozen BK294.out 0; have hfz29_1 := blk_frozen BK294.out 1))
  refine bodyPost_ret (results_cell_row rfl _ _ gb294 28 #[.slice none 0 0, .slice none 0 0] (0, 0) _ rfl (by (with_reducible repeat first | apply k1 | apply k2 | apply k3); refine blk_put (cs := #[.slice none 0 0, .slice none 0 0]) ?_ 1 _ rfl; (with_reducible repeat first | apply k1 | apply k2 | apply k3); refine blk_put (cs := #[.slice none 0 0, .slice none 0 0]) ?_ 0 _ rfl; (with_reducible repeat first | apply k1 | apply k2 | apply k3); exact BK294.out) Try.underlying28 rfl (by kernel_rfl)) rfl ?_
  exact ⟨_, _, by first | rfl | (simp [errW_none, errW_some] <;> rfl) | (simp [*, errW_none, errW_some] <;> rfl), by first | exact Kd.S_nil _ _ _ _ _ | exact Kd.N_nil _ _ _ _ _ | exact Kd.V_nil _ _ _ _ _ | exact Kd.Q_nil _ _ _ _ _ | exact Kd.R_nil _ _ _ _ _, by first | exact Kd.R_nil _ _ _ _ _ | exact Kd.N_nil _ _ _ _ _ | exact Kd.V_nil _ _ _ _ _ | exact Kd.Q_nil _ _ _ _ _ | exact Kd.S_nil _ _ _ _ _, by repeat (first | (with_reducible first | exact HB.out | apply below_alloc | apply pw_below_drewN | apply below_drew1 | refine below_set ?_ GE294.out) | exact HB.out)⟩

end Go.Proofs.Ytcnanifokpcjaaa.PFnRights
