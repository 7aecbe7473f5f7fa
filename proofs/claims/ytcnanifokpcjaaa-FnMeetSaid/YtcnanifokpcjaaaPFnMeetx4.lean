import Derived.Test.YtcnanifokpcjaaaPFnMeetx0
import Derived.Test.YtcnanifokpcjaaaPFnMeetx3
namespace Go.Proofs.Ytcnanifokpcjaaa.PFnMeet
open Go.RowKit Go.Proofs.YtcnanifokpcjaaaW.PrintWords Go.Proofs.YtcnanifokpcjaaaW.PrintLast Go.Proofs.YtcnanifokpcjaaaW.PrintMore
attribute [local go_sem] max2_int min2_int max_two min_two max_three min_three max_four min_four   -- for this text's walks alone
set_option linter.unusedVariables false
set_option linter.unusedSimpArgs false

/-! ### impl_copyRights: function 53 -/
def impl_copyRights.l0 : Nat → List (List Int) → Int → Int → List (List Int) → List Int → Option ((List (List Int)) × List Int)
 | 0, _, _, _, _, _ => none
 | k + 1, x11, x12, x13, x139000, x139001 => if x13 < x12 then (if 0 ≤ x13 then (if x13 < (x11.length : Int) then ((impl_copyInts.f (rd_L1 x11 x13)).bind fun t140 => (if x139000.length < 5864062014805 then (impl_copyRights.l0 k x11 x12 (wrap64 (x13 + 1)) (x139000 ++ [t140]) x139001) else (none))) else (none)) else (none)) else (some (x139000, x139001))
def impl_copyRights.f (k : Nat) (l0_0 : List (List Int)) (l0_1 : List Int) : Option ((List (List Int)) × List Int) := (impl_copyInts.f l0_1).bind fun t135 => (impl_copyRights.l0 k l0_0 (l0_0.length : Int) 0 ([] : List (List Int)) t135)
theorem impl_copyRights.mono_l : ∀ k, (∀ y0 y1 y2 y3 y4, LeO (impl_copyRights.l0 k y0 y1 y2 y3 y4) (impl_copyRights.l0 (k + 1) y0 y1 y2 y3 y4))
 | 0 => fun _ _ _ _ _ r h => by simp [impl_copyRights.l0] at h
 | k + 1 => by
  have ih0 := impl_copyRights.mono_l k
  ·intro y0 y1 y2 y3 y4
   unfold impl_copyRights.l0
   repeat' first
   | (with_reducible exact ih0 _ _ _ _ _)
   | (with_reducible exact LeO.refl _)
   | (with_reducible exact LeO.none _)
   | (with_reducible refine LeO.ite ?_ ?_)
   | (with_reducible refine LeO.bind ?_ (fun _ => ?_))
   | exact ih0 _ _ _ _ _
   | exact LeO.none _
   | refine LeO.ite ?_ ?_
   | refine LeO.bind ?_ (fun _ => ?_)
theorem impl_copyRights.mono : ∀ a0 a1 k, LeO (impl_copyRights.f k a0 a1) (impl_copyRights.f (k + 1) a0 a1) := by
 intro a0 a1 k
 have ih0 := impl_copyRights.mono_l k
 unfold impl_copyRights.f
 repeat' first
   | (with_reducible exact ih0 _ _ _ _ _)
   | (with_reducible exact LeO.refl _)
   | (with_reducible exact LeO.none _)
   | (with_reducible refine LeO.ite ?_ ?_)
   | (with_reducible refine LeO.bind ?_ (fun _ => ?_))
   | exact ih0 _ _ _ _ _
   | exact LeO.none _
   | refine LeO.ite ?_ ?_
   | refine LeO.bind ?_ (fun _ => ?_)
def impl_copyRights.T5 : Bool × List (List Nat × List Nat) := (true, [([], []), ([0], [0]), ([], []), ([2], [2]), ([3], [3]), ([1, 4, 3], [1, 4]), ([0, 1, 2, 3, 4, 5], []), ([6, 5, 5, 0, 1, 2, 3, 4, 5], [5, 6])])
def impl_copyRights.B5 : List Nat := [0, 1, 0, 4, 12, 31, 63, 127]
theorem impl_copyRights.tab5 : rtab .any (opsOf Try.f53 5) = impl_copyRights.T5 := by kernel_rfl
theorem impl_copyRights.bits5 : waitsOk impl_copyRights.T5.2 impl_copyRights.B5 = true := by kernel_rfl
set_option maxHeartbeats 8000000 in
set_option maxRecDepth 100000 in
theorem impl_copyRights.calls (k : Nat) (A0_0 : Option Addr) (c0_0 : Nat) (l0_0 : List (List Int)) (A0_1 : Option Addr) (c0_1 : Nat) (l0_1 : List Int) (r1 : List (List Int)) (r2 : List Int) (w : World) (hr0_0 : Kd.C (Kd.slice 3 (Kd.int .i64)) w A0_0 l0_0.length l0_0) (hc0_0 : l0_0.length ≤ c0_0) (hr0_1 : Kd.C (Kd.int .i64) w A0_1 l0_1.length l0_1) (hc0_1 : l0_1.length ≤ c0_1) (h : impl_copyRights.f k l0_0 l0_1 = some (r1, r2)) :
  Calls Try.prog 53 #[.agg #[.slice A0_0 l0_0.length c0_0, .slice A0_1 l0_1.length c0_1]] w fun e w' => ∃ v0_ v1_ : Value, e = .returned (.agg #[v0_, v1_]) ∧ Kd.S (Kd.slice 3 (Kd.int .i64)) 23 w' w.heap.size (fun k_ => some k_ ≠ (v1_ : Value).ownBlock) v0_ r1 ∧ Kd.R (Kd.int .i64) 3 w' w.heap.size (fun _ => True) v1_ r2 ∧ Below w.heap.size w w' := by
 have hu28 := Try.underlying28
 have HR0_0 := Aside0.mk hr0_0
 have HC0_0 := Aside0.mk hc0_0
 clear hr0_0 hc0_0
 have HR0_1 := Aside0.mk hr0_1
 have HC0_1 := Aside0.mk hc0_1
 clear hr0_1 hc0_1
 have HB := k0 (Below.refl w.heap.size w)
 have H : ((impl_copyInts.f l0_1).bind fun t135 => (impl_copyRights.l0 k l0_0 (l0_0.length : Int) 0 ([] : List (List Int)) t135)) = some (r1, r2) := h
 clear h
 replace H := Option.bind_eq_some_iff.mp H
 obtain ⟨t135, A20, H⟩ := H
 replace H : (impl_copyRights.l0 k l0_0 (l0_0.length : Int) 0 ([] : List (List Int)) t135) = some (r1, r2) := H
 have A2 := Aside0.mk A20
 clear A20
 have H' := Aside0.mk H
 clear H
 go_enter Try.func53, Try.ntmps53
 go_wp2_with (first | ((with_reducible refine gate_dst (N := 1) rfl ?_); refine kE (N := 1) (cs := #[.slice A0_0 l0_0.length c0_0, .slice A0_1 l0_1.length c0_1]) (t := 28) ?_; intro gb133 hg w3 hbox hb; have n0_ := k0 (below_step (kW HB.out) hb); have n1_ := k0 (hbox); have n2_ := k0 (kY HB.out hg); have n3_ := k0 (kY HB.out hg); clear HB; have HB := n0_; have BK133 := n1_; have GW133 := n2_; have GE133 := n3_; clear n0_ n1_ n2_ n3_; clear hb hbox hg) | ((with_reducible refine gate_dst (N := 2) rfl ?_); refine kE (N := 2) (cs := #[.slice none 0 0, .slice none 0 0]) (t := 28) ?_; intro gb134 hg w4 hbox hb; have n0_ := k0 (kb BK133.out hb); have n1_ := k0 (below_step (kW HB.out) hb); have n2_ := k0 (hbox); have n3_ := k0 (kY HB.out hg); have n4_ := k0 (kY HB.out hg); have n5_ := k0 ((by rw [hg]; exact Nat.ne_of_lt (blk_lt (g := gb133) (o := .cells #[.slice A0_0 l0_0.length c0_0, .slice A0_1 l0_1.length c0_1] 28 (0, 0)) (kB BK133.out)) : gb133 ≠ gb134)); have n6_ := k0 ((by rw [hg]; exact Nat.ne_of_gt (blk_lt (g := gb133) (o := .cells #[.slice A0_0 l0_0.length c0_0, .slice A0_1 l0_1.length c0_1] 28 (0, 0)) (kB BK133.out)) : gb134 ≠ gb133)); clear BK133; clear HB; have BK133 := n0_; have HB := n1_; have BK134 := n2_; have GW134 := n3_; have GE134 := n4_; have NB133_134 := n5_; have NB134_133 := n6_; clear n0_ n1_ n2_ n3_ n4_ n5_ n6_; clear hb hbox hg; have hnb5 := NB133_134.out; have hnc5 := NB134_133.out; have hcz6_0 : w4.cell? ⟨gb133, 0, none⟩ = some (.slice A0_0 l0_0.length c0_0) := kx BK133.out; have hcz6_1 : w4.cell? ⟨gb133, 1, none⟩ = some (.slice A0_1 l0_1.length c0_1) := kx BK133.out; have hfz6_0 := blk_frozen BK133.out 0; have hfz6_1 := blk_frozen BK133.out 1) | ((with_reducible refine gate_callee (f := 67) rfl ?_); refine kG (some 8) Try.func67 #[.slice A0_1 l0_1.length c0_1] ?_; (with_reducible refine (impl_copyInts.calls _ _ l0_1 t135 _ ?side1 ?side2 A2.out).mono ?_); (case side1 => exact kC (Kd.C_below HR0_1.out HB.out)); (case side2 => exact HC0_1.out); rintro e w7 ⟨v136, rfl, ho0, hb⟩; refine ⟨_, rfl, ?_⟩; have n0_ := k0 (Kd.R_lower ho0 (below_size (kW HB.out))); have n1_ := k0 (kb BK133.out hb); have n2_ := k0 (kb BK134.out hb); have n3_ := k0 (below_step (kW HB.out) hb); clear BK133; clear BK134; clear HB; have HO137 := n0_; have BK133 := n1_; have BK134 := n2_; have HB := n3_; clear n0_ n1_ n2_ n3_; (try clear hb); (try clear hb2); (try clear hk); (try clear hi); (try clear ho0); obtain ⟨Ao8, co8, eo8⟩ := Kd.R_slice HO137.out; subst eo8) | ((with_reducible refine gate_dst (N := 3) rfl ?_); refine kE (N := 3) (cs := #[.slice none 0 0, .slice none 0 0]) (t := 28) ?_; intro gb138 hg w9 hbox hb; have n0_ := k0 (Kd.R_below (kR HO137.out) hb); have n1_ := k0 (kb BK133.out hb); have n2_ := k0 (kb BK134.out hb); have n3_ := k0 (below_step (kW HB.out) hb); have n4_ := k0 (hbox); have n5_ := k0 (kY HB.out hg); have n6_ := k0 (kY HB.out hg); have n7_ := k0 ((by rw [hg]; exact Nat.ne_of_lt (blk_lt (g := gb133) (o := .cells #[.slice A0_0 l0_0.length c0_0, .slice A0_1 l0_1.length c0_1] 28 (0, 0)) (kB BK133.out)) : gb133 ≠ gb138)); have n8_ := k0 ((by rw [hg]; exact Nat.ne_of_gt (blk_lt (g := gb133) (o := .cells #[.slice A0_0 l0_0.length c0_0, .slice A0_1 l0_1.length c0_1] 28 (0, 0)) (kB BK133.out)) : gb138 ≠ gb133)); have n9_ := k0 ((by rw [hg]; exact Nat.ne_of_lt (blk_lt (g := gb134) (o := .cells #[.slice none 0 0, .slice none 0 0] 28 (0, 0)) (kB BK134.out)) : gb134 ≠ gb138)); have n10_ := k0 ((by rw [hg]; exact Nat.ne_of_gt (blk_lt (g := gb134) (o := .cells #[.slice none 0 0, .slice none 0 0] 28 (0, 0)) (kB BK134.out)) : gb138 ≠ gb134)); clear HO137; clear BK133; clear BK134; clear HB; have HO137 := n0_; have BK133 := n1_; have BK134 := n2_; have HB := n3_; have BK138 := n4_; have GW138 := n5_; have GE138 := n6_; have NB133_138 := n7_; have NB138_133 := n8_; have NB134_138 := n9_; have NB138_134 := n10_; clear n0_ n1_ n2_ n3_ n4_ n5_ n6_ n7_ n8_ n9_ n10_; clear hb hbox hg; have hnb10 := NB138_133.out; have hnc10 := NB133_138.out; have hnb11 := NB138_134.out; have hnc11 := NB134_138.out; have hcz12_0 : w9.cell? ⟨gb138, 0, none⟩ = some (.slice none 0 0) := kx BK138.out; have hcz12_1 : w9.cell? ⟨gb138, 1, none⟩ = some (.slice none 0 0) := kx BK138.out; have hfz12_0 := blk_frozen BK138.out 0; have hfz12_1 := blk_frozen BK138.out 1; have hcz13_0 : w9.cell? ⟨gb133, 0, none⟩ = some (.slice A0_0 l0_0.length c0_0) := kx BK133.out; have hcz13_1 : w9.cell? ⟨gb133, 1, none⟩ = some (.slice A0_1 l0_1.length c0_1) := kx BK133.out; have hfz13_0 := blk_frozen BK133.out 0; have hfz13_1 := blk_frozen BK133.out 1))
 go_loopg [13] k (fun kq v13 w' => ∃ (x13_1 : Int) (x139000_1 : List (List Int)) (u139000 : Value), v13 = .int .i64 x13_1 ∧ Aside0 (impl_copyRights.l0 kq l0_0 (l0_0.length : Int) x13_1 x139000_1 t135 = some (r1, r2)) ∧ Aside0 (kq ≤ k) ∧ Aside0 (Kd.S (Kd.slice 3 (Kd.int .i64)) 23 w' w.heap.size (fun k_ => some k_ ≠ ((.slice Ao8 t135.length co8) : Value).ownBlock) u139000 x139000_1) ∧ Aside0 (Kd.R (Kd.int .i64) 3 w' w.heap.size (fun _ => True) (.slice Ao8 t135.length co8) t135) ∧ Aside0 (w'.heap[gb133]? = some (.cells #[(.slice A0_0 l0_0.length c0_0), (.slice A0_1 l0_1.length c0_1)] 28 (0, 0))) ∧ Aside0 (w'.heap[gb134]? = some (.cells #[(.slice none 0 0), (.slice none 0 0)] 28 (0, 0))) ∧ Aside0 (w'.heap[gb138]? = some (.cells #[u139000, (.slice Ao8 t135.length co8)] 28 (0, 0))) ∧ Aside0 (Below w.heap.size w w'))
 case atStart => exact ⟨(0), (([] : List (List Int))), (.slice none 0 0), (by first | rfl | (simp; done) | (simp [*]; done)), H', ⟨Nat.le_refl _⟩, ⟨by first | exact Kd.S_nil _ _ _ _ _ | exact Kd.N_nil _ _ _ _ _ | exact Kd.V_nil _ _ _ _ _ | exact Kd.Q_nil _ _ _ _ _ | exact Kd.R_nil _ _ _ _ _⟩, ⟨by (with_reducible repeat (first | apply Kd.R_alloc | apply Kd.R_drewN | apply Kd.R_drew)); exact Kd.R_mono (Kd.R_far (p := ⟨gb138, 1, none⟩) (Kd.R_far (p := ⟨gb138, 0, none⟩) (Kd.R_types HO137.out BK138.out (by decide)) (fun _ hk => hk.2) (.slice none 0 0)) (fun _ hk => hk.2) (.slice Ao8 t135.length co8)) (fun _ hk => trivial)⟩, ⟨by (with_reducible repeat first | apply k1 | apply k2 | apply k3); refine blk_far ?_ NB133_138.out _; (with_reducible repeat first | apply k1 | apply k2 | apply k3); refine blk_far ?_ NB133_138.out _; (with_reducible repeat first | apply k1 | apply k2 | apply k3); exact BK133.out⟩, ⟨by (with_reducible repeat first | apply k1 | apply k2 | apply k3); refine blk_far ?_ NB134_138.out _; (with_reducible repeat first | apply k1 | apply k2 | apply k3); refine blk_far ?_ NB134_138.out _; (with_reducible repeat first | apply k1 | apply k2 | apply k3); exact BK134.out⟩, ⟨by (with_reducible repeat first | apply k1 | apply k2 | apply k3); refine blk_put (cs := #[.slice none 0 0, .slice none 0 0]) ?_ 1 _ rfl; (with_reducible repeat first | apply k1 | apply k2 | apply k3); refine blk_put (cs := #[.slice none 0 0, .slice none 0 0]) ?_ 0 _ rfl; (with_reducible repeat first | apply k1 | apply k2 | apply k3); exact BK138.out⟩, ⟨by repeat (first | (with_reducible first | exact HB.out | apply below_alloc | apply pw_below_drewN | apply below_drew1 | refine below_set ?_ GE133.out | refine below_set ?_ GE134.out | refine below_set ?_ GE138.out) | exact HB.out)⟩⟩
 case round =>
  clear H'
  try clear c1
  try clear p2
  try clear c5
  try clear c6
  try clear c10
  try clear c11
  try clear hcz12_0
  try clear hcz12_1
  try clear hcz13_0
  try clear hcz13_1
  try clear hcz6_0
  try clear hcz6_1
  try clear hfz12_0
  try clear hfz12_1
  try clear hfz13_0
  try clear hfz13_1
  try clear hfz6_0
  try clear hfz6_1
  obtain ⟨x13_1, x139000_1, u139000, rfl, HA, HK1, HO_139000, HO_139001, BK133, BK134, BK138, HB⟩ := hrel
  cases gk with
  | zero => exact absurd HA.out (by simp [impl_copyRights.l0])
  | succ k1 =>
   have H := HA.out
   clear HA
   simp only [impl_copyRights.l0] at H
   by_cases c14 : x13_1 < (l0_0.length : Int)
   ·rw [if_pos c14] at H
    have c14b0 : decide (x13_1 < (l0_0.length : Int)) = true := decide_eq_true c14
    clear c14
    by_cases c15 : 0 ≤ x13_1
    ·rw [if_pos c15] at H
     have c15b0 : decide (0 ≤ x13_1) = true := decide_eq_true c15
     clear c15
     by_cases c16 : x13_1 < (l0_0.length : Int)
     ·rw [if_pos c16] at H
      have c16b0 : decide (x13_1 < (l0_0.length : Int)) = true := decide_eq_true c16
      clear c16
      replace H := Option.bind_eq_some_iff.mp H
      obtain ⟨t140, A170, H⟩ := H
      replace H : (if x139000_1.length < 5864062014805 then (impl_copyRights.l0 k1 l0_0 (l0_0.length : Int) (wrap64 (x13_1 + 1)) (x139000_1 ++ [t140]) t135) else (none)) = some (r1, r2) := H
      have A17 := Aside0.mk A170
      clear A170
      by_cases c18 : x139000_1.length < 5864062014805
      ·rw [if_pos c18] at H
       have LMc18 := Aside0.mk c18
       clear c18
       obtain ⟨y143, hy143⟩ : ∃ y_ : List (List Int), y_ = (x139000_1 ++ [t140]) := ⟨_, rfl⟩
       replace H : (impl_copyRights.l0 k1 l0_0 (l0_0.length : Int) (wrap64 (x13_1 + 1)) y143 t135) = some (r1, r2) := by first | (rw [hy143]; with_reducible exact H) | (have H2_ := (Option.bind_some _ _).symm.trans H; rw [hy143]; with_reducible exact H2_) | (have H2_ := (Option.bind_some _ _).symm.trans H; with_reducible exact H2_) | with_reducible exact H | (rw [hy143]; exact H) | exact H
       have Ny143 := Aside0.mk hy143
       clear hy143
       have H' := Aside0.mk H
       clear H
       have p139 : 0 ≤ (x13_1 : Int) := kD
       have q139 : x13_1 < (l0_0.length : Int) := kD
       obtain ⟨ad139, A139_0, c139_0, e139, hx139_0, hl139_0, hi139_0⟩ := at_L1 HR0_0.out x13_1 p139 q139
       cases e139
       replace hx139_0 := (HB.out.cell (World.block_lt_of_cell? w _ hx139_0)).trans hx139_0
       have HR139_0 := Aside0.mk hi139_0
       have HC139_0 := Aside0.mk hl139_0
       clear hi139_0 hl139_0
       replace p139 := eq_true p139
       replace q139 := eq_true q139
       try go_wp2
       have n0_ := k0 (Kd.S_drew HO_139000.out)
       have n1_ := k0 (Kd.R_drew HO_139001.out)
       have n2_ := k0 (blk_drew BK133.out)
       have n3_ := k0 (blk_drew BK134.out)
       have n4_ := k0 (blk_drew BK138.out)
       have n5_ := k0 (below_drew1 HB.out)
       clear HO_139000 HO_139001 BK133 BK134 BK138 HB
       have HO_139000 := n0_
       have HO_139001 := n1_
       have BK133 := n2_
       have BK134 := n3_
       have BK138 := n4_
       have HB := n5_
       clear n0_ n1_ n2_ n3_ n4_ n5_
       refine start_ (n := 8) (S := fun w' => w'.cell? ⟨gb138, 0, none⟩ = some (u139000) ∧ w'.cell? ⟨gb138, 1, none⟩ = some (.slice Ao8 t135.length co8)) (ds := [7]) #[false, false, false, false, false, false, false, false] (by kernel_rfl) rfl rfl ⟨(blk_cell BK138.out 0).trans rfl, (blk_cell BK138.out 1).trans rfl⟩ (fun hHeld => ?_); refine with_tabW impl_copyRights.tab5 impl_copyRights.bits5 (fun HT_ HW_ => ?_)
       generalize wr.drew = w19 at HO_139000 HO_139001 BK133 BK134 BK138 HB hHeld ⊢
       refine kP 0 17 8 1 HT_.out ?_
       refine kP 2 19 8 5 HT_.out ?_
       refine take_ (i := 1) (N := some 18) (v := ?_) (a' := ?_) (bt 8 7) rfl rfl (take_ofW HT_.out HW_.out (by kernel_rfl)) (fun _ _ _ h => h) (Or.inl ⟨by rfl, ?_⟩) hHeld ?_ ?_
       rotate_left
       ·rintro w' ⟨s0, s1⟩
        go_simp
        with_reducible rfl
       rotate_left
       ·simp only [Act.put, List.setIfInBounds_toArray, List.set_cons_zero, List.set_cons_succ, i64_w, i32_w]
        rfl
       refine one_ (i := 3) (N := some 20) (bt 8 15) rfl rfl (one_of HT_.out (by kernel_rfl)) (by decide) (fun K hK => ?_)
       refine goes_ Try.func67 (by kernel_rfl) rfl #[.slice A139_0 (rd_L1 l0_0 x13_1).length c139_0] (by rfl) rfl rfl (by (try simp only [List.map_toArray, List.map_cons, List.map_nil]); first | done | rfl | (simp only [List.length_drop, List.length_take]; rfl)) ?_
       with_reducible refine (impl_copyInts.calls _ _ (rd_L1 l0_0 x13_1) t140 _ ?side1 ?side2 A17.out).mono ?_
       (case side1 => exact kC (Kd.C_below HR139_0.out HB.out))
       (case side2 => exact HC139_0.out)
       rintro e w20 ⟨v141, rfl, ho0, hb⟩
       refine ⟨_, rfl, ?_⟩
       have n0_ := k0 (Kd.S_elder' (kS HO_139000.out) (Kd.R_base ho0) hb)
       have n1_ := k0 (Kd.R_elder' (kR HO_139001.out) (Kd.R_base ho0) hb)
       have n2_ := k0 (Kd.R_lower (Kd.R_new' ho0 (Kd.R_lt (kR HO_139001.out))) (below_size (kW HB.out)))
       have n3_ := k0 (kb BK133.out hb)
       have n4_ := k0 (kb BK134.out hb)
       have n5_ := k0 (kb BK138.out hb)
       have n6_ := k0 (below_step (kW HB.out) hb)
       clear HO_139000 HO_139001 BK133 BK134 BK138 HB
       have HO_139000 := n0_
       have HO_139001 := n1_
       have HO142 := n2_
       have BK133 := n3_
       have BK134 := n4_
       have BK138 := n5_
       have HB := n6_
       clear n0_ n1_ n2_ n3_ n4_ n5_ n6_
       (try clear hb)
       (try clear hb2)
       (try clear hk)
       (try clear hi)
       (try clear ho0)
       obtain ⟨Ao22, co22, eo22⟩ := Kd.R_slice HO142.out
       (first | subst eo22 | (injection eo22 with f1_ f2_ f3_; have f4_ := f1_.symm; have f5_ := f3_.symm; clear f1_ f2_ f3_; subst f4_; subst f5_))
       refine hK.out _ _ ⟨(blk_cell BK138.out 0).trans rfl, (blk_cell BK138.out 1).trans rfl⟩ (fun hHeld => ?_)
       clear hK K
       refine norm_ (a' := ?_) ?_ ?_
       rotate_left
       ·show Act.put _ (some 20) _ = _
        simp only [Act.put, List.setIfInBounds_toArray, List.set_cons_zero, List.set_cons_succ, i64_w, i32_w]
        rfl
       refine one_ (i := 4) (N := some 21) (bt 8 31) rfl rfl (one_of HT_.out (by kernel_rfl)) (by decide) (fun K hK => ?_)
       refine value_ (w1 := ?_) (v := ?_) (by rfl) rfl ?_ ?_
       rotate_left 2
       ·go_simp
        constructor
        ·rfl
        ·rfl
       refine hK.out _ _ ⟨(blk_cell (blk_alloc BK138.out _) 0).trans rfl, (blk_cell (blk_alloc BK138.out _) 1).trans rfl⟩ (fun hHeld => ?_)
       clear hK K
       refine norm_ (a' := ?_) ?_ ?_
       rotate_left
       ·show Act.put _ (some 21) _ = _
        simp only [Act.put, List.setIfInBounds_toArray, List.set_cons_zero, List.set_cons_succ, i64_w, i32_w]
        rfl
       refine one_ (i := 5) (N := some 22) (bt 8 63) rfl rfl (one_of HT_.out (by kernel_rfl)) (by decide) (fun K hK => ?_)
       refine Kd.S_append_step (Kd.slice 3 (Kd.int .i64)) (w0 := w) w.heap.size (by rfl) (.tmp 18) (.tmp 21) 22 23 (.slice none 0 0) 24 rfl Try.underlying22 info23 rfl (by decide) (by omega) u139000 x139000_1 t140 [.slice Ao22 t140.length co22] (fun k_ => some k_ ≠ (.slice Ao8 t135.length co8 : Value).ownBlock) (fun k_ => some k_ = (.slice Ao22 t140.length co22 : Value).ownBlock) rfl rfl ?aP (fun k_ hk_ => ((Kd.R_mono (ok' := fun k_ => ((fun k_ => some k_ ≠ (.slice Ao8 t135.length co8 : Value).ownBlock)) k_ ∧ some k_ ≠ (u139000 : Value).ownBlock) (Kd.R_apart' (HO142.out) (Kd.S_typed HO_139000.out) (by decide)) (fun k_ hk => ⟨hk.1.2, hk.2⟩))).1 k_ hk_.symm) ?aF ?aO ?aB ?aS ?aL ?_
       (case aP => exact Kd.M_row (Kd.R_mono (Kd.R_tight rfl (Kd.R_mono (ok' := fun k_ => ((fun k_ => some k_ ≠ (.slice Ao8 t135.length co8 : Value).ownBlock)) k_ ∧ some k_ ≠ (u139000 : Value).ownBlock) (Kd.R_apart' (HO142.out) (Kd.S_typed HO_139000.out) (by decide)) (fun k_ hk => ⟨hk.1.2, hk.2⟩))) (fun _ h_ => h_)))
       (case aB => exact (kW HB.out))
       (case aF => exact (fun k_ hk => Kd.fresh' (Kd.R_lt (kR HO_139001.out)) k_ hk))
       (case aO => exact (by (with_reducible repeat (first | apply Kd.S_alloc | apply Kd.S_drewN | apply Kd.S_drew)); exact Kd.S_mono HO_139000.out (fun k_ hk => ⟨hk.1, fun e_ => hk.2 e_⟩)))
       (case aS => exact (below_size (kW HB.out)))
       (case aL => have := LMc18.out; omega)
       intro v144 w21 ho hb hg hat
       rw [← Ny143.out] at ho
       have n0_ := k0 (Kd.R_over' (kR HO_139001.out) (Kd.S_typed (kS HO_139000.out)) (by decide) hg)
       have n1_ := k0 (blk_grown (g := gb133) (o := .cells #[.slice (some ad139) l0_0.length c0_0, .slice A0_1 l0_1.length c0_1] 28 (0, 0)) (kB BK133.out) hg (Kd.S_ne HO_139000.out BK133.out (by decide)))
       have n2_ := k0 (blk_grown (g := gb134) (o := .cells #[.slice none 0 0, .slice none 0 0] 28 (0, 0)) (kB BK134.out) hg (Kd.S_ne HO_139000.out BK134.out (by decide)))
       have n3_ := k0 (blk_grown (g := gb138) (o := .cells #[u139000, .slice Ao8 t135.length co8] 28 (0, 0)) (kB BK138.out) hg (Kd.S_ne HO_139000.out BK138.out (by decide)))
       have n4_ := k0 (hb)
       have n5_ := k0 (ho)
       clear HO_139001 BK133 BK134 BK138 HB HO_139000 HO142
       have HO_139001 := n0_
       have BK133 := n1_
       have BK134 := n2_
       have BK138 := n3_
       have HB := n4_
       have HO145 := n5_
       clear n0_ n1_ n2_ n3_ n4_ n5_
       clear ho hb hg hat
       obtain ⟨Ao23, co23, eo23⟩ := Kd.S_slice HO145.out
       (first | subst eo23 | (injection eo23 with f1_ f2_ f3_; have f4_ := f1_.symm; have f5_ := f3_.symm; clear f1_ f2_ f3_; subst f4_; subst f5_))
       refine hK.out _ _ ⟨(blk_cell BK138.out 0).trans rfl, (blk_cell BK138.out 1).trans rfl⟩ (fun hHeld => ?_)
       clear hK K
       refine norm_ (a' := ?_) ?_ ?_
       rotate_left
       ·show Act.put _ (some 22) _ = _
        simp only [Act.put, List.setIfInBounds_toArray, List.set_cons_zero, List.set_cons_succ, i64_w, i32_w]
        rfl
       refine kP 6 23 8 127 HT_.out ?_
       refine last_ (i := 7) (N := none) (bt 8 255) rfl rfl (one_of HT_.out (by kernel_rfl)) (by decide) (fun K hK => ?_)
       have hs24 : w21.cell? ⟨gb138, 0, none⟩ = some (u139000) := (blk_cell BK138.out 0).trans rfl
       have hfs24 := blk_frozen BK138.out 0
       have hns24_0 := NB133_138.out
       have hns24_1 := NB134_138.out
       have hms24_0 := NB138_133.out
       have hms24_1 := NB138_134.out
       refine skip_ (w1 := ?_) (by rfl) rfl ?_ ?_
       rotate_left
       ·go_simp
        rfl
       refine hK.out _ _ ?_
       clear hK K
       refine done_ (done_of HT_.out (by kernel_rfl)) ?_
       try go_wp2
       go_roundg k1
       case measure => have := HK1.out; omega
       case rel => exact ⟨(wrap64 (x13_1 + 1)), (y143), (.slice Ao23 y143.length co23), (by first | rfl | (simp; done) | (simp [*]; done)), H', ⟨by have := HK1.out; omega⟩, ⟨by (with_reducible repeat (first | apply Kd.S_alloc | apply Kd.S_drewN | apply Kd.S_drew)); exact Kd.S_mono (Kd.S_far (p := ⟨gb138, 0, none⟩) (Kd.S_types HO145.out BK138.out (by decide)) (fun _ hk => hk.2) (.slice Ao23 y143.length co23)) (fun _ hk => hk.1)⟩, ⟨by (with_reducible repeat (first | apply Kd.R_alloc | apply Kd.R_drewN | apply Kd.R_drew)); exact Kd.R_mono (Kd.R_far (p := ⟨gb138, 0, none⟩) (Kd.R_types HO_139001.out BK138.out (by decide)) (fun _ hk => hk.2) (.slice Ao23 y143.length co23)) (fun _ hk => trivial)⟩, ⟨by (with_reducible repeat first | apply k1 | apply k2 | apply k3); refine blk_far ?_ NB133_138.out _; (with_reducible repeat first | apply k1 | apply k2 | apply k3); exact BK133.out⟩, ⟨by (with_reducible repeat first | apply k1 | apply k2 | apply k3); refine blk_far ?_ NB134_138.out _; (with_reducible repeat first | apply k1 | apply k2 | apply k3); exact BK134.out⟩, ⟨by (with_reducible repeat first | apply k1 | apply k2 | apply k3); refine blk_put (cs := #[u139000, .slice Ao8 t135.length co8]) ?_ 0 _ rfl; (with_reducible repeat first | apply k1 | apply k2 | apply k3); exact BK138.out⟩, ⟨by repeat (first | (with_reducible first | exact HB.out | apply below_alloc | apply pw_below_drewN | apply below_drew1 | refine below_set ?_ GE133.out | refine below_set ?_ GE134.out | refine below_set ?_ GE138.out) | exact HB.out)⟩⟩
      ·rw [if_neg c18] at H
       exact absurd H (by simp)
     ·rw [if_neg c16] at H
      exact absurd H (by simp)
    ·rw [if_neg c15] at H
     exact absurd H (by simp)
   ·rw [if_neg c14] at H
    have c14b0 : decide (x13_1 < (l0_0.length : Int)) = false := decide_eq_false c14
    clear c14
    simp only [Option.some.injEq, Prod.mk.injEq] at H
    obtain ⟨rfl, rfl⟩ := H
    have hnb25 := NB138_133.out
    have hnc25 := NB133_138.out
    have hnb26 := NB138_134.out
    have hnc26 := NB134_138.out
    have hcz27_0 : wr.cell? ⟨gb138, 0, none⟩ = some (u139000) := kx BK138.out
    have hcz27_1 : wr.cell? ⟨gb138, 1, none⟩ = some (.slice Ao8 t135.length co8) := kx BK138.out
    have hfz27_0 := blk_frozen BK138.out 0
    have hfz27_1 := blk_frozen BK138.out 1
    obtain ⟨Ao28, co28, eo28⟩ := Kd.S_slice HO_139000.out
    subst eo28
    have hnb29 := NB134_133.out
    have hnc29 := NB133_134.out
    have hcz30_0 : wr.cell? ⟨gb134, 0, none⟩ = some (.slice none 0 0) := kx BK134.out
    have hcz30_1 : wr.cell? ⟨gb134, 1, none⟩ = some (.slice none 0 0) := kx BK134.out
    have hfz30_0 := blk_frozen BK134.out 0
    have hfz30_1 := blk_frozen BK134.out 1
    go_wp2
    refine bodyPost_ret (results_cell_row rfl _ _ gb134 28 #[.slice Ao28 x139000_1.length co28, .slice Ao8 t135.length co8] (0, 0) _ rfl (by (with_reducible repeat first | apply k1 | apply k2 | apply k3); refine blk_put (cs := #[.slice Ao28 x139000_1.length co28, .slice none 0 0]) ?_ 1 _ rfl; (with_reducible repeat first | apply k1 | apply k2 | apply k3); refine blk_put (cs := #[.slice none 0 0, .slice none 0 0]) ?_ 0 _ rfl; (with_reducible repeat first | apply k1 | apply k2 | apply k3); exact BK134.out) Try.underlying28 rfl (by kernel_rfl)) rfl ?_
    exact ⟨_, _, by first | rfl | (simp [errW_none, errW_some] <;> rfl) | (simp [*, errW_none, errW_some] <;> rfl), by (with_reducible repeat (first | apply Kd.S_alloc | apply Kd.S_drewN | apply Kd.S_drew)); exact Kd.S_mono (Kd.S_far (p := ⟨gb134, 1, none⟩) (Kd.S_far (p := ⟨gb134, 0, none⟩) (Kd.S_types HO_139000.out BK134.out (by decide)) (fun _ hk => hk.2) (.slice Ao28 x139000_1.length co28)) (fun _ hk => hk.2) (.slice Ao8 t135.length co8)) (fun _ hk => hk.1), by (with_reducible repeat (first | apply Kd.R_alloc | apply Kd.R_drewN | apply Kd.R_drew)); exact Kd.R_mono (Kd.R_far (p := ⟨gb134, 1, none⟩) (Kd.R_far (p := ⟨gb134, 0, none⟩) (Kd.R_types HO_139001.out BK134.out (by decide)) (fun _ hk => hk.2) (.slice Ao28 x139000_1.length co28)) (fun _ hk => hk.2) (.slice Ao8 t135.length co8)) (fun _ hk => trivial), by repeat (first | (with_reducible first | exact HB.out | apply below_alloc | apply pw_below_drewN | apply below_drew1 | refine below_set ?_ GE133.out | refine below_set ?_ GE134.out | refine below_set ?_ GE138.out) | exact HB.out)⟩

end Go.Proofs.Ytcnanifokpcjaaa.PFnMeet
