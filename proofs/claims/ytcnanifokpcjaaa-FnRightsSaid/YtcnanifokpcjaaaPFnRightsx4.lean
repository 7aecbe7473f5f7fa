import Derived.Test.YtcnanifokpcjaaaPFnRightsx0
import Derived.Test.YtcnanifokpcjaaaPFnRightsx1
import Derived.Test.YtcnanifokpcjaaaPFnRightsx2
import Derived.Test.YtcnanifokpcjaaaPFnRightsx3
namespace Go.Proofs.Ytcnanifokpcjaaa.PFnRights
open Go.RowKit Go.Proofs.YtcnanifokpcjaaaW.PrintWords Go.Proofs.YtcnanifokpcjaaaW.PrintLast Go.Proofs.YtcnanifokpcjaaaW.PrintMore
attribute [local go_sem] max2_int min2_int max_two min_two max_three min_three max_four min_four   -- for this text's walks alone
set_option linter.unusedVariables false
set_option linter.unusedSimpArgs false

/-! ### impl_copyRights: function 53 -/
def impl_copyRights.l0 : Nat → List (List Int) → Int → Int → List (List Int) → List Int → Option ((List (List Int)) × List Int)
 | 0, _, _, _, _, _ => none
 | k + 1, x11, x12, x13, x145000, x145001 => if x13 < x12 then (if 0 ≤ x13 then (if x13 < (x11.length : Int) then ((impl_copyInts.f (rd_L1 x11 x13)).bind fun t146 => (if x145000.length < 5864062014805 then (impl_copyRights.l0 k x11 x12 (wrap64 (x13 + 1)) (x145000 ++ [t146]) x145001) else (none))) else (none)) else (none)) else (some (x145000, x145001))
def impl_copyRights.f (k : Nat) (l0_0 : List (List Int)) (l0_1 : List Int) : Option ((List (List Int)) × List Int) := (impl_copyInts.f l0_1).bind fun t141 => (impl_copyRights.l0 k l0_0 (l0_0.length : Int) 0 ([] : List (List Int)) t141)
theorem impl_copyRights.mono_l : ∀ k, (∀ y0 y1 y2 y3 y4, LeO (impl_copyRights.l0 k y0 y1 y2 y3 y4) (impl_copyRights.l0 (k + 1) y0 y1 y2 y3 y4))
 | 0 => fun _ _ _ _ _ r h => by simp [impl_copyRights.l0] at h
 | k + 1 => by
  have ih0 := impl_copyRights.mono_l k
  ·intro y0 y1 y2 y3 y4
   unfold impl_copyRights.l0
   repeat' first
   | (with_reducible exact ih0 _ _ _ _ _)
   | (with_reducible exact LeO.refl _)
   | (with_reducible exact LeO.none _)
   | (with_reducible refine LeO.ite ?_ ?_)
   | (with_reducible refine LeO.bind ?_ (fun _ => ?_))
   | exact ih0 _ _ _ _ _
   | exact LeO.none _
   | refine LeO.ite ?_ ?_
   | refine LeO.bind ?_ (fun _ => ?_)
theorem impl_copyRights.mono : ∀ a0 a1 k, LeO (impl_copyRights.f k a0 a1) (impl_copyRights.f (k + 1) a0 a1) := by
 intro a0 a1 k
 have ih0 := impl_copyRights.mono_l k
 unfold impl_copyRights.f
 repeat' first
   | (with_reducible exact ih0 _ _ _ _ _)
   | (with_reducible exact LeO.refl _)
   | (with_reducible exact LeO.none _)
   | (with_reducible refine LeO.ite ?_ ?_)
   | (with_reducible refine LeO.bind ?_ (fun _ => ?_))
   | exact ih0 _ _ _ _ _
   | exact LeO.none _
   | refine LeO.ite ?_ ?_
   | refine LeO.bind ?_ (fun _ => ?_)
def impl_copyRights.T5 : Bool × List (List Nat × List Nat) := (true, [([], []), ([0], [0]), ([], []), ([2], [2]), ([3], [3]), ([1, 4, 3], [1, 4]), ([0, 1, 2, 3, 4, 5], []), ([6, 5, 5, 0, 1, 2, 3, 4, 5], [5, 6])])
def impl_copyRights.B5 : List Nat := [0, 1, 0, 4, 12, 31, 63, 127]
theorem impl_copyRights.tab5 : rtab .any (opsOf Try.f53 5) = impl_copyRights.T5 := by kernel_rfl
theorem impl_copyRights.bits5 : waitsOk impl_copyRights.T5.2 impl_copyRights.B5 = true := by kernel_rfl
set_option maxHeartbeats 8000000 in
set_option maxRecDepth 100000 in
theorem impl_copyRights.calls (k : Nat) (A0_0 : Option Addr) (c0_0 : Nat) (l0_0 : List (List Int)) (A0_1 : Option Addr) (c0_1 : Nat) (l0_1 : List Int) (r1 : List (List Int)) (r2 : List Int) (w : World) (hr0_0 : Kd.C (Kd.slice 3 (Kd.int .i64)) w A0_0 l0_0.length l0_0) (hc0_0 : l0_0.length ≤ c0_0) (hr0_1 : Kd.C (Kd.int .i64) w A0_1 l0_1.length l0_1) (hc0_1 : l0_1.length ≤ c0_1) (h : impl_copyRights.f k l0_0 l0_1 = some (r1, r2)) :
  Calls Try.prog 53 #[.agg #[.slice A0_0 l0_0.length c0_0, .slice A0_1 l0_1.length c0_1]] w fun e w' => ∃ v0_ v1_ : Value, e = .returned (.agg #[v0_, v1_]) ∧ Kd.S (Kd.slice 3 (Kd.int .i64)) 23 w' w.heap.size (fun k_ => some k_ ≠ (v1_ : Value).ownBlock) v0_ r1 ∧ Kd.R (Kd.int .i64) 3 w' w.heap.size (fun _ => True) v1_ r2 ∧ Below w.heap.size w w' := by
 have hu28 := Try.underlying28
 have HR0_0 := Aside0.mk hr0_0
 have HC0_0 := Aside0.mk hc0_0
 clear hr0_0 hc0_0
 have HR0_1 := Aside0.mk hr0_1
 have HC0_1 := Aside0.mk hc0_1
 clear hr0_1 hc0_1
 have HB := k0 (Below.refl w.heap.size w)
 have H : ((impl_copyInts.f l0_1).bind fun t141 => (impl_copyRights.l0 k l0_0 (l0_0.length : Int) 0 ([] : List (List Int)) t141)) = some (r1, r2) := h
 clear h
 replace H := Option.bind_eq_some_iff.mp H
 obtain ⟨t141, A20, H⟩ := H
 replace H : (impl_copyRights.l0 k l0_0 (l0_0.length : Int) 0 ([] : List (List Int)) t141) = some (r1, r2) := H
 have A2 := Aside0.mk A20
 clear A20
 have H' := Aside0.mk H
 clear H
 go_enter Try.func53, Try.ntmps53
 go_wp2_with (first | ((with_reducible refine gate_dst (N := 1) rfl ?_); refine kE (N := 1) (cs := #[.slice A0_0 l0_0.length c0_0, .slice A0_1 l0_1.length c0_1]) (t := 28) ?_; intro gb139 hg w3 hbox hb; have n0_ := k0 (below_step (kW HB.out) hb); have n1_ := k0 (hbox); have n2_ := k0 (kY HB.out hg); have n3_ := k0 (kY HB.out hg); clear HB; have HB := n0_; have BK139 := n1_; have GW139 := n2_; have GE139 := n3_; clear n0_ n1_ n2_ n3_; clear hb hbox hg) | ((with_reducible refine gate_dst (N := 2) rfl ?_); refine kE (N := 2) (cs := #[.slice none 0 0, .slice none 0 0]) (t := 28) ?_; intro gb140 hg w4 hbox hb; have n0_ := k0 (kb BK139.out hb); have n1_ := k0 (below_step (kW HB.out) hb); have n2_ := k0 (hbox); have n3_ := k0 (kY HB.out hg); have n4_ := k0 (kY HB.out hg); have n5_ := k0 ((by rw [hg]; exact Nat.ne_of_lt (blk_lt (g := gb139) (o := .cells #[.slice A0_0 l0_0.length c0_0, .slice A0_1 l0_1.length c0_1] 28 (0, 0)) (kB BK139.out)) : gb139 ≠ gb140)); have n6_ := k0 ((by rw [hg]; exact Nat.ne_of_gt (blk_lt (g := gb139) (o := .cells #[.slice A0_0 l0_0.length c0_0, .slice A0_1 l0_1.length c0_1] 28 (0, 0)) (kB BK139.out)) : gb140 ≠ gb139)); clear BK139; clear HB; have BK139 := n0_; have HB := n1_; have BK140 := n2_; have GW140 := n3_; have GE140 := n4_; have NB139_140 := n5_; have NB140_139 := n6_; clear n0_ n1_ n2_ n3_ n4_ n5_ n6_; clear hb hbox hg; have hnb5 := NB139_140.out; have hnc5 := NB140_139.out; have hcz6_0 : w4.cell? ⟨gb139, 0, none⟩ = some (.slice A0_0 l0_0.length c0_0) := kx BK139.out; have hcz6_1 : w4.cell? ⟨gb139, 1, none⟩ = some (.slice A0_1 l0_1.length c0_1) := kx BK139.out; have hfz6_0 := blk_frozen BK139.out 0; have hfz6_1 := blk_frozen BK139.out 1) | ((with_reducible refine gate_callee (f := 67) rfl ?_); refine kG (some 8) Try.func67 #[.slice A0_1 l0_1.length c0_1] ?_; (with_reducible refine (impl_copyInts.calls _ _ l0_1 t141 _ ?side1 ?side2 A2.out).mono ?_); (case side1 => exact kC (Kd.C_below HR0_1.out HB.out)); (case side2 => exact HC0_1.out); rintro e w7 ⟨v142, rfl, ho0, hb⟩; refine ⟨_, rfl, ?_⟩; have n0_ := k0 (Kd.R_lower ho0 (below_size (kW HB.out))); have n1_ := k0 (kb BK139.out hb); have n2_ := k0 (kb BK140.out hb); have n3_ := k0 (below_step (kW HB.out) hb); clear BK139; clear BK140; clear HB; have HO143 := n0_; have BK139 := n1_; have BK140 := n2_; have HB := n3_; clear n0_ n1_ n2_ n3_; (try clear hb); (try clear hb2); (try clear hk); (try clear hi); (try clear ho0); obtain ⟨Ao8, co8, eo8⟩ := Kd.R_slice HO143.out; subst eo8) | ((with_reducible refine gate_dst (N := 3) rfl ?_); refine kE (N := 3) (cs := #[.slice none 0 0, .slice none 0 0]) (t := 28) ?_; intro gb144 hg w9 hbox hb; have n0_ := k0 (Kd.R_below (kR HO143.out) hb); have n1_ := k0 (kb BK139.out hb); have n2_ := k0 (kb BK140.out hb); have n3_ := k0 (below_step (kW HB.out) hb); have n4_ := k0 (hbox); have n5_ := k0 (kY HB.out hg); have n6_ := k0 (kY HB.out hg); have n7_ := k0 ((by rw [hg]; exact Nat.ne_of_lt (blk_lt (g := gb139) (o := .cells #[.slice A0_0 l0_0.length c0_0, .slice A0_1 l0_1.length c0_1] 28 (0, 0)) (kB BK139.out)) : gb139 ≠ gb144)); have n8_ := k0 ((by rw [hg]; exact Nat.ne_of_gt (blk_lt (g := gb139) (o := .cells #[.slice A0_0 l0_0.length c0_0, .slice A0_1 l0_1.length c0_1] 28 (0, 0)) (kB BK139.out)) : gb144 ≠ gb139)); have n9_ := k0 ((by rw [hg]; exact Nat.ne_of_lt (blk_lt (g := gb140) (o := .cells #[.slice none 0 0, .slice none 0 0] 28 (0, 0)) (kB BK140.out)) : gb140 ≠ gb144)); have n10_ := k0 ((by rw [hg]; exact Nat.ne_of_gt (blk_lt (g := gb140) (o := .cells #[.slice none 0 0, .slice none 0 0] 28 (0, 0)) (kB BK140.out)) : gb144 ≠ gb140)); clear HO143; clear BK139; clear BK140; clear HB; have HO143 := n0_; have BK139 := n1_; have BK140 := n2_; have HB := n3_; have BK144 := n4_; have GW144 := n5_; have GE144 := n6_; have NB139_144 := n7_; have NB144_139 := n8_; have NB140_144 := n9_; have NB144_140 := n10_; clear n0_ n1_ n2_ n3_ n4_ n5_ n6_ n7_ n8_ n9_ n10_; clear hb hbox hg; have hnb10 := NB144_139.out; have hnc10 := NB139_144.out; have hnb11 := NB144_140.out; have hnc11 := NB140_144.out; have hcz12_0 : w9.cell? ⟨gb144, 0, none⟩ = some (.slice none 0 0) := kx BK144.out; have hcz12_1 : w9.cell? ⟨gb144, 1, none⟩ = some (.slice none 0 0) := kx BK144.out; have hfz12_0 := blk_frozen BK144.out 0; have hfz12_1 := blk_frozen BK144.out 1; have hcz13_0 : w9.cell? ⟨gb139, 0, none⟩ = some (.slice A0_0 l0_0.length c0_0) := kx BK139.out; have hcz13_1 : w9.cell? ⟨gb139, 1, none⟩ = some (.slice A0_1 l0_1.length c0_1) := kx BK139.out; have hfz13_0 := blk_frozen BK139.out 0; have hfz13_1 := blk_frozen BK139.out 1))
 go_loopg [13] k (fun kq v13 w' => ∃ (x13_1 : Int) (x145000_1 : List (List Int)) (u145000 : Value), v13 = .int .i64 x13_1 ∧ Aside0 (impl_copyRights.l0 kq l0_0 (l0_0.length : Int) x13_1 x145000_1 t141 = some (r1, r2)) ∧ Aside0 (kq ≤ k) ∧ Aside0 (Kd.S (Kd.slice 3 (Kd.int .i64)) 23 w' w.heap.size (fun k_ => some k_ ≠ ((.slice Ao8 t141.length co8) : Value).ownBlock) u145000 x145000_1) ∧ Aside0 (Kd.R (Kd.int .i64) 3 w' w.heap.size (fun _ => True) (.slice Ao8 t141.length co8) t141) ∧ Aside0 (w'.heap[gb139]? = some (.cells #[(.slice A0_0 l0_0.length c0_0), (.slice A0_1 l0_1.length c0_1)] 28 (0, 0))) ∧ Aside0 (w'.heap[gb140]? = some (.cells #[(.slice none 0 0), (.slice none 0 0)] 28 (0, 0))) ∧ Aside0 (w'.heap[gb144]? = some (.cells #[u145000, (.slice Ao8 t141.length co8)] 28 (0, 0))) ∧ Aside0 (Below w.heap.size w w'))
 case atStart => exact ⟨(0), (([] : List (List Int))), (.slice none 0 0), (by first | rfl | (simp; done) | (simp [*]; done)), H', ⟨Nat.le_refl _⟩, ⟨by first | exact Kd.S_nil _ _ _ _ _ | exact Kd.N_nil _ _ _ _ _ | exact Kd.V_nil _ _ _ _ _ | exact Kd.Q_nil _ _ _ _ _ | exact Kd.R_nil _ _ _ _ _⟩, ⟨by (with_reducible repeat (first | apply Kd.R_alloc | apply Kd.R_drewN | apply Kd.R_drew)); exact Kd.R_mono (Kd.R_far (p := ⟨gb144, 1, none⟩) (Kd.R_far (p := ⟨gb144, 0, none⟩) (Kd.R_types HO143.out BK144.out (by decide)) (fun _ hk => hk.2) (.slice none 0 0)) (fun _ hk => hk.2) (.slice Ao8 t141.length co8)) (fun _ hk => trivial)⟩, ⟨by (with_reducible repeat first | apply k1 | apply k2 | apply k3); refine blk_far ?_ NB139_144.out _; (with_reducible repeat first | apply k1 | apply k2 | apply k3); refine blk_far ?_ NB139_144.out _; (with_reducible repeat first | apply k1 | apply k2 | apply k3); exact BK139.out⟩, ⟨by (with_reducible repeat first | apply k1 | apply k2 | apply k3); refine blk_far ?_ NB140_144.out _; (with_reducible repeat first | apply k1 | apply k2 | apply k3); refine blk_far ?_ NB140_144.out _; (with_reducible repeat first | apply k1 | apply k2 | apply k3); exact BK140.out⟩, ⟨by (with_reducible repeat first | apply k1 | apply k2 | apply k3); refine blk_put (cs := #[.slice none 0 0, .slice none 0 0]) ?_ 1 _ rfl; (with_reducible repeat first | apply k1 | apply k2 | apply k3); refine blk_put (cs := #[.slice none 0 0, .slice none 0 0]) ?_ 0 _ rfl; (with_reducible repeat first | apply k1 | apply k2 | apply k3); exact BK144.out⟩, ⟨by repeat (first | (with_reducible first | exact HB.out | apply below_alloc | apply pw_below_drewN | apply below_drew1 | refine below_set ?_ GE139.out | refine below_set ?_ GE140.out | refine below_set ?_ GE144.out) | exact HB.out)⟩⟩
 case round =>
  clear H'
  try clear c1
  try clear p2
  try clear c5
  try clear c6
  try clear c10
  try clear c11
  try clear hcz12_0
  try clear hcz12_1
  try clear hcz13_0
  try clear hcz13_1
  try clear hcz6_0
  try clear hcz6_1
  try clear hfz12_0
  try clear hfz12_1
  try clear hfz13_0
  try clear hfz13_1
  try clear hfz6_0
  try clear hfz6_1
  obtain ⟨x13_1, x145000_1, u145000, rfl, HA, HK1, HO_145000, HO_145001, BK139, BK140, BK144, HB⟩ := hrel
  cases gk with
  | zero => exact absurd HA.out (by simp [impl_copyRights.l0])
  | succ k1 =>
   have H := HA.out
   clear HA
   simp only [impl_copyRights.l0] at H
   by_cases c14 : x13_1 < (l0_0.length : Int)
   ·rw [if_pos c14] at H
    have c14b0 : decide (x13_1 < (l0_0.length : Int)) = true := decide_eq_true c14
    clear c14
    by_cases c15 : 0 ≤ x13_1
    ·rw [if_pos c15] at H
     have c15b0 : decide (0 ≤ x13_1) = true := decide_eq_true c15
     clear c15
     by_cases c16 : x13_1 < (l0_0.length : Int)
     ·rw [if_pos c16] at H
      have c16b0 : decide (x13_1 < (l0_0.length : Int)) = true := decide_eq_true c16
      clear c16
      replace H := Option.bind_eq_some_iff.mp H
      obtain ⟨t146, A170, H⟩ := H
      replace H : (if x145000_1.length < 5864062014805 then (impl_copyRights.l0 k1 l0_0 (l0_0.length : Int) (wrap64 (x13_1 + 1)) (x145000_1 ++ [t146]) t141) else (none)) = some (r1, r2) := H
      have A17 := Aside0.mk A170
      clear A170
      by_cases c18 : x145000_1.length < 5864062014805
      ·rw [if_pos c18] at H
       have LMc18 := Aside0.mk c18
       clear c18
       obtain ⟨y149, hy149⟩ : ∃ y_ : List (List Int), y_ = (x145000_1 ++ [t146]) := ⟨_, rfl⟩
       replace H : (impl_copyRights.l0 k1 l0_0 (l0_0.length : Int) (wrap64 (x13_1 + 1)) y149 t141) = some (r1, r2) := by first | (rw [hy149]; with_reducible exact H) | (have H2_ := (Option.bind_some _ _).symm.trans H; rw [hy149]; with_reducible exact H2_) | (have H2_ := (Option.bind_some _ _).symm.trans H; with_reducible exact H2_) | with_reducible exact H | (rw [hy149]; exact H) | exact H
       have Ny149 := Aside0.mk hy149
       clear hy149
       have H' := Aside0.mk H
       clear H
       have p145 : 0 ≤ (x13_1 : Int) := kD
       have q145 : x13_1 < (l0_0.length : Int) := kD
       obtain ⟨ad145, A145_0, c145_0, e145, hx145_0, hl145_0, hi145_0⟩ := at_L1 HR0_0.out x13_1 p145 q145
       cases e145
       replace hx145_0 := (HB.out.cell (World.block_lt_of_cell? w _ hx145_0)).trans hx145_0
       have HR145_0 := Aside0.mk hi145_0
       have HC145_0 := Aside0.mk hl145_0
       clear hi145_0 hl145_0
       replace p145 := eq_true p145
       replace q145 := eq_true q145
       try go_wp2
       have n0_ := k0 (Kd.S_drew HO_145000.out)
       have n1_ := k0 (Kd.R_drew HO_145001.out)
       have n2_ := k0 (blk_drew BK139.out)
       have n3_ := k0 (blk_drew BK140.out)
       have n4_ := k0 (blk_drew BK144.out)
       have n5_ := k0 (below_drew1 HB.out)
       clear HO_145000 HO_145001 BK139 BK140 BK144 HB
       have HO_145000 := n0_
       have HO_145001 := n1_
       have BK139 := n2_
       have BK140 := n3_
       have BK144 := n4_
       have HB := n5_
       clear n0_ n1_ n2_ n3_ n4_ n5_
       refine start_ (n := 8) (S := fun w' => w'.cell? ⟨gb144, 0, none⟩ = some (u145000) ∧ w'.cell? ⟨gb144, 1, none⟩ = some (.slice Ao8 t141.length co8)) (ds := [7]) #[false, false, false, false, false, false, false, false] (by kernel_rfl) rfl rfl ⟨(blk_cell BK144.out 0).trans rfl, (blk_cell BK144.out 1).trans rfl⟩ (fun hHeld => ?_); refine with_tabW impl_copyRights.tab5 impl_copyRights.bits5 (fun HT_ HW_ => ?_)
       generalize wr.drew = w19 at HO_145000 HO_145001 BK139 BK140 BK144 HB hHeld ⊢
       refine kP 0 17 8 1 HT_.out ?_
       refine kP 2 19 8 5 HT_.out ?_
       refine take_ (i := 1) (N := some 18) (v := ?_) (a' := ?_) (bt 8 7) rfl rfl (take_ofW HT_.out HW_.out (by kernel_rfl)) (fun _ _ _ h => h) (Or.inl ⟨by rfl, ?_⟩) hHeld ?_ ?_
       rotate_left
       ·rintro w' ⟨s0, s1⟩
        go_simp
        with_reducible rfl
       rotate_left
       ·simp only [Act.put, List.setIfInBounds_toArray, List.set_cons_zero, List.set_cons_succ, i64_w, i32_w]
        rfl
       refine one_ (i := 3) (N := some 20) (bt 8 15) rfl rfl (one_of HT_.out (by kernel_rfl)) (by decide) (fun K hK => ?_)
       refine goes_ Try.func67 (by kernel_rfl) rfl #[.slice A145_0 (rd_L1 l0_0 x13_1).length c145_0] (by rfl) rfl rfl (by (try simp only [List.map_toArray, List.map_cons, List.map_nil]); first | done | rfl | (simp only [List.length_drop, List.length_take]; rfl)) ?_
       with_reducible refine (impl_copyInts.calls _ _ (rd_L1 l0_0 x13_1) t146 _ ?side1 ?side2 A17.out).mono ?_
       (case side1 => exact kC (Kd.C_below HR145_0.out HB.out))
       (case side2 => exact HC145_0.out)
       rintro e w20 ⟨v147, rfl, ho0, hb⟩
       refine ⟨_, rfl, ?_⟩
       have n0_ := k0 (Kd.S_elder' (kS HO_145000.out) (Kd.R_base ho0) hb)
       have n1_ := k0 (Kd.R_elder' (kR HO_145001.out) (Kd.R_base ho0) hb)
       have n2_ := k0 (Kd.R_lower (Kd.R_new' ho0 (Kd.R_lt (kR HO_145001.out))) (below_size (kW HB.out)))
       have n3_ := k0 (kb BK139.out hb)
       have n4_ := k0 (kb BK140.out hb)
       have n5_ := k0 (kb BK144.out hb)
       have n6_ := k0 (below_step (kW HB.out) hb)
       clear HO_145000 HO_145001 BK139 BK140 BK144 HB
       have HO_145000 := n0_
       have HO_145001 := n1_
       have HO148 := n2_
       have BK139 := n3_
       have BK140 := n4_
       have BK144 := n5_
       have HB := n6_
       clear n0_ n1_ n2_ n3_ n4_ n5_ n6_
       (try clear hb)
       (try clear hb2)
       (try clear hk)
       (try clear hi)
       (try clear ho0)
       obtain ⟨Ao22, co22, eo22⟩ := Kd.R_slice HO148.out
       (first | subst eo22 | (injection eo22 with f1_ f2_ f3_; have f4_ := f1_.symm; have f5_ := f3_.symm; clear f1_ f2_ f3_; subst f4_; subst f5_))
       refine hK.out _ _ ⟨(blk_cell BK144.out 0).trans rfl, (blk_cell BK144.out 1).trans rfl⟩ (fun hHeld => ?_)
       clear hK K
       refine norm_ (a' := ?_) ?_ ?_
       rotate_left
       ·show Act.put _ (some 20) _ = _
        simp only [Act.put, List.setIfInBounds_toArray, List.set_cons_zero, List.set_cons_succ, i64_w, i32_w]
        rfl
       refine one_ (i := 4) (N := some 21) (bt 8 31) rfl rfl (one_of HT_.out (by kernel_rfl)) (by decide) (fun K hK => ?_)
       refine value_ (w1 := ?_) (v := ?_) (by rfl) rfl ?_ ?_
       rotate_left 2
       ·go_simp
        constructor
        ·rfl
        ·rfl
       refine hK.out _ _ ⟨(blk_cell (blk_alloc BK144.out _) 0).trans rfl, (blk_cell (blk_alloc BK144.out _) 1).trans rfl⟩ (fun hHeld => ?_)
       clear hK K
       refine norm_ (a' := ?_) ?_ ?_
       rotate_left
       ·show Act.put _ (some 21) _ = _
        simp only [Act.put, List.setIfInBounds_toArray, List.set_cons_zero, List.set_cons_succ, i64_w, i32_w]
        rfl
       refine one_ (i := 5) (N := some 22) (bt 8 63) rfl rfl (one_of HT_.out (by kernel_rfl)) (by decide) (fun K hK => ?_)
       refine Kd.S_append_step (Kd.slice 3 (Kd.int .i64)) (w0 := w) w.heap.size (by rfl) (.tmp 18) (.tmp 21) 22 23 (.slice none 0 0) 24 rfl Try.underlying22 info23 rfl (by decide) (by omega) u145000 x145000_1 t146 [.slice Ao22 t146.length co22] (fun k_ => some k_ ≠ (.slice Ao8 t141.length co8 : Value).ownBlock) (fun k_ => some k_ = (.slice Ao22 t146.length co22 : Value).ownBlock) rfl rfl ?aP (fun k_ hk_ => ((Kd.R_mono (ok' := fun k_ => ((fun k_ => some k_ ≠ (.slice Ao8 t141.length co8 : Value).ownBlock)) k_ ∧ some k_ ≠ (u145000 : Value).ownBlock) (Kd.R_apart' (HO148.out) (Kd.S_typed HO_145000.out) (by decide)) (fun k_ hk => ⟨hk.1.2, hk.2⟩))).1 k_ hk_.symm) ?aF ?aO ?aB ?aS ?aL ?_
       (case aP => exact Kd.M_row (Kd.R_mono (Kd.R_tight rfl (Kd.R_mono (ok' := fun k_ => ((fun k_ => some k_ ≠ (.slice Ao8 t141.length co8 : Value).ownBlock)) k_ ∧ some k_ ≠ (u145000 : Value).ownBlock) (Kd.R_apart' (HO148.out) (Kd.S_typed HO_145000.out) (by decide)) (fun k_ hk => ⟨hk.1.2, hk.2⟩))) (fun _ h_ => h_)))
       (case aB => exact (kW HB.out))
       (case aF => exact (fun k_ hk => Kd.fresh' (Kd.R_lt (kR HO_145001.out)) k_ hk))
       (case aO => exact (by (with_reducible repeat (first | apply Kd.S_alloc | apply Kd.S_drewN | apply Kd.S_drew)); exact Kd.S_mono HO_145000.out (fun k_ hk => ⟨hk.1, fun e_ => hk.2 e_⟩)))
       (case aS => exact (below_size (kW HB.out)))
       (case aL => have := LMc18.out; omega)
       intro v150 w21 ho hb hg hat
       rw [← Ny149.out] at ho
       have n0_ := k0 (Kd.R_over' (kR HO_145001.out) (Kd.S_typed (kS HO_145000.out)) (by decide) hg)
       have n1_ := k0 (blk_grown (g := gb139) (o := .cells #[.slice (some ad145) l0_0.length c0_0, .slice A0_1 l0_1.length c0_1] 28 (0, 0)) (kB BK139.out) hg (Kd.S_ne HO_145000.out BK139.out (by decide)))
       have n2_ := k0 (blk_grown (g := gb140) (o := .cells #[.slice none 0 0, .slice none 0 0] 28 (0, 0)) (kB BK140.out) hg (Kd.S_ne HO_145000.out BK140.out (by decide)))
       have n3_ := k0 (blk_grown (g := gb144) (o := .cells #[u145000, .slice Ao8 t141.length co8] 28 (0, 0)) (kB BK144.out) hg (Kd.S_ne HO_145000.out BK144.out (by decide)))
       have n4_ := k0 (hb)
       have n5_ := k0 (ho)
       clear HO_145001 BK139 BK140 BK144 HB HO_145000 HO148
       have HO_145001 := n0_
       have BK139 := n1_
       have BK140 := n2_
       have BK144 := n3_
       have HB := n4_
       have HO151 := n5_
       clear n0_ n1_ n2_ n3_ n4_ n5_
       clear ho hb hg hat
       obtain ⟨Ao23, co23, eo23⟩ := Kd.S_slice HO151.out
       (first | subst eo23 | (injection eo23 with f1_ f2_ f3_; have f4_ := f1_.symm; have f5_ := f3_.symm; clear f1_ f2_ f3_; subst f4_; subst f5_))
       refine hK.out _ _ ⟨(blk_cell BK144.out 0).trans rfl, (blk_cell BK144.out 1).trans rfl⟩ (fun hHeld => ?_)
       clear hK K
       refine norm_ (a' := ?_) ?_ ?_
       rotate_left
       ·show Act.put _ (some 22) _ = _
        simp only [Act.put, List.setIfInBounds_toArray, List.set_cons_zero, List.set_cons_succ, i64_w, i32_w]
        rfl
       refine kP 6 23 8 127 HT_.out ?_
       refine last_ (i := 7) (N := none) (bt 8 255) rfl rfl (one_of HT_.out (by kernel_rfl)) (by decide) (fun K hK => ?_)
       have hs24 : w21.cell? ⟨gb144, 0, none⟩ = some (u145000) := (blk_cell BK144.out 0).trans rfl
       have hfs24 := blk_frozen BK144.out 0
       have hns24_0 := NB139_144.out
       have hns24_1 := NB140_144.out
       have hms24_0 := NB144_139.out
       have hms24_1 := NB144_140.out
       refine skip_ (w1 := ?_) (by rfl) rfl ?_ ?_
       rotate_left
       ·go_simp
        rfl
       refine hK.out _ _ ?_
       clear hK K
       refine done_ (done_of HT_.out (by kernel_rfl)) ?_
       try go_wp2
       go_roundg k1
       case measure => have := HK1.out; omega
       case rel => exact ⟨(wrap64 (x13_1 + 1)), (y149), (.slice Ao23 y149.length co23), (by first | rfl | (simp; done) | (simp [*]; done)), H', ⟨by have := HK1.out; omega⟩, ⟨by (with_reducible repeat (first | apply Kd.S_alloc | apply Kd.S_drewN | apply Kd.S_drew)); exact Kd.S_mono (Kd.S_far (p := ⟨gb144, 0, none⟩) (Kd.S_types HO151.out BK144.out (by decide)) (fun _ hk => hk.2) (.slice Ao23 y149.length co23)) (fun _ hk => hk.1)⟩, ⟨by (with_reducible repeat (first | apply Kd.R_alloc | apply Kd.R_drewN | apply Kd.R_drew)); exact Kd.R_mono (Kd.R_far (p := ⟨gb144, 0, none⟩) (Kd.R_types HO_145001.out BK144.out (by decide)) (fun _ hk => hk.2) (.slice Ao23 y149.length co23)) (fun _ hk => trivial)⟩, ⟨by (with_reducible repeat first | apply k1 | apply k2 | apply k3); refine blk_far ?_ NB139_144.out _; (with_reducible repeat first | apply k1 | apply k2 | apply k3); exact BK139.out⟩, ⟨by (with_reducible repeat first | apply k1 | apply k2 | apply k3); refine blk_far ?_ NB140_144.out _; (with_reducible repeat first | apply k1 | apply k2 | apply k3); exact BK140.out⟩, ⟨by (with_reducible repeat first | apply k1 | apply k2 | apply k3); refine blk_put (cs := #[u145000, .slice Ao8 t141.length co8]) ?_ 0 _ rfl; (with_reducible repeat first | apply k1 | apply k2 | apply k3); exact BK144.out⟩, ⟨by repeat (first | (with_reducible first | exact HB.out | apply below_alloc | apply pw_below_drewN | apply below_drew1 | refine below_set ?_ GE139.out | refine below_set ?_ GE140.out | refine below_set ?_ GE144.out) | exact HB.out)⟩⟩
      ·rw [if_neg c18] at H
       exact absurd H (by simp)
     ·rw [if_neg c16] at H
      exact absurd H (by simp)
    ·rw [if_neg c15] at H
     exact absurd H (by simp)
   ·rw [if_neg c14] at H
    have c14b0 : decide (x13_1 < (l0_0.length : Int)) = false := decide_eq_false c14
    clear c14
    simp only [Option.some.injEq, Prod.mk.injEq] at H
    obtain ⟨rfl, rfl⟩ := H
    have hnb25 := NB144_139.out
    have hnc25 := NB139_144.out
    have hnb26 := NB144_140.out
    have hnc26 := NB140_144.out
    have hcz27_0 : wr.cell? ⟨gb144, 0, none⟩ = some (u145000) := kx BK144.out
    have hcz27_1 : wr.cell? ⟨gb144, 1, none⟩ = some (.slice Ao8 t141.length co8) := kx BK144.out
    have hfz27_0 := blk_frozen BK144.out 0
    have hfz27_1 := blk_frozen BK144.out 1
    obtain ⟨Ao28, co28, eo28⟩ := Kd.S_slice HO_145000.out
    subst eo28
    have hnb29 := NB140_139.out
    have hnc29 := NB139_140.out
    have hcz30_0 : wr.cell? ⟨gb140, 0, none⟩ = some (.slice none 0 0) := kx BK140.out
    have hcz30_1 : wr.cell? ⟨gb140, 1, none⟩ = some (.slice none 0 0) := kx BK140.out
    have hfz30_0 := blk_frozen BK140.out 0
    have hfz30_1 := blk_frozen BK140.out 1
    go_wp2
    refine bodyPost_ret (results_cell_row rfl _ _ gb140 28 #[.slice Ao28 x145000_1.length co28, .slice Ao8 t141.length co8] (0, 0) _ rfl (by (with_reducible repeat first | apply k1 | apply k2 | apply k3); refine blk_put (cs := #[.slice Ao28 x145000_1.length co28, .slice none 0 0]) ?_ 1 _ rfl; (with_reducible repeat first | apply k1 | apply k2 | apply k3); refine blk_put (cs := #[.slice none 0 0, .slice none 0 0]) ?_ 0 _ rfl; (with_reducible repeat first | apply k1 | apply k2 | apply k3); exact BK140.out) Try.underlying28 rfl (by kernel_rfl)) rfl ?_
    exact ⟨_, _, by first | rfl | (simp [errW_none, errW_some] <;> rfl) | (simp [*, errW_none, errW_some] <;> rfl), by (with_reducible repeat (first | apply Kd.S_alloc | apply Kd.S_drewN | apply Kd.S_drew)); exact Kd.S_mono (Kd.S_far (p := ⟨gb140, 1, none⟩) (Kd.S_far (p := ⟨gb140, 0, none⟩) (Kd.S_types HO_145000.out BK140.out (by decide)) (fun _ hk => hk.2) (.slice Ao28 x145000_1.length co28)) (fun _ hk => hk.2) (.slice Ao8 t141.length co8)) (fun _ hk => hk.1), by (with_reducible repeat (first | apply Kd.R_alloc | apply Kd.R_drewN | apply Kd.R_drew)); exact Kd.R_mono (Kd.R_far (p := ⟨gb140, 1, none⟩) (Kd.R_far (p := ⟨gb140, 0, none⟩) (Kd.R_types HO_145001.out BK140.out (by decide)) (fun _ hk => hk.2) (.slice Ao28 x145000_1.length co28)) (fun _ hk => hk.2) (.slice Ao8 t141.length co8)) (fun _ hk => trivial), by repeat (first | (with_reducible first | exact HB.out | apply below_alloc | apply pw_below_drewN | apply below_drew1 | refine below_set ?_ GE139.out | refine below_set ?_ GE140.out | refine below_set ?_ GE144.out) | exact HB.out)⟩

/-! ### impl_IsAmt: function 69 -/
def impl_IsAmt.f (a0 : Int) : Option (Bool) := (impl_in.f a0 1 1000000000).bind fun t152 => (some t152)
set_option maxHeartbeats 8000000 in
set_option maxRecDepth 100000 in
theorem impl_IsAmt.calls (a0 : Int) (r : Bool) (w : World) (h : impl_IsAmt.f a0 = some r) :
  Calls Try.prog 69 #[.int .i64 a0] w fun e w' => e = .returned (.bool r) ∧ Drawn0 w w' := by
 have H : ((impl_in.f a0 1 1000000000).bind fun t152 => (some t152)) = some r := h
 clear h
 replace H := Option.bind_eq_some_iff.mp H
 obtain ⟨t152, A20, H⟩ := H
 replace H : (some t152) = some r := H
 have A2 := Aside0.mk A20
 clear A20
 obtain rfl := Option.some.inj H
 go_enter Try.func69, Try.ntmps69
 go_wp2_with (first | ((with_reducible refine gate_callee (f := 44) rfl ?_); refine kG (some 4) Try.func44 #[.int .i64 a0, .int .i64 1, .int .i64 1000000000] ?_; (with_reducible refine (impl_in.calls a0 1 1000000000 t152 _ A2.out).mono ?_); rintro e w' ⟨rfl, ⟨nd, rfl⟩⟩; refine ⟨_, rfl, ?_⟩))
 go_ret
 exact ⟨by first | rfl | (simp; done) | (simp [*]; done), by repeat (first | exact Drawn0.refl _ | apply Drawn0.step)⟩

-- NOT PRINTED: function 59 (impl_changed)

/-! ### impl_Mint: function 29 -/
section
open Go.Proofs.Ytcnanifokpcjaaa.Chn
set_option maxHeartbeats 4000000 in
set_option maxRecDepth 100000 in
theorem impl_Mint_1.calls (g gi g0 g1 c0 c1 n m : Nat) (i : Int) (v1 : Value) (w : World) (hg : w.heap[g]? = some (.cells #[.slice (some ⟨g0, 0, none⟩) n c0, v1] 28 (0, 0))) (hi : w.cell? ⟨gi, 0, none⟩ = some (.int .i64 i)) (hc : w.cell? ⟨g0, i.toNat, none⟩ = some (.slice (some ⟨g1, 0, none⟩) m c1)) (h0 : 0 ≤ i) (h1 : i < (n : Int)) (h3 : i < (m : Int)) :
  Calls Try.prog 60 #[.pointer (some ⟨g, 0, none⟩), .pointer (some ⟨gi, 0, none⟩)] w fun e w' => e = .returned (.pointer (some ⟨g1, i.toNat, none⟩)) ∧ Drawn0 w w' := by
 have hz0 : w.cell? ⟨g, 0, none⟩ = some (.slice (some ⟨g0, 0, none⟩) n c0) := (blk_cell hg 0).trans rfl
 clear hg
 have b0 := decide_eq_true h0
 have b1 := decide_eq_true h1
 skip
 have b3 := decide_eq_true h3
 replace h0 := eq_true h0
 replace h1 := eq_true h1
 skip
 replace h3 := eq_true h3
 go_enter Try.func60, Try.ntmps60
 go_wp2
 repeat (go_quiet (fail); try go_wp2)
 go_ret
 exact ⟨by first | rfl | (simp; done) | (simp [*]; done), by repeat (first | exact Drawn0.refl _ | apply Drawn0.step)⟩
def impl_Mint.upd (x : List (List Int)) (y : List Int) (a1 a3 : Int) : Option (List (List Int) × List Int) := if 0 ≤ a1 then (if a1 < (x.length : Int) then (if a1 < ((x.getD a1.toNat []).length : Int) then some (x.set a1.toNat ((x.getD a1.toNat []).set a1.toNat (wrap64 ((rd (x.getD a1.toNat []) a1) + a3))), y) else none) else none) else none
def impl_changed_Mint.f (k : Nat) (l0_0 : List (List Int)) (l0_1 : List Int) (a1 a3 : Int) : Option (List (List Int) × List Int × Bool) := (impl_RightsOk.f k l0_0 l0_1).bind fun t1 => if t1 = true then ((impl_in.f a1 0 (wrap64 ((l0_1.length : Int) - 1))).bind fun t2 => if t2 = true then ((impl_in.f a1 0 (wrap64 ((l0_1.length : Int) - 1))).bind fun t3 => if t3 = true then ((impl_IsAmt.f a3).bind fun t4 => if t4 = true then ((impl_copyRights.f k l0_0 l0_1).bind fun c => (impl_Mint.upd c.1 c.2 a1 a3).bind fun u => (impl_RightsOk.f k u.1 u.2).bind fun t5 => if t5 = true then some (u.1, u.2, true) else some (([] : List (List Int)), ([] : List Int), false)) else some (([] : List (List Int)), ([] : List Int), false)) else some (([] : List (List Int)), ([] : List Int), false)) else some (([] : List (List Int)), ([] : List Int), false)) else some (([] : List (List Int)), ([] : List Int), false)
theorem impl_changed_Mint.mono : ∀ x0 x1 a1 a3 k, LeO (impl_changed_Mint.f k x0 x1 a1 a3) (impl_changed_Mint.f (k + 1) x0 x1 a1 a3) := by
 intro x0 x1 a1 a3 k
 unfold impl_changed_Mint.f
 repeat' first
   | (with_reducible exact impl_RightsOk.mono _ _ _)
   | (with_reducible exact impl_copyRights.mono _ _ _)
   | (with_reducible exact LeO.refl _)
   | (with_reducible refine LeO.ite ?_ ?_)
   | (with_reducible refine LeO.bind ?_ (fun _ => ?_))
   | exact impl_RightsOk.mono _ _ _
   | exact impl_copyRights.mono _ _ _
   | refine LeO.ite ?_ ?_
   | refine LeO.bind ?_ (fun _ => ?_)
set_option maxHeartbeats 8000000 in
set_option maxRecDepth 100000 in
theorem impl_changed_Mint.calls (k : Nat) (A0_0 : Option Addr) (c0_0 : Nat) (l0_0 : List (List Int)) (A0_1 : Option Addr) (c0_1 : Nat) (l0_1 : List Int) (a1 a3 : Int) (gi : Nat) (r1 : List (List Int)) (r2 : List Int) (r3 : Bool) (w : World) (hr0_0 : Kd.C (Kd.slice 3 (Kd.int .i64)) w A0_0 l0_0.length l0_0) (hc0_0 : l0_0.length ≤ c0_0) (hr0_1 : Kd.C (Kd.int .i64) w A0_1 l0_1.length l0_1) (hc0_1 : l0_1.length ≤ c0_1) (hi : w.cell? ⟨gi, 0, none⟩ = some (.int .i64 a1)) (h : impl_changed_Mint.f k l0_0 l0_1 a1 a3 = some (r1, r2, r3)) :
  Calls Try.prog 59 #[.agg #[.slice A0_0 l0_0.length c0_0, .slice A0_1 l0_1.length c0_1], .int .i64 a1, .int .i64 a1, .int .i64 a3, .func (.func 60) #[] #[.pointer (some ⟨gi, 0, none⟩)]] w fun e w' => ∃ v0_ v1_ : Value, e = .returned (.tuple #[.agg #[v0_, v1_], .bool r3]) ∧ Kd.S (Kd.slice 3 (Kd.int .i64)) 23 w' w.heap.size (fun k_ => some k_ ≠ (v1_ : Value).ownBlock) v0_ r1 ∧ Kd.R (Kd.int .i64) 3 w' w.heap.size (fun _ => True) v1_ r2 ∧ Below w.heap.size w w' := by
 have hu28 := Try.underlying28
 have HR0_0 := Aside0.mk hr0_0
 have HC0_0 := Aside0.mk hc0_0
 have HR0_1 := Aside0.mk hr0_1
 have HC0_1 := Aside0.mk hc0_1
 have HI := Aside0.mk hi
 skip
 clear hr0_0 hc0_0 hr0_1 hc0_1 hi
 have HB := k0 (Below.refl w.heap.size w)
 have CH := k0 (Ch.nil w)
 unfold impl_changed_Mint.f at h
 replace h := Option.bind_eq_some_iff.mp h
 obtain ⟨t1, A10, h⟩ := h
 have A1 := Aside0.mk A10
 clear A10
 cases t1 with
 | false =>
  rw [if_neg (by decide)] at h
  simp only [Option.some.injEq, Prod.mk.injEq] at h
  obtain ⟨rfl, rfl, rfl⟩ := h
  go_enter Try.func59, Try.ntmps59
  go_wp2_with (first
   | ((with_reducible refine gate_dst (N := 5) rfl ?_); refine kE (N := 5) (cs := #[.slice A0_0 l0_0.length c0_0, .slice A0_1 l0_1.length c0_1]) (t := 28) ?_; intro gr hg w1 hbox hb; have n0_ := k0 (Ch.box (kH CH.out) hg hbox hb : Ch w1 [bk gr #[.slice A0_0 l0_0.length c0_0, .slice A0_1 l0_1.length c0_1] 28]); have n1_ := k0 (below_step (kW HB.out) hb : Below w.heap.size w w1); have m0_ := k0 (by rw [hg]; exact HB.out.size : w.heap.size ≤ gr); clear CH HB hb hbox hg; have CH := n0_; have HB := n1_; have GE_gr := m0_; clear n0_ n1_ m0_; obtain ⟨hz2, hz3, hz4, hz5⟩ := kz CH.out 0 rfl)
   | ((with_reducible refine gate_dst (N := 10) rfl ?_); refine kE (N := 10) (cs := #[.slice none 0 0, .slice none 0 0]) (t := 28) ?_; intro go hg w6 hbox hb; have n0_ := k0 (Ch.box (kH CH.out) hg hbox hb : Ch w6 [bk go #[.slice none 0 0, .slice none 0 0] 28, bk gr #[.slice A0_0 l0_0.length c0_0, .slice A0_1 l0_1.length c0_1] 28]); have n1_ := k0 (below_step (kW HB.out) hb : Below w.heap.size w w6); have m0_ := k0 (by rw [hg]; exact HB.out.size : w.heap.size ≤ go); clear CH HB hb hbox hg; have CH := n0_; have HB := n1_; have GE_go := m0_; clear n0_ n1_ m0_; clear hz2 hz3 hz4 hz5; obtain ⟨hz7, hz8, hz9, hz10⟩ := kz CH.out 0 rfl; obtain ⟨hz11, hz12, hz13, hz14⟩ := kz CH.out 1 rfl)
   | ((with_reducible refine gate_callee (f := 16) rfl ?_); refine kG (some 18) Try.func16 #[.agg #[.slice A0_0 l0_0.length c0_0, .slice A0_1 l0_1.length c0_1]] ?_; (with_reducible refine (impl_RightsOk.calls k _ _ l0_0 _ _ l0_1 false _ ?side1 ?side2 ?side3 ?side4 A1.out).mono ?_); (case side1 => repeat (first | exact (Kd.C_below HR0_0.out (kW HB.out)) | (with_reducible refine Kd.C_drewN ?_ _) | (with_reducible refine Kd.C_drew ?_))); (case side2 => exact HC0_0.out); (case side3 => repeat (first | exact (Kd.C_below HR0_1.out (kW HB.out)) | (with_reducible refine Kd.C_drewN ?_ _) | (with_reducible refine Kd.C_drew ?_))); (case side4 => exact HC0_1.out); rintro e w15 ⟨rfl, hb⟩; refine ⟨_, rfl, ?_⟩; have n0_ := k0 (Ch.below (kH CH.out) hb : Ch w15 [bk go #[.slice none 0 0, .slice none 0 0] 28, bk gr #[.slice A0_0 l0_0.length c0_0, .slice A0_1 l0_1.length c0_1] 28]); have n1_ := k0 (below_step (kW HB.out) hb : Below w.heap.size w w15); clear CH HB hb; have CH := n0_; have HB := n1_; clear n0_ n1_ ; clear hz7 hz8 hz9 hz10 hz11 hz12 hz13 hz14; obtain ⟨hz16, hz17, hz18, hz19⟩ := kz CH.out 0 rfl; obtain ⟨hz20, hz21, hz22, hz23⟩ := kz CH.out 1 rfl)
   | ((with_reducible refine gate_store (t := 28) (p := 10) rfl ?_); refine kT (t := 28) (p := 10) ?_; intro w24 hw; have n0_ := k0 (by rw [hw]; exact Ch.to (Ch.set1 (Ch.set1 (kH CH.out) 0 rfl 0 (.slice none 0 0) #[.slice none 0 0, .slice none 0 0] rfl) 0 rfl 1 (.slice none 0 0) #[.slice none 0 0, .slice none 0 0] rfl) rfl : Ch w24 [bk go #[.slice none 0 0, .slice none 0 0] 28, bk gr #[.slice A0_0 l0_0.length c0_0, .slice A0_1 l0_1.length c0_1] 28]); have n1_ := k0 (by rw [hw]; exact (below_set (below_set (kW HB.out) GE_go.out) GE_go.out) : Below w.heap.size w w24); clear CH HB hw; have CH := n0_; have HB := n1_; clear n0_ n1_ ; clear hz16 hz17 hz18 hz19 hz20 hz21 hz22 hz23; obtain ⟨hz25, hz26, hz27, hz28⟩ := kz CH.out 0 rfl; obtain ⟨hz29, hz30, hz31, hz32⟩ := kz CH.out 1 rfl))
  refine bodyPost_ret (results_ct rfl _ _ go 28 #[.slice none 0 0, .slice none 0 0] (0, 0) _ rfl (Ch.blk CH.out 0 rfl) Try.underlying28 rfl (by kernel_rfl)) rfl ?_
  exact ⟨_, _, rfl, Kd.S_nil _ _ _ _ _, Kd.R_nil _ _ _ _ _, HB.out⟩
 | true =>
  rw [if_pos rfl] at h
  replace h := Option.bind_eq_some_iff.mp h
  obtain ⟨t2, A20, h⟩ := h
  have A2 := Aside0.mk A20
  clear A20
  cases t2 with
  | false =>
   rw [if_neg (by decide)] at h
   simp only [Option.some.injEq, Prod.mk.injEq] at h
   obtain ⟨rfl, rfl, rfl⟩ := h
   go_enter Try.func59, Try.ntmps59
   go_wp2_with (first
    | ((with_reducible refine gate_dst (N := 5) rfl ?_); refine kE (N := 5) (cs := #[.slice A0_0 l0_0.length c0_0, .slice A0_1 l0_1.length c0_1]) (t := 28) ?_; intro gr hg w33 hbox hb; have n0_ := k0 (Ch.box (kH CH.out) hg hbox hb : Ch w33 [bk gr #[.slice A0_0 l0_0.length c0_0, .slice A0_1 l0_1.length c0_1] 28]); have n1_ := k0 (below_step (kW HB.out) hb : Below w.heap.size w w33); have m0_ := k0 (by rw [hg]; exact HB.out.size : w.heap.size ≤ gr); clear CH HB hb hbox hg; have CH := n0_; have HB := n1_; have GE_gr := m0_; clear n0_ n1_ m0_; obtain ⟨hz34, hz35, hz36, hz37⟩ := kz CH.out 0 rfl)
    | ((with_reducible refine gate_dst (N := 10) rfl ?_); refine kE (N := 10) (cs := #[.slice none 0 0, .slice none 0 0]) (t := 28) ?_; intro go hg w38 hbox hb; have n0_ := k0 (Ch.box (kH CH.out) hg hbox hb : Ch w38 [bk go #[.slice none 0 0, .slice none 0 0] 28, bk gr #[.slice A0_0 l0_0.length c0_0, .slice A0_1 l0_1.length c0_1] 28]); have n1_ := k0 (below_step (kW HB.out) hb : Below w.heap.size w w38); have m0_ := k0 (by rw [hg]; exact HB.out.size : w.heap.size ≤ go); clear CH HB hb hbox hg; have CH := n0_; have HB := n1_; have GE_go := m0_; clear n0_ n1_ m0_; clear hz34 hz35 hz36 hz37; obtain ⟨hz39, hz40, hz41, hz42⟩ := kz CH.out 0 rfl; obtain ⟨hz43, hz44, hz45, hz46⟩ := kz CH.out 1 rfl)
    | ((with_reducible refine gate_callee (f := 16) rfl ?_); refine kG (some 18) Try.func16 #[.agg #[.slice A0_0 l0_0.length c0_0, .slice A0_1 l0_1.length c0_1]] ?_; (with_reducible refine (impl_RightsOk.calls k _ _ l0_0 _ _ l0_1 true _ ?side1 ?side2 ?side3 ?side4 A1.out).mono ?_); (case side1 => repeat (first | exact (Kd.C_below HR0_0.out (kW HB.out)) | (with_reducible refine Kd.C_drewN ?_ _) | (with_reducible refine Kd.C_drew ?_))); (case side2 => exact HC0_0.out); (case side3 => repeat (first | exact (Kd.C_below HR0_1.out (kW HB.out)) | (with_reducible refine Kd.C_drewN ?_ _) | (with_reducible refine Kd.C_drew ?_))); (case side4 => exact HC0_1.out); rintro e w47 ⟨rfl, hb⟩; refine ⟨_, rfl, ?_⟩; have n0_ := k0 (Ch.below (kH CH.out) hb : Ch w47 [bk go #[.slice none 0 0, .slice none 0 0] 28, bk gr #[.slice A0_0 l0_0.length c0_0, .slice A0_1 l0_1.length c0_1] 28]); have n1_ := k0 (below_step (kW HB.out) hb : Below w.heap.size w w47); clear CH HB hb; have CH := n0_; have HB := n1_; clear n0_ n1_ ; clear hz39 hz40 hz41 hz42 hz43 hz44 hz45 hz46; obtain ⟨hz48, hz49, hz50, hz51⟩ := kz CH.out 0 rfl; obtain ⟨hz52, hz53, hz54, hz55⟩ := kz CH.out 1 rfl)
    | (go_at_call 44; (with_reducible refine (impl_in.calls a1 0 (wrap64 ((l0_1.length : Int) - 1)) false _ A2.out).mono ?_); rintro e w' ⟨rfl, ⟨nd56, rfl⟩⟩)
    | ((with_reducible refine gate_store (t := 28) (p := 10) rfl ?_); refine kT (t := 28) (p := 10) ?_; intro w57 hw; have n0_ := k0 (by rw [hw]; exact Ch.to (Ch.set1 (Ch.set1 (kH CH.out) 0 rfl 0 (.slice none 0 0) #[.slice none 0 0, .slice none 0 0] rfl) 0 rfl 1 (.slice none 0 0) #[.slice none 0 0, .slice none 0 0] rfl) rfl : Ch w57 [bk go #[.slice none 0 0, .slice none 0 0] 28, bk gr #[.slice A0_0 l0_0.length c0_0, .slice A0_1 l0_1.length c0_1] 28]); have n1_ := k0 (by rw [hw]; exact (below_set (below_set (kW HB.out) GE_go.out) GE_go.out) : Below w.heap.size w w57); clear CH HB hw; have CH := n0_; have HB := n1_; clear n0_ n1_ ; clear hz48 hz49 hz50 hz51 hz52 hz53 hz54 hz55; obtain ⟨hz58, hz59, hz60, hz61⟩ := kz CH.out 0 rfl; obtain ⟨hz62, hz63, hz64, hz65⟩ := kz CH.out 1 rfl))
   refine bodyPost_ret (results_ct rfl _ _ go 28 #[.slice none 0 0, .slice none 0 0] (0, 0) _ rfl (Ch.blk CH.out 0 rfl) Try.underlying28 rfl (by kernel_rfl)) rfl ?_
   exact ⟨_, _, rfl, Kd.S_nil _ _ _ _ _, Kd.R_nil _ _ _ _ _, HB.out⟩
  | true =>
   rw [if_pos rfl] at h
   replace h := Option.bind_eq_some_iff.mp h
   obtain ⟨t3, A30, h⟩ := h
   have A3 := Aside0.mk A30
   clear A30
   cases t3 with
   | false =>
    exact absurd (A2.out.symm.trans A3.out) (by simp)
   | true =>
    rw [if_pos rfl] at h
    replace h := Option.bind_eq_some_iff.mp h
    obtain ⟨t4, A40, h⟩ := h
    have A4 := Aside0.mk A40
    clear A40
    cases t4 with
    | false =>
     rw [if_neg (by decide)] at h
     simp only [Option.some.injEq, Prod.mk.injEq] at h
     obtain ⟨rfl, rfl, rfl⟩ := h
     go_enter Try.func59, Try.ntmps59
     go_wp2_with (first
      | ((with_reducible refine gate_dst (N := 5) rfl ?_); refine kE (N := 5) (cs := #[.slice A0_0 l0_0.length c0_0, .slice A0_1 l0_1.length c0_1]) (t := 28) ?_; intro gr hg w66 hbox hb; have n0_ := k0 (Ch.box (kH CH.out) hg hbox hb : Ch w66 [bk gr #[.slice A0_0 l0_0.length c0_0, .slice A0_1 l0_1.length c0_1] 28]); have n1_ := k0 (below_step (kW HB.out) hb : Below w.heap.size w w66); have m0_ := k0 (by rw [hg]; exact HB.out.size : w.heap.size ≤ gr); clear CH HB hb hbox hg; have CH := n0_; have HB := n1_; have GE_gr := m0_; clear n0_ n1_ m0_; obtain ⟨hz67, hz68, hz69, hz70⟩ := kz CH.out 0 rfl)
      | ((with_reducible refine gate_dst (N := 10) rfl ?_); refine kE (N := 10) (cs := #[.slice none 0 0, .slice none 0 0]) (t := 28) ?_; intro go hg w71 hbox hb; have n0_ := k0 (Ch.box (kH CH.out) hg hbox hb : Ch w71 [bk go #[.slice none 0 0, .slice none 0 0] 28, bk gr #[.slice A0_0 l0_0.length c0_0, .slice A0_1 l0_1.length c0_1] 28]); have n1_ := k0 (below_step (kW HB.out) hb : Below w.heap.size w w71); have m0_ := k0 (by rw [hg]; exact HB.out.size : w.heap.size ≤ go); clear CH HB hb hbox hg; have CH := n0_; have HB := n1_; have GE_go := m0_; clear n0_ n1_ m0_; clear hz67 hz68 hz69 hz70; obtain ⟨hz72, hz73, hz74, hz75⟩ := kz CH.out 0 rfl; obtain ⟨hz76, hz77, hz78, hz79⟩ := kz CH.out 1 rfl)
      | ((with_reducible refine gate_callee (f := 16) rfl ?_); refine kG (some 18) Try.func16 #[.agg #[.slice A0_0 l0_0.length c0_0, .slice A0_1 l0_1.length c0_1]] ?_; (with_reducible refine (impl_RightsOk.calls k _ _ l0_0 _ _ l0_1 true _ ?side1 ?side2 ?side3 ?side4 A1.out).mono ?_); (case side1 => repeat (first | exact (Kd.C_below HR0_0.out (kW HB.out)) | (with_reducible refine Kd.C_drewN ?_ _) | (with_reducible refine Kd.C_drew ?_))); (case side2 => exact HC0_0.out); (case side3 => repeat (first | exact (Kd.C_below HR0_1.out (kW HB.out)) | (with_reducible refine Kd.C_drewN ?_ _) | (with_reducible refine Kd.C_drew ?_))); (case side4 => exact HC0_1.out); rintro e w80 ⟨rfl, hb⟩; refine ⟨_, rfl, ?_⟩; have n0_ := k0 (Ch.below (kH CH.out) hb : Ch w80 [bk go #[.slice none 0 0, .slice none 0 0] 28, bk gr #[.slice A0_0 l0_0.length c0_0, .slice A0_1 l0_1.length c0_1] 28]); have n1_ := k0 (below_step (kW HB.out) hb : Below w.heap.size w w80); clear CH HB hb; have CH := n0_; have HB := n1_; clear n0_ n1_ ; clear hz72 hz73 hz74 hz75 hz76 hz77 hz78 hz79; obtain ⟨hz81, hz82, hz83, hz84⟩ := kz CH.out 0 rfl; obtain ⟨hz85, hz86, hz87, hz88⟩ := kz CH.out 1 rfl)
      | (go_at_call 44; (with_reducible refine (impl_in.calls a1 0 (wrap64 ((l0_1.length : Int) - 1)) true _ A2.out).mono ?_); rintro e w' ⟨rfl, ⟨nd89, rfl⟩⟩)
      | (go_at_call 44; (with_reducible refine (impl_in.calls a1 0 (wrap64 ((l0_1.length : Int) - 1)) true _ A3.out).mono ?_); rintro e w' ⟨rfl, ⟨nd90, rfl⟩⟩)
      | (go_at_call 69; (with_reducible refine (impl_IsAmt.calls a3 false _ A4.out).mono ?_); rintro e w' ⟨rfl, ⟨nd91, rfl⟩⟩)
      | ((with_reducible refine gate_store (t := 28) (p := 10) rfl ?_); refine kT (t := 28) (p := 10) ?_; intro w92 hw; have n0_ := k0 (by rw [hw]; exact Ch.to (Ch.set1 (Ch.set1 (kH CH.out) 0 rfl 0 (.slice none 0 0) #[.slice none 0 0, .slice none 0 0] rfl) 0 rfl 1 (.slice none 0 0) #[.slice none 0 0, .slice none 0 0] rfl) rfl : Ch w92 [bk go #[.slice none 0 0, .slice none 0 0] 28, bk gr #[.slice A0_0 l0_0.length c0_0, .slice A0_1 l0_1.length c0_1] 28]); have n1_ := k0 (by rw [hw]; exact (below_set (below_set (kW HB.out) GE_go.out) GE_go.out) : Below w.heap.size w w92); clear CH HB hw; have CH := n0_; have HB := n1_; clear n0_ n1_ ; clear hz81 hz82 hz83 hz84 hz85 hz86 hz87 hz88; obtain ⟨hz93, hz94, hz95, hz96⟩ := kz CH.out 0 rfl; obtain ⟨hz97, hz98, hz99, hz100⟩ := kz CH.out 1 rfl))
     refine bodyPost_ret (results_ct rfl _ _ go 28 #[.slice none 0 0, .slice none 0 0] (0, 0) _ rfl (Ch.blk CH.out 0 rfl) Try.underlying28 rfl (by kernel_rfl)) rfl ?_
     exact ⟨_, _, rfl, Kd.S_nil _ _ _ _ _, Kd.R_nil _ _ _ _ _, HB.out⟩
    | true =>
     rw [if_pos rfl] at h
     replace h := Option.bind_eq_some_iff.mp h
     obtain ⟨⟨x0, x1⟩, A50, h⟩ := h
     have A5 := Aside0.mk A50
     clear A50
     replace h := Option.bind_eq_some_iff.mp h
     obtain ⟨⟨u0, u1⟩, A60, h⟩ := h
     have A6 := Aside0.mk A60
     clear A60
     have hu := A6.out
     unfold impl_Mint.upd at hu
     dsimp only at hu
     by_cases q0 : 0 ≤ a1
     case neg => rw [if_neg q0] at hu; cases hu
     rw [if_pos q0] at hu
     by_cases q1 : a1 < (x0.length : Int)
     case neg => rw [if_neg q1] at hu; cases hu
     rw [if_pos q1] at hu
     by_cases q3 : a1 < ((x0.getD a1.toNat []).length : Int)
     case neg => rw [if_neg q3] at hu; cases hu
     rw [if_pos q3] at hu
     simp only [Option.some.injEq, Prod.mk.injEq] at hu
     obtain ⟨eu0, eu1⟩ := hu
     have Q0 := Aside0.mk q0
     have Q1 := Aside0.mk q1
     have Q3 := Aside0.mk q3
     have E0 := Aside0.mk eu0.symm
     have E1 := Aside0.mk eu1.symm
     clear q0 q1 q3 eu0 eu1
     replace h := Option.bind_eq_some_iff.mp h
     obtain ⟨t7, A70, h⟩ := h
     have A7 := Aside0.mk A70
     clear A70
     have ex : x1 = u1 := E1.out.symm
     subst ex
     cases t7 with
     | false =>
      rw [if_neg (by decide)] at h
      simp only [Option.some.injEq, Prod.mk.injEq] at h
      obtain ⟨rfl, rfl, rfl⟩ := h
      go_enter Try.func59, Try.ntmps59
      go_wp2_with (first
       | ((with_reducible refine gate_dst (N := 5) rfl ?_); refine kE (N := 5) (cs := #[.slice A0_0 l0_0.length c0_0, .slice A0_1 l0_1.length c0_1]) (t := 28) ?_; intro gr hg w101 hbox hb; have n0_ := k0 (Ch.box (kH CH.out) hg hbox hb : Ch w101 [bk gr #[.slice A0_0 l0_0.length c0_0, .slice A0_1 l0_1.length c0_1] 28]); have n1_ := k0 (below_step (kW HB.out) hb : Below w.heap.size w w101); have m0_ := k0 (by rw [hg]; exact HB.out.size : w.heap.size ≤ gr); clear CH HB hb hbox hg; have CH := n0_; have HB := n1_; have GE_gr := m0_; clear n0_ n1_ m0_; obtain ⟨hz102, hz103, hz104, hz105⟩ := kz CH.out 0 rfl)
       | ((with_reducible refine gate_dst (N := 10) rfl ?_); refine kE (N := 10) (cs := #[.slice none 0 0, .slice none 0 0]) (t := 28) ?_; intro go hg w106 hbox hb; have n0_ := k0 (Ch.box (kH CH.out) hg hbox hb : Ch w106 [bk go #[.slice none 0 0, .slice none 0 0] 28, bk gr #[.slice A0_0 l0_0.length c0_0, .slice A0_1 l0_1.length c0_1] 28]); have n1_ := k0 (below_step (kW HB.out) hb : Below w.heap.size w w106); have m0_ := k0 (by rw [hg]; exact HB.out.size : w.heap.size ≤ go); clear CH HB hb hbox hg; have CH := n0_; have HB := n1_; have GE_go := m0_; clear n0_ n1_ m0_; clear hz102 hz103 hz104 hz105; obtain ⟨hz107, hz108, hz109, hz110⟩ := kz CH.out 0 rfl; obtain ⟨hz111, hz112, hz113, hz114⟩ := kz CH.out 1 rfl)
       | ((with_reducible refine gate_callee (f := 16) rfl ?_); refine kG (some 18) Try.func16 #[.agg #[.slice A0_0 l0_0.length c0_0, .slice A0_1 l0_1.length c0_1]] ?_; (with_reducible refine (impl_RightsOk.calls k _ _ l0_0 _ _ l0_1 true _ ?side1 ?side2 ?side3 ?side4 A1.out).mono ?_); (case side1 => repeat (first | exact (Kd.C_below HR0_0.out (kW HB.out)) | (with_reducible refine Kd.C_drewN ?_ _) | (with_reducible refine Kd.C_drew ?_))); (case side2 => exact HC0_0.out); (case side3 => repeat (first | exact (Kd.C_below HR0_1.out (kW HB.out)) | (with_reducible refine Kd.C_drewN ?_ _) | (with_reducible refine Kd.C_drew ?_))); (case side4 => exact HC0_1.out); rintro e w115 ⟨rfl, hb⟩; refine ⟨_, rfl, ?_⟩; have n0_ := k0 (Ch.below (kH CH.out) hb : Ch w115 [bk go #[.slice none 0 0, .slice none 0 0] 28, bk gr #[.slice A0_0 l0_0.length c0_0, .slice A0_1 l0_1.length c0_1] 28]); have n1_ := k0 (below_step (kW HB.out) hb : Below w.heap.size w w115); clear CH HB hb; have CH := n0_; have HB := n1_; clear n0_ n1_ ; clear hz107 hz108 hz109 hz110 hz111 hz112 hz113 hz114; obtain ⟨hz116, hz117, hz118, hz119⟩ := kz CH.out 0 rfl; obtain ⟨hz120, hz121, hz122, hz123⟩ := kz CH.out 1 rfl)
       | (go_at_call 44; (with_reducible refine (impl_in.calls a1 0 (wrap64 ((l0_1.length : Int) - 1)) true _ A2.out).mono ?_); rintro e w' ⟨rfl, ⟨nd124, rfl⟩⟩)
       | (go_at_call 44; (with_reducible refine (impl_in.calls a1 0 (wrap64 ((l0_1.length : Int) - 1)) true _ A3.out).mono ?_); rintro e w' ⟨rfl, ⟨nd125, rfl⟩⟩)
       | (go_at_call 69; (with_reducible refine (impl_IsAmt.calls a3 true _ A4.out).mono ?_); rintro e w' ⟨rfl, ⟨nd126, rfl⟩⟩)
       | ((with_reducible refine gate_callee (f := 53) rfl ?_); refine kG (some 41) Try.func53 #[.agg #[.slice A0_0 l0_0.length c0_0, .slice A0_1 l0_1.length c0_1]] ?_; (with_reducible refine (impl_copyRights.calls k _ _ l0_0 _ _ l0_1 x0 x1 _ ?side1 ?side2 ?side3 ?side4 A5.out).mono ?_); (case side1 => repeat (first | exact (Kd.C_below HR0_0.out (kW HB.out)) | (with_reducible refine Kd.C_drewN ?_ _) | (with_reducible refine Kd.C_drew ?_))); (case side2 => exact HC0_0.out); (case side3 => repeat (first | exact (Kd.C_below HR0_1.out (kW HB.out)) | (with_reducible refine Kd.C_drewN ?_ _) | (with_reducible refine Kd.C_drew ?_))); (case side4 => exact HC0_1.out); rintro e w127 ⟨v0_, v1_, rfl, h0_, h1_, hb⟩; refine ⟨_, rfl, ?_⟩; obtain ⟨Aacp, cacp, e0_⟩ := Kd.S_slice h0_; subst e0_; obtain ⟨Abcp, cbcp, e1_⟩ := Kd.R_slice h1_; subst e1_; obtain ⟨lo_cp, hlo_⟩ : ∃ z_ : Nat, z_ = (w115).heap.size := ⟨_, rfl⟩; obtain ⟨hi_cp, hhi_⟩ : ∃ z_ : Nat, z_ = (w127).heap.size := ⟨_, rfl⟩; have n0_ := k0 (by rw [hlo_, hhi_]; exact Ch.to (Ch.madeT (kH CH.out) (by exact HB.out.size) h0_ (fun _ hk => hk) h1_ hb) rfl : Ch w127 [rt w.heap.size (Kd.slice 3 (Kd.int .i64)) 23 (Kd.int .i64) 3 lo_cp hi_cp (.slice Aacp x0.length cacp) (.slice Abcp x1.length cbcp) x0 x1, bk go #[.slice none 0 0, .slice none 0 0] 28, bk gr #[.slice A0_0 l0_0.length c0_0, .slice A0_1 l0_1.length c0_1] 28]); have n1_ := k0 (below_step (kW HB.out) hb : Below w.heap.size w w127); clear CH HB hb h0_ h1_ hlo_ hhi_; have CH := n0_; have HB := n1_; clear n0_ n1_ ; clear hz116 hz117 hz118 hz119 hz120 hz121 hz122 hz123; obtain ⟨hz128, hz129, hz130, hz131⟩ := kz CH.out 1 rfl; obtain ⟨hz132, hz133, hz134, hz135⟩ := kz CH.out 2 rfl)
       | ((with_reducible refine gate_dst (N := 13) rfl ?_); refine kE (N := 13) (cs := #[.slice none 0 0, .slice none 0 0]) (t := 28) ?_; intro gp hg w136 hbox hb; have n0_ := k0 (Ch.box (kH CH.out) hg hbox hb : Ch w136 [bk gp #[.slice none 0 0, .slice none 0 0] 28, rt w.heap.size (Kd.slice 3 (Kd.int .i64)) 23 (Kd.int .i64) 3 lo_cp hi_cp (.slice Aacp x0.length cacp) (.slice Abcp x1.length cbcp) x0 x1, bk go #[.slice none 0 0, .slice none 0 0] 28, bk gr #[.slice A0_0 l0_0.length c0_0, .slice A0_1 l0_1.length c0_1] 28]); have n1_ := k0 (below_step (kW HB.out) hb : Below w.heap.size w w136); have m0_ := k0 (by rw [hg]; exact HB.out.size : w.heap.size ≤ gp); clear CH HB hb hbox hg; have CH := n0_; have HB := n1_; have GE_gp := m0_; clear n0_ n1_ m0_; clear hz128 hz129 hz130 hz131 hz132 hz133 hz134 hz135; obtain ⟨hz137, hz138, hz139, hz140⟩ := kz CH.out 0 rfl; obtain ⟨hz141, hz142, hz143, hz144⟩ := kz CH.out 2 rfl; obtain ⟨hz145, hz146, hz147, hz148⟩ := kz CH.out 3 rfl)
       | ((with_reducible refine gate_store (t := 28) (p := 13) rfl ?_); refine kT (t := 28) (p := 13) ?_; intro w149 hw; have n0_ := k0 (by rw [hw]; exact Ch.to (Ch.set1 (Ch.set1 (kH CH.out) 0 rfl 0 (.slice Aacp x0.length cacp) #[.slice Aacp x0.length cacp, .slice none 0 0] rfl) 0 rfl 1 (.slice Abcp x1.length cbcp) #[.slice Aacp x0.length cacp, .slice Abcp x1.length cbcp] rfl) rfl : Ch w149 [bk gp #[.slice Aacp x0.length cacp, .slice Abcp x1.length cbcp] 28, rt w.heap.size (Kd.slice 3 (Kd.int .i64)) 23 (Kd.int .i64) 3 lo_cp hi_cp (.slice Aacp x0.length cacp) (.slice Abcp x1.length cbcp) x0 x1, bk go #[.slice none 0 0, .slice none 0 0] 28, bk gr #[.slice A0_0 l0_0.length c0_0, .slice A0_1 l0_1.length c0_1] 28]); have n1_ := k0 (by rw [hw]; exact (below_set (below_set (kW HB.out) GE_gp.out) GE_gp.out) : Below w.heap.size w w149); clear CH HB hw; have CH := n0_; have HB := n1_; clear n0_ n1_ ; clear hz137 hz138 hz139 hz140 hz141 hz142 hz143 hz144 hz145 hz146 hz147 hz148; obtain ⟨hz150, hz151, hz152, hz153⟩ := kz CH.out 0 rfl; obtain ⟨hz154, hz155, hz156, hz157⟩ := kz CH.out 2 rfl; obtain ⟨hz158, hz159, hz160, hz161⟩ := kz CH.out 3 rfl; obtain ⟨g0, g1, c1, eA_, hc, hb1, hv, hfz, hput⟩ := Ch.rt_elem CH.out 1 rfl a1 a1 Q0.out Q1.out Q0.out Q3.out; subst eA_; have HCc := Aside0.mk hc; clear hc; have HV := Aside0.mk hv; have HFZ := Aside0.mk hfz; have HP := Aside0.mk hput; have HB1 := Aside0.mk hb1; clear hv hfz hput hb1)
       | (go_at_call 60; (with_reducible refine (impl_Mint_1.calls gp gi g0 g1 cacp c1 x0.length (x0.getD a1.toNat []).length a1 (.slice Abcp x1.length cbcp) _ ?side1 ?side2 ?side3 ?side4 ?side5 ?side6).mono ?_); (case side1 => exact Ch.blk CH.out 0 rfl); (case side2 => exact pw_cell_below HB.out HI.out); (case side3 => exact HCc.out); (case side4 => exact Q0.out); (case side5 => exact Q1.out); (case side6 => exact Q3.out); rintro e w' ⟨rfl, ⟨nd162, rfl⟩⟩; have hv := HV.out; have hfz := HFZ.out)
       | ((with_reducible refine gate_store (t := 3) (p := 48) rfl ?_); refine kT (t := 3) (p := 48) ?_; intro w163 hw; have n0_ := k0 (by rw [hw, E0.out]; exact Ch.to (Ch.drewN (HP.out _) _) rfl : Ch w163 [bk gp #[.slice (some ⟨g0, 0, none⟩) x0.length cacp, .slice Abcp x1.length cbcp] 28, rt w.heap.size (Kd.slice 3 (Kd.int .i64)) 23 (Kd.int .i64) 3 lo_cp hi_cp (.slice (some ⟨g0, 0, none⟩) x0.length cacp) (.slice Abcp x1.length cbcp) u0 x1, bk go #[.slice none 0 0, .slice none 0 0] 28, bk gr #[.slice A0_0 l0_0.length c0_0, .slice A0_1 l0_1.length c0_1] 28]); have n1_ := k0 (by rw [hw]; exact below_set (kW HB.out) HB1.out : Below w.heap.size w w163); clear CH HB hw hv hfz HP HV HFZ; have CH := n0_; have HB := n1_; clear n0_ n1_ ; have HLN := k0 (by rw [E0.out, List.length_set] : u0.length = x0.length); clear hz150 hz151 hz152 hz153 hz154 hz155 hz156 hz157 hz158 hz159 hz160 hz161; obtain ⟨hz164, hz165, hz166, hz167⟩ := kz CH.out 0 rfl; obtain ⟨hz168, hz169, hz170, hz171⟩ := kz CH.out 2 rfl; obtain ⟨hz172, hz173, hz174, hz175⟩ := kz CH.out 3 rfl)
       | ((with_reducible refine gate_callee (f := 16) rfl ?_); refine goesL_ (some 50) rfl rfl Try.func16 (by kernel_rfl) rfl #[.agg #[.slice (some ⟨g0, 0, none⟩) u0.length cacp, .slice Abcp x1.length cbcp]] rfl (by (try simp only [List.map_toArray, List.map_cons, List.map_nil]); first | done | rfl | (rw [HLN.out] <;> rfl)) ?_; (with_reducible refine (impl_RightsOk.calls k _ _ u0 _ _ x1 false _ ?side1 ?side2 ?side3 ?side4 A7.out).mono ?_); (case side1 => repeat (first | exact Ch.rt_C0 CH.out 1 rfl | (with_reducible refine Kd.C_drewN ?_ _) | (with_reducible refine Kd.C_drew ?_))); (case side2 => exact Ch.rt_l0 CH.out 1 rfl); (case side3 => repeat (first | exact Ch.rt_C1 CH.out 1 rfl | (with_reducible refine Kd.C_drewN ?_ _) | (with_reducible refine Kd.C_drew ?_))); (case side4 => exact Ch.rt_l1 CH.out 1 rfl); rintro e w176 ⟨rfl, hb⟩; refine ⟨_, rfl, ?_⟩; have n0_ := k0 (Ch.below (kH CH.out) hb : Ch w176 [bk gp #[.slice (some ⟨g0, 0, none⟩) x0.length cacp, .slice Abcp x1.length cbcp] 28, rt w.heap.size (Kd.slice 3 (Kd.int .i64)) 23 (Kd.int .i64) 3 lo_cp hi_cp (.slice (some ⟨g0, 0, none⟩) x0.length cacp) (.slice Abcp x1.length cbcp) u0 x1, bk go #[.slice none 0 0, .slice none 0 0] 28, bk gr #[.slice A0_0 l0_0.length c0_0, .slice A0_1 l0_1.length c0_1] 28]); have n1_ := k0 (below_step (kW HB.out) hb : Below w.heap.size w w176); clear CH HB hb; have CH := n0_; have HB := n1_; clear n0_ n1_ ; clear hz164 hz165 hz166 hz167 hz168 hz169 hz170 hz171 hz172 hz173 hz174 hz175; obtain ⟨hz177, hz178, hz179, hz180⟩ := kz CH.out 0 rfl; obtain ⟨hz181, hz182, hz183, hz184⟩ := kz CH.out 2 rfl; obtain ⟨hz185, hz186, hz187, hz188⟩ := kz CH.out 3 rfl)
       | ((with_reducible refine gate_store (t := 28) (p := 10) rfl ?_); refine kT (t := 28) (p := 10) ?_; intro w189 hw; have n0_ := k0 (by rw [hw]; exact Ch.to (Ch.set1 (Ch.set1 (kH CH.out) 2 rfl 0 (.slice none 0 0) #[.slice none 0 0, .slice none 0 0] rfl) 2 rfl 1 (.slice none 0 0) #[.slice none 0 0, .slice none 0 0] rfl) rfl : Ch w189 [bk gp #[.slice (some ⟨g0, 0, none⟩) x0.length cacp, .slice Abcp x1.length cbcp] 28, rt w.heap.size (Kd.slice 3 (Kd.int .i64)) 23 (Kd.int .i64) 3 lo_cp hi_cp (.slice (some ⟨g0, 0, none⟩) x0.length cacp) (.slice Abcp x1.length cbcp) u0 x1, bk go #[.slice none 0 0, .slice none 0 0] 28, bk gr #[.slice A0_0 l0_0.length c0_0, .slice A0_1 l0_1.length c0_1] 28]); have n1_ := k0 (by rw [hw]; exact (below_set (below_set (kW HB.out) GE_go.out) GE_go.out) : Below w.heap.size w w189); clear CH HB hw; have CH := n0_; have HB := n1_; clear n0_ n1_ ; clear hz177 hz178 hz179 hz180 hz181 hz182 hz183 hz184 hz185 hz186 hz187 hz188; obtain ⟨hz190, hz191, hz192, hz193⟩ := kz CH.out 0 rfl; obtain ⟨hz194, hz195, hz196, hz197⟩ := kz CH.out 2 rfl; obtain ⟨hz198, hz199, hz200, hz201⟩ := kz CH.out 3 rfl))
      refine bodyPost_ret (results_ct rfl _ _ go 28 #[.slice none 0 0, .slice none 0 0] (0, 0) _ rfl (Ch.blk CH.out 2 rfl) Try.underlying28 rfl (by kernel_rfl)) rfl ?_
      exact ⟨_, _, rfl, Kd.S_nil _ _ _ _ _, Kd.R_nil _ _ _ _ _, HB.out⟩
     | true =>
      rw [if_pos rfl] at h
      simp only [Option.some.injEq, Prod.mk.injEq] at h
      obtain ⟨rfl, rfl, rfl⟩ := h
      go_enter Try.func59, Try.ntmps59
      go_wp2_with (first
       | ((with_reducible refine gate_dst (N := 5) rfl ?_); refine kE (N := 5) (cs := #[.slice A0_0 l0_0.length c0_0, .slice A0_1 l0_1.length c0_1]) (t := 28) ?_; intro gr hg w202 hbox hb; have n0_ := k0 (Ch.box (kH CH.out) hg hbox hb : Ch w202 [bk gr #[.slice A0_0 l0_0.length c0_0, .slice A0_1 l0_1.length c0_1] 28]); have n1_ := k0 (below_step (kW HB.out) hb : Below w.heap.size w w202); have m0_ := k0 (by rw [hg]; exact HB.out.size : w.heap.size ≤ gr); clear CH HB hb hbox hg; have CH := n0_; have HB := n1_; have GE_gr := m0_; clear n0_ n1_ m0_; obtain ⟨hz203, hz204, hz205, hz206⟩ := kz CH.out 0 rfl)
       | ((with_reducible refine gate_dst (N := 10) rfl ?_); refine kE (N := 10) (cs := #[.slice none 0 0, .slice none 0 0]) (t := 28) ?_; intro go hg w207 hbox hb; have n0_ := k0 (Ch.box (kH CH.out) hg hbox hb : Ch w207 [bk go #[.slice none 0 0, .slice none 0 0] 28, bk gr #[.slice A0_0 l0_0.length c0_0, .slice A0_1 l0_1.length c0_1] 28]); have n1_ := k0 (below_step (kW HB.out) hb : Below w.heap.size w w207); have m0_ := k0 (by rw [hg]; exact HB.out.size : w.heap.size ≤ go); clear CH HB hb hbox hg; have CH := n0_; have HB := n1_; have GE_go := m0_; clear n0_ n1_ m0_; clear hz203 hz204 hz205 hz206; obtain ⟨hz208, hz209, hz210, hz211⟩ := kz CH.out 0 rfl; obtain ⟨hz212, hz213, hz214, hz215⟩ := kz CH.out 1 rfl)
       | ((with_reducible refine gate_callee (f := 16) rfl ?_); refine kG (some 18) Try.func16 #[.agg #[.slice A0_0 l0_0.length c0_0, .slice A0_1 l0_1.length c0_1]] ?_; (with_reducible refine (impl_RightsOk.calls k _ _ l0_0 _ _ l0_1 true _ ?side1 ?side2 ?side3 ?side4 A1.out).mono ?_); (case side1 => repeat (first | exact (Kd.C_below HR0_0.out (kW HB.out)) | (with_reducible refine Kd.C_drewN ?_ _) | (with_reducible refine Kd.C_drew ?_))); (case side2 => exact HC0_0.out); (case side3 => repeat (first | exact (Kd.C_below HR0_1.out (kW HB.out)) | (with_reducible refine Kd.C_drewN ?_ _) | (with_reducible refine Kd.C_drew ?_))); (case side4 => exact HC0_1.out); rintro e w216 ⟨rfl, hb⟩; refine ⟨_, rfl, ?_⟩; have n0_ := k0 (Ch.below (kH CH.out) hb : Ch w216 [bk go #[.slice none 0 0, .slice none 0 0] 28, bk gr #[.slice A0_0 l0_0.length c0_0, .slice A0_1 l0_1.length c0_1] 28]); have n1_ := k0 (below_step (kW HB.out) hb : Below w.heap.size w w216); clear CH HB hb; have CH := n0_; have HB := n1_; clear n0_ n1_ ; clear hz208 hz209 hz210 hz211 hz212 hz213 hz214 hz215; obtain ⟨hz217, hz218, hz219, hz220⟩ := kz CH.out 0 rfl; obtain ⟨hz221, hz222, hz223, hz224⟩ := kz CH.out 1 rfl)
       | (go_at_call 44; (with_reducible refine (impl_in.calls a1 0 (wrap64 ((l0_1.length : Int) - 1)) true _ A2.out).mono ?_); rintro e w' ⟨rfl, ⟨nd225, rfl⟩⟩)
       | (go_at_call 44; (with_reducible refine (impl_in.calls a1 0 (wrap64 ((l0_1.length : Int) - 1)) true _ A3.out).mono ?_); rintro e w' ⟨rfl, ⟨nd226, rfl⟩⟩)
       | (go_at_call 69; (with_reducible refine (impl_IsAmt.calls a3 true _ A4.out).mono ?_); rintro e w' ⟨rfl, ⟨nd227, rfl⟩⟩)
       | ((with_reducible refine gate_callee (f := 53) rfl ?_); refine kG (some 41) Try.func53 #[.agg #[.slice A0_0 l0_0.length c0_0, .slice A0_1 l0_1.length c0_1]] ?_; (with_reducible refine (impl_copyRights.calls k _ _ l0_0 _ _ l0_1 x0 x1 _ ?side1 ?side2 ?side3 ?side4 A5.out).mono ?_); (case side1 => repeat (first | exact (Kd.C_below HR0_0.out (kW HB.out)) | (with_reducible refine Kd.C_drewN ?_ _) | (with_reducible refine Kd.C_drew ?_))); (case side2 => exact HC0_0.out); (case side3 => repeat (first | exact (Kd.C_below HR0_1.out (kW HB.out)) | (with_reducible refine Kd.C_drewN ?_ _) | (with_reducible refine Kd.C_drew ?_))); (case side4 => exact HC0_1.out); rintro e w228 ⟨v0_, v1_, rfl, h0_, h1_, hb⟩; refine ⟨_, rfl, ?_⟩; obtain ⟨Aacp, cacp, e0_⟩ := Kd.S_slice h0_; subst e0_; obtain ⟨Abcp, cbcp, e1_⟩ := Kd.R_slice h1_; subst e1_; obtain ⟨lo_cp, hlo_⟩ : ∃ z_ : Nat, z_ = (w216).heap.size := ⟨_, rfl⟩; obtain ⟨hi_cp, hhi_⟩ : ∃ z_ : Nat, z_ = (w228).heap.size := ⟨_, rfl⟩; have n0_ := k0 (by rw [hlo_, hhi_]; exact Ch.to (Ch.madeT (kH CH.out) (by exact HB.out.size) h0_ (fun _ hk => hk) h1_ hb) rfl : Ch w228 [rt w.heap.size (Kd.slice 3 (Kd.int .i64)) 23 (Kd.int .i64) 3 lo_cp hi_cp (.slice Aacp x0.length cacp) (.slice Abcp x1.length cbcp) x0 x1, bk go #[.slice none 0 0, .slice none 0 0] 28, bk gr #[.slice A0_0 l0_0.length c0_0, .slice A0_1 l0_1.length c0_1] 28]); have n1_ := k0 (below_step (kW HB.out) hb : Below w.heap.size w w228); clear CH HB hb h0_ h1_ hlo_ hhi_; have CH := n0_; have HB := n1_; clear n0_ n1_ ; clear hz217 hz218 hz219 hz220 hz221 hz222 hz223 hz224; obtain ⟨hz229, hz230, hz231, hz232⟩ := kz CH.out 1 rfl; obtain ⟨hz233, hz234, hz235, hz236⟩ := kz CH.out 2 rfl)
       | ((with_reducible refine gate_dst (N := 13) rfl ?_); refine kE (N := 13) (cs := #[.slice none 0 0, .slice none 0 0]) (t := 28) ?_; intro gp hg w237 hbox hb; have n0_ := k0 (Ch.box (kH CH.out) hg hbox hb : Ch w237 [bk gp #[.slice none 0 0, .slice none 0 0] 28, rt w.heap.size (Kd.slice 3 (Kd.int .i64)) 23 (Kd.int .i64) 3 lo_cp hi_cp (.slice Aacp x0.length cacp) (.slice Abcp x1.length cbcp) x0 x1, bk go #[.slice none 0 0, .slice none 0 0] 28, bk gr #[.slice A0_0 l0_0.length c0_0, .slice A0_1 l0_1.length c0_1] 28]); have n1_ := k0 (below_step (kW HB.out) hb : Below w.heap.size w w237); have m0_ := k0 (by rw [hg]; exact HB.out.size : w.heap.size ≤ gp); clear CH HB hb hbox hg; have CH := n0_; have HB := n1_; have GE_gp := m0_; clear n0_ n1_ m0_; clear hz229 hz230 hz231 hz232 hz233 hz234 hz235 hz236; obtain ⟨hz238, hz239, hz240, hz241⟩ := kz CH.out 0 rfl; obtain ⟨hz242, hz243, hz244, hz245⟩ := kz CH.out 2 rfl; obtain ⟨hz246, hz247, hz248, hz249⟩ := kz CH.out 3 rfl)
       | ((with_reducible refine gate_store (t := 28) (p := 13) rfl ?_); refine kT (t := 28) (p := 13) ?_; intro w250 hw; have n0_ := k0 (by rw [hw]; exact Ch.to (Ch.set1 (Ch.set1 (kH CH.out) 0 rfl 0 (.slice Aacp x0.length cacp) #[.slice Aacp x0.length cacp, .slice none 0 0] rfl) 0 rfl 1 (.slice Abcp x1.length cbcp) #[.slice Aacp x0.length cacp, .slice Abcp x1.length cbcp] rfl) rfl : Ch w250 [bk gp #[.slice Aacp x0.length cacp, .slice Abcp x1.length cbcp] 28, rt w.heap.size (Kd.slice 3 (Kd.int .i64)) 23 (Kd.int .i64) 3 lo_cp hi_cp (.slice Aacp x0.length cacp) (.slice Abcp x1.length cbcp) x0 x1, bk go #[.slice none 0 0, .slice none 0 0] 28, bk gr #[.slice A0_0 l0_0.length c0_0, .slice A0_1 l0_1.length c0_1] 28]); have n1_ := k0 (by rw [hw]; exact (below_set (below_set (kW HB.out) GE_gp.out) GE_gp.out) : Below w.heap.size w w250); clear CH HB hw; have CH := n0_; have HB := n1_; clear n0_ n1_ ; clear hz238 hz239 hz240 hz241 hz242 hz243 hz244 hz245 hz246 hz247 hz248 hz249; obtain ⟨hz251, hz252, hz253, hz254⟩ := kz CH.out 0 rfl; obtain ⟨hz255, hz256, hz257, hz258⟩ := kz CH.out 2 rfl; obtain ⟨hz259, hz260, hz261, hz262⟩ := kz CH.out 3 rfl; obtain ⟨g0, g1, c1, eA_, hc, hb1, hv, hfz, hput⟩ := Ch.rt_elem CH.out 1 rfl a1 a1 Q0.out Q1.out Q0.out Q3.out; subst eA_; have HCc := Aside0.mk hc; clear hc; have HV := Aside0.mk hv; have HFZ := Aside0.mk hfz; have HP := Aside0.mk hput; have HB1 := Aside0.mk hb1; clear hv hfz hput hb1)
       | (go_at_call 60; (with_reducible refine (impl_Mint_1.calls gp gi g0 g1 cacp c1 x0.length (x0.getD a1.toNat []).length a1 (.slice Abcp x1.length cbcp) _ ?side1 ?side2 ?side3 ?side4 ?side5 ?side6).mono ?_); (case side1 => exact Ch.blk CH.out 0 rfl); (case side2 => exact pw_cell_below HB.out HI.out); (case side3 => exact HCc.out); (case side4 => exact Q0.out); (case side5 => exact Q1.out); (case side6 => exact Q3.out); rintro e w' ⟨rfl, ⟨nd263, rfl⟩⟩; have hv := HV.out; have hfz := HFZ.out)
       | ((with_reducible refine gate_store (t := 3) (p := 48) rfl ?_); refine kT (t := 3) (p := 48) ?_; intro w264 hw; have n0_ := k0 (by rw [hw, E0.out]; exact Ch.to (Ch.drewN (HP.out _) _) rfl : Ch w264 [bk gp #[.slice (some ⟨g0, 0, none⟩) x0.length cacp, .slice Abcp x1.length cbcp] 28, rt w.heap.size (Kd.slice 3 (Kd.int .i64)) 23 (Kd.int .i64) 3 lo_cp hi_cp (.slice (some ⟨g0, 0, none⟩) x0.length cacp) (.slice Abcp x1.length cbcp) u0 x1, bk go #[.slice none 0 0, .slice none 0 0] 28, bk gr #[.slice A0_0 l0_0.length c0_0, .slice A0_1 l0_1.length c0_1] 28]); have n1_ := k0 (by rw [hw]; exact below_set (kW HB.out) HB1.out : Below w.heap.size w w264); clear CH HB hw hv hfz HP HV HFZ; have CH := n0_; have HB := n1_; clear n0_ n1_ ; have HLN := k0 (by rw [E0.out, List.length_set] : u0.length = x0.length); clear hz251 hz252 hz253 hz254 hz255 hz256 hz257 hz258 hz259 hz260 hz261 hz262; obtain ⟨hz265, hz266, hz267, hz268⟩ := kz CH.out 0 rfl; obtain ⟨hz269, hz270, hz271, hz272⟩ := kz CH.out 2 rfl; obtain ⟨hz273, hz274, hz275, hz276⟩ := kz CH.out 3 rfl)
       | ((with_reducible refine gate_callee (f := 16) rfl ?_); refine goesL_ (some 50) rfl rfl Try.func16 (by kernel_rfl) rfl #[.agg #[.slice (some ⟨g0, 0, none⟩) u0.length cacp, .slice Abcp x1.length cbcp]] rfl (by (try simp only [List.map_toArray, List.map_cons, List.map_nil]); first | done | rfl | (rw [HLN.out] <;> rfl)) ?_; (with_reducible refine (impl_RightsOk.calls k _ _ u0 _ _ x1 true _ ?side1 ?side2 ?side3 ?side4 A7.out).mono ?_); (case side1 => repeat (first | exact Ch.rt_C0 CH.out 1 rfl | (with_reducible refine Kd.C_drewN ?_ _) | (with_reducible refine Kd.C_drew ?_))); (case side2 => exact Ch.rt_l0 CH.out 1 rfl); (case side3 => repeat (first | exact Ch.rt_C1 CH.out 1 rfl | (with_reducible refine Kd.C_drewN ?_ _) | (with_reducible refine Kd.C_drew ?_))); (case side4 => exact Ch.rt_l1 CH.out 1 rfl); rintro e w277 ⟨rfl, hb⟩; refine ⟨_, rfl, ?_⟩; have n0_ := k0 (Ch.below (kH CH.out) hb : Ch w277 [bk gp #[.slice (some ⟨g0, 0, none⟩) x0.length cacp, .slice Abcp x1.length cbcp] 28, rt w.heap.size (Kd.slice 3 (Kd.int .i64)) 23 (Kd.int .i64) 3 lo_cp hi_cp (.slice (some ⟨g0, 0, none⟩) x0.length cacp) (.slice Abcp x1.length cbcp) u0 x1, bk go #[.slice none 0 0, .slice none 0 0] 28, bk gr #[.slice A0_0 l0_0.length c0_0, .slice A0_1 l0_1.length c0_1] 28]); have n1_ := k0 (below_step (kW HB.out) hb : Below w.heap.size w w277); clear CH HB hb; have CH := n0_; have HB := n1_; clear n0_ n1_ ; clear hz265 hz266 hz267 hz268 hz269 hz270 hz271 hz272 hz273 hz274 hz275 hz276; obtain ⟨hz278, hz279, hz280, hz281⟩ := kz CH.out 0 rfl; obtain ⟨hz282, hz283, hz284, hz285⟩ := kz CH.out 2 rfl; obtain ⟨hz286, hz287, hz288, hz289⟩ := kz CH.out 3 rfl)
       | ((with_reducible refine gate_store (t := 28) (p := 10) rfl ?_); refine kT (t := 28) (p := 10) ?_; intro w290 hw; have n0_ := k0 (by rw [hw]; exact Ch.to (Ch.set1 (Ch.set1 (kH CH.out) 2 rfl 0 (.slice (some ⟨g0, 0, none⟩) x0.length cacp) #[.slice (some ⟨g0, 0, none⟩) x0.length cacp, .slice none 0 0] rfl) 2 rfl 1 (.slice Abcp x1.length cbcp) #[.slice (some ⟨g0, 0, none⟩) x0.length cacp, .slice Abcp x1.length cbcp] rfl) rfl : Ch w290 [bk gp #[.slice (some ⟨g0, 0, none⟩) x0.length cacp, .slice Abcp x1.length cbcp] 28, rt w.heap.size (Kd.slice 3 (Kd.int .i64)) 23 (Kd.int .i64) 3 lo_cp hi_cp (.slice (some ⟨g0, 0, none⟩) x0.length cacp) (.slice Abcp x1.length cbcp) u0 x1, bk go #[.slice (some ⟨g0, 0, none⟩) x0.length cacp, .slice Abcp x1.length cbcp] 28, bk gr #[.slice A0_0 l0_0.length c0_0, .slice A0_1 l0_1.length c0_1] 28]); have n1_ := k0 (by rw [hw]; exact (below_set (below_set (kW HB.out) GE_go.out) GE_go.out) : Below w.heap.size w w290); clear CH HB hw; have CH := n0_; have HB := n1_; clear n0_ n1_ ; clear hz278 hz279 hz280 hz281 hz282 hz283 hz284 hz285 hz286 hz287 hz288 hz289; obtain ⟨hz291, hz292, hz293, hz294⟩ := kz CH.out 0 rfl; obtain ⟨hz295, hz296, hz297, hz298⟩ := kz CH.out 2 rfl; obtain ⟨hz299, hz300, hz301, hz302⟩ := kz CH.out 3 rfl))
      refine bodyPost_ret (results_ct rfl _ _ go 28 #[.slice (some ⟨g0, 0, none⟩) x0.length cacp, .slice Abcp x1.length cbcp] (0, 0) _ rfl (Ch.blk CH.out 2 rfl) Try.underlying28 rfl (by kernel_rfl)) rfl ?_
      have hF := Ch.get CH.out 1 rfl
      exact ⟨_, _, rfl, Kd.S_mono hF.1 (fun _ hk => hk.2), Kd.R_mono hF.2 (fun _ _ => trivial), HB.out⟩
def impl_Mint.f (k : Nat) (l0_0 : List (List Int)) (l0_1 : List Int) (a1 a2 : Int) : Option (List (List Int) × List Int × Bool) := impl_changed_Mint.f k l0_0 l0_1 a1 a2
theorem impl_Mint.mono : ∀ x0 x1 a1 a2 k, LeO (impl_Mint.f k x0 x1 a1 a2) (impl_Mint.f (k + 1) x0 x1 a1 a2) := by
 intro x0 x1 a1 a2 k
 unfold impl_Mint.f
 exact impl_changed_Mint.mono _ _ _ _ _
set_option maxHeartbeats 8000000 in
set_option maxRecDepth 100000 in
theorem impl_Mint.calls (k : Nat) (A0_0 : Option Addr) (c0_0 : Nat) (l0_0 : List (List Int)) (A0_1 : Option Addr) (c0_1 : Nat) (l0_1 : List Int) (a1 : Int) (a2 : Int) (r1 : List (List Int)) (r2 : List Int) (r3 : Bool) (w : World) (hr0_0 : Kd.C (Kd.slice 3 (Kd.int .i64)) w A0_0 l0_0.length l0_0) (hc0_0 : l0_0.length ≤ c0_0) (hr0_1 : Kd.C (Kd.int .i64) w A0_1 l0_1.length l0_1) (hc0_1 : l0_1.length ≤ c0_1) (h : impl_Mint.f k l0_0 l0_1 a1 a2 = some (r1, r2, r3)) :
  Calls Try.prog 29 #[.agg #[.slice A0_0 l0_0.length c0_0, .slice A0_1 l0_1.length c0_1], .int .i64 a1, .int .i64 a2] w fun e w' => ∃ v0_ v1_ : Value, e = .returned (.tuple #[.agg #[v0_, v1_], .bool r3]) ∧ Kd.S (Kd.slice 3 (Kd.int .i64)) 23 w' w.heap.size (fun k_ => some k_ ≠ (v1_ : Value).ownBlock) v0_ r1 ∧ Kd.R (Kd.int .i64) 3 w' w.heap.size (fun _ => True) v1_ r2 ∧ Below w.heap.size w w' := by
 have hu28 := Try.underlying28
 have hmf : ∀ (fn : Fn) (first cap : Array Value) (w : World), (Instr.makeFunc fn first cap).run Try.prog w = .ok (.func fn first cap) w := fun _ _ _ _ => rfl
 have HR0_0 := Aside0.mk hr0_0
 have HC0_0 := Aside0.mk hc0_0
 have HR0_1 := Aside0.mk hr0_1
 have HC0_1 := Aside0.mk hc0_1
 clear hr0_0 hc0_0 hr0_1 hc0_1
 have HB := k0 (Below.refl w.heap.size w)
 have CH := k0 (Ch.nil w)
 have H := k0 (show impl_changed_Mint.f k l0_0 l0_1 a1 a2 = some (r1, r2, r3) from h)
 clear h
 go_enter Try.func29, Try.ntmps29
 go_wp2_with (first
  | ((with_reducible refine gate_dst (N := 3) rfl ?_); refine kE (N := 3) (cs := #[.slice A0_0 l0_0.length c0_0, .slice A0_1 l0_1.length c0_1]) (t := 28) ?_; intro gr hg w303 hbox hb; have n0_ := k0 (Ch.box (kH CH.out) hg hbox hb : Ch w303 [bk gr #[.slice A0_0 l0_0.length c0_0, .slice A0_1 l0_1.length c0_1] 28]); have n1_ := k0 (below_step (kW HB.out) hb : Below w.heap.size w w303); have m0_ := k0 (by rw [hg]; exact HB.out.size : w.heap.size ≤ gr); clear CH HB hb hbox hg; have CH := n0_; have HB := n1_; have GE_gr := m0_; clear n0_ n1_ m0_; obtain ⟨hz304, hz305, hz306, hz307⟩ := kz CH.out 0 rfl)
  | ((with_reducible refine gate_dst (N := 4) rfl ?_); refine kE (N := 4) (cs := #[.int .i64 a1]) (t := 3) ?_; intro gi hg w308 hbox hb; have n0_ := k0 (Ch.box (kH CH.out) hg hbox hb : Ch w308 [bk gi #[.int .i64 a1] 3, bk gr #[.slice A0_0 l0_0.length c0_0, .slice A0_1 l0_1.length c0_1] 28]); have n1_ := k0 (below_step (kW HB.out) hb : Below w.heap.size w w308); have m0_ := k0 (by rw [hg]; exact HB.out.size : w.heap.size ≤ gi); clear CH HB hb hbox hg; have CH := n0_; have HB := n1_; have GE_gi := m0_; clear n0_ n1_ m0_; clear hz304 hz305 hz306 hz307; have hz309 : w308.cell? ⟨gi, 0, none⟩ = some (.int .i64 a1) := (blk_cell (Ch.blk CH.out 0 rfl) 0).trans rfl; have hz310 := blk_frozen (Ch.blk CH.out 0 rfl) 0; obtain ⟨hz311, hz312, hz313, hz314⟩ := kz CH.out 1 rfl)
  | ((with_reducible refine gate_dst (N := 6) rfl ?_); refine kE (N := 6) (cs := #[.slice none 0 0, .slice none 0 0]) (t := 28) ?_; intro go hg w315 hbox hb; have n0_ := k0 (Ch.box (kH CH.out) hg hbox hb : Ch w315 [bk go #[.slice none 0 0, .slice none 0 0] 28, bk gi #[.int .i64 a1] 3, bk gr #[.slice A0_0 l0_0.length c0_0, .slice A0_1 l0_1.length c0_1] 28]); have n1_ := k0 (below_step (kW HB.out) hb : Below w.heap.size w w315); have m0_ := k0 (by rw [hg]; exact HB.out.size : w.heap.size ≤ go); clear CH HB hb hbox hg; have CH := n0_; have HB := n1_; have GE_go := m0_; clear n0_ n1_ m0_; clear hz309 hz310 hz311 hz312 hz313 hz314; obtain ⟨hz316, hz317, hz318, hz319⟩ := kz CH.out 0 rfl; have hz320 : w315.cell? ⟨gi, 0, none⟩ = some (.int .i64 a1) := (blk_cell (Ch.blk CH.out 1 rfl) 0).trans rfl; have hz321 := blk_frozen (Ch.blk CH.out 1 rfl) 0; obtain ⟨hz322, hz323, hz324, hz325⟩ := kz CH.out 2 rfl)
  | ((with_reducible refine gate_callee (f := 59) rfl ?_); refine kG (some 13) Try.func59 #[.agg #[.slice A0_0 l0_0.length c0_0, .slice A0_1 l0_1.length c0_1], .int .i64 a1, .int .i64 a1, .int .i64 a2, .func (.func 60) #[] #[.pointer (some ⟨gi, 0, none⟩)]] ?_; (with_reducible refine (impl_changed_Mint.calls k _ _ l0_0 _ _ l0_1 a1 a2 gi r1 r2 r3 _ ?side1 ?side2 ?side3 ?side4 ?side5 H.out).mono ?_); (case side1 => repeat (first | exact (Kd.C_below HR0_0.out (kW HB.out)) | (with_reducible refine Kd.C_drewN ?_ _) | (with_reducible refine Kd.C_drew ?_))); (case side2 => exact HC0_0.out); (case side3 => repeat (first | exact (Kd.C_below HR0_1.out (kW HB.out)) | (with_reducible refine Kd.C_drewN ?_ _) | (with_reducible refine Kd.C_drew ?_))); (case side4 => exact HC0_1.out); (case side5 => exact (blk_cell (Ch.blk CH.out 1 rfl) 0).trans rfl); rintro e w326 ⟨v0_, v1_, rfl, h0_, h1_, hb⟩; refine ⟨_, rfl, ?_⟩; obtain ⟨Aacr, cacr, e0_⟩ := Kd.S_slice h0_; subst e0_; obtain ⟨Abcr, cbcr, e1_⟩ := Kd.R_slice h1_; subst e1_; obtain ⟨lo_cr, hlo_⟩ : ∃ z_ : Nat, z_ = (w315).heap.size := ⟨_, rfl⟩; obtain ⟨hi_cr, hhi_⟩ : ∃ z_ : Nat, z_ = (w326).heap.size := ⟨_, rfl⟩; have n0_ := k0 (by rw [hlo_, hhi_]; exact Ch.to (Ch.madeT (kH CH.out) (by exact HB.out.size) h0_ (fun _ hk => hk) h1_ hb) rfl : Ch w326 [rt w.heap.size (Kd.slice 3 (Kd.int .i64)) 23 (Kd.int .i64) 3 lo_cr hi_cr (.slice Aacr r1.length cacr) (.slice Abcr r2.length cbcr) r1 r2, bk go #[.slice none 0 0, .slice none 0 0] 28, bk gi #[.int .i64 a1] 3, bk gr #[.slice A0_0 l0_0.length c0_0, .slice A0_1 l0_1.length c0_1] 28]); have n1_ := k0 (below_step (kW HB.out) hb : Below w.heap.size w w326); clear CH HB hb h0_ h1_ hlo_ hhi_; have CH := n0_; have HB := n1_; clear n0_ n1_ ; clear hz316 hz317 hz318 hz319 hz320 hz321 hz322 hz323 hz324 hz325; obtain ⟨hz327, hz328, hz329, hz330⟩ := kz CH.out 1 rfl; have hz331 : w326.cell? ⟨gi, 0, none⟩ = some (.int .i64 a1) := (blk_cell (Ch.blk CH.out 2 rfl) 0).trans rfl; have hz332 := blk_frozen (Ch.blk CH.out 2 rfl) 0; obtain ⟨hz333, hz334, hz335, hz336⟩ := kz CH.out 3 rfl)
  | ((with_reducible refine gate_store (t := 28) (p := 6) rfl ?_); refine kT (t := 28) (p := 6) ?_; intro w337 hw; have n0_ := k0 (by rw [hw]; exact Ch.to (Ch.set1 (Ch.set1 (kH CH.out) 1 rfl 0 (.slice Aacr r1.length cacr) #[.slice Aacr r1.length cacr, .slice none 0 0] rfl) 1 rfl 1 (.slice Abcr r2.length cbcr) #[.slice Aacr r1.length cacr, .slice Abcr r2.length cbcr] rfl) rfl : Ch w337 [rt w.heap.size (Kd.slice 3 (Kd.int .i64)) 23 (Kd.int .i64) 3 lo_cr hi_cr (.slice Aacr r1.length cacr) (.slice Abcr r2.length cbcr) r1 r2, bk go #[.slice Aacr r1.length cacr, .slice Abcr r2.length cbcr] 28, bk gi #[.int .i64 a1] 3, bk gr #[.slice A0_0 l0_0.length c0_0, .slice A0_1 l0_1.length c0_1] 28]); have n1_ := k0 (by rw [hw]; exact (below_set (below_set (kW HB.out) GE_go.out) GE_go.out) : Below w.heap.size w w337); clear CH HB hw; have CH := n0_; have HB := n1_; clear n0_ n1_ ; clear hz327 hz328 hz329 hz330 hz331 hz332 hz333 hz334 hz335 hz336; obtain ⟨hz338, hz339, hz340, hz341⟩ := kz CH.out 1 rfl; have hz342 : w337.cell? ⟨gi, 0, none⟩ = some (.int .i64 a1) := (blk_cell (Ch.blk CH.out 2 rfl) 0).trans rfl; have hz343 := blk_frozen (Ch.blk CH.out 2 rfl) 0; obtain ⟨hz344, hz345, hz346, hz347⟩ := kz CH.out 3 rfl))
 refine bodyPost_ret (results_ct rfl _ _ go 28 #[.slice Aacr r1.length cacr, .slice Abcr r2.length cbcr] (0, 0) _ rfl (Ch.blk CH.out 1 rfl) Try.underlying28 rfl (by kernel_rfl)) rfl ?_
 have hF := Ch.get CH.out 0 rfl
 exact ⟨_, _, rfl, Kd.S_mono hF.1 (fun _ hk => hk.2), Kd.R_mono hF.2 (fun _ _ => trivial), HB.out⟩

end

/-! ### impl_Spend: function 31 -/
section
open Go.Proofs.Ytcnanifokpcjaaa.Chn
set_option maxHeartbeats 4000000 in
set_option maxRecDepth 100000 in
theorem impl_Spend_1.calls (g gi g1 c1 n : Nat) (i : Int) (v0 : Value) (w : World) (hg : w.heap[g]? = some (.cells #[v0, .slice (some ⟨g1, 0, none⟩) n c1] 28 (0, 0))) (hi : w.cell? ⟨gi, 0, none⟩ = some (.int .i64 i)) (h0 : 0 ≤ i) (h1 : i < (n : Int)) :
  Calls Try.prog 61 #[.pointer (some ⟨g, 0, none⟩), .pointer (some ⟨gi, 0, none⟩)] w fun e w' => e = .returned (.pointer (some ⟨g1, i.toNat, none⟩)) ∧ Drawn0 w w' := by
 have hz0 : w.cell? ⟨g, 1, none⟩ = some (.slice (some ⟨g1, 0, none⟩) n c1) := (blk_cell hg 1).trans rfl
 clear hg
 have b0 := decide_eq_true h0
 have b1 := decide_eq_true h1
 replace h0 := eq_true h0
 replace h1 := eq_true h1
 go_enter Try.func61, Try.ntmps61
 go_wp2
 repeat (go_quiet (fail); try go_wp2)
 go_ret
 exact ⟨by first | rfl | (simp; done) | (simp [*]; done), by repeat (first | exact Drawn0.refl _ | apply Drawn0.step)⟩
def impl_Spend.upd (x : List (List Int)) (y : List Int) (a1 a3 : Int) : Option (List (List Int) × List Int) := if 0 ≤ a1 then (if a1 < (y.length : Int) then some (x, y.set a1.toNat (wrap64 ((rd y a1) + a3))) else none) else none
def impl_changed_Spend.f (k : Nat) (l0_0 : List (List Int)) (l0_1 : List Int) (a1 a3 : Int) : Option (List (List Int) × List Int × Bool) := (impl_RightsOk.f k l0_0 l0_1).bind fun t1 => if t1 = true then ((impl_in.f a1 0 (wrap64 ((l0_1.length : Int) - 1))).bind fun t2 => if t2 = true then ((impl_in.f a1 0 (wrap64 ((l0_1.length : Int) - 1))).bind fun t3 => if t3 = true then ((impl_IsAmt.f a3).bind fun t4 => if t4 = true then ((impl_copyRights.f k l0_0 l0_1).bind fun c => (impl_Spend.upd c.1 c.2 a1 a3).bind fun u => (impl_RightsOk.f k u.1 u.2).bind fun t5 => if t5 = true then some (u.1, u.2, true) else some (([] : List (List Int)), ([] : List Int), false)) else some (([] : List (List Int)), ([] : List Int), false)) else some (([] : List (List Int)), ([] : List Int), false)) else some (([] : List (List Int)), ([] : List Int), false)) else some (([] : List (List Int)), ([] : List Int), false)
theorem impl_changed_Spend.mono : ∀ x0 x1 a1 a3 k, LeO (impl_changed_Spend.f k x0 x1 a1 a3) (impl_changed_Spend.f (k + 1) x0 x1 a1 a3) := by
 intro x0 x1 a1 a3 k
 unfold impl_changed_Spend.f
 repeat' first
   | (with_reducible exact impl_RightsOk.mono _ _ _)
   | (with_reducible exact impl_copyRights.mono _ _ _)
   | (with_reducible exact LeO.refl _)
   | (with_reducible refine LeO.ite ?_ ?_)
   | (with_reducible refine LeO.bind ?_ (fun _ => ?_))
   | exact impl_RightsOk.mono _ _ _
   | exact impl_copyRights.mono _ _ _
   | refine LeO.ite ?_ ?_
   | refine LeO.bind ?_ (fun _ => ?_)
set_option maxHeartbeats 8000000 in
set_option maxRecDepth 100000 in
theorem impl_changed_Spend.calls (k : Nat) (A0_0 : Option Addr) (c0_0 : Nat) (l0_0 : List (List Int)) (A0_1 : Option Addr) (c0_1 : Nat) (l0_1 : List Int) (a1 a3 : Int) (gi : Nat) (r1 : List (List Int)) (r2 : List Int) (r3 : Bool) (w : World) (hr0_0 : Kd.C (Kd.slice 3 (Kd.int .i64)) w A0_0 l0_0.length l0_0) (hc0_0 : l0_0.length ≤ c0_0) (hr0_1 : Kd.C (Kd.int .i64) w A0_1 l0_1.length l0_1) (hc0_1 : l0_1.length ≤ c0_1) (hi : w.cell? ⟨gi, 0, none⟩ = some (.int .i64 a1)) (h : impl_changed_Spend.f k l0_0 l0_1 a1 a3 = some (r1, r2, r3)) :
  Calls Try.prog 59 #[.agg #[.slice A0_0 l0_0.length c0_0, .slice A0_1 l0_1.length c0_1], .int .i64 a1, .int .i64 a1, .int .i64 a3, .func (.func 61) #[] #[.pointer (some ⟨gi, 0, none⟩)]] w fun e w' => ∃ v0_ v1_ : Value, e = .returned (.tuple #[.agg #[v0_, v1_], .bool r3]) ∧ Kd.S (Kd.slice 3 (Kd.int .i64)) 23 w' w.heap.size (fun k_ => some k_ ≠ (v1_ : Value).ownBlock) v0_ r1 ∧ Kd.R (Kd.int .i64) 3 w' w.heap.size (fun _ => True) v1_ r2 ∧ Below w.heap.size w w' := by
 have hu28 := Try.underlying28
 have HR0_0 := Aside0.mk hr0_0
 have HC0_0 := Aside0.mk hc0_0
 have HR0_1 := Aside0.mk hr0_1
 have HC0_1 := Aside0.mk hc0_1
 have HI := Aside0.mk hi
 skip
 clear hr0_0 hc0_0 hr0_1 hc0_1 hi
 have HB := k0 (Below.refl w.heap.size w)
 have CH := k0 (Ch.nil w)
 unfold impl_changed_Spend.f at h
 replace h := Option.bind_eq_some_iff.mp h
 obtain ⟨t1, A10, h⟩ := h
 have A1 := Aside0.mk A10
 clear A10
 cases t1 with
 | false =>
  rw [if_neg (by decide)] at h
  simp only [Option.some.injEq, Prod.mk.injEq] at h
  obtain ⟨rfl, rfl, rfl⟩ := h
  go_enter Try.func59, Try.ntmps59
  go_wp2_with (first
   | ((with_reducible refine gate_dst (N := 5) rfl ?_); refine kE (N := 5) (cs := #[.slice A0_0 l0_0.length c0_0, .slice A0_1 l0_1.length c0_1]) (t := 28) ?_; intro gr hg w348 hbox hb; have n0_ := k0 (Ch.box (kH CH.out) hg hbox hb : Ch w348 [bk gr #[.slice A0_0 l0_0.length c0_0, .slice A0_1 l0_1.length c0_1] 28]); have n1_ := k0 (below_step (kW HB.out) hb : Below w.heap.size w w348); have m0_ := k0 (by rw [hg]; exact HB.out.size : w.heap.size ≤ gr); clear CH HB hb hbox hg; have CH := n0_; have HB := n1_; have GE_gr := m0_; clear n0_ n1_ m0_; obtain ⟨hz349, hz350, hz351, hz352⟩ := kz CH.out 0 rfl)
   | ((with_reducible refine gate_dst (N := 10) rfl ?_); refine kE (N := 10) (cs := #[.slice none 0 0, .slice none 0 0]) (t := 28) ?_; intro go hg w353 hbox hb; have n0_ := k0 (Ch.box (kH CH.out) hg hbox hb : Ch w353 [bk go #[.slice none 0 0, .slice none 0 0] 28, bk gr #[.slice A0_0 l0_0.length c0_0, .slice A0_1 l0_1.length c0_1] 28]); have n1_ := k0 (below_step (kW HB.out) hb : Below w.heap.size w w353); have m0_ := k0 (by rw [hg]; exact HB.out.size : w.heap.size ≤ go); clear CH HB hb hbox hg; have CH := n0_; have HB := n1_; have GE_go := m0_; clear n0_ n1_ m0_; clear hz349 hz350 hz351 hz352; obtain ⟨hz354, hz355, hz356, hz357⟩ := kz CH.out 0 rfl; obtain ⟨hz358, hz359, hz360, hz361⟩ := kz CH.out 1 rfl)
   | ((with_reducible refine gate_callee (f := 16) rfl ?_); refine kG (some 18) Try.func16 #[.agg #[.slice A0_0 l0_0.length c0_0, .slice A0_1 l0_1.length c0_1]] ?_; (with_reducible refine (impl_RightsOk.calls k _ _ l0_0 _ _ l0_1 false _ ?side1 ?side2 ?side3 ?side4 A1.out).mono ?_); (case side1 => repeat (first | exact (Kd.C_below HR0_0.out (kW HB.out)) | (with_reducible refine Kd.C_drewN ?_ _) | (with_reducible refine Kd.C_drew ?_))); (case side2 => exact HC0_0.out); (case side3 => repeat (first | exact (Kd.C_below HR0_1.out (kW HB.out)) | (with_reducible refine Kd.C_drewN ?_ _) | (with_reducible refine Kd.C_drew ?_))); (case side4 => exact HC0_1.out); rintro e w362 ⟨rfl, hb⟩; refine ⟨_, rfl, ?_⟩; have n0_ := k0 (Ch.below (kH CH.out) hb : Ch w362 [bk go #[.slice none 0 0, .slice none 0 0] 28, bk gr #[.slice A0_0 l0_0.length c0_0, .slice A0_1 l0_1.length c0_1] 28]); have n1_ := k0 (below_step (kW HB.out) hb : Below w.heap.size w w362); clear CH HB hb; have CH := n0_; have HB := n1_; clear n0_ n1_ ; clear hz354 hz355 hz356 hz357 hz358 hz359 hz360 hz361; obtain ⟨hz363, hz364, hz365, hz366⟩ := kz CH.out 0 rfl; obtain ⟨hz367, hz368, hz369, hz370⟩ := kz CH.out 1 rfl)
   | ((with_reducible refine gate_store (t := 28) (p := 10) rfl ?_); refine kT (t := 28) (p := 10) ?_; intro w371 hw; have n0_ := k0 (by rw [hw]; exact Ch.to (Ch.set1 (Ch.set1 (kH CH.out) 0 rfl 0 (.slice none 0 0) #[.slice none 0 0, .slice none 0 0] rfl) 0 rfl 1 (.slice none 0 0) #[.slice none 0 0, .slice none 0 0] rfl) rfl : Ch w371 [bk go #[.slice none 0 0, .slice none 0 0] 28, bk gr #[.slice A0_0 l0_0.length c0_0, .slice A0_1 l0_1.length c0_1] 28]); have n1_ := k0 (by rw [hw]; exact (below_set (below_set (kW HB.out) GE_go.out) GE_go.out) : Below w.heap.size w w371); clear CH HB hw; have CH := n0_; have HB := n1_; clear n0_ n1_ ; clear hz363 hz364 hz365 hz366 hz367 hz368 hz369 hz370; obtain ⟨hz372, hz373, hz374, hz375⟩ := kz CH.out 0 rfl; obtain ⟨hz376, hz377, hz378, hz379⟩ := kz CH.out 1 rfl))
  refine bodyPost_ret (results_ct rfl _ _ go 28 #[.slice none 0 0, .slice none 0 0] (0, 0) _ rfl (Ch.blk CH.out 0 rfl) Try.underlying28 rfl (by kernel_rfl)) rfl ?_
  exact ⟨_, _, rfl, Kd.S_nil _ _ _ _ _, Kd.R_nil _ _ _ _ _, HB.out⟩
 | true =>
  rw [if_pos rfl] at h
  replace h := Option.bind_eq_some_iff.mp h
  obtain ⟨t2, A20, h⟩ := h
  have A2 := Aside0.mk A20
  clear A20
  cases t2 with
  | false =>
   rw [if_neg (by decide)] at h
   simp only [Option.some.injEq, Prod.mk.injEq] at h
   obtain ⟨rfl, rfl, rfl⟩ := h
   go_enter Try.func59, Try.ntmps59
   go_wp2_with (first
    | ((with_reducible refine gate_dst (N := 5) rfl ?_); refine kE (N := 5) (cs := #[.slice A0_0 l0_0.length c0_0, .slice A0_1 l0_1.length c0_1]) (t := 28) ?_; intro gr hg w380 hbox hb; have n0_ := k0 (Ch.box (kH CH.out) hg hbox hb : Ch w380 [bk gr #[.slice A0_0 l0_0.length c0_0, .slice A0_1 l0_1.length c0_1] 28]); have n1_ := k0 (below_step (kW HB.out) hb : Below w.heap.size w w380); have m0_ := k0 (by rw [hg]; exact HB.out.size : w.heap.size ≤ gr); clear CH HB hb hbox hg; have CH := n0_; have HB := n1_; have GE_gr := m0_; clear n0_ n1_ m0_; obtain ⟨hz381, hz382, hz383, hz384⟩ := kz CH.out 0 rfl)
    | ((with_reducible refine gate_dst (N := 10) rfl ?_); refine kE (N := 10) (cs := #[.slice none 0 0, .slice none 0 0]) (t := 28) ?_; intro go hg w385 hbox hb; have n0_ := k0 (Ch.box (kH CH.out) hg hbox hb : Ch w385 [bk go #[.slice none 0 0, .slice none 0 0] 28, bk gr #[.slice A0_0 l0_0.length c0_0, .slice A0_1 l0_1.length c0_1] 28]); have n1_ := k0 (below_step (kW HB.out) hb : Below w.heap.size w w385); have m0_ := k0 (by rw [hg]; exact HB.out.size : w.heap.size ≤ go); clear CH HB hb hbox hg; have CH := n0_; have HB := n1_; have GE_go := m0_; clear n0_ n1_ m0_; clear hz381 hz382 hz383 hz384; obtain ⟨hz386, hz387, hz388, hz389⟩ := kz CH.out 0 rfl; obtain ⟨hz390, hz391, hz392, hz393⟩ := kz CH.out 1 rfl)
    | ((with_reducible refine gate_callee (f := 16) rfl ?_); refine kG (some 18) Try.func16 #[.agg #[.slice A0_0 l0_0.length c0_0, .slice A0_1 l0_1.length c0_1]] ?_; (with_reducible refine (impl_RightsOk.calls k _ _ l0_0 _ _ l0_1 true _ ?side1 ?side2 ?side3 ?side4 A1.out).mono ?_); (case side1 => repeat (first | exact (Kd.C_below HR0_0.out (kW HB.out)) | (with_reducible refine Kd.C_drewN ?_ _) | (with_reducible refine Kd.C_drew ?_))); (case side2 => exact HC0_0.out); (case side3 => repeat (first | exact (Kd.C_below HR0_1.out (kW HB.out)) | (with_reducible refine Kd.C_drewN ?_ _) | (with_reducible refine Kd.C_drew ?_))); (case side4 => exact HC0_1.out); rintro e w394 ⟨rfl, hb⟩; refine ⟨_, rfl, ?_⟩; have n0_ := k0 (Ch.below (kH CH.out) hb : Ch w394 [bk go #[.slice none 0 0, .slice none 0 0] 28, bk gr #[.slice A0_0 l0_0.length c0_0, .slice A0_1 l0_1.length c0_1] 28]); have n1_ := k0 (below_step (kW HB.out) hb : Below w.heap.size w w394); clear CH HB hb; have CH := n0_; have HB := n1_; clear n0_ n1_ ; clear hz386 hz387 hz388 hz389 hz390 hz391 hz392 hz393; obtain ⟨hz395, hz396, hz397, hz398⟩ := kz CH.out 0 rfl; obtain ⟨hz399, hz400, hz401, hz402⟩ := kz CH.out 1 rfl)
    | (go_at_call 44; (with_reducible refine (impl_in.calls a1 0 (wrap64 ((l0_1.length : Int) - 1)) false _ A2.out).mono ?_); rintro e w' ⟨rfl, ⟨nd403, rfl⟩⟩)
    | ((with_reducible refine gate_store (t := 28) (p := 10) rfl ?_); refine kT (t := 28) (p := 10) ?_; intro w404 hw; have n0_ := k0 (by rw [hw]; exact Ch.to (Ch.set1 (Ch.set1 (kH CH.out) 0 rfl 0 (.slice none 0 0) #[.slice none 0 0, .slice none 0 0] rfl) 0 rfl 1 (.slice none 0 0) #[.slice none 0 0, .slice none 0 0] rfl) rfl : Ch w404 [bk go #[.slice none 0 0, .slice none 0 0] 28, bk gr #[.slice A0_0 l0_0.length c0_0, .slice A0_1 l0_1.length c0_1] 28]); have n1_ := k0 (by rw [hw]; exact (below_set (below_set (kW HB.out) GE_go.out) GE_go.out) : Below w.heap.size w w404); clear CH HB hw; have CH := n0_; have HB := n1_; clear n0_ n1_ ; clear hz395 hz396 hz397 hz398 hz399 hz400 hz401 hz402; obtain ⟨hz405, hz406, hz407, hz408⟩ := kz CH.out 0 rfl; obtain ⟨hz409, hz410, hz411, hz412⟩ := kz CH.out 1 rfl))
   refine bodyPost_ret (results_ct rfl _ _ go 28 #[.slice none 0 0, .slice none 0 0] (0, 0) _ rfl (Ch.blk CH.out 0 rfl) Try.underlying28 rfl (by kernel_rfl)) rfl ?_
   exact ⟨_, _, rfl, Kd.S_nil _ _ _ _ _, Kd.R_nil _ _ _ _ _, HB.out⟩
  | true =>
   rw [if_pos rfl] at h
   replace h := Option.bind_eq_some_iff.mp h
   obtain ⟨t3, A30, h⟩ := h
   have A3 := Aside0.mk A30
   clear A30
   cases t3 with
   | false =>
    exact absurd (A2.out.symm.trans A3.out) (by simp)
   | true =>
    rw [if_pos rfl] at h
    replace h := Option.bind_eq_some_iff.mp h
    obtain ⟨t4, A40, h⟩ := h
    have A4 := Aside0.mk A40
    clear A40
    cases t4 with
    | false =>
     rw [if_neg (by decide)] at h
     simp only [Option.some.injEq, Prod.mk.injEq] at h
     obtain ⟨rfl, rfl, rfl⟩ := h
     go_enter Try.func59, Try.ntmps59
     go_wp2_with (first
      | ((with_reducible refine gate_dst (N := 5) rfl ?_); refine kE (N := 5) (cs := #[.slice A0_0 l0_0.length c0_0, .slice A0_1 l0_1.length c0_1]) (t := 28) ?_; intro gr hg w413 hbox hb; have n0_ := k0 (Ch.box (kH CH.out) hg hbox hb : Ch w413 [bk gr #[.slice A0_0 l0_0.length c0_0, .slice A0_1 l0_1.length c0_1] 28]); have n1_ := k0 (below_step (kW HB.out) hb : Below w.heap.size w w413); have m0_ := k0 (by rw [hg]; exact HB.out.size : w.heap.size ≤ gr); clear CH HB hb hbox hg; have CH := n0_; have HB := n1_; have GE_gr := m0_; clear n0_ n1_ m0_; obtain ⟨hz414, hz415, hz416, hz417⟩ := kz CH.out 0 rfl)
      | ((with_reducible refine gate_dst (N := 10) rfl ?_); refine kE (N := 10) (cs := #[.slice none 0 0, .slice none 0 0]) (t := 28) ?_; intro go hg w418 hbox hb; have n0_ := k0 (Ch.box (kH CH.out) hg hbox hb : Ch w418 [bk go #[.slice none 0 0, .slice none 0 0] 28, bk gr #[.slice A0_0 l0_0.length c0_0, .slice A0_1 l0_1.length c0_1] 28]); have n1_ := k0 (below_step (kW HB.out) hb : Below w.heap.size w w418); have m0_ := k0 (by rw [hg]; exact HB.out.size : w.heap.size ≤ go); clear CH HB hb hbox hg; have CH := n0_; have HB := n1_; have GE_go := m0_; clear n0_ n1_ m0_; clear hz414 hz415 hz416 hz417; obtain ⟨hz419, hz420, hz421, hz422⟩ := kz CH.out 0 rfl; obtain ⟨hz423, hz424, hz425, hz426⟩ := kz CH.out 1 rfl)
      | ((with_reducible refine gate_callee (f := 16) rfl ?_); refine kG (some 18) Try.func16 #[.agg #[.slice A0_0 l0_0.length c0_0, .slice A0_1 l0_1.length c0_1]] ?_; (with_reducible refine (impl_RightsOk.calls k _ _ l0_0 _ _ l0_1 true _ ?side1 ?side2 ?side3 ?side4 A1.out).mono ?_); (case side1 => repeat (first | exact (Kd.C_below HR0_0.out (kW HB.out)) | (with_reducible refine Kd.C_drewN ?_ _) | (with_reducible refine Kd.C_drew ?_))); (case side2 => exact HC0_0.out); (case side3 => repeat (first | exact (Kd.C_below HR0_1.out (kW HB.out)) | (with_reducible refine Kd.C_drewN ?_ _) | (with_reducible refine Kd.C_drew ?_))); (case side4 => exact HC0_1.out); rintro e w427 ⟨rfl, hb⟩; refine ⟨_, rfl, ?_⟩; have n0_ := k0 (Ch.below (kH CH.out) hb : Ch w427 [bk go #[.slice none 0 0, .slice none 0 0] 28, bk gr #[.slice A0_0 l0_0.length c0_0, .slice A0_1 l0_1.length c0_1] 28]); have n1_ := k0 (below_step (kW HB.out) hb : Below w.heap.size w w427); clear CH HB hb; have CH := n0_; have HB := n1_; clear n0_ n1_ ; clear hz419 hz420 hz421 hz422 hz423 hz424 hz425 hz426; obtain ⟨hz428, hz429, hz430, hz431⟩ := kz CH.out 0 rfl; obtain ⟨hz432, hz433, hz434, hz435⟩ := kz CH.out 1 rfl)
      | (go_at_call 44; (with_reducible refine (impl_in.calls a1 0 (wrap64 ((l0_1.length : Int) - 1)) true _ A2.out).mono ?_); rintro e w' ⟨rfl, ⟨nd436, rfl⟩⟩)
      | (go_at_call 44; (with_reducible refine (impl_in.calls a1 0 (wrap64 ((l0_1.length : Int) - 1)) true _ A3.out).mono ?_); rintro e w' ⟨rfl, ⟨nd437, rfl⟩⟩)
      | (go_at_call 69; (with_reducible refine (impl_IsAmt.calls a3 false _ A4.out).mono ?_); rintro e w' ⟨rfl, ⟨nd438, rfl⟩⟩)
      | ((with_reducible refine gate_store (t := 28) (p := 10) rfl ?_); refine kT (t := 28) (p := 10) ?_; intro w439 hw; have n0_ := k0 (by rw [hw]; exact Ch.to (Ch.set1 (Ch.set1 (kH CH.out) 0 rfl 0 (.slice none 0 0) #[.slice none 0 0, .slice none 0 0] rfl) 0 rfl 1 (.slice none 0 0) #[.slice none 0 0, .slice none 0 0] rfl) rfl : Ch w439 [bk go #[.slice none 0 0, .slice none 0 0] 28, bk gr #[.slice A0_0 l0_0.length c0_0, .slice A0_1 l0_1.length c0_1] 28]); have n1_ := k0 (by rw [hw]; exact (below_set (below_set (kW HB.out) GE_go.out) GE_go.out) : Below w.heap.size w w439); clear CH HB hw; have CH := n0_; have HB := n1_; clear n0_ n1_ ; clear hz428 hz429 hz430 hz431 hz432 hz433 hz434 hz435; obtain ⟨hz440, hz441, hz442, hz443⟩ := kz CH.out 0 rfl; obtain ⟨hz444, hz445, hz446, hz447⟩ := kz CH.out 1 rfl))
     refine bodyPost_ret (results_ct rfl _ _ go 28 #[.slice none 0 0, .slice none 0 0] (0, 0) _ rfl (Ch.blk CH.out 0 rfl) Try.underlying28 rfl (by kernel_rfl)) rfl ?_
     exact ⟨_, _, rfl, Kd.S_nil _ _ _ _ _, Kd.R_nil _ _ _ _ _, HB.out⟩
    | true =>
     rw [if_pos rfl] at h
     replace h := Option.bind_eq_some_iff.mp h
     obtain ⟨⟨x0, x1⟩, A50, h⟩ := h
     have A5 := Aside0.mk A50
     clear A50
     replace h := Option.bind_eq_some_iff.mp h
     obtain ⟨⟨u0, u1⟩, A60, h⟩ := h
     have A6 := Aside0.mk A60
     clear A60
     have hu := A6.out
     unfold impl_Spend.upd at hu
     dsimp only at hu
     by_cases q0 : 0 ≤ a1
     case neg => rw [if_neg q0] at hu; cases hu
     rw [if_pos q0] at hu
     by_cases q1 : a1 < (x1.length : Int)
     case neg => rw [if_neg q1] at hu; cases hu
     rw [if_pos q1] at hu
     simp only [Option.some.injEq, Prod.mk.injEq] at hu
     obtain ⟨eu0, eu1⟩ := hu
     have Q0 := Aside0.mk q0
     have Q1 := Aside0.mk q1
     have E0 := Aside0.mk eu0.symm
     have E1 := Aside0.mk eu1.symm
     clear q0 q1 eu0 eu1
     replace h := Option.bind_eq_some_iff.mp h
     obtain ⟨t7, A70, h⟩ := h
     have A7 := Aside0.mk A70
     clear A70
     have ex : x0 = u0 := E0.out.symm
     subst ex
     cases t7 with
     | false =>
      rw [if_neg (by decide)] at h
      simp only [Option.some.injEq, Prod.mk.injEq] at h
      obtain ⟨rfl, rfl, rfl⟩ := h
      go_enter Try.func59, Try.ntmps59
      go_wp2_with (first
       | ((with_reducible refine gate_dst (N := 5) rfl ?_); refine kE (N := 5) (cs := #[.slice A0_0 l0_0.length c0_0, .slice A0_1 l0_1.length c0_1]) (t := 28) ?_; intro gr hg w448 hbox hb; have n0_ := k0 (Ch.box (kH CH.out) hg hbox hb : Ch w448 [bk gr #[.slice A0_0 l0_0.length c0_0, .slice A0_1 l0_1.length c0_1] 28]); have n1_ := k0 (below_step (kW HB.out) hb : Below w.heap.size w w448); have m0_ := k0 (by rw [hg]; exact HB.out.size : w.heap.size ≤ gr); clear CH HB hb hbox hg; have CH := n0_; have HB := n1_; have GE_gr := m0_; clear n0_ n1_ m0_; obtain ⟨hz449, hz450, hz451, hz452⟩ := kz CH.out 0 rfl)
       | ((with_reducible refine gate_dst (N := 10) rfl ?_); refine kE (N := 10) (cs := #[.slice none 0 0, .slice none 0 0]) (t := 28) ?_; intro go hg w453 hbox hb; have n0_ := k0 (Ch.box (kH CH.out) hg hbox hb : Ch w453 [bk go #[.slice none 0 0, .slice none 0 0] 28, bk gr #[.slice A0_0 l0_0.length c0_0, .slice A0_1 l0_1.length c0_1] 28]); have n1_ := k0 (below_step (kW HB.out) hb : Below w.heap.size w w453); have m0_ := k0 (by rw [hg]; exact HB.out.size : w.heap.size ≤ go); clear CH HB hb hbox hg; have CH := n0_; have HB := n1_; have GE_go := m0_; clear n0_ n1_ m0_; clear hz449 hz450 hz451 hz452; obtain ⟨hz454, hz455, hz456, hz457⟩ := kz CH.out 0 rfl; obtain ⟨hz458, hz459, hz460, hz461⟩ := kz CH.out 1 rfl)
       | ((with_reducible refine gate_callee (f := 16) rfl ?_); refine kG (some 18) Try.func16 #[.agg #[.slice A0_0 l0_0.length c0_0, .slice A0_1 l0_1.length c0_1]] ?_; (with_reducible refine (impl_RightsOk.calls k _ _ l0_0 _ _ l0_1 true _ ?side1 ?side2 ?side3 ?side4 A1.out).mono ?_); (case side1 => repeat (first | exact (Kd.C_below HR0_0.out (kW HB.out)) | (with_reducible refine Kd.C_drewN ?_ _) | (with_reducible refine Kd.C_drew ?_))); (case side2 => exact HC0_0.out); (case side3 => repeat (first | exact (Kd.C_below HR0_1.out (kW HB.out)) | (with_reducible refine Kd.C_drewN ?_ _) | (with_reducible refine Kd.C_drew ?_))); (case side4 => exact HC0_1.out); rintro e w462 ⟨rfl, hb⟩; refine ⟨_, rfl, ?_⟩; have n0_ := k0 (Ch.below (kH CH.out) hb : Ch w462 [bk go #[.slice none 0 0, .slice none 0 0] 28, bk gr #[.slice A0_0 l0_0.length c0_0, .slice A0_1 l0_1.length c0_1] 28]); have n1_ := k0 (below_step (kW HB.out) hb : Below w.heap.size w w462); clear CH HB hb; have CH := n0_; have HB := n1_; clear n0_ n1_ ; clear hz454 hz455 hz456 hz457 hz458 hz459 hz460 hz461; obtain ⟨hz463, hz464, hz465, hz466⟩ := kz CH.out 0 rfl; obtain ⟨hz467, hz468, hz469, hz470⟩ := kz CH.out 1 rfl)
       | (go_at_call 44; (with_reducible refine (impl_in.calls a1 0 (wrap64 ((l0_1.length : Int) - 1)) true _ A2.out).mono ?_); rintro e w' ⟨rfl, ⟨nd471, rfl⟩⟩)
       | (go_at_call 44; (with_reducible refine (impl_in.calls a1 0 (wrap64 ((l0_1.length : Int) - 1)) true _ A3.out).mono ?_); rintro e w' ⟨rfl, ⟨nd472, rfl⟩⟩)
       | (go_at_call 69; (with_reducible refine (impl_IsAmt.calls a3 true _ A4.out).mono ?_); rintro e w' ⟨rfl, ⟨nd473, rfl⟩⟩)
       | ((with_reducible refine gate_callee (f := 53) rfl ?_); refine kG (some 41) Try.func53 #[.agg #[.slice A0_0 l0_0.length c0_0, .slice A0_1 l0_1.length c0_1]] ?_; (with_reducible refine (impl_copyRights.calls k _ _ l0_0 _ _ l0_1 x0 x1 _ ?side1 ?side2 ?side3 ?side4 A5.out).mono ?_); (case side1 => repeat (first | exact (Kd.C_below HR0_0.out (kW HB.out)) | (with_reducible refine Kd.C_drewN ?_ _) | (with_reducible refine Kd.C_drew ?_))); (case side2 => exact HC0_0.out); (case side3 => repeat (first | exact (Kd.C_below HR0_1.out (kW HB.out)) | (with_reducible refine Kd.C_drewN ?_ _) | (with_reducible refine Kd.C_drew ?_))); (case side4 => exact HC0_1.out); rintro e w474 ⟨v0_, v1_, rfl, h0_, h1_, hb⟩; refine ⟨_, rfl, ?_⟩; obtain ⟨Aacp, cacp, e0_⟩ := Kd.S_slice h0_; subst e0_; obtain ⟨Abcp, cbcp, e1_⟩ := Kd.R_slice h1_; subst e1_; obtain ⟨lo_cp, hlo_⟩ : ∃ z_ : Nat, z_ = (w462).heap.size := ⟨_, rfl⟩; obtain ⟨hi_cp, hhi_⟩ : ∃ z_ : Nat, z_ = (w474).heap.size := ⟨_, rfl⟩; have n0_ := k0 (by rw [hlo_, hhi_]; exact Ch.to (Ch.madeT (kH CH.out) (by exact HB.out.size) h0_ (fun _ hk => hk) h1_ hb) rfl : Ch w474 [rt w.heap.size (Kd.slice 3 (Kd.int .i64)) 23 (Kd.int .i64) 3 lo_cp hi_cp (.slice Aacp x0.length cacp) (.slice Abcp x1.length cbcp) x0 x1, bk go #[.slice none 0 0, .slice none 0 0] 28, bk gr #[.slice A0_0 l0_0.length c0_0, .slice A0_1 l0_1.length c0_1] 28]); have n1_ := k0 (below_step (kW HB.out) hb : Below w.heap.size w w474); clear CH HB hb h0_ h1_ hlo_ hhi_; have CH := n0_; have HB := n1_; clear n0_ n1_ ; clear hz463 hz464 hz465 hz466 hz467 hz468 hz469 hz470; obtain ⟨hz475, hz476, hz477, hz478⟩ := kz CH.out 1 rfl; obtain ⟨hz479, hz480, hz481, hz482⟩ := kz CH.out 2 rfl)
       | ((with_reducible refine gate_dst (N := 13) rfl ?_); refine kE (N := 13) (cs := #[.slice none 0 0, .slice none 0 0]) (t := 28) ?_; intro gp hg w483 hbox hb; have n0_ := k0 (Ch.box (kH CH.out) hg hbox hb : Ch w483 [bk gp #[.slice none 0 0, .slice none 0 0] 28, rt w.heap.size (Kd.slice 3 (Kd.int .i64)) 23 (Kd.int .i64) 3 lo_cp hi_cp (.slice Aacp x0.length cacp) (.slice Abcp x1.length cbcp) x0 x1, bk go #[.slice none 0 0, .slice none 0 0] 28, bk gr #[.slice A0_0 l0_0.length c0_0, .slice A0_1 l0_1.length c0_1] 28]); have n1_ := k0 (below_step (kW HB.out) hb : Below w.heap.size w w483); have m0_ := k0 (by rw [hg]; exact HB.out.size : w.heap.size ≤ gp); clear CH HB hb hbox hg; have CH := n0_; have HB := n1_; have GE_gp := m0_; clear n0_ n1_ m0_; clear hz475 hz476 hz477 hz478 hz479 hz480 hz481 hz482; obtain ⟨hz484, hz485, hz486, hz487⟩ := kz CH.out 0 rfl; obtain ⟨hz488, hz489, hz490, hz491⟩ := kz CH.out 2 rfl; obtain ⟨hz492, hz493, hz494, hz495⟩ := kz CH.out 3 rfl)
       | ((with_reducible refine gate_store (t := 28) (p := 13) rfl ?_); refine kT (t := 28) (p := 13) ?_; intro w496 hw; have n0_ := k0 (by rw [hw]; exact Ch.to (Ch.set1 (Ch.set1 (kH CH.out) 0 rfl 0 (.slice Aacp x0.length cacp) #[.slice Aacp x0.length cacp, .slice none 0 0] rfl) 0 rfl 1 (.slice Abcp x1.length cbcp) #[.slice Aacp x0.length cacp, .slice Abcp x1.length cbcp] rfl) rfl : Ch w496 [bk gp #[.slice Aacp x0.length cacp, .slice Abcp x1.length cbcp] 28, rt w.heap.size (Kd.slice 3 (Kd.int .i64)) 23 (Kd.int .i64) 3 lo_cp hi_cp (.slice Aacp x0.length cacp) (.slice Abcp x1.length cbcp) x0 x1, bk go #[.slice none 0 0, .slice none 0 0] 28, bk gr #[.slice A0_0 l0_0.length c0_0, .slice A0_1 l0_1.length c0_1] 28]); have n1_ := k0 (by rw [hw]; exact (below_set (below_set (kW HB.out) GE_gp.out) GE_gp.out) : Below w.heap.size w w496); clear CH HB hw; have CH := n0_; have HB := n1_; clear n0_ n1_ ; clear hz484 hz485 hz486 hz487 hz488 hz489 hz490 hz491 hz492 hz493 hz494 hz495; obtain ⟨hz497, hz498, hz499, hz500⟩ := kz CH.out 0 rfl; obtain ⟨hz501, hz502, hz503, hz504⟩ := kz CH.out 2 rfl; obtain ⟨hz505, hz506, hz507, hz508⟩ := kz CH.out 3 rfl; obtain ⟨g1, eA_, hb1, hv, hfz, hput⟩ := Ch.rt_spent CH.out 1 rfl a1 Q0.out Q1.out; subst eA_; have HV := Aside0.mk hv; have HFZ := Aside0.mk hfz; have HP := Aside0.mk hput; have HB1 := Aside0.mk hb1; clear hv hfz hput hb1)
       | (go_at_call 61; (with_reducible refine (impl_Spend_1.calls gp gi g1 cbcp x1.length a1 (.slice Aacp x0.length cacp) _ ?side1 ?side2 ?side3 ?side4).mono ?_); (case side1 => exact Ch.blk CH.out 0 rfl); (case side2 => exact pw_cell_below HB.out HI.out); (case side3 => exact Q0.out); (case side4 => exact Q1.out); rintro e w' ⟨rfl, ⟨nd509, rfl⟩⟩; have hv := HV.out; have hfz := HFZ.out)
       | ((with_reducible refine gate_store (t := 3) (p := 48) rfl ?_); refine kT (t := 3) (p := 48) ?_; intro w510 hw; have n0_ := k0 (by rw [hw, E1.out]; exact Ch.to (Ch.drewN (HP.out _) _) rfl : Ch w510 [bk gp #[.slice Aacp x0.length cacp, .slice (some ⟨g1, 0, none⟩) x1.length cbcp] 28, rt w.heap.size (Kd.slice 3 (Kd.int .i64)) 23 (Kd.int .i64) 3 lo_cp hi_cp (.slice Aacp x0.length cacp) (.slice (some ⟨g1, 0, none⟩) x1.length cbcp) x0 u1, bk go #[.slice none 0 0, .slice none 0 0] 28, bk gr #[.slice A0_0 l0_0.length c0_0, .slice A0_1 l0_1.length c0_1] 28]); have n1_ := k0 (by rw [hw]; exact below_set (kW HB.out) HB1.out : Below w.heap.size w w510); clear CH HB hw hv hfz HP HV HFZ; have CH := n0_; have HB := n1_; clear n0_ n1_ ; have HLN := k0 (by rw [E1.out, List.length_set] : u1.length = x1.length); clear hz497 hz498 hz499 hz500 hz501 hz502 hz503 hz504 hz505 hz506 hz507 hz508; obtain ⟨hz511, hz512, hz513, hz514⟩ := kz CH.out 0 rfl; obtain ⟨hz515, hz516, hz517, hz518⟩ := kz CH.out 2 rfl; obtain ⟨hz519, hz520, hz521, hz522⟩ := kz CH.out 3 rfl)
       | ((with_reducible refine gate_callee (f := 16) rfl ?_); refine goesL_ (some 50) rfl rfl Try.func16 (by kernel_rfl) rfl #[.agg #[.slice Aacp x0.length cacp, .slice (some ⟨g1, 0, none⟩) u1.length cbcp]] rfl (by (try simp only [List.map_toArray, List.map_cons, List.map_nil]); first | done | rfl | (rw [HLN.out] <;> rfl)) ?_; (with_reducible refine (impl_RightsOk.calls k _ _ x0 _ _ u1 false _ ?side1 ?side2 ?side3 ?side4 A7.out).mono ?_); (case side1 => repeat (first | exact Ch.rt_C0 CH.out 1 rfl | (with_reducible refine Kd.C_drewN ?_ _) | (with_reducible refine Kd.C_drew ?_))); (case side2 => exact Ch.rt_l0 CH.out 1 rfl); (case side3 => repeat (first | exact Ch.rt_C1 CH.out 1 rfl | (with_reducible refine Kd.C_drewN ?_ _) | (with_reducible refine Kd.C_drew ?_))); (case side4 => exact Ch.rt_l1 CH.out 1 rfl); rintro e w523 ⟨rfl, hb⟩; refine ⟨_, rfl, ?_⟩; have n0_ := k0 (Ch.below (kH CH.out) hb : Ch w523 [bk gp #[.slice Aacp x0.length cacp, .slice (some ⟨g1, 0, none⟩) x1.length cbcp] 28, rt w.heap.size (Kd.slice 3 (Kd.int .i64)) 23 (Kd.int .i64) 3 lo_cp hi_cp (.slice Aacp x0.length cacp) (.slice (some ⟨g1, 0, none⟩) x1.length cbcp) x0 u1, bk go #[.slice none 0 0, .slice none 0 0] 28, bk gr #[.slice A0_0 l0_0.length c0_0, .slice A0_1 l0_1.length c0_1] 28]); have n1_ := k0 (below_step (kW HB.out) hb : Below w.heap.size w w523); clear CH HB hb; have CH := n0_; have HB := n1_; clear n0_ n1_ ; clear hz511 hz512 hz513 hz514 hz515 hz516 hz517 hz518 hz519 hz520 hz521 hz522; obtain ⟨hz524, hz525, hz526, hz527⟩ := kz CH.out 0 rfl; obtain ⟨hz528, hz529, hz530, hz531⟩ := kz CH.out 2 rfl; obtain ⟨hz532, hz533, hz534, hz535⟩ := kz CH.out 3 rfl)
       | ((with_reducible refine gate_store (t := 28) (p := 10) rfl ?_); refine kT (t := 28) (p := 10) ?_; intro w536 hw; have n0_ := k0 (by rw [hw]; exact Ch.to (Ch.set1 (Ch.set1 (kH CH.out) 2 rfl 0 (.slice none 0 0) #[.slice none 0 0, .slice none 0 0] rfl) 2 rfl 1 (.slice none 0 0) #[.slice none 0 0, .slice none 0 0] rfl) rfl : Ch w536 [bk gp #[.slice Aacp x0.length cacp, .slice (some ⟨g1, 0, none⟩) x1.length cbcp] 28, rt w.heap.size (Kd.slice 3 (Kd.int .i64)) 23 (Kd.int .i64) 3 lo_cp hi_cp (.slice Aacp x0.length cacp) (.slice (some ⟨g1, 0, none⟩) x1.length cbcp) x0 u1, bk go #[.slice none 0 0, .slice none 0 0] 28, bk gr #[.slice A0_0 l0_0.length c0_0, .slice A0_1 l0_1.length c0_1] 28]); have n1_ := k0 (by rw [hw]; exact (below_set (below_set (kW HB.out) GE_go.out) GE_go.out) : Below w.heap.size w w536); clear CH HB hw; have CH := n0_; have HB := n1_; clear n0_ n1_ ; clear hz524 hz525 hz526 hz527 hz528 hz529 hz530 hz531 hz532 hz533 hz534 hz535; obtain ⟨hz537, hz538, hz539, hz540⟩ := kz CH.out 0 rfl; obtain ⟨hz541, hz542, hz543, hz544⟩ := kz CH.out 2 rfl; obtain ⟨hz545, hz546, hz547, hz548⟩ := kz CH.out 3 rfl))
      refine bodyPost_ret (results_ct rfl _ _ go 28 #[.slice none 0 0, .slice none 0 0] (0, 0) _ rfl (Ch.blk CH.out 2 rfl) Try.underlying28 rfl (by kernel_rfl)) rfl ?_
      exact ⟨_, _, rfl, Kd.S_nil _ _ _ _ _, Kd.R_nil _ _ _ _ _, HB.out⟩
     | true =>
      rw [if_pos rfl] at h
      simp only [Option.some.injEq, Prod.mk.injEq] at h
      obtain ⟨rfl, rfl, rfl⟩ := h
      go_enter Try.func59, Try.ntmps59
      go_wp2_with (first
       | ((with_reducible refine gate_dst (N := 5) rfl ?_); refine kE (N := 5) (cs := #[.slice A0_0 l0_0.length c0_0, .slice A0_1 l0_1.length c0_1]) (t := 28) ?_; intro gr hg w549 hbox hb; have n0_ := k0 (Ch.box (kH CH.out) hg hbox hb : Ch w549 [bk gr #[.slice A0_0 l0_0.length c0_0, .slice A0_1 l0_1.length c0_1] 28]); have n1_ := k0 (below_step (kW HB.out) hb : Below w.heap.size w w549); have m0_ := k0 (by rw [hg]; exact HB.out.size : w.heap.size ≤ gr); clear CH HB hb hbox hg; have CH := n0_; have HB := n1_; have GE_gr := m0_; clear n0_ n1_ m0_; obtain ⟨hz550, hz551, hz552, hz553⟩ := kz CH.out 0 rfl)
       | ((with_reducible refine gate_dst (N := 10) rfl ?_); refine kE (N := 10) (cs := #[.slice none 0 0, .slice none 0 0]) (t := 28) ?_; intro go hg w554 hbox hb; have n0_ := k0 (Ch.box (kH CH.out) hg hbox hb : Ch w554 [bk go #[.slice none 0 0, .slice none 0 0] 28, bk gr #[.slice A0_0 l0_0.length c0_0, .slice A0_1 l0_1.length c0_1] 28]); have n1_ := k0 (below_step (kW HB.out) hb : Below w.heap.size w w554); have m0_ := k0 (by rw [hg]; exact HB.out.size : w.heap.size ≤ go); clear CH HB hb hbox hg; have CH := n0_; have HB := n1_; have GE_go := m0_; clear n0_ n1_ m0_; clear hz550 hz551 hz552 hz553; obtain ⟨hz555, hz556, hz557, hz558⟩ := kz CH.out 0 rfl; obtain ⟨hz559, hz560, hz561, hz562⟩ := kz CH.out 1 rfl)
       | ((with_reducible refine gate_callee (f := 16) rfl ?_); refine kG (some 18) Try.func16 #[.agg #[.slice A0_0 l0_0.length c0_0, .slice A0_1 l0_1.length c0_1]] ?_; (with_reducible refine (impl_RightsOk.calls k _ _ l0_0 _ _ l0_1 true _ ?side1 ?side2 ?side3 ?side4 A1.out).mono ?_); (case side1 => repeat (first | exact (Kd.C_below HR0_0.out (kW HB.out)) | (with_reducible refine Kd.C_drewN ?_ _) | (with_reducible refine Kd.C_drew ?_))); (case side2 => exact HC0_0.out); (case side3 => repeat (first | exact (Kd.C_below HR0_1.out (kW HB.out)) | (with_reducible refine Kd.C_drewN ?_ _) | (with_reducible refine Kd.C_drew ?_))); (case side4 => exact HC0_1.out); rintro e w563 ⟨rfl, hb⟩; refine ⟨_, rfl, ?_⟩; have n0_ := k0 (Ch.below (kH CH.out) hb : Ch w563 [bk go #[.slice none 0 0, .slice none 0 0] 28, bk gr #[.slice A0_0 l0_0.length c0_0, .slice A0_1 l0_1.length c0_1] 28]); have n1_ := k0 (below_step (kW HB.out) hb : Below w.heap.size w w563); clear CH HB hb; have CH := n0_; have HB := n1_; clear n0_ n1_ ; clear hz555 hz556 hz557 hz558 hz559 hz560 hz561 hz562; obtain ⟨hz564, hz565, hz566, hz567⟩ := kz CH.out 0 rfl; obtain ⟨hz568, hz569, hz570, hz571⟩ := kz CH.out 1 rfl)
       | (go_at_call 44; (with_reducible refine (impl_in.calls a1 0 (wrap64 ((l0_1.length : Int) - 1)) true _ A2.out).mono ?_); rintro e w' ⟨rfl, ⟨nd572, rfl⟩⟩)
       | (go_at_call 44; (with_reducible refine (impl_in.calls a1 0 (wrap64 ((l0_1.length : Int) - 1)) true _ A3.out).mono ?_); rintro e w' ⟨rfl, ⟨nd573, rfl⟩⟩)
       | (go_at_call 69; (with_reducible refine (impl_IsAmt.calls a3 true _ A4.out).mono ?_); rintro e w' ⟨rfl, ⟨nd574, rfl⟩⟩)
       | ((with_reducible refine gate_callee (f := 53) rfl ?_); refine kG (some 41) Try.func53 #[.agg #[.slice A0_0 l0_0.length c0_0, .slice A0_1 l0_1.length c0_1]] ?_; (with_reducible refine (impl_copyRights.calls k _ _ l0_0 _ _ l0_1 x0 x1 _ ?side1 ?side2 ?side3 ?side4 A5.out).mono ?_); (case side1 => repeat (first | exact (Kd.C_below HR0_0.out (kW HB.out)) | (with_reducible refine Kd.C_drewN ?_ _) | (with_reducible refine Kd.C_drew ?_))); (case side2 => exact HC0_0.out); (case side3 => repeat (first | exact (Kd.C_below HR0_1.out (kW HB.out)) | (with_reducible refine Kd.C_drewN ?_ _) | (with_reducible refine Kd.C_drew ?_))); (case side4 => exact HC0_1.out); rintro e w575 ⟨v0_, v1_, rfl, h0_, h1_, hb⟩; refine ⟨_, rfl, ?_⟩; obtain ⟨Aacp, cacp, e0_⟩ := Kd.S_slice h0_; subst e0_; obtain ⟨Abcp, cbcp, e1_⟩ := Kd.R_slice h1_; subst e1_; obtain ⟨lo_cp, hlo_⟩ : ∃ z_ : Nat, z_ = (w563).heap.size := ⟨_, rfl⟩; obtain ⟨hi_cp, hhi_⟩ : ∃ z_ : Nat, z_ = (w575).heap.size := ⟨_, rfl⟩; have n0_ := k0 (by rw [hlo_, hhi_]; exact Ch.to (Ch.madeT (kH CH.out) (by exact HB.out.size) h0_ (fun _ hk => hk) h1_ hb) rfl : Ch w575 [rt w.heap.size (Kd.slice 3 (Kd.int .i64)) 23 (Kd.int .i64) 3 lo_cp hi_cp (.slice Aacp x0.length cacp) (.slice Abcp x1.length cbcp) x0 x1, bk go #[.slice none 0 0, .slice none 0 0] 28, bk gr #[.slice A0_0 l0_0.length c0_0, .slice A0_1 l0_1.length c0_1] 28]); have n1_ := k0 (below_step (kW HB.out) hb : Below w.heap.size w w575); clear CH HB hb h0_ h1_ hlo_ hhi_; have CH := n0_; have HB := n1_; clear n0_ n1_ ; clear hz564 hz565 hz566 hz567 hz568 hz569 hz570 hz571; obtain ⟨hz576, hz577, hz578, hz579⟩ := kz CH.out 1 rfl; obtain ⟨hz580, hz581, hz582, hz583⟩ := kz CH.out 2 rfl)
       | ((with_reducible refine gate_dst (N := 13) rfl ?_); refine kE (N := 13) (cs := #[.slice none 0 0, .slice none 0 0]) (t := 28) ?_; intro gp hg w584 hbox hb; have n0_ := k0 (Ch.box (kH CH.out) hg hbox hb : Ch w584 [bk gp #[.slice none 0 0, .slice none 0 0] 28, rt w.heap.size (Kd.slice 3 (Kd.int .i64)) 23 (Kd.int .i64) 3 lo_cp hi_cp (.slice Aacp x0.length cacp) (.slice Abcp x1.length cbcp) x0 x1, bk go #[.slice none 0 0, .slice none 0 0] 28, bk gr #[.slice A0_0 l0_0.length c0_0, .slice A0_1 l0_1.length c0_1] 28]); have n1_ := k0 (below_step (kW HB.out) hb : Below w.heap.size w w584); have m0_ := k0 (by rw [hg]; exact HB.out.size : w.heap.size ≤ gp); clear CH HB hb hbox hg; have CH := n0_; have HB := n1_; have GE_gp := m0_; clear n0_ n1_ m0_; clear hz576 hz577 hz578 hz579 hz580 hz581 hz582 hz583; obtain ⟨hz585, hz586, hz587, hz588⟩ := kz CH.out 0 rfl; obtain ⟨hz589, hz590, hz591, hz592⟩ := kz CH.out 2 rfl; obtain ⟨hz593, hz594, hz595, hz596⟩ := kz CH.out 3 rfl)
       | ((with_reducible refine gate_store (t := 28) (p := 13) rfl ?_); refine kT (t := 28) (p := 13) ?_; intro w597 hw; have n0_ := k0 (by rw [hw]; exact Ch.to (Ch.set1 (Ch.set1 (kH CH.out) 0 rfl 0 (.slice Aacp x0.length cacp) #[.slice Aacp x0.length cacp, .slice none 0 0] rfl) 0 rfl 1 (.slice Abcp x1.length cbcp) #[.slice Aacp x0.length cacp, .slice Abcp x1.length cbcp] rfl) rfl : Ch w597 [bk gp #[.slice Aacp x0.length cacp, .slice Abcp x1.length cbcp] 28, rt w.heap.size (Kd.slice 3 (Kd.int .i64)) 23 (Kd.int .i64) 3 lo_cp hi_cp (.slice Aacp x0.length cacp) (.slice Abcp x1.length cbcp) x0 x1, bk go #[.slice none 0 0, .slice none 0 0] 28, bk gr #[.slice A0_0 l0_0.length c0_0, .slice A0_1 l0_1.length c0_1] 28]); have n1_ := k0 (by rw [hw]; exact (below_set (below_set (kW HB.out) GE_gp.out) GE_gp.out) : Below w.heap.size w w597); clear CH HB hw; have CH := n0_; have HB := n1_; clear n0_ n1_ ; clear hz585 hz586 hz587 hz588 hz589 hz590 hz591 hz592 hz593 hz594 hz595 hz596; obtain ⟨hz598, hz599, hz600, hz601⟩ := kz CH.out 0 rfl; obtain ⟨hz602, hz603, hz604, hz605⟩ := kz CH.out 2 rfl; obtain ⟨hz606, hz607, hz608, hz609⟩ := kz CH.out 3 rfl; obtain ⟨g1, eA_, hb1, hv, hfz, hput⟩ := Ch.rt_spent CH.out 1 rfl a1 Q0.out Q1.out; subst eA_; have HV := Aside0.mk hv; have HFZ := Aside0.mk hfz; have HP := Aside0.mk hput; have HB1 := Aside0.mk hb1; clear hv hfz hput hb1)
       | (go_at_call 61; (with_reducible refine (impl_Spend_1.calls gp gi g1 cbcp x1.length a1 (.slice Aacp x0.length cacp) _ ?side1 ?side2 ?side3 ?side4).mono ?_); (case side1 => exact Ch.blk CH.out 0 rfl); (case side2 => exact pw_cell_below HB.out HI.out); (case side3 => exact Q0.out); (case side4 => exact Q1.out); rintro e w' ⟨rfl, ⟨nd610, rfl⟩⟩; have hv := HV.out; have hfz := HFZ.out)
       | ((with_reducible refine gate_store (t := 3) (p := 48) rfl ?_); refine kT (t := 3) (p := 48) ?_; intro w611 hw; have n0_ := k0 (by rw [hw, E1.out]; exact Ch.to (Ch.drewN (HP.out _) _) rfl : Ch w611 [bk gp #[.slice Aacp x0.length cacp, .slice (some ⟨g1, 0, none⟩) x1.length cbcp] 28, rt w.heap.size (Kd.slice 3 (Kd.int .i64)) 23 (Kd.int .i64) 3 lo_cp hi_cp (.slice Aacp x0.length cacp) (.slice (some ⟨g1, 0, none⟩) x1.length cbcp) x0 u1, bk go #[.slice none 0 0, .slice none 0 0] 28, bk gr #[.slice A0_0 l0_0.length c0_0, .slice A0_1 l0_1.length c0_1] 28]); have n1_ := k0 (by rw [hw]; exact below_set (kW HB.out) HB1.out : Below w.heap.size w w611); clear CH HB hw hv hfz HP HV HFZ; have CH := n0_; have HB := n1_; clear n0_ n1_ ; have HLN := k0 (by rw [E1.out, List.length_set] : u1.length = x1.length); clear hz598 hz599 hz600 hz601 hz602 hz603 hz604 hz605 hz606 hz607 hz608 hz609; obtain ⟨hz612, hz613, hz614, hz615⟩ := kz CH.out 0 rfl; obtain ⟨hz616, hz617, hz618, hz619⟩ := kz CH.out 2 rfl; obtain ⟨hz620, hz621, hz622, hz623⟩ := kz CH.out 3 rfl)
       | ((with_reducible refine gate_callee (f := 16) rfl ?_); refine goesL_ (some 50) rfl rfl Try.func16 (by kernel_rfl) rfl #[.agg #[.slice Aacp x0.length cacp, .slice (some ⟨g1, 0, none⟩) u1.length cbcp]] rfl (by (try simp only [List.map_toArray, List.map_cons, List.map_nil]); first | done | rfl | (rw [HLN.out] <;> rfl)) ?_; (with_reducible refine (impl_RightsOk.calls k _ _ x0 _ _ u1 true _ ?side1 ?side2 ?side3 ?side4 A7.out).mono ?_); (case side1 => repeat (first | exact Ch.rt_C0 CH.out 1 rfl | (with_reducible refine Kd.C_drewN ?_ _) | (with_reducible refine Kd.C_drew ?_))); (case side2 => exact Ch.rt_l0 CH.out 1 rfl); (case side3 => repeat (first | exact Ch.rt_C1 CH.out 1 rfl | (with_reducible refine Kd.C_drewN ?_ _) | (with_reducible refine Kd.C_drew ?_))); (case side4 => exact Ch.rt_l1 CH.out 1 rfl); rintro e w624 ⟨rfl, hb⟩; refine ⟨_, rfl, ?_⟩; have n0_ := k0 (Ch.below (kH CH.out) hb : Ch w624 [bk gp #[.slice Aacp x0.length cacp, .slice (some ⟨g1, 0, none⟩) x1.length cbcp] 28, rt w.heap.size (Kd.slice 3 (Kd.int .i64)) 23 (Kd.int .i64) 3 lo_cp hi_cp (.slice Aacp x0.length cacp) (.slice (some ⟨g1, 0, none⟩) x1.length cbcp) x0 u1, bk go #[.slice none 0 0, .slice none 0 0] 28, bk gr #[.slice A0_0 l0_0.length c0_0, .slice A0_1 l0_1.length c0_1] 28]); have n1_ := k0 (below_step (kW HB.out) hb : Below w.heap.size w w624); clear CH HB hb; have CH := n0_; have HB := n1_; clear n0_ n1_ ; clear hz612 hz613 hz614 hz615 hz616 hz617 hz618 hz619 hz620 hz621 hz622 hz623; obtain ⟨hz625, hz626, hz627, hz628⟩ := kz CH.out 0 rfl; obtain ⟨hz629, hz630, hz631, hz632⟩ := kz CH.out 2 rfl; obtain ⟨hz633, hz634, hz635, hz636⟩ := kz CH.out 3 rfl)
       | ((with_reducible refine gate_store (t := 28) (p := 10) rfl ?_); refine kT (t := 28) (p := 10) ?_; intro w637 hw; have n0_ := k0 (by rw [hw]; exact Ch.to (Ch.set1 (Ch.set1 (kH CH.out) 2 rfl 0 (.slice Aacp x0.length cacp) #[.slice Aacp x0.length cacp, .slice none 0 0] rfl) 2 rfl 1 (.slice (some ⟨g1, 0, none⟩) x1.length cbcp) #[.slice Aacp x0.length cacp, .slice (some ⟨g1, 0, none⟩) x1.length cbcp] rfl) rfl : Ch w637 [bk gp #[.slice Aacp x0.length cacp, .slice (some ⟨g1, 0, none⟩) x1.length cbcp] 28, rt w.heap.size (Kd.slice 3 (Kd.int .i64)) 23 (Kd.int .i64) 3 lo_cp hi_cp (.slice Aacp x0.length cacp) (.slice (some ⟨g1, 0, none⟩) x1.length cbcp) x0 u1, bk go #[.slice Aacp x0.length cacp, .slice (some ⟨g1, 0, none⟩) x1.length cbcp] 28, bk gr #[.slice A0_0 l0_0.length c0_0, .slice A0_1 l0_1.length c0_1] 28]); have n1_ := k0 (by rw [hw]; exact (below_set (below_set (kW HB.out) GE_go.out) GE_go.out) : Below w.heap.size w w637); clear CH HB hw; have CH := n0_; have HB := n1_; clear n0_ n1_ ; clear hz625 hz626 hz627 hz628 hz629 hz630 hz631 hz632 hz633 hz634 hz635 hz636; obtain ⟨hz638, hz639, hz640, hz641⟩ := kz CH.out 0 rfl; obtain ⟨hz642, hz643, hz644, hz645⟩ := kz CH.out 2 rfl; obtain ⟨hz646, hz647, hz648, hz649⟩ := kz CH.out 3 rfl))
      refine bodyPost_ret (results_ct rfl _ _ go 28 #[.slice Aacp x0.length cacp, .slice (some ⟨g1, 0, none⟩) x1.length cbcp] (0, 0) _ rfl (Ch.blk CH.out 2 rfl) Try.underlying28 rfl (by kernel_rfl)) rfl ?_
      have hF := Ch.get CH.out 1 rfl
      exact ⟨_, _, rfl, Kd.S_mono hF.1 (fun _ hk => hk.2), Kd.R_mono hF.2 (fun _ _ => trivial), HB.out⟩
def impl_Spend.f (k : Nat) (l0_0 : List (List Int)) (l0_1 : List Int) (a1 a2 : Int) : Option (List (List Int) × List Int × Bool) := impl_changed_Spend.f k l0_0 l0_1 a1 a2
theorem impl_Spend.mono : ∀ x0 x1 a1 a2 k, LeO (impl_Spend.f k x0 x1 a1 a2) (impl_Spend.f (k + 1) x0 x1 a1 a2) := by
 intro x0 x1 a1 a2 k
 unfold impl_Spend.f
 exact impl_changed_Spend.mono _ _ _ _ _
set_option maxHeartbeats 8000000 in
set_option maxRecDepth 100000 in
theorem impl_Spend.calls (k : Nat) (A0_0 : Option Addr) (c0_0 : Nat) (l0_0 : List (List Int)) (A0_1 : Option Addr) (c0_1 : Nat) (l0_1 : List Int) (a1 : Int) (a2 : Int) (r1 : List (List Int)) (r2 : List Int) (r3 : Bool) (w : World) (hr0_0 : Kd.C (Kd.slice 3 (Kd.int .i64)) w A0_0 l0_0.length l0_0) (hc0_0 : l0_0.length ≤ c0_0) (hr0_1 : Kd.C (Kd.int .i64) w A0_1 l0_1.length l0_1) (hc0_1 : l0_1.length ≤ c0_1) (h : impl_Spend.f k l0_0 l0_1 a1 a2 = some (r1, r2, r3)) :
  Calls Try.prog 31 #[.agg #[.slice A0_0 l0_0.length c0_0, .slice A0_1 l0_1.length c0_1], .int .i64 a1, .int .i64 a2] w fun e w' => ∃ v0_ v1_ : Value, e = .returned (.tuple #[.agg #[v0_, v1_], .bool r3]) ∧ Kd.S (Kd.slice 3 (Kd.int .i64)) 23 w' w.heap.size (fun k_ => some k_ ≠ (v1_ : Value).ownBlock) v0_ r1 ∧ Kd.R (Kd.int .i64) 3 w' w.heap.size (fun _ => True) v1_ r2 ∧ Below w.heap.size w w' := by
 have hu28 := Try.underlying28
 have hmf : ∀ (fn : Fn) (first cap : Array Value) (w : World), (Instr.makeFunc fn first cap).run Try.prog w = .ok (.func fn first cap) w := fun _ _ _ _ => rfl
 have HR0_0 := Aside0.mk hr0_0
 have HC0_0 := Aside0.mk hc0_0
 have HR0_1 := Aside0.mk hr0_1
 have HC0_1 := Aside0.mk hc0_1
 clear hr0_0 hc0_0 hr0_1 hc0_1
 have HB := k0 (Below.refl w.heap.size w)
 have CH := k0 (Ch.nil w)
 have H := k0 (show impl_changed_Spend.f k l0_0 l0_1 a1 a2 = some (r1, r2, r3) from h)
 clear h
 go_enter Try.func31, Try.ntmps31
 go_wp2_with (first
  | ((with_reducible refine gate_dst (N := 3) rfl ?_); refine kE (N := 3) (cs := #[.slice A0_0 l0_0.length c0_0, .slice A0_1 l0_1.length c0_1]) (t := 28) ?_; intro gr hg w650 hbox hb; have n0_ := k0 (Ch.box (kH CH.out) hg hbox hb : Ch w650 [bk gr #[.slice A0_0 l0_0.length c0_0, .slice A0_1 l0_1.length c0_1] 28]); have n1_ := k0 (below_step (kW HB.out) hb : Below w.heap.size w w650); have m0_ := k0 (by rw [hg]; exact HB.out.size : w.heap.size ≤ gr); clear CH HB hb hbox hg; have CH := n0_; have HB := n1_; have GE_gr := m0_; clear n0_ n1_ m0_; obtain ⟨hz651, hz652, hz653, hz654⟩ := kz CH.out 0 rfl)
  | ((with_reducible refine gate_dst (N := 4) rfl ?_); refine kE (N := 4) (cs := #[.int .i64 a1]) (t := 3) ?_; intro gi hg w655 hbox hb; have n0_ := k0 (Ch.box (kH CH.out) hg hbox hb : Ch w655 [bk gi #[.int .i64 a1] 3, bk gr #[.slice A0_0 l0_0.length c0_0, .slice A0_1 l0_1.length c0_1] 28]); have n1_ := k0 (below_step (kW HB.out) hb : Below w.heap.size w w655); have m0_ := k0 (by rw [hg]; exact HB.out.size : w.heap.size ≤ gi); clear CH HB hb hbox hg; have CH := n0_; have HB := n1_; have GE_gi := m0_; clear n0_ n1_ m0_; clear hz651 hz652 hz653 hz654; have hz656 : w655.cell? ⟨gi, 0, none⟩ = some (.int .i64 a1) := (blk_cell (Ch.blk CH.out 0 rfl) 0).trans rfl; have hz657 := blk_frozen (Ch.blk CH.out 0 rfl) 0; obtain ⟨hz658, hz659, hz660, hz661⟩ := kz CH.out 1 rfl)
  | ((with_reducible refine gate_dst (N := 6) rfl ?_); refine kE (N := 6) (cs := #[.slice none 0 0, .slice none 0 0]) (t := 28) ?_; intro go hg w662 hbox hb; have n0_ := k0 (Ch.box (kH CH.out) hg hbox hb : Ch w662 [bk go #[.slice none 0 0, .slice none 0 0] 28, bk gi #[.int .i64 a1] 3, bk gr #[.slice A0_0 l0_0.length c0_0, .slice A0_1 l0_1.length c0_1] 28]); have n1_ := k0 (below_step (kW HB.out) hb : Below w.heap.size w w662); have m0_ := k0 (by rw [hg]; exact HB.out.size : w.heap.size ≤ go); clear CH HB hb hbox hg; have CH := n0_; have HB := n1_; have GE_go := m0_; clear n0_ n1_ m0_; clear hz656 hz657 hz658 hz659 hz660 hz661; obtain ⟨hz663, hz664, hz665, hz666⟩ := kz CH.out 0 rfl; have hz667 : w662.cell? ⟨gi, 0, none⟩ = some (.int .i64 a1) := (blk_cell (Ch.blk CH.out 1 rfl) 0).trans rfl; have hz668 := blk_frozen (Ch.blk CH.out 1 rfl) 0; obtain ⟨hz669, hz670, hz671, hz672⟩ := kz CH.out 2 rfl)
  | ((with_reducible refine gate_callee (f := 59) rfl ?_); refine kG (some 13) Try.func59 #[.agg #[.slice A0_0 l0_0.length c0_0, .slice A0_1 l0_1.length c0_1], .int .i64 a1, .int .i64 a1, .int .i64 a2, .func (.func 61) #[] #[.pointer (some ⟨gi, 0, none⟩)]] ?_; (with_reducible refine (impl_changed_Spend.calls k _ _ l0_0 _ _ l0_1 a1 a2 gi r1 r2 r3 _ ?side1 ?side2 ?side3 ?side4 ?side5 H.out).mono ?_); (case side1 => repeat (first | exact (Kd.C_below HR0_0.out (kW HB.out)) | (with_reducible refine Kd.C_drewN ?_ _) | (with_reducible refine Kd.C_drew ?_))); (case side2 => exact HC0_0.out); (case side3 => repeat (first | exact (Kd.C_below HR0_1.out (kW HB.out)) | (with_reducible refine Kd.C_drewN ?_ _) | (with_reducible refine Kd.C_drew ?_))); (case side4 => exact HC0_1.out); (case side5 => exact (blk_cell (Ch.blk CH.out 1 rfl) 0).trans rfl); rintro e w673 ⟨v0_, v1_, rfl, h0_, h1_, hb⟩; refine ⟨_, rfl, ?_⟩; obtain ⟨Aacr, cacr, e0_⟩ := Kd.S_slice h0_; subst e0_; obtain ⟨Abcr, cbcr, e1_⟩ := Kd.R_slice h1_; subst e1_; obtain ⟨lo_cr, hlo_⟩ : ∃ z_ : Nat, z_ = (w662).heap.size := ⟨_, rfl⟩; obtain ⟨hi_cr, hhi_⟩ : ∃ z_ : Nat, z_ = (w673).heap.size := ⟨_, rfl⟩; have n0_ := k0 (by rw [hlo_, hhi_]; exact Ch.to (Ch.madeT (kH CH.out) (by exact HB.out.size) h0_ (fun _ hk => hk) h1_ hb) rfl : Ch w673 [rt w.heap.size (Kd.slice 3 (Kd.int .i64)) 23 (Kd.int .i64) 3 lo_cr hi_cr (.slice Aacr r1.length cacr) (.slice Abcr r2.length cbcr) r1 r2, bk go #[.slice none 0 0, .slice none 0 0] 28, bk gi #[.int .i64 a1] 3, bk gr #[.slice A0_0 l0_0.length c0_0, .slice A0_1 l0_1.length c0_1] 28]); have n1_ := k0 (below_step (kW HB.out) hb : Below w.heap.size w w673); clear CH HB hb h0_ h1_ hlo_ hhi_; have CH := n0_; have HB := n1_; clear n0_ n1_ ; clear hz663 hz664 hz665 hz666 hz667 hz668 hz669 hz670 hz671 hz672; obtain ⟨hz674, hz675, hz676, hz677⟩ := kz CH.out 1 rfl; have hz678 : w673.cell? ⟨gi, 0, none⟩ = some (.int .i64 a1) := (blk_cell (Ch.blk CH.out 2 rfl) 0).trans rfl; have hz679 := blk_frozen (Ch.blk CH.out 2 rfl) 0; obtain ⟨hz680, hz681, hz682, hz683⟩ := kz CH.out 3 rfl)
  | ((with_reducible refine gate_store (t := 28) (p := 6) rfl ?_); refine kT (t := 28) (p := 6) ?_; intro w684 hw; have n0_ := k0 (by rw [hw]; exact Ch.to (Ch.set1 (Ch.set1 (kH CH.out) 1 rfl 0 (.slice Aacr r1.length cacr) #[.slice Aacr r1.length cacr, .slice none 0 0] rfl) 1 rfl 1 (.slice Abcr r2.length cbcr) #[.slice Aacr r1.length cacr, .slice Abcr r2.length cbcr] rfl) rfl : Ch w684 [rt w.heap.size (Kd.slice 3 (Kd.int .i64)) 23 (Kd.int .i64) 3 lo_cr hi_cr (.slice Aacr r1.length cacr) (.slice Abcr r2.length cbcr) r1 r2, bk go #[.slice Aacr r1.length cacr, .slice Abcr r2.length cbcr] 28, bk gi #[.int .i64 a1] 3, bk gr #[.slice A0_0 l0_0.length c0_0, .slice A0_1 l0_1.length c0_1] 28]); have n1_ := k0 (by rw [hw]; exact (below_set (below_set (kW HB.out) GE_go.out) GE_go.out) : Below w.heap.size w w684); clear CH HB hw; have CH := n0_; have HB := n1_; clear n0_ n1_ ; clear hz674 hz675 hz676 hz677 hz678 hz679 hz680 hz681 hz682 hz683; obtain ⟨hz685, hz686, hz687, hz688⟩ := kz CH.out 1 rfl; have hz689 : w684.cell? ⟨gi, 0, none⟩ = some (.int .i64 a1) := (blk_cell (Ch.blk CH.out 2 rfl) 0).trans rfl; have hz690 := blk_frozen (Ch.blk CH.out 2 rfl) 0; obtain ⟨hz691, hz692, hz693, hz694⟩ := kz CH.out 3 rfl))
 refine bodyPost_ret (results_ct rfl _ _ go 28 #[.slice Aacr r1.length cacr, .slice Abcr r2.length cbcr] (0, 0) _ rfl (Ch.blk CH.out 1 rfl) Try.underlying28 rfl (by kernel_rfl)) rfl ?_
 have hF := Ch.get CH.out 0 rfl
 exact ⟨_, _, rfl, Kd.S_mono hF.1 (fun _ hk => hk.2), Kd.R_mono hF.2 (fun _ _ => trivial), HB.out⟩

end

end Go.Proofs.Ytcnanifokpcjaaa.PFnRights
