import Derived.Test.YtnejpihjlkpcgaaPFnExactDiskResetx0
import Derived.Test.YtnejpihjlkpcgaaPFnExactDiskResetx1
import Derived.Test.YtnejpihjlkpcgaaPFnExactDiskResetx2
namespace Go.Proofs.Ytnejpihjlkpcgaa.PFnExactDiskReset
open Go.RowKit Go.Proofs.YtnejpihjlkpcgaaW.PrintWords Go.Proofs.YtnejpihjlkpcgaaW.PrintLast Go.Proofs.YtnejpihjlkpcgaaW.PrintMore
attribute [local go_sem] max2_int min2_int max_two min_two max_three min_three max_four min_four   -- for this text's walks alone
set_option linter.unusedVariables false
set_option linter.unusedSimpArgs false

/-! ### laws_FnExactDiskReset: function 10 -/
mutual
def laws_FnExactDiskReset.j0 : Nat → List Int → Bool → List Int → Bool → Bool → List Int → List Int → List Int → List Int → List Int → List Int → List Int → List Int → Option (Bool)
  | 0, _, _, _, _, _, _, _, _, _, _, _, _, _ => none
  | k + 1, x1, x7, x9, x11, x51, x157000, x157001, x175000, x175001, x182000, x182001, x193000, x193001 => if x51 = true then (some false) else ((laws_toDisk.f k x157000 x157001).bind fun bt194 => ((laws_eqDisk.f k x182000 x182001 bt194.1 bt194.2).bind fun t200 => (if t200 = true then ((laws_toByteS.f k x1).bind fun t201 => ((laws_eqByteS.f k x9 t201).bind fun t204 => (if t204 = true then ((laws_markDisk.f k x182000 x182001 1).bind fun bt205 => ((laws_markByteS.f k x9 bt205.1).bind fun bt208 => (if bt208.1 < 0 then (laws_FnExactDiskReset.j1 k x1 x7 true x157000 x157001 x175000 x175001 x193000 x193001) else ((laws_eqDisk.f k x193000 x193001 x175000 x175001).bind fun t210 => (if t210 = true then (laws_FnExactDiskReset.j1 k x1 x7 (x11 != x7) x157000 x157001 x175000 x175001 x193000 x193001) else (laws_FnExactDiskReset.j1 k x1 x7 true x157000 x157001 x175000 x175001 x193000 x193001)))))) else (some false)))) else (some false))))
def laws_FnExactDiskReset.j1 : Nat → List Int → Bool → Bool → List Int → List Int → List Int → List Int → List Int → List Int → Option (Bool)
  | 0, _, _, _, _, _, _, _, _, _ => none
  | k + 1, x1, x7, x80, x157000, x157001, x175000, x175001, x193000, x193001 => if x80 = true then (some false) else ((laws_markDisk.f k x193000 x193001 1).bind fun bt211 => ((laws_heldDisk.f k bt211.2.1 bt211.2.2 1).bind fun t214 => (if t214 < 0 then (some false) else (if t214 = bt211.1 then ((laws_toDisk.f k x157000 x157001).bind fun bt215 => ((laws_toByteS.f k x1).bind fun t221 => ((impl_DiskReset.f bt215.1 bt215.2 t221).bind fun bt224 => ((laws_eqDisk.f k bt224.1 bt224.2.1 x175000 x175001).bind fun t232 => (if t232 = true then (laws_FnExactDiskReset.j2 k bt211.1 (bt224.2.2 != x7) bt211.2.1 bt211.2.2) else (laws_FnExactDiskReset.j2 k bt211.1 true bt211.2.1 bt211.2.2)))))) else (some false)))))
def laws_FnExactDiskReset.j2 : Nat → Int → Bool → List Int → List Int → Option (Bool)
  | 0, _, _, _, _ => none
  | k + 1, x13, x108, x193000, x193001 => if x108 = true then (some false) else ((laws_heldDisk.f k x193000 x193001 1).bind fun t233 => (if t233 < 0 then (some false) else (if t233 = x13 then (some true) else (some false))))
end
def laws_FnExactDiskReset.f (k : Nat) (l0_0 : List Int) (l0_1 : List Int) (l1 : List Int) : Option (Bool) := if (l1.length : Int) > 1048576 then (some true) else ((laws_szDisk.f l0_0 l0_1 1048576).bind fun t157 => (if t157 < 0 then (some true) else ((laws_toDisk.f k l0_0 l0_1).bind fun bt158 => ((laws_toByteS.f k l1).bind fun t164 => ((spec_DiskReset.f bt158.1 bt158.2 t164).bind fun bt167 => ((laws_toDisk.f k l0_0 l0_1).bind fun bt175 => ((laws_toByteS.f k l1).bind fun t182 => ((impl_DiskReset.f bt175.1 bt175.2 t182).bind fun bt185 => ((laws_eqDisk.f k bt185.1 bt185.2.1 bt167.1 bt167.2.1).bind fun t193 => (if t193 = true then (laws_FnExactDiskReset.j0 k l1 bt167.2.2 t182 bt185.2.2 (bt185.2.2 != bt167.2.2) l0_0 l0_1 bt167.1 bt167.2.1 bt175.1 bt175.2 bt185.1 bt185.2.1) else (laws_FnExactDiskReset.j0 k l1 bt167.2.2 t182 bt185.2.2 true l0_0 l0_1 bt167.1 bt167.2.1 bt175.1 bt175.2 bt185.1 bt185.2.1)))))))))))
theorem laws_FnExactDiskReset.mono_l : ∀ k, (∀ y0 y1 y2 y3 y4 y5 y6 y7 y8 y9 y10 y11 y12, LeO (laws_FnExactDiskReset.j0 k y0 y1 y2 y3 y4 y5 y6 y7 y8 y9 y10 y11 y12) (laws_FnExactDiskReset.j0 (k + 1) y0 y1 y2 y3 y4 y5 y6 y7 y8 y9 y10 y11 y12)) ∧ (∀ y0 y1 y2 y3 y4 y5 y6 y7 y8, LeO (laws_FnExactDiskReset.j1 k y0 y1 y2 y3 y4 y5 y6 y7 y8) (laws_FnExactDiskReset.j1 (k + 1) y0 y1 y2 y3 y4 y5 y6 y7 y8)) ∧ (∀ y0 y1 y2 y3, LeO (laws_FnExactDiskReset.j2 k y0 y1 y2 y3) (laws_FnExactDiskReset.j2 (k + 1) y0 y1 y2 y3))
  | 0 => ⟨fun _ _ _ _ _ _ _ _ _ _ _ _ _ r h => by simp [laws_FnExactDiskReset.j0] at h, fun _ _ _ _ _ _ _ _ _ r h => by simp [laws_FnExactDiskReset.j1] at h, fun _ _ _ _ r h => by simp [laws_FnExactDiskReset.j2] at h⟩
  | k + 1 => by
    obtain ⟨ih0, ih1, ih2⟩ := laws_FnExactDiskReset.mono_l k
    refine ⟨?_, ?_, ?_⟩
    · intro y0 y1 y2 y3 y4 y5 y6 y7 y8 y9 y10 y11 y12
      unfold laws_FnExactDiskReset.j0
      repeat' first
      | (with_reducible exact ih0 _ _ _ _ _ _ _ _ _ _ _ _ _)
      | (with_reducible exact ih1 _ _ _ _ _ _ _ _ _)
      | (with_reducible exact ih2 _ _ _ _)
      | (with_reducible exact laws_eqByteS.mono _ _ _)
      | (with_reducible exact laws_eqDisk.mono _ _ _ _ _)
      | (with_reducible exact laws_heldDisk.mono _ _ _ _)
      | (with_reducible exact laws_markByteS.mono _ _ _)
      | (with_reducible exact laws_markDisk.mono _ _ _ _)
      | (with_reducible exact laws_toByteS.mono _ _)
      | (with_reducible exact laws_toDisk.mono _ _ _)
      | (with_reducible exact LeO.refl _)
      | (with_reducible exact LeO.none _)
      | (with_reducible refine LeO.ite ?_ ?_)
      | (with_reducible refine LeO.bind ?_ (fun _ => ?_))
      | exact ih0 _ _ _ _ _ _ _ _ _ _ _ _ _
      | exact ih1 _ _ _ _ _ _ _ _ _
      | exact ih2 _ _ _ _
      | exact laws_eqByteS.mono _ _ _
      | exact laws_eqDisk.mono _ _ _ _ _
      | exact laws_heldDisk.mono _ _ _ _
      | exact laws_markByteS.mono _ _ _
      | exact laws_markDisk.mono _ _ _ _
      | exact laws_toByteS.mono _ _
      | exact laws_toDisk.mono _ _ _
      | exact LeO.none _
      | refine LeO.ite ?_ ?_
      | refine LeO.bind ?_ (fun _ => ?_)
    · intro y0 y1 y2 y3 y4 y5 y6 y7 y8
      unfold laws_FnExactDiskReset.j1
      repeat' first
      | (with_reducible exact ih0 _ _ _ _ _ _ _ _ _ _ _ _ _)
      | (with_reducible exact ih1 _ _ _ _ _ _ _ _ _)
      | (with_reducible exact ih2 _ _ _ _)
      | (with_reducible exact laws_eqByteS.mono _ _ _)
      | (with_reducible exact laws_eqDisk.mono _ _ _ _ _)
      | (with_reducible exact laws_heldDisk.mono _ _ _ _)
      | (with_reducible exact laws_markByteS.mono _ _ _)
      | (with_reducible exact laws_markDisk.mono _ _ _ _)
      | (with_reducible exact laws_toByteS.mono _ _)
      | (with_reducible exact laws_toDisk.mono _ _ _)
      | (with_reducible exact LeO.refl _)
      | (with_reducible exact LeO.none _)
      | (with_reducible refine LeO.ite ?_ ?_)
      | (with_reducible refine LeO.bind ?_ (fun _ => ?_))
      | exact ih0 _ _ _ _ _ _ _ _ _ _ _ _ _
      | exact ih1 _ _ _ _ _ _ _ _ _
      | exact ih2 _ _ _ _
      | exact laws_eqByteS.mono _ _ _
      | exact laws_eqDisk.mono _ _ _ _ _
      | exact laws_heldDisk.mono _ _ _ _
      | exact laws_markByteS.mono _ _ _
      | exact laws_markDisk.mono _ _ _ _
      | exact laws_toByteS.mono _ _
      | exact laws_toDisk.mono _ _ _
      | exact LeO.none _
      | refine LeO.ite ?_ ?_
      | refine LeO.bind ?_ (fun _ => ?_)
    · intro y0 y1 y2 y3
      unfold laws_FnExactDiskReset.j2
      repeat' first
      | (with_reducible exact ih0 _ _ _ _ _ _ _ _ _ _ _ _ _)
      | (with_reducible exact ih1 _ _ _ _ _ _ _ _ _)
      | (with_reducible exact ih2 _ _ _ _)
      | (with_reducible exact laws_eqByteS.mono _ _ _)
      | (with_reducible exact laws_eqDisk.mono _ _ _ _ _)
      | (with_reducible exact laws_heldDisk.mono _ _ _ _)
      | (with_reducible exact laws_markByteS.mono _ _ _)
      | (with_reducible exact laws_markDisk.mono _ _ _ _)
      | (with_reducible exact laws_toByteS.mono _ _)
      | (with_reducible exact laws_toDisk.mono _ _ _)
      | (with_reducible exact LeO.refl _)
      | (with_reducible exact LeO.none _)
      | (with_reducible refine LeO.ite ?_ ?_)
      | (with_reducible refine LeO.bind ?_ (fun _ => ?_))
      | exact ih0 _ _ _ _ _ _ _ _ _ _ _ _ _
      | exact ih1 _ _ _ _ _ _ _ _ _
      | exact ih2 _ _ _ _
      | exact laws_eqByteS.mono _ _ _
      | exact laws_eqDisk.mono _ _ _ _ _
      | exact laws_heldDisk.mono _ _ _ _
      | exact laws_markByteS.mono _ _ _
      | exact laws_markDisk.mono _ _ _ _
      | exact laws_toByteS.mono _ _
      | exact laws_toDisk.mono _ _ _
      | exact LeO.none _
      | refine LeO.ite ?_ ?_
      | refine LeO.bind ?_ (fun _ => ?_)
theorem laws_FnExactDiskReset.mono : ∀ a0 a1 a2 k, LeO (laws_FnExactDiskReset.f k a0 a1 a2) (laws_FnExactDiskReset.f (k + 1) a0 a1 a2) := by
  intro a0 a1 a2 k
  obtain ⟨ih0, ih1, ih2⟩ := laws_FnExactDiskReset.mono_l k
  unfold laws_FnExactDiskReset.f
  repeat' first
      | (with_reducible exact ih0 _ _ _ _ _ _ _ _ _ _ _ _ _)
      | (with_reducible exact ih1 _ _ _ _ _ _ _ _ _)
      | (with_reducible exact ih2 _ _ _ _)
      | (with_reducible exact laws_eqByteS.mono _ _ _)
      | (with_reducible exact laws_eqDisk.mono _ _ _ _ _)
      | (with_reducible exact laws_heldDisk.mono _ _ _ _)
      | (with_reducible exact laws_markByteS.mono _ _ _)
      | (with_reducible exact laws_markDisk.mono _ _ _ _)
      | (with_reducible exact laws_toByteS.mono _ _)
      | (with_reducible exact laws_toDisk.mono _ _ _)
      | (with_reducible exact LeO.refl _)
      | (with_reducible exact LeO.none _)
      | (with_reducible refine LeO.ite ?_ ?_)
      | (with_reducible refine LeO.bind ?_ (fun _ => ?_))
      | exact ih0 _ _ _ _ _ _ _ _ _ _ _ _ _
      | exact ih1 _ _ _ _ _ _ _ _ _
      | exact ih2 _ _ _ _
      | exact laws_eqByteS.mono _ _ _
      | exact laws_eqDisk.mono _ _ _ _ _
      | exact laws_heldDisk.mono _ _ _ _
      | exact laws_markByteS.mono _ _ _
      | exact laws_markDisk.mono _ _ _ _
      | exact laws_toByteS.mono _ _
      | exact laws_toDisk.mono _ _ _
      | exact LeO.none _
      | refine LeO.ite ?_ ?_
      | refine LeO.bind ?_ (fun _ => ?_)
theorem k0 {p : Prop} (x : p) : Aside0 p := ⟨x⟩
/-- What was known of an older world is known of this one. -/
theorem kR {p q : Prop} (x : p) (h : p → q := by intro x; (with_reducible repeat (first | apply Kd.R_alloc | apply Kd.R_drewN | apply Kd.R_drew)); exact x) : q := h x
theorem kB {p q : Prop} (x : p) (h : p → q := by intro x; (with_reducible repeat (first | refine blk_drewN ?_ _ | refine blk_drew ?_ | refine blk_alloc ?_ _)); exact x) : q := h x
theorem kW {p q : Prop} (x : p) (h : p → q := by intro x; repeat (first | (with_reducible first | exact x | apply below_alloc | apply pw_below_drewN | apply below_drew1 | refine below_set ?_ (Aside0.out (by assumption))) | exact x)) : q := h x
theorem kb {w0 w w' : World} {g : Nat} {o : Obj} (x : w0.heap[g]? = some o) (hb : Below w.heap.size w w') (h : w0.heap[g]? = some o → w.heap[g]? = some o := by intro x; (with_reducible repeat (first | refine blk_drewN ?_ _ | refine blk_drew ?_ | refine blk_alloc ?_ _)); exact x) : w'.heap[g]? = some o := blk_below (h x) hb
theorem kK {w0 W W2 : World} {S : Nat → Prop} {g : Nat} {o : Obj} (x : w0.heap[g]? = some o) (hk : Kept W W2 S) (hne : ¬ S g) (h : w0.heap[g]? = some o → W.heap[g]? = some o := by intro x; (with_reducible repeat (first | refine blk_drewN ?_ _ | refine blk_drew ?_ | refine blk_alloc ?_ _)); exact x) : W2.heap[g]? = some o := blk_kept (h x) hk hne
theorem kl {w0 w : World} {g g' : Nat} {o : Obj} (x : w0.heap[g]? = some o) (hg : g' = w.heap.size) (h : w0.heap[g]? = some o → w.heap[g]? = some o := by intro x; (with_reducible repeat (first | refine blk_drewN ?_ _ | refine blk_drew ?_ | refine blk_alloc ?_ _)); exact x) : g ≠ g' := by rw [hg]; exact Nat.ne_of_lt (blk_lt (h x))
theorem kg {w0 w : World} {g g' : Nat} {o : Obj} (x : w0.heap[g]? = some o) (hg : g' = w.heap.size) (h : w0.heap[g]? = some o → w.heap[g]? = some o := by intro x; (with_reducible repeat (first | refine blk_drewN ?_ _ | refine blk_drew ?_ | refine blk_alloc ?_ _)); exact x) : g' ≠ g := by rw [hg]; exact Nat.ne_of_gt (blk_lt (h x))
set_option maxHeartbeats 8000000 in
set_option maxRecDepth 100000 in
theorem laws_FnExactDiskReset.calls (k : Nat) (A0_0 : Option Addr) (c0_0 : Nat) (l0_0 : List Int) (A0_1 : Option Addr) (c0_1 : Nat) (l0_1 : List Int) (A1 : Option Addr) (c1 : Nat) (l1 : List Int) (r : Bool) (w : World) (hr0_0 : Kd.C (Kd.int .u8) w A0_0 l0_0.length l0_0) (hc0_0 : l0_0.length ≤ c0_0) (hr0_1 : Kd.C (Kd.int .u8) w A0_1 l0_1.length l0_1) (hc0_1 : l0_1.length ≤ c0_1) (hr1 : Kd.C (Kd.int .u8) w A1 l1.length l1) (hc1 : l1.length ≤ c1) (HR : Aside0 (r = true)) (h : laws_FnExactDiskReset.f k l0_0 l0_1 l1 = some r) :
  Calls Try.prog 10 #[.agg #[.slice A0_0 l0_0.length c0_0, .slice A0_1 l0_1.length c0_1], .slice A1 l1.length c1] w fun e w' => e = .returned (.bool r) ∧ Below w.heap.size w w' := by
 have hu32 := Try.underlying32
 have hu35 := Try.underlying35
 have HR0_0 := Aside0.mk hr0_0
 have HC0_0 := Aside0.mk hc0_0
 clear hr0_0 hc0_0
 have HR0_1 := Aside0.mk hr0_1
 have HC0_1 := Aside0.mk hc0_1
 clear hr0_1 hc0_1
 have HR1 := Aside0.mk hr1
 have HC1 := Aside0.mk hc1
 clear hr1 hc1
 have HB := k0 (Below.refl w.heap.size w)
 have H : (if (l1.length : Int) > 1048576 then (some true) else ((laws_szDisk.f l0_0 l0_1 1048576).bind fun t157 => (if t157 < 0 then (some true) else ((laws_toDisk.f k l0_0 l0_1).bind fun bt158 => ((laws_toByteS.f k l1).bind fun t164 => ((spec_DiskReset.f bt158.1 bt158.2 t164).bind fun bt167 => ((laws_toDisk.f k l0_0 l0_1).bind fun bt175 => ((laws_toByteS.f k l1).bind fun t182 => ((impl_DiskReset.f bt175.1 bt175.2 t182).bind fun bt185 => ((laws_eqDisk.f k bt185.1 bt185.2.1 bt167.1 bt167.2.1).bind fun t193 => (if t193 = true then (laws_FnExactDiskReset.j0 k l1 bt167.2.2 t182 bt185.2.2 (bt185.2.2 != bt167.2.2) l0_0 l0_1 bt167.1 bt167.2.1 bt175.1 bt175.2 bt185.1 bt185.2.1) else (laws_FnExactDiskReset.j0 k l1 bt167.2.2 t182 bt185.2.2 true l0_0 l0_1 bt167.1 bt167.2.1 bt175.1 bt175.2 bt185.1 bt185.2.1)))))))))))) = some r := h
 clear h
 by_cases c3 : (l1.length : Int) > 1048576
 ·rw [if_pos c3] at H
  have c3b0 : decide (1048576 < (l1.length : Int)) = true := decide_eq_true c3
  have c3b1 : decide (1048576 < l1.length) = true := decide_eq_true (by omega)
  clear c3
  obtain rfl := Option.some.inj H
  go_enter Try.func10, Try.ntmps10
  go_wp2_with (first | ((with_reducible refine gate_dst (N := 2) rfl ?_); refine box_event ?hg (N := 2) ?hd (cs := #[.slice A0_0 l0_0.length c0_0, .slice A0_1 l0_1.length c0_1]) (t := 32) ?hr ?_; (case hd => rfl); (case hg => rfl); (case hr => first | (go_simp; done) | (go_simp; rfl)); intro gb156 hg w4 hbox hb; have n0_ := k0 (below_step (kW HB.out) hb); have n1_ := k0 (hbox); have n2_ := k0 ((by rw [hg]; exact (below_size (kW HB.out)) : w.heap.size ≤ gb156)); have n3_ := k0 ((by rw [hg]; exact (below_size (kW HB.out)) : w.heap.size ≤ gb156)); clear HB; have HB := n0_; have BK156 := n1_; have GW156 := n2_; have GE156 := n3_; clear n0_ n1_ n2_ n3_; clear hb hbox hg))
  go_ret
  exact ⟨by first | rfl | (simp [errW_none, errW_some] <;> rfl) | (simp [*, errW_none, errW_some] <;> rfl), by repeat (first | (with_reducible first | exact HB.out | apply below_alloc | apply pw_below_drewN | apply below_drew1 | refine below_set ?_ GE156.out) | exact HB.out)⟩
 ·rw [if_neg c3] at H
  have c3b0 : decide (1048576 < (l1.length : Int)) = false := decide_eq_false c3
  have c3b1 : decide (1048576 < l1.length) = false := decide_eq_false (by omega)
  clear c3
  replace H := Option.bind_eq_some_iff.mp H
  obtain ⟨t157, A50, H⟩ := H
  replace H : (if t157 < 0 then (some true) else ((laws_toDisk.f k l0_0 l0_1).bind fun bt158 => ((laws_toByteS.f k l1).bind fun t164 => ((spec_DiskReset.f bt158.1 bt158.2 t164).bind fun bt167 => ((laws_toDisk.f k l0_0 l0_1).bind fun bt175 => ((laws_toByteS.f k l1).bind fun t182 => ((impl_DiskReset.f bt175.1 bt175.2 t182).bind fun bt185 => ((laws_eqDisk.f k bt185.1 bt185.2.1 bt167.1 bt167.2.1).bind fun t193 => (if t193 = true then (laws_FnExactDiskReset.j0 k l1 bt167.2.2 t182 bt185.2.2 (bt185.2.2 != bt167.2.2) l0_0 l0_1 bt167.1 bt167.2.1 bt175.1 bt175.2 bt185.1 bt185.2.1) else (laws_FnExactDiskReset.j0 k l1 bt167.2.2 t182 bt185.2.2 true l0_0 l0_1 bt167.1 bt167.2.1 bt175.1 bt175.2 bt185.1 bt185.2.1)))))))))) = some r := H
  have A5 := Aside0.mk A50
  clear A50
  by_cases c6 : t157 < 0
  ·rw [if_pos c6] at H
   have c6b0 : decide (t157 < 0) = true := decide_eq_true c6
   clear c6
   obtain rfl := Option.some.inj H
   go_enter Try.func10, Try.ntmps10
   go_wp2_with (first | ((with_reducible refine gate_dst (N := 2) rfl ?_); refine box_event ?hg (N := 2) ?hd (cs := #[.slice A0_0 l0_0.length c0_0, .slice A0_1 l0_1.length c0_1]) (t := 32) ?hr ?_; (case hd => rfl); (case hg => rfl); (case hr => first | (go_simp; done) | (go_simp; rfl)); intro gb156 hg w7 hbox hb; have n0_ := k0 (below_step (kW HB.out) hb); have n1_ := k0 (hbox); have n2_ := k0 ((by rw [hg]; exact (below_size (kW HB.out)) : w.heap.size ≤ gb156)); have n3_ := k0 ((by rw [hg]; exact (below_size (kW HB.out)) : w.heap.size ≤ gb156)); clear HB; have HB := n0_; have BK156 := n1_; have GW156 := n2_; have GE156 := n3_; clear n0_ n1_ n2_ n3_; clear hb hbox hg; have hcz8_0 : w7.cell? ⟨gb156, 0, none⟩ = some (.slice A0_0 l0_0.length c0_0) := (blk_cell BK156.out 0).trans rfl; have hcz8_1 : w7.cell? ⟨gb156, 1, none⟩ = some (.slice A0_1 l0_1.length c0_1) := (blk_cell BK156.out 1).trans rfl; have hfz8_0 := blk_frozen BK156.out 0; have hfz8_1 := blk_frozen BK156.out 1) | ((with_reducible refine gate_callee (f := 19) rfl ?_); refine goesL_ (some 22) rfl rfl Try.func19 (by kernel_rfl) rfl #[.agg #[.slice A0_0 l0_0.length c0_0, .slice A0_1 l0_1.length c0_1], .int .i64 1048576] rfl (by (try simp only [List.map_toArray, List.map_cons, List.map_nil]); first | done | rfl | (simp only [List.length_drop, List.length_take]; rfl)) ?_; (with_reducible refine (laws_szDisk.calls _ _ l0_0 _ _ l0_1 1048576 t157 _ ?side1 ?side2 ?side3 ?side4 A5.out).mono ?_); (case side1 => repeat (first | exact (Kd.C_below HR0_0.out HB.out) | (with_reducible refine Kd.C_alloc ?_ _) | (with_reducible refine Kd.C_drewN ?_ _) | (with_reducible refine Kd.C_drew ?_))); (case side2 => exact HC0_0.out); (case side3 => repeat (first | exact (Kd.C_below HR0_1.out HB.out) | (with_reducible refine Kd.C_alloc ?_ _) | (with_reducible refine Kd.C_drewN ?_ _) | (with_reducible refine Kd.C_drew ?_))); (case side4 => exact HC0_1.out); rintro e w9 ⟨rfl, hb⟩; refine ⟨_, rfl, ?_⟩; have n0_ := k0 (kb BK156.out hb); have n1_ := k0 (below_step (kW HB.out) hb); clear BK156; clear HB; have BK156 := n0_; have HB := n1_; clear n0_ n1_; (try clear hb); (try clear hb2); (try clear hk); (try clear hi)))
   go_ret
   exact ⟨by first | rfl | (simp [errW_none, errW_some] <;> rfl) | (simp [*, errW_none, errW_some] <;> rfl), by repeat (first | (with_reducible first | exact HB.out | apply below_alloc | apply pw_below_drewN | apply below_drew1 | refine below_set ?_ GE156.out) | exact HB.out)⟩
  ·rw [if_neg c6] at H
   have c6b0 : decide (t157 < 0) = false := decide_eq_false c6
   clear c6
   replace H := Option.bind_eq_some_iff.mp H
   obtain ⟨⟨t158, t161⟩, A100, H⟩ := H
   replace H : ((laws_toByteS.f k l1).bind fun t164 => ((spec_DiskReset.f t158 t161 t164).bind fun bt167 => ((laws_toDisk.f k l0_0 l0_1).bind fun bt175 => ((laws_toByteS.f k l1).bind fun t182 => ((impl_DiskReset.f bt175.1 bt175.2 t182).bind fun bt185 => ((laws_eqDisk.f k bt185.1 bt185.2.1 bt167.1 bt167.2.1).bind fun t193 => (if t193 = true then (laws_FnExactDiskReset.j0 k l1 bt167.2.2 t182 bt185.2.2 (bt185.2.2 != bt167.2.2) l0_0 l0_1 bt167.1 bt167.2.1 bt175.1 bt175.2 bt185.1 bt185.2.1) else (laws_FnExactDiskReset.j0 k l1 bt167.2.2 t182 bt185.2.2 true l0_0 l0_1 bt167.1 bt167.2.1 bt175.1 bt175.2 bt185.1 bt185.2.1)))))))) = some r := H
   have A10 := Aside0.mk A100
   clear A100
   replace H := Option.bind_eq_some_iff.mp H
   obtain ⟨t164, A110, H⟩ := H
   replace H : ((spec_DiskReset.f t158 t161 t164).bind fun bt167 => ((laws_toDisk.f k l0_0 l0_1).bind fun bt175 => ((laws_toByteS.f k l1).bind fun t182 => ((impl_DiskReset.f bt175.1 bt175.2 t182).bind fun bt185 => ((laws_eqDisk.f k bt185.1 bt185.2.1 bt167.1 bt167.2.1).bind fun t193 => (if t193 = true then (laws_FnExactDiskReset.j0 k l1 bt167.2.2 t182 bt185.2.2 (bt185.2.2 != bt167.2.2) l0_0 l0_1 bt167.1 bt167.2.1 bt175.1 bt175.2 bt185.1 bt185.2.1) else (laws_FnExactDiskReset.j0 k l1 bt167.2.2 t182 bt185.2.2 true l0_0 l0_1 bt167.1 bt167.2.1 bt175.1 bt175.2 bt185.1 bt185.2.1))))))) = some r := H
   have A11 := Aside0.mk A110
   clear A110
   replace H := Option.bind_eq_some_iff.mp H
   obtain ⟨⟨t167, t170, t173⟩, A120, H⟩ := H
   replace H : ((laws_toDisk.f k l0_0 l0_1).bind fun bt175 => ((laws_toByteS.f k l1).bind fun t182 => ((impl_DiskReset.f bt175.1 bt175.2 t182).bind fun bt185 => ((laws_eqDisk.f k bt185.1 bt185.2.1 t167 t170).bind fun t193 => (if t193 = true then (laws_FnExactDiskReset.j0 k l1 t173 t182 bt185.2.2 (bt185.2.2 != t173) l0_0 l0_1 t167 t170 bt175.1 bt175.2 bt185.1 bt185.2.1) else (laws_FnExactDiskReset.j0 k l1 t173 t182 bt185.2.2 true l0_0 l0_1 t167 t170 bt175.1 bt175.2 bt185.1 bt185.2.1)))))) = some r := H
   have A12 := Aside0.mk A120
   clear A120
   replace H := Option.bind_eq_some_iff.mp H
   obtain ⟨⟨t175, t178⟩, A130, H⟩ := H
   replace H : ((laws_toByteS.f k l1).bind fun t182 => ((impl_DiskReset.f t175 t178 t182).bind fun bt185 => ((laws_eqDisk.f k bt185.1 bt185.2.1 t167 t170).bind fun t193 => (if t193 = true then (laws_FnExactDiskReset.j0 k l1 t173 t182 bt185.2.2 (bt185.2.2 != t173) l0_0 l0_1 t167 t170 t175 t178 bt185.1 bt185.2.1) else (laws_FnExactDiskReset.j0 k l1 t173 t182 bt185.2.2 true l0_0 l0_1 t167 t170 t175 t178 bt185.1 bt185.2.1))))) = some r := H
   have A13 := Aside0.mk A130
   clear A130
   replace H := Option.bind_eq_some_iff.mp H
   obtain ⟨t182, A140, H⟩ := H
   replace H : ((impl_DiskReset.f t175 t178 t182).bind fun bt185 => ((laws_eqDisk.f k bt185.1 bt185.2.1 t167 t170).bind fun t193 => (if t193 = true then (laws_FnExactDiskReset.j0 k l1 t173 t182 bt185.2.2 (bt185.2.2 != t173) l0_0 l0_1 t167 t170 t175 t178 bt185.1 bt185.2.1) else (laws_FnExactDiskReset.j0 k l1 t173 t182 bt185.2.2 true l0_0 l0_1 t167 t170 t175 t178 bt185.1 bt185.2.1)))) = some r := H
   have A14 := Aside0.mk A140
   clear A140
   replace H := Option.bind_eq_some_iff.mp H
   obtain ⟨⟨t185, t188, t191⟩, A150, H⟩ := H
   replace H : ((laws_eqDisk.f k t185 t188 t167 t170).bind fun t193 => (if t193 = true then (laws_FnExactDiskReset.j0 k l1 t173 t182 t191 (t191 != t173) l0_0 l0_1 t167 t170 t175 t178 t185 t188) else (laws_FnExactDiskReset.j0 k l1 t173 t182 t191 true l0_0 l0_1 t167 t170 t175 t178 t185 t188))) = some r := H
   have A15 := Aside0.mk A150
   clear A150
   have HC16 := Aside0.mk H
   clear H
   go_enter Try.func10, Try.ntmps10
   go_upto_region 11 with (first | ((with_reducible refine gate_dst (N := 2) rfl ?_); refine box_event ?hg (N := 2) ?hd (cs := #[.slice A0_0 l0_0.length c0_0, .slice A0_1 l0_1.length c0_1]) (t := 32) ?hr ?_; (case hd => rfl); (case hg => rfl); (case hr => first | (go_simp; done) | (go_simp; rfl)); intro gb156 hg w17 hbox hb; have n0_ := k0 (below_step (kW HB.out) hb); have n1_ := k0 (hbox); have n2_ := k0 ((by rw [hg]; exact (below_size (kW HB.out)) : w.heap.size ≤ gb156)); have n3_ := k0 ((by rw [hg]; exact (below_size (kW HB.out)) : w.heap.size ≤ gb156)); clear HB; have HB := n0_; have BK156 := n1_; have GW156 := n2_; have GE156 := n3_; clear n0_ n1_ n2_ n3_; clear hb hbox hg; have hcz18_0 : w17.cell? ⟨gb156, 0, none⟩ = some (.slice A0_0 l0_0.length c0_0) := (blk_cell BK156.out 0).trans rfl; have hcz18_1 : w17.cell? ⟨gb156, 1, none⟩ = some (.slice A0_1 l0_1.length c0_1) := (blk_cell BK156.out 1).trans rfl; have hfz18_0 := blk_frozen BK156.out 0; have hfz18_1 := blk_frozen BK156.out 1) | ((with_reducible refine gate_callee (f := 19) rfl ?_); refine goesL_ (some 22) rfl rfl Try.func19 (by kernel_rfl) rfl #[.agg #[.slice A0_0 l0_0.length c0_0, .slice A0_1 l0_1.length c0_1], .int .i64 1048576] rfl (by (try simp only [List.map_toArray, List.map_cons, List.map_nil]); first | done | rfl | (simp only [List.length_drop, List.length_take]; rfl)) ?_; (with_reducible refine (laws_szDisk.calls _ _ l0_0 _ _ l0_1 1048576 t157 _ ?side1 ?side2 ?side3 ?side4 A5.out).mono ?_); (case side1 => repeat (first | exact (Kd.C_below HR0_0.out HB.out) | (with_reducible refine Kd.C_alloc ?_ _) | (with_reducible refine Kd.C_drewN ?_ _) | (with_reducible refine Kd.C_drew ?_))); (case side2 => exact HC0_0.out); (case side3 => repeat (first | exact (Kd.C_below HR0_1.out HB.out) | (with_reducible refine Kd.C_alloc ?_ _) | (with_reducible refine Kd.C_drewN ?_ _) | (with_reducible refine Kd.C_drew ?_))); (case side4 => exact HC0_1.out); rintro e w19 ⟨rfl, hb⟩; refine ⟨_, rfl, ?_⟩; have n0_ := k0 (kb BK156.out hb); have n1_ := k0 (below_step (kW HB.out) hb); clear BK156; clear HB; have BK156 := n0_; have HB := n1_; clear n0_ n1_; (try clear hb); (try clear hb2); (try clear hk); (try clear hi); have hcz20_0 : w19.cell? ⟨gb156, 0, none⟩ = some (.slice A0_0 l0_0.length c0_0) := (blk_cell BK156.out 0).trans rfl; have hcz20_1 : w19.cell? ⟨gb156, 1, none⟩ = some (.slice A0_1 l0_1.length c0_1) := (blk_cell BK156.out 1).trans rfl; have hfz20_0 := blk_frozen BK156.out 0; have hfz20_1 := blk_frozen BK156.out 1) | ((with_reducible refine gate_callee (f := 21) rfl ?_); refine goesL_ (some 27) rfl rfl Try.func21 (by kernel_rfl) rfl #[.agg #[.slice A0_0 l0_0.length c0_0, .slice A0_1 l0_1.length c0_1]] rfl (by (try simp only [List.map_toArray, List.map_cons, List.map_nil]); first | done | rfl | (simp only [List.length_drop, List.length_take]; rfl)) ?_; (with_reducible refine (laws_toDisk.calls k _ _ l0_0 _ _ l0_1 t158 t161 _ ?side1 ?side2 ?side3 ?side4 A10.out).mono ?_); (case side1 => repeat (first | exact (Kd.C_below HR0_0.out HB.out) | (with_reducible refine Kd.C_alloc ?_ _) | (with_reducible refine Kd.C_drewN ?_ _) | (with_reducible refine Kd.C_drew ?_))); (case side2 => exact HC0_0.out); (case side3 => repeat (first | exact (Kd.C_below HR0_1.out HB.out) | (with_reducible refine Kd.C_alloc ?_ _) | (with_reducible refine Kd.C_drewN ?_ _) | (with_reducible refine Kd.C_drew ?_))); (case side4 => exact HC0_1.out); rintro e w21 ⟨v159, v162, rfl, ho0, ho1, hb⟩; refine ⟨_, rfl, ?_⟩; have n0_ := k0 (Kd.R_lower ho0 (below_size (kW HB.out))); have n1_ := k0 (Kd.R_lower ho1 (below_size (kW HB.out))); have n2_ := k0 (kb BK156.out hb); have n3_ := k0 (below_step (kW HB.out) hb); clear BK156; clear HB; have HO160 := n0_; have HO163 := n1_; have BK156 := n2_; have HB := n3_; clear n0_ n1_ n2_ n3_; (try clear hb); (try clear hb2); (try clear hk); (try clear hi); (try clear ho0); (try clear ho1)) | ((with_reducible refine gate_callee (f := 43) rfl ?_); refine goesL_ (some 29) rfl rfl Try.func43 (by kernel_rfl) rfl #[.slice A1 l1.length c1] rfl (by (try simp only [List.map_toArray, List.map_cons, List.map_nil]); first | done | rfl | (simp only [List.length_drop, List.length_take]; rfl)) ?_; (with_reducible refine (laws_toByteS.calls k _ _ l1 t164 _ ?side1 ?side2 A11.out).mono ?_); (case side1 => repeat (first | exact (Kd.C_below HR1.out HB.out) | (with_reducible refine Kd.C_alloc ?_ _) | (with_reducible refine Kd.C_drewN ?_ _) | (with_reducible refine Kd.C_drew ?_))); (case side2 => exact HC1.out); rintro e w22 ⟨v165, rfl, ho0, hb⟩; refine ⟨_, rfl, ?_⟩; have n0_ := k0 (Kd.R_elder' (kR HO160.out) (Kd.R_base ho0) hb); have n1_ := k0 (Kd.R_elder' (kR HO163.out) (Kd.R_base ho0) hb); have n2_ := k0 (Kd.R_lower (Kd.R_new' (Kd.R_new' ho0 (Kd.R_lt (kR HO160.out))) (Kd.R_lt (kR HO163.out))) (below_size (kW HB.out))); have n3_ := k0 (kb BK156.out hb); have n4_ := k0 (below_step (kW HB.out) hb); clear HO160; clear HO163; clear BK156; clear HB; have HO160 := n0_; have HO163 := n1_; have HO166 := n2_; have BK156 := n3_; have HB := n4_; clear n0_ n1_ n2_ n3_ n4_; (try clear hb); (try clear hb2); (try clear hk); (try clear hi); (try clear ho0); obtain ⟨Ao23, co23, eo23⟩ := Kd.R_slice HO160.out; subst eo23; obtain ⟨Ao24, co24, eo24⟩ := Kd.R_slice HO163.out; subst eo24; obtain ⟨Ao25, co25, eo25⟩ := Kd.R_slice HO166.out; subst eo25) | ((with_reducible refine gate_callee (f := 42) rfl ?_); refine goesL_ (some 30) rfl rfl Try.func42 (by kernel_rfl) rfl #[.agg #[.slice Ao23 t158.length co23, .slice Ao24 t161.length co24], .slice Ao25 t164.length co25] rfl (by (try simp only [List.map_toArray, List.map_cons, List.map_nil]); first | done | rfl | (simp only [List.length_drop, List.length_take]; rfl)) ?_; (with_reducible refine (spec_DiskReset.calls _ _ t158 _ _ t161 _ _ t164 t167 t170 t173 _ ?side1 ?side2 ?side3 ?side4 ?side5 ?side6 A12.out).mono ?_); (case side1 => repeat (first | exact (Kd.R_reads' HO160.out).2.2 | (with_reducible refine Kd.C_alloc ?_ _) | (with_reducible refine Kd.C_drewN ?_ _) | (with_reducible refine Kd.C_drew ?_))); (case side2 => exact (Kd.R_reads' HO160.out).2.1); (case side3 => repeat (first | exact (Kd.R_reads' HO163.out).2.2 | (with_reducible refine Kd.C_alloc ?_ _) | (with_reducible refine Kd.C_drewN ?_ _) | (with_reducible refine Kd.C_drew ?_))); (case side4 => exact (Kd.R_reads' HO163.out).2.1); (case side5 => repeat (first | exact (Kd.R_reads' HO166.out).2.2 | (with_reducible refine Kd.C_alloc ?_ _) | (with_reducible refine Kd.C_drewN ?_ _) | (with_reducible refine Kd.C_drew ?_))); (case side6 => exact (Kd.R_reads' HO166.out).2.1); rintro e w26 ⟨v168, v171, rfl, ho0, ho1, hb⟩; refine ⟨_, rfl, ?_⟩; have n0_ := k0 (Kd.R_mono (Kd.R_told (Kd.R_told (Kd.R_old (kR HO160.out) hb) (Kd.R_base ho0)) (Kd.R_base ho1)) (fun _ h_ => h_.1)); have n1_ := k0 (Kd.R_mono (Kd.R_told (Kd.R_told (Kd.R_old (kR HO163.out) hb) (Kd.R_base ho0)) (Kd.R_base ho1)) (fun _ h_ => h_.1)); have n2_ := k0 (Kd.R_mono (Kd.R_told (Kd.R_told (Kd.R_old (kR HO166.out) hb) (Kd.R_base ho0)) (Kd.R_base ho1)) (fun _ h_ => h_.1)); have n3_ := k0 (Kd.R_lower (Kd.R_new' (Kd.R_new' (Kd.R_new' ho0 (Kd.R_lt (kR HO160.out))) (Kd.R_lt (kR HO163.out))) (Kd.R_lt (kR HO166.out))) (below_size (kW HB.out))); have n4_ := k0 (Kd.R_lower (Kd.R_new' (Kd.R_new' (Kd.R_new' ho1 (Kd.R_lt (kR HO160.out))) (Kd.R_lt (kR HO163.out))) (Kd.R_lt (kR HO166.out))) (below_size (kW HB.out))); have n5_ := k0 (kb BK156.out hb); have n6_ := k0 (below_step (kW HB.out) hb); clear HO160; clear HO163; clear HO166; clear BK156; clear HB; have HO160 := n0_; have HO163 := n1_; have HO166 := n2_; have HO169 := n3_; have HO172 := n4_; have BK156 := n5_; have HB := n6_; clear n0_ n1_ n2_ n3_ n4_ n5_ n6_; (try clear hb); (try clear hb2); (try clear hk); (try clear hi); (try clear ho0); (try clear ho1)) | ((with_reducible refine gate_dst (N := 6) rfl ?_); refine box_event ?hg (N := 6) ?hd (cs := #[.slice none 0 0, .slice none 0 0]) (t := 35) ?hr ?_; (case hd => rfl); (case hg => rfl); (case hr => first | (go_simp; done) | (go_simp; rfl)); intro gb174 hg w27 hbox hb; have n0_ := k0 (Kd.R_below (kR HO160.out) hb); have n1_ := k0 (Kd.R_below (kR HO163.out) hb); have n2_ := k0 (Kd.R_below (kR HO166.out) hb); have n3_ := k0 (Kd.R_below (kR HO169.out) hb); have n4_ := k0 (Kd.R_below (kR HO172.out) hb); have n5_ := k0 (kb BK156.out hb); have n6_ := k0 (below_step (kW HB.out) hb); have n7_ := k0 (hbox); have n8_ := k0 ((by rw [hg]; exact (below_size (kW HB.out)) : w.heap.size ≤ gb174)); have n9_ := k0 ((by rw [hg]; exact (below_size (kW HB.out)) : w.heap.size ≤ gb174)); have n10_ := k0 ((by rw [hg]; exact Nat.ne_of_lt (blk_lt (g := gb156) (o := .cells #[.slice A0_0 l0_0.length c0_0, .slice A0_1 l0_1.length c0_1] 32 (0, 0)) (kB BK156.out)) : gb156 ≠ gb174)); have n11_ := k0 ((by rw [hg]; exact Nat.ne_of_gt (blk_lt (g := gb156) (o := .cells #[.slice A0_0 l0_0.length c0_0, .slice A0_1 l0_1.length c0_1] 32 (0, 0)) (kB BK156.out)) : gb174 ≠ gb156)); clear HO160; clear HO163; clear HO166; clear HO169; clear HO172; clear BK156; clear HB; have HO160 := n0_; have HO163 := n1_; have HO166 := n2_; have HO169 := n3_; have HO172 := n4_; have BK156 := n5_; have HB := n6_; have BK174 := n7_; have GW174 := n8_; have GE174 := n9_; have NB156_174 := n10_; have NB174_156 := n11_; clear n0_ n1_ n2_ n3_ n4_ n5_ n6_ n7_ n8_ n9_ n10_ n11_; clear hb hbox hg; obtain ⟨Ao28, co28, eo28⟩ := Kd.R_slice HO169.out; subst eo28; have hnb29 := NB174_156.out; have hnc29 := NB156_174.out; have hcz30_0 : w27.cell? ⟨gb174, 0, none⟩ = some (.slice none 0 0) := (blk_cell BK174.out 0).trans rfl; have hcz30_1 : w27.cell? ⟨gb174, 1, none⟩ = some (.slice none 0 0) := (blk_cell BK174.out 1).trans rfl; have hfz30_0 := blk_frozen BK174.out 0; have hfz30_1 := blk_frozen BK174.out 1; obtain ⟨Ao31, co31, eo31⟩ := Kd.R_slice HO172.out; subst eo31; have hcz32_0 : w27.cell? ⟨gb156, 0, none⟩ = some (.slice A0_0 l0_0.length c0_0) := (blk_cell BK156.out 0).trans rfl; have hcz32_1 : w27.cell? ⟨gb156, 1, none⟩ = some (.slice A0_1 l0_1.length c0_1) := (blk_cell BK156.out 1).trans rfl; have hfz32_0 := blk_frozen BK156.out 0; have hfz32_1 := blk_frozen BK156.out 1) | ((with_reducible refine gate_callee (f := 21) rfl ?_); refine goesL_ (some 34) rfl rfl Try.func21 (by kernel_rfl) rfl #[.agg #[.slice A0_0 l0_0.length c0_0, .slice A0_1 l0_1.length c0_1]] rfl (by (try simp only [List.map_toArray, List.map_cons, List.map_nil]); first | done | rfl | (simp only [List.length_drop, List.length_take]; rfl)) ?_; (with_reducible refine (laws_toDisk.calls k _ _ l0_0 _ _ l0_1 t175 t178 _ ?side1 ?side2 ?side3 ?side4 A13.out).mono ?_); (case side1 => exact Kd.C_below HR0_0.out (kW HB.out)); (case side2 => exact HC0_0.out); (case side3 => exact Kd.C_below HR0_1.out (kW HB.out)); (case side4 => exact HC0_1.out); rintro e w33 ⟨v176, v179, rfl, ho0, ho1, hb⟩; refine ⟨_, rfl, ?_⟩; have n0_ := k0 (Kd.R_mono (Kd.R_told (Kd.R_told (Kd.R_old (by (with_reducible repeat (first | apply Kd.R_alloc | apply Kd.R_drewN | apply Kd.R_drew)); exact (Kd.R_mono (Kd.R_far (p := ⟨gb174, 1, none⟩) (Kd.R_far (p := ⟨gb174, 0, none⟩) (Kd.R_types HO160.out BK174.out (by decide)) (fun _ hk => hk.2) (.slice Ao28 t167.length co28)) (fun _ hk => hk.2) (.slice Ao31 t170.length co31)) (fun _ h_ => h_.1))) hb) (Kd.R_base ho0)) (Kd.R_base ho1)) (fun _ h_ => h_.1)); have n1_ := k0 (Kd.R_mono (Kd.R_told (Kd.R_told (Kd.R_old (by (with_reducible repeat (first | apply Kd.R_alloc | apply Kd.R_drewN | apply Kd.R_drew)); exact (Kd.R_mono (Kd.R_far (p := ⟨gb174, 1, none⟩) (Kd.R_far (p := ⟨gb174, 0, none⟩) (Kd.R_types HO163.out BK174.out (by decide)) (fun _ hk => hk.2) (.slice Ao28 t167.length co28)) (fun _ hk => hk.2) (.slice Ao31 t170.length co31)) (fun _ h_ => h_.1))) hb) (Kd.R_base ho0)) (Kd.R_base ho1)) (fun _ h_ => h_.1)); have n2_ := k0 (Kd.R_mono (Kd.R_told (Kd.R_told (Kd.R_old (by (with_reducible repeat (first | apply Kd.R_alloc | apply Kd.R_drewN | apply Kd.R_drew)); exact (Kd.R_mono (Kd.R_far (p := ⟨gb174, 1, none⟩) (Kd.R_far (p := ⟨gb174, 0, none⟩) (Kd.R_types HO166.out BK174.out (by decide)) (fun _ hk => hk.2) (.slice Ao28 t167.length co28)) (fun _ hk => hk.2) (.slice Ao31 t170.length co31)) (fun _ h_ => h_.1))) hb) (Kd.R_base ho0)) (Kd.R_base ho1)) (fun _ h_ => h_.1)); have n3_ := k0 (Kd.R_mono (Kd.R_told (Kd.R_told (Kd.R_old (by (with_reducible repeat (first | apply Kd.R_alloc | apply Kd.R_drewN | apply Kd.R_drew)); exact (Kd.R_mono (Kd.R_far (p := ⟨gb174, 1, none⟩) (Kd.R_far (p := ⟨gb174, 0, none⟩) (Kd.R_types HO169.out BK174.out (by decide)) (fun _ hk => hk.2) (.slice Ao28 t167.length co28)) (fun _ hk => hk.2) (.slice Ao31 t170.length co31)) (fun _ h_ => h_.1))) hb) (Kd.R_base ho0)) (Kd.R_base ho1)) (fun _ h_ => h_.1)); have n4_ := k0 (Kd.R_mono (Kd.R_told (Kd.R_told (Kd.R_old (by (with_reducible repeat (first | apply Kd.R_alloc | apply Kd.R_drewN | apply Kd.R_drew)); exact (Kd.R_mono (Kd.R_far (p := ⟨gb174, 1, none⟩) (Kd.R_far (p := ⟨gb174, 0, none⟩) (Kd.R_types HO172.out BK174.out (by decide)) (fun _ hk => hk.2) (.slice Ao28 t167.length co28)) (fun _ hk => hk.2) (.slice Ao31 t170.length co31)) (fun _ h_ => h_.1))) hb) (Kd.R_base ho0)) (Kd.R_base ho1)) (fun _ h_ => h_.1)); have n5_ := k0 (Kd.R_lower (Kd.R_new' (Kd.R_new' (Kd.R_new' (Kd.R_new' (Kd.R_new' ho0 (Kd.R_lt (by (with_reducible repeat (first | apply Kd.R_alloc | apply Kd.R_drewN | apply Kd.R_drew)); exact (Kd.R_mono (Kd.R_far (p := ⟨gb174, 1, none⟩) (Kd.R_far (p := ⟨gb174, 0, none⟩) (Kd.R_types HO160.out BK174.out (by decide)) (fun _ hk => hk.2) (.slice Ao28 t167.length co28)) (fun _ hk => hk.2) (.slice Ao31 t170.length co31)) (fun _ h_ => h_.1))))) (Kd.R_lt (by (with_reducible repeat (first | apply Kd.R_alloc | apply Kd.R_drewN | apply Kd.R_drew)); exact (Kd.R_mono (Kd.R_far (p := ⟨gb174, 1, none⟩) (Kd.R_far (p := ⟨gb174, 0, none⟩) (Kd.R_types HO163.out BK174.out (by decide)) (fun _ hk => hk.2) (.slice Ao28 t167.length co28)) (fun _ hk => hk.2) (.slice Ao31 t170.length co31)) (fun _ h_ => h_.1))))) (Kd.R_lt (by (with_reducible repeat (first | apply Kd.R_alloc | apply Kd.R_drewN | apply Kd.R_drew)); exact (Kd.R_mono (Kd.R_far (p := ⟨gb174, 1, none⟩) (Kd.R_far (p := ⟨gb174, 0, none⟩) (Kd.R_types HO166.out BK174.out (by decide)) (fun _ hk => hk.2) (.slice Ao28 t167.length co28)) (fun _ hk => hk.2) (.slice Ao31 t170.length co31)) (fun _ h_ => h_.1))))) (Kd.R_lt (by (with_reducible repeat (first | apply Kd.R_alloc | apply Kd.R_drewN | apply Kd.R_drew)); exact (Kd.R_mono (Kd.R_far (p := ⟨gb174, 1, none⟩) (Kd.R_far (p := ⟨gb174, 0, none⟩) (Kd.R_types HO169.out BK174.out (by decide)) (fun _ hk => hk.2) (.slice Ao28 t167.length co28)) (fun _ hk => hk.2) (.slice Ao31 t170.length co31)) (fun _ h_ => h_.1))))) (Kd.R_lt (by (with_reducible repeat (first | apply Kd.R_alloc | apply Kd.R_drewN | apply Kd.R_drew)); exact (Kd.R_mono (Kd.R_far (p := ⟨gb174, 1, none⟩) (Kd.R_far (p := ⟨gb174, 0, none⟩) (Kd.R_types HO172.out BK174.out (by decide)) (fun _ hk => hk.2) (.slice Ao28 t167.length co28)) (fun _ hk => hk.2) (.slice Ao31 t170.length co31)) (fun _ h_ => h_.1))))) (below_size (kW HB.out))); have n6_ := k0 (Kd.R_lower (Kd.R_new' (Kd.R_new' (Kd.R_new' (Kd.R_new' (Kd.R_new' ho1 (Kd.R_lt (by (with_reducible repeat (first | apply Kd.R_alloc | apply Kd.R_drewN | apply Kd.R_drew)); exact (Kd.R_mono (Kd.R_far (p := ⟨gb174, 1, none⟩) (Kd.R_far (p := ⟨gb174, 0, none⟩) (Kd.R_types HO160.out BK174.out (by decide)) (fun _ hk => hk.2) (.slice Ao28 t167.length co28)) (fun _ hk => hk.2) (.slice Ao31 t170.length co31)) (fun _ h_ => h_.1))))) (Kd.R_lt (by (with_reducible repeat (first | apply Kd.R_alloc | apply Kd.R_drewN | apply Kd.R_drew)); exact (Kd.R_mono (Kd.R_far (p := ⟨gb174, 1, none⟩) (Kd.R_far (p := ⟨gb174, 0, none⟩) (Kd.R_types HO163.out BK174.out (by decide)) (fun _ hk => hk.2) (.slice Ao28 t167.length co28)) (fun _ hk => hk.2) (.slice Ao31 t170.length co31)) (fun _ h_ => h_.1))))) (Kd.R_lt (by (with_reducible repeat (first | apply Kd.R_alloc | apply Kd.R_drewN | apply Kd.R_drew)); exact (Kd.R_mono (Kd.R_far (p := ⟨gb174, 1, none⟩) (Kd.R_far (p := ⟨gb174, 0, none⟩) (Kd.R_types HO166.out BK174.out (by decide)) (fun _ hk => hk.2) (.slice Ao28 t167.length co28)) (fun _ hk => hk.2) (.slice Ao31 t170.length co31)) (fun _ h_ => h_.1))))) (Kd.R_lt (by (with_reducible repeat (first | apply Kd.R_alloc | apply Kd.R_drewN | apply Kd.R_drew)); exact (Kd.R_mono (Kd.R_far (p := ⟨gb174, 1, none⟩) (Kd.R_far (p := ⟨gb174, 0, none⟩) (Kd.R_types HO169.out BK174.out (by decide)) (fun _ hk => hk.2) (.slice Ao28 t167.length co28)) (fun _ hk => hk.2) (.slice Ao31 t170.length co31)) (fun _ h_ => h_.1))))) (Kd.R_lt (by (with_reducible repeat (first | apply Kd.R_alloc | apply Kd.R_drewN | apply Kd.R_drew)); exact (Kd.R_mono (Kd.R_far (p := ⟨gb174, 1, none⟩) (Kd.R_far (p := ⟨gb174, 0, none⟩) (Kd.R_types HO172.out BK174.out (by decide)) (fun _ hk => hk.2) (.slice Ao28 t167.length co28)) (fun _ hk => hk.2) (.slice Ao31 t170.length co31)) (fun _ h_ => h_.1))))) (below_size (kW HB.out))); have n7_ := k0 (blk_below (g := gb156) (o := .cells #[.slice A0_0 l0_0.length c0_0, .slice A0_1 l0_1.length c0_1] 32 (0, 0)) (by (with_reducible repeat (first | refine blk_drewN ?_ _ | refine blk_drew ?_ | refine blk_alloc ?_ _)); refine blk_far ?_ NB156_174.out _; (with_reducible repeat (first | refine blk_drewN ?_ _ | refine blk_drew ?_ | refine blk_alloc ?_ _)); refine blk_far ?_ NB156_174.out _; (with_reducible repeat (first | refine blk_drewN ?_ _ | refine blk_drew ?_ | refine blk_alloc ?_ _)); exact BK156.out) hb); have n8_ := k0 (blk_below (g := gb174) (o := .cells #[.slice Ao28 t167.length co28, .slice Ao31 t170.length co31] 35 (0, 0)) (by (with_reducible repeat (first | refine blk_drewN ?_ _ | refine blk_drew ?_ | refine blk_alloc ?_ _)); refine blk_put (cs := #[.slice Ao28 t167.length co28, .slice none 0 0]) ?_ 1 _ rfl; (with_reducible repeat (first | refine blk_drewN ?_ _ | refine blk_drew ?_ | refine blk_alloc ?_ _)); refine blk_put (cs := #[.slice none 0 0, .slice none 0 0]) ?_ 0 _ rfl; (with_reducible repeat (first | refine blk_drewN ?_ _ | refine blk_drew ?_ | refine blk_alloc ?_ _)); exact BK174.out) hb); have n9_ := k0 (below_step (kW HB.out) hb); clear HO160; clear HO163; clear HO166; clear HO169; clear HO172; clear BK156; clear BK174; clear HB; have HO160 := n0_; have HO163 := n1_; have HO166 := n2_; have HO169 := n3_; have HO172 := n4_; have HO177 := n5_; have HO180 := n6_; have BK156 := n7_; have BK174 := n8_; have HB := n9_; clear n0_ n1_ n2_ n3_ n4_ n5_ n6_ n7_ n8_ n9_; (try clear hb); (try clear hb2); (try clear hk); (try clear hi); (try clear ho0); (try clear ho1)) | ((with_reducible refine gate_dst (N := 8) rfl ?_); refine box_event ?hg (N := 8) ?hd (cs := #[.slice none 0 0, .slice none 0 0]) (t := 35) ?hr ?_; (case hd => rfl); (case hg => rfl); (case hr => first | (go_simp; done) | (go_simp; rfl)); intro gb181 hg w34 hbox hb; have n0_ := k0 (Kd.R_below (kR HO160.out) hb); have n1_ := k0 (Kd.R_below (kR HO163.out) hb); have n2_ := k0 (Kd.R_below (kR HO166.out) hb); have n3_ := k0 (Kd.R_below (kR HO169.out) hb); have n4_ := k0 (Kd.R_below (kR HO172.out) hb); have n5_ := k0 (Kd.R_below (kR HO177.out) hb); have n6_ := k0 (Kd.R_below (kR HO180.out) hb); have n7_ := k0 (kb BK156.out hb); have n8_ := k0 (kb BK174.out hb); have n9_ := k0 (below_step (kW HB.out) hb); have n10_ := k0 (hbox); have n11_ := k0 ((by rw [hg]; exact (below_size (kW HB.out)) : w.heap.size ≤ gb181)); have n12_ := k0 ((by rw [hg]; exact (below_size (kW HB.out)) : w.heap.size ≤ gb181)); have n13_ := k0 ((by rw [hg]; exact Nat.ne_of_lt (blk_lt (g := gb156) (o := .cells #[.slice A0_0 l0_0.length c0_0, .slice A0_1 l0_1.length c0_1] 32 (0, 0)) (kB BK156.out)) : gb156 ≠ gb181)); have n14_ := k0 ((by rw [hg]; exact Nat.ne_of_gt (blk_lt (g := gb156) (o := .cells #[.slice A0_0 l0_0.length c0_0, .slice A0_1 l0_1.length c0_1] 32 (0, 0)) (kB BK156.out)) : gb181 ≠ gb156)); have n15_ := k0 ((by rw [hg]; exact Nat.ne_of_lt (blk_lt (g := gb174) (o := .cells #[.slice Ao28 t167.length co28, .slice Ao31 t170.length co31] 35 (0, 0)) (kB BK174.out)) : gb174 ≠ gb181)); have n16_ := k0 ((by rw [hg]; exact Nat.ne_of_gt (blk_lt (g := gb174) (o := .cells #[.slice Ao28 t167.length co28, .slice Ao31 t170.length co31] 35 (0, 0)) (kB BK174.out)) : gb181 ≠ gb174)); clear HO160; clear HO163; clear HO166; clear HO169; clear HO172; clear HO177; clear HO180; clear BK156; clear BK174; clear HB; have HO160 := n0_; have HO163 := n1_; have HO166 := n2_; have HO169 := n3_; have HO172 := n4_; have HO177 := n5_; have HO180 := n6_; have BK156 := n7_; have BK174 := n8_; have HB := n9_; have BK181 := n10_; have GW181 := n11_; have GE181 := n12_; have NB156_181 := n13_; have NB181_156 := n14_; have NB174_181 := n15_; have NB181_174 := n16_; clear n0_ n1_ n2_ n3_ n4_ n5_ n6_ n7_ n8_ n9_ n10_ n11_ n12_ n13_ n14_ n15_ n16_; clear hb hbox hg; obtain ⟨Ao35, co35, eo35⟩ := Kd.R_slice HO177.out; subst eo35; have hnb36 := NB181_156.out; have hnc36 := NB156_181.out; have hnb37 := NB181_174.out; have hnc37 := NB174_181.out; have hcz38_0 : w34.cell? ⟨gb181, 0, none⟩ = some (.slice none 0 0) := (blk_cell BK181.out 0).trans rfl; have hcz38_1 : w34.cell? ⟨gb181, 1, none⟩ = some (.slice none 0 0) := (blk_cell BK181.out 1).trans rfl; have hfz38_0 := blk_frozen BK181.out 0; have hfz38_1 := blk_frozen BK181.out 1; obtain ⟨Ao39, co39, eo39⟩ := Kd.R_slice HO180.out; subst eo39) | ((with_reducible refine gate_callee (f := 43) rfl ?_); refine goesL_ (some 36) rfl rfl Try.func43 (by kernel_rfl) rfl #[.slice A1 l1.length c1] rfl (by (try simp only [List.map_toArray, List.map_cons, List.map_nil]); first | done | rfl | (simp only [List.length_drop, List.length_take]; rfl)) ?_; (with_reducible refine (laws_toByteS.calls k _ _ l1 t182 _ ?side1 ?side2 A14.out).mono ?_); (case side1 => exact Kd.C_below HR1.out (kW HB.out)); (case side2 => exact HC1.out); rintro e w40 ⟨v183, rfl, ho0, hb⟩; refine ⟨_, rfl, ?_⟩; have n0_ := k0 (Kd.R_elder' (by (with_reducible repeat (first | apply Kd.R_alloc | apply Kd.R_drewN | apply Kd.R_drew)); exact (Kd.R_mono (Kd.R_far (p := ⟨gb181, 1, none⟩) (Kd.R_far (p := ⟨gb181, 0, none⟩) (Kd.R_types HO160.out BK181.out (by decide)) (fun _ hk => hk.2) (.slice Ao35 t175.length co35)) (fun _ hk => hk.2) (.slice Ao39 t178.length co39)) (fun _ h_ => h_.1))) (Kd.R_base ho0) hb); have n1_ := k0 (Kd.R_elder' (by (with_reducible repeat (first | apply Kd.R_alloc | apply Kd.R_drewN | apply Kd.R_drew)); exact (Kd.R_mono (Kd.R_far (p := ⟨gb181, 1, none⟩) (Kd.R_far (p := ⟨gb181, 0, none⟩) (Kd.R_types HO163.out BK181.out (by decide)) (fun _ hk => hk.2) (.slice Ao35 t175.length co35)) (fun _ hk => hk.2) (.slice Ao39 t178.length co39)) (fun _ h_ => h_.1))) (Kd.R_base ho0) hb); have n2_ := k0 (Kd.R_elder' (by (with_reducible repeat (first | apply Kd.R_alloc | apply Kd.R_drewN | apply Kd.R_drew)); exact (Kd.R_mono (Kd.R_far (p := ⟨gb181, 1, none⟩) (Kd.R_far (p := ⟨gb181, 0, none⟩) (Kd.R_types HO166.out BK181.out (by decide)) (fun _ hk => hk.2) (.slice Ao35 t175.length co35)) (fun _ hk => hk.2) (.slice Ao39 t178.length co39)) (fun _ h_ => h_.1))) (Kd.R_base ho0) hb); have n3_ := k0 (Kd.R_elder' (by (with_reducible repeat (first | apply Kd.R_alloc | apply Kd.R_drewN | apply Kd.R_drew)); exact (Kd.R_mono (Kd.R_far (p := ⟨gb181, 1, none⟩) (Kd.R_far (p := ⟨gb181, 0, none⟩) (Kd.R_types HO169.out BK181.out (by decide)) (fun _ hk => hk.2) (.slice Ao35 t175.length co35)) (fun _ hk => hk.2) (.slice Ao39 t178.length co39)) (fun _ h_ => h_.1))) (Kd.R_base ho0) hb); have n4_ := k0 (Kd.R_elder' (by (with_reducible repeat (first | apply Kd.R_alloc | apply Kd.R_drewN | apply Kd.R_drew)); exact (Kd.R_mono (Kd.R_far (p := ⟨gb181, 1, none⟩) (Kd.R_far (p := ⟨gb181, 0, none⟩) (Kd.R_types HO172.out BK181.out (by decide)) (fun _ hk => hk.2) (.slice Ao35 t175.length co35)) (fun _ hk => hk.2) (.slice Ao39 t178.length co39)) (fun _ h_ => h_.1))) (Kd.R_base ho0) hb); have n5_ := k0 (Kd.R_elder' (by (with_reducible repeat (first | apply Kd.R_alloc | apply Kd.R_drewN | apply Kd.R_drew)); exact (Kd.R_mono (Kd.R_far (p := ⟨gb181, 1, none⟩) (Kd.R_far (p := ⟨gb181, 0, none⟩) (Kd.R_types HO177.out BK181.out (by decide)) (fun _ hk => hk.2) (.slice Ao35 t175.length co35)) (fun _ hk => hk.2) (.slice Ao39 t178.length co39)) (fun _ h_ => h_.1))) (Kd.R_base ho0) hb); have n6_ := k0 (Kd.R_elder' (by (with_reducible repeat (first | apply Kd.R_alloc | apply Kd.R_drewN | apply Kd.R_drew)); exact (Kd.R_mono (Kd.R_far (p := ⟨gb181, 1, none⟩) (Kd.R_far (p := ⟨gb181, 0, none⟩) (Kd.R_types HO180.out BK181.out (by decide)) (fun _ hk => hk.2) (.slice Ao35 t175.length co35)) (fun _ hk => hk.2) (.slice Ao39 t178.length co39)) (fun _ h_ => h_.1))) (Kd.R_base ho0) hb); have n7_ := k0 (Kd.R_lower (Kd.R_new' (Kd.R_new' (Kd.R_new' (Kd.R_new' (Kd.R_new' (Kd.R_new' (Kd.R_new' ho0 (Kd.R_lt (by (with_reducible repeat (first | apply Kd.R_alloc | apply Kd.R_drewN | apply Kd.R_drew)); exact (Kd.R_mono (Kd.R_far (p := ⟨gb181, 1, none⟩) (Kd.R_far (p := ⟨gb181, 0, none⟩) (Kd.R_types HO160.out BK181.out (by decide)) (fun _ hk => hk.2) (.slice Ao35 t175.length co35)) (fun _ hk => hk.2) (.slice Ao39 t178.length co39)) (fun _ h_ => h_.1))))) (Kd.R_lt (by (with_reducible repeat (first | apply Kd.R_alloc | apply Kd.R_drewN | apply Kd.R_drew)); exact (Kd.R_mono (Kd.R_far (p := ⟨gb181, 1, none⟩) (Kd.R_far (p := ⟨gb181, 0, none⟩) (Kd.R_types HO163.out BK181.out (by decide)) (fun _ hk => hk.2) (.slice Ao35 t175.length co35)) (fun _ hk => hk.2) (.slice Ao39 t178.length co39)) (fun _ h_ => h_.1))))) (Kd.R_lt (by (with_reducible repeat (first | apply Kd.R_alloc | apply Kd.R_drewN | apply Kd.R_drew)); exact (Kd.R_mono (Kd.R_far (p := ⟨gb181, 1, none⟩) (Kd.R_far (p := ⟨gb181, 0, none⟩) (Kd.R_types HO166.out BK181.out (by decide)) (fun _ hk => hk.2) (.slice Ao35 t175.length co35)) (fun _ hk => hk.2) (.slice Ao39 t178.length co39)) (fun _ h_ => h_.1))))) (Kd.R_lt (by (with_reducible repeat (first | apply Kd.R_alloc | apply Kd.R_drewN | apply Kd.R_drew)); exact (Kd.R_mono (Kd.R_far (p := ⟨gb181, 1, none⟩) (Kd.R_far (p := ⟨gb181, 0, none⟩) (Kd.R_types HO169.out BK181.out (by decide)) (fun _ hk => hk.2) (.slice Ao35 t175.length co35)) (fun _ hk => hk.2) (.slice Ao39 t178.length co39)) (fun _ h_ => h_.1))))) (Kd.R_lt (by (with_reducible repeat (first | apply Kd.R_alloc | apply Kd.R_drewN | apply Kd.R_drew)); exact (Kd.R_mono (Kd.R_far (p := ⟨gb181, 1, none⟩) (Kd.R_far (p := ⟨gb181, 0, none⟩) (Kd.R_types HO172.out BK181.out (by decide)) (fun _ hk => hk.2) (.slice Ao35 t175.length co35)) (fun _ hk => hk.2) (.slice Ao39 t178.length co39)) (fun _ h_ => h_.1))))) (Kd.R_lt (by (with_reducible repeat (first | apply Kd.R_alloc | apply Kd.R_drewN | apply Kd.R_drew)); exact (Kd.R_mono (Kd.R_far (p := ⟨gb181, 1, none⟩) (Kd.R_far (p := ⟨gb181, 0, none⟩) (Kd.R_types HO177.out BK181.out (by decide)) (fun _ hk => hk.2) (.slice Ao35 t175.length co35)) (fun _ hk => hk.2) (.slice Ao39 t178.length co39)) (fun _ h_ => h_.1))))) (Kd.R_lt (by (with_reducible repeat (first | apply Kd.R_alloc | apply Kd.R_drewN | apply Kd.R_drew)); exact (Kd.R_mono (Kd.R_far (p := ⟨gb181, 1, none⟩) (Kd.R_far (p := ⟨gb181, 0, none⟩) (Kd.R_types HO180.out BK181.out (by decide)) (fun _ hk => hk.2) (.slice Ao35 t175.length co35)) (fun _ hk => hk.2) (.slice Ao39 t178.length co39)) (fun _ h_ => h_.1))))) (below_size (kW HB.out))); have n8_ := k0 (blk_below (g := gb156) (o := .cells #[.slice A0_0 l0_0.length c0_0, .slice A0_1 l0_1.length c0_1] 32 (0, 0)) (by (with_reducible repeat (first | refine blk_drewN ?_ _ | refine blk_drew ?_ | refine blk_alloc ?_ _)); refine blk_far ?_ NB156_181.out _; (with_reducible repeat (first | refine blk_drewN ?_ _ | refine blk_drew ?_ | refine blk_alloc ?_ _)); refine blk_far ?_ NB156_181.out _; (with_reducible repeat (first | refine blk_drewN ?_ _ | refine blk_drew ?_ | refine blk_alloc ?_ _)); exact BK156.out) hb); have n9_ := k0 (blk_below (g := gb174) (o := .cells #[.slice Ao28 t167.length co28, .slice Ao31 t170.length co31] 35 (0, 0)) (by (with_reducible repeat (first | refine blk_drewN ?_ _ | refine blk_drew ?_ | refine blk_alloc ?_ _)); refine blk_far ?_ NB174_181.out _; (with_reducible repeat (first | refine blk_drewN ?_ _ | refine blk_drew ?_ | refine blk_alloc ?_ _)); refine blk_far ?_ NB174_181.out _; (with_reducible repeat (first | refine blk_drewN ?_ _ | refine blk_drew ?_ | refine blk_alloc ?_ _)); exact BK174.out) hb); have n10_ := k0 (blk_below (g := gb181) (o := .cells #[.slice Ao35 t175.length co35, .slice Ao39 t178.length co39] 35 (0, 0)) (by (with_reducible repeat (first | refine blk_drewN ?_ _ | refine blk_drew ?_ | refine blk_alloc ?_ _)); refine blk_put (cs := #[.slice Ao35 t175.length co35, .slice none 0 0]) ?_ 1 _ rfl; (with_reducible repeat (first | refine blk_drewN ?_ _ | refine blk_drew ?_ | refine blk_alloc ?_ _)); refine blk_put (cs := #[.slice none 0 0, .slice none 0 0]) ?_ 0 _ rfl; (with_reducible repeat (first | refine blk_drewN ?_ _ | refine blk_drew ?_ | refine blk_alloc ?_ _)); exact BK181.out) hb); have n11_ := k0 (below_step (kW HB.out) hb); clear HO160; clear HO163; clear HO166; clear HO169; clear HO172; clear HO177; clear HO180; clear BK156; clear BK174; clear BK181; clear HB; have HO160 := n0_; have HO163 := n1_; have HO166 := n2_; have HO169 := n3_; have HO172 := n4_; have HO177 := n5_; have HO180 := n6_; have HO184 := n7_; have BK156 := n8_; have BK174 := n9_; have BK181 := n10_; have HB := n11_; clear n0_ n1_ n2_ n3_ n4_ n5_ n6_ n7_ n8_ n9_ n10_ n11_; (try clear hb); (try clear hb2); (try clear hk); (try clear hi); (try clear ho0); have hcz41_0 : w40.cell? ⟨gb181, 0, none⟩ = some (.slice Ao35 t175.length co35) := (blk_cell BK181.out 0).trans rfl; have hcz41_1 : w40.cell? ⟨gb181, 1, none⟩ = some (.slice Ao39 t178.length co39) := (blk_cell BK181.out 1).trans rfl; have hfz41_0 := blk_frozen BK181.out 0; have hfz41_1 := blk_frozen BK181.out 1; obtain ⟨Ao42, co42, eo42⟩ := Kd.R_slice HO184.out; subst eo42) | ((with_reducible refine gate_callee (f := 31) rfl ?_); refine goesL_ (some 40) rfl rfl Try.func31 (by kernel_rfl) rfl #[.agg #[.slice Ao35 t175.length co35, .slice Ao39 t178.length co39], .slice Ao42 t182.length co42] rfl (by (try simp only [List.map_toArray, List.map_cons, List.map_nil]); first | done | rfl | (simp only [List.length_drop, List.length_take]; rfl)) ?_; (with_reducible refine (impl_DiskReset.calls _ _ t175 _ _ t178 _ _ t182 t185 t188 t191 _ ?side1 ?side2 ?side3 ?side4 ?side5 ?side6 A15.out).mono ?_); (case side1 => repeat (first | exact (Kd.R_reads' HO177.out).2.2 | (with_reducible refine Kd.C_alloc ?_ _) | (with_reducible refine Kd.C_drewN ?_ _) | (with_reducible refine Kd.C_drew ?_))); (case side2 => exact (Kd.R_reads' HO177.out).2.1); (case side3 => repeat (first | exact (Kd.R_reads' HO180.out).2.2 | (with_reducible refine Kd.C_alloc ?_ _) | (with_reducible refine Kd.C_drewN ?_ _) | (with_reducible refine Kd.C_drew ?_))); (case side4 => exact (Kd.R_reads' HO180.out).2.1); (case side5 => repeat (first | exact (Kd.R_reads' HO184.out).2.2 | (with_reducible refine Kd.C_alloc ?_ _) | (with_reducible refine Kd.C_drewN ?_ _) | (with_reducible refine Kd.C_drew ?_))); (case side6 => exact (Kd.R_reads' HO184.out).2.1); rintro e w43 ⟨v186, v189, rfl, ho0, ho1, hb⟩; refine ⟨_, rfl, ?_⟩; have n0_ := k0 (Kd.R_mono (Kd.R_told (Kd.R_told (Kd.R_old (kR HO160.out) hb) (Kd.R_base ho0)) (Kd.R_base ho1)) (fun _ h_ => h_.1)); have n1_ := k0 (Kd.R_mono (Kd.R_told (Kd.R_told (Kd.R_old (kR HO163.out) hb) (Kd.R_base ho0)) (Kd.R_base ho1)) (fun _ h_ => h_.1)); have n2_ := k0 (Kd.R_mono (Kd.R_told (Kd.R_told (Kd.R_old (kR HO166.out) hb) (Kd.R_base ho0)) (Kd.R_base ho1)) (fun _ h_ => h_.1)); have n3_ := k0 (Kd.R_mono (Kd.R_told (Kd.R_told (Kd.R_old (kR HO169.out) hb) (Kd.R_base ho0)) (Kd.R_base ho1)) (fun _ h_ => h_.1)); have n4_ := k0 (Kd.R_mono (Kd.R_told (Kd.R_told (Kd.R_old (kR HO172.out) hb) (Kd.R_base ho0)) (Kd.R_base ho1)) (fun _ h_ => h_.1)); have n5_ := k0 (Kd.R_mono (Kd.R_told (Kd.R_told (Kd.R_old (kR HO177.out) hb) (Kd.R_base ho0)) (Kd.R_base ho1)) (fun _ h_ => h_.1)); have n6_ := k0 (Kd.R_mono (Kd.R_told (Kd.R_told (Kd.R_old (kR HO180.out) hb) (Kd.R_base ho0)) (Kd.R_base ho1)) (fun _ h_ => h_.1)); have n7_ := k0 (Kd.R_mono (Kd.R_told (Kd.R_told (Kd.R_old (kR HO184.out) hb) (Kd.R_base ho0)) (Kd.R_base ho1)) (fun _ h_ => h_.1)); have n8_ := k0 (Kd.R_lower (Kd.R_new' (Kd.R_new' (Kd.R_new' (Kd.R_new' (Kd.R_new' (Kd.R_new' (Kd.R_new' (Kd.R_new' ho0 (Kd.R_lt (kR HO160.out))) (Kd.R_lt (kR HO163.out))) (Kd.R_lt (kR HO166.out))) (Kd.R_lt (kR HO169.out))) (Kd.R_lt (kR HO172.out))) (Kd.R_lt (kR HO177.out))) (Kd.R_lt (kR HO180.out))) (Kd.R_lt (kR HO184.out))) (below_size (kW HB.out))); have n9_ := k0 (Kd.R_lower (Kd.R_new' (Kd.R_new' (Kd.R_new' (Kd.R_new' (Kd.R_new' (Kd.R_new' (Kd.R_new' (Kd.R_new' ho1 (Kd.R_lt (kR HO160.out))) (Kd.R_lt (kR HO163.out))) (Kd.R_lt (kR HO166.out))) (Kd.R_lt (kR HO169.out))) (Kd.R_lt (kR HO172.out))) (Kd.R_lt (kR HO177.out))) (Kd.R_lt (kR HO180.out))) (Kd.R_lt (kR HO184.out))) (below_size (kW HB.out))); have n10_ := k0 (kb BK156.out hb); have n11_ := k0 (kb BK174.out hb); have n12_ := k0 (kb BK181.out hb); have n13_ := k0 (below_step (kW HB.out) hb); clear HO160; clear HO163; clear HO166; clear HO169; clear HO172; clear HO177; clear HO180; clear HO184; clear BK156; clear BK174; clear BK181; clear HB; have HO160 := n0_; have HO163 := n1_; have HO166 := n2_; have HO169 := n3_; have HO172 := n4_; have HO177 := n5_; have HO180 := n6_; have HO184 := n7_; have HO187 := n8_; have HO190 := n9_; have BK156 := n10_; have BK174 := n11_; have BK181 := n12_; have HB := n13_; clear n0_ n1_ n2_ n3_ n4_ n5_ n6_ n7_ n8_ n9_ n10_ n11_ n12_ n13_; (try clear hb); (try clear hb2); (try clear hk); (try clear hi); (try clear ho0); (try clear ho1)) | ((with_reducible refine gate_dst (N := 10) rfl ?_); refine box_event ?hg (N := 10) ?hd (cs := #[.slice none 0 0, .slice none 0 0]) (t := 35) ?hr ?_; (case hd => rfl); (case hg => rfl); (case hr => first | (go_simp; done) | (go_simp; rfl)); intro gb192 hg w44 hbox hb; have n0_ := k0 (Kd.R_below (kR HO160.out) hb); have n1_ := k0 (Kd.R_below (kR HO163.out) hb); have n2_ := k0 (Kd.R_below (kR HO166.out) hb); have n3_ := k0 (Kd.R_below (kR HO169.out) hb); have n4_ := k0 (Kd.R_below (kR HO172.out) hb); have n5_ := k0 (Kd.R_below (kR HO177.out) hb); have n6_ := k0 (Kd.R_below (kR HO180.out) hb); have n7_ := k0 (Kd.R_below (kR HO184.out) hb); have n8_ := k0 (Kd.R_below (kR HO187.out) hb); have n9_ := k0 (Kd.R_below (kR HO190.out) hb); have n10_ := k0 (kb BK156.out hb); have n11_ := k0 (kb BK174.out hb); have n12_ := k0 (kb BK181.out hb); have n13_ := k0 (below_step (kW HB.out) hb); have n14_ := k0 (hbox); have n15_ := k0 ((by rw [hg]; exact (below_size (kW HB.out)) : w.heap.size ≤ gb192)); have n16_ := k0 ((by rw [hg]; exact (below_size (kW HB.out)) : w.heap.size ≤ gb192)); have n17_ := k0 ((by rw [hg]; exact Nat.ne_of_lt (blk_lt (g := gb156) (o := .cells #[.slice A0_0 l0_0.length c0_0, .slice A0_1 l0_1.length c0_1] 32 (0, 0)) (kB BK156.out)) : gb156 ≠ gb192)); have n18_ := k0 ((by rw [hg]; exact Nat.ne_of_gt (blk_lt (g := gb156) (o := .cells #[.slice A0_0 l0_0.length c0_0, .slice A0_1 l0_1.length c0_1] 32 (0, 0)) (kB BK156.out)) : gb192 ≠ gb156)); have n19_ := k0 ((by rw [hg]; exact Nat.ne_of_lt (blk_lt (g := gb174) (o := .cells #[.slice Ao28 t167.length co28, .slice Ao31 t170.length co31] 35 (0, 0)) (kB BK174.out)) : gb174 ≠ gb192)); have n20_ := k0 ((by rw [hg]; exact Nat.ne_of_gt (blk_lt (g := gb174) (o := .cells #[.slice Ao28 t167.length co28, .slice Ao31 t170.length co31] 35 (0, 0)) (kB BK174.out)) : gb192 ≠ gb174)); have n21_ := k0 ((by rw [hg]; exact Nat.ne_of_lt (blk_lt (g := gb181) (o := .cells #[.slice Ao35 t175.length co35, .slice Ao39 t178.length co39] 35 (0, 0)) (kB BK181.out)) : gb181 ≠ gb192)); have n22_ := k0 ((by rw [hg]; exact Nat.ne_of_gt (blk_lt (g := gb181) (o := .cells #[.slice Ao35 t175.length co35, .slice Ao39 t178.length co39] 35 (0, 0)) (kB BK181.out)) : gb192 ≠ gb181)); clear HO160; clear HO163; clear HO166; clear HO169; clear HO172; clear HO177; clear HO180; clear HO184; clear HO187; clear HO190; clear BK156; clear BK174; clear BK181; clear HB; have HO160 := n0_; have HO163 := n1_; have HO166 := n2_; have HO169 := n3_; have HO172 := n4_; have HO177 := n5_; have HO180 := n6_; have HO184 := n7_; have HO187 := n8_; have HO190 := n9_; have BK156 := n10_; have BK174 := n11_; have BK181 := n12_; have HB := n13_; have BK192 := n14_; have GW192 := n15_; have GE192 := n16_; have NB156_192 := n17_; have NB192_156 := n18_; have NB174_192 := n19_; have NB192_174 := n20_; have NB181_192 := n21_; have NB192_181 := n22_; clear n0_ n1_ n2_ n3_ n4_ n5_ n6_ n7_ n8_ n9_ n10_ n11_ n12_ n13_ n14_ n15_ n16_ n17_ n18_ n19_ n20_ n21_ n22_; clear hb hbox hg; obtain ⟨Ao45, co45, eo45⟩ := Kd.R_slice HO187.out; subst eo45; have hnb46 := NB192_156.out; have hnc46 := NB156_192.out; have hnb47 := NB192_174.out; have hnc47 := NB174_192.out; have hnb48 := NB192_181.out; have hnc48 := NB181_192.out; have hcz49_0 : w44.cell? ⟨gb192, 0, none⟩ = some (.slice none 0 0) := (blk_cell BK192.out 0).trans rfl; have hcz49_1 : w44.cell? ⟨gb192, 1, none⟩ = some (.slice none 0 0) := (blk_cell BK192.out 1).trans rfl; have hfz49_0 := blk_frozen BK192.out 0; have hfz49_1 := blk_frozen BK192.out 1; obtain ⟨Ao50, co50, eo50⟩ := Kd.R_slice HO190.out; subst eo50))
   (try simp only [Act.put, List.setIfInBounds_toArray, List.set_cons_zero, List.set_cons_succ])
   go_cut [51] (fun v51 wc => ∃ (kq : Nat) (x51_15 : Bool), v51 = .bool x51_15 ∧ Aside0 (laws_FnExactDiskReset.j0 kq l1 t173 t182 t191 x51_15 l0_0 l0_1 t167 t170 t175 t178 t185 t188 = some r) ∧ Aside0 (kq ≤ k) ∧ Aside0 (Kd.R (Kd.int .u8) 5 wc w.heap.size (fun k_ => some k_ ≠ ((.slice Ao28 t167.length co28) : Value).ownBlock ∧ some k_ ≠ ((.slice Ao31 t170.length co31) : Value).ownBlock ∧ some k_ ≠ ((.slice Ao35 t175.length co35) : Value).ownBlock ∧ some k_ ≠ ((.slice Ao39 t178.length co39) : Value).ownBlock ∧ some k_ ≠ ((.slice Ao45 t185.length co45) : Value).ownBlock ∧ some k_ ≠ ((.slice Ao50 t188.length co50) : Value).ownBlock) (.slice Ao42 t182.length co42) t182) ∧ Aside0 (Kd.R (Kd.int .u8) 5 wc w.heap.size (fun k_ => some k_ ≠ ((.slice Ao42 t182.length co42) : Value).ownBlock ∧ some k_ ≠ ((.slice Ao31 t170.length co31) : Value).ownBlock ∧ some k_ ≠ ((.slice Ao35 t175.length co35) : Value).ownBlock ∧ some k_ ≠ ((.slice Ao39 t178.length co39) : Value).ownBlock ∧ some k_ ≠ ((.slice Ao45 t185.length co45) : Value).ownBlock ∧ some k_ ≠ ((.slice Ao50 t188.length co50) : Value).ownBlock) (.slice Ao28 t167.length co28) t167) ∧ Aside0 (Kd.R (Kd.int .u8) 5 wc w.heap.size (fun k_ => some k_ ≠ ((.slice Ao42 t182.length co42) : Value).ownBlock ∧ some k_ ≠ ((.slice Ao28 t167.length co28) : Value).ownBlock ∧ some k_ ≠ ((.slice Ao35 t175.length co35) : Value).ownBlock ∧ some k_ ≠ ((.slice Ao39 t178.length co39) : Value).ownBlock ∧ some k_ ≠ ((.slice Ao45 t185.length co45) : Value).ownBlock ∧ some k_ ≠ ((.slice Ao50 t188.length co50) : Value).ownBlock) (.slice Ao31 t170.length co31) t170) ∧ Aside0 (Kd.R (Kd.int .u8) 5 wc w.heap.size (fun k_ => some k_ ≠ ((.slice Ao42 t182.length co42) : Value).ownBlock ∧ some k_ ≠ ((.slice Ao28 t167.length co28) : Value).ownBlock ∧ some k_ ≠ ((.slice Ao31 t170.length co31) : Value).ownBlock ∧ some k_ ≠ ((.slice Ao39 t178.length co39) : Value).ownBlock ∧ some k_ ≠ ((.slice Ao45 t185.length co45) : Value).ownBlock ∧ some k_ ≠ ((.slice Ao50 t188.length co50) : Value).ownBlock) (.slice Ao35 t175.length co35) t175) ∧ Aside0 (Kd.R (Kd.int .u8) 5 wc w.heap.size (fun k_ => some k_ ≠ ((.slice Ao42 t182.length co42) : Value).ownBlock ∧ some k_ ≠ ((.slice Ao28 t167.length co28) : Value).ownBlock ∧ some k_ ≠ ((.slice Ao31 t170.length co31) : Value).ownBlock ∧ some k_ ≠ ((.slice Ao35 t175.length co35) : Value).ownBlock ∧ some k_ ≠ ((.slice Ao45 t185.length co45) : Value).ownBlock ∧ some k_ ≠ ((.slice Ao50 t188.length co50) : Value).ownBlock) (.slice Ao39 t178.length co39) t178) ∧ Aside0 (Kd.R (Kd.int .u8) 5 wc w.heap.size (fun k_ => some k_ ≠ ((.slice Ao42 t182.length co42) : Value).ownBlock ∧ some k_ ≠ ((.slice Ao28 t167.length co28) : Value).ownBlock ∧ some k_ ≠ ((.slice Ao31 t170.length co31) : Value).ownBlock ∧ some k_ ≠ ((.slice Ao35 t175.length co35) : Value).ownBlock ∧ some k_ ≠ ((.slice Ao39 t178.length co39) : Value).ownBlock ∧ some k_ ≠ ((.slice Ao50 t188.length co50) : Value).ownBlock) (.slice Ao45 t185.length co45) t185) ∧ Aside0 (Kd.R (Kd.int .u8) 5 wc w.heap.size (fun k_ => some k_ ≠ ((.slice Ao42 t182.length co42) : Value).ownBlock ∧ some k_ ≠ ((.slice Ao28 t167.length co28) : Value).ownBlock ∧ some k_ ≠ ((.slice Ao31 t170.length co31) : Value).ownBlock ∧ some k_ ≠ ((.slice Ao35 t175.length co35) : Value).ownBlock ∧ some k_ ≠ ((.slice Ao39 t178.length co39) : Value).ownBlock ∧ some k_ ≠ ((.slice Ao45 t185.length co45) : Value).ownBlock) (.slice Ao50 t188.length co50) t188) ∧ Aside0 (wc.heap[gb156]? = some (.cells #[(.slice A0_0 l0_0.length c0_0), (.slice A0_1 l0_1.length c0_1)] 32 (0, 0))) ∧ Aside0 (wc.heap[gb174]? = some (.cells #[(.slice Ao28 t167.length co28), (.slice Ao31 t170.length co31)] 35 (0, 0))) ∧ Aside0 (wc.heap[gb181]? = some (.cells #[(.slice Ao35 t175.length co35), (.slice Ao39 t178.length co39)] 35 (0, 0))) ∧ Aside0 (wc.heap[gb192]? = some (.cells #[(.slice Ao45 t185.length co45), (.slice Ao50 t188.length co50)] 35 (0, 0))) ∧ Aside0 (Below w.heap.size w wc))
   case first =>
    have H := HC16.out
    clear HC16
    replace H := Option.bind_eq_some_iff.mp H
    obtain ⟨t193, A510, H⟩ := H
    replace H : (if t193 = true then (laws_FnExactDiskReset.j0 k l1 t173 t182 t191 (t191 != t173) l0_0 l0_1 t167 t170 t175 t178 t185 t188) else (laws_FnExactDiskReset.j0 k l1 t173 t182 t191 true l0_0 l0_1 t167 t170 t175 t178 t185 t188)) = some r := H
    have A51 := Aside0.mk A510
    clear A510
    by_cases c52 : t193 = true
    ·subst c52
     have H1 : (laws_FnExactDiskReset.j0 k l1 t173 t182 t191 (t191 != t173) l0_0 l0_1 t167 t170 t175 t178 t185 t188) = some r := by rw [if_pos rfl] at H; exact H
     clear H
     have H := H1
     clear H1
     have H' := Aside0.mk H
     clear H
     have hnb53 := NB192_156.out
     have hnc53 := NB156_192.out
     have hnb54 := NB192_174.out
     have hnc54 := NB174_192.out
     have hnb55 := NB192_181.out
     have hnc55 := NB181_192.out
     have hcz56_0 : w44.cell? ⟨gb192, 0, none⟩ = some (.slice none 0 0) := (blk_cell BK192.out 0).trans rfl
     have hcz56_1 : w44.cell? ⟨gb192, 1, none⟩ = some (.slice none 0 0) := (blk_cell BK192.out 1).trans rfl
     have hfz56_0 := blk_frozen BK192.out 0
     have hfz56_1 := blk_frozen BK192.out 1
     have hnb57 := NB174_156.out
     have hnc57 := NB156_174.out
     have hnb58 := NB174_181.out
     have hnc58 := NB181_174.out
     have hcz59_0 : w44.cell? ⟨gb174, 0, none⟩ = some (.slice Ao28 t167.length co28) := (blk_cell BK174.out 0).trans rfl
     have hcz59_1 : w44.cell? ⟨gb174, 1, none⟩ = some (.slice Ao31 t170.length co31) := (blk_cell BK174.out 1).trans rfl
     have hfz59_0 := blk_frozen BK174.out 0
     have hfz59_1 := blk_frozen BK174.out 1
     go_wp2_with (first | ((with_reducible refine gate_callee (f := 23) rfl ?_); refine goesL_ (some 45) rfl rfl Try.func23 (by kernel_rfl) rfl #[.agg #[.slice Ao45 t185.length co45, .slice Ao50 t188.length co50], .agg #[.slice Ao28 t167.length co28, .slice Ao31 t170.length co31]] rfl (by (try simp only [List.map_toArray, List.map_cons, List.map_nil]); first | done | rfl | (simp only [List.length_drop, List.length_take]; rfl)) ?_; (with_reducible refine (laws_eqDisk.calls k _ _ t185 _ _ t188 _ _ t167 _ _ t170 true _ ?side1 ?side2 ?side3 ?side4 ?side5 ?side6 ?side7 ?side8 A51.out).mono ?_); (case side1 => refine (Kd.R_reads' (e := 5) (base := w.heap.size) (ok := fun k_ => ((((((((some k_ ≠ (.slice Ao50 t188.length co50 : Value).ownBlock ∧ some k_ ≠ (.slice Ao23 t158.length co23 : Value).ownBlock) ∧ some k_ ≠ (.slice Ao24 t161.length co24 : Value).ownBlock) ∧ some k_ ≠ (.slice Ao25 t164.length co25 : Value).ownBlock) ∧ some k_ ≠ (.slice Ao28 t167.length co28 : Value).ownBlock) ∧ some k_ ≠ (.slice Ao31 t170.length co31 : Value).ownBlock) ∧ some k_ ≠ (.slice Ao35 t175.length co35 : Value).ownBlock) ∧ some k_ ≠ (.slice Ao39 t178.length co39 : Value).ownBlock) ∧ some k_ ≠ (.slice Ao42 t182.length co42 : Value).ownBlock)) (n := t185.length) (c := co45) ?_).2.2; exact (by (with_reducible repeat (first | apply Kd.R_alloc | apply Kd.R_drewN | apply Kd.R_drew)); exact (Kd.R_mono (Kd.R_far (p := ⟨gb192, 1, none⟩) (Kd.R_far (p := ⟨gb192, 0, none⟩) (Kd.R_types HO187.out BK192.out (by decide)) (fun _ hk => hk.2) (.slice Ao45 t185.length co45)) (fun _ hk => hk.2) (.slice Ao50 t188.length co50)) (fun _ h_ => h_.1)))); (case side2 => exact (Kd.R_reads' HO187.out).2.1); (case side3 => refine (Kd.R_reads' (e := 5) (base := w.heap.size) (ok := fun k_ => ((((((((some k_ ≠ (.slice Ao45 t185.length co45 : Value).ownBlock ∧ some k_ ≠ (.slice Ao23 t158.length co23 : Value).ownBlock) ∧ some k_ ≠ (.slice Ao24 t161.length co24 : Value).ownBlock) ∧ some k_ ≠ (.slice Ao25 t164.length co25 : Value).ownBlock) ∧ some k_ ≠ (.slice Ao28 t167.length co28 : Value).ownBlock) ∧ some k_ ≠ (.slice Ao31 t170.length co31 : Value).ownBlock) ∧ some k_ ≠ (.slice Ao35 t175.length co35 : Value).ownBlock) ∧ some k_ ≠ (.slice Ao39 t178.length co39 : Value).ownBlock) ∧ some k_ ≠ (.slice Ao42 t182.length co42 : Value).ownBlock)) (n := t188.length) (c := co50) ?_).2.2; exact (by (with_reducible repeat (first | apply Kd.R_alloc | apply Kd.R_drewN | apply Kd.R_drew)); exact (Kd.R_mono (Kd.R_far (p := ⟨gb192, 1, none⟩) (Kd.R_far (p := ⟨gb192, 0, none⟩) (Kd.R_types HO190.out BK192.out (by decide)) (fun _ hk => hk.2) (.slice Ao45 t185.length co45)) (fun _ hk => hk.2) (.slice Ao50 t188.length co50)) (fun _ h_ => h_.1)))); (case side4 => exact (Kd.R_reads' HO190.out).2.1); (case side5 => refine (Kd.R_reads' (e := 5) (base := w.heap.size) (ok := fun k_ => ((((((((some k_ ≠ (.slice Ao31 t170.length co31 : Value).ownBlock ∧ some k_ ≠ (.slice Ao23 t158.length co23 : Value).ownBlock) ∧ some k_ ≠ (.slice Ao24 t161.length co24 : Value).ownBlock) ∧ some k_ ≠ (.slice Ao25 t164.length co25 : Value).ownBlock) ∧ some k_ ≠ (.slice Ao35 t175.length co35 : Value).ownBlock) ∧ some k_ ≠ (.slice Ao39 t178.length co39 : Value).ownBlock) ∧ some k_ ≠ (.slice Ao42 t182.length co42 : Value).ownBlock) ∧ some k_ ≠ (.slice Ao45 t185.length co45 : Value).ownBlock) ∧ some k_ ≠ (.slice Ao50 t188.length co50 : Value).ownBlock)) (n := t167.length) (c := co28) ?_).2.2; exact (by (with_reducible repeat (first | apply Kd.R_alloc | apply Kd.R_drewN | apply Kd.R_drew)); exact (Kd.R_mono (Kd.R_far (p := ⟨gb192, 1, none⟩) (Kd.R_far (p := ⟨gb192, 0, none⟩) (Kd.R_types HO169.out BK192.out (by decide)) (fun _ hk => hk.2) (.slice Ao45 t185.length co45)) (fun _ hk => hk.2) (.slice Ao50 t188.length co50)) (fun _ h_ => h_.1)))); (case side6 => exact (Kd.R_reads' HO169.out).2.1); (case side7 => refine (Kd.R_reads' (e := 5) (base := w.heap.size) (ok := fun k_ => ((((((((some k_ ≠ (.slice Ao28 t167.length co28 : Value).ownBlock ∧ some k_ ≠ (.slice Ao23 t158.length co23 : Value).ownBlock) ∧ some k_ ≠ (.slice Ao24 t161.length co24 : Value).ownBlock) ∧ some k_ ≠ (.slice Ao25 t164.length co25 : Value).ownBlock) ∧ some k_ ≠ (.slice Ao35 t175.length co35 : Value).ownBlock) ∧ some k_ ≠ (.slice Ao39 t178.length co39 : Value).ownBlock) ∧ some k_ ≠ (.slice Ao42 t182.length co42 : Value).ownBlock) ∧ some k_ ≠ (.slice Ao45 t185.length co45 : Value).ownBlock) ∧ some k_ ≠ (.slice Ao50 t188.length co50 : Value).ownBlock)) (n := t170.length) (c := co31) ?_).2.2; exact (by (with_reducible repeat (first | apply Kd.R_alloc | apply Kd.R_drewN | apply Kd.R_drew)); exact (Kd.R_mono (Kd.R_far (p := ⟨gb192, 1, none⟩) (Kd.R_far (p := ⟨gb192, 0, none⟩) (Kd.R_types HO172.out BK192.out (by decide)) (fun _ hk => hk.2) (.slice Ao45 t185.length co45)) (fun _ hk => hk.2) (.slice Ao50 t188.length co50)) (fun _ h_ => h_.1)))); (case side8 => exact (Kd.R_reads' HO172.out).2.1); rintro e w60 ⟨rfl, hb⟩; refine ⟨_, rfl, ?_⟩; have n0_ := k0 (Kd.R_below (by (with_reducible repeat (first | apply Kd.R_alloc | apply Kd.R_drewN | apply Kd.R_drew)); exact (Kd.R_mono (Kd.R_far (p := ⟨gb192, 1, none⟩) (Kd.R_far (p := ⟨gb192, 0, none⟩) (Kd.R_types HO160.out BK192.out (by decide)) (fun _ hk => hk.2) (.slice Ao45 t185.length co45)) (fun _ hk => hk.2) (.slice Ao50 t188.length co50)) (fun _ h_ => h_.1))) hb); have n1_ := k0 (Kd.R_below (by (with_reducible repeat (first | apply Kd.R_alloc | apply Kd.R_drewN | apply Kd.R_drew)); exact (Kd.R_mono (Kd.R_far (p := ⟨gb192, 1, none⟩) (Kd.R_far (p := ⟨gb192, 0, none⟩) (Kd.R_types HO163.out BK192.out (by decide)) (fun _ hk => hk.2) (.slice Ao45 t185.length co45)) (fun _ hk => hk.2) (.slice Ao50 t188.length co50)) (fun _ h_ => h_.1))) hb); have n2_ := k0 (Kd.R_below (by (with_reducible repeat (first | apply Kd.R_alloc | apply Kd.R_drewN | apply Kd.R_drew)); exact (Kd.R_mono (Kd.R_far (p := ⟨gb192, 1, none⟩) (Kd.R_far (p := ⟨gb192, 0, none⟩) (Kd.R_types HO166.out BK192.out (by decide)) (fun _ hk => hk.2) (.slice Ao45 t185.length co45)) (fun _ hk => hk.2) (.slice Ao50 t188.length co50)) (fun _ h_ => h_.1))) hb); have n3_ := k0 (Kd.R_below (by (with_reducible repeat (first | apply Kd.R_alloc | apply Kd.R_drewN | apply Kd.R_drew)); exact (Kd.R_mono (Kd.R_far (p := ⟨gb192, 1, none⟩) (Kd.R_far (p := ⟨gb192, 0, none⟩) (Kd.R_types HO169.out BK192.out (by decide)) (fun _ hk => hk.2) (.slice Ao45 t185.length co45)) (fun _ hk => hk.2) (.slice Ao50 t188.length co50)) (fun _ h_ => h_.1))) hb); have n4_ := k0 (Kd.R_below (by (with_reducible repeat (first | apply Kd.R_alloc | apply Kd.R_drewN | apply Kd.R_drew)); exact (Kd.R_mono (Kd.R_far (p := ⟨gb192, 1, none⟩) (Kd.R_far (p := ⟨gb192, 0, none⟩) (Kd.R_types HO172.out BK192.out (by decide)) (fun _ hk => hk.2) (.slice Ao45 t185.length co45)) (fun _ hk => hk.2) (.slice Ao50 t188.length co50)) (fun _ h_ => h_.1))) hb); have n5_ := k0 (Kd.R_below (by (with_reducible repeat (first | apply Kd.R_alloc | apply Kd.R_drewN | apply Kd.R_drew)); exact (Kd.R_mono (Kd.R_far (p := ⟨gb192, 1, none⟩) (Kd.R_far (p := ⟨gb192, 0, none⟩) (Kd.R_types HO177.out BK192.out (by decide)) (fun _ hk => hk.2) (.slice Ao45 t185.length co45)) (fun _ hk => hk.2) (.slice Ao50 t188.length co50)) (fun _ h_ => h_.1))) hb); have n6_ := k0 (Kd.R_below (by (with_reducible repeat (first | apply Kd.R_alloc | apply Kd.R_drewN | apply Kd.R_drew)); exact (Kd.R_mono (Kd.R_far (p := ⟨gb192, 1, none⟩) (Kd.R_far (p := ⟨gb192, 0, none⟩) (Kd.R_types HO180.out BK192.out (by decide)) (fun _ hk => hk.2) (.slice Ao45 t185.length co45)) (fun _ hk => hk.2) (.slice Ao50 t188.length co50)) (fun _ h_ => h_.1))) hb); have n7_ := k0 (Kd.R_below (by (with_reducible repeat (first | apply Kd.R_alloc | apply Kd.R_drewN | apply Kd.R_drew)); exact (Kd.R_mono (Kd.R_far (p := ⟨gb192, 1, none⟩) (Kd.R_far (p := ⟨gb192, 0, none⟩) (Kd.R_types HO184.out BK192.out (by decide)) (fun _ hk => hk.2) (.slice Ao45 t185.length co45)) (fun _ hk => hk.2) (.slice Ao50 t188.length co50)) (fun _ h_ => h_.1))) hb); have n8_ := k0 (Kd.R_below (by (with_reducible repeat (first | apply Kd.R_alloc | apply Kd.R_drewN | apply Kd.R_drew)); exact (Kd.R_mono (Kd.R_far (p := ⟨gb192, 1, none⟩) (Kd.R_far (p := ⟨gb192, 0, none⟩) (Kd.R_types HO187.out BK192.out (by decide)) (fun _ hk => hk.2) (.slice Ao45 t185.length co45)) (fun _ hk => hk.2) (.slice Ao50 t188.length co50)) (fun _ h_ => h_.1))) hb); have n9_ := k0 (Kd.R_below (by (with_reducible repeat (first | apply Kd.R_alloc | apply Kd.R_drewN | apply Kd.R_drew)); exact (Kd.R_mono (Kd.R_far (p := ⟨gb192, 1, none⟩) (Kd.R_far (p := ⟨gb192, 0, none⟩) (Kd.R_types HO190.out BK192.out (by decide)) (fun _ hk => hk.2) (.slice Ao45 t185.length co45)) (fun _ hk => hk.2) (.slice Ao50 t188.length co50)) (fun _ h_ => h_.1))) hb); have n10_ := k0 (blk_below (g := gb156) (o := .cells #[.slice A0_0 l0_0.length c0_0, .slice A0_1 l0_1.length c0_1] 32 (0, 0)) (by (with_reducible repeat (first | refine blk_drewN ?_ _ | refine blk_drew ?_ | refine blk_alloc ?_ _)); refine blk_far ?_ NB156_192.out _; (with_reducible repeat (first | refine blk_drewN ?_ _ | refine blk_drew ?_ | refine blk_alloc ?_ _)); refine blk_far ?_ NB156_192.out _; (with_reducible repeat (first | refine blk_drewN ?_ _ | refine blk_drew ?_ | refine blk_alloc ?_ _)); exact BK156.out) hb); have n11_ := k0 (blk_below (g := gb174) (o := .cells #[.slice Ao28 t167.length co28, .slice Ao31 t170.length co31] 35 (0, 0)) (by (with_reducible repeat (first | refine blk_drewN ?_ _ | refine blk_drew ?_ | refine blk_alloc ?_ _)); refine blk_far ?_ NB174_192.out _; (with_reducible repeat (first | refine blk_drewN ?_ _ | refine blk_drew ?_ | refine blk_alloc ?_ _)); refine blk_far ?_ NB174_192.out _; (with_reducible repeat (first | refine blk_drewN ?_ _ | refine blk_drew ?_ | refine blk_alloc ?_ _)); exact BK174.out) hb); have n12_ := k0 (blk_below (g := gb181) (o := .cells #[.slice Ao35 t175.length co35, .slice Ao39 t178.length co39] 35 (0, 0)) (by (with_reducible repeat (first | refine blk_drewN ?_ _ | refine blk_drew ?_ | refine blk_alloc ?_ _)); refine blk_far ?_ NB181_192.out _; (with_reducible repeat (first | refine blk_drewN ?_ _ | refine blk_drew ?_ | refine blk_alloc ?_ _)); refine blk_far ?_ NB181_192.out _; (with_reducible repeat (first | refine blk_drewN ?_ _ | refine blk_drew ?_ | refine blk_alloc ?_ _)); exact BK181.out) hb); have n13_ := k0 (blk_below (g := gb192) (o := .cells #[.slice Ao45 t185.length co45, .slice Ao50 t188.length co50] 35 (0, 0)) (by (with_reducible repeat (first | refine blk_drewN ?_ _ | refine blk_drew ?_ | refine blk_alloc ?_ _)); refine blk_put (cs := #[.slice Ao45 t185.length co45, .slice none 0 0]) ?_ 1 _ rfl; (with_reducible repeat (first | refine blk_drewN ?_ _ | refine blk_drew ?_ | refine blk_alloc ?_ _)); refine blk_put (cs := #[.slice none 0 0, .slice none 0 0]) ?_ 0 _ rfl; (with_reducible repeat (first | refine blk_drewN ?_ _ | refine blk_drew ?_ | refine blk_alloc ?_ _)); exact BK192.out) hb); have n14_ := k0 (below_step (kW HB.out) hb); clear HO160; clear HO163; clear HO166; clear HO169; clear HO172; clear HO177; clear HO180; clear HO184; clear HO187; clear HO190; clear BK156; clear BK174; clear BK181; clear BK192; clear HB; have HO160 := n0_; have HO163 := n1_; have HO166 := n2_; have HO169 := n3_; have HO172 := n4_; have HO177 := n5_; have HO180 := n6_; have HO184 := n7_; have HO187 := n8_; have HO190 := n9_; have BK156 := n10_; have BK174 := n11_; have BK181 := n12_; have BK192 := n13_; have HB := n14_; clear n0_ n1_ n2_ n3_ n4_ n5_ n6_ n7_ n8_ n9_ n10_ n11_ n12_ n13_ n14_; (try clear hb); (try clear hb2); (try clear hk); (try clear hi)))
     go_meet
     case rel => exact ⟨_, ((t191 != t173)), (by first | rfl | (simp; done) | (simp [*]; done)), H', ⟨by first | omega | exact Nat.le_refl _⟩, ⟨by (with_reducible repeat (first | apply Kd.R_alloc | apply Kd.R_drewN | apply Kd.R_drew)); exact Kd.R_mono HO184.out (fun _ hk => ⟨hk.1.1.1.1.1.2, ⟨hk.1.1.1.1.2, ⟨hk.1.1.1.2, ⟨hk.1.1.2, ⟨hk.1.2, hk.2⟩⟩⟩⟩⟩)⟩, ⟨by (with_reducible repeat (first | apply Kd.R_alloc | apply Kd.R_drewN | apply Kd.R_drew)); exact Kd.R_mono HO169.out (fun _ hk => ⟨hk.1.1.2, ⟨hk.1.1.1.1.1.1.1.1, ⟨hk.1.1.1.1.2, ⟨hk.1.1.1.2, ⟨hk.1.2, hk.2⟩⟩⟩⟩⟩)⟩, ⟨by (with_reducible repeat (first | apply Kd.R_alloc | apply Kd.R_drewN | apply Kd.R_drew)); exact Kd.R_mono HO172.out (fun _ hk => ⟨hk.1.1.2, ⟨hk.1.1.1.1.1.1.1.1, ⟨hk.1.1.1.1.2, ⟨hk.1.1.1.2, ⟨hk.1.2, hk.2⟩⟩⟩⟩⟩)⟩, ⟨by (with_reducible repeat (first | apply Kd.R_alloc | apply Kd.R_drewN | apply Kd.R_drew)); exact Kd.R_mono HO177.out (fun _ hk => ⟨hk.1.1.2, ⟨hk.1.1.1.1.2, ⟨hk.1.1.1.2, ⟨hk.1.1.1.1.1.1.1.1, ⟨hk.1.2, hk.2⟩⟩⟩⟩⟩)⟩, ⟨by (with_reducible repeat (first | apply Kd.R_alloc | apply Kd.R_drewN | apply Kd.R_drew)); exact Kd.R_mono HO180.out (fun _ hk => ⟨hk.1.1.2, ⟨hk.1.1.1.1.2, ⟨hk.1.1.1.2, ⟨hk.1.1.1.1.1.1.1.1, ⟨hk.1.2, hk.2⟩⟩⟩⟩⟩)⟩, ⟨by (with_reducible repeat (first | apply Kd.R_alloc | apply Kd.R_drewN | apply Kd.R_drew)); exact Kd.R_mono HO187.out (fun _ hk => ⟨hk.2, ⟨hk.1.1.1.1.2, ⟨hk.1.1.1.2, ⟨hk.1.1.2, ⟨hk.1.2, hk.1.1.1.1.1.1.1.1⟩⟩⟩⟩⟩)⟩, ⟨by (with_reducible repeat (first | apply Kd.R_alloc | apply Kd.R_drewN | apply Kd.R_drew)); exact Kd.R_mono HO190.out (fun _ hk => ⟨hk.2, ⟨hk.1.1.1.1.2, ⟨hk.1.1.1.2, ⟨hk.1.1.2, ⟨hk.1.2, hk.1.1.1.1.1.1.1.1⟩⟩⟩⟩⟩)⟩, ⟨by (with_reducible repeat (first | refine blk_drewN ?_ _ | refine blk_drew ?_ | refine blk_alloc ?_ _)); exact BK156.out⟩, ⟨by (with_reducible repeat (first | refine blk_drewN ?_ _ | refine blk_drew ?_ | refine blk_alloc ?_ _)); exact BK174.out⟩, ⟨by (with_reducible repeat (first | refine blk_drewN ?_ _ | refine blk_drew ?_ | refine blk_alloc ?_ _)); exact BK181.out⟩, ⟨by (with_reducible repeat (first | refine blk_drewN ?_ _ | refine blk_drew ?_ | refine blk_alloc ?_ _)); exact BK192.out⟩, ⟨by repeat (first | (with_reducible first | exact HB.out | apply below_alloc | apply pw_below_drewN | apply below_drew1 | refine below_set ?_ GE156.out | refine below_set ?_ GE174.out | refine below_set ?_ GE181.out | refine below_set ?_ GE192.out) | exact HB.out)⟩⟩
    ·replace c52 := Bool.eq_false_iff.mpr c52
     subst c52
     have H1 : (laws_FnExactDiskReset.j0 k l1 t173 t182 t191 true l0_0 l0_1 t167 t170 t175 t178 t185 t188) = some r := by rw [if_neg (show ¬ (false = true) by decide)] at H; exact H
     clear H
     have H := H1
     clear H1
     have H' := Aside0.mk H
     clear H
     have hnb61 := NB192_156.out
     have hnc61 := NB156_192.out
     have hnb62 := NB192_174.out
     have hnc62 := NB174_192.out
     have hnb63 := NB192_181.out
     have hnc63 := NB181_192.out
     have hcz64_0 : w44.cell? ⟨gb192, 0, none⟩ = some (.slice none 0 0) := (blk_cell BK192.out 0).trans rfl
     have hcz64_1 : w44.cell? ⟨gb192, 1, none⟩ = some (.slice none 0 0) := (blk_cell BK192.out 1).trans rfl
     have hfz64_0 := blk_frozen BK192.out 0
     have hfz64_1 := blk_frozen BK192.out 1
     have hnb65 := NB174_156.out
     have hnc65 := NB156_174.out
     have hnb66 := NB174_181.out
     have hnc66 := NB181_174.out
     have hcz67_0 : w44.cell? ⟨gb174, 0, none⟩ = some (.slice Ao28 t167.length co28) := (blk_cell BK174.out 0).trans rfl
     have hcz67_1 : w44.cell? ⟨gb174, 1, none⟩ = some (.slice Ao31 t170.length co31) := (blk_cell BK174.out 1).trans rfl
     have hfz67_0 := blk_frozen BK174.out 0
     have hfz67_1 := blk_frozen BK174.out 1
     go_wp2_with (first | ((with_reducible refine gate_callee (f := 23) rfl ?_); refine goesL_ (some 45) rfl rfl Try.func23 (by kernel_rfl) rfl #[.agg #[.slice Ao45 t185.length co45, .slice Ao50 t188.length co50], .agg #[.slice Ao28 t167.length co28, .slice Ao31 t170.length co31]] rfl (by (try simp only [List.map_toArray, List.map_cons, List.map_nil]); first | done | rfl | (simp only [List.length_drop, List.length_take]; rfl)) ?_; (with_reducible refine (laws_eqDisk.calls k _ _ t185 _ _ t188 _ _ t167 _ _ t170 false _ ?side1 ?side2 ?side3 ?side4 ?side5 ?side6 ?side7 ?side8 A51.out).mono ?_); (case side1 => refine (Kd.R_reads' (e := 5) (base := w.heap.size) (ok := fun k_ => ((((((((some k_ ≠ (.slice Ao50 t188.length co50 : Value).ownBlock ∧ some k_ ≠ (.slice Ao23 t158.length co23 : Value).ownBlock) ∧ some k_ ≠ (.slice Ao24 t161.length co24 : Value).ownBlock) ∧ some k_ ≠ (.slice Ao25 t164.length co25 : Value).ownBlock) ∧ some k_ ≠ (.slice Ao28 t167.length co28 : Value).ownBlock) ∧ some k_ ≠ (.slice Ao31 t170.length co31 : Value).ownBlock) ∧ some k_ ≠ (.slice Ao35 t175.length co35 : Value).ownBlock) ∧ some k_ ≠ (.slice Ao39 t178.length co39 : Value).ownBlock) ∧ some k_ ≠ (.slice Ao42 t182.length co42 : Value).ownBlock)) (n := t185.length) (c := co45) ?_).2.2; exact (by (with_reducible repeat (first | apply Kd.R_alloc | apply Kd.R_drewN | apply Kd.R_drew)); exact (Kd.R_mono (Kd.R_far (p := ⟨gb192, 1, none⟩) (Kd.R_far (p := ⟨gb192, 0, none⟩) (Kd.R_types HO187.out BK192.out (by decide)) (fun _ hk => hk.2) (.slice Ao45 t185.length co45)) (fun _ hk => hk.2) (.slice Ao50 t188.length co50)) (fun _ h_ => h_.1)))); (case side2 => exact (Kd.R_reads' HO187.out).2.1); (case side3 => refine (Kd.R_reads' (e := 5) (base := w.heap.size) (ok := fun k_ => ((((((((some k_ ≠ (.slice Ao45 t185.length co45 : Value).ownBlock ∧ some k_ ≠ (.slice Ao23 t158.length co23 : Value).ownBlock) ∧ some k_ ≠ (.slice Ao24 t161.length co24 : Value).ownBlock) ∧ some k_ ≠ (.slice Ao25 t164.length co25 : Value).ownBlock) ∧ some k_ ≠ (.slice Ao28 t167.length co28 : Value).ownBlock) ∧ some k_ ≠ (.slice Ao31 t170.length co31 : Value).ownBlock) ∧ some k_ ≠ (.slice Ao35 t175.length co35 : Value).ownBlock) ∧ some k_ ≠ (.slice Ao39 t178.length co39 : Value).ownBlock) ∧ some k_ ≠ (.slice Ao42 t182.length co42 : Value).ownBlock)) (n := t188.length) (c := co50) ?_).2.2; exact (by (with_reducible repeat (first | apply Kd.R_alloc | apply Kd.R_drewN | apply Kd.R_drew)); exact (Kd.R_mono (Kd.R_far (p := ⟨gb192, 1, none⟩) (Kd.R_far (p := ⟨gb192, 0, none⟩) (Kd.R_types HO190.out BK192.out (by decide)) (fun _ hk => hk.2) (.slice Ao45 t185.length co45)) (fun _ hk => hk.2) (.slice Ao50 t188.length co50)) (fun _ h_ => h_.1)))); (case side4 => exact (Kd.R_reads' HO190.out).2.1); (case side5 => refine (Kd.R_reads' (e := 5) (base := w.heap.size) (ok := fun k_ => ((((((((some k_ ≠ (.slice Ao31 t170.length co31 : Value).ownBlock ∧ some k_ ≠ (.slice Ao23 t158.length co23 : Value).ownBlock) ∧ some k_ ≠ (.slice Ao24 t161.length co24 : Value).ownBlock) ∧ some k_ ≠ (.slice Ao25 t164.length co25 : Value).ownBlock) ∧ some k_ ≠ (.slice Ao35 t175.length co35 : Value).ownBlock) ∧ some k_ ≠ (.slice Ao39 t178.length co39 : Value).ownBlock) ∧ some k_ ≠ (.slice Ao42 t182.length co42 : Value).ownBlock) ∧ some k_ ≠ (.slice Ao45 t185.length co45 : Value).ownBlock) ∧ some k_ ≠ (.slice Ao50 t188.length co50 : Value).ownBlock)) (n := t167.length) (c := co28) ?_).2.2; exact (by (with_reducible repeat (first | apply Kd.R_alloc | apply Kd.R_drewN | apply Kd.R_drew)); exact (Kd.R_mono (Kd.R_far (p := ⟨gb192, 1, none⟩) (Kd.R_far (p := ⟨gb192, 0, none⟩) (Kd.R_types HO169.out BK192.out (by decide)) (fun _ hk => hk.2) (.slice Ao45 t185.length co45)) (fun _ hk => hk.2) (.slice Ao50 t188.length co50)) (fun _ h_ => h_.1)))); (case side6 => exact (Kd.R_reads' HO169.out).2.1); (case side7 => refine (Kd.R_reads' (e := 5) (base := w.heap.size) (ok := fun k_ => ((((((((some k_ ≠ (.slice Ao28 t167.length co28 : Value).ownBlock ∧ some k_ ≠ (.slice Ao23 t158.length co23 : Value).ownBlock) ∧ some k_ ≠ (.slice Ao24 t161.length co24 : Value).ownBlock) ∧ some k_ ≠ (.slice Ao25 t164.length co25 : Value).ownBlock) ∧ some k_ ≠ (.slice Ao35 t175.length co35 : Value).ownBlock) ∧ some k_ ≠ (.slice Ao39 t178.length co39 : Value).ownBlock) ∧ some k_ ≠ (.slice Ao42 t182.length co42 : Value).ownBlock) ∧ some k_ ≠ (.slice Ao45 t185.length co45 : Value).ownBlock) ∧ some k_ ≠ (.slice Ao50 t188.length co50 : Value).ownBlock)) (n := t170.length) (c := co31) ?_).2.2; exact (by (with_reducible repeat (first | apply Kd.R_alloc | apply Kd.R_drewN | apply Kd.R_drew)); exact (Kd.R_mono (Kd.R_far (p := ⟨gb192, 1, none⟩) (Kd.R_far (p := ⟨gb192, 0, none⟩) (Kd.R_types HO172.out BK192.out (by decide)) (fun _ hk => hk.2) (.slice Ao45 t185.length co45)) (fun _ hk => hk.2) (.slice Ao50 t188.length co50)) (fun _ h_ => h_.1)))); (case side8 => exact (Kd.R_reads' HO172.out).2.1); rintro e w68 ⟨rfl, hb⟩; refine ⟨_, rfl, ?_⟩; have n0_ := k0 (Kd.R_below (by (with_reducible repeat (first | apply Kd.R_alloc | apply Kd.R_drewN | apply Kd.R_drew)); exact (Kd.R_mono (Kd.R_far (p := ⟨gb192, 1, none⟩) (Kd.R_far (p := ⟨gb192, 0, none⟩) (Kd.R_types HO160.out BK192.out (by decide)) (fun _ hk => hk.2) (.slice Ao45 t185.length co45)) (fun _ hk => hk.2) (.slice Ao50 t188.length co50)) (fun _ h_ => h_.1))) hb); have n1_ := k0 (Kd.R_below (by (with_reducible repeat (first | apply Kd.R_alloc | apply Kd.R_drewN | apply Kd.R_drew)); exact (Kd.R_mono (Kd.R_far (p := ⟨gb192, 1, none⟩) (Kd.R_far (p := ⟨gb192, 0, none⟩) (Kd.R_types HO163.out BK192.out (by decide)) (fun _ hk => hk.2) (.slice Ao45 t185.length co45)) (fun _ hk => hk.2) (.slice Ao50 t188.length co50)) (fun _ h_ => h_.1))) hb); have n2_ := k0 (Kd.R_below (by (with_reducible repeat (first | apply Kd.R_alloc | apply Kd.R_drewN | apply Kd.R_drew)); exact (Kd.R_mono (Kd.R_far (p := ⟨gb192, 1, none⟩) (Kd.R_far (p := ⟨gb192, 0, none⟩) (Kd.R_types HO166.out BK192.out (by decide)) (fun _ hk => hk.2) (.slice Ao45 t185.length co45)) (fun _ hk => hk.2) (.slice Ao50 t188.length co50)) (fun _ h_ => h_.1))) hb); have n3_ := k0 (Kd.R_below (by (with_reducible repeat (first | apply Kd.R_alloc | apply Kd.R_drewN | apply Kd.R_drew)); exact (Kd.R_mono (Kd.R_far (p := ⟨gb192, 1, none⟩) (Kd.R_far (p := ⟨gb192, 0, none⟩) (Kd.R_types HO169.out BK192.out (by decide)) (fun _ hk => hk.2) (.slice Ao45 t185.length co45)) (fun _ hk => hk.2) (.slice Ao50 t188.length co50)) (fun _ h_ => h_.1))) hb); have n4_ := k0 (Kd.R_below (by (with_reducible repeat (first | apply Kd.R_alloc | apply Kd.R_drewN | apply Kd.R_drew)); exact (Kd.R_mono (Kd.R_far (p := ⟨gb192, 1, none⟩) (Kd.R_far (p := ⟨gb192, 0, none⟩) (Kd.R_types HO172.out BK192.out (by decide)) (fun _ hk => hk.2) (.slice Ao45 t185.length co45)) (fun _ hk => hk.2) (.slice Ao50 t188.length co50)) (fun _ h_ => h_.1))) hb); have n5_ := k0 (Kd.R_below (by (with_reducible repeat (first | apply Kd.R_alloc | apply Kd.R_drewN | apply Kd.R_drew)); exact (Kd.R_mono (Kd.R_far (p := ⟨gb192, 1, none⟩) (Kd.R_far (p := ⟨gb192, 0, none⟩) (Kd.R_types HO177.out BK192.out (by decide)) (fun _ hk => hk.2) (.slice Ao45 t185.length co45)) (fun _ hk => hk.2) (.slice Ao50 t188.length co50)) (fun _ h_ => h_.1))) hb); have n6_ := k0 (Kd.R_below (by (with_reducible repeat (first | apply Kd.R_alloc | apply Kd.R_drewN | apply Kd.R_drew)); exact (Kd.R_mono (Kd.R_far (p := ⟨gb192, 1, none⟩) (Kd.R_far (p := ⟨gb192, 0, none⟩) (Kd.R_types HO180.out BK192.out (by decide)) (fun _ hk => hk.2) (.slice Ao45 t185.length co45)) (fun _ hk => hk.2) (.slice Ao50 t188.length co50)) (fun _ h_ => h_.1))) hb); have n7_ := k0 (Kd.R_below (by (with_reducible repeat (first | apply Kd.R_alloc | apply Kd.R_drewN | apply Kd.R_drew)); exact (Kd.R_mono (Kd.R_far (p := ⟨gb192, 1, none⟩) (Kd.R_far (p := ⟨gb192, 0, none⟩) (Kd.R_types HO184.out BK192.out (by decide)) (fun _ hk => hk.2) (.slice Ao45 t185.length co45)) (fun _ hk => hk.2) (.slice Ao50 t188.length co50)) (fun _ h_ => h_.1))) hb); have n8_ := k0 (Kd.R_below (by (with_reducible repeat (first | apply Kd.R_alloc | apply Kd.R_drewN | apply Kd.R_drew)); exact (Kd.R_mono (Kd.R_far (p := ⟨gb192, 1, none⟩) (Kd.R_far (p := ⟨gb192, 0, none⟩) (Kd.R_types HO187.out BK192.out (by decide)) (fun _ hk => hk.2) (.slice Ao45 t185.length co45)) (fun _ hk => hk.2) (.slice Ao50 t188.length co50)) (fun _ h_ => h_.1))) hb); have n9_ := k0 (Kd.R_below (by (with_reducible repeat (first | apply Kd.R_alloc | apply Kd.R_drewN | apply Kd.R_drew)); exact (Kd.R_mono (Kd.R_far (p := ⟨gb192, 1, none⟩) (Kd.R_far (p := ⟨gb192, 0, none⟩) (Kd.R_types HO190.out BK192.out (by decide)) (fun _ hk => hk.2) (.slice Ao45 t185.length co45)) (fun _ hk => hk.2) (.slice Ao50 t188.length co50)) (fun _ h_ => h_.1))) hb); have n10_ := k0 (blk_below (g := gb156) (o := .cells #[.slice A0_0 l0_0.length c0_0, .slice A0_1 l0_1.length c0_1] 32 (0, 0)) (by (with_reducible repeat (first | refine blk_drewN ?_ _ | refine blk_drew ?_ | refine blk_alloc ?_ _)); refine blk_far ?_ NB156_192.out _; (with_reducible repeat (first | refine blk_drewN ?_ _ | refine blk_drew ?_ | refine blk_alloc ?_ _)); refine blk_far ?_ NB156_192.out _; (with_reducible repeat (first | refine blk_drewN ?_ _ | refine blk_drew ?_ | refine blk_alloc ?_ _)); exact BK156.out) hb); have n11_ := k0 (blk_below (g := gb174) (o := .cells #[.slice Ao28 t167.length co28, .slice Ao31 t170.length co31] 35 (0, 0)) (by (with_reducible repeat (first | refine blk_drewN ?_ _ | refine blk_drew ?_ | refine blk_alloc ?_ _)); refine blk_far ?_ NB174_192.out _; (with_reducible repeat (first | refine blk_drewN ?_ _ | refine blk_drew ?_ | refine blk_alloc ?_ _)); refine blk_far ?_ NB174_192.out _; (with_reducible repeat (first | refine blk_drewN ?_ _ | refine blk_drew ?_ | refine blk_alloc ?_ _)); exact BK174.out) hb); have n12_ := k0 (blk_below (g := gb181) (o := .cells #[.slice Ao35 t175.length co35, .slice Ao39 t178.length co39] 35 (0, 0)) (by (with_reducible repeat (first | refine blk_drewN ?_ _ | refine blk_drew ?_ | refine blk_alloc ?_ _)); refine blk_far ?_ NB181_192.out _; (with_reducible repeat (first | refine blk_drewN ?_ _ | refine blk_drew ?_ | refine blk_alloc ?_ _)); refine blk_far ?_ NB181_192.out _; (with_reducible repeat (first | refine blk_drewN ?_ _ | refine blk_drew ?_ | refine blk_alloc ?_ _)); exact BK181.out) hb); have n13_ := k0 (blk_below (g := gb192) (o := .cells #[.slice Ao45 t185.length co45, .slice Ao50 t188.length co50] 35 (0, 0)) (by (with_reducible repeat (first | refine blk_drewN ?_ _ | refine blk_drew ?_ | refine blk_alloc ?_ _)); refine blk_put (cs := #[.slice Ao45 t185.length co45, .slice none 0 0]) ?_ 1 _ rfl; (with_reducible repeat (first | refine blk_drewN ?_ _ | refine blk_drew ?_ | refine blk_alloc ?_ _)); refine blk_put (cs := #[.slice none 0 0, .slice none 0 0]) ?_ 0 _ rfl; (with_reducible repeat (first | refine blk_drewN ?_ _ | refine blk_drew ?_ | refine blk_alloc ?_ _)); exact BK192.out) hb); have n14_ := k0 (below_step (kW HB.out) hb); clear HO160; clear HO163; clear HO166; clear HO169; clear HO172; clear HO177; clear HO180; clear HO184; clear HO187; clear HO190; clear BK156; clear BK174; clear BK181; clear BK192; clear HB; have HO160 := n0_; have HO163 := n1_; have HO166 := n2_; have HO169 := n3_; have HO172 := n4_; have HO177 := n5_; have HO180 := n6_; have HO184 := n7_; have HO187 := n8_; have HO190 := n9_; have BK156 := n10_; have BK174 := n11_; have BK181 := n12_; have BK192 := n13_; have HB := n14_; clear n0_ n1_ n2_ n3_ n4_ n5_ n6_ n7_ n8_ n9_ n10_ n11_ n12_ n13_ n14_; (try clear hb); (try clear hb2); (try clear hk); (try clear hi)))
     go_meet
     case rel => exact ⟨_, (true), (by first | rfl | (simp; done) | (simp [*]; done)), H', ⟨by first | omega | exact Nat.le_refl _⟩, ⟨by (with_reducible repeat (first | apply Kd.R_alloc | apply Kd.R_drewN | apply Kd.R_drew)); exact Kd.R_mono HO184.out (fun _ hk => ⟨hk.1.1.1.1.1.2, ⟨hk.1.1.1.1.2, ⟨hk.1.1.1.2, ⟨hk.1.1.2, ⟨hk.1.2, hk.2⟩⟩⟩⟩⟩)⟩, ⟨by (with_reducible repeat (first | apply Kd.R_alloc | apply Kd.R_drewN | apply Kd.R_drew)); exact Kd.R_mono HO169.out (fun _ hk => ⟨hk.1.1.2, ⟨hk.1.1.1.1.1.1.1.1, ⟨hk.1.1.1.1.2, ⟨hk.1.1.1.2, ⟨hk.1.2, hk.2⟩⟩⟩⟩⟩)⟩, ⟨by (with_reducible repeat (first | apply Kd.R_alloc | apply Kd.R_drewN | apply Kd.R_drew)); exact Kd.R_mono HO172.out (fun _ hk => ⟨hk.1.1.2, ⟨hk.1.1.1.1.1.1.1.1, ⟨hk.1.1.1.1.2, ⟨hk.1.1.1.2, ⟨hk.1.2, hk.2⟩⟩⟩⟩⟩)⟩, ⟨by (with_reducible repeat (first | apply Kd.R_alloc | apply Kd.R_drewN | apply Kd.R_drew)); exact Kd.R_mono HO177.out (fun _ hk => ⟨hk.1.1.2, ⟨hk.1.1.1.1.2, ⟨hk.1.1.1.2, ⟨hk.1.1.1.1.1.1.1.1, ⟨hk.1.2, hk.2⟩⟩⟩⟩⟩)⟩, ⟨by (with_reducible repeat (first | apply Kd.R_alloc | apply Kd.R_drewN | apply Kd.R_drew)); exact Kd.R_mono HO180.out (fun _ hk => ⟨hk.1.1.2, ⟨hk.1.1.1.1.2, ⟨hk.1.1.1.2, ⟨hk.1.1.1.1.1.1.1.1, ⟨hk.1.2, hk.2⟩⟩⟩⟩⟩)⟩, ⟨by (with_reducible repeat (first | apply Kd.R_alloc | apply Kd.R_drewN | apply Kd.R_drew)); exact Kd.R_mono HO187.out (fun _ hk => ⟨hk.2, ⟨hk.1.1.1.1.2, ⟨hk.1.1.1.2, ⟨hk.1.1.2, ⟨hk.1.2, hk.1.1.1.1.1.1.1.1⟩⟩⟩⟩⟩)⟩, ⟨by (with_reducible repeat (first | apply Kd.R_alloc | apply Kd.R_drewN | apply Kd.R_drew)); exact Kd.R_mono HO190.out (fun _ hk => ⟨hk.2, ⟨hk.1.1.1.1.2, ⟨hk.1.1.1.2, ⟨hk.1.1.2, ⟨hk.1.2, hk.1.1.1.1.1.1.1.1⟩⟩⟩⟩⟩)⟩, ⟨by (with_reducible repeat (first | refine blk_drewN ?_ _ | refine blk_drew ?_ | refine blk_alloc ?_ _)); exact BK156.out⟩, ⟨by (with_reducible repeat (first | refine blk_drewN ?_ _ | refine blk_drew ?_ | refine blk_alloc ?_ _)); exact BK174.out⟩, ⟨by (with_reducible repeat (first | refine blk_drewN ?_ _ | refine blk_drew ?_ | refine blk_alloc ?_ _)); exact BK181.out⟩, ⟨by (with_reducible repeat (first | refine blk_drewN ?_ _ | refine blk_drew ?_ | refine blk_alloc ?_ _)); exact BK192.out⟩, ⟨by repeat (first | (with_reducible first | exact HB.out | apply below_alloc | apply pw_below_drewN | apply below_drew1 | refine below_set ?_ GE156.out | refine below_set ?_ GE174.out | refine below_set ?_ GE181.out | refine below_set ?_ GE192.out) | exact HB.out)⟩⟩
   case rest =>
    clear HC16
    try clear c1
    try clear c2
    try clear p2
    try clear c3
    try clear c3b0
    try clear c3b1
    try clear c4
    try clear c5
    try clear c6
    try clear c6b0
    try clear c10
    try clear c19
    try clear c21
    try clear c23
    try clear c29
    try clear c31
    try clear c36
    try clear c37
    try clear c42
    try clear c43
    try clear c46
    try clear c47
    try clear c48
    try clear c52
    try clear c53
    try clear c54
    try clear c55
    try clear c57
    try clear c58
    try clear c61
    try clear c62
    try clear c63
    try clear c65
    try clear c66
    try clear hcz18_0
    try clear hcz18_1
    try clear hcz20_0
    try clear hcz20_1
    try clear hcz30_0
    try clear hcz30_1
    try clear hcz32_0
    try clear hcz32_1
    try clear hcz38_0
    try clear hcz38_1
    try clear hcz41_0
    try clear hcz41_1
    try clear hcz49_0
    try clear hcz49_1
    try clear hcz56_0
    try clear hcz56_1
    try clear hcz59_0
    try clear hcz59_1
    try clear hcz64_0
    try clear hcz64_1
    try clear hcz67_0
    try clear hcz67_1
    try clear hcz8_0
    try clear hcz8_1
    try clear hfz18_0
    try clear hfz18_1
    try clear hfz20_0
    try clear hfz20_1
    try clear hfz30_0
    try clear hfz30_1
    try clear hfz32_0
    try clear hfz32_1
    try clear hfz38_0
    try clear hfz38_1
    try clear hfz41_0
    try clear hfz41_1
    try clear hfz49_0
    try clear hfz49_1
    try clear hfz56_0
    try clear hfz56_1
    try clear hfz59_0
    try clear hfz59_1
    try clear hfz64_0
    try clear hfz64_1
    try clear hfz67_0
    try clear hfz67_1
    try clear hfz8_0
    try clear hfz8_1
    obtain ⟨kq, x51_15, rfl, HA, HJ15, HO_9, HO_175000, HO_175001, HO_182000, HO_182001, HO_193000, HO_193001, BK156, BK174, BK181, BK192, HB⟩ := hcut
    cases kq with
    | zero => exact absurd HA.out (by simp [laws_FnExactDiskReset.j0])
    | succ kj15 =>
     have H := HA.out
     clear HA
     simp only [laws_FnExactDiskReset.j0] at H
     by_cases c69 : x51_15 = true
     ·subst c69
      have H1 : (some false) = some r := by rw [if_pos rfl] at H; exact H
      clear H
      have H := H1
      clear H1
      exact absurd ((Option.some.inj H).trans HR.out) (by decide)
     ·replace c69 := Bool.eq_false_iff.mpr c69
      subst c69
      have H1 : ((laws_toDisk.f kj15 l0_0 l0_1).bind fun bt194 => ((laws_eqDisk.f kj15 t175 t178 bt194.1 bt194.2).bind fun t200 => (if t200 = true then ((laws_toByteS.f kj15 l1).bind fun t201 => ((laws_eqByteS.f kj15 t182 t201).bind fun t204 => (if t204 = true then ((laws_markDisk.f kj15 t175 t178 1).bind fun bt205 => ((laws_markByteS.f kj15 t182 bt205.1).bind fun bt208 => (if bt208.1 < 0 then (laws_FnExactDiskReset.j1 kj15 l1 t173 true l0_0 l0_1 t167 t170 t185 t188) else ((laws_eqDisk.f kj15 t185 t188 t167 t170).bind fun t210 => (if t210 = true then (laws_FnExactDiskReset.j1 kj15 l1 t173 (t191 != t173) l0_0 l0_1 t167 t170 t185 t188) else (laws_FnExactDiskReset.j1 kj15 l1 t173 true l0_0 l0_1 t167 t170 t185 t188)))))) else (some false)))) else (some false)))) = some r := by rw [if_neg (show ¬ (false = true) by decide)] at H; exact H
      clear H
      have H := H1
      clear H1
      replace H := Option.bind_eq_some_iff.mp H
      obtain ⟨⟨t194, t197⟩, A700, H⟩ := H
      replace H : ((laws_eqDisk.f kj15 t175 t178 t194 t197).bind fun t200 => (if t200 = true then ((laws_toByteS.f kj15 l1).bind fun t201 => ((laws_eqByteS.f kj15 t182 t201).bind fun t204 => (if t204 = true then ((laws_markDisk.f kj15 t175 t178 1).bind fun bt205 => ((laws_markByteS.f kj15 t182 bt205.1).bind fun bt208 => (if bt208.1 < 0 then (laws_FnExactDiskReset.j1 kj15 l1 t173 true l0_0 l0_1 t167 t170 t185 t188) else ((laws_eqDisk.f kj15 t185 t188 t167 t170).bind fun t210 => (if t210 = true then (laws_FnExactDiskReset.j1 kj15 l1 t173 (t191 != t173) l0_0 l0_1 t167 t170 t185 t188) else (laws_FnExactDiskReset.j1 kj15 l1 t173 true l0_0 l0_1 t167 t170 t185 t188)))))) else (some false)))) else (some false))) = some r := H
      have A70 := Aside0.mk A700
      clear A700
      replace H := Option.bind_eq_some_iff.mp H
      obtain ⟨t200, A710, H⟩ := H
      replace H : (if t200 = true then ((laws_toByteS.f kj15 l1).bind fun t201 => ((laws_eqByteS.f kj15 t182 t201).bind fun t204 => (if t204 = true then ((laws_markDisk.f kj15 t175 t178 1).bind fun bt205 => ((laws_markByteS.f kj15 t182 bt205.1).bind fun bt208 => (if bt208.1 < 0 then (laws_FnExactDiskReset.j1 kj15 l1 t173 true l0_0 l0_1 t167 t170 t185 t188) else ((laws_eqDisk.f kj15 t185 t188 t167 t170).bind fun t210 => (if t210 = true then (laws_FnExactDiskReset.j1 kj15 l1 t173 (t191 != t173) l0_0 l0_1 t167 t170 t185 t188) else (laws_FnExactDiskReset.j1 kj15 l1 t173 true l0_0 l0_1 t167 t170 t185 t188)))))) else (some false)))) else (some false)) = some r := H
      have A71 := Aside0.mk A710
      clear A710
      by_cases c72 : t200 = true
      ·subst c72
       have H1 : ((laws_toByteS.f kj15 l1).bind fun t201 => ((laws_eqByteS.f kj15 t182 t201).bind fun t204 => (if t204 = true then ((laws_markDisk.f kj15 t175 t178 1).bind fun bt205 => ((laws_markByteS.f kj15 t182 bt205.1).bind fun bt208 => (if bt208.1 < 0 then (laws_FnExactDiskReset.j1 kj15 l1 t173 true l0_0 l0_1 t167 t170 t185 t188) else ((laws_eqDisk.f kj15 t185 t188 t167 t170).bind fun t210 => (if t210 = true then (laws_FnExactDiskReset.j1 kj15 l1 t173 (t191 != t173) l0_0 l0_1 t167 t170 t185 t188) else (laws_FnExactDiskReset.j1 kj15 l1 t173 true l0_0 l0_1 t167 t170 t185 t188)))))) else (some false)))) = some r := by rw [if_pos rfl] at H; exact H
       clear H
       have H := H1
       clear H1
       replace H := Option.bind_eq_some_iff.mp H
       obtain ⟨t201, A730, H⟩ := H
       replace H : ((laws_eqByteS.f kj15 t182 t201).bind fun t204 => (if t204 = true then ((laws_markDisk.f kj15 t175 t178 1).bind fun bt205 => ((laws_markByteS.f kj15 t182 bt205.1).bind fun bt208 => (if bt208.1 < 0 then (laws_FnExactDiskReset.j1 kj15 l1 t173 true l0_0 l0_1 t167 t170 t185 t188) else ((laws_eqDisk.f kj15 t185 t188 t167 t170).bind fun t210 => (if t210 = true then (laws_FnExactDiskReset.j1 kj15 l1 t173 (t191 != t173) l0_0 l0_1 t167 t170 t185 t188) else (laws_FnExactDiskReset.j1 kj15 l1 t173 true l0_0 l0_1 t167 t170 t185 t188)))))) else (some false))) = some r := H
       have A73 := Aside0.mk A730
       clear A730
       replace H := Option.bind_eq_some_iff.mp H
       obtain ⟨t204, A740, H⟩ := H
       replace H : (if t204 = true then ((laws_markDisk.f kj15 t175 t178 1).bind fun bt205 => ((laws_markByteS.f kj15 t182 bt205.1).bind fun bt208 => (if bt208.1 < 0 then (laws_FnExactDiskReset.j1 kj15 l1 t173 true l0_0 l0_1 t167 t170 t185 t188) else ((laws_eqDisk.f kj15 t185 t188 t167 t170).bind fun t210 => (if t210 = true then (laws_FnExactDiskReset.j1 kj15 l1 t173 (t191 != t173) l0_0 l0_1 t167 t170 t185 t188) else (laws_FnExactDiskReset.j1 kj15 l1 t173 true l0_0 l0_1 t167 t170 t185 t188)))))) else (some false)) = some r := H
       have A74 := Aside0.mk A740
       clear A740
       by_cases c75 : t204 = true
       ·subst c75
        have H1 : ((laws_markDisk.f kj15 t175 t178 1).bind fun bt205 => ((laws_markByteS.f kj15 t182 bt205.1).bind fun bt208 => (if bt208.1 < 0 then (laws_FnExactDiskReset.j1 kj15 l1 t173 true l0_0 l0_1 t167 t170 t185 t188) else ((laws_eqDisk.f kj15 t185 t188 t167 t170).bind fun t210 => (if t210 = true then (laws_FnExactDiskReset.j1 kj15 l1 t173 (t191 != t173) l0_0 l0_1 t167 t170 t185 t188) else (laws_FnExactDiskReset.j1 kj15 l1 t173 true l0_0 l0_1 t167 t170 t185 t188)))))) = some r := by rw [if_pos rfl] at H; exact H
        clear H
        have H := H1
        clear H1
        replace H := Option.bind_eq_some_iff.mp H
        obtain ⟨⟨t205, t206, t207⟩, A760, H⟩ := H
        replace H : ((laws_markByteS.f kj15 t182 t205).bind fun bt208 => (if bt208.1 < 0 then (laws_FnExactDiskReset.j1 kj15 l1 t173 true l0_0 l0_1 t167 t170 t185 t188) else ((laws_eqDisk.f kj15 t185 t188 t167 t170).bind fun t210 => (if t210 = true then (laws_FnExactDiskReset.j1 kj15 l1 t173 (t191 != t173) l0_0 l0_1 t167 t170 t185 t188) else (laws_FnExactDiskReset.j1 kj15 l1 t173 true l0_0 l0_1 t167 t170 t185 t188))))) = some r := H
        have A76 := Aside0.mk A760
        clear A760
        replace H := Option.bind_eq_some_iff.mp H
        obtain ⟨⟨t208, t209⟩, A770, H⟩ := H
        replace H : (if t208 < 0 then (laws_FnExactDiskReset.j1 kj15 l1 t173 true l0_0 l0_1 t167 t170 t185 t188) else ((laws_eqDisk.f kj15 t185 t188 t167 t170).bind fun t210 => (if t210 = true then (laws_FnExactDiskReset.j1 kj15 l1 t173 (t191 != t173) l0_0 l0_1 t167 t170 t185 t188) else (laws_FnExactDiskReset.j1 kj15 l1 t173 true l0_0 l0_1 t167 t170 t185 t188)))) = some r := H
        have A77 := Aside0.mk A770
        clear A770
        have HC78 := Aside0.mk H
        clear H
        try go_wp2
        have n0_ := k0 (Kd.R_drew HO_9.out)
        have n1_ := k0 (Kd.R_drew HO_175000.out)
        have n2_ := k0 (Kd.R_drew HO_175001.out)
        have n3_ := k0 (Kd.R_drew HO_182000.out)
        have n4_ := k0 (Kd.R_drew HO_182001.out)
        have n5_ := k0 (Kd.R_drew HO_193000.out)
        have n6_ := k0 (Kd.R_drew HO_193001.out)
        have n7_ := k0 (blk_drew BK156.out)
        have n8_ := k0 (blk_drew BK174.out)
        have n9_ := k0 (blk_drew BK181.out)
        have n10_ := k0 (blk_drew BK192.out)
        have n11_ := k0 (below_drew1 HB.out)
        clear HO_9
        clear HO_175000
        clear HO_175001
        clear HO_182000
        clear HO_182001
        clear HO_193000
        clear HO_193001
        clear BK156
        clear BK174
        clear BK181
        clear BK192
        clear HB
        have HO_9 := n0_
        have HO_175000 := n1_
        have HO_175001 := n2_
        have HO_182000 := n3_
        have HO_182001 := n4_
        have HO_193000 := n5_
        have HO_193001 := n6_
        have BK156 := n7_
        have BK174 := n8_
        have BK181 := n9_
        have BK192 := n10_
        have HB := n11_
        clear n0_ n1_ n2_ n3_ n4_ n5_ n6_ n7_ n8_ n9_ n10_ n11_
        refine start_ (n := 5) (S := fun w' => w'.cell? ⟨gb181, 0, none⟩ = some (.slice Ao35 t175.length co35) ∧ w'.cell? ⟨gb181, 1, none⟩ = some (.slice Ao39 t178.length co39) ∧ w'.cell? ⟨gb156, 0, none⟩ = some (.slice A0_0 l0_0.length c0_0) ∧ w'.cell? ⟨gb156, 1, none⟩ = some (.slice A0_1 l0_1.length c0_1)) (ds := []) #[false, false, false, false, false] (by kernel_rfl) rfl rfl ⟨(blk_cell BK181.out 0).trans rfl, (blk_cell BK181.out 1).trans rfl, (blk_cell BK156.out 0).trans rfl, (blk_cell BK156.out 1).trans rfl⟩ (fun hHeld => ?_)
        generalize wc.drew = w79 at HO_9 HO_175000 HO_175001 HO_182000 HO_182001 HO_193000 HO_193001 BK156 BK174 BK181 BK192 HB hHeld ⊢
        refine take_ (i := 0) (N := some 52) (v := ?_) (a' := ?_) #[true, false, false, false, false] rfl rfl (by kernel_rfl) (fun _ _ _ h => h) (Or.inl ⟨by rfl, ?_⟩) hHeld ?_ ?_
        rotate_left
        ·rintro w' ⟨s0, s1, s2, s3⟩
         go_simp
         with_reducible rfl
        rotate_left
        ·simp only [Act.put, List.setIfInBounds_toArray, List.set_cons_zero, List.set_cons_succ, i64_w, i32_w]
         rfl
        refine take_ (i := 1) (N := some 53) (v := ?_) (a' := ?_) #[true, true, false, false, false] rfl rfl (by kernel_rfl) (fun _ _ _ h => h) (Or.inl ⟨by rfl, ?_⟩) hHeld ?_ ?_
        rotate_left
        ·rintro w' ⟨s0, s1, s2, s3⟩
         go_simp
         with_reducible rfl
        rotate_left
        ·simp only [Act.put, List.setIfInBounds_toArray, List.set_cons_zero, List.set_cons_succ, i64_w, i32_w]
         rfl
        refine one_ (i := 2) (N := some 54) #[true, true, true, false, false] rfl rfl (by kernel_rfl) (by decide) (fun K hK => ?_)
        refine goes_ Try.func21 (by kernel_rfl) rfl #[.agg #[.slice A0_0 l0_0.length c0_0, .slice A0_1 l0_1.length c0_1]] (by rfl) rfl rfl (by (try simp only [List.map_toArray, List.map_cons, List.map_nil]); first | done | rfl | (simp only [List.length_drop, List.length_take]; rfl)) ?_
        with_reducible refine (laws_toDisk.calls kj15 _ _ l0_0 _ _ l0_1 t194 t197 _ ?side1 ?side2 ?side3 ?side4 A70.out).mono ?_
        (case side1 => repeat (first | exact (Kd.C_below HR0_0.out HB.out) | (with_reducible refine Kd.C_alloc ?_ _) | (with_reducible refine Kd.C_drewN ?_ _) | (with_reducible refine Kd.C_drew ?_)))
        (case side2 => exact HC0_0.out)
        (case side3 => repeat (first | exact (Kd.C_below HR0_1.out HB.out) | (with_reducible refine Kd.C_alloc ?_ _) | (with_reducible refine Kd.C_drewN ?_ _) | (with_reducible refine Kd.C_drew ?_)))
        (case side4 => exact HC0_1.out)
        rintro e w80 ⟨v195, v198, rfl, ho0, ho1, hb⟩
        refine ⟨_, rfl, ?_⟩
        have n0_ := k0 (Kd.R_mono (Kd.R_told (Kd.R_told (Kd.R_old (kR HO_9.out) hb) (Kd.R_base ho0)) (Kd.R_base ho1)) (fun _ h_ => h_.1))
        have n1_ := k0 (Kd.R_mono (Kd.R_told (Kd.R_told (Kd.R_old (kR HO_175000.out) hb) (Kd.R_base ho0)) (Kd.R_base ho1)) (fun _ h_ => h_.1))
        have n2_ := k0 (Kd.R_mono (Kd.R_told (Kd.R_told (Kd.R_old (kR HO_175001.out) hb) (Kd.R_base ho0)) (Kd.R_base ho1)) (fun _ h_ => h_.1))
        have n3_ := k0 (Kd.R_mono (Kd.R_told (Kd.R_told (Kd.R_old (kR HO_182000.out) hb) (Kd.R_base ho0)) (Kd.R_base ho1)) (fun _ h_ => h_.1))
        have n4_ := k0 (Kd.R_mono (Kd.R_told (Kd.R_told (Kd.R_old (kR HO_182001.out) hb) (Kd.R_base ho0)) (Kd.R_base ho1)) (fun _ h_ => h_.1))
        have n5_ := k0 (Kd.R_mono (Kd.R_told (Kd.R_told (Kd.R_old (kR HO_193000.out) hb) (Kd.R_base ho0)) (Kd.R_base ho1)) (fun _ h_ => h_.1))
        have n6_ := k0 (Kd.R_mono (Kd.R_told (Kd.R_told (Kd.R_old (kR HO_193001.out) hb) (Kd.R_base ho0)) (Kd.R_base ho1)) (fun _ h_ => h_.1))
        have n7_ := k0 (Kd.R_lower (Kd.R_new' (Kd.R_new' (Kd.R_new' (Kd.R_new' (Kd.R_new' (Kd.R_new' (Kd.R_new' ho0 (Kd.R_lt (kR HO_9.out))) (Kd.R_lt (kR HO_175000.out))) (Kd.R_lt (kR HO_175001.out))) (Kd.R_lt (kR HO_182000.out))) (Kd.R_lt (kR HO_182001.out))) (Kd.R_lt (kR HO_193000.out))) (Kd.R_lt (kR HO_193001.out))) (below_size (kW HB.out)))
        have n8_ := k0 (Kd.R_lower (Kd.R_new' (Kd.R_new' (Kd.R_new' (Kd.R_new' (Kd.R_new' (Kd.R_new' (Kd.R_new' ho1 (Kd.R_lt (kR HO_9.out))) (Kd.R_lt (kR HO_175000.out))) (Kd.R_lt (kR HO_175001.out))) (Kd.R_lt (kR HO_182000.out))) (Kd.R_lt (kR HO_182001.out))) (Kd.R_lt (kR HO_193000.out))) (Kd.R_lt (kR HO_193001.out))) (below_size (kW HB.out)))
        have n9_ := k0 (kb BK156.out hb)
        have n10_ := k0 (kb BK174.out hb)
        have n11_ := k0 (kb BK181.out hb)
        have n12_ := k0 (kb BK192.out hb)
        have n13_ := k0 (below_step (kW HB.out) hb)
        clear HO_9
        clear HO_175000
        clear HO_175001
        clear HO_182000
        clear HO_182001
        clear HO_193000
        clear HO_193001
        clear BK156
        clear BK174
        clear BK181
        clear BK192
        clear HB
        have HO_9 := n0_
        have HO_175000 := n1_
        have HO_175001 := n2_
        have HO_182000 := n3_
        have HO_182001 := n4_
        have HO_193000 := n5_
        have HO_193001 := n6_
        have HO196 := n7_
        have HO199 := n8_
        have BK156 := n9_
        have BK174 := n10_
        have BK181 := n11_
        have BK192 := n12_
        have HB := n13_
        clear n0_ n1_ n2_ n3_ n4_ n5_ n6_ n7_ n8_ n9_ n10_ n11_ n12_ n13_
        (try clear hb)
        (try clear hb2)
        (try clear hk)
        (try clear hi)
        (try clear ho0)
        (try clear ho1)
        obtain ⟨Ao81, co81, eo81⟩ := Kd.R_slice HO196.out
        (first | subst eo81 | (injection eo81 with f1_ f2_ f3_; have f4_ := f1_.symm; have f5_ := f3_.symm; clear f1_ f2_ f3_; subst f4_; subst f5_))
        obtain ⟨Ao82, co82, eo82⟩ := Kd.R_slice HO199.out
        (first | subst eo82 | (injection eo82 with f1_ f2_ f3_; have f4_ := f1_.symm; have f5_ := f3_.symm; clear f1_ f2_ f3_; subst f4_; subst f5_))
        refine hK.out _ _ ⟨(blk_cell BK181.out 0).trans rfl, (blk_cell BK181.out 1).trans rfl, (blk_cell BK156.out 0).trans rfl, (blk_cell BK156.out 1).trans rfl⟩ (fun hHeld => ?_)
        clear hK K
        refine norm_ (a' := ?_) ?_ ?_
        rotate_left
        ·show Act.put _ (some 54) _ = _
         simp only [Act.put, List.setIfInBounds_toArray, List.set_cons_zero, List.set_cons_succ, i64_w, i32_w]
         rfl
        refine one_ (i := 3) (N := some 55) #[true, true, true, true, false] rfl rfl (by kernel_rfl) (by decide) (fun K hK => ?_)
        refine goes_ Try.func23 (by kernel_rfl) rfl #[.agg #[.slice Ao35 t175.length co35, .slice Ao39 t178.length co39], .agg #[.slice Ao81 t194.length co81, .slice Ao82 t197.length co82]] (by rfl) rfl rfl (by (try simp only [List.map_toArray, List.map_cons, List.map_nil]); first | done | rfl | (simp only [List.length_drop, List.length_take]; rfl)) ?_
        with_reducible refine (laws_eqDisk.calls kj15 _ _ t175 _ _ t178 _ _ t194 _ _ t197 true _ ?side1 ?side2 ?side3 ?side4 ?side5 ?side6 ?side7 ?side8 A71.out).mono ?_
        (case side1 => repeat (first | exact (Kd.R_reads' HO_182000.out).2.2 | (with_reducible refine Kd.C_alloc ?_ _) | (with_reducible refine Kd.C_drewN ?_ _) | (with_reducible refine Kd.C_drew ?_)))
        (case side2 => exact (Kd.R_reads' HO_182000.out).2.1)
        (case side3 => repeat (first | exact (Kd.R_reads' HO_182001.out).2.2 | (with_reducible refine Kd.C_alloc ?_ _) | (with_reducible refine Kd.C_drewN ?_ _) | (with_reducible refine Kd.C_drew ?_)))
        (case side4 => exact (Kd.R_reads' HO_182001.out).2.1)
        (case side5 => repeat (first | exact (Kd.R_reads' HO196.out).2.2 | (with_reducible refine Kd.C_alloc ?_ _) | (with_reducible refine Kd.C_drewN ?_ _) | (with_reducible refine Kd.C_drew ?_)))
        (case side6 => exact (Kd.R_reads' HO196.out).2.1)
        (case side7 => repeat (first | exact (Kd.R_reads' HO199.out).2.2 | (with_reducible refine Kd.C_alloc ?_ _) | (with_reducible refine Kd.C_drewN ?_ _) | (with_reducible refine Kd.C_drew ?_)))
        (case side8 => exact (Kd.R_reads' HO199.out).2.1)
        rintro e w83 ⟨rfl, hb⟩
        refine ⟨_, rfl, ?_⟩
        have n0_ := k0 (Kd.R_below (kR HO_9.out) hb)
        have n1_ := k0 (Kd.R_below (kR HO_175000.out) hb)
        have n2_ := k0 (Kd.R_below (kR HO_175001.out) hb)
        have n3_ := k0 (Kd.R_below (kR HO_182000.out) hb)
        have n4_ := k0 (Kd.R_below (kR HO_182001.out) hb)
        have n5_ := k0 (Kd.R_below (kR HO_193000.out) hb)
        have n6_ := k0 (Kd.R_below (kR HO_193001.out) hb)
        have n7_ := k0 (Kd.R_below (kR HO196.out) hb)
        have n8_ := k0 (Kd.R_below (kR HO199.out) hb)
        have n9_ := k0 (kb BK156.out hb)
        have n10_ := k0 (kb BK174.out hb)
        have n11_ := k0 (kb BK181.out hb)
        have n12_ := k0 (kb BK192.out hb)
        have n13_ := k0 (below_step (kW HB.out) hb)
        clear HO_9
        clear HO_175000
        clear HO_175001
        clear HO_182000
        clear HO_182001
        clear HO_193000
        clear HO_193001
        clear HO196
        clear HO199
        clear BK156
        clear BK174
        clear BK181
        clear BK192
        clear HB
        have HO_9 := n0_
        have HO_175000 := n1_
        have HO_175001 := n2_
        have HO_182000 := n3_
        have HO_182001 := n4_
        have HO_193000 := n5_
        have HO_193001 := n6_
        have HO196 := n7_
        have HO199 := n8_
        have BK156 := n9_
        have BK174 := n10_
        have BK181 := n11_
        have BK192 := n12_
        have HB := n13_
        clear n0_ n1_ n2_ n3_ n4_ n5_ n6_ n7_ n8_ n9_ n10_ n11_ n12_ n13_
        (try clear hb)
        (try clear hb2)
        (try clear hk)
        (try clear hi)
        refine hK.out _ _ ⟨(blk_cell BK181.out 0).trans rfl, (blk_cell BK181.out 1).trans rfl, (blk_cell BK156.out 0).trans rfl, (blk_cell BK156.out 1).trans rfl⟩ (fun hHeld => ?_)
        clear hK K
        refine norm_ (a' := ?_) ?_ ?_
        rotate_left
        ·show Act.put _ (some 55) _ = _
         simp only [Act.put, List.setIfInBounds_toArray, List.set_cons_zero, List.set_cons_succ, i64_w, i32_w]
         rfl
        refine pure_ (i := 4) (N := some 56) (v := ?_) (a' := ?_) #[true, true, true, true, true] rfl rfl (by kernel_rfl) (fun _ _ _ h => h) (Or.inl ⟨by rfl, ?_⟩) ?_ ?_
        rotate_left
        ·intro w'
         go_simp
         with_reducible rfl
        rotate_left
        ·simp only [Act.put, List.setIfInBounds_toArray, List.set_cons_zero, List.set_cons_succ, i64_w, i32_w]
         rfl
        refine done_ (by kernel_rfl) ?_
        go_upto_region 20 with (first | ((with_reducible refine gate_callee (f := 43) rfl ?_); refine goesL_ (some 59) rfl rfl Try.func43 (by kernel_rfl) rfl #[.slice A1 l1.length c1] rfl (by (try simp only [List.map_toArray, List.map_cons, List.map_nil]); first | done | rfl | (simp only [List.length_drop, List.length_take]; rfl)) ?_; (with_reducible refine (laws_toByteS.calls kj15 _ _ l1 t201 _ ?side1 ?side2 A73.out).mono ?_); (case side1 => repeat (first | exact (Kd.C_below HR1.out HB.out) | (with_reducible refine Kd.C_alloc ?_ _) | (with_reducible refine Kd.C_drewN ?_ _) | (with_reducible refine Kd.C_drew ?_))); (case side2 => exact HC1.out); rintro e w84 ⟨v202, rfl, ho0, hb⟩; refine ⟨_, rfl, ?_⟩; have n0_ := k0 (Kd.R_elder' (kR HO_9.out) (Kd.R_base ho0) hb); have n1_ := k0 (Kd.R_elder' (kR HO_175000.out) (Kd.R_base ho0) hb); have n2_ := k0 (Kd.R_elder' (kR HO_175001.out) (Kd.R_base ho0) hb); have n3_ := k0 (Kd.R_elder' (kR HO_182000.out) (Kd.R_base ho0) hb); have n4_ := k0 (Kd.R_elder' (kR HO_182001.out) (Kd.R_base ho0) hb); have n5_ := k0 (Kd.R_elder' (kR HO_193000.out) (Kd.R_base ho0) hb); have n6_ := k0 (Kd.R_elder' (kR HO_193001.out) (Kd.R_base ho0) hb); have n7_ := k0 (Kd.R_elder' (kR HO196.out) (Kd.R_base ho0) hb); have n8_ := k0 (Kd.R_elder' (kR HO199.out) (Kd.R_base ho0) hb); have n9_ := k0 (Kd.R_lower (Kd.R_new' (Kd.R_new' (Kd.R_new' (Kd.R_new' (Kd.R_new' (Kd.R_new' (Kd.R_new' (Kd.R_new' (Kd.R_new' ho0 (Kd.R_lt (kR HO_9.out))) (Kd.R_lt (kR HO_175000.out))) (Kd.R_lt (kR HO_175001.out))) (Kd.R_lt (kR HO_182000.out))) (Kd.R_lt (kR HO_182001.out))) (Kd.R_lt (kR HO_193000.out))) (Kd.R_lt (kR HO_193001.out))) (Kd.R_lt (kR HO196.out))) (Kd.R_lt (kR HO199.out))) (below_size (kW HB.out))); have n10_ := k0 (kb BK156.out hb); have n11_ := k0 (kb BK174.out hb); have n12_ := k0 (kb BK181.out hb); have n13_ := k0 (kb BK192.out hb); have n14_ := k0 (below_step (kW HB.out) hb); clear HO_9; clear HO_175000; clear HO_175001; clear HO_182000; clear HO_182001; clear HO_193000; clear HO_193001; clear HO196; clear HO199; clear BK156; clear BK174; clear BK181; clear BK192; clear HB; have HO_9 := n0_; have HO_175000 := n1_; have HO_175001 := n2_; have HO_182000 := n3_; have HO_182001 := n4_; have HO_193000 := n5_; have HO_193001 := n6_; have HO196 := n7_; have HO199 := n8_; have HO203 := n9_; have BK156 := n10_; have BK174 := n11_; have BK181 := n12_; have BK192 := n13_; have HB := n14_; clear n0_ n1_ n2_ n3_ n4_ n5_ n6_ n7_ n8_ n9_ n10_ n11_ n12_ n13_ n14_; (try clear hb); (try clear hb2); (try clear hk); (try clear hi); (try clear ho0); obtain ⟨Ao85, co85, eo85⟩ := Kd.R_slice HO203.out; subst eo85) | ((with_reducible refine gate_callee (f := 35) rfl ?_); refine goesL_ (some 60) rfl rfl Try.func35 (by kernel_rfl) rfl #[.slice Ao42 t182.length co42, .slice Ao85 t201.length co85] rfl (by (try simp only [List.map_toArray, List.map_cons, List.map_nil]); first | done | rfl | (simp only [List.length_drop, List.length_take]; rfl)) ?_; (with_reducible refine (laws_eqByteS.calls kj15 _ _ t182 _ _ t201 true _ ?side1 ?side2 ?side3 ?side4 A74.out).mono ?_); (case side1 => repeat (first | exact (Kd.R_reads' HO_9.out).2.2 | (with_reducible refine Kd.C_alloc ?_ _) | (with_reducible refine Kd.C_drewN ?_ _) | (with_reducible refine Kd.C_drew ?_))); (case side2 => exact (Kd.R_reads' HO_9.out).2.1); (case side3 => repeat (first | exact (Kd.R_reads' HO203.out).2.2 | (with_reducible refine Kd.C_alloc ?_ _) | (with_reducible refine Kd.C_drewN ?_ _) | (with_reducible refine Kd.C_drew ?_))); (case side4 => exact (Kd.R_reads' HO203.out).2.1); rintro e w' ⟨rfl, ⟨nd, rfl⟩⟩; refine ⟨_, rfl, ?_⟩; have hnb86 := NB181_156.out; have hnc86 := NB156_181.out; have hnb87 := NB181_174.out; have hnc87 := NB174_181.out; have hnb88 := NB181_192.out; have hnc88 := NB192_181.out; have hcz89_0 : w84.cell? ⟨gb181, 0, none⟩ = some (.slice Ao35 t175.length co35) := (blk_cell BK181.out 0).trans rfl; have hcz89_1 : w84.cell? ⟨gb181, 1, none⟩ = some (.slice Ao39 t178.length co39) := (blk_cell BK181.out 1).trans rfl; have hfz89_0 := blk_frozen BK181.out 0; have hfz89_1 := blk_frozen BK181.out 1) | ((with_reducible refine gate_callee (f := 36) rfl ?_); refine goesL_ (some 64) rfl rfl Try.func36 (by kernel_rfl) rfl #[.agg #[.slice Ao35 t175.length co35, .slice Ao39 t178.length co39], .int .i64 1] rfl (by (try simp only [List.map_toArray, List.map_cons, List.map_nil]); first | done | rfl | (simp only [List.length_drop, List.length_take]; rfl)) ?_; (with_reducible refine (laws_markDisk.calls kj15 (fun k_ => some k_ = (.slice Ao35 t175.length co35 : Value).ownBlock) (.slice Ao35 t175.length co35) t175 (fun k_ => some k_ = (.slice Ao39 t178.length co39 : Value).ownBlock) (.slice Ao39 t178.length co39) t178 1 t205 t206 t207 w _ ?side1 ?side2 ?side3 ?side4 ?side5 A76.out).mono ?_); (case side1 => repeat (first | (with_reducible first | exact HB.out | apply below_alloc | apply pw_below_drewN | apply below_drew1 | refine below_set ?_ GE156.out | refine below_set ?_ GE174.out | refine below_set ?_ GE181.out | refine below_set ?_ GE192.out) | exact HB.out)); (case side2 => exact Kd.R_tight rfl HO_182000.out); (case side3 => exact fun k_ e_ => (HO_182000.out.1 k_ e_.symm).1.1.1.2.2.2.1); (case side4 => exact Kd.R_tight rfl HO_182001.out); (case side5 => exact fun k_ e_ => (HO_182001.out.1 k_ e_.symm).1.1.1.2.2.2.1); rintro e w90 ⟨rfl, hy0, hy1, hb, hkp⟩; refine ⟨_, rfl, ?_⟩; have n0_ := k0 (Kd.R_mono (ok' := fun k_ => some k_ ≠ (.slice Ao28 t167.length co28 : Value).ownBlock ∧ some k_ ≠ (.slice Ao31 t170.length co31 : Value).ownBlock ∧ some k_ ≠ (.slice Ao35 t175.length co35 : Value).ownBlock ∧ some k_ ≠ (.slice Ao39 t178.length co39 : Value).ownBlock ∧ some k_ ≠ (.slice Ao45 t185.length co45 : Value).ownBlock ∧ some k_ ≠ (.slice Ao50 t188.length co50 : Value).ownBlock ∧ some k_ ≠ (.slice Ao81 t194.length co81 : Value).ownBlock ∧ some k_ ≠ (.slice Ao82 t197.length co82 : Value).ownBlock ∧ some k_ ≠ (.slice Ao85 t201.length co85 : Value).ownBlock) (Kd.R_keptB (HO_9.out) hkp (fun k_ hk_ hs_ => Or.elim hs_ (fun e_ => (hk_.1.1.1.2.2.1) e_) (fun e_ => (hk_.1.1.1.2.2.2.1) e_))) (fun k_ hk_ => ⟨hk_.1.1.1.1.1, hk_.1.1.1.1.2.1, hk_.1.1.1.1.2.2.1, hk_.1.1.1.1.2.2.2.1, hk_.1.1.1.1.2.2.2.2.1, hk_.1.1.1.1.2.2.2.2.2, hk_.1.1.1.2, hk_.1.1.2, hk_.1.2⟩)); have n1_ := k0 (Kd.R_mono (ok' := fun k_ => some k_ ≠ (.slice Ao42 t182.length co42 : Value).ownBlock ∧ some k_ ≠ (.slice Ao31 t170.length co31 : Value).ownBlock ∧ some k_ ≠ (.slice Ao35 t175.length co35 : Value).ownBlock ∧ some k_ ≠ (.slice Ao39 t178.length co39 : Value).ownBlock ∧ some k_ ≠ (.slice Ao45 t185.length co45 : Value).ownBlock ∧ some k_ ≠ (.slice Ao50 t188.length co50 : Value).ownBlock ∧ some k_ ≠ (.slice Ao81 t194.length co81 : Value).ownBlock ∧ some k_ ≠ (.slice Ao82 t197.length co82 : Value).ownBlock ∧ some k_ ≠ (.slice Ao85 t201.length co85 : Value).ownBlock) (Kd.R_keptB (HO_175000.out) hkp (fun k_ hk_ hs_ => Or.elim hs_ (fun e_ => (hk_.1.1.1.2.2.1) e_) (fun e_ => (hk_.1.1.1.2.2.2.1) e_))) (fun k_ hk_ => ⟨hk_.1.1.1.1.1, hk_.1.1.1.1.2.1, hk_.1.1.1.1.2.2.1, hk_.1.1.1.1.2.2.2.1, hk_.1.1.1.1.2.2.2.2.1, hk_.1.1.1.1.2.2.2.2.2, hk_.1.1.1.2, hk_.1.1.2, hk_.1.2⟩)); have n2_ := k0 (Kd.R_mono (ok' := fun k_ => some k_ ≠ (.slice Ao42 t182.length co42 : Value).ownBlock ∧ some k_ ≠ (.slice Ao28 t167.length co28 : Value).ownBlock ∧ some k_ ≠ (.slice Ao35 t175.length co35 : Value).ownBlock ∧ some k_ ≠ (.slice Ao39 t178.length co39 : Value).ownBlock ∧ some k_ ≠ (.slice Ao45 t185.length co45 : Value).ownBlock ∧ some k_ ≠ (.slice Ao50 t188.length co50 : Value).ownBlock ∧ some k_ ≠ (.slice Ao81 t194.length co81 : Value).ownBlock ∧ some k_ ≠ (.slice Ao82 t197.length co82 : Value).ownBlock ∧ some k_ ≠ (.slice Ao85 t201.length co85 : Value).ownBlock) (Kd.R_keptB (HO_175001.out) hkp (fun k_ hk_ hs_ => Or.elim hs_ (fun e_ => (hk_.1.1.1.2.2.1) e_) (fun e_ => (hk_.1.1.1.2.2.2.1) e_))) (fun k_ hk_ => ⟨hk_.1.1.1.1.1, hk_.1.1.1.1.2.1, hk_.1.1.1.1.2.2.1, hk_.1.1.1.1.2.2.2.1, hk_.1.1.1.1.2.2.2.2.1, hk_.1.1.1.1.2.2.2.2.2, hk_.1.1.1.2, hk_.1.1.2, hk_.1.2⟩)); have n3_ := k0 (Kd.R_reok rfl hy0 (fun k_ e_ => HO_182000.out.1 k_ e_)); have n4_ := k0 (Kd.R_reok rfl hy1 (fun k_ e_ => HO_182001.out.1 k_ e_)); have n5_ := k0 (Kd.R_mono (ok' := fun k_ => some k_ ≠ (.slice Ao42 t182.length co42 : Value).ownBlock ∧ some k_ ≠ (.slice Ao28 t167.length co28 : Value).ownBlock ∧ some k_ ≠ (.slice Ao31 t170.length co31 : Value).ownBlock ∧ some k_ ≠ (.slice Ao35 t175.length co35 : Value).ownBlock ∧ some k_ ≠ (.slice Ao39 t178.length co39 : Value).ownBlock ∧ some k_ ≠ (.slice Ao50 t188.length co50 : Value).ownBlock ∧ some k_ ≠ (.slice Ao81 t194.length co81 : Value).ownBlock ∧ some k_ ≠ (.slice Ao82 t197.length co82 : Value).ownBlock ∧ some k_ ≠ (.slice Ao85 t201.length co85 : Value).ownBlock) (Kd.R_keptB (HO_193000.out) hkp (fun k_ hk_ hs_ => Or.elim hs_ (fun e_ => (hk_.1.1.1.2.2.2.1) e_) (fun e_ => (hk_.1.1.1.2.2.2.2.1) e_))) (fun k_ hk_ => ⟨hk_.1.1.1.1.1, hk_.1.1.1.1.2.1, hk_.1.1.1.1.2.2.1, hk_.1.1.1.1.2.2.2.1, hk_.1.1.1.1.2.2.2.2.1, hk_.1.1.1.1.2.2.2.2.2, hk_.1.1.1.2, hk_.1.1.2, hk_.1.2⟩)); have n6_ := k0 (Kd.R_mono (ok' := fun k_ => some k_ ≠ (.slice Ao42 t182.length co42 : Value).ownBlock ∧ some k_ ≠ (.slice Ao28 t167.length co28 : Value).ownBlock ∧ some k_ ≠ (.slice Ao31 t170.length co31 : Value).ownBlock ∧ some k_ ≠ (.slice Ao35 t175.length co35 : Value).ownBlock ∧ some k_ ≠ (.slice Ao39 t178.length co39 : Value).ownBlock ∧ some k_ ≠ (.slice Ao45 t185.length co45 : Value).ownBlock ∧ some k_ ≠ (.slice Ao81 t194.length co81 : Value).ownBlock ∧ some k_ ≠ (.slice Ao82 t197.length co82 : Value).ownBlock ∧ some k_ ≠ (.slice Ao85 t201.length co85 : Value).ownBlock) (Kd.R_keptB (HO_193001.out) hkp (fun k_ hk_ hs_ => Or.elim hs_ (fun e_ => (hk_.1.1.1.2.2.2.1) e_) (fun e_ => (hk_.1.1.1.2.2.2.2.1) e_))) (fun k_ hk_ => ⟨hk_.1.1.1.1.1, hk_.1.1.1.1.2.1, hk_.1.1.1.1.2.2.1, hk_.1.1.1.1.2.2.2.1, hk_.1.1.1.1.2.2.2.2.1, hk_.1.1.1.1.2.2.2.2.2, hk_.1.1.1.2, hk_.1.1.2, hk_.1.2⟩)); have n7_ := k0 (kK BK156.out hkp (fun hs_ => Or.elim hs_ (fun e_ => (fun e_ => (Kd.R_ne HO_182000.out BK156.out (by decide)) e_) e_) (fun e_ => (fun e_ => (Kd.R_ne HO_182001.out BK156.out (by decide)) e_) e_))); have n8_ := k0 (kK BK174.out hkp (fun hs_ => Or.elim hs_ (fun e_ => (fun e_ => (Kd.R_ne HO_182000.out BK174.out (by decide)) e_) e_) (fun e_ => (fun e_ => (Kd.R_ne HO_182001.out BK174.out (by decide)) e_) e_))); have n9_ := k0 (kK BK181.out hkp (fun hs_ => Or.elim hs_ (fun e_ => (fun e_ => (Kd.R_ne HO_182000.out BK181.out (by decide)) e_) e_) (fun e_ => (fun e_ => (Kd.R_ne HO_182001.out BK181.out (by decide)) e_) e_))); have n10_ := k0 (kK BK192.out hkp (fun hs_ => Or.elim hs_ (fun e_ => (fun e_ => (Kd.R_ne HO_182000.out BK192.out (by decide)) e_) e_) (fun e_ => (fun e_ => (Kd.R_ne HO_182001.out BK192.out (by decide)) e_) e_))); have n11_ := k0 (Kd.R_mono (ok' := fun k_ => some k_ ≠ (.slice Ao42 t182.length co42 : Value).ownBlock ∧ some k_ ≠ (.slice Ao28 t167.length co28 : Value).ownBlock ∧ some k_ ≠ (.slice Ao31 t170.length co31 : Value).ownBlock ∧ some k_ ≠ (.slice Ao35 t175.length co35 : Value).ownBlock ∧ some k_ ≠ (.slice Ao39 t178.length co39 : Value).ownBlock ∧ some k_ ≠ (.slice Ao45 t185.length co45 : Value).ownBlock ∧ some k_ ≠ (.slice Ao50 t188.length co50 : Value).ownBlock ∧ some k_ ≠ (.slice Ao82 t197.length co82 : Value).ownBlock ∧ some k_ ≠ (.slice Ao85 t201.length co85 : Value).ownBlock) (Kd.R_keptB (HO196.out) hkp (fun k_ hk_ hs_ => Or.elim hs_ (fun e_ => (hk_.1.1.1.1.2) e_) (fun e_ => (hk_.1.1.1.2) e_))) (fun k_ hk_ => ⟨hk_.1.1.1.1.1.1.1.1.2, hk_.1.1.1.1.1.1.1.2, hk_.1.1.1.1.1.1.2, hk_.1.1.1.1.1.2, hk_.1.1.1.1.2, hk_.1.1.1.2, hk_.1.1.2, hk_.1.1.1.1.1.1.1.1.1, hk_.1.2⟩)); have n12_ := k0 (Kd.R_mono (ok' := fun k_ => some k_ ≠ (.slice Ao42 t182.length co42 : Value).ownBlock ∧ some k_ ≠ (.slice Ao28 t167.length co28 : Value).ownBlock ∧ some k_ ≠ (.slice Ao31 t170.length co31 : Value).ownBlock ∧ some k_ ≠ (.slice Ao35 t175.length co35 : Value).ownBlock ∧ some k_ ≠ (.slice Ao39 t178.length co39 : Value).ownBlock ∧ some k_ ≠ (.slice Ao45 t185.length co45 : Value).ownBlock ∧ some k_ ≠ (.slice Ao50 t188.length co50 : Value).ownBlock ∧ some k_ ≠ (.slice Ao81 t194.length co81 : Value).ownBlock ∧ some k_ ≠ (.slice Ao85 t201.length co85 : Value).ownBlock) (Kd.R_keptB (HO199.out) hkp (fun k_ hk_ hs_ => Or.elim hs_ (fun e_ => (hk_.1.1.1.1.2) e_) (fun e_ => (hk_.1.1.1.2) e_))) (fun k_ hk_ => ⟨hk_.1.1.1.1.1.1.1.1.2, hk_.1.1.1.1.1.1.1.2, hk_.1.1.1.1.1.1.2, hk_.1.1.1.1.1.2, hk_.1.1.1.1.2, hk_.1.1.1.2, hk_.1.1.2, hk_.1.1.1.1.1.1.1.1.1, hk_.1.2⟩)); have n13_ := k0 (Kd.R_mono (ok' := fun k_ => some k_ ≠ (.slice Ao42 t182.length co42 : Value).ownBlock ∧ some k_ ≠ (.slice Ao28 t167.length co28 : Value).ownBlock ∧ some k_ ≠ (.slice Ao31 t170.length co31 : Value).ownBlock ∧ some k_ ≠ (.slice Ao35 t175.length co35 : Value).ownBlock ∧ some k_ ≠ (.slice Ao39 t178.length co39 : Value).ownBlock ∧ some k_ ≠ (.slice Ao45 t185.length co45 : Value).ownBlock ∧ some k_ ≠ (.slice Ao50 t188.length co50 : Value).ownBlock ∧ some k_ ≠ (.slice Ao81 t194.length co81 : Value).ownBlock ∧ some k_ ≠ (.slice Ao82 t197.length co82 : Value).ownBlock) (Kd.R_keptB (HO203.out) hkp (fun k_ hk_ hs_ => Or.elim hs_ (fun e_ => (hk_.1.1.1.1.1.2) e_) (fun e_ => (hk_.1.1.1.1.2) e_))) (fun k_ hk_ => ⟨hk_.1.1.1.1.1.1.1.1.1.2, hk_.1.1.1.1.1.1.1.1.2, hk_.1.1.1.1.1.1.1.2, hk_.1.1.1.1.1.1.2, hk_.1.1.1.1.1.2, hk_.1.1.1.1.2, hk_.1.1.1.2, hk_.1.1.2, hk_.1.2⟩)); have n14_ := k0 (hb); clear HO_9; clear HO_175000; clear HO_175001; clear HO_182000; clear HO_182001; clear HO_193000; clear HO_193001; clear BK156; clear BK174; clear BK181; clear BK192; clear HO196; clear HO199; clear HO203; clear HB; have HO_9 := n0_; have HO_175000 := n1_; have HO_175001 := n2_; have HO_182000 := n3_; have HO_182001 := n4_; have HO_193000 := n5_; have HO_193001 := n6_; have BK156 := n7_; have BK174 := n8_; have BK181 := n9_; have BK192 := n10_; have HO196 := n11_; have HO199 := n12_; have HO203 := n13_; have HB := n14_; clear n0_ n1_ n2_ n3_ n4_ n5_ n6_ n7_ n8_ n9_ n10_ n11_ n12_ n13_ n14_; (try clear hb); (try clear hkp); (try clear hy0); (try clear hy1)) | ((with_reducible refine gate_callee (f := 37) rfl ?_); refine goesL_ (some 67) rfl rfl Try.func37 (by kernel_rfl) rfl #[.slice Ao42 t182.length co42, .int .i64 t205] rfl (by (try simp only [List.map_toArray, List.map_cons, List.map_nil]); first | done | rfl | (simp only [List.length_drop, List.length_take]; rfl)) ?_; (with_reducible refine (laws_markByteS.calls kj15 (fun k_ => some k_ = (.slice Ao42 t182.length co42 : Value).ownBlock) (.slice Ao42 t182.length co42) t182 t205 t208 t209 w _ ?side1 ?side2 A77.out).mono ?_); (case side1 => repeat (first | (with_reducible first | exact HB.out | apply below_alloc | apply pw_below_drewN | apply below_drew1 | refine below_set ?_ GE156.out | refine below_set ?_ GE174.out | refine below_set ?_ GE181.out | refine below_set ?_ GE192.out) | exact HB.out)); (case side2 => exact Kd.R_tight rfl HO_9.out); rintro e w91 ⟨rfl, hy0, hb, hkp⟩; refine ⟨_, rfl, ?_⟩; have n0_ := k0 (Kd.R_reok rfl hy0 (fun k_ e_ => HO_9.out.1 k_ e_)); have n1_ := k0 (Kd.R_mono (ok' := fun k_ => some k_ ≠ (.slice Ao42 t182.length co42 : Value).ownBlock ∧ some k_ ≠ (.slice Ao31 t170.length co31 : Value).ownBlock ∧ some k_ ≠ (.slice Ao35 t175.length co35 : Value).ownBlock ∧ some k_ ≠ (.slice Ao39 t178.length co39 : Value).ownBlock ∧ some k_ ≠ (.slice Ao45 t185.length co45 : Value).ownBlock ∧ some k_ ≠ (.slice Ao50 t188.length co50 : Value).ownBlock ∧ some k_ ≠ (.slice Ao81 t194.length co81 : Value).ownBlock ∧ some k_ ≠ (.slice Ao82 t197.length co82 : Value).ownBlock ∧ some k_ ≠ (.slice Ao85 t201.length co85 : Value).ownBlock) (Kd.R_keptB (HO_175000.out) hkp (fun k_ hk_ hs_ => (hk_.1) hs_)) (fun k_ hk_ => ⟨hk_.1.1, hk_.1.2.1, hk_.1.2.2.1, hk_.1.2.2.2.1, hk_.1.2.2.2.2.1, hk_.1.2.2.2.2.2.1, hk_.1.2.2.2.2.2.2.1, hk_.1.2.2.2.2.2.2.2.1, hk_.1.2.2.2.2.2.2.2.2⟩)); have n2_ := k0 (Kd.R_mono (ok' := fun k_ => some k_ ≠ (.slice Ao42 t182.length co42 : Value).ownBlock ∧ some k_ ≠ (.slice Ao28 t167.length co28 : Value).ownBlock ∧ some k_ ≠ (.slice Ao35 t175.length co35 : Value).ownBlock ∧ some k_ ≠ (.slice Ao39 t178.length co39 : Value).ownBlock ∧ some k_ ≠ (.slice Ao45 t185.length co45 : Value).ownBlock ∧ some k_ ≠ (.slice Ao50 t188.length co50 : Value).ownBlock ∧ some k_ ≠ (.slice Ao81 t194.length co81 : Value).ownBlock ∧ some k_ ≠ (.slice Ao82 t197.length co82 : Value).ownBlock ∧ some k_ ≠ (.slice Ao85 t201.length co85 : Value).ownBlock) (Kd.R_keptB (HO_175001.out) hkp (fun k_ hk_ hs_ => (hk_.1) hs_)) (fun k_ hk_ => ⟨hk_.1.1, hk_.1.2.1, hk_.1.2.2.1, hk_.1.2.2.2.1, hk_.1.2.2.2.2.1, hk_.1.2.2.2.2.2.1, hk_.1.2.2.2.2.2.2.1, hk_.1.2.2.2.2.2.2.2.1, hk_.1.2.2.2.2.2.2.2.2⟩)); have n3_ := k0 (Kd.R_mono (ok' := fun k_ => some k_ ≠ (.slice Ao42 t182.length co42 : Value).ownBlock ∧ some k_ ≠ (.slice Ao28 t167.length co28 : Value).ownBlock ∧ some k_ ≠ (.slice Ao31 t170.length co31 : Value).ownBlock ∧ some k_ ≠ (.slice Ao39 t178.length co39 : Value).ownBlock ∧ some k_ ≠ (.slice Ao45 t185.length co45 : Value).ownBlock ∧ some k_ ≠ (.slice Ao50 t188.length co50 : Value).ownBlock ∧ some k_ ≠ (.slice Ao81 t194.length co81 : Value).ownBlock ∧ some k_ ≠ (.slice Ao82 t197.length co82 : Value).ownBlock ∧ some k_ ≠ (.slice Ao85 t201.length co85 : Value).ownBlock) (Kd.R_keptB (HO_182000.out) hkp (fun k_ hk_ hs_ => (hk_.1.1.1.1) hs_)) (fun k_ hk_ => ⟨hk_.1.1.1.1.1, hk_.1.1.1.1.2.1, hk_.1.1.1.1.2.2.1, hk_.1.1.1.1.2.2.2.1, hk_.1.1.1.1.2.2.2.2.1, hk_.1.1.1.1.2.2.2.2.2, hk_.1.1.1.2, hk_.1.1.2, hk_.1.2⟩)); have n4_ := k0 (Kd.R_mono (ok' := fun k_ => some k_ ≠ (.slice Ao42 t182.length co42 : Value).ownBlock ∧ some k_ ≠ (.slice Ao28 t167.length co28 : Value).ownBlock ∧ some k_ ≠ (.slice Ao31 t170.length co31 : Value).ownBlock ∧ some k_ ≠ (.slice Ao35 t175.length co35 : Value).ownBlock ∧ some k_ ≠ (.slice Ao45 t185.length co45 : Value).ownBlock ∧ some k_ ≠ (.slice Ao50 t188.length co50 : Value).ownBlock ∧ some k_ ≠ (.slice Ao81 t194.length co81 : Value).ownBlock ∧ some k_ ≠ (.slice Ao82 t197.length co82 : Value).ownBlock ∧ some k_ ≠ (.slice Ao85 t201.length co85 : Value).ownBlock) (Kd.R_keptB (HO_182001.out) hkp (fun k_ hk_ hs_ => (hk_.1.1.1.1) hs_)) (fun k_ hk_ => ⟨hk_.1.1.1.1.1, hk_.1.1.1.1.2.1, hk_.1.1.1.1.2.2.1, hk_.1.1.1.1.2.2.2.1, hk_.1.1.1.1.2.2.2.2.1, hk_.1.1.1.1.2.2.2.2.2, hk_.1.1.1.2, hk_.1.1.2, hk_.1.2⟩)); have n5_ := k0 (Kd.R_mono (ok' := fun k_ => some k_ ≠ (.slice Ao42 t182.length co42 : Value).ownBlock ∧ some k_ ≠ (.slice Ao28 t167.length co28 : Value).ownBlock ∧ some k_ ≠ (.slice Ao31 t170.length co31 : Value).ownBlock ∧ some k_ ≠ (.slice Ao35 t175.length co35 : Value).ownBlock ∧ some k_ ≠ (.slice Ao39 t178.length co39 : Value).ownBlock ∧ some k_ ≠ (.slice Ao50 t188.length co50 : Value).ownBlock ∧ some k_ ≠ (.slice Ao81 t194.length co81 : Value).ownBlock ∧ some k_ ≠ (.slice Ao82 t197.length co82 : Value).ownBlock ∧ some k_ ≠ (.slice Ao85 t201.length co85 : Value).ownBlock) (Kd.R_keptB (HO_193000.out) hkp (fun k_ hk_ hs_ => (hk_.1) hs_)) (fun k_ hk_ => ⟨hk_.1.1, hk_.1.2.1, hk_.1.2.2.1, hk_.1.2.2.2.1, hk_.1.2.2.2.2.1, hk_.1.2.2.2.2.2.1, hk_.1.2.2.2.2.2.2.1, hk_.1.2.2.2.2.2.2.2.1, hk_.1.2.2.2.2.2.2.2.2⟩)); have n6_ := k0 (Kd.R_mono (ok' := fun k_ => some k_ ≠ (.slice Ao42 t182.length co42 : Value).ownBlock ∧ some k_ ≠ (.slice Ao28 t167.length co28 : Value).ownBlock ∧ some k_ ≠ (.slice Ao31 t170.length co31 : Value).ownBlock ∧ some k_ ≠ (.slice Ao35 t175.length co35 : Value).ownBlock ∧ some k_ ≠ (.slice Ao39 t178.length co39 : Value).ownBlock ∧ some k_ ≠ (.slice Ao45 t185.length co45 : Value).ownBlock ∧ some k_ ≠ (.slice Ao81 t194.length co81 : Value).ownBlock ∧ some k_ ≠ (.slice Ao82 t197.length co82 : Value).ownBlock ∧ some k_ ≠ (.slice Ao85 t201.length co85 : Value).ownBlock) (Kd.R_keptB (HO_193001.out) hkp (fun k_ hk_ hs_ => (hk_.1) hs_)) (fun k_ hk_ => ⟨hk_.1.1, hk_.1.2.1, hk_.1.2.2.1, hk_.1.2.2.2.1, hk_.1.2.2.2.2.1, hk_.1.2.2.2.2.2.1, hk_.1.2.2.2.2.2.2.1, hk_.1.2.2.2.2.2.2.2.1, hk_.1.2.2.2.2.2.2.2.2⟩)); have n7_ := k0 (kK BK156.out hkp (fun hs_ => (fun e_ => (Kd.R_ne HO_9.out BK156.out (by decide)) e_) hs_)); have n8_ := k0 (kK BK174.out hkp (fun hs_ => (fun e_ => (Kd.R_ne HO_9.out BK174.out (by decide)) e_) hs_)); have n9_ := k0 (kK BK181.out hkp (fun hs_ => (fun e_ => (Kd.R_ne HO_9.out BK181.out (by decide)) e_) hs_)); have n10_ := k0 (kK BK192.out hkp (fun hs_ => (fun e_ => (Kd.R_ne HO_9.out BK192.out (by decide)) e_) hs_)); have n11_ := k0 (Kd.R_mono (ok' := fun k_ => some k_ ≠ (.slice Ao42 t182.length co42 : Value).ownBlock ∧ some k_ ≠ (.slice Ao28 t167.length co28 : Value).ownBlock ∧ some k_ ≠ (.slice Ao31 t170.length co31 : Value).ownBlock ∧ some k_ ≠ (.slice Ao35 t175.length co35 : Value).ownBlock ∧ some k_ ≠ (.slice Ao39 t178.length co39 : Value).ownBlock ∧ some k_ ≠ (.slice Ao45 t185.length co45 : Value).ownBlock ∧ some k_ ≠ (.slice Ao50 t188.length co50 : Value).ownBlock ∧ some k_ ≠ (.slice Ao82 t197.length co82 : Value).ownBlock ∧ some k_ ≠ (.slice Ao85 t201.length co85 : Value).ownBlock) (Kd.R_keptB (HO196.out) hkp (fun k_ hk_ hs_ => (hk_.1) hs_)) (fun k_ hk_ => ⟨hk_.1.1, hk_.1.2.1, hk_.1.2.2.1, hk_.1.2.2.2.1, hk_.1.2.2.2.2.1, hk_.1.2.2.2.2.2.1, hk_.1.2.2.2.2.2.2.1, hk_.1.2.2.2.2.2.2.2.1, hk_.1.2.2.2.2.2.2.2.2⟩)); have n12_ := k0 (Kd.R_mono (ok' := fun k_ => some k_ ≠ (.slice Ao42 t182.length co42 : Value).ownBlock ∧ some k_ ≠ (.slice Ao28 t167.length co28 : Value).ownBlock ∧ some k_ ≠ (.slice Ao31 t170.length co31 : Value).ownBlock ∧ some k_ ≠ (.slice Ao35 t175.length co35 : Value).ownBlock ∧ some k_ ≠ (.slice Ao39 t178.length co39 : Value).ownBlock ∧ some k_ ≠ (.slice Ao45 t185.length co45 : Value).ownBlock ∧ some k_ ≠ (.slice Ao50 t188.length co50 : Value).ownBlock ∧ some k_ ≠ (.slice Ao81 t194.length co81 : Value).ownBlock ∧ some k_ ≠ (.slice Ao85 t201.length co85 : Value).ownBlock) (Kd.R_keptB (HO199.out) hkp (fun k_ hk_ hs_ => (hk_.1) hs_)) (fun k_ hk_ => ⟨hk_.1.1, hk_.1.2.1, hk_.1.2.2.1, hk_.1.2.2.2.1, hk_.1.2.2.2.2.1, hk_.1.2.2.2.2.2.1, hk_.1.2.2.2.2.2.2.1, hk_.1.2.2.2.2.2.2.2.1, hk_.1.2.2.2.2.2.2.2.2⟩)); have n13_ := k0 (Kd.R_mono (ok' := fun k_ => some k_ ≠ (.slice Ao42 t182.length co42 : Value).ownBlock ∧ some k_ ≠ (.slice Ao28 t167.length co28 : Value).ownBlock ∧ some k_ ≠ (.slice Ao31 t170.length co31 : Value).ownBlock ∧ some k_ ≠ (.slice Ao35 t175.length co35 : Value).ownBlock ∧ some k_ ≠ (.slice Ao39 t178.length co39 : Value).ownBlock ∧ some k_ ≠ (.slice Ao45 t185.length co45 : Value).ownBlock ∧ some k_ ≠ (.slice Ao50 t188.length co50 : Value).ownBlock ∧ some k_ ≠ (.slice Ao81 t194.length co81 : Value).ownBlock ∧ some k_ ≠ (.slice Ao82 t197.length co82 : Value).ownBlock) (Kd.R_keptB (HO203.out) hkp (fun k_ hk_ hs_ => (hk_.1) hs_)) (fun k_ hk_ => ⟨hk_.1.1, hk_.1.2.1, hk_.1.2.2.1, hk_.1.2.2.2.1, hk_.1.2.2.2.2.1, hk_.1.2.2.2.2.2.1, hk_.1.2.2.2.2.2.2.1, hk_.1.2.2.2.2.2.2.2.1, hk_.1.2.2.2.2.2.2.2.2⟩)); have n14_ := k0 (hb); clear HO_9; clear HO_175000; clear HO_175001; clear HO_182000; clear HO_182001; clear HO_193000; clear HO_193001; clear BK156; clear BK174; clear BK181; clear BK192; clear HO196; clear HO199; clear HO203; clear HB; have HO_9 := n0_; have HO_175000 := n1_; have HO_175001 := n2_; have HO_182000 := n3_; have HO_182001 := n4_; have HO_193000 := n5_; have HO_193001 := n6_; have BK156 := n7_; have BK174 := n8_; have BK181 := n9_; have BK192 := n10_; have HO196 := n11_; have HO199 := n12_; have HO203 := n13_; have HB := n14_; clear n0_ n1_ n2_ n3_ n4_ n5_ n6_ n7_ n8_ n9_ n10_ n11_ n12_ n13_ n14_; (try clear hb); (try clear hkp); (try clear hy0)))
        (try simp only [Act.put, List.setIfInBounds_toArray, List.set_cons_zero, List.set_cons_succ])
        go_cut [80] (fun v80 wc => ∃ (kq : Nat) (x80_77 : Bool), v80 = .bool x80_77 ∧ Aside0 (laws_FnExactDiskReset.j1 kq l1 t173 x80_77 l0_0 l0_1 t167 t170 t185 t188 = some r) ∧ Aside0 (kq ≤ kj15) ∧ Aside0 (Kd.R (Kd.int .u8) 5 wc w.heap.size (fun k_ => some k_ ≠ ((.slice Ao31 t170.length co31) : Value).ownBlock ∧ some k_ ≠ ((.slice Ao35 t175.length co35) : Value).ownBlock ∧ some k_ ≠ ((.slice Ao39 t178.length co39) : Value).ownBlock ∧ some k_ ≠ ((.slice Ao45 t185.length co45) : Value).ownBlock ∧ some k_ ≠ ((.slice Ao50 t188.length co50) : Value).ownBlock) (.slice Ao28 t167.length co28) t167) ∧ Aside0 (Kd.R (Kd.int .u8) 5 wc w.heap.size (fun k_ => some k_ ≠ ((.slice Ao28 t167.length co28) : Value).ownBlock ∧ some k_ ≠ ((.slice Ao35 t175.length co35) : Value).ownBlock ∧ some k_ ≠ ((.slice Ao39 t178.length co39) : Value).ownBlock ∧ some k_ ≠ ((.slice Ao45 t185.length co45) : Value).ownBlock ∧ some k_ ≠ ((.slice Ao50 t188.length co50) : Value).ownBlock) (.slice Ao31 t170.length co31) t170) ∧ Aside0 (Kd.R (Kd.int .u8) 5 wc w.heap.size (fun k_ => some k_ ≠ ((.slice Ao28 t167.length co28) : Value).ownBlock ∧ some k_ ≠ ((.slice Ao31 t170.length co31) : Value).ownBlock ∧ some k_ ≠ ((.slice Ao39 t178.length co39) : Value).ownBlock ∧ some k_ ≠ ((.slice Ao45 t185.length co45) : Value).ownBlock ∧ some k_ ≠ ((.slice Ao50 t188.length co50) : Value).ownBlock) (.slice Ao35 t175.length co35) t206) ∧ Aside0 (Kd.R (Kd.int .u8) 5 wc w.heap.size (fun k_ => some k_ ≠ ((.slice Ao28 t167.length co28) : Value).ownBlock ∧ some k_ ≠ ((.slice Ao31 t170.length co31) : Value).ownBlock ∧ some k_ ≠ ((.slice Ao35 t175.length co35) : Value).ownBlock ∧ some k_ ≠ ((.slice Ao45 t185.length co45) : Value).ownBlock ∧ some k_ ≠ ((.slice Ao50 t188.length co50) : Value).ownBlock) (.slice Ao39 t178.length co39) t207) ∧ Aside0 (Kd.R (Kd.int .u8) 5 wc w.heap.size (fun k_ => some k_ ≠ ((.slice Ao28 t167.length co28) : Value).ownBlock ∧ some k_ ≠ ((.slice Ao31 t170.length co31) : Value).ownBlock ∧ some k_ ≠ ((.slice Ao35 t175.length co35) : Value).ownBlock ∧ some k_ ≠ ((.slice Ao39 t178.length co39) : Value).ownBlock ∧ some k_ ≠ ((.slice Ao50 t188.length co50) : Value).ownBlock) (.slice Ao45 t185.length co45) t185) ∧ Aside0 (Kd.R (Kd.int .u8) 5 wc w.heap.size (fun k_ => some k_ ≠ ((.slice Ao28 t167.length co28) : Value).ownBlock ∧ some k_ ≠ ((.slice Ao31 t170.length co31) : Value).ownBlock ∧ some k_ ≠ ((.slice Ao35 t175.length co35) : Value).ownBlock ∧ some k_ ≠ ((.slice Ao39 t178.length co39) : Value).ownBlock ∧ some k_ ≠ ((.slice Ao45 t185.length co45) : Value).ownBlock) (.slice Ao50 t188.length co50) t188) ∧ Aside0 (wc.heap[gb156]? = some (.cells #[(.slice A0_0 l0_0.length c0_0), (.slice A0_1 l0_1.length c0_1)] 32 (0, 0))) ∧ Aside0 (wc.heap[gb174]? = some (.cells #[(.slice Ao28 t167.length co28), (.slice Ao31 t170.length co31)] 35 (0, 0))) ∧ Aside0 (wc.heap[gb181]? = some (.cells #[(.slice Ao35 t175.length co35), (.slice Ao39 t178.length co39)] 35 (0, 0))) ∧ Aside0 (wc.heap[gb192]? = some (.cells #[(.slice Ao45 t185.length co45), (.slice Ao50 t188.length co50)] 35 (0, 0))) ∧ Aside0 (Below w.heap.size w wc))
        case first =>
         have H := HC78.out
         clear HC78
         by_cases c92 : t208 < 0
         ·rw [if_pos c92] at H
          have c92b0 : decide (t208 < 0) = true := decide_eq_true c92
          clear c92
          (first | rw [c92b0] | (simp only [i64_w, i32_w]; rw [c92b0]) | skip)
          have H' := Aside0.mk H
          clear H
          go_wp2
          go_meet
          case rel => exact ⟨_, (true), (by first | rfl | (simp; done) | (simp [*]; done)), H', ⟨by have := HJ15.out; first | omega | exact Nat.le_refl _⟩, ⟨by (with_reducible repeat (first | apply Kd.R_alloc | apply Kd.R_drewN | apply Kd.R_drew)); exact Kd.R_mono HO_175000.out (fun _ hk => ⟨hk.2.1, ⟨hk.2.2.1, ⟨hk.2.2.2.1, ⟨hk.2.2.2.2.1, hk.2.2.2.2.2.1⟩⟩⟩⟩)⟩, ⟨by (with_reducible repeat (first | apply Kd.R_alloc | apply Kd.R_drewN | apply Kd.R_drew)); exact Kd.R_mono HO_175001.out (fun _ hk => ⟨hk.2.1, ⟨hk.2.2.1, ⟨hk.2.2.2.1, ⟨hk.2.2.2.2.1, hk.2.2.2.2.2.1⟩⟩⟩⟩)⟩, ⟨by (with_reducible repeat (first | apply Kd.R_alloc | apply Kd.R_drewN | apply Kd.R_drew)); exact Kd.R_mono HO_182000.out (fun _ hk => ⟨hk.2.1, ⟨hk.2.2.1, ⟨hk.2.2.2.1, ⟨hk.2.2.2.2.1, hk.2.2.2.2.2.1⟩⟩⟩⟩)⟩, ⟨by (with_reducible repeat (first | apply Kd.R_alloc | apply Kd.R_drewN | apply Kd.R_drew)); exact Kd.R_mono HO_182001.out (fun _ hk => ⟨hk.2.1, ⟨hk.2.2.1, ⟨hk.2.2.2.1, ⟨hk.2.2.2.2.1, hk.2.2.2.2.2.1⟩⟩⟩⟩)⟩, ⟨by (with_reducible repeat (first | apply Kd.R_alloc | apply Kd.R_drewN | apply Kd.R_drew)); exact Kd.R_mono HO_193000.out (fun _ hk => ⟨hk.2.1, ⟨hk.2.2.1, ⟨hk.2.2.2.1, ⟨hk.2.2.2.2.1, hk.2.2.2.2.2.1⟩⟩⟩⟩)⟩, ⟨by (with_reducible repeat (first | apply Kd.R_alloc | apply Kd.R_drewN | apply Kd.R_drew)); exact Kd.R_mono HO_193001.out (fun _ hk => ⟨hk.2.1, ⟨hk.2.2.1, ⟨hk.2.2.2.1, ⟨hk.2.2.2.2.1, hk.2.2.2.2.2.1⟩⟩⟩⟩)⟩, ⟨by (with_reducible repeat (first | refine blk_drewN ?_ _ | refine blk_drew ?_ | refine blk_alloc ?_ _)); exact BK156.out⟩, ⟨by (with_reducible repeat (first | refine blk_drewN ?_ _ | refine blk_drew ?_ | refine blk_alloc ?_ _)); exact BK174.out⟩, ⟨by (with_reducible repeat (first | refine blk_drewN ?_ _ | refine blk_drew ?_ | refine blk_alloc ?_ _)); exact BK181.out⟩, ⟨by (with_reducible repeat (first | refine blk_drewN ?_ _ | refine blk_drew ?_ | refine blk_alloc ?_ _)); exact BK192.out⟩, ⟨by repeat (first | (with_reducible first | exact HB.out | apply below_alloc | apply pw_below_drewN | apply below_drew1 | refine below_set ?_ GE156.out | refine below_set ?_ GE174.out | refine below_set ?_ GE181.out | refine below_set ?_ GE192.out) | exact HB.out)⟩⟩
         ·rw [if_neg c92] at H
          have c92b0 : decide (t208 < 0) = false := decide_eq_false c92
          clear c92
          (first | rw [c92b0] | (simp only [i64_w, i32_w]; rw [c92b0]) | skip)
          replace H := Option.bind_eq_some_iff.mp H
          obtain ⟨t210, A930, H⟩ := H
          replace H : (if t210 = true then (laws_FnExactDiskReset.j1 kj15 l1 t173 (t191 != t173) l0_0 l0_1 t167 t170 t185 t188) else (laws_FnExactDiskReset.j1 kj15 l1 t173 true l0_0 l0_1 t167 t170 t185 t188)) = some r := H
          have A93 := Aside0.mk A930
          clear A930
          by_cases c94 : t210 = true
          ·subst c94
           have H1 : (laws_FnExactDiskReset.j1 kj15 l1 t173 (t191 != t173) l0_0 l0_1 t167 t170 t185 t188) = some r := by rw [if_pos rfl] at H; exact H
           clear H
           have H := H1
           clear H1
           have H' := Aside0.mk H
           clear H
           have hnb95 := NB192_156.out
           have hnc95 := NB156_192.out
           have hnb96 := NB192_174.out
           have hnc96 := NB174_192.out
           have hnb97 := NB192_181.out
           have hnc97 := NB181_192.out
           have hcz98_0 : w91.cell? ⟨gb192, 0, none⟩ = some (.slice Ao45 t185.length co45) := (blk_cell BK192.out 0).trans rfl
           have hcz98_1 : w91.cell? ⟨gb192, 1, none⟩ = some (.slice Ao50 t188.length co50) := (blk_cell BK192.out 1).trans rfl
           have hfz98_0 := blk_frozen BK192.out 0
           have hfz98_1 := blk_frozen BK192.out 1
           have hnb99 := NB174_156.out
           have hnc99 := NB156_174.out
           have hnb100 := NB174_181.out
           have hnc100 := NB181_174.out
           have hcz101_0 : w91.cell? ⟨gb174, 0, none⟩ = some (.slice Ao28 t167.length co28) := (blk_cell BK174.out 0).trans rfl
           have hcz101_1 : w91.cell? ⟨gb174, 1, none⟩ = some (.slice Ao31 t170.length co31) := (blk_cell BK174.out 1).trans rfl
           have hfz101_0 := blk_frozen BK174.out 0
           have hfz101_1 := blk_frozen BK174.out 1
           go_wp2_with (first | (go_at_call 23; (with_reducible refine (laws_eqDisk.calls kj15 _ _ t185 _ _ t188 _ _ t167 _ _ t170 true _ ?side1 ?side2 ?side3 ?side4 ?side5 ?side6 ?side7 ?side8 A93.out).mono ?_); (case side1 => repeat (first | exact (Kd.R_reads' HO_193000.out).2.2 | (with_reducible refine Kd.C_alloc ?_ _) | (with_reducible refine Kd.C_drewN ?_ _) | (with_reducible refine Kd.C_drew ?_))); (case side2 => exact (Kd.R_reads' HO_193000.out).2.1); (case side3 => repeat (first | exact (Kd.R_reads' HO_193001.out).2.2 | (with_reducible refine Kd.C_alloc ?_ _) | (with_reducible refine Kd.C_drewN ?_ _) | (with_reducible refine Kd.C_drew ?_))); (case side4 => exact (Kd.R_reads' HO_193001.out).2.1); (case side5 => repeat (first | exact (Kd.R_reads' HO_175000.out).2.2 | (with_reducible refine Kd.C_alloc ?_ _) | (with_reducible refine Kd.C_drewN ?_ _) | (with_reducible refine Kd.C_drew ?_))); (case side6 => exact (Kd.R_reads' HO_175000.out).2.1); (case side7 => repeat (first | exact (Kd.R_reads' HO_175001.out).2.2 | (with_reducible refine Kd.C_alloc ?_ _) | (with_reducible refine Kd.C_drewN ?_ _) | (with_reducible refine Kd.C_drew ?_))); (case side8 => exact (Kd.R_reads' HO_175001.out).2.1); rintro e w102 ⟨rfl, hb⟩; have n0_ := k0 (Kd.R_below (kR HO_9.out) hb); have n1_ := k0 (Kd.R_below (kR HO_175000.out) hb); have n2_ := k0 (Kd.R_below (kR HO_175001.out) hb); have n3_ := k0 (Kd.R_below (kR HO_182000.out) hb); have n4_ := k0 (Kd.R_below (kR HO_182001.out) hb); have n5_ := k0 (Kd.R_below (kR HO_193000.out) hb); have n6_ := k0 (Kd.R_below (kR HO_193001.out) hb); have n7_ := k0 (Kd.R_below (kR HO196.out) hb); have n8_ := k0 (Kd.R_below (kR HO199.out) hb); have n9_ := k0 (Kd.R_below (kR HO203.out) hb); have n10_ := k0 (kb BK156.out hb); have n11_ := k0 (kb BK174.out hb); have n12_ := k0 (kb BK181.out hb); have n13_ := k0 (kb BK192.out hb); have n14_ := k0 (below_step (kW HB.out) hb); clear HO_9; clear HO_175000; clear HO_175001; clear HO_182000; clear HO_182001; clear HO_193000; clear HO_193001; clear HO196; clear HO199; clear HO203; clear BK156; clear BK174; clear BK181; clear BK192; clear HB; have HO_9 := n0_; have HO_175000 := n1_; have HO_175001 := n2_; have HO_182000 := n3_; have HO_182001 := n4_; have HO_193000 := n5_; have HO_193001 := n6_; have HO196 := n7_; have HO199 := n8_; have HO203 := n9_; have BK156 := n10_; have BK174 := n11_; have BK181 := n12_; have BK192 := n13_; have HB := n14_; clear n0_ n1_ n2_ n3_ n4_ n5_ n6_ n7_ n8_ n9_ n10_ n11_ n12_ n13_ n14_; (try clear hb); (try clear hb2); (try clear hk); (try clear hi)))
           go_meet
           case rel => exact ⟨_, ((t191 != t173)), (by first | rfl | (simp; done) | (simp [*]; done)), H', ⟨by have := HJ15.out; first | omega | exact Nat.le_refl _⟩, ⟨by (with_reducible repeat (first | apply Kd.R_alloc | apply Kd.R_drewN | apply Kd.R_drew)); exact Kd.R_mono HO_175000.out (fun _ hk => ⟨hk.2.1, ⟨hk.2.2.1, ⟨hk.2.2.2.1, ⟨hk.2.2.2.2.1, hk.2.2.2.2.2.1⟩⟩⟩⟩)⟩, ⟨by (with_reducible repeat (first | apply Kd.R_alloc | apply Kd.R_drewN | apply Kd.R_drew)); exact Kd.R_mono HO_175001.out (fun _ hk => ⟨hk.2.1, ⟨hk.2.2.1, ⟨hk.2.2.2.1, ⟨hk.2.2.2.2.1, hk.2.2.2.2.2.1⟩⟩⟩⟩)⟩, ⟨by (with_reducible repeat (first | apply Kd.R_alloc | apply Kd.R_drewN | apply Kd.R_drew)); exact Kd.R_mono HO_182000.out (fun _ hk => ⟨hk.2.1, ⟨hk.2.2.1, ⟨hk.2.2.2.1, ⟨hk.2.2.2.2.1, hk.2.2.2.2.2.1⟩⟩⟩⟩)⟩, ⟨by (with_reducible repeat (first | apply Kd.R_alloc | apply Kd.R_drewN | apply Kd.R_drew)); exact Kd.R_mono HO_182001.out (fun _ hk => ⟨hk.2.1, ⟨hk.2.2.1, ⟨hk.2.2.2.1, ⟨hk.2.2.2.2.1, hk.2.2.2.2.2.1⟩⟩⟩⟩)⟩, ⟨by (with_reducible repeat (first | apply Kd.R_alloc | apply Kd.R_drewN | apply Kd.R_drew)); exact Kd.R_mono HO_193000.out (fun _ hk => ⟨hk.2.1, ⟨hk.2.2.1, ⟨hk.2.2.2.1, ⟨hk.2.2.2.2.1, hk.2.2.2.2.2.1⟩⟩⟩⟩)⟩, ⟨by (with_reducible repeat (first | apply Kd.R_alloc | apply Kd.R_drewN | apply Kd.R_drew)); exact Kd.R_mono HO_193001.out (fun _ hk => ⟨hk.2.1, ⟨hk.2.2.1, ⟨hk.2.2.2.1, ⟨hk.2.2.2.2.1, hk.2.2.2.2.2.1⟩⟩⟩⟩)⟩, ⟨by (with_reducible repeat (first | refine blk_drewN ?_ _ | refine blk_drew ?_ | refine blk_alloc ?_ _)); exact BK156.out⟩, ⟨by (with_reducible repeat (first | refine blk_drewN ?_ _ | refine blk_drew ?_ | refine blk_alloc ?_ _)); exact BK174.out⟩, ⟨by (with_reducible repeat (first | refine blk_drewN ?_ _ | refine blk_drew ?_ | refine blk_alloc ?_ _)); exact BK181.out⟩, ⟨by (with_reducible repeat (first | refine blk_drewN ?_ _ | refine blk_drew ?_ | refine blk_alloc ?_ _)); exact BK192.out⟩, ⟨by repeat (first | (with_reducible first | exact HB.out | apply below_alloc | apply pw_below_drewN | apply below_drew1 | refine below_set ?_ GE156.out | refine below_set ?_ GE174.out | refine below_set ?_ GE181.out | refine below_set ?_ GE192.out) | exact HB.out)⟩⟩
          ·replace c94 := Bool.eq_false_iff.mpr c94
           subst c94
           have H1 : (laws_FnExactDiskReset.j1 kj15 l1 t173 true l0_0 l0_1 t167 t170 t185 t188) = some r := by rw [if_neg (show ¬ (false = true) by decide)] at H; exact H
           clear H
           have H := H1
           clear H1
           have H' := Aside0.mk H
           clear H
           have hnb103 := NB192_156.out
           have hnc103 := NB156_192.out
           have hnb104 := NB192_174.out
           have hnc104 := NB174_192.out
           have hnb105 := NB192_181.out
           have hnc105 := NB181_192.out
           have hcz106_0 : w91.cell? ⟨gb192, 0, none⟩ = some (.slice Ao45 t185.length co45) := (blk_cell BK192.out 0).trans rfl
           have hcz106_1 : w91.cell? ⟨gb192, 1, none⟩ = some (.slice Ao50 t188.length co50) := (blk_cell BK192.out 1).trans rfl
           have hfz106_0 := blk_frozen BK192.out 0
           have hfz106_1 := blk_frozen BK192.out 1
           have hnb107 := NB174_156.out
           have hnc107 := NB156_174.out
           have hnb108 := NB174_181.out
           have hnc108 := NB181_174.out
           have hcz109_0 : w91.cell? ⟨gb174, 0, none⟩ = some (.slice Ao28 t167.length co28) := (blk_cell BK174.out 0).trans rfl
           have hcz109_1 : w91.cell? ⟨gb174, 1, none⟩ = some (.slice Ao31 t170.length co31) := (blk_cell BK174.out 1).trans rfl
           have hfz109_0 := blk_frozen BK174.out 0
           have hfz109_1 := blk_frozen BK174.out 1
           go_wp2_with (first | (go_at_call 23; (with_reducible refine (laws_eqDisk.calls kj15 _ _ t185 _ _ t188 _ _ t167 _ _ t170 false _ ?side1 ?side2 ?side3 ?side4 ?side5 ?side6 ?side7 ?side8 A93.out).mono ?_); (case side1 => repeat (first | exact (Kd.R_reads' HO_193000.out).2.2 | (with_reducible refine Kd.C_alloc ?_ _) | (with_reducible refine Kd.C_drewN ?_ _) | (with_reducible refine Kd.C_drew ?_))); (case side2 => exact (Kd.R_reads' HO_193000.out).2.1); (case side3 => repeat (first | exact (Kd.R_reads' HO_193001.out).2.2 | (with_reducible refine Kd.C_alloc ?_ _) | (with_reducible refine Kd.C_drewN ?_ _) | (with_reducible refine Kd.C_drew ?_))); (case side4 => exact (Kd.R_reads' HO_193001.out).2.1); (case side5 => repeat (first | exact (Kd.R_reads' HO_175000.out).2.2 | (with_reducible refine Kd.C_alloc ?_ _) | (with_reducible refine Kd.C_drewN ?_ _) | (with_reducible refine Kd.C_drew ?_))); (case side6 => exact (Kd.R_reads' HO_175000.out).2.1); (case side7 => repeat (first | exact (Kd.R_reads' HO_175001.out).2.2 | (with_reducible refine Kd.C_alloc ?_ _) | (with_reducible refine Kd.C_drewN ?_ _) | (with_reducible refine Kd.C_drew ?_))); (case side8 => exact (Kd.R_reads' HO_175001.out).2.1); rintro e w110 ⟨rfl, hb⟩; have n0_ := k0 (Kd.R_below (kR HO_9.out) hb); have n1_ := k0 (Kd.R_below (kR HO_175000.out) hb); have n2_ := k0 (Kd.R_below (kR HO_175001.out) hb); have n3_ := k0 (Kd.R_below (kR HO_182000.out) hb); have n4_ := k0 (Kd.R_below (kR HO_182001.out) hb); have n5_ := k0 (Kd.R_below (kR HO_193000.out) hb); have n6_ := k0 (Kd.R_below (kR HO_193001.out) hb); have n7_ := k0 (Kd.R_below (kR HO196.out) hb); have n8_ := k0 (Kd.R_below (kR HO199.out) hb); have n9_ := k0 (Kd.R_below (kR HO203.out) hb); have n10_ := k0 (kb BK156.out hb); have n11_ := k0 (kb BK174.out hb); have n12_ := k0 (kb BK181.out hb); have n13_ := k0 (kb BK192.out hb); have n14_ := k0 (below_step (kW HB.out) hb); clear HO_9; clear HO_175000; clear HO_175001; clear HO_182000; clear HO_182001; clear HO_193000; clear HO_193001; clear HO196; clear HO199; clear HO203; clear BK156; clear BK174; clear BK181; clear BK192; clear HB; have HO_9 := n0_; have HO_175000 := n1_; have HO_175001 := n2_; have HO_182000 := n3_; have HO_182001 := n4_; have HO_193000 := n5_; have HO_193001 := n6_; have HO196 := n7_; have HO199 := n8_; have HO203 := n9_; have BK156 := n10_; have BK174 := n11_; have BK181 := n12_; have BK192 := n13_; have HB := n14_; clear n0_ n1_ n2_ n3_ n4_ n5_ n6_ n7_ n8_ n9_ n10_ n11_ n12_ n13_ n14_; (try clear hb); (try clear hb2); (try clear hk); (try clear hi)))
           go_meet
           case rel => exact ⟨_, (true), (by first | rfl | (simp; done) | (simp [*]; done)), H', ⟨by have := HJ15.out; first | omega | exact Nat.le_refl _⟩, ⟨by (with_reducible repeat (first | apply Kd.R_alloc | apply Kd.R_drewN | apply Kd.R_drew)); exact Kd.R_mono HO_175000.out (fun _ hk => ⟨hk.2.1, ⟨hk.2.2.1, ⟨hk.2.2.2.1, ⟨hk.2.2.2.2.1, hk.2.2.2.2.2.1⟩⟩⟩⟩)⟩, ⟨by (with_reducible repeat (first | apply Kd.R_alloc | apply Kd.R_drewN | apply Kd.R_drew)); exact Kd.R_mono HO_175001.out (fun _ hk => ⟨hk.2.1, ⟨hk.2.2.1, ⟨hk.2.2.2.1, ⟨hk.2.2.2.2.1, hk.2.2.2.2.2.1⟩⟩⟩⟩)⟩, ⟨by (with_reducible repeat (first | apply Kd.R_alloc | apply Kd.R_drewN | apply Kd.R_drew)); exact Kd.R_mono HO_182000.out (fun _ hk => ⟨hk.2.1, ⟨hk.2.2.1, ⟨hk.2.2.2.1, ⟨hk.2.2.2.2.1, hk.2.2.2.2.2.1⟩⟩⟩⟩)⟩, ⟨by (with_reducible repeat (first | apply Kd.R_alloc | apply Kd.R_drewN | apply Kd.R_drew)); exact Kd.R_mono HO_182001.out (fun _ hk => ⟨hk.2.1, ⟨hk.2.2.1, ⟨hk.2.2.2.1, ⟨hk.2.2.2.2.1, hk.2.2.2.2.2.1⟩⟩⟩⟩)⟩, ⟨by (with_reducible repeat (first | apply Kd.R_alloc | apply Kd.R_drewN | apply Kd.R_drew)); exact Kd.R_mono HO_193000.out (fun _ hk => ⟨hk.2.1, ⟨hk.2.2.1, ⟨hk.2.2.2.1, ⟨hk.2.2.2.2.1, hk.2.2.2.2.2.1⟩⟩⟩⟩)⟩, ⟨by (with_reducible repeat (first | apply Kd.R_alloc | apply Kd.R_drewN | apply Kd.R_drew)); exact Kd.R_mono HO_193001.out (fun _ hk => ⟨hk.2.1, ⟨hk.2.2.1, ⟨hk.2.2.2.1, ⟨hk.2.2.2.2.1, hk.2.2.2.2.2.1⟩⟩⟩⟩)⟩, ⟨by (with_reducible repeat (first | refine blk_drewN ?_ _ | refine blk_drew ?_ | refine blk_alloc ?_ _)); exact BK156.out⟩, ⟨by (with_reducible repeat (first | refine blk_drewN ?_ _ | refine blk_drew ?_ | refine blk_alloc ?_ _)); exact BK174.out⟩, ⟨by (with_reducible repeat (first | refine blk_drewN ?_ _ | refine blk_drew ?_ | refine blk_alloc ?_ _)); exact BK181.out⟩, ⟨by (with_reducible repeat (first | refine blk_drewN ?_ _ | refine blk_drew ?_ | refine blk_alloc ?_ _)); exact BK192.out⟩, ⟨by repeat (first | (with_reducible first | exact HB.out | apply below_alloc | apply pw_below_drewN | apply below_drew1 | refine below_set ?_ GE156.out | refine below_set ?_ GE174.out | refine below_set ?_ GE181.out | refine below_set ?_ GE192.out) | exact HB.out)⟩⟩
        case rest =>
         clear HC78
         try clear c1
         try clear c2
         try clear p2
         try clear c3
         try clear c3b0
         try clear c3b1
         try clear c4
         try clear c5
         try clear c6
         try clear c6b0
         try clear c7
         try clear c8
         try clear c9
         try clear c10
         try clear c19
         try clear c21
         try clear c23
         try clear c29
         try clear c31
         try clear c35
         try clear c36
         try clear c37
         try clear c42
         try clear c43
         try clear c46
         try clear c47
         try clear c48
         try clear c52
         try clear c53
         try clear c54
         try clear c55
         try clear c57
         try clear c58
         try clear c61
         try clear c62
         try clear c63
         try clear c65
         try clear c66
         try clear c69
         try clear c72
         try clear c75
         try clear c86
         try clear c87
         try clear c88
         try clear c92
         try clear c92b0
         try clear c94
         try clear c95
         try clear c96
         try clear c97
         try clear c99
         try clear c100
         try clear c103
         try clear c104
         try clear c105
         try clear c107
         try clear c108
         try clear hcz101_0
         try clear hcz101_1
         try clear hcz106_0
         try clear hcz106_1
         try clear hcz109_0
         try clear hcz109_1
         try clear hcz18_0
         try clear hcz18_1
         try clear hcz20_0
         try clear hcz20_1
         try clear hcz30_0
         try clear hcz30_1
         try clear hcz32_0
         try clear hcz32_1
         try clear hcz38_0
         try clear hcz38_1
         try clear hcz41_0
         try clear hcz41_1
         try clear hcz49_0
         try clear hcz49_1
         try clear hcz56_0
         try clear hcz56_1
         try clear hcz59_0
         try clear hcz59_1
         try clear hcz64_0
         try clear hcz64_1
         try clear hcz67_0
         try clear hcz67_1
         try clear hcz89_0
         try clear hcz89_1
         try clear hcz8_0
         try clear hcz8_1
         try clear hcz98_0
         try clear hcz98_1
         try clear hfz101_0
         try clear hfz101_1
         try clear hfz106_0
         try clear hfz106_1
         try clear hfz109_0
         try clear hfz109_1
         try clear hfz18_0
         try clear hfz18_1
         try clear hfz20_0
         try clear hfz20_1
         try clear hfz30_0
         try clear hfz30_1
         try clear hfz32_0
         try clear hfz32_1
         try clear hfz38_0
         try clear hfz38_1
         try clear hfz41_0
         try clear hfz41_1
         try clear hfz49_0
         try clear hfz49_1
         try clear hfz56_0
         try clear hfz56_1
         try clear hfz59_0
         try clear hfz59_1
         try clear hfz64_0
         try clear hfz64_1
         try clear hfz67_0
         try clear hfz67_1
         try clear hfz89_0
         try clear hfz89_1
         try clear hfz8_0
         try clear hfz8_1
         try clear hfz98_0
         try clear hfz98_1
         try clear p2
         obtain ⟨kq, x80_77, rfl, HA, HJ77, HO_175000, HO_175001, HO_182000, HO_182001, HO_193000, HO_193001, BK156, BK174, BK181, BK192, HB⟩ := hcut
         have hl182000_77 := (Kd.R_reads' HO_182000.out).1
         rw [hl182000_77] at HO_182000
         (try simp only [hl182000_77])
         (try simp only [hl182000_77] at BK156)
         (try simp only [hl182000_77] at BK174)
         (try simp only [hl182000_77] at BK181)
         (try simp only [hl182000_77] at BK192)
         (try simp only [hl182000_77] at HO_175000)
         (try simp only [hl182000_77] at HO_175001)
         (try simp only [hl182000_77] at HO_182001)
         (try simp only [hl182000_77] at HO_193000)
         (try simp only [hl182000_77] at HO_193001)
         have hl182001_77 := (Kd.R_reads' HO_182001.out).1
         rw [hl182001_77] at HO_182001
         (try simp only [hl182001_77])
         (try simp only [hl182001_77] at BK156)
         (try simp only [hl182001_77] at BK174)
         (try simp only [hl182001_77] at BK181)
         (try simp only [hl182001_77] at BK192)
         (try simp only [hl182001_77] at HO_175000)
         (try simp only [hl182001_77] at HO_175001)
         (try simp only [hl182001_77] at HO_182000)
         (try simp only [hl182001_77] at HO_193000)
         (try simp only [hl182001_77] at HO_193001)
         cases kq with
         | zero => exact absurd HA.out (by simp [laws_FnExactDiskReset.j1])
         | succ kj77 =>
          have H := HA.out
          clear HA
          simp only [laws_FnExactDiskReset.j1] at H
          by_cases c111 : x80_77 = true
          ·subst c111
           have H1 : (some false) = some r := by rw [if_pos rfl] at H; exact H
           clear H
           have H := H1
           clear H1
           exact absurd ((Option.some.inj H).trans HR.out) (by decide)
          ·replace c111 := Bool.eq_false_iff.mpr c111
           subst c111
           have H1 : ((laws_markDisk.f kj77 t185 t188 1).bind fun bt211 => ((laws_heldDisk.f kj77 bt211.2.1 bt211.2.2 1).bind fun t214 => (if t214 < 0 then (some false) else (if t214 = bt211.1 then ((laws_toDisk.f kj77 l0_0 l0_1).bind fun bt215 => ((laws_toByteS.f kj77 l1).bind fun t221 => ((impl_DiskReset.f bt215.1 bt215.2 t221).bind fun bt224 => ((laws_eqDisk.f kj77 bt224.1 bt224.2.1 t167 t170).bind fun t232 => (if t232 = true then (laws_FnExactDiskReset.j2 kj77 bt211.1 (bt224.2.2 != t173) bt211.2.1 bt211.2.2) else (laws_FnExactDiskReset.j2 kj77 bt211.1 true bt211.2.1 bt211.2.2)))))) else (some false))))) = some r := by rw [if_neg (show ¬ (false = true) by decide)] at H; exact H
           clear H
           have H := H1
           clear H1
           replace H := Option.bind_eq_some_iff.mp H
           obtain ⟨⟨t211, t212, t213⟩, A1120, H⟩ := H
           replace H : ((laws_heldDisk.f kj77 t212 t213 1).bind fun t214 => (if t214 < 0 then (some false) else (if t214 = t211 then ((laws_toDisk.f kj77 l0_0 l0_1).bind fun bt215 => ((laws_toByteS.f kj77 l1).bind fun t221 => ((impl_DiskReset.f bt215.1 bt215.2 t221).bind fun bt224 => ((laws_eqDisk.f kj77 bt224.1 bt224.2.1 t167 t170).bind fun t232 => (if t232 = true then (laws_FnExactDiskReset.j2 kj77 t211 (bt224.2.2 != t173) t212 t213) else (laws_FnExactDiskReset.j2 kj77 t211 true t212 t213)))))) else (some false)))) = some r := H
           have A112 := Aside0.mk A1120
           clear A1120
           replace H := Option.bind_eq_some_iff.mp H
           obtain ⟨t214, A1130, H⟩ := H
           replace H : (if t214 < 0 then (some false) else (if t214 = t211 then ((laws_toDisk.f kj77 l0_0 l0_1).bind fun bt215 => ((laws_toByteS.f kj77 l1).bind fun t221 => ((impl_DiskReset.f bt215.1 bt215.2 t221).bind fun bt224 => ((laws_eqDisk.f kj77 bt224.1 bt224.2.1 t167 t170).bind fun t232 => (if t232 = true then (laws_FnExactDiskReset.j2 kj77 t211 (bt224.2.2 != t173) t212 t213) else (laws_FnExactDiskReset.j2 kj77 t211 true t212 t213)))))) else (some false))) = some r := H
           have A113 := Aside0.mk A1130
           clear A1130
           by_cases c114 : t214 < 0
           ·rw [if_pos c114] at H
            have c114b0 : decide (t214 < 0) = true := decide_eq_true c114
            clear c114
            exact absurd ((Option.some.inj H).trans HR.out) (by decide)
           ·rw [if_neg c114] at H
            have c114b0 : decide (t214 < 0) = false := decide_eq_false c114
            clear c114
            by_cases c115 : t214 = t211
            ·rw [if_pos c115] at H
             have c115b0 : (t214 == t211) = true := beq_iff_eq.mpr c115
             have c115b1 : (t214 != t211) = false := bne_eq_false_iff_eq.mpr c115
             clear c115
             replace H := Option.bind_eq_some_iff.mp H
             obtain ⟨⟨t215, t218⟩, A1160, H⟩ := H
             replace H : ((laws_toByteS.f kj77 l1).bind fun t221 => ((impl_DiskReset.f t215 t218 t221).bind fun bt224 => ((laws_eqDisk.f kj77 bt224.1 bt224.2.1 t167 t170).bind fun t232 => (if t232 = true then (laws_FnExactDiskReset.j2 kj77 t211 (bt224.2.2 != t173) t212 t213) else (laws_FnExactDiskReset.j2 kj77 t211 true t212 t213))))) = some r := H
             have A116 := Aside0.mk A1160
             clear A1160
             replace H := Option.bind_eq_some_iff.mp H
             obtain ⟨t221, A1170, H⟩ := H
             replace H : ((impl_DiskReset.f t215 t218 t221).bind fun bt224 => ((laws_eqDisk.f kj77 bt224.1 bt224.2.1 t167 t170).bind fun t232 => (if t232 = true then (laws_FnExactDiskReset.j2 kj77 t211 (bt224.2.2 != t173) t212 t213) else (laws_FnExactDiskReset.j2 kj77 t211 true t212 t213)))) = some r := H
             have A117 := Aside0.mk A1170
             clear A1170
             replace H := Option.bind_eq_some_iff.mp H
             obtain ⟨⟨t224, t227, t230⟩, A1180, H⟩ := H
             replace H : ((laws_eqDisk.f kj77 t224 t227 t167 t170).bind fun t232 => (if t232 = true then (laws_FnExactDiskReset.j2 kj77 t211 (t230 != t173) t212 t213) else (laws_FnExactDiskReset.j2 kj77 t211 true t212 t213))) = some r := H
             have A118 := Aside0.mk A1180
             clear A1180
             have HC119 := Aside0.mk H
             clear H
             have hnb120 := NB192_156.out
             have hnc120 := NB156_192.out
             have hnb121 := NB192_174.out
             have hnc121 := NB174_192.out
             have hnb122 := NB192_181.out
             have hnc122 := NB181_192.out
             have hcz123_0 : wc.cell? ⟨gb192, 0, none⟩ = some (.slice Ao45 t185.length co45) := (blk_cell BK192.out 0).trans rfl
             have hcz123_1 : wc.cell? ⟨gb192, 1, none⟩ = some (.slice Ao50 t188.length co50) := (blk_cell BK192.out 1).trans rfl
             have hfz123_0 := blk_frozen BK192.out 0
             have hfz123_1 := blk_frozen BK192.out 1
             go_upto_region 31 with (first | ((with_reducible refine gate_callee (f := 36) rfl ?_); refine goesL_ (some 83) rfl rfl Try.func36 (by kernel_rfl) rfl #[.agg #[.slice Ao45 t185.length co45, .slice Ao50 t188.length co50], .int .i64 1] rfl (by (try simp only [List.map_toArray, List.map_cons, List.map_nil]); first | done | rfl | (simp only [List.length_drop, List.length_take]; rfl)) ?_; (with_reducible refine (laws_markDisk.calls kj77 (fun k_ => some k_ = (.slice Ao45 t185.length co45 : Value).ownBlock) (.slice Ao45 t185.length co45) t185 (fun k_ => some k_ = (.slice Ao50 t188.length co50 : Value).ownBlock) (.slice Ao50 t188.length co50) t188 1 t211 t212 t213 w _ ?side1 ?side2 ?side3 ?side4 ?side5 A112.out).mono ?_); (case side1 => repeat (first | (with_reducible first | exact HB.out | apply below_alloc | apply pw_below_drewN | apply below_drew1 | refine below_set ?_ GE156.out | refine below_set ?_ GE174.out | refine below_set ?_ GE181.out | refine below_set ?_ GE192.out) | exact HB.out)); (case side2 => exact Kd.R_tight rfl HO_193000.out); (case side3 => exact fun k_ e_ => (HO_193000.out.1 k_ e_.symm).2.2.2.2); (case side4 => exact Kd.R_tight rfl HO_193001.out); (case side5 => exact fun k_ e_ => (HO_193001.out.1 k_ e_.symm).2.2.2.2); rintro e w124 ⟨rfl, hy0, hy1, hb, hkp⟩; refine ⟨_, rfl, ?_⟩; have n0_ := k0 (Kd.R_mono (ok' := fun k_ => some k_ ≠ (.slice Ao31 t170.length co31 : Value).ownBlock ∧ some k_ ≠ (.slice Ao35 t206.length co35 : Value).ownBlock ∧ some k_ ≠ (.slice Ao39 t207.length co39 : Value).ownBlock ∧ some k_ ≠ (.slice Ao45 t185.length co45 : Value).ownBlock ∧ some k_ ≠ (.slice Ao50 t188.length co50 : Value).ownBlock) (Kd.R_keptB (HO_175000.out) hkp (fun k_ hk_ hs_ => Or.elim hs_ (fun e_ => (hk_.2.2.2.1) e_) (fun e_ => (hk_.2.2.2.2) e_))) (fun k_ hk_ => ⟨hk_.1.1, hk_.1.2.1, hk_.1.2.2.1, hk_.1.2.2.2.1, hk_.1.2.2.2.2⟩)); have n1_ := k0 (Kd.R_mono (ok' := fun k_ => some k_ ≠ (.slice Ao28 t167.length co28 : Value).ownBlock ∧ some k_ ≠ (.slice Ao35 t206.length co35 : Value).ownBlock ∧ some k_ ≠ (.slice Ao39 t207.length co39 : Value).ownBlock ∧ some k_ ≠ (.slice Ao45 t185.length co45 : Value).ownBlock ∧ some k_ ≠ (.slice Ao50 t188.length co50 : Value).ownBlock) (Kd.R_keptB (HO_175001.out) hkp (fun k_ hk_ hs_ => Or.elim hs_ (fun e_ => (hk_.2.2.2.1) e_) (fun e_ => (hk_.2.2.2.2) e_))) (fun k_ hk_ => ⟨hk_.1.1, hk_.1.2.1, hk_.1.2.2.1, hk_.1.2.2.2.1, hk_.1.2.2.2.2⟩)); have n2_ := k0 (Kd.R_mono (ok' := fun k_ => some k_ ≠ (.slice Ao28 t167.length co28 : Value).ownBlock ∧ some k_ ≠ (.slice Ao31 t170.length co31 : Value).ownBlock ∧ some k_ ≠ (.slice Ao39 t207.length co39 : Value).ownBlock ∧ some k_ ≠ (.slice Ao45 t185.length co45 : Value).ownBlock ∧ some k_ ≠ (.slice Ao50 t188.length co50 : Value).ownBlock) (Kd.R_keptB (HO_182000.out) hkp (fun k_ hk_ hs_ => Or.elim hs_ (fun e_ => (hk_.2.2.2.1) e_) (fun e_ => (hk_.2.2.2.2) e_))) (fun k_ hk_ => ⟨hk_.1.1, hk_.1.2.1, hk_.1.2.2.1, hk_.1.2.2.2.1, hk_.1.2.2.2.2⟩)); have n3_ := k0 (Kd.R_mono (ok' := fun k_ => some k_ ≠ (.slice Ao28 t167.length co28 : Value).ownBlock ∧ some k_ ≠ (.slice Ao31 t170.length co31 : Value).ownBlock ∧ some k_ ≠ (.slice Ao35 t206.length co35 : Value).ownBlock ∧ some k_ ≠ (.slice Ao45 t185.length co45 : Value).ownBlock ∧ some k_ ≠ (.slice Ao50 t188.length co50 : Value).ownBlock) (Kd.R_keptB (HO_182001.out) hkp (fun k_ hk_ hs_ => Or.elim hs_ (fun e_ => (hk_.2.2.2.1) e_) (fun e_ => (hk_.2.2.2.2) e_))) (fun k_ hk_ => ⟨hk_.1.1, hk_.1.2.1, hk_.1.2.2.1, hk_.1.2.2.2.1, hk_.1.2.2.2.2⟩)); have n4_ := k0 (Kd.R_reok rfl hy0 (fun k_ e_ => HO_193000.out.1 k_ e_)); have n5_ := k0 (Kd.R_reok rfl hy1 (fun k_ e_ => HO_193001.out.1 k_ e_)); have n6_ := k0 (kK BK156.out hkp (fun hs_ => Or.elim hs_ (fun e_ => (fun e_ => (Kd.R_ne HO_193000.out BK156.out (by decide)) e_) e_) (fun e_ => (fun e_ => (Kd.R_ne HO_193001.out BK156.out (by decide)) e_) e_))); have n7_ := k0 (kK BK174.out hkp (fun hs_ => Or.elim hs_ (fun e_ => (fun e_ => (Kd.R_ne HO_193000.out BK174.out (by decide)) e_) e_) (fun e_ => (fun e_ => (Kd.R_ne HO_193001.out BK174.out (by decide)) e_) e_))); have n8_ := k0 (kK BK181.out hkp (fun hs_ => Or.elim hs_ (fun e_ => (fun e_ => (Kd.R_ne HO_193000.out BK181.out (by decide)) e_) e_) (fun e_ => (fun e_ => (Kd.R_ne HO_193001.out BK181.out (by decide)) e_) e_))); have n9_ := k0 (kK BK192.out hkp (fun hs_ => Or.elim hs_ (fun e_ => (fun e_ => (Kd.R_ne HO_193000.out BK192.out (by decide)) e_) e_) (fun e_ => (fun e_ => (Kd.R_ne HO_193001.out BK192.out (by decide)) e_) e_))); have n10_ := k0 (hb); clear HO_175000; clear HO_175001; clear HO_182000; clear HO_182001; clear HO_193000; clear HO_193001; clear BK156; clear BK174; clear BK181; clear BK192; clear HB; have HO_175000 := n0_; have HO_175001 := n1_; have HO_182000 := n2_; have HO_182001 := n3_; have HO_193000 := n4_; have HO_193001 := n5_; have BK156 := n6_; have BK174 := n7_; have BK181 := n8_; have BK192 := n9_; have HB := n10_; clear n0_ n1_ n2_ n3_ n4_ n5_ n6_ n7_ n8_ n9_ n10_; (try clear hb); (try clear hkp); (try clear hy0); (try clear hy1); have hcz125_0 : w124.cell? ⟨gb192, 0, none⟩ = some (.slice Ao45 t185.length co45) := (blk_cell BK192.out 0).trans rfl; have hcz125_1 : w124.cell? ⟨gb192, 1, none⟩ = some (.slice Ao50 t188.length co50) := (blk_cell BK192.out 1).trans rfl; have hfz125_0 := blk_frozen BK192.out 0; have hfz125_1 := blk_frozen BK192.out 1) | ((with_reducible refine gate_callee (f := 40) rfl ?_); refine goesL_ (some 86) rfl rfl Try.func40 (by kernel_rfl) rfl #[.agg #[.slice Ao45 t212.length co45, .slice Ao50 t213.length co50], .int .i64 1] rfl (by (try simp only [List.map_toArray, List.map_cons, List.map_nil]); first | done | (rw [show t212.length = t185.length from (Kd.R_reads' HO_193000.out).1.symm, show t213.length = t188.length from (Kd.R_reads' HO_193001.out).1.symm] <;> rfl) | rfl | (simp only [List.length_drop, List.length_take]; rfl)) ?_; (with_reducible refine (laws_heldDisk.calls kj77 _ _ t212 _ _ t213 1 t214 _ ?side1 ?side2 ?side3 ?side4 A113.out).mono ?_); (case side1 => repeat (first | exact (Kd.R_reads' HO_193000.out).2.2 | (with_reducible refine Kd.C_alloc ?_ _) | (with_reducible refine Kd.C_drewN ?_ _) | (with_reducible refine Kd.C_drew ?_))); (case side2 => rw [show t212.length = t185.length from (Kd.R_reads' HO_193000.out).1.symm]; exact (Kd.R_reads' HO_193000.out).2.1); (case side3 => repeat (first | exact (Kd.R_reads' HO_193001.out).2.2 | (with_reducible refine Kd.C_alloc ?_ _) | (with_reducible refine Kd.C_drewN ?_ _) | (with_reducible refine Kd.C_drew ?_))); (case side4 => rw [show t213.length = t188.length from (Kd.R_reads' HO_193001.out).1.symm]; exact (Kd.R_reads' HO_193001.out).2.1); rintro e w126 ⟨rfl, hb⟩; refine ⟨_, rfl, ?_⟩; have n0_ := k0 (Kd.R_below (kR HO_175000.out) hb); have n1_ := k0 (Kd.R_below (kR HO_175001.out) hb); have n2_ := k0 (Kd.R_below (kR HO_182000.out) hb); have n3_ := k0 (Kd.R_below (kR HO_182001.out) hb); have n4_ := k0 (Kd.R_below (kR HO_193000.out) hb); have n5_ := k0 (Kd.R_below (kR HO_193001.out) hb); have n6_ := k0 (kb BK156.out hb); have n7_ := k0 (kb BK174.out hb); have n8_ := k0 (kb BK181.out hb); have n9_ := k0 (kb BK192.out hb); have n10_ := k0 (below_step (kW HB.out) hb); clear HO_175000; clear HO_175001; clear HO_182000; clear HO_182001; clear HO_193000; clear HO_193001; clear BK156; clear BK174; clear BK181; clear BK192; clear HB; have HO_175000 := n0_; have HO_175001 := n1_; have HO_182000 := n2_; have HO_182001 := n3_; have HO_193000 := n4_; have HO_193001 := n5_; have BK156 := n6_; have BK174 := n7_; have BK181 := n8_; have BK192 := n9_; have HB := n10_; clear n0_ n1_ n2_ n3_ n4_ n5_ n6_ n7_ n8_ n9_ n10_; (try clear hb); (try clear hb2); (try clear hk); (try clear hi); have hnb127 := NB156_174.out; have hnc127 := NB174_156.out; have hnb128 := NB156_181.out; have hnc128 := NB181_156.out; have hcz129_0 : w126.cell? ⟨gb156, 0, none⟩ = some (.slice A0_0 l0_0.length c0_0) := (blk_cell BK156.out 0).trans rfl; have hcz129_1 : w126.cell? ⟨gb156, 1, none⟩ = some (.slice A0_1 l0_1.length c0_1) := (blk_cell BK156.out 1).trans rfl; have hfz129_0 := blk_frozen BK156.out 0; have hfz129_1 := blk_frozen BK156.out 1) | ((with_reducible refine gate_callee (f := 21) rfl ?_); refine goesL_ (some 94) rfl rfl Try.func21 (by kernel_rfl) rfl #[.agg #[.slice A0_0 l0_0.length c0_0, .slice A0_1 l0_1.length c0_1]] rfl (by (try simp only [List.map_toArray, List.map_cons, List.map_nil]); first | done | rfl | (simp only [List.length_drop, List.length_take]; rfl)) ?_; (with_reducible refine (laws_toDisk.calls kj77 _ _ l0_0 _ _ l0_1 t215 t218 _ ?side1 ?side2 ?side3 ?side4 A116.out).mono ?_); (case side1 => repeat (first | exact (Kd.C_below HR0_0.out HB.out) | (with_reducible refine Kd.C_alloc ?_ _) | (with_reducible refine Kd.C_drewN ?_ _) | (with_reducible refine Kd.C_drew ?_))); (case side2 => exact HC0_0.out); (case side3 => repeat (first | exact (Kd.C_below HR0_1.out HB.out) | (with_reducible refine Kd.C_alloc ?_ _) | (with_reducible refine Kd.C_drewN ?_ _) | (with_reducible refine Kd.C_drew ?_))); (case side4 => exact HC0_1.out); rintro e w130 ⟨v216, v219, rfl, ho0, ho1, hb⟩; refine ⟨_, rfl, ?_⟩; have n0_ := k0 (Kd.R_mono (Kd.R_told (Kd.R_told (Kd.R_old (kR HO_175000.out) hb) (Kd.R_base ho0)) (Kd.R_base ho1)) (fun _ h_ => h_.1)); have n1_ := k0 (Kd.R_mono (Kd.R_told (Kd.R_told (Kd.R_old (kR HO_175001.out) hb) (Kd.R_base ho0)) (Kd.R_base ho1)) (fun _ h_ => h_.1)); have n2_ := k0 (Kd.R_mono (Kd.R_told (Kd.R_told (Kd.R_old (kR HO_182000.out) hb) (Kd.R_base ho0)) (Kd.R_base ho1)) (fun _ h_ => h_.1)); have n3_ := k0 (Kd.R_mono (Kd.R_told (Kd.R_told (Kd.R_old (kR HO_182001.out) hb) (Kd.R_base ho0)) (Kd.R_base ho1)) (fun _ h_ => h_.1)); have n4_ := k0 (Kd.R_mono (Kd.R_told (Kd.R_told (Kd.R_old (kR HO_193000.out) hb) (Kd.R_base ho0)) (Kd.R_base ho1)) (fun _ h_ => h_.1)); have n5_ := k0 (Kd.R_mono (Kd.R_told (Kd.R_told (Kd.R_old (kR HO_193001.out) hb) (Kd.R_base ho0)) (Kd.R_base ho1)) (fun _ h_ => h_.1)); have n6_ := k0 (Kd.R_lower (Kd.R_new' (Kd.R_new' (Kd.R_new' (Kd.R_new' (Kd.R_new' (Kd.R_new' ho0 (Kd.R_lt (kR HO_175000.out))) (Kd.R_lt (kR HO_175001.out))) (Kd.R_lt (kR HO_182000.out))) (Kd.R_lt (kR HO_182001.out))) (Kd.R_lt (kR HO_193000.out))) (Kd.R_lt (kR HO_193001.out))) (below_size (kW HB.out))); have n7_ := k0 (Kd.R_lower (Kd.R_new' (Kd.R_new' (Kd.R_new' (Kd.R_new' (Kd.R_new' (Kd.R_new' ho1 (Kd.R_lt (kR HO_175000.out))) (Kd.R_lt (kR HO_175001.out))) (Kd.R_lt (kR HO_182000.out))) (Kd.R_lt (kR HO_182001.out))) (Kd.R_lt (kR HO_193000.out))) (Kd.R_lt (kR HO_193001.out))) (below_size (kW HB.out))); have n8_ := k0 (kb BK156.out hb); have n9_ := k0 (kb BK174.out hb); have n10_ := k0 (kb BK181.out hb); have n11_ := k0 (kb BK192.out hb); have n12_ := k0 (below_step (kW HB.out) hb); clear HO_175000; clear HO_175001; clear HO_182000; clear HO_182001; clear HO_193000; clear HO_193001; clear BK156; clear BK174; clear BK181; clear BK192; clear HB; have HO_175000 := n0_; have HO_175001 := n1_; have HO_182000 := n2_; have HO_182001 := n3_; have HO_193000 := n4_; have HO_193001 := n5_; have HO217 := n6_; have HO220 := n7_; have BK156 := n8_; have BK174 := n9_; have BK181 := n10_; have BK192 := n11_; have HB := n12_; clear n0_ n1_ n2_ n3_ n4_ n5_ n6_ n7_ n8_ n9_ n10_ n11_ n12_; (try clear hb); (try clear hb2); (try clear hk); (try clear hi); (try clear ho0); (try clear ho1)) | ((with_reducible refine gate_callee (f := 43) rfl ?_); refine goesL_ (some 96) rfl rfl Try.func43 (by kernel_rfl) rfl #[.slice A1 l1.length c1] rfl (by (try simp only [List.map_toArray, List.map_cons, List.map_nil]); first | done | rfl | (simp only [List.length_drop, List.length_take]; rfl)) ?_; (with_reducible refine (laws_toByteS.calls kj77 _ _ l1 t221 _ ?side1 ?side2 A117.out).mono ?_); (case side1 => repeat (first | exact (Kd.C_below HR1.out HB.out) | (with_reducible refine Kd.C_alloc ?_ _) | (with_reducible refine Kd.C_drewN ?_ _) | (with_reducible refine Kd.C_drew ?_))); (case side2 => exact HC1.out); rintro e w131 ⟨v222, rfl, ho0, hb⟩; refine ⟨_, rfl, ?_⟩; have n0_ := k0 (Kd.R_elder' (kR HO_175000.out) (Kd.R_base ho0) hb); have n1_ := k0 (Kd.R_elder' (kR HO_175001.out) (Kd.R_base ho0) hb); have n2_ := k0 (Kd.R_elder' (kR HO_182000.out) (Kd.R_base ho0) hb); have n3_ := k0 (Kd.R_elder' (kR HO_182001.out) (Kd.R_base ho0) hb); have n4_ := k0 (Kd.R_elder' (kR HO_193000.out) (Kd.R_base ho0) hb); have n5_ := k0 (Kd.R_elder' (kR HO_193001.out) (Kd.R_base ho0) hb); have n6_ := k0 (Kd.R_elder' (kR HO217.out) (Kd.R_base ho0) hb); have n7_ := k0 (Kd.R_elder' (kR HO220.out) (Kd.R_base ho0) hb); have n8_ := k0 (Kd.R_lower (Kd.R_new' (Kd.R_new' (Kd.R_new' (Kd.R_new' (Kd.R_new' (Kd.R_new' (Kd.R_new' (Kd.R_new' ho0 (Kd.R_lt (kR HO_175000.out))) (Kd.R_lt (kR HO_175001.out))) (Kd.R_lt (kR HO_182000.out))) (Kd.R_lt (kR HO_182001.out))) (Kd.R_lt (kR HO_193000.out))) (Kd.R_lt (kR HO_193001.out))) (Kd.R_lt (kR HO217.out))) (Kd.R_lt (kR HO220.out))) (below_size (kW HB.out))); have n9_ := k0 (kb BK156.out hb); have n10_ := k0 (kb BK174.out hb); have n11_ := k0 (kb BK181.out hb); have n12_ := k0 (kb BK192.out hb); have n13_ := k0 (below_step (kW HB.out) hb); clear HO_175000; clear HO_175001; clear HO_182000; clear HO_182001; clear HO_193000; clear HO_193001; clear HO217; clear HO220; clear BK156; clear BK174; clear BK181; clear BK192; clear HB; have HO_175000 := n0_; have HO_175001 := n1_; have HO_182000 := n2_; have HO_182001 := n3_; have HO_193000 := n4_; have HO_193001 := n5_; have HO217 := n6_; have HO220 := n7_; have HO223 := n8_; have BK156 := n9_; have BK174 := n10_; have BK181 := n11_; have BK192 := n12_; have HB := n13_; clear n0_ n1_ n2_ n3_ n4_ n5_ n6_ n7_ n8_ n9_ n10_ n11_ n12_ n13_; (try clear hb); (try clear hb2); (try clear hk); (try clear hi); (try clear ho0); obtain ⟨Ao132, co132, eo132⟩ := Kd.R_slice HO217.out; subst eo132; obtain ⟨Ao133, co133, eo133⟩ := Kd.R_slice HO220.out; subst eo133; obtain ⟨Ao134, co134, eo134⟩ := Kd.R_slice HO223.out; subst eo134) | ((with_reducible refine gate_callee (f := 31) rfl ?_); refine goesL_ (some 97) rfl rfl Try.func31 (by kernel_rfl) rfl #[.agg #[.slice Ao132 t215.length co132, .slice Ao133 t218.length co133], .slice Ao134 t221.length co134] rfl (by (try simp only [List.map_toArray, List.map_cons, List.map_nil]); first | done | rfl | (simp only [List.length_drop, List.length_take]; rfl)) ?_; (with_reducible refine (impl_DiskReset.calls _ _ t215 _ _ t218 _ _ t221 t224 t227 t230 _ ?side1 ?side2 ?side3 ?side4 ?side5 ?side6 A118.out).mono ?_); (case side1 => repeat (first | exact (Kd.R_reads' HO217.out).2.2 | (with_reducible refine Kd.C_alloc ?_ _) | (with_reducible refine Kd.C_drewN ?_ _) | (with_reducible refine Kd.C_drew ?_))); (case side2 => exact (Kd.R_reads' HO217.out).2.1); (case side3 => repeat (first | exact (Kd.R_reads' HO220.out).2.2 | (with_reducible refine Kd.C_alloc ?_ _) | (with_reducible refine Kd.C_drewN ?_ _) | (with_reducible refine Kd.C_drew ?_))); (case side4 => exact (Kd.R_reads' HO220.out).2.1); (case side5 => repeat (first | exact (Kd.R_reads' HO223.out).2.2 | (with_reducible refine Kd.C_alloc ?_ _) | (with_reducible refine Kd.C_drewN ?_ _) | (with_reducible refine Kd.C_drew ?_))); (case side6 => exact (Kd.R_reads' HO223.out).2.1); rintro e w135 ⟨v225, v228, rfl, ho0, ho1, hb⟩; refine ⟨_, rfl, ?_⟩; have n0_ := k0 (Kd.R_mono (Kd.R_told (Kd.R_told (Kd.R_old (kR HO_175000.out) hb) (Kd.R_base ho0)) (Kd.R_base ho1)) (fun _ h_ => h_.1)); have n1_ := k0 (Kd.R_mono (Kd.R_told (Kd.R_told (Kd.R_old (kR HO_175001.out) hb) (Kd.R_base ho0)) (Kd.R_base ho1)) (fun _ h_ => h_.1)); have n2_ := k0 (Kd.R_mono (Kd.R_told (Kd.R_told (Kd.R_old (kR HO_182000.out) hb) (Kd.R_base ho0)) (Kd.R_base ho1)) (fun _ h_ => h_.1)); have n3_ := k0 (Kd.R_mono (Kd.R_told (Kd.R_told (Kd.R_old (kR HO_182001.out) hb) (Kd.R_base ho0)) (Kd.R_base ho1)) (fun _ h_ => h_.1)); have n4_ := k0 (Kd.R_mono (Kd.R_told (Kd.R_told (Kd.R_old (kR HO_193000.out) hb) (Kd.R_base ho0)) (Kd.R_base ho1)) (fun _ h_ => h_.1)); have n5_ := k0 (Kd.R_mono (Kd.R_told (Kd.R_told (Kd.R_old (kR HO_193001.out) hb) (Kd.R_base ho0)) (Kd.R_base ho1)) (fun _ h_ => h_.1)); have n6_ := k0 (Kd.R_mono (Kd.R_told (Kd.R_told (Kd.R_old (kR HO217.out) hb) (Kd.R_base ho0)) (Kd.R_base ho1)) (fun _ h_ => h_.1)); have n7_ := k0 (Kd.R_mono (Kd.R_told (Kd.R_told (Kd.R_old (kR HO220.out) hb) (Kd.R_base ho0)) (Kd.R_base ho1)) (fun _ h_ => h_.1)); have n8_ := k0 (Kd.R_mono (Kd.R_told (Kd.R_told (Kd.R_old (kR HO223.out) hb) (Kd.R_base ho0)) (Kd.R_base ho1)) (fun _ h_ => h_.1)); have n9_ := k0 (Kd.R_lower (Kd.R_new' (Kd.R_new' (Kd.R_new' (Kd.R_new' (Kd.R_new' (Kd.R_new' (Kd.R_new' (Kd.R_new' (Kd.R_new' ho0 (Kd.R_lt (kR HO_175000.out))) (Kd.R_lt (kR HO_175001.out))) (Kd.R_lt (kR HO_182000.out))) (Kd.R_lt (kR HO_182001.out))) (Kd.R_lt (kR HO_193000.out))) (Kd.R_lt (kR HO_193001.out))) (Kd.R_lt (kR HO217.out))) (Kd.R_lt (kR HO220.out))) (Kd.R_lt (kR HO223.out))) (below_size (kW HB.out))); have n10_ := k0 (Kd.R_lower (Kd.R_new' (Kd.R_new' (Kd.R_new' (Kd.R_new' (Kd.R_new' (Kd.R_new' (Kd.R_new' (Kd.R_new' (Kd.R_new' ho1 (Kd.R_lt (kR HO_175000.out))) (Kd.R_lt (kR HO_175001.out))) (Kd.R_lt (kR HO_182000.out))) (Kd.R_lt (kR HO_182001.out))) (Kd.R_lt (kR HO_193000.out))) (Kd.R_lt (kR HO_193001.out))) (Kd.R_lt (kR HO217.out))) (Kd.R_lt (kR HO220.out))) (Kd.R_lt (kR HO223.out))) (below_size (kW HB.out))); have n11_ := k0 (kb BK156.out hb); have n12_ := k0 (kb BK174.out hb); have n13_ := k0 (kb BK181.out hb); have n14_ := k0 (kb BK192.out hb); have n15_ := k0 (below_step (kW HB.out) hb); clear HO_175000; clear HO_175001; clear HO_182000; clear HO_182001; clear HO_193000; clear HO_193001; clear HO217; clear HO220; clear HO223; clear BK156; clear BK174; clear BK181; clear BK192; clear HB; have HO_175000 := n0_; have HO_175001 := n1_; have HO_182000 := n2_; have HO_182001 := n3_; have HO_193000 := n4_; have HO_193001 := n5_; have HO217 := n6_; have HO220 := n7_; have HO223 := n8_; have HO226 := n9_; have HO229 := n10_; have BK156 := n11_; have BK174 := n12_; have BK181 := n13_; have BK192 := n14_; have HB := n15_; clear n0_ n1_ n2_ n3_ n4_ n5_ n6_ n7_ n8_ n9_ n10_ n11_ n12_ n13_ n14_ n15_; (try clear hb); (try clear hb2); (try clear hk); (try clear hi); (try clear ho0); (try clear ho1)) | ((with_reducible refine gate_dst (N := 15) rfl ?_); refine box_event ?hg (N := 15) ?hd (cs := #[.slice none 0 0, .slice none 0 0]) (t := 35) ?hr ?_; (case hd => rfl); (case hg => rfl); (case hr => first | (go_simp; done) | (go_simp; rfl)); intro gb231 hg w136 hbox hb; have n0_ := k0 (Kd.R_below (kR HO_175000.out) hb); have n1_ := k0 (Kd.R_below (kR HO_175001.out) hb); have n2_ := k0 (Kd.R_below (kR HO_182000.out) hb); have n3_ := k0 (Kd.R_below (kR HO_182001.out) hb); have n4_ := k0 (Kd.R_below (kR HO_193000.out) hb); have n5_ := k0 (Kd.R_below (kR HO_193001.out) hb); have n6_ := k0 (Kd.R_below (kR HO217.out) hb); have n7_ := k0 (Kd.R_below (kR HO220.out) hb); have n8_ := k0 (Kd.R_below (kR HO223.out) hb); have n9_ := k0 (Kd.R_below (kR HO226.out) hb); have n10_ := k0 (Kd.R_below (kR HO229.out) hb); have n11_ := k0 (kb BK156.out hb); have n12_ := k0 (kb BK174.out hb); have n13_ := k0 (kb BK181.out hb); have n14_ := k0 (kb BK192.out hb); have n15_ := k0 (below_step (kW HB.out) hb); have n16_ := k0 (hbox); have n17_ := k0 ((by rw [hg]; exact (below_size (kW HB.out)) : w.heap.size ≤ gb231)); have n18_ := k0 ((by rw [hg]; exact (below_size (kW HB.out)) : w.heap.size ≤ gb231)); have n19_ := k0 ((by rw [hg]; exact Nat.ne_of_lt (blk_lt (g := gb156) (o := .cells #[.slice A0_0 l0_0.length c0_0, .slice A0_1 l0_1.length c0_1] 32 (0, 0)) (kB BK156.out)) : gb156 ≠ gb231)); have n20_ := k0 ((by rw [hg]; exact Nat.ne_of_gt (blk_lt (g := gb156) (o := .cells #[.slice A0_0 l0_0.length c0_0, .slice A0_1 l0_1.length c0_1] 32 (0, 0)) (kB BK156.out)) : gb231 ≠ gb156)); have n21_ := k0 ((by rw [hg]; exact Nat.ne_of_lt (blk_lt (g := gb174) (o := .cells #[.slice Ao28 t167.length co28, .slice Ao31 t170.length co31] 35 (0, 0)) (kB BK174.out)) : gb174 ≠ gb231)); have n22_ := k0 ((by rw [hg]; exact Nat.ne_of_gt (blk_lt (g := gb174) (o := .cells #[.slice Ao28 t167.length co28, .slice Ao31 t170.length co31] 35 (0, 0)) (kB BK174.out)) : gb231 ≠ gb174)); have n23_ := k0 ((by rw [hg]; exact Nat.ne_of_lt (blk_lt (g := gb181) (o := .cells #[.slice Ao35 t206.length co35, .slice Ao39 t207.length co39] 35 (0, 0)) (kB BK181.out)) : gb181 ≠ gb231)); have n24_ := k0 ((by rw [hg]; exact Nat.ne_of_gt (blk_lt (g := gb181) (o := .cells #[.slice Ao35 t206.length co35, .slice Ao39 t207.length co39] 35 (0, 0)) (kB BK181.out)) : gb231 ≠ gb181)); have n25_ := k0 ((by rw [hg]; exact Nat.ne_of_lt (blk_lt (g := gb192) (o := .cells #[.slice Ao45 t185.length co45, .slice Ao50 t188.length co50] 35 (0, 0)) (kB BK192.out)) : gb192 ≠ gb231)); have n26_ := k0 ((by rw [hg]; exact Nat.ne_of_gt (blk_lt (g := gb192) (o := .cells #[.slice Ao45 t185.length co45, .slice Ao50 t188.length co50] 35 (0, 0)) (kB BK192.out)) : gb231 ≠ gb192)); clear HO_175000; clear HO_175001; clear HO_182000; clear HO_182001; clear HO_193000; clear HO_193001; clear HO217; clear HO220; clear HO223; clear HO226; clear HO229; clear BK156; clear BK174; clear BK181; clear BK192; clear HB; have HO_175000 := n0_; have HO_175001 := n1_; have HO_182000 := n2_; have HO_182001 := n3_; have HO_193000 := n4_; have HO_193001 := n5_; have HO217 := n6_; have HO220 := n7_; have HO223 := n8_; have HO226 := n9_; have HO229 := n10_; have BK156 := n11_; have BK174 := n12_; have BK181 := n13_; have BK192 := n14_; have HB := n15_; have BK231 := n16_; have GW231 := n17_; have GE231 := n18_; have NB156_231 := n19_; have NB231_156 := n20_; have NB174_231 := n21_; have NB231_174 := n22_; have NB181_231 := n23_; have NB231_181 := n24_; have NB192_231 := n25_; have NB231_192 := n26_; clear n0_ n1_ n2_ n3_ n4_ n5_ n6_ n7_ n8_ n9_ n10_ n11_ n12_ n13_ n14_ n15_ n16_ n17_ n18_ n19_ n20_ n21_ n22_ n23_ n24_ n25_ n26_; clear hb hbox hg; obtain ⟨Ao137, co137, eo137⟩ := Kd.R_slice HO226.out; subst eo137; have hnb138 := NB231_156.out; have hnc138 := NB156_231.out; have hnb139 := NB231_174.out; have hnc139 := NB174_231.out; have hnb140 := NB231_181.out; have hnc140 := NB181_231.out; have hnb141 := NB231_192.out; have hnc141 := NB192_231.out; have hcz142_0 : w136.cell? ⟨gb231, 0, none⟩ = some (.slice none 0 0) := (blk_cell BK231.out 0).trans rfl; have hcz142_1 : w136.cell? ⟨gb231, 1, none⟩ = some (.slice none 0 0) := (blk_cell BK231.out 1).trans rfl; have hfz142_0 := blk_frozen BK231.out 0; have hfz142_1 := blk_frozen BK231.out 1; obtain ⟨Ao143, co143, eo143⟩ := Kd.R_slice HO229.out; subst eo143))
             (try simp only [Act.put, List.setIfInBounds_toArray, List.set_cons_zero, List.set_cons_succ])
             go_cut [108] (fun v108 wc => ∃ (kq : Nat) (x108_118 : Bool), v108 = .bool x108_118 ∧ Aside0 (laws_FnExactDiskReset.j2 kq t211 x108_118 t212 t213 = some r) ∧ Aside0 (kq ≤ kj77) ∧ Aside0 (Kd.R (Kd.int .u8) 5 wc w.heap.size (fun k_ => some k_ ≠ ((.slice Ao31 t170.length co31) : Value).ownBlock ∧ some k_ ≠ ((.slice Ao35 t206.length co35) : Value).ownBlock ∧ some k_ ≠ ((.slice Ao39 t207.length co39) : Value).ownBlock ∧ some k_ ≠ ((.slice Ao45 t185.length co45) : Value).ownBlock ∧ some k_ ≠ ((.slice Ao50 t188.length co50) : Value).ownBlock ∧ some k_ ≠ ((.slice Ao137 t224.length co137) : Value).ownBlock ∧ some k_ ≠ ((.slice Ao143 t227.length co143) : Value).ownBlock) (.slice Ao28 t167.length co28) t167) ∧ Aside0 (Kd.R (Kd.int .u8) 5 wc w.heap.size (fun k_ => some k_ ≠ ((.slice Ao28 t167.length co28) : Value).ownBlock ∧ some k_ ≠ ((.slice Ao35 t206.length co35) : Value).ownBlock ∧ some k_ ≠ ((.slice Ao39 t207.length co39) : Value).ownBlock ∧ some k_ ≠ ((.slice Ao45 t185.length co45) : Value).ownBlock ∧ some k_ ≠ ((.slice Ao50 t188.length co50) : Value).ownBlock ∧ some k_ ≠ ((.slice Ao137 t224.length co137) : Value).ownBlock ∧ some k_ ≠ ((.slice Ao143 t227.length co143) : Value).ownBlock) (.slice Ao31 t170.length co31) t170) ∧ Aside0 (Kd.R (Kd.int .u8) 5 wc w.heap.size (fun k_ => some k_ ≠ ((.slice Ao28 t167.length co28) : Value).ownBlock ∧ some k_ ≠ ((.slice Ao31 t170.length co31) : Value).ownBlock ∧ some k_ ≠ ((.slice Ao39 t207.length co39) : Value).ownBlock ∧ some k_ ≠ ((.slice Ao45 t185.length co45) : Value).ownBlock ∧ some k_ ≠ ((.slice Ao50 t188.length co50) : Value).ownBlock ∧ some k_ ≠ ((.slice Ao137 t224.length co137) : Value).ownBlock ∧ some k_ ≠ ((.slice Ao143 t227.length co143) : Value).ownBlock) (.slice Ao35 t206.length co35) t206) ∧ Aside0 (Kd.R (Kd.int .u8) 5 wc w.heap.size (fun k_ => some k_ ≠ ((.slice Ao28 t167.length co28) : Value).ownBlock ∧ some k_ ≠ ((.slice Ao31 t170.length co31) : Value).ownBlock ∧ some k_ ≠ ((.slice Ao35 t206.length co35) : Value).ownBlock ∧ some k_ ≠ ((.slice Ao45 t185.length co45) : Value).ownBlock ∧ some k_ ≠ ((.slice Ao50 t188.length co50) : Value).ownBlock ∧ some k_ ≠ ((.slice Ao137 t224.length co137) : Value).ownBlock ∧ some k_ ≠ ((.slice Ao143 t227.length co143) : Value).ownBlock) (.slice Ao39 t207.length co39) t207) ∧ Aside0 (Kd.R (Kd.int .u8) 5 wc w.heap.size (fun k_ => some k_ ≠ ((.slice Ao28 t167.length co28) : Value).ownBlock ∧ some k_ ≠ ((.slice Ao31 t170.length co31) : Value).ownBlock ∧ some k_ ≠ ((.slice Ao35 t206.length co35) : Value).ownBlock ∧ some k_ ≠ ((.slice Ao39 t207.length co39) : Value).ownBlock ∧ some k_ ≠ ((.slice Ao50 t188.length co50) : Value).ownBlock ∧ some k_ ≠ ((.slice Ao137 t224.length co137) : Value).ownBlock ∧ some k_ ≠ ((.slice Ao143 t227.length co143) : Value).ownBlock) (.slice Ao45 t185.length co45) t212) ∧ Aside0 (Kd.R (Kd.int .u8) 5 wc w.heap.size (fun k_ => some k_ ≠ ((.slice Ao28 t167.length co28) : Value).ownBlock ∧ some k_ ≠ ((.slice Ao31 t170.length co31) : Value).ownBlock ∧ some k_ ≠ ((.slice Ao35 t206.length co35) : Value).ownBlock ∧ some k_ ≠ ((.slice Ao39 t207.length co39) : Value).ownBlock ∧ some k_ ≠ ((.slice Ao45 t185.length co45) : Value).ownBlock ∧ some k_ ≠ ((.slice Ao137 t224.length co137) : Value).ownBlock ∧ some k_ ≠ ((.slice Ao143 t227.length co143) : Value).ownBlock) (.slice Ao50 t188.length co50) t213) ∧ Aside0 (Kd.R (Kd.int .u8) 5 wc w.heap.size (fun k_ => some k_ ≠ ((.slice Ao28 t167.length co28) : Value).ownBlock ∧ some k_ ≠ ((.slice Ao31 t170.length co31) : Value).ownBlock ∧ some k_ ≠ ((.slice Ao35 t206.length co35) : Value).ownBlock ∧ some k_ ≠ ((.slice Ao39 t207.length co39) : Value).ownBlock ∧ some k_ ≠ ((.slice Ao45 t185.length co45) : Value).ownBlock ∧ some k_ ≠ ((.slice Ao50 t188.length co50) : Value).ownBlock ∧ some k_ ≠ ((.slice Ao143 t227.length co143) : Value).ownBlock) (.slice Ao137 t224.length co137) t224) ∧ Aside0 (Kd.R (Kd.int .u8) 5 wc w.heap.size (fun k_ => some k_ ≠ ((.slice Ao28 t167.length co28) : Value).ownBlock ∧ some k_ ≠ ((.slice Ao31 t170.length co31) : Value).ownBlock ∧ some k_ ≠ ((.slice Ao35 t206.length co35) : Value).ownBlock ∧ some k_ ≠ ((.slice Ao39 t207.length co39) : Value).ownBlock ∧ some k_ ≠ ((.slice Ao45 t185.length co45) : Value).ownBlock ∧ some k_ ≠ ((.slice Ao50 t188.length co50) : Value).ownBlock ∧ some k_ ≠ ((.slice Ao137 t224.length co137) : Value).ownBlock) (.slice Ao143 t227.length co143) t227) ∧ Aside0 (wc.heap[gb156]? = some (.cells #[(.slice A0_0 l0_0.length c0_0), (.slice A0_1 l0_1.length c0_1)] 32 (0, 0))) ∧ Aside0 (wc.heap[gb174]? = some (.cells #[(.slice Ao28 t167.length co28), (.slice Ao31 t170.length co31)] 35 (0, 0))) ∧ Aside0 (wc.heap[gb181]? = some (.cells #[(.slice Ao35 t206.length co35), (.slice Ao39 t207.length co39)] 35 (0, 0))) ∧ Aside0 (wc.heap[gb192]? = some (.cells #[(.slice Ao45 t185.length co45), (.slice Ao50 t188.length co50)] 35 (0, 0))) ∧ Aside0 (wc.heap[gb231]? = some (.cells #[(.slice Ao137 t224.length co137), (.slice Ao143 t227.length co143)] 35 (0, 0))) ∧ Aside0 (Below w.heap.size w wc))
             case first =>
              have H := HC119.out
              clear HC119
              replace H := Option.bind_eq_some_iff.mp H
              obtain ⟨t232, A1440, H⟩ := H
              replace H : (if t232 = true then (laws_FnExactDiskReset.j2 kj77 t211 (t230 != t173) t212 t213) else (laws_FnExactDiskReset.j2 kj77 t211 true t212 t213)) = some r := H
              have A144 := Aside0.mk A1440
              clear A1440
              by_cases c145 : t232 = true
              ·subst c145
               have H1 : (laws_FnExactDiskReset.j2 kj77 t211 (t230 != t173) t212 t213) = some r := by rw [if_pos rfl] at H; exact H
               clear H
               have H := H1
               clear H1
               have H' := Aside0.mk H
               clear H
               have hnb146 := NB231_156.out
               have hnc146 := NB156_231.out
               have hnb147 := NB231_174.out
               have hnc147 := NB174_231.out
               have hnb148 := NB231_181.out
               have hnc148 := NB181_231.out
               have hnb149 := NB231_192.out
               have hnc149 := NB192_231.out
               have hcz150_0 : w136.cell? ⟨gb231, 0, none⟩ = some (.slice none 0 0) := (blk_cell BK231.out 0).trans rfl
               have hcz150_1 : w136.cell? ⟨gb231, 1, none⟩ = some (.slice none 0 0) := (blk_cell BK231.out 1).trans rfl
               have hfz150_0 := blk_frozen BK231.out 0
               have hfz150_1 := blk_frozen BK231.out 1
               have hnb151 := NB174_156.out
               have hnc151 := NB156_174.out
               have hnb152 := NB174_181.out
               have hnc152 := NB181_174.out
               have hnb153 := NB174_192.out
               have hnc153 := NB192_174.out
               have hcz154_0 : w136.cell? ⟨gb174, 0, none⟩ = some (.slice Ao28 t167.length co28) := (blk_cell BK174.out 0).trans rfl
               have hcz154_1 : w136.cell? ⟨gb174, 1, none⟩ = some (.slice Ao31 t170.length co31) := (blk_cell BK174.out 1).trans rfl
               have hfz154_0 := blk_frozen BK174.out 0
               have hfz154_1 := blk_frozen BK174.out 1
               go_wp2_with (first | ((with_reducible refine gate_callee (f := 23) rfl ?_); refine goesL_ (some 102) rfl rfl Try.func23 (by kernel_rfl) rfl #[.agg #[.slice Ao137 t224.length co137, .slice Ao143 t227.length co143], .agg #[.slice Ao28 t167.length co28, .slice Ao31 t170.length co31]] rfl (by (try simp only [List.map_toArray, List.map_cons, List.map_nil]); first | done | rfl | (simp only [List.length_drop, List.length_take]; rfl)) ?_; (with_reducible refine (laws_eqDisk.calls kj77 _ _ t224 _ _ t227 _ _ t167 _ _ t170 true _ ?side1 ?side2 ?side3 ?side4 ?side5 ?side6 ?side7 ?side8 A144.out).mono ?_); (case side1 => refine (Kd.R_reads' (e := 5) (base := w.heap.size) (ok := fun k_ => (((((((((some k_ ≠ (.slice Ao143 t227.length co143 : Value).ownBlock ∧ some k_ ≠ (.slice Ao28 t167.length co28 : Value).ownBlock) ∧ some k_ ≠ (.slice Ao31 t170.length co31 : Value).ownBlock) ∧ some k_ ≠ (.slice Ao35 t206.length co35 : Value).ownBlock) ∧ some k_ ≠ (.slice Ao39 t207.length co39 : Value).ownBlock) ∧ some k_ ≠ (.slice Ao45 t185.length co45 : Value).ownBlock) ∧ some k_ ≠ (.slice Ao50 t188.length co50 : Value).ownBlock) ∧ some k_ ≠ (.slice Ao132 t215.length co132 : Value).ownBlock) ∧ some k_ ≠ (.slice Ao133 t218.length co133 : Value).ownBlock) ∧ some k_ ≠ (.slice Ao134 t221.length co134 : Value).ownBlock)) (n := t224.length) (c := co137) ?_).2.2; exact (by (with_reducible repeat (first | apply Kd.R_alloc | apply Kd.R_drewN | apply Kd.R_drew)); exact (Kd.R_mono (Kd.R_far (p := ⟨gb231, 1, none⟩) (Kd.R_far (p := ⟨gb231, 0, none⟩) (Kd.R_types HO226.out BK231.out (by decide)) (fun _ hk => hk.2) (.slice Ao137 t224.length co137)) (fun _ hk => hk.2) (.slice Ao143 t227.length co143)) (fun _ h_ => h_.1)))); (case side2 => exact (Kd.R_reads' HO226.out).2.1); (case side3 => refine (Kd.R_reads' (e := 5) (base := w.heap.size) (ok := fun k_ => (((((((((some k_ ≠ (.slice Ao137 t224.length co137 : Value).ownBlock ∧ some k_ ≠ (.slice Ao28 t167.length co28 : Value).ownBlock) ∧ some k_ ≠ (.slice Ao31 t170.length co31 : Value).ownBlock) ∧ some k_ ≠ (.slice Ao35 t206.length co35 : Value).ownBlock) ∧ some k_ ≠ (.slice Ao39 t207.length co39 : Value).ownBlock) ∧ some k_ ≠ (.slice Ao45 t185.length co45 : Value).ownBlock) ∧ some k_ ≠ (.slice Ao50 t188.length co50 : Value).ownBlock) ∧ some k_ ≠ (.slice Ao132 t215.length co132 : Value).ownBlock) ∧ some k_ ≠ (.slice Ao133 t218.length co133 : Value).ownBlock) ∧ some k_ ≠ (.slice Ao134 t221.length co134 : Value).ownBlock)) (n := t227.length) (c := co143) ?_).2.2; exact (by (with_reducible repeat (first | apply Kd.R_alloc | apply Kd.R_drewN | apply Kd.R_drew)); exact (Kd.R_mono (Kd.R_far (p := ⟨gb231, 1, none⟩) (Kd.R_far (p := ⟨gb231, 0, none⟩) (Kd.R_types HO229.out BK231.out (by decide)) (fun _ hk => hk.2) (.slice Ao137 t224.length co137)) (fun _ hk => hk.2) (.slice Ao143 t227.length co143)) (fun _ h_ => h_.1)))); (case side4 => exact (Kd.R_reads' HO229.out).2.1); (case side5 => refine (Kd.R_reads' (e := 5) (base := w.heap.size) (ok := fun k_ => ((((((some k_ ≠ (.slice Ao31 t170.length co31 : Value).ownBlock ∧ (some k_ ≠ (.slice Ao35 t206.length co35 : Value).ownBlock ∧ (some k_ ≠ (.slice Ao39 t207.length co39 : Value).ownBlock ∧ (some k_ ≠ (.slice Ao45 t185.length co45 : Value).ownBlock ∧ some k_ ≠ (.slice Ao50 t188.length co50 : Value).ownBlock)))) ∧ some k_ ≠ (.slice Ao132 t215.length co132 : Value).ownBlock) ∧ some k_ ≠ (.slice Ao133 t218.length co133 : Value).ownBlock) ∧ some k_ ≠ (.slice Ao134 t221.length co134 : Value).ownBlock) ∧ some k_ ≠ (.slice Ao137 t224.length co137 : Value).ownBlock) ∧ some k_ ≠ (.slice Ao143 t227.length co143 : Value).ownBlock)) (n := t167.length) (c := co28) ?_).2.2; exact (by (with_reducible repeat (first | apply Kd.R_alloc | apply Kd.R_drewN | apply Kd.R_drew)); exact (Kd.R_mono (Kd.R_far (p := ⟨gb231, 1, none⟩) (Kd.R_far (p := ⟨gb231, 0, none⟩) (Kd.R_types HO_175000.out BK231.out (by decide)) (fun _ hk => hk.2) (.slice Ao137 t224.length co137)) (fun _ hk => hk.2) (.slice Ao143 t227.length co143)) (fun _ h_ => h_.1)))); (case side6 => exact (Kd.R_reads' HO_175000.out).2.1); (case side7 => refine (Kd.R_reads' (e := 5) (base := w.heap.size) (ok := fun k_ => ((((((some k_ ≠ (.slice Ao28 t167.length co28 : Value).ownBlock ∧ (some k_ ≠ (.slice Ao35 t206.length co35 : Value).ownBlock ∧ (some k_ ≠ (.slice Ao39 t207.length co39 : Value).ownBlock ∧ (some k_ ≠ (.slice Ao45 t185.length co45 : Value).ownBlock ∧ some k_ ≠ (.slice Ao50 t188.length co50 : Value).ownBlock)))) ∧ some k_ ≠ (.slice Ao132 t215.length co132 : Value).ownBlock) ∧ some k_ ≠ (.slice Ao133 t218.length co133 : Value).ownBlock) ∧ some k_ ≠ (.slice Ao134 t221.length co134 : Value).ownBlock) ∧ some k_ ≠ (.slice Ao137 t224.length co137 : Value).ownBlock) ∧ some k_ ≠ (.slice Ao143 t227.length co143 : Value).ownBlock)) (n := t170.length) (c := co31) ?_).2.2; exact (by (with_reducible repeat (first | apply Kd.R_alloc | apply Kd.R_drewN | apply Kd.R_drew)); exact (Kd.R_mono (Kd.R_far (p := ⟨gb231, 1, none⟩) (Kd.R_far (p := ⟨gb231, 0, none⟩) (Kd.R_types HO_175001.out BK231.out (by decide)) (fun _ hk => hk.2) (.slice Ao137 t224.length co137)) (fun _ hk => hk.2) (.slice Ao143 t227.length co143)) (fun _ h_ => h_.1)))); (case side8 => exact (Kd.R_reads' HO_175001.out).2.1); rintro e w155 ⟨rfl, hb⟩; refine ⟨_, rfl, ?_⟩; have n0_ := k0 (Kd.R_below (by (with_reducible repeat (first | apply Kd.R_alloc | apply Kd.R_drewN | apply Kd.R_drew)); exact (Kd.R_mono (Kd.R_far (p := ⟨gb231, 1, none⟩) (Kd.R_far (p := ⟨gb231, 0, none⟩) (Kd.R_types HO_175000.out BK231.out (by decide)) (fun _ hk => hk.2) (.slice Ao137 t224.length co137)) (fun _ hk => hk.2) (.slice Ao143 t227.length co143)) (fun _ h_ => h_.1))) hb); have n1_ := k0 (Kd.R_below (by (with_reducible repeat (first | apply Kd.R_alloc | apply Kd.R_drewN | apply Kd.R_drew)); exact (Kd.R_mono (Kd.R_far (p := ⟨gb231, 1, none⟩) (Kd.R_far (p := ⟨gb231, 0, none⟩) (Kd.R_types HO_175001.out BK231.out (by decide)) (fun _ hk => hk.2) (.slice Ao137 t224.length co137)) (fun _ hk => hk.2) (.slice Ao143 t227.length co143)) (fun _ h_ => h_.1))) hb); have n2_ := k0 (Kd.R_below (by (with_reducible repeat (first | apply Kd.R_alloc | apply Kd.R_drewN | apply Kd.R_drew)); exact (Kd.R_mono (Kd.R_far (p := ⟨gb231, 1, none⟩) (Kd.R_far (p := ⟨gb231, 0, none⟩) (Kd.R_types HO_182000.out BK231.out (by decide)) (fun _ hk => hk.2) (.slice Ao137 t224.length co137)) (fun _ hk => hk.2) (.slice Ao143 t227.length co143)) (fun _ h_ => h_.1))) hb); have n3_ := k0 (Kd.R_below (by (with_reducible repeat (first | apply Kd.R_alloc | apply Kd.R_drewN | apply Kd.R_drew)); exact (Kd.R_mono (Kd.R_far (p := ⟨gb231, 1, none⟩) (Kd.R_far (p := ⟨gb231, 0, none⟩) (Kd.R_types HO_182001.out BK231.out (by decide)) (fun _ hk => hk.2) (.slice Ao137 t224.length co137)) (fun _ hk => hk.2) (.slice Ao143 t227.length co143)) (fun _ h_ => h_.1))) hb); have n4_ := k0 (Kd.R_below (by (with_reducible repeat (first | apply Kd.R_alloc | apply Kd.R_drewN | apply Kd.R_drew)); exact (Kd.R_mono (Kd.R_far (p := ⟨gb231, 1, none⟩) (Kd.R_far (p := ⟨gb231, 0, none⟩) (Kd.R_types HO_193000.out BK231.out (by decide)) (fun _ hk => hk.2) (.slice Ao137 t224.length co137)) (fun _ hk => hk.2) (.slice Ao143 t227.length co143)) (fun _ h_ => h_.1))) hb); have n5_ := k0 (Kd.R_below (by (with_reducible repeat (first | apply Kd.R_alloc | apply Kd.R_drewN | apply Kd.R_drew)); exact (Kd.R_mono (Kd.R_far (p := ⟨gb231, 1, none⟩) (Kd.R_far (p := ⟨gb231, 0, none⟩) (Kd.R_types HO_193001.out BK231.out (by decide)) (fun _ hk => hk.2) (.slice Ao137 t224.length co137)) (fun _ hk => hk.2) (.slice Ao143 t227.length co143)) (fun _ h_ => h_.1))) hb); have n6_ := k0 (Kd.R_below (by (with_reducible repeat (first | apply Kd.R_alloc | apply Kd.R_drewN | apply Kd.R_drew)); exact (Kd.R_mono (Kd.R_far (p := ⟨gb231, 1, none⟩) (Kd.R_far (p := ⟨gb231, 0, none⟩) (Kd.R_types HO217.out BK231.out (by decide)) (fun _ hk => hk.2) (.slice Ao137 t224.length co137)) (fun _ hk => hk.2) (.slice Ao143 t227.length co143)) (fun _ h_ => h_.1))) hb); have n7_ := k0 (Kd.R_below (by (with_reducible repeat (first | apply Kd.R_alloc | apply Kd.R_drewN | apply Kd.R_drew)); exact (Kd.R_mono (Kd.R_far (p := ⟨gb231, 1, none⟩) (Kd.R_far (p := ⟨gb231, 0, none⟩) (Kd.R_types HO220.out BK231.out (by decide)) (fun _ hk => hk.2) (.slice Ao137 t224.length co137)) (fun _ hk => hk.2) (.slice Ao143 t227.length co143)) (fun _ h_ => h_.1))) hb); have n8_ := k0 (Kd.R_below (by (with_reducible repeat (first | apply Kd.R_alloc | apply Kd.R_drewN | apply Kd.R_drew)); exact (Kd.R_mono (Kd.R_far (p := ⟨gb231, 1, none⟩) (Kd.R_far (p := ⟨gb231, 0, none⟩) (Kd.R_types HO223.out BK231.out (by decide)) (fun _ hk => hk.2) (.slice Ao137 t224.length co137)) (fun _ hk => hk.2) (.slice Ao143 t227.length co143)) (fun _ h_ => h_.1))) hb); have n9_ := k0 (Kd.R_below (by (with_reducible repeat (first | apply Kd.R_alloc | apply Kd.R_drewN | apply Kd.R_drew)); exact (Kd.R_mono (Kd.R_far (p := ⟨gb231, 1, none⟩) (Kd.R_far (p := ⟨gb231, 0, none⟩) (Kd.R_types HO226.out BK231.out (by decide)) (fun _ hk => hk.2) (.slice Ao137 t224.length co137)) (fun _ hk => hk.2) (.slice Ao143 t227.length co143)) (fun _ h_ => h_.1))) hb); have n10_ := k0 (Kd.R_below (by (with_reducible repeat (first | apply Kd.R_alloc | apply Kd.R_drewN | apply Kd.R_drew)); exact (Kd.R_mono (Kd.R_far (p := ⟨gb231, 1, none⟩) (Kd.R_far (p := ⟨gb231, 0, none⟩) (Kd.R_types HO229.out BK231.out (by decide)) (fun _ hk => hk.2) (.slice Ao137 t224.length co137)) (fun _ hk => hk.2) (.slice Ao143 t227.length co143)) (fun _ h_ => h_.1))) hb); have n11_ := k0 (blk_below (g := gb156) (o := .cells #[.slice A0_0 l0_0.length c0_0, .slice A0_1 l0_1.length c0_1] 32 (0, 0)) (by (with_reducible repeat (first | refine blk_drewN ?_ _ | refine blk_drew ?_ | refine blk_alloc ?_ _)); refine blk_far ?_ NB156_231.out _; (with_reducible repeat (first | refine blk_drewN ?_ _ | refine blk_drew ?_ | refine blk_alloc ?_ _)); refine blk_far ?_ NB156_231.out _; (with_reducible repeat (first | refine blk_drewN ?_ _ | refine blk_drew ?_ | refine blk_alloc ?_ _)); exact BK156.out) hb); have n12_ := k0 (blk_below (g := gb174) (o := .cells #[.slice Ao28 t167.length co28, .slice Ao31 t170.length co31] 35 (0, 0)) (by (with_reducible repeat (first | refine blk_drewN ?_ _ | refine blk_drew ?_ | refine blk_alloc ?_ _)); refine blk_far ?_ NB174_231.out _; (with_reducible repeat (first | refine blk_drewN ?_ _ | refine blk_drew ?_ | refine blk_alloc ?_ _)); refine blk_far ?_ NB174_231.out _; (with_reducible repeat (first | refine blk_drewN ?_ _ | refine blk_drew ?_ | refine blk_alloc ?_ _)); exact BK174.out) hb); have n13_ := k0 (blk_below (g := gb181) (o := .cells #[.slice Ao35 t206.length co35, .slice Ao39 t207.length co39] 35 (0, 0)) (by (with_reducible repeat (first | refine blk_drewN ?_ _ | refine blk_drew ?_ | refine blk_alloc ?_ _)); refine blk_far ?_ NB181_231.out _; (with_reducible repeat (first | refine blk_drewN ?_ _ | refine blk_drew ?_ | refine blk_alloc ?_ _)); refine blk_far ?_ NB181_231.out _; (with_reducible repeat (first | refine blk_drewN ?_ _ | refine blk_drew ?_ | refine blk_alloc ?_ _)); exact BK181.out) hb); have n14_ := k0 (blk_below (g := gb192) (o := .cells #[.slice Ao45 t185.length co45, .slice Ao50 t188.length co50] 35 (0, 0)) (by (with_reducible repeat (first | refine blk_drewN ?_ _ | refine blk_drew ?_ | refine blk_alloc ?_ _)); refine blk_far ?_ NB192_231.out _; (with_reducible repeat (first | refine blk_drewN ?_ _ | refine blk_drew ?_ | refine blk_alloc ?_ _)); refine blk_far ?_ NB192_231.out _; (with_reducible repeat (first | refine blk_drewN ?_ _ | refine blk_drew ?_ | refine blk_alloc ?_ _)); exact BK192.out) hb); have n15_ := k0 (blk_below (g := gb231) (o := .cells #[.slice Ao137 t224.length co137, .slice Ao143 t227.length co143] 35 (0, 0)) (by (with_reducible repeat (first | refine blk_drewN ?_ _ | refine blk_drew ?_ | refine blk_alloc ?_ _)); refine blk_put (cs := #[.slice Ao137 t224.length co137, .slice none 0 0]) ?_ 1 _ rfl; (with_reducible repeat (first | refine blk_drewN ?_ _ | refine blk_drew ?_ | refine blk_alloc ?_ _)); refine blk_put (cs := #[.slice none 0 0, .slice none 0 0]) ?_ 0 _ rfl; (with_reducible repeat (first | refine blk_drewN ?_ _ | refine blk_drew ?_ | refine blk_alloc ?_ _)); exact BK231.out) hb); have n16_ := k0 (below_step (kW HB.out) hb); clear HO_175000; clear HO_175001; clear HO_182000; clear HO_182001; clear HO_193000; clear HO_193001; clear HO217; clear HO220; clear HO223; clear HO226; clear HO229; clear BK156; clear BK174; clear BK181; clear BK192; clear BK231; clear HB; have HO_175000 := n0_; have HO_175001 := n1_; have HO_182000 := n2_; have HO_182001 := n3_; have HO_193000 := n4_; have HO_193001 := n5_; have HO217 := n6_; have HO220 := n7_; have HO223 := n8_; have HO226 := n9_; have HO229 := n10_; have BK156 := n11_; have BK174 := n12_; have BK181 := n13_; have BK192 := n14_; have BK231 := n15_; have HB := n16_; clear n0_ n1_ n2_ n3_ n4_ n5_ n6_ n7_ n8_ n9_ n10_ n11_ n12_ n13_ n14_ n15_ n16_; (try clear hb); (try clear hb2); (try clear hk); (try clear hi)))
               go_meet
               case rel => exact ⟨_, ((t230 != t173)), (by first | rfl | (simp; done) | (simp [*]; done)), H', ⟨by have := HJ15.out; have := HJ77.out; first | omega | exact Nat.le_refl _⟩, ⟨by (try simp only [hl182000_77]); (try simp only [hl182001_77]); (with_reducible repeat (first | apply Kd.R_alloc | apply Kd.R_drewN | apply Kd.R_drew)); exact Kd.R_mono HO_175000.out (fun _ hk => ⟨hk.1.1.1.1.1.1, ⟨hk.1.1.1.1.1.2.1, ⟨hk.1.1.1.1.1.2.2.1, ⟨hk.1.1.1.1.1.2.2.2.1, ⟨hk.1.1.1.1.1.2.2.2.2, ⟨hk.1.2, hk.2⟩⟩⟩⟩⟩⟩)⟩, ⟨by (try simp only [hl182000_77]); (try simp only [hl182001_77]); (with_reducible repeat (first | apply Kd.R_alloc | apply Kd.R_drewN | apply Kd.R_drew)); exact Kd.R_mono HO_175001.out (fun _ hk => ⟨hk.1.1.1.1.1.1, ⟨hk.1.1.1.1.1.2.1, ⟨hk.1.1.1.1.1.2.2.1, ⟨hk.1.1.1.1.1.2.2.2.1, ⟨hk.1.1.1.1.1.2.2.2.2, ⟨hk.1.2, hk.2⟩⟩⟩⟩⟩⟩)⟩, ⟨by (try simp only [hl182000_77]); (try simp only [hl182001_77]); (with_reducible repeat (first | apply Kd.R_alloc | apply Kd.R_drewN | apply Kd.R_drew)); exact Kd.R_mono HO_182000.out (fun _ hk => ⟨hk.1.1.1.1.1.1, ⟨hk.1.1.1.1.1.2.1, ⟨hk.1.1.1.1.1.2.2.1, ⟨hk.1.1.1.1.1.2.2.2.1, ⟨hk.1.1.1.1.1.2.2.2.2, ⟨hk.1.2, hk.2⟩⟩⟩⟩⟩⟩)⟩, ⟨by (try simp only [hl182000_77]); (try simp only [hl182001_77]); (with_reducible repeat (first | apply Kd.R_alloc | apply Kd.R_drewN | apply Kd.R_drew)); exact Kd.R_mono HO_182001.out (fun _ hk => ⟨hk.1.1.1.1.1.1, ⟨hk.1.1.1.1.1.2.1, ⟨hk.1.1.1.1.1.2.2.1, ⟨hk.1.1.1.1.1.2.2.2.1, ⟨hk.1.1.1.1.1.2.2.2.2, ⟨hk.1.2, hk.2⟩⟩⟩⟩⟩⟩)⟩, ⟨by (try simp only [hl182000_77]); (try simp only [hl182001_77]); (with_reducible repeat (first | apply Kd.R_alloc | apply Kd.R_drewN | apply Kd.R_drew)); exact Kd.R_mono HO_193000.out (fun _ hk => ⟨hk.1.1.1.1.1.1, ⟨hk.1.1.1.1.1.2.1, ⟨hk.1.1.1.1.1.2.2.1, ⟨hk.1.1.1.1.1.2.2.2.1, ⟨hk.1.1.1.1.1.2.2.2.2, ⟨hk.1.2, hk.2⟩⟩⟩⟩⟩⟩)⟩, ⟨by (try simp only [hl182000_77]); (try simp only [hl182001_77]); (with_reducible repeat (first | apply Kd.R_alloc | apply Kd.R_drewN | apply Kd.R_drew)); exact Kd.R_mono HO_193001.out (fun _ hk => ⟨hk.1.1.1.1.1.1, ⟨hk.1.1.1.1.1.2.1, ⟨hk.1.1.1.1.1.2.2.1, ⟨hk.1.1.1.1.1.2.2.2.1, ⟨hk.1.1.1.1.1.2.2.2.2, ⟨hk.1.2, hk.2⟩⟩⟩⟩⟩⟩)⟩, ⟨by (try simp only [hl182000_77]); (try simp only [hl182001_77]); (with_reducible repeat (first | apply Kd.R_alloc | apply Kd.R_drewN | apply Kd.R_drew)); exact Kd.R_mono HO226.out (fun _ hk => ⟨hk.1.1.1.1.1.1.1.1.2, ⟨hk.1.1.1.1.1.1.1.2, ⟨hk.1.1.1.1.1.1.2, ⟨hk.1.1.1.1.1.2, ⟨hk.1.1.1.1.2, ⟨hk.1.1.1.2, hk.1.1.1.1.1.1.1.1.1⟩⟩⟩⟩⟩⟩)⟩, ⟨by (try simp only [hl182000_77]); (try simp only [hl182001_77]); (with_reducible repeat (first | apply Kd.R_alloc | apply Kd.R_drewN | apply Kd.R_drew)); exact Kd.R_mono HO229.out (fun _ hk => ⟨hk.1.1.1.1.1.1.1.1.2, ⟨hk.1.1.1.1.1.1.1.2, ⟨hk.1.1.1.1.1.1.2, ⟨hk.1.1.1.1.1.2, ⟨hk.1.1.1.1.2, ⟨hk.1.1.1.2, hk.1.1.1.1.1.1.1.1.1⟩⟩⟩⟩⟩⟩)⟩, ⟨by (try simp only [hl182000_77]); (try simp only [hl182001_77]); (with_reducible repeat (first | refine blk_drewN ?_ _ | refine blk_drew ?_ | refine blk_alloc ?_ _)); exact BK156.out⟩, ⟨by (try simp only [hl182000_77]); (try simp only [hl182001_77]); (with_reducible repeat (first | refine blk_drewN ?_ _ | refine blk_drew ?_ | refine blk_alloc ?_ _)); exact BK174.out⟩, ⟨by (try simp only [hl182000_77]); (try simp only [hl182001_77]); (with_reducible repeat (first | refine blk_drewN ?_ _ | refine blk_drew ?_ | refine blk_alloc ?_ _)); exact BK181.out⟩, ⟨by (try simp only [hl182000_77]); (try simp only [hl182001_77]); (with_reducible repeat (first | refine blk_drewN ?_ _ | refine blk_drew ?_ | refine blk_alloc ?_ _)); exact BK192.out⟩, ⟨by (try simp only [hl182000_77]); (try simp only [hl182001_77]); (with_reducible repeat (first | refine blk_drewN ?_ _ | refine blk_drew ?_ | refine blk_alloc ?_ _)); exact BK231.out⟩, ⟨by repeat (first | (with_reducible first | exact HB.out | apply below_alloc | apply pw_below_drewN | apply below_drew1 | refine below_set ?_ GE156.out | refine below_set ?_ GE174.out | refine below_set ?_ GE181.out | refine below_set ?_ GE192.out | refine below_set ?_ GE231.out) | exact HB.out)⟩⟩
              ·replace c145 := Bool.eq_false_iff.mpr c145
               subst c145
               have H1 : (laws_FnExactDiskReset.j2 kj77 t211 true t212 t213) = some r := by rw [if_neg (show ¬ (false = true) by decide)] at H; exact H
               clear H
               have H := H1
               clear H1
               have H' := Aside0.mk H
               clear H
               have hnb156 := NB231_156.out
               have hnc156 := NB156_231.out
               have hnb157 := NB231_174.out
               have hnc157 := NB174_231.out
               have hnb158 := NB231_181.out
               have hnc158 := NB181_231.out
               have hnb159 := NB231_192.out
               have hnc159 := NB192_231.out
               have hcz160_0 : w136.cell? ⟨gb231, 0, none⟩ = some (.slice none 0 0) := (blk_cell BK231.out 0).trans rfl
               have hcz160_1 : w136.cell? ⟨gb231, 1, none⟩ = some (.slice none 0 0) := (blk_cell BK231.out 1).trans rfl
               have hfz160_0 := blk_frozen BK231.out 0
               have hfz160_1 := blk_frozen BK231.out 1
               have hnb161 := NB174_156.out
               have hnc161 := NB156_174.out
               have hnb162 := NB174_181.out
               have hnc162 := NB181_174.out
               have hnb163 := NB174_192.out
               have hnc163 := NB192_174.out
               have hcz164_0 : w136.cell? ⟨gb174, 0, none⟩ = some (.slice Ao28 t167.length co28) := (blk_cell BK174.out 0).trans rfl
               have hcz164_1 : w136.cell? ⟨gb174, 1, none⟩ = some (.slice Ao31 t170.length co31) := (blk_cell BK174.out 1).trans rfl
               have hfz164_0 := blk_frozen BK174.out 0
               have hfz164_1 := blk_frozen BK174.out 1
               go_wp2_with (first | ((with_reducible refine gate_callee (f := 23) rfl ?_); refine goesL_ (some 102) rfl rfl Try.func23 (by kernel_rfl) rfl #[.agg #[.slice Ao137 t224.length co137, .slice Ao143 t227.length co143], .agg #[.slice Ao28 t167.length co28, .slice Ao31 t170.length co31]] rfl (by (try simp only [List.map_toArray, List.map_cons, List.map_nil]); first | done | rfl | (simp only [List.length_drop, List.length_take]; rfl)) ?_; (with_reducible refine (laws_eqDisk.calls kj77 _ _ t224 _ _ t227 _ _ t167 _ _ t170 false _ ?side1 ?side2 ?side3 ?side4 ?side5 ?side6 ?side7 ?side8 A144.out).mono ?_); (case side1 => refine (Kd.R_reads' (e := 5) (base := w.heap.size) (ok := fun k_ => (((((((((some k_ ≠ (.slice Ao143 t227.length co143 : Value).ownBlock ∧ some k_ ≠ (.slice Ao28 t167.length co28 : Value).ownBlock) ∧ some k_ ≠ (.slice Ao31 t170.length co31 : Value).ownBlock) ∧ some k_ ≠ (.slice Ao35 t206.length co35 : Value).ownBlock) ∧ some k_ ≠ (.slice Ao39 t207.length co39 : Value).ownBlock) ∧ some k_ ≠ (.slice Ao45 t185.length co45 : Value).ownBlock) ∧ some k_ ≠ (.slice Ao50 t188.length co50 : Value).ownBlock) ∧ some k_ ≠ (.slice Ao132 t215.length co132 : Value).ownBlock) ∧ some k_ ≠ (.slice Ao133 t218.length co133 : Value).ownBlock) ∧ some k_ ≠ (.slice Ao134 t221.length co134 : Value).ownBlock)) (n := t224.length) (c := co137) ?_).2.2; exact (by (with_reducible repeat (first | apply Kd.R_alloc | apply Kd.R_drewN | apply Kd.R_drew)); exact (Kd.R_mono (Kd.R_far (p := ⟨gb231, 1, none⟩) (Kd.R_far (p := ⟨gb231, 0, none⟩) (Kd.R_types HO226.out BK231.out (by decide)) (fun _ hk => hk.2) (.slice Ao137 t224.length co137)) (fun _ hk => hk.2) (.slice Ao143 t227.length co143)) (fun _ h_ => h_.1)))); (case side2 => exact (Kd.R_reads' HO226.out).2.1); (case side3 => refine (Kd.R_reads' (e := 5) (base := w.heap.size) (ok := fun k_ => (((((((((some k_ ≠ (.slice Ao137 t224.length co137 : Value).ownBlock ∧ some k_ ≠ (.slice Ao28 t167.length co28 : Value).ownBlock) ∧ some k_ ≠ (.slice Ao31 t170.length co31 : Value).ownBlock) ∧ some k_ ≠ (.slice Ao35 t206.length co35 : Value).ownBlock) ∧ some k_ ≠ (.slice Ao39 t207.length co39 : Value).ownBlock) ∧ some k_ ≠ (.slice Ao45 t185.length co45 : Value).ownBlock) ∧ some k_ ≠ (.slice Ao50 t188.length co50 : Value).ownBlock) ∧ some k_ ≠ (.slice Ao132 t215.length co132 : Value).ownBlock) ∧ some k_ ≠ (.slice Ao133 t218.length co133 : Value).ownBlock) ∧ some k_ ≠ (.slice Ao134 t221.length co134 : Value).ownBlock)) (n := t227.length) (c := co143) ?_).2.2; exact (by (with_reducible repeat (first | apply Kd.R_alloc | apply Kd.R_drewN | apply Kd.R_drew)); exact (Kd.R_mono (Kd.R_far (p := ⟨gb231, 1, none⟩) (Kd.R_far (p := ⟨gb231, 0, none⟩) (Kd.R_types HO229.out BK231.out (by decide)) (fun _ hk => hk.2) (.slice Ao137 t224.length co137)) (fun _ hk => hk.2) (.slice Ao143 t227.length co143)) (fun _ h_ => h_.1)))); (case side4 => exact (Kd.R_reads' HO229.out).2.1); (case side5 => refine (Kd.R_reads' (e := 5) (base := w.heap.size) (ok := fun k_ => ((((((some k_ ≠ (.slice Ao31 t170.length co31 : Value).ownBlock ∧ (some k_ ≠ (.slice Ao35 t206.length co35 : Value).ownBlock ∧ (some k_ ≠ (.slice Ao39 t207.length co39 : Value).ownBlock ∧ (some k_ ≠ (.slice Ao45 t185.length co45 : Value).ownBlock ∧ some k_ ≠ (.slice Ao50 t188.length co50 : Value).ownBlock)))) ∧ some k_ ≠ (.slice Ao132 t215.length co132 : Value).ownBlock) ∧ some k_ ≠ (.slice Ao133 t218.length co133 : Value).ownBlock) ∧ some k_ ≠ (.slice Ao134 t221.length co134 : Value).ownBlock) ∧ some k_ ≠ (.slice Ao137 t224.length co137 : Value).ownBlock) ∧ some k_ ≠ (.slice Ao143 t227.length co143 : Value).ownBlock)) (n := t167.length) (c := co28) ?_).2.2; exact (by (with_reducible repeat (first | apply Kd.R_alloc | apply Kd.R_drewN | apply Kd.R_drew)); exact (Kd.R_mono (Kd.R_far (p := ⟨gb231, 1, none⟩) (Kd.R_far (p := ⟨gb231, 0, none⟩) (Kd.R_types HO_175000.out BK231.out (by decide)) (fun _ hk => hk.2) (.slice Ao137 t224.length co137)) (fun _ hk => hk.2) (.slice Ao143 t227.length co143)) (fun _ h_ => h_.1)))); (case side6 => exact (Kd.R_reads' HO_175000.out).2.1); (case side7 => refine (Kd.R_reads' (e := 5) (base := w.heap.size) (ok := fun k_ => ((((((some k_ ≠ (.slice Ao28 t167.length co28 : Value).ownBlock ∧ (some k_ ≠ (.slice Ao35 t206.length co35 : Value).ownBlock ∧ (some k_ ≠ (.slice Ao39 t207.length co39 : Value).ownBlock ∧ (some k_ ≠ (.slice Ao45 t185.length co45 : Value).ownBlock ∧ some k_ ≠ (.slice Ao50 t188.length co50 : Value).ownBlock)))) ∧ some k_ ≠ (.slice Ao132 t215.length co132 : Value).ownBlock) ∧ some k_ ≠ (.slice Ao133 t218.length co133 : Value).ownBlock) ∧ some k_ ≠ (.slice Ao134 t221.length co134 : Value).ownBlock) ∧ some k_ ≠ (.slice Ao137 t224.length co137 : Value).ownBlock) ∧ some k_ ≠ (.slice Ao143 t227.length co143 : Value).ownBlock)) (n := t170.length) (c := co31) ?_).2.2; exact (by (with_reducible repeat (first | apply Kd.R_alloc | apply Kd.R_drewN | apply Kd.R_drew)); exact (Kd.R_mono (Kd.R_far (p := ⟨gb231, 1, none⟩) (Kd.R_far (p := ⟨gb231, 0, none⟩) (Kd.R_types HO_175001.out BK231.out (by decide)) (fun _ hk => hk.2) (.slice Ao137 t224.length co137)) (fun _ hk => hk.2) (.slice Ao143 t227.length co143)) (fun _ h_ => h_.1)))); (case side8 => exact (Kd.R_reads' HO_175001.out).2.1); rintro e w165 ⟨rfl, hb⟩; refine ⟨_, rfl, ?_⟩; have n0_ := k0 (Kd.R_below (by (with_reducible repeat (first | apply Kd.R_alloc | apply Kd.R_drewN | apply Kd.R_drew)); exact (Kd.R_mono (Kd.R_far (p := ⟨gb231, 1, none⟩) (Kd.R_far (p := ⟨gb231, 0, none⟩) (Kd.R_types HO_175000.out BK231.out (by decide)) (fun _ hk => hk.2) (.slice Ao137 t224.length co137)) (fun _ hk => hk.2) (.slice Ao143 t227.length co143)) (fun _ h_ => h_.1))) hb); have n1_ := k0 (Kd.R_below (by (with_reducible repeat (first | apply Kd.R_alloc | apply Kd.R_drewN | apply Kd.R_drew)); exact (Kd.R_mono (Kd.R_far (p := ⟨gb231, 1, none⟩) (Kd.R_far (p := ⟨gb231, 0, none⟩) (Kd.R_types HO_175001.out BK231.out (by decide)) (fun _ hk => hk.2) (.slice Ao137 t224.length co137)) (fun _ hk => hk.2) (.slice Ao143 t227.length co143)) (fun _ h_ => h_.1))) hb); have n2_ := k0 (Kd.R_below (by (with_reducible repeat (first | apply Kd.R_alloc | apply Kd.R_drewN | apply Kd.R_drew)); exact (Kd.R_mono (Kd.R_far (p := ⟨gb231, 1, none⟩) (Kd.R_far (p := ⟨gb231, 0, none⟩) (Kd.R_types HO_182000.out BK231.out (by decide)) (fun _ hk => hk.2) (.slice Ao137 t224.length co137)) (fun _ hk => hk.2) (.slice Ao143 t227.length co143)) (fun _ h_ => h_.1))) hb); have n3_ := k0 (Kd.R_below (by (with_reducible repeat (first | apply Kd.R_alloc | apply Kd.R_drewN | apply Kd.R_drew)); exact (Kd.R_mono (Kd.R_far (p := ⟨gb231, 1, none⟩) (Kd.R_far (p := ⟨gb231, 0, none⟩) (Kd.R_types HO_182001.out BK231.out (by decide)) (fun _ hk => hk.2) (.slice Ao137 t224.length co137)) (fun _ hk => hk.2) (.slice Ao143 t227.length co143)) (fun _ h_ => h_.1))) hb); have n4_ := k0 (Kd.R_below (by (with_reducible repeat (first | apply Kd.R_alloc | apply Kd.R_drewN | apply Kd.R_drew)); exact (Kd.R_mono (Kd.R_far (p := ⟨gb231, 1, none⟩) (Kd.R_far (p := ⟨gb231, 0, none⟩) (Kd.R_types HO_193000.out BK231.out (by decide)) (fun _ hk => hk.2) (.slice Ao137 t224.length co137)) (fun _ hk => hk.2) (.slice Ao143 t227.length co143)) (fun _ h_ => h_.1))) hb); have n5_ := k0 (Kd.R_below (by (with_reducible repeat (first | apply Kd.R_alloc | apply Kd.R_drewN | apply Kd.R_drew)); exact (Kd.R_mono (Kd.R_far (p := ⟨gb231, 1, none⟩) (Kd.R_far (p := ⟨gb231, 0, none⟩) (Kd.R_types HO_193001.out BK231.out (by decide)) (fun _ hk => hk.2) (.slice Ao137 t224.length co137)) (fun _ hk => hk.2) (.slice Ao143 t227.length co143)) (fun _ h_ => h_.1))) hb); have n6_ := k0 (Kd.R_below (by (with_reducible repeat (first | apply Kd.R_alloc | apply Kd.R_drewN | apply Kd.R_drew)); exact (Kd.R_mono (Kd.R_far (p := ⟨gb231, 1, none⟩) (Kd.R_far (p := ⟨gb231, 0, none⟩) (Kd.R_types HO217.out BK231.out (by decide)) (fun _ hk => hk.2) (.slice Ao137 t224.length co137)) (fun _ hk => hk.2) (.slice Ao143 t227.length co143)) (fun _ h_ => h_.1))) hb); have n7_ := k0 (Kd.R_below (by (with_reducible repeat (first | apply Kd.R_alloc | apply Kd.R_drewN | apply Kd.R_drew)); exact (Kd.R_mono (Kd.R_far (p := ⟨gb231, 1, none⟩) (Kd.R_far (p := ⟨gb231, 0, none⟩) (Kd.R_types HO220.out BK231.out (by decide)) (fun _ hk => hk.2) (.slice Ao137 t224.length co137)) (fun _ hk => hk.2) (.slice Ao143 t227.length co143)) (fun _ h_ => h_.1))) hb); have n8_ := k0 (Kd.R_below (by (with_reducible repeat (first | apply Kd.R_alloc | apply Kd.R_drewN | apply Kd.R_drew)); exact (Kd.R_mono (Kd.R_far (p := ⟨gb231, 1, none⟩) (Kd.R_far (p := ⟨gb231, 0, none⟩) (Kd.R_types HO223.out BK231.out (by decide)) (fun _ hk => hk.2) (.slice Ao137 t224.length co137)) (fun _ hk => hk.2) (.slice Ao143 t227.length co143)) (fun _ h_ => h_.1))) hb); have n9_ := k0 (Kd.R_below (by (with_reducible repeat (first | apply Kd.R_alloc | apply Kd.R_drewN | apply Kd.R_drew)); exact (Kd.R_mono (Kd.R_far (p := ⟨gb231, 1, none⟩) (Kd.R_far (p := ⟨gb231, 0, none⟩) (Kd.R_types HO226.out BK231.out (by decide)) (fun _ hk => hk.2) (.slice Ao137 t224.length co137)) (fun _ hk => hk.2) (.slice Ao143 t227.length co143)) (fun _ h_ => h_.1))) hb); have n10_ := k0 (Kd.R_below (by (with_reducible repeat (first | apply Kd.R_alloc | apply Kd.R_drewN | apply Kd.R_drew)); exact (Kd.R_mono (Kd.R_far (p := ⟨gb231, 1, none⟩) (Kd.R_far (p := ⟨gb231, 0, none⟩) (Kd.R_types HO229.out BK231.out (by decide)) (fun _ hk => hk.2) (.slice Ao137 t224.length co137)) (fun _ hk => hk.2) (.slice Ao143 t227.length co143)) (fun _ h_ => h_.1))) hb); have n11_ := k0 (blk_below (g := gb156) (o := .cells #[.slice A0_0 l0_0.length c0_0, .slice A0_1 l0_1.length c0_1] 32 (0, 0)) (by (with_reducible repeat (first | refine blk_drewN ?_ _ | refine blk_drew ?_ | refine blk_alloc ?_ _)); refine blk_far ?_ NB156_231.out _; (with_reducible repeat (first | refine blk_drewN ?_ _ | refine blk_drew ?_ | refine blk_alloc ?_ _)); refine blk_far ?_ NB156_231.out _; (with_reducible repeat (first | refine blk_drewN ?_ _ | refine blk_drew ?_ | refine blk_alloc ?_ _)); exact BK156.out) hb); have n12_ := k0 (blk_below (g := gb174) (o := .cells #[.slice Ao28 t167.length co28, .slice Ao31 t170.length co31] 35 (0, 0)) (by (with_reducible repeat (first | refine blk_drewN ?_ _ | refine blk_drew ?_ | refine blk_alloc ?_ _)); refine blk_far ?_ NB174_231.out _; (with_reducible repeat (first | refine blk_drewN ?_ _ | refine blk_drew ?_ | refine blk_alloc ?_ _)); refine blk_far ?_ NB174_231.out _; (with_reducible repeat (first | refine blk_drewN ?_ _ | refine blk_drew ?_ | refine blk_alloc ?_ _)); exact BK174.out) hb); have n13_ := k0 (blk_below (g := gb181) (o := .cells #[.slice Ao35 t206.length co35, .slice Ao39 t207.length co39] 35 (0, 0)) (by (with_reducible repeat (first | refine blk_drewN ?_ _ | refine blk_drew ?_ | refine blk_alloc ?_ _)); refine blk_far ?_ NB181_231.out _; (with_reducible repeat (first | refine blk_drewN ?_ _ | refine blk_drew ?_ | refine blk_alloc ?_ _)); refine blk_far ?_ NB181_231.out _; (with_reducible repeat (first | refine blk_drewN ?_ _ | refine blk_drew ?_ | refine blk_alloc ?_ _)); exact BK181.out) hb); have n14_ := k0 (blk_below (g := gb192) (o := .cells #[.slice Ao45 t185.length co45, .slice Ao50 t188.length co50] 35 (0, 0)) (by (with_reducible repeat (first | refine blk_drewN ?_ _ | refine blk_drew ?_ | refine blk_alloc ?_ _)); refine blk_far ?_ NB192_231.out _; (with_reducible repeat (first | refine blk_drewN ?_ _ | refine blk_drew ?_ | refine blk_alloc ?_ _)); refine blk_far ?_ NB192_231.out _; (with_reducible repeat (first | refine blk_drewN ?_ _ | refine blk_drew ?_ | refine blk_alloc ?_ _)); exact BK192.out) hb); have n15_ := k0 (blk_below (g := gb231) (o := .cells #[.slice Ao137 t224.length co137, .slice Ao143 t227.length co143] 35 (0, 0)) (by (with_reducible repeat (first | refine blk_drewN ?_ _ | refine blk_drew ?_ | refine blk_alloc ?_ _)); refine blk_put (cs := #[.slice Ao137 t224.length co137, .slice none 0 0]) ?_ 1 _ rfl; (with_reducible repeat (first | refine blk_drewN ?_ _ | refine blk_drew ?_ | refine blk_alloc ?_ _)); refine blk_put (cs := #[.slice none 0 0, .slice none 0 0]) ?_ 0 _ rfl; (with_reducible repeat (first | refine blk_drewN ?_ _ | refine blk_drew ?_ | refine blk_alloc ?_ _)); exact BK231.out) hb); have n16_ := k0 (below_step (kW HB.out) hb); clear HO_175000; clear HO_175001; clear HO_182000; clear HO_182001; clear HO_193000; clear HO_193001; clear HO217; clear HO220; clear HO223; clear HO226; clear HO229; clear BK156; clear BK174; clear BK181; clear BK192; clear BK231; clear HB; have HO_175000 := n0_; have HO_175001 := n1_; have HO_182000 := n2_; have HO_182001 := n3_; have HO_193000 := n4_; have HO_193001 := n5_; have HO217 := n6_; have HO220 := n7_; have HO223 := n8_; have HO226 := n9_; have HO229 := n10_; have BK156 := n11_; have BK174 := n12_; have BK181 := n13_; have BK192 := n14_; have BK231 := n15_; have HB := n16_; clear n0_ n1_ n2_ n3_ n4_ n5_ n6_ n7_ n8_ n9_ n10_ n11_ n12_ n13_ n14_ n15_ n16_; (try clear hb); (try clear hb2); (try clear hk); (try clear hi)))
               go_meet
               case rel => exact ⟨_, (true), (by first | rfl | (simp; done) | (simp [*]; done)), H', ⟨by have := HJ15.out; have := HJ77.out; first | omega | exact Nat.le_refl _⟩, ⟨by (try simp only [hl182000_77]); (try simp only [hl182001_77]); (with_reducible repeat (first | apply Kd.R_alloc | apply Kd.R_drewN | apply Kd.R_drew)); exact Kd.R_mono HO_175000.out (fun _ hk => ⟨hk.1.1.1.1.1.1, ⟨hk.1.1.1.1.1.2.1, ⟨hk.1.1.1.1.1.2.2.1, ⟨hk.1.1.1.1.1.2.2.2.1, ⟨hk.1.1.1.1.1.2.2.2.2, ⟨hk.1.2, hk.2⟩⟩⟩⟩⟩⟩)⟩, ⟨by (try simp only [hl182000_77]); (try simp only [hl182001_77]); (with_reducible repeat (first | apply Kd.R_alloc | apply Kd.R_drewN | apply Kd.R_drew)); exact Kd.R_mono HO_175001.out (fun _ hk => ⟨hk.1.1.1.1.1.1, ⟨hk.1.1.1.1.1.2.1, ⟨hk.1.1.1.1.1.2.2.1, ⟨hk.1.1.1.1.1.2.2.2.1, ⟨hk.1.1.1.1.1.2.2.2.2, ⟨hk.1.2, hk.2⟩⟩⟩⟩⟩⟩)⟩, ⟨by (try simp only [hl182000_77]); (try simp only [hl182001_77]); (with_reducible repeat (first | apply Kd.R_alloc | apply Kd.R_drewN | apply Kd.R_drew)); exact Kd.R_mono HO_182000.out (fun _ hk => ⟨hk.1.1.1.1.1.1, ⟨hk.1.1.1.1.1.2.1, ⟨hk.1.1.1.1.1.2.2.1, ⟨hk.1.1.1.1.1.2.2.2.1, ⟨hk.1.1.1.1.1.2.2.2.2, ⟨hk.1.2, hk.2⟩⟩⟩⟩⟩⟩)⟩, ⟨by (try simp only [hl182000_77]); (try simp only [hl182001_77]); (with_reducible repeat (first | apply Kd.R_alloc | apply Kd.R_drewN | apply Kd.R_drew)); exact Kd.R_mono HO_182001.out (fun _ hk => ⟨hk.1.1.1.1.1.1, ⟨hk.1.1.1.1.1.2.1, ⟨hk.1.1.1.1.1.2.2.1, ⟨hk.1.1.1.1.1.2.2.2.1, ⟨hk.1.1.1.1.1.2.2.2.2, ⟨hk.1.2, hk.2⟩⟩⟩⟩⟩⟩)⟩, ⟨by (try simp only [hl182000_77]); (try simp only [hl182001_77]); (with_reducible repeat (first | apply Kd.R_alloc | apply Kd.R_drewN | apply Kd.R_drew)); exact Kd.R_mono HO_193000.out (fun _ hk => ⟨hk.1.1.1.1.1.1, ⟨hk.1.1.1.1.1.2.1, ⟨hk.1.1.1.1.1.2.2.1, ⟨hk.1.1.1.1.1.2.2.2.1, ⟨hk.1.1.1.1.1.2.2.2.2, ⟨hk.1.2, hk.2⟩⟩⟩⟩⟩⟩)⟩, ⟨by (try simp only [hl182000_77]); (try simp only [hl182001_77]); (with_reducible repeat (first | apply Kd.R_alloc | apply Kd.R_drewN | apply Kd.R_drew)); exact Kd.R_mono HO_193001.out (fun _ hk => ⟨hk.1.1.1.1.1.1, ⟨hk.1.1.1.1.1.2.1, ⟨hk.1.1.1.1.1.2.2.1, ⟨hk.1.1.1.1.1.2.2.2.1, ⟨hk.1.1.1.1.1.2.2.2.2, ⟨hk.1.2, hk.2⟩⟩⟩⟩⟩⟩)⟩, ⟨by (try simp only [hl182000_77]); (try simp only [hl182001_77]); (with_reducible repeat (first | apply Kd.R_alloc | apply Kd.R_drewN | apply Kd.R_drew)); exact Kd.R_mono HO226.out (fun _ hk => ⟨hk.1.1.1.1.1.1.1.1.2, ⟨hk.1.1.1.1.1.1.1.2, ⟨hk.1.1.1.1.1.1.2, ⟨hk.1.1.1.1.1.2, ⟨hk.1.1.1.1.2, ⟨hk.1.1.1.2, hk.1.1.1.1.1.1.1.1.1⟩⟩⟩⟩⟩⟩)⟩, ⟨by (try simp only [hl182000_77]); (try simp only [hl182001_77]); (with_reducible repeat (first | apply Kd.R_alloc | apply Kd.R_drewN | apply Kd.R_drew)); exact Kd.R_mono HO229.out (fun _ hk => ⟨hk.1.1.1.1.1.1.1.1.2, ⟨hk.1.1.1.1.1.1.1.2, ⟨hk.1.1.1.1.1.1.2, ⟨hk.1.1.1.1.1.2, ⟨hk.1.1.1.1.2, ⟨hk.1.1.1.2, hk.1.1.1.1.1.1.1.1.1⟩⟩⟩⟩⟩⟩)⟩, ⟨by (try simp only [hl182000_77]); (try simp only [hl182001_77]); (with_reducible repeat (first | refine blk_drewN ?_ _ | refine blk_drew ?_ | refine blk_alloc ?_ _)); exact BK156.out⟩, ⟨by (try simp only [hl182000_77]); (try simp only [hl182001_77]); (with_reducible repeat (first | refine blk_drewN ?_ _ | refine blk_drew ?_ | refine blk_alloc ?_ _)); exact BK174.out⟩, ⟨by (try simp only [hl182000_77]); (try simp only [hl182001_77]); (with_reducible repeat (first | refine blk_drewN ?_ _ | refine blk_drew ?_ | refine blk_alloc ?_ _)); exact BK181.out⟩, ⟨by (try simp only [hl182000_77]); (try simp only [hl182001_77]); (with_reducible repeat (first | refine blk_drewN ?_ _ | refine blk_drew ?_ | refine blk_alloc ?_ _)); exact BK192.out⟩, ⟨by (try simp only [hl182000_77]); (try simp only [hl182001_77]); (with_reducible repeat (first | refine blk_drewN ?_ _ | refine blk_drew ?_ | refine blk_alloc ?_ _)); exact BK231.out⟩, ⟨by repeat (first | (with_reducible first | exact HB.out | apply below_alloc | apply pw_below_drewN | apply below_drew1 | refine below_set ?_ GE156.out | refine below_set ?_ GE174.out | refine below_set ?_ GE181.out | refine below_set ?_ GE192.out | refine below_set ?_ GE231.out) | exact HB.out)⟩⟩
             case rest =>
              clear HC119
              try clear c1
              try clear c2
              try clear p2
              try clear c3
              try clear c3b0
              try clear c3b1
              try clear c4
              try clear c5
              try clear c6
              try clear c6b0
              try clear c7
              try clear c8
              try clear c9
              try clear c10
              try clear c11
              try clear c12
              try clear c13
              try clear c14
              try clear c15
              try clear c16
              try clear c19
              try clear c21
              try clear c23
              try clear c29
              try clear c31
              try clear c35
              try clear c36
              try clear c37
              try clear c40
              try clear c42
              try clear c43
              try clear c46
              try clear c47
              try clear c48
              try clear c52
              try clear c53
              try clear c54
              try clear c55
              try clear c57
              try clear c58
              try clear c61
              try clear c62
              try clear c63
              try clear c65
              try clear c66
              try clear c69
              try clear c72
              try clear c75
              try clear c86
              try clear c87
              try clear c88
              try clear c92
              try clear c92b0
              try clear c94
              try clear c95
              try clear c96
              try clear c97
              try clear c99
              try clear c100
              try clear c103
              try clear c104
              try clear c105
              try clear c107
              try clear c108
              try clear c111
              try clear c114
              try clear c114b0
              try clear c115
              try clear c115b0
              try clear c115b1
              try clear c120
              try clear c121
              try clear c122
              try clear c127
              try clear c128
              try clear c138
              try clear c139
              try clear c140
              try clear c141
              try clear c145
              try clear c146
              try clear c147
              try clear c148
              try clear c149
              try clear c151
              try clear c152
              try clear c153
              try clear c156
              try clear c157
              try clear c158
              try clear c159
              try clear c161
              try clear c162
              try clear c163
              try clear hcz101_0
              try clear hcz101_1
              try clear hcz106_0
              try clear hcz106_1
              try clear hcz109_0
              try clear hcz109_1
              try clear hcz123_0
              try clear hcz123_1
              try clear hcz125_0
              try clear hcz125_1
              try clear hcz129_0
              try clear hcz129_1
              try clear hcz142_0
              try clear hcz142_1
              try clear hcz150_0
              try clear hcz150_1
              try clear hcz154_0
              try clear hcz154_1
              try clear hcz160_0
              try clear hcz160_1
              try clear hcz164_0
              try clear hcz164_1
              try clear hcz18_0
              try clear hcz18_1
              try clear hcz20_0
              try clear hcz20_1
              try clear hcz30_0
              try clear hcz30_1
              try clear hcz32_0
              try clear hcz32_1
              try clear hcz38_0
              try clear hcz38_1
              try clear hcz41_0
              try clear hcz41_1
              try clear hcz49_0
              try clear hcz49_1
              try clear hcz56_0
              try clear hcz56_1
              try clear hcz59_0
              try clear hcz59_1
              try clear hcz64_0
              try clear hcz64_1
              try clear hcz67_0
              try clear hcz67_1
              try clear hcz89_0
              try clear hcz89_1
              try clear hcz8_0
              try clear hcz8_1
              try clear hcz98_0
              try clear hcz98_1
              try clear hfz101_0
              try clear hfz101_1
              try clear hfz106_0
              try clear hfz106_1
              try clear hfz109_0
              try clear hfz109_1
              try clear hfz123_0
              try clear hfz123_1
              try clear hfz125_0
              try clear hfz125_1
              try clear hfz129_0
              try clear hfz129_1
              try clear hfz142_0
              try clear hfz142_1
              try clear hfz150_0
              try clear hfz150_1
              try clear hfz154_0
              try clear hfz154_1
              try clear hfz160_0
              try clear hfz160_1
              try clear hfz164_0
              try clear hfz164_1
              try clear hfz18_0
              try clear hfz18_1
              try clear hfz20_0
              try clear hfz20_1
              try clear hfz30_0
              try clear hfz30_1
              try clear hfz32_0
              try clear hfz32_1
              try clear hfz38_0
              try clear hfz38_1
              try clear hfz41_0
              try clear hfz41_1
              try clear hfz49_0
              try clear hfz49_1
              try clear hfz56_0
              try clear hfz56_1
              try clear hfz59_0
              try clear hfz59_1
              try clear hfz64_0
              try clear hfz64_1
              try clear hfz67_0
              try clear hfz67_1
              try clear hfz89_0
              try clear hfz89_1
              try clear hfz8_0
              try clear hfz8_1
              try clear hfz98_0
              try clear hfz98_1
              try clear p2
              obtain ⟨kq, x108_118, rfl, HA, HJ118, HO_175000, HO_175001, HO_182000, HO_182001, HO_193000, HO_193001, HO_232000, HO_232001, BK156, BK174, BK181, BK192, BK231, HB⟩ := hcut
              have hl193000_118 := (Kd.R_reads' HO_193000.out).1
              rw [hl193000_118] at HO_193000
              (try simp only [hl193000_118])
              (try simp only [hl193000_118] at BK156)
              (try simp only [hl193000_118] at BK174)
              (try simp only [hl193000_118] at BK181)
              (try simp only [hl193000_118] at BK192)
              (try simp only [hl193000_118] at BK231)
              (try simp only [hl193000_118] at HO_175000)
              (try simp only [hl193000_118] at HO_175001)
              (try simp only [hl193000_118] at HO_182000)
              (try simp only [hl193000_118] at HO_182001)
              (try simp only [hl193000_118] at HO_193001)
              (try simp only [hl193000_118] at HO_232000)
              (try simp only [hl193000_118] at HO_232001)
              have hl193001_118 := (Kd.R_reads' HO_193001.out).1
              rw [hl193001_118] at HO_193001
              (try simp only [hl193001_118])
              (try simp only [hl193001_118] at BK156)
              (try simp only [hl193001_118] at BK174)
              (try simp only [hl193001_118] at BK181)
              (try simp only [hl193001_118] at BK192)
              (try simp only [hl193001_118] at BK231)
              (try simp only [hl193001_118] at HO_175000)
              (try simp only [hl193001_118] at HO_175001)
              (try simp only [hl193001_118] at HO_182000)
              (try simp only [hl193001_118] at HO_182001)
              (try simp only [hl193001_118] at HO_193000)
              (try simp only [hl193001_118] at HO_232000)
              (try simp only [hl193001_118] at HO_232001)
              cases kq with
              | zero => exact absurd HA.out (by simp [laws_FnExactDiskReset.j2])
              | succ kj118 =>
               have H := HA.out
               clear HA
               simp only [laws_FnExactDiskReset.j2] at H
               by_cases c166 : x108_118 = true
               ·subst c166
                have H1 : (some false) = some r := by rw [if_pos rfl] at H; exact H
                clear H
                have H := H1
                clear H1
                exact absurd ((Option.some.inj H).trans HR.out) (by decide)
               ·replace c166 := Bool.eq_false_iff.mpr c166
                subst c166
                have H1 : ((laws_heldDisk.f kj118 t212 t213 1).bind fun t233 => (if t233 < 0 then (some false) else (if t233 = t211 then (some true) else (some false)))) = some r := by rw [if_neg (show ¬ (false = true) by decide)] at H; exact H
                clear H
                have H := H1
                clear H1
                replace H := Option.bind_eq_some_iff.mp H
                obtain ⟨t233, A1670, H⟩ := H
                replace H : (if t233 < 0 then (some false) else (if t233 = t211 then (some true) else (some false))) = some r := H
                have A167 := Aside0.mk A1670
                clear A1670
                by_cases c168 : t233 < 0
                ·rw [if_pos c168] at H
                 have c168b0 : decide (t233 < 0) = true := decide_eq_true c168
                 clear c168
                 exact absurd ((Option.some.inj H).trans HR.out) (by decide)
                ·rw [if_neg c168] at H
                 have c168b0 : decide (t233 < 0) = false := decide_eq_false c168
                 clear c168
                 by_cases c169 : t233 = t211
                 ·rw [if_pos c169] at H
                  have c169b0 : (t233 == t211) = true := beq_iff_eq.mpr c169
                  have c169b1 : (t233 != t211) = false := bne_eq_false_iff_eq.mpr c169
                  clear c169
                  obtain rfl := Option.some.inj H
                  have hnb170 := NB192_156.out
                  have hnc170 := NB156_192.out
                  have hnb171 := NB192_174.out
                  have hnc171 := NB174_192.out
                  have hnb172 := NB192_181.out
                  have hnc172 := NB181_192.out
                  have hnb173 := NB192_231.out
                  have hnc173 := NB231_192.out
                  have hcz174_0 : wc.cell? ⟨gb192, 0, none⟩ = some (.slice Ao45 t212.length co45) := (blk_cell BK192.out 0).trans rfl
                  have hcz174_1 : wc.cell? ⟨gb192, 1, none⟩ = some (.slice Ao50 t213.length co50) := (blk_cell BK192.out 1).trans rfl
                  have hfz174_0 := blk_frozen BK192.out 0
                  have hfz174_1 := blk_frozen BK192.out 1
                  go_wp2_with (first | ((with_reducible refine gate_callee (f := 40) rfl ?_); refine goesL_ (some 111) rfl rfl Try.func40 (by kernel_rfl) rfl #[.agg #[.slice Ao45 t212.length co45, .slice Ao50 t213.length co50], .int .i64 1] rfl (by (try simp only [List.map_toArray, List.map_cons, List.map_nil]); first | done | rfl | (simp only [List.length_drop, List.length_take]; rfl)) ?_; (with_reducible refine (laws_heldDisk.calls kj118 _ _ t212 _ _ t213 1 t233 _ ?side1 ?side2 ?side3 ?side4 A167.out).mono ?_); (case side1 => repeat (first | exact (Kd.R_reads' HO_193000.out).2.2 | (with_reducible refine Kd.C_alloc ?_ _) | (with_reducible refine Kd.C_drewN ?_ _) | (with_reducible refine Kd.C_drew ?_))); (case side2 => exact (Kd.R_reads' HO_193000.out).2.1); (case side3 => repeat (first | exact (Kd.R_reads' HO_193001.out).2.2 | (with_reducible refine Kd.C_alloc ?_ _) | (with_reducible refine Kd.C_drewN ?_ _) | (with_reducible refine Kd.C_drew ?_))); (case side4 => exact (Kd.R_reads' HO_193001.out).2.1); rintro e w175 ⟨rfl, hb⟩; refine ⟨_, rfl, ?_⟩; have n0_ := k0 (Kd.R_below (kR HO_175000.out) hb); have n1_ := k0 (Kd.R_below (kR HO_175001.out) hb); have n2_ := k0 (Kd.R_below (kR HO_182000.out) hb); have n3_ := k0 (Kd.R_below (kR HO_182001.out) hb); have n4_ := k0 (Kd.R_below (kR HO_193000.out) hb); have n5_ := k0 (Kd.R_below (kR HO_193001.out) hb); have n6_ := k0 (Kd.R_below (kR HO_232000.out) hb); have n7_ := k0 (Kd.R_below (kR HO_232001.out) hb); have n8_ := k0 (kb BK156.out hb); have n9_ := k0 (kb BK174.out hb); have n10_ := k0 (kb BK181.out hb); have n11_ := k0 (kb BK192.out hb); have n12_ := k0 (kb BK231.out hb); have n13_ := k0 (below_step (kW HB.out) hb); clear HO_175000; clear HO_175001; clear HO_182000; clear HO_182001; clear HO_193000; clear HO_193001; clear HO_232000; clear HO_232001; clear BK156; clear BK174; clear BK181; clear BK192; clear BK231; clear HB; have HO_175000 := n0_; have HO_175001 := n1_; have HO_182000 := n2_; have HO_182001 := n3_; have HO_193000 := n4_; have HO_193001 := n5_; have HO_232000 := n6_; have HO_232001 := n7_; have BK156 := n8_; have BK174 := n9_; have BK181 := n10_; have BK192 := n11_; have BK231 := n12_; have HB := n13_; clear n0_ n1_ n2_ n3_ n4_ n5_ n6_ n7_ n8_ n9_ n10_ n11_ n12_ n13_; (try clear hb); (try clear hb2); (try clear hk); (try clear hi)))
                  go_ret
                  exact ⟨by first | rfl | (simp [errW_none, errW_some] <;> rfl) | (simp [*, errW_none, errW_some] <;> rfl), by repeat (first | (with_reducible first | exact HB.out | apply below_alloc | apply pw_below_drewN | apply below_drew1 | refine below_set ?_ GE156.out | refine below_set ?_ GE174.out | refine below_set ?_ GE181.out | refine below_set ?_ GE192.out | refine below_set ?_ GE231.out) | exact HB.out)⟩
                 ·rw [if_neg c169] at H
                  have c169b0 : (t233 == t211) = false := beq_eq_false_iff_ne.mpr c169
                  have c169b1 : (t233 != t211) = true := bne_iff_ne.mpr c169
                  exact absurd ((Option.some.inj H).trans HR.out) (by decide)
            ·rw [if_neg c115] at H
             have c115b0 : (t214 == t211) = false := beq_eq_false_iff_ne.mpr c115
             have c115b1 : (t214 != t211) = true := bne_iff_ne.mpr c115
             exact absurd ((Option.some.inj H).trans HR.out) (by decide)
       ·replace c75 := Bool.eq_false_iff.mpr c75
        subst c75
        have H1 : (some false) = some r := by rw [if_neg (show ¬ (false = true) by decide)] at H; exact H
        clear H
        have H := H1
        clear H1
        exact absurd ((Option.some.inj H).trans HR.out) (by decide)
      ·replace c72 := Bool.eq_false_iff.mpr c72
       subst c72
       have H1 : (some false) = some r := by rw [if_neg (show ¬ (false = true) by decide)] at H; exact H
       clear H
       have H := H1
       clear H1
       exact absurd ((Option.some.inj H).trans HR.out) (by decide)

end Go.Proofs.Ytnejpihjlkpcgaa.PFnExactDiskReset
