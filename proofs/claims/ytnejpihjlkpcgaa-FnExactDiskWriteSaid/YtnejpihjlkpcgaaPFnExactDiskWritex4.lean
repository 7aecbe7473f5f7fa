import Derived.Test.YtnejpihjlkpcgaaPFnExactDiskWritex0
import Derived.Test.YtnejpihjlkpcgaaPFnExactDiskWritex1
import Derived.Test.YtnejpihjlkpcgaaPFnExactDiskWritex2
import Derived.Test.YtnejpihjlkpcgaaPFnExactDiskWritex3
namespace Go.Proofs.Ytnejpihjlkpcgaa.PFnExactDiskWrite
open Go.RowKit Go.Proofs.YtnejpihjlkpcgaaW.PrintWords Go.Proofs.YtnejpihjlkpcgaaW.PrintLast Go.Proofs.YtnejpihjlkpcgaaW.PrintMore
attribute [local go_sem] max2_int min2_int max_two min_two max_three min_three max_four min_four   -- for this text's walks alone
set_option linter.unusedVariables false
set_option linter.unusedSimpArgs false

/-! ### laws_FnExactDiskWrite: function 11 -/
mutual
def laws_FnExactDiskWrite.j0 : Nat → List Int → Bool → List Int → Bool → Bool → List Int → List Int → List Int → List Int → List Int → List Int → List Int → List Int → Option (Bool)
  | 0, _, _, _, _, _, _, _, _, _, _, _, _, _ => none
  | k + 1, x1, x7, x9, x11, x51, x180000, x180001, x198000, x198001, x205000, x205001, x216000, x216001 => if x51 = true then (some false) else ((laws_toDisk.f k x180000 x180001).bind fun bt217 => ((laws_eqDisk.f k x205000 x205001 bt217.1 bt217.2).bind fun t223 => (if t223 = true then ((laws_toByteS.f k x1).bind fun t224 => ((laws_eqByteS.f k x9 t224).bind fun t227 => (if t227 = true then ((laws_markDisk.f k x205000 x205001 1).bind fun bt228 => ((laws_markByteS.f k x9 bt228.1).bind fun bt231 => (if bt231.1 < 0 then (laws_FnExactDiskWrite.j1 k x1 x7 true x180000 x180001 x198000 x198001 x216000 x216001) else ((laws_eqDisk.f k x216000 x216001 x198000 x198001).bind fun t233 => (if t233 = true then (laws_FnExactDiskWrite.j1 k x1 x7 (x11 != x7) x180000 x180001 x198000 x198001 x216000 x216001) else (laws_FnExactDiskWrite.j1 k x1 x7 true x180000 x180001 x198000 x198001 x216000 x216001)))))) else (some false)))) else (some false))))
def laws_FnExactDiskWrite.j1 : Nat → List Int → Bool → Bool → List Int → List Int → List Int → List Int → List Int → List Int → Option (Bool)
  | 0, _, _, _, _, _, _, _, _, _ => none
  | k + 1, x1, x7, x80, x180000, x180001, x198000, x198001, x216000, x216001 => if x80 = true then (some false) else ((laws_markDisk.f k x216000 x216001 1).bind fun bt234 => ((laws_heldDisk.f k bt234.2.1 bt234.2.2 1).bind fun t237 => (if t237 < 0 then (some false) else (if t237 = bt234.1 then ((laws_toDisk.f k x180000 x180001).bind fun bt238 => ((laws_toByteS.f k x1).bind fun t244 => ((impl_DiskWrite.f bt238.1 bt238.2 t244).bind fun bt247 => ((laws_eqDisk.f k bt247.1 bt247.2.1 x198000 x198001).bind fun t255 => (if t255 = true then (laws_FnExactDiskWrite.j2 k bt234.1 (bt247.2.2 != x7) bt234.2.1 bt234.2.2) else (laws_FnExactDiskWrite.j2 k bt234.1 true bt234.2.1 bt234.2.2)))))) else (some false)))))
def laws_FnExactDiskWrite.j2 : Nat → Int → Bool → List Int → List Int → Option (Bool)
  | 0, _, _, _, _ => none
  | k + 1, x13, x108, x216000, x216001 => if x108 = true then (some false) else ((laws_heldDisk.f k x216000 x216001 1).bind fun t256 => (if t256 < 0 then (some false) else (if t256 = x13 then (some true) else (some false))))
end
def laws_FnExactDiskWrite.f (k : Nat) (l0_0 : List Int) (l0_1 : List Int) (l1 : List Int) : Option (Bool) := if (l1.length : Int) > 1048576 then (some true) else ((laws_szDisk.f l0_0 l0_1 1048576).bind fun t180 => (if t180 < 0 then (some true) else ((laws_toDisk.f k l0_0 l0_1).bind fun bt181 => ((laws_toByteS.f k l1).bind fun t187 => ((spec_DiskWrite.f bt181.1 bt181.2 t187).bind fun bt190 => ((laws_toDisk.f k l0_0 l0_1).bind fun bt198 => ((laws_toByteS.f k l1).bind fun t205 => ((impl_DiskWrite.f bt198.1 bt198.2 t205).bind fun bt208 => ((laws_eqDisk.f k bt208.1 bt208.2.1 bt190.1 bt190.2.1).bind fun t216 => (if t216 = true then (laws_FnExactDiskWrite.j0 k l1 bt190.2.2 t205 bt208.2.2 (bt208.2.2 != bt190.2.2) l0_0 l0_1 bt190.1 bt190.2.1 bt198.1 bt198.2 bt208.1 bt208.2.1) else (laws_FnExactDiskWrite.j0 k l1 bt190.2.2 t205 bt208.2.2 true l0_0 l0_1 bt190.1 bt190.2.1 bt198.1 bt198.2 bt208.1 bt208.2.1)))))))))))
theorem laws_FnExactDiskWrite.mono_l : ∀ k, (∀ y0 y1 y2 y3 y4 y5 y6 y7 y8 y9 y10 y11 y12, LeO (laws_FnExactDiskWrite.j0 k y0 y1 y2 y3 y4 y5 y6 y7 y8 y9 y10 y11 y12) (laws_FnExactDiskWrite.j0 (k + 1) y0 y1 y2 y3 y4 y5 y6 y7 y8 y9 y10 y11 y12)) ∧ (∀ y0 y1 y2 y3 y4 y5 y6 y7 y8, LeO (laws_FnExactDiskWrite.j1 k y0 y1 y2 y3 y4 y5 y6 y7 y8) (laws_FnExactDiskWrite.j1 (k + 1) y0 y1 y2 y3 y4 y5 y6 y7 y8)) ∧ (∀ y0 y1 y2 y3, LeO (laws_FnExactDiskWrite.j2 k y0 y1 y2 y3) (laws_FnExactDiskWrite.j2 (k + 1) y0 y1 y2 y3))
  | 0 => ⟨fun _ _ _ _ _ _ _ _ _ _ _ _ _ r h => by simp [laws_FnExactDiskWrite.j0] at h, fun _ _ _ _ _ _ _ _ _ r h => by simp [laws_FnExactDiskWrite.j1] at h, fun _ _ _ _ r h => by simp [laws_FnExactDiskWrite.j2] at h⟩
  | k + 1 => by
    obtain ⟨ih0, ih1, ih2⟩ := laws_FnExactDiskWrite.mono_l k
    refine ⟨?_, ?_, ?_⟩
    · intro y0 y1 y2 y3 y4 y5 y6 y7 y8 y9 y10 y11 y12
      unfold laws_FnExactDiskWrite.j0
      repeat' first
      | (with_reducible exact ih0 _ _ _ _ _ _ _ _ _ _ _ _ _)
      | (with_reducible exact ih1 _ _ _ _ _ _ _ _ _)
      | (with_reducible exact ih2 _ _ _ _)
      | (with_reducible exact laws_eqByteS.mono _ _ _)
      | (with_reducible exact laws_eqDisk.mono _ _ _ _ _)
      | (with_reducible exact laws_heldDisk.mono _ _ _ _)
      | (with_reducible exact laws_markByteS.mono _ _ _)
      | (with_reducible exact laws_markDisk.mono _ _ _ _)
      | (with_reducible exact laws_toByteS.mono _ _)
      | (with_reducible exact laws_toDisk.mono _ _ _)
      | (with_reducible exact LeO.refl _)
      | (with_reducible exact LeO.none _)
      | (with_reducible refine LeO.ite ?_ ?_)
      | (with_reducible refine LeO.bind ?_ (fun _ => ?_))
      | exact ih0 _ _ _ _ _ _ _ _ _ _ _ _ _
      | exact ih1 _ _ _ _ _ _ _ _ _
      | exact ih2 _ _ _ _
      | exact laws_eqByteS.mono _ _ _
      | exact laws_eqDisk.mono _ _ _ _ _
      | exact laws_heldDisk.mono _ _ _ _
      | exact laws_markByteS.mono _ _ _
      | exact laws_markDisk.mono _ _ _ _
      | exact laws_toByteS.mono _ _
      | exact laws_toDisk.mono _ _ _
      | exact LeO.none _
      | refine LeO.ite ?_ ?_
      | refine LeO.bind ?_ (fun _ => ?_)
    · intro y0 y1 y2 y3 y4 y5 y6 y7 y8
      unfold laws_FnExactDiskWrite.j1
      repeat' first
      | (with_reducible exact ih0 _ _ _ _ _ _ _ _ _ _ _ _ _)
      | (with_reducible exact ih1 _ _ _ _ _ _ _ _ _)
      | (with_reducible exact ih2 _ _ _ _)
      | (with_reducible exact laws_eqByteS.mono _ _ _)
      | (with_reducible exact laws_eqDisk.mono _ _ _ _ _)
      | (with_reducible exact laws_heldDisk.mono _ _ _ _)
      | (with_reducible exact laws_markByteS.mono _ _ _)
      | (with_reducible exact laws_markDisk.mono _ _ _ _)
      | (with_reducible exact laws_toByteS.mono _ _)
      | (with_reducible exact laws_toDisk.mono _ _ _)
      | (with_reducible exact LeO.refl _)
      | (with_reducible exact LeO.none _)
      | (with_reducible refine LeO.ite ?_ ?_)
      | (with_reducible refine LeO.bind ?_ (fun _ => ?_))
      | exact ih0 _ _ _ _ _ _ _ _ _ _ _ _ _
      | exact ih1 _ _ _ _ _ _ _ _ _
      | exact ih2 _ _ _ _
      | exact laws_eqByteS.mono _ _ _
      | exact laws_eqDisk.mono _ _ _ _ _
      | exact laws_heldDisk.mono _ _ _ _
      | exact laws_markByteS.mono _ _ _
      | exact laws_markDisk.mono _ _ _ _
      | exact laws_toByteS.mono _ _
      | exact laws_toDisk.mono _ _ _
      | exact LeO.none _
      | refine LeO.ite ?_ ?_
      | refine LeO.bind ?_ (fun _ => ?_)
    · intro y0 y1 y2 y3
      unfold laws_FnExactDiskWrite.j2
      repeat' first
      | (with_reducible exact ih0 _ _ _ _ _ _ _ _ _ _ _ _ _)
      | (with_reducible exact ih1 _ _ _ _ _ _ _ _ _)
      | (with_reducible exact ih2 _ _ _ _)
      | (with_reducible exact laws_eqByteS.mono _ _ _)
      | (with_reducible exact laws_eqDisk.mono _ _ _ _ _)
      | (with_reducible exact laws_heldDisk.mono _ _ _ _)
      | (with_reducible exact laws_markByteS.mono _ _ _)
      | (with_reducible exact laws_markDisk.mono _ _ _ _)
      | (with_reducible exact laws_toByteS.mono _ _)
      | (with_reducible exact laws_toDisk.mono _ _ _)
      | (with_reducible exact LeO.refl _)
      | (with_reducible exact LeO.none _)
      | (with_reducible refine LeO.ite ?_ ?_)
      | (with_reducible refine LeO.bind ?_ (fun _ => ?_))
      | exact ih0 _ _ _ _ _ _ _ _ _ _ _ _ _
      | exact ih1 _ _ _ _ _ _ _ _ _
      | exact ih2 _ _ _ _
      | exact laws_eqByteS.mono _ _ _
      | exact laws_eqDisk.mono _ _ _ _ _
      | exact laws_heldDisk.mono _ _ _ _
      | exact laws_markByteS.mono _ _ _
      | exact laws_markDisk.mono _ _ _ _
      | exact laws_toByteS.mono _ _
      | exact laws_toDisk.mono _ _ _
      | exact LeO.none _
      | refine LeO.ite ?_ ?_
      | refine LeO.bind ?_ (fun _ => ?_)
theorem laws_FnExactDiskWrite.mono : ∀ a0 a1 a2 k, LeO (laws_FnExactDiskWrite.f k a0 a1 a2) (laws_FnExactDiskWrite.f (k + 1) a0 a1 a2) := by
  intro a0 a1 a2 k
  obtain ⟨ih0, ih1, ih2⟩ := laws_FnExactDiskWrite.mono_l k
  unfold laws_FnExactDiskWrite.f
  repeat' first
      | (with_reducible exact ih0 _ _ _ _ _ _ _ _ _ _ _ _ _)
      | (with_reducible exact ih1 _ _ _ _ _ _ _ _ _)
      | (with_reducible exact ih2 _ _ _ _)
      | (with_reducible exact laws_eqByteS.mono _ _ _)
      | (with_reducible exact laws_eqDisk.mono _ _ _ _ _)
      | (with_reducible exact laws_heldDisk.mono _ _ _ _)
      | (with_reducible exact laws_markByteS.mono _ _ _)
      | (with_reducible exact laws_markDisk.mono _ _ _ _)
      | (with_reducible exact laws_toByteS.mono _ _)
      | (with_reducible exact laws_toDisk.mono _ _ _)
      | (with_reducible exact LeO.refl _)
      | (with_reducible exact LeO.none _)
      | (with_reducible refine LeO.ite ?_ ?_)
      | (with_reducible refine LeO.bind ?_ (fun _ => ?_))
      | exact ih0 _ _ _ _ _ _ _ _ _ _ _ _ _
      | exact ih1 _ _ _ _ _ _ _ _ _
      | exact ih2 _ _ _ _
      | exact laws_eqByteS.mono _ _ _
      | exact laws_eqDisk.mono _ _ _ _ _
      | exact laws_heldDisk.mono _ _ _ _
      | exact laws_markByteS.mono _ _ _
      | exact laws_markDisk.mono _ _ _ _
      | exact laws_toByteS.mono _ _
      | exact laws_toDisk.mono _ _ _
      | exact LeO.none _
      | refine LeO.ite ?_ ?_
      | refine LeO.bind ?_ (fun _ => ?_)
theorem k0 {p : Prop} (x : p) : Aside0 p := ⟨x⟩
/-- What was known of an older world is known of this one. -/
theorem kR {p q : Prop} (x : p) (h : p → q := by intro x; (with_reducible repeat (first | apply Kd.R_alloc | apply Kd.R_drewN | apply Kd.R_drew)); exact x) : q := h x
theorem kB {p q : Prop} (x : p) (h : p → q := by intro x; (with_reducible repeat (first | refine blk_drewN ?_ _ | refine blk_drew ?_ | refine blk_alloc ?_ _)); exact x) : q := h x
theorem kW {p q : Prop} (x : p) (h : p → q := by intro x; repeat (first | (with_reducible first | exact x | apply below_alloc | apply pw_below_drewN | apply below_drew1 | refine below_set ?_ (Aside0.out (by assumption))) | exact x)) : q := h x
theorem kb {w0 w w' : World} {g : Nat} {o : Obj} (x : w0.heap[g]? = some o) (hb : Below w.heap.size w w') (h : w0.heap[g]? = some o → w.heap[g]? = some o := by intro x; (with_reducible repeat (first | refine blk_drewN ?_ _ | refine blk_drew ?_ | refine blk_alloc ?_ _)); exact x) : w'.heap[g]? = some o := blk_below (h x) hb
theorem kK {w0 W W2 : World} {S : Nat → Prop} {g : Nat} {o : Obj} (x : w0.heap[g]? = some o) (hk : Kept W W2 S) (hne : ¬ S g) (h : w0.heap[g]? = some o → W.heap[g]? = some o := by intro x; (with_reducible repeat (first | refine blk_drewN ?_ _ | refine blk_drew ?_ | refine blk_alloc ?_ _)); exact x) : W2.heap[g]? = some o := blk_kept (h x) hk hne
theorem kl {w0 w : World} {g g' : Nat} {o : Obj} (x : w0.heap[g]? = some o) (hg : g' = w.heap.size) (h : w0.heap[g]? = some o → w.heap[g]? = some o := by intro x; (with_reducible repeat (first | refine blk_drewN ?_ _ | refine blk_drew ?_ | refine blk_alloc ?_ _)); exact x) : g ≠ g' := by rw [hg]; exact Nat.ne_of_lt (blk_lt (h x))
theorem kg {w0 w : World} {g g' : Nat} {o : Obj} (x : w0.heap[g]? = some o) (hg : g' = w.heap.size) (h : w0.heap[g]? = some o → w.heap[g]? = some o := by intro x; (with_reducible repeat (first | refine blk_drewN ?_ _ | refine blk_drew ?_ | refine blk_alloc ?_ _)); exact x) : g' ≠ g := by rw [hg]; exact Nat.ne_of_gt (blk_lt (h x))
set_option maxHeartbeats 8000000 in
set_option maxRecDepth 100000 in
theorem laws_FnExactDiskWrite.calls (k : Nat) (A0_0 : Option Addr) (c0_0 : Nat) (l0_0 : List Int) (A0_1 : Option Addr) (c0_1 : Nat) (l0_1 : List Int) (A1 : Option Addr) (c1 : Nat) (l1 : List Int) (r : Bool) (w : World) (hr0_0 : Kd.C (Kd.int .u8) w A0_0 l0_0.length l0_0) (hc0_0 : l0_0.length ≤ c0_0) (hr0_1 : Kd.C (Kd.int .u8) w A0_1 l0_1.length l0_1) (hc0_1 : l0_1.length ≤ c0_1) (hr1 : Kd.C (Kd.int .u8) w A1 l1.length l1) (hc1 : l1.length ≤ c1) (HR : Aside0 (r = true)) (h : laws_FnExactDiskWrite.f k l0_0 l0_1 l1 = some r) :
  Calls Try.prog 11 #[.agg #[.slice A0_0 l0_0.length c0_0, .slice A0_1 l0_1.length c0_1], .slice A1 l1.length c1] w fun e w' => e = .returned (.bool r) ∧ Below w.heap.size w w' := by
 have hu32 := Try.underlying32
 have hu35 := Try.underlying35
 have HR0_0 := Aside0.mk hr0_0
 have HC0_0 := Aside0.mk hc0_0
 clear hr0_0 hc0_0
 have HR0_1 := Aside0.mk hr0_1
 have HC0_1 := Aside0.mk hc0_1
 clear hr0_1 hc0_1
 have HR1 := Aside0.mk hr1
 have HC1 := Aside0.mk hc1
 clear hr1 hc1
 have HB := k0 (Below.refl w.heap.size w)
 have H : (if (l1.length : Int) > 1048576 then (some true) else ((laws_szDisk.f l0_0 l0_1 1048576).bind fun t180 => (if t180 < 0 then (some true) else ((laws_toDisk.f k l0_0 l0_1).bind fun bt181 => ((laws_toByteS.f k l1).bind fun t187 => ((spec_DiskWrite.f bt181.1 bt181.2 t187).bind fun bt190 => ((laws_toDisk.f k l0_0 l0_1).bind fun bt198 => ((laws_toByteS.f k l1).bind fun t205 => ((impl_DiskWrite.f bt198.1 bt198.2 t205).bind fun bt208 => ((laws_eqDisk.f k bt208.1 bt208.2.1 bt190.1 bt190.2.1).bind fun t216 => (if t216 = true then (laws_FnExactDiskWrite.j0 k l1 bt190.2.2 t205 bt208.2.2 (bt208.2.2 != bt190.2.2) l0_0 l0_1 bt190.1 bt190.2.1 bt198.1 bt198.2 bt208.1 bt208.2.1) else (laws_FnExactDiskWrite.j0 k l1 bt190.2.2 t205 bt208.2.2 true l0_0 l0_1 bt190.1 bt190.2.1 bt198.1 bt198.2 bt208.1 bt208.2.1)))))))))))) = some r := h
 clear h
 by_cases c3 : (l1.length : Int) > 1048576
 ·rw [if_pos c3] at H
  have c3b0 : decide (1048576 < (l1.length : Int)) = true := decide_eq_true c3
  have c3b1 : decide (1048576 < l1.length) = true := decide_eq_true (by omega)
  clear c3
  obtain rfl := Option.some.inj H
  go_enter Try.func11, Try.ntmps11
  go_wp2_with (first | ((with_reducible refine gate_dst (N := 2) rfl ?_); refine box_event ?hg (N := 2) ?hd (cs := #[.slice A0_0 l0_0.length c0_0, .slice A0_1 l0_1.length c0_1]) (t := 32) ?hr ?_; (case hd => rfl); (case hg => rfl); (case hr => first | (go_simp; done) | (go_simp; rfl)); intro gb179 hg w4 hbox hb; have n0_ := k0 (below_step (kW HB.out) hb); have n1_ := k0 (hbox); have n2_ := k0 ((by rw [hg]; exact (below_size (kW HB.out)) : w.heap.size ≤ gb179)); have n3_ := k0 ((by rw [hg]; exact (below_size (kW HB.out)) : w.heap.size ≤ gb179)); clear HB; have HB := n0_; have BK179 := n1_; have GW179 := n2_; have GE179 := n3_; clear n0_ n1_ n2_ n3_; clear hb hbox hg))
  go_ret
  exact ⟨by first | rfl | (simp [errW_none, errW_some] <;> rfl) | (simp [*, errW_none, errW_some] <;> rfl), by repeat (first | (with_reducible first | exact HB.out | apply below_alloc | apply pw_below_drewN | apply below_drew1 | refine below_set ?_ GE179.out) | exact HB.out)⟩
 ·rw [if_neg c3] at H
  have c3b0 : decide (1048576 < (l1.length : Int)) = false := decide_eq_false c3
  have c3b1 : decide (1048576 < l1.length) = false := decide_eq_false (by omega)
  clear c3
  replace H := Option.bind_eq_some_iff.mp H
  obtain ⟨t180, A50, H⟩ := H
  replace H : (if t180 < 0 then (some true) else ((laws_toDisk.f k l0_0 l0_1).bind fun bt181 => ((laws_toByteS.f k l1).bind fun t187 => ((spec_DiskWrite.f bt181.1 bt181.2 t187).bind fun bt190 => ((laws_toDisk.f k l0_0 l0_1).bind fun bt198 => ((laws_toByteS.f k l1).bind fun t205 => ((impl_DiskWrite.f bt198.1 bt198.2 t205).bind fun bt208 => ((laws_eqDisk.f k bt208.1 bt208.2.1 bt190.1 bt190.2.1).bind fun t216 => (if t216 = true then (laws_FnExactDiskWrite.j0 k l1 bt190.2.2 t205 bt208.2.2 (bt208.2.2 != bt190.2.2) l0_0 l0_1 bt190.1 bt190.2.1 bt198.1 bt198.2 bt208.1 bt208.2.1) else (laws_FnExactDiskWrite.j0 k l1 bt190.2.2 t205 bt208.2.2 true l0_0 l0_1 bt190.1 bt190.2.1 bt198.1 bt198.2 bt208.1 bt208.2.1)))))))))) = some r := H
  have A5 := Aside0.mk A50
  clear A50
  by_cases c6 : t180 < 0
  ·rw [if_pos c6] at H
   have c6b0 : decide (t180 < 0) = true := decide_eq_true c6
   clear c6
   obtain rfl := Option.some.inj H
   go_enter Try.func11, Try.ntmps11
   go_wp2_with (first | ((with_reducible refine gate_dst (N := 2) rfl ?_); refine box_event ?hg (N := 2) ?hd (cs := #[.slice A0_0 l0_0.length c0_0, .slice A0_1 l0_1.length c0_1]) (t := 32) ?hr ?_; (case hd => rfl); (case hg => rfl); (case hr => first | (go_simp; done) | (go_simp; rfl)); intro gb179 hg w7 hbox hb; have n0_ := k0 (below_step (kW HB.out) hb); have n1_ := k0 (hbox); have n2_ := k0 ((by rw [hg]; exact (below_size (kW HB.out)) : w.heap.size ≤ gb179)); have n3_ := k0 ((by rw [hg]; exact (below_size (kW HB.out)) : w.heap.size ≤ gb179)); clear HB; have HB := n0_; have BK179 := n1_; have GW179 := n2_; have GE179 := n3_; clear n0_ n1_ n2_ n3_; clear hb hbox hg; have hcz8_0 : w7.cell? ⟨gb179, 0, none⟩ = some (.slice A0_0 l0_0.length c0_0) := (blk_cell BK179.out 0).trans rfl; have hcz8_1 : w7.cell? ⟨gb179, 1, none⟩ = some (.slice A0_1 l0_1.length c0_1) := (blk_cell BK179.out 1).trans rfl; have hfz8_0 := blk_frozen BK179.out 0; have hfz8_1 := blk_frozen BK179.out 1) | ((with_reducible refine gate_callee (f := 19) rfl ?_); refine goesL_ (some 22) rfl rfl Try.func19 (by kernel_rfl) rfl #[.agg #[.slice A0_0 l0_0.length c0_0, .slice A0_1 l0_1.length c0_1], .int .i64 1048576] rfl (by (try simp only [List.map_toArray, List.map_cons, List.map_nil]); first | done | rfl | (simp only [List.length_drop, List.length_take]; rfl)) ?_; (with_reducible refine (laws_szDisk.calls _ _ l0_0 _ _ l0_1 1048576 t180 _ ?side1 ?side2 ?side3 ?side4 A5.out).mono ?_); (case side1 => repeat (first | exact (Kd.C_below HR0_0.out HB.out) | (with_reducible refine Kd.C_alloc ?_ _) | (with_reducible refine Kd.C_drewN ?_ _) | (with_reducible refine Kd.C_drew ?_))); (case side2 => exact HC0_0.out); (case side3 => repeat (first | exact (Kd.C_below HR0_1.out HB.out) | (with_reducible refine Kd.C_alloc ?_ _) | (with_reducible refine Kd.C_drewN ?_ _) | (with_reducible refine Kd.C_drew ?_))); (case side4 => exact HC0_1.out); rintro e w9 ⟨rfl, hb⟩; refine ⟨_, rfl, ?_⟩; have n0_ := k0 (kb BK179.out hb); have n1_ := k0 (below_step (kW HB.out) hb); clear BK179; clear HB; have BK179 := n0_; have HB := n1_; clear n0_ n1_; (try clear hb); (try clear hb2); (try clear hk); (try clear hi)))
   go_ret
   exact ⟨by first | rfl | (simp [errW_none, errW_some] <;> rfl) | (simp [*, errW_none, errW_some] <;> rfl), by repeat (first | (with_reducible first | exact HB.out | apply below_alloc | apply pw_below_drewN | apply below_drew1 | refine below_set ?_ GE179.out) | exact HB.out)⟩
  ·rw [if_neg c6] at H
   have c6b0 : decide (t180 < 0) = false := decide_eq_false c6
   clear c6
   replace H := Option.bind_eq_some_iff.mp H
   obtain ⟨⟨t181, t184⟩, A100, H⟩ := H
   replace H : ((laws_toByteS.f k l1).bind fun t187 => ((spec_DiskWrite.f t181 t184 t187).bind fun bt190 => ((laws_toDisk.f k l0_0 l0_1).bind fun bt198 => ((laws_toByteS.f k l1).bind fun t205 => ((impl_DiskWrite.f bt198.1 bt198.2 t205).bind fun bt208 => ((laws_eqDisk.f k bt208.1 bt208.2.1 bt190.1 bt190.2.1).bind fun t216 => (if t216 = true then (laws_FnExactDiskWrite.j0 k l1 bt190.2.2 t205 bt208.2.2 (bt208.2.2 != bt190.2.2) l0_0 l0_1 bt190.1 bt190.2.1 bt198.1 bt198.2 bt208.1 bt208.2.1) else (laws_FnExactDiskWrite.j0 k l1 bt190.2.2 t205 bt208.2.2 true l0_0 l0_1 bt190.1 bt190.2.1 bt198.1 bt198.2 bt208.1 bt208.2.1)))))))) = some r := H
   have A10 := Aside0.mk A100
   clear A100
   replace H := Option.bind_eq_some_iff.mp H
   obtain ⟨t187, A110, H⟩ := H
   replace H : ((spec_DiskWrite.f t181 t184 t187).bind fun bt190 => ((laws_toDisk.f k l0_0 l0_1).bind fun bt198 => ((laws_toByteS.f k l1).bind fun t205 => ((impl_DiskWrite.f bt198.1 bt198.2 t205).bind fun bt208 => ((laws_eqDisk.f k bt208.1 bt208.2.1 bt190.1 bt190.2.1).bind fun t216 => (if t216 = true then (laws_FnExactDiskWrite.j0 k l1 bt190.2.2 t205 bt208.2.2 (bt208.2.2 != bt190.2.2) l0_0 l0_1 bt190.1 bt190.2.1 bt198.1 bt198.2 bt208.1 bt208.2.1) else (laws_FnExactDiskWrite.j0 k l1 bt190.2.2 t205 bt208.2.2 true l0_0 l0_1 bt190.1 bt190.2.1 bt198.1 bt198.2 bt208.1 bt208.2.1))))))) = some r := H
   have A11 := Aside0.mk A110
   clear A110
   replace H := Option.bind_eq_some_iff.mp H
   obtain ⟨⟨t190, t193, t196⟩, A120, H⟩ := H
   replace H : ((laws_toDisk.f k l0_0 l0_1).bind fun bt198 => ((laws_toByteS.f k l1).bind fun t205 => ((impl_DiskWrite.f bt198.1 bt198.2 t205).bind fun bt208 => ((laws_eqDisk.f k bt208.1 bt208.2.1 t190 t193).bind fun t216 => (if t216 = true then (laws_FnExactDiskWrite.j0 k l1 t196 t205 bt208.2.2 (bt208.2.2 != t196) l0_0 l0_1 t190 t193 bt198.1 bt198.2 bt208.1 bt208.2.1) else (laws_FnExactDiskWrite.j0 k l1 t196 t205 bt208.2.2 true l0_0 l0_1 t190 t193 bt198.1 bt198.2 bt208.1 bt208.2.1)))))) = some r := H
   have A12 := Aside0.mk A120
   clear A120
   replace H := Option.bind_eq_some_iff.mp H
   obtain ⟨⟨t198, t201⟩, A130, H⟩ := H
   replace H : ((laws_toByteS.f k l1).bind fun t205 => ((impl_DiskWrite.f t198 t201 t205).bind fun bt208 => ((laws_eqDisk.f k bt208.1 bt208.2.1 t190 t193).bind fun t216 => (if t216 = true then (laws_FnExactDiskWrite.j0 k l1 t196 t205 bt208.2.2 (bt208.2.2 != t196) l0_0 l0_1 t190 t193 t198 t201 bt208.1 bt208.2.1) else (laws_FnExactDiskWrite.j0 k l1 t196 t205 bt208.2.2 true l0_0 l0_1 t190 t193 t198 t201 bt208.1 bt208.2.1))))) = some r := H
   have A13 := Aside0.mk A130
   clear A130
   replace H := Option.bind_eq_some_iff.mp H
   obtain ⟨t205, A140, H⟩ := H
   replace H : ((impl_DiskWrite.f t198 t201 t205).bind fun bt208 => ((laws_eqDisk.f k bt208.1 bt208.2.1 t190 t193).bind fun t216 => (if t216 = true then (laws_FnExactDiskWrite.j0 k l1 t196 t205 bt208.2.2 (bt208.2.2 != t196) l0_0 l0_1 t190 t193 t198 t201 bt208.1 bt208.2.1) else (laws_FnExactDiskWrite.j0 k l1 t196 t205 bt208.2.2 true l0_0 l0_1 t190 t193 t198 t201 bt208.1 bt208.2.1)))) = some r := H
   have A14 := Aside0.mk A140
   clear A140
   replace H := Option.bind_eq_some_iff.mp H
   obtain ⟨⟨t208, t211, t214⟩, A150, H⟩ := H
   replace H : ((laws_eqDisk.f k t208 t211 t190 t193).bind fun t216 => (if t216 = true then (laws_FnExactDiskWrite.j0 k l1 t196 t205 t214 (t214 != t196) l0_0 l0_1 t190 t193 t198 t201 t208 t211) else (laws_FnExactDiskWrite.j0 k l1 t196 t205 t214 true l0_0 l0_1 t190 t193 t198 t201 t208 t211))) = some r := H
   have A15 := Aside0.mk A150
   clear A150
   have HC16 := Aside0.mk H
   clear H
   go_enter Try.func11, Try.ntmps11
   go_upto_region 11 with (first | ((with_reducible refine gate_dst (N := 2) rfl ?_); refine box_event ?hg (N := 2) ?hd (cs := #[.slice A0_0 l0_0.length c0_0, .slice A0_1 l0_1.length c0_1]) (t := 32) ?hr ?_; (case hd => rfl); (case hg => rfl); (case hr => first | (go_simp; done) | (go_simp; rfl)); intro gb179 hg w17 hbox hb; have n0_ := k0 (below_step (kW HB.out) hb); have n1_ := k0 (hbox); have n2_ := k0 ((by rw [hg]; exact (below_size (kW HB.out)) : w.heap.size ≤ gb179)); have n3_ := k0 ((by rw [hg]; exact (below_size (kW HB.out)) : w.heap.size ≤ gb179)); clear HB; have HB := n0_; have BK179 := n1_; have GW179 := n2_; have GE179 := n3_; clear n0_ n1_ n2_ n3_; clear hb hbox hg; have hcz18_0 : w17.cell? ⟨gb179, 0, none⟩ = some (.slice A0_0 l0_0.length c0_0) := (blk_cell BK179.out 0).trans rfl; have hcz18_1 : w17.cell? ⟨gb179, 1, none⟩ = some (.slice A0_1 l0_1.length c0_1) := (blk_cell BK179.out 1).trans rfl; have hfz18_0 := blk_frozen BK179.out 0; have hfz18_1 := blk_frozen BK179.out 1) | ((with_reducible refine gate_callee (f := 19) rfl ?_); refine goesL_ (some 22) rfl rfl Try.func19 (by kernel_rfl) rfl #[.agg #[.slice A0_0 l0_0.length c0_0, .slice A0_1 l0_1.length c0_1], .int .i64 1048576] rfl (by (try simp only [List.map_toArray, List.map_cons, List.map_nil]); first | done | rfl | (simp only [List.length_drop, List.length_take]; rfl)) ?_; (with_reducible refine (laws_szDisk.calls _ _ l0_0 _ _ l0_1 1048576 t180 _ ?side1 ?side2 ?side3 ?side4 A5.out).mono ?_); (case side1 => repeat (first | exact (Kd.C_below HR0_0.out HB.out) | (with_reducible refine Kd.C_alloc ?_ _) | (with_reducible refine Kd.C_drewN ?_ _) | (with_reducible refine Kd.C_drew ?_))); (case side2 => exact HC0_0.out); (case side3 => repeat (first | exact (Kd.C_below HR0_1.out HB.out) | (with_reducible refine Kd.C_alloc ?_ _) | (with_reducible refine Kd.C_drewN ?_ _) | (with_reducible refine Kd.C_drew ?_))); (case side4 => exact HC0_1.out); rintro e w19 ⟨rfl, hb⟩; refine ⟨_, rfl, ?_⟩; have n0_ := k0 (kb BK179.out hb); have n1_ := k0 (below_step (kW HB.out) hb); clear BK179; clear HB; have BK179 := n0_; have HB := n1_; clear n0_ n1_; (try clear hb); (try clear hb2); (try clear hk); (try clear hi); have hcz20_0 : w19.cell? ⟨gb179, 0, none⟩ = some (.slice A0_0 l0_0.length c0_0) := (blk_cell BK179.out 0).trans rfl; have hcz20_1 : w19.cell? ⟨gb179, 1, none⟩ = some (.slice A0_1 l0_1.length c0_1) := (blk_cell BK179.out 1).trans rfl; have hfz20_0 := blk_frozen BK179.out 0; have hfz20_1 := blk_frozen BK179.out 1) | ((with_reducible refine gate_callee (f := 21) rfl ?_); refine goesL_ (some 27) rfl rfl Try.func21 (by kernel_rfl) rfl #[.agg #[.slice A0_0 l0_0.length c0_0, .slice A0_1 l0_1.length c0_1]] rfl (by (try simp only [List.map_toArray, List.map_cons, List.map_nil]); first | done | rfl | (simp only [List.length_drop, List.length_take]; rfl)) ?_; (with_reducible refine (laws_toDisk.calls k _ _ l0_0 _ _ l0_1 t181 t184 _ ?side1 ?side2 ?side3 ?side4 A10.out).mono ?_); (case side1 => repeat (first | exact (Kd.C_below HR0_0.out HB.out) | (with_reducible refine Kd.C_alloc ?_ _) | (with_reducible refine Kd.C_drewN ?_ _) | (with_reducible refine Kd.C_drew ?_))); (case side2 => exact HC0_0.out); (case side3 => repeat (first | exact (Kd.C_below HR0_1.out HB.out) | (with_reducible refine Kd.C_alloc ?_ _) | (with_reducible refine Kd.C_drewN ?_ _) | (with_reducible refine Kd.C_drew ?_))); (case side4 => exact HC0_1.out); rintro e w21 ⟨v182, v185, rfl, ho0, ho1, hb⟩; refine ⟨_, rfl, ?_⟩; have n0_ := k0 (Kd.R_lower ho0 (below_size (kW HB.out))); have n1_ := k0 (Kd.R_lower ho1 (below_size (kW HB.out))); have n2_ := k0 (kb BK179.out hb); have n3_ := k0 (below_step (kW HB.out) hb); clear BK179; clear HB; have HO183 := n0_; have HO186 := n1_; have BK179 := n2_; have HB := n3_; clear n0_ n1_ n2_ n3_; (try clear hb); (try clear hb2); (try clear hk); (try clear hi); (try clear ho0); (try clear ho1)) | ((with_reducible refine gate_callee (f := 43) rfl ?_); refine goesL_ (some 29) rfl rfl Try.func43 (by kernel_rfl) rfl #[.slice A1 l1.length c1] rfl (by (try simp only [List.map_toArray, List.map_cons, List.map_nil]); first | done | rfl | (simp only [List.length_drop, List.length_take]; rfl)) ?_; (with_reducible refine (laws_toByteS.calls k _ _ l1 t187 _ ?side1 ?side2 A11.out).mono ?_); (case side1 => repeat (first | exact (Kd.C_below HR1.out HB.out) | (with_reducible refine Kd.C_alloc ?_ _) | (with_reducible refine Kd.C_drewN ?_ _) | (with_reducible refine Kd.C_drew ?_))); (case side2 => exact HC1.out); rintro e w22 ⟨v188, rfl, ho0, hb⟩; refine ⟨_, rfl, ?_⟩; have n0_ := k0 (Kd.R_elder' (kR HO183.out) (Kd.R_base ho0) hb); have n1_ := k0 (Kd.R_elder' (kR HO186.out) (Kd.R_base ho0) hb); have n2_ := k0 (Kd.R_lower (Kd.R_new' (Kd.R_new' ho0 (Kd.R_lt (kR HO183.out))) (Kd.R_lt (kR HO186.out))) (below_size (kW HB.out))); have n3_ := k0 (kb BK179.out hb); have n4_ := k0 (below_step (kW HB.out) hb); clear HO183; clear HO186; clear BK179; clear HB; have HO183 := n0_; have HO186 := n1_; have HO189 := n2_; have BK179 := n3_; have HB := n4_; clear n0_ n1_ n2_ n3_ n4_; (try clear hb); (try clear hb2); (try clear hk); (try clear hi); (try clear ho0); obtain ⟨Ao23, co23, eo23⟩ := Kd.R_slice HO183.out; subst eo23; obtain ⟨Ao24, co24, eo24⟩ := Kd.R_slice HO186.out; subst eo24; obtain ⟨Ao25, co25, eo25⟩ := Kd.R_slice HO189.out; subst eo25) | ((with_reducible refine gate_callee (f := 44) rfl ?_); refine goesL_ (some 30) rfl rfl Try.func44 (by kernel_rfl) rfl #[.agg #[.slice Ao23 t181.length co23, .slice Ao24 t184.length co24], .slice Ao25 t187.length co25] rfl (by (try simp only [List.map_toArray, List.map_cons, List.map_nil]); first | done | rfl | (simp only [List.length_drop, List.length_take]; rfl)) ?_; (with_reducible refine (spec_DiskWrite.calls _ _ t181 _ _ t184 _ _ t187 t190 t193 t196 _ ?side1 ?side2 ?side3 ?side4 ?side5 ?side6 A12.out).mono ?_); (case side1 => repeat (first | exact (Kd.R_reads' HO183.out).2.2 | (with_reducible refine Kd.C_alloc ?_ _) | (with_reducible refine Kd.C_drewN ?_ _) | (with_reducible refine Kd.C_drew ?_))); (case side2 => exact (Kd.R_reads' HO183.out).2.1); (case side3 => repeat (first | exact (Kd.R_reads' HO186.out).2.2 | (with_reducible refine Kd.C_alloc ?_ _) | (with_reducible refine Kd.C_drewN ?_ _) | (with_reducible refine Kd.C_drew ?_))); (case side4 => exact (Kd.R_reads' HO186.out).2.1); (case side5 => repeat (first | exact (Kd.R_reads' HO189.out).2.2 | (with_reducible refine Kd.C_alloc ?_ _) | (with_reducible refine Kd.C_drewN ?_ _) | (with_reducible refine Kd.C_drew ?_))); (case side6 => exact (Kd.R_reads' HO189.out).2.1); rintro e w26 ⟨v191, v194, rfl, ho0, ho1, hb⟩; refine ⟨_, rfl, ?_⟩; have n0_ := k0 (Kd.R_mono (Kd.R_told (Kd.R_told (Kd.R_old (kR HO183.out) hb) (Kd.R_base ho0)) (Kd.R_base ho1)) (fun _ h_ => h_.1)); have n1_ := k0 (Kd.R_mono (Kd.R_told (Kd.R_told (Kd.R_old (kR HO186.out) hb) (Kd.R_base ho0)) (Kd.R_base ho1)) (fun _ h_ => h_.1)); have n2_ := k0 (Kd.R_mono (Kd.R_told (Kd.R_told (Kd.R_old (kR HO189.out) hb) (Kd.R_base ho0)) (Kd.R_base ho1)) (fun _ h_ => h_.1)); have n3_ := k0 (Kd.R_lower (Kd.R_new' (Kd.R_new' (Kd.R_new' ho0 (Kd.R_lt (kR HO183.out))) (Kd.R_lt (kR HO186.out))) (Kd.R_lt (kR HO189.out))) (below_size (kW HB.out))); have n4_ := k0 (Kd.R_lower (Kd.R_new' (Kd.R_new' (Kd.R_new' ho1 (Kd.R_lt (kR HO183.out))) (Kd.R_lt (kR HO186.out))) (Kd.R_lt (kR HO189.out))) (below_size (kW HB.out))); have n5_ := k0 (kb BK179.out hb); have n6_ := k0 (below_step (kW HB.out) hb); clear HO183; clear HO186; clear HO189; clear BK179; clear HB; have HO183 := n0_; have HO186 := n1_; have HO189 := n2_; have HO192 := n3_; have HO195 := n4_; have BK179 := n5_; have HB := n6_; clear n0_ n1_ n2_ n3_ n4_ n5_ n6_; (try clear hb); (try clear hb2); (try clear hk); (try clear hi); (try clear ho0); (try clear ho1)) | ((with_reducible refine gate_dst (N := 6) rfl ?_); refine box_event ?hg (N := 6) ?hd (cs := #[.slice none 0 0, .slice none 0 0]) (t := 35) ?hr ?_; (case hd => rfl); (case hg => rfl); (case hr => first | (go_simp; done) | (go_simp; rfl)); intro gb197 hg w27 hbox hb; have n0_ := k0 (Kd.R_below (kR HO183.out) hb); have n1_ := k0 (Kd.R_below (kR HO186.out) hb); have n2_ := k0 (Kd.R_below (kR HO189.out) hb); have n3_ := k0 (Kd.R_below (kR HO192.out) hb); have n4_ := k0 (Kd.R_below (kR HO195.out) hb); have n5_ := k0 (kb BK179.out hb); have n6_ := k0 (below_step (kW HB.out) hb); have n7_ := k0 (hbox); have n8_ := k0 ((by rw [hg]; exact (below_size (kW HB.out)) : w.heap.size ≤ gb197)); have n9_ := k0 ((by rw [hg]; exact (below_size (kW HB.out)) : w.heap.size ≤ gb197)); have n10_ := k0 ((by rw [hg]; exact Nat.ne_of_lt (blk_lt (g := gb179) (o := .cells #[.slice A0_0 l0_0.length c0_0, .slice A0_1 l0_1.length c0_1] 32 (0, 0)) (kB BK179.out)) : gb179 ≠ gb197)); have n11_ := k0 ((by rw [hg]; exact Nat.ne_of_gt (blk_lt (g := gb179) (o := .cells #[.slice A0_0 l0_0.length c0_0, .slice A0_1 l0_1.length c0_1] 32 (0, 0)) (kB BK179.out)) : gb197 ≠ gb179)); clear HO183; clear HO186; clear HO189; clear HO192; clear HO195; clear BK179; clear HB; have HO183 := n0_; have HO186 := n1_; have HO189 := n2_; have HO192 := n3_; have HO195 := n4_; have BK179 := n5_; have HB := n6_; have BK197 := n7_; have GW197 := n8_; have GE197 := n9_; have NB179_197 := n10_; have NB197_179 := n11_; clear n0_ n1_ n2_ n3_ n4_ n5_ n6_ n7_ n8_ n9_ n10_ n11_; clear hb hbox hg; obtain ⟨Ao28, co28, eo28⟩ := Kd.R_slice HO192.out; subst eo28; have hnb29 := NB197_179.out; have hnc29 := NB179_197.out; have hcz30_0 : w27.cell? ⟨gb197, 0, none⟩ = some (.slice none 0 0) := (blk_cell BK197.out 0).trans rfl; have hcz30_1 : w27.cell? ⟨gb197, 1, none⟩ = some (.slice none 0 0) := (blk_cell BK197.out 1).trans rfl; have hfz30_0 := blk_frozen BK197.out 0; have hfz30_1 := blk_frozen BK197.out 1; obtain ⟨Ao31, co31, eo31⟩ := Kd.R_slice HO195.out; subst eo31; have hcz32_0 : w27.cell? ⟨gb179, 0, none⟩ = some (.slice A0_0 l0_0.length c0_0) := (blk_cell BK179.out 0).trans rfl; have hcz32_1 : w27.cell? ⟨gb179, 1, none⟩ = some (.slice A0_1 l0_1.length c0_1) := (blk_cell BK179.out 1).trans rfl; have hfz32_0 := blk_frozen BK179.out 0; have hfz32_1 := blk_frozen BK179.out 1) | ((with_reducible refine gate_callee (f := 21) rfl ?_); refine goesL_ (some 34) rfl rfl Try.func21 (by kernel_rfl) rfl #[.agg #[.slice A0_0 l0_0.length c0_0, .slice A0_1 l0_1.length c0_1]] rfl (by (try simp only [List.map_toArray, List.map_cons, List.map_nil]); first | done | rfl | (simp only [List.length_drop, List.length_take]; rfl)) ?_; (with_reducible refine (laws_toDisk.calls k _ _ l0_0 _ _ l0_1 t198 t201 _ ?side1 ?side2 ?side3 ?side4 A13.out).mono ?_); (case side1 => exact Kd.C_below HR0_0.out (kW HB.out)); (case side2 => exact HC0_0.out); (case side3 => exact Kd.C_below HR0_1.out (kW HB.out)); (case side4 => exact HC0_1.out); rintro e w33 ⟨v199, v202, rfl, ho0, ho1, hb⟩; refine ⟨_, rfl, ?_⟩; have n0_ := k0 (Kd.R_mono (Kd.R_told (Kd.R_told (Kd.R_old (by (with_reducible repeat (first | apply Kd.R_alloc | apply Kd.R_drewN | apply Kd.R_drew)); exact (Kd.R_mono (Kd.R_far (p := ⟨gb197, 1, none⟩) (Kd.R_far (p := ⟨gb197, 0, none⟩) (Kd.R_types HO183.out BK197.out (by decide)) (fun _ hk => hk.2) (.slice Ao28 t190.length co28)) (fun _ hk => hk.2) (.slice Ao31 t193.length co31)) (fun _ h_ => h_.1))) hb) (Kd.R_base ho0)) (Kd.R_base ho1)) (fun _ h_ => h_.1)); have n1_ := k0 (Kd.R_mono (Kd.R_told (Kd.R_told (Kd.R_old (by (with_reducible repeat (first | apply Kd.R_alloc | apply Kd.R_drewN | apply Kd.R_drew)); exact (Kd.R_mono (Kd.R_far (p := ⟨gb197, 1, none⟩) (Kd.R_far (p := ⟨gb197, 0, none⟩) (Kd.R_types HO186.out BK197.out (by decide)) (fun _ hk => hk.2) (.slice Ao28 t190.length co28)) (fun _ hk => hk.2) (.slice Ao31 t193.length co31)) (fun _ h_ => h_.1))) hb) (Kd.R_base ho0)) (Kd.R_base ho1)) (fun _ h_ => h_.1)); have n2_ := k0 (Kd.R_mono (Kd.R_told (Kd.R_told (Kd.R_old (by (with_reducible repeat (first | apply Kd.R_alloc | apply Kd.R_drewN | apply Kd.R_drew)); exact (Kd.R_mono (Kd.R_far (p := ⟨gb197, 1, none⟩) (Kd.R_far (p := ⟨gb197, 0, none⟩) (Kd.R_types HO189.out BK197.out (by decide)) (fun _ hk => hk.2) (.slice Ao28 t190.length co28)) (fun _ hk => hk.2) (.slice Ao31 t193.length co31)) (fun _ h_ => h_.1))) hb) (Kd.R_base ho0)) (Kd.R_base ho1)) (fun _ h_ => h_.1)); have n3_ := k0 (Kd.R_mono (Kd.R_told (Kd.R_told (Kd.R_old (by (with_reducible repeat (first | apply Kd.R_alloc | apply Kd.R_drewN | apply Kd.R_drew)); exact (Kd.R_mono (Kd.R_far (p := ⟨gb197, 1, none⟩) (Kd.R_far (p := ⟨gb197, 0, none⟩) (Kd.R_types HO192.out BK197.out (by decide)) (fun _ hk => hk.2) (.slice Ao28 t190.length co28)) (fun _ hk => hk.2) (.slice Ao31 t193.length co31)) (fun _ h_ => h_.1))) hb) (Kd.R_base ho0)) (Kd.R_base ho1)) (fun _ h_ => h_.1)); have n4_ := k0 (Kd.R_mono (Kd.R_told (Kd.R_told (Kd.R_old (by (with_reducible repeat (first | apply Kd.R_alloc | apply Kd.R_drewN | apply Kd.R_drew)); exact (Kd.R_mono (Kd.R_far (p := ⟨gb197, 1, none⟩) (Kd.R_far (p := ⟨gb197, 0, none⟩) (Kd.R_types HO195.out BK197.out (by decide)) (fun _ hk => hk.2) (.slice Ao28 t190.length co28)) (fun _ hk => hk.2) (.slice Ao31 t193.length co31)) (fun _ h_ => h_.1))) hb) (Kd.R_base ho0)) (Kd.R_base ho1)) (fun _ h_ => h_.1)); have n5_ := k0 (Kd.R_lower (Kd.R_new' (Kd.R_new' (Kd.R_new' (Kd.R_new' (Kd.R_new' ho0 (Kd.R_lt (by (with_reducible repeat (first | apply Kd.R_alloc | apply Kd.R_drewN | apply Kd.R_drew)); exact (Kd.R_mono (Kd.R_far (p := ⟨gb197, 1, none⟩) (Kd.R_far (p := ⟨gb197, 0, none⟩) (Kd.R_types HO183.out BK197.out (by decide)) (fun _ hk => hk.2) (.slice Ao28 t190.length co28)) (fun _ hk => hk.2) (.slice Ao31 t193.length co31)) (fun _ h_ => h_.1))))) (Kd.R_lt (by (with_reducible repeat (first | apply Kd.R_alloc | apply Kd.R_drewN | apply Kd.R_drew)); exact (Kd.R_mono (Kd.R_far (p := ⟨gb197, 1, none⟩) (Kd.R_far (p := ⟨gb197, 0, none⟩) (Kd.R_types HO186.out BK197.out (by decide)) (fun _ hk => hk.2) (.slice Ao28 t190.length co28)) (fun _ hk => hk.2) (.slice Ao31 t193.length co31)) (fun _ h_ => h_.1))))) (Kd.R_lt (by (with_reducible repeat (first | apply Kd.R_alloc | apply Kd.R_drewN | apply Kd.R_drew)); exact (Kd.R_mono (Kd.R_far (p := ⟨gb197, 1, none⟩) (Kd.R_far (p := ⟨gb197, 0, none⟩) (Kd.R_types HO189.out BK197.out (by decide)) (fun _ hk => hk.2) (.slice Ao28 t190.length co28)) (fun _ hk => hk.2) (.slice Ao31 t193.length co31)) (fun _ h_ => h_.1))))) (Kd.R_lt (by (with_reducible repeat (first | apply Kd.R_alloc | apply Kd.R_drewN | apply Kd.R_drew)); exact (Kd.R_mono (Kd.R_far (p := ⟨gb197, 1, none⟩) (Kd.R_far (p := ⟨gb197, 0, none⟩) (Kd.R_types HO192.out BK197.out (by decide)) (fun _ hk => hk.2) (.slice Ao28 t190.length co28)) (fun _ hk => hk.2) (.slice Ao31 t193.length co31)) (fun _ h_ => h_.1))))) (Kd.R_lt (by (with_reducible repeat (first | apply Kd.R_alloc | apply Kd.R_drewN | apply Kd.R_drew)); exact (Kd.R_mono (Kd.R_far (p := ⟨gb197, 1, none⟩) (Kd.R_far (p := ⟨gb197, 0, none⟩) (Kd.R_types HO195.out BK197.out (by decide)) (fun _ hk => hk.2) (.slice Ao28 t190.length co28)) (fun _ hk => hk.2) (.slice Ao31 t193.length co31)) (fun _ h_ => h_.1))))) (below_size (kW HB.out))); have n6_ := k0 (Kd.R_lower (Kd.R_new' (Kd.R_new' (Kd.R_new' (Kd.R_new' (Kd.R_new' ho1 (Kd.R_lt (by (with_reducible repeat (first | apply Kd.R_alloc | apply Kd.R_drewN | apply Kd.R_drew)); exact (Kd.R_mono (Kd.R_far (p := ⟨gb197, 1, none⟩) (Kd.R_far (p := ⟨gb197, 0, none⟩) (Kd.R_types HO183.out BK197.out (by decide)) (fun _ hk => hk.2) (.slice Ao28 t190.length co28)) (fun _ hk => hk.2) (.slice Ao31 t193.length co31)) (fun _ h_ => h_.1))))) (Kd.R_lt (by (with_reducible repeat (first | apply Kd.R_alloc | apply Kd.R_drewN | apply Kd.R_drew)); exact (Kd.R_mono (Kd.R_far (p := ⟨gb197, 1, none⟩) (Kd.R_far (p := ⟨gb197, 0, none⟩) (Kd.R_types HO186.out BK197.out (by decide)) (fun _ hk => hk.2) (.slice Ao28 t190.length co28)) (fun _ hk => hk.2) (.slice Ao31 t193.length co31)) (fun _ h_ => h_.1))))) (Kd.R_lt (by (with_reducible repeat (first | apply Kd.R_alloc | apply Kd.R_drewN | apply Kd.R_drew)); exact (Kd.R_mono (Kd.R_far (p := ⟨gb197, 1, none⟩) (Kd.R_far (p := ⟨gb197, 0, none⟩) (Kd.R_types HO189.out BK197.out (by decide)) (fun _ hk => hk.2) (.slice Ao28 t190.length co28)) (fun _ hk => hk.2) (.slice Ao31 t193.length co31)) (fun _ h_ => h_.1))))) (Kd.R_lt (by (with_reducible repeat (first | apply Kd.R_alloc | apply Kd.R_drewN | apply Kd.R_drew)); exact (Kd.R_mono (Kd.R_far (p := ⟨gb197, 1, none⟩) (Kd.R_far (p := ⟨gb197, 0, none⟩) (Kd.R_types HO192.out BK197.out (by decide)) (fun _ hk => hk.2) (.slice Ao28 t190.length co28)) (fun _ hk => hk.2) (.slice Ao31 t193.length co31)) (fun _ h_ => h_.1))))) (Kd.R_lt (by (with_reducible repeat (first | apply Kd.R_alloc | apply Kd.R_drewN | apply Kd.R_drew)); exact (Kd.R_mono (Kd.R_far (p := ⟨gb197, 1, none⟩) (Kd.R_far (p := ⟨gb197, 0, none⟩) (Kd.R_types HO195.out BK197.out (by decide)) (fun _ hk => hk.2) (.slice Ao28 t190.length co28)) (fun _ hk => hk.2) (.slice Ao31 t193.length co31)) (fun _ h_ => h_.1))))) (below_size (kW HB.out))); have n7_ := k0 (blk_below (g := gb179) (o := .cells #[.slice A0_0 l0_0.length c0_0, .slice A0_1 l0_1.length c0_1] 32 (0, 0)) (by (with_reducible repeat (first | refine blk_drewN ?_ _ | refine blk_drew ?_ | refine blk_alloc ?_ _)); refine blk_far ?_ NB179_197.out _; (with_reducible repeat (first | refine blk_drewN ?_ _ | refine blk_drew ?_ | refine blk_alloc ?_ _)); refine blk_far ?_ NB179_197.out _; (with_reducible repeat (first | refine blk_drewN ?_ _ | refine blk_drew ?_ | refine blk_alloc ?_ _)); exact BK179.out) hb); have n8_ := k0 (blk_below (g := gb197) (o := .cells #[.slice Ao28 t190.length co28, .slice Ao31 t193.length co31] 35 (0, 0)) (by (with_reducible repeat (first | refine blk_drewN ?_ _ | refine blk_drew ?_ | refine blk_alloc ?_ _)); refine blk_put (cs := #[.slice Ao28 t190.length co28, .slice none 0 0]) ?_ 1 _ rfl; (with_reducible repeat (first | refine blk_drewN ?_ _ | refine blk_drew ?_ | refine blk_alloc ?_ _)); refine blk_put (cs := #[.slice none 0 0, .slice none 0 0]) ?_ 0 _ rfl; (with_reducible repeat (first | refine blk_drewN ?_ _ | refine blk_drew ?_ | refine blk_alloc ?_ _)); exact BK197.out) hb); have n9_ := k0 (below_step (kW HB.out) hb); clear HO183; clear HO186; clear HO189; clear HO192; clear HO195; clear BK179; clear BK197; clear HB; have HO183 := n0_; have HO186 := n1_; have HO189 := n2_; have HO192 := n3_; have HO195 := n4_; have HO200 := n5_; have HO203 := n6_; have BK179 := n7_; have BK197 := n8_; have HB := n9_; clear n0_ n1_ n2_ n3_ n4_ n5_ n6_ n7_ n8_ n9_; (try clear hb); (try clear hb2); (try clear hk); (try clear hi); (try clear ho0); (try clear ho1)) | ((with_reducible refine gate_dst (N := 8) rfl ?_); refine box_event ?hg (N := 8) ?hd (cs := #[.slice none 0 0, .slice none 0 0]) (t := 35) ?hr ?_; (case hd => rfl); (case hg => rfl); (case hr => first | (go_simp; done) | (go_simp; rfl)); intro gb204 hg w34 hbox hb; have n0_ := k0 (Kd.R_below (kR HO183.out) hb); have n1_ := k0 (Kd.R_below (kR HO186.out) hb); have n2_ := k0 (Kd.R_below (kR HO189.out) hb); have n3_ := k0 (Kd.R_below (kR HO192.out) hb); have n4_ := k0 (Kd.R_below (kR HO195.out) hb); have n5_ := k0 (Kd.R_below (kR HO200.out) hb); have n6_ := k0 (Kd.R_below (kR HO203.out) hb); have n7_ := k0 (kb BK179.out hb); have n8_ := k0 (kb BK197.out hb); have n9_ := k0 (below_step (kW HB.out) hb); have n10_ := k0 (hbox); have n11_ := k0 ((by rw [hg]; exact (below_size (kW HB.out)) : w.heap.size ≤ gb204)); have n12_ := k0 ((by rw [hg]; exact (below_size (kW HB.out)) : w.heap.size ≤ gb204)); have n13_ := k0 ((by rw [hg]; exact Nat.ne_of_lt (blk_lt (g := gb179) (o := .cells #[.slice A0_0 l0_0.length c0_0, .slice A0_1 l0_1.length c0_1] 32 (0, 0)) (kB BK179.out)) : gb179 ≠ gb204)); have n14_ := k0 ((by rw [hg]; exact Nat.ne_of_gt (blk_lt (g := gb179) (o := .cells #[.slice A0_0 l0_0.length c0_0, .slice A0_1 l0_1.length c0_1] 32 (0, 0)) (kB BK179.out)) : gb204 ≠ gb179)); have n15_ := k0 ((by rw [hg]; exact Nat.ne_of_lt (blk_lt (g := gb197) (o := .cells #[.slice Ao28 t190.length co28, .slice Ao31 t193.length co31] 35 (0, 0)) (kB BK197.out)) : gb197 ≠ gb204)); have n16_ := k0 ((by rw [hg]; exact Nat.ne_of_gt (blk_lt (g := gb197) (o := .cells #[.slice Ao28 t190.length co28, .slice Ao31 t193.length co31] 35 (0, 0)) (kB BK197.out)) : gb204 ≠ gb197)); clear HO183; clear HO186; clear HO189; clear HO192; clear HO195; clear HO200; clear HO203; clear BK179; clear BK197; clear HB; have HO183 := n0_; have HO186 := n1_; have HO189 := n2_; have HO192 := n3_; have HO195 := n4_; have HO200 := n5_; have HO203 := n6_; have BK179 := n7_; have BK197 := n8_; have HB := n9_; have BK204 := n10_; have GW204 := n11_; have GE204 := n12_; have NB179_204 := n13_; have NB204_179 := n14_; have NB197_204 := n15_; have NB204_197 := n16_; clear n0_ n1_ n2_ n3_ n4_ n5_ n6_ n7_ n8_ n9_ n10_ n11_ n12_ n13_ n14_ n15_ n16_; clear hb hbox hg; obtain ⟨Ao35, co35, eo35⟩ := Kd.R_slice HO200.out; subst eo35; have hnb36 := NB204_179.out; have hnc36 := NB179_204.out; have hnb37 := NB204_197.out; have hnc37 := NB197_204.out; have hcz38_0 : w34.cell? ⟨gb204, 0, none⟩ = some (.slice none 0 0) := (blk_cell BK204.out 0).trans rfl; have hcz38_1 : w34.cell? ⟨gb204, 1, none⟩ = some (.slice none 0 0) := (blk_cell BK204.out 1).trans rfl; have hfz38_0 := blk_frozen BK204.out 0; have hfz38_1 := blk_frozen BK204.out 1; obtain ⟨Ao39, co39, eo39⟩ := Kd.R_slice HO203.out; subst eo39) | ((with_reducible refine gate_callee (f := 43) rfl ?_); refine goesL_ (some 36) rfl rfl Try.func43 (by kernel_rfl) rfl #[.slice A1 l1.length c1] rfl (by (try simp only [List.map_toArray, List.map_cons, List.map_nil]); first | done | rfl | (simp only [List.length_drop, List.length_take]; rfl)) ?_; (with_reducible refine (laws_toByteS.calls k _ _ l1 t205 _ ?side1 ?side2 A14.out).mono ?_); (case side1 => exact Kd.C_below HR1.out (kW HB.out)); (case side2 => exact HC1.out); rintro e w40 ⟨v206, rfl, ho0, hb⟩; refine ⟨_, rfl, ?_⟩; have n0_ := k0 (Kd.R_elder' (by (with_reducible repeat (first | apply Kd.R_alloc | apply Kd.R_drewN | apply Kd.R_drew)); exact (Kd.R_mono (Kd.R_far (p := ⟨gb204, 1, none⟩) (Kd.R_far (p := ⟨gb204, 0, none⟩) (Kd.R_types HO183.out BK204.out (by decide)) (fun _ hk => hk.2) (.slice Ao35 t198.length co35)) (fun _ hk => hk.2) (.slice Ao39 t201.length co39)) (fun _ h_ => h_.1))) (Kd.R_base ho0) hb); have n1_ := k0 (Kd.R_elder' (by (with_reducible repeat (first | apply Kd.R_alloc | apply Kd.R_drewN | apply Kd.R_drew)); exact (Kd.R_mono (Kd.R_far (p := ⟨gb204, 1, none⟩) (Kd.R_far (p := ⟨gb204, 0, none⟩) (Kd.R_types HO186.out BK204.out (by decide)) (fun _ hk => hk.2) (.slice Ao35 t198.length co35)) (fun _ hk => hk.2) (.slice Ao39 t201.length co39)) (fun _ h_ => h_.1))) (Kd.R_base ho0) hb); have n2_ := k0 (Kd.R_elder' (by (with_reducible repeat (first | apply Kd.R_alloc | apply Kd.R_drewN | apply Kd.R_drew)); exact (Kd.R_mono (Kd.R_far (p := ⟨gb204, 1, none⟩) (Kd.R_far (p := ⟨gb204, 0, none⟩) (Kd.R_types HO189.out BK204.out (by decide)) (fun _ hk => hk.2) (.slice Ao35 t198.length co35)) (fun _ hk => hk.2) (.slice Ao39 t201.length co39)) (fun _ h_ => h_.1))) (Kd.R_base ho0) hb); have n3_ := k0 (Kd.R_elder' (by (with_reducible repeat (first | apply Kd.R_alloc | apply Kd.R_drewN | apply Kd.R_drew)); exact (Kd.R_mono (Kd.R_far (p := ⟨gb204, 1, none⟩) (Kd.R_far (p := ⟨gb204, 0, none⟩) (Kd.R_types HO192.out BK204.out (by decide)) (fun _ hk => hk.2) (.slice Ao35 t198.length co35)) (fun _ hk => hk.2) (.slice Ao39 t201.length co39)) (fun _ h_ => h_.1))) (Kd.R_base ho0) hb); have n4_ := k0 (Kd.R_elder' (by (with_reducible repeat (first | apply Kd.R_alloc | apply Kd.R_drewN | apply Kd.R_drew)); exact (Kd.R_mono (Kd.R_far (p := ⟨gb204, 1, none⟩) (Kd.R_far (p := ⟨gb204, 0, none⟩) (Kd.R_types HO195.out BK204.out (by decide)) (fun _ hk => hk.2) (.slice Ao35 t198.length co35)) (fun _ hk => hk.2) (.slice Ao39 t201.length co39)) (fun _ h_ => h_.1))) (Kd.R_base ho0) hb); have n5_ := k0 (Kd.R_elder' (by (with_reducible repeat (first | apply Kd.R_alloc | apply Kd.R_drewN | apply Kd.R_drew)); exact (Kd.R_mono (Kd.R_far (p := ⟨gb204, 1, none⟩) (Kd.R_far (p := ⟨gb204, 0, none⟩) (Kd.R_types HO200.out BK204.out (by decide)) (fun _ hk => hk.2) (.slice Ao35 t198.length co35)) (fun _ hk => hk.2) (.slice Ao39 t201.length co39)) (fun _ h_ => h_.1))) (Kd.R_base ho0) hb); have n6_ := k0 (Kd.R_elder' (by (with_reducible repeat (first | apply Kd.R_alloc | apply Kd.R_drewN | apply Kd.R_drew)); exact (Kd.R_mono (Kd.R_far (p := ⟨gb204, 1, none⟩) (Kd.R_far (p := ⟨gb204, 0, none⟩) (Kd.R_types HO203.out BK204.out (by decide)) (fun _ hk => hk.2) (.slice Ao35 t198.length co35)) (fun _ hk => hk.2) (.slice Ao39 t201.length co39)) (fun _ h_ => h_.1))) (Kd.R_base ho0) hb); have n7_ := k0 (Kd.R_lower (Kd.R_new' (Kd.R_new' (Kd.R_new' (Kd.R_new' (Kd.R_new' (Kd.R_new' (Kd.R_new' ho0 (Kd.R_lt (by (with_reducible repeat (first | apply Kd.R_alloc | apply Kd.R_drewN | apply Kd.R_drew)); exact (Kd.R_mono (Kd.R_far (p := ⟨gb204, 1, none⟩) (Kd.R_far (p := ⟨gb204, 0, none⟩) (Kd.R_types HO183.out BK204.out (by decide)) (fun _ hk => hk.2) (.slice Ao35 t198.length co35)) (fun _ hk => hk.2) (.slice Ao39 t201.length co39)) (fun _ h_ => h_.1))))) (Kd.R_lt (by (with_reducible repeat (first | apply Kd.R_alloc | apply Kd.R_drewN | apply Kd.R_drew)); exact (Kd.R_mono (Kd.R_far (p := ⟨gb204, 1, none⟩) (Kd.R_far (p := ⟨gb204, 0, none⟩) (Kd.R_types HO186.out BK204.out (by decide)) (fun _ hk => hk.2) (.slice Ao35 t198.length co35)) (fun _ hk => hk.2) (.slice Ao39 t201.length co39)) (fun _ h_ => h_.1))))) (Kd.R_lt (by (with_reducible repeat (first | apply Kd.R_alloc | apply Kd.R_drewN | apply Kd.R_drew)); exact (Kd.R_mono (Kd.R_far (p := ⟨gb204, 1, none⟩) (Kd.R_far (p := ⟨gb204, 0, none⟩) (Kd.R_types HO189.out BK204.out (by decide)) (fun _ hk => hk.2) (.slice Ao35 t198.length co35)) (fun _ hk => hk.2) (.slice Ao39 t201.length co39)) (fun _ h_ => h_.1))))) (Kd.R_lt (by (with_reducible repeat (first | apply Kd.R_alloc | apply Kd.R_drewN | apply Kd.R_drew)); exact (Kd.R_mono (Kd.R_far (p := ⟨gb204, 1, none⟩) (Kd.R_far (p := ⟨gb204, 0, none⟩) (Kd.R_types HO192.out BK204.out (by decide)) (fun _ hk => hk.2) (.slice Ao35 t198.length co35)) (fun _ hk => hk.2) (.slice Ao39 t201.length co39)) (fun _ h_ => h_.1))))) (Kd.R_lt (by (with_reducible repeat (first | apply Kd.R_alloc | apply Kd.R_drewN | apply Kd.R_drew)); exact (Kd.R_mono (Kd.R_far (p := ⟨gb204, 1, none⟩) (Kd.R_far (p := ⟨gb204, 0, none⟩) (Kd.R_types HO195.out BK204.out (by decide)) (fun _ hk => hk.2) (.slice Ao35 t198.length co35)) (fun _ hk => hk.2) (.slice Ao39 t201.length co39)) (fun _ h_ => h_.1))))) (Kd.R_lt (by (with_reducible repeat (first | apply Kd.R_alloc | apply Kd.R_drewN | apply Kd.R_drew)); exact (Kd.R_mono (Kd.R_far (p := ⟨gb204, 1, none⟩) (Kd.R_far (p := ⟨gb204, 0, none⟩) (Kd.R_types HO200.out BK204.out (by decide)) (fun _ hk => hk.2) (.slice Ao35 t198.length co35)) (fun _ hk => hk.2) (.slice Ao39 t201.length co39)) (fun _ h_ => h_.1))))) (Kd.R_lt (by (with_reducible repeat (first | apply Kd.R_alloc | apply Kd.R_drewN | apply Kd.R_drew)); exact (Kd.R_mono (Kd.R_far (p := ⟨gb204, 1, none⟩) (Kd.R_far (p := ⟨gb204, 0, none⟩) (Kd.R_types HO203.out BK204.out (by decide)) (fun _ hk => hk.2) (.slice Ao35 t198.length co35)) (fun _ hk => hk.2) (.slice Ao39 t201.length co39)) (fun _ h_ => h_.1))))) (below_size (kW HB.out))); have n8_ := k0 (blk_below (g := gb179) (o := .cells #[.slice A0_0 l0_0.length c0_0, .slice A0_1 l0_1.length c0_1] 32 (0, 0)) (by (with_reducible repeat (first | refine blk_drewN ?_ _ | refine blk_drew ?_ | refine blk_alloc ?_ _)); refine blk_far ?_ NB179_204.out _; (with_reducible repeat (first | refine blk_drewN ?_ _ | refine blk_drew ?_ | refine blk_alloc ?_ _)); refine blk_far ?_ NB179_204.out _; (with_reducible repeat (first | refine blk_drewN ?_ _ | refine blk_drew ?_ | refine blk_alloc ?_ _)); exact BK179.out) hb); have n9_ := k0 (blk_below (g := gb197) (o := .cells #[.slice Ao28 t190.length co28, .slice Ao31 t193.length co31] 35 (0, 0)) (by (with_reducible repeat (first | refine blk_drewN ?_ _ | refine blk_drew ?_ | refine blk_alloc ?_ _)); refine blk_far ?_ NB197_204.out _; (with_reducible repeat (first | refine blk_drewN ?_ _ | refine blk_drew ?_ | refine blk_alloc ?_ _)); refine blk_far ?_ NB197_204.out _; (with_reducible repeat (first | refine blk_drewN ?_ _ | refine blk_drew ?_ | refine blk_alloc ?_ _)); exact BK197.out) hb); have n10_ := k0 (blk_below (g := gb204) (o := .cells #[.slice Ao35 t198.length co35, .slice Ao39 t201.length co39] 35 (0, 0)) (by (with_reducible repeat (first | refine blk_drewN ?_ _ | refine blk_drew ?_ | refine blk_alloc ?_ _)); refine blk_put (cs := #[.slice Ao35 t198.length co35, .slice none 0 0]) ?_ 1 _ rfl; (with_reducible repeat (first | refine blk_drewN ?_ _ | refine blk_drew ?_ | refine blk_alloc ?_ _)); refine blk_put (cs := #[.slice none 0 0, .slice none 0 0]) ?_ 0 _ rfl; (with_reducible repeat (first | refine blk_drewN ?_ _ | refine blk_drew ?_ | refine blk_alloc ?_ _)); exact BK204.out) hb); have n11_ := k0 (below_step (kW HB.out) hb); clear HO183; clear HO186; clear HO189; clear HO192; clear HO195; clear HO200; clear HO203; clear BK179; clear BK197; clear BK204; clear HB; have HO183 := n0_; have HO186 := n1_; have HO189 := n2_; have HO192 := n3_; have HO195 := n4_; have HO200 := n5_; have HO203 := n6_; have HO207 := n7_; have BK179 := n8_; have BK197 := n9_; have BK204 := n10_; have HB := n11_; clear n0_ n1_ n2_ n3_ n4_ n5_ n6_ n7_ n8_ n9_ n10_ n11_; (try clear hb); (try clear hb2); (try clear hk); (try clear hi); (try clear ho0); have hcz41_0 : w40.cell? ⟨gb204, 0, none⟩ = some (.slice Ao35 t198.length co35) := (blk_cell BK204.out 0).trans rfl; have hcz41_1 : w40.cell? ⟨gb204, 1, none⟩ = some (.slice Ao39 t201.length co39) := (blk_cell BK204.out 1).trans rfl; have hfz41_0 := blk_frozen BK204.out 0; have hfz41_1 := blk_frozen BK204.out 1; obtain ⟨Ao42, co42, eo42⟩ := Kd.R_slice HO207.out; subst eo42) | ((with_reducible refine gate_callee (f := 27) rfl ?_); refine goesL_ (some 40) rfl rfl Try.func27 (by kernel_rfl) rfl #[.agg #[.slice Ao35 t198.length co35, .slice Ao39 t201.length co39], .slice Ao42 t205.length co42] rfl (by (try simp only [List.map_toArray, List.map_cons, List.map_nil]); first | done | rfl | (simp only [List.length_drop, List.length_take]; rfl)) ?_; (with_reducible refine (impl_DiskWrite.calls _ _ t198 _ _ t201 _ _ t205 t208 t211 t214 _ ?side1 ?side2 ?side3 ?side4 ?side5 ?side6 A15.out).mono ?_); (case side1 => repeat (first | exact (Kd.R_reads' HO200.out).2.2 | (with_reducible refine Kd.C_alloc ?_ _) | (with_reducible refine Kd.C_drewN ?_ _) | (with_reducible refine Kd.C_drew ?_))); (case side2 => exact (Kd.R_reads' HO200.out).2.1); (case side3 => repeat (first | exact (Kd.R_reads' HO203.out).2.2 | (with_reducible refine Kd.C_alloc ?_ _) | (with_reducible refine Kd.C_drewN ?_ _) | (with_reducible refine Kd.C_drew ?_))); (case side4 => exact (Kd.R_reads' HO203.out).2.1); (case side5 => repeat (first | exact (Kd.R_reads' HO207.out).2.2 | (with_reducible refine Kd.C_alloc ?_ _) | (with_reducible refine Kd.C_drewN ?_ _) | (with_reducible refine Kd.C_drew ?_))); (case side6 => exact (Kd.R_reads' HO207.out).2.1); rintro e w43 ⟨v209, v212, rfl, ho0, ho1, hb⟩; refine ⟨_, rfl, ?_⟩; have n0_ := k0 (Kd.R_mono (Kd.R_told (Kd.R_told (Kd.R_old (kR HO183.out) hb) (Kd.R_base ho0)) (Kd.R_base ho1)) (fun _ h_ => h_.1)); have n1_ := k0 (Kd.R_mono (Kd.R_told (Kd.R_told (Kd.R_old (kR HO186.out) hb) (Kd.R_base ho0)) (Kd.R_base ho1)) (fun _ h_ => h_.1)); have n2_ := k0 (Kd.R_mono (Kd.R_told (Kd.R_told (Kd.R_old (kR HO189.out) hb) (Kd.R_base ho0)) (Kd.R_base ho1)) (fun _ h_ => h_.1)); have n3_ := k0 (Kd.R_mono (Kd.R_told (Kd.R_told (Kd.R_old (kR HO192.out) hb) (Kd.R_base ho0)) (Kd.R_base ho1)) (fun _ h_ => h_.1)); have n4_ := k0 (Kd.R_mono (Kd.R_told (Kd.R_told (Kd.R_old (kR HO195.out) hb) (Kd.R_base ho0)) (Kd.R_base ho1)) (fun _ h_ => h_.1)); have n5_ := k0 (Kd.R_mono (Kd.R_told (Kd.R_told (Kd.R_old (kR HO200.out) hb) (Kd.R_base ho0)) (Kd.R_base ho1)) (fun _ h_ => h_.1)); have n6_ := k0 (Kd.R_mono (Kd.R_told (Kd.R_told (Kd.R_old (kR HO203.out) hb) (Kd.R_base ho0)) (Kd.R_base ho1)) (fun _ h_ => h_.1)); have n7_ := k0 (Kd.R_mono (Kd.R_told (Kd.R_told (Kd.R_old (kR HO207.out) hb) (Kd.R_base ho0)) (Kd.R_base ho1)) (fun _ h_ => h_.1)); have n8_ := k0 (Kd.R_lower (Kd.R_new' (Kd.R_new' (Kd.R_new' (Kd.R_new' (Kd.R_new' (Kd.R_new' (Kd.R_new' (Kd.R_new' ho0 (Kd.R_lt (kR HO183.out))) (Kd.R_lt (kR HO186.out))) (Kd.R_lt (kR HO189.out))) (Kd.R_lt (kR HO192.out))) (Kd.R_lt (kR HO195.out))) (Kd.R_lt (kR HO200.out))) (Kd.R_lt (kR HO203.out))) (Kd.R_lt (kR HO207.out))) (below_size (kW HB.out))); have n9_ := k0 (Kd.R_lower (Kd.R_new' (Kd.R_new' (Kd.R_new' (Kd.R_new' (Kd.R_new' (Kd.R_new' (Kd.R_new' (Kd.R_new' ho1 (Kd.R_lt (kR HO183.out))) (Kd.R_lt (kR HO186.out))) (Kd.R_lt (kR HO189.out))) (Kd.R_lt (kR HO192.out))) (Kd.R_lt (kR HO195.out))) (Kd.R_lt (kR HO200.out))) (Kd.R_lt (kR HO203.out))) (Kd.R_lt (kR HO207.out))) (below_size (kW HB.out))); have n10_ := k0 (kb BK179.out hb); have n11_ := k0 (kb BK197.out hb); have n12_ := k0 (kb BK204.out hb); have n13_ := k0 (below_step (kW HB.out) hb); clear HO183; clear HO186; clear HO189; clear HO192; clear HO195; clear HO200; clear HO203; clear HO207; clear BK179; clear BK197; clear BK204; clear HB; have HO183 := n0_; have HO186 := n1_; have HO189 := n2_; have HO192 := n3_; have HO195 := n4_; have HO200 := n5_; have HO203 := n6_; have HO207 := n7_; have HO210 := n8_; have HO213 := n9_; have BK179 := n10_; have BK197 := n11_; have BK204 := n12_; have HB := n13_; clear n0_ n1_ n2_ n3_ n4_ n5_ n6_ n7_ n8_ n9_ n10_ n11_ n12_ n13_; (try clear hb); (try clear hb2); (try clear hk); (try clear hi); (try clear ho0); (try clear ho1)) | ((with_reducible refine gate_dst (N := 10) rfl ?_); refine box_event ?hg (N := 10) ?hd (cs := #[.slice none 0 0, .slice none 0 0]) (t := 35) ?hr ?_; (case hd => rfl); (case hg => rfl); (case hr => first | (go_simp; done) | (go_simp; rfl)); intro gb215 hg w44 hbox hb; have n0_ := k0 (Kd.R_below (kR HO183.out) hb); have n1_ := k0 (Kd.R_below (kR HO186.out) hb); have n2_ := k0 (Kd.R_below (kR HO189.out) hb); have n3_ := k0 (Kd.R_below (kR HO192.out) hb); have n4_ := k0 (Kd.R_below (kR HO195.out) hb); have n5_ := k0 (Kd.R_below (kR HO200.out) hb); have n6_ := k0 (Kd.R_below (kR HO203.out) hb); have n7_ := k0 (Kd.R_below (kR HO207.out) hb); have n8_ := k0 (Kd.R_below (kR HO210.out) hb); have n9_ := k0 (Kd.R_below (kR HO213.out) hb); have n10_ := k0 (kb BK179.out hb); have n11_ := k0 (kb BK197.out hb); have n12_ := k0 (kb BK204.out hb); have n13_ := k0 (below_step (kW HB.out) hb); have n14_ := k0 (hbox); have n15_ := k0 ((by rw [hg]; exact (below_size (kW HB.out)) : w.heap.size ≤ gb215)); have n16_ := k0 ((by rw [hg]; exact (below_size (kW HB.out)) : w.heap.size ≤ gb215)); have n17_ := k0 ((by rw [hg]; exact Nat.ne_of_lt (blk_lt (g := gb179) (o := .cells #[.slice A0_0 l0_0.length c0_0, .slice A0_1 l0_1.length c0_1] 32 (0, 0)) (kB BK179.out)) : gb179 ≠ gb215)); have n18_ := k0 ((by rw [hg]; exact Nat.ne_of_gt (blk_lt (g := gb179) (o := .cells #[.slice A0_0 l0_0.length c0_0, .slice A0_1 l0_1.length c0_1] 32 (0, 0)) (kB BK179.out)) : gb215 ≠ gb179)); have n19_ := k0 ((by rw [hg]; exact Nat.ne_of_lt (blk_lt (g := gb197) (o := .cells #[.slice Ao28 t190.length co28, .slice Ao31 t193.length co31] 35 (0, 0)) (kB BK197.out)) : gb197 ≠ gb215)); have n20_ := k0 ((by rw [hg]; exact Nat.ne_of_gt (blk_lt (g := gb197) (o := .cells #[.slice Ao28 t190.length co28, .slice Ao31 t193.length co31] 35 (0, 0)) (kB BK197.out)) : gb215 ≠ gb197)); have n21_ := k0 ((by rw [hg]; exact Nat.ne_of_lt (blk_lt (g := gb204) (o := .cells #[.slice Ao35 t198.length co35, .slice Ao39 t201.length co39] 35 (0, 0)) (kB BK204.out)) : gb204 ≠ gb215)); have n22_ := k0 ((by rw [hg]; exact Nat.ne_of_gt (blk_lt (g := gb204) (o := .cells #[.slice Ao35 t198.length co35, .slice Ao39 t201.length co39] 35 (0, 0)) (kB BK204.out)) : gb215 ≠ gb204)); clear HO183; clear HO186; clear HO189; clear HO192; clear HO195; clear HO200; clear HO203; clear HO207; clear HO210; clear HO213; clear BK179; clear BK197; clear BK204; clear HB; have HO183 := n0_; have HO186 := n1_; have HO189 := n2_; have HO192 := n3_; have HO195 := n4_; have HO200 := n5_; have HO203 := n6_; have HO207 := n7_; have HO210 := n8_; have HO213 := n9_; have BK179 := n10_; have BK197 := n11_; have BK204 := n12_; have HB := n13_; have BK215 := n14_; have GW215 := n15_; have GE215 := n16_; have NB179_215 := n17_; have NB215_179 := n18_; have NB197_215 := n19_; have NB215_197 := n20_; have NB204_215 := n21_; have NB215_204 := n22_; clear n0_ n1_ n2_ n3_ n4_ n5_ n6_ n7_ n8_ n9_ n10_ n11_ n12_ n13_ n14_ n15_ n16_ n17_ n18_ n19_ n20_ n21_ n22_; clear hb hbox hg; obtain ⟨Ao45, co45, eo45⟩ := Kd.R_slice HO210.out; subst eo45; have hnb46 := NB215_179.out; have hnc46 := NB179_215.out; have hnb47 := NB215_197.out; have hnc47 := NB197_215.out; have hnb48 := NB215_204.out; have hnc48 := NB204_215.out; have hcz49_0 : w44.cell? ⟨gb215, 0, none⟩ = some (.slice none 0 0) := (blk_cell BK215.out 0).trans rfl; have hcz49_1 : w44.cell? ⟨gb215, 1, none⟩ = some (.slice none 0 0) := (blk_cell BK215.out 1).trans rfl; have hfz49_0 := blk_frozen BK215.out 0; have hfz49_1 := blk_frozen BK215.out 1; obtain ⟨Ao50, co50, eo50⟩ := Kd.R_slice HO213.out; subst eo50))
   (try simp only [Act.put, List.setIfInBounds_toArray, List.set_cons_zero, List.set_cons_succ])
   go_cut [51] (fun v51 wc => ∃ (kq : Nat) (x51_15 : Bool), v51 = .bool x51_15 ∧ Aside0 (laws_FnExactDiskWrite.j0 kq l1 t196 t205 t214 x51_15 l0_0 l0_1 t190 t193 t198 t201 t208 t211 = some r) ∧ Aside0 (kq ≤ k) ∧ Aside0 (Kd.R (Kd.int .u8) 5 wc w.heap.size (fun k_ => some k_ ≠ ((.slice Ao28 t190.length co28) : Value).ownBlock ∧ some k_ ≠ ((.slice Ao31 t193.length co31) : Value).ownBlock ∧ some k_ ≠ ((.slice Ao35 t198.length co35) : Value).ownBlock ∧ some k_ ≠ ((.slice Ao39 t201.length co39) : Value).ownBlock ∧ some k_ ≠ ((.slice Ao45 t208.length co45) : Value).ownBlock ∧ some k_ ≠ ((.slice Ao50 t211.length co50) : Value).ownBlock) (.slice Ao42 t205.length co42) t205) ∧ Aside0 (Kd.R (Kd.int .u8) 5 wc w.heap.size (fun k_ => some k_ ≠ ((.slice Ao42 t205.length co42) : Value).ownBlock ∧ some k_ ≠ ((.slice Ao31 t193.length co31) : Value).ownBlock ∧ some k_ ≠ ((.slice Ao35 t198.length co35) : Value).ownBlock ∧ some k_ ≠ ((.slice Ao39 t201.length co39) : Value).ownBlock ∧ some k_ ≠ ((.slice Ao45 t208.length co45) : Value).ownBlock ∧ some k_ ≠ ((.slice Ao50 t211.length co50) : Value).ownBlock) (.slice Ao28 t190.length co28) t190) ∧ Aside0 (Kd.R (Kd.int .u8) 5 wc w.heap.size (fun k_ => some k_ ≠ ((.slice Ao42 t205.length co42) : Value).ownBlock ∧ some k_ ≠ ((.slice Ao28 t190.length co28) : Value).ownBlock ∧ some k_ ≠ ((.slice Ao35 t198.length co35) : Value).ownBlock ∧ some k_ ≠ ((.slice Ao39 t201.length co39) : Value).ownBlock ∧ some k_ ≠ ((.slice Ao45 t208.length co45) : Value).ownBlock ∧ some k_ ≠ ((.slice Ao50 t211.length co50) : Value).ownBlock) (.slice Ao31 t193.length co31) t193) ∧ Aside0 (Kd.R (Kd.int .u8) 5 wc w.heap.size (fun k_ => some k_ ≠ ((.slice Ao42 t205.length co42) : Value).ownBlock ∧ some k_ ≠ ((.slice Ao28 t190.length co28) : Value).ownBlock ∧ some k_ ≠ ((.slice Ao31 t193.length co31) : Value).ownBlock ∧ some k_ ≠ ((.slice Ao39 t201.length co39) : Value).ownBlock ∧ some k_ ≠ ((.slice Ao45 t208.length co45) : Value).ownBlock ∧ some k_ ≠ ((.slice Ao50 t211.length co50) : Value).ownBlock) (.slice Ao35 t198.length co35) t198) ∧ Aside0 (Kd.R (Kd.int .u8) 5 wc w.heap.size (fun k_ => some k_ ≠ ((.slice Ao42 t205.length co42) : Value).ownBlock ∧ some k_ ≠ ((.slice Ao28 t190.length co28) : Value).ownBlock ∧ some k_ ≠ ((.slice Ao31 t193.length co31) : Value).ownBlock ∧ some k_ ≠ ((.slice Ao35 t198.length co35) : Value).ownBlock ∧ some k_ ≠ ((.slice Ao45 t208.length co45) : Value).ownBlock ∧ some k_ ≠ ((.slice Ao50 t211.length co50) : Value).ownBlock) (.slice Ao39 t201.length co39) t201) ∧ Aside0 (Kd.R (Kd.int .u8) 5 wc w.heap.size (fun k_ => some k_ ≠ ((.slice Ao42 t205.length co42) : Value).ownBlock ∧ some k_ ≠ ((.slice Ao28 t190.length co28) : Value).ownBlock ∧ some k_ ≠ ((.slice Ao31 t193.length co31) : Value).ownBlock ∧ some k_ ≠ ((.slice Ao35 t198.length co35) : Value).ownBlock ∧ some k_ ≠ ((.slice Ao39 t201.length co39) : Value).ownBlock ∧ some k_ ≠ ((.slice Ao50 t211.length co50) : Value).ownBlock) (.slice Ao45 t208.length co45) t208) ∧ Aside0 (Kd.R (Kd.int .u8) 5 wc w.heap.size (fun k_ => some k_ ≠ ((.slice Ao42 t205.length co42) : Value).ownBlock ∧ some k_ ≠ ((.slice Ao28 t190.length co28) : Value).ownBlock ∧ some k_ ≠ ((.slice Ao31 t193.length co31) : Value).ownBlock ∧ some k_ ≠ ((.slice Ao35 t198.length co35) : Value).ownBlock ∧ some k_ ≠ ((.slice Ao39 t201.length co39) : Value).ownBlock ∧ some k_ ≠ ((.slice Ao45 t208.length co45) : Value).ownBlock) (.slice Ao50 t211.length co50) t211) ∧ Aside0 (wc.heap[gb179]? = some (.cells #[(.slice A0_0 l0_0.length c0_0), (.slice A0_1 l0_1.length c0_1)] 32 (0, 0))) ∧ Aside0 (wc.heap[gb197]? = some (.cells #[(.slice Ao28 t190.length co28), (.slice Ao31 t193.length co31)] 35 (0, 0))) ∧ Aside0 (wc.heap[gb204]? = some (.cells #[(.slice Ao35 t198.length co35), (.slice Ao39 t201.length co39)] 35 (0, 0))) ∧ Aside0 (wc.heap[gb215]? = some (.cells #[(.slice Ao45 t208.length co45), (.slice Ao50 t211.length co50)] 35 (0, 0))) ∧ Aside0 (Below w.heap.size w wc))
   case first =>
    have H := HC16.out
    clear HC16
    replace H := Option.bind_eq_some_iff.mp H
    obtain ⟨t216, A510, H⟩ := H
    replace H : (if t216 = true then (laws_FnExactDiskWrite.j0 k l1 t196 t205 t214 (t214 != t196) l0_0 l0_1 t190 t193 t198 t201 t208 t211) else (laws_FnExactDiskWrite.j0 k l1 t196 t205 t214 true l0_0 l0_1 t190 t193 t198 t201 t208 t211)) = some r := H
    have A51 := Aside0.mk A510
    clear A510
    by_cases c52 : t216 = true
    ·subst c52
     have H1 : (laws_FnExactDiskWrite.j0 k l1 t196 t205 t214 (t214 != t196) l0_0 l0_1 t190 t193 t198 t201 t208 t211) = some r := by rw [if_pos rfl] at H; exact H
     clear H
     have H := H1
     clear H1
     have H' := Aside0.mk H
     clear H
     have hnb53 := NB215_179.out
     have hnc53 := NB179_215.out
     have hnb54 := NB215_197.out
     have hnc54 := NB197_215.out
     have hnb55 := NB215_204.out
     have hnc55 := NB204_215.out
     have hcz56_0 : w44.cell? ⟨gb215, 0, none⟩ = some (.slice none 0 0) := (blk_cell BK215.out 0).trans rfl
     have hcz56_1 : w44.cell? ⟨gb215, 1, none⟩ = some (.slice none 0 0) := (blk_cell BK215.out 1).trans rfl
     have hfz56_0 := blk_frozen BK215.out 0
     have hfz56_1 := blk_frozen BK215.out 1
     have hnb57 := NB197_179.out
     have hnc57 := NB179_197.out
     have hnb58 := NB197_204.out
     have hnc58 := NB204_197.out
     have hcz59_0 : w44.cell? ⟨gb197, 0, none⟩ = some (.slice Ao28 t190.length co28) := (blk_cell BK197.out 0).trans rfl
     have hcz59_1 : w44.cell? ⟨gb197, 1, none⟩ = some (.slice Ao31 t193.length co31) := (blk_cell BK197.out 1).trans rfl
     have hfz59_0 := blk_frozen BK197.out 0
     have hfz59_1 := blk_frozen BK197.out 1
     go_wp2_with (first | ((with_reducible refine gate_callee (f := 23) rfl ?_); refine goesL_ (some 45) rfl rfl Try.func23 (by kernel_rfl) rfl #[.agg #[.slice Ao45 t208.length co45, .slice Ao50 t211.length co50], .agg #[.slice Ao28 t190.length co28, .slice Ao31 t193.length co31]] rfl (by (try simp only [List.map_toArray, List.map_cons, List.map_nil]); first | done | rfl | (simp only [List.length_drop, List.length_take]; rfl)) ?_; (with_reducible refine (laws_eqDisk.calls k _ _ t208 _ _ t211 _ _ t190 _ _ t193 true _ ?side1 ?side2 ?side3 ?side4 ?side5 ?side6 ?side7 ?side8 A51.out).mono ?_); (case side1 => refine (Kd.R_reads' (e := 5) (base := w.heap.size) (ok := fun k_ => ((((((((some k_ ≠ (.slice Ao50 t211.length co50 : Value).ownBlock ∧ some k_ ≠ (.slice Ao23 t181.length co23 : Value).ownBlock) ∧ some k_ ≠ (.slice Ao24 t184.length co24 : Value).ownBlock) ∧ some k_ ≠ (.slice Ao25 t187.length co25 : Value).ownBlock) ∧ some k_ ≠ (.slice Ao28 t190.length co28 : Value).ownBlock) ∧ some k_ ≠ (.slice Ao31 t193.length co31 : Value).ownBlock) ∧ some k_ ≠ (.slice Ao35 t198.length co35 : Value).ownBlock) ∧ some k_ ≠ (.slice Ao39 t201.length co39 : Value).ownBlock) ∧ some k_ ≠ (.slice Ao42 t205.length co42 : Value).ownBlock)) (n := t208.length) (c := co45) ?_).2.2; exact (by (with_reducible repeat (first | apply Kd.R_alloc | apply Kd.R_drewN | apply Kd.R_drew)); exact (Kd.R_mono (Kd.R_far (p := ⟨gb215, 1, none⟩) (Kd.R_far (p := ⟨gb215, 0, none⟩) (Kd.R_types HO210.out BK215.out (by decide)) (fun _ hk => hk.2) (.slice Ao45 t208.length co45)) (fun _ hk => hk.2) (.slice Ao50 t211.length co50)) (fun _ h_ => h_.1)))); (case side2 => exact (Kd.R_reads' HO210.out).2.1); (case side3 => refine (Kd.R_reads' (e := 5) (base := w.heap.size) (ok := fun k_ => ((((((((some k_ ≠ (.slice Ao45 t208.length co45 : Value).ownBlock ∧ some k_ ≠ (.slice Ao23 t181.length co23 : Value).ownBlock) ∧ some k_ ≠ (.slice Ao24 t184.length co24 : Value).ownBlock) ∧ some k_ ≠ (.slice Ao25 t187.length co25 : Value).ownBlock) ∧ some k_ ≠ (.slice Ao28 t190.length co28 : Value).ownBlock) ∧ some k_ ≠ (.slice Ao31 t193.length co31 : Value).ownBlock) ∧ some k_ ≠ (.slice Ao35 t198.length co35 : Value).ownBlock) ∧ some k_ ≠ (.slice Ao39 t201.length co39 : Value).ownBlock) ∧ some k_ ≠ (.slice Ao42 t205.length co42 : Value).ownBlock)) (n := t211.length) (c := co50) ?_).2.2; exact (by (with_reducible repeat (first | apply Kd.R_alloc | apply Kd.R_drewN | apply Kd.R_drew)); exact (Kd.R_mono (Kd.R_far (p := ⟨gb215, 1, none⟩) (Kd.R_far (p := ⟨gb215, 0, none⟩) (Kd.R_types HO213.out BK215.out (by decide)) (fun _ hk => hk.2) (.slice Ao45 t208.length co45)) (fun _ hk => hk.2) (.slice Ao50 t211.length co50)) (fun _ h_ => h_.1)))); (case side4 => exact (Kd.R_reads' HO213.out).2.1); (case side5 => refine (Kd.R_reads' (e := 5) (base := w.heap.size) (ok := fun k_ => ((((((((some k_ ≠ (.slice Ao31 t193.length co31 : Value).ownBlock ∧ some k_ ≠ (.slice Ao23 t181.length co23 : Value).ownBlock) ∧ some k_ ≠ (.slice Ao24 t184.length co24 : Value).ownBlock) ∧ some k_ ≠ (.slice Ao25 t187.length co25 : Value).ownBlock) ∧ some k_ ≠ (.slice Ao35 t198.length co35 : Value).ownBlock) ∧ some k_ ≠ (.slice Ao39 t201.length co39 : Value).ownBlock) ∧ some k_ ≠ (.slice Ao42 t205.length co42 : Value).ownBlock) ∧ some k_ ≠ (.slice Ao45 t208.length co45 : Value).ownBlock) ∧ some k_ ≠ (.slice Ao50 t211.length co50 : Value).ownBlock)) (n := t190.length) (c := co28) ?_).2.2; exact (by (with_reducible repeat (first | apply Kd.R_alloc | apply Kd.R_drewN | apply Kd.R_drew)); exact (Kd.R_mono (Kd.R_far (p := ⟨gb215, 1, none⟩) (Kd.R_far (p := ⟨gb215, 0, none⟩) (Kd.R_types HO192.out BK215.out (by decide)) (fun _ hk => hk.2) (.slice Ao45 t208.length co45)) (fun _ hk => hk.2) (.slice Ao50 t211.length co50)) (fun _ h_ => h_.1)))); (case side6 => exact (Kd.R_reads' HO192.out).2.1); (case side7 => refine (Kd.R_reads' (e := 5) (base := w.heap.size) (ok := fun k_ => ((((((((some k_ ≠ (.slice Ao28 t190.length co28 : Value).ownBlock ∧ some k_ ≠ (.slice Ao23 t181.length co23 : Value).ownBlock) ∧ some k_ ≠ (.slice Ao24 t184.length co24 : Value).ownBlock) ∧ some k_ ≠ (.slice Ao25 t187.length co25 : Value).ownBlock) ∧ some k_ ≠ (.slice Ao35 t198.length co35 : Value).ownBlock) ∧ some k_ ≠ (.slice Ao39 t201.length co39 : Value).ownBlock) ∧ some k_ ≠ (.slice Ao42 t205.length co42 : Value).ownBlock) ∧ some k_ ≠ (.slice Ao45 t208.length co45 : Value).ownBlock) ∧ some k_ ≠ (.slice Ao50 t211.length co50 : Value).ownBlock)) (n := t193.length) (c := co31) ?_).2.2; exact (by (with_reducible repeat (first | apply Kd.R_alloc | apply Kd.R_drewN | apply Kd.R_drew)); exact (Kd.R_mono (Kd.R_far (p := ⟨gb215, 1, none⟩) (Kd.R_far (p := ⟨gb215, 0, none⟩) (Kd.R_types HO195.out BK215.out (by decide)) (fun _ hk => hk.2) (.slice Ao45 t208.length co45)) (fun _ hk => hk.2) (.slice Ao50 t211.length co50)) (fun _ h_ => h_.1)))); (case side8 => exact (Kd.R_reads' HO195.out).2.1); rintro e w60 ⟨rfl, hb⟩; refine ⟨_, rfl, ?_⟩; have n0_ := k0 (Kd.R_below (by (with_reducible repeat (first | apply Kd.R_alloc | apply Kd.R_drewN | apply Kd.R_drew)); exact (Kd.R_mono (Kd.R_far (p := ⟨gb215, 1, none⟩) (Kd.R_far (p := ⟨gb215, 0, none⟩) (Kd.R_types HO183.out BK215.out (by decide)) (fun _ hk => hk.2) (.slice Ao45 t208.length co45)) (fun _ hk => hk.2) (.slice Ao50 t211.length co50)) (fun _ h_ => h_.1))) hb); have n1_ := k0 (Kd.R_below (by (with_reducible repeat (first | apply Kd.R_alloc | apply Kd.R_drewN | apply Kd.R_drew)); exact (Kd.R_mono (Kd.R_far (p := ⟨gb215, 1, none⟩) (Kd.R_far (p := ⟨gb215, 0, none⟩) (Kd.R_types HO186.out BK215.out (by decide)) (fun _ hk => hk.2) (.slice Ao45 t208.length co45)) (fun _ hk => hk.2) (.slice Ao50 t211.length co50)) (fun _ h_ => h_.1))) hb); have n2_ := k0 (Kd.R_below (by (with_reducible repeat (first | apply Kd.R_alloc | apply Kd.R_drewN | apply Kd.R_drew)); exact (Kd.R_mono (Kd.R_far (p := ⟨gb215, 1, none⟩) (Kd.R_far (p := ⟨gb215, 0, none⟩) (Kd.R_types HO189.out BK215.out (by decide)) (fun _ hk => hk.2) (.slice Ao45 t208.length co45)) (fun _ hk => hk.2) (.slice Ao50 t211.length co50)) (fun _ h_ => h_.1))) hb); have n3_ := k0 (Kd.R_below (by (with_reducible repeat (first | apply Kd.R_alloc | apply Kd.R_drewN | apply Kd.R_drew)); exact (Kd.R_mono (Kd.R_far (p := ⟨gb215, 1, none⟩) (Kd.R_far (p := ⟨gb215, 0, none⟩) (Kd.R_types HO192.out BK215.out (by decide)) (fun _ hk => hk.2) (.slice Ao45 t208.length co45)) (fun _ hk => hk.2) (.slice Ao50 t211.length co50)) (fun _ h_ => h_.1))) hb); have n4_ := k0 (Kd.R_below (by (with_reducible repeat (first | apply Kd.R_alloc | apply Kd.R_drewN | apply Kd.R_drew)); exact (Kd.R_mono (Kd.R_far (p := ⟨gb215, 1, none⟩) (Kd.R_far (p := ⟨gb215, 0, none⟩) (Kd.R_types HO195.out BK215.out (by decide)) (fun _ hk => hk.2) (.slice Ao45 t208.length co45)) (fun _ hk => hk.2) (.slice Ao50 t211.length co50)) (fun _ h_ => h_.1))) hb); have n5_ := k0 (Kd.R_below (by (with_reducible repeat (first | apply Kd.R_alloc | apply Kd.R_drewN | apply Kd.R_drew)); exact (Kd.R_mono (Kd.R_far (p := ⟨gb215, 1, none⟩) (Kd.R_far (p := ⟨gb215, 0, none⟩) (Kd.R_types HO200.out BK215.out (by decide)) (fun _ hk => hk.2) (.slice Ao45 t208.length co45)) (fun _ hk => hk.2) (.slice Ao50 t211.length co50)) (fun _ h_ => h_.1))) hb); have n6_ := k0 (Kd.R_below (by (with_reducible repeat (first | apply Kd.R_alloc | apply Kd.R_drewN | apply Kd.R_drew)); exact (Kd.R_mono (Kd.R_far (p := ⟨gb215, 1, none⟩) (Kd.R_far (p := ⟨gb215, 0, none⟩) (Kd.R_types HO203.out BK215.out (by decide)) (fun _ hk => hk.2) (.slice Ao45 t208.length co45)) (fun _ hk => hk.2) (.slice Ao50 t211.length co50)) (fun _ h_ => h_.1))) hb); have n7_ := k0 (Kd.R_below (by (with_reducible repeat (first | apply Kd.R_alloc | apply Kd.R_drewN | apply Kd.R_drew)); exact (Kd.R_mono (Kd.R_far (p := ⟨gb215, 1, none⟩) (Kd.R_far (p := ⟨gb215, 0, none⟩) (Kd.R_types HO207.out BK215.out (by decide)) (fun _ hk => hk.2) (.slice Ao45 t208.length co45)) (fun _ hk => hk.2) (.slice Ao50 t211.length co50)) (fun _ h_ => h_.1))) hb); have n8_ := k0 (Kd.R_below (by (with_reducible repeat (first | apply Kd.R_alloc | apply Kd.R_drewN | apply Kd.R_drew)); exact (Kd.R_mono (Kd.R_far (p := ⟨gb215, 1, none⟩) (Kd.R_far (p := ⟨gb215, 0, none⟩) (Kd.R_types HO210.out BK215.out (by decide)) (fun _ hk => hk.2) (.slice Ao45 t208.length co45)) (fun _ hk => hk.2) (.slice Ao50 t211.length co50)) (fun _ h_ => h_.1))) hb); have n9_ := k0 (Kd.R_below (by (with_reducible repeat (first | apply Kd.R_alloc | apply Kd.R_drewN | apply Kd.R_drew)); exact (Kd.R_mono (Kd.R_far (p := ⟨gb215, 1, none⟩) (Kd.R_far (p := ⟨gb215, 0, none⟩) (Kd.R_types HO213.out BK215.out (by decide)) (fun _ hk => hk.2) (.slice Ao45 t208.length co45)) (fun _ hk => hk.2) (.slice Ao50 t211.length co50)) (fun _ h_ => h_.1))) hb); have n10_ := k0 (blk_below (g := gb179) (o := .cells #[.slice A0_0 l0_0.length c0_0, .slice A0_1 l0_1.length c0_1] 32 (0, 0)) (by (with_reducible repeat (first | refine blk_drewN ?_ _ | refine blk_drew ?_ | refine blk_alloc ?_ _)); refine blk_far ?_ NB179_215.out _; (with_reducible repeat (first | refine blk_drewN ?_ _ | refine blk_drew ?_ | refine blk_alloc ?_ _)); refine blk_far ?_ NB179_215.out _; (with_reducible repeat (first | refine blk_drewN ?_ _ | refine blk_drew ?_ | refine blk_alloc ?_ _)); exact BK179.out) hb); have n11_ := k0 (blk_below (g := gb197) (o := .cells #[.slice Ao28 t190.length co28, .slice Ao31 t193.length co31] 35 (0, 0)) (by (with_reducible repeat (first | refine blk_drewN ?_ _ | refine blk_drew ?_ | refine blk_alloc ?_ _)); refine blk_far ?_ NB197_215.out _; (with_reducible repeat (first | refine blk_drewN ?_ _ | refine blk_drew ?_ | refine blk_alloc ?_ _)); refine blk_far ?_ NB197_215.out _; (with_reducible repeat (first | refine blk_drewN ?_ _ | refine blk_drew ?_ | refine blk_alloc ?_ _)); exact BK197.out) hb); have n12_ := k0 (blk_below (g := gb204) (o := .cells #[.slice Ao35 t198.length co35, .slice Ao39 t201.length co39] 35 (0, 0)) (by (with_reducible repeat (first | refine blk_drewN ?_ _ | refine blk_drew ?_ | refine blk_alloc ?_ _)); refine blk_far ?_ NB204_215.out _; (with_reducible repeat (first | refine blk_drewN ?_ _ | refine blk_drew ?_ | refine blk_alloc ?_ _)); refine blk_far ?_ NB204_215.out _; (with_reducible repeat (first | refine blk_drewN ?_ _ | refine blk_drew ?_ | refine blk_alloc ?_ _)); exact BK204.out) hb); have n13_ := k0 (blk_below (g := gb215) (o := .cells #[.slice Ao45 t208.length co45, .slice Ao50 t211.length co50] 35 (0, 0)) (by (with_reducible repeat (first | refine blk_drewN ?_ _ | refine blk_drew ?_ | refine blk_alloc ?_ _)); refine blk_put (cs := #[.slice Ao45 t208.length co45, .slice none 0 0]) ?_ 1 _ rfl; (with_reducible repeat (first | refine blk_drewN ?_ _ | refine blk_drew ?_ | refine blk_alloc ?_ _)); refine blk_put (cs := #[.slice none 0 0, .slice none 0 0]) ?_ 0 _ rfl; (with_reducible repeat (first | refine blk_drewN ?_ _ | refine blk_drew ?_ | refine blk_alloc ?_ _)); exact BK215.out) hb); have n14_ := k0 (below_step (kW HB.out) hb); clear HO183; clear HO186; clear HO189; clear HO192; clear HO195; clear HO200; clear HO203; clear HO207; clear HO210; clear HO213; clear BK179; clear BK197; clear BK204; clear BK215; clear HB; have HO183 := n0_; have HO186 := n1_; have HO189 := n2_; have HO192 := n3_; have HO195 := n4_; have HO200 := n5_; have HO203 := n6_; have HO207 := n7_; have HO210 := n8_; have HO213 := n9_; have BK179 := n10_; have BK197 := n11_; have BK204 := n12_; have BK215 := n13_; have HB := n14_; clear n0_ n1_ n2_ n3_ n4_ n5_ n6_ n7_ n8_ n9_ n10_ n11_ n12_ n13_ n14_; (try clear hb); (try clear hb2); (try clear hk); (try clear hi)))
     go_meet
     case rel => exact ⟨_, ((t214 != t196)), (by first | rfl | (simp; done) | (simp [*]; done)), H', ⟨by first | omega | exact Nat.le_refl _⟩, ⟨by (with_reducible repeat (first | apply Kd.R_alloc | apply Kd.R_drewN | apply Kd.R_drew)); exact Kd.R_mono HO207.out (fun _ hk => ⟨hk.1.1.1.1.1.2, ⟨hk.1.1.1.1.2, ⟨hk.1.1.1.2, ⟨hk.1.1.2, ⟨hk.1.2, hk.2⟩⟩⟩⟩⟩)⟩, ⟨by (with_reducible repeat (first | apply Kd.R_alloc | apply Kd.R_drewN | apply Kd.R_drew)); exact Kd.R_mono HO192.out (fun _ hk => ⟨hk.1.1.2, ⟨hk.1.1.1.1.1.1.1.1, ⟨hk.1.1.1.1.2, ⟨hk.1.1.1.2, ⟨hk.1.2, hk.2⟩⟩⟩⟩⟩)⟩, ⟨by (with_reducible repeat (first | apply Kd.R_alloc | apply Kd.R_drewN | apply Kd.R_drew)); exact Kd.R_mono HO195.out (fun _ hk => ⟨hk.1.1.2, ⟨hk.1.1.1.1.1.1.1.1, ⟨hk.1.1.1.1.2, ⟨hk.1.1.1.2, ⟨hk.1.2, hk.2⟩⟩⟩⟩⟩)⟩, ⟨by (with_reducible repeat (first | apply Kd.R_alloc | apply Kd.R_drewN | apply Kd.R_drew)); exact Kd.R_mono HO200.out (fun _ hk => ⟨hk.1.1.2, ⟨hk.1.1.1.1.2, ⟨hk.1.1.1.2, ⟨hk.1.1.1.1.1.1.1.1, ⟨hk.1.2, hk.2⟩⟩⟩⟩⟩)⟩, ⟨by (with_reducible repeat (first | apply Kd.R_alloc | apply Kd.R_drewN | apply Kd.R_drew)); exact Kd.R_mono HO203.out (fun _ hk => ⟨hk.1.1.2, ⟨hk.1.1.1.1.2, ⟨hk.1.1.1.2, ⟨hk.1.1.1.1.1.1.1.1, ⟨hk.1.2, hk.2⟩⟩⟩⟩⟩)⟩, ⟨by (with_reducible repeat (first | apply Kd.R_alloc | apply Kd.R_drewN | apply Kd.R_drew)); exact Kd.R_mono HO210.out (fun _ hk => ⟨hk.2, ⟨hk.1.1.1.1.2, ⟨hk.1.1.1.2, ⟨hk.1.1.2, ⟨hk.1.2, hk.1.1.1.1.1.1.1.1⟩⟩⟩⟩⟩)⟩, ⟨by (with_reducible repeat (first | apply Kd.R_alloc | apply Kd.R_drewN | apply Kd.R_drew)); exact Kd.R_mono HO213.out (fun _ hk => ⟨hk.2, ⟨hk.1.1.1.1.2, ⟨hk.1.1.1.2, ⟨hk.1.1.2, ⟨hk.1.2, hk.1.1.1.1.1.1.1.1⟩⟩⟩⟩⟩)⟩, ⟨by (with_reducible repeat (first | refine blk_drewN ?_ _ | refine blk_drew ?_ | refine blk_alloc ?_ _)); exact BK179.out⟩, ⟨by (with_reducible repeat (first | refine blk_drewN ?_ _ | refine blk_drew ?_ | refine blk_alloc ?_ _)); exact BK197.out⟩, ⟨by (with_reducible repeat (first | refine blk_drewN ?_ _ | refine blk_drew ?_ | refine blk_alloc ?_ _)); exact BK204.out⟩, ⟨by (with_reducible repeat (first | refine blk_drewN ?_ _ | refine blk_drew ?_ | refine blk_alloc ?_ _)); exact BK215.out⟩, ⟨by repeat (first | (with_reducible first | exact HB.out | apply below_alloc | apply pw_below_drewN | apply below_drew1 | refine below_set ?_ GE179.out | refine below_set ?_ GE197.out | refine below_set ?_ GE204.out | refine below_set ?_ GE215.out) | exact HB.out)⟩⟩
    ·replace c52 := Bool.eq_false_iff.mpr c52
     subst c52
     have H1 : (laws_FnExactDiskWrite.j0 k l1 t196 t205 t214 true l0_0 l0_1 t190 t193 t198 t201 t208 t211) = some r := by rw [if_neg (show ¬ (false = true) by decide)] at H; exact H
     clear H
     have H := H1
     clear H1
     have H' := Aside0.mk H
     clear H
     have hnb61 := NB215_179.out
     have hnc61 := NB179_215.out
     have hnb62 := NB215_197.out
     have hnc62 := NB197_215.out
     have hnb63 := NB215_204.out
     have hnc63 := NB204_215.out
     have hcz64_0 : w44.cell? ⟨gb215, 0, none⟩ = some (.slice none 0 0) := (blk_cell BK215.out 0).trans rfl
     have hcz64_1 : w44.cell? ⟨gb215, 1, none⟩ = some (.slice none 0 0) := (blk_cell BK215.out 1).trans rfl
     have hfz64_0 := blk_frozen BK215.out 0
     have hfz64_1 := blk_frozen BK215.out 1
     have hnb65 := NB197_179.out
     have hnc65 := NB179_197.out
     have hnb66 := NB197_204.out
     have hnc66 := NB204_197.out
     have hcz67_0 : w44.cell? ⟨gb197, 0, none⟩ = some (.slice Ao28 t190.length co28) := (blk_cell BK197.out 0).trans rfl
     have hcz67_1 : w44.cell? ⟨gb197, 1, none⟩ = some (.slice Ao31 t193.length co31) := (blk_cell BK197.out 1).trans rfl
     have hfz67_0 := blk_frozen BK197.out 0
     have hfz67_1 := blk_frozen BK197.out 1
     go_wp2_with (first | ((with_reducible refine gate_callee (f := 23) rfl ?_); refine goesL_ (some 45) rfl rfl Try.func23 (by kernel_rfl) rfl #[.agg #[.slice Ao45 t208.length co45, .slice Ao50 t211.length co50], .agg #[.slice Ao28 t190.length co28, .slice Ao31 t193.length co31]] rfl (by (try simp only [List.map_toArray, List.map_cons, List.map_nil]); first | done | rfl | (simp only [List.length_drop, List.length_take]; rfl)) ?_; (with_reducible refine (laws_eqDisk.calls k _ _ t208 _ _ t211 _ _ t190 _ _ t193 false _ ?side1 ?side2 ?side3 ?side4 ?side5 ?side6 ?side7 ?side8 A51.out).mono ?_); (case side1 => refine (Kd.R_reads' (e := 5) (base := w.heap.size) (ok := fun k_ => ((((((((some k_ ≠ (.slice Ao50 t211.length co50 : Value).ownBlock ∧ some k_ ≠ (.slice Ao23 t181.length co23 : Value).ownBlock) ∧ some k_ ≠ (.slice Ao24 t184.length co24 : Value).ownBlock) ∧ some k_ ≠ (.slice Ao25 t187.length co25 : Value).ownBlock) ∧ some k_ ≠ (.slice Ao28 t190.length co28 : Value).ownBlock) ∧ some k_ ≠ (.slice Ao31 t193.length co31 : Value).ownBlock) ∧ some k_ ≠ (.slice Ao35 t198.length co35 : Value).ownBlock) ∧ some k_ ≠ (.slice Ao39 t201.length co39 : Value).ownBlock) ∧ some k_ ≠ (.slice Ao42 t205.length co42 : Value).ownBlock)) (n := t208.length) (c := co45) ?_).2.2; exact (by (with_reducible repeat (first | apply Kd.R_alloc | apply Kd.R_drewN | apply Kd.R_drew)); exact (Kd.R_mono (Kd.R_far (p := ⟨gb215, 1, none⟩) (Kd.R_far (p := ⟨gb215, 0, none⟩) (Kd.R_types HO210.out BK215.out (by decide)) (fun _ hk => hk.2) (.slice Ao45 t208.length co45)) (fun _ hk => hk.2) (.slice Ao50 t211.length co50)) (fun _ h_ => h_.1)))); (case side2 => exact (Kd.R_reads' HO210.out).2.1); (case side3 => refine (Kd.R_reads' (e := 5) (base := w.heap.size) (ok := fun k_ => ((((((((some k_ ≠ (.slice Ao45 t208.length co45 : Value).ownBlock ∧ some k_ ≠ (.slice Ao23 t181.length co23 : Value).ownBlock) ∧ some k_ ≠ (.slice Ao24 t184.length co24 : Value).ownBlock) ∧ some k_ ≠ (.slice Ao25 t187.length co25 : Value).ownBlock) ∧ some k_ ≠ (.slice Ao28 t190.length co28 : Value).ownBlock) ∧ some k_ ≠ (.slice Ao31 t193.length co31 : Value).ownBlock) ∧ some k_ ≠ (.slice Ao35 t198.length co35 : Value).ownBlock) ∧ some k_ ≠ (.slice Ao39 t201.length co39 : Value).ownBlock) ∧ some k_ ≠ (.slice Ao42 t205.length co42 : Value).ownBlock)) (n := t211.length) (c := co50) ?_).2.2; exact (by (with_reducible repeat (first | apply Kd.R_alloc | apply Kd.R_drewN | apply Kd.R_drew)); exact (Kd.R_mono (Kd.R_far (p := ⟨gb215, 1, none⟩) (Kd.R_far (p := ⟨gb215, 0, none⟩) (Kd.R_types HO213.out BK215.out (by decide)) (fun _ hk => hk.2) (.slice Ao45 t208.length co45)) (fun _ hk => hk.2) (.slice Ao50 t211.length co50)) (fun _ h_ => h_.1)))); (case side4 => exact (Kd.R_reads' HO213.out).2.1); (case side5 => refine (Kd.R_reads' (e := 5) (base := w.heap.size) (ok := fun k_ => ((((((((some k_ ≠ (.slice Ao31 t193.length co31 : Value).ownBlock ∧ some k_ ≠ (.slice Ao23 t181.length co23 : Value).ownBlock) ∧ some k_ ≠ (.slice Ao24 t184.length co24 : Value).ownBlock) ∧ some k_ ≠ (.slice Ao25 t187.length co25 : Value).ownBlock) ∧ some k_ ≠ (.slice Ao35 t198.length co35 : Value).ownBlock) ∧ some k_ ≠ (.slice Ao39 t201.length co39 : Value).ownBlock) ∧ some k_ ≠ (.slice Ao42 t205.length co42 : Value).ownBlock) ∧ some k_ ≠ (.slice Ao45 t208.length co45 : Value).ownBlock) ∧ some k_ ≠ (.slice Ao50 t211.length co50 : Value).ownBlock)) (n := t190.length) (c := co28) ?_).2.2; exact (by (with_reducible repeat (first | apply Kd.R_alloc | apply Kd.R_drewN | apply Kd.R_drew)); exact (Kd.R_mono (Kd.R_far (p := ⟨gb215, 1, none⟩) (Kd.R_far (p := ⟨gb215, 0, none⟩) (Kd.R_types HO192.out BK215.out (by decide)) (fun _ hk => hk.2) (.slice Ao45 t208.length co45)) (fun _ hk => hk.2) (.slice Ao50 t211.length co50)) (fun _ h_ => h_.1)))); (case side6 => exact (Kd.R_reads' HO192.out).2.1); (case side7 => refine (Kd.R_reads' (e := 5) (base := w.heap.size) (ok := fun k_ => ((((((((some k_ ≠ (.slice Ao28 t190.length co28 : Value).ownBlock ∧ some k_ ≠ (.slice Ao23 t181.length co23 : Value).ownBlock) ∧ some k_ ≠ (.slice Ao24 t184.length co24 : Value).ownBlock) ∧ some k_ ≠ (.slice Ao25 t187.length co25 : Value).ownBlock) ∧ some k_ ≠ (.slice Ao35 t198.length co35 : Value).ownBlock) ∧ some k_ ≠ (.slice Ao39 t201.length co39 : Value).ownBlock) ∧ some k_ ≠ (.slice Ao42 t205.length co42 : Value).ownBlock) ∧ some k_ ≠ (.slice Ao45 t208.length co45 : Value).ownBlock) ∧ some k_ ≠ (.slice Ao50 t211.length co50 : Value).ownBlock)) (n := t193.length) (c := co31) ?_).2.2; exact (by (with_reducible repeat (first | apply Kd.R_alloc | apply Kd.R_drewN | apply Kd.R_drew)); exact (Kd.R_mono (Kd.R_far (p := ⟨gb215, 1, none⟩) (Kd.R_far (p := ⟨gb215, 0, none⟩) (Kd.R_types HO195.out BK215.out (by decide)) (fun _ hk => hk.2) (.slice Ao45 t208.length co45)) (fun _ hk => hk.2) (.slice Ao50 t211.length co50)) (fun _ h_ => h_.1)))); (case side8 => exact (Kd.R_reads' HO195.out).2.1); rintro e w68 ⟨rfl, hb⟩; refine ⟨_, rfl, ?_⟩; have n0_ := k0 (Kd.R_below (by (with_reducible repeat (first | apply Kd.R_alloc | apply Kd.R_drewN | apply Kd.R_drew)); exact (Kd.R_mono (Kd.R_far (p := ⟨gb215, 1, none⟩) (Kd.R_far (p := ⟨gb215, 0, none⟩) (Kd.R_types HO183.out BK215.out (by decide)) (fun _ hk => hk.2) (.slice Ao45 t208.length co45)) (fun _ hk => hk.2) (.slice Ao50 t211.length co50)) (fun _ h_ => h_.1))) hb); have n1_ := k0 (Kd.R_below (by (with_reducible repeat (first | apply Kd.R_alloc | apply Kd.R_drewN | apply Kd.R_drew)); exact (Kd.R_mono (Kd.R_far (p := ⟨gb215, 1, none⟩) (Kd.R_far (p := ⟨gb215, 0, none⟩) (Kd.R_types HO186.out BK215.out (by decide)) (fun _ hk => hk.2) (.slice Ao45 t208.length co45)) (fun _ hk => hk.2) (.slice Ao50 t211.length co50)) (fun _ h_ => h_.1))) hb); have n2_ := k0 (Kd.R_below (by (with_reducible repeat (first | apply Kd.R_alloc | apply Kd.R_drewN | apply Kd.R_drew)); exact (Kd.R_mono (Kd.R_far (p := ⟨gb215, 1, none⟩) (Kd.R_far (p := ⟨gb215, 0, none⟩) (Kd.R_types HO189.out BK215.out (by decide)) (fun _ hk => hk.2) (.slice Ao45 t208.length co45)) (fun _ hk => hk.2) (.slice Ao50 t211.length co50)) (fun _ h_ => h_.1))) hb); have n3_ := k0 (Kd.R_below (by (with_reducible repeat (first | apply Kd.R_alloc | apply Kd.R_drewN | apply Kd.R_drew)); exact (Kd.R_mono (Kd.R_far (p := ⟨gb215, 1, none⟩) (Kd.R_far (p := ⟨gb215, 0, none⟩) (Kd.R_types HO192.out BK215.out (by decide)) (fun _ hk => hk.2) (.slice Ao45 t208.length co45)) (fun _ hk => hk.2) (.slice Ao50 t211.length co50)) (fun _ h_ => h_.1))) hb); have n4_ := k0 (Kd.R_below (by (with_reducible repeat (first | apply Kd.R_alloc | apply Kd.R_drewN | apply Kd.R_drew)); exact (Kd.R_mono (Kd.R_far (p := ⟨gb215, 1, none⟩) (Kd.R_far (p := ⟨gb215, 0, none⟩) (Kd.R_types HO195.out BK215.out (by decide)) (fun _ hk => hk.2) (.slice Ao45 t208.length co45)) (fun _ hk => hk.2) (.slice Ao50 t211.length co50)) (fun _ h_ => h_.1))) hb); have n5_ := k0 (Kd.R_below (by (with_reducible repeat (first | apply Kd.R_alloc | apply Kd.R_drewN | apply Kd.R_drew)); exact (Kd.R_mono (Kd.R_far (p := ⟨gb215, 1, none⟩) (Kd.R_far (p := ⟨gb215, 0, none⟩) (Kd.R_types HO200.out BK215.out (by decide)) (fun _ hk => hk.2) (.slice Ao45 t208.length co45)) (fun _ hk => hk.2) (.slice Ao50 t211.length co50)) (fun _ h_ => h_.1))) hb); have n6_ := k0 (Kd.R_below (by (with_reducible repeat (first | apply Kd.R_alloc | apply Kd.R_drewN | apply Kd.R_drew)); exact (Kd.R_mono (Kd.R_far (p := ⟨gb215, 1, none⟩) (Kd.R_far (p := ⟨gb215, 0, none⟩) (Kd.R_types HO203.out BK215.out (by decide)) (fun _ hk => hk.2) (.slice Ao45 t208.length co45)) (fun _ hk => hk.2) (.slice Ao50 t211.length co50)) (fun _ h_ => h_.1))) hb); have n7_ := k0 (Kd.R_below (by (with_reducible repeat (first | apply Kd.R_alloc | apply Kd.R_drewN | apply Kd.R_drew)); exact (Kd.R_mono (Kd.R_far (p := ⟨gb215, 1, none⟩) (Kd.R_far (p := ⟨gb215, 0, none⟩) (Kd.R_types HO207.out BK215.out (by decide)) (fun _ hk => hk.2) (.slice Ao45 t208.length co45)) (fun _ hk => hk.2) (.slice Ao50 t211.length co50)) (fun _ h_ => h_.1))) hb); have n8_ := k0 (Kd.R_below (by (with_reducible repeat (first | apply Kd.R_alloc | apply Kd.R_drewN | apply Kd.R_drew)); exact (Kd.R_mono (Kd.R_far (p := ⟨gb215, 1, none⟩) (Kd.R_far (p := ⟨gb215, 0, none⟩) (Kd.R_types HO210.out BK215.out (by decide)) (fun _ hk => hk.2) (.slice Ao45 t208.length co45)) (fun _ hk => hk.2) (.slice Ao50 t211.length co50)) (fun _ h_ => h_.1))) hb); have n9_ := k0 (Kd.R_below (by (with_reducible repeat (first | apply Kd.R_alloc | apply Kd.R_drewN | apply Kd.R_drew)); exact (Kd.R_mono (Kd.R_far (p := ⟨gb215, 1, none⟩) (Kd.R_far (p := ⟨gb215, 0, none⟩) (Kd.R_types HO213.out BK215.out (by decide)) (fun _ hk => hk.2) (.slice Ao45 t208.length co45)) (fun _ hk => hk.2) (.slice Ao50 t211.length co50)) (fun _ h_ => h_.1))) hb); have n10_ := k0 (blk_below (g := gb179) (o := .cells #[.slice A0_0 l0_0.length c0_0, .slice A0_1 l0_1.length c0_1] 32 (0, 0)) (by (with_reducible repeat (first | refine blk_drewN ?_ _ | refine blk_drew ?_ | refine blk_alloc ?_ _)); refine blk_far ?_ NB179_215.out _; (with_reducible repeat (first | refine blk_drewN ?_ _ | refine blk_drew ?_ | refine blk_alloc ?_ _)); refine blk_far ?_ NB179_215.out _; (with_reducible repeat (first | refine blk_drewN ?_ _ | refine blk_drew ?_ | refine blk_alloc ?_ _)); exact BK179.out) hb); have n11_ := k0 (blk_below (g := gb197) (o := .cells #[.slice Ao28 t190.length co28, .slice Ao31 t193.length co31] 35 (0, 0)) (by (with_reducible repeat (first | refine blk_drewN ?_ _ | refine blk_drew ?_ | refine blk_alloc ?_ _)); refine blk_far ?_ NB197_215.out _; (with_reducible repeat (first | refine blk_drewN ?_ _ | refine blk_drew ?_ | refine blk_alloc ?_ _)); refine blk_far ?_ NB197_215.out _; (with_reducible repeat (first | refine blk_drewN ?_ _ | refine blk_drew ?_ | refine blk_alloc ?_ _)); exact BK197.out) hb); have n12_ := k0 (blk_below (g := gb204) (o := .cells #[.slice Ao35 t198.length co35, .slice Ao39 t201.length co39] 35 (0, 0)) (by (with_reducible repeat (first | refine blk_drewN ?_ _ | refine blk_drew ?_ | refine blk_alloc ?_ _)); refine blk_far ?_ NB204_215.out _; (with_reducible repeat (first | refine blk_drewN ?_ _ | refine blk_drew ?_ | refine blk_alloc ?_ _)); refine blk_far ?_ NB204_215.out _; (with_reducible repeat (first | refine blk_drewN ?_ _ | refine blk_drew ?_ | refine blk_alloc ?_ _)); exact BK204.out) hb); have n13_ := k0 (blk_below (g := gb215) (o := .cells #[.slice Ao45 t208.length co45, .slice Ao50 t211.length co50] 35 (0, 0)) (by (with_reducible repeat (first | refine blk_drewN ?_ _ | refine blk_drew ?_ | refine blk_alloc ?_ _)); refine blk_put (cs := #[.slice Ao45 t208.length co45, .slice none 0 0]) ?_ 1 _ rfl; (with_reducible repeat (first | refine blk_drewN ?_ _ | refine blk_drew ?_ | refine blk_alloc ?_ _)); refine blk_put (cs := #[.slice none 0 0, .slice none 0 0]) ?_ 0 _ rfl; (with_reducible repeat (first | refine blk_drewN ?_ _ | refine blk_drew ?_ | refine blk_alloc ?_ _)); exact BK215.out) hb); have n14_ := k0 (below_step (kW HB.out) hb); clear HO183; clear HO186; clear HO189; clear HO192; clear HO195; clear HO200; clear HO203; clear HO207; clear HO210; clear HO213; clear BK179; clear BK197; clear BK204; clear BK215; clear HB; have HO183 := n0_; have HO186 := n1_; have HO189 := n2_; have HO192 := n3_; have HO195 := n4_; have HO200 := n5_; have HO203 := n6_; have HO207 := n7_; have HO210 := n8_; have HO213 := n9_; have BK179 := n10_; have BK197 := n11_; have BK204 := n12_; have BK215 := n13_; have HB := n14_; clear n0_ n1_ n2_ n3_ n4_ n5_ n6_ n7_ n8_ n9_ n10_ n11_ n12_ n13_ n14_; (try clear hb); (try clear hb2); (try clear hk); (try clear hi)))
     go_meet
     case rel => exact ⟨_, (true), (by first | rfl | (simp; done) | (simp [*]; done)), H', ⟨by first | omega | exact Nat.le_refl _⟩, ⟨by (with_reducible repeat (first | apply Kd.R_alloc | apply Kd.R_drewN | apply Kd.R_drew)); exact Kd.R_mono HO207.out (fun _ hk => ⟨hk.1.1.1.1.1.2, ⟨hk.1.1.1.1.2, ⟨hk.1.1.1.2, ⟨hk.1.1.2, ⟨hk.1.2, hk.2⟩⟩⟩⟩⟩)⟩, ⟨by (with_reducible repeat (first | apply Kd.R_alloc | apply Kd.R_drewN | apply Kd.R_drew)); exact Kd.R_mono HO192.out (fun _ hk => ⟨hk.1.1.2, ⟨hk.1.1.1.1.1.1.1.1, ⟨hk.1.1.1.1.2, ⟨hk.1.1.1.2, ⟨hk.1.2, hk.2⟩⟩⟩⟩⟩)⟩, ⟨by (with_reducible repeat (first | apply Kd.R_alloc | apply Kd.R_drewN | apply Kd.R_drew)); exact Kd.R_mono HO195.out (fun _ hk => ⟨hk.1.1.2, ⟨hk.1.1.1.1.1.1.1.1, ⟨hk.1.1.1.1.2, ⟨hk.1.1.1.2, ⟨hk.1.2, hk.2⟩⟩⟩⟩⟩)⟩, ⟨by (with_reducible repeat (first | apply Kd.R_alloc | apply Kd.R_drewN | apply Kd.R_drew)); exact Kd.R_mono HO200.out (fun _ hk => ⟨hk.1.1.2, ⟨hk.1.1.1.1.2, ⟨hk.1.1.1.2, ⟨hk.1.1.1.1.1.1.1.1, ⟨hk.1.2, hk.2⟩⟩⟩⟩⟩)⟩, ⟨by (with_reducible repeat (first | apply Kd.R_alloc | apply Kd.R_drewN | apply Kd.R_drew)); exact Kd.R_mono HO203.out (fun _ hk => ⟨hk.1.1.2, ⟨hk.1.1.1.1.2, ⟨hk.1.1.1.2, ⟨hk.1.1.1.1.1.1.1.1, ⟨hk.1.2, hk.2⟩⟩⟩⟩⟩)⟩, ⟨by (with_reducible repeat (first | apply Kd.R_alloc | apply Kd.R_drewN | apply Kd.R_drew)); exact Kd.R_mono HO210.out (fun _ hk => ⟨hk.2, ⟨hk.1.1.1.1.2, ⟨hk.1.1.1.2, ⟨hk.1.1.2, ⟨hk.1.2, hk.1.1.1.1.1.1.1.1⟩⟩⟩⟩⟩)⟩, ⟨by (with_reducible repeat (first | apply Kd.R_alloc | apply Kd.R_drewN | apply Kd.R_drew)); exact Kd.R_mono HO213.out (fun _ hk => ⟨hk.2, ⟨hk.1.1.1.1.2, ⟨hk.1.1.1.2, ⟨hk.1.1.2, ⟨hk.1.2, hk.1.1.1.1.1.1.1.1⟩⟩⟩⟩⟩)⟩, ⟨by (with_reducible repeat (first | refine blk_drewN ?_ _ | refine blk_drew ?_ | refine blk_alloc ?_ _)); exact BK179.out⟩, ⟨by (with_reducible repeat (first | refine blk_drewN ?_ _ | refine blk_drew ?_ | refine blk_alloc ?_ _)); exact BK197.out⟩, ⟨by (with_reducible repeat (first | refine blk_drewN ?_ _ | refine blk_drew ?_ | refine blk_alloc ?_ _)); exact BK204.out⟩, ⟨by (with_reducible repeat (first | refine blk_drewN ?_ _ | refine blk_drew ?_ | refine blk_alloc ?_ _)); exact BK215.out⟩, ⟨by repeat (first | (with_reducible first | exact HB.out | apply below_alloc | apply pw_below_drewN | apply below_drew1 | refine below_set ?_ GE179.out | refine below_set ?_ GE197.out | refine below_set ?_ GE204.out | refine below_set ?_ GE215.out) | exact HB.out)⟩⟩
   case rest =>
    clear HC16
    try clear c1
    try clear c2
    try clear p2
    try clear c3
    try clear c3b0
    try clear c3b1
    try clear c4
    try clear c5
    try clear c6
    try clear c6b0
    try clear c11
    try clear c19
    try clear c21
    try clear c23
    try clear c27
    try clear c29
    try clear c36
    try clear c37
    try clear c43
    try clear c44
    try clear c46
    try clear c47
    try clear c48
    try clear c52
    try clear c53
    try clear c54
    try clear c55
    try clear c57
    try clear c58
    try clear c61
    try clear c62
    try clear c63
    try clear c65
    try clear c66
    try clear hcz18_0
    try clear hcz18_1
    try clear hcz20_0
    try clear hcz20_1
    try clear hcz30_0
    try clear hcz30_1
    try clear hcz32_0
    try clear hcz32_1
    try clear hcz38_0
    try clear hcz38_1
    try clear hcz41_0
    try clear hcz41_1
    try clear hcz49_0
    try clear hcz49_1
    try clear hcz56_0
    try clear hcz56_1
    try clear hcz59_0
    try clear hcz59_1
    try clear hcz64_0
    try clear hcz64_1
    try clear hcz67_0
    try clear hcz67_1
    try clear hcz8_0
    try clear hcz8_1
    try clear hfz18_0
    try clear hfz18_1
    try clear hfz20_0
    try clear hfz20_1
    try clear hfz30_0
    try clear hfz30_1
    try clear hfz32_0
    try clear hfz32_1
    try clear hfz38_0
    try clear hfz38_1
    try clear hfz41_0
    try clear hfz41_1
    try clear hfz49_0
    try clear hfz49_1
    try clear hfz56_0
    try clear hfz56_1
    try clear hfz59_0
    try clear hfz59_1
    try clear hfz64_0
    try clear hfz64_1
    try clear hfz67_0
    try clear hfz67_1
    try clear hfz8_0
    try clear hfz8_1
    obtain ⟨kq, x51_15, rfl, HA, HJ15, HO_9, HO_198000, HO_198001, HO_205000, HO_205001, HO_216000, HO_216001, BK179, BK197, BK204, BK215, HB⟩ := hcut
    cases kq with
    | zero => exact absurd HA.out (by simp [laws_FnExactDiskWrite.j0])
    | succ kj15 =>
     have H := HA.out
     clear HA
     simp only [laws_FnExactDiskWrite.j0] at H
     by_cases c69 : x51_15 = true
     ·subst c69
      have H1 : (some false) = some r := by rw [if_pos rfl] at H; exact H
      clear H
      have H := H1
      clear H1
      exact absurd ((Option.some.inj H).trans HR.out) (by decide)
     ·replace c69 := Bool.eq_false_iff.mpr c69
      subst c69
      have H1 : ((laws_toDisk.f kj15 l0_0 l0_1).bind fun bt217 => ((laws_eqDisk.f kj15 t198 t201 bt217.1 bt217.2).bind fun t223 => (if t223 = true then ((laws_toByteS.f kj15 l1).bind fun t224 => ((laws_eqByteS.f kj15 t205 t224).bind fun t227 => (if t227 = true then ((laws_markDisk.f kj15 t198 t201 1).bind fun bt228 => ((laws_markByteS.f kj15 t205 bt228.1).bind fun bt231 => (if bt231.1 < 0 then (laws_FnExactDiskWrite.j1 kj15 l1 t196 true l0_0 l0_1 t190 t193 t208 t211) else ((laws_eqDisk.f kj15 t208 t211 t190 t193).bind fun t233 => (if t233 = true then (laws_FnExactDiskWrite.j1 kj15 l1 t196 (t214 != t196) l0_0 l0_1 t190 t193 t208 t211) else (laws_FnExactDiskWrite.j1 kj15 l1 t196 true l0_0 l0_1 t190 t193 t208 t211)))))) else (some false)))) else (some false)))) = some r := by rw [if_neg (show ¬ (false = true) by decide)] at H; exact H
      clear H
      have H := H1
      clear H1
      replace H := Option.bind_eq_some_iff.mp H
      obtain ⟨⟨t217, t220⟩, A700, H⟩ := H
      replace H : ((laws_eqDisk.f kj15 t198 t201 t217 t220).bind fun t223 => (if t223 = true then ((laws_toByteS.f kj15 l1).bind fun t224 => ((laws_eqByteS.f kj15 t205 t224).bind fun t227 => (if t227 = true then ((laws_markDisk.f kj15 t198 t201 1).bind fun bt228 => ((laws_markByteS.f kj15 t205 bt228.1).bind fun bt231 => (if bt231.1 < 0 then (laws_FnExactDiskWrite.j1 kj15 l1 t196 true l0_0 l0_1 t190 t193 t208 t211) else ((laws_eqDisk.f kj15 t208 t211 t190 t193).bind fun t233 => (if t233 = true then (laws_FnExactDiskWrite.j1 kj15 l1 t196 (t214 != t196) l0_0 l0_1 t190 t193 t208 t211) else (laws_FnExactDiskWrite.j1 kj15 l1 t196 true l0_0 l0_1 t190 t193 t208 t211)))))) else (some false)))) else (some false))) = some r := H
      have A70 := Aside0.mk A700
      clear A700
      replace H := Option.bind_eq_some_iff.mp H
      obtain ⟨t223, A710, H⟩ := H
      replace H : (if t223 = true then ((laws_toByteS.f kj15 l1).bind fun t224 => ((laws_eqByteS.f kj15 t205 t224).bind fun t227 => (if t227 = true then ((laws_markDisk.f kj15 t198 t201 1).bind fun bt228 => ((laws_markByteS.f kj15 t205 bt228.1).bind fun bt231 => (if bt231.1 < 0 then (laws_FnExactDiskWrite.j1 kj15 l1 t196 true l0_0 l0_1 t190 t193 t208 t211) else ((laws_eqDisk.f kj15 t208 t211 t190 t193).bind fun t233 => (if t233 = true then (laws_FnExactDiskWrite.j1 kj15 l1 t196 (t214 != t196) l0_0 l0_1 t190 t193 t208 t211) else (laws_FnExactDiskWrite.j1 kj15 l1 t196 true l0_0 l0_1 t190 t193 t208 t211)))))) else (some false)))) else (some false)) = some r := H
      have A71 := Aside0.mk A710
      clear A710
      by_cases c72 : t223 = true
      ·subst c72
       have H1 : ((laws_toByteS.f kj15 l1).bind fun t224 => ((laws_eqByteS.f kj15 t205 t224).bind fun t227 => (if t227 = true then ((laws_markDisk.f kj15 t198 t201 1).bind fun bt228 => ((laws_markByteS.f kj15 t205 bt228.1).bind fun bt231 => (if bt231.1 < 0 then (laws_FnExactDiskWrite.j1 kj15 l1 t196 true l0_0 l0_1 t190 t193 t208 t211) else ((laws_eqDisk.f kj15 t208 t211 t190 t193).bind fun t233 => (if t233 = true then (laws_FnExactDiskWrite.j1 kj15 l1 t196 (t214 != t196) l0_0 l0_1 t190 t193 t208 t211) else (laws_FnExactDiskWrite.j1 kj15 l1 t196 true l0_0 l0_1 t190 t193 t208 t211)))))) else (some false)))) = some r := by rw [if_pos rfl] at H; exact H
       clear H
       have H := H1
       clear H1
       replace H := Option.bind_eq_some_iff.mp H
       obtain ⟨t224, A730, H⟩ := H
       replace H : ((laws_eqByteS.f kj15 t205 t224).bind fun t227 => (if t227 = true then ((laws_markDisk.f kj15 t198 t201 1).bind fun bt228 => ((laws_markByteS.f kj15 t205 bt228.1).bind fun bt231 => (if bt231.1 < 0 then (laws_FnExactDiskWrite.j1 kj15 l1 t196 true l0_0 l0_1 t190 t193 t208 t211) else ((laws_eqDisk.f kj15 t208 t211 t190 t193).bind fun t233 => (if t233 = true then (laws_FnExactDiskWrite.j1 kj15 l1 t196 (t214 != t196) l0_0 l0_1 t190 t193 t208 t211) else (laws_FnExactDiskWrite.j1 kj15 l1 t196 true l0_0 l0_1 t190 t193 t208 t211)))))) else (some false))) = some r := H
       have A73 := Aside0.mk A730
       clear A730
       replace H := Option.bind_eq_some_iff.mp H
       obtain ⟨t227, A740, H⟩ := H
       replace H : (if t227 = true then ((laws_markDisk.f kj15 t198 t201 1).bind fun bt228 => ((laws_markByteS.f kj15 t205 bt228.1).bind fun bt231 => (if bt231.1 < 0 then (laws_FnExactDiskWrite.j1 kj15 l1 t196 true l0_0 l0_1 t190 t193 t208 t211) else ((laws_eqDisk.f kj15 t208 t211 t190 t193).bind fun t233 => (if t233 = true then (laws_FnExactDiskWrite.j1 kj15 l1 t196 (t214 != t196) l0_0 l0_1 t190 t193 t208 t211) else (laws_FnExactDiskWrite.j1 kj15 l1 t196 true l0_0 l0_1 t190 t193 t208 t211)))))) else (some false)) = some r := H
       have A74 := Aside0.mk A740
       clear A740
       by_cases c75 : t227 = true
       ·subst c75
        have H1 : ((laws_markDisk.f kj15 t198 t201 1).bind fun bt228 => ((laws_markByteS.f kj15 t205 bt228.1).bind fun bt231 => (if bt231.1 < 0 then (laws_FnExactDiskWrite.j1 kj15 l1 t196 true l0_0 l0_1 t190 t193 t208 t211) else ((laws_eqDisk.f kj15 t208 t211 t190 t193).bind fun t233 => (if t233 = true then (laws_FnExactDiskWrite.j1 kj15 l1 t196 (t214 != t196) l0_0 l0_1 t190 t193 t208 t211) else (laws_FnExactDiskWrite.j1 kj15 l1 t196 true l0_0 l0_1 t190 t193 t208 t211)))))) = some r := by rw [if_pos rfl] at H; exact H
        clear H
        have H := H1
        clear H1
        replace H := Option.bind_eq_some_iff.mp H
        obtain ⟨⟨t228, t229, t230⟩, A760, H⟩ := H
        replace H : ((laws_markByteS.f kj15 t205 t228).bind fun bt231 => (if bt231.1 < 0 then (laws_FnExactDiskWrite.j1 kj15 l1 t196 true l0_0 l0_1 t190 t193 t208 t211) else ((laws_eqDisk.f kj15 t208 t211 t190 t193).bind fun t233 => (if t233 = true then (laws_FnExactDiskWrite.j1 kj15 l1 t196 (t214 != t196) l0_0 l0_1 t190 t193 t208 t211) else (laws_FnExactDiskWrite.j1 kj15 l1 t196 true l0_0 l0_1 t190 t193 t208 t211))))) = some r := H
        have A76 := Aside0.mk A760
        clear A760
        replace H := Option.bind_eq_some_iff.mp H
        obtain ⟨⟨t231, t232⟩, A770, H⟩ := H
        replace H : (if t231 < 0 then (laws_FnExactDiskWrite.j1 kj15 l1 t196 true l0_0 l0_1 t190 t193 t208 t211) else ((laws_eqDisk.f kj15 t208 t211 t190 t193).bind fun t233 => (if t233 = true then (laws_FnExactDiskWrite.j1 kj15 l1 t196 (t214 != t196) l0_0 l0_1 t190 t193 t208 t211) else (laws_FnExactDiskWrite.j1 kj15 l1 t196 true l0_0 l0_1 t190 t193 t208 t211)))) = some r := H
        have A77 := Aside0.mk A770
        clear A770
        have HC78 := Aside0.mk H
        clear H
        try go_wp2
        have n0_ := k0 (Kd.R_drew HO_9.out)
        have n1_ := k0 (Kd.R_drew HO_198000.out)
        have n2_ := k0 (Kd.R_drew HO_198001.out)
        have n3_ := k0 (Kd.R_drew HO_205000.out)
        have n4_ := k0 (Kd.R_drew HO_205001.out)
        have n5_ := k0 (Kd.R_drew HO_216000.out)
        have n6_ := k0 (Kd.R_drew HO_216001.out)
        have n7_ := k0 (blk_drew BK179.out)
        have n8_ := k0 (blk_drew BK197.out)
        have n9_ := k0 (blk_drew BK204.out)
        have n10_ := k0 (blk_drew BK215.out)
        have n11_ := k0 (below_drew1 HB.out)
        clear HO_9
        clear HO_198000
        clear HO_198001
        clear HO_205000
        clear HO_205001
        clear HO_216000
        clear HO_216001
        clear BK179
        clear BK197
        clear BK204
        clear BK215
        clear HB
        have HO_9 := n0_
        have HO_198000 := n1_
        have HO_198001 := n2_
        have HO_205000 := n3_
        have HO_205001 := n4_
        have HO_216000 := n5_
        have HO_216001 := n6_
        have BK179 := n7_
        have BK197 := n8_
        have BK204 := n9_
        have BK215 := n10_
        have HB := n11_
        clear n0_ n1_ n2_ n3_ n4_ n5_ n6_ n7_ n8_ n9_ n10_ n11_
        refine start_ (n := 5) (S := fun w' => w'.cell? ⟨gb204, 0, none⟩ = some (.slice Ao35 t198.length co35) ∧ w'.cell? ⟨gb204, 1, none⟩ = some (.slice Ao39 t201.length co39) ∧ w'.cell? ⟨gb179, 0, none⟩ = some (.slice A0_0 l0_0.length c0_0) ∧ w'.cell? ⟨gb179, 1, none⟩ = some (.slice A0_1 l0_1.length c0_1)) (ds := []) #[false, false, false, false, false] (by kernel_rfl) rfl rfl ⟨(blk_cell BK204.out 0).trans rfl, (blk_cell BK204.out 1).trans rfl, (blk_cell BK179.out 0).trans rfl, (blk_cell BK179.out 1).trans rfl⟩ (fun hHeld => ?_)
        generalize wc.drew = w79 at HO_9 HO_198000 HO_198001 HO_205000 HO_205001 HO_216000 HO_216001 BK179 BK197 BK204 BK215 HB hHeld ⊢
        refine take_ (i := 0) (N := some 52) (v := ?_) (a' := ?_) #[true, false, false, false, false] rfl rfl (by kernel_rfl) (fun _ _ _ h => h) (Or.inl ⟨by rfl, ?_⟩) hHeld ?_ ?_
        rotate_left
        ·rintro w' ⟨s0, s1, s2, s3⟩
         go_simp
         with_reducible rfl
        rotate_left
        ·simp only [Act.put, List.setIfInBounds_toArray, List.set_cons_zero, List.set_cons_succ, i64_w, i32_w]
         rfl
        refine take_ (i := 1) (N := some 53) (v := ?_) (a' := ?_) #[true, true, false, false, false] rfl rfl (by kernel_rfl) (fun _ _ _ h => h) (Or.inl ⟨by rfl, ?_⟩) hHeld ?_ ?_
        rotate_left
        ·rintro w' ⟨s0, s1, s2, s3⟩
         go_simp
         with_reducible rfl
        rotate_left
        ·simp only [Act.put, List.setIfInBounds_toArray, List.set_cons_zero, List.set_cons_succ, i64_w, i32_w]
         rfl
        refine one_ (i := 2) (N := some 54) #[true, true, true, false, false] rfl rfl (by kernel_rfl) (by decide) (fun K hK => ?_)
        refine goes_ Try.func21 (by kernel_rfl) rfl #[.agg #[.slice A0_0 l0_0.length c0_0, .slice A0_1 l0_1.length c0_1]] (by rfl) rfl rfl (by (try simp only [List.map_toArray, List.map_cons, List.map_nil]); first | done | rfl | (simp only [List.length_drop, List.length_take]; rfl)) ?_
        with_reducible refine (laws_toDisk.calls kj15 _ _ l0_0 _ _ l0_1 t217 t220 _ ?side1 ?side2 ?side3 ?side4 A70.out).mono ?_
        (case side1 => repeat (first | exact (Kd.C_below HR0_0.out HB.out) | (with_reducible refine Kd.C_alloc ?_ _) | (with_reducible refine Kd.C_drewN ?_ _) | (with_reducible refine Kd.C_drew ?_)))
        (case side2 => exact HC0_0.out)
        (case side3 => repeat (first | exact (Kd.C_below HR0_1.out HB.out) | (with_reducible refine Kd.C_alloc ?_ _) | (with_reducible refine Kd.C_drewN ?_ _) | (with_reducible refine Kd.C_drew ?_)))
        (case side4 => exact HC0_1.out)
        rintro e w80 ⟨v218, v221, rfl, ho0, ho1, hb⟩
        refine ⟨_, rfl, ?_⟩
        have n0_ := k0 (Kd.R_mono (Kd.R_told (Kd.R_told (Kd.R_old (kR HO_9.out) hb) (Kd.R_base ho0)) (Kd.R_base ho1)) (fun _ h_ => h_.1))
        have n1_ := k0 (Kd.R_mono (Kd.R_told (Kd.R_told (Kd.R_old (kR HO_198000.out) hb) (Kd.R_base ho0)) (Kd.R_base ho1)) (fun _ h_ => h_.1))
        have n2_ := k0 (Kd.R_mono (Kd.R_told (Kd.R_told (Kd.R_old (kR HO_198001.out) hb) (Kd.R_base ho0)) (Kd.R_base ho1)) (fun _ h_ => h_.1))
        have n3_ := k0 (Kd.R_mono (Kd.R_told (Kd.R_told (Kd.R_old (kR HO_205000.out) hb) (Kd.R_base ho0)) (Kd.R_base ho1)) (fun _ h_ => h_.1))
        have n4_ := k0 (Kd.R_mono (Kd.R_told (Kd.R_told (Kd.R_old (kR HO_205001.out) hb) (Kd.R_base ho0)) (Kd.R_base ho1)) (fun _ h_ => h_.1))
        have n5_ := k0 (Kd.R_mono (Kd.R_told (Kd.R_told (Kd.R_old (kR HO_216000.out) hb) (Kd.R_base ho0)) (Kd.R_base ho1)) (fun _ h_ => h_.1))
        have n6_ := k0 (Kd.R_mono (Kd.R_told (Kd.R_told (Kd.R_old (kR HO_216001.out) hb) (Kd.R_base ho0)) (Kd.R_base ho1)) (fun _ h_ => h_.1))
        have n7_ := k0 (Kd.R_lower (Kd.R_new' (Kd.R_new' (Kd.R_new' (Kd.R_new' (Kd.R_new' (Kd.R_new' (Kd.R_new' ho0 (Kd.R_lt (kR HO_9.out))) (Kd.R_lt (kR HO_198000.out))) (Kd.R_lt (kR HO_198001.out))) (Kd.R_lt (kR HO_205000.out))) (Kd.R_lt (kR HO_205001.out))) (Kd.R_lt (kR HO_216000.out))) (Kd.R_lt (kR HO_216001.out))) (below_size (kW HB.out)))
        have n8_ := k0 (Kd.R_lower (Kd.R_new' (Kd.R_new' (Kd.R_new' (Kd.R_new' (Kd.R_new' (Kd.R_new' (Kd.R_new' ho1 (Kd.R_lt (kR HO_9.out))) (Kd.R_lt (kR HO_198000.out))) (Kd.R_lt (kR HO_198001.out))) (Kd.R_lt (kR HO_205000.out))) (Kd.R_lt (kR HO_205001.out))) (Kd.R_lt (kR HO_216000.out))) (Kd.R_lt (kR HO_216001.out))) (below_size (kW HB.out)))
        have n9_ := k0 (kb BK179.out hb)
        have n10_ := k0 (kb BK197.out hb)
        have n11_ := k0 (kb BK204.out hb)
        have n12_ := k0 (kb BK215.out hb)
        have n13_ := k0 (below_step (kW HB.out) hb)
        clear HO_9
        clear HO_198000
        clear HO_198001
        clear HO_205000
        clear HO_205001
        clear HO_216000
        clear HO_216001
        clear BK179
        clear BK197
        clear BK204
        clear BK215
        clear HB
        have HO_9 := n0_
        have HO_198000 := n1_
        have HO_198001 := n2_
        have HO_205000 := n3_
        have HO_205001 := n4_
        have HO_216000 := n5_
        have HO_216001 := n6_
        have HO219 := n7_
        have HO222 := n8_
        have BK179 := n9_
        have BK197 := n10_
        have BK204 := n11_
        have BK215 := n12_
        have HB := n13_
        clear n0_ n1_ n2_ n3_ n4_ n5_ n6_ n7_ n8_ n9_ n10_ n11_ n12_ n13_
        (try clear hb)
        (try clear hb2)
        (try clear hk)
        (try clear hi)
        (try clear ho0)
        (try clear ho1)
        obtain ⟨Ao81, co81, eo81⟩ := Kd.R_slice HO219.out
        (first | subst eo81 | (injection eo81 with f1_ f2_ f3_; have f4_ := f1_.symm; have f5_ := f3_.symm; clear f1_ f2_ f3_; subst f4_; subst f5_))
        obtain ⟨Ao82, co82, eo82⟩ := Kd.R_slice HO222.out
        (first | subst eo82 | (injection eo82 with f1_ f2_ f3_; have f4_ := f1_.symm; have f5_ := f3_.symm; clear f1_ f2_ f3_; subst f4_; subst f5_))
        refine hK.out _ _ ⟨(blk_cell BK204.out 0).trans rfl, (blk_cell BK204.out 1).trans rfl, (blk_cell BK179.out 0).trans rfl, (blk_cell BK179.out 1).trans rfl⟩ (fun hHeld => ?_)
        clear hK K
        refine norm_ (a' := ?_) ?_ ?_
        rotate_left
        ·show Act.put _ (some 54) _ = _
         simp only [Act.put, List.setIfInBounds_toArray, List.set_cons_zero, List.set_cons_succ, i64_w, i32_w]
         rfl
        refine one_ (i := 3) (N := some 55) #[true, true, true, true, false] rfl rfl (by kernel_rfl) (by decide) (fun K hK => ?_)
        refine goes_ Try.func23 (by kernel_rfl) rfl #[.agg #[.slice Ao35 t198.length co35, .slice Ao39 t201.length co39], .agg #[.slice Ao81 t217.length co81, .slice Ao82 t220.length co82]] (by rfl) rfl rfl (by (try simp only [List.map_toArray, List.map_cons, List.map_nil]); first | done | rfl | (simp only [List.length_drop, List.length_take]; rfl)) ?_
        with_reducible refine (laws_eqDisk.calls kj15 _ _ t198 _ _ t201 _ _ t217 _ _ t220 true _ ?side1 ?side2 ?side3 ?side4 ?side5 ?side6 ?side7 ?side8 A71.out).mono ?_
        (case side1 => repeat (first | exact (Kd.R_reads' HO_205000.out).2.2 | (with_reducible refine Kd.C_alloc ?_ _) | (with_reducible refine Kd.C_drewN ?_ _) | (with_reducible refine Kd.C_drew ?_)))
        (case side2 => exact (Kd.R_reads' HO_205000.out).2.1)
        (case side3 => repeat (first | exact (Kd.R_reads' HO_205001.out).2.2 | (with_reducible refine Kd.C_alloc ?_ _) | (with_reducible refine Kd.C_drewN ?_ _) | (with_reducible refine Kd.C_drew ?_)))
        (case side4 => exact (Kd.R_reads' HO_205001.out).2.1)
        (case side5 => repeat (first | exact (Kd.R_reads' HO219.out).2.2 | (with_reducible refine Kd.C_alloc ?_ _) | (with_reducible refine Kd.C_drewN ?_ _) | (with_reducible refine Kd.C_drew ?_)))
        (case side6 => exact (Kd.R_reads' HO219.out).2.1)
        (case side7 => repeat (first | exact (Kd.R_reads' HO222.out).2.2 | (with_reducible refine Kd.C_alloc ?_ _) | (with_reducible refine Kd.C_drewN ?_ _) | (with_reducible refine Kd.C_drew ?_)))
        (case side8 => exact (Kd.R_reads' HO222.out).2.1)
        rintro e w83 ⟨rfl, hb⟩
        refine ⟨_, rfl, ?_⟩
        have n0_ := k0 (Kd.R_below (kR HO_9.out) hb)
        have n1_ := k0 (Kd.R_below (kR HO_198000.out) hb)
        have n2_ := k0 (Kd.R_below (kR HO_198001.out) hb)
        have n3_ := k0 (Kd.R_below (kR HO_205000.out) hb)
        have n4_ := k0 (Kd.R_below (kR HO_205001.out) hb)
        have n5_ := k0 (Kd.R_below (kR HO_216000.out) hb)
        have n6_ := k0 (Kd.R_below (kR HO_216001.out) hb)
        have n7_ := k0 (Kd.R_below (kR HO219.out) hb)
        have n8_ := k0 (Kd.R_below (kR HO222.out) hb)
        have n9_ := k0 (kb BK179.out hb)
        have n10_ := k0 (kb BK197.out hb)
        have n11_ := k0 (kb BK204.out hb)
        have n12_ := k0 (kb BK215.out hb)
        have n13_ := k0 (below_step (kW HB.out) hb)
        clear HO_9
        clear HO_198000
        clear HO_198001
        clear HO_205000
        clear HO_205001
        clear HO_216000
        clear HO_216001
        clear HO219
        clear HO222
        clear BK179
        clear BK197
        clear BK204
        clear BK215
        clear HB
        have HO_9 := n0_
        have HO_198000 := n1_
        have HO_198001 := n2_
        have HO_205000 := n3_
        have HO_205001 := n4_
        have HO_216000 := n5_
        have HO_216001 := n6_
        have HO219 := n7_
        have HO222 := n8_
        have BK179 := n9_
        have BK197 := n10_
        have BK204 := n11_
        have BK215 := n12_
        have HB := n13_
        clear n0_ n1_ n2_ n3_ n4_ n5_ n6_ n7_ n8_ n9_ n10_ n11_ n12_ n13_
        (try clear hb)
        (try clear hb2)
        (try clear hk)
        (try clear hi)
        refine hK.out _ _ ⟨(blk_cell BK204.out 0).trans rfl, (blk_cell BK204.out 1).trans rfl, (blk_cell BK179.out 0).trans rfl, (blk_cell BK179.out 1).trans rfl⟩ (fun hHeld => ?_)
        clear hK K
        refine norm_ (a' := ?_) ?_ ?_
        rotate_left
        ·show Act.put _ (some 55) _ = _
         simp only [Act.put, List.setIfInBounds_toArray, List.set_cons_zero, List.set_cons_succ, i64_w, i32_w]
         rfl
        refine pure_ (i := 4) (N := some 56) (v := ?_) (a' := ?_) #[true, true, true, true, true] rfl rfl (by kernel_rfl) (fun _ _ _ h => h) (Or.inl ⟨by rfl, ?_⟩) ?_ ?_
        rotate_left
        ·intro w'
         go_simp
         with_reducible rfl
        rotate_left
        ·simp only [Act.put, List.setIfInBounds_toArray, List.set_cons_zero, List.set_cons_succ, i64_w, i32_w]
         rfl
        refine done_ (by kernel_rfl) ?_
        go_upto_region 20 with (first | ((with_reducible refine gate_callee (f := 43) rfl ?_); refine goesL_ (some 59) rfl rfl Try.func43 (by kernel_rfl) rfl #[.slice A1 l1.length c1] rfl (by (try simp only [List.map_toArray, List.map_cons, List.map_nil]); first | done | rfl | (simp only [List.length_drop, List.length_take]; rfl)) ?_; (with_reducible refine (laws_toByteS.calls kj15 _ _ l1 t224 _ ?side1 ?side2 A73.out).mono ?_); (case side1 => repeat (first | exact (Kd.C_below HR1.out HB.out) | (with_reducible refine Kd.C_alloc ?_ _) | (with_reducible refine Kd.C_drewN ?_ _) | (with_reducible refine Kd.C_drew ?_))); (case side2 => exact HC1.out); rintro e w84 ⟨v225, rfl, ho0, hb⟩; refine ⟨_, rfl, ?_⟩; have n0_ := k0 (Kd.R_elder' (kR HO_9.out) (Kd.R_base ho0) hb); have n1_ := k0 (Kd.R_elder' (kR HO_198000.out) (Kd.R_base ho0) hb); have n2_ := k0 (Kd.R_elder' (kR HO_198001.out) (Kd.R_base ho0) hb); have n3_ := k0 (Kd.R_elder' (kR HO_205000.out) (Kd.R_base ho0) hb); have n4_ := k0 (Kd.R_elder' (kR HO_205001.out) (Kd.R_base ho0) hb); have n5_ := k0 (Kd.R_elder' (kR HO_216000.out) (Kd.R_base ho0) hb); have n6_ := k0 (Kd.R_elder' (kR HO_216001.out) (Kd.R_base ho0) hb); have n7_ := k0 (Kd.R_elder' (kR HO219.out) (Kd.R_base ho0) hb); have n8_ := k0 (Kd.R_elder' (kR HO222.out) (Kd.R_base ho0) hb); have n9_ := k0 (Kd.R_lower (Kd.R_new' (Kd.R_new' (Kd.R_new' (Kd.R_new' (Kd.R_new' (Kd.R_new' (Kd.R_new' (Kd.R_new' (Kd.R_new' ho0 (Kd.R_lt (kR HO_9.out))) (Kd.R_lt (kR HO_198000.out))) (Kd.R_lt (kR HO_198001.out))) (Kd.R_lt (kR HO_205000.out))) (Kd.R_lt (kR HO_205001.out))) (Kd.R_lt (kR HO_216000.out))) (Kd.R_lt (kR HO_216001.out))) (Kd.R_lt (kR HO219.out))) (Kd.R_lt (kR HO222.out))) (below_size (kW HB.out))); have n10_ := k0 (kb BK179.out hb); have n11_ := k0 (kb BK197.out hb); have n12_ := k0 (kb BK204.out hb); have n13_ := k0 (kb BK215.out hb); have n14_ := k0 (below_step (kW HB.out) hb); clear HO_9; clear HO_198000; clear HO_198001; clear HO_205000; clear HO_205001; clear HO_216000; clear HO_216001; clear HO219; clear HO222; clear BK179; clear BK197; clear BK204; clear BK215; clear HB; have HO_9 := n0_; have HO_198000 := n1_; have HO_198001 := n2_; have HO_205000 := n3_; have HO_205001 := n4_; have HO_216000 := n5_; have HO_216001 := n6_; have HO219 := n7_; have HO222 := n8_; have HO226 := n9_; have BK179 := n10_; have BK197 := n11_; have BK204 := n12_; have BK215 := n13_; have HB := n14_; clear n0_ n1_ n2_ n3_ n4_ n5_ n6_ n7_ n8_ n9_ n10_ n11_ n12_ n13_ n14_; (try clear hb); (try clear hb2); (try clear hk); (try clear hi); (try clear ho0); obtain ⟨Ao85, co85, eo85⟩ := Kd.R_slice HO226.out; subst eo85) | ((with_reducible refine gate_callee (f := 35) rfl ?_); refine goesL_ (some 60) rfl rfl Try.func35 (by kernel_rfl) rfl #[.slice Ao42 t205.length co42, .slice Ao85 t224.length co85] rfl (by (try simp only [List.map_toArray, List.map_cons, List.map_nil]); first | done | rfl | (simp only [List.length_drop, List.length_take]; rfl)) ?_; (with_reducible refine (laws_eqByteS.calls kj15 _ _ t205 _ _ t224 true _ ?side1 ?side2 ?side3 ?side4 A74.out).mono ?_); (case side1 => repeat (first | exact (Kd.R_reads' HO_9.out).2.2 | (with_reducible refine Kd.C_alloc ?_ _) | (with_reducible refine Kd.C_drewN ?_ _) | (with_reducible refine Kd.C_drew ?_))); (case side2 => exact (Kd.R_reads' HO_9.out).2.1); (case side3 => repeat (first | exact (Kd.R_reads' HO226.out).2.2 | (with_reducible refine Kd.C_alloc ?_ _) | (with_reducible refine Kd.C_drewN ?_ _) | (with_reducible refine Kd.C_drew ?_))); (case side4 => exact (Kd.R_reads' HO226.out).2.1); rintro e w' ⟨rfl, ⟨nd, rfl⟩⟩; refine ⟨_, rfl, ?_⟩; have hnb86 := NB204_179.out; have hnc86 := NB179_204.out; have hnb87 := NB204_197.out; have hnc87 := NB197_204.out; have hnb88 := NB204_215.out; have hnc88 := NB215_204.out; have hcz89_0 : w84.cell? ⟨gb204, 0, none⟩ = some (.slice Ao35 t198.length co35) := (blk_cell BK204.out 0).trans rfl; have hcz89_1 : w84.cell? ⟨gb204, 1, none⟩ = some (.slice Ao39 t201.length co39) := (blk_cell BK204.out 1).trans rfl; have hfz89_0 := blk_frozen BK204.out 0; have hfz89_1 := blk_frozen BK204.out 1) | ((with_reducible refine gate_callee (f := 36) rfl ?_); refine goesL_ (some 64) rfl rfl Try.func36 (by kernel_rfl) rfl #[.agg #[.slice Ao35 t198.length co35, .slice Ao39 t201.length co39], .int .i64 1] rfl (by (try simp only [List.map_toArray, List.map_cons, List.map_nil]); first | done | rfl | (simp only [List.length_drop, List.length_take]; rfl)) ?_; (with_reducible refine (laws_markDisk.calls kj15 (fun k_ => some k_ = (.slice Ao35 t198.length co35 : Value).ownBlock) (.slice Ao35 t198.length co35) t198 (fun k_ => some k_ = (.slice Ao39 t201.length co39 : Value).ownBlock) (.slice Ao39 t201.length co39) t201 1 t228 t229 t230 w _ ?side1 ?side2 ?side3 ?side4 ?side5 A76.out).mono ?_); (case side1 => repeat (first | (with_reducible first | exact HB.out | apply below_alloc | apply pw_below_drewN | apply below_drew1 | refine below_set ?_ GE179.out | refine below_set ?_ GE197.out | refine below_set ?_ GE204.out | refine below_set ?_ GE215.out) | exact HB.out)); (case side2 => exact Kd.R_tight rfl HO_205000.out); (case side3 => exact fun k_ e_ => (HO_205000.out.1 k_ e_.symm).1.1.1.2.2.2.1); (case side4 => exact Kd.R_tight rfl HO_205001.out); (case side5 => exact fun k_ e_ => (HO_205001.out.1 k_ e_.symm).1.1.1.2.2.2.1); rintro e w90 ⟨rfl, hy0, hy1, hb, hkp⟩; refine ⟨_, rfl, ?_⟩; have n0_ := k0 (Kd.R_mono (ok' := fun k_ => some k_ ≠ (.slice Ao28 t190.length co28 : Value).ownBlock ∧ some k_ ≠ (.slice Ao31 t193.length co31 : Value).ownBlock ∧ some k_ ≠ (.slice Ao35 t198.length co35 : Value).ownBlock ∧ some k_ ≠ (.slice Ao39 t201.length co39 : Value).ownBlock ∧ some k_ ≠ (.slice Ao45 t208.length co45 : Value).ownBlock ∧ some k_ ≠ (.slice Ao50 t211.length co50 : Value).ownBlock ∧ some k_ ≠ (.slice Ao81 t217.length co81 : Value).ownBlock ∧ some k_ ≠ (.slice Ao82 t220.length co82 : Value).ownBlock ∧ some k_ ≠ (.slice Ao85 t224.length co85 : Value).ownBlock) (Kd.R_keptB (HO_9.out) hkp (fun k_ hk_ hs_ => Or.elim hs_ (fun e_ => (hk_.1.1.1.2.2.1) e_) (fun e_ => (hk_.1.1.1.2.2.2.1) e_))) (fun k_ hk_ => ⟨hk_.1.1.1.1.1, hk_.1.1.1.1.2.1, hk_.1.1.1.1.2.2.1, hk_.1.1.1.1.2.2.2.1, hk_.1.1.1.1.2.2.2.2.1, hk_.1.1.1.1.2.2.2.2.2, hk_.1.1.1.2, hk_.1.1.2, hk_.1.2⟩)); have n1_ := k0 (Kd.R_mono (ok' := fun k_ => some k_ ≠ (.slice Ao42 t205.length co42 : Value).ownBlock ∧ some k_ ≠ (.slice Ao31 t193.length co31 : Value).ownBlock ∧ some k_ ≠ (.slice Ao35 t198.length co35 : Value).ownBlock ∧ some k_ ≠ (.slice Ao39 t201.length co39 : Value).ownBlock ∧ some k_ ≠ (.slice Ao45 t208.length co45 : Value).ownBlock ∧ some k_ ≠ (.slice Ao50 t211.length co50 : Value).ownBlock ∧ some k_ ≠ (.slice Ao81 t217.length co81 : Value).ownBlock ∧ some k_ ≠ (.slice Ao82 t220.length co82 : Value).ownBlock ∧ some k_ ≠ (.slice Ao85 t224.length co85 : Value).ownBlock) (Kd.R_keptB (HO_198000.out) hkp (fun k_ hk_ hs_ => Or.elim hs_ (fun e_ => (hk_.1.1.1.2.2.1) e_) (fun e_ => (hk_.1.1.1.2.2.2.1) e_))) (fun k_ hk_ => ⟨hk_.1.1.1.1.1, hk_.1.1.1.1.2.1, hk_.1.1.1.1.2.2.1, hk_.1.1.1.1.2.2.2.1, hk_.1.1.1.1.2.2.2.2.1, hk_.1.1.1.1.2.2.2.2.2, hk_.1.1.1.2, hk_.1.1.2, hk_.1.2⟩)); have n2_ := k0 (Kd.R_mono (ok' := fun k_ => some k_ ≠ (.slice Ao42 t205.length co42 : Value).ownBlock ∧ some k_ ≠ (.slice Ao28 t190.length co28 : Value).ownBlock ∧ some k_ ≠ (.slice Ao35 t198.length co35 : Value).ownBlock ∧ some k_ ≠ (.slice Ao39 t201.length co39 : Value).ownBlock ∧ some k_ ≠ (.slice Ao45 t208.length co45 : Value).ownBlock ∧ some k_ ≠ (.slice Ao50 t211.length co50 : Value).ownBlock ∧ some k_ ≠ (.slice Ao81 t217.length co81 : Value).ownBlock ∧ some k_ ≠ (.slice Ao82 t220.length co82 : Value).ownBlock ∧ some k_ ≠ (.slice Ao85 t224.length co85 : Value).ownBlock) (Kd.R_keptB (HO_198001.out) hkp (fun k_ hk_ hs_ => Or.elim hs_ (fun e_ => (hk_.1.1.1.2.2.1) e_) (fun e_ => (hk_.1.1.1.2.2.2.1) e_))) (fun k_ hk_ => ⟨hk_.1.1.1.1.1, hk_.1.1.1.1.2.1, hk_.1.1.1.1.2.2.1, hk_.1.1.1.1.2.2.2.1, hk_.1.1.1.1.2.2.2.2.1, hk_.1.1.1.1.2.2.2.2.2, hk_.1.1.1.2, hk_.1.1.2, hk_.1.2⟩)); have n3_ := k0 (Kd.R_reok rfl hy0 (fun k_ e_ => HO_205000.out.1 k_ e_)); have n4_ := k0 (Kd.R_reok rfl hy1 (fun k_ e_ => HO_205001.out.1 k_ e_)); have n5_ := k0 (Kd.R_mono (ok' := fun k_ => some k_ ≠ (.slice Ao42 t205.length co42 : Value).ownBlock ∧ some k_ ≠ (.slice Ao28 t190.length co28 : Value).ownBlock ∧ some k_ ≠ (.slice Ao31 t193.length co31 : Value).ownBlock ∧ some k_ ≠ (.slice Ao35 t198.length co35 : Value).ownBlock ∧ some k_ ≠ (.slice Ao39 t201.length co39 : Value).ownBlock ∧ some k_ ≠ (.slice Ao50 t211.length co50 : Value).ownBlock ∧ some k_ ≠ (.slice Ao81 t217.length co81 : Value).ownBlock ∧ some k_ ≠ (.slice Ao82 t220.length co82 : Value).ownBlock ∧ some k_ ≠ (.slice Ao85 t224.length co85 : Value).ownBlock) (Kd.R_keptB (HO_216000.out) hkp (fun k_ hk_ hs_ => Or.elim hs_ (fun e_ => (hk_.1.1.1.2.2.2.1) e_) (fun e_ => (hk_.1.1.1.2.2.2.2.1) e_))) (fun k_ hk_ => ⟨hk_.1.1.1.1.1, hk_.1.1.1.1.2.1, hk_.1.1.1.1.2.2.1, hk_.1.1.1.1.2.2.2.1, hk_.1.1.1.1.2.2.2.2.1, hk_.1.1.1.1.2.2.2.2.2, hk_.1.1.1.2, hk_.1.1.2, hk_.1.2⟩)); have n6_ := k0 (Kd.R_mono (ok' := fun k_ => some k_ ≠ (.slice Ao42 t205.length co42 : Value).ownBlock ∧ some k_ ≠ (.slice Ao28 t190.length co28 : Value).ownBlock ∧ some k_ ≠ (.slice Ao31 t193.length co31 : Value).ownBlock ∧ some k_ ≠ (.slice Ao35 t198.length co35 : Value).ownBlock ∧ some k_ ≠ (.slice Ao39 t201.length co39 : Value).ownBlock ∧ some k_ ≠ (.slice Ao45 t208.length co45 : Value).ownBlock ∧ some k_ ≠ (.slice Ao81 t217.length co81 : Value).ownBlock ∧ some k_ ≠ (.slice Ao82 t220.length co82 : Value).ownBlock ∧ some k_ ≠ (.slice Ao85 t224.length co85 : Value).ownBlock) (Kd.R_keptB (HO_216001.out) hkp (fun k_ hk_ hs_ => Or.elim hs_ (fun e_ => (hk_.1.1.1.2.2.2.1) e_) (fun e_ => (hk_.1.1.1.2.2.2.2.1) e_))) (fun k_ hk_ => ⟨hk_.1.1.1.1.1, hk_.1.1.1.1.2.1, hk_.1.1.1.1.2.2.1, hk_.1.1.1.1.2.2.2.1, hk_.1.1.1.1.2.2.2.2.1, hk_.1.1.1.1.2.2.2.2.2, hk_.1.1.1.2, hk_.1.1.2, hk_.1.2⟩)); have n7_ := k0 (kK BK179.out hkp (fun hs_ => Or.elim hs_ (fun e_ => (fun e_ => (Kd.R_ne HO_205000.out BK179.out (by decide)) e_) e_) (fun e_ => (fun e_ => (Kd.R_ne HO_205001.out BK179.out (by decide)) e_) e_))); have n8_ := k0 (kK BK197.out hkp (fun hs_ => Or.elim hs_ (fun e_ => (fun e_ => (Kd.R_ne HO_205000.out BK197.out (by decide)) e_) e_) (fun e_ => (fun e_ => (Kd.R_ne HO_205001.out BK197.out (by decide)) e_) e_))); have n9_ := k0 (kK BK204.out hkp (fun hs_ => Or.elim hs_ (fun e_ => (fun e_ => (Kd.R_ne HO_205000.out BK204.out (by decide)) e_) e_) (fun e_ => (fun e_ => (Kd.R_ne HO_205001.out BK204.out (by decide)) e_) e_))); have n10_ := k0 (kK BK215.out hkp (fun hs_ => Or.elim hs_ (fun e_ => (fun e_ => (Kd.R_ne HO_205000.out BK215.out (by decide)) e_) e_) (fun e_ => (fun e_ => (Kd.R_ne HO_205001.out BK215.out (by decide)) e_) e_))); have n11_ := k0 (Kd.R_mono (ok' := fun k_ => some k_ ≠ (.slice Ao42 t205.length co42 : Value).ownBlock ∧ some k_ ≠ (.slice Ao28 t190.length co28 : Value).ownBlock ∧ some k_ ≠ (.slice Ao31 t193.length co31 : Value).ownBlock ∧ some k_ ≠ (.slice Ao35 t198.length co35 : Value).ownBlock ∧ some k_ ≠ (.slice Ao39 t201.length co39 : Value).ownBlock ∧ some k_ ≠ (.slice Ao45 t208.length co45 : Value).ownBlock ∧ some k_ ≠ (.slice Ao50 t211.length co50 : Value).ownBlock ∧ some k_ ≠ (.slice Ao82 t220.length co82 : Value).ownBlock ∧ some k_ ≠ (.slice Ao85 t224.length co85 : Value).ownBlock) (Kd.R_keptB (HO219.out) hkp (fun k_ hk_ hs_ => Or.elim hs_ (fun e_ => (hk_.1.1.1.1.2) e_) (fun e_ => (hk_.1.1.1.2) e_))) (fun k_ hk_ => ⟨hk_.1.1.1.1.1.1.1.1.2, hk_.1.1.1.1.1.1.1.2, hk_.1.1.1.1.1.1.2, hk_.1.1.1.1.1.2, hk_.1.1.1.1.2, hk_.1.1.1.2, hk_.1.1.2, hk_.1.1.1.1.1.1.1.1.1, hk_.1.2⟩)); have n12_ := k0 (Kd.R_mono (ok' := fun k_ => some k_ ≠ (.slice Ao42 t205.length co42 : Value).ownBlock ∧ some k_ ≠ (.slice Ao28 t190.length co28 : Value).ownBlock ∧ some k_ ≠ (.slice Ao31 t193.length co31 : Value).ownBlock ∧ some k_ ≠ (.slice Ao35 t198.length co35 : Value).ownBlock ∧ some k_ ≠ (.slice Ao39 t201.length co39 : Value).ownBlock ∧ some k_ ≠ (.slice Ao45 t208.length co45 : Value).ownBlock ∧ some k_ ≠ (.slice Ao50 t211.length co50 : Value).ownBlock ∧ some k_ ≠ (.slice Ao81 t217.length co81 : Value).ownBlock ∧ some k_ ≠ (.slice Ao85 t224.length co85 : Value).ownBlock) (Kd.R_keptB (HO222.out) hkp (fun k_ hk_ hs_ => Or.elim hs_ (fun e_ => (hk_.1.1.1.1.2) e_) (fun e_ => (hk_.1.1.1.2) e_))) (fun k_ hk_ => ⟨hk_.1.1.1.1.1.1.1.1.2, hk_.1.1.1.1.1.1.1.2, hk_.1.1.1.1.1.1.2, hk_.1.1.1.1.1.2, hk_.1.1.1.1.2, hk_.1.1.1.2, hk_.1.1.2, hk_.1.1.1.1.1.1.1.1.1, hk_.1.2⟩)); have n13_ := k0 (Kd.R_mono (ok' := fun k_ => some k_ ≠ (.slice Ao42 t205.length co42 : Value).ownBlock ∧ some k_ ≠ (.slice Ao28 t190.length co28 : Value).ownBlock ∧ some k_ ≠ (.slice Ao31 t193.length co31 : Value).ownBlock ∧ some k_ ≠ (.slice Ao35 t198.length co35 : Value).ownBlock ∧ some k_ ≠ (.slice Ao39 t201.length co39 : Value).ownBlock ∧ some k_ ≠ (.slice Ao45 t208.length co45 : Value).ownBlock ∧ some k_ ≠ (.slice Ao50 t211.length co50 : Value).ownBlock ∧ some k_ ≠ (.slice Ao81 t217.length co81 : Value).ownBlock ∧ some k_ ≠ (.slice Ao82 t220.length co82 : Value).ownBlock) (Kd.R_keptB (HO226.out) hkp (fun k_ hk_ hs_ => Or.elim hs_ (fun e_ => (hk_.1.1.1.1.1.2) e_) (fun e_ => (hk_.1.1.1.1.2) e_))) (fun k_ hk_ => ⟨hk_.1.1.1.1.1.1.1.1.1.2, hk_.1.1.1.1.1.1.1.1.2, hk_.1.1.1.1.1.1.1.2, hk_.1.1.1.1.1.1.2, hk_.1.1.1.1.1.2, hk_.1.1.1.1.2, hk_.1.1.1.2, hk_.1.1.2, hk_.1.2⟩)); have n14_ := k0 (hb); clear HO_9; clear HO_198000; clear HO_198001; clear HO_205000; clear HO_205001; clear HO_216000; clear HO_216001; clear BK179; clear BK197; clear BK204; clear BK215; clear HO219; clear HO222; clear HO226; clear HB; have HO_9 := n0_; have HO_198000 := n1_; have HO_198001 := n2_; have HO_205000 := n3_; have HO_205001 := n4_; have HO_216000 := n5_; have HO_216001 := n6_; have BK179 := n7_; have BK197 := n8_; have BK204 := n9_; have BK215 := n10_; have HO219 := n11_; have HO222 := n12_; have HO226 := n13_; have HB := n14_; clear n0_ n1_ n2_ n3_ n4_ n5_ n6_ n7_ n8_ n9_ n10_ n11_ n12_ n13_ n14_; (try clear hb); (try clear hkp); (try clear hy0); (try clear hy1)) | ((with_reducible refine gate_callee (f := 37) rfl ?_); refine goesL_ (some 67) rfl rfl Try.func37 (by kernel_rfl) rfl #[.slice Ao42 t205.length co42, .int .i64 t228] rfl (by (try simp only [List.map_toArray, List.map_cons, List.map_nil]); first | done | rfl | (simp only [List.length_drop, List.length_take]; rfl)) ?_; (with_reducible refine (laws_markByteS.calls kj15 (fun k_ => some k_ = (.slice Ao42 t205.length co42 : Value).ownBlock) (.slice Ao42 t205.length co42) t205 t228 t231 t232 w _ ?side1 ?side2 A77.out).mono ?_); (case side1 => repeat (first | (with_reducible first | exact HB.out | apply below_alloc | apply pw_below_drewN | apply below_drew1 | refine below_set ?_ GE179.out | refine below_set ?_ GE197.out | refine below_set ?_ GE204.out | refine below_set ?_ GE215.out) | exact HB.out)); (case side2 => exact Kd.R_tight rfl HO_9.out); rintro e w91 ⟨rfl, hy0, hb, hkp⟩; refine ⟨_, rfl, ?_⟩; have n0_ := k0 (Kd.R_reok rfl hy0 (fun k_ e_ => HO_9.out.1 k_ e_)); have n1_ := k0 (Kd.R_mono (ok' := fun k_ => some k_ ≠ (.slice Ao42 t205.length co42 : Value).ownBlock ∧ some k_ ≠ (.slice Ao31 t193.length co31 : Value).ownBlock ∧ some k_ ≠ (.slice Ao35 t198.length co35 : Value).ownBlock ∧ some k_ ≠ (.slice Ao39 t201.length co39 : Value).ownBlock ∧ some k_ ≠ (.slice Ao45 t208.length co45 : Value).ownBlock ∧ some k_ ≠ (.slice Ao50 t211.length co50 : Value).ownBlock ∧ some k_ ≠ (.slice Ao81 t217.length co81 : Value).ownBlock ∧ some k_ ≠ (.slice Ao82 t220.length co82 : Value).ownBlock ∧ some k_ ≠ (.slice Ao85 t224.length co85 : Value).ownBlock) (Kd.R_keptB (HO_198000.out) hkp (fun k_ hk_ hs_ => (hk_.1) hs_)) (fun k_ hk_ => ⟨hk_.1.1, hk_.1.2.1, hk_.1.2.2.1, hk_.1.2.2.2.1, hk_.1.2.2.2.2.1, hk_.1.2.2.2.2.2.1, hk_.1.2.2.2.2.2.2.1, hk_.1.2.2.2.2.2.2.2.1, hk_.1.2.2.2.2.2.2.2.2⟩)); have n2_ := k0 (Kd.R_mono (ok' := fun k_ => some k_ ≠ (.slice Ao42 t205.length co42 : Value).ownBlock ∧ some k_ ≠ (.slice Ao28 t190.length co28 : Value).ownBlock ∧ some k_ ≠ (.slice Ao35 t198.length co35 : Value).ownBlock ∧ some k_ ≠ (.slice Ao39 t201.length co39 : Value).ownBlock ∧ some k_ ≠ (.slice Ao45 t208.length co45 : Value).ownBlock ∧ some k_ ≠ (.slice Ao50 t211.length co50 : Value).ownBlock ∧ some k_ ≠ (.slice Ao81 t217.length co81 : Value).ownBlock ∧ some k_ ≠ (.slice Ao82 t220.length co82 : Value).ownBlock ∧ some k_ ≠ (.slice Ao85 t224.length co85 : Value).ownBlock) (Kd.R_keptB (HO_198001.out) hkp (fun k_ hk_ hs_ => (hk_.1) hs_)) (fun k_ hk_ => ⟨hk_.1.1, hk_.1.2.1, hk_.1.2.2.1, hk_.1.2.2.2.1, hk_.1.2.2.2.2.1, hk_.1.2.2.2.2.2.1, hk_.1.2.2.2.2.2.2.1, hk_.1.2.2.2.2.2.2.2.1, hk_.1.2.2.2.2.2.2.2.2⟩)); have n3_ := k0 (Kd.R_mono (ok' := fun k_ => some k_ ≠ (.slice Ao42 t205.length co42 : Value).ownBlock ∧ some k_ ≠ (.slice Ao28 t190.length co28 : Value).ownBlock ∧ some k_ ≠ (.slice Ao31 t193.length co31 : Value).ownBlock ∧ some k_ ≠ (.slice Ao39 t201.length co39 : Value).ownBlock ∧ some k_ ≠ (.slice Ao45 t208.length co45 : Value).ownBlock ∧ some k_ ≠ (.slice Ao50 t211.length co50 : Value).ownBlock ∧ some k_ ≠ (.slice Ao81 t217.length co81 : Value).ownBlock ∧ some k_ ≠ (.slice Ao82 t220.length co82 : Value).ownBlock ∧ some k_ ≠ (.slice Ao85 t224.length co85 : Value).ownBlock) (Kd.R_keptB (HO_205000.out) hkp (fun k_ hk_ hs_ => (hk_.1.1.1.1) hs_)) (fun k_ hk_ => ⟨hk_.1.1.1.1.1, hk_.1.1.1.1.2.1, hk_.1.1.1.1.2.2.1, hk_.1.1.1.1.2.2.2.1, hk_.1.1.1.1.2.2.2.2.1, hk_.1.1.1.1.2.2.2.2.2, hk_.1.1.1.2, hk_.1.1.2, hk_.1.2⟩)); have n4_ := k0 (Kd.R_mono (ok' := fun k_ => some k_ ≠ (.slice Ao42 t205.length co42 : Value).ownBlock ∧ some k_ ≠ (.slice Ao28 t190.length co28 : Value).ownBlock ∧ some k_ ≠ (.slice Ao31 t193.length co31 : Value).ownBlock ∧ some k_ ≠ (.slice Ao35 t198.length co35 : Value).ownBlock ∧ some k_ ≠ (.slice Ao45 t208.length co45 : Value).ownBlock ∧ some k_ ≠ (.slice Ao50 t211.length co50 : Value).ownBlock ∧ some k_ ≠ (.slice Ao81 t217.length co81 : Value).ownBlock ∧ some k_ ≠ (.slice Ao82 t220.length co82 : Value).ownBlock ∧ some k_ ≠ (.slice Ao85 t224.length co85 : Value).ownBlock) (Kd.R_keptB (HO_205001.out) hkp (fun k_ hk_ hs_ => (hk_.1.1.1.1) hs_)) (fun k_ hk_ => ⟨hk_.1.1.1.1.1, hk_.1.1.1.1.2.1, hk_.1.1.1.1.2.2.1, hk_.1.1.1.1.2.2.2.1, hk_.1.1.1.1.2.2.2.2.1, hk_.1.1.1.1.2.2.2.2.2, hk_.1.1.1.2, hk_.1.1.2, hk_.1.2⟩)); have n5_ := k0 (Kd.R_mono (ok' := fun k_ => some k_ ≠ (.slice Ao42 t205.length co42 : Value).ownBlock ∧ some k_ ≠ (.slice Ao28 t190.length co28 : Value).ownBlock ∧ some k_ ≠ (.slice Ao31 t193.length co31 : Value).ownBlock ∧ some k_ ≠ (.slice Ao35 t198.length co35 : Value).ownBlock ∧ some k_ ≠ (.slice Ao39 t201.length co39 : Value).ownBlock ∧ some k_ ≠ (.slice Ao50 t211.length co50 : Value).ownBlock ∧ some k_ ≠ (.slice Ao81 t217.length co81 : Value).ownBlock ∧ some k_ ≠ (.slice Ao82 t220.length co82 : Value).ownBlock ∧ some k_ ≠ (.slice Ao85 t224.length co85 : Value).ownBlock) (Kd.R_keptB (HO_216000.out) hkp (fun k_ hk_ hs_ => (hk_.1) hs_)) (fun k_ hk_ => ⟨hk_.1.1, hk_.1.2.1, hk_.1.2.2.1, hk_.1.2.2.2.1, hk_.1.2.2.2.2.1, hk_.1.2.2.2.2.2.1, hk_.1.2.2.2.2.2.2.1, hk_.1.2.2.2.2.2.2.2.1, hk_.1.2.2.2.2.2.2.2.2⟩)); have n6_ := k0 (Kd.R_mono (ok' := fun k_ => some k_ ≠ (.slice Ao42 t205.length co42 : Value).ownBlock ∧ some k_ ≠ (.slice Ao28 t190.length co28 : Value).ownBlock ∧ some k_ ≠ (.slice Ao31 t193.length co31 : Value).ownBlock ∧ some k_ ≠ (.slice Ao35 t198.length co35 : Value).ownBlock ∧ some k_ ≠ (.slice Ao39 t201.length co39 : Value).ownBlock ∧ some k_ ≠ (.slice Ao45 t208.length co45 : Value).ownBlock ∧ some k_ ≠ (.slice Ao81 t217.length co81 : Value).ownBlock ∧ some k_ ≠ (.slice Ao82 t220.length co82 : Value).ownBlock ∧ some k_ ≠ (.slice Ao85 t224.length co85 : Value).ownBlock) (Kd.R_keptB (HO_216001.out) hkp (fun k_ hk_ hs_ => (hk_.1) hs_)) (fun k_ hk_ => ⟨hk_.1.1, hk_.1.2.1, hk_.1.2.2.1, hk_.1.2.2.2.1, hk_.1.2.2.2.2.1, hk_.1.2.2.2.2.2.1, hk_.1.2.2.2.2.2.2.1, hk_.1.2.2.2.2.2.2.2.1, hk_.1.2.2.2.2.2.2.2.2⟩)); have n7_ := k0 (kK BK179.out hkp (fun hs_ => (fun e_ => (Kd.R_ne HO_9.out BK179.out (by decide)) e_) hs_)); have n8_ := k0 (kK BK197.out hkp (fun hs_ => (fun e_ => (Kd.R_ne HO_9.out BK197.out (by decide)) e_) hs_)); have n9_ := k0 (kK BK204.out hkp (fun hs_ => (fun e_ => (Kd.R_ne HO_9.out BK204.out (by decide)) e_) hs_)); have n10_ := k0 (kK BK215.out hkp (fun hs_ => (fun e_ => (Kd.R_ne HO_9.out BK215.out (by decide)) e_) hs_)); have n11_ := k0 (Kd.R_mono (ok' := fun k_ => some k_ ≠ (.slice Ao42 t205.length co42 : Value).ownBlock ∧ some k_ ≠ (.slice Ao28 t190.length co28 : Value).ownBlock ∧ some k_ ≠ (.slice Ao31 t193.length co31 : Value).ownBlock ∧ some k_ ≠ (.slice Ao35 t198.length co35 : Value).ownBlock ∧ some k_ ≠ (.slice Ao39 t201.length co39 : Value).ownBlock ∧ some k_ ≠ (.slice Ao45 t208.length co45 : Value).ownBlock ∧ some k_ ≠ (.slice Ao50 t211.length co50 : Value).ownBlock ∧ some k_ ≠ (.slice Ao82 t220.length co82 : Value).ownBlock ∧ some k_ ≠ (.slice Ao85 t224.length co85 : Value).ownBlock) (Kd.R_keptB (HO219.out) hkp (fun k_ hk_ hs_ => (hk_.1) hs_)) (fun k_ hk_ => ⟨hk_.1.1, hk_.1.2.1, hk_.1.2.2.1, hk_.1.2.2.2.1, hk_.1.2.2.2.2.1, hk_.1.2.2.2.2.2.1, hk_.1.2.2.2.2.2.2.1, hk_.1.2.2.2.2.2.2.2.1, hk_.1.2.2.2.2.2.2.2.2⟩)); have n12_ := k0 (Kd.R_mono (ok' := fun k_ => some k_ ≠ (.slice Ao42 t205.length co42 : Value).ownBlock ∧ some k_ ≠ (.slice Ao28 t190.length co28 : Value).ownBlock ∧ some k_ ≠ (.slice Ao31 t193.length co31 : Value).ownBlock ∧ some k_ ≠ (.slice Ao35 t198.length co35 : Value).ownBlock ∧ some k_ ≠ (.slice Ao39 t201.length co39 : Value).ownBlock ∧ some k_ ≠ (.slice Ao45 t208.length co45 : Value).ownBlock ∧ some k_ ≠ (.slice Ao50 t211.length co50 : Value).ownBlock ∧ some k_ ≠ (.slice Ao81 t217.length co81 : Value).ownBlock ∧ some k_ ≠ (.slice Ao85 t224.length co85 : Value).ownBlock) (Kd.R_keptB (HO222.out) hkp (fun k_ hk_ hs_ => (hk_.1) hs_)) (fun k_ hk_ => ⟨hk_.1.1, hk_.1.2.1, hk_.1.2.2.1, hk_.1.2.2.2.1, hk_.1.2.2.2.2.1, hk_.1.2.2.2.2.2.1, hk_.1.2.2.2.2.2.2.1, hk_.1.2.2.2.2.2.2.2.1, hk_.1.2.2.2.2.2.2.2.2⟩)); have n13_ := k0 (Kd.R_mono (ok' := fun k_ => some k_ ≠ (.slice Ao42 t205.length co42 : Value).ownBlock ∧ some k_ ≠ (.slice Ao28 t190.length co28 : Value).ownBlock ∧ some k_ ≠ (.slice Ao31 t193.length co31 : Value).ownBlock ∧ some k_ ≠ (.slice Ao35 t198.length co35 : Value).ownBlock ∧ some k_ ≠ (.slice Ao39 t201.length co39 : Value).ownBlock ∧ some k_ ≠ (.slice Ao45 t208.length co45 : Value).ownBlock ∧ some k_ ≠ (.slice Ao50 t211.length co50 : Value).ownBlock ∧ some k_ ≠ (.slice Ao81 t217.length co81 : Value).ownBlock ∧ some k_ ≠ (.slice Ao82 t220.length co82 : Value).ownBlock) (Kd.R_keptB (HO226.out) hkp (fun k_ hk_ hs_ => (hk_.1) hs_)) (fun k_ hk_ => ⟨hk_.1.1, hk_.1.2.1, hk_.1.2.2.1, hk_.1.2.2.2.1, hk_.1.2.2.2.2.1, hk_.1.2.2.2.2.2.1, hk_.1.2.2.2.2.2.2.1, hk_.1.2.2.2.2.2.2.2.1, hk_.1.2.2.2.2.2.2.2.2⟩)); have n14_ := k0 (hb); clear HO_9; clear HO_198000; clear HO_198001; clear HO_205000; clear HO_205001; clear HO_216000; clear HO_216001; clear BK179; clear BK197; clear BK204; clear BK215; clear HO219; clear HO222; clear HO226; clear HB; have HO_9 := n0_; have HO_198000 := n1_; have HO_198001 := n2_; have HO_205000 := n3_; have HO_205001 := n4_; have HO_216000 := n5_; have HO_216001 := n6_; have BK179 := n7_; have BK197 := n8_; have BK204 := n9_; have BK215 := n10_; have HO219 := n11_; have HO222 := n12_; have HO226 := n13_; have HB := n14_; clear n0_ n1_ n2_ n3_ n4_ n5_ n6_ n7_ n8_ n9_ n10_ n11_ n12_ n13_ n14_; (try clear hb); (try clear hkp); (try clear hy0)))
        (try simp only [Act.put, List.setIfInBounds_toArray, List.set_cons_zero, List.set_cons_succ])
        go_cut [80] (fun v80 wc => ∃ (kq : Nat) (x80_77 : Bool), v80 = .bool x80_77 ∧ Aside0 (laws_FnExactDiskWrite.j1 kq l1 t196 x80_77 l0_0 l0_1 t190 t193 t208 t211 = some r) ∧ Aside0 (kq ≤ kj15) ∧ Aside0 (Kd.R (Kd.int .u8) 5 wc w.heap.size (fun k_ => some k_ ≠ ((.slice Ao31 t193.length co31) : Value).ownBlock ∧ some k_ ≠ ((.slice Ao35 t198.length co35) : Value).ownBlock ∧ some k_ ≠ ((.slice Ao39 t201.length co39) : Value).ownBlock ∧ some k_ ≠ ((.slice Ao45 t208.length co45) : Value).ownBlock ∧ some k_ ≠ ((.slice Ao50 t211.length co50) : Value).ownBlock) (.slice Ao28 t190.length co28) t190) ∧ Aside0 (Kd.R (Kd.int .u8) 5 wc w.heap.size (fun k_ => some k_ ≠ ((.slice Ao28 t190.length co28) : Value).ownBlock ∧ some k_ ≠ ((.slice Ao35 t198.length co35) : Value).ownBlock ∧ some k_ ≠ ((.slice Ao39 t201.length co39) : Value).ownBlock ∧ some k_ ≠ ((.slice Ao45 t208.length co45) : Value).ownBlock ∧ some k_ ≠ ((.slice Ao50 t211.length co50) : Value).ownBlock) (.slice Ao31 t193.length co31) t193) ∧ Aside0 (Kd.R (Kd.int .u8) 5 wc w.heap.size (fun k_ => some k_ ≠ ((.slice Ao28 t190.length co28) : Value).ownBlock ∧ some k_ ≠ ((.slice Ao31 t193.length co31) : Value).ownBlock ∧ some k_ ≠ ((.slice Ao39 t201.length co39) : Value).ownBlock ∧ some k_ ≠ ((.slice Ao45 t208.length co45) : Value).ownBlock ∧ some k_ ≠ ((.slice Ao50 t211.length co50) : Value).ownBlock) (.slice Ao35 t198.length co35) t229) ∧ Aside0 (Kd.R (Kd.int .u8) 5 wc w.heap.size (fun k_ => some k_ ≠ ((.slice Ao28 t190.length co28) : Value).ownBlock ∧ some k_ ≠ ((.slice Ao31 t193.length co31) : Value).ownBlock ∧ some k_ ≠ ((.slice Ao35 t198.length co35) : Value).ownBlock ∧ some k_ ≠ ((.slice Ao45 t208.length co45) : Value).ownBlock ∧ some k_ ≠ ((.slice Ao50 t211.length co50) : Value).ownBlock) (.slice Ao39 t201.length co39) t230) ∧ Aside0 (Kd.R (Kd.int .u8) 5 wc w.heap.size (fun k_ => some k_ ≠ ((.slice Ao28 t190.length co28) : Value).ownBlock ∧ some k_ ≠ ((.slice Ao31 t193.length co31) : Value).ownBlock ∧ some k_ ≠ ((.slice Ao35 t198.length co35) : Value).ownBlock ∧ some k_ ≠ ((.slice Ao39 t201.length co39) : Value).ownBlock ∧ some k_ ≠ ((.slice Ao50 t211.length co50) : Value).ownBlock) (.slice Ao45 t208.length co45) t208) ∧ Aside0 (Kd.R (Kd.int .u8) 5 wc w.heap.size (fun k_ => some k_ ≠ ((.slice Ao28 t190.length co28) : Value).ownBlock ∧ some k_ ≠ ((.slice Ao31 t193.length co31) : Value).ownBlock ∧ some k_ ≠ ((.slice Ao35 t198.length co35) : Value).ownBlock ∧ some k_ ≠ ((.slice Ao39 t201.length co39) : Value).ownBlock ∧ some k_ ≠ ((.slice Ao45 t208.length co45) : Value).ownBlock) (.slice Ao50 t211.length co50) t211) ∧ Aside0 (wc.heap[gb179]? = some (.cells #[(.slice A0_0 l0_0.length c0_0), (.slice A0_1 l0_1.length c0_1)] 32 (0, 0))) ∧ Aside0 (wc.heap[gb197]? = some (.cells #[(.slice Ao28 t190.length co28), (.slice Ao31 t193.length co31)] 35 (0, 0))) ∧ Aside0 (wc.heap[gb204]? = some (.cells #[(.slice Ao35 t198.length co35), (.slice Ao39 t201.length co39)] 35 (0, 0))) ∧ Aside0 (wc.heap[gb215]? = some (.cells #[(.slice Ao45 t208.length co45), (.slice Ao50 t211.length co50)] 35 (0, 0))) ∧ Aside0 (Below w.heap.size w wc))
        case first =>
         have H := HC78.out
         clear HC78
         by_cases c92 : t231 < 0
         ·rw [if_pos c92] at H
          have c92b0 : decide (t231 < 0) = true := decide_eq_true c92
          clear c92
          (first | rw [c92b0] | (simp only [i64_w, i32_w]; rw [c92b0]) | skip)
          have H' := Aside0.mk H
          clear H
          go_wp2
          go_meet
          case rel => exact ⟨_, (true), (by first | rfl | (simp; done) | (simp [*]; done)), H', ⟨by have := HJ15.out; first | omega | exact Nat.le_refl _⟩, ⟨by (with_reducible repeat (first | apply Kd.R_alloc | apply Kd.R_drewN | apply Kd.R_drew)); exact Kd.R_mono HO_198000.out (fun _ hk => ⟨hk.2.1, ⟨hk.2.2.1, ⟨hk.2.2.2.1, ⟨hk.2.2.2.2.1, hk.2.2.2.2.2.1⟩⟩⟩⟩)⟩, ⟨by (with_reducible repeat (first | apply Kd.R_alloc | apply Kd.R_drewN | apply Kd.R_drew)); exact Kd.R_mono HO_198001.out (fun _ hk => ⟨hk.2.1, ⟨hk.2.2.1, ⟨hk.2.2.2.1, ⟨hk.2.2.2.2.1, hk.2.2.2.2.2.1⟩⟩⟩⟩)⟩, ⟨by (with_reducible repeat (first | apply Kd.R_alloc | apply Kd.R_drewN | apply Kd.R_drew)); exact Kd.R_mono HO_205000.out (fun _ hk => ⟨hk.2.1, ⟨hk.2.2.1, ⟨hk.2.2.2.1, ⟨hk.2.2.2.2.1, hk.2.2.2.2.2.1⟩⟩⟩⟩)⟩, ⟨by (with_reducible repeat (first | apply Kd.R_alloc | apply Kd.R_drewN | apply Kd.R_drew)); exact Kd.R_mono HO_205001.out (fun _ hk => ⟨hk.2.1, ⟨hk.2.2.1, ⟨hk.2.2.2.1, ⟨hk.2.2.2.2.1, hk.2.2.2.2.2.1⟩⟩⟩⟩)⟩, ⟨by (with_reducible repeat (first | apply Kd.R_alloc | apply Kd.R_drewN | apply Kd.R_drew)); exact Kd.R_mono HO_216000.out (fun _ hk => ⟨hk.2.1, ⟨hk.2.2.1, ⟨hk.2.2.2.1, ⟨hk.2.2.2.2.1, hk.2.2.2.2.2.1⟩⟩⟩⟩)⟩, ⟨by (with_reducible repeat (first | apply Kd.R_alloc | apply Kd.R_drewN | apply Kd.R_drew)); exact Kd.R_mono HO_216001.out (fun _ hk => ⟨hk.2.1, ⟨hk.2.2.1, ⟨hk.2.2.2.1, ⟨hk.2.2.2.2.1, hk.2.2.2.2.2.1⟩⟩⟩⟩)⟩, ⟨by (with_reducible repeat (first | refine blk_drewN ?_ _ | refine blk_drew ?_ | refine blk_alloc ?_ _)); exact BK179.out⟩, ⟨by (with_reducible repeat (first | refine blk_drewN ?_ _ | refine blk_drew ?_ | refine blk_alloc ?_ _)); exact BK197.out⟩, ⟨by (with_reducible repeat (first | refine blk_drewN ?_ _ | refine blk_drew ?_ | refine blk_alloc ?_ _)); exact BK204.out⟩, ⟨by (with_reducible repeat (first | refine blk_drewN ?_ _ | refine blk_drew ?_ | refine blk_alloc ?_ _)); exact BK215.out⟩, ⟨by repeat (first | (with_reducible first | exact HB.out | apply below_alloc | apply pw_below_drewN | apply below_drew1 | refine below_set ?_ GE179.out | refine below_set ?_ GE197.out | refine below_set ?_ GE204.out | refine below_set ?_ GE215.out) | exact HB.out)⟩⟩
         ·rw [if_neg c92] at H
          have c92b0 : decide (t231 < 0) = false := decide_eq_false c92
          clear c92
          (first | rw [c92b0] | (simp only [i64_w, i32_w]; rw [c92b0]) | skip)
          replace H := Option.bind_eq_some_iff.mp H
          obtain ⟨t233, A930, H⟩ := H
          replace H : (if t233 = true then (laws_FnExactDiskWrite.j1 kj15 l1 t196 (t214 != t196) l0_0 l0_1 t190 t193 t208 t211) else (laws_FnExactDiskWrite.j1 kj15 l1 t196 true l0_0 l0_1 t190 t193 t208 t211)) = some r := H
          have A93 := Aside0.mk A930
          clear A930
          by_cases c94 : t233 = true
          ·subst c94
           have H1 : (laws_FnExactDiskWrite.j1 kj15 l1 t196 (t214 != t196) l0_0 l0_1 t190 t193 t208 t211) = some r := by rw [if_pos rfl] at H; exact H
           clear H
           have H := H1
           clear H1
           have H' := Aside0.mk H
           clear H
           have hnb95 := NB215_179.out
           have hnc95 := NB179_215.out
           have hnb96 := NB215_197.out
           have hnc96 := NB197_215.out
           have hnb97 := NB215_204.out
           have hnc97 := NB204_215.out
           have hcz98_0 : w91.cell? ⟨gb215, 0, none⟩ = some (.slice Ao45 t208.length co45) := (blk_cell BK215.out 0).trans rfl
           have hcz98_1 : w91.cell? ⟨gb215, 1, none⟩ = some (.slice Ao50 t211.length co50) := (blk_cell BK215.out 1).trans rfl
           have hfz98_0 := blk_frozen BK215.out 0
           have hfz98_1 := blk_frozen BK215.out 1
           have hnb99 := NB197_179.out
           have hnc99 := NB179_197.out
           have hnb100 := NB197_204.out
           have hnc100 := NB204_197.out
           have hcz101_0 : w91.cell? ⟨gb197, 0, none⟩ = some (.slice Ao28 t190.length co28) := (blk_cell BK197.out 0).trans rfl
           have hcz101_1 : w91.cell? ⟨gb197, 1, none⟩ = some (.slice Ao31 t193.length co31) := (blk_cell BK197.out 1).trans rfl
           have hfz101_0 := blk_frozen BK197.out 0
           have hfz101_1 := blk_frozen BK197.out 1
           go_wp2_with (first | (go_at_call 23; (with_reducible refine (laws_eqDisk.calls kj15 _ _ t208 _ _ t211 _ _ t190 _ _ t193 true _ ?side1 ?side2 ?side3 ?side4 ?side5 ?side6 ?side7 ?side8 A93.out).mono ?_); (case side1 => repeat (first | exact (Kd.R_reads' HO_216000.out).2.2 | (with_reducible refine Kd.C_alloc ?_ _) | (with_reducible refine Kd.C_drewN ?_ _) | (with_reducible refine Kd.C_drew ?_))); (case side2 => exact (Kd.R_reads' HO_216000.out).2.1); (case side3 => repeat (first | exact (Kd.R_reads' HO_216001.out).2.2 | (with_reducible refine Kd.C_alloc ?_ _) | (with_reducible refine Kd.C_drewN ?_ _) | (with_reducible refine Kd.C_drew ?_))); (case side4 => exact (Kd.R_reads' HO_216001.out).2.1); (case side5 => repeat (first | exact (Kd.R_reads' HO_198000.out).2.2 | (with_reducible refine Kd.C_alloc ?_ _) | (with_reducible refine Kd.C_drewN ?_ _) | (with_reducible refine Kd.C_drew ?_))); (case side6 => exact (Kd.R_reads' HO_198000.out).2.1); (case side7 => repeat (first | exact (Kd.R_reads' HO_198001.out).2.2 | (with_reducible refine Kd.C_alloc ?_ _) | (with_reducible refine Kd.C_drewN ?_ _) | (with_reducible refine Kd.C_drew ?_))); (case side8 => exact (Kd.R_reads' HO_198001.out).2.1); rintro e w102 ⟨rfl, hb⟩; have n0_ := k0 (Kd.R_below (kR HO_9.out) hb); have n1_ := k0 (Kd.R_below (kR HO_198000.out) hb); have n2_ := k0 (Kd.R_below (kR HO_198001.out) hb); have n3_ := k0 (Kd.R_below (kR HO_205000.out) hb); have n4_ := k0 (Kd.R_below (kR HO_205001.out) hb); have n5_ := k0 (Kd.R_below (kR HO_216000.out) hb); have n6_ := k0 (Kd.R_below (kR HO_216001.out) hb); have n7_ := k0 (Kd.R_below (kR HO219.out) hb); have n8_ := k0 (Kd.R_below (kR HO222.out) hb); have n9_ := k0 (Kd.R_below (kR HO226.out) hb); have n10_ := k0 (kb BK179.out hb); have n11_ := k0 (kb BK197.out hb); have n12_ := k0 (kb BK204.out hb); have n13_ := k0 (kb BK215.out hb); have n14_ := k0 (below_step (kW HB.out) hb); clear HO_9; clear HO_198000; clear HO_198001; clear HO_205000; clear HO_205001; clear HO_216000; clear HO_216001; clear HO219; clear HO222; clear HO226; clear BK179; clear BK197; clear BK204; clear BK215; clear HB; have HO_9 := n0_; have HO_198000 := n1_; have HO_198001 := n2_; have HO_205000 := n3_; have HO_205001 := n4_; have HO_216000 := n5_; have HO_216001 := n6_; have HO219 := n7_; have HO222 := n8_; have HO226 := n9_; have BK179 := n10_; have BK197 := n11_; have BK204 := n12_; have BK215 := n13_; have HB := n14_; clear n0_ n1_ n2_ n3_ n4_ n5_ n6_ n7_ n8_ n9_ n10_ n11_ n12_ n13_ n14_; (try clear hb); (try clear hb2); (try clear hk); (try clear hi)))
           go_meet
           case rel => exact ⟨_, ((t214 != t196)), (by first | rfl | (simp; done) | (simp [*]; done)), H', ⟨by have := HJ15.out; first | omega | exact Nat.le_refl _⟩, ⟨by (with_reducible repeat (first | apply Kd.R_alloc | apply Kd.R_drewN | apply Kd.R_drew)); exact Kd.R_mono HO_198000.out (fun _ hk => ⟨hk.2.1, ⟨hk.2.2.1, ⟨hk.2.2.2.1, ⟨hk.2.2.2.2.1, hk.2.2.2.2.2.1⟩⟩⟩⟩)⟩, ⟨by (with_reducible repeat (first | apply Kd.R_alloc | apply Kd.R_drewN | apply Kd.R_drew)); exact Kd.R_mono HO_198001.out (fun _ hk => ⟨hk.2.1, ⟨hk.2.2.1, ⟨hk.2.2.2.1, ⟨hk.2.2.2.2.1, hk.2.2.2.2.2.1⟩⟩⟩⟩)⟩, ⟨by (with_reducible repeat (first | apply Kd.R_alloc | apply Kd.R_drewN | apply Kd.R_drew)); exact Kd.R_mono HO_205000.out (fun _ hk => ⟨hk.2.1, ⟨hk.2.2.1, ⟨hk.2.2.2.1, ⟨hk.2.2.2.2.1, hk.2.2.2.2.2.1⟩⟩⟩⟩)⟩, ⟨by (with_reducible repeat (first | apply Kd.R_alloc | apply Kd.R_drewN | apply Kd.R_drew)); exact Kd.R_mono HO_205001.out (fun _ hk => ⟨hk.2.1, ⟨hk.2.2.1, ⟨hk.2.2.2.1, ⟨hk.2.2.2.2.1, hk.2.2.2.2.2.1⟩⟩⟩⟩)⟩, ⟨by (with_reducible repeat (first | apply Kd.R_alloc | apply Kd.R_drewN | apply Kd.R_drew)); exact Kd.R_mono HO_216000.out (fun _ hk => ⟨hk.2.1, ⟨hk.2.2.1, ⟨hk.2.2.2.1, ⟨hk.2.2.2.2.1, hk.2.2.2.2.2.1⟩⟩⟩⟩)⟩, ⟨by (with_reducible repeat (first | apply Kd.R_alloc | apply Kd.R_drewN | apply Kd.R_drew)); exact Kd.R_mono HO_216001.out (fun _ hk => ⟨hk.2.1, ⟨hk.2.2.1, ⟨hk.2.2.2.1, ⟨hk.2.2.2.2.1, hk.2.2.2.2.2.1⟩⟩⟩⟩)⟩, ⟨by (with_reducible repeat (first | refine blk_drewN ?_ _ | refine blk_drew ?_ | refine blk_alloc ?_ _)); exact BK179.out⟩, ⟨by (with_reducible repeat (first | refine blk_drewN ?_ _ | refine blk_drew ?_ | refine blk_alloc ?_ _)); exact BK197.out⟩, ⟨by (with_reducible repeat (first | refine blk_drewN ?_ _ | refine blk_drew ?_ | refine blk_alloc ?_ _)); exact BK204.out⟩, ⟨by (with_reducible repeat (first | refine blk_drewN ?_ _ | refine blk_drew ?_ | refine blk_alloc ?_ _)); exact BK215.out⟩, ⟨by repeat (first | (with_reducible first | exact HB.out | apply below_alloc | apply pw_below_drewN | apply below_drew1 | refine below_set ?_ GE179.out | refine below_set ?_ GE197.out | refine below_set ?_ GE204.out | refine below_set ?_ GE215.out) | exact HB.out)⟩⟩
          ·replace c94 := Bool.eq_false_iff.mpr c94
           subst c94
           have H1 : (laws_FnExactDiskWrite.j1 kj15 l1 t196 true l0_0 l0_1 t190 t193 t208 t211) = some r := by rw [if_neg (show ¬ (false = true) by decide)] at H; exact H
           clear H
           have H := H1
           clear H1
           have H' := Aside0.mk H
           clear H
           have hnb103 := NB215_179.out
           have hnc103 := NB179_215.out
           have hnb104 := NB215_197.out
           have hnc104 := NB197_215.out
           have hnb105 := NB215_204.out
           have hnc105 := NB204_215.out
           have hcz106_0 : w91.cell? ⟨gb215, 0, none⟩ = some (.slice Ao45 t208.length co45) := (blk_cell BK215.out 0).trans rfl
           have hcz106_1 : w91.cell? ⟨gb215, 1, none⟩ = some (.slice Ao50 t211.length co50) := (blk_cell BK215.out 1).trans rfl
           have hfz106_0 := blk_frozen BK215.out 0
           have hfz106_1 := blk_frozen BK215.out 1
           have hnb107 := NB197_179.out
           have hnc107 := NB179_197.out
           have hnb108 := NB197_204.out
           have hnc108 := NB204_197.out
           have hcz109_0 : w91.cell? ⟨gb197, 0, none⟩ = some (.slice Ao28 t190.length co28) := (blk_cell BK197.out 0).trans rfl
           have hcz109_1 : w91.cell? ⟨gb197, 1, none⟩ = some (.slice Ao31 t193.length co31) := (blk_cell BK197.out 1).trans rfl
           have hfz109_0 := blk_frozen BK197.out 0
           have hfz109_1 := blk_frozen BK197.out 1
           go_wp2_with (first | (go_at_call 23; (with_reducible refine (laws_eqDisk.calls kj15 _ _ t208 _ _ t211 _ _ t190 _ _ t193 false _ ?side1 ?side2 ?side3 ?side4 ?side5 ?side6 ?side7 ?side8 A93.out).mono ?_); (case side1 => repeat (first | exact (Kd.R_reads' HO_216000.out).2.2 | (with_reducible refine Kd.C_alloc ?_ _) | (with_reducible refine Kd.C_drewN ?_ _) | (with_reducible refine Kd.C_drew ?_))); (case side2 => exact (Kd.R_reads' HO_216000.out).2.1); (case side3 => repeat (first | exact (Kd.R_reads' HO_216001.out).2.2 | (with_reducible refine Kd.C_alloc ?_ _) | (with_reducible refine Kd.C_drewN ?_ _) | (with_reducible refine Kd.C_drew ?_))); (case side4 => exact (Kd.R_reads' HO_216001.out).2.1); (case side5 => repeat (first | exact (Kd.R_reads' HO_198000.out).2.2 | (with_reducible refine Kd.C_alloc ?_ _) | (with_reducible refine Kd.C_drewN ?_ _) | (with_reducible refine Kd.C_drew ?_))); (case side6 => exact (Kd.R_reads' HO_198000.out).2.1); (case side7 => repeat (first | exact (Kd.R_reads' HO_198001.out).2.2 | (with_reducible refine Kd.C_alloc ?_ _) | (with_reducible refine Kd.C_drewN ?_ _) | (with_reducible refine Kd.C_drew ?_))); (case side8 => exact (Kd.R_reads' HO_198001.out).2.1); rintro e w110 ⟨rfl, hb⟩; have n0_ := k0 (Kd.R_below (kR HO_9.out) hb); have n1_ := k0 (Kd.R_below (kR HO_198000.out) hb); have n2_ := k0 (Kd.R_below (kR HO_198001.out) hb); have n3_ := k0 (Kd.R_below (kR HO_205000.out) hb); have n4_ := k0 (Kd.R_below (kR HO_205001.out) hb); have n5_ := k0 (Kd.R_below (kR HO_216000.out) hb); have n6_ := k0 (Kd.R_below (kR HO_216001.out) hb); have n7_ := k0 (Kd.R_below (kR HO219.out) hb); have n8_ := k0 (Kd.R_below (kR HO222.out) hb); have n9_ := k0 (Kd.R_below (kR HO226.out) hb); have n10_ := k0 (kb BK179.out hb); have n11_ := k0 (kb BK197.out hb); have n12_ := k0 (kb BK204.out hb); have n13_ := k0 (kb BK215.out hb); have n14_ := k0 (below_step (kW HB.out) hb); clear HO_9; clear HO_198000; clear HO_198001; clear HO_205000; clear HO_205001; clear HO_216000; clear HO_216001; clear HO219; clear HO222; clear HO226; clear BK179; clear BK197; clear BK204; clear BK215; clear HB; have HO_9 := n0_; have HO_198000 := n1_; have HO_198001 := n2_; have HO_205000 := n3_; have HO_205001 := n4_; have HO_216000 := n5_; have HO_216001 := n6_; have HO219 := n7_; have HO222 := n8_; have HO226 := n9_; have BK179 := n10_; have BK197 := n11_; have BK204 := n12_; have BK215 := n13_; have HB := n14_; clear n0_ n1_ n2_ n3_ n4_ n5_ n6_ n7_ n8_ n9_ n10_ n11_ n12_ n13_ n14_; (try clear hb); (try clear hb2); (try clear hk); (try clear hi)))
           go_meet
           case rel => exact ⟨_, (true), (by first | rfl | (simp; done) | (simp [*]; done)), H', ⟨by have := HJ15.out; first | omega | exact Nat.le_refl _⟩, ⟨by (with_reducible repeat (first | apply Kd.R_alloc | apply Kd.R_drewN | apply Kd.R_drew)); exact Kd.R_mono HO_198000.out (fun _ hk => ⟨hk.2.1, ⟨hk.2.2.1, ⟨hk.2.2.2.1, ⟨hk.2.2.2.2.1, hk.2.2.2.2.2.1⟩⟩⟩⟩)⟩, ⟨by (with_reducible repeat (first | apply Kd.R_alloc | apply Kd.R_drewN | apply Kd.R_drew)); exact Kd.R_mono HO_198001.out (fun _ hk => ⟨hk.2.1, ⟨hk.2.2.1, ⟨hk.2.2.2.1, ⟨hk.2.2.2.2.1, hk.2.2.2.2.2.1⟩⟩⟩⟩)⟩, ⟨by (with_reducible repeat (first | apply Kd.R_alloc | apply Kd.R_drewN | apply Kd.R_drew)); exact Kd.R_mono HO_205000.out (fun _ hk => ⟨hk.2.1, ⟨hk.2.2.1, ⟨hk.2.2.2.1, ⟨hk.2.2.2.2.1, hk.2.2.2.2.2.1⟩⟩⟩⟩)⟩, ⟨by (with_reducible repeat (first | apply Kd.R_alloc | apply Kd.R_drewN | apply Kd.R_drew)); exact Kd.R_mono HO_205001.out (fun _ hk => ⟨hk.2.1, ⟨hk.2.2.1, ⟨hk.2.2.2.1, ⟨hk.2.2.2.2.1, hk.2.2.2.2.2.1⟩⟩⟩⟩)⟩, ⟨by (with_reducible repeat (first | apply Kd.R_alloc | apply Kd.R_drewN | apply Kd.R_drew)); exact Kd.R_mono HO_216000.out (fun _ hk => ⟨hk.2.1, ⟨hk.2.2.1, ⟨hk.2.2.2.1, ⟨hk.2.2.2.2.1, hk.2.2.2.2.2.1⟩⟩⟩⟩)⟩, ⟨by (with_reducible repeat (first | apply Kd.R_alloc | apply Kd.R_drewN | apply Kd.R_drew)); exact Kd.R_mono HO_216001.out (fun _ hk => ⟨hk.2.1, ⟨hk.2.2.1, ⟨hk.2.2.2.1, ⟨hk.2.2.2.2.1, hk.2.2.2.2.2.1⟩⟩⟩⟩)⟩, ⟨by (with_reducible repeat (first | refine blk_drewN ?_ _ | refine blk_drew ?_ | refine blk_alloc ?_ _)); exact BK179.out⟩, ⟨by (with_reducible repeat (first | refine blk_drewN ?_ _ | refine blk_drew ?_ | refine blk_alloc ?_ _)); exact BK197.out⟩, ⟨by (with_reducible repeat (first | refine blk_drewN ?_ _ | refine blk_drew ?_ | refine blk_alloc ?_ _)); exact BK204.out⟩, ⟨by (with_reducible repeat (first | refine blk_drewN ?_ _ | refine blk_drew ?_ | refine blk_alloc ?_ _)); exact BK215.out⟩, ⟨by repeat (first | (with_reducible first | exact HB.out | apply below_alloc | apply pw_below_drewN | apply below_drew1 | refine below_set ?_ GE179.out | refine below_set ?_ GE197.out | refine below_set ?_ GE204.out | refine below_set ?_ GE215.out) | exact HB.out)⟩⟩
        case rest =>
         clear HC78
         try clear c1
         try clear c2
         try clear p2
         try clear c3
         try clear c3b0
         try clear c3b1
         try clear c4
         try clear c5
         try clear c6
         try clear c6b0
         try clear c7
         try clear c8
         try clear c9
         try clear c10
         try clear c11
         try clear c19
         try clear c21
         try clear c23
         try clear c27
         try clear c29
         try clear c35
         try clear c36
         try clear c37
         try clear c43
         try clear c44
         try clear c46
         try clear c47
         try clear c48
         try clear c52
         try clear c53
         try clear c54
         try clear c55
         try clear c57
         try clear c58
         try clear c61
         try clear c62
         try clear c63
         try clear c65
         try clear c66
         try clear c69
         try clear c72
         try clear c75
         try clear c86
         try clear c87
         try clear c88
         try clear c92
         try clear c92b0
         try clear c94
         try clear c95
         try clear c96
         try clear c97
         try clear c99
         try clear c100
         try clear c103
         try clear c104
         try clear c105
         try clear c107
         try clear c108
         try clear hcz101_0
         try clear hcz101_1
         try clear hcz106_0
         try clear hcz106_1
         try clear hcz109_0
         try clear hcz109_1
         try clear hcz18_0
         try clear hcz18_1
         try clear hcz20_0
         try clear hcz20_1
         try clear hcz30_0
         try clear hcz30_1
         try clear hcz32_0
         try clear hcz32_1
         try clear hcz38_0
         try clear hcz38_1
         try clear hcz41_0
         try clear hcz41_1
         try clear hcz49_0
         try clear hcz49_1
         try clear hcz56_0
         try clear hcz56_1
         try clear hcz59_0
         try clear hcz59_1
         try clear hcz64_0
         try clear hcz64_1
         try clear hcz67_0
         try clear hcz67_1
         try clear hcz89_0
         try clear hcz89_1
         try clear hcz8_0
         try clear hcz8_1
         try clear hcz98_0
         try clear hcz98_1
         try clear hfz101_0
         try clear hfz101_1
         try clear hfz106_0
         try clear hfz106_1
         try clear hfz109_0
         try clear hfz109_1
         try clear hfz18_0
         try clear hfz18_1
         try clear hfz20_0
         try clear hfz20_1
         try clear hfz30_0
         try clear hfz30_1
         try clear hfz32_0
         try clear hfz32_1
         try clear hfz38_0
         try clear hfz38_1
         try clear hfz41_0
         try clear hfz41_1
         try clear hfz49_0
         try clear hfz49_1
         try clear hfz56_0
         try clear hfz56_1
         try clear hfz59_0
         try clear hfz59_1
         try clear hfz64_0
         try clear hfz64_1
         try clear hfz67_0
         try clear hfz67_1
         try clear hfz89_0
         try clear hfz89_1
         try clear hfz8_0
         try clear hfz8_1
         try clear hfz98_0
         try clear hfz98_1
         try clear p2
         obtain ⟨kq, x80_77, rfl, HA, HJ77, HO_198000, HO_198001, HO_205000, HO_205001, HO_216000, HO_216001, BK179, BK197, BK204, BK215, HB⟩ := hcut
         have hl205000_77 := (Kd.R_reads' HO_205000.out).1
         rw [hl205000_77] at HO_205000
         (try simp only [hl205000_77])
         (try simp only [hl205000_77] at BK179)
         (try simp only [hl205000_77] at BK197)
         (try simp only [hl205000_77] at BK204)
         (try simp only [hl205000_77] at BK215)
         (try simp only [hl205000_77] at HO_198000)
         (try simp only [hl205000_77] at HO_198001)
         (try simp only [hl205000_77] at HO_205001)
         (try simp only [hl205000_77] at HO_216000)
         (try simp only [hl205000_77] at HO_216001)
         have hl205001_77 := (Kd.R_reads' HO_205001.out).1
         rw [hl205001_77] at HO_205001
         (try simp only [hl205001_77])
         (try simp only [hl205001_77] at BK179)
         (try simp only [hl205001_77] at BK197)
         (try simp only [hl205001_77] at BK204)
         (try simp only [hl205001_77] at BK215)
         (try simp only [hl205001_77] at HO_198000)
         (try simp only [hl205001_77] at HO_198001)
         (try simp only [hl205001_77] at HO_205000)
         (try simp only [hl205001_77] at HO_216000)
         (try simp only [hl205001_77] at HO_216001)
         cases kq with
         | zero => exact absurd HA.out (by simp [laws_FnExactDiskWrite.j1])
         | succ kj77 =>
          have H := HA.out
          clear HA
          simp only [laws_FnExactDiskWrite.j1] at H
          by_cases c111 : x80_77 = true
          ·subst c111
           have H1 : (some false) = some r := by rw [if_pos rfl] at H; exact H
           clear H
           have H := H1
           clear H1
           exact absurd ((Option.some.inj H).trans HR.out) (by decide)
          ·replace c111 := Bool.eq_false_iff.mpr c111
           subst c111
           have H1 : ((laws_markDisk.f kj77 t208 t211 1).bind fun bt234 => ((laws_heldDisk.f kj77 bt234.2.1 bt234.2.2 1).bind fun t237 => (if t237 < 0 then (some false) else (if t237 = bt234.1 then ((laws_toDisk.f kj77 l0_0 l0_1).bind fun bt238 => ((laws_toByteS.f kj77 l1).bind fun t244 => ((impl_DiskWrite.f bt238.1 bt238.2 t244).bind fun bt247 => ((laws_eqDisk.f kj77 bt247.1 bt247.2.1 t190 t193).bind fun t255 => (if t255 = true then (laws_FnExactDiskWrite.j2 kj77 bt234.1 (bt247.2.2 != t196) bt234.2.1 bt234.2.2) else (laws_FnExactDiskWrite.j2 kj77 bt234.1 true bt234.2.1 bt234.2.2)))))) else (some false))))) = some r := by rw [if_neg (show ¬ (false = true) by decide)] at H; exact H
           clear H
           have H := H1
           clear H1
           replace H := Option.bind_eq_some_iff.mp H
           obtain ⟨⟨t234, t235, t236⟩, A1120, H⟩ := H
           replace H : ((laws_heldDisk.f kj77 t235 t236 1).bind fun t237 => (if t237 < 0 then (some false) else (if t237 = t234 then ((laws_toDisk.f kj77 l0_0 l0_1).bind fun bt238 => ((laws_toByteS.f kj77 l1).bind fun t244 => ((impl_DiskWrite.f bt238.1 bt238.2 t244).bind fun bt247 => ((laws_eqDisk.f kj77 bt247.1 bt247.2.1 t190 t193).bind fun t255 => (if t255 = true then (laws_FnExactDiskWrite.j2 kj77 t234 (bt247.2.2 != t196) t235 t236) else (laws_FnExactDiskWrite.j2 kj77 t234 true t235 t236)))))) else (some false)))) = some r := H
           have A112 := Aside0.mk A1120
           clear A1120
           replace H := Option.bind_eq_some_iff.mp H
           obtain ⟨t237, A1130, H⟩ := H
           replace H : (if t237 < 0 then (some false) else (if t237 = t234 then ((laws_toDisk.f kj77 l0_0 l0_1).bind fun bt238 => ((laws_toByteS.f kj77 l1).bind fun t244 => ((impl_DiskWrite.f bt238.1 bt238.2 t244).bind fun bt247 => ((laws_eqDisk.f kj77 bt247.1 bt247.2.1 t190 t193).bind fun t255 => (if t255 = true then (laws_FnExactDiskWrite.j2 kj77 t234 (bt247.2.2 != t196) t235 t236) else (laws_FnExactDiskWrite.j2 kj77 t234 true t235 t236)))))) else (some false))) = some r := H
           have A113 := Aside0.mk A1130
           clear A1130
           by_cases c114 : t237 < 0
           ·rw [if_pos c114] at H
            have c114b0 : decide (t237 < 0) = true := decide_eq_true c114
            clear c114
            exact absurd ((Option.some.inj H).trans HR.out) (by decide)
           ·rw [if_neg c114] at H
            have c114b0 : decide (t237 < 0) = false := decide_eq_false c114
            clear c114
            by_cases c115 : t237 = t234
            ·rw [if_pos c115] at H
             have c115b0 : (t237 == t234) = true := beq_iff_eq.mpr c115
             have c115b1 : (t237 != t234) = false := bne_eq_false_iff_eq.mpr c115
             clear c115
             replace H := Option.bind_eq_some_iff.mp H
             obtain ⟨⟨t238, t241⟩, A1160, H⟩ := H
             replace H : ((laws_toByteS.f kj77 l1).bind fun t244 => ((impl_DiskWrite.f t238 t241 t244).bind fun bt247 => ((laws_eqDisk.f kj77 bt247.1 bt247.2.1 t190 t193).bind fun t255 => (if t255 = true then (laws_FnExactDiskWrite.j2 kj77 t234 (bt247.2.2 != t196) t235 t236) else (laws_FnExactDiskWrite.j2 kj77 t234 true t235 t236))))) = some r := H
             have A116 := Aside0.mk A1160
             clear A1160
             replace H := Option.bind_eq_some_iff.mp H
             obtain ⟨t244, A1170, H⟩ := H
             replace H : ((impl_DiskWrite.f t238 t241 t244).bind fun bt247 => ((laws_eqDisk.f kj77 bt247.1 bt247.2.1 t190 t193).bind fun t255 => (if t255 = true then (laws_FnExactDiskWrite.j2 kj77 t234 (bt247.2.2 != t196) t235 t236) else (laws_FnExactDiskWrite.j2 kj77 t234 true t235 t236)))) = some r := H
             have A117 := Aside0.mk A1170
             clear A1170
             replace H := Option.bind_eq_some_iff.mp H
             obtain ⟨⟨t247, t250, t253⟩, A1180, H⟩ := H
             replace H : ((laws_eqDisk.f kj77 t247 t250 t190 t193).bind fun t255 => (if t255 = true then (laws_FnExactDiskWrite.j2 kj77 t234 (t253 != t196) t235 t236) else (laws_FnExactDiskWrite.j2 kj77 t234 true t235 t236))) = some r := H
             have A118 := Aside0.mk A1180
             clear A1180
             have HC119 := Aside0.mk H
             clear H
             have hnb120 := NB215_179.out
             have hnc120 := NB179_215.out
             have hnb121 := NB215_197.out
             have hnc121 := NB197_215.out
             have hnb122 := NB215_204.out
             have hnc122 := NB204_215.out
             have hcz123_0 : wc.cell? ⟨gb215, 0, none⟩ = some (.slice Ao45 t208.length co45) := (blk_cell BK215.out 0).trans rfl
             have hcz123_1 : wc.cell? ⟨gb215, 1, none⟩ = some (.slice Ao50 t211.length co50) := (blk_cell BK215.out 1).trans rfl
             have hfz123_0 := blk_frozen BK215.out 0
             have hfz123_1 := blk_frozen BK215.out 1
             go_upto_region 31 with (first | ((with_reducible refine gate_callee (f := 36) rfl ?_); refine goesL_ (some 83) rfl rfl Try.func36 (by kernel_rfl) rfl #[.agg #[.slice Ao45 t208.length co45, .slice Ao50 t211.length co50], .int .i64 1] rfl (by (try simp only [List.map_toArray, List.map_cons, List.map_nil]); first | done | rfl | (simp only [List.length_drop, List.length_take]; rfl)) ?_; (with_reducible refine (laws_markDisk.calls kj77 (fun k_ => some k_ = (.slice Ao45 t208.length co45 : Value).ownBlock) (.slice Ao45 t208.length co45) t208 (fun k_ => some k_ = (.slice Ao50 t211.length co50 : Value).ownBlock) (.slice Ao50 t211.length co50) t211 1 t234 t235 t236 w _ ?side1 ?side2 ?side3 ?side4 ?side5 A112.out).mono ?_); (case side1 => repeat (first | (with_reducible first | exact HB.out | apply below_alloc | apply pw_below_drewN | apply below_drew1 | refine below_set ?_ GE179.out | refine below_set ?_ GE197.out | refine below_set ?_ GE204.out | refine below_set ?_ GE215.out) | exact HB.out)); (case side2 => exact Kd.R_tight rfl HO_216000.out); (case side3 => exact fun k_ e_ => (HO_216000.out.1 k_ e_.symm).2.2.2.2); (case side4 => exact Kd.R_tight rfl HO_216001.out); (case side5 => exact fun k_ e_ => (HO_216001.out.1 k_ e_.symm).2.2.2.2); rintro e w124 ⟨rfl, hy0, hy1, hb, hkp⟩; refine ⟨_, rfl, ?_⟩; have n0_ := k0 (Kd.R_mono (ok' := fun k_ => some k_ ≠ (.slice Ao31 t193.length co31 : Value).ownBlock ∧ some k_ ≠ (.slice Ao35 t229.length co35 : Value).ownBlock ∧ some k_ ≠ (.slice Ao39 t230.length co39 : Value).ownBlock ∧ some k_ ≠ (.slice Ao45 t208.length co45 : Value).ownBlock ∧ some k_ ≠ (.slice Ao50 t211.length co50 : Value).ownBlock) (Kd.R_keptB (HO_198000.out) hkp (fun k_ hk_ hs_ => Or.elim hs_ (fun e_ => (hk_.2.2.2.1) e_) (fun e_ => (hk_.2.2.2.2) e_))) (fun k_ hk_ => ⟨hk_.1.1, hk_.1.2.1, hk_.1.2.2.1, hk_.1.2.2.2.1, hk_.1.2.2.2.2⟩)); have n1_ := k0 (Kd.R_mono (ok' := fun k_ => some k_ ≠ (.slice Ao28 t190.length co28 : Value).ownBlock ∧ some k_ ≠ (.slice Ao35 t229.length co35 : Value).ownBlock ∧ some k_ ≠ (.slice Ao39 t230.length co39 : Value).ownBlock ∧ some k_ ≠ (.slice Ao45 t208.length co45 : Value).ownBlock ∧ some k_ ≠ (.slice Ao50 t211.length co50 : Value).ownBlock) (Kd.R_keptB (HO_198001.out) hkp (fun k_ hk_ hs_ => Or.elim hs_ (fun e_ => (hk_.2.2.2.1) e_) (fun e_ => (hk_.2.2.2.2) e_))) (fun k_ hk_ => ⟨hk_.1.1, hk_.1.2.1, hk_.1.2.2.1, hk_.1.2.2.2.1, hk_.1.2.2.2.2⟩)); have n2_ := k0 (Kd.R_mono (ok' := fun k_ => some k_ ≠ (.slice Ao28 t190.length co28 : Value).ownBlock ∧ some k_ ≠ (.slice Ao31 t193.length co31 : Value).ownBlock ∧ some k_ ≠ (.slice Ao39 t230.length co39 : Value).ownBlock ∧ some k_ ≠ (.slice Ao45 t208.length co45 : Value).ownBlock ∧ some k_ ≠ (.slice Ao50 t211.length co50 : Value).ownBlock) (Kd.R_keptB (HO_205000.out) hkp (fun k_ hk_ hs_ => Or.elim hs_ (fun e_ => (hk_.2.2.2.1) e_) (fun e_ => (hk_.2.2.2.2) e_))) (fun k_ hk_ => ⟨hk_.1.1, hk_.1.2.1, hk_.1.2.2.1, hk_.1.2.2.2.1, hk_.1.2.2.2.2⟩)); have n3_ := k0 (Kd.R_mono (ok' := fun k_ => some k_ ≠ (.slice Ao28 t190.length co28 : Value).ownBlock ∧ some k_ ≠ (.slice Ao31 t193.length co31 : Value).ownBlock ∧ some k_ ≠ (.slice Ao35 t229.length co35 : Value).ownBlock ∧ some k_ ≠ (.slice Ao45 t208.length co45 : Value).ownBlock ∧ some k_ ≠ (.slice Ao50 t211.length co50 : Value).ownBlock) (Kd.R_keptB (HO_205001.out) hkp (fun k_ hk_ hs_ => Or.elim hs_ (fun e_ => (hk_.2.2.2.1) e_) (fun e_ => (hk_.2.2.2.2) e_))) (fun k_ hk_ => ⟨hk_.1.1, hk_.1.2.1, hk_.1.2.2.1, hk_.1.2.2.2.1, hk_.1.2.2.2.2⟩)); have n4_ := k0 (Kd.R_reok rfl hy0 (fun k_ e_ => HO_216000.out.1 k_ e_)); have n5_ := k0 (Kd.R_reok rfl hy1 (fun k_ e_ => HO_216001.out.1 k_ e_)); have n6_ := k0 (kK BK179.out hkp (fun hs_ => Or.elim hs_ (fun e_ => (fun e_ => (Kd.R_ne HO_216000.out BK179.out (by decide)) e_) e_) (fun e_ => (fun e_ => (Kd.R_ne HO_216001.out BK179.out (by decide)) e_) e_))); have n7_ := k0 (kK BK197.out hkp (fun hs_ => Or.elim hs_ (fun e_ => (fun e_ => (Kd.R_ne HO_216000.out BK197.out (by decide)) e_) e_) (fun e_ => (fun e_ => (Kd.R_ne HO_216001.out BK197.out (by decide)) e_) e_))); have n8_ := k0 (kK BK204.out hkp (fun hs_ => Or.elim hs_ (fun e_ => (fun e_ => (Kd.R_ne HO_216000.out BK204.out (by decide)) e_) e_) (fun e_ => (fun e_ => (Kd.R_ne HO_216001.out BK204.out (by decide)) e_) e_))); have n9_ := k0 (kK BK215.out hkp (fun hs_ => Or.elim hs_ (fun e_ => (fun e_ => (Kd.R_ne HO_216000.out BK215.out (by decide)) e_) e_) (fun e_ => (fun e_ => (Kd.R_ne HO_216001.out BK215.out (by decide)) e_) e_))); have n10_ := k0 (hb); clear HO_198000; clear HO_198001; clear HO_205000; clear HO_205001; clear HO_216000; clear HO_216001; clear BK179; clear BK197; clear BK204; clear BK215; clear HB; have HO_198000 := n0_; have HO_198001 := n1_; have HO_205000 := n2_; have HO_205001 := n3_; have HO_216000 := n4_; have HO_216001 := n5_; have BK179 := n6_; have BK197 := n7_; have BK204 := n8_; have BK215 := n9_; have HB := n10_; clear n0_ n1_ n2_ n3_ n4_ n5_ n6_ n7_ n8_ n9_ n10_; (try clear hb); (try clear hkp); (try clear hy0); (try clear hy1); have hcz125_0 : w124.cell? ⟨gb215, 0, none⟩ = some (.slice Ao45 t208.length co45) := (blk_cell BK215.out 0).trans rfl; have hcz125_1 : w124.cell? ⟨gb215, 1, none⟩ = some (.slice Ao50 t211.length co50) := (blk_cell BK215.out 1).trans rfl; have hfz125_0 := blk_frozen BK215.out 0; have hfz125_1 := blk_frozen BK215.out 1) | ((with_reducible refine gate_callee (f := 40) rfl ?_); refine goesL_ (some 86) rfl rfl Try.func40 (by kernel_rfl) rfl #[.agg #[.slice Ao45 t235.length co45, .slice Ao50 t236.length co50], .int .i64 1] rfl (by (try simp only [List.map_toArray, List.map_cons, List.map_nil]); first | done | (rw [show t235.length = t208.length from (Kd.R_reads' HO_216000.out).1.symm, show t236.length = t211.length from (Kd.R_reads' HO_216001.out).1.symm] <;> rfl) | rfl | (simp only [List.length_drop, List.length_take]; rfl)) ?_; (with_reducible refine (laws_heldDisk.calls kj77 _ _ t235 _ _ t236 1 t237 _ ?side1 ?side2 ?side3 ?side4 A113.out).mono ?_); (case side1 => repeat (first | exact (Kd.R_reads' HO_216000.out).2.2 | (with_reducible refine Kd.C_alloc ?_ _) | (with_reducible refine Kd.C_drewN ?_ _) | (with_reducible refine Kd.C_drew ?_))); (case side2 => rw [show t235.length = t208.length from (Kd.R_reads' HO_216000.out).1.symm]; exact (Kd.R_reads' HO_216000.out).2.1); (case side3 => repeat (first | exact (Kd.R_reads' HO_216001.out).2.2 | (with_reducible refine Kd.C_alloc ?_ _) | (with_reducible refine Kd.C_drewN ?_ _) | (with_reducible refine Kd.C_drew ?_))); (case side4 => rw [show t236.length = t211.length from (Kd.R_reads' HO_216001.out).1.symm]; exact (Kd.R_reads' HO_216001.out).2.1); rintro e w126 ⟨rfl, hb⟩; refine ⟨_, rfl, ?_⟩; have n0_ := k0 (Kd.R_below (kR HO_198000.out) hb); have n1_ := k0 (Kd.R_below (kR HO_198001.out) hb); have n2_ := k0 (Kd.R_below (kR HO_205000.out) hb); have n3_ := k0 (Kd.R_below (kR HO_205001.out) hb); have n4_ := k0 (Kd.R_below (kR HO_216000.out) hb); have n5_ := k0 (Kd.R_below (kR HO_216001.out) hb); have n6_ := k0 (kb BK179.out hb); have n7_ := k0 (kb BK197.out hb); have n8_ := k0 (kb BK204.out hb); have n9_ := k0 (kb BK215.out hb); have n10_ := k0 (below_step (kW HB.out) hb); clear HO_198000; clear HO_198001; clear HO_205000; clear HO_205001; clear HO_216000; clear HO_216001; clear BK179; clear BK197; clear BK204; clear BK215; clear HB; have HO_198000 := n0_; have HO_198001 := n1_; have HO_205000 := n2_; have HO_205001 := n3_; have HO_216000 := n4_; have HO_216001 := n5_; have BK179 := n6_; have BK197 := n7_; have BK204 := n8_; have BK215 := n9_; have HB := n10_; clear n0_ n1_ n2_ n3_ n4_ n5_ n6_ n7_ n8_ n9_ n10_; (try clear hb); (try clear hb2); (try clear hk); (try clear hi); have hnb127 := NB179_197.out; have hnc127 := NB197_179.out; have hnb128 := NB179_204.out; have hnc128 := NB204_179.out; have hcz129_0 : w126.cell? ⟨gb179, 0, none⟩ = some (.slice A0_0 l0_0.length c0_0) := (blk_cell BK179.out 0).trans rfl; have hcz129_1 : w126.cell? ⟨gb179, 1, none⟩ = some (.slice A0_1 l0_1.length c0_1) := (blk_cell BK179.out 1).trans rfl; have hfz129_0 := blk_frozen BK179.out 0; have hfz129_1 := blk_frozen BK179.out 1) | ((with_reducible refine gate_callee (f := 21) rfl ?_); refine goesL_ (some 94) rfl rfl Try.func21 (by kernel_rfl) rfl #[.agg #[.slice A0_0 l0_0.length c0_0, .slice A0_1 l0_1.length c0_1]] rfl (by (try simp only [List.map_toArray, List.map_cons, List.map_nil]); first | done | rfl | (simp only [List.length_drop, List.length_take]; rfl)) ?_; (with_reducible refine (laws_toDisk.calls kj77 _ _ l0_0 _ _ l0_1 t238 t241 _ ?side1 ?side2 ?side3 ?side4 A116.out).mono ?_); (case side1 => repeat (first | exact (Kd.C_below HR0_0.out HB.out) | (with_reducible refine Kd.C_alloc ?_ _) | (with_reducible refine Kd.C_drewN ?_ _) | (with_reducible refine Kd.C_drew ?_))); (case side2 => exact HC0_0.out); (case side3 => repeat (first | exact (Kd.C_below HR0_1.out HB.out) | (with_reducible refine Kd.C_alloc ?_ _) | (with_reducible refine Kd.C_drewN ?_ _) | (with_reducible refine Kd.C_drew ?_))); (case side4 => exact HC0_1.out); rintro e w130 ⟨v239, v242, rfl, ho0, ho1, hb⟩; refine ⟨_, rfl, ?_⟩; have n0_ := k0 (Kd.R_mono (Kd.R_told (Kd.R_told (Kd.R_old (kR HO_198000.out) hb) (Kd.R_base ho0)) (Kd.R_base ho1)) (fun _ h_ => h_.1)); have n1_ := k0 (Kd.R_mono (Kd.R_told (Kd.R_told (Kd.R_old (kR HO_198001.out) hb) (Kd.R_base ho0)) (Kd.R_base ho1)) (fun _ h_ => h_.1)); have n2_ := k0 (Kd.R_mono (Kd.R_told (Kd.R_told (Kd.R_old (kR HO_205000.out) hb) (Kd.R_base ho0)) (Kd.R_base ho1)) (fun _ h_ => h_.1)); have n3_ := k0 (Kd.R_mono (Kd.R_told (Kd.R_told (Kd.R_old (kR HO_205001.out) hb) (Kd.R_base ho0)) (Kd.R_base ho1)) (fun _ h_ => h_.1)); have n4_ := k0 (Kd.R_mono (Kd.R_told (Kd.R_told (Kd.R_old (kR HO_216000.out) hb) (Kd.R_base ho0)) (Kd.R_base ho1)) (fun _ h_ => h_.1)); have n5_ := k0 (Kd.R_mono (Kd.R_told (Kd.R_told (Kd.R_old (kR HO_216001.out) hb) (Kd.R_base ho0)) (Kd.R_base ho1)) (fun _ h_ => h_.1)); have n6_ := k0 (Kd.R_lower (Kd.R_new' (Kd.R_new' (Kd.R_new' (Kd.R_new' (Kd.R_new' (Kd.R_new' ho0 (Kd.R_lt (kR HO_198000.out))) (Kd.R_lt (kR HO_198001.out))) (Kd.R_lt (kR HO_205000.out))) (Kd.R_lt (kR HO_205001.out))) (Kd.R_lt (kR HO_216000.out))) (Kd.R_lt (kR HO_216001.out))) (below_size (kW HB.out))); have n7_ := k0 (Kd.R_lower (Kd.R_new' (Kd.R_new' (Kd.R_new' (Kd.R_new' (Kd.R_new' (Kd.R_new' ho1 (Kd.R_lt (kR HO_198000.out))) (Kd.R_lt (kR HO_198001.out))) (Kd.R_lt (kR HO_205000.out))) (Kd.R_lt (kR HO_205001.out))) (Kd.R_lt (kR HO_216000.out))) (Kd.R_lt (kR HO_216001.out))) (below_size (kW HB.out))); have n8_ := k0 (kb BK179.out hb); have n9_ := k0 (kb BK197.out hb); have n10_ := k0 (kb BK204.out hb); have n11_ := k0 (kb BK215.out hb); have n12_ := k0 (below_step (kW HB.out) hb); clear HO_198000; clear HO_198001; clear HO_205000; clear HO_205001; clear HO_216000; clear HO_216001; clear BK179; clear BK197; clear BK204; clear BK215; clear HB; have HO_198000 := n0_; have HO_198001 := n1_; have HO_205000 := n2_; have HO_205001 := n3_; have HO_216000 := n4_; have HO_216001 := n5_; have HO240 := n6_; have HO243 := n7_; have BK179 := n8_; have BK197 := n9_; have BK204 := n10_; have BK215 := n11_; have HB := n12_; clear n0_ n1_ n2_ n3_ n4_ n5_ n6_ n7_ n8_ n9_ n10_ n11_ n12_; (try clear hb); (try clear hb2); (try clear hk); (try clear hi); (try clear ho0); (try clear ho1)) | ((with_reducible refine gate_callee (f := 43) rfl ?_); refine goesL_ (some 96) rfl rfl Try.func43 (by kernel_rfl) rfl #[.slice A1 l1.length c1] rfl (by (try simp only [List.map_toArray, List.map_cons, List.map_nil]); first | done | rfl | (simp only [List.length_drop, List.length_take]; rfl)) ?_; (with_reducible refine (laws_toByteS.calls kj77 _ _ l1 t244 _ ?side1 ?side2 A117.out).mono ?_); (case side1 => repeat (first | exact (Kd.C_below HR1.out HB.out) | (with_reducible refine Kd.C_alloc ?_ _) | (with_reducible refine Kd.C_drewN ?_ _) | (with_reducible refine Kd.C_drew ?_))); (case side2 => exact HC1.out); rintro e w131 ⟨v245, rfl, ho0, hb⟩; refine ⟨_, rfl, ?_⟩; have n0_ := k0 (Kd.R_elder' (kR HO_198000.out) (Kd.R_base ho0) hb); have n1_ := k0 (Kd.R_elder' (kR HO_198001.out) (Kd.R_base ho0) hb); have n2_ := k0 (Kd.R_elder' (kR HO_205000.out) (Kd.R_base ho0) hb); have n3_ := k0 (Kd.R_elder' (kR HO_205001.out) (Kd.R_base ho0) hb); have n4_ := k0 (Kd.R_elder' (kR HO_216000.out) (Kd.R_base ho0) hb); have n5_ := k0 (Kd.R_elder' (kR HO_216001.out) (Kd.R_base ho0) hb); have n6_ := k0 (Kd.R_elder' (kR HO240.out) (Kd.R_base ho0) hb); have n7_ := k0 (Kd.R_elder' (kR HO243.out) (Kd.R_base ho0) hb); have n8_ := k0 (Kd.R_lower (Kd.R_new' (Kd.R_new' (Kd.R_new' (Kd.R_new' (Kd.R_new' (Kd.R_new' (Kd.R_new' (Kd.R_new' ho0 (Kd.R_lt (kR HO_198000.out))) (Kd.R_lt (kR HO_198001.out))) (Kd.R_lt (kR HO_205000.out))) (Kd.R_lt (kR HO_205001.out))) (Kd.R_lt (kR HO_216000.out))) (Kd.R_lt (kR HO_216001.out))) (Kd.R_lt (kR HO240.out))) (Kd.R_lt (kR HO243.out))) (below_size (kW HB.out))); have n9_ := k0 (kb BK179.out hb); have n10_ := k0 (kb BK197.out hb); have n11_ := k0 (kb BK204.out hb); have n12_ := k0 (kb BK215.out hb); have n13_ := k0 (below_step (kW HB.out) hb); clear HO_198000; clear HO_198001; clear HO_205000; clear HO_205001; clear HO_216000; clear HO_216001; clear HO240; clear HO243; clear BK179; clear BK197; clear BK204; clear BK215; clear HB; have HO_198000 := n0_; have HO_198001 := n1_; have HO_205000 := n2_; have HO_205001 := n3_; have HO_216000 := n4_; have HO_216001 := n5_; have HO240 := n6_; have HO243 := n7_; have HO246 := n8_; have BK179 := n9_; have BK197 := n10_; have BK204 := n11_; have BK215 := n12_; have HB := n13_; clear n0_ n1_ n2_ n3_ n4_ n5_ n6_ n7_ n8_ n9_ n10_ n11_ n12_ n13_; (try clear hb); (try clear hb2); (try clear hk); (try clear hi); (try clear ho0); obtain ⟨Ao132, co132, eo132⟩ := Kd.R_slice HO240.out; subst eo132; obtain ⟨Ao133, co133, eo133⟩ := Kd.R_slice HO243.out; subst eo133; obtain ⟨Ao134, co134, eo134⟩ := Kd.R_slice HO246.out; subst eo134) | ((with_reducible refine gate_callee (f := 27) rfl ?_); refine goesL_ (some 97) rfl rfl Try.func27 (by kernel_rfl) rfl #[.agg #[.slice Ao132 t238.length co132, .slice Ao133 t241.length co133], .slice Ao134 t244.length co134] rfl (by (try simp only [List.map_toArray, List.map_cons, List.map_nil]); first | done | rfl | (simp only [List.length_drop, List.length_take]; rfl)) ?_; (with_reducible refine (impl_DiskWrite.calls _ _ t238 _ _ t241 _ _ t244 t247 t250 t253 _ ?side1 ?side2 ?side3 ?side4 ?side5 ?side6 A118.out).mono ?_); (case side1 => repeat (first | exact (Kd.R_reads' HO240.out).2.2 | (with_reducible refine Kd.C_alloc ?_ _) | (with_reducible refine Kd.C_drewN ?_ _) | (with_reducible refine Kd.C_drew ?_))); (case side2 => exact (Kd.R_reads' HO240.out).2.1); (case side3 => repeat (first | exact (Kd.R_reads' HO243.out).2.2 | (with_reducible refine Kd.C_alloc ?_ _) | (with_reducible refine Kd.C_drewN ?_ _) | (with_reducible refine Kd.C_drew ?_))); (case side4 => exact (Kd.R_reads' HO243.out).2.1); (case side5 => repeat (first | exact (Kd.R_reads' HO246.out).2.2 | (with_reducible refine Kd.C_alloc ?_ _) | (with_reducible refine Kd.C_drewN ?_ _) | (with_reducible refine Kd.C_drew ?_))); (case side6 => exact (Kd.R_reads' HO246.out).2.1); rintro e w135 ⟨v248, v251, rfl, ho0, ho1, hb⟩; refine ⟨_, rfl, ?_⟩; have n0_ := k0 (Kd.R_mono (Kd.R_told (Kd.R_told (Kd.R_old (kR HO_198000.out) hb) (Kd.R_base ho0)) (Kd.R_base ho1)) (fun _ h_ => h_.1)); have n1_ := k0 (Kd.R_mono (Kd.R_told (Kd.R_told (Kd.R_old (kR HO_198001.out) hb) (Kd.R_base ho0)) (Kd.R_base ho1)) (fun _ h_ => h_.1)); have n2_ := k0 (Kd.R_mono (Kd.R_told (Kd.R_told (Kd.R_old (kR HO_205000.out) hb) (Kd.R_base ho0)) (Kd.R_base ho1)) (fun _ h_ => h_.1)); have n3_ := k0 (Kd.R_mono (Kd.R_told (Kd.R_told (Kd.R_old (kR HO_205001.out) hb) (Kd.R_base ho0)) (Kd.R_base ho1)) (fun _ h_ => h_.1)); have n4_ := k0 (Kd.R_mono (Kd.R_told (Kd.R_told (Kd.R_old (kR HO_216000.out) hb) (Kd.R_base ho0)) (Kd.R_base ho1)) (fun _ h_ => h_.1)); have n5_ := k0 (Kd.R_mono (Kd.R_told (Kd.R_told (Kd.R_old (kR HO_216001.out) hb) (Kd.R_base ho0)) (Kd.R_base ho1)) (fun _ h_ => h_.1)); have n6_ := k0 (Kd.R_mono (Kd.R_told (Kd.R_told (Kd.R_old (kR HO240.out) hb) (Kd.R_base ho0)) (Kd.R_base ho1)) (fun _ h_ => h_.1)); have n7_ := k0 (Kd.R_mono (Kd.R_told (Kd.R_told (Kd.R_old (kR HO243.out) hb) (Kd.R_base ho0)) (Kd.R_base ho1)) (fun _ h_ => h_.1)); have n8_ := k0 (Kd.R_mono (Kd.R_told (Kd.R_told (Kd.R_old (kR HO246.out) hb) (Kd.R_base ho0)) (Kd.R_base ho1)) (fun _ h_ => h_.1)); have n9_ := k0 (Kd.R_lower (Kd.R_new' (Kd.R_new' (Kd.R_new' (Kd.R_new' (Kd.R_new' (Kd.R_new' (Kd.R_new' (Kd.R_new' (Kd.R_new' ho0 (Kd.R_lt (kR HO_198000.out))) (Kd.R_lt (kR HO_198001.out))) (Kd.R_lt (kR HO_205000.out))) (Kd.R_lt (kR HO_205001.out))) (Kd.R_lt (kR HO_216000.out))) (Kd.R_lt (kR HO_216001.out))) (Kd.R_lt (kR HO240.out))) (Kd.R_lt (kR HO243.out))) (Kd.R_lt (kR HO246.out))) (below_size (kW HB.out))); have n10_ := k0 (Kd.R_lower (Kd.R_new' (Kd.R_new' (Kd.R_new' (Kd.R_new' (Kd.R_new' (Kd.R_new' (Kd.R_new' (Kd.R_new' (Kd.R_new' ho1 (Kd.R_lt (kR HO_198000.out))) (Kd.R_lt (kR HO_198001.out))) (Kd.R_lt (kR HO_205000.out))) (Kd.R_lt (kR HO_205001.out))) (Kd.R_lt (kR HO_216000.out))) (Kd.R_lt (kR HO_216001.out))) (Kd.R_lt (kR HO240.out))) (Kd.R_lt (kR HO243.out))) (Kd.R_lt (kR HO246.out))) (below_size (kW HB.out))); have n11_ := k0 (kb BK179.out hb); have n12_ := k0 (kb BK197.out hb); have n13_ := k0 (kb BK204.out hb); have n14_ := k0 (kb BK215.out hb); have n15_ := k0 (below_step (kW HB.out) hb); clear HO_198000; clear HO_198001; clear HO_205000; clear HO_205001; clear HO_216000; clear HO_216001; clear HO240; clear HO243; clear HO246; clear BK179; clear BK197; clear BK204; clear BK215; clear HB; have HO_198000 := n0_; have HO_198001 := n1_; have HO_205000 := n2_; have HO_205001 := n3_; have HO_216000 := n4_; have HO_216001 := n5_; have HO240 := n6_; have HO243 := n7_; have HO246 := n8_; have HO249 := n9_; have HO252 := n10_; have BK179 := n11_; have BK197 := n12_; have BK204 := n13_; have BK215 := n14_; have HB := n15_; clear n0_ n1_ n2_ n3_ n4_ n5_ n6_ n7_ n8_ n9_ n10_ n11_ n12_ n13_ n14_ n15_; (try clear hb); (try clear hb2); (try clear hk); (try clear hi); (try clear ho0); (try clear ho1)) | ((with_reducible refine gate_dst (N := 15) rfl ?_); refine box_event ?hg (N := 15) ?hd (cs := #[.slice none 0 0, .slice none 0 0]) (t := 35) ?hr ?_; (case hd => rfl); (case hg => rfl); (case hr => first | (go_simp; done) | (go_simp; rfl)); intro gb254 hg w136 hbox hb; have n0_ := k0 (Kd.R_below (kR HO_198000.out) hb); have n1_ := k0 (Kd.R_below (kR HO_198001.out) hb); have n2_ := k0 (Kd.R_below (kR HO_205000.out) hb); have n3_ := k0 (Kd.R_below (kR HO_205001.out) hb); have n4_ := k0 (Kd.R_below (kR HO_216000.out) hb); have n5_ := k0 (Kd.R_below (kR HO_216001.out) hb); have n6_ := k0 (Kd.R_below (kR HO240.out) hb); have n7_ := k0 (Kd.R_below (kR HO243.out) hb); have n8_ := k0 (Kd.R_below (kR HO246.out) hb); have n9_ := k0 (Kd.R_below (kR HO249.out) hb); have n10_ := k0 (Kd.R_below (kR HO252.out) hb); have n11_ := k0 (kb BK179.out hb); have n12_ := k0 (kb BK197.out hb); have n13_ := k0 (kb BK204.out hb); have n14_ := k0 (kb BK215.out hb); have n15_ := k0 (below_step (kW HB.out) hb); have n16_ := k0 (hbox); have n17_ := k0 ((by rw [hg]; exact (below_size (kW HB.out)) : w.heap.size ≤ gb254)); have n18_ := k0 ((by rw [hg]; exact (below_size (kW HB.out)) : w.heap.size ≤ gb254)); have n19_ := k0 ((by rw [hg]; exact Nat.ne_of_lt (blk_lt (g := gb179) (o := .cells #[.slice A0_0 l0_0.length c0_0, .slice A0_1 l0_1.length c0_1] 32 (0, 0)) (kB BK179.out)) : gb179 ≠ gb254)); have n20_ := k0 ((by rw [hg]; exact Nat.ne_of_gt (blk_lt (g := gb179) (o := .cells #[.slice A0_0 l0_0.length c0_0, .slice A0_1 l0_1.length c0_1] 32 (0, 0)) (kB BK179.out)) : gb254 ≠ gb179)); have n21_ := k0 ((by rw [hg]; exact Nat.ne_of_lt (blk_lt (g := gb197) (o := .cells #[.slice Ao28 t190.length co28, .slice Ao31 t193.length co31] 35 (0, 0)) (kB BK197.out)) : gb197 ≠ gb254)); have n22_ := k0 ((by rw [hg]; exact Nat.ne_of_gt (blk_lt (g := gb197) (o := .cells #[.slice Ao28 t190.length co28, .slice Ao31 t193.length co31] 35 (0, 0)) (kB BK197.out)) : gb254 ≠ gb197)); have n23_ := k0 ((by rw [hg]; exact Nat.ne_of_lt (blk_lt (g := gb204) (o := .cells #[.slice Ao35 t229.length co35, .slice Ao39 t230.length co39] 35 (0, 0)) (kB BK204.out)) : gb204 ≠ gb254)); have n24_ := k0 ((by rw [hg]; exact Nat.ne_of_gt (blk_lt (g := gb204) (o := .cells #[.slice Ao35 t229.length co35, .slice Ao39 t230.length co39] 35 (0, 0)) (kB BK204.out)) : gb254 ≠ gb204)); have n25_ := k0 ((by rw [hg]; exact Nat.ne_of_lt (blk_lt (g := gb215) (o := .cells #[.slice Ao45 t208.length co45, .slice Ao50 t211.length co50] 35 (0, 0)) (kB BK215.out)) : gb215 ≠ gb254)); have n26_ := k0 ((by rw [hg]; exact Nat.ne_of_gt (blk_lt (g := gb215) (o := .cells #[.slice Ao45 t208.length co45, .slice Ao50 t211.length co50] 35 (0, 0)) (kB BK215.out)) : gb254 ≠ gb215)); clear HO_198000; clear HO_198001; clear HO_205000; clear HO_205001; clear HO_216000; clear HO_216001; clear HO240; clear HO243; clear HO246; clear HO249; clear HO252; clear BK179; clear BK197; clear BK204; clear BK215; clear HB; have HO_198000 := n0_; have HO_198001 := n1_; have HO_205000 := n2_; have HO_205001 := n3_; have HO_216000 := n4_; have HO_216001 := n5_; have HO240 := n6_; have HO243 := n7_; have HO246 := n8_; have HO249 := n9_; have HO252 := n10_; have BK179 := n11_; have BK197 := n12_; have BK204 := n13_; have BK215 := n14_; have HB := n15_; have BK254 := n16_; have GW254 := n17_; have GE254 := n18_; have NB179_254 := n19_; have NB254_179 := n20_; have NB197_254 := n21_; have NB254_197 := n22_; have NB204_254 := n23_; have NB254_204 := n24_; have NB215_254 := n25_; have NB254_215 := n26_; clear n0_ n1_ n2_ n3_ n4_ n5_ n6_ n7_ n8_ n9_ n10_ n11_ n12_ n13_ n14_ n15_ n16_ n17_ n18_ n19_ n20_ n21_ n22_ n23_ n24_ n25_ n26_; clear hb hbox hg; obtain ⟨Ao137, co137, eo137⟩ := Kd.R_slice HO249.out; subst eo137; have hnb138 := NB254_179.out; have hnc138 := NB179_254.out; have hnb139 := NB254_197.out; have hnc139 := NB197_254.out; have hnb140 := NB254_204.out; have hnc140 := NB204_254.out; have hnb141 := NB254_215.out; have hnc141 := NB215_254.out; have hcz142_0 : w136.cell? ⟨gb254, 0, none⟩ = some (.slice none 0 0) := (blk_cell BK254.out 0).trans rfl; have hcz142_1 : w136.cell? ⟨gb254, 1, none⟩ = some (.slice none 0 0) := (blk_cell BK254.out 1).trans rfl; have hfz142_0 := blk_frozen BK254.out 0; have hfz142_1 := blk_frozen BK254.out 1; obtain ⟨Ao143, co143, eo143⟩ := Kd.R_slice HO252.out; subst eo143))
             (try simp only [Act.put, List.setIfInBounds_toArray, List.set_cons_zero, List.set_cons_succ])
             go_cut [108] (fun v108 wc => ∃ (kq : Nat) (x108_118 : Bool), v108 = .bool x108_118 ∧ Aside0 (laws_FnExactDiskWrite.j2 kq t234 x108_118 t235 t236 = some r) ∧ Aside0 (kq ≤ kj77) ∧ Aside0 (Kd.R (Kd.int .u8) 5 wc w.heap.size (fun k_ => some k_ ≠ ((.slice Ao31 t193.length co31) : Value).ownBlock ∧ some k_ ≠ ((.slice Ao35 t229.length co35) : Value).ownBlock ∧ some k_ ≠ ((.slice Ao39 t230.length co39) : Value).ownBlock ∧ some k_ ≠ ((.slice Ao45 t208.length co45) : Value).ownBlock ∧ some k_ ≠ ((.slice Ao50 t211.length co50) : Value).ownBlock ∧ some k_ ≠ ((.slice Ao137 t247.length co137) : Value).ownBlock ∧ some k_ ≠ ((.slice Ao143 t250.length co143) : Value).ownBlock) (.slice Ao28 t190.length co28) t190) ∧ Aside0 (Kd.R (Kd.int .u8) 5 wc w.heap.size (fun k_ => some k_ ≠ ((.slice Ao28 t190.length co28) : Value).ownBlock ∧ some k_ ≠ ((.slice Ao35 t229.length co35) : Value).ownBlock ∧ some k_ ≠ ((.slice Ao39 t230.length co39) : Value).ownBlock ∧ some k_ ≠ ((.slice Ao45 t208.length co45) : Value).ownBlock ∧ some k_ ≠ ((.slice Ao50 t211.length co50) : Value).ownBlock ∧ some k_ ≠ ((.slice Ao137 t247.length co137) : Value).ownBlock ∧ some k_ ≠ ((.slice Ao143 t250.length co143) : Value).ownBlock) (.slice Ao31 t193.length co31) t193) ∧ Aside0 (Kd.R (Kd.int .u8) 5 wc w.heap.size (fun k_ => some k_ ≠ ((.slice Ao28 t190.length co28) : Value).ownBlock ∧ some k_ ≠ ((.slice Ao31 t193.length co31) : Value).ownBlock ∧ some k_ ≠ ((.slice Ao39 t230.length co39) : Value).ownBlock ∧ some k_ ≠ ((.slice Ao45 t208.length co45) : Value).ownBlock ∧ some k_ ≠ ((.slice Ao50 t211.length co50) : Value).ownBlock ∧ some k_ ≠ ((.slice Ao137 t247.length co137) : Value).ownBlock ∧ some k_ ≠ ((.slice Ao143 t250.length co143) : Value).ownBlock) (.slice Ao35 t229.length co35) t229) ∧ Aside0 (Kd.R (Kd.int .u8) 5 wc w.heap.size (fun k_ => some k_ ≠ ((.slice Ao28 t190.length co28) : Value).ownBlock ∧ some k_ ≠ ((.slice Ao31 t193.length co31) : Value).ownBlock ∧ some k_ ≠ ((.slice Ao35 t229.length co35) : Value).ownBlock ∧ some k_ ≠ ((.slice Ao45 t208.length co45) : Value).ownBlock ∧ some k_ ≠ ((.slice Ao50 t211.length co50) : Value).ownBlock ∧ some k_ ≠ ((.slice Ao137 t247.length co137) : Value).ownBlock ∧ some k_ ≠ ((.slice Ao143 t250.length co143) : Value).ownBlock) (.slice Ao39 t230.length co39) t230) ∧ Aside0 (Kd.R (Kd.int .u8) 5 wc w.heap.size (fun k_ => some k_ ≠ ((.slice Ao28 t190.length co28) : Value).ownBlock ∧ some k_ ≠ ((.slice Ao31 t193.length co31) : Value).ownBlock ∧ some k_ ≠ ((.slice Ao35 t229.length co35) : Value).ownBlock ∧ some k_ ≠ ((.slice Ao39 t230.length co39) : Value).ownBlock ∧ some k_ ≠ ((.slice Ao50 t211.length co50) : Value).ownBlock ∧ some k_ ≠ ((.slice Ao137 t247.length co137) : Value).ownBlock ∧ some k_ ≠ ((.slice Ao143 t250.length co143) : Value).ownBlock) (.slice Ao45 t208.length co45) t235) ∧ Aside0 (Kd.R (Kd.int .u8) 5 wc w.heap.size (fun k_ => some k_ ≠ ((.slice Ao28 t190.length co28) : Value).ownBlock ∧ some k_ ≠ ((.slice Ao31 t193.length co31) : Value).ownBlock ∧ some k_ ≠ ((.slice Ao35 t229.length co35) : Value).ownBlock ∧ some k_ ≠ ((.slice Ao39 t230.length co39) : Value).ownBlock ∧ some k_ ≠ ((.slice Ao45 t208.length co45) : Value).ownBlock ∧ some k_ ≠ ((.slice Ao137 t247.length co137) : Value).ownBlock ∧ some k_ ≠ ((.slice Ao143 t250.length co143) : Value).ownBlock) (.slice Ao50 t211.length co50) t236) ∧ Aside0 (Kd.R (Kd.int .u8) 5 wc w.heap.size (fun k_ => some k_ ≠ ((.slice Ao28 t190.length co28) : Value).ownBlock ∧ some k_ ≠ ((.slice Ao31 t193.length co31) : Value).ownBlock ∧ some k_ ≠ ((.slice Ao35 t229.length co35) : Value).ownBlock ∧ some k_ ≠ ((.slice Ao39 t230.length co39) : Value).ownBlock ∧ some k_ ≠ ((.slice Ao45 t208.length co45) : Value).ownBlock ∧ some k_ ≠ ((.slice Ao50 t211.length co50) : Value).ownBlock ∧ some k_ ≠ ((.slice Ao143 t250.length co143) : Value).ownBlock) (.slice Ao137 t247.length co137) t247) ∧ Aside0 (Kd.R (Kd.int .u8) 5 wc w.heap.size (fun k_ => some k_ ≠ ((.slice Ao28 t190.length co28) : Value).ownBlock ∧ some k_ ≠ ((.slice Ao31 t193.length co31) : Value).ownBlock ∧ some k_ ≠ ((.slice Ao35 t229.length co35) : Value).ownBlock ∧ some k_ ≠ ((.slice Ao39 t230.length co39) : Value).ownBlock ∧ some k_ ≠ ((.slice Ao45 t208.length co45) : Value).ownBlock ∧ some k_ ≠ ((.slice Ao50 t211.length co50) : Value).ownBlock ∧ some k_ ≠ ((.slice Ao137 t247.length co137) : Value).ownBlock) (.slice Ao143 t250.length co143) t250) ∧ Aside0 (wc.heap[gb179]? = some (.cells #[(.slice A0_0 l0_0.length c0_0), (.slice A0_1 l0_1.length c0_1)] 32 (0, 0))) ∧ Aside0 (wc.heap[gb197]? = some (.cells #[(.slice Ao28 t190.length co28), (.slice Ao31 t193.length co31)] 35 (0, 0))) ∧ Aside0 (wc.heap[gb204]? = some (.cells #[(.slice Ao35 t229.length co35), (.slice Ao39 t230.length co39)] 35 (0, 0))) ∧ Aside0 (wc.heap[gb215]? = some (.cells #[(.slice Ao45 t208.length co45), (.slice Ao50 t211.length co50)] 35 (0, 0))) ∧ Aside0 (wc.heap[gb254]? = some (.cells #[(.slice Ao137 t247.length co137), (.slice Ao143 t250.length co143)] 35 (0, 0))) ∧ Aside0 (Below w.heap.size w wc))
             case first =>
              have H := HC119.out
              clear HC119
              replace H := Option.bind_eq_some_iff.mp H
              obtain ⟨t255, A1440, H⟩ := H
              replace H : (if t255 = true then (laws_FnExactDiskWrite.j2 kj77 t234 (t253 != t196) t235 t236) else (laws_FnExactDiskWrite.j2 kj77 t234 true t235 t236)) = some r := H
              have A144 := Aside0.mk A1440
              clear A1440
              by_cases c145 : t255 = true
              ·subst c145
               have H1 : (laws_FnExactDiskWrite.j2 kj77 t234 (t253 != t196) t235 t236) = some r := by rw [if_pos rfl] at H; exact H
               clear H
               have H := H1
               clear H1
               have H' := Aside0.mk H
               clear H
               have hnb146 := NB254_179.out
               have hnc146 := NB179_254.out
               have hnb147 := NB254_197.out
               have hnc147 := NB197_254.out
               have hnb148 := NB254_204.out
               have hnc148 := NB204_254.out
               have hnb149 := NB254_215.out
               have hnc149 := NB215_254.out
               have hcz150_0 : w136.cell? ⟨gb254, 0, none⟩ = some (.slice none 0 0) := (blk_cell BK254.out 0).trans rfl
               have hcz150_1 : w136.cell? ⟨gb254, 1, none⟩ = some (.slice none 0 0) := (blk_cell BK254.out 1).trans rfl
               have hfz150_0 := blk_frozen BK254.out 0
               have hfz150_1 := blk_frozen BK254.out 1
               have hnb151 := NB197_179.out
               have hnc151 := NB179_197.out
               have hnb152 := NB197_204.out
               have hnc152 := NB204_197.out
               have hnb153 := NB197_215.out
               have hnc153 := NB215_197.out
               have hcz154_0 : w136.cell? ⟨gb197, 0, none⟩ = some (.slice Ao28 t190.length co28) := (blk_cell BK197.out 0).trans rfl
               have hcz154_1 : w136.cell? ⟨gb197, 1, none⟩ = some (.slice Ao31 t193.length co31) := (blk_cell BK197.out 1).trans rfl
               have hfz154_0 := blk_frozen BK197.out 0
               have hfz154_1 := blk_frozen BK197.out 1
               go_wp2_with (first | ((with_reducible refine gate_callee (f := 23) rfl ?_); refine goesL_ (some 102) rfl rfl Try.func23 (by kernel_rfl) rfl #[.agg #[.slice Ao137 t247.length co137, .slice Ao143 t250.length co143], .agg #[.slice Ao28 t190.length co28, .slice Ao31 t193.length co31]] rfl (by (try simp only [List.map_toArray, List.map_cons, List.map_nil]); first | done | rfl | (simp only [List.length_drop, List.length_take]; rfl)) ?_; (with_reducible refine (laws_eqDisk.calls kj77 _ _ t247 _ _ t250 _ _ t190 _ _ t193 true _ ?side1 ?side2 ?side3 ?side4 ?side5 ?side6 ?side7 ?side8 A144.out).mono ?_); (case side1 => refine (Kd.R_reads' (e := 5) (base := w.heap.size) (ok := fun k_ => (((((((((some k_ ≠ (.slice Ao143 t250.length co143 : Value).ownBlock ∧ some k_ ≠ (.slice Ao28 t190.length co28 : Value).ownBlock) ∧ some k_ ≠ (.slice Ao31 t193.length co31 : Value).ownBlock) ∧ some k_ ≠ (.slice Ao35 t229.length co35 : Value).ownBlock) ∧ some k_ ≠ (.slice Ao39 t230.length co39 : Value).ownBlock) ∧ some k_ ≠ (.slice Ao45 t208.length co45 : Value).ownBlock) ∧ some k_ ≠ (.slice Ao50 t211.length co50 : Value).ownBlock) ∧ some k_ ≠ (.slice Ao132 t238.length co132 : Value).ownBlock) ∧ some k_ ≠ (.slice Ao133 t241.length co133 : Value).ownBlock) ∧ some k_ ≠ (.slice Ao134 t244.length co134 : Value).ownBlock)) (n := t247.length) (c := co137) ?_).2.2; exact (by (with_reducible repeat (first | apply Kd.R_alloc | apply Kd.R_drewN | apply Kd.R_drew)); exact (Kd.R_mono (Kd.R_far (p := ⟨gb254, 1, none⟩) (Kd.R_far (p := ⟨gb254, 0, none⟩) (Kd.R_types HO249.out BK254.out (by decide)) (fun _ hk => hk.2) (.slice Ao137 t247.length co137)) (fun _ hk => hk.2) (.slice Ao143 t250.length co143)) (fun _ h_ => h_.1)))); (case side2 => exact (Kd.R_reads' HO249.out).2.1); (case side3 => refine (Kd.R_reads' (e := 5) (base := w.heap.size) (ok := fun k_ => (((((((((some k_ ≠ (.slice Ao137 t247.length co137 : Value).ownBlock ∧ some k_ ≠ (.slice Ao28 t190.length co28 : Value).ownBlock) ∧ some k_ ≠ (.slice Ao31 t193.length co31 : Value).ownBlock) ∧ some k_ ≠ (.slice Ao35 t229.length co35 : Value).ownBlock) ∧ some k_ ≠ (.slice Ao39 t230.length co39 : Value).ownBlock) ∧ some k_ ≠ (.slice Ao45 t208.length co45 : Value).ownBlock) ∧ some k_ ≠ (.slice Ao50 t211.length co50 : Value).ownBlock) ∧ some k_ ≠ (.slice Ao132 t238.length co132 : Value).ownBlock) ∧ some k_ ≠ (.slice Ao133 t241.length co133 : Value).ownBlock) ∧ some k_ ≠ (.slice Ao134 t244.length co134 : Value).ownBlock)) (n := t250.length) (c := co143) ?_).2.2; exact (by (with_reducible repeat (first | apply Kd.R_alloc | apply Kd.R_drewN | apply Kd.R_drew)); exact (Kd.R_mono (Kd.R_far (p := ⟨gb254, 1, none⟩) (Kd.R_far (p := ⟨gb254, 0, none⟩) (Kd.R_types HO252.out BK254.out (by decide)) (fun _ hk => hk.2) (.slice Ao137 t247.length co137)) (fun _ hk => hk.2) (.slice Ao143 t250.length co143)) (fun _ h_ => h_.1)))); (case side4 => exact (Kd.R_reads' HO252.out).2.1); (case side5 => refine (Kd.R_reads' (e := 5) (base := w.heap.size) (ok := fun k_ => ((((((some k_ ≠ (.slice Ao31 t193.length co31 : Value).ownBlock ∧ (some k_ ≠ (.slice Ao35 t229.length co35 : Value).ownBlock ∧ (some k_ ≠ (.slice Ao39 t230.length co39 : Value).ownBlock ∧ (some k_ ≠ (.slice Ao45 t208.length co45 : Value).ownBlock ∧ some k_ ≠ (.slice Ao50 t211.length co50 : Value).ownBlock)))) ∧ some k_ ≠ (.slice Ao132 t238.length co132 : Value).ownBlock) ∧ some k_ ≠ (.slice Ao133 t241.length co133 : Value).ownBlock) ∧ some k_ ≠ (.slice Ao134 t244.length co134 : Value).ownBlock) ∧ some k_ ≠ (.slice Ao137 t247.length co137 : Value).ownBlock) ∧ some k_ ≠ (.slice Ao143 t250.length co143 : Value).ownBlock)) (n := t190.length) (c := co28) ?_).2.2; exact (by (with_reducible repeat (first | apply Kd.R_alloc | apply Kd.R_drewN | apply Kd.R_drew)); exact (Kd.R_mono (Kd.R_far (p := ⟨gb254, 1, none⟩) (Kd.R_far (p := ⟨gb254, 0, none⟩) (Kd.R_types HO_198000.out BK254.out (by decide)) (fun _ hk => hk.2) (.slice Ao137 t247.length co137)) (fun _ hk => hk.2) (.slice Ao143 t250.length co143)) (fun _ h_ => h_.1)))); (case side6 => exact (Kd.R_reads' HO_198000.out).2.1); (case side7 => refine (Kd.R_reads' (e := 5) (base := w.heap.size) (ok := fun k_ => ((((((some k_ ≠ (.slice Ao28 t190.length co28 : Value).ownBlock ∧ (some k_ ≠ (.slice Ao35 t229.length co35 : Value).ownBlock ∧ (some k_ ≠ (.slice Ao39 t230.length co39 : Value).ownBlock ∧ (some k_ ≠ (.slice Ao45 t208.length co45 : Value).ownBlock ∧ some k_ ≠ (.slice Ao50 t211.length co50 : Value).ownBlock)))) ∧ some k_ ≠ (.slice Ao132 t238.length co132 : Value).ownBlock) ∧ some k_ ≠ (.slice Ao133 t241.length co133 : Value).ownBlock) ∧ some k_ ≠ (.slice Ao134 t244.length co134 : Value).ownBlock) ∧ some k_ ≠ (.slice Ao137 t247.length co137 : Value).ownBlock) ∧ some k_ ≠ (.slice Ao143 t250.length co143 : Value).ownBlock)) (n := t193.length) (c := co31) ?_).2.2; exact (by (with_reducible repeat (first | apply Kd.R_alloc | apply Kd.R_drewN | apply Kd.R_drew)); exact (Kd.R_mono (Kd.R_far (p := ⟨gb254, 1, none⟩) (Kd.R_far (p := ⟨gb254, 0, none⟩) (Kd.R_types HO_198001.out BK254.out (by decide)) (fun _ hk => hk.2) (.slice Ao137 t247.length co137)) (fun _ hk => hk.2) (.slice Ao143 t250.length co143)) (fun _ h_ => h_.1)))); (case side8 => exact (Kd.R_reads' HO_198001.out).2.1); rintro e w155 ⟨rfl, hb⟩; refine ⟨_, rfl, ?_⟩; have n0_ := k0 (Kd.R_below (by (with_reducible repeat (first | apply Kd.R_alloc | apply Kd.R_drewN | apply Kd.R_drew)); exact (Kd.R_mono (Kd.R_far (p := ⟨gb254, 1, none⟩) (Kd.R_far (p := ⟨gb254, 0, none⟩) (Kd.R_types HO_198000.out BK254.out (by decide)) (fun _ hk => hk.2) (.slice Ao137 t247.length co137)) (fun _ hk => hk.2) (.slice Ao143 t250.length co143)) (fun _ h_ => h_.1))) hb); have n1_ := k0 (Kd.R_below (by (with_reducible repeat (first | apply Kd.R_alloc | apply Kd.R_drewN | apply Kd.R_drew)); exact (Kd.R_mono (Kd.R_far (p := ⟨gb254, 1, none⟩) (Kd.R_far (p := ⟨gb254, 0, none⟩) (Kd.R_types HO_198001.out BK254.out (by decide)) (fun _ hk => hk.2) (.slice Ao137 t247.length co137)) (fun _ hk => hk.2) (.slice Ao143 t250.length co143)) (fun _ h_ => h_.1))) hb); have n2_ := k0 (Kd.R_below (by (with_reducible repeat (first | apply Kd.R_alloc | apply Kd.R_drewN | apply Kd.R_drew)); exact (Kd.R_mono (Kd.R_far (p := ⟨gb254, 1, none⟩) (Kd.R_far (p := ⟨gb254, 0, none⟩) (Kd.R_types HO_205000.out BK254.out (by decide)) (fun _ hk => hk.2) (.slice Ao137 t247.length co137)) (fun _ hk => hk.2) (.slice Ao143 t250.length co143)) (fun _ h_ => h_.1))) hb); have n3_ := k0 (Kd.R_below (by (with_reducible repeat (first | apply Kd.R_alloc | apply Kd.R_drewN | apply Kd.R_drew)); exact (Kd.R_mono (Kd.R_far (p := ⟨gb254, 1, none⟩) (Kd.R_far (p := ⟨gb254, 0, none⟩) (Kd.R_types HO_205001.out BK254.out (by decide)) (fun _ hk => hk.2) (.slice Ao137 t247.length co137)) (fun _ hk => hk.2) (.slice Ao143 t250.length co143)) (fun _ h_ => h_.1))) hb); have n4_ := k0 (Kd.R_below (by (with_reducible repeat (first | apply Kd.R_alloc | apply Kd.R_drewN | apply Kd.R_drew)); exact (Kd.R_mono (Kd.R_far (p := ⟨gb254, 1, none⟩) (Kd.R_far (p := ⟨gb254, 0, none⟩) (Kd.R_types HO_216000.out BK254.out (by decide)) (fun _ hk => hk.2) (.slice Ao137 t247.length co137)) (fun _ hk => hk.2) (.slice Ao143 t250.length co143)) (fun _ h_ => h_.1))) hb); have n5_ := k0 (Kd.R_below (by (with_reducible repeat (first | apply Kd.R_alloc | apply Kd.R_drewN | apply Kd.R_drew)); exact (Kd.R_mono (Kd.R_far (p := ⟨gb254, 1, none⟩) (Kd.R_far (p := ⟨gb254, 0, none⟩) (Kd.R_types HO_216001.out BK254.out (by decide)) (fun _ hk => hk.2) (.slice Ao137 t247.length co137)) (fun _ hk => hk.2) (.slice Ao143 t250.length co143)) (fun _ h_ => h_.1))) hb); have n6_ := k0 (Kd.R_below (by (with_reducible repeat (first | apply Kd.R_alloc | apply Kd.R_drewN | apply Kd.R_drew)); exact (Kd.R_mono (Kd.R_far (p := ⟨gb254, 1, none⟩) (Kd.R_far (p := ⟨gb254, 0, none⟩) (Kd.R_types HO240.out BK254.out (by decide)) (fun _ hk => hk.2) (.slice Ao137 t247.length co137)) (fun _ hk => hk.2) (.slice Ao143 t250.length co143)) (fun _ h_ => h_.1))) hb); have n7_ := k0 (Kd.R_below (by (with_reducible repeat (first | apply Kd.R_alloc | apply Kd.R_drewN | apply Kd.R_drew)); exact (Kd.R_mono (Kd.R_far (p := ⟨gb254, 1, none⟩) (Kd.R_far (p := ⟨gb254, 0, none⟩) (Kd.R_types HO243.out BK254.out (by decide)) (fun _ hk => hk.2) (.slice Ao137 t247.length co137)) (fun _ hk => hk.2) (.slice Ao143 t250.length co143)) (fun _ h_ => h_.1))) hb); have n8_ := k0 (Kd.R_below (by (with_reducible repeat (first | apply Kd.R_alloc | apply Kd.R_drewN | apply Kd.R_drew)); exact (Kd.R_mono (Kd.R_far (p := ⟨gb254, 1, none⟩) (Kd.R_far (p := ⟨gb254, 0, none⟩) (Kd.R_types HO246.out BK254.out (by decide)) (fun _ hk => hk.2) (.slice Ao137 t247.length co137)) (fun _ hk => hk.2) (.slice Ao143 t250.length co143)) (fun _ h_ => h_.1))) hb); have n9_ := k0 (Kd.R_below (by (with_reducible repeat (first | apply Kd.R_alloc | apply Kd.R_drewN | apply Kd.R_drew)); exact (Kd.R_mono (Kd.R_far (p := ⟨gb254, 1, none⟩) (Kd.R_far (p := ⟨gb254, 0, none⟩) (Kd.R_types HO249.out BK254.out (by decide)) (fun _ hk => hk.2) (.slice Ao137 t247.length co137)) (fun _ hk => hk.2) (.slice Ao143 t250.length co143)) (fun _ h_ => h_.1))) hb); have n10_ := k0 (Kd.R_below (by (with_reducible repeat (first | apply Kd.R_alloc | apply Kd.R_drewN | apply Kd.R_drew)); exact (Kd.R_mono (Kd.R_far (p := ⟨gb254, 1, none⟩) (Kd.R_far (p := ⟨gb254, 0, none⟩) (Kd.R_types HO252.out BK254.out (by decide)) (fun _ hk => hk.2) (.slice Ao137 t247.length co137)) (fun _ hk => hk.2) (.slice Ao143 t250.length co143)) (fun _ h_ => h_.1))) hb); have n11_ := k0 (blk_below (g := gb179) (o := .cells #[.slice A0_0 l0_0.length c0_0, .slice A0_1 l0_1.length c0_1] 32 (0, 0)) (by (with_reducible repeat (first | refine blk_drewN ?_ _ | refine blk_drew ?_ | refine blk_alloc ?_ _)); refine blk_far ?_ NB179_254.out _; (with_reducible repeat (first | refine blk_drewN ?_ _ | refine blk_drew ?_ | refine blk_alloc ?_ _)); refine blk_far ?_ NB179_254.out _; (with_reducible repeat (first | refine blk_drewN ?_ _ | refine blk_drew ?_ | refine blk_alloc ?_ _)); exact BK179.out) hb); have n12_ := k0 (blk_below (g := gb197) (o := .cells #[.slice Ao28 t190.length co28, .slice Ao31 t193.length co31] 35 (0, 0)) (by (with_reducible repeat (first | refine blk_drewN ?_ _ | refine blk_drew ?_ | refine blk_alloc ?_ _)); refine blk_far ?_ NB197_254.out _; (with_reducible repeat (first | refine blk_drewN ?_ _ | refine blk_drew ?_ | refine blk_alloc ?_ _)); refine blk_far ?_ NB197_254.out _; (with_reducible repeat (first | refine blk_drewN ?_ _ | refine blk_drew ?_ | refine blk_alloc ?_ _)); exact BK197.out) hb); have n13_ := k0 (blk_below (g := gb204) (o := .cells #[.slice Ao35 t229.length co35, .slice Ao39 t230.length co39] 35 (0, 0)) (by (with_reducible repeat (first | refine blk_drewN ?_ _ | refine blk_drew ?_ | refine blk_alloc ?_ _)); refine blk_far ?_ NB204_254.out _; (with_reducible repeat (first | refine blk_drewN ?_ _ | refine blk_drew ?_ | refine blk_alloc ?_ _)); refine blk_far ?_ NB204_254.out _; (with_reducible repeat (first | refine blk_drewN ?_ _ | refine blk_drew ?_ | refine blk_alloc ?_ _)); exact BK204.out) hb); have n14_ := k0 (blk_below (g := gb215) (o := .cells #[.slice Ao45 t208.length co45, .slice Ao50 t211.length co50] 35 (0, 0)) (by (with_reducible repeat (first | refine blk_drewN ?_ _ | refine blk_drew ?_ | refine blk_alloc ?_ _)); refine blk_far ?_ NB215_254.out _; (with_reducible repeat (first | refine blk_drewN ?_ _ | refine blk_drew ?_ | refine blk_alloc ?_ _)); refine blk_far ?_ NB215_254.out _; (with_reducible repeat (first | refine blk_drewN ?_ _ | refine blk_drew ?_ | refine blk_alloc ?_ _)); exact BK215.out) hb); have n15_ := k0 (blk_below (g := gb254) (o := .cells #[.slice Ao137 t247.length co137, .slice Ao143 t250.length co143] 35 (0, 0)) (by (with_reducible repeat (first | refine blk_drewN ?_ _ | refine blk_drew ?_ | refine blk_alloc ?_ _)); refine blk_put (cs := #[.slice Ao137 t247.length co137, .slice none 0 0]) ?_ 1 _ rfl; (with_reducible repeat (first | refine blk_drewN ?_ _ | refine blk_drew ?_ | refine blk_alloc ?_ _)); refine blk_put (cs := #[.slice none 0 0, .slice none 0 0]) ?_ 0 _ rfl; (with_reducible repeat (first | refine blk_drewN ?_ _ | refine blk_drew ?_ | refine blk_alloc ?_ _)); exact BK254.out) hb); have n16_ := k0 (below_step (kW HB.out) hb); clear HO_198000; clear HO_198001; clear HO_205000; clear HO_205001; clear HO_216000; clear HO_216001; clear HO240; clear HO243; clear HO246; clear HO249; clear HO252; clear BK179; clear BK197; clear BK204; clear BK215; clear BK254; clear HB; have HO_198000 := n0_; have HO_198001 := n1_; have HO_205000 := n2_; have HO_205001 := n3_; have HO_216000 := n4_; have HO_216001 := n5_; have HO240 := n6_; have HO243 := n7_; have HO246 := n8_; have HO249 := n9_; have HO252 := n10_; have BK179 := n11_; have BK197 := n12_; have BK204 := n13_; have BK215 := n14_; have BK254 := n15_; have HB := n16_; clear n0_ n1_ n2_ n3_ n4_ n5_ n6_ n7_ n8_ n9_ n10_ n11_ n12_ n13_ n14_ n15_ n16_; (try clear hb); (try clear hb2); (try clear hk); (try clear hi)))
               go_meet
               case rel => exact ⟨_, ((t253 != t196)), (by first | rfl | (simp; done) | (simp [*]; done)), H', ⟨by have := HJ15.out; have := HJ77.out; first | omega | exact Nat.le_refl _⟩, ⟨by (try simp only [hl205000_77]); (try simp only [hl205001_77]); (with_reducible repeat (first | apply Kd.R_alloc | apply Kd.R_drewN | apply Kd.R_drew)); exact Kd.R_mono HO_198000.out (fun _ hk => ⟨hk.1.1.1.1.1.1, ⟨hk.1.1.1.1.1.2.1, ⟨hk.1.1.1.1.1.2.2.1, ⟨hk.1.1.1.1.1.2.2.2.1, ⟨hk.1.1.1.1.1.2.2.2.2, ⟨hk.1.2, hk.2⟩⟩⟩⟩⟩⟩)⟩, ⟨by (try simp only [hl205000_77]); (try simp only [hl205001_77]); (with_reducible repeat (first | apply Kd.R_alloc | apply Kd.R_drewN | apply Kd.R_drew)); exact Kd.R_mono HO_198001.out (fun _ hk => ⟨hk.1.1.1.1.1.1, ⟨hk.1.1.1.1.1.2.1, ⟨hk.1.1.1.1.1.2.2.1, ⟨hk.1.1.1.1.1.2.2.2.1, ⟨hk.1.1.1.1.1.2.2.2.2, ⟨hk.1.2, hk.2⟩⟩⟩⟩⟩⟩)⟩, ⟨by (try simp only [hl205000_77]); (try simp only [hl205001_77]); (with_reducible repeat (first | apply Kd.R_alloc | apply Kd.R_drewN | apply Kd.R_drew)); exact Kd.R_mono HO_205000.out (fun _ hk => ⟨hk.1.1.1.1.1.1, ⟨hk.1.1.1.1.1.2.1, ⟨hk.1.1.1.1.1.2.2.1, ⟨hk.1.1.1.1.1.2.2.2.1, ⟨hk.1.1.1.1.1.2.2.2.2, ⟨hk.1.2, hk.2⟩⟩⟩⟩⟩⟩)⟩, ⟨by (try simp only [hl205000_77]); (try simp only [hl205001_77]); (with_reducible repeat (first | apply Kd.R_alloc | apply Kd.R_drewN | apply Kd.R_drew)); exact Kd.R_mono HO_205001.out (fun _ hk => ⟨hk.1.1.1.1.1.1, ⟨hk.1.1.1.1.1.2.1, ⟨hk.1.1.1.1.1.2.2.1, ⟨hk.1.1.1.1.1.2.2.2.1, ⟨hk.1.1.1.1.1.2.2.2.2, ⟨hk.1.2, hk.2⟩⟩⟩⟩⟩⟩)⟩, ⟨by (try simp only [hl205000_77]); (try simp only [hl205001_77]); (with_reducible repeat (first | apply Kd.R_alloc | apply Kd.R_drewN | apply Kd.R_drew)); exact Kd.R_mono HO_216000.out (fun _ hk => ⟨hk.1.1.1.1.1.1, ⟨hk.1.1.1.1.1.2.1, ⟨hk.1.1.1.1.1.2.2.1, ⟨hk.1.1.1.1.1.2.2.2.1, ⟨hk.1.1.1.1.1.2.2.2.2, ⟨hk.1.2, hk.2⟩⟩⟩⟩⟩⟩)⟩, ⟨by (try simp only [hl205000_77]); (try simp only [hl205001_77]); (with_reducible repeat (first | apply Kd.R_alloc | apply Kd.R_drewN | apply Kd.R_drew)); exact Kd.R_mono HO_216001.out (fun _ hk => ⟨hk.1.1.1.1.1.1, ⟨hk.1.1.1.1.1.2.1, ⟨hk.1.1.1.1.1.2.2.1, ⟨hk.1.1.1.1.1.2.2.2.1, ⟨hk.1.1.1.1.1.2.2.2.2, ⟨hk.1.2, hk.2⟩⟩⟩⟩⟩⟩)⟩, ⟨by (try simp only [hl205000_77]); (try simp only [hl205001_77]); (with_reducible repeat (first | apply Kd.R_alloc | apply Kd.R_drewN | apply Kd.R_drew)); exact Kd.R_mono HO249.out (fun _ hk => ⟨hk.1.1.1.1.1.1.1.1.2, ⟨hk.1.1.1.1.1.1.1.2, ⟨hk.1.1.1.1.1.1.2, ⟨hk.1.1.1.1.1.2, ⟨hk.1.1.1.1.2, ⟨hk.1.1.1.2, hk.1.1.1.1.1.1.1.1.1⟩⟩⟩⟩⟩⟩)⟩, ⟨by (try simp only [hl205000_77]); (try simp only [hl205001_77]); (with_reducible repeat (first | apply Kd.R_alloc | apply Kd.R_drewN | apply Kd.R_drew)); exact Kd.R_mono HO252.out (fun _ hk => ⟨hk.1.1.1.1.1.1.1.1.2, ⟨hk.1.1.1.1.1.1.1.2, ⟨hk.1.1.1.1.1.1.2, ⟨hk.1.1.1.1.1.2, ⟨hk.1.1.1.1.2, ⟨hk.1.1.1.2, hk.1.1.1.1.1.1.1.1.1⟩⟩⟩⟩⟩⟩)⟩, ⟨by (try simp only [hl205000_77]); (try simp only [hl205001_77]); (with_reducible repeat (first | refine blk_drewN ?_ _ | refine blk_drew ?_ | refine blk_alloc ?_ _)); exact BK179.out⟩, ⟨by (try simp only [hl205000_77]); (try simp only [hl205001_77]); (with_reducible repeat (first | refine blk_drewN ?_ _ | refine blk_drew ?_ | refine blk_alloc ?_ _)); exact BK197.out⟩, ⟨by (try simp only [hl205000_77]); (try simp only [hl205001_77]); (with_reducible repeat (first | refine blk_drewN ?_ _ | refine blk_drew ?_ | refine blk_alloc ?_ _)); exact BK204.out⟩, ⟨by (try simp only [hl205000_77]); (try simp only [hl205001_77]); (with_reducible repeat (first | refine blk_drewN ?_ _ | refine blk_drew ?_ | refine blk_alloc ?_ _)); exact BK215.out⟩, ⟨by (try simp only [hl205000_77]); (try simp only [hl205001_77]); (with_reducible repeat (first | refine blk_drewN ?_ _ | refine blk_drew ?_ | refine blk_alloc ?_ _)); exact BK254.out⟩, ⟨by repeat (first | (with_reducible first | exact HB.out | apply below_alloc | apply pw_below_drewN | apply below_drew1 | refine below_set ?_ GE179.out | refine below_set ?_ GE197.out | refine below_set ?_ GE204.out | refine below_set ?_ GE215.out | refine below_set ?_ GE254.out) | exact HB.out)⟩⟩
              ·replace c145 := Bool.eq_false_iff.mpr c145
               subst c145
               have H1 : (laws_FnExactDiskWrite.j2 kj77 t234 true t235 t236) = some r := by rw [if_neg (show ¬ (false = true) by decide)] at H; exact H
               clear H
               have H := H1
               clear H1
               have H' := Aside0.mk H
               clear H
               have hnb156 := NB254_179.out
               have hnc156 := NB179_254.out
               have hnb157 := NB254_197.out
               have hnc157 := NB197_254.out
               have hnb158 := NB254_204.out
               have hnc158 := NB204_254.out
               have hnb159 := NB254_215.out
               have hnc159 := NB215_254.out
               have hcz160_0 : w136.cell? ⟨gb254, 0, none⟩ = some (.slice none 0 0) := (blk_cell BK254.out 0).trans rfl
               have hcz160_1 : w136.cell? ⟨gb254, 1, none⟩ = some (.slice none 0 0) := (blk_cell BK254.out 1).trans rfl
               have hfz160_0 := blk_frozen BK254.out 0
               have hfz160_1 := blk_frozen BK254.out 1
               have hnb161 := NB197_179.out
               have hnc161 := NB179_197.out
               have hnb162 := NB197_204.out
               have hnc162 := NB204_197.out
               have hnb163 := NB197_215.out
               have hnc163 := NB215_197.out
               have hcz164_0 : w136.cell? ⟨gb197, 0, none⟩ = some (.slice Ao28 t190.length co28) := (blk_cell BK197.out 0).trans rfl
               have hcz164_1 : w136.cell? ⟨gb197, 1, none⟩ = some (.slice Ao31 t193.length co31) := (blk_cell BK197.out 1).trans rfl
               have hfz164_0 := blk_frozen BK197.out 0
               have hfz164_1 := blk_frozen BK197.out 1
               go_wp2_with (first | ((with_reducible refine gate_callee (f := 23) rfl ?_); refine goesL_ (some 102) rfl rfl Try.func23 (by kernel_rfl) rfl #[.agg #[.slice Ao137 t247.length co137, .slice Ao143 t250.length co143], .agg #[.slice Ao28 t190.length co28, .slice Ao31 t193.length co31]] rfl (by (try simp only [List.map_toArray, List.map_cons, List.map_nil]); first | done | rfl | (simp only [List.length_drop, List.length_take]; rfl)) ?_; (with_reducible refine (laws_eqDisk.calls kj77 _ _ t247 _ _ t250 _ _ t190 _ _ t193 false _ ?side1 ?side2 ?side3 ?side4 ?side5 ?side6 ?side7 ?side8 A144.out).mono ?_); (case side1 => refine (Kd.R_reads' (e := 5) (base := w.heap.size) (ok := fun k_ => (((((((((some k_ ≠ (.slice Ao143 t250.length co143 : Value).ownBlock ∧ some k_ ≠ (.slice Ao28 t190.length co28 : Value).ownBlock) ∧ some k_ ≠ (.slice Ao31 t193.length co31 : Value).ownBlock) ∧ some k_ ≠ (.slice Ao35 t229.length co35 : Value).ownBlock) ∧ some k_ ≠ (.slice Ao39 t230.length co39 : Value).ownBlock) ∧ some k_ ≠ (.slice Ao45 t208.length co45 : Value).ownBlock) ∧ some k_ ≠ (.slice Ao50 t211.length co50 : Value).ownBlock) ∧ some k_ ≠ (.slice Ao132 t238.length co132 : Value).ownBlock) ∧ some k_ ≠ (.slice Ao133 t241.length co133 : Value).ownBlock) ∧ some k_ ≠ (.slice Ao134 t244.length co134 : Value).ownBlock)) (n := t247.length) (c := co137) ?_).2.2; exact (by (with_reducible repeat (first | apply Kd.R_alloc | apply Kd.R_drewN | apply Kd.R_drew)); exact (Kd.R_mono (Kd.R_far (p := ⟨gb254, 1, none⟩) (Kd.R_far (p := ⟨gb254, 0, none⟩) (Kd.R_types HO249.out BK254.out (by decide)) (fun _ hk => hk.2) (.slice Ao137 t247.length co137)) (fun _ hk => hk.2) (.slice Ao143 t250.length co143)) (fun _ h_ => h_.1)))); (case side2 => exact (Kd.R_reads' HO249.out).2.1); (case side3 => refine (Kd.R_reads' (e := 5) (base := w.heap.size) (ok := fun k_ => (((((((((some k_ ≠ (.slice Ao137 t247.length co137 : Value).ownBlock ∧ some k_ ≠ (.slice Ao28 t190.length co28 : Value).ownBlock) ∧ some k_ ≠ (.slice Ao31 t193.length co31 : Value).ownBlock) ∧ some k_ ≠ (.slice Ao35 t229.length co35 : Value).ownBlock) ∧ some k_ ≠ (.slice Ao39 t230.length co39 : Value).ownBlock) ∧ some k_ ≠ (.slice Ao45 t208.length co45 : Value).ownBlock) ∧ some k_ ≠ (.slice Ao50 t211.length co50 : Value).ownBlock) ∧ some k_ ≠ (.slice Ao132 t238.length co132 : Value).ownBlock) ∧ some k_ ≠ (.slice Ao133 t241.length co133 : Value).ownBlock) ∧ some k_ ≠ (.slice Ao134 t244.length co134 : Value).ownBlock)) (n := t250.length) (c := co143) ?_).2.2; exact (by (with_reducible repeat (first | apply Kd.R_alloc | apply Kd.R_drewN | apply Kd.R_drew)); exact (Kd.R_mono (Kd.R_far (p := ⟨gb254, 1, none⟩) (Kd.R_far (p := ⟨gb254, 0, none⟩) (Kd.R_types HO252.out BK254.out (by decide)) (fun _ hk => hk.2) (.slice Ao137 t247.length co137)) (fun _ hk => hk.2) (.slice Ao143 t250.length co143)) (fun _ h_ => h_.1)))); (case side4 => exact (Kd.R_reads' HO252.out).2.1); (case side5 => refine (Kd.R_reads' (e := 5) (base := w.heap.size) (ok := fun k_ => ((((((some k_ ≠ (.slice Ao31 t193.length co31 : Value).ownBlock ∧ (some k_ ≠ (.slice Ao35 t229.length co35 : Value).ownBlock ∧ (some k_ ≠ (.slice Ao39 t230.length co39 : Value).ownBlock ∧ (some k_ ≠ (.slice Ao45 t208.length co45 : Value).ownBlock ∧ some k_ ≠ (.slice Ao50 t211.length co50 : Value).ownBlock)))) ∧ some k_ ≠ (.slice Ao132 t238.length co132 : Value).ownBlock) ∧ some k_ ≠ (.slice Ao133 t241.length co133 : Value).ownBlock) ∧ some k_ ≠ (.slice Ao134 t244.length co134 : Value).ownBlock) ∧ some k_ ≠ (.slice Ao137 t247.length co137 : Value).ownBlock) ∧ some k_ ≠ (.slice Ao143 t250.length co143 : Value).ownBlock)) (n := t190.length) (c := co28) ?_).2.2; exact (by (with_reducible repeat (first | apply Kd.R_alloc | apply Kd.R_drewN | apply Kd.R_drew)); exact (Kd.R_mono (Kd.R_far (p := ⟨gb254, 1, none⟩) (Kd.R_far (p := ⟨gb254, 0, none⟩) (Kd.R_types HO_198000.out BK254.out (by decide)) (fun _ hk => hk.2) (.slice Ao137 t247.length co137)) (fun _ hk => hk.2) (.slice Ao143 t250.length co143)) (fun _ h_ => h_.1)))); (case side6 => exact (Kd.R_reads' HO_198000.out).2.1); (case side7 => refine (Kd.R_reads' (e := 5) (base := w.heap.size) (ok := fun k_ => ((((((some k_ ≠ (.slice Ao28 t190.length co28 : Value).ownBlock ∧ (some k_ ≠ (.slice Ao35 t229.length co35 : Value).ownBlock ∧ (some k_ ≠ (.slice Ao39 t230.length co39 : Value).ownBlock ∧ (some k_ ≠ (.slice Ao45 t208.length co45 : Value).ownBlock ∧ some k_ ≠ (.slice Ao50 t211.length co50 : Value).ownBlock)))) ∧ some k_ ≠ (.slice Ao132 t238.length co132 : Value).ownBlock) ∧ some k_ ≠ (.slice Ao133 t241.length co133 : Value).ownBlock) ∧ some k_ ≠ (.slice Ao134 t244.length co134 : Value).ownBlock) ∧ some k_ ≠ (.slice Ao137 t247.length co137 : Value).ownBlock) ∧ some k_ ≠ (.slice Ao143 t250.length co143 : Value).ownBlock)) (n := t193.length) (c := co31) ?_).2.2; exact (by (with_reducible repeat (first | apply Kd.R_alloc | apply Kd.R_drewN | apply Kd.R_drew)); exact (Kd.R_mono (Kd.R_far (p := ⟨gb254, 1, none⟩) (Kd.R_far (p := ⟨gb254, 0, none⟩) (Kd.R_types HO_198001.out BK254.out (by decide)) (fun _ hk => hk.2) (.slice Ao137 t247.length co137)) (fun _ hk => hk.2) (.slice Ao143 t250.length co143)) (fun _ h_ => h_.1)))); (case side8 => exact (Kd.R_reads' HO_198001.out).2.1); rintro e w165 ⟨rfl, hb⟩; refine ⟨_, rfl, ?_⟩; have n0_ := k0 (Kd.R_below (by (with_reducible repeat (first | apply Kd.R_alloc | apply Kd.R_drewN | apply Kd.R_drew)); exact (Kd.R_mono (Kd.R_far (p := ⟨gb254, 1, none⟩) (Kd.R_far (p := ⟨gb254, 0, none⟩) (Kd.R_types HO_198000.out BK254.out (by decide)) (fun _ hk => hk.2) (.slice Ao137 t247.length co137)) (fun _ hk => hk.2) (.slice Ao143 t250.length co143)) (fun _ h_ => h_.1))) hb); have n1_ := k0 (Kd.R_below (by (with_reducible repeat (first | apply Kd.R_alloc | apply Kd.R_drewN | apply Kd.R_drew)); exact (Kd.R_mono (Kd.R_far (p := ⟨gb254, 1, none⟩) (Kd.R_far (p := ⟨gb254, 0, none⟩) (Kd.R_types HO_198001.out BK254.out (by decide)) (fun _ hk => hk.2) (.slice Ao137 t247.length co137)) (fun _ hk => hk.2) (.slice Ao143 t250.length co143)) (fun _ h_ => h_.1))) hb); have n2_ := k0 (Kd.R_below (by (with_reducible repeat (first | apply Kd.R_alloc | apply Kd.R_drewN | apply Kd.R_drew)); exact (Kd.R_mono (Kd.R_far (p := ⟨gb254, 1, none⟩) (Kd.R_far (p := ⟨gb254, 0, none⟩) (Kd.R_types HO_205000.out BK254.out (by decide)) (fun _ hk => hk.2) (.slice Ao137 t247.length co137)) (fun _ hk => hk.2) (.slice Ao143 t250.length co143)) (fun _ h_ => h_.1))) hb); have n3_ := k0 (Kd.R_below (by (with_reducible repeat (first | apply Kd.R_alloc | apply Kd.R_drewN | apply Kd.R_drew)); exact (Kd.R_mono (Kd.R_far (p := ⟨gb254, 1, none⟩) (Kd.R_far (p := ⟨gb254, 0, none⟩) (Kd.R_types HO_205001.out BK254.out (by decide)) (fun _ hk => hk.2) (.slice Ao137 t247.length co137)) (fun _ hk => hk.2) (.slice Ao143 t250.length co143)) (fun _ h_ => h_.1))) hb); have n4_ := k0 (Kd.R_below (by (with_reducible repeat (first | apply Kd.R_alloc | apply Kd.R_drewN | apply Kd.R_drew)); exact (Kd.R_mono (Kd.R_far (p := ⟨gb254, 1, none⟩) (Kd.R_far (p := ⟨gb254, 0, none⟩) (Kd.R_types HO_216000.out BK254.out (by decide)) (fun _ hk => hk.2) (.slice Ao137 t247.length co137)) (fun _ hk => hk.2) (.slice Ao143 t250.length co143)) (fun _ h_ => h_.1))) hb); have n5_ := k0 (Kd.R_below (by (with_reducible repeat (first | apply Kd.R_alloc | apply Kd.R_drewN | apply Kd.R_drew)); exact (Kd.R_mono (Kd.R_far (p := ⟨gb254, 1, none⟩) (Kd.R_far (p := ⟨gb254, 0, none⟩) (Kd.R_types HO_216001.out BK254.out (by decide)) (fun _ hk => hk.2) (.slice Ao137 t247.length co137)) (fun _ hk => hk.2) (.slice Ao143 t250.length co143)) (fun _ h_ => h_.1))) hb); have n6_ := k0 (Kd.R_below (by (with_reducible repeat (first | apply Kd.R_alloc | apply Kd.R_drewN | apply Kd.R_drew)); exact (Kd.R_mono (Kd.R_far (p := ⟨gb254, 1, none⟩) (Kd.R_far (p := ⟨gb254, 0, none⟩) (Kd.R_types HO240.out BK254.out (by decide)) (fun _ hk => hk.2) (.slice Ao137 t247.length co137)) (fun _ hk => hk.2) (.slice Ao143 t250.length co143)) (fun _ h_ => h_.1))) hb); have n7_ := k0 (Kd.R_below (by (with_reducible repeat (first | apply Kd.R_alloc | apply Kd.R_drewN | apply Kd.R_drew)); exact (Kd.R_mono (Kd.R_far (p := ⟨gb254, 1, none⟩) (Kd.R_far (p := ⟨gb254, 0, none⟩) (Kd.R_types HO243.out BK254.out (by decide)) (fun _ hk => hk.2) (.slice Ao137 t247.length co137)) (fun _ hk => hk.2) (.slice Ao143 t250.length co143)) (fun _ h_ => h_.1))) hb); have n8_ := k0 (Kd.R_below (by (with_reducible repeat (first | apply Kd.R_alloc | apply Kd.R_drewN | apply Kd.R_drew)); exact (Kd.R_mono (Kd.R_far (p := ⟨gb254, 1, none⟩) (Kd.R_far (p := ⟨gb254, 0, none⟩) (Kd.R_types HO246.out BK254.out (by decide)) (fun _ hk => hk.2) (.slice Ao137 t247.length co137)) (fun _ hk => hk.2) (.slice Ao143 t250.length co143)) (fun _ h_ => h_.1))) hb); have n9_ := k0 (Kd.R_below (by (with_reducible repeat (first | apply Kd.R_alloc | apply Kd.R_drewN | apply Kd.R_drew)); exact (Kd.R_mono (Kd.R_far (p := ⟨gb254, 1, none⟩) (Kd.R_far (p := ⟨gb254, 0, none⟩) (Kd.R_types HO249.out BK254.out (by decide)) (fun _ hk => hk.2) (.slice Ao137 t247.length co137)) (fun _ hk => hk.2) (.slice Ao143 t250.length co143)) (fun _ h_ => h_.1))) hb); have n10_ := k0 (Kd.R_below (by (with_reducible repeat (first | apply Kd.R_alloc | apply Kd.R_drewN | apply Kd.R_drew)); exact (Kd.R_mono (Kd.R_far (p := ⟨gb254, 1, none⟩) (Kd.R_far (p := ⟨gb254, 0, none⟩) (Kd.R_types HO252.out BK254.out (by decide)) (fun _ hk => hk.2) (.slice Ao137 t247.length co137)) (fun _ hk => hk.2) (.slice Ao143 t250.length co143)) (fun _ h_ => h_.1))) hb); have n11_ := k0 (blk_below (g := gb179) (o := .cells #[.slice A0_0 l0_0.length c0_0, .slice A0_1 l0_1.length c0_1] 32 (0, 0)) (by (with_reducible repeat (first | refine blk_drewN ?_ _ | refine blk_drew ?_ | refine blk_alloc ?_ _)); refine blk_far ?_ NB179_254.out _; (with_reducible repeat (first | refine blk_drewN ?_ _ | refine blk_drew ?_ | refine blk_alloc ?_ _)); refine blk_far ?_ NB179_254.out _; (with_reducible repeat (first | refine blk_drewN ?_ _ | refine blk_drew ?_ | refine blk_alloc ?_ _)); exact BK179.out) hb); have n12_ := k0 (blk_below (g := gb197) (o := .cells #[.slice Ao28 t190.length co28, .slice Ao31 t193.length co31] 35 (0, 0)) (by (with_reducible repeat (first | refine blk_drewN ?_ _ | refine blk_drew ?_ | refine blk_alloc ?_ _)); refine blk_far ?_ NB197_254.out _; (with_reducible repeat (first | refine blk_drewN ?_ _ | refine blk_drew ?_ | refine blk_alloc ?_ _)); refine blk_far ?_ NB197_254.out _; (with_reducible repeat (first | refine blk_drewN ?_ _ | refine blk_drew ?_ | refine blk_alloc ?_ _)); exact BK197.out) hb); have n13_ := k0 (blk_below (g := gb204) (o := .cells #[.slice Ao35 t229.length co35, .slice Ao39 t230.length co39] 35 (0, 0)) (by (with_reducible repeat (first | refine blk_drewN ?_ _ | refine blk_drew ?_ | refine blk_alloc ?_ _)); refine blk_far ?_ NB204_254.out _; (with_reducible repeat (first | refine blk_drewN ?_ _ | refine blk_drew ?_ | refine blk_alloc ?_ _)); refine blk_far ?_ NB204_254.out _; (with_reducible repeat (first | refine blk_drewN ?_ _ | refine blk_drew ?_ | refine blk_alloc ?_ _)); exact BK204.out) hb); have n14_ := k0 (blk_below (g := gb215) (o := .cells #[.slice Ao45 t208.length co45, .slice Ao50 t211.length co50] 35 (0, 0)) (by (with_reducible repeat (first | refine blk_drewN ?_ _ | refine blk_drew ?_ | refine blk_alloc ?_ _)); refine blk_far ?_ NB215_254.out _; (with_reducible repeat (first | refine blk_drewN ?_ _ | refine blk_drew ?_ | refine blk_alloc ?_ _)); refine blk_far ?_ NB215_254.out _; (with_reducible repeat (first | refine blk_drewN ?_ _ | refine blk_drew ?_ | refine blk_alloc ?_ _)); exact BK215.out) hb); have n15_ := k0 (blk_below (g := gb254) (o := .cells #[.slice Ao137 t247.length co137, .slice Ao143 t250.length co143] 35 (0, 0)) (by (with_reducible repeat (first | refine blk_drewN ?_ _ | refine blk_drew ?_ | refine blk_alloc ?_ _)); refine blk_put (cs := #[.slice Ao137 t247.length co137, .slice none 0 0]) ?_ 1 _ rfl; (with_reducible repeat (first | refine blk_drewN ?_ _ | refine blk_drew ?_ | refine blk_alloc ?_ _)); refine blk_put (cs := #[.slice none 0 0, .slice none 0 0]) ?_ 0 _ rfl; (with_reducible repeat (first | refine blk_drewN ?_ _ | refine blk_drew ?_ | refine blk_alloc ?_ _)); exact BK254.out) hb); have n16_ := k0 (below_step (kW HB.out) hb); clear HO_198000; clear HO_198001; clear HO_205000; clear HO_205001; clear HO_216000; clear HO_216001; clear HO240; clear HO243; clear HO246; clear HO249; clear HO252; clear BK179; clear BK197; clear BK204; clear BK215; clear BK254; clear HB; have HO_198000 := n0_; have HO_198001 := n1_; have HO_205000 := n2_; have HO_205001 := n3_; have HO_216000 := n4_; have HO_216001 := n5_; have HO240 := n6_; have HO243 := n7_; have HO246 := n8_; have HO249 := n9_; have HO252 := n10_; have BK179 := n11_; have BK197 := n12_; have BK204 := n13_; have BK215 := n14_; have BK254 := n15_; have HB := n16_; clear n0_ n1_ n2_ n3_ n4_ n5_ n6_ n7_ n8_ n9_ n10_ n11_ n12_ n13_ n14_ n15_ n16_; (try clear hb); (try clear hb2); (try clear hk); (try clear hi)))
               go_meet
               case rel => exact ⟨_, (true), (by first | rfl | (simp; done) | (simp [*]; done)), H', ⟨by have := HJ15.out; have := HJ77.out; first | omega | exact Nat.le_refl _⟩, ⟨by (try simp only [hl205000_77]); (try simp only [hl205001_77]); (with_reducible repeat (first | apply Kd.R_alloc | apply Kd.R_drewN | apply Kd.R_drew)); exact Kd.R_mono HO_198000.out (fun _ hk => ⟨hk.1.1.1.1.1.1, ⟨hk.1.1.1.1.1.2.1, ⟨hk.1.1.1.1.1.2.2.1, ⟨hk.1.1.1.1.1.2.2.2.1, ⟨hk.1.1.1.1.1.2.2.2.2, ⟨hk.1.2, hk.2⟩⟩⟩⟩⟩⟩)⟩, ⟨by (try simp only [hl205000_77]); (try simp only [hl205001_77]); (with_reducible repeat (first | apply Kd.R_alloc | apply Kd.R_drewN | apply Kd.R_drew)); exact Kd.R_mono HO_198001.out (fun _ hk => ⟨hk.1.1.1.1.1.1, ⟨hk.1.1.1.1.1.2.1, ⟨hk.1.1.1.1.1.2.2.1, ⟨hk.1.1.1.1.1.2.2.2.1, ⟨hk.1.1.1.1.1.2.2.2.2, ⟨hk.1.2, hk.2⟩⟩⟩⟩⟩⟩)⟩, ⟨by (try simp only [hl205000_77]); (try simp only [hl205001_77]); (with_reducible repeat (first | apply Kd.R_alloc | apply Kd.R_drewN | apply Kd.R_drew)); exact Kd.R_mono HO_205000.out (fun _ hk => ⟨hk.1.1.1.1.1.1, ⟨hk.1.1.1.1.1.2.1, ⟨hk.1.1.1.1.1.2.2.1, ⟨hk.1.1.1.1.1.2.2.2.1, ⟨hk.1.1.1.1.1.2.2.2.2, ⟨hk.1.2, hk.2⟩⟩⟩⟩⟩⟩)⟩, ⟨by (try simp only [hl205000_77]); (try simp only [hl205001_77]); (with_reducible repeat (first | apply Kd.R_alloc | apply Kd.R_drewN | apply Kd.R_drew)); exact Kd.R_mono HO_205001.out (fun _ hk => ⟨hk.1.1.1.1.1.1, ⟨hk.1.1.1.1.1.2.1, ⟨hk.1.1.1.1.1.2.2.1, ⟨hk.1.1.1.1.1.2.2.2.1, ⟨hk.1.1.1.1.1.2.2.2.2, ⟨hk.1.2, hk.2⟩⟩⟩⟩⟩⟩)⟩, ⟨by (try simp only [hl205000_77]); (try simp only [hl205001_77]); (with_reducible repeat (first | apply Kd.R_alloc | apply Kd.R_drewN | apply Kd.R_drew)); exact Kd.R_mono HO_216000.out (fun _ hk => ⟨hk.1.1.1.1.1.1, ⟨hk.1.1.1.1.1.2.1, ⟨hk.1.1.1.1.1.2.2.1, ⟨hk.1.1.1.1.1.2.2.2.1, ⟨hk.1.1.1.1.1.2.2.2.2, ⟨hk.1.2, hk.2⟩⟩⟩⟩⟩⟩)⟩, ⟨by (try simp only [hl205000_77]); (try simp only [hl205001_77]); (with_reducible repeat (first | apply Kd.R_alloc | apply Kd.R_drewN | apply Kd.R_drew)); exact Kd.R_mono HO_216001.out (fun _ hk => ⟨hk.1.1.1.1.1.1, ⟨hk.1.1.1.1.1.2.1, ⟨hk.1.1.1.1.1.2.2.1, ⟨hk.1.1.1.1.1.2.2.2.1, ⟨hk.1.1.1.1.1.2.2.2.2, ⟨hk.1.2, hk.2⟩⟩⟩⟩⟩⟩)⟩, ⟨by (try simp only [hl205000_77]); (try simp only [hl205001_77]); (with_reducible repeat (first | apply Kd.R_alloc | apply Kd.R_drewN | apply Kd.R_drew)); exact Kd.R_mono HO249.out (fun _ hk => ⟨hk.1.1.1.1.1.1.1.1.2, ⟨hk.1.1.1.1.1.1.1.2, ⟨hk.1.1.1.1.1.1.2, ⟨hk.1.1.1.1.1.2, ⟨hk.1.1.1.1.2, ⟨hk.1.1.1.2, hk.1.1.1.1.1.1.1.1.1⟩⟩⟩⟩⟩⟩)⟩, ⟨by (try simp only [hl205000_77]); (try simp only [hl205001_77]); (with_reducible repeat (first | apply Kd.R_alloc | apply Kd.R_drewN | apply Kd.R_drew)); exact Kd.R_mono HO252.out (fun _ hk => ⟨hk.1.1.1.1.1.1.1.1.2, ⟨hk.1.1.1.1.1.1.1.2, ⟨hk.1.1.1.1.1.1.2, ⟨hk.1.1.1.1.1.2, ⟨hk.1.1.1.1.2, ⟨hk.1.1.1.2, hk.1.1.1.1.1.1.1.1.1⟩⟩⟩⟩⟩⟩)⟩, ⟨by (try simp only [hl205000_77]); (try simp only [hl205001_77]); (with_reducible repeat (first | refine blk_drewN ?_ _ | refine blk_drew ?_ | refine blk_alloc ?_ _)); exact BK179.out⟩, ⟨by (try simp only [hl205000_77]); (try simp only [hl205001_77]); (with_reducible repeat (first | refine blk_drewN ?_ _ | refine blk_drew ?_ | refine blk_alloc ?_ _)); exact BK197.out⟩, ⟨by (try simp only [hl205000_77]); (try simp only [hl205001_77]); (with_reducible repeat (first | refine blk_drewN ?_ _ | refine blk_drew ?_ | refine blk_alloc ?_ _)); exact BK204.out⟩, ⟨by (try simp only [hl205000_77]); (try simp only [hl205001_77]); (with_reducible repeat (first | refine blk_drewN ?_ _ | refine blk_drew ?_ | refine blk_alloc ?_ _)); exact BK215.out⟩, ⟨by (try simp only [hl205000_77]); (try simp only [hl205001_77]); (with_reducible repeat (first | refine blk_drewN ?_ _ | refine blk_drew ?_ | refine blk_alloc ?_ _)); exact BK254.out⟩, ⟨by repeat (first | (with_reducible first | exact HB.out | apply below_alloc | apply pw_below_drewN | apply below_drew1 | refine below_set ?_ GE179.out | refine below_set ?_ GE197.out | refine below_set ?_ GE204.out | refine below_set ?_ GE215.out | refine below_set ?_ GE254.out) | exact HB.out)⟩⟩
             case rest =>
              clear HC119
              try clear c1
              try clear c2
              try clear p2
              try clear c3
              try clear c3b0
              try clear c3b1
              try clear c4
              try clear c5
              try clear c6
              try clear c6b0
              try clear c7
              try clear c8
              try clear c9
              try clear c10
              try clear c11
              try clear c12
              try clear c13
              try clear c14
              try clear c15
              try clear c16
              try clear c19
              try clear c21
              try clear c23
              try clear c27
              try clear c29
              try clear c35
              try clear c36
              try clear c37
              try clear c40
              try clear c43
              try clear c44
              try clear c46
              try clear c47
              try clear c48
              try clear c52
              try clear c53
              try clear c54
              try clear c55
              try clear c57
              try clear c58
              try clear c61
              try clear c62
              try clear c63
              try clear c65
              try clear c66
              try clear c69
              try clear c72
              try clear c75
              try clear c86
              try clear c87
              try clear c88
              try clear c92
              try clear c92b0
              try clear c94
              try clear c95
              try clear c96
              try clear c97
              try clear c99
              try clear c100
              try clear c103
              try clear c104
              try clear c105
              try clear c107
              try clear c108
              try clear c111
              try clear c114
              try clear c114b0
              try clear c115
              try clear c115b0
              try clear c115b1
              try clear c120
              try clear c121
              try clear c122
              try clear c127
              try clear c128
              try clear c138
              try clear c139
              try clear c140
              try clear c141
              try clear c145
              try clear c146
              try clear c147
              try clear c148
              try clear c149
              try clear c151
              try clear c152
              try clear c153
              try clear c156
              try clear c157
              try clear c158
              try clear c159
              try clear c161
              try clear c162
              try clear c163
              try clear hcz101_0
              try clear hcz101_1
              try clear hcz106_0
              try clear hcz106_1
              try clear hcz109_0
              try clear hcz109_1
              try clear hcz123_0
              try clear hcz123_1
              try clear hcz125_0
              try clear hcz125_1
              try clear hcz129_0
              try clear hcz129_1
              try clear hcz142_0
              try clear hcz142_1
              try clear hcz150_0
              try clear hcz150_1
              try clear hcz154_0
              try clear hcz154_1
              try clear hcz160_0
              try clear hcz160_1
              try clear hcz164_0
              try clear hcz164_1
              try clear hcz18_0
              try clear hcz18_1
              try clear hcz20_0
              try clear hcz20_1
              try clear hcz30_0
              try clear hcz30_1
              try clear hcz32_0
              try clear hcz32_1
              try clear hcz38_0
              try clear hcz38_1
              try clear hcz41_0
              try clear hcz41_1
              try clear hcz49_0
              try clear hcz49_1
              try clear hcz56_0
              try clear hcz56_1
              try clear hcz59_0
              try clear hcz59_1
              try clear hcz64_0
              try clear hcz64_1
              try clear hcz67_0
              try clear hcz67_1
              try clear hcz89_0
              try clear hcz89_1
              try clear hcz8_0
              try clear hcz8_1
              try clear hcz98_0
              try clear hcz98_1
              try clear hfz101_0
              try clear hfz101_1
              try clear hfz106_0
              try clear hfz106_1
              try clear hfz109_0
              try clear hfz109_1
              try clear hfz123_0
              try clear hfz123_1
              try clear hfz125_0
              try clear hfz125_1
              try clear hfz129_0
              try clear hfz129_1
              try clear hfz142_0
              try clear hfz142_1
              try clear hfz150_0
              try clear hfz150_1
              try clear hfz154_0
              try clear hfz154_1
              try clear hfz160_0
              try clear hfz160_1
              try clear hfz164_0
              try clear hfz164_1
              try clear hfz18_0
              try clear hfz18_1
              try clear hfz20_0
              try clear hfz20_1
              try clear hfz30_0
              try clear hfz30_1
              try clear hfz32_0
              try clear hfz32_1
              try clear hfz38_0
              try clear hfz38_1
              try clear hfz41_0
              try clear hfz41_1
              try clear hfz49_0
              try clear hfz49_1
              try clear hfz56_0
              try clear hfz56_1
              try clear hfz59_0
              try clear hfz59_1
              try clear hfz64_0
              try clear hfz64_1
              try clear hfz67_0
              try clear hfz67_1
              try clear hfz89_0
              try clear hfz89_1
              try clear hfz8_0
              try clear hfz8_1
              try clear hfz98_0
              try clear hfz98_1
              try clear p2
              obtain ⟨kq, x108_118, rfl, HA, HJ118, HO_198000, HO_198001, HO_205000, HO_205001, HO_216000, HO_216001, HO_255000, HO_255001, BK179, BK197, BK204, BK215, BK254, HB⟩ := hcut
              have hl216000_118 := (Kd.R_reads' HO_216000.out).1
              rw [hl216000_118] at HO_216000
              (try simp only [hl216000_118])
              (try simp only [hl216000_118] at BK179)
              (try simp only [hl216000_118] at BK197)
              (try simp only [hl216000_118] at BK204)
              (try simp only [hl216000_118] at BK215)
              (try simp only [hl216000_118] at BK254)
              (try simp only [hl216000_118] at HO_198000)
              (try simp only [hl216000_118] at HO_198001)
              (try simp only [hl216000_118] at HO_205000)
              (try simp only [hl216000_118] at HO_205001)
              (try simp only [hl216000_118] at HO_216001)
              (try simp only [hl216000_118] at HO_255000)
              (try simp only [hl216000_118] at HO_255001)
              have hl216001_118 := (Kd.R_reads' HO_216001.out).1
              rw [hl216001_118] at HO_216001
              (try simp only [hl216001_118])
              (try simp only [hl216001_118] at BK179)
              (try simp only [hl216001_118] at BK197)
              (try simp only [hl216001_118] at BK204)
              (try simp only [hl216001_118] at BK215)
              (try simp only [hl216001_118] at BK254)
              (try simp only [hl216001_118] at HO_198000)
              (try simp only [hl216001_118] at HO_198001)
              (try simp only [hl216001_118] at HO_205000)
              (try simp only [hl216001_118] at HO_205001)
              (try simp only [hl216001_118] at HO_216000)
              (try simp only [hl216001_118] at HO_255000)
              (try simp only [hl216001_118] at HO_255001)
              cases kq with
              | zero => exact absurd HA.out (by simp [laws_FnExactDiskWrite.j2])
              | succ kj118 =>
               have H := HA.out
               clear HA
               simp only [laws_FnExactDiskWrite.j2] at H
               by_cases c166 : x108_118 = true
               ·subst c166
                have H1 : (some false) = some r := by rw [if_pos rfl] at H; exact H
                clear H
                have H := H1
                clear H1
                exact absurd ((Option.some.inj H).trans HR.out) (by decide)
               ·replace c166 := Bool.eq_false_iff.mpr c166
                subst c166
                have H1 : ((laws_heldDisk.f kj118 t235 t236 1).bind fun t256 => (if t256 < 0 then (some false) else (if t256 = t234 then (some true) else (some false)))) = some r := by rw [if_neg (show ¬ (false = true) by decide)] at H; exact H
                clear H
                have H := H1
                clear H1
                replace H := Option.bind_eq_some_iff.mp H
                obtain ⟨t256, A1670, H⟩ := H
                replace H : (if t256 < 0 then (some false) else (if t256 = t234 then (some true) else (some false))) = some r := H
                have A167 := Aside0.mk A1670
                clear A1670
                by_cases c168 : t256 < 0
                ·rw [if_pos c168] at H
                 have c168b0 : decide (t256 < 0) = true := decide_eq_true c168
                 clear c168
                 exact absurd ((Option.some.inj H).trans HR.out) (by decide)
                ·rw [if_neg c168] at H
                 have c168b0 : decide (t256 < 0) = false := decide_eq_false c168
                 clear c168
                 by_cases c169 : t256 = t234
                 ·rw [if_pos c169] at H
                  have c169b0 : (t256 == t234) = true := beq_iff_eq.mpr c169
                  have c169b1 : (t256 != t234) = false := bne_eq_false_iff_eq.mpr c169
                  clear c169
                  obtain rfl := Option.some.inj H
                  have hnb170 := NB215_179.out
                  have hnc170 := NB179_215.out
                  have hnb171 := NB215_197.out
                  have hnc171 := NB197_215.out
                  have hnb172 := NB215_204.out
                  have hnc172 := NB204_215.out
                  have hnb173 := NB215_254.out
                  have hnc173 := NB254_215.out
                  have hcz174_0 : wc.cell? ⟨gb215, 0, none⟩ = some (.slice Ao45 t235.length co45) := (blk_cell BK215.out 0).trans rfl
                  have hcz174_1 : wc.cell? ⟨gb215, 1, none⟩ = some (.slice Ao50 t236.length co50) := (blk_cell BK215.out 1).trans rfl
                  have hfz174_0 := blk_frozen BK215.out 0
                  have hfz174_1 := blk_frozen BK215.out 1
                  go_wp2_with (first | ((with_reducible refine gate_callee (f := 40) rfl ?_); refine goesL_ (some 111) rfl rfl Try.func40 (by kernel_rfl) rfl #[.agg #[.slice Ao45 t235.length co45, .slice Ao50 t236.length co50], .int .i64 1] rfl (by (try simp only [List.map_toArray, List.map_cons, List.map_nil]); first | done | rfl | (simp only [List.length_drop, List.length_take]; rfl)) ?_; (with_reducible refine (laws_heldDisk.calls kj118 _ _ t235 _ _ t236 1 t256 _ ?side1 ?side2 ?side3 ?side4 A167.out).mono ?_); (case side1 => repeat (first | exact (Kd.R_reads' HO_216000.out).2.2 | (with_reducible refine Kd.C_alloc ?_ _) | (with_reducible refine Kd.C_drewN ?_ _) | (with_reducible refine Kd.C_drew ?_))); (case side2 => exact (Kd.R_reads' HO_216000.out).2.1); (case side3 => repeat (first | exact (Kd.R_reads' HO_216001.out).2.2 | (with_reducible refine Kd.C_alloc ?_ _) | (with_reducible refine Kd.C_drewN ?_ _) | (with_reducible refine Kd.C_drew ?_))); (case side4 => exact (Kd.R_reads' HO_216001.out).2.1); rintro e w175 ⟨rfl, hb⟩; refine ⟨_, rfl, ?_⟩; have n0_ := k0 (Kd.R_below (kR HO_198000.out) hb); have n1_ := k0 (Kd.R_below (kR HO_198001.out) hb); have n2_ := k0 (Kd.R_below (kR HO_205000.out) hb); have n3_ := k0 (Kd.R_below (kR HO_205001.out) hb); have n4_ := k0 (Kd.R_below (kR HO_216000.out) hb); have n5_ := k0 (Kd.R_below (kR HO_216001.out) hb); have n6_ := k0 (Kd.R_below (kR HO_255000.out) hb); have n7_ := k0 (Kd.R_below (kR HO_255001.out) hb); have n8_ := k0 (kb BK179.out hb); have n9_ := k0 (kb BK197.out hb); have n10_ := k0 (kb BK204.out hb); have n11_ := k0 (kb BK215.out hb); have n12_ := k0 (kb BK254.out hb); have n13_ := k0 (below_step (kW HB.out) hb); clear HO_198000; clear HO_198001; clear HO_205000; clear HO_205001; clear HO_216000; clear HO_216001; clear HO_255000; clear HO_255001; clear BK179; clear BK197; clear BK204; clear BK215; clear BK254; clear HB; have HO_198000 := n0_; have HO_198001 := n1_; have HO_205000 := n2_; have HO_205001 := n3_; have HO_216000 := n4_; have HO_216001 := n5_; have HO_255000 := n6_; have HO_255001 := n7_; have BK179 := n8_; have BK197 := n9_; have BK204 := n10_; have BK215 := n11_; have BK254 := n12_; have HB := n13_; clear n0_ n1_ n2_ n3_ n4_ n5_ n6_ n7_ n8_ n9_ n10_ n11_ n12_ n13_; (try clear hb); (try clear hb2); (try clear hk); (try clear hi)))
                  go_ret
                  exact ⟨by first | rfl | (simp [errW_none, errW_some] <;> rfl) | (simp [*, errW_none, errW_some] <;> rfl), by repeat (first | (with_reducible first | exact HB.out | apply below_alloc | apply pw_below_drewN | apply below_drew1 | refine below_set ?_ GE179.out | refine below_set ?_ GE197.out | refine below_set ?_ GE204.out | refine below_set ?_ GE215.out | refine below_set ?_ GE254.out) | exact HB.out)⟩
                 ·rw [if_neg c169] at H
                  have c169b0 : (t256 == t234) = false := beq_eq_false_iff_ne.mpr c169
                  have c169b1 : (t256 != t234) = true := bne_iff_ne.mpr c169
                  exact absurd ((Option.some.inj H).trans HR.out) (by decide)
            ·rw [if_neg c115] at H
             have c115b0 : (t237 == t234) = false := beq_eq_false_iff_ne.mpr c115
             have c115b1 : (t237 != t234) = true := bne_iff_ne.mpr c115
             exact absurd ((Option.some.inj H).trans HR.out) (by decide)
       ·replace c75 := Bool.eq_false_iff.mpr c75
        subst c75
        have H1 : (some false) = some r := by rw [if_neg (show ¬ (false = true) by decide)] at H; exact H
        clear H
        have H := H1
        clear H1
        exact absurd ((Option.some.inj H).trans HR.out) (by decide)
      ·replace c72 := Bool.eq_false_iff.mpr c72
       subst c72
       have H1 : (some false) = some r := by rw [if_neg (show ¬ (false = true) by decide)] at H; exact H
       clear H
       have H := H1
       clear H1
       exact absurd ((Option.some.inj H).trans HR.out) (by decide)

end Go.Proofs.Ytnejpihjlkpcgaa.PFnExactDiskWrite
