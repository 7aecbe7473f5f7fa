import Derived.Test.YtnejpihjlkpcgaaPFnDiskx0
import Derived.Test.YtnejpihjlkpcgaaPFnDiskx1
import Derived.Test.YtnejpihjlkpcgaaPFnDiskx2
namespace Go.Proofs.Ytnejpihjlkpcgaa.PFnDisk
open Go.RowKit Go.Proofs.YtnejpihjlkpcgaaW.PrintWords Go.Proofs.YtnejpihjlkpcgaaW.PrintLast Go.Proofs.YtnejpihjlkpcgaaW.PrintMore
attribute [local go_sem] max2_int min2_int max_two min_two max_three min_three max_four min_four   -- for this text's walks alone
set_option linter.unusedVariables false
set_option linter.unusedSimpArgs false

/-! ### laws_FnDisk: function 6 -/
def laws_FnDisk.f (k : Nat) (l0 : List Int) : Option (Bool) := if (l0.length : Int) > 1048576 then (some true) else ((spec_MakeBytes.f k l0 9).bind fun t203 => ((spec_MakeBytes.f k l0 7).bind fun t206 => ((impl_DiskWrite.f t203 ([] : List Int) t206).bind fun bt209 => ((spec_MakeNum.f k l0 (wrap64 ((t206.length : Int) + 1))).bind fun t217 => ((impl_DiskFall.f bt209.1 bt209.2.1 t217).bind fun bt218 => ((impl_DiskSync.f bt209.1 bt209.2.1).bind fun bt225 => ((impl_DiskReset.f bt225.1 bt225.2 t206).bind fun bt232 => ((impl_DiskReset.f bt209.1 bt209.2.1 t206).bind fun bt240 => ((some (([] : List Int) : List Int)).bind fun y248 => (if y248.length + t203.length < 140737488355328 then ((some (y248 ++ t203 : List Int)).bind fun y251 => (if y251.length + t206.length < 140737488355328 then ((some (y251 ++ t206 : List Int)).bind fun y254 => (if bt209.2.2 = true then ((impl_DiskOk.f bt209.1 bt209.2.1).bind fun t257 => (if t257 = true then ((impl_DiskAll.f bt209.1 bt209.2.1).bind fun t258 => ((impl_SameBytes.f t258 y254).bind fun t261 => (if t261 = true then (if 0 ≤ (wrap64 ((t203.length : Int) + t217)) then (if (wrap64 ((t203.length : Int) + t217)) ≤ (y254.length : Int) then ((impl_SameBytes.f bt218.1 (y254.take ((wrap64 ((t203.length : Int) + t217)) : Int).toNat)).bind fun t266 => (if t266 = true then (if (bt218.2.length : Int) = 0 then ((impl_SameBytes.f bt225.1 y254).bind fun t267 => (if t267 = true then (if bt232.2.2 = true then ((impl_SameBytes.f bt232.1 t206).bind fun t268 => (if t268 = true then (if (bt240.2.2 == ((t206.length : Int) == 0)) = true then ((impl_DiskFall.f bt209.1 bt209.2.1 (t206.length : Int)).bind fun bt269 => ((impl_DiskSame.f bt225.1 bt225.2 bt269.1 bt269.2).bind fun t275 => (some t275))) else (some false)) else (some false))) else (some false)) else (some false))) else (some false)) else (some false))) else (none)) else (none)) else (some false)))) else (some false))) else (some false))) else (none))) else (none)))))))))))
theorem laws_FnDisk.mono : ∀ a0 k, LeO (laws_FnDisk.f k a0) (laws_FnDisk.f (k + 1) a0) := by
  intro a0 k
  unfold laws_FnDisk.f
  repeat' first
      | (with_reducible exact spec_MakeBytes.mono _ _ _)
      | (with_reducible exact spec_MakeNum.mono _ _ _)
      | (with_reducible exact LeO.refl _)
      | (with_reducible exact LeO.none _)
      | (with_reducible refine LeO.ite ?_ ?_)
      | (with_reducible refine LeO.bind ?_ (fun _ => ?_))
      | exact spec_MakeBytes.mono _ _ _
      | exact spec_MakeNum.mono _ _ _
      | exact LeO.none _
      | refine LeO.ite ?_ ?_
      | refine LeO.bind ?_ (fun _ => ?_)
def laws_FnDisk.T12 : Bool × List (List Nat × List Nat) := (true, [([], []), ([0], [0]), ([1], [1]), ([2, 1, 1], [1, 2]), ([1, 3], [1, 3]), ([4, 3], [4]), ([5], [5]), ([6, 5, 5], [5, 6]), ([5], [5]), ([7, 8, 7, 5], [5, 7, 8]), ([5, 9], [5, 9]), ([10, 9], [10]), ([11], [11]), ([12, 11], [11, 12]), ([11], [11]), ([11], [11]), ([15, 11], [11, 15]), ([11], [11]), ([16, 17, 11], [11, 16, 17]), ([14, 18, 11], [11, 14, 18]), ([13, 19, 11, 11], [11, 13, 19]), ([11, 20], [11, 20]), ([21, 20], [21]), ([22], [22]), ([23, 22], [22, 23]), ([24, 22], [22, 24]), ([25, 22], [22, 25]), ([22, 26], [22, 26]), ([27, 22], [27]), ([28], [28]), ([29, 28], [28, 29]), ([28], [28]), ([30, 31, 28, 28], [28, 30, 31]), ([28, 32], [28, 32]), ([33, 32], [33]), ([34], [34]), ([34, 35], [34, 35]), ([36, 34], [36]), ([37], [37]), ([38, 37], [37, 38]), ([37], [37]), ([39, 40, 37, 37], [37, 39, 40]), ([37, 41], [37, 41]), ([42, 41], [42]), ([43], [43]), ([43], [43]), ([45, 43], [43, 45]), ([46, 43], [43, 46]), ([44, 47, 43], [43, 44, 47]), ([43, 48], [43, 48]), ([49, 43], [49]), ([50], [50]), ([50], [50]), ([50], [50]), ([53, 50], [50, 53]), ([52, 54, 50, 50], [50, 52, 54]), ([51, 55, 55, 50], [50, 51, 55]), ([50, 56], [50, 56]), ([57, 56, 0, 1, 2, 3, 4, 5, 6, 7, 8, 9, 10, 11, 12, 13, 14, 15, 16, 17, 18, 19, 20, 21, 22, 23, 24, 25, 26, 27, 28, 29, 30, 31, 32, 33, 34, 35, 36, 37, 38, 39, 40, 41, 42, 43, 44, 45, 46, 47, 48, 49, 50, 51, 52, 53, 54, 55, 56, 57], [57])])
def laws_FnDisk.B12 : List Nat := [0, 1, 3, 7, 15, 31, 63, 127, 63, 511, 1023, 2047, 4095, 8191, 4095, 4095, 36863, 4095, 233471, 511999, 1048575, 2097151, 4194303, 8388607, 16777215, 33554431, 67108863, 134217727, 268435455, 536870911, 1073741823, 536870911, 4294967295, 8589934591, 17179869183, 34359738367, 68719476735, 137438953471, 274877906943, 549755813887, 274877906943, 2199023255551, 4398046511103, 8796093022207, 17592186044415, 17592186044415, 52776558133247, 123145302310911, 281474976710655, 562949953421311, 1125899906842623, 2251799813685247, 2251799813685247, 2251799813685247, 11258999068426239, 33776997205278719, 72057594037927935, 144115188075855871, 288230376151711743]
theorem laws_FnDisk.tab12 : rtab .any (opsOf Try.f6 12) = laws_FnDisk.T12 := by kernel_rfl
theorem laws_FnDisk.bits12 : waitsOk laws_FnDisk.T12.2 laws_FnDisk.B12 = true := by kernel_rfl
theorem k0 {p : Prop} (x : p) : Aside0 p := ⟨x⟩
/-- What was known of an older world is known of this one. -/
theorem kR {p q : Prop} (x : p) (h : p → q := by intro x; (with_reducible repeat (first | apply Kd.R_alloc | apply Kd.R_drewN | apply Kd.R_drew)); exact x) : q := h x
theorem kB {p q : Prop} (x : p) (h : p → q := by intro x; (with_reducible repeat (first | refine blk_drewN ?_ _ | refine blk_drew ?_ | refine blk_alloc ?_ _)); exact x) : q := h x
theorem kW {p q : Prop} (x : p) (h : p → q := by intro x; repeat (first | (with_reducible first | exact x | apply below_alloc | apply pw_below_drewN | apply below_drew1 | refine below_set ?_ (Aside0.out (by assumption))) | exact x)) : q := h x
theorem kb {w0 w w' : World} {g : Nat} {o : Obj} (x : w0.heap[g]? = some o) (hb : Below w.heap.size w w') (h : w0.heap[g]? = some o → w.heap[g]? = some o := by intro x; (with_reducible repeat (first | refine blk_drewN ?_ _ | refine blk_drew ?_ | refine blk_alloc ?_ _)); exact x) : w'.heap[g]? = some o := blk_below (h x) hb
theorem kK {w0 W W2 : World} {S : Nat → Prop} {g : Nat} {o : Obj} (x : w0.heap[g]? = some o) (hk : Kept W W2 S) (hne : ¬ S g) (h : w0.heap[g]? = some o → W.heap[g]? = some o := by intro x; (with_reducible repeat (first | refine blk_drewN ?_ _ | refine blk_drew ?_ | refine blk_alloc ?_ _)); exact x) : W2.heap[g]? = some o := blk_kept (h x) hk hne
theorem kl {w0 w : World} {g g' : Nat} {o : Obj} (x : w0.heap[g]? = some o) (hg : g' = w.heap.size) (h : w0.heap[g]? = some o → w.heap[g]? = some o := by intro x; (with_reducible repeat (first | refine blk_drewN ?_ _ | refine blk_drew ?_ | refine blk_alloc ?_ _)); exact x) : g ≠ g' := by rw [hg]; exact Nat.ne_of_lt (blk_lt (h x))
theorem kg {w0 w : World} {g g' : Nat} {o : Obj} (x : w0.heap[g]? = some o) (hg : g' = w.heap.size) (h : w0.heap[g]? = some o → w.heap[g]? = some o := by intro x; (with_reducible repeat (first | refine blk_drewN ?_ _ | refine blk_drew ?_ | refine blk_alloc ?_ _)); exact x) : g' ≠ g := by rw [hg]; exact Nat.ne_of_gt (blk_lt (h x))
set_option maxHeartbeats 8000000 in
set_option maxRecDepth 100000 in
theorem laws_FnDisk.calls (k : Nat) (A0 : Option Addr) (c0 : Nat) (l0 : List Int) (r : Bool) (w : World) (hr0 : Kd.C (Kd.int .u8) w A0 l0.length l0) (hc0 : l0.length ≤ c0) (HR : Aside0 (r = true)) (h : laws_FnDisk.f k l0 = some r) :
  Calls Try.prog 6 #[.slice A0 l0.length c0] w fun e w' => e = .returned (.bool r) ∧ Below w.heap.size w w' := by
 have hu35 := Try.underlying35
 have HR0 := Aside0.mk hr0
 have HC0 := Aside0.mk hc0
 clear hr0 hc0
 have HB := k0 (Below.refl w.heap.size w)
 have H : (if (l0.length : Int) > 1048576 then (some true) else ((spec_MakeBytes.f k l0 9).bind fun t203 => ((spec_MakeBytes.f k l0 7).bind fun t206 => ((impl_DiskWrite.f t203 ([] : List Int) t206).bind fun bt209 => ((spec_MakeNum.f k l0 (wrap64 ((t206.length : Int) + 1))).bind fun t217 => ((impl_DiskFall.f bt209.1 bt209.2.1 t217).bind fun bt218 => ((impl_DiskSync.f bt209.1 bt209.2.1).bind fun bt225 => ((impl_DiskReset.f bt225.1 bt225.2 t206).bind fun bt232 => ((impl_DiskReset.f bt209.1 bt209.2.1 t206).bind fun bt240 => ((some (([] : List Int) : List Int)).bind fun y248 => (if y248.length + t203.length < 140737488355328 then ((some (y248 ++ t203 : List Int)).bind fun y251 => (if y251.length + t206.length < 140737488355328 then ((some (y251 ++ t206 : List Int)).bind fun y254 => (if bt209.2.2 = true then ((impl_DiskOk.f bt209.1 bt209.2.1).bind fun t257 => (if t257 = true then ((impl_DiskAll.f bt209.1 bt209.2.1).bind fun t258 => ((impl_SameBytes.f t258 y254).bind fun t261 => (if t261 = true then (if 0 ≤ (wrap64 ((t203.length : Int) + t217)) then (if (wrap64 ((t203.length : Int) + t217)) ≤ (y254.length : Int) then ((impl_SameBytes.f bt218.1 (y254.take ((wrap64 ((t203.length : Int) + t217)) : Int).toNat)).bind fun t266 => (if t266 = true then (if (bt218.2.length : Int) = 0 then ((impl_SameBytes.f bt225.1 y254).bind fun t267 => (if t267 = true then (if bt232.2.2 = true then ((impl_SameBytes.f bt232.1 t206).bind fun t268 => (if t268 = true then (if (bt240.2.2 == ((t206.length : Int) == 0)) = true then ((impl_DiskFall.f bt209.1 bt209.2.1 (t206.length : Int)).bind fun bt269 => ((impl_DiskSame.f bt225.1 bt225.2 bt269.1 bt269.2).bind fun t275 => (some t275))) else (some false)) else (some false))) else (some false)) else (some false))) else (some false)) else (some false))) else (none)) else (none)) else (some false)))) else (some false))) else (some false))) else (none))) else (none)))))))))))) = some r := h
 clear h
 by_cases c2 : (l0.length : Int) > 1048576
 ·rw [if_pos c2] at H
  have c2b0 : decide (1048576 < (l0.length : Int)) = true := decide_eq_true c2
  have c2b1 : decide (1048576 < l0.length) = true := decide_eq_true (by omega)
  clear c2
  obtain rfl := Option.some.inj H
  go_enter Try.func6, Try.ntmps6
  go_wp2
  go_ret
  exact ⟨by first | rfl | (simp [errW_none, errW_some] <;> rfl) | (simp [*, errW_none, errW_some] <;> rfl), by repeat (first | (with_reducible first | exact HB.out | apply below_alloc | apply pw_below_drewN | apply below_drew1) | exact HB.out)⟩
 ·rw [if_neg c2] at H
  have c2b0 : decide (1048576 < (l0.length : Int)) = false := decide_eq_false c2
  have c2b1 : decide (1048576 < l0.length) = false := decide_eq_false (by omega)
  clear c2
  replace H := Option.bind_eq_some_iff.mp H
  obtain ⟨t203, A30, H⟩ := H
  replace H : ((spec_MakeBytes.f k l0 7).bind fun t206 => ((impl_DiskWrite.f t203 ([] : List Int) t206).bind fun bt209 => ((spec_MakeNum.f k l0 (wrap64 ((t206.length : Int) + 1))).bind fun t217 => ((impl_DiskFall.f bt209.1 bt209.2.1 t217).bind fun bt218 => ((impl_DiskSync.f bt209.1 bt209.2.1).bind fun bt225 => ((impl_DiskReset.f bt225.1 bt225.2 t206).bind fun bt232 => ((impl_DiskReset.f bt209.1 bt209.2.1 t206).bind fun bt240 => ((some (([] : List Int) : List Int)).bind fun y248 => (if y248.length + t203.length < 140737488355328 then ((some (y248 ++ t203 : List Int)).bind fun y251 => (if y251.length + t206.length < 140737488355328 then ((some (y251 ++ t206 : List Int)).bind fun y254 => (if bt209.2.2 = true then ((impl_DiskOk.f bt209.1 bt209.2.1).bind fun t257 => (if t257 = true then ((impl_DiskAll.f bt209.1 bt209.2.1).bind fun t258 => ((impl_SameBytes.f t258 y254).bind fun t261 => (if t261 = true then (if 0 ≤ (wrap64 ((t203.length : Int) + t217)) then (if (wrap64 ((t203.length : Int) + t217)) ≤ (y254.length : Int) then ((impl_SameBytes.f bt218.1 (y254.take ((wrap64 ((t203.length : Int) + t217)) : Int).toNat)).bind fun t266 => (if t266 = true then (if (bt218.2.length : Int) = 0 then ((impl_SameBytes.f bt225.1 y254).bind fun t267 => (if t267 = true then (if bt232.2.2 = true then ((impl_SameBytes.f bt232.1 t206).bind fun t268 => (if t268 = true then (if (bt240.2.2 == ((t206.length : Int) == 0)) = true then ((impl_DiskFall.f bt209.1 bt209.2.1 (t206.length : Int)).bind fun bt269 => ((impl_DiskSame.f bt225.1 bt225.2 bt269.1 bt269.2).bind fun t275 => (some t275))) else (some false)) else (some false))) else (some false)) else (some false))) else (some false)) else (some false))) else (none)) else (none)) else (some false)))) else (some false))) else (some false))) else (none))) else (none)))))))))) = some r := H
  have A3 := Aside0.mk A30
  clear A30
  replace H := Option.bind_eq_some_iff.mp H
  obtain ⟨t206, A40, H⟩ := H
  replace H : ((impl_DiskWrite.f t203 ([] : List Int) t206).bind fun bt209 => ((spec_MakeNum.f k l0 (wrap64 ((t206.length : Int) + 1))).bind fun t217 => ((impl_DiskFall.f bt209.1 bt209.2.1 t217).bind fun bt218 => ((impl_DiskSync.f bt209.1 bt209.2.1).bind fun bt225 => ((impl_DiskReset.f bt225.1 bt225.2 t206).bind fun bt232 => ((impl_DiskReset.f bt209.1 bt209.2.1 t206).bind fun bt240 => ((some (([] : List Int) : List Int)).bind fun y248 => (if y248.length + t203.length < 140737488355328 then ((some (y248 ++ t203 : List Int)).bind fun y251 => (if y251.length + t206.length < 140737488355328 then ((some (y251 ++ t206 : List Int)).bind fun y254 => (if bt209.2.2 = true then ((impl_DiskOk.f bt209.1 bt209.2.1).bind fun t257 => (if t257 = true then ((impl_DiskAll.f bt209.1 bt209.2.1).bind fun t258 => ((impl_SameBytes.f t258 y254).bind fun t261 => (if t261 = true then (if 0 ≤ (wrap64 ((t203.length : Int) + t217)) then (if (wrap64 ((t203.length : Int) + t217)) ≤ (y254.length : Int) then ((impl_SameBytes.f bt218.1 (y254.take ((wrap64 ((t203.length : Int) + t217)) : Int).toNat)).bind fun t266 => (if t266 = true then (if (bt218.2.length : Int) = 0 then ((impl_SameBytes.f bt225.1 y254).bind fun t267 => (if t267 = true then (if bt232.2.2 = true then ((impl_SameBytes.f bt232.1 t206).bind fun t268 => (if t268 = true then (if (bt240.2.2 == ((t206.length : Int) == 0)) = true then ((impl_DiskFall.f bt209.1 bt209.2.1 (t206.length : Int)).bind fun bt269 => ((impl_DiskSame.f bt225.1 bt225.2 bt269.1 bt269.2).bind fun t275 => (some t275))) else (some false)) else (some false))) else (some false)) else (some false))) else (some false)) else (some false))) else (none)) else (none)) else (some false)))) else (some false))) else (some false))) else (none))) else (none))))))))) = some r := H
  have A4 := Aside0.mk A40
  clear A40
  replace H := Option.bind_eq_some_iff.mp H
  obtain ⟨⟨t209, t212, t215⟩, A50, H⟩ := H
  replace H : ((spec_MakeNum.f k l0 (wrap64 ((t206.length : Int) + 1))).bind fun t217 => ((impl_DiskFall.f t209 t212 t217).bind fun bt218 => ((impl_DiskSync.f t209 t212).bind fun bt225 => ((impl_DiskReset.f bt225.1 bt225.2 t206).bind fun bt232 => ((impl_DiskReset.f t209 t212 t206).bind fun bt240 => ((some (([] : List Int) : List Int)).bind fun y248 => (if y248.length + t203.length < 140737488355328 then ((some (y248 ++ t203 : List Int)).bind fun y251 => (if y251.length + t206.length < 140737488355328 then ((some (y251 ++ t206 : List Int)).bind fun y254 => (if t215 = true then ((impl_DiskOk.f t209 t212).bind fun t257 => (if t257 = true then ((impl_DiskAll.f t209 t212).bind fun t258 => ((impl_SameBytes.f t258 y254).bind fun t261 => (if t261 = true then (if 0 ≤ (wrap64 ((t203.length : Int) + t217)) then (if (wrap64 ((t203.length : Int) + t217)) ≤ (y254.length : Int) then ((impl_SameBytes.f bt218.1 (y254.take ((wrap64 ((t203.length : Int) + t217)) : Int).toNat)).bind fun t266 => (if t266 = true then (if (bt218.2.length : Int) = 0 then ((impl_SameBytes.f bt225.1 y254).bind fun t267 => (if t267 = true then (if bt232.2.2 = true then ((impl_SameBytes.f bt232.1 t206).bind fun t268 => (if t268 = true then (if (bt240.2.2 == ((t206.length : Int) == 0)) = true then ((impl_DiskFall.f t209 t212 (t206.length : Int)).bind fun bt269 => ((impl_DiskSame.f bt225.1 bt225.2 bt269.1 bt269.2).bind fun t275 => (some t275))) else (some false)) else (some false))) else (some false)) else (some false))) else (some false)) else (some false))) else (none)) else (none)) else (some false)))) else (some false))) else (some false))) else (none))) else (none)))))))) = some r := H
  have A5 := Aside0.mk A50
  clear A50
  replace H := Option.bind_eq_some_iff.mp H
  obtain ⟨t217, A60, H⟩ := H
  replace H : ((impl_DiskFall.f t209 t212 t217).bind fun bt218 => ((impl_DiskSync.f t209 t212).bind fun bt225 => ((impl_DiskReset.f bt225.1 bt225.2 t206).bind fun bt232 => ((impl_DiskReset.f t209 t212 t206).bind fun bt240 => ((some (([] : List Int) : List Int)).bind fun y248 => (if y248.length + t203.length < 140737488355328 then ((some (y248 ++ t203 : List Int)).bind fun y251 => (if y251.length + t206.length < 140737488355328 then ((some (y251 ++ t206 : List Int)).bind fun y254 => (if t215 = true then ((impl_DiskOk.f t209 t212).bind fun t257 => (if t257 = true then ((impl_DiskAll.f t209 t212).bind fun t258 => ((impl_SameBytes.f t258 y254).bind fun t261 => (if t261 = true then (if 0 ≤ (wrap64 ((t203.length : Int) + t217)) then (if (wrap64 ((t203.length : Int) + t217)) ≤ (y254.length : Int) then ((impl_SameBytes.f bt218.1 (y254.take ((wrap64 ((t203.length : Int) + t217)) : Int).toNat)).bind fun t266 => (if t266 = true then (if (bt218.2.length : Int) = 0 then ((impl_SameBytes.f bt225.1 y254).bind fun t267 => (if t267 = true then (if bt232.2.2 = true then ((impl_SameBytes.f bt232.1 t206).bind fun t268 => (if t268 = true then (if (bt240.2.2 == ((t206.length : Int) == 0)) = true then ((impl_DiskFall.f t209 t212 (t206.length : Int)).bind fun bt269 => ((impl_DiskSame.f bt225.1 bt225.2 bt269.1 bt269.2).bind fun t275 => (some t275))) else (some false)) else (some false))) else (some false)) else (some false))) else (some false)) else (some false))) else (none)) else (none)) else (some false)))) else (some false))) else (some false))) else (none))) else (none))))))) = some r := H
  have A6 := Aside0.mk A60
  clear A60
  replace H := Option.bind_eq_some_iff.mp H
  obtain ⟨⟨t218, t221⟩, A70, H⟩ := H
  replace H : ((impl_DiskSync.f t209 t212).bind fun bt225 => ((impl_DiskReset.f bt225.1 bt225.2 t206).bind fun bt232 => ((impl_DiskReset.f t209 t212 t206).bind fun bt240 => ((some (([] : List Int) : List Int)).bind fun y248 => (if y248.length + t203.length < 140737488355328 then ((some (y248 ++ t203 : List Int)).bind fun y251 => (if y251.length + t206.length < 140737488355328 then ((some (y251 ++ t206 : List Int)).bind fun y254 => (if t215 = true then ((impl_DiskOk.f t209 t212).bind fun t257 => (if t257 = true then ((impl_DiskAll.f t209 t212).bind fun t258 => ((impl_SameBytes.f t258 y254).bind fun t261 => (if t261 = true then (if 0 ≤ (wrap64 ((t203.length : Int) + t217)) then (if (wrap64 ((t203.length : Int) + t217)) ≤ (y254.length : Int) then ((impl_SameBytes.f t218 (y254.take ((wrap64 ((t203.length : Int) + t217)) : Int).toNat)).bind fun t266 => (if t266 = true then (if (t221.length : Int) = 0 then ((impl_SameBytes.f bt225.1 y254).bind fun t267 => (if t267 = true then (if bt232.2.2 = true then ((impl_SameBytes.f bt232.1 t206).bind fun t268 => (if t268 = true then (if (bt240.2.2 == ((t206.length : Int) == 0)) = true then ((impl_DiskFall.f t209 t212 (t206.length : Int)).bind fun bt269 => ((impl_DiskSame.f bt225.1 bt225.2 bt269.1 bt269.2).bind fun t275 => (some t275))) else (some false)) else (some false))) else (some false)) else (some false))) else (some false)) else (some false))) else (none)) else (none)) else (some false)))) else (some false))) else (some false))) else (none))) else (none)))))) = some r := H
  have A7 := Aside0.mk A70
  clear A70
  replace H := Option.bind_eq_some_iff.mp H
  obtain ⟨⟨t225, t228⟩, A80, H⟩ := H
  replace H : ((impl_DiskReset.f t225 t228 t206).bind fun bt232 => ((impl_DiskReset.f t209 t212 t206).bind fun bt240 => ((some (([] : List Int) : List Int)).bind fun y248 => (if y248.length + t203.length < 140737488355328 then ((some (y248 ++ t203 : List Int)).bind fun y251 => (if y251.length + t206.length < 140737488355328 then ((some (y251 ++ t206 : List Int)).bind fun y254 => (if t215 = true then ((impl_DiskOk.f t209 t212).bind fun t257 => (if t257 = true then ((impl_DiskAll.f t209 t212).bind fun t258 => ((impl_SameBytes.f t258 y254).bind fun t261 => (if t261 = true then (if 0 ≤ (wrap64 ((t203.length : Int) + t217)) then (if (wrap64 ((t203.length : Int) + t217)) ≤ (y254.length : Int) then ((impl_SameBytes.f t218 (y254.take ((wrap64 ((t203.length : Int) + t217)) : Int).toNat)).bind fun t266 => (if t266 = true then (if (t221.length : Int) = 0 then ((impl_SameBytes.f t225 y254).bind fun t267 => (if t267 = true then (if bt232.2.2 = true then ((impl_SameBytes.f bt232.1 t206).bind fun t268 => (if t268 = true then (if (bt240.2.2 == ((t206.length : Int) == 0)) = true then ((impl_DiskFall.f t209 t212 (t206.length : Int)).bind fun bt269 => ((impl_DiskSame.f t225 t228 bt269.1 bt269.2).bind fun t275 => (some t275))) else (some false)) else (some false))) else (some false)) else (some false))) else (some false)) else (some false))) else (none)) else (none)) else (some false)))) else (some false))) else (some false))) else (none))) else (none))))) = some r := H
  have A8 := Aside0.mk A80
  clear A80
  replace H := Option.bind_eq_some_iff.mp H
  obtain ⟨⟨t232, t235, t238⟩, A90, H⟩ := H
  replace H : ((impl_DiskReset.f t209 t212 t206).bind fun bt240 => ((some (([] : List Int) : List Int)).bind fun y248 => (if y248.length + t203.length < 140737488355328 then ((some (y248 ++ t203 : List Int)).bind fun y251 => (if y251.length + t206.length < 140737488355328 then ((some (y251 ++ t206 : List Int)).bind fun y254 => (if t215 = true then ((impl_DiskOk.f t209 t212).bind fun t257 => (if t257 = true then ((impl_DiskAll.f t209 t212).bind fun t258 => ((impl_SameBytes.f t258 y254).bind fun t261 => (if t261 = true then (if 0 ≤ (wrap64 ((t203.length : Int) + t217)) then (if (wrap64 ((t203.length : Int) + t217)) ≤ (y254.length : Int) then ((impl_SameBytes.f t218 (y254.take ((wrap64 ((t203.length : Int) + t217)) : Int).toNat)).bind fun t266 => (if t266 = true then (if (t221.length : Int) = 0 then ((impl_SameBytes.f t225 y254).bind fun t267 => (if t267 = true then (if t238 = true then ((impl_SameBytes.f t232 t206).bind fun t268 => (if t268 = true then (if (bt240.2.2 == ((t206.length : Int) == 0)) = true then ((impl_DiskFall.f t209 t212 (t206.length : Int)).bind fun bt269 => ((impl_DiskSame.f t225 t228 bt269.1 bt269.2).bind fun t275 => (some t275))) else (some false)) else (some false))) else (some false)) else (some false))) else (some false)) else (some false))) else (none)) else (none)) else (some false)))) else (some false))) else (some false))) else (none))) else (none)))) = some r := H
  have A9 := Aside0.mk A90
  clear A90
  replace H := Option.bind_eq_some_iff.mp H
  obtain ⟨⟨t240, t243, t246⟩, A100, H⟩ := H
  replace H : ((some (([] : List Int) : List Int)).bind fun y248 => (if y248.length + t203.length < 140737488355328 then ((some (y248 ++ t203 : List Int)).bind fun y251 => (if y251.length + t206.length < 140737488355328 then ((some (y251 ++ t206 : List Int)).bind fun y254 => (if t215 = true then ((impl_DiskOk.f t209 t212).bind fun t257 => (if t257 = true then ((impl_DiskAll.f t209 t212).bind fun t258 => ((impl_SameBytes.f t258 y254).bind fun t261 => (if t261 = true then (if 0 ≤ (wrap64 ((t203.length : Int) + t217)) then (if (wrap64 ((t203.length : Int) + t217)) ≤ (y254.length : Int) then ((impl_SameBytes.f t218 (y254.take ((wrap64 ((t203.length : Int) + t217)) : Int).toNat)).bind fun t266 => (if t266 = true then (if (t221.length : Int) = 0 then ((impl_SameBytes.f t225 y254).bind fun t267 => (if t267 = true then (if t238 = true then ((impl_SameBytes.f t232 t206).bind fun t268 => (if t268 = true then (if (t246 == ((t206.length : Int) == 0)) = true then ((impl_DiskFall.f t209 t212 (t206.length : Int)).bind fun bt269 => ((impl_DiskSame.f t225 t228 bt269.1 bt269.2).bind fun t275 => (some t275))) else (some false)) else (some false))) else (some false)) else (some false))) else (some false)) else (some false))) else (none)) else (none)) else (some false)))) else (some false))) else (some false))) else (none))) else (none))) = some r := H
  have A10 := Aside0.mk A100
  clear A100
  obtain ⟨y248, hy248⟩ : ∃ y_ : List Int, y_ = (([] : List Int)) := ⟨_, rfl⟩
  replace H : (if y248.length + t203.length < 140737488355328 then ((some (y248 ++ t203 : List Int)).bind fun y251 => (if y251.length + t206.length < 140737488355328 then ((some (y251 ++ t206 : List Int)).bind fun y254 => (if t215 = true then ((impl_DiskOk.f t209 t212).bind fun t257 => (if t257 = true then ((impl_DiskAll.f t209 t212).bind fun t258 => ((impl_SameBytes.f t258 y254).bind fun t261 => (if t261 = true then (if 0 ≤ (wrap64 ((t203.length : Int) + t217)) then (if (wrap64 ((t203.length : Int) + t217)) ≤ (y254.length : Int) then ((impl_SameBytes.f t218 (y254.take ((wrap64 ((t203.length : Int) + t217)) : Int).toNat)).bind fun t266 => (if t266 = true then (if (t221.length : Int) = 0 then ((impl_SameBytes.f t225 y254).bind fun t267 => (if t267 = true then (if t238 = true then ((impl_SameBytes.f t232 t206).bind fun t268 => (if t268 = true then (if (t246 == ((t206.length : Int) == 0)) = true then ((impl_DiskFall.f t209 t212 (t206.length : Int)).bind fun bt269 => ((impl_DiskSame.f t225 t228 bt269.1 bt269.2).bind fun t275 => (some t275))) else (some false)) else (some false))) else (some false)) else (some false))) else (some false)) else (some false))) else (none)) else (none)) else (some false)))) else (some false))) else (some false))) else (none))) else (none)) = some r := by first | (rw [hy248]; with_reducible exact H) | (have H2_ := (Option.bind_some _ _).symm.trans H; rw [hy248]; with_reducible exact H2_) | (have H2_ := (Option.bind_some _ _).symm.trans H; with_reducible exact H2_) | with_reducible exact H | (rw [hy248]; exact H) | exact H
  have Ny248 := Aside0.mk hy248
  clear hy248
  by_cases c11 : y248.length + t203.length < 140737488355328
  ·rw [if_pos c11] at H
   have LMc11 := Aside0.mk c11
   clear c11
   obtain ⟨y251, hy251⟩ : ∃ y_ : List Int, y_ = (y248 ++ t203) := ⟨_, rfl⟩
   replace H : (if y251.length + t206.length < 140737488355328 then ((some (y251 ++ t206 : List Int)).bind fun y254 => (if t215 = true then ((impl_DiskOk.f t209 t212).bind fun t257 => (if t257 = true then ((impl_DiskAll.f t209 t212).bind fun t258 => ((impl_SameBytes.f t258 y254).bind fun t261 => (if t261 = true then (if 0 ≤ (wrap64 ((t203.length : Int) + t217)) then (if (wrap64 ((t203.length : Int) + t217)) ≤ (y254.length : Int) then ((impl_SameBytes.f t218 (y254.take ((wrap64 ((t203.length : Int) + t217)) : Int).toNat)).bind fun t266 => (if t266 = true then (if (t221.length : Int) = 0 then ((impl_SameBytes.f t225 y254).bind fun t267 => (if t267 = true then (if t238 = true then ((impl_SameBytes.f t232 t206).bind fun t268 => (if t268 = true then (if (t246 == ((t206.length : Int) == 0)) = true then ((impl_DiskFall.f t209 t212 (t206.length : Int)).bind fun bt269 => ((impl_DiskSame.f t225 t228 bt269.1 bt269.2).bind fun t275 => (some t275))) else (some false)) else (some false))) else (some false)) else (some false))) else (some false)) else (some false))) else (none)) else (none)) else (some false)))) else (some false))) else (some false))) else (none)) = some r := by first | (rw [hy251]; with_reducible exact H) | (have H2_ := (Option.bind_some _ _).symm.trans H; rw [hy251]; with_reducible exact H2_) | (have H2_ := (Option.bind_some _ _).symm.trans H; with_reducible exact H2_) | with_reducible exact H | (rw [hy251]; exact H) | exact H
   have Ny251 := Aside0.mk hy251
   clear hy251
   by_cases c12 : y251.length + t206.length < 140737488355328
   ·rw [if_pos c12] at H
    have LMc12 := Aside0.mk c12
    clear c12
    obtain ⟨y254, hy254⟩ : ∃ y_ : List Int, y_ = (y251 ++ t206) := ⟨_, rfl⟩
    replace H : (if t215 = true then ((impl_DiskOk.f t209 t212).bind fun t257 => (if t257 = true then ((impl_DiskAll.f t209 t212).bind fun t258 => ((impl_SameBytes.f t258 y254).bind fun t261 => (if t261 = true then (if 0 ≤ (wrap64 ((t203.length : Int) + t217)) then (if (wrap64 ((t203.length : Int) + t217)) ≤ (y254.length : Int) then ((impl_SameBytes.f t218 (y254.take ((wrap64 ((t203.length : Int) + t217)) : Int).toNat)).bind fun t266 => (if t266 = true then (if (t221.length : Int) = 0 then ((impl_SameBytes.f t225 y254).bind fun t267 => (if t267 = true then (if t238 = true then ((impl_SameBytes.f t232 t206).bind fun t268 => (if t268 = true then (if (t246 == ((t206.length : Int) == 0)) = true then ((impl_DiskFall.f t209 t212 (t206.length : Int)).bind fun bt269 => ((impl_DiskSame.f t225 t228 bt269.1 bt269.2).bind fun t275 => (some t275))) else (some false)) else (some false))) else (some false)) else (some false))) else (some false)) else (some false))) else (none)) else (none)) else (some false)))) else (some false))) else (some false)) = some r := by first | (rw [hy254]; with_reducible exact H) | (have H2_ := (Option.bind_some _ _).symm.trans H; rw [hy254]; with_reducible exact H2_) | (have H2_ := (Option.bind_some _ _).symm.trans H; with_reducible exact H2_) | with_reducible exact H | (rw [hy254]; exact H) | exact H
    have Ny254 := Aside0.mk hy254
    clear hy254
    by_cases c13 : t215 = true
    ·subst c13
     have H1 : ((impl_DiskOk.f t209 t212).bind fun t257 => (if t257 = true then ((impl_DiskAll.f t209 t212).bind fun t258 => ((impl_SameBytes.f t258 y254).bind fun t261 => (if t261 = true then (if 0 ≤ (wrap64 ((t203.length : Int) + t217)) then (if (wrap64 ((t203.length : Int) + t217)) ≤ (y254.length : Int) then ((impl_SameBytes.f t218 (y254.take ((wrap64 ((t203.length : Int) + t217)) : Int).toNat)).bind fun t266 => (if t266 = true then (if (t221.length : Int) = 0 then ((impl_SameBytes.f t225 y254).bind fun t267 => (if t267 = true then (if t238 = true then ((impl_SameBytes.f t232 t206).bind fun t268 => (if t268 = true then (if (t246 == ((t206.length : Int) == 0)) = true then ((impl_DiskFall.f t209 t212 (t206.length : Int)).bind fun bt269 => ((impl_DiskSame.f t225 t228 bt269.1 bt269.2).bind fun t275 => (some t275))) else (some false)) else (some false))) else (some false)) else (some false))) else (some false)) else (some false))) else (none)) else (none)) else (some false)))) else (some false))) = some r := by rw [if_pos rfl] at H; exact H
     clear H
     have H := H1
     clear H1
     replace H := Option.bind_eq_some_iff.mp H
     obtain ⟨t257, A140, H⟩ := H
     replace H : (if t257 = true then ((impl_DiskAll.f t209 t212).bind fun t258 => ((impl_SameBytes.f t258 y254).bind fun t261 => (if t261 = true then (if 0 ≤ (wrap64 ((t203.length : Int) + t217)) then (if (wrap64 ((t203.length : Int) + t217)) ≤ (y254.length : Int) then ((impl_SameBytes.f t218 (y254.take ((wrap64 ((t203.length : Int) + t217)) : Int).toNat)).bind fun t266 => (if t266 = true then (if (t221.length : Int) = 0 then ((impl_SameBytes.f t225 y254).bind fun t267 => (if t267 = true then (if t238 = true then ((impl_SameBytes.f t232 t206).bind fun t268 => (if t268 = true then (if (t246 == ((t206.length : Int) == 0)) = true then ((impl_DiskFall.f t209 t212 (t206.length : Int)).bind fun bt269 => ((impl_DiskSame.f t225 t228 bt269.1 bt269.2).bind fun t275 => (some t275))) else (some false)) else (some false))) else (some false)) else (some false))) else (some false)) else (some false))) else (none)) else (none)) else (some false)))) else (some false)) = some r := H
     have A14 := Aside0.mk A140
     clear A140
     by_cases c15 : t257 = true
     ·subst c15
      have H1 : ((impl_DiskAll.f t209 t212).bind fun t258 => ((impl_SameBytes.f t258 y254).bind fun t261 => (if t261 = true then (if 0 ≤ (wrap64 ((t203.length : Int) + t217)) then (if (wrap64 ((t203.length : Int) + t217)) ≤ (y254.length : Int) then ((impl_SameBytes.f t218 (y254.take ((wrap64 ((t203.length : Int) + t217)) : Int).toNat)).bind fun t266 => (if t266 = true then (if (t221.length : Int) = 0 then ((impl_SameBytes.f t225 y254).bind fun t267 => (if t267 = true then (if t238 = true then ((impl_SameBytes.f t232 t206).bind fun t268 => (if t268 = true then (if (t246 == ((t206.length : Int) == 0)) = true then ((impl_DiskFall.f t209 t212 (t206.length : Int)).bind fun bt269 => ((impl_DiskSame.f t225 t228 bt269.1 bt269.2).bind fun t275 => (some t275))) else (some false)) else (some false))) else (some false)) else (some false))) else (some false)) else (some false))) else (none)) else (none)) else (some false)))) = some r := by rw [if_pos rfl] at H; exact H
      clear H
      have H := H1
      clear H1
      replace H := Option.bind_eq_some_iff.mp H
      obtain ⟨t258, A160, H⟩ := H
      replace H : ((impl_SameBytes.f t258 y254).bind fun t261 => (if t261 = true then (if 0 ≤ (wrap64 ((t203.length : Int) + t217)) then (if (wrap64 ((t203.length : Int) + t217)) ≤ (y254.length : Int) then ((impl_SameBytes.f t218 (y254.take ((wrap64 ((t203.length : Int) + t217)) : Int).toNat)).bind fun t266 => (if t266 = true then (if (t221.length : Int) = 0 then ((impl_SameBytes.f t225 y254).bind fun t267 => (if t267 = true then (if t238 = true then ((impl_SameBytes.f t232 t206).bind fun t268 => (if t268 = true then (if (t246 == ((t206.length : Int) == 0)) = true then ((impl_DiskFall.f t209 t212 (t206.length : Int)).bind fun bt269 => ((impl_DiskSame.f t225 t228 bt269.1 bt269.2).bind fun t275 => (some t275))) else (some false)) else (some false))) else (some false)) else (some false))) else (some false)) else (some false))) else (none)) else (none)) else (some false))) = some r := H
      have A16 := Aside0.mk A160
      clear A160
      replace H := Option.bind_eq_some_iff.mp H
      obtain ⟨t261, A170, H⟩ := H
      replace H : (if t261 = true then (if 0 ≤ (wrap64 ((t203.length : Int) + t217)) then (if (wrap64 ((t203.length : Int) + t217)) ≤ (y254.length : Int) then ((impl_SameBytes.f t218 (y254.take ((wrap64 ((t203.length : Int) + t217)) : Int).toNat)).bind fun t266 => (if t266 = true then (if (t221.length : Int) = 0 then ((impl_SameBytes.f t225 y254).bind fun t267 => (if t267 = true then (if t238 = true then ((impl_SameBytes.f t232 t206).bind fun t268 => (if t268 = true then (if (t246 == ((t206.length : Int) == 0)) = true then ((impl_DiskFall.f t209 t212 (t206.length : Int)).bind fun bt269 => ((impl_DiskSame.f t225 t228 bt269.1 bt269.2).bind fun t275 => (some t275))) else (some false)) else (some false))) else (some false)) else (some false))) else (some false)) else (some false))) else (none)) else (none)) else (some false)) = some r := H
      have A17 := Aside0.mk A170
      clear A170
      by_cases c18 : t261 = true
      ·subst c18
       have H1 : (if 0 ≤ (wrap64 ((t203.length : Int) + t217)) then (if (wrap64 ((t203.length : Int) + t217)) ≤ (y254.length : Int) then ((impl_SameBytes.f t218 (y254.take ((wrap64 ((t203.length : Int) + t217)) : Int).toNat)).bind fun t266 => (if t266 = true then (if (t221.length : Int) = 0 then ((impl_SameBytes.f t225 y254).bind fun t267 => (if t267 = true then (if t238 = true then ((impl_SameBytes.f t232 t206).bind fun t268 => (if t268 = true then (if (t246 == ((t206.length : Int) == 0)) = true then ((impl_DiskFall.f t209 t212 (t206.length : Int)).bind fun bt269 => ((impl_DiskSame.f t225 t228 bt269.1 bt269.2).bind fun t275 => (some t275))) else (some false)) else (some false))) else (some false)) else (some false))) else (some false)) else (some false))) else (none)) else (none)) = some r := by rw [if_pos rfl] at H; exact H
       clear H
       have H := H1
       clear H1
       obtain ⟨ji19, hji19⟩ : ∃ j_ : Int, (wrap64 ((t203.length : Int) + t217)) = j_ := ⟨_, rfl⟩
       replace H : (if 0 ≤ (ji19) then (if (ji19) ≤ (y254.length : Int) then ((impl_SameBytes.f t218 (y254.take ((ji19) : Int).toNat)).bind fun t266 => (if t266 = true then (if (t221.length : Int) = 0 then ((impl_SameBytes.f t225 y254).bind fun t267 => (if t267 = true then (if t238 = true then ((impl_SameBytes.f t232 t206).bind fun t268 => (if t268 = true then (if (t246 == ((t206.length : Int) == 0)) = true then ((impl_DiskFall.f t209 t212 (t206.length : Int)).bind fun bt269 => ((impl_DiskSame.f t225 t228 bt269.1 bt269.2).bind fun t275 => (some t275))) else (some false)) else (some false))) else (some false)) else (some false))) else (some false)) else (some false))) else (none)) else (none)) = some r := by first | (rw [hji19] at H; exact H) | (simp only [hji19] at H ⊢; exact H)
       (try rw [hji19] at A3)
       (try rw [hji19] at A4)
       (try rw [hji19] at A5)
       (try rw [hji19] at A6)
       (try rw [hji19] at A7)
       (try rw [hji19] at A8)
       (try rw [hji19] at A9)
       (try rw [hji19] at A10)
       (try rw [hji19] at A14)
       (try rw [hji19] at A16)
       (try rw [hji19] at A17)
       have hji19w : (IntKind.i64.wrap ((t203.length : Int) + t217)) = ji19 := (i64_w _).trans hji19
       by_cases c20 : 0 ≤ (ji19)
       ·rw [if_pos c20] at H
        have c20b0 := eq_true c20
        have c20b1 : decide (0 ≤ (ji19)) = true := decide_eq_true c20
        clear c20
        by_cases c21 : (ji19) ≤ (y254.length : Int)
        ·rw [if_pos c21] at H
         have c21b0 := eq_true c21
         have c21b1 : decide ((ji19) ≤ (y254.length : Int)) = true := decide_eq_true c21
         clear c21
         obtain ⟨y262, hy262⟩ : ∃ y_ : List Int, y_ = (y254.take ((ji19) : Int).toNat) := ⟨_, rfl⟩
         replace H : ((impl_SameBytes.f t218 y262).bind fun t266 => (if t266 = true then (if (t221.length : Int) = 0 then ((impl_SameBytes.f t225 y254).bind fun t267 => (if t267 = true then (if t238 = true then ((impl_SameBytes.f t232 t206).bind fun t268 => (if t268 = true then (if (t246 == ((t206.length : Int) == 0)) = true then ((impl_DiskFall.f t209 t212 (t206.length : Int)).bind fun bt269 => ((impl_DiskSame.f t225 t228 bt269.1 bt269.2).bind fun t275 => (some t275))) else (some false)) else (some false))) else (some false)) else (some false))) else (some false)) else (some false))) = some r := by first | (rw [hy262]; with_reducible exact H) | (have H2_ := (Option.bind_some _ _).symm.trans H; rw [hy262]; with_reducible exact H2_) | (have H2_ := (Option.bind_some _ _).symm.trans H; with_reducible exact H2_) | with_reducible exact H | (rw [hy262]; exact H) | exact H
         have Ny262 := Aside0.mk hy262
         clear hy262
         replace H := Option.bind_eq_some_iff.mp H
         obtain ⟨t266, A220, H⟩ := H
         replace H : (if t266 = true then (if (t221.length : Int) = 0 then ((impl_SameBytes.f t225 y254).bind fun t267 => (if t267 = true then (if t238 = true then ((impl_SameBytes.f t232 t206).bind fun t268 => (if t268 = true then (if (t246 == ((t206.length : Int) == 0)) = true then ((impl_DiskFall.f t209 t212 (t206.length : Int)).bind fun bt269 => ((impl_DiskSame.f t225 t228 bt269.1 bt269.2).bind fun t275 => (some t275))) else (some false)) else (some false))) else (some false)) else (some false))) else (some false)) else (some false)) = some r := H
         have A22 := Aside0.mk A220
         clear A220
         by_cases c23 : t266 = true
         ·subst c23
          have H1 : (if (t221.length : Int) = 0 then ((impl_SameBytes.f t225 y254).bind fun t267 => (if t267 = true then (if t238 = true then ((impl_SameBytes.f t232 t206).bind fun t268 => (if t268 = true then (if (t246 == ((t206.length : Int) == 0)) = true then ((impl_DiskFall.f t209 t212 (t206.length : Int)).bind fun bt269 => ((impl_DiskSame.f t225 t228 bt269.1 bt269.2).bind fun t275 => (some t275))) else (some false)) else (some false))) else (some false)) else (some false))) else (some false)) = some r := by rw [if_pos rfl] at H; exact H
          clear H
          have H := H1
          clear H1
          by_cases c24 : (t221.length : Int) = 0
          ·rw [if_pos c24] at H
           have c24b0 : ((t221.length : Int) == 0) = true := beq_iff_eq.mpr c24
           have c24b1 : ((t221.length : Int) != 0) = false := bne_eq_false_iff_eq.mpr c24
           clear c24
           replace H := Option.bind_eq_some_iff.mp H
           obtain ⟨t267, A250, H⟩ := H
           replace H : (if t267 = true then (if t238 = true then ((impl_SameBytes.f t232 t206).bind fun t268 => (if t268 = true then (if (t246 == ((t206.length : Int) == 0)) = true then ((impl_DiskFall.f t209 t212 (t206.length : Int)).bind fun bt269 => ((impl_DiskSame.f t225 t228 bt269.1 bt269.2).bind fun t275 => (some t275))) else (some false)) else (some false))) else (some false)) else (some false)) = some r := H
           have A25 := Aside0.mk A250
           clear A250
           by_cases c26 : t267 = true
           ·subst c26
            have H1 : (if t238 = true then ((impl_SameBytes.f t232 t206).bind fun t268 => (if t268 = true then (if (t246 == ((t206.length : Int) == 0)) = true then ((impl_DiskFall.f t209 t212 (t206.length : Int)).bind fun bt269 => ((impl_DiskSame.f t225 t228 bt269.1 bt269.2).bind fun t275 => (some t275))) else (some false)) else (some false))) else (some false)) = some r := by rw [if_pos rfl] at H; exact H
            clear H
            have H := H1
            clear H1
            by_cases c27 : t238 = true
            ·subst c27
             have H1 : ((impl_SameBytes.f t232 t206).bind fun t268 => (if t268 = true then (if (t246 == ((t206.length : Int) == 0)) = true then ((impl_DiskFall.f t209 t212 (t206.length : Int)).bind fun bt269 => ((impl_DiskSame.f t225 t228 bt269.1 bt269.2).bind fun t275 => (some t275))) else (some false)) else (some false))) = some r := by rw [if_pos rfl] at H; exact H
             clear H
             have H := H1
             clear H1
             replace H := Option.bind_eq_some_iff.mp H
             obtain ⟨t268, A280, H⟩ := H
             replace H : (if t268 = true then (if (t246 == ((t206.length : Int) == 0)) = true then ((impl_DiskFall.f t209 t212 (t206.length : Int)).bind fun bt269 => ((impl_DiskSame.f t225 t228 bt269.1 bt269.2).bind fun t275 => (some t275))) else (some false)) else (some false)) = some r := H
             have A28 := Aside0.mk A280
             clear A280
             by_cases c29 : t268 = true
             ·subst c29
              have H1 : (if (t246 == ((t206.length : Int) == 0)) = true then ((impl_DiskFall.f t209 t212 (t206.length : Int)).bind fun bt269 => ((impl_DiskSame.f t225 t228 bt269.1 bt269.2).bind fun t275 => (some t275))) else (some false)) = some r := by rw [if_pos rfl] at H; exact H
              clear H
              have H := H1
              clear H1
              by_cases c30 : (t246 == ((t206.length : Int) == 0)) = true
              ·rw [if_pos c30] at H
               have c30b0 : (t246 == ((t206.length : Int) == 0)) = true := c30
               (try (have c30b1 : decide (t246 = ((t206.length : Int) == 0)) = true := by simpa using c30))
               (try (have c30b2 : (t246 == ((t206.length : Int) == 0)) = true := by simpa using c30))
               clear c30
               replace H := Option.bind_eq_some_iff.mp H
               obtain ⟨⟨t269, t272⟩, A310, H⟩ := H
               replace H : ((impl_DiskSame.f t225 t228 t269 t272).bind fun t275 => (some t275)) = some r := H
               have A31 := Aside0.mk A310
               clear A310
               replace H := Option.bind_eq_some_iff.mp H
               obtain ⟨t275, A320, H⟩ := H
               replace H : (some t275) = some r := H
               have A32 := Aside0.mk A320
               clear A320
               obtain rfl := Option.some.inj H
               go_enter Try.func6, Try.ntmps6
               try go_wp2_with (first | ((with_reducible refine gate_callee (f := 26) rfl ?_); refine goesL_ (some 19) rfl rfl Try.func26 (by kernel_rfl) rfl #[.slice A0 l0.length c0, .int .i64 9] rfl (by (try simp only [List.map_toArray, List.map_cons, List.map_nil]); first | done | rfl | (simp only [List.length_drop, List.length_take]; rfl)) ?_; (with_reducible refine (spec_MakeBytes.calls k _ _ l0 9 t203 _ ?side1 ?side2 A3.out).mono ?_); (case side1 => repeat (first | exact HR0.out | (with_reducible refine Kd.C_alloc ?_ _) | (with_reducible refine Kd.C_drewN ?_ _) | (with_reducible refine Kd.C_drew ?_))); (case side2 => exact HC0.out); rintro e w33 ⟨v204, rfl, ho0, hb⟩; refine ⟨_, rfl, ?_⟩; have n0_ := k0 (Kd.R_lower ho0 (below_size (kW HB.out))); have n1_ := k0 (below_step (kW HB.out) hb); clear HB; have HO205 := n0_; have HB := n1_; clear n0_ n1_; (try clear hb); (try clear hb2); (try clear hk); (try clear hi); (try clear ho0)) | ((with_reducible refine gate_callee (f := 26) rfl ?_); refine goesL_ (some 21) rfl rfl Try.func26 (by kernel_rfl) rfl #[.slice A0 l0.length c0, .int .i64 7] rfl (by (try simp only [List.map_toArray, List.map_cons, List.map_nil]); first | done | rfl | (simp only [List.length_drop, List.length_take]; rfl)) ?_; (with_reducible refine (spec_MakeBytes.calls k _ _ l0 7 t206 _ ?side1 ?side2 A4.out).mono ?_); (case side1 => repeat (first | exact (Kd.C_below HR0.out HB.out) | (with_reducible refine Kd.C_alloc ?_ _) | (with_reducible refine Kd.C_drewN ?_ _) | (with_reducible refine Kd.C_drew ?_))); (case side2 => exact HC0.out); rintro e w34 ⟨v207, rfl, ho0, hb⟩; refine ⟨_, rfl, ?_⟩; have n0_ := k0 (Kd.R_elder' (kR HO205.out) (Kd.R_base ho0) hb); have n1_ := k0 (Kd.R_lower (Kd.R_new' ho0 (Kd.R_lt (kR HO205.out))) (below_size (kW HB.out))); have n2_ := k0 (below_step (kW HB.out) hb); clear HO205; clear HB; have HO205 := n0_; have HO208 := n1_; have HB := n2_; clear n0_ n1_ n2_; (try clear hb); (try clear hb2); (try clear hk); (try clear hi); (try clear ho0); obtain ⟨Ao35, co35, eo35⟩ := Kd.R_slice HO205.out; subst eo35; obtain ⟨Ao36, co36, eo36⟩ := Kd.R_slice HO208.out; subst eo36) | ((with_reducible refine gate_callee (f := 27) rfl ?_); refine goesL_ (some 26) rfl rfl Try.func27 (by kernel_rfl) rfl #[.agg #[.slice Ao35 t203.length co35, .slice none 0 0], .slice Ao36 t206.length co36] rfl (by (try simp only [List.map_toArray, List.map_cons, List.map_nil]); first | done | rfl | (simp only [List.length_drop, List.length_take]; rfl)) ?_; (refine (impl_DiskWrite.calls _ _ t203 _ _ ([] : List Int) _ _ t206 t209 t212 true _ ?side1 ?side2 ?side3 ?side4 ?side5 ?side6 A5.out).mono ?_); (case side1 => repeat (first | exact (Kd.R_reads' HO205.out).2.2 | (with_reducible refine Kd.C_alloc ?_ _) | (with_reducible refine Kd.C_drewN ?_ _) | (with_reducible refine Kd.C_drew ?_))); (case side2 => exact (Kd.R_reads' HO205.out).2.1); (case side3 => exact Kd.C_nil _ _); (case side4 => exact Nat.le_refl _); (case side5 => repeat (first | exact (Kd.R_reads' HO208.out).2.2 | (with_reducible refine Kd.C_alloc ?_ _) | (with_reducible refine Kd.C_drewN ?_ _) | (with_reducible refine Kd.C_drew ?_))); (case side6 => exact (Kd.R_reads' HO208.out).2.1); rintro e w37 ⟨v210, v213, rfl, ho0, ho1, hb⟩; refine ⟨_, rfl, ?_⟩; have n0_ := k0 (Kd.R_mono (Kd.R_told (Kd.R_told (Kd.R_old (kR HO205.out) hb) (Kd.R_base ho0)) (Kd.R_base ho1)) (fun _ h_ => h_.1)); have n1_ := k0 (Kd.R_mono (Kd.R_told (Kd.R_told (Kd.R_old (kR HO208.out) hb) (Kd.R_base ho0)) (Kd.R_base ho1)) (fun _ h_ => h_.1)); have n2_ := k0 (Kd.R_lower (Kd.R_new' (Kd.R_new' ho0 (Kd.R_lt (kR HO205.out))) (Kd.R_lt (kR HO208.out))) (below_size (kW HB.out))); have n3_ := k0 (Kd.R_lower (Kd.R_new' (Kd.R_new' ho1 (Kd.R_lt (kR HO205.out))) (Kd.R_lt (kR HO208.out))) (below_size (kW HB.out))); have n4_ := k0 (below_step (kW HB.out) hb); clear HO205; clear HO208; clear HB; have HO205 := n0_; have HO208 := n1_; have HO211 := n2_; have HO214 := n3_; have HB := n4_; clear n0_ n1_ n2_ n3_ n4_; (try clear hb); (try clear hb2); (try clear hk); (try clear hi); (try clear ho0); (try clear ho1)) | ((with_reducible refine gate_dst (N := 5) rfl ?_); (try (refine gate_guard (by rfl) ?_; dsimp only)); refine box_event ?hg (N := 5) ?hd (cs := #[.slice none 0 0, .slice none 0 0]) (t := 35) ?hr ?_; (case hd => rfl); (case hg => rfl); (case hr => first | (go_simp; done) | (go_simp; rfl)); intro gb216 hg w38 hbox hb; have n0_ := k0 (Kd.R_below (kR HO205.out) hb); have n1_ := k0 (Kd.R_below (kR HO208.out) hb); have n2_ := k0 (Kd.R_below (kR HO211.out) hb); have n3_ := k0 (Kd.R_below (kR HO214.out) hb); have n4_ := k0 (below_step (kW HB.out) hb); have n5_ := k0 (hbox); have n6_ := k0 ((by rw [hg]; exact (below_size (kW HB.out)) : w.heap.size ≤ gb216)); have n7_ := k0 ((by rw [hg]; exact (below_size (kW HB.out)) : w.heap.size ≤ gb216)); clear HO205; clear HO208; clear HO211; clear HO214; clear HB; have HO205 := n0_; have HO208 := n1_; have HO211 := n2_; have HO214 := n3_; have HB := n4_; have BK216 := n5_; have GW216 := n6_; have GE216 := n7_; clear n0_ n1_ n2_ n3_ n4_ n5_ n6_ n7_; clear hb hbox hg; obtain ⟨Ao39, co39, eo39⟩ := Kd.R_slice HO211.out; subst eo39; have hcz40_0 : w38.cell? ⟨gb216, 0, none⟩ = some (.slice none 0 0) := (blk_cell BK216.out 0).trans rfl; have hcz40_1 : w38.cell? ⟨gb216, 1, none⟩ = some (.slice none 0 0) := (blk_cell BK216.out 1).trans rfl; have hfz40_0 := blk_frozen BK216.out 0; have hfz40_1 := blk_frozen BK216.out 1; obtain ⟨Ao41, co41, eo41⟩ := Kd.R_slice HO214.out; subst eo41) | ((with_reducible refine gate_callee (f := 28) rfl ?_); refine goesL_ (some 33) rfl rfl Try.func28 (by kernel_rfl) rfl #[.slice A0 l0.length c0, .int .i64 (wrap64 ((t206.length : Int) + 1))] rfl (by (try simp only [List.map_toArray, List.map_cons, List.map_nil]); first | done | rfl | (simp only [List.length_drop, List.length_take]; rfl)) ?_; (with_reducible refine (spec_MakeNum.calls k _ _ l0 (wrap64 ((t206.length : Int) + 1)) t217 _ ?side1 ?side2 A6.out).mono ?_); (case side1 => exact Kd.C_below HR0.out (kW HB.out)); (case side2 => exact HC0.out); rintro e w42 ⟨rfl, hb⟩; refine ⟨_, rfl, ?_⟩; have n0_ := k0 (Kd.R_below (by (with_reducible repeat (first | apply Kd.R_alloc | apply Kd.R_drewN | apply Kd.R_drew)); exact (Kd.R_mono (Kd.R_far (p := ⟨gb216, 1, none⟩) (Kd.R_far (p := ⟨gb216, 0, none⟩) (Kd.R_types HO205.out BK216.out (by decide)) (fun _ hk => hk.2) (.slice Ao39 t209.length co39)) (fun _ hk => hk.2) (.slice Ao41 t212.length co41)) (fun _ h_ => h_.1))) hb); have n1_ := k0 (Kd.R_below (by (with_reducible repeat (first | apply Kd.R_alloc | apply Kd.R_drewN | apply Kd.R_drew)); exact (Kd.R_mono (Kd.R_far (p := ⟨gb216, 1, none⟩) (Kd.R_far (p := ⟨gb216, 0, none⟩) (Kd.R_types HO208.out BK216.out (by decide)) (fun _ hk => hk.2) (.slice Ao39 t209.length co39)) (fun _ hk => hk.2) (.slice Ao41 t212.length co41)) (fun _ h_ => h_.1))) hb); have n2_ := k0 (Kd.R_below (by (with_reducible repeat (first | apply Kd.R_alloc | apply Kd.R_drewN | apply Kd.R_drew)); exact (Kd.R_mono (Kd.R_far (p := ⟨gb216, 1, none⟩) (Kd.R_far (p := ⟨gb216, 0, none⟩) (Kd.R_types HO211.out BK216.out (by decide)) (fun _ hk => hk.2) (.slice Ao39 t209.length co39)) (fun _ hk => hk.2) (.slice Ao41 t212.length co41)) (fun _ h_ => h_.1))) hb); have n3_ := k0 (Kd.R_below (by (with_reducible repeat (first | apply Kd.R_alloc | apply Kd.R_drewN | apply Kd.R_drew)); exact (Kd.R_mono (Kd.R_far (p := ⟨gb216, 1, none⟩) (Kd.R_far (p := ⟨gb216, 0, none⟩) (Kd.R_types HO214.out BK216.out (by decide)) (fun _ hk => hk.2) (.slice Ao39 t209.length co39)) (fun _ hk => hk.2) (.slice Ao41 t212.length co41)) (fun _ h_ => h_.1))) hb); have n4_ := k0 (blk_below (g := gb216) (o := .cells #[.slice Ao39 t209.length co39, .slice Ao41 t212.length co41] 35 (0, 0)) (by (with_reducible repeat (first | refine blk_drewN ?_ _ | refine blk_drew ?_ | refine blk_alloc ?_ _)); refine blk_put (cs := #[.slice Ao39 t209.length co39, .slice none 0 0]) ?_ 1 _ rfl; (with_reducible repeat (first | refine blk_drewN ?_ _ | refine blk_drew ?_ | refine blk_alloc ?_ _)); refine blk_put (cs := #[.slice none 0 0, .slice none 0 0]) ?_ 0 _ rfl; (with_reducible repeat (first | refine blk_drewN ?_ _ | refine blk_drew ?_ | refine blk_alloc ?_ _)); exact BK216.out) hb); have n5_ := k0 (below_step (kW HB.out) hb); clear HO205; clear HO208; clear HO211; clear HO214; clear BK216; clear HB; have HO205 := n0_; have HO208 := n1_; have HO211 := n2_; have HO214 := n3_; have BK216 := n4_; have HB := n5_; clear n0_ n1_ n2_ n3_ n4_ n5_; (try clear hb); (try clear hb2); (try clear hk); (try clear hi); have hcz43_0 : w42.cell? ⟨gb216, 0, none⟩ = some (.slice Ao39 t209.length co39) := (blk_cell BK216.out 0).trans rfl; have hcz43_1 : w42.cell? ⟨gb216, 1, none⟩ = some (.slice Ao41 t212.length co41) := (blk_cell BK216.out 1).trans rfl; have hfz43_0 := blk_frozen BK216.out 0; have hfz43_1 := blk_frozen BK216.out 1) | ((with_reducible refine gate_callee (f := 29) rfl ?_); refine goesL_ (some 36) rfl rfl Try.func29 (by kernel_rfl) rfl #[.agg #[.slice Ao39 t209.length co39, .slice Ao41 t212.length co41], .int .i64 t217] rfl (by (try simp only [List.map_toArray, List.map_cons, List.map_nil]); first | done | rfl | (simp only [List.length_drop, List.length_take]; rfl)) ?_; (with_reducible refine (impl_DiskFall.calls _ _ t209 _ _ t212 t217 t218 t221 _ ?side1 ?side2 ?side3 ?side4 A7.out).mono ?_); (case side1 => repeat (first | exact (Kd.R_reads' HO211.out).2.2 | (with_reducible refine Kd.C_alloc ?_ _) | (with_reducible refine Kd.C_drewN ?_ _) | (with_reducible refine Kd.C_drew ?_))); (case side2 => exact (Kd.R_reads' HO211.out).2.1); (case side3 => repeat (first | exact (Kd.R_reads' HO214.out).2.2 | (with_reducible refine Kd.C_alloc ?_ _) | (with_reducible refine Kd.C_drewN ?_ _) | (with_reducible refine Kd.C_drew ?_))); (case side4 => exact (Kd.R_reads' HO214.out).2.1); rintro e w44 ⟨v219, v222, rfl, ho0, ho1, hb⟩; refine ⟨_, rfl, ?_⟩; have n0_ := k0 (Kd.R_mono (Kd.R_told (Kd.R_told (Kd.R_old (kR HO205.out) hb) (Kd.R_base ho0)) (Kd.R_base ho1)) (fun _ h_ => h_.1)); have n1_ := k0 (Kd.R_mono (Kd.R_told (Kd.R_told (Kd.R_old (kR HO208.out) hb) (Kd.R_base ho0)) (Kd.R_base ho1)) (fun _ h_ => h_.1)); have n2_ := k0 (Kd.R_mono (Kd.R_told (Kd.R_told (Kd.R_old (kR HO211.out) hb) (Kd.R_base ho0)) (Kd.R_base ho1)) (fun _ h_ => h_.1)); have n3_ := k0 (Kd.R_mono (Kd.R_told (Kd.R_told (Kd.R_old (kR HO214.out) hb) (Kd.R_base ho0)) (Kd.R_base ho1)) (fun _ h_ => h_.1)); have n4_ := k0 (Kd.R_lower (Kd.R_new' (Kd.R_new' (Kd.R_new' (Kd.R_new' ho0 (Kd.R_lt (kR HO205.out))) (Kd.R_lt (kR HO208.out))) (Kd.R_lt (kR HO211.out))) (Kd.R_lt (kR HO214.out))) (below_size (kW HB.out))); have n5_ := k0 (Kd.R_lower (Kd.R_new' (Kd.R_new' (Kd.R_new' (Kd.R_new' ho1 (Kd.R_lt (kR HO205.out))) (Kd.R_lt (kR HO208.out))) (Kd.R_lt (kR HO211.out))) (Kd.R_lt (kR HO214.out))) (below_size (kW HB.out))); have n6_ := k0 (kb BK216.out hb); have n7_ := k0 (below_step (kW HB.out) hb); clear HO205; clear HO208; clear HO211; clear HO214; clear BK216; clear HB; have HO205 := n0_; have HO208 := n1_; have HO211 := n2_; have HO214 := n3_; have HO220 := n4_; have HO223 := n5_; have BK216 := n6_; have HB := n7_; clear n0_ n1_ n2_ n3_ n4_ n5_ n6_ n7_; (try clear hb); (try clear hb2); (try clear hk); (try clear hi); (try clear ho0); (try clear ho1)) | ((with_reducible refine gate_dst (N := 8) rfl ?_); (try (refine gate_guard (by rfl) ?_; dsimp only)); refine box_event ?hg (N := 8) ?hd (cs := #[.slice none 0 0, .slice none 0 0]) (t := 35) ?hr ?_; (case hd => rfl); (case hg => rfl); (case hr => first | (go_simp; done) | (go_simp; rfl)); intro gb224 hg w45 hbox hb; have n0_ := k0 (Kd.R_below (kR HO205.out) hb); have n1_ := k0 (Kd.R_below (kR HO208.out) hb); have n2_ := k0 (Kd.R_below (kR HO211.out) hb); have n3_ := k0 (Kd.R_below (kR HO214.out) hb); have n4_ := k0 (Kd.R_below (kR HO220.out) hb); have n5_ := k0 (Kd.R_below (kR HO223.out) hb); have n6_ := k0 (kb BK216.out hb); have n7_ := k0 (below_step (kW HB.out) hb); have n8_ := k0 (hbox); have n9_ := k0 ((by rw [hg]; exact (below_size (kW HB.out)) : w.heap.size ≤ gb224)); have n10_ := k0 ((by rw [hg]; exact (below_size (kW HB.out)) : w.heap.size ≤ gb224)); have n11_ := k0 ((by rw [hg]; exact Nat.ne_of_lt (blk_lt (g := gb216) (o := .cells #[.slice Ao39 t209.length co39, .slice Ao41 t212.length co41] 35 (0, 0)) (kB BK216.out)) : gb216 ≠ gb224)); have n12_ := k0 ((by rw [hg]; exact Nat.ne_of_gt (blk_lt (g := gb216) (o := .cells #[.slice Ao39 t209.length co39, .slice Ao41 t212.length co41] 35 (0, 0)) (kB BK216.out)) : gb224 ≠ gb216)); clear HO205; clear HO208; clear HO211; clear HO214; clear HO220; clear HO223; clear BK216; clear HB; have HO205 := n0_; have HO208 := n1_; have HO211 := n2_; have HO214 := n3_; have HO220 := n4_; have HO223 := n5_; have BK216 := n6_; have HB := n7_; have BK224 := n8_; have GW224 := n9_; have GE224 := n10_; have NB216_224 := n11_; have NB224_216 := n12_; clear n0_ n1_ n2_ n3_ n4_ n5_ n6_ n7_ n8_ n9_ n10_ n11_ n12_; clear hb hbox hg; obtain ⟨Ao46, co46, eo46⟩ := Kd.R_slice HO220.out; subst eo46; have hnb47 := NB224_216.out; have hnc47 := NB216_224.out; have hcz48_0 : w45.cell? ⟨gb224, 0, none⟩ = some (.slice none 0 0) := (blk_cell BK224.out 0).trans rfl; have hcz48_1 : w45.cell? ⟨gb224, 1, none⟩ = some (.slice none 0 0) := (blk_cell BK224.out 1).trans rfl; have hfz48_0 := blk_frozen BK224.out 0; have hfz48_1 := blk_frozen BK224.out 1; obtain ⟨Ao49, co49, eo49⟩ := Kd.R_slice HO223.out; subst eo49; have hcz50_0 : w45.cell? ⟨gb216, 0, none⟩ = some (.slice Ao39 t209.length co39) := (blk_cell BK216.out 0).trans rfl; have hcz50_1 : w45.cell? ⟨gb216, 1, none⟩ = some (.slice Ao41 t212.length co41) := (blk_cell BK216.out 1).trans rfl; have hfz50_0 := blk_frozen BK216.out 0; have hfz50_1 := blk_frozen BK216.out 1) | ((with_reducible refine gate_callee (f := 30) rfl ?_); refine goesL_ (some 38) rfl rfl Try.func30 (by kernel_rfl) rfl #[.agg #[.slice Ao39 t209.length co39, .slice Ao41 t212.length co41]] rfl (by (try simp only [List.map_toArray, List.map_cons, List.map_nil]); first | done | rfl | (simp only [List.length_drop, List.length_take]; rfl)) ?_; (with_reducible refine (impl_DiskSync.calls _ _ t209 _ _ t212 t225 t228 _ ?side1 ?side2 ?side3 ?side4 A8.out).mono ?_); (case side1 => refine (Kd.R_reads' (e := 5) (base := w.heap.size) (ok := fun k_ => ((((some k_ ≠ (.slice Ao41 t212.length co41 : Value).ownBlock ∧ some k_ ≠ (.slice Ao35 t203.length co35 : Value).ownBlock) ∧ some k_ ≠ (.slice Ao36 t206.length co36 : Value).ownBlock) ∧ some k_ ≠ (.slice Ao46 t218.length co46 : Value).ownBlock) ∧ some k_ ≠ (.slice Ao49 t221.length co49 : Value).ownBlock)) (n := t209.length) (c := co39) ?_).2.2; exact (by (with_reducible repeat (first | apply Kd.R_alloc | apply Kd.R_drewN | apply Kd.R_drew)); exact (Kd.R_mono (Kd.R_far (p := ⟨gb224, 1, none⟩) (Kd.R_far (p := ⟨gb224, 0, none⟩) (Kd.R_types HO211.out BK224.out (by decide)) (fun _ hk => hk.2) (.slice Ao46 t218.length co46)) (fun _ hk => hk.2) (.slice Ao49 t221.length co49)) (fun _ h_ => h_.1)))); (case side2 => exact (Kd.R_reads' HO211.out).2.1); (case side3 => refine (Kd.R_reads' (e := 5) (base := w.heap.size) (ok := fun k_ => ((((some k_ ≠ (.slice Ao39 t209.length co39 : Value).ownBlock ∧ some k_ ≠ (.slice Ao35 t203.length co35 : Value).ownBlock) ∧ some k_ ≠ (.slice Ao36 t206.length co36 : Value).ownBlock) ∧ some k_ ≠ (.slice Ao46 t218.length co46 : Value).ownBlock) ∧ some k_ ≠ (.slice Ao49 t221.length co49 : Value).ownBlock)) (n := t212.length) (c := co41) ?_).2.2; exact (by (with_reducible repeat (first | apply Kd.R_alloc | apply Kd.R_drewN | apply Kd.R_drew)); exact (Kd.R_mono (Kd.R_far (p := ⟨gb224, 1, none⟩) (Kd.R_far (p := ⟨gb224, 0, none⟩) (Kd.R_types HO214.out BK224.out (by decide)) (fun _ hk => hk.2) (.slice Ao46 t218.length co46)) (fun _ hk => hk.2) (.slice Ao49 t221.length co49)) (fun _ h_ => h_.1)))); (case side4 => exact (Kd.R_reads' HO214.out).2.1); rintro e w51 ⟨v226, v229, rfl, ho0, ho1, hb⟩; refine ⟨_, rfl, ?_⟩; have n0_ := k0 (Kd.R_mono (Kd.R_told (Kd.R_told (Kd.R_old (by (with_reducible repeat (first | apply Kd.R_alloc | apply Kd.R_drewN | apply Kd.R_drew)); exact (Kd.R_mono (Kd.R_far (p := ⟨gb224, 1, none⟩) (Kd.R_far (p := ⟨gb224, 0, none⟩) (Kd.R_types HO205.out BK224.out (by decide)) (fun _ hk => hk.2) (.slice Ao46 t218.length co46)) (fun _ hk => hk.2) (.slice Ao49 t221.length co49)) (fun _ h_ => h_.1))) hb) (Kd.R_base ho0)) (Kd.R_base ho1)) (fun _ h_ => h_.1)); have n1_ := k0 (Kd.R_mono (Kd.R_told (Kd.R_told (Kd.R_old (by (with_reducible repeat (first | apply Kd.R_alloc | apply Kd.R_drewN | apply Kd.R_drew)); exact (Kd.R_mono (Kd.R_far (p := ⟨gb224, 1, none⟩) (Kd.R_far (p := ⟨gb224, 0, none⟩) (Kd.R_types HO208.out BK224.out (by decide)) (fun _ hk => hk.2) (.slice Ao46 t218.length co46)) (fun _ hk => hk.2) (.slice Ao49 t221.length co49)) (fun _ h_ => h_.1))) hb) (Kd.R_base ho0)) (Kd.R_base ho1)) (fun _ h_ => h_.1)); have n2_ := k0 (Kd.R_mono (Kd.R_told (Kd.R_told (Kd.R_old (by (with_reducible repeat (first | apply Kd.R_alloc | apply Kd.R_drewN | apply Kd.R_drew)); exact (Kd.R_mono (Kd.R_far (p := ⟨gb224, 1, none⟩) (Kd.R_far (p := ⟨gb224, 0, none⟩) (Kd.R_types HO211.out BK224.out (by decide)) (fun _ hk => hk.2) (.slice Ao46 t218.length co46)) (fun _ hk => hk.2) (.slice Ao49 t221.length co49)) (fun _ h_ => h_.1))) hb) (Kd.R_base ho0)) (Kd.R_base ho1)) (fun _ h_ => h_.1)); have n3_ := k0 (Kd.R_mono (Kd.R_told (Kd.R_told (Kd.R_old (by (with_reducible repeat (first | apply Kd.R_alloc | apply Kd.R_drewN | apply Kd.R_drew)); exact (Kd.R_mono (Kd.R_far (p := ⟨gb224, 1, none⟩) (Kd.R_far (p := ⟨gb224, 0, none⟩) (Kd.R_types HO214.out BK224.out (by decide)) (fun _ hk => hk.2) (.slice Ao46 t218.length co46)) (fun _ hk => hk.2) (.slice Ao49 t221.length co49)) (fun _ h_ => h_.1))) hb) (Kd.R_base ho0)) (Kd.R_base ho1)) (fun _ h_ => h_.1)); have n4_ := k0 (Kd.R_mono (Kd.R_told (Kd.R_told (Kd.R_old (by (with_reducible repeat (first | apply Kd.R_alloc | apply Kd.R_drewN | apply Kd.R_drew)); exact (Kd.R_mono (Kd.R_far (p := ⟨gb224, 1, none⟩) (Kd.R_far (p := ⟨gb224, 0, none⟩) (Kd.R_types HO220.out BK224.out (by decide)) (fun _ hk => hk.2) (.slice Ao46 t218.length co46)) (fun _ hk => hk.2) (.slice Ao49 t221.length co49)) (fun _ h_ => h_.1))) hb) (Kd.R_base ho0)) (Kd.R_base ho1)) (fun _ h_ => h_.1)); have n5_ := k0 (Kd.R_mono (Kd.R_told (Kd.R_told (Kd.R_old (by (with_reducible repeat (first | apply Kd.R_alloc | apply Kd.R_drewN | apply Kd.R_drew)); exact (Kd.R_mono (Kd.R_far (p := ⟨gb224, 1, none⟩) (Kd.R_far (p := ⟨gb224, 0, none⟩) (Kd.R_types HO223.out BK224.out (by decide)) (fun _ hk => hk.2) (.slice Ao46 t218.length co46)) (fun _ hk => hk.2) (.slice Ao49 t221.length co49)) (fun _ h_ => h_.1))) hb) (Kd.R_base ho0)) (Kd.R_base ho1)) (fun _ h_ => h_.1)); have n6_ := k0 (Kd.R_lower (Kd.R_new' (Kd.R_new' (Kd.R_new' (Kd.R_new' (Kd.R_new' (Kd.R_new' ho0 (Kd.R_lt (by (with_reducible repeat (first | apply Kd.R_alloc | apply Kd.R_drewN | apply Kd.R_drew)); exact (Kd.R_mono (Kd.R_far (p := ⟨gb224, 1, none⟩) (Kd.R_far (p := ⟨gb224, 0, none⟩) (Kd.R_types HO205.out BK224.out (by decide)) (fun _ hk => hk.2) (.slice Ao46 t218.length co46)) (fun _ hk => hk.2) (.slice Ao49 t221.length co49)) (fun _ h_ => h_.1))))) (Kd.R_lt (by (with_reducible repeat (first | apply Kd.R_alloc | apply Kd.R_drewN | apply Kd.R_drew)); exact (Kd.R_mono (Kd.R_far (p := ⟨gb224, 1, none⟩) (Kd.R_far (p := ⟨gb224, 0, none⟩) (Kd.R_types HO208.out BK224.out (by decide)) (fun _ hk => hk.2) (.slice Ao46 t218.length co46)) (fun _ hk => hk.2) (.slice Ao49 t221.length co49)) (fun _ h_ => h_.1))))) (Kd.R_lt (by (with_reducible repeat (first | apply Kd.R_alloc | apply Kd.R_drewN | apply Kd.R_drew)); exact (Kd.R_mono (Kd.R_far (p := ⟨gb224, 1, none⟩) (Kd.R_far (p := ⟨gb224, 0, none⟩) (Kd.R_types HO211.out BK224.out (by decide)) (fun _ hk => hk.2) (.slice Ao46 t218.length co46)) (fun _ hk => hk.2) (.slice Ao49 t221.length co49)) (fun _ h_ => h_.1))))) (Kd.R_lt (by (with_reducible repeat (first | apply Kd.R_alloc | apply Kd.R_drewN | apply Kd.R_drew)); exact (Kd.R_mono (Kd.R_far (p := ⟨gb224, 1, none⟩) (Kd.R_far (p := ⟨gb224, 0, none⟩) (Kd.R_types HO214.out BK224.out (by decide)) (fun _ hk => hk.2) (.slice Ao46 t218.length co46)) (fun _ hk => hk.2) (.slice Ao49 t221.length co49)) (fun _ h_ => h_.1))))) (Kd.R_lt (by (with_reducible repeat (first | apply Kd.R_alloc | apply Kd.R_drewN | apply Kd.R_drew)); exact (Kd.R_mono (Kd.R_far (p := ⟨gb224, 1, none⟩) (Kd.R_far (p := ⟨gb224, 0, none⟩) (Kd.R_types HO220.out BK224.out (by decide)) (fun _ hk => hk.2) (.slice Ao46 t218.length co46)) (fun _ hk => hk.2) (.slice Ao49 t221.length co49)) (fun _ h_ => h_.1))))) (Kd.R_lt (by (with_reducible repeat (first | apply Kd.R_alloc | apply Kd.R_drewN | apply Kd.R_drew)); exact (Kd.R_mono (Kd.R_far (p := ⟨gb224, 1, none⟩) (Kd.R_far (p := ⟨gb224, 0, none⟩) (Kd.R_types HO223.out BK224.out (by decide)) (fun _ hk => hk.2) (.slice Ao46 t218.length co46)) (fun _ hk => hk.2) (.slice Ao49 t221.length co49)) (fun _ h_ => h_.1))))) (below_size (kW HB.out))); have n7_ := k0 (Kd.R_lower (Kd.R_new' (Kd.R_new' (Kd.R_new' (Kd.R_new' (Kd.R_new' (Kd.R_new' ho1 (Kd.R_lt (by (with_reducible repeat (first | apply Kd.R_alloc | apply Kd.R_drewN | apply Kd.R_drew)); exact (Kd.R_mono (Kd.R_far (p := ⟨gb224, 1, none⟩) (Kd.R_far (p := ⟨gb224, 0, none⟩) (Kd.R_types HO205.out BK224.out (by decide)) (fun _ hk => hk.2) (.slice Ao46 t218.length co46)) (fun _ hk => hk.2) (.slice Ao49 t221.length co49)) (fun _ h_ => h_.1))))) (Kd.R_lt (by (with_reducible repeat (first | apply Kd.R_alloc | apply Kd.R_drewN | apply Kd.R_drew)); exact (Kd.R_mono (Kd.R_far (p := ⟨gb224, 1, none⟩) (Kd.R_far (p := ⟨gb224, 0, none⟩) (Kd.R_types HO208.out BK224.out (by decide)) (fun _ hk => hk.2) (.slice Ao46 t218.length co46)) (fun _ hk => hk.2) (.slice Ao49 t221.length co49)) (fun _ h_ => h_.1))))) (Kd.R_lt (by (with_reducible repeat (first | apply Kd.R_alloc | apply Kd.R_drewN | apply Kd.R_drew)); exact (Kd.R_mono (Kd.R_far (p := ⟨gb224, 1, none⟩) (Kd.R_far (p := ⟨gb224, 0, none⟩) (Kd.R_types HO211.out BK224.out (by decide)) (fun _ hk => hk.2) (.slice Ao46 t218.length co46)) (fun _ hk => hk.2) (.slice Ao49 t221.length co49)) (fun _ h_ => h_.1))))) (Kd.R_lt (by (with_reducible repeat (first | apply Kd.R_alloc | apply Kd.R_drewN | apply Kd.R_drew)); exact (Kd.R_mono (Kd.R_far (p := ⟨gb224, 1, none⟩) (Kd.R_far (p := ⟨gb224, 0, none⟩) (Kd.R_types HO214.out BK224.out (by decide)) (fun _ hk => hk.2) (.slice Ao46 t218.length co46)) (fun _ hk => hk.2) (.slice Ao49 t221.length co49)) (fun _ h_ => h_.1))))) (Kd.R_lt (by (with_reducible repeat (first | apply Kd.R_alloc | apply Kd.R_drewN | apply Kd.R_drew)); exact (Kd.R_mono (Kd.R_far (p := ⟨gb224, 1, none⟩) (Kd.R_far (p := ⟨gb224, 0, none⟩) (Kd.R_types HO220.out BK224.out (by decide)) (fun _ hk => hk.2) (.slice Ao46 t218.length co46)) (fun _ hk => hk.2) (.slice Ao49 t221.length co49)) (fun _ h_ => h_.1))))) (Kd.R_lt (by (with_reducible repeat (first | apply Kd.R_alloc | apply Kd.R_drewN | apply Kd.R_drew)); exact (Kd.R_mono (Kd.R_far (p := ⟨gb224, 1, none⟩) (Kd.R_far (p := ⟨gb224, 0, none⟩) (Kd.R_types HO223.out BK224.out (by decide)) (fun _ hk => hk.2) (.slice Ao46 t218.length co46)) (fun _ hk => hk.2) (.slice Ao49 t221.length co49)) (fun _ h_ => h_.1))))) (below_size (kW HB.out))); have n8_ := k0 (blk_below (g := gb216) (o := .cells #[.slice Ao39 t209.length co39, .slice Ao41 t212.length co41] 35 (0, 0)) (by (with_reducible repeat (first | refine blk_drewN ?_ _ | refine blk_drew ?_ | refine blk_alloc ?_ _)); refine blk_far ?_ NB216_224.out _; (with_reducible repeat (first | refine blk_drewN ?_ _ | refine blk_drew ?_ | refine blk_alloc ?_ _)); refine blk_far ?_ NB216_224.out _; (with_reducible repeat (first | refine blk_drewN ?_ _ | refine blk_drew ?_ | refine blk_alloc ?_ _)); exact BK216.out) hb); have n9_ := k0 (blk_below (g := gb224) (o := .cells #[.slice Ao46 t218.length co46, .slice Ao49 t221.length co49] 35 (0, 0)) (by (with_reducible repeat (first | refine blk_drewN ?_ _ | refine blk_drew ?_ | refine blk_alloc ?_ _)); refine blk_put (cs := #[.slice Ao46 t218.length co46, .slice none 0 0]) ?_ 1 _ rfl; (with_reducible repeat (first | refine blk_drewN ?_ _ | refine blk_drew ?_ | refine blk_alloc ?_ _)); refine blk_put (cs := #[.slice none 0 0, .slice none 0 0]) ?_ 0 _ rfl; (with_reducible repeat (first | refine blk_drewN ?_ _ | refine blk_drew ?_ | refine blk_alloc ?_ _)); exact BK224.out) hb); have n10_ := k0 (below_step (kW HB.out) hb); clear HO205; clear HO208; clear HO211; clear HO214; clear HO220; clear HO223; clear BK216; clear BK224; clear HB; have HO205 := n0_; have HO208 := n1_; have HO211 := n2_; have HO214 := n3_; have HO220 := n4_; have HO223 := n5_; have HO227 := n6_; have HO230 := n7_; have BK216 := n8_; have BK224 := n9_; have HB := n10_; clear n0_ n1_ n2_ n3_ n4_ n5_ n6_ n7_ n8_ n9_ n10_; (try clear hb); (try clear hb2); (try clear hk); (try clear hi); (try clear ho0); (try clear ho1)) | ((with_reducible refine gate_dst (N := 9) rfl ?_); (try (refine gate_guard (by rfl) ?_; dsimp only)); refine box_event ?hg (N := 9) ?hd (cs := #[.slice none 0 0, .slice none 0 0]) (t := 35) ?hr ?_; (case hd => rfl); (case hg => rfl); (case hr => first | (go_simp; done) | (go_simp; rfl)); intro gb231 hg w52 hbox hb; have n0_ := k0 (Kd.R_below (kR HO205.out) hb); have n1_ := k0 (Kd.R_below (kR HO208.out) hb); have n2_ := k0 (Kd.R_below (kR HO211.out) hb); have n3_ := k0 (Kd.R_below (kR HO214.out) hb); have n4_ := k0 (Kd.R_below (kR HO220.out) hb); have n5_ := k0 (Kd.R_below (kR HO223.out) hb); have n6_ := k0 (Kd.R_below (kR HO227.out) hb); have n7_ := k0 (Kd.R_below (kR HO230.out) hb); have n8_ := k0 (kb BK216.out hb); have n9_ := k0 (kb BK224.out hb); have n10_ := k0 (below_step (kW HB.out) hb); have n11_ := k0 (hbox); have n12_ := k0 ((by rw [hg]; exact (below_size (kW HB.out)) : w.heap.size ≤ gb231)); have n13_ := k0 ((by rw [hg]; exact (below_size (kW HB.out)) : w.heap.size ≤ gb231)); have n14_ := k0 ((by rw [hg]; exact Nat.ne_of_lt (blk_lt (g := gb216) (o := .cells #[.slice Ao39 t209.length co39, .slice Ao41 t212.length co41] 35 (0, 0)) (kB BK216.out)) : gb216 ≠ gb231)); have n15_ := k0 ((by rw [hg]; exact Nat.ne_of_gt (blk_lt (g := gb216) (o := .cells #[.slice Ao39 t209.length co39, .slice Ao41 t212.length co41] 35 (0, 0)) (kB BK216.out)) : gb231 ≠ gb216)); have n16_ := k0 ((by rw [hg]; exact Nat.ne_of_lt (blk_lt (g := gb224) (o := .cells #[.slice Ao46 t218.length co46, .slice Ao49 t221.length co49] 35 (0, 0)) (kB BK224.out)) : gb224 ≠ gb231)); have n17_ := k0 ((by rw [hg]; exact Nat.ne_of_gt (blk_lt (g := gb224) (o := .cells #[.slice Ao46 t218.length co46, .slice Ao49 t221.length co49] 35 (0, 0)) (kB BK224.out)) : gb231 ≠ gb224)); clear HO205; clear HO208; clear HO211; clear HO214; clear HO220; clear HO223; clear HO227; clear HO230; clear BK216; clear BK224; clear HB; have HO205 := n0_; have HO208 := n1_; have HO211 := n2_; have HO214 := n3_; have HO220 := n4_; have HO223 := n5_; have HO227 := n6_; have HO230 := n7_; have BK216 := n8_; have BK224 := n9_; have HB := n10_; have BK231 := n11_; have GW231 := n12_; have GE231 := n13_; have NB216_231 := n14_; have NB231_216 := n15_; have NB224_231 := n16_; have NB231_224 := n17_; clear n0_ n1_ n2_ n3_ n4_ n5_ n6_ n7_ n8_ n9_ n10_ n11_ n12_ n13_ n14_ n15_ n16_ n17_; clear hb hbox hg; obtain ⟨Ao53, co53, eo53⟩ := Kd.R_slice HO227.out; subst eo53; have hnb54 := NB231_216.out; have hnc54 := NB216_231.out; have hnb55 := NB231_224.out; have hnc55 := NB224_231.out; have hcz56_0 : w52.cell? ⟨gb231, 0, none⟩ = some (.slice none 0 0) := (blk_cell BK231.out 0).trans rfl; have hcz56_1 : w52.cell? ⟨gb231, 1, none⟩ = some (.slice none 0 0) := (blk_cell BK231.out 1).trans rfl; have hfz56_0 := blk_frozen BK231.out 0; have hfz56_1 := blk_frozen BK231.out 1; obtain ⟨Ao57, co57, eo57⟩ := Kd.R_slice HO230.out; subst eo57) | ((with_reducible refine gate_callee (f := 31) rfl ?_); refine goesL_ (some 42) rfl rfl Try.func31 (by kernel_rfl) rfl #[.agg #[.slice Ao53 t225.length co53, .slice Ao57 t228.length co57], .slice Ao36 t206.length co36] rfl (by (try simp only [List.map_toArray, List.map_cons, List.map_nil]); first | done | rfl | (simp only [List.length_drop, List.length_take]; rfl)) ?_; (with_reducible refine (impl_DiskReset.calls _ _ t225 _ _ t228 _ _ t206 t232 t235 true _ ?side1 ?side2 ?side3 ?side4 ?side5 ?side6 A9.out).mono ?_); (case side1 => refine (Kd.R_reads' (e := 5) (base := w.heap.size) (ok := fun k_ => ((((((some k_ ≠ (.slice Ao57 t228.length co57 : Value).ownBlock ∧ some k_ ≠ (.slice Ao35 t203.length co35 : Value).ownBlock) ∧ some k_ ≠ (.slice Ao36 t206.length co36 : Value).ownBlock) ∧ some k_ ≠ (.slice Ao39 t209.length co39 : Value).ownBlock) ∧ some k_ ≠ (.slice Ao41 t212.length co41 : Value).ownBlock) ∧ some k_ ≠ (.slice Ao46 t218.length co46 : Value).ownBlock) ∧ some k_ ≠ (.slice Ao49 t221.length co49 : Value).ownBlock)) (n := t225.length) (c := co53) ?_).2.2; exact (by (with_reducible repeat (first | apply Kd.R_alloc | apply Kd.R_drewN | apply Kd.R_drew)); exact (Kd.R_mono (Kd.R_far (p := ⟨gb231, 1, none⟩) (Kd.R_far (p := ⟨gb231, 0, none⟩) (Kd.R_types HO227.out BK231.out (by decide)) (fun _ hk => hk.2) (.slice Ao53 t225.length co53)) (fun _ hk => hk.2) (.slice Ao57 t228.length co57)) (fun _ h_ => h_.1)))); (case side2 => exact (Kd.R_reads' HO227.out).2.1); (case side3 => refine (Kd.R_reads' (e := 5) (base := w.heap.size) (ok := fun k_ => ((((((some k_ ≠ (.slice Ao53 t225.length co53 : Value).ownBlock ∧ some k_ ≠ (.slice Ao35 t203.length co35 : Value).ownBlock) ∧ some k_ ≠ (.slice Ao36 t206.length co36 : Value).ownBlock) ∧ some k_ ≠ (.slice Ao39 t209.length co39 : Value).ownBlock) ∧ some k_ ≠ (.slice Ao41 t212.length co41 : Value).ownBlock) ∧ some k_ ≠ (.slice Ao46 t218.length co46 : Value).ownBlock) ∧ some k_ ≠ (.slice Ao49 t221.length co49 : Value).ownBlock)) (n := t228.length) (c := co57) ?_).2.2; exact (by (with_reducible repeat (first | apply Kd.R_alloc | apply Kd.R_drewN | apply Kd.R_drew)); exact (Kd.R_mono (Kd.R_far (p := ⟨gb231, 1, none⟩) (Kd.R_far (p := ⟨gb231, 0, none⟩) (Kd.R_types HO230.out BK231.out (by decide)) (fun _ hk => hk.2) (.slice Ao53 t225.length co53)) (fun _ hk => hk.2) (.slice Ao57 t228.length co57)) (fun _ h_ => h_.1)))); (case side4 => exact (Kd.R_reads' HO230.out).2.1); (case side5 => refine (Kd.R_reads' (e := 5) (base := w.heap.size) (ok := fun k_ => (((((((True ∧ some k_ ≠ (.slice Ao35 t203.length co35 : Value).ownBlock) ∧ some k_ ≠ (.slice Ao39 t209.length co39 : Value).ownBlock) ∧ some k_ ≠ (.slice Ao41 t212.length co41 : Value).ownBlock) ∧ some k_ ≠ (.slice Ao46 t218.length co46 : Value).ownBlock) ∧ some k_ ≠ (.slice Ao49 t221.length co49 : Value).ownBlock) ∧ some k_ ≠ (.slice Ao53 t225.length co53 : Value).ownBlock) ∧ some k_ ≠ (.slice Ao57 t228.length co57 : Value).ownBlock)) (n := t206.length) (c := co36) ?_).2.2; exact (by (with_reducible repeat (first | apply Kd.R_alloc | apply Kd.R_drewN | apply Kd.R_drew)); exact (Kd.R_mono (Kd.R_far (p := ⟨gb231, 1, none⟩) (Kd.R_far (p := ⟨gb231, 0, none⟩) (Kd.R_types HO208.out BK231.out (by decide)) (fun _ hk => hk.2) (.slice Ao53 t225.length co53)) (fun _ hk => hk.2) (.slice Ao57 t228.length co57)) (fun _ h_ => h_.1)))); (case side6 => exact (Kd.R_reads' HO208.out).2.1); rintro e w58 ⟨v233, v236, rfl, ho0, ho1, hb⟩; refine ⟨_, rfl, ?_⟩; have n0_ := k0 (Kd.R_mono (Kd.R_told (Kd.R_told (Kd.R_old (by (with_reducible repeat (first | apply Kd.R_alloc | apply Kd.R_drewN | apply Kd.R_drew)); exact (Kd.R_mono (Kd.R_far (p := ⟨gb231, 1, none⟩) (Kd.R_far (p := ⟨gb231, 0, none⟩) (Kd.R_types HO205.out BK231.out (by decide)) (fun _ hk => hk.2) (.slice Ao53 t225.length co53)) (fun _ hk => hk.2) (.slice Ao57 t228.length co57)) (fun _ h_ => h_.1))) hb) (Kd.R_base ho0)) (Kd.R_base ho1)) (fun _ h_ => h_.1)); have n1_ := k0 (Kd.R_mono (Kd.R_told (Kd.R_told (Kd.R_old (by (with_reducible repeat (first | apply Kd.R_alloc | apply Kd.R_drewN | apply Kd.R_drew)); exact (Kd.R_mono (Kd.R_far (p := ⟨gb231, 1, none⟩) (Kd.R_far (p := ⟨gb231, 0, none⟩) (Kd.R_types HO208.out BK231.out (by decide)) (fun _ hk => hk.2) (.slice Ao53 t225.length co53)) (fun _ hk => hk.2) (.slice Ao57 t228.length co57)) (fun _ h_ => h_.1))) hb) (Kd.R_base ho0)) (Kd.R_base ho1)) (fun _ h_ => h_.1)); have n2_ := k0 (Kd.R_mono (Kd.R_told (Kd.R_told (Kd.R_old (by (with_reducible repeat (first | apply Kd.R_alloc | apply Kd.R_drewN | apply Kd.R_drew)); exact (Kd.R_mono (Kd.R_far (p := ⟨gb231, 1, none⟩) (Kd.R_far (p := ⟨gb231, 0, none⟩) (Kd.R_types HO211.out BK231.out (by decide)) (fun _ hk => hk.2) (.slice Ao53 t225.length co53)) (fun _ hk => hk.2) (.slice Ao57 t228.length co57)) (fun _ h_ => h_.1))) hb) (Kd.R_base ho0)) (Kd.R_base ho1)) (fun _ h_ => h_.1)); have n3_ := k0 (Kd.R_mono (Kd.R_told (Kd.R_told (Kd.R_old (by (with_reducible repeat (first | apply Kd.R_alloc | apply Kd.R_drewN | apply Kd.R_drew)); exact (Kd.R_mono (Kd.R_far (p := ⟨gb231, 1, none⟩) (Kd.R_far (p := ⟨gb231, 0, none⟩) (Kd.R_types HO214.out BK231.out (by decide)) (fun _ hk => hk.2) (.slice Ao53 t225.length co53)) (fun _ hk => hk.2) (.slice Ao57 t228.length co57)) (fun _ h_ => h_.1))) hb) (Kd.R_base ho0)) (Kd.R_base ho1)) (fun _ h_ => h_.1)); have n4_ := k0 (Kd.R_mono (Kd.R_told (Kd.R_told (Kd.R_old (by (with_reducible repeat (first | apply Kd.R_alloc | apply Kd.R_drewN | apply Kd.R_drew)); exact (Kd.R_mono (Kd.R_far (p := ⟨gb231, 1, none⟩) (Kd.R_far (p := ⟨gb231, 0, none⟩) (Kd.R_types HO220.out BK231.out (by decide)) (fun _ hk => hk.2) (.slice Ao53 t225.length co53)) (fun _ hk => hk.2) (.slice Ao57 t228.length co57)) (fun _ h_ => h_.1))) hb) (Kd.R_base ho0)) (Kd.R_base ho1)) (fun _ h_ => h_.1)); have n5_ := k0 (Kd.R_mono (Kd.R_told (Kd.R_told (Kd.R_old (by (with_reducible repeat (first | apply Kd.R_alloc | apply Kd.R_drewN | apply Kd.R_drew)); exact (Kd.R_mono (Kd.R_far (p := ⟨gb231, 1, none⟩) (Kd.R_far (p := ⟨gb231, 0, none⟩) (Kd.R_types HO223.out BK231.out (by decide)) (fun _ hk => hk.2) (.slice Ao53 t225.length co53)) (fun _ hk => hk.2) (.slice Ao57 t228.length co57)) (fun _ h_ => h_.1))) hb) (Kd.R_base ho0)) (Kd.R_base ho1)) (fun _ h_ => h_.1)); have n6_ := k0 (Kd.R_mono (Kd.R_told (Kd.R_told (Kd.R_old (by (with_reducible repeat (first | apply Kd.R_alloc | apply Kd.R_drewN | apply Kd.R_drew)); exact (Kd.R_mono (Kd.R_far (p := ⟨gb231, 1, none⟩) (Kd.R_far (p := ⟨gb231, 0, none⟩) (Kd.R_types HO227.out BK231.out (by decide)) (fun _ hk => hk.2) (.slice Ao53 t225.length co53)) (fun _ hk => hk.2) (.slice Ao57 t228.length co57)) (fun _ h_ => h_.1))) hb) (Kd.R_base ho0)) (Kd.R_base ho1)) (fun _ h_ => h_.1)); have n7_ := k0 (Kd.R_mono (Kd.R_told (Kd.R_told (Kd.R_old (by (with_reducible repeat (first | apply Kd.R_alloc | apply Kd.R_drewN | apply Kd.R_drew)); exact (Kd.R_mono (Kd.R_far (p := ⟨gb231, 1, none⟩) (Kd.R_far (p := ⟨gb231, 0, none⟩) (Kd.R_types HO230.out BK231.out (by decide)) (fun _ hk => hk.2) (.slice Ao53 t225.length co53)) (fun _ hk => hk.2) (.slice Ao57 t228.length co57)) (fun _ h_ => h_.1))) hb) (Kd.R_base ho0)) (Kd.R_base ho1)) (fun _ h_ => h_.1)); have n8_ := k0 (Kd.R_lower (Kd.R_new' (Kd.R_new' (Kd.R_new' (Kd.R_new' (Kd.R_new' (Kd.R_new' (Kd.R_new' (Kd.R_new' ho0 (Kd.R_lt (by (with_reducible repeat (first | apply Kd.R_alloc | apply Kd.R_drewN | apply Kd.R_drew)); exact (Kd.R_mono (Kd.R_far (p := ⟨gb231, 1, none⟩) (Kd.R_far (p := ⟨gb231, 0, none⟩) (Kd.R_types HO205.out BK231.out (by decide)) (fun _ hk => hk.2) (.slice Ao53 t225.length co53)) (fun _ hk => hk.2) (.slice Ao57 t228.length co57)) (fun _ h_ => h_.1))))) (Kd.R_lt (by (with_reducible repeat (first | apply Kd.R_alloc | apply Kd.R_drewN | apply Kd.R_drew)); exact (Kd.R_mono (Kd.R_far (p := ⟨gb231, 1, none⟩) (Kd.R_far (p := ⟨gb231, 0, none⟩) (Kd.R_types HO208.out BK231.out (by decide)) (fun _ hk => hk.2) (.slice Ao53 t225.length co53)) (fun _ hk => hk.2) (.slice Ao57 t228.length co57)) (fun _ h_ => h_.1))))) (Kd.R_lt (by (with_reducible repeat (first | apply Kd.R_alloc | apply Kd.R_drewN | apply Kd.R_drew)); exact (Kd.R_mono (Kd.R_far (p := ⟨gb231, 1, none⟩) (Kd.R_far (p := ⟨gb231, 0, none⟩) (Kd.R_types HO211.out BK231.out (by decide)) (fun _ hk => hk.2) (.slice Ao53 t225.length co53)) (fun _ hk => hk.2) (.slice Ao57 t228.length co57)) (fun _ h_ => h_.1))))) (Kd.R_lt (by (with_reducible repeat (first | apply Kd.R_alloc | apply Kd.R_drewN | apply Kd.R_drew)); exact (Kd.R_mono (Kd.R_far (p := ⟨gb231, 1, none⟩) (Kd.R_far (p := ⟨gb231, 0, none⟩) (Kd.R_types HO214.out BK231.out (by decide)) (fun _ hk => hk.2) (.slice Ao53 t225.length co53)) (fun _ hk => hk.2) (.slice Ao57 t228.length co57)) (fun _ h_ => h_.1))))) (Kd.R_lt (by (with_reducible repeat (first | apply Kd.R_alloc | apply Kd.R_drewN | apply Kd.R_drew)); exact (Kd.R_mono (Kd.R_far (p := ⟨gb231, 1, none⟩) (Kd.R_far (p := ⟨gb231, 0, none⟩) (Kd.R_types HO220.out BK231.out (by decide)) (fun _ hk => hk.2) (.slice Ao53 t225.length co53)) (fun _ hk => hk.2) (.slice Ao57 t228.length co57)) (fun _ h_ => h_.1))))) (Kd.R_lt (by (with_reducible repeat (first | apply Kd.R_alloc | apply Kd.R_drewN | apply Kd.R_drew)); exact (Kd.R_mono (Kd.R_far (p := ⟨gb231, 1, none⟩) (Kd.R_far (p := ⟨gb231, 0, none⟩) (Kd.R_types HO223.out BK231.out (by decide)) (fun _ hk => hk.2) (.slice Ao53 t225.length co53)) (fun _ hk => hk.2) (.slice Ao57 t228.length co57)) (fun _ h_ => h_.1))))) (Kd.R_lt (by (with_reducible repeat (first | apply Kd.R_alloc | apply Kd.R_drewN | apply Kd.R_drew)); exact (Kd.R_mono (Kd.R_far (p := ⟨gb231, 1, none⟩) (Kd.R_far (p := ⟨gb231, 0, none⟩) (Kd.R_types HO227.out BK231.out (by decide)) (fun _ hk => hk.2) (.slice Ao53 t225.length co53)) (fun _ hk => hk.2) (.slice Ao57 t228.length co57)) (fun _ h_ => h_.1))))) (Kd.R_lt (by (with_reducible repeat (first | apply Kd.R_alloc | apply Kd.R_drewN | apply Kd.R_drew)); exact (Kd.R_mono (Kd.R_far (p := ⟨gb231, 1, none⟩) (Kd.R_far (p := ⟨gb231, 0, none⟩) (Kd.R_types HO230.out BK231.out (by decide)) (fun _ hk => hk.2) (.slice Ao53 t225.length co53)) (fun _ hk => hk.2) (.slice Ao57 t228.length co57)) (fun _ h_ => h_.1))))) (below_size (kW HB.out))); have n9_ := k0 (Kd.R_lower (Kd.R_new' (Kd.R_new' (Kd.R_new' (Kd.R_new' (Kd.R_new' (Kd.R_new' (Kd.R_new' (Kd.R_new' ho1 (Kd.R_lt (by (with_reducible repeat (first | apply Kd.R_alloc | apply Kd.R_drewN | apply Kd.R_drew)); exact (Kd.R_mono (Kd.R_far (p := ⟨gb231, 1, none⟩) (Kd.R_far (p := ⟨gb231, 0, none⟩) (Kd.R_types HO205.out BK231.out (by decide)) (fun _ hk => hk.2) (.slice Ao53 t225.length co53)) (fun _ hk => hk.2) (.slice Ao57 t228.length co57)) (fun _ h_ => h_.1))))) (Kd.R_lt (by (with_reducible repeat (first | apply Kd.R_alloc | apply Kd.R_drewN | apply Kd.R_drew)); exact (Kd.R_mono (Kd.R_far (p := ⟨gb231, 1, none⟩) (Kd.R_far (p := ⟨gb231, 0, none⟩) (Kd.R_types HO208.out BK231.out (by decide)) (fun _ hk => hk.2) (.slice Ao53 t225.length co53)) (fun _ hk => hk.2) (.slice Ao57 t228.length co57)) (fun _ h_ => h_.1))))) (Kd.R_lt (by (with_reducible repeat (first | apply Kd.R_alloc | apply Kd.R_drewN | apply Kd.R_drew)); exact (Kd.R_mono (Kd.R_far (p := ⟨gb231, 1, none⟩) (Kd.R_far (p := ⟨gb231, 0, none⟩) (Kd.R_types HO211.out BK231.out (by decide)) (fun _ hk => hk.2) (.slice Ao53 t225.length co53)) (fun _ hk => hk.2) (.slice Ao57 t228.length co57)) (fun _ h_ => h_.1))))) (Kd.R_lt (by (with_reducible repeat (first | apply Kd.R_alloc | apply Kd.R_drewN | apply Kd.R_drew)); exact (Kd.R_mono (Kd.R_far (p := ⟨gb231, 1, none⟩) (Kd.R_far (p := ⟨gb231, 0, none⟩) (Kd.R_types HO214.out BK231.out (by decide)) (fun _ hk => hk.2) (.slice Ao53 t225.length co53)) (fun _ hk => hk.2) (.slice Ao57 t228.length co57)) (fun _ h_ => h_.1))))) (Kd.R_lt (by (with_reducible repeat (first | apply Kd.R_alloc | apply Kd.R_drewN | apply Kd.R_drew)); exact (Kd.R_mono (Kd.R_far (p := ⟨gb231, 1, none⟩) (Kd.R_far (p := ⟨gb231, 0, none⟩) (Kd.R_types HO220.out BK231.out (by decide)) (fun _ hk => hk.2) (.slice Ao53 t225.length co53)) (fun _ hk => hk.2) (.slice Ao57 t228.length co57)) (fun _ h_ => h_.1))))) (Kd.R_lt (by (with_reducible repeat (first | apply Kd.R_alloc | apply Kd.R_drewN | apply Kd.R_drew)); exact (Kd.R_mono (Kd.R_far (p := ⟨gb231, 1, none⟩) (Kd.R_far (p := ⟨gb231, 0, none⟩) (Kd.R_types HO223.out BK231.out (by decide)) (fun _ hk => hk.2) (.slice Ao53 t225.length co53)) (fun _ hk => hk.2) (.slice Ao57 t228.length co57)) (fun _ h_ => h_.1))))) (Kd.R_lt (by (with_reducible repeat (first | apply Kd.R_alloc | apply Kd.R_drewN | apply Kd.R_drew)); exact (Kd.R_mono (Kd.R_far (p := ⟨gb231, 1, none⟩) (Kd.R_far (p := ⟨gb231, 0, none⟩) (Kd.R_types HO227.out BK231.out (by decide)) (fun _ hk => hk.2) (.slice Ao53 t225.length co53)) (fun _ hk => hk.2) (.slice Ao57 t228.length co57)) (fun _ h_ => h_.1))))) (Kd.R_lt (by (with_reducible repeat (first | apply Kd.R_alloc | apply Kd.R_drewN | apply Kd.R_drew)); exact (Kd.R_mono (Kd.R_far (p := ⟨gb231, 1, none⟩) (Kd.R_far (p := ⟨gb231, 0, none⟩) (Kd.R_types HO230.out BK231.out (by decide)) (fun _ hk => hk.2) (.slice Ao53 t225.length co53)) (fun _ hk => hk.2) (.slice Ao57 t228.length co57)) (fun _ h_ => h_.1))))) (below_size (kW HB.out))); have n10_ := k0 (blk_below (g := gb216) (o := .cells #[.slice Ao39 t209.length co39, .slice Ao41 t212.length co41] 35 (0, 0)) (by (with_reducible repeat (first | refine blk_drewN ?_ _ | refine blk_drew ?_ | refine blk_alloc ?_ _)); refine blk_far ?_ NB216_231.out _; (with_reducible repeat (first | refine blk_drewN ?_ _ | refine blk_drew ?_ | refine blk_alloc ?_ _)); refine blk_far ?_ NB216_231.out _; (with_reducible repeat (first | refine blk_drewN ?_ _ | refine blk_drew ?_ | refine blk_alloc ?_ _)); exact BK216.out) hb); have n11_ := k0 (blk_below (g := gb224) (o := .cells #[.slice Ao46 t218.length co46, .slice Ao49 t221.length co49] 35 (0, 0)) (by (with_reducible repeat (first | refine blk_drewN ?_ _ | refine blk_drew ?_ | refine blk_alloc ?_ _)); refine blk_far ?_ NB224_231.out _; (with_reducible repeat (first | refine blk_drewN ?_ _ | refine blk_drew ?_ | refine blk_alloc ?_ _)); refine blk_far ?_ NB224_231.out _; (with_reducible repeat (first | refine blk_drewN ?_ _ | refine blk_drew ?_ | refine blk_alloc ?_ _)); exact BK224.out) hb); have n12_ := k0 (blk_below (g := gb231) (o := .cells #[.slice Ao53 t225.length co53, .slice Ao57 t228.length co57] 35 (0, 0)) (by (with_reducible repeat (first | refine blk_drewN ?_ _ | refine blk_drew ?_ | refine blk_alloc ?_ _)); refine blk_put (cs := #[.slice Ao53 t225.length co53, .slice none 0 0]) ?_ 1 _ rfl; (with_reducible repeat (first | refine blk_drewN ?_ _ | refine blk_drew ?_ | refine blk_alloc ?_ _)); refine blk_put (cs := #[.slice none 0 0, .slice none 0 0]) ?_ 0 _ rfl; (with_reducible repeat (first | refine blk_drewN ?_ _ | refine blk_drew ?_ | refine blk_alloc ?_ _)); exact BK231.out) hb); have n13_ := k0 (below_step (kW HB.out) hb); clear HO205; clear HO208; clear HO211; clear HO214; clear HO220; clear HO223; clear HO227; clear HO230; clear BK216; clear BK224; clear BK231; clear HB; have HO205 := n0_; have HO208 := n1_; have HO211 := n2_; have HO214 := n3_; have HO220 := n4_; have HO223 := n5_; have HO227 := n6_; have HO230 := n7_; have HO234 := n8_; have HO237 := n9_; have BK216 := n10_; have BK224 := n11_; have BK231 := n12_; have HB := n13_; clear n0_ n1_ n2_ n3_ n4_ n5_ n6_ n7_ n8_ n9_ n10_ n11_ n12_ n13_; (try clear hb); (try clear hb2); (try clear hk); (try clear hi); (try clear ho0); (try clear ho1)) | ((with_reducible refine gate_dst (N := 10) rfl ?_); (try (refine gate_guard (by rfl) ?_; dsimp only)); refine box_event ?hg (N := 10) ?hd (cs := #[.slice none 0 0, .slice none 0 0]) (t := 35) ?hr ?_; (case hd => rfl); (case hg => rfl); (case hr => first | (go_simp; done) | (go_simp; rfl)); intro gb239 hg w59 hbox hb; have n0_ := k0 (Kd.R_below (kR HO205.out) hb); have n1_ := k0 (Kd.R_below (kR HO208.out) hb); have n2_ := k0 (Kd.R_below (kR HO211.out) hb); have n3_ := k0 (Kd.R_below (kR HO214.out) hb); have n4_ := k0 (Kd.R_below (kR HO220.out) hb); have n5_ := k0 (Kd.R_below (kR HO223.out) hb); have n6_ := k0 (Kd.R_below (kR HO227.out) hb); have n7_ := k0 (Kd.R_below (kR HO230.out) hb); have n8_ := k0 (Kd.R_below (kR HO234.out) hb); have n9_ := k0 (Kd.R_below (kR HO237.out) hb); have n10_ := k0 (kb BK216.out hb); have n11_ := k0 (kb BK224.out hb); have n12_ := k0 (kb BK231.out hb); have n13_ := k0 (below_step (kW HB.out) hb); have n14_ := k0 (hbox); have n15_ := k0 ((by rw [hg]; exact (below_size (kW HB.out)) : w.heap.size ≤ gb239)); have n16_ := k0 ((by rw [hg]; exact (below_size (kW HB.out)) : w.heap.size ≤ gb239)); have n17_ := k0 ((by rw [hg]; exact Nat.ne_of_lt (blk_lt (g := gb216) (o := .cells #[.slice Ao39 t209.length co39, .slice Ao41 t212.length co41] 35 (0, 0)) (kB BK216.out)) : gb216 ≠ gb239)); have n18_ := k0 ((by rw [hg]; exact Nat.ne_of_gt (blk_lt (g := gb216) (o := .cells #[.slice Ao39 t209.length co39, .slice Ao41 t212.length co41] 35 (0, 0)) (kB BK216.out)) : gb239 ≠ gb216)); have n19_ := k0 ((by rw [hg]; exact Nat.ne_of_lt (blk_lt (g := gb224) (o := .cells #[.slice Ao46 t218.length co46, .slice Ao49 t221.length co49] 35 (0, 0)) (kB BK224.out)) : gb224 ≠ gb239)); have n20_ := k0 ((by rw [hg]; exact Nat.ne_of_gt (blk_lt (g := gb224) (o := .cells #[.slice Ao46 t218.length co46, .slice Ao49 t221.length co49] 35 (0, 0)) (kB BK224.out)) : gb239 ≠ gb224)); have n21_ := k0 ((by rw [hg]; exact Nat.ne_of_lt (blk_lt (g := gb231) (o := .cells #[.slice Ao53 t225.length co53, .slice Ao57 t228.length co57] 35 (0, 0)) (kB BK231.out)) : gb231 ≠ gb239)); have n22_ := k0 ((by rw [hg]; exact Nat.ne_of_gt (blk_lt (g := gb231) (o := .cells #[.slice Ao53 t225.length co53, .slice Ao57 t228.length co57] 35 (0, 0)) (kB BK231.out)) : gb239 ≠ gb231)); clear HO205; clear HO208; clear HO211; clear HO214; clear HO220; clear HO223; clear HO227; clear HO230; clear HO234; clear HO237; clear BK216; clear BK224; clear BK231; clear HB; have HO205 := n0_; have HO208 := n1_; have HO211 := n2_; have HO214 := n3_; have HO220 := n4_; have HO223 := n5_; have HO227 := n6_; have HO230 := n7_; have HO234 := n8_; have HO237 := n9_; have BK216 := n10_; have BK224 := n11_; have BK231 := n12_; have HB := n13_; have BK239 := n14_; have GW239 := n15_; have GE239 := n16_; have NB216_239 := n17_; have NB239_216 := n18_; have NB224_239 := n19_; have NB239_224 := n20_; have NB231_239 := n21_; have NB239_231 := n22_; clear n0_ n1_ n2_ n3_ n4_ n5_ n6_ n7_ n8_ n9_ n10_ n11_ n12_ n13_ n14_ n15_ n16_ n17_ n18_ n19_ n20_ n21_ n22_; clear hb hbox hg; obtain ⟨Ao60, co60, eo60⟩ := Kd.R_slice HO234.out; subst eo60; have hnb61 := NB239_216.out; have hnc61 := NB216_239.out; have hnb62 := NB239_224.out; have hnc62 := NB224_239.out; have hnb63 := NB239_231.out; have hnc63 := NB231_239.out; have hcz64_0 : w59.cell? ⟨gb239, 0, none⟩ = some (.slice none 0 0) := (blk_cell BK239.out 0).trans rfl; have hcz64_1 : w59.cell? ⟨gb239, 1, none⟩ = some (.slice none 0 0) := (blk_cell BK239.out 1).trans rfl; have hfz64_0 := blk_frozen BK239.out 0; have hfz64_1 := blk_frozen BK239.out 1; obtain ⟨Ao65, co65, eo65⟩ := Kd.R_slice HO237.out; subst eo65; have hcz66_0 : w59.cell? ⟨gb216, 0, none⟩ = some (.slice Ao39 t209.length co39) := (blk_cell BK216.out 0).trans rfl; have hcz66_1 : w59.cell? ⟨gb216, 1, none⟩ = some (.slice Ao41 t212.length co41) := (blk_cell BK216.out 1).trans rfl; have hfz66_0 := blk_frozen BK216.out 0; have hfz66_1 := blk_frozen BK216.out 1) | ((with_reducible refine gate_callee (f := 31) rfl ?_); refine goesL_ (some 48) rfl rfl Try.func31 (by kernel_rfl) rfl #[.agg #[.slice Ao39 t209.length co39, .slice Ao41 t212.length co41], .slice Ao36 t206.length co36] rfl (by (try simp only [List.map_toArray, List.map_cons, List.map_nil]); first | done | rfl | (simp only [List.length_drop, List.length_take]; rfl)) ?_; (with_reducible refine (impl_DiskReset.calls _ _ t209 _ _ t212 _ _ t206 t240 t243 t246 _ ?side1 ?side2 ?side3 ?side4 ?side5 ?side6 A10.out).mono ?_); (case side1 => refine (Kd.R_reads' (e := 5) (base := w.heap.size) (ok := fun k_ => ((((((((some k_ ≠ (.slice Ao41 t212.length co41 : Value).ownBlock ∧ some k_ ≠ (.slice Ao35 t203.length co35 : Value).ownBlock) ∧ some k_ ≠ (.slice Ao36 t206.length co36 : Value).ownBlock) ∧ some k_ ≠ (.slice Ao46 t218.length co46 : Value).ownBlock) ∧ some k_ ≠ (.slice Ao49 t221.length co49 : Value).ownBlock) ∧ some k_ ≠ (.slice Ao53 t225.length co53 : Value).ownBlock) ∧ some k_ ≠ (.slice Ao57 t228.length co57 : Value).ownBlock) ∧ some k_ ≠ (.slice Ao60 t232.length co60 : Value).ownBlock) ∧ some k_ ≠ (.slice Ao65 t235.length co65 : Value).ownBlock)) (n := t209.length) (c := co39) ?_).2.2; exact (by (with_reducible repeat (first | apply Kd.R_alloc | apply Kd.R_drewN | apply Kd.R_drew)); exact (Kd.R_mono (Kd.R_far (p := ⟨gb239, 1, none⟩) (Kd.R_far (p := ⟨gb239, 0, none⟩) (Kd.R_types HO211.out BK239.out (by decide)) (fun _ hk => hk.2) (.slice Ao60 t232.length co60)) (fun _ hk => hk.2) (.slice Ao65 t235.length co65)) (fun _ h_ => h_.1)))); (case side2 => exact (Kd.R_reads' HO211.out).2.1); (case side3 => refine (Kd.R_reads' (e := 5) (base := w.heap.size) (ok := fun k_ => ((((((((some k_ ≠ (.slice Ao39 t209.length co39 : Value).ownBlock ∧ some k_ ≠ (.slice Ao35 t203.length co35 : Value).ownBlock) ∧ some k_ ≠ (.slice Ao36 t206.length co36 : Value).ownBlock) ∧ some k_ ≠ (.slice Ao46 t218.length co46 : Value).ownBlock) ∧ some k_ ≠ (.slice Ao49 t221.length co49 : Value).ownBlock) ∧ some k_ ≠ (.slice Ao53 t225.length co53 : Value).ownBlock) ∧ some k_ ≠ (.slice Ao57 t228.length co57 : Value).ownBlock) ∧ some k_ ≠ (.slice Ao60 t232.length co60 : Value).ownBlock) ∧ some k_ ≠ (.slice Ao65 t235.length co65 : Value).ownBlock)) (n := t212.length) (c := co41) ?_).2.2; exact (by (with_reducible repeat (first | apply Kd.R_alloc | apply Kd.R_drewN | apply Kd.R_drew)); exact (Kd.R_mono (Kd.R_far (p := ⟨gb239, 1, none⟩) (Kd.R_far (p := ⟨gb239, 0, none⟩) (Kd.R_types HO214.out BK239.out (by decide)) (fun _ hk => hk.2) (.slice Ao60 t232.length co60)) (fun _ hk => hk.2) (.slice Ao65 t235.length co65)) (fun _ h_ => h_.1)))); (case side4 => exact (Kd.R_reads' HO214.out).2.1); (case side5 => refine (Kd.R_reads' (e := 5) (base := w.heap.size) (ok := fun k_ => (((((((((True ∧ some k_ ≠ (.slice Ao35 t203.length co35 : Value).ownBlock) ∧ some k_ ≠ (.slice Ao39 t209.length co39 : Value).ownBlock) ∧ some k_ ≠ (.slice Ao41 t212.length co41 : Value).ownBlock) ∧ some k_ ≠ (.slice Ao46 t218.length co46 : Value).ownBlock) ∧ some k_ ≠ (.slice Ao49 t221.length co49 : Value).ownBlock) ∧ some k_ ≠ (.slice Ao53 t225.length co53 : Value).ownBlock) ∧ some k_ ≠ (.slice Ao57 t228.length co57 : Value).ownBlock) ∧ some k_ ≠ (.slice Ao60 t232.length co60 : Value).ownBlock) ∧ some k_ ≠ (.slice Ao65 t235.length co65 : Value).ownBlock)) (n := t206.length) (c := co36) ?_).2.2; exact (by (with_reducible repeat (first | apply Kd.R_alloc | apply Kd.R_drewN | apply Kd.R_drew)); exact (Kd.R_mono (Kd.R_far (p := ⟨gb239, 1, none⟩) (Kd.R_far (p := ⟨gb239, 0, none⟩) (Kd.R_types HO208.out BK239.out (by decide)) (fun _ hk => hk.2) (.slice Ao60 t232.length co60)) (fun _ hk => hk.2) (.slice Ao65 t235.length co65)) (fun _ h_ => h_.1)))); (case side6 => exact (Kd.R_reads' HO208.out).2.1); rintro e w67 ⟨v241, v244, rfl, ho0, ho1, hb⟩; refine ⟨_, rfl, ?_⟩; have n0_ := k0 (Kd.R_mono (Kd.R_told (Kd.R_told (Kd.R_old (by (with_reducible repeat (first | apply Kd.R_alloc | apply Kd.R_drewN | apply Kd.R_drew)); exact (Kd.R_mono (Kd.R_far (p := ⟨gb239, 1, none⟩) (Kd.R_far (p := ⟨gb239, 0, none⟩) (Kd.R_types HO205.out BK239.out (by decide)) (fun _ hk => hk.2) (.slice Ao60 t232.length co60)) (fun _ hk => hk.2) (.slice Ao65 t235.length co65)) (fun _ h_ => h_.1))) hb) (Kd.R_base ho0)) (Kd.R_base ho1)) (fun _ h_ => h_.1)); have n1_ := k0 (Kd.R_mono (Kd.R_told (Kd.R_told (Kd.R_old (by (with_reducible repeat (first | apply Kd.R_alloc | apply Kd.R_drewN | apply Kd.R_drew)); exact (Kd.R_mono (Kd.R_far (p := ⟨gb239, 1, none⟩) (Kd.R_far (p := ⟨gb239, 0, none⟩) (Kd.R_types HO208.out BK239.out (by decide)) (fun _ hk => hk.2) (.slice Ao60 t232.length co60)) (fun _ hk => hk.2) (.slice Ao65 t235.length co65)) (fun _ h_ => h_.1))) hb) (Kd.R_base ho0)) (Kd.R_base ho1)) (fun _ h_ => h_.1)); have n2_ := k0 (Kd.R_mono (Kd.R_told (Kd.R_told (Kd.R_old (by (with_reducible repeat (first | apply Kd.R_alloc | apply Kd.R_drewN | apply Kd.R_drew)); exact (Kd.R_mono (Kd.R_far (p := ⟨gb239, 1, none⟩) (Kd.R_far (p := ⟨gb239, 0, none⟩) (Kd.R_types HO211.out BK239.out (by decide)) (fun _ hk => hk.2) (.slice Ao60 t232.length co60)) (fun _ hk => hk.2) (.slice Ao65 t235.length co65)) (fun _ h_ => h_.1))) hb) (Kd.R_base ho0)) (Kd.R_base ho1)) (fun _ h_ => h_.1)); have n3_ := k0 (Kd.R_mono (Kd.R_told (Kd.R_told (Kd.R_old (by (with_reducible repeat (first | apply Kd.R_alloc | apply Kd.R_drewN | apply Kd.R_drew)); exact (Kd.R_mono (Kd.R_far (p := ⟨gb239, 1, none⟩) (Kd.R_far (p := ⟨gb239, 0, none⟩) (Kd.R_types HO214.out BK239.out (by decide)) (fun _ hk => hk.2) (.slice Ao60 t232.length co60)) (fun _ hk => hk.2) (.slice Ao65 t235.length co65)) (fun _ h_ => h_.1))) hb) (Kd.R_base ho0)) (Kd.R_base ho1)) (fun _ h_ => h_.1)); have n4_ := k0 (Kd.R_mono (Kd.R_told (Kd.R_told (Kd.R_old (by (with_reducible repeat (first | apply Kd.R_alloc | apply Kd.R_drewN | apply Kd.R_drew)); exact (Kd.R_mono (Kd.R_far (p := ⟨gb239, 1, none⟩) (Kd.R_far (p := ⟨gb239, 0, none⟩) (Kd.R_types HO220.out BK239.out (by decide)) (fun _ hk => hk.2) (.slice Ao60 t232.length co60)) (fun _ hk => hk.2) (.slice Ao65 t235.length co65)) (fun _ h_ => h_.1))) hb) (Kd.R_base ho0)) (Kd.R_base ho1)) (fun _ h_ => h_.1)); have n5_ := k0 (Kd.R_mono (Kd.R_told (Kd.R_told (Kd.R_old (by (with_reducible repeat (first | apply Kd.R_alloc | apply Kd.R_drewN | apply Kd.R_drew)); exact (Kd.R_mono (Kd.R_far (p := ⟨gb239, 1, none⟩) (Kd.R_far (p := ⟨gb239, 0, none⟩) (Kd.R_types HO223.out BK239.out (by decide)) (fun _ hk => hk.2) (.slice Ao60 t232.length co60)) (fun _ hk => hk.2) (.slice Ao65 t235.length co65)) (fun _ h_ => h_.1))) hb) (Kd.R_base ho0)) (Kd.R_base ho1)) (fun _ h_ => h_.1)); have n6_ := k0 (Kd.R_mono (Kd.R_told (Kd.R_told (Kd.R_old (by (with_reducible repeat (first | apply Kd.R_alloc | apply Kd.R_drewN | apply Kd.R_drew)); exact (Kd.R_mono (Kd.R_far (p := ⟨gb239, 1, none⟩) (Kd.R_far (p := ⟨gb239, 0, none⟩) (Kd.R_types HO227.out BK239.out (by decide)) (fun _ hk => hk.2) (.slice Ao60 t232.length co60)) (fun _ hk => hk.2) (.slice Ao65 t235.length co65)) (fun _ h_ => h_.1))) hb) (Kd.R_base ho0)) (Kd.R_base ho1)) (fun _ h_ => h_.1)); have n7_ := k0 (Kd.R_mono (Kd.R_told (Kd.R_told (Kd.R_old (by (with_reducible repeat (first | apply Kd.R_alloc | apply Kd.R_drewN | apply Kd.R_drew)); exact (Kd.R_mono (Kd.R_far (p := ⟨gb239, 1, none⟩) (Kd.R_far (p := ⟨gb239, 0, none⟩) (Kd.R_types HO230.out BK239.out (by decide)) (fun _ hk => hk.2) (.slice Ao60 t232.length co60)) (fun _ hk => hk.2) (.slice Ao65 t235.length co65)) (fun _ h_ => h_.1))) hb) (Kd.R_base ho0)) (Kd.R_base ho1)) (fun _ h_ => h_.1)); have n8_ := k0 (Kd.R_mono (Kd.R_told (Kd.R_told (Kd.R_old (by (with_reducible repeat (first | apply Kd.R_alloc | apply Kd.R_drewN | apply Kd.R_drew)); exact (Kd.R_mono (Kd.R_far (p := ⟨gb239, 1, none⟩) (Kd.R_far (p := ⟨gb239, 0, none⟩) (Kd.R_types HO234.out BK239.out (by decide)) (fun _ hk => hk.2) (.slice Ao60 t232.length co60)) (fun _ hk => hk.2) (.slice Ao65 t235.length co65)) (fun _ h_ => h_.1))) hb) (Kd.R_base ho0)) (Kd.R_base ho1)) (fun _ h_ => h_.1)); have n9_ := k0 (Kd.R_mono (Kd.R_told (Kd.R_told (Kd.R_old (by (with_reducible repeat (first | apply Kd.R_alloc | apply Kd.R_drewN | apply Kd.R_drew)); exact (Kd.R_mono (Kd.R_far (p := ⟨gb239, 1, none⟩) (Kd.R_far (p := ⟨gb239, 0, none⟩) (Kd.R_types HO237.out BK239.out (by decide)) (fun _ hk => hk.2) (.slice Ao60 t232.length co60)) (fun _ hk => hk.2) (.slice Ao65 t235.length co65)) (fun _ h_ => h_.1))) hb) (Kd.R_base ho0)) (Kd.R_base ho1)) (fun _ h_ => h_.1)); have n10_ := k0 (Kd.R_lower (Kd.R_new' (Kd.R_new' (Kd.R_new' (Kd.R_new' (Kd.R_new' (Kd.R_new' (Kd.R_new' (Kd.R_new' (Kd.R_new' (Kd.R_new' ho0 (Kd.R_lt (by (with_reducible repeat (first | apply Kd.R_alloc | apply Kd.R_drewN | apply Kd.R_drew)); exact (Kd.R_mono (Kd.R_far (p := ⟨gb239, 1, none⟩) (Kd.R_far (p := ⟨gb239, 0, none⟩) (Kd.R_types HO205.out BK239.out (by decide)) (fun _ hk => hk.2) (.slice Ao60 t232.length co60)) (fun _ hk => hk.2) (.slice Ao65 t235.length co65)) (fun _ h_ => h_.1))))) (Kd.R_lt (by (with_reducible repeat (first | apply Kd.R_alloc | apply Kd.R_drewN | apply Kd.R_drew)); exact (Kd.R_mono (Kd.R_far (p := ⟨gb239, 1, none⟩) (Kd.R_far (p := ⟨gb239, 0, none⟩) (Kd.R_types HO208.out BK239.out (by decide)) (fun _ hk => hk.2) (.slice Ao60 t232.length co60)) (fun _ hk => hk.2) (.slice Ao65 t235.length co65)) (fun _ h_ => h_.1))))) (Kd.R_lt (by (with_reducible repeat (first | apply Kd.R_alloc | apply Kd.R_drewN | apply Kd.R_drew)); exact (Kd.R_mono (Kd.R_far (p := ⟨gb239, 1, none⟩) (Kd.R_far (p := ⟨gb239, 0, none⟩) (Kd.R_types HO211.out BK239.out (by decide)) (fun _ hk => hk.2) (.slice Ao60 t232.length co60)) (fun _ hk => hk.2) (.slice Ao65 t235.length co65)) (fun _ h_ => h_.1))))) (Kd.R_lt (by (with_reducible repeat (first | apply Kd.R_alloc | apply Kd.R_drewN | apply Kd.R_drew)); exact (Kd.R_mono (Kd.R_far (p := ⟨gb239, 1, none⟩) (Kd.R_far (p := ⟨gb239, 0, none⟩) (Kd.R_types HO214.out BK239.out (by decide)) (fun _ hk => hk.2) (.slice Ao60 t232.length co60)) (fun _ hk => hk.2) (.slice Ao65 t235.length co65)) (fun _ h_ => h_.1))))) (Kd.R_lt (by (with_reducible repeat (first | apply Kd.R_alloc | apply Kd.R_drewN | apply Kd.R_drew)); exact (Kd.R_mono (Kd.R_far (p := ⟨gb239, 1, none⟩) (Kd.R_far (p := ⟨gb239, 0, none⟩) (Kd.R_types HO220.out BK239.out (by decide)) (fun _ hk => hk.2) (.slice Ao60 t232.length co60)) (fun _ hk => hk.2) (.slice Ao65 t235.length co65)) (fun _ h_ => h_.1))))) (Kd.R_lt (by (with_reducible repeat (first | apply Kd.R_alloc | apply Kd.R_drewN | apply Kd.R_drew)); exact (Kd.R_mono (Kd.R_far (p := ⟨gb239, 1, none⟩) (Kd.R_far (p := ⟨gb239, 0, none⟩) (Kd.R_types HO223.out BK239.out (by decide)) (fun _ hk => hk.2) (.slice Ao60 t232.length co60)) (fun _ hk => hk.2) (.slice Ao65 t235.length co65)) (fun _ h_ => h_.1))))) (Kd.R_lt (by (with_reducible repeat (first | apply Kd.R_alloc | apply Kd.R_drewN | apply Kd.R_drew)); exact (Kd.R_mono (Kd.R_far (p := ⟨gb239, 1, none⟩) (Kd.R_far (p := ⟨gb239, 0, none⟩) (Kd.R_types HO227.out BK239.out (by decide)) (fun _ hk => hk.2) (.slice Ao60 t232.length co60)) (fun _ hk => hk.2) (.slice Ao65 t235.length co65)) (fun _ h_ => h_.1))))) (Kd.R_lt (by (with_reducible repeat (first | apply Kd.R_alloc | apply Kd.R_drewN | apply Kd.R_drew)); exact (Kd.R_mono (Kd.R_far (p := ⟨gb239, 1, none⟩) (Kd.R_far (p := ⟨gb239, 0, none⟩) (Kd.R_types HO230.out BK239.out (by decide)) (fun _ hk => hk.2) (.slice Ao60 t232.length co60)) (fun _ hk => hk.2) (.slice Ao65 t235.length co65)) (fun _ h_ => h_.1))))) (Kd.R_lt (by (with_reducible repeat (first | apply Kd.R_alloc | apply Kd.R_drewN | apply Kd.R_drew)); exact (Kd.R_mono (Kd.R_far (p := ⟨gb239, 1, none⟩) (Kd.R_far (p := ⟨gb239, 0, none⟩) (Kd.R_types HO234.out BK239.out (by decide)) (fun _ hk => hk.2) (.slice Ao60 t232.length co60)) (fun _ hk => hk.2) (.slice Ao65 t235.length co65)) (fun _ h_ => h_.1))))) (Kd.R_lt (by (with_reducible repeat (first | apply Kd.R_alloc | apply Kd.R_drewN | apply Kd.R_drew)); exact (Kd.R_mono (Kd.R_far (p := ⟨gb239, 1, none⟩) (Kd.R_far (p := ⟨gb239, 0, none⟩) (Kd.R_types HO237.out BK239.out (by decide)) (fun _ hk => hk.2) (.slice Ao60 t232.length co60)) (fun _ hk => hk.2) (.slice Ao65 t235.length co65)) (fun _ h_ => h_.1))))) (below_size (kW HB.out))); have n11_ := k0 (Kd.R_lower (Kd.R_new' (Kd.R_new' (Kd.R_new' (Kd.R_new' (Kd.R_new' (Kd.R_new' (Kd.R_new' (Kd.R_new' (Kd.R_new' (Kd.R_new' ho1 (Kd.R_lt (by (with_reducible repeat (first | apply Kd.R_alloc | apply Kd.R_drewN | apply Kd.R_drew)); exact (Kd.R_mono (Kd.R_far (p := ⟨gb239, 1, none⟩) (Kd.R_far (p := ⟨gb239, 0, none⟩) (Kd.R_types HO205.out BK239.out (by decide)) (fun _ hk => hk.2) (.slice Ao60 t232.length co60)) (fun _ hk => hk.2) (.slice Ao65 t235.length co65)) (fun _ h_ => h_.1))))) (Kd.R_lt (by (with_reducible repeat (first | apply Kd.R_alloc | apply Kd.R_drewN | apply Kd.R_drew)); exact (Kd.R_mono (Kd.R_far (p := ⟨gb239, 1, none⟩) (Kd.R_far (p := ⟨gb239, 0, none⟩) (Kd.R_types HO208.out BK239.out (by decide)) (fun _ hk => hk.2) (.slice Ao60 t232.length co60)) (fun _ hk => hk.2) (.slice Ao65 t235.length co65)) (fun _ h_ => h_.1))))) (Kd.R_lt (by (with_reducible repeat (first | apply Kd.R_alloc | apply Kd.R_drewN | apply Kd.R_drew)); exact (Kd.R_mono (Kd.R_far (p := ⟨gb239, 1, none⟩) (Kd.R_far (p := ⟨gb239, 0, none⟩) (Kd.R_types HO211.out BK239.out (by decide)) (fun _ hk => hk.2) (.slice Ao60 t232.length co60)) (fun _ hk => hk.2) (.slice Ao65 t235.length co65)) (fun _ h_ => h_.1))))) (Kd.R_lt (by (with_reducible repeat (first | apply Kd.R_alloc | apply Kd.R_drewN | apply Kd.R_drew)); exact (Kd.R_mono (Kd.R_far (p := ⟨gb239, 1, none⟩) (Kd.R_far (p := ⟨gb239, 0, none⟩) (Kd.R_types HO214.out BK239.out (by decide)) (fun _ hk => hk.2) (.slice Ao60 t232.length co60)) (fun _ hk => hk.2) (.slice Ao65 t235.length co65)) (fun _ h_ => h_.1))))) (Kd.R_lt (by (with_reducible repeat (first | apply Kd.R_alloc | apply Kd.R_drewN | apply Kd.R_drew)); exact (Kd.R_mono (Kd.R_far (p := ⟨gb239, 1, none⟩) (Kd.R_far (p := ⟨gb239, 0, none⟩) (Kd.R_types HO220.out BK239.out (by decide)) (fun _ hk => hk.2) (.slice Ao60 t232.length co60)) (fun _ hk => hk.2) (.slice Ao65 t235.length co65)) (fun _ h_ => h_.1))))) (Kd.R_lt (by (with_reducible repeat (first | apply Kd.R_alloc | apply Kd.R_drewN | apply Kd.R_drew)); exact (Kd.R_mono (Kd.R_far (p := ⟨gb239, 1, none⟩) (Kd.R_far (p := ⟨gb239, 0, none⟩) (Kd.R_types HO223.out BK239.out (by decide)) (fun _ hk => hk.2) (.slice Ao60 t232.length co60)) (fun _ hk => hk.2) (.slice Ao65 t235.length co65)) (fun _ h_ => h_.1))))) (Kd.R_lt (by (with_reducible repeat (first | apply Kd.R_alloc | apply Kd.R_drewN | apply Kd.R_drew)); exact (Kd.R_mono (Kd.R_far (p := ⟨gb239, 1, none⟩) (Kd.R_far (p := ⟨gb239, 0, none⟩) (Kd.R_types HO227.out BK239.out (by decide)) (fun _ hk => hk.2) (.slice Ao60 t232.length co60)) (fun _ hk => hk.2) (.slice Ao65 t235.length co65)) (fun _ h_ => h_.1))))) (Kd.R_lt (by (with_reducible repeat (first | apply Kd.R_alloc | apply Kd.R_drewN | apply Kd.R_drew)); exact (Kd.R_mono (Kd.R_far (p := ⟨gb239, 1, none⟩) (Kd.R_far (p := ⟨gb239, 0, none⟩) (Kd.R_types HO230.out BK239.out (by decide)) (fun _ hk => hk.2) (.slice Ao60 t232.length co60)) (fun _ hk => hk.2) (.slice Ao65 t235.length co65)) (fun _ h_ => h_.1))))) (Kd.R_lt (by (with_reducible repeat (first | apply Kd.R_alloc | apply Kd.R_drewN | apply Kd.R_drew)); exact (Kd.R_mono (Kd.R_far (p := ⟨gb239, 1, none⟩) (Kd.R_far (p := ⟨gb239, 0, none⟩) (Kd.R_types HO234.out BK239.out (by decide)) (fun _ hk => hk.2) (.slice Ao60 t232.length co60)) (fun _ hk => hk.2) (.slice Ao65 t235.length co65)) (fun _ h_ => h_.1))))) (Kd.R_lt (by (with_reducible repeat (first | apply Kd.R_alloc | apply Kd.R_drewN | apply Kd.R_drew)); exact (Kd.R_mono (Kd.R_far (p := ⟨gb239, 1, none⟩) (Kd.R_far (p := ⟨gb239, 0, none⟩) (Kd.R_types HO237.out BK239.out (by decide)) (fun _ hk => hk.2) (.slice Ao60 t232.length co60)) (fun _ hk => hk.2) (.slice Ao65 t235.length co65)) (fun _ h_ => h_.1))))) (below_size (kW HB.out))); have n12_ := k0 (blk_below (g := gb216) (o := .cells #[.slice Ao39 t209.length co39, .slice Ao41 t212.length co41] 35 (0, 0)) (by (with_reducible repeat (first | refine blk_drewN ?_ _ | refine blk_drew ?_ | refine blk_alloc ?_ _)); refine blk_far ?_ NB216_239.out _; (with_reducible repeat (first | refine blk_drewN ?_ _ | refine blk_drew ?_ | refine blk_alloc ?_ _)); refine blk_far ?_ NB216_239.out _; (with_reducible repeat (first | refine blk_drewN ?_ _ | refine blk_drew ?_ | refine blk_alloc ?_ _)); exact BK216.out) hb); have n13_ := k0 (blk_below (g := gb224) (o := .cells #[.slice Ao46 t218.length co46, .slice Ao49 t221.length co49] 35 (0, 0)) (by (with_reducible repeat (first | refine blk_drewN ?_ _ | refine blk_drew ?_ | refine blk_alloc ?_ _)); refine blk_far ?_ NB224_239.out _; (with_reducible repeat (first | refine blk_drewN ?_ _ | refine blk_drew ?_ | refine blk_alloc ?_ _)); refine blk_far ?_ NB224_239.out _; (with_reducible repeat (first | refine blk_drewN ?_ _ | refine blk_drew ?_ | refine blk_alloc ?_ _)); exact BK224.out) hb); have n14_ := k0 (blk_below (g := gb231) (o := .cells #[.slice Ao53 t225.length co53, .slice Ao57 t228.length co57] 35 (0, 0)) (by (with_reducible repeat (first | refine blk_drewN ?_ _ | refine blk_drew ?_ | refine blk_alloc ?_ _)); refine blk_far ?_ NB231_239.out _; (with_reducible repeat (first | refine blk_drewN ?_ _ | refine blk_drew ?_ | refine blk_alloc ?_ _)); refine blk_far ?_ NB231_239.out _; (with_reducible repeat (first | refine blk_drewN ?_ _ | refine blk_drew ?_ | refine blk_alloc ?_ _)); exact BK231.out) hb); have n15_ := k0 (blk_below (g := gb239) (o := .cells #[.slice Ao60 t232.length co60, .slice Ao65 t235.length co65] 35 (0, 0)) (by (with_reducible repeat (first | refine blk_drewN ?_ _ | refine blk_drew ?_ | refine blk_alloc ?_ _)); refine blk_put (cs := #[.slice Ao60 t232.length co60, .slice none 0 0]) ?_ 1 _ rfl; (with_reducible repeat (first | refine blk_drewN ?_ _ | refine blk_drew ?_ | refine blk_alloc ?_ _)); refine blk_put (cs := #[.slice none 0 0, .slice none 0 0]) ?_ 0 _ rfl; (with_reducible repeat (first | refine blk_drewN ?_ _ | refine blk_drew ?_ | refine blk_alloc ?_ _)); exact BK239.out) hb); have n16_ := k0 (below_step (kW HB.out) hb); clear HO205; clear HO208; clear HO211; clear HO214; clear HO220; clear HO223; clear HO227; clear HO230; clear HO234; clear HO237; clear BK216; clear BK224; clear BK231; clear BK239; clear HB; have HO205 := n0_; have HO208 := n1_; have HO211 := n2_; have HO214 := n3_; have HO220 := n4_; have HO223 := n5_; have HO227 := n6_; have HO230 := n7_; have HO234 := n8_; have HO237 := n9_; have HO242 := n10_; have HO245 := n11_; have BK216 := n12_; have BK224 := n13_; have BK231 := n14_; have BK239 := n15_; have HB := n16_; clear n0_ n1_ n2_ n3_ n4_ n5_ n6_ n7_ n8_ n9_ n10_ n11_ n12_ n13_ n14_ n15_ n16_; (try clear hb); (try clear hb2); (try clear hk); (try clear hi); (try clear ho0); (try clear ho1)) | ((with_reducible refine gate_dst (N := 12) rfl ?_); (try (refine gate_guard (by rfl) ?_; dsimp only)); refine box_event ?hg (N := 12) ?hd (cs := #[.slice none 0 0, .slice none 0 0]) (t := 35) ?hr ?_; (case hd => rfl); (case hg => rfl); (case hr => first | (go_simp; done) | (go_simp; rfl)); intro gb247 hg w68 hbox hb; have n0_ := k0 (Kd.R_below (kR HO205.out) hb); have n1_ := k0 (Kd.R_below (kR HO208.out) hb); have n2_ := k0 (Kd.R_below (kR HO211.out) hb); have n3_ := k0 (Kd.R_below (kR HO214.out) hb); have n4_ := k0 (Kd.R_below (kR HO220.out) hb); have n5_ := k0 (Kd.R_below (kR HO223.out) hb); have n6_ := k0 (Kd.R_below (kR HO227.out) hb); have n7_ := k0 (Kd.R_below (kR HO230.out) hb); have n8_ := k0 (Kd.R_below (kR HO234.out) hb); have n9_ := k0 (Kd.R_below (kR HO237.out) hb); have n10_ := k0 (Kd.R_below (kR HO242.out) hb); have n11_ := k0 (Kd.R_below (kR HO245.out) hb); have n12_ := k0 (kb BK216.out hb); have n13_ := k0 (kb BK224.out hb); have n14_ := k0 (kb BK231.out hb); have n15_ := k0 (kb BK239.out hb); have n16_ := k0 (below_step (kW HB.out) hb); have n17_ := k0 (hbox); have n18_ := k0 ((by rw [hg]; exact (below_size (kW HB.out)) : w.heap.size ≤ gb247)); have n19_ := k0 ((by rw [hg]; exact (below_size (kW HB.out)) : w.heap.size ≤ gb247)); have n20_ := k0 ((by rw [hg]; exact Nat.ne_of_lt (blk_lt (g := gb216) (o := .cells #[.slice Ao39 t209.length co39, .slice Ao41 t212.length co41] 35 (0, 0)) (kB BK216.out)) : gb216 ≠ gb247)); have n21_ := k0 ((by rw [hg]; exact Nat.ne_of_gt (blk_lt (g := gb216) (o := .cells #[.slice Ao39 t209.length co39, .slice Ao41 t212.length co41] 35 (0, 0)) (kB BK216.out)) : gb247 ≠ gb216)); have n22_ := k0 ((by rw [hg]; exact Nat.ne_of_lt (blk_lt (g := gb224) (o := .cells #[.slice Ao46 t218.length co46, .slice Ao49 t221.length co49] 35 (0, 0)) (kB BK224.out)) : gb224 ≠ gb247)); have n23_ := k0 ((by rw [hg]; exact Nat.ne_of_gt (blk_lt (g := gb224) (o := .cells #[.slice Ao46 t218.length co46, .slice Ao49 t221.length co49] 35 (0, 0)) (kB BK224.out)) : gb247 ≠ gb224)); have n24_ := k0 ((by rw [hg]; exact Nat.ne_of_lt (blk_lt (g := gb231) (o := .cells #[.slice Ao53 t225.length co53, .slice Ao57 t228.length co57] 35 (0, 0)) (kB BK231.out)) : gb231 ≠ gb247)); have n25_ := k0 ((by rw [hg]; exact Nat.ne_of_gt (blk_lt (g := gb231) (o := .cells #[.slice Ao53 t225.length co53, .slice Ao57 t228.length co57] 35 (0, 0)) (kB BK231.out)) : gb247 ≠ gb231)); have n26_ := k0 ((by rw [hg]; exact Nat.ne_of_lt (blk_lt (g := gb239) (o := .cells #[.slice Ao60 t232.length co60, .slice Ao65 t235.length co65] 35 (0, 0)) (kB BK239.out)) : gb239 ≠ gb247)); have n27_ := k0 ((by rw [hg]; exact Nat.ne_of_gt (blk_lt (g := gb239) (o := .cells #[.slice Ao60 t232.length co60, .slice Ao65 t235.length co65] 35 (0, 0)) (kB BK239.out)) : gb247 ≠ gb239)); clear HO205; clear HO208; clear HO211; clear HO214; clear HO220; clear HO223; clear HO227; clear HO230; clear HO234; clear HO237; clear HO242; clear HO245; clear BK216; clear BK224; clear BK231; clear BK239; clear HB; have HO205 := n0_; have HO208 := n1_; have HO211 := n2_; have HO214 := n3_; have HO220 := n4_; have HO223 := n5_; have HO227 := n6_; have HO230 := n7_; have HO234 := n8_; have HO237 := n9_; have HO242 := n10_; have HO245 := n11_; have BK216 := n12_; have BK224 := n13_; have BK231 := n14_; have BK239 := n15_; have HB := n16_; have BK247 := n17_; have GW247 := n18_; have GE247 := n19_; have NB216_247 := n20_; have NB247_216 := n21_; have NB224_247 := n22_; have NB247_224 := n23_; have NB231_247 := n24_; have NB247_231 := n25_; have NB239_247 := n26_; have NB247_239 := n27_; clear n0_ n1_ n2_ n3_ n4_ n5_ n6_ n7_ n8_ n9_ n10_ n11_ n12_ n13_ n14_ n15_ n16_ n17_ n18_ n19_ n20_ n21_ n22_ n23_ n24_ n25_ n26_ n27_; clear hb hbox hg; obtain ⟨Ao69, co69, eo69⟩ := Kd.R_slice HO242.out; subst eo69; have hnb70 := NB247_216.out; have hnc70 := NB216_247.out; have hnb71 := NB247_224.out; have hnc71 := NB224_247.out; have hnb72 := NB247_231.out; have hnc72 := NB231_247.out; have hnb73 := NB247_239.out; have hnc73 := NB239_247.out; have hcz74_0 : w68.cell? ⟨gb247, 0, none⟩ = some (.slice none 0 0) := (blk_cell BK247.out 0).trans rfl; have hcz74_1 : w68.cell? ⟨gb247, 1, none⟩ = some (.slice none 0 0) := (blk_cell BK247.out 1).trans rfl; have hfz74_0 := blk_frozen BK247.out 0; have hfz74_1 := blk_frozen BK247.out 1; obtain ⟨Ao75, co75, eo75⟩ := Kd.R_slice HO245.out; subst eo75) | ((with_reducible refine gate_dst (N := 51) rfl ?_); (try (refine gate_guard (by rfl) ?_; dsimp only)); refine Kd.R_lit (Kd.int .u8) _ 5 ?hg (N := 51) ?hd (xs := ([] : List Int)) (inner := []) (ok := fun _ => True) (okp := fun _ => True) ?hr ?hp (fun _ hk => hk) trivial (Below.refl _ _) (Nat.le_refl _) (by simp) ?_; (case hd => rfl); (case hg => rfl); (case hr => first | (go_simp; done) | (go_simp; rfl)); (case hp => exact (Reps.none _ _)); intro v249 w76 ho77 hb hg_ hnew_; clear hg_ hnew_; (first | rw [← Ny248.out] at ho77 | (simp only [Int.reduceToNat] at ho77; rw [← Ny248.out] at ho77)); have n0_ := k0 (Kd.R_elder' (by (with_reducible repeat (first | apply Kd.R_alloc | apply Kd.R_drewN | apply Kd.R_drew)); exact (Kd.R_mono (Kd.R_far (p := ⟨gb247, 1, none⟩) (Kd.R_far (p := ⟨gb247, 0, none⟩) (Kd.R_types HO205.out BK247.out (by decide)) (fun _ hk => hk.2) (.slice Ao69 t240.length co69)) (fun _ hk => hk.2) (.slice Ao75 t243.length co75)) (fun _ h_ => h_.1))) (Kd.R_base ho77) hb); have n1_ := k0 (Kd.R_elder' (by (with_reducible repeat (first | apply Kd.R_alloc | apply Kd.R_drewN | apply Kd.R_drew)); exact (Kd.R_mono (Kd.R_far (p := ⟨gb247, 1, none⟩) (Kd.R_far (p := ⟨gb247, 0, none⟩) (Kd.R_types HO208.out BK247.out (by decide)) (fun _ hk => hk.2) (.slice Ao69 t240.length co69)) (fun _ hk => hk.2) (.slice Ao75 t243.length co75)) (fun _ h_ => h_.1))) (Kd.R_base ho77) hb); have n2_ := k0 (Kd.R_elder' (by (with_reducible repeat (first | apply Kd.R_alloc | apply Kd.R_drewN | apply Kd.R_drew)); exact (Kd.R_mono (Kd.R_far (p := ⟨gb247, 1, none⟩) (Kd.R_far (p := ⟨gb247, 0, none⟩) (Kd.R_types HO211.out BK247.out (by decide)) (fun _ hk => hk.2) (.slice Ao69 t240.length co69)) (fun _ hk => hk.2) (.slice Ao75 t243.length co75)) (fun _ h_ => h_.1))) (Kd.R_base ho77) hb); have n3_ := k0 (Kd.R_elder' (by (with_reducible repeat (first | apply Kd.R_alloc | apply Kd.R_drewN | apply Kd.R_drew)); exact (Kd.R_mono (Kd.R_far (p := ⟨gb247, 1, none⟩) (Kd.R_far (p := ⟨gb247, 0, none⟩) (Kd.R_types HO214.out BK247.out (by decide)) (fun _ hk => hk.2) (.slice Ao69 t240.length co69)) (fun _ hk => hk.2) (.slice Ao75 t243.length co75)) (fun _ h_ => h_.1))) (Kd.R_base ho77) hb); have n4_ := k0 (Kd.R_elder' (by (with_reducible repeat (first | apply Kd.R_alloc | apply Kd.R_drewN | apply Kd.R_drew)); exact (Kd.R_mono (Kd.R_far (p := ⟨gb247, 1, none⟩) (Kd.R_far (p := ⟨gb247, 0, none⟩) (Kd.R_types HO220.out BK247.out (by decide)) (fun _ hk => hk.2) (.slice Ao69 t240.length co69)) (fun _ hk => hk.2) (.slice Ao75 t243.length co75)) (fun _ h_ => h_.1))) (Kd.R_base ho77) hb); have n5_ := k0 (Kd.R_elder' (by (with_reducible repeat (first | apply Kd.R_alloc | apply Kd.R_drewN | apply Kd.R_drew)); exact (Kd.R_mono (Kd.R_far (p := ⟨gb247, 1, none⟩) (Kd.R_far (p := ⟨gb247, 0, none⟩) (Kd.R_types HO223.out BK247.out (by decide)) (fun _ hk => hk.2) (.slice Ao69 t240.length co69)) (fun _ hk => hk.2) (.slice Ao75 t243.length co75)) (fun _ h_ => h_.1))) (Kd.R_base ho77) hb); have n6_ := k0 (Kd.R_elder' (by (with_reducible repeat (first | apply Kd.R_alloc | apply Kd.R_drewN | apply Kd.R_drew)); exact (Kd.R_mono (Kd.R_far (p := ⟨gb247, 1, none⟩) (Kd.R_far (p := ⟨gb247, 0, none⟩) (Kd.R_types HO227.out BK247.out (by decide)) (fun _ hk => hk.2) (.slice Ao69 t240.length co69)) (fun _ hk => hk.2) (.slice Ao75 t243.length co75)) (fun _ h_ => h_.1))) (Kd.R_base ho77) hb); have n7_ := k0 (Kd.R_elder' (by (with_reducible repeat (first | apply Kd.R_alloc | apply Kd.R_drewN | apply Kd.R_drew)); exact (Kd.R_mono (Kd.R_far (p := ⟨gb247, 1, none⟩) (Kd.R_far (p := ⟨gb247, 0, none⟩) (Kd.R_types HO230.out BK247.out (by decide)) (fun _ hk => hk.2) (.slice Ao69 t240.length co69)) (fun _ hk => hk.2) (.slice Ao75 t243.length co75)) (fun _ h_ => h_.1))) (Kd.R_base ho77) hb); have n8_ := k0 (Kd.R_elder' (by (with_reducible repeat (first | apply Kd.R_alloc | apply Kd.R_drewN | apply Kd.R_drew)); exact (Kd.R_mono (Kd.R_far (p := ⟨gb247, 1, none⟩) (Kd.R_far (p := ⟨gb247, 0, none⟩) (Kd.R_types HO234.out BK247.out (by decide)) (fun _ hk => hk.2) (.slice Ao69 t240.length co69)) (fun _ hk => hk.2) (.slice Ao75 t243.length co75)) (fun _ h_ => h_.1))) (Kd.R_base ho77) hb); have n9_ := k0 (Kd.R_elder' (by (with_reducible repeat (first | apply Kd.R_alloc | apply Kd.R_drewN | apply Kd.R_drew)); exact (Kd.R_mono (Kd.R_far (p := ⟨gb247, 1, none⟩) (Kd.R_far (p := ⟨gb247, 0, none⟩) (Kd.R_types HO237.out BK247.out (by decide)) (fun _ hk => hk.2) (.slice Ao69 t240.length co69)) (fun _ hk => hk.2) (.slice Ao75 t243.length co75)) (fun _ h_ => h_.1))) (Kd.R_base ho77) hb); have n10_ := k0 (Kd.R_elder' (by (with_reducible repeat (first | apply Kd.R_alloc | apply Kd.R_drewN | apply Kd.R_drew)); exact (Kd.R_mono (Kd.R_far (p := ⟨gb247, 1, none⟩) (Kd.R_far (p := ⟨gb247, 0, none⟩) (Kd.R_types HO242.out BK247.out (by decide)) (fun _ hk => hk.2) (.slice Ao69 t240.length co69)) (fun _ hk => hk.2) (.slice Ao75 t243.length co75)) (fun _ h_ => h_.1))) (Kd.R_base ho77) hb); have n11_ := k0 (Kd.R_elder' (by (with_reducible repeat (first | apply Kd.R_alloc | apply Kd.R_drewN | apply Kd.R_drew)); exact (Kd.R_mono (Kd.R_far (p := ⟨gb247, 1, none⟩) (Kd.R_far (p := ⟨gb247, 0, none⟩) (Kd.R_types HO245.out BK247.out (by decide)) (fun _ hk => hk.2) (.slice Ao69 t240.length co69)) (fun _ hk => hk.2) (.slice Ao75 t243.length co75)) (fun _ h_ => h_.1))) (Kd.R_base ho77) hb); have n12_ := k0 (Kd.R_lower (Kd.R_new' (Kd.R_new' (Kd.R_new' (Kd.R_new' (Kd.R_new' (Kd.R_new' (Kd.R_new' (Kd.R_new' (Kd.R_new' (Kd.R_new' (Kd.R_new' (Kd.R_new' ho77 (Kd.R_lt (by (with_reducible repeat (first | apply Kd.R_alloc | apply Kd.R_drewN | apply Kd.R_drew)); exact (Kd.R_mono (Kd.R_far (p := ⟨gb247, 1, none⟩) (Kd.R_far (p := ⟨gb247, 0, none⟩) (Kd.R_types HO205.out BK247.out (by decide)) (fun _ hk => hk.2) (.slice Ao69 t240.length co69)) (fun _ hk => hk.2) (.slice Ao75 t243.length co75)) (fun _ h_ => h_.1))))) (Kd.R_lt (by (with_reducible repeat (first | apply Kd.R_alloc | apply Kd.R_drewN | apply Kd.R_drew)); exact (Kd.R_mono (Kd.R_far (p := ⟨gb247, 1, none⟩) (Kd.R_far (p := ⟨gb247, 0, none⟩) (Kd.R_types HO208.out BK247.out (by decide)) (fun _ hk => hk.2) (.slice Ao69 t240.length co69)) (fun _ hk => hk.2) (.slice Ao75 t243.length co75)) (fun _ h_ => h_.1))))) (Kd.R_lt (by (with_reducible repeat (first | apply Kd.R_alloc | apply Kd.R_drewN | apply Kd.R_drew)); exact (Kd.R_mono (Kd.R_far (p := ⟨gb247, 1, none⟩) (Kd.R_far (p := ⟨gb247, 0, none⟩) (Kd.R_types HO211.out BK247.out (by decide)) (fun _ hk => hk.2) (.slice Ao69 t240.length co69)) (fun _ hk => hk.2) (.slice Ao75 t243.length co75)) (fun _ h_ => h_.1))))) (Kd.R_lt (by (with_reducible repeat (first | apply Kd.R_alloc | apply Kd.R_drewN | apply Kd.R_drew)); exact (Kd.R_mono (Kd.R_far (p := ⟨gb247, 1, none⟩) (Kd.R_far (p := ⟨gb247, 0, none⟩) (Kd.R_types HO214.out BK247.out (by decide)) (fun _ hk => hk.2) (.slice Ao69 t240.length co69)) (fun _ hk => hk.2) (.slice Ao75 t243.length co75)) (fun _ h_ => h_.1))))) (Kd.R_lt (by (with_reducible repeat (first | apply Kd.R_alloc | apply Kd.R_drewN | apply Kd.R_drew)); exact (Kd.R_mono (Kd.R_far (p := ⟨gb247, 1, none⟩) (Kd.R_far (p := ⟨gb247, 0, none⟩) (Kd.R_types HO220.out BK247.out (by decide)) (fun _ hk => hk.2) (.slice Ao69 t240.length co69)) (fun _ hk => hk.2) (.slice Ao75 t243.length co75)) (fun _ h_ => h_.1))))) (Kd.R_lt (by (with_reducible repeat (first | apply Kd.R_alloc | apply Kd.R_drewN | apply Kd.R_drew)); exact (Kd.R_mono (Kd.R_far (p := ⟨gb247, 1, none⟩) (Kd.R_far (p := ⟨gb247, 0, none⟩) (Kd.R_types HO223.out BK247.out (by decide)) (fun _ hk => hk.2) (.slice Ao69 t240.length co69)) (fun _ hk => hk.2) (.slice Ao75 t243.length co75)) (fun _ h_ => h_.1))))) (Kd.R_lt (by (with_reducible repeat (first | apply Kd.R_alloc | apply Kd.R_drewN | apply Kd.R_drew)); exact (Kd.R_mono (Kd.R_far (p := ⟨gb247, 1, none⟩) (Kd.R_far (p := ⟨gb247, 0, none⟩) (Kd.R_types HO227.out BK247.out (by decide)) (fun _ hk => hk.2) (.slice Ao69 t240.length co69)) (fun _ hk => hk.2) (.slice Ao75 t243.length co75)) (fun _ h_ => h_.1))))) (Kd.R_lt (by (with_reducible repeat (first | apply Kd.R_alloc | apply Kd.R_drewN | apply Kd.R_drew)); exact (Kd.R_mono (Kd.R_far (p := ⟨gb247, 1, none⟩) (Kd.R_far (p := ⟨gb247, 0, none⟩) (Kd.R_types HO230.out BK247.out (by decide)) (fun _ hk => hk.2) (.slice Ao69 t240.length co69)) (fun _ hk => hk.2) (.slice Ao75 t243.length co75)) (fun _ h_ => h_.1))))) (Kd.R_lt (by (with_reducible repeat (first | apply Kd.R_alloc | apply Kd.R_drewN | apply Kd.R_drew)); exact (Kd.R_mono (Kd.R_far (p := ⟨gb247, 1, none⟩) (Kd.R_far (p := ⟨gb247, 0, none⟩) (Kd.R_types HO234.out BK247.out (by decide)) (fun _ hk => hk.2) (.slice Ao69 t240.length co69)) (fun _ hk => hk.2) (.slice Ao75 t243.length co75)) (fun _ h_ => h_.1))))) (Kd.R_lt (by (with_reducible repeat (first | apply Kd.R_alloc | apply Kd.R_drewN | apply Kd.R_drew)); exact (Kd.R_mono (Kd.R_far (p := ⟨gb247, 1, none⟩) (Kd.R_far (p := ⟨gb247, 0, none⟩) (Kd.R_types HO237.out BK247.out (by decide)) (fun _ hk => hk.2) (.slice Ao69 t240.length co69)) (fun _ hk => hk.2) (.slice Ao75 t243.length co75)) (fun _ h_ => h_.1))))) (Kd.R_lt (by (with_reducible repeat (first | apply Kd.R_alloc | apply Kd.R_drewN | apply Kd.R_drew)); exact (Kd.R_mono (Kd.R_far (p := ⟨gb247, 1, none⟩) (Kd.R_far (p := ⟨gb247, 0, none⟩) (Kd.R_types HO242.out BK247.out (by decide)) (fun _ hk => hk.2) (.slice Ao69 t240.length co69)) (fun _ hk => hk.2) (.slice Ao75 t243.length co75)) (fun _ h_ => h_.1))))) (Kd.R_lt (by (with_reducible repeat (first | apply Kd.R_alloc | apply Kd.R_drewN | apply Kd.R_drew)); exact (Kd.R_mono (Kd.R_far (p := ⟨gb247, 1, none⟩) (Kd.R_far (p := ⟨gb247, 0, none⟩) (Kd.R_types HO245.out BK247.out (by decide)) (fun _ hk => hk.2) (.slice Ao69 t240.length co69)) (fun _ hk => hk.2) (.slice Ao75 t243.length co75)) (fun _ h_ => h_.1))))) (below_size (kW HB.out))); have n13_ := k0 (blk_below (g := gb216) (o := .cells #[.slice Ao39 t209.length co39, .slice Ao41 t212.length co41] 35 (0, 0)) (by (with_reducible repeat (first | refine blk_drewN ?_ _ | refine blk_drew ?_ | refine blk_alloc ?_ _)); refine blk_far ?_ NB216_247.out _; (with_reducible repeat (first | refine blk_drewN ?_ _ | refine blk_drew ?_ | refine blk_alloc ?_ _)); refine blk_far ?_ NB216_247.out _; (with_reducible repeat (first | refine blk_drewN ?_ _ | refine blk_drew ?_ | refine blk_alloc ?_ _)); exact BK216.out) hb); have n14_ := k0 (blk_below (g := gb224) (o := .cells #[.slice Ao46 t218.length co46, .slice Ao49 t221.length co49] 35 (0, 0)) (by (with_reducible repeat (first | refine blk_drewN ?_ _ | refine blk_drew ?_ | refine blk_alloc ?_ _)); refine blk_far ?_ NB224_247.out _; (with_reducible repeat (first | refine blk_drewN ?_ _ | refine blk_drew ?_ | refine blk_alloc ?_ _)); refine blk_far ?_ NB224_247.out _; (with_reducible repeat (first | refine blk_drewN ?_ _ | refine blk_drew ?_ | refine blk_alloc ?_ _)); exact BK224.out) hb); have n15_ := k0 (blk_below (g := gb231) (o := .cells #[.slice Ao53 t225.length co53, .slice Ao57 t228.length co57] 35 (0, 0)) (by (with_reducible repeat (first | refine blk_drewN ?_ _ | refine blk_drew ?_ | refine blk_alloc ?_ _)); refine blk_far ?_ NB231_247.out _; (with_reducible repeat (first | refine blk_drewN ?_ _ | refine blk_drew ?_ | refine blk_alloc ?_ _)); refine blk_far ?_ NB231_247.out _; (with_reducible repeat (first | refine blk_drewN ?_ _ | refine blk_drew ?_ | refine blk_alloc ?_ _)); exact BK231.out) hb); have n16_ := k0 (blk_below (g := gb239) (o := .cells #[.slice Ao60 t232.length co60, .slice Ao65 t235.length co65] 35 (0, 0)) (by (with_reducible repeat (first | refine blk_drewN ?_ _ | refine blk_drew ?_ | refine blk_alloc ?_ _)); refine blk_far ?_ NB239_247.out _; (with_reducible repeat (first | refine blk_drewN ?_ _ | refine blk_drew ?_ | refine blk_alloc ?_ _)); refine blk_far ?_ NB239_247.out _; (with_reducible repeat (first | refine blk_drewN ?_ _ | refine blk_drew ?_ | refine blk_alloc ?_ _)); exact BK239.out) hb); have n17_ := k0 (blk_below (g := gb247) (o := .cells #[.slice Ao69 t240.length co69, .slice Ao75 t243.length co75] 35 (0, 0)) (by (with_reducible repeat (first | refine blk_drewN ?_ _ | refine blk_drew ?_ | refine blk_alloc ?_ _)); refine blk_put (cs := #[.slice Ao69 t240.length co69, .slice none 0 0]) ?_ 1 _ rfl; (with_reducible repeat (first | refine blk_drewN ?_ _ | refine blk_drew ?_ | refine blk_alloc ?_ _)); refine blk_put (cs := #[.slice none 0 0, .slice none 0 0]) ?_ 0 _ rfl; (with_reducible repeat (first | refine blk_drewN ?_ _ | refine blk_drew ?_ | refine blk_alloc ?_ _)); exact BK247.out) hb); have n18_ := k0 (below_step (kW HB.out) hb); clear HO205; clear HO208; clear HO211; clear HO214; clear HO220; clear HO223; clear HO227; clear HO230; clear HO234; clear HO237; clear HO242; clear HO245; clear BK216; clear BK224; clear BK231; clear BK239; clear BK247; clear HB; have HO205 := n0_; have HO208 := n1_; have HO211 := n2_; have HO214 := n3_; have HO220 := n4_; have HO223 := n5_; have HO227 := n6_; have HO230 := n7_; have HO234 := n8_; have HO237 := n9_; have HO242 := n10_; have HO245 := n11_; have HO250 := n12_; have BK216 := n13_; have BK224 := n14_; have BK231 := n15_; have BK239 := n16_; have BK247 := n17_; have HB := n18_; clear n0_ n1_ n2_ n3_ n4_ n5_ n6_ n7_ n8_ n9_ n10_ n11_ n12_ n13_ n14_ n15_ n16_ n17_ n18_; clear hb ho77) | ((with_reducible refine gate_builtin (b := .append) (xs := #[.tmp 51, .tmp 52]) rfl ?_); (try (refine gate_guard (by rfl) ?_; dsimp only)); at_builtin; refine Kd.R_append_rows (Kd.int .u8) (w0 := w) w.heap.size rfl (.tmp 51) (.tmp 52) 30 5 (.int .u8 0) 1 rfl Try.underlying30 info5 rfl (by decide) (by omega) v249 y248 t203 _ _ _ (fun k_ => some k_ ≠ (.slice Ao35 t203.length co35 : Value).ownBlock ∧ some k_ ≠ (.slice Ao36 t206.length co36 : Value).ownBlock ∧ some k_ ≠ (.slice Ao39 t209.length co39 : Value).ownBlock ∧ some k_ ≠ (.slice Ao41 t212.length co41 : Value).ownBlock ∧ some k_ ≠ (.slice Ao46 t218.length co46 : Value).ownBlock ∧ some k_ ≠ (.slice Ao49 t221.length co49 : Value).ownBlock ∧ some k_ ≠ (.slice Ao53 t225.length co53 : Value).ownBlock ∧ some k_ ≠ (.slice Ao57 t228.length co57 : Value).ownBlock ∧ some k_ ≠ (.slice Ao60 t232.length co60 : Value).ownBlock ∧ some k_ ≠ (.slice Ao65 t235.length co65 : Value).ownBlock ∧ some k_ ≠ (.slice Ao69 t240.length co69 : Value).ownBlock ∧ some k_ ≠ (.slice Ao75 t243.length co75 : Value).ownBlock) (fun _ => False) rfl rfl ?aO ?aR (fun _ _ h => h) (fun _ h => h.elim) ?aF ?aB ?aS ?aL ?_; (case aR => repeat (first | exact (Kd.R_reads' HO205.out).2.2 | (with_reducible refine Kd.C_alloc ?_ _) | (with_reducible refine Kd.C_drewN ?_ _) | (with_reducible refine Kd.C_drew ?_))); (case aB => exact (kW HB.out)); (case aF => exact (fun k_ hk => ⟨Kd.fresh' (Kd.R_lt (kR HO205.out)) k_ hk, Kd.fresh' (Kd.R_lt (kR HO208.out)) k_ hk, Kd.fresh' (Kd.R_lt (kR HO211.out)) k_ hk, Kd.fresh' (Kd.R_lt (kR HO214.out)) k_ hk, Kd.fresh' (Kd.R_lt (kR HO220.out)) k_ hk, Kd.fresh' (Kd.R_lt (kR HO223.out)) k_ hk, Kd.fresh' (Kd.R_lt (kR HO227.out)) k_ hk, Kd.fresh' (Kd.R_lt (kR HO230.out)) k_ hk, Kd.fresh' (Kd.R_lt (kR HO234.out)) k_ hk, Kd.fresh' (Kd.R_lt (kR HO237.out)) k_ hk, Kd.fresh' (Kd.R_lt (kR HO242.out)) k_ hk, Kd.fresh' (Kd.R_lt (kR HO245.out)) k_ hk⟩)); (case aO => exact (by (with_reducible repeat (first | apply Kd.R_alloc | apply Kd.R_drewN | apply Kd.R_drew)); exact Kd.R_mono HO250.out (fun _ hk => ⟨hk.1.1.1.1.1.1.1.1.1.1.1.2, ⟨hk.1.1.1.1.1.1.1.1.1.1.2, ⟨hk.1.1.1.1.1.1.1.1.1.2, ⟨hk.1.1.1.1.1.1.1.1.2, ⟨hk.1.1.1.1.1.1.1.2, ⟨hk.1.1.1.1.1.1.2, ⟨hk.1.1.1.1.1.2, ⟨hk.1.1.1.1.2, ⟨hk.1.1.1.2, ⟨hk.1.1.2, ⟨hk.1.2, hk.2⟩⟩⟩⟩⟩⟩⟩⟩⟩⟩⟩))); (case aS => exact (below_size (kW HB.out))); (case aL => have := LMc11.out; omega); intro v252 w78 ho hb hg hat; rw [← Ny251.out] at ho; have n0_ := k0 (Kd.R_after (ok := (fun k_ => some k_ ≠ (.slice Ao36 t206.length co36 : Value).ownBlock ∧ some k_ ≠ (.slice Ao39 t209.length co39 : Value).ownBlock ∧ some k_ ≠ (.slice Ao41 t212.length co41 : Value).ownBlock ∧ some k_ ≠ (.slice Ao46 t218.length co46 : Value).ownBlock ∧ some k_ ≠ (.slice Ao49 t221.length co49 : Value).ownBlock ∧ some k_ ≠ (.slice Ao53 t225.length co53 : Value).ownBlock ∧ some k_ ≠ (.slice Ao57 t228.length co57 : Value).ownBlock ∧ some k_ ≠ (.slice Ao60 t232.length co60 : Value).ownBlock ∧ some k_ ≠ (.slice Ao65 t235.length co65 : Value).ownBlock ∧ some k_ ≠ (.slice Ao69 t240.length co69 : Value).ownBlock ∧ some k_ ≠ (.slice Ao75 t243.length co75 : Value).ownBlock)) (by (with_reducible repeat (first | apply Kd.R_alloc | apply Kd.R_drewN | apply Kd.R_drew)); exact Kd.R_mono HO205.out (fun _ hk => ⟨⟨hk.1.1.1.1.1.1.1.1.1.1.1.2, ⟨hk.1.1.1.1.1.1.1.1.1.1.2, ⟨hk.1.1.1.1.1.1.1.1.1.2, ⟨hk.1.1.1.1.1.1.1.1.2, ⟨hk.1.1.1.1.1.1.1.2, ⟨hk.1.1.1.1.1.1.2, ⟨hk.1.1.1.1.1.2, ⟨hk.1.1.1.1.2, ⟨hk.1.1.1.2, ⟨hk.1.1.2, hk.1.2⟩⟩⟩⟩⟩⟩⟩⟩⟩⟩, hk.2⟩)) hg hat); have n1_ := k0 (Kd.R_after (ok := (fun k_ => some k_ ≠ (.slice Ao35 t203.length co35 : Value).ownBlock ∧ some k_ ≠ (.slice Ao39 t209.length co39 : Value).ownBlock ∧ some k_ ≠ (.slice Ao41 t212.length co41 : Value).ownBlock ∧ some k_ ≠ (.slice Ao46 t218.length co46 : Value).ownBlock ∧ some k_ ≠ (.slice Ao49 t221.length co49 : Value).ownBlock ∧ some k_ ≠ (.slice Ao53 t225.length co53 : Value).ownBlock ∧ some k_ ≠ (.slice Ao57 t228.length co57 : Value).ownBlock ∧ some k_ ≠ (.slice Ao60 t232.length co60 : Value).ownBlock ∧ some k_ ≠ (.slice Ao65 t235.length co65 : Value).ownBlock ∧ some k_ ≠ (.slice Ao69 t240.length co69 : Value).ownBlock ∧ some k_ ≠ (.slice Ao75 t243.length co75 : Value).ownBlock)) (by (with_reducible repeat (first | apply Kd.R_alloc | apply Kd.R_drewN | apply Kd.R_drew)); exact Kd.R_mono HO208.out (fun _ hk => ⟨⟨hk.1.1.1.1.1.1.1.1.1.1.1.2, ⟨hk.1.1.1.1.1.1.1.1.1.1.2, ⟨hk.1.1.1.1.1.1.1.1.1.2, ⟨hk.1.1.1.1.1.1.1.1.2, ⟨hk.1.1.1.1.1.1.1.2, ⟨hk.1.1.1.1.1.1.2, ⟨hk.1.1.1.1.1.2, ⟨hk.1.1.1.1.2, ⟨hk.1.1.1.2, ⟨hk.1.1.2, hk.1.2⟩⟩⟩⟩⟩⟩⟩⟩⟩⟩, hk.2⟩)) hg hat); have n2_ := k0 (Kd.R_after (ok := (fun k_ => some k_ ≠ (.slice Ao35 t203.length co35 : Value).ownBlock ∧ some k_ ≠ (.slice Ao36 t206.length co36 : Value).ownBlock ∧ some k_ ≠ (.slice Ao41 t212.length co41 : Value).ownBlock ∧ some k_ ≠ (.slice Ao46 t218.length co46 : Value).ownBlock ∧ some k_ ≠ (.slice Ao49 t221.length co49 : Value).ownBlock ∧ some k_ ≠ (.slice Ao53 t225.length co53 : Value).ownBlock ∧ some k_ ≠ (.slice Ao57 t228.length co57 : Value).ownBlock ∧ some k_ ≠ (.slice Ao60 t232.length co60 : Value).ownBlock ∧ some k_ ≠ (.slice Ao65 t235.length co65 : Value).ownBlock ∧ some k_ ≠ (.slice Ao69 t240.length co69 : Value).ownBlock ∧ some k_ ≠ (.slice Ao75 t243.length co75 : Value).ownBlock)) (by (with_reducible repeat (first | apply Kd.R_alloc | apply Kd.R_drewN | apply Kd.R_drew)); exact Kd.R_mono HO211.out (fun _ hk => ⟨⟨hk.1.1.1.1.1.1.1.1.1.1.2, ⟨hk.1.1.1.1.1.1.1.1.1.2, ⟨hk.1.1.1.1.1.1.1.1.1.1.1, ⟨hk.1.1.1.1.1.1.1.1.2, ⟨hk.1.1.1.1.1.1.1.2, ⟨hk.1.1.1.1.1.1.2, ⟨hk.1.1.1.1.1.2, ⟨hk.1.1.1.1.2, ⟨hk.1.1.1.2, ⟨hk.1.1.2, hk.1.2⟩⟩⟩⟩⟩⟩⟩⟩⟩⟩, hk.2⟩)) hg hat); have n3_ := k0 (Kd.R_after (ok := (fun k_ => some k_ ≠ (.slice Ao35 t203.length co35 : Value).ownBlock ∧ some k_ ≠ (.slice Ao36 t206.length co36 : Value).ownBlock ∧ some k_ ≠ (.slice Ao39 t209.length co39 : Value).ownBlock ∧ some k_ ≠ (.slice Ao46 t218.length co46 : Value).ownBlock ∧ some k_ ≠ (.slice Ao49 t221.length co49 : Value).ownBlock ∧ some k_ ≠ (.slice Ao53 t225.length co53 : Value).ownBlock ∧ some k_ ≠ (.slice Ao57 t228.length co57 : Value).ownBlock ∧ some k_ ≠ (.slice Ao60 t232.length co60 : Value).ownBlock ∧ some k_ ≠ (.slice Ao65 t235.length co65 : Value).ownBlock ∧ some k_ ≠ (.slice Ao69 t240.length co69 : Value).ownBlock ∧ some k_ ≠ (.slice Ao75 t243.length co75 : Value).ownBlock)) (by (with_reducible repeat (first | apply Kd.R_alloc | apply Kd.R_drewN | apply Kd.R_drew)); exact Kd.R_mono HO214.out (fun _ hk => ⟨⟨hk.1.1.1.1.1.1.1.1.1.1.2, ⟨hk.1.1.1.1.1.1.1.1.1.2, ⟨hk.1.1.1.1.1.1.1.1.1.1.1, ⟨hk.1.1.1.1.1.1.1.1.2, ⟨hk.1.1.1.1.1.1.1.2, ⟨hk.1.1.1.1.1.1.2, ⟨hk.1.1.1.1.1.2, ⟨hk.1.1.1.1.2, ⟨hk.1.1.1.2, ⟨hk.1.1.2, hk.1.2⟩⟩⟩⟩⟩⟩⟩⟩⟩⟩, hk.2⟩)) hg hat); have n4_ := k0 (blk_grown (g := gb216) (o := .cells #[.slice Ao39 t209.length co39, .slice Ao41 t212.length co41] 35 (0, 0)) (kB BK216.out) hg (Kd.R_ne HO250.out BK216.out (by decide))); have n5_ := k0 (Kd.R_after (ok := (fun k_ => some k_ ≠ (.slice Ao35 t203.length co35 : Value).ownBlock ∧ some k_ ≠ (.slice Ao36 t206.length co36 : Value).ownBlock ∧ some k_ ≠ (.slice Ao39 t209.length co39 : Value).ownBlock ∧ some k_ ≠ (.slice Ao41 t212.length co41 : Value).ownBlock ∧ some k_ ≠ (.slice Ao49 t221.length co49 : Value).ownBlock ∧ some k_ ≠ (.slice Ao53 t225.length co53 : Value).ownBlock ∧ some k_ ≠ (.slice Ao57 t228.length co57 : Value).ownBlock ∧ some k_ ≠ (.slice Ao60 t232.length co60 : Value).ownBlock ∧ some k_ ≠ (.slice Ao65 t235.length co65 : Value).ownBlock ∧ some k_ ≠ (.slice Ao69 t240.length co69 : Value).ownBlock ∧ some k_ ≠ (.slice Ao75 t243.length co75 : Value).ownBlock)) (by (with_reducible repeat (first | apply Kd.R_alloc | apply Kd.R_drewN | apply Kd.R_drew)); exact Kd.R_mono HO220.out (fun _ hk => ⟨⟨hk.1.1.1.1.1.1.1.1.1.1.2, ⟨hk.1.1.1.1.1.1.1.1.1.2, ⟨hk.1.1.1.1.1.1.1.1.2, ⟨hk.1.1.1.1.1.1.1.2, ⟨hk.1.1.1.1.1.1.1.1.1.1.1, ⟨hk.1.1.1.1.1.1.2, ⟨hk.1.1.1.1.1.2, ⟨hk.1.1.1.1.2, ⟨hk.1.1.1.2, ⟨hk.1.1.2, hk.1.2⟩⟩⟩⟩⟩⟩⟩⟩⟩⟩, hk.2⟩)) hg hat); have n6_ := k0 (Kd.R_after (ok := (fun k_ => some k_ ≠ (.slice Ao35 t203.length co35 : Value).ownBlock ∧ some k_ ≠ (.slice Ao36 t206.length co36 : Value).ownBlock ∧ some k_ ≠ (.slice Ao39 t209.length co39 : Value).ownBlock ∧ some k_ ≠ (.slice Ao41 t212.length co41 : Value).ownBlock ∧ some k_ ≠ (.slice Ao46 t218.length co46 : Value).ownBlock ∧ some k_ ≠ (.slice Ao53 t225.length co53 : Value).ownBlock ∧ some k_ ≠ (.slice Ao57 t228.length co57 : Value).ownBlock ∧ some k_ ≠ (.slice Ao60 t232.length co60 : Value).ownBlock ∧ some k_ ≠ (.slice Ao65 t235.length co65 : Value).ownBlock ∧ some k_ ≠ (.slice Ao69 t240.length co69 : Value).ownBlock ∧ some k_ ≠ (.slice Ao75 t243.length co75 : Value).ownBlock)) (by (with_reducible repeat (first | apply Kd.R_alloc | apply Kd.R_drewN | apply Kd.R_drew)); exact Kd.R_mono HO223.out (fun _ hk => ⟨⟨hk.1.1.1.1.1.1.1.1.1.1.2, ⟨hk.1.1.1.1.1.1.1.1.1.2, ⟨hk.1.1.1.1.1.1.1.1.2, ⟨hk.1.1.1.1.1.1.1.2, ⟨hk.1.1.1.1.1.1.1.1.1.1.1, ⟨hk.1.1.1.1.1.1.2, ⟨hk.1.1.1.1.1.2, ⟨hk.1.1.1.1.2, ⟨hk.1.1.1.2, ⟨hk.1.1.2, hk.1.2⟩⟩⟩⟩⟩⟩⟩⟩⟩⟩, hk.2⟩)) hg hat); have n7_ := k0 (blk_grown (g := gb224) (o := .cells #[.slice Ao46 t218.length co46, .slice Ao49 t221.length co49] 35 (0, 0)) (kB BK224.out) hg (Kd.R_ne HO250.out BK224.out (by decide))); have n8_ := k0 (Kd.R_after (ok := (fun k_ => some k_ ≠ (.slice Ao35 t203.length co35 : Value).ownBlock ∧ some k_ ≠ (.slice Ao36 t206.length co36 : Value).ownBlock ∧ some k_ ≠ (.slice Ao39 t209.length co39 : Value).ownBlock ∧ some k_ ≠ (.slice Ao41 t212.length co41 : Value).ownBlock ∧ some k_ ≠ (.slice Ao46 t218.length co46 : Value).ownBlock ∧ some k_ ≠ (.slice Ao49 t221.length co49 : Value).ownBlock ∧ some k_ ≠ (.slice Ao57 t228.length co57 : Value).ownBlock ∧ some k_ ≠ (.slice Ao60 t232.length co60 : Value).ownBlock ∧ some k_ ≠ (.slice Ao65 t235.length co65 : Value).ownBlock ∧ some k_ ≠ (.slice Ao69 t240.length co69 : Value).ownBlock ∧ some k_ ≠ (.slice Ao75 t243.length co75 : Value).ownBlock)) (by (with_reducible repeat (first | apply Kd.R_alloc | apply Kd.R_drewN | apply Kd.R_drew)); exact Kd.R_mono HO227.out (fun _ hk => ⟨⟨hk.1.1.1.1.1.1.1.1.1.1.2, ⟨hk.1.1.1.1.1.1.1.1.1.2, ⟨hk.1.1.1.1.1.1.1.1.2, ⟨hk.1.1.1.1.1.1.1.2, ⟨hk.1.1.1.1.1.1.2, ⟨hk.1.1.1.1.1.2, ⟨hk.1.1.1.1.1.1.1.1.1.1.1, ⟨hk.1.1.1.1.2, ⟨hk.1.1.1.2, ⟨hk.1.1.2, hk.1.2⟩⟩⟩⟩⟩⟩⟩⟩⟩⟩, hk.2⟩)) hg hat); have n9_ := k0 (Kd.R_after (ok := (fun k_ => some k_ ≠ (.slice Ao35 t203.length co35 : Value).ownBlock ∧ some k_ ≠ (.slice Ao36 t206.length co36 : Value).ownBlock ∧ some k_ ≠ (.slice Ao39 t209.length co39 : Value).ownBlock ∧ some k_ ≠ (.slice Ao41 t212.length co41 : Value).ownBlock ∧ some k_ ≠ (.slice Ao46 t218.length co46 : Value).ownBlock ∧ some k_ ≠ (.slice Ao49 t221.length co49 : Value).ownBlock ∧ some k_ ≠ (.slice Ao53 t225.length co53 : Value).ownBlock ∧ some k_ ≠ (.slice Ao60 t232.length co60 : Value).ownBlock ∧ some k_ ≠ (.slice Ao65 t235.length co65 : Value).ownBlock ∧ some k_ ≠ (.slice Ao69 t240.length co69 : Value).ownBlock ∧ some k_ ≠ (.slice Ao75 t243.length co75 : Value).ownBlock)) (by (with_reducible repeat (first | apply Kd.R_alloc | apply Kd.R_drewN | apply Kd.R_drew)); exact Kd.R_mono HO230.out (fun _ hk => ⟨⟨hk.1.1.1.1.1.1.1.1.1.1.2, ⟨hk.1.1.1.1.1.1.1.1.1.2, ⟨hk.1.1.1.1.1.1.1.1.2, ⟨hk.1.1.1.1.1.1.1.2, ⟨hk.1.1.1.1.1.1.2, ⟨hk.1.1.1.1.1.2, ⟨hk.1.1.1.1.1.1.1.1.1.1.1, ⟨hk.1.1.1.1.2, ⟨hk.1.1.1.2, ⟨hk.1.1.2, hk.1.2⟩⟩⟩⟩⟩⟩⟩⟩⟩⟩, hk.2⟩)) hg hat); have n10_ := k0 (blk_grown (g := gb231) (o := .cells #[.slice Ao53 t225.length co53, .slice Ao57 t228.length co57] 35 (0, 0)) (kB BK231.out) hg (Kd.R_ne HO250.out BK231.out (by decide))); have n11_ := k0 (Kd.R_after (ok := (fun k_ => some k_ ≠ (.slice Ao35 t203.length co35 : Value).ownBlock ∧ some k_ ≠ (.slice Ao36 t206.length co36 : Value).ownBlock ∧ some k_ ≠ (.slice Ao39 t209.length co39 : Value).ownBlock ∧ some k_ ≠ (.slice Ao41 t212.length co41 : Value).ownBlock ∧ some k_ ≠ (.slice Ao46 t218.length co46 : Value).ownBlock ∧ some k_ ≠ (.slice Ao49 t221.length co49 : Value).ownBlock ∧ some k_ ≠ (.slice Ao53 t225.length co53 : Value).ownBlock ∧ some k_ ≠ (.slice Ao57 t228.length co57 : Value).ownBlock ∧ some k_ ≠ (.slice Ao65 t235.length co65 : Value).ownBlock ∧ some k_ ≠ (.slice Ao69 t240.length co69 : Value).ownBlock ∧ some k_ ≠ (.slice Ao75 t243.length co75 : Value).ownBlock)) (by (with_reducible repeat (first | apply Kd.R_alloc | apply Kd.R_drewN | apply Kd.R_drew)); exact Kd.R_mono HO234.out (fun _ hk => ⟨⟨hk.1.1.1.1.1.1.1.1.1.1.2, ⟨hk.1.1.1.1.1.1.1.1.1.2, ⟨hk.1.1.1.1.1.1.1.1.2, ⟨hk.1.1.1.1.1.1.1.2, ⟨hk.1.1.1.1.1.1.2, ⟨hk.1.1.1.1.1.2, ⟨hk.1.1.1.1.2, ⟨hk.1.1.1.2, ⟨hk.1.1.1.1.1.1.1.1.1.1.1, ⟨hk.1.1.2, hk.1.2⟩⟩⟩⟩⟩⟩⟩⟩⟩⟩, hk.2⟩)) hg hat); have n12_ := k0 (Kd.R_after (ok := (fun k_ => some k_ ≠ (.slice Ao35 t203.length co35 : Value).ownBlock ∧ some k_ ≠ (.slice Ao36 t206.length co36 : Value).ownBlock ∧ some k_ ≠ (.slice Ao39 t209.length co39 : Value).ownBlock ∧ some k_ ≠ (.slice Ao41 t212.length co41 : Value).ownBlock ∧ some k_ ≠ (.slice Ao46 t218.length co46 : Value).ownBlock ∧ some k_ ≠ (.slice Ao49 t221.length co49 : Value).ownBlock ∧ some k_ ≠ (.slice Ao53 t225.length co53 : Value).ownBlock ∧ some k_ ≠ (.slice Ao57 t228.length co57 : Value).ownBlock ∧ some k_ ≠ (.slice Ao60 t232.length co60 : Value).ownBlock ∧ some k_ ≠ (.slice Ao69 t240.length co69 : Value).ownBlock ∧ some k_ ≠ (.slice Ao75 t243.length co75 : Value).ownBlock)) (by (with_reducible repeat (first | apply Kd.R_alloc | apply Kd.R_drewN | apply Kd.R_drew)); exact Kd.R_mono HO237.out (fun _ hk => ⟨⟨hk.1.1.1.1.1.1.1.1.1.1.2, ⟨hk.1.1.1.1.1.1.1.1.1.2, ⟨hk.1.1.1.1.1.1.1.1.2, ⟨hk.1.1.1.1.1.1.1.2, ⟨hk.1.1.1.1.1.1.2, ⟨hk.1.1.1.1.1.2, ⟨hk.1.1.1.1.2, ⟨hk.1.1.1.2, ⟨hk.1.1.1.1.1.1.1.1.1.1.1, ⟨hk.1.1.2, hk.1.2⟩⟩⟩⟩⟩⟩⟩⟩⟩⟩, hk.2⟩)) hg hat); have n13_ := k0 (blk_grown (g := gb239) (o := .cells #[.slice Ao60 t232.length co60, .slice Ao65 t235.length co65] 35 (0, 0)) (kB BK239.out) hg (Kd.R_ne HO250.out BK239.out (by decide))); have n14_ := k0 (Kd.R_after (ok := (fun k_ => some k_ ≠ (.slice Ao35 t203.length co35 : Value).ownBlock ∧ some k_ ≠ (.slice Ao36 t206.length co36 : Value).ownBlock ∧ some k_ ≠ (.slice Ao39 t209.length co39 : Value).ownBlock ∧ some k_ ≠ (.slice Ao41 t212.length co41 : Value).ownBlock ∧ some k_ ≠ (.slice Ao46 t218.length co46 : Value).ownBlock ∧ some k_ ≠ (.slice Ao49 t221.length co49 : Value).ownBlock ∧ some k_ ≠ (.slice Ao53 t225.length co53 : Value).ownBlock ∧ some k_ ≠ (.slice Ao57 t228.length co57 : Value).ownBlock ∧ some k_ ≠ (.slice Ao60 t232.length co60 : Value).ownBlock ∧ some k_ ≠ (.slice Ao65 t235.length co65 : Value).ownBlock ∧ some k_ ≠ (.slice Ao75 t243.length co75 : Value).ownBlock)) (by (with_reducible repeat (first | apply Kd.R_alloc | apply Kd.R_drewN | apply Kd.R_drew)); exact Kd.R_mono HO242.out (fun _ hk => ⟨⟨hk.1.1.1.1.1.1.1.1.1.1.2, ⟨hk.1.1.1.1.1.1.1.1.1.2, ⟨hk.1.1.1.1.1.1.1.1.2, ⟨hk.1.1.1.1.1.1.1.2, ⟨hk.1.1.1.1.1.1.2, ⟨hk.1.1.1.1.1.2, ⟨hk.1.1.1.1.2, ⟨hk.1.1.1.2, ⟨hk.1.1.2, ⟨hk.1.2, hk.1.1.1.1.1.1.1.1.1.1.1⟩⟩⟩⟩⟩⟩⟩⟩⟩⟩, hk.2⟩)) hg hat); have n15_ := k0 (Kd.R_after (ok := (fun k_ => some k_ ≠ (.slice Ao35 t203.length co35 : Value).ownBlock ∧ some k_ ≠ (.slice Ao36 t206.length co36 : Value).ownBlock ∧ some k_ ≠ (.slice Ao39 t209.length co39 : Value).ownBlock ∧ some k_ ≠ (.slice Ao41 t212.length co41 : Value).ownBlock ∧ some k_ ≠ (.slice Ao46 t218.length co46 : Value).ownBlock ∧ some k_ ≠ (.slice Ao49 t221.length co49 : Value).ownBlock ∧ some k_ ≠ (.slice Ao53 t225.length co53 : Value).ownBlock ∧ some k_ ≠ (.slice Ao57 t228.length co57 : Value).ownBlock ∧ some k_ ≠ (.slice Ao60 t232.length co60 : Value).ownBlock ∧ some k_ ≠ (.slice Ao65 t235.length co65 : Value).ownBlock ∧ some k_ ≠ (.slice Ao69 t240.length co69 : Value).ownBlock)) (by (with_reducible repeat (first | apply Kd.R_alloc | apply Kd.R_drewN | apply Kd.R_drew)); exact Kd.R_mono HO245.out (fun _ hk => ⟨⟨hk.1.1.1.1.1.1.1.1.1.1.2, ⟨hk.1.1.1.1.1.1.1.1.1.2, ⟨hk.1.1.1.1.1.1.1.1.2, ⟨hk.1.1.1.1.1.1.1.2, ⟨hk.1.1.1.1.1.1.2, ⟨hk.1.1.1.1.1.2, ⟨hk.1.1.1.1.2, ⟨hk.1.1.1.2, ⟨hk.1.1.2, ⟨hk.1.2, hk.1.1.1.1.1.1.1.1.1.1.1⟩⟩⟩⟩⟩⟩⟩⟩⟩⟩, hk.2⟩)) hg hat); have n16_ := k0 (blk_grown (g := gb247) (o := .cells #[.slice Ao69 t240.length co69, .slice Ao75 t243.length co75] 35 (0, 0)) (kB BK247.out) hg (Kd.R_ne HO250.out BK247.out (by decide))); have n17_ := k0 (hb); have n18_ := k0 (ho); clear HO205; clear HO208; clear HO211; clear HO214; clear BK216; clear HO220; clear HO223; clear BK224; clear HO227; clear HO230; clear BK231; clear HO234; clear HO237; clear BK239; clear HO242; clear HO245; clear BK247; clear HB; clear HO250; have HO205 := n0_; have HO208 := n1_; have HO211 := n2_; have HO214 := n3_; have BK216 := n4_; have HO220 := n5_; have HO223 := n6_; have BK224 := n7_; have HO227 := n8_; have HO230 := n9_; have BK231 := n10_; have HO234 := n11_; have HO237 := n12_; have BK239 := n13_; have HO242 := n14_; have HO245 := n15_; have BK247 := n16_; have HB := n17_; have HO253 := n18_; clear n0_ n1_ n2_ n3_ n4_ n5_ n6_ n7_ n8_ n9_ n10_ n11_ n12_ n13_ n14_ n15_ n16_ n17_ n18_; clear ho hb hg hat) | ((with_reducible refine gate_builtin (b := .append) (xs := #[.tmp 53, .tmp 54]) rfl ?_); (try (refine gate_guard (by rfl) ?_; dsimp only)); at_builtin; refine Kd.R_append_rows (Kd.int .u8) (w0 := w) w.heap.size rfl (.tmp 53) (.tmp 54) 30 5 (.int .u8 0) 1 rfl Try.underlying30 info5 rfl (by decide) (by omega) v252 y251 t206 _ _ _ (fun k_ => some k_ ≠ (.slice Ao35 t203.length co35 : Value).ownBlock ∧ some k_ ≠ (.slice Ao36 t206.length co36 : Value).ownBlock ∧ some k_ ≠ (.slice Ao39 t209.length co39 : Value).ownBlock ∧ some k_ ≠ (.slice Ao41 t212.length co41 : Value).ownBlock ∧ some k_ ≠ (.slice Ao46 t218.length co46 : Value).ownBlock ∧ some k_ ≠ (.slice Ao49 t221.length co49 : Value).ownBlock ∧ some k_ ≠ (.slice Ao53 t225.length co53 : Value).ownBlock ∧ some k_ ≠ (.slice Ao57 t228.length co57 : Value).ownBlock ∧ some k_ ≠ (.slice Ao60 t232.length co60 : Value).ownBlock ∧ some k_ ≠ (.slice Ao65 t235.length co65 : Value).ownBlock ∧ some k_ ≠ (.slice Ao69 t240.length co69 : Value).ownBlock ∧ some k_ ≠ (.slice Ao75 t243.length co75 : Value).ownBlock) (fun _ => False) rfl rfl ?aO ?aR (fun _ _ h => h) (fun _ h => h.elim) ?aF ?aB ?aS ?aL ?_; (case aR => repeat (first | exact (Kd.R_reads' HO208.out).2.2 | (with_reducible refine Kd.C_alloc ?_ _) | (with_reducible refine Kd.C_drewN ?_ _) | (with_reducible refine Kd.C_drew ?_))); (case aB => exact (kW HB.out)); (case aF => exact (fun k_ hk => ⟨Kd.fresh' (Kd.R_lt (kR HO205.out)) k_ hk, Kd.fresh' (Kd.R_lt (kR HO208.out)) k_ hk, Kd.fresh' (Kd.R_lt (kR HO211.out)) k_ hk, Kd.fresh' (Kd.R_lt (kR HO214.out)) k_ hk, Kd.fresh' (Kd.R_lt (kR HO220.out)) k_ hk, Kd.fresh' (Kd.R_lt (kR HO223.out)) k_ hk, Kd.fresh' (Kd.R_lt (kR HO227.out)) k_ hk, Kd.fresh' (Kd.R_lt (kR HO230.out)) k_ hk, Kd.fresh' (Kd.R_lt (kR HO234.out)) k_ hk, Kd.fresh' (Kd.R_lt (kR HO237.out)) k_ hk, Kd.fresh' (Kd.R_lt (kR HO242.out)) k_ hk, Kd.fresh' (Kd.R_lt (kR HO245.out)) k_ hk⟩)); (case aO => exact (kR HO253.out)); (case aS => exact (below_size (kW HB.out))); (case aL => have := LMc12.out; omega); intro v255 w79 ho hb hg hat; rw [← Ny254.out] at ho; have n0_ := k0 (Kd.R_after (ok := (fun k_ => some k_ ≠ (.slice Ao36 t206.length co36 : Value).ownBlock ∧ some k_ ≠ (.slice Ao39 t209.length co39 : Value).ownBlock ∧ some k_ ≠ (.slice Ao41 t212.length co41 : Value).ownBlock ∧ some k_ ≠ (.slice Ao46 t218.length co46 : Value).ownBlock ∧ some k_ ≠ (.slice Ao49 t221.length co49 : Value).ownBlock ∧ some k_ ≠ (.slice Ao53 t225.length co53 : Value).ownBlock ∧ some k_ ≠ (.slice Ao57 t228.length co57 : Value).ownBlock ∧ some k_ ≠ (.slice Ao60 t232.length co60 : Value).ownBlock ∧ some k_ ≠ (.slice Ao65 t235.length co65 : Value).ownBlock ∧ some k_ ≠ (.slice Ao69 t240.length co69 : Value).ownBlock ∧ some k_ ≠ (.slice Ao75 t243.length co75 : Value).ownBlock)) (kR HO205.out) hg hat); have n1_ := k0 (Kd.R_after (ok := (fun k_ => some k_ ≠ (.slice Ao35 t203.length co35 : Value).ownBlock ∧ some k_ ≠ (.slice Ao39 t209.length co39 : Value).ownBlock ∧ some k_ ≠ (.slice Ao41 t212.length co41 : Value).ownBlock ∧ some k_ ≠ (.slice Ao46 t218.length co46 : Value).ownBlock ∧ some k_ ≠ (.slice Ao49 t221.length co49 : Value).ownBlock ∧ some k_ ≠ (.slice Ao53 t225.length co53 : Value).ownBlock ∧ some k_ ≠ (.slice Ao57 t228.length co57 : Value).ownBlock ∧ some k_ ≠ (.slice Ao60 t232.length co60 : Value).ownBlock ∧ some k_ ≠ (.slice Ao65 t235.length co65 : Value).ownBlock ∧ some k_ ≠ (.slice Ao69 t240.length co69 : Value).ownBlock ∧ some k_ ≠ (.slice Ao75 t243.length co75 : Value).ownBlock)) (kR HO208.out) hg hat); have n2_ := k0 (Kd.R_after (ok := (fun k_ => some k_ ≠ (.slice Ao35 t203.length co35 : Value).ownBlock ∧ some k_ ≠ (.slice Ao36 t206.length co36 : Value).ownBlock ∧ some k_ ≠ (.slice Ao41 t212.length co41 : Value).ownBlock ∧ some k_ ≠ (.slice Ao46 t218.length co46 : Value).ownBlock ∧ some k_ ≠ (.slice Ao49 t221.length co49 : Value).ownBlock ∧ some k_ ≠ (.slice Ao53 t225.length co53 : Value).ownBlock ∧ some k_ ≠ (.slice Ao57 t228.length co57 : Value).ownBlock ∧ some k_ ≠ (.slice Ao60 t232.length co60 : Value).ownBlock ∧ some k_ ≠ (.slice Ao65 t235.length co65 : Value).ownBlock ∧ some k_ ≠ (.slice Ao69 t240.length co69 : Value).ownBlock ∧ some k_ ≠ (.slice Ao75 t243.length co75 : Value).ownBlock)) (kR HO211.out) hg hat); have n3_ := k0 (Kd.R_after (ok := (fun k_ => some k_ ≠ (.slice Ao35 t203.length co35 : Value).ownBlock ∧ some k_ ≠ (.slice Ao36 t206.length co36 : Value).ownBlock ∧ some k_ ≠ (.slice Ao39 t209.length co39 : Value).ownBlock ∧ some k_ ≠ (.slice Ao46 t218.length co46 : Value).ownBlock ∧ some k_ ≠ (.slice Ao49 t221.length co49 : Value).ownBlock ∧ some k_ ≠ (.slice Ao53 t225.length co53 : Value).ownBlock ∧ some k_ ≠ (.slice Ao57 t228.length co57 : Value).ownBlock ∧ some k_ ≠ (.slice Ao60 t232.length co60 : Value).ownBlock ∧ some k_ ≠ (.slice Ao65 t235.length co65 : Value).ownBlock ∧ some k_ ≠ (.slice Ao69 t240.length co69 : Value).ownBlock ∧ some k_ ≠ (.slice Ao75 t243.length co75 : Value).ownBlock)) (kR HO214.out) hg hat); have n4_ := k0 (blk_grown (g := gb216) (o := .cells #[.slice Ao39 t209.length co39, .slice Ao41 t212.length co41] 35 (0, 0)) (kB BK216.out) hg (Kd.R_ne HO253.out BK216.out (by decide))); have n5_ := k0 (Kd.R_after (ok := (fun k_ => some k_ ≠ (.slice Ao35 t203.length co35 : Value).ownBlock ∧ some k_ ≠ (.slice Ao36 t206.length co36 : Value).ownBlock ∧ some k_ ≠ (.slice Ao39 t209.length co39 : Value).ownBlock ∧ some k_ ≠ (.slice Ao41 t212.length co41 : Value).ownBlock ∧ some k_ ≠ (.slice Ao49 t221.length co49 : Value).ownBlock ∧ some k_ ≠ (.slice Ao53 t225.length co53 : Value).ownBlock ∧ some k_ ≠ (.slice Ao57 t228.length co57 : Value).ownBlock ∧ some k_ ≠ (.slice Ao60 t232.length co60 : Value).ownBlock ∧ some k_ ≠ (.slice Ao65 t235.length co65 : Value).ownBlock ∧ some k_ ≠ (.slice Ao69 t240.length co69 : Value).ownBlock ∧ some k_ ≠ (.slice Ao75 t243.length co75 : Value).ownBlock)) (kR HO220.out) hg hat); have n6_ := k0 (Kd.R_after (ok := (fun k_ => some k_ ≠ (.slice Ao35 t203.length co35 : Value).ownBlock ∧ some k_ ≠ (.slice Ao36 t206.length co36 : Value).ownBlock ∧ some k_ ≠ (.slice Ao39 t209.length co39 : Value).ownBlock ∧ some k_ ≠ (.slice Ao41 t212.length co41 : Value).ownBlock ∧ some k_ ≠ (.slice Ao46 t218.length co46 : Value).ownBlock ∧ some k_ ≠ (.slice Ao53 t225.length co53 : Value).ownBlock ∧ some k_ ≠ (.slice Ao57 t228.length co57 : Value).ownBlock ∧ some k_ ≠ (.slice Ao60 t232.length co60 : Value).ownBlock ∧ some k_ ≠ (.slice Ao65 t235.length co65 : Value).ownBlock ∧ some k_ ≠ (.slice Ao69 t240.length co69 : Value).ownBlock ∧ some k_ ≠ (.slice Ao75 t243.length co75 : Value).ownBlock)) (kR HO223.out) hg hat); have n7_ := k0 (blk_grown (g := gb224) (o := .cells #[.slice Ao46 t218.length co46, .slice Ao49 t221.length co49] 35 (0, 0)) (kB BK224.out) hg (Kd.R_ne HO253.out BK224.out (by decide))); have n8_ := k0 (Kd.R_after (ok := (fun k_ => some k_ ≠ (.slice Ao35 t203.length co35 : Value).ownBlock ∧ some k_ ≠ (.slice Ao36 t206.length co36 : Value).ownBlock ∧ some k_ ≠ (.slice Ao39 t209.length co39 : Value).ownBlock ∧ some k_ ≠ (.slice Ao41 t212.length co41 : Value).ownBlock ∧ some k_ ≠ (.slice Ao46 t218.length co46 : Value).ownBlock ∧ some k_ ≠ (.slice Ao49 t221.length co49 : Value).ownBlock ∧ some k_ ≠ (.slice Ao57 t228.length co57 : Value).ownBlock ∧ some k_ ≠ (.slice Ao60 t232.length co60 : Value).ownBlock ∧ some k_ ≠ (.slice Ao65 t235.length co65 : Value).ownBlock ∧ some k_ ≠ (.slice Ao69 t240.length co69 : Value).ownBlock ∧ some k_ ≠ (.slice Ao75 t243.length co75 : Value).ownBlock)) (kR HO227.out) hg hat); have n9_ := k0 (Kd.R_after (ok := (fun k_ => some k_ ≠ (.slice Ao35 t203.length co35 : Value).ownBlock ∧ some k_ ≠ (.slice Ao36 t206.length co36 : Value).ownBlock ∧ some k_ ≠ (.slice Ao39 t209.length co39 : Value).ownBlock ∧ some k_ ≠ (.slice Ao41 t212.length co41 : Value).ownBlock ∧ some k_ ≠ (.slice Ao46 t218.length co46 : Value).ownBlock ∧ some k_ ≠ (.slice Ao49 t221.length co49 : Value).ownBlock ∧ some k_ ≠ (.slice Ao53 t225.length co53 : Value).ownBlock ∧ some k_ ≠ (.slice Ao60 t232.length co60 : Value).ownBlock ∧ some k_ ≠ (.slice Ao65 t235.length co65 : Value).ownBlock ∧ some k_ ≠ (.slice Ao69 t240.length co69 : Value).ownBlock ∧ some k_ ≠ (.slice Ao75 t243.length co75 : Value).ownBlock)) (kR HO230.out) hg hat); have n10_ := k0 (blk_grown (g := gb231) (o := .cells #[.slice Ao53 t225.length co53, .slice Ao57 t228.length co57] 35 (0, 0)) (kB BK231.out) hg (Kd.R_ne HO253.out BK231.out (by decide))); have n11_ := k0 (Kd.R_after (ok := (fun k_ => some k_ ≠ (.slice Ao35 t203.length co35 : Value).ownBlock ∧ some k_ ≠ (.slice Ao36 t206.length co36 : Value).ownBlock ∧ some k_ ≠ (.slice Ao39 t209.length co39 : Value).ownBlock ∧ some k_ ≠ (.slice Ao41 t212.length co41 : Value).ownBlock ∧ some k_ ≠ (.slice Ao46 t218.length co46 : Value).ownBlock ∧ some k_ ≠ (.slice Ao49 t221.length co49 : Value).ownBlock ∧ some k_ ≠ (.slice Ao53 t225.length co53 : Value).ownBlock ∧ some k_ ≠ (.slice Ao57 t228.length co57 : Value).ownBlock ∧ some k_ ≠ (.slice Ao65 t235.length co65 : Value).ownBlock ∧ some k_ ≠ (.slice Ao69 t240.length co69 : Value).ownBlock ∧ some k_ ≠ (.slice Ao75 t243.length co75 : Value).ownBlock)) (kR HO234.out) hg hat); have n12_ := k0 (Kd.R_after (ok := (fun k_ => some k_ ≠ (.slice Ao35 t203.length co35 : Value).ownBlock ∧ some k_ ≠ (.slice Ao36 t206.length co36 : Value).ownBlock ∧ some k_ ≠ (.slice Ao39 t209.length co39 : Value).ownBlock ∧ some k_ ≠ (.slice Ao41 t212.length co41 : Value).ownBlock ∧ some k_ ≠ (.slice Ao46 t218.length co46 : Value).ownBlock ∧ some k_ ≠ (.slice Ao49 t221.length co49 : Value).ownBlock ∧ some k_ ≠ (.slice Ao53 t225.length co53 : Value).ownBlock ∧ some k_ ≠ (.slice Ao57 t228.length co57 : Value).ownBlock ∧ some k_ ≠ (.slice Ao60 t232.length co60 : Value).ownBlock ∧ some k_ ≠ (.slice Ao69 t240.length co69 : Value).ownBlock ∧ some k_ ≠ (.slice Ao75 t243.length co75 : Value).ownBlock)) (kR HO237.out) hg hat); have n13_ := k0 (blk_grown (g := gb239) (o := .cells #[.slice Ao60 t232.length co60, .slice Ao65 t235.length co65] 35 (0, 0)) (kB BK239.out) hg (Kd.R_ne HO253.out BK239.out (by decide))); have n14_ := k0 (Kd.R_after (ok := (fun k_ => some k_ ≠ (.slice Ao35 t203.length co35 : Value).ownBlock ∧ some k_ ≠ (.slice Ao36 t206.length co36 : Value).ownBlock ∧ some k_ ≠ (.slice Ao39 t209.length co39 : Value).ownBlock ∧ some k_ ≠ (.slice Ao41 t212.length co41 : Value).ownBlock ∧ some k_ ≠ (.slice Ao46 t218.length co46 : Value).ownBlock ∧ some k_ ≠ (.slice Ao49 t221.length co49 : Value).ownBlock ∧ some k_ ≠ (.slice Ao53 t225.length co53 : Value).ownBlock ∧ some k_ ≠ (.slice Ao57 t228.length co57 : Value).ownBlock ∧ some k_ ≠ (.slice Ao60 t232.length co60 : Value).ownBlock ∧ some k_ ≠ (.slice Ao65 t235.length co65 : Value).ownBlock ∧ some k_ ≠ (.slice Ao75 t243.length co75 : Value).ownBlock)) (kR HO242.out) hg hat); have n15_ := k0 (Kd.R_after (ok := (fun k_ => some k_ ≠ (.slice Ao35 t203.length co35 : Value).ownBlock ∧ some k_ ≠ (.slice Ao36 t206.length co36 : Value).ownBlock ∧ some k_ ≠ (.slice Ao39 t209.length co39 : Value).ownBlock ∧ some k_ ≠ (.slice Ao41 t212.length co41 : Value).ownBlock ∧ some k_ ≠ (.slice Ao46 t218.length co46 : Value).ownBlock ∧ some k_ ≠ (.slice Ao49 t221.length co49 : Value).ownBlock ∧ some k_ ≠ (.slice Ao53 t225.length co53 : Value).ownBlock ∧ some k_ ≠ (.slice Ao57 t228.length co57 : Value).ownBlock ∧ some k_ ≠ (.slice Ao60 t232.length co60 : Value).ownBlock ∧ some k_ ≠ (.slice Ao65 t235.length co65 : Value).ownBlock ∧ some k_ ≠ (.slice Ao69 t240.length co69 : Value).ownBlock)) (kR HO245.out) hg hat); have n16_ := k0 (blk_grown (g := gb247) (o := .cells #[.slice Ao69 t240.length co69, .slice Ao75 t243.length co75] 35 (0, 0)) (kB BK247.out) hg (Kd.R_ne HO253.out BK247.out (by decide))); have n17_ := k0 (hb); have n18_ := k0 (ho); clear HO205; clear HO208; clear HO211; clear HO214; clear BK216; clear HO220; clear HO223; clear BK224; clear HO227; clear HO230; clear BK231; clear HO234; clear HO237; clear BK239; clear HO242; clear HO245; clear BK247; clear HB; clear HO253; have HO205 := n0_; have HO208 := n1_; have HO211 := n2_; have HO214 := n3_; have BK216 := n4_; have HO220 := n5_; have HO223 := n6_; have BK224 := n7_; have HO227 := n8_; have HO230 := n9_; have BK231 := n10_; have HO234 := n11_; have HO237 := n12_; have BK239 := n13_; have HO242 := n14_; have HO245 := n15_; have BK247 := n16_; have HB := n17_; have HO256 := n18_; clear n0_ n1_ n2_ n3_ n4_ n5_ n6_ n7_ n8_ n9_ n10_ n11_ n12_ n13_ n14_ n15_ n16_ n17_ n18_; clear ho hb hg hat))
               have n0_ := k0 (Kd.R_drew HO205.out)
               have n1_ := k0 (Kd.R_drew HO208.out)
               have n2_ := k0 (Kd.R_drew HO211.out)
               have n3_ := k0 (Kd.R_drew HO214.out)
               have n4_ := k0 (Kd.R_drew HO220.out)
               have n5_ := k0 (Kd.R_drew HO223.out)
               have n6_ := k0 (Kd.R_drew HO227.out)
               have n7_ := k0 (Kd.R_drew HO230.out)
               have n8_ := k0 (Kd.R_drew HO234.out)
               have n9_ := k0 (Kd.R_drew HO237.out)
               have n10_ := k0 (Kd.R_drew HO242.out)
               have n11_ := k0 (Kd.R_drew HO245.out)
               have n12_ := k0 (Kd.R_drew HO256.out)
               have n13_ := k0 (blk_drew BK216.out)
               have n14_ := k0 (blk_drew BK224.out)
               have n15_ := k0 (blk_drew BK231.out)
               have n16_ := k0 (blk_drew BK239.out)
               have n17_ := k0 (blk_drew BK247.out)
               have n18_ := k0 (below_drew1 HB.out)
               clear HO205
               clear HO208
               clear HO211
               clear HO214
               clear HO220
               clear HO223
               clear HO227
               clear HO230
               clear HO234
               clear HO237
               clear HO242
               clear HO245
               clear HO256
               clear BK216
               clear BK224
               clear BK231
               clear BK239
               clear BK247
               clear HB
               have HO205 := n0_
               have HO208 := n1_
               have HO211 := n2_
               have HO214 := n3_
               have HO220 := n4_
               have HO223 := n5_
               have HO227 := n6_
               have HO230 := n7_
               have HO234 := n8_
               have HO237 := n9_
               have HO242 := n10_
               have HO245 := n11_
               have HO256 := n12_
               have BK216 := n13_
               have BK224 := n14_
               have BK231 := n15_
               have BK239 := n16_
               have BK247 := n17_
               have HB := n18_
               clear n0_ n1_ n2_ n3_ n4_ n5_ n6_ n7_ n8_ n9_ n10_ n11_ n12_ n13_ n14_ n15_ n16_ n17_ n18_
               refine start_ (n := 59) (S := fun w' => w'.cell? ⟨gb216, 0, none⟩ = some (.slice Ao39 t209.length co39) ∧ w'.cell? ⟨gb216, 1, none⟩ = some (.slice Ao41 t212.length co41) ∧ w'.cell? ⟨gb224, 0, none⟩ = some (.slice Ao46 t218.length co46) ∧ w'.cell? ⟨gb224, 1, none⟩ = some (.slice Ao49 t221.length co49) ∧ w'.cell? ⟨gb231, 0, none⟩ = some (.slice Ao53 t225.length co53) ∧ w'.cell? ⟨gb231, 1, none⟩ = some (.slice Ao57 t228.length co57) ∧ w'.cell? ⟨gb239, 0, none⟩ = some (.slice Ao60 t232.length co60) ∧ w'.cell? ⟨gb239, 1, none⟩ = some (.slice Ao65 t235.length co65)) (ds := []) #[false, false, false, false, false, false, false, false, false, false, false, false, false, false, false, false, false, false, false, false, false, false, false, false, false, false, false, false, false, false, false, false, false, false, false, false, false, false, false, false, false, false, false, false, false, false, false, false, false, false, false, false, false, false, false, false, false, false, false] (by kernel_rfl) rfl rfl ⟨(blk_cell BK216.out 0).trans rfl, (blk_cell BK216.out 1).trans rfl, (blk_cell BK224.out 0).trans rfl, (blk_cell BK224.out 1).trans rfl, (blk_cell BK231.out 0).trans rfl, (blk_cell BK231.out 1).trans rfl, (blk_cell BK239.out 0).trans rfl, (blk_cell BK239.out 1).trans rfl⟩ (fun hHeld => ?_); refine with_tabW laws_FnDisk.tab12 laws_FnDisk.bits12 (fun HT_ HW_ => ?_)
               generalize w79.drew = w80 at HO205 HO208 HO211 HO214 HO220 HO223 HO227 HO230 HO234 HO237 HO242 HO245 HO256 BK216 BK224 BK231 BK239 BK247 HB hHeld ⊢
               refine pure_ (i := 0) (N := some 56) (v := ?_) (a' := ?_) #[true, false, false, false, false, false, false, false, false, false, false, false, false, false, false, false, false, false, false, false, false, false, false, false, false, false, false, false, false, false, false, false, false, false, false, false, false, false, false, false, false, false, false, false, false, false, false, false, false, false, false, false, false, false, false, false, false, false, false] rfl rfl (any_of HT_.out (by kernel_rfl)) (fun _ _ _ h => h) (Or.inl ⟨by rfl, ?_⟩) ?_ ?_
               rotate_left
               ·intro w'
                go_simp
                with_reducible rfl
               rotate_left
               ·simp only [Act.put, List.setIfInBounds_toArray, List.set_cons_zero, List.set_cons_succ, i64_w, i32_w]
                rfl
               refine pure_ (i := 1) (N := some 57) (v := ?_) (a' := ?_) #[true, true, false, false, false, false, false, false, false, false, false, false, false, false, false, false, false, false, false, false, false, false, false, false, false, false, false, false, false, false, false, false, false, false, false, false, false, false, false, false, false, false, false, false, false, false, false, false, false, false, false, false, false, false, false, false, false, false, false] rfl rfl (any_of HT_.out (by kernel_rfl)) (fun _ _ _ h => h) (Or.inl ⟨by rfl, ?_⟩) ?_ ?_
               rotate_left
               ·intro w'
                go_simp
                with_reducible rfl
               rotate_left
               ·simp only [Act.put, List.setIfInBounds_toArray, List.set_cons_zero, List.set_cons_succ, i64_w, i32_w]
                rfl
               refine take_ (i := 2) (N := some 58) (v := ?_) (a' := ?_) #[true, true, true, false, false, false, false, false, false, false, false, false, false, false, false, false, false, false, false, false, false, false, false, false, false, false, false, false, false, false, false, false, false, false, false, false, false, false, false, false, false, false, false, false, false, false, false, false, false, false, false, false, false, false, false, false, false, false, false] rfl rfl (take_ofW HT_.out HW_.out (by kernel_rfl)) (fun _ _ _ h => h) (Or.inl ⟨by rfl, ?_⟩) hHeld ?_ ?_
               rotate_left
               ·rintro w' ⟨s0, s1, s2, s3, s4, s5, s6, s7⟩
                go_simp
                with_reducible rfl
               rotate_left
               ·simp only [Act.put, List.setIfInBounds_toArray, List.set_cons_zero, List.set_cons_succ, i64_w, i32_w]
                rfl
               refine one_ (i := 3) (N := some 59) #[true, true, true, true, false, false, false, false, false, false, false, false, false, false, false, false, false, false, false, false, false, false, false, false, false, false, false, false, false, false, false, false, false, false, false, false, false, false, false, false, false, false, false, false, false, false, false, false, false, false, false, false, false, false, false, false, false, false, false] rfl rfl (one_of HT_.out (by kernel_rfl)) (by decide) (fun K hK => ?_)
               refine goes_ Try.func22 (by kernel_rfl) rfl #[.agg #[.slice Ao39 t209.length co39, .slice Ao41 t212.length co41]] (by rfl) rfl rfl (by (try simp only [List.map_toArray, List.map_cons, List.map_nil]); first | done | rfl | (simp only [List.length_drop, List.length_take]; rfl)) ?_
               with_reducible refine (impl_DiskOk.calls _ _ t209 _ _ t212 true _ ?side1 ?side2 ?side3 ?side4 A14.out).mono ?_
               (case side1 => repeat (first | exact (Kd.R_reads' HO211.out).2.2 | (with_reducible refine Kd.C_alloc ?_ _) | (with_reducible refine Kd.C_drewN ?_ _) | (with_reducible refine Kd.C_drew ?_)))
               (case side2 => exact (Kd.R_reads' HO211.out).2.1)
               (case side3 => repeat (first | exact (Kd.R_reads' HO214.out).2.2 | (with_reducible refine Kd.C_alloc ?_ _) | (with_reducible refine Kd.C_drewN ?_ _) | (with_reducible refine Kd.C_drew ?_)))
               (case side4 => exact (Kd.R_reads' HO214.out).2.1)
               rintro e w81 ⟨rfl, hb⟩
               refine ⟨_, rfl, ?_⟩
               have n0_ := k0 (Kd.R_below (kR HO205.out) hb)
               have n1_ := k0 (Kd.R_below (kR HO208.out) hb)
               have n2_ := k0 (Kd.R_below (kR HO211.out) hb)
               have n3_ := k0 (Kd.R_below (kR HO214.out) hb)
               have n4_ := k0 (Kd.R_below (kR HO220.out) hb)
               have n5_ := k0 (Kd.R_below (kR HO223.out) hb)
               have n6_ := k0 (Kd.R_below (kR HO227.out) hb)
               have n7_ := k0 (Kd.R_below (kR HO230.out) hb)
               have n8_ := k0 (Kd.R_below (kR HO234.out) hb)
               have n9_ := k0 (Kd.R_below (kR HO237.out) hb)
               have n10_ := k0 (Kd.R_below (kR HO242.out) hb)
               have n11_ := k0 (Kd.R_below (kR HO245.out) hb)
               have n12_ := k0 (Kd.R_below (kR HO256.out) hb)
               have n13_ := k0 (kb BK216.out hb)
               have n14_ := k0 (kb BK224.out hb)
               have n15_ := k0 (kb BK231.out hb)
               have n16_ := k0 (kb BK239.out hb)
               have n17_ := k0 (kb BK247.out hb)
               have n18_ := k0 (below_step (kW HB.out) hb)
               clear HO205
               clear HO208
               clear HO211
               clear HO214
               clear HO220
               clear HO223
               clear HO227
               clear HO230
               clear HO234
               clear HO237
               clear HO242
               clear HO245
               clear HO256
               clear BK216
               clear BK224
               clear BK231
               clear BK239
               clear BK247
               clear HB
               have HO205 := n0_
               have HO208 := n1_
               have HO211 := n2_
               have HO214 := n3_
               have HO220 := n4_
               have HO223 := n5_
               have HO227 := n6_
               have HO230 := n7_
               have HO234 := n8_
               have HO237 := n9_
               have HO242 := n10_
               have HO245 := n11_
               have HO256 := n12_
               have BK216 := n13_
               have BK224 := n14_
               have BK231 := n15_
               have BK239 := n16_
               have BK247 := n17_
               have HB := n18_
               clear n0_ n1_ n2_ n3_ n4_ n5_ n6_ n7_ n8_ n9_ n10_ n11_ n12_ n13_ n14_ n15_ n16_ n17_ n18_
               (try clear hb)
               (try clear hb2)
               (try clear hk)
               (try clear hi)
               refine hK.out _ _ ⟨(blk_cell BK216.out 0).trans rfl, (blk_cell BK216.out 1).trans rfl, (blk_cell BK224.out 0).trans rfl, (blk_cell BK224.out 1).trans rfl, (blk_cell BK231.out 0).trans rfl, (blk_cell BK231.out 1).trans rfl, (blk_cell BK239.out 0).trans rfl, (blk_cell BK239.out 1).trans rfl⟩ (fun hHeld => ?_)
               clear hK K
               refine norm_ (a' := ?_) ?_ ?_
               rotate_left
               ·show Act.put _ (some 59) _ = _
                simp only [Act.put, List.setIfInBounds_toArray, List.set_cons_zero, List.set_cons_succ, i64_w, i32_w]
                rfl
               refine pure_ (i := 4) (N := some 60) (v := ?_) (a' := ?_) #[true, true, true, true, true, false, false, false, false, false, false, false, false, false, false, false, false, false, false, false, false, false, false, false, false, false, false, false, false, false, false, false, false, false, false, false, false, false, false, false, false, false, false, false, false, false, false, false, false, false, false, false, false, false, false, false, false, false, false] rfl rfl (any_of HT_.out (by kernel_rfl)) (fun _ _ _ h => h) (Or.inl ⟨by rfl, ?_⟩) ?_ ?_
               rotate_left
               ·intro w'
                go_simp
                with_reducible rfl
               rotate_left
               ·simp only [Act.put, List.setIfInBounds_toArray, List.set_cons_zero, List.set_cons_succ, i64_w, i32_w]
                rfl
               refine pure_ (i := 5) (N := some 61) (v := ?_) (a' := ?_) #[true, true, true, true, true, true, false, false, false, false, false, false, false, false, false, false, false, false, false, false, false, false, false, false, false, false, false, false, false, false, false, false, false, false, false, false, false, false, false, false, false, false, false, false, false, false, false, false, false, false, false, false, false, false, false, false, false, false, false] rfl rfl (any_of HT_.out (by kernel_rfl)) (fun _ _ _ h => h) (Or.inl ⟨by rfl, ?_⟩) ?_ ?_
               rotate_left
               ·intro w'
                go_simp
                with_reducible rfl
               rotate_left
               ·simp only [Act.put, List.setIfInBounds_toArray, List.set_cons_zero, List.set_cons_succ, i64_w, i32_w]
                rfl
               refine pure_ (i := 8) (N := some 64) (v := ?_) (a' := ?_) #[true, true, true, true, true, true, false, false, true, false, false, false, false, false, false, false, false, false, false, false, false, false, false, false, false, false, false, false, false, false, false, false, false, false, false, false, false, false, false, false, false, false, false, false, false, false, false, false, false, false, false, false, false, false, false, false, false, false, false] rfl rfl (any_of HT_.out (by kernel_rfl)) (fun _ _ _ h => h) (Or.inl ⟨by rfl, ?_⟩) ?_ ?_
               rotate_left
               ·intro w'
                go_simp
                with_reducible rfl
               rotate_left
               ·simp only [Act.put, List.setIfInBounds_toArray, List.set_cons_zero, List.set_cons_succ, i64_w, i32_w]
                rfl
               refine take_ (i := 6) (N := some 62) (v := ?_) (a' := ?_) #[true, true, true, true, true, true, true, false, true, false, false, false, false, false, false, false, false, false, false, false, false, false, false, false, false, false, false, false, false, false, false, false, false, false, false, false, false, false, false, false, false, false, false, false, false, false, false, false, false, false, false, false, false, false, false, false, false, false, false] rfl rfl (take_ofW HT_.out HW_.out (by kernel_rfl)) (fun _ _ _ h => h) (Or.inl ⟨by rfl, ?_⟩) hHeld ?_ ?_
               rotate_left
               ·rintro w' ⟨s0, s1, s2, s3, s4, s5, s6, s7⟩
                go_simp
                with_reducible rfl
               rotate_left
               ·simp only [Act.put, List.setIfInBounds_toArray, List.set_cons_zero, List.set_cons_succ, i64_w, i32_w]
                rfl
               refine one_ (i := 7) (N := some 63) #[true, true, true, true, true, true, true, true, true, false, false, false, false, false, false, false, false, false, false, false, false, false, false, false, false, false, false, false, false, false, false, false, false, false, false, false, false, false, false, false, false, false, false, false, false, false, false, false, false, false, false, false, false, false, false, false, false, false, false] rfl rfl (one_of HT_.out (by kernel_rfl)) (by decide) (fun K hK => ?_)
               refine goes_ Try.func33 (by kernel_rfl) rfl #[.agg #[.slice Ao39 t209.length co39, .slice Ao41 t212.length co41]] (by rfl) rfl rfl (by (try simp only [List.map_toArray, List.map_cons, List.map_nil]); first | done | rfl | (simp only [List.length_drop, List.length_take]; rfl)) ?_
               with_reducible refine (impl_DiskAll.calls _ _ t209 _ _ t212 t258 _ ?side1 ?side2 ?side3 ?side4 A16.out).mono ?_
               (case side1 => repeat (first | exact (Kd.R_reads' HO211.out).2.2 | (with_reducible refine Kd.C_alloc ?_ _) | (with_reducible refine Kd.C_drewN ?_ _) | (with_reducible refine Kd.C_drew ?_)))
               (case side2 => exact (Kd.R_reads' HO211.out).2.1)
               (case side3 => repeat (first | exact (Kd.R_reads' HO214.out).2.2 | (with_reducible refine Kd.C_alloc ?_ _) | (with_reducible refine Kd.C_drewN ?_ _) | (with_reducible refine Kd.C_drew ?_)))
               (case side4 => exact (Kd.R_reads' HO214.out).2.1)
               rintro e w82 ⟨v259, rfl, ho0, hb⟩
               refine ⟨_, rfl, ?_⟩
               have n0_ := k0 (Kd.R_elder' (kR HO205.out) (Kd.R_base ho0) hb)
               have n1_ := k0 (Kd.R_elder' (kR HO208.out) (Kd.R_base ho0) hb)
               have n2_ := k0 (Kd.R_elder' (kR HO211.out) (Kd.R_base ho0) hb)
               have n3_ := k0 (Kd.R_elder' (kR HO214.out) (Kd.R_base ho0) hb)
               have n4_ := k0 (Kd.R_elder' (kR HO220.out) (Kd.R_base ho0) hb)
               have n5_ := k0 (Kd.R_elder' (kR HO223.out) (Kd.R_base ho0) hb)
               have n6_ := k0 (Kd.R_elder' (kR HO227.out) (Kd.R_base ho0) hb)
               have n7_ := k0 (Kd.R_elder' (kR HO230.out) (Kd.R_base ho0) hb)
               have n8_ := k0 (Kd.R_elder' (kR HO234.out) (Kd.R_base ho0) hb)
               have n9_ := k0 (Kd.R_elder' (kR HO237.out) (Kd.R_base ho0) hb)
               have n10_ := k0 (Kd.R_elder' (kR HO242.out) (Kd.R_base ho0) hb)
               have n11_ := k0 (Kd.R_elder' (kR HO245.out) (Kd.R_base ho0) hb)
               have n12_ := k0 (Kd.R_elder' (kR HO256.out) (Kd.R_base ho0) hb)
               have n13_ := k0 (Kd.R_lower (Kd.R_new' (Kd.R_new' (Kd.R_new' (Kd.R_new' (Kd.R_new' (Kd.R_new' (Kd.R_new' (Kd.R_new' (Kd.R_new' (Kd.R_new' (Kd.R_new' (Kd.R_new' (Kd.R_new' ho0 (Kd.R_lt (kR HO205.out))) (Kd.R_lt (kR HO208.out))) (Kd.R_lt (kR HO211.out))) (Kd.R_lt (kR HO214.out))) (Kd.R_lt (kR HO220.out))) (Kd.R_lt (kR HO223.out))) (Kd.R_lt (kR HO227.out))) (Kd.R_lt (kR HO230.out))) (Kd.R_lt (kR HO234.out))) (Kd.R_lt (kR HO237.out))) (Kd.R_lt (kR HO242.out))) (Kd.R_lt (kR HO245.out))) (Kd.R_lt (kR HO256.out))) (below_size (kW HB.out)))
               have n14_ := k0 (kb BK216.out hb)
               have n15_ := k0 (kb BK224.out hb)
               have n16_ := k0 (kb BK231.out hb)
               have n17_ := k0 (kb BK239.out hb)
               have n18_ := k0 (kb BK247.out hb)
               have n19_ := k0 (below_step (kW HB.out) hb)
               clear HO205
               clear HO208
               clear HO211
               clear HO214
               clear HO220
               clear HO223
               clear HO227
               clear HO230
               clear HO234
               clear HO237
               clear HO242
               clear HO245
               clear HO256
               clear BK216
               clear BK224
               clear BK231
               clear BK239
               clear BK247
               clear HB
               have HO205 := n0_
               have HO208 := n1_
               have HO211 := n2_
               have HO214 := n3_
               have HO220 := n4_
               have HO223 := n5_
               have HO227 := n6_
               have HO230 := n7_
               have HO234 := n8_
               have HO237 := n9_
               have HO242 := n10_
               have HO245 := n11_
               have HO256 := n12_
               have HO260 := n13_
               have BK216 := n14_
               have BK224 := n15_
               have BK231 := n16_
               have BK239 := n17_
               have BK247 := n18_
               have HB := n19_
               clear n0_ n1_ n2_ n3_ n4_ n5_ n6_ n7_ n8_ n9_ n10_ n11_ n12_ n13_ n14_ n15_ n16_ n17_ n18_ n19_
               (try clear hb)
               (try clear hb2)
               (try clear hk)
               (try clear hi)
               (try clear ho0)
               obtain ⟨Ao83, co83, eo83⟩ := Kd.R_slice HO260.out
               (first | subst eo83 | (injection eo83 with f1_ f2_ f3_; have f4_ := f1_.symm; have f5_ := f3_.symm; clear f1_ f2_ f3_; subst f4_; subst f5_))
               obtain ⟨Ao84, co84, eo84⟩ := Kd.R_slice HO256.out
               (first | subst eo84 | (injection eo84 with f1_ f2_ f3_; have f4_ := f1_.symm; have f5_ := f3_.symm; clear f1_ f2_ f3_; subst f4_; subst f5_))
               refine hK.out _ _ ⟨(blk_cell BK216.out 0).trans rfl, (blk_cell BK216.out 1).trans rfl, (blk_cell BK224.out 0).trans rfl, (blk_cell BK224.out 1).trans rfl, (blk_cell BK231.out 0).trans rfl, (blk_cell BK231.out 1).trans rfl, (blk_cell BK239.out 0).trans rfl, (blk_cell BK239.out 1).trans rfl⟩ (fun hHeld => ?_)
               clear hK K
               refine norm_ (a' := ?_) ?_ ?_
               rotate_left
               ·show Act.put _ (some 63) _ = _
                simp only [Act.put, List.setIfInBounds_toArray, List.set_cons_zero, List.set_cons_succ, i64_w, i32_w]
                rfl
               refine one_ (i := 9) (N := some 65) #[true, true, true, true, true, true, true, true, true, true, false, false, false, false, false, false, false, false, false, false, false, false, false, false, false, false, false, false, false, false, false, false, false, false, false, false, false, false, false, false, false, false, false, false, false, false, false, false, false, false, false, false, false, false, false, false, false, false, false] rfl rfl (one_of HT_.out (by kernel_rfl)) (by decide) (fun K hK => ?_)
               refine goes_ Try.func32 (by kernel_rfl) rfl #[.slice Ao83 t258.length co83, .slice Ao84 y254.length co84] (by rfl) rfl rfl (by (try simp only [List.map_toArray, List.map_cons, List.map_nil]); first | done | rfl | (simp only [List.length_drop, List.length_take]; rfl)) ?_
               with_reducible refine (impl_SameBytes.calls _ _ t258 _ _ y254 true _ ?side1 ?side2 ?side3 ?side4 A17.out).mono ?_
               (case side1 => repeat (first | exact (Kd.R_reads' HO260.out).2.2 | (with_reducible refine Kd.C_alloc ?_ _) | (with_reducible refine Kd.C_drewN ?_ _) | (with_reducible refine Kd.C_drew ?_)))
               (case side2 => exact (Kd.R_reads' HO260.out).2.1)
               (case side3 => repeat (first | exact (Kd.R_reads' HO256.out).2.2 | (with_reducible refine Kd.C_alloc ?_ _) | (with_reducible refine Kd.C_drewN ?_ _) | (with_reducible refine Kd.C_drew ?_)))
               (case side4 => exact (Kd.R_reads' HO256.out).2.1)
               rintro e w' ⟨rfl, ⟨nd, rfl⟩⟩
               refine ⟨_, rfl, ?_⟩
               have q85 : ((ji19) : Int) ≤ ((y254.length : Int) : Int) := of_decide_eq_true (by first | (with_reducible assumption) | assumption)
               obtain ⟨i085, hi085, _, hsz85, _⟩ := info_parts info5
               have hroom85 : y254.length ≤ co84 := (Kd.R_reads' HO256.out).2.1
               have hC85 : Kd.C (Kd.int .u8) _ Ao84 y254.length y254 := (Kd.R_reads' HO256.out).2.2
               have hcut85 := cut_to (P := Try.prog) 30 5 .i64 Try.underlying30 hi085 Ao84 y254.length co84 (ji19) (of_decide_eq_true (by first | (with_reducible assumption) | assumption)) q85 hroom85
               have hr85 := Kd.C_take (m := ((ji19) : Int).toNat) hC85 (by omega)
               have hy85 : y262.length = ((ji19) : Int).toNat := (by rw [Ny262.out, List.length_take]; omega)
               rw [← Ny262.out] at hr85
               rw [← hy85] at hcut85
               have HR265 := Aside0.mk hr85
               have HC265 := k0 (show y262.length ≤ co84 from by omega)
               clear hr85 hC85 hroom85 hi085 hsz85
               have KY85 := Aside0.mk hy85
               clear hy85
               have KL85 := k0 (show ((ji19) : Int).toNat ≤ y254.length from by omega)
               replace q85 := eq_true q85
               refine hK.out _ _ ⟨(blk_cell BK216.out 0).trans rfl, (blk_cell BK216.out 1).trans rfl, (blk_cell BK224.out 0).trans rfl, (blk_cell BK224.out 1).trans rfl, (blk_cell BK231.out 0).trans rfl, (blk_cell BK231.out 1).trans rfl, (blk_cell BK239.out 0).trans rfl, (blk_cell BK239.out 1).trans rfl⟩ (fun hHeld => ?_)
               clear hK K
               refine norm_ (a' := ?_) ?_ ?_
               rotate_left
               ·show Act.put _ (some 65) _ = _
                simp only [Act.put, List.setIfInBounds_toArray, List.set_cons_zero, List.set_cons_succ, i64_w, i32_w]
                rfl
               refine pure_ (i := 10) (N := some 66) (v := ?_) (a' := ?_) #[true, true, true, true, true, true, true, true, true, true, true, false, false, false, false, false, false, false, false, false, false, false, false, false, false, false, false, false, false, false, false, false, false, false, false, false, false, false, false, false, false, false, false, false, false, false, false, false, false, false, false, false, false, false, false, false, false, false, false] rfl rfl (any_of HT_.out (by kernel_rfl)) (fun _ _ _ h => h) (Or.inl ⟨by rfl, ?_⟩) ?_ ?_
               rotate_left
               ·intro w'
                go_simp
                with_reducible rfl
               rotate_left
               ·simp only [Act.put, List.setIfInBounds_toArray, List.set_cons_zero, List.set_cons_succ, i64_w, i32_w]
                rfl
               refine pure_ (i := 11) (N := some 67) (v := ?_) (a' := ?_) #[true, true, true, true, true, true, true, true, true, true, true, true, false, false, false, false, false, false, false, false, false, false, false, false, false, false, false, false, false, false, false, false, false, false, false, false, false, false, false, false, false, false, false, false, false, false, false, false, false, false, false, false, false, false, false, false, false, false, false] rfl rfl (any_of HT_.out (by kernel_rfl)) (fun _ _ _ h => h) (Or.inl ⟨by rfl, ?_⟩) ?_ ?_
               rotate_left
               ·intro w'
                go_simp
                with_reducible rfl
               rotate_left
               ·simp only [Act.put, List.setIfInBounds_toArray, List.set_cons_zero, List.set_cons_succ, i64_w, i32_w]
                rfl
               refine pure_ (i := 12) (N := some 68) (v := ?_) (a' := ?_) #[true, true, true, true, true, true, true, true, true, true, true, true, true, false, false, false, false, false, false, false, false, false, false, false, false, false, false, false, false, false, false, false, false, false, false, false, false, false, false, false, false, false, false, false, false, false, false, false, false, false, false, false, false, false, false, false, false, false, false] rfl rfl (any_of HT_.out (by kernel_rfl)) (fun _ _ _ h => h) (Or.inl ⟨by rfl, ?_⟩) ?_ ?_
               rotate_left
               ·intro w'
                go_simp
                with_reducible rfl
               rotate_left
               ·simp only [Act.put, List.setIfInBounds_toArray, List.set_cons_zero, List.set_cons_succ, i64_w, i32_w]
                rfl
               refine pure_ (i := 14) (N := some 70) (v := ?_) (a' := ?_) #[true, true, true, true, true, true, true, true, true, true, true, true, true, false, true, false, false, false, false, false, false, false, false, false, false, false, false, false, false, false, false, false, false, false, false, false, false, false, false, false, false, false, false, false, false, false, false, false, false, false, false, false, false, false, false, false, false, false, false] rfl rfl (any_of HT_.out (by kernel_rfl)) (fun _ _ _ h => h) (Or.inl ⟨by rfl, ?_⟩) ?_ ?_
               rotate_left
               ·intro w'
                go_simp
                with_reducible rfl
               rotate_left
               ·simp only [Act.put, List.setIfInBounds_toArray, List.set_cons_zero, List.set_cons_succ, i64_w, i32_w]
                rfl
               refine pure_ (i := 15) (N := some 71) (v := ?_) (a' := ?_) #[true, true, true, true, true, true, true, true, true, true, true, true, true, false, true, true, false, false, false, false, false, false, false, false, false, false, false, false, false, false, false, false, false, false, false, false, false, false, false, false, false, false, false, false, false, false, false, false, false, false, false, false, false, false, false, false, false, false, false] rfl rfl (any_of HT_.out (by kernel_rfl)) (fun _ _ _ h => h) (Or.inl ⟨by rfl, ?_⟩) ?_ ?_
               rotate_left
               ·intro w'
                go_simp
                with_reducible rfl
               rotate_left
               ·simp only [Act.put, List.setIfInBounds_toArray, List.set_cons_zero, List.set_cons_succ, i64_w, i32_w]
                rfl
               refine pure_ (i := 16) (N := some 72) (v := ?_) (a' := ?_) #[true, true, true, true, true, true, true, true, true, true, true, true, true, false, true, true, true, false, false, false, false, false, false, false, false, false, false, false, false, false, false, false, false, false, false, false, false, false, false, false, false, false, false, false, false, false, false, false, false, false, false, false, false, false, false, false, false, false, false] rfl rfl (any_of HT_.out (by kernel_rfl)) (fun _ _ _ h => h) (Or.inl ⟨by rfl, ?_⟩) ?_ ?_
               rotate_left
               ·intro w'
                go_simp
                with_reducible rfl
               rotate_left
               ·simp only [Act.put, List.setIfInBounds_toArray, List.set_cons_zero, List.set_cons_succ, i64_w, i32_w]
                rfl
               refine pure_ (i := 17) (N := some 73) (v := ?_) (a' := ?_) #[true, true, true, true, true, true, true, true, true, true, true, true, true, false, true, true, true, true, false, false, false, false, false, false, false, false, false, false, false, false, false, false, false, false, false, false, false, false, false, false, false, false, false, false, false, false, false, false, false, false, false, false, false, false, false, false, false, false, false] rfl rfl (any_of HT_.out (by kernel_rfl)) (fun _ _ _ h => h) (Or.inl ⟨by rfl, ?_⟩) ?_ ?_
               rotate_left
               ·intro w'
                go_simp
                with_reducible rfl
               rotate_left
               ·simp only [Act.put, List.setIfInBounds_toArray, List.set_cons_zero, List.set_cons_succ, i64_w, i32_w]
                rfl
               refine pure_ (i := 18) (N := some 74) (v := ?_) (a' := ?_) #[true, true, true, true, true, true, true, true, true, true, true, true, true, false, true, true, true, true, true, false, false, false, false, false, false, false, false, false, false, false, false, false, false, false, false, false, false, false, false, false, false, false, false, false, false, false, false, false, false, false, false, false, false, false, false, false, false, false, false] rfl rfl (any_of HT_.out (by kernel_rfl)) (fun _ _ _ h => h) (Or.inl ⟨by rfl, ?_⟩) ?_ ?_
               rotate_left
               ·intro w'
                go_simp
                with_reducible rfl
               rotate_left
               ·simp only [Act.put, List.setIfInBounds_toArray, List.set_cons_zero, List.set_cons_succ, i64_w, i32_w]
                rfl
               refine pure_ (i := 19) (N := some 75) (v := ?_) (a' := ?_) #[true, true, true, true, true, true, true, true, true, true, true, true, true, false, true, true, true, true, true, true, false, false, false, false, false, false, false, false, false, false, false, false, false, false, false, false, false, false, false, false, false, false, false, false, false, false, false, false, false, false, false, false, false, false, false, false, false, false, false] rfl rfl (any_of HT_.out (by kernel_rfl)) (fun _ _ _ h => h) (Or.inl ⟨by rfl, ?_⟩) ?_ ?_
               rotate_left
               ·intro w'
                go_simp
                with_reducible rfl
               rotate_left
               ·simp only [Act.put, List.setIfInBounds_toArray, List.set_cons_zero, List.set_cons_succ, i64_w, i32_w]
                rfl
               refine take_ (i := 13) (N := some 69) (v := ?_) (a' := ?_) #[true, true, true, true, true, true, true, true, true, true, true, true, true, true, true, true, true, true, true, true, false, false, false, false, false, false, false, false, false, false, false, false, false, false, false, false, false, false, false, false, false, false, false, false, false, false, false, false, false, false, false, false, false, false, false, false, false, false, false] rfl rfl (take_ofW HT_.out HW_.out (by kernel_rfl)) (fun _ _ _ h => h) (Or.inl ⟨by rfl, ?_⟩) hHeld ?_ ?_
               rotate_left
               ·rintro w' ⟨s0, s1, s2, s3, s4, s5, s6, s7⟩
                go_simp
                with_reducible rfl
               rotate_left
               ·simp only [Act.put, List.setIfInBounds_toArray, List.set_cons_zero, List.set_cons_succ, i64_w, i32_w]
                rfl
               refine one_ (i := 20) (N := some 76) #[true, true, true, true, true, true, true, true, true, true, true, true, true, true, true, true, true, true, true, true, true, false, false, false, false, false, false, false, false, false, false, false, false, false, false, false, false, false, false, false, false, false, false, false, false, false, false, false, false, false, false, false, false, false, false, false, false, false, false] rfl rfl (one_of HT_.out (by kernel_rfl)) (by decide) (fun K hK => ?_)
               refine goes_ Try.func32 (by kernel_rfl) rfl #[.slice Ao46 t218.length co46, .slice Ao84 y262.length co84] (by rfl) rfl rfl (by (try simp only [List.map_toArray, List.map_cons, List.map_nil]); first | done | rfl | (simp only [List.length_drop, List.length_take]; rfl)) ?_
               with_reducible refine (impl_SameBytes.calls _ _ t218 _ _ y262 true _ ?side1 ?side2 ?side3 ?side4 A22.out).mono ?_
               (case side1 => repeat (first | exact (Kd.R_reads' HO220.out).2.2 | (with_reducible refine Kd.C_alloc ?_ _) | (with_reducible refine Kd.C_drewN ?_ _) | (with_reducible refine Kd.C_drew ?_)))
               (case side2 => exact (Kd.R_reads' HO220.out).2.1)
               (case side3 => repeat (first | exact (by repeat (first | (with_reducible exact HR265.out) | (with_reducible refine Kd.C_alloc ?_ _) | (with_reducible refine Kd.C_drewN ?_ _) | (with_reducible refine Kd.C_drew ?_) | exact HR265.out)) | (with_reducible refine Kd.C_alloc ?_ _) | (with_reducible refine Kd.C_drewN ?_ _) | (with_reducible refine Kd.C_drew ?_)))
               (case side4 => exact HC265.out)
               rintro e w' ⟨rfl, ⟨nd, rfl⟩⟩
               refine ⟨_, rfl, ?_⟩
               refine hK.out _ _ ⟨(blk_cell BK216.out 0).trans rfl, (blk_cell BK216.out 1).trans rfl, (blk_cell BK224.out 0).trans rfl, (blk_cell BK224.out 1).trans rfl, (blk_cell BK231.out 0).trans rfl, (blk_cell BK231.out 1).trans rfl, (blk_cell BK239.out 0).trans rfl, (blk_cell BK239.out 1).trans rfl⟩ (fun hHeld => ?_)
               clear hK K
               refine norm_ (a' := ?_) ?_ ?_
               rotate_left
               ·show Act.put _ (some 76) _ = _
                simp only [Act.put, List.setIfInBounds_toArray, List.set_cons_zero, List.set_cons_succ, i64_w, i32_w]
                rfl
               refine pure_ (i := 21) (N := some 77) (v := ?_) (a' := ?_) #[true, true, true, true, true, true, true, true, true, true, true, true, true, true, true, true, true, true, true, true, true, true, false, false, false, false, false, false, false, false, false, false, false, false, false, false, false, false, false, false, false, false, false, false, false, false, false, false, false, false, false, false, false, false, false, false, false, false, false] rfl rfl (any_of HT_.out (by kernel_rfl)) (fun _ _ _ h => h) (Or.inl ⟨by rfl, ?_⟩) ?_ ?_
               rotate_left
               ·intro w'
                go_simp
                with_reducible rfl
               rotate_left
               ·simp only [Act.put, List.setIfInBounds_toArray, List.set_cons_zero, List.set_cons_succ, i64_w, i32_w]
                rfl
               refine pure_ (i := 22) (N := some 78) (v := ?_) (a' := ?_) #[true, true, true, true, true, true, true, true, true, true, true, true, true, true, true, true, true, true, true, true, true, true, true, false, false, false, false, false, false, false, false, false, false, false, false, false, false, false, false, false, false, false, false, false, false, false, false, false, false, false, false, false, false, false, false, false, false, false, false] rfl rfl (any_of HT_.out (by kernel_rfl)) (fun _ _ _ h => h) (Or.inl ⟨by rfl, ?_⟩) ?_ ?_
               rotate_left
               ·intro w'
                go_simp
                with_reducible rfl
               rotate_left
               ·simp only [Act.put, List.setIfInBounds_toArray, List.set_cons_zero, List.set_cons_succ, i64_w, i32_w]
                rfl
               refine pure_ (i := 23) (N := some 79) (v := ?_) (a' := ?_) #[true, true, true, true, true, true, true, true, true, true, true, true, true, true, true, true, true, true, true, true, true, true, true, true, false, false, false, false, false, false, false, false, false, false, false, false, false, false, false, false, false, false, false, false, false, false, false, false, false, false, false, false, false, false, false, false, false, false, false] rfl rfl (any_of HT_.out (by kernel_rfl)) (fun _ _ _ h => h) (Or.inl ⟨by rfl, ?_⟩) ?_ ?_
               rotate_left
               ·intro w'
                go_simp
                with_reducible rfl
               rotate_left
               ·simp only [Act.put, List.setIfInBounds_toArray, List.set_cons_zero, List.set_cons_succ, i64_w, i32_w]
                rfl
               refine take_ (i := 24) (N := some 80) (v := ?_) (a' := ?_) #[true, true, true, true, true, true, true, true, true, true, true, true, true, true, true, true, true, true, true, true, true, true, true, true, true, false, false, false, false, false, false, false, false, false, false, false, false, false, false, false, false, false, false, false, false, false, false, false, false, false, false, false, false, false, false, false, false, false, false] rfl rfl (take_ofW HT_.out HW_.out (by kernel_rfl)) (fun _ _ _ h => h) (Or.inl ⟨by rfl, ?_⟩) hHeld ?_ ?_
               rotate_left
               ·rintro w' ⟨s0, s1, s2, s3, s4, s5, s6, s7⟩
                go_simp
                with_reducible rfl
               rotate_left
               ·simp only [Act.put, List.setIfInBounds_toArray, List.set_cons_zero, List.set_cons_succ, i64_w, i32_w]
                rfl
               refine pure_ (i := 25) (N := some 81) (v := ?_) (a' := ?_) #[true, true, true, true, true, true, true, true, true, true, true, true, true, true, true, true, true, true, true, true, true, true, true, true, true, true, false, false, false, false, false, false, false, false, false, false, false, false, false, false, false, false, false, false, false, false, false, false, false, false, false, false, false, false, false, false, false, false, false] rfl rfl (any_of HT_.out (by kernel_rfl)) (fun _ _ _ h => h) (Or.inl ⟨by rfl, ?_⟩) ?_ ?_
               rotate_left
               ·intro w'
                go_simp
                with_reducible rfl
               rotate_left
               ·simp only [Act.put, List.setIfInBounds_toArray, List.set_cons_zero, List.set_cons_succ, i64_w, i32_w]
                rfl
               refine pure_ (i := 26) (N := some 82) (v := ?_) (a' := ?_) #[true, true, true, true, true, true, true, true, true, true, true, true, true, true, true, true, true, true, true, true, true, true, true, true, true, true, true, false, false, false, false, false, false, false, false, false, false, false, false, false, false, false, false, false, false, false, false, false, false, false, false, false, false, false, false, false, false, false, false] rfl rfl (any_of HT_.out (by kernel_rfl)) (fun _ _ _ h => h) (Or.inl ⟨by rfl, ?_⟩) ?_ ?_
               rotate_left
               ·intro w'
                go_simp
                with_reducible rfl
               rotate_left
               ·simp only [Act.put, List.setIfInBounds_toArray, List.set_cons_zero, List.set_cons_succ, i64_w, i32_w]
                rfl
               refine pure_ (i := 27) (N := some 83) (v := ?_) (a' := ?_) #[true, true, true, true, true, true, true, true, true, true, true, true, true, true, true, true, true, true, true, true, true, true, true, true, true, true, true, true, false, false, false, false, false, false, false, false, false, false, false, false, false, false, false, false, false, false, false, false, false, false, false, false, false, false, false, false, false, false, false] rfl rfl (any_of HT_.out (by kernel_rfl)) (fun _ _ _ h => h) (Or.inl ⟨by rfl, ?_⟩) ?_ ?_
               rotate_left
               ·intro w'
                go_simp
                with_reducible rfl
               rotate_left
               ·simp only [Act.put, List.setIfInBounds_toArray, List.set_cons_zero, List.set_cons_succ, i64_w, i32_w]
                rfl
               refine pure_ (i := 28) (N := some 84) (v := ?_) (a' := ?_) #[true, true, true, true, true, true, true, true, true, true, true, true, true, true, true, true, true, true, true, true, true, true, true, true, true, true, true, true, true, false, false, false, false, false, false, false, false, false, false, false, false, false, false, false, false, false, false, false, false, false, false, false, false, false, false, false, false, false, false] rfl rfl (any_of HT_.out (by kernel_rfl)) (fun _ _ _ h => h) (Or.inl ⟨by rfl, ?_⟩) ?_ ?_
               rotate_left
               ·intro w'
                go_simp
                with_reducible rfl
               rotate_left
               ·simp only [Act.put, List.setIfInBounds_toArray, List.set_cons_zero, List.set_cons_succ, i64_w, i32_w]
                rfl
               refine pure_ (i := 29) (N := some 85) (v := ?_) (a' := ?_) #[true, true, true, true, true, true, true, true, true, true, true, true, true, true, true, true, true, true, true, true, true, true, true, true, true, true, true, true, true, true, false, false, false, false, false, false, false, false, false, false, false, false, false, false, false, false, false, false, false, false, false, false, false, false, false, false, false, false, false] rfl rfl (any_of HT_.out (by kernel_rfl)) (fun _ _ _ h => h) (Or.inl ⟨by rfl, ?_⟩) ?_ ?_
               rotate_left
               ·intro w'
                go_simp
                with_reducible rfl
               rotate_left
               ·simp only [Act.put, List.setIfInBounds_toArray, List.set_cons_zero, List.set_cons_succ, i64_w, i32_w]
                rfl
               refine pure_ (i := 31) (N := some 87) (v := ?_) (a' := ?_) #[true, true, true, true, true, true, true, true, true, true, true, true, true, true, true, true, true, true, true, true, true, true, true, true, true, true, true, true, true, true, false, true, false, false, false, false, false, false, false, false, false, false, false, false, false, false, false, false, false, false, false, false, false, false, false, false, false, false, false] rfl rfl (any_of HT_.out (by kernel_rfl)) (fun _ _ _ h => h) (Or.inl ⟨by rfl, ?_⟩) ?_ ?_
               rotate_left
               ·intro w'
                go_simp
                with_reducible rfl
               rotate_left
               ·simp only [Act.put, List.setIfInBounds_toArray, List.set_cons_zero, List.set_cons_succ, i64_w, i32_w]
                rfl
               refine take_ (i := 30) (N := some 86) (v := ?_) (a' := ?_) #[true, true, true, true, true, true, true, true, true, true, true, true, true, true, true, true, true, true, true, true, true, true, true, true, true, true, true, true, true, true, true, true, false, false, false, false, false, false, false, false, false, false, false, false, false, false, false, false, false, false, false, false, false, false, false, false, false, false, false] rfl rfl (take_ofW HT_.out HW_.out (by kernel_rfl)) (fun _ _ _ h => h) (Or.inl ⟨by rfl, ?_⟩) hHeld ?_ ?_
               rotate_left
               ·rintro w' ⟨s0, s1, s2, s3, s4, s5, s6, s7⟩
                go_simp
                with_reducible rfl
               rotate_left
               ·simp only [Act.put, List.setIfInBounds_toArray, List.set_cons_zero, List.set_cons_succ, i64_w, i32_w]
                rfl
               refine one_ (i := 32) (N := some 88) #[true, true, true, true, true, true, true, true, true, true, true, true, true, true, true, true, true, true, true, true, true, true, true, true, true, true, true, true, true, true, true, true, true, false, false, false, false, false, false, false, false, false, false, false, false, false, false, false, false, false, false, false, false, false, false, false, false, false, false] rfl rfl (one_of HT_.out (by kernel_rfl)) (by decide) (fun K hK => ?_)
               refine goes_ Try.func32 (by kernel_rfl) rfl #[.slice Ao53 t225.length co53, .slice Ao84 y254.length co84] (by rfl) rfl rfl (by (try simp only [List.map_toArray, List.map_cons, List.map_nil]); first | done | rfl | (simp only [List.length_drop, List.length_take]; rfl)) ?_
               with_reducible refine (impl_SameBytes.calls _ _ t225 _ _ y254 true _ ?side1 ?side2 ?side3 ?side4 A25.out).mono ?_
               (case side1 => repeat (first | exact (Kd.R_reads' HO227.out).2.2 | (with_reducible refine Kd.C_alloc ?_ _) | (with_reducible refine Kd.C_drewN ?_ _) | (with_reducible refine Kd.C_drew ?_)))
               (case side2 => exact (Kd.R_reads' HO227.out).2.1)
               (case side3 => repeat (first | exact (Kd.R_reads' HO256.out).2.2 | (with_reducible refine Kd.C_alloc ?_ _) | (with_reducible refine Kd.C_drewN ?_ _) | (with_reducible refine Kd.C_drew ?_)))
               (case side4 => exact (Kd.R_reads' HO256.out).2.1)
               rintro e w' ⟨rfl, ⟨nd, rfl⟩⟩
               refine ⟨_, rfl, ?_⟩
               refine hK.out _ _ ⟨(blk_cell BK216.out 0).trans rfl, (blk_cell BK216.out 1).trans rfl, (blk_cell BK224.out 0).trans rfl, (blk_cell BK224.out 1).trans rfl, (blk_cell BK231.out 0).trans rfl, (blk_cell BK231.out 1).trans rfl, (blk_cell BK239.out 0).trans rfl, (blk_cell BK239.out 1).trans rfl⟩ (fun hHeld => ?_)
               clear hK K
               refine norm_ (a' := ?_) ?_ ?_
               rotate_left
               ·show Act.put _ (some 88) _ = _
                simp only [Act.put, List.setIfInBounds_toArray, List.set_cons_zero, List.set_cons_succ, i64_w, i32_w]
                rfl
               refine pure_ (i := 33) (N := some 89) (v := ?_) (a' := ?_) #[true, true, true, true, true, true, true, true, true, true, true, true, true, true, true, true, true, true, true, true, true, true, true, true, true, true, true, true, true, true, true, true, true, true, false, false, false, false, false, false, false, false, false, false, false, false, false, false, false, false, false, false, false, false, false, false, false, false, false] rfl rfl (any_of HT_.out (by kernel_rfl)) (fun _ _ _ h => h) (Or.inl ⟨by rfl, ?_⟩) ?_ ?_
               rotate_left
               ·intro w'
                go_simp
                with_reducible rfl
               rotate_left
               ·simp only [Act.put, List.setIfInBounds_toArray, List.set_cons_zero, List.set_cons_succ, i64_w, i32_w]
                rfl
               refine pure_ (i := 34) (N := some 90) (v := ?_) (a' := ?_) #[true, true, true, true, true, true, true, true, true, true, true, true, true, true, true, true, true, true, true, true, true, true, true, true, true, true, true, true, true, true, true, true, true, true, true, false, false, false, false, false, false, false, false, false, false, false, false, false, false, false, false, false, false, false, false, false, false, false, false] rfl rfl (any_of HT_.out (by kernel_rfl)) (fun _ _ _ h => h) (Or.inl ⟨by rfl, ?_⟩) ?_ ?_
               rotate_left
               ·intro w'
                go_simp
                with_reducible rfl
               rotate_left
               ·simp only [Act.put, List.setIfInBounds_toArray, List.set_cons_zero, List.set_cons_succ, i64_w, i32_w]
                rfl
               refine pure_ (i := 35) (N := some 91) (v := ?_) (a' := ?_) #[true, true, true, true, true, true, true, true, true, true, true, true, true, true, true, true, true, true, true, true, true, true, true, true, true, true, true, true, true, true, true, true, true, true, true, true, false, false, false, false, false, false, false, false, false, false, false, false, false, false, false, false, false, false, false, false, false, false, false] rfl rfl (any_of HT_.out (by kernel_rfl)) (fun _ _ _ h => h) (Or.inl ⟨by rfl, ?_⟩) ?_ ?_
               rotate_left
               ·intro w'
                go_simp
                with_reducible rfl
               rotate_left
               ·simp only [Act.put, List.setIfInBounds_toArray, List.set_cons_zero, List.set_cons_succ, i64_w, i32_w]
                rfl
               refine pure_ (i := 36) (N := some 92) (v := ?_) (a' := ?_) #[true, true, true, true, true, true, true, true, true, true, true, true, true, true, true, true, true, true, true, true, true, true, true, true, true, true, true, true, true, true, true, true, true, true, true, true, true, false, false, false, false, false, false, false, false, false, false, false, false, false, false, false, false, false, false, false, false, false, false] rfl rfl (any_of HT_.out (by kernel_rfl)) (fun _ _ _ h => h) (Or.inl ⟨by rfl, ?_⟩) ?_ ?_
               rotate_left
               ·intro w'
                go_simp
                with_reducible rfl
               rotate_left
               ·simp only [Act.put, List.setIfInBounds_toArray, List.set_cons_zero, List.set_cons_succ, i64_w, i32_w]
                rfl
               refine pure_ (i := 37) (N := some 93) (v := ?_) (a' := ?_) #[true, true, true, true, true, true, true, true, true, true, true, true, true, true, true, true, true, true, true, true, true, true, true, true, true, true, true, true, true, true, true, true, true, true, true, true, true, true, false, false, false, false, false, false, false, false, false, false, false, false, false, false, false, false, false, false, false, false, false] rfl rfl (any_of HT_.out (by kernel_rfl)) (fun _ _ _ h => h) (Or.inl ⟨by rfl, ?_⟩) ?_ ?_
               rotate_left
               ·intro w'
                go_simp
                with_reducible rfl
               rotate_left
               ·simp only [Act.put, List.setIfInBounds_toArray, List.set_cons_zero, List.set_cons_succ, i64_w, i32_w]
                rfl
               refine pure_ (i := 38) (N := some 94) (v := ?_) (a' := ?_) #[true, true, true, true, true, true, true, true, true, true, true, true, true, true, true, true, true, true, true, true, true, true, true, true, true, true, true, true, true, true, true, true, true, true, true, true, true, true, true, false, false, false, false, false, false, false, false, false, false, false, false, false, false, false, false, false, false, false, false] rfl rfl (any_of HT_.out (by kernel_rfl)) (fun _ _ _ h => h) (Or.inl ⟨by rfl, ?_⟩) ?_ ?_
               rotate_left
               ·intro w'
                go_simp
                with_reducible rfl
               rotate_left
               ·simp only [Act.put, List.setIfInBounds_toArray, List.set_cons_zero, List.set_cons_succ, i64_w, i32_w]
                rfl
               refine pure_ (i := 40) (N := some 96) (v := ?_) (a' := ?_) #[true, true, true, true, true, true, true, true, true, true, true, true, true, true, true, true, true, true, true, true, true, true, true, true, true, true, true, true, true, true, true, true, true, true, true, true, true, true, true, false, true, false, false, false, false, false, false, false, false, false, false, false, false, false, false, false, false, false, false] rfl rfl (any_of HT_.out (by kernel_rfl)) (fun _ _ _ h => h) (Or.inl ⟨by rfl, ?_⟩) ?_ ?_
               rotate_left
               ·intro w'
                go_simp
                with_reducible rfl
               rotate_left
               ·simp only [Act.put, List.setIfInBounds_toArray, List.set_cons_zero, List.set_cons_succ, i64_w, i32_w]
                rfl
               refine take_ (i := 39) (N := some 95) (v := ?_) (a' := ?_) #[true, true, true, true, true, true, true, true, true, true, true, true, true, true, true, true, true, true, true, true, true, true, true, true, true, true, true, true, true, true, true, true, true, true, true, true, true, true, true, true, true, false, false, false, false, false, false, false, false, false, false, false, false, false, false, false, false, false, false] rfl rfl (take_ofW HT_.out HW_.out (by kernel_rfl)) (fun _ _ _ h => h) (Or.inl ⟨by rfl, ?_⟩) hHeld ?_ ?_
               rotate_left
               ·rintro w' ⟨s0, s1, s2, s3, s4, s5, s6, s7⟩
                go_simp
                with_reducible rfl
               rotate_left
               ·simp only [Act.put, List.setIfInBounds_toArray, List.set_cons_zero, List.set_cons_succ, i64_w, i32_w]
                rfl
               refine one_ (i := 41) (N := some 97) #[true, true, true, true, true, true, true, true, true, true, true, true, true, true, true, true, true, true, true, true, true, true, true, true, true, true, true, true, true, true, true, true, true, true, true, true, true, true, true, true, true, true, false, false, false, false, false, false, false, false, false, false, false, false, false, false, false, false, false] rfl rfl (one_of HT_.out (by kernel_rfl)) (by decide) (fun K hK => ?_)
               refine goes_ Try.func32 (by kernel_rfl) rfl #[.slice Ao60 t232.length co60, .slice Ao36 t206.length co36] (by rfl) rfl rfl (by (try simp only [List.map_toArray, List.map_cons, List.map_nil]); first | done | rfl | (simp only [List.length_drop, List.length_take]; rfl)) ?_
               with_reducible refine (impl_SameBytes.calls _ _ t232 _ _ t206 true _ ?side1 ?side2 ?side3 ?side4 A28.out).mono ?_
               (case side1 => repeat (first | exact (Kd.R_reads' HO234.out).2.2 | (with_reducible refine Kd.C_alloc ?_ _) | (with_reducible refine Kd.C_drewN ?_ _) | (with_reducible refine Kd.C_drew ?_)))
               (case side2 => exact (Kd.R_reads' HO234.out).2.1)
               (case side3 => repeat (first | exact (Kd.R_reads' HO208.out).2.2 | (with_reducible refine Kd.C_alloc ?_ _) | (with_reducible refine Kd.C_drewN ?_ _) | (with_reducible refine Kd.C_drew ?_)))
               (case side4 => exact (Kd.R_reads' HO208.out).2.1)
               rintro e w' ⟨rfl, ⟨nd, rfl⟩⟩
               refine ⟨_, rfl, ?_⟩
               refine hK.out _ _ ⟨(blk_cell BK216.out 0).trans rfl, (blk_cell BK216.out 1).trans rfl, (blk_cell BK224.out 0).trans rfl, (blk_cell BK224.out 1).trans rfl, (blk_cell BK231.out 0).trans rfl, (blk_cell BK231.out 1).trans rfl, (blk_cell BK239.out 0).trans rfl, (blk_cell BK239.out 1).trans rfl⟩ (fun hHeld => ?_)
               clear hK K
               refine norm_ (a' := ?_) ?_ ?_
               rotate_left
               ·show Act.put _ (some 97) _ = _
                simp only [Act.put, List.setIfInBounds_toArray, List.set_cons_zero, List.set_cons_succ, i64_w, i32_w]
                rfl
               refine pure_ (i := 42) (N := some 98) (v := ?_) (a' := ?_) #[true, true, true, true, true, true, true, true, true, true, true, true, true, true, true, true, true, true, true, true, true, true, true, true, true, true, true, true, true, true, true, true, true, true, true, true, true, true, true, true, true, true, true, false, false, false, false, false, false, false, false, false, false, false, false, false, false, false, false] rfl rfl (any_of HT_.out (by kernel_rfl)) (fun _ _ _ h => h) (Or.inl ⟨by rfl, ?_⟩) ?_ ?_
               rotate_left
               ·intro w'
                go_simp
                with_reducible rfl
               rotate_left
               ·simp only [Act.put, List.setIfInBounds_toArray, List.set_cons_zero, List.set_cons_succ, i64_w, i32_w]
                rfl
               refine pure_ (i := 43) (N := some 99) (v := ?_) (a' := ?_) #[true, true, true, true, true, true, true, true, true, true, true, true, true, true, true, true, true, true, true, true, true, true, true, true, true, true, true, true, true, true, true, true, true, true, true, true, true, true, true, true, true, true, true, true, false, false, false, false, false, false, false, false, false, false, false, false, false, false, false] rfl rfl (any_of HT_.out (by kernel_rfl)) (fun _ _ _ h => h) (Or.inl ⟨by rfl, ?_⟩) ?_ ?_
               rotate_left
               ·intro w'
                go_simp
                with_reducible rfl
               rotate_left
               ·simp only [Act.put, List.setIfInBounds_toArray, List.set_cons_zero, List.set_cons_succ, i64_w, i32_w]
                rfl
               refine pure_ (i := 44) (N := some 100) (v := ?_) (a' := ?_) #[true, true, true, true, true, true, true, true, true, true, true, true, true, true, true, true, true, true, true, true, true, true, true, true, true, true, true, true, true, true, true, true, true, true, true, true, true, true, true, true, true, true, true, true, true, false, false, false, false, false, false, false, false, false, false, false, false, false, false] rfl rfl (any_of HT_.out (by kernel_rfl)) (fun _ _ _ h => h) (Or.inl ⟨by rfl, ?_⟩) ?_ ?_
               rotate_left
               ·intro w'
                go_simp
                with_reducible rfl
               rotate_left
               ·simp only [Act.put, List.setIfInBounds_toArray, List.set_cons_zero, List.set_cons_succ, i64_w, i32_w]
                rfl
               refine pure_ (i := 45) (N := some 101) (v := ?_) (a' := ?_) #[true, true, true, true, true, true, true, true, true, true, true, true, true, true, true, true, true, true, true, true, true, true, true, true, true, true, true, true, true, true, true, true, true, true, true, true, true, true, true, true, true, true, true, true, true, true, false, false, false, false, false, false, false, false, false, false, false, false, false] rfl rfl (any_of HT_.out (by kernel_rfl)) (fun _ _ _ h => h) (Or.inl ⟨by rfl, ?_⟩) ?_ ?_
               rotate_left
               ·intro w'
                go_simp
                with_reducible rfl
               rotate_left
               ·simp only [Act.put, List.setIfInBounds_toArray, List.set_cons_zero, List.set_cons_succ, i64_w, i32_w]
                rfl
               refine pure_ (i := 46) (N := some 102) (v := ?_) (a' := ?_) #[true, true, true, true, true, true, true, true, true, true, true, true, true, true, true, true, true, true, true, true, true, true, true, true, true, true, true, true, true, true, true, true, true, true, true, true, true, true, true, true, true, true, true, true, true, true, true, false, false, false, false, false, false, false, false, false, false, false, false] rfl rfl (any_of HT_.out (by kernel_rfl)) (fun _ _ _ h => h) (Or.inl ⟨by rfl, ?_⟩) ?_ ?_
               rotate_left
               ·intro w'
                go_simp
                with_reducible rfl
               rotate_left
               ·simp only [Act.put, List.setIfInBounds_toArray, List.set_cons_zero, List.set_cons_succ, i64_w, i32_w]
                rfl
               refine pure_ (i := 47) (N := some 103) (v := ?_) (a' := ?_) #[true, true, true, true, true, true, true, true, true, true, true, true, true, true, true, true, true, true, true, true, true, true, true, true, true, true, true, true, true, true, true, true, true, true, true, true, true, true, true, true, true, true, true, true, true, true, true, true, false, false, false, false, false, false, false, false, false, false, false] rfl rfl (any_of HT_.out (by kernel_rfl)) (fun _ _ _ h => h) (Or.inl ⟨by rfl, ?_⟩) ?_ ?_
               rotate_left
               ·intro w'
                go_simp
                with_reducible rfl
               rotate_left
               ·simp only [Act.put, List.setIfInBounds_toArray, List.set_cons_zero, List.set_cons_succ, i64_w, i32_w]
                rfl
               refine pure_ (i := 48) (N := some 104) (v := ?_) (a' := ?_) #[true, true, true, true, true, true, true, true, true, true, true, true, true, true, true, true, true, true, true, true, true, true, true, true, true, true, true, true, true, true, true, true, true, true, true, true, true, true, true, true, true, true, true, true, true, true, true, true, true, false, false, false, false, false, false, false, false, false, false] rfl rfl (any_of HT_.out (by kernel_rfl)) (fun _ _ _ h => h) (Or.inl ⟨by rfl, ?_⟩) ?_ ?_
               rotate_left
               ·intro w'
                go_simp
                with_reducible rfl
               rotate_left
               ·simp only [Act.put, List.setIfInBounds_toArray, List.set_cons_zero, List.set_cons_succ, i64_w, i32_w]
                rfl
               refine pure_ (i := 49) (N := some 105) (v := ?_) (a' := ?_) #[true, true, true, true, true, true, true, true, true, true, true, true, true, true, true, true, true, true, true, true, true, true, true, true, true, true, true, true, true, true, true, true, true, true, true, true, true, true, true, true, true, true, true, true, true, true, true, true, true, true, false, false, false, false, false, false, false, false, false] rfl rfl (any_of HT_.out (by kernel_rfl)) (fun _ _ _ h => h) (Or.inl ⟨by rfl, ?_⟩) ?_ ?_
               rotate_left
               ·intro w'
                go_simp
                with_reducible rfl
               rotate_left
               ·simp only [Act.put, List.setIfInBounds_toArray, List.set_cons_zero, List.set_cons_succ, i64_w, i32_w]
                rfl
               refine pure_ (i := 50) (N := some 106) (v := ?_) (a' := ?_) #[true, true, true, true, true, true, true, true, true, true, true, true, true, true, true, true, true, true, true, true, true, true, true, true, true, true, true, true, true, true, true, true, true, true, true, true, true, true, true, true, true, true, true, true, true, true, true, true, true, true, true, false, false, false, false, false, false, false, false] rfl rfl (any_of HT_.out (by kernel_rfl)) (fun _ _ _ h => h) (Or.inl ⟨by rfl, ?_⟩) ?_ ?_
               rotate_left
               ·intro w'
                go_simp
                with_reducible rfl
               rotate_left
               ·simp only [Act.put, List.setIfInBounds_toArray, List.set_cons_zero, List.set_cons_succ, i64_w, i32_w]
                rfl
               refine pure_ (i := 53) (N := some 109) (v := ?_) (a' := ?_) #[true, true, true, true, true, true, true, true, true, true, true, true, true, true, true, true, true, true, true, true, true, true, true, true, true, true, true, true, true, true, true, true, true, true, true, true, true, true, true, true, true, true, true, true, true, true, true, true, true, true, true, false, false, true, false, false, false, false, false] rfl rfl (any_of HT_.out (by kernel_rfl)) (fun _ _ _ h => h) (Or.inl ⟨by rfl, ?_⟩) ?_ ?_
               rotate_left
               ·intro w'
                go_simp
                with_reducible rfl
               rotate_left
               ·simp only [Act.put, List.setIfInBounds_toArray, List.set_cons_zero, List.set_cons_succ, i64_w, i32_w]
                rfl
               refine pure_ (i := 54) (N := some 110) (v := ?_) (a' := ?_) #[true, true, true, true, true, true, true, true, true, true, true, true, true, true, true, true, true, true, true, true, true, true, true, true, true, true, true, true, true, true, true, true, true, true, true, true, true, true, true, true, true, true, true, true, true, true, true, true, true, true, true, false, false, true, true, false, false, false, false] rfl rfl (any_of HT_.out (by kernel_rfl)) (fun _ _ _ h => h) (Or.inl ⟨by rfl, ?_⟩) ?_ ?_
               rotate_left
               ·intro w'
                go_simp
                with_reducible rfl
               rotate_left
               ·simp only [Act.put, List.setIfInBounds_toArray, List.set_cons_zero, List.set_cons_succ, i64_w, i32_w]
                rfl
               refine take_ (i := 51) (N := some 107) (v := ?_) (a' := ?_) #[true, true, true, true, true, true, true, true, true, true, true, true, true, true, true, true, true, true, true, true, true, true, true, true, true, true, true, true, true, true, true, true, true, true, true, true, true, true, true, true, true, true, true, true, true, true, true, true, true, true, true, true, false, true, true, false, false, false, false] rfl rfl (take_ofW HT_.out HW_.out (by kernel_rfl)) (fun _ _ _ h => h) (Or.inl ⟨by rfl, ?_⟩) hHeld ?_ ?_
               rotate_left
               ·rintro w' ⟨s0, s1, s2, s3, s4, s5, s6, s7⟩
                go_simp
                with_reducible rfl
               rotate_left
               ·simp only [Act.put, List.setIfInBounds_toArray, List.set_cons_zero, List.set_cons_succ, i64_w, i32_w]
                rfl
               refine take_ (i := 52) (N := some 108) (v := ?_) (a' := ?_) #[true, true, true, true, true, true, true, true, true, true, true, true, true, true, true, true, true, true, true, true, true, true, true, true, true, true, true, true, true, true, true, true, true, true, true, true, true, true, true, true, true, true, true, true, true, true, true, true, true, true, true, true, true, true, true, false, false, false, false] rfl rfl (take_ofW HT_.out HW_.out (by kernel_rfl)) (fun _ _ _ h => h) (Or.inl ⟨by rfl, ?_⟩) hHeld ?_ ?_
               rotate_left
               ·rintro w' ⟨s0, s1, s2, s3, s4, s5, s6, s7⟩
                go_simp
                with_reducible rfl
               rotate_left
               ·simp only [Act.put, List.setIfInBounds_toArray, List.set_cons_zero, List.set_cons_succ, i64_w, i32_w]
                rfl
               refine one_ (i := 55) (N := some 111) #[true, true, true, true, true, true, true, true, true, true, true, true, true, true, true, true, true, true, true, true, true, true, true, true, true, true, true, true, true, true, true, true, true, true, true, true, true, true, true, true, true, true, true, true, true, true, true, true, true, true, true, true, true, true, true, true, false, false, false] rfl rfl (one_of HT_.out (by kernel_rfl)) (by decide) (fun K hK => ?_)
               refine goes_ Try.func29 (by kernel_rfl) rfl #[.agg #[.slice Ao39 t209.length co39, .slice Ao41 t212.length co41], .int .i64 (t206.length : Int)] (by rfl) rfl rfl (by (try simp only [List.map_toArray, List.map_cons, List.map_nil]); first | done | rfl | (simp only [List.length_drop, List.length_take]; rfl)) ?_
               with_reducible refine (impl_DiskFall.calls _ _ t209 _ _ t212 (t206.length : Int) t269 t272 _ ?side1 ?side2 ?side3 ?side4 A31.out).mono ?_
               (case side1 => repeat (first | exact (Kd.R_reads' HO211.out).2.2 | (with_reducible refine Kd.C_alloc ?_ _) | (with_reducible refine Kd.C_drewN ?_ _) | (with_reducible refine Kd.C_drew ?_)))
               (case side2 => exact (Kd.R_reads' HO211.out).2.1)
               (case side3 => repeat (first | exact (Kd.R_reads' HO214.out).2.2 | (with_reducible refine Kd.C_alloc ?_ _) | (with_reducible refine Kd.C_drewN ?_ _) | (with_reducible refine Kd.C_drew ?_)))
               (case side4 => exact (Kd.R_reads' HO214.out).2.1)
               rintro e w86 ⟨v270, v273, rfl, ho0, ho1, hb⟩
               refine ⟨_, rfl, ?_⟩
               have n0_ := k0 (Kd.R_mono (Kd.R_told (Kd.R_told (Kd.R_old (kR HO205.out) hb) (Kd.R_base ho0)) (Kd.R_base ho1)) (fun _ h_ => h_.1))
               have n1_ := k0 (Kd.R_mono (Kd.R_told (Kd.R_told (Kd.R_old (kR HO208.out) hb) (Kd.R_base ho0)) (Kd.R_base ho1)) (fun _ h_ => h_.1))
               have n2_ := k0 (Kd.R_mono (Kd.R_told (Kd.R_told (Kd.R_old (kR HO211.out) hb) (Kd.R_base ho0)) (Kd.R_base ho1)) (fun _ h_ => h_.1))
               have n3_ := k0 (Kd.R_mono (Kd.R_told (Kd.R_told (Kd.R_old (kR HO214.out) hb) (Kd.R_base ho0)) (Kd.R_base ho1)) (fun _ h_ => h_.1))
               have n4_ := k0 (Kd.R_mono (Kd.R_told (Kd.R_told (Kd.R_old (kR HO220.out) hb) (Kd.R_base ho0)) (Kd.R_base ho1)) (fun _ h_ => h_.1))
               have n5_ := k0 (Kd.R_mono (Kd.R_told (Kd.R_told (Kd.R_old (kR HO223.out) hb) (Kd.R_base ho0)) (Kd.R_base ho1)) (fun _ h_ => h_.1))
               have n6_ := k0 (Kd.R_mono (Kd.R_told (Kd.R_told (Kd.R_old (kR HO227.out) hb) (Kd.R_base ho0)) (Kd.R_base ho1)) (fun _ h_ => h_.1))
               have n7_ := k0 (Kd.R_mono (Kd.R_told (Kd.R_told (Kd.R_old (kR HO230.out) hb) (Kd.R_base ho0)) (Kd.R_base ho1)) (fun _ h_ => h_.1))
               have n8_ := k0 (Kd.R_mono (Kd.R_told (Kd.R_told (Kd.R_old (kR HO234.out) hb) (Kd.R_base ho0)) (Kd.R_base ho1)) (fun _ h_ => h_.1))
               have n9_ := k0 (Kd.R_mono (Kd.R_told (Kd.R_told (Kd.R_old (kR HO237.out) hb) (Kd.R_base ho0)) (Kd.R_base ho1)) (fun _ h_ => h_.1))
               have n10_ := k0 (Kd.R_mono (Kd.R_told (Kd.R_told (Kd.R_old (kR HO242.out) hb) (Kd.R_base ho0)) (Kd.R_base ho1)) (fun _ h_ => h_.1))
               have n11_ := k0 (Kd.R_mono (Kd.R_told (Kd.R_told (Kd.R_old (kR HO245.out) hb) (Kd.R_base ho0)) (Kd.R_base ho1)) (fun _ h_ => h_.1))
               have n12_ := k0 (Kd.R_mono (Kd.R_told (Kd.R_told (Kd.R_old (kR HO256.out) hb) (Kd.R_base ho0)) (Kd.R_base ho1)) (fun _ h_ => h_.1))
               have n13_ := k0 (Kd.R_mono (Kd.R_told (Kd.R_told (Kd.R_old (kR HO260.out) hb) (Kd.R_base ho0)) (Kd.R_base ho1)) (fun _ h_ => h_.1))
               have n14_ := k0 (Kd.R_lower (Kd.R_new' (Kd.R_new' (Kd.R_new' (Kd.R_new' (Kd.R_new' (Kd.R_new' (Kd.R_new' (Kd.R_new' (Kd.R_new' (Kd.R_new' (Kd.R_new' (Kd.R_new' (Kd.R_new' (Kd.R_new' ho0 (Kd.R_lt (kR HO205.out))) (Kd.R_lt (kR HO208.out))) (Kd.R_lt (kR HO211.out))) (Kd.R_lt (kR HO214.out))) (Kd.R_lt (kR HO220.out))) (Kd.R_lt (kR HO223.out))) (Kd.R_lt (kR HO227.out))) (Kd.R_lt (kR HO230.out))) (Kd.R_lt (kR HO234.out))) (Kd.R_lt (kR HO237.out))) (Kd.R_lt (kR HO242.out))) (Kd.R_lt (kR HO245.out))) (Kd.R_lt (kR HO256.out))) (Kd.R_lt (kR HO260.out))) (below_size (kW HB.out)))
               have n15_ := k0 (Kd.R_lower (Kd.R_new' (Kd.R_new' (Kd.R_new' (Kd.R_new' (Kd.R_new' (Kd.R_new' (Kd.R_new' (Kd.R_new' (Kd.R_new' (Kd.R_new' (Kd.R_new' (Kd.R_new' (Kd.R_new' (Kd.R_new' ho1 (Kd.R_lt (kR HO205.out))) (Kd.R_lt (kR HO208.out))) (Kd.R_lt (kR HO211.out))) (Kd.R_lt (kR HO214.out))) (Kd.R_lt (kR HO220.out))) (Kd.R_lt (kR HO223.out))) (Kd.R_lt (kR HO227.out))) (Kd.R_lt (kR HO230.out))) (Kd.R_lt (kR HO234.out))) (Kd.R_lt (kR HO237.out))) (Kd.R_lt (kR HO242.out))) (Kd.R_lt (kR HO245.out))) (Kd.R_lt (kR HO256.out))) (Kd.R_lt (kR HO260.out))) (below_size (kW HB.out)))
               have n16_ := k0 (kb BK216.out hb)
               have n17_ := k0 (kb BK224.out hb)
               have n18_ := k0 (kb BK231.out hb)
               have n19_ := k0 (kb BK239.out hb)
               have n20_ := k0 (kb BK247.out hb)
               have n21_ := k0 (Kd.C_below (by repeat (first | (with_reducible exact HR265.out) | (with_reducible refine Kd.C_alloc ?_ _) | (with_reducible refine Kd.C_drewN ?_ _) | (with_reducible refine Kd.C_drew ?_) | exact HR265.out)) hb)
               have n22_ := k0 (below_step (kW HB.out) hb)
               clear HO205
               clear HO208
               clear HO211
               clear HO214
               clear HO220
               clear HO223
               clear HO227
               clear HO230
               clear HO234
               clear HO237
               clear HO242
               clear HO245
               clear HO256
               clear HO260
               clear BK216
               clear BK224
               clear BK231
               clear BK239
               clear BK247
               clear HR265
               clear HB
               have HO205 := n0_
               have HO208 := n1_
               have HO211 := n2_
               have HO214 := n3_
               have HO220 := n4_
               have HO223 := n5_
               have HO227 := n6_
               have HO230 := n7_
               have HO234 := n8_
               have HO237 := n9_
               have HO242 := n10_
               have HO245 := n11_
               have HO256 := n12_
               have HO260 := n13_
               have HO271 := n14_
               have HO274 := n15_
               have BK216 := n16_
               have BK224 := n17_
               have BK231 := n18_
               have BK239 := n19_
               have BK247 := n20_
               have HR265 := n21_
               have HB := n22_
               clear n0_ n1_ n2_ n3_ n4_ n5_ n6_ n7_ n8_ n9_ n10_ n11_ n12_ n13_ n14_ n15_ n16_ n17_ n18_ n19_ n20_ n21_ n22_
               (try clear hb)
               (try clear hb2)
               (try clear hk)
               (try clear hi)
               (try clear ho0)
               (try clear ho1)
               obtain ⟨Ao87, co87, eo87⟩ := Kd.R_slice HO271.out
               (first | subst eo87 | (injection eo87 with f1_ f2_ f3_; have f4_ := f1_.symm; have f5_ := f3_.symm; clear f1_ f2_ f3_; subst f4_; subst f5_))
               obtain ⟨Ao88, co88, eo88⟩ := Kd.R_slice HO274.out
               (first | subst eo88 | (injection eo88 with f1_ f2_ f3_; have f4_ := f1_.symm; have f5_ := f3_.symm; clear f1_ f2_ f3_; subst f4_; subst f5_))
               refine hK.out _ _ ⟨(blk_cell BK216.out 0).trans rfl, (blk_cell BK216.out 1).trans rfl, (blk_cell BK224.out 0).trans rfl, (blk_cell BK224.out 1).trans rfl, (blk_cell BK231.out 0).trans rfl, (blk_cell BK231.out 1).trans rfl, (blk_cell BK239.out 0).trans rfl, (blk_cell BK239.out 1).trans rfl⟩ (fun hHeld => ?_)
               clear hK K
               refine norm_ (a' := ?_) ?_ ?_
               rotate_left
               ·show Act.put _ (some 111) _ = _
                simp only [Act.put, List.setIfInBounds_toArray, List.set_cons_zero, List.set_cons_succ, i64_w, i32_w]
                rfl
               refine one_ (i := 56) (N := some 112) #[true, true, true, true, true, true, true, true, true, true, true, true, true, true, true, true, true, true, true, true, true, true, true, true, true, true, true, true, true, true, true, true, true, true, true, true, true, true, true, true, true, true, true, true, true, true, true, true, true, true, true, true, true, true, true, true, true, false, false] rfl rfl (one_of HT_.out (by kernel_rfl)) (by decide) (fun K hK => ?_)
               refine goes_ Try.func25 (by kernel_rfl) rfl #[.agg #[.slice Ao53 t225.length co53, .slice Ao57 t228.length co57], .agg #[.slice Ao87 t269.length co87, .slice Ao88 t272.length co88]] (by rfl) rfl rfl (by (try simp only [List.map_toArray, List.map_cons, List.map_nil]); first | done | rfl | (simp only [List.length_drop, List.length_take]; rfl)) ?_
               with_reducible refine (impl_DiskSame.calls _ _ t225 _ _ t228 _ _ t269 _ _ t272 t275 _ ?side1 ?side2 ?side3 ?side4 ?side5 ?side6 ?side7 ?side8 A32.out).mono ?_
               (case side1 => repeat (first | exact (Kd.R_reads' HO227.out).2.2 | (with_reducible refine Kd.C_alloc ?_ _) | (with_reducible refine Kd.C_drewN ?_ _) | (with_reducible refine Kd.C_drew ?_)))
               (case side2 => exact (Kd.R_reads' HO227.out).2.1)
               (case side3 => repeat (first | exact (Kd.R_reads' HO230.out).2.2 | (with_reducible refine Kd.C_alloc ?_ _) | (with_reducible refine Kd.C_drewN ?_ _) | (with_reducible refine Kd.C_drew ?_)))
               (case side4 => exact (Kd.R_reads' HO230.out).2.1)
               (case side5 => repeat (first | exact (Kd.R_reads' HO271.out).2.2 | (with_reducible refine Kd.C_alloc ?_ _) | (with_reducible refine Kd.C_drewN ?_ _) | (with_reducible refine Kd.C_drew ?_)))
               (case side6 => exact (Kd.R_reads' HO271.out).2.1)
               (case side7 => repeat (first | exact (Kd.R_reads' HO274.out).2.2 | (with_reducible refine Kd.C_alloc ?_ _) | (with_reducible refine Kd.C_drewN ?_ _) | (with_reducible refine Kd.C_drew ?_)))
               (case side8 => exact (Kd.R_reads' HO274.out).2.1)
               rintro e w89 ⟨rfl, hb⟩
               refine ⟨_, rfl, ?_⟩
               have n0_ := k0 (Kd.R_below (kR HO205.out) hb)
               have n1_ := k0 (Kd.R_below (kR HO208.out) hb)
               have n2_ := k0 (Kd.R_below (kR HO211.out) hb)
               have n3_ := k0 (Kd.R_below (kR HO214.out) hb)
               have n4_ := k0 (Kd.R_below (kR HO220.out) hb)
               have n5_ := k0 (Kd.R_below (kR HO223.out) hb)
               have n6_ := k0 (Kd.R_below (kR HO227.out) hb)
               have n7_ := k0 (Kd.R_below (kR HO230.out) hb)
               have n8_ := k0 (Kd.R_below (kR HO234.out) hb)
               have n9_ := k0 (Kd.R_below (kR HO237.out) hb)
               have n10_ := k0 (Kd.R_below (kR HO242.out) hb)
               have n11_ := k0 (Kd.R_below (kR HO245.out) hb)
               have n12_ := k0 (Kd.R_below (kR HO256.out) hb)
               have n13_ := k0 (Kd.R_below (kR HO260.out) hb)
               have n14_ := k0 (Kd.R_below (kR HO271.out) hb)
               have n15_ := k0 (Kd.R_below (kR HO274.out) hb)
               have n16_ := k0 (kb BK216.out hb)
               have n17_ := k0 (kb BK224.out hb)
               have n18_ := k0 (kb BK231.out hb)
               have n19_ := k0 (kb BK239.out hb)
               have n20_ := k0 (kb BK247.out hb)
               have n21_ := k0 (Kd.C_below (by repeat (first | (with_reducible exact HR265.out) | (with_reducible refine Kd.C_alloc ?_ _) | (with_reducible refine Kd.C_drewN ?_ _) | (with_reducible refine Kd.C_drew ?_) | exact HR265.out)) hb)
               have n22_ := k0 (below_step (kW HB.out) hb)
               clear HO205
               clear HO208
               clear HO211
               clear HO214
               clear HO220
               clear HO223
               clear HO227
               clear HO230
               clear HO234
               clear HO237
               clear HO242
               clear HO245
               clear HO256
               clear HO260
               clear HO271
               clear HO274
               clear BK216
               clear BK224
               clear BK231
               clear BK239
               clear BK247
               clear HR265
               clear HB
               have HO205 := n0_
               have HO208 := n1_
               have HO211 := n2_
               have HO214 := n3_
               have HO220 := n4_
               have HO223 := n5_
               have HO227 := n6_
               have HO230 := n7_
               have HO234 := n8_
               have HO237 := n9_
               have HO242 := n10_
               have HO245 := n11_
               have HO256 := n12_
               have HO260 := n13_
               have HO271 := n14_
               have HO274 := n15_
               have BK216 := n16_
               have BK224 := n17_
               have BK231 := n18_
               have BK239 := n19_
               have BK247 := n20_
               have HR265 := n21_
               have HB := n22_
               clear n0_ n1_ n2_ n3_ n4_ n5_ n6_ n7_ n8_ n9_ n10_ n11_ n12_ n13_ n14_ n15_ n16_ n17_ n18_ n19_ n20_ n21_ n22_
               (try clear hb)
               (try clear hb2)
               (try clear hk)
               (try clear hi)
               refine hK.out _ _ ⟨(blk_cell BK216.out 0).trans rfl, (blk_cell BK216.out 1).trans rfl, (blk_cell BK224.out 0).trans rfl, (blk_cell BK224.out 1).trans rfl, (blk_cell BK231.out 0).trans rfl, (blk_cell BK231.out 1).trans rfl, (blk_cell BK239.out 0).trans rfl, (blk_cell BK239.out 1).trans rfl⟩ (fun hHeld => ?_)
               clear hK K
               refine norm_ (a' := ?_) ?_ ?_
               rotate_left
               ·show Act.put _ (some 112) _ = _
                simp only [Act.put, List.setIfInBounds_toArray, List.set_cons_zero, List.set_cons_succ, i64_w, i32_w]
                rfl
               refine pure_ (i := 57) (N := some 113) (v := ?_) (a' := ?_) #[true, true, true, true, true, true, true, true, true, true, true, true, true, true, true, true, true, true, true, true, true, true, true, true, true, true, true, true, true, true, true, true, true, true, true, true, true, true, true, true, true, true, true, true, true, true, true, true, true, true, true, true, true, true, true, true, true, true, false] rfl rfl (any_of HT_.out (by kernel_rfl)) (fun _ _ _ h => h) (Or.inl ⟨by rfl, ?_⟩) ?_ ?_
               rotate_left
               ·intro w'
                go_simp
                with_reducible rfl
               rotate_left
               ·simp only [Act.put, List.setIfInBounds_toArray, List.set_cons_zero, List.set_cons_succ, i64_w, i32_w]
                rfl
               refine pure_ (i := 58) (N := some 2) (v := ?_) (a' := ?_) #[true, true, true, true, true, true, true, true, true, true, true, true, true, true, true, true, true, true, true, true, true, true, true, true, true, true, true, true, true, true, true, true, true, true, true, true, true, true, true, true, true, true, true, true, true, true, true, true, true, true, true, true, true, true, true, true, true, true, true] rfl rfl (any_of HT_.out (by kernel_rfl)) (fun _ _ _ h => h) (Or.inl ⟨by rfl, ?_⟩) ?_ ?_
               rotate_left
               ·intro w'
                go_simp
                with_reducible rfl
               rotate_left
               ·simp only [Act.put, List.setIfInBounds_toArray, List.set_cons_zero, List.set_cons_succ, i64_w, i32_w]
                rfl
               refine done_ (done_of HT_.out (by kernel_rfl)) ?_
               try go_wp2
               go_ret
               exact ⟨by first | rfl | (simp [errW_none, errW_some] <;> rfl) | (simp only [← hji19]; first | rfl | (simp [errW_none, errW_some] <;> rfl)) | (simp [*, errW_none, errW_some] <;> rfl), by repeat (first | (with_reducible first | exact HB.out | apply below_alloc | apply pw_below_drewN | apply below_drew1 | refine below_set ?_ GE216.out | refine below_set ?_ GE224.out | refine below_set ?_ GE231.out | refine below_set ?_ GE239.out | refine below_set ?_ GE247.out) | exact HB.out)⟩
              ·rw [if_neg c30] at H
               have c30b0 : (t246 == ((t206.length : Int) == 0)) = false := by simpa using c30
               (try (have c30b1 : decide (t246 = ((t206.length : Int) == 0)) = false := by simpa using c30))
               (try (have c30b2 : (t246 == ((t206.length : Int) == 0)) = false := by simpa using c30))
               (try (have c30b3 : ¬ (t246 = ((t206.length : Int) == 0)) := by simpa using c30))
               clear c30
               exact absurd ((Option.some.inj H).trans HR.out) (by decide)
             ·replace c29 := Bool.eq_false_iff.mpr c29
              subst c29
              have H1 : (some false) = some r := by rw [if_neg (show ¬ (false = true) by decide)] at H; exact H
              clear H
              have H := H1
              clear H1
              exact absurd ((Option.some.inj H).trans HR.out) (by decide)
            ·replace c27 := Bool.eq_false_iff.mpr c27
             subst c27
             have H1 : (some false) = some r := by rw [if_neg (show ¬ (false = true) by decide)] at H; exact H
             clear H
             have H := H1
             clear H1
             exact absurd ((Option.some.inj H).trans HR.out) (by decide)
           ·replace c26 := Bool.eq_false_iff.mpr c26
            subst c26
            have H1 : (some false) = some r := by rw [if_neg (show ¬ (false = true) by decide)] at H; exact H
            clear H
            have H := H1
            clear H1
            exact absurd ((Option.some.inj H).trans HR.out) (by decide)
          ·rw [if_neg c24] at H
           have c24b0 : ((t221.length : Int) == 0) = false := beq_eq_false_iff_ne.mpr c24
           have c24b1 : ((t221.length : Int) != 0) = true := bne_iff_ne.mpr c24
           have c24b2 : ¬ (t221 = []) := fun h_ => c24 (by rw [h_]; rfl)
           exact absurd ((Option.some.inj H).trans HR.out) (by decide)
         ·replace c23 := Bool.eq_false_iff.mpr c23
          subst c23
          have H1 : (some false) = some r := by rw [if_neg (show ¬ (false = true) by decide)] at H; exact H
          clear H
          have H := H1
          clear H1
          exact absurd ((Option.some.inj H).trans HR.out) (by decide)
        ·rw [if_neg c21] at H
         exact absurd H (by simp)
       ·rw [if_neg c20] at H
        exact absurd H (by simp)
      ·replace c18 := Bool.eq_false_iff.mpr c18
       subst c18
       have H1 : (some false) = some r := by rw [if_neg (show ¬ (false = true) by decide)] at H; exact H
       clear H
       have H := H1
       clear H1
       exact absurd ((Option.some.inj H).trans HR.out) (by decide)
     ·replace c15 := Bool.eq_false_iff.mpr c15
      subst c15
      have H1 : (some false) = some r := by rw [if_neg (show ¬ (false = true) by decide)] at H; exact H
      clear H
      have H := H1
      clear H1
      exact absurd ((Option.some.inj H).trans HR.out) (by decide)
    ·replace c13 := Bool.eq_false_iff.mpr c13
     subst c13
     have H1 : (some false) = some r := by rw [if_neg (show ¬ (false = true) by decide)] at H; exact H
     clear H
     have H := H1
     clear H1
     exact absurd ((Option.some.inj H).trans HR.out) (by decide)
   ·rw [if_neg c12] at H
    exact absurd H (by simp)
  ·rw [if_neg c11] at H
   exact absurd H (by simp)

/-- THE ONE PURE STATEMENT of laws_FnDisk: yours. -/
def laws_FnDisk.Pure : Prop := ∀ (l0 : List Int), l0.length ≤ maxLen → l0.length * 1 ≤ 140737488351232 → (∀ x ∈ l0, (Lit.int .u8 x).wf = true) → ∃ k, laws_FnDisk.f k l0 = some true
theorem laws_FnDisk.walk (P : laws_FnDisk.Pure) (a0 : Option Addr) (len0 cap0 : Nat) (z0 : List Int) (w : World) (w0 : (a0 = none ∧ len0 = 0 ∧ cap0 = 0 ∧ z0 = []) ∨ ∃ x, a0 = some x ∧ len0 ≤ cap0 ∧ cap0 ≤ maxLen ∧ z0.length = cap0 ∧ (∀ i, i < z0.length → w.cell? (x.add i) = some (.int .u8 (z0.getD i 0))) ∧ ∀ n ∈ z0, (Lit.int .u8 n).wf = true) (y0 : len0 * 1 ≤ 140737488351232) :
  Calls Try.prog 6 #[.slice a0 len0 cap0] w fun e w' => e = .returned (.bool true) ∧ Below w.heap.size w w' := by
 obtain ⟨l0, rfl, hr0, hm0, hw0, hc0⟩ := ReadsInt.ofRowC w0
 obtain ⟨k, h⟩ := P l0 hm0 y0 hw0
 refine (laws_FnDisk.calls k _ _ l0 true w (Kd.C_of_reads (d := (0 : Int)) (h1 := fun _ => rfl) hr0) hc0 (Aside0.mk rfl) h).mono ?_
 rintro e w' ⟨rfl, hd⟩
 exact ⟨rfl, hd⟩

end Go.Proofs.Ytnejpihjlkpcgaa.PFnDisk
