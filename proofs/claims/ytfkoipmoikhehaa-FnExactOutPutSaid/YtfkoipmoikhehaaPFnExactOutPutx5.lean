import Derived.Test.YtfkoipmoikhehaaPFnExactOutPutx0
import Derived.Test.YtfkoipmoikhehaaPFnExactOutPutx1
import Derived.Test.YtfkoipmoikhehaaPFnExactOutPutx2
import Derived.Test.YtfkoipmoikhehaaPFnExactOutPutx4
namespace Go.Proofs.Ytfkoipmoikhehaa.PFnExactOutPut
open Go.RowKit Go.Proofs.YtfkoipmoikhehaaW.PrintWords Go.Proofs.YtfkoipmoikhehaaW.PrintLast Go.Proofs.YtfkoipmoikhehaaW.PrintMore
attribute [local go_sem] max2_int min2_int max_two min_two max_three min_three max_four min_four   -- for this text's walks alone
set_option linter.unusedVariables false
set_option linter.unusedSimpArgs false

/-! ### laws_FnExactOutPut: function 6 -/
mutual
def laws_FnExactOutPut.j0 : Nat → Bool → Bool → Bool → Int → List (S40) → Int → Int → Int → Int → Int → List (S35) → Int → List (S35) → Int → List (S35) → Option (Bool)
  | 0, _, _, _, _, _, _, _, _, _, _, _, _, _, _, _ => none
  | k + 1, x7, x10, x46, x208000, x208001, x209000, x209001, x209002, x209003, x224000, x224001, x229000, x229001, x239000, x239001 => if x46 = true then (some false) else ((laws_toOut.f k x208000 x208001).bind fun bt240 => ((laws_eqOut.f k x229000 x229001 bt240.1 bt240.2).bind fun t244 => (if t244 = true then ((laws_markOut.f k x229000 x229001 1).bind fun bt245 => (if bt245.1 < 0 then (laws_FnExactOutPut.j1 k x7 true x208000 x208001 x209000 x209001 x209002 x209003 x224000 x224001 x239000 x239001) else ((laws_eqOut.f k x239000 x239001 x224000 x224001).bind fun t247 => (if t247 = true then (laws_FnExactOutPut.j1 k x7 (x10 != x7) x208000 x208001 x209000 x209001 x209002 x209003 x224000 x224001 x239000 x239001) else (laws_FnExactOutPut.j1 k x7 true x208000 x208001 x209000 x209001 x209002 x209003 x224000 x224001 x239000 x239001))))) else (some false))))
def laws_FnExactOutPut.j1 : Nat → Bool → Bool → Int → List (S40) → Int → Int → Int → Int → Int → List (S35) → Int → List (S35) → Option (Bool)
  | 0, _, _, _, _, _, _, _, _, _, _, _, _ => none
  | k + 1, x7, x67, x208000, x208001, x209000, x209001, x209002, x209003, x224000, x224001, x239000, x239001 => if x67 = true then (some false) else ((laws_markOut.f k x239000 x239001 1).bind fun bt248 => ((laws_heldOut.f k x239000 bt248.2 1).bind fun t250 => (if t250 < 0 then (some false) else (if t250 = bt248.1 then ((laws_toOut.f k x208000 x208001).bind fun bt251 => ((laws_toMsg.f x209000 x209001 x209002 x209003).bind fun bt255 => ((impl_OutPut.f k bt251.1 bt251.2 bt255.1 bt255.2.1 bt255.2.2.1 bt255.2.2.2).bind fun bt259 => ((laws_eqOut.f k bt259.1 bt259.2.1 x224000 x224001).bind fun t265 => (if t265 = true then (laws_FnExactOutPut.j2 k bt248.1 (bt259.2.2 != x7) x239000 bt248.2) else (laws_FnExactOutPut.j2 k bt248.1 true x239000 bt248.2)))))) else (some false)))))
def laws_FnExactOutPut.j2 : Nat → Int → Bool → Int → List (S35) → Option (Bool)
  | 0, _, _, _, _ => none
  | k + 1, x12, x95, x239000, x239001 => if x95 = true then (some false) else ((laws_heldOut.f k x239000 x239001 1).bind fun t266 => (if t266 < 0 then (some false) else (if t266 = x12 then (some true) else (some false))))
end
def laws_FnExactOutPut.f (k : Nat) (a0_0 : Int) (l0_1 : List (S40)) (a1_0 : Int) (a1_1 : Int) (a1_2 : Int) (a1_3 : Int) : Option (Bool) := (laws_szOut.f a0_0 l0_1 1048576).bind fun t209 => (if t209 < 0 then (some true) else ((laws_toOut.f k a0_0 l0_1).bind fun bt210 => ((laws_toMsg.f a1_0 a1_1 a1_2 a1_3).bind fun bt214 => ((spec_OutPut.f k bt210.1 bt210.2 bt214.1 bt214.2.1 bt214.2.2.1 bt214.2.2.2).bind fun bt218 => ((laws_toOut.f k a0_0 l0_1).bind fun bt224 => ((laws_toMsg.f a1_0 a1_1 a1_2 a1_3).bind fun bt229 => ((impl_OutPut.f k bt224.1 bt224.2 bt229.1 bt229.2.1 bt229.2.2.1 bt229.2.2.2).bind fun bt233 => ((laws_eqOut.f k bt233.1 bt233.2.1 bt218.1 bt218.2.1).bind fun t239 => (if t239 = true then (laws_FnExactOutPut.j0 k bt218.2.2 bt233.2.2 (bt233.2.2 != bt218.2.2) a0_0 l0_1 a1_0 a1_1 a1_2 a1_3 bt218.1 bt218.2.1 bt224.1 bt224.2 bt233.1 bt233.2.1) else (laws_FnExactOutPut.j0 k bt218.2.2 bt233.2.2 true a0_0 l0_1 a1_0 a1_1 a1_2 a1_3 bt218.1 bt218.2.1 bt224.1 bt224.2 bt233.1 bt233.2.1))))))))))
theorem laws_FnExactOutPut.mono_l : ∀ k, (∀ y0 y1 y2 y3 y4 y5 y6 y7 y8 y9 y10 y11 y12 y13 y14, LeO (laws_FnExactOutPut.j0 k y0 y1 y2 y3 y4 y5 y6 y7 y8 y9 y10 y11 y12 y13 y14) (laws_FnExactOutPut.j0 (k + 1) y0 y1 y2 y3 y4 y5 y6 y7 y8 y9 y10 y11 y12 y13 y14)) ∧ (∀ y0 y1 y2 y3 y4 y5 y6 y7 y8 y9 y10 y11, LeO (laws_FnExactOutPut.j1 k y0 y1 y2 y3 y4 y5 y6 y7 y8 y9 y10 y11) (laws_FnExactOutPut.j1 (k + 1) y0 y1 y2 y3 y4 y5 y6 y7 y8 y9 y10 y11)) ∧ (∀ y0 y1 y2 y3, LeO (laws_FnExactOutPut.j2 k y0 y1 y2 y3) (laws_FnExactOutPut.j2 (k + 1) y0 y1 y2 y3))
  | 0 => ⟨fun _ _ _ _ _ _ _ _ _ _ _ _ _ _ _ r h => by simp [laws_FnExactOutPut.j0] at h, fun _ _ _ _ _ _ _ _ _ _ _ _ r h => by simp [laws_FnExactOutPut.j1] at h, fun _ _ _ _ r h => by simp [laws_FnExactOutPut.j2] at h⟩
  | k + 1 => by
    obtain ⟨ih0, ih1, ih2⟩ := laws_FnExactOutPut.mono_l k
    refine ⟨?_, ?_, ?_⟩
    · intro y0 y1 y2 y3 y4 y5 y6 y7 y8 y9 y10 y11 y12 y13 y14
      unfold laws_FnExactOutPut.j0
      repeat' first
      | (with_reducible exact ih0 _ _ _ _ _ _ _ _ _ _ _ _ _ _ _)
      | (with_reducible exact ih1 _ _ _ _ _ _ _ _ _ _ _ _)
      | (with_reducible exact ih2 _ _ _ _)
      | (with_reducible exact impl_OutPut.mono _ _ _ _ _ _ _)
      | (with_reducible exact laws_eqOut.mono _ _ _ _ _)
      | (with_reducible exact laws_heldOut.mono _ _ _ _)
      | (with_reducible exact laws_markOut.mono _ _ _ _)
      | (with_reducible exact laws_toOut.mono _ _ _)
      | (with_reducible exact spec_OutPut.mono _ _ _ _ _ _ _)
      | (with_reducible exact LeO.refl _)
      | (with_reducible exact LeO.none _)
      | (with_reducible refine LeO.ite ?_ ?_)
      | (with_reducible refine LeO.bind ?_ (fun _ => ?_))
      | exact ih0 _ _ _ _ _ _ _ _ _ _ _ _ _ _ _
      | exact ih1 _ _ _ _ _ _ _ _ _ _ _ _
      | exact ih2 _ _ _ _
      | exact impl_OutPut.mono _ _ _ _ _ _ _
      | exact laws_eqOut.mono _ _ _ _ _
      | exact laws_heldOut.mono _ _ _ _
      | exact laws_markOut.mono _ _ _ _
      | exact laws_toOut.mono _ _ _
      | exact spec_OutPut.mono _ _ _ _ _ _ _
      | exact LeO.none _
      | refine LeO.ite ?_ ?_
      | refine LeO.bind ?_ (fun _ => ?_)
    · intro y0 y1 y2 y3 y4 y5 y6 y7 y8 y9 y10 y11
      unfold laws_FnExactOutPut.j1
      repeat' first
      | (with_reducible exact ih0 _ _ _ _ _ _ _ _ _ _ _ _ _ _ _)
      | (with_reducible exact ih1 _ _ _ _ _ _ _ _ _ _ _ _)
      | (with_reducible exact ih2 _ _ _ _)
      | (with_reducible exact impl_OutPut.mono _ _ _ _ _ _ _)
      | (with_reducible exact laws_eqOut.mono _ _ _ _ _)
      | (with_reducible exact laws_heldOut.mono _ _ _ _)
      | (with_reducible exact laws_markOut.mono _ _ _ _)
      | (with_reducible exact laws_toOut.mono _ _ _)
      | (with_reducible exact spec_OutPut.mono _ _ _ _ _ _ _)
      | (with_reducible exact LeO.refl _)
      | (with_reducible exact LeO.none _)
      | (with_reducible refine LeO.ite ?_ ?_)
      | (with_reducible refine LeO.bind ?_ (fun _ => ?_))
      | exact ih0 _ _ _ _ _ _ _ _ _ _ _ _ _ _ _
      | exact ih1 _ _ _ _ _ _ _ _ _ _ _ _
      | exact ih2 _ _ _ _
      | exact impl_OutPut.mono _ _ _ _ _ _ _
      | exact laws_eqOut.mono _ _ _ _ _
      | exact laws_heldOut.mono _ _ _ _
      | exact laws_markOut.mono _ _ _ _
      | exact laws_toOut.mono _ _ _
      | exact spec_OutPut.mono _ _ _ _ _ _ _
      | exact LeO.none _
      | refine LeO.ite ?_ ?_
      | refine LeO.bind ?_ (fun _ => ?_)
    · intro y0 y1 y2 y3
      unfold laws_FnExactOutPut.j2
      repeat' first
      | (with_reducible exact ih0 _ _ _ _ _ _ _ _ _ _ _ _ _ _ _)
      | (with_reducible exact ih1 _ _ _ _ _ _ _ _ _ _ _ _)
      | (with_reducible exact ih2 _ _ _ _)
      | (with_reducible exact impl_OutPut.mono _ _ _ _ _ _ _)
      | (with_reducible exact laws_eqOut.mono _ _ _ _ _)
      | (with_reducible exact laws_heldOut.mono _ _ _ _)
      | (with_reducible exact laws_markOut.mono _ _ _ _)
      | (with_reducible exact laws_toOut.mono _ _ _)
      | (with_reducible exact spec_OutPut.mono _ _ _ _ _ _ _)
      | (with_reducible exact LeO.refl _)
      | (with_reducible exact LeO.none _)
      | (with_reducible refine LeO.ite ?_ ?_)
      | (with_reducible refine LeO.bind ?_ (fun _ => ?_))
      | exact ih0 _ _ _ _ _ _ _ _ _ _ _ _ _ _ _
      | exact ih1 _ _ _ _ _ _ _ _ _ _ _ _
      | exact ih2 _ _ _ _
      | exact impl_OutPut.mono _ _ _ _ _ _ _
      | exact laws_eqOut.mono _ _ _ _ _
      | exact laws_heldOut.mono _ _ _ _
      | exact laws_markOut.mono _ _ _ _
      | exact laws_toOut.mono _ _ _
      | exact spec_OutPut.mono _ _ _ _ _ _ _
      | exact LeO.none _
      | refine LeO.ite ?_ ?_
      | refine LeO.bind ?_ (fun _ => ?_)
theorem laws_FnExactOutPut.mono : ∀ a0 a1 a2 a3 a4 a5 k, LeO (laws_FnExactOutPut.f k a0 a1 a2 a3 a4 a5) (laws_FnExactOutPut.f (k + 1) a0 a1 a2 a3 a4 a5) := by
  intro a0 a1 a2 a3 a4 a5 k
  obtain ⟨ih0, ih1, ih2⟩ := laws_FnExactOutPut.mono_l k
  unfold laws_FnExactOutPut.f
  repeat' first
      | (with_reducible exact ih0 _ _ _ _ _ _ _ _ _ _ _ _ _ _ _)
      | (with_reducible exact ih1 _ _ _ _ _ _ _ _ _ _ _ _)
      | (with_reducible exact ih2 _ _ _ _)
      | (with_reducible exact impl_OutPut.mono _ _ _ _ _ _ _)
      | (with_reducible exact laws_eqOut.mono _ _ _ _ _)
      | (with_reducible exact laws_heldOut.mono _ _ _ _)
      | (with_reducible exact laws_markOut.mono _ _ _ _)
      | (with_reducible exact laws_toOut.mono _ _ _)
      | (with_reducible exact spec_OutPut.mono _ _ _ _ _ _ _)
      | (with_reducible exact LeO.refl _)
      | (with_reducible exact LeO.none _)
      | (with_reducible refine LeO.ite ?_ ?_)
      | (with_reducible refine LeO.bind ?_ (fun _ => ?_))
      | exact ih0 _ _ _ _ _ _ _ _ _ _ _ _ _ _ _
      | exact ih1 _ _ _ _ _ _ _ _ _ _ _ _
      | exact ih2 _ _ _ _
      | exact impl_OutPut.mono _ _ _ _ _ _ _
      | exact laws_eqOut.mono _ _ _ _ _
      | exact laws_heldOut.mono _ _ _ _
      | exact laws_markOut.mono _ _ _ _
      | exact laws_toOut.mono _ _ _
      | exact spec_OutPut.mono _ _ _ _ _ _ _
      | exact LeO.none _
      | refine LeO.ite ?_ ?_
      | refine LeO.bind ?_ (fun _ => ?_)
def laws_FnExactOutPut.T5 : Bool × List (List Nat × List Nat) := (true, [([], []), ([0], [0]), ([], []), ([2, 1], [2]), ([1, 3, 3], [1, 3]), ([4], [4]), ([5], [5]), ([5], [5]), ([], []), ([8, 6, 4, 0, 1, 2, 3, 4, 5, 6, 8], [6, 8]), ([7, 9, 0, 1, 2, 3, 4, 5, 6, 7, 8, 9], [7])])
def laws_FnExactOutPut.B5 : List Nat := [0, 1, 0, 7, 15, 31, 63, 63, 0, 383, 1023]
theorem laws_FnExactOutPut.tab5 : rtab .any (opsOf Try.f6 5) = laws_FnExactOutPut.T5 := by kernel_rfl
theorem laws_FnExactOutPut.bits5 : waitsOk laws_FnExactOutPut.T5.2 laws_FnExactOutPut.B5 = true := by kernel_rfl
def laws_FnExactOutPut.T7 : Bool × List (List Nat × List Nat) := (true, [([], []), ([], []), ([1], [1]), ([0, 2, 2], [0, 2]), ([3], [3]), ([4], [4]), ([4], [4]), ([], []), ([7, 5, 3, 0, 1, 2, 3, 4, 5, 7], [5, 7]), ([6, 8, 0, 1, 2, 3, 4, 5, 6, 7, 8], [6])])
def laws_FnExactOutPut.B7 : List Nat := [0, 0, 2, 7, 15, 31, 31, 0, 191, 511]
theorem laws_FnExactOutPut.tab7 : rtab .any (opsOf Try.f6 7) = laws_FnExactOutPut.T7 := by kernel_rfl
theorem laws_FnExactOutPut.bits7 : waitsOk laws_FnExactOutPut.T7.2 laws_FnExactOutPut.B7 = true := by kernel_rfl
def laws_FnExactOutPut.T24 : Bool × List (List Nat × List Nat) := (true, [([], []), ([0], [0]), ([], []), ([2, 1], [2]), ([1, 3, 3], [1, 3]), ([4], [4]), ([5], [5]), ([5], [5]), ([], []), ([8, 6, 4, 0, 1, 2, 3, 4, 5, 6, 8], [6, 8]), ([7, 9, 0, 1, 2, 3, 4, 5, 6, 7, 8, 9], [7])])
def laws_FnExactOutPut.B24 : List Nat := [0, 1, 0, 7, 15, 31, 63, 63, 0, 383, 1023]
theorem laws_FnExactOutPut.tab24 : rtab .any (opsOf Try.f6 24) = laws_FnExactOutPut.T24 := by kernel_rfl
theorem laws_FnExactOutPut.bits24 : waitsOk laws_FnExactOutPut.T24.2 laws_FnExactOutPut.B24 = true := by kernel_rfl
theorem k0 {p : Prop} (x : p) : Aside0 p := ⟨x⟩
/-- What was known of an older world is known of this one. -/
theorem kR {p q : Prop} (x : p) (h : p → q := by intro x; (with_reducible repeat (first | apply Kd.R_alloc | apply Kd.R_drewN | apply Kd.R_drew)); exact x) : q := h x
theorem kB {p q : Prop} (x : p) (h : p → q := by intro x; (with_reducible repeat (first | refine blk_drewN ?_ _ | refine blk_drew ?_ | refine blk_alloc ?_ _)); exact x) : q := h x
theorem kW {p q : Prop} (x : p) (h : p → q := by intro x; repeat (first | (with_reducible first | exact x | apply below_alloc | apply pw_below_drewN | apply below_drew1 | refine below_set ?_ (Aside0.out (by assumption))) | exact x)) : q := h x
theorem kb {w0 w w' : World} {g : Nat} {o : Obj} (x : w0.heap[g]? = some o) (hb : Below w.heap.size w w') (h : w0.heap[g]? = some o → w.heap[g]? = some o := by intro x; (with_reducible repeat (first | refine blk_drewN ?_ _ | refine blk_drew ?_ | refine blk_alloc ?_ _)); exact x) : w'.heap[g]? = some o := blk_below (h x) hb
theorem kl {w0 w : World} {g g' : Nat} {o : Obj} (x : w0.heap[g]? = some o) (hg : g' = w.heap.size) (h : w0.heap[g]? = some o → w.heap[g]? = some o := by intro x; (with_reducible repeat (first | refine blk_drewN ?_ _ | refine blk_drew ?_ | refine blk_alloc ?_ _)); exact x) : g ≠ g' := by rw [hg]; exact Nat.ne_of_lt (blk_lt (h x))
theorem kg {w0 w : World} {g g' : Nat} {o : Obj} (x : w0.heap[g]? = some o) (hg : g' = w.heap.size) (h : w0.heap[g]? = some o → w.heap[g]? = some o := by intro x; (with_reducible repeat (first | refine blk_drewN ?_ _ | refine blk_drew ?_ | refine blk_alloc ?_ _)); exact x) : g' ≠ g := by rw [hg]; exact Nat.ne_of_gt (blk_lt (h x))
set_option maxHeartbeats 8000000 in
set_option maxRecDepth 100000 in
theorem laws_FnExactOutPut.calls (k : Nat) (a0_0 : Int) (A0_1 : Option Addr) (c0_1 : Nat) (l0_1 : List (S40)) (a1_0 : Int) (a1_1 : Int) (a1_2 : Int) (a1_3 : Int) (r : Bool) (w : World) (hr0_1 : Kd.C k40 w A0_1 l0_1.length l0_1) (hc0_1 : l0_1.length ≤ c0_1) (HR : Aside0 (r = true)) (h : laws_FnExactOutPut.f k a0_0 l0_1 a1_0 a1_1 a1_2 a1_3 = some r) :
  Calls Try.prog 6 #[.agg #[.int .i64 a0_0, .slice A0_1 l0_1.length c0_1], .agg #[.int .i64 a1_0, .int .i64 a1_1, .int .i64 a1_2, .int .i64 a1_3]] w fun e w' => e = .returned (.bool r) ∧ Below w.heap.size w w' := by
 have hu24 := Try.underlying24
 have hu40 := Try.underlying40
 have hu29 := Try.underlying29
 have HR0_1 := Aside0.mk hr0_1
 have HC0_1 := Aside0.mk hc0_1
 clear hr0_1 hc0_1
 have HB := k0 (Below.refl w.heap.size w)
 have H : ((laws_szOut.f a0_0 l0_1 1048576).bind fun t209 => (if t209 < 0 then (some true) else ((laws_toOut.f k a0_0 l0_1).bind fun bt210 => ((laws_toMsg.f a1_0 a1_1 a1_2 a1_3).bind fun bt214 => ((spec_OutPut.f k bt210.1 bt210.2 bt214.1 bt214.2.1 bt214.2.2.1 bt214.2.2.2).bind fun bt218 => ((laws_toOut.f k a0_0 l0_1).bind fun bt224 => ((laws_toMsg.f a1_0 a1_1 a1_2 a1_3).bind fun bt229 => ((impl_OutPut.f k bt224.1 bt224.2 bt229.1 bt229.2.1 bt229.2.2.1 bt229.2.2.2).bind fun bt233 => ((laws_eqOut.f k bt233.1 bt233.2.1 bt218.1 bt218.2.1).bind fun t239 => (if t239 = true then (laws_FnExactOutPut.j0 k bt218.2.2 bt233.2.2 (bt233.2.2 != bt218.2.2) a0_0 l0_1 a1_0 a1_1 a1_2 a1_3 bt218.1 bt218.2.1 bt224.1 bt224.2 bt233.1 bt233.2.1) else (laws_FnExactOutPut.j0 k bt218.2.2 bt233.2.2 true a0_0 l0_1 a1_0 a1_1 a1_2 a1_3 bt218.1 bt218.2.1 bt224.1 bt224.2 bt233.1 bt233.2.1))))))))))) = some r := h
 clear h
 replace H := Option.bind_eq_some_iff.mp H
 obtain ⟨t209, A30, H⟩ := H
 replace H : (if t209 < 0 then (some true) else ((laws_toOut.f k a0_0 l0_1).bind fun bt210 => ((laws_toMsg.f a1_0 a1_1 a1_2 a1_3).bind fun bt214 => ((spec_OutPut.f k bt210.1 bt210.2 bt214.1 bt214.2.1 bt214.2.2.1 bt214.2.2.2).bind fun bt218 => ((laws_toOut.f k a0_0 l0_1).bind fun bt224 => ((laws_toMsg.f a1_0 a1_1 a1_2 a1_3).bind fun bt229 => ((impl_OutPut.f k bt224.1 bt224.2 bt229.1 bt229.2.1 bt229.2.2.1 bt229.2.2.2).bind fun bt233 => ((laws_eqOut.f k bt233.1 bt233.2.1 bt218.1 bt218.2.1).bind fun t239 => (if t239 = true then (laws_FnExactOutPut.j0 k bt218.2.2 bt233.2.2 (bt233.2.2 != bt218.2.2) a0_0 l0_1 a1_0 a1_1 a1_2 a1_3 bt218.1 bt218.2.1 bt224.1 bt224.2 bt233.1 bt233.2.1) else (laws_FnExactOutPut.j0 k bt218.2.2 bt233.2.2 true a0_0 l0_1 a1_0 a1_1 a1_2 a1_3 bt218.1 bt218.2.1 bt224.1 bt224.2 bt233.1 bt233.2.1)))))))))) = some r := H
 have A3 := Aside0.mk A30
 clear A30
 by_cases c4 : t209 < 0
 ·rw [if_pos c4] at H
  have c4b0 : decide (t209 < 0) = true := decide_eq_true c4
  clear c4
  obtain rfl := Option.some.inj H
  go_enter Try.func6, Try.ntmps6
  go_wp2_with (first | ((with_reducible refine gate_dst (N := 2) rfl ?_); refine box_event ?hg (N := 2) ?hd (cs := #[.int .i64 a0_0, .slice A0_1 l0_1.length c0_1]) (t := 24) ?hr ?_; (case hd => rfl); (case hg => rfl); (case hr => first | (go_simp; done) | (go_simp; rfl)); intro gb207 hg w5 hbox hb; have n0_ := k0 (below_step (kW HB.out) hb); have n1_ := k0 (hbox); have n2_ := k0 ((by rw [hg]; exact (below_size (kW HB.out)) : w.heap.size ≤ gb207)); have n3_ := k0 ((by rw [hg]; exact (below_size (kW HB.out)) : w.heap.size ≤ gb207)); clear HB; have HB := n0_; have BK207 := n1_; have GW207 := n2_; have GE207 := n3_; clear n0_ n1_ n2_ n3_; clear hb hbox hg) | ((with_reducible refine gate_dst (N := 3) rfl ?_); refine box_event ?hg (N := 3) ?hd (cs := #[.int .i64 a1_0, .int .i64 a1_1, .int .i64 a1_2, .int .i64 a1_3]) (t := 40) ?hr ?_; (case hd => rfl); (case hg => rfl); (case hr => first | (go_simp; done) | (go_simp; rfl)); intro gb208 hg w6 hbox hb; have n0_ := k0 (kb BK207.out hb); have n1_ := k0 (below_step (kW HB.out) hb); have n2_ := k0 (hbox); have n3_ := k0 ((by rw [hg]; exact (below_size (kW HB.out)) : w.heap.size ≤ gb208)); have n4_ := k0 ((by rw [hg]; exact (below_size (kW HB.out)) : w.heap.size ≤ gb208)); have n5_ := k0 ((by rw [hg]; exact Nat.ne_of_lt (blk_lt (g := gb207) (o := .cells #[.int .i64 a0_0, .slice A0_1 l0_1.length c0_1] 24 (0, 0)) (kB BK207.out)) : gb207 ≠ gb208)); have n6_ := k0 ((by rw [hg]; exact Nat.ne_of_gt (blk_lt (g := gb207) (o := .cells #[.int .i64 a0_0, .slice A0_1 l0_1.length c0_1] 24 (0, 0)) (kB BK207.out)) : gb208 ≠ gb207)); clear BK207; clear HB; have BK207 := n0_; have HB := n1_; have BK208 := n2_; have GW208 := n3_; have GE208 := n4_; have NB207_208 := n5_; have NB208_207 := n6_; clear n0_ n1_ n2_ n3_ n4_ n5_ n6_; clear hb hbox hg; have hnb7 := NB207_208.out; have hnc7 := NB208_207.out; have hcz8_0 : w6.cell? ⟨gb207, 0, none⟩ = some (.int .i64 a0_0) := (blk_cell BK207.out 0).trans rfl; have hcz8_1 : w6.cell? ⟨gb207, 1, none⟩ = some (.slice A0_1 l0_1.length c0_1) := (blk_cell BK207.out 1).trans rfl; have hfz8_0 := blk_frozen BK207.out 0; have hfz8_1 := blk_frozen BK207.out 1) | ((with_reducible refine gate_callee (f := 12) rfl ?_); refine goesL_ (some 18) rfl rfl Try.func12 (by kernel_rfl) rfl #[.agg #[.int .i64 a0_0, .slice A0_1 l0_1.length c0_1], .int .i64 1048576] rfl (by (try simp only [List.map_toArray, List.map_cons, List.map_nil]); first | done | rfl | (simp only [List.length_drop, List.length_take]; rfl)) ?_; (with_reducible refine (laws_szOut.calls a0_0 _ _ l0_1 1048576 t209 _ ?side1 ?side2 A3.out).mono ?_); (case side1 => repeat (first | exact (Kd.C_below HR0_1.out HB.out) | (with_reducible refine Kd.C_alloc ?_ _) | (with_reducible refine Kd.C_drewN ?_ _) | (with_reducible refine Kd.C_drew ?_))); (case side2 => exact HC0_1.out); rintro e w9 ⟨rfl, hb⟩; refine ⟨_, rfl, ?_⟩; have n0_ := k0 (kb BK207.out hb); have n1_ := k0 (kb BK208.out hb); have n2_ := k0 (below_step (kW HB.out) hb); clear BK207; clear BK208; clear HB; have BK207 := n0_; have BK208 := n1_; have HB := n2_; clear n0_ n1_ n2_; (try clear hb); (try clear hb2); (try clear hk); (try clear hi)))
  go_ret
  exact ⟨by first | rfl | (simp [errW_none, errW_some] <;> rfl) | (simp [*, errW_none, errW_some] <;> rfl), by repeat (first | (with_reducible first | exact HB.out | apply below_alloc | apply pw_below_drewN | apply below_drew1 | refine below_set ?_ GE207.out | refine below_set ?_ GE208.out) | exact HB.out)⟩
 ·rw [if_neg c4] at H
  have c4b0 : decide (t209 < 0) = false := decide_eq_false c4
  clear c4
  replace H := Option.bind_eq_some_iff.mp H
  obtain ⟨⟨t210, t211⟩, A100, H⟩ := H
  replace H : ((laws_toMsg.f a1_0 a1_1 a1_2 a1_3).bind fun bt214 => ((spec_OutPut.f k t210 t211 bt214.1 bt214.2.1 bt214.2.2.1 bt214.2.2.2).bind fun bt218 => ((laws_toOut.f k a0_0 l0_1).bind fun bt224 => ((laws_toMsg.f a1_0 a1_1 a1_2 a1_3).bind fun bt229 => ((impl_OutPut.f k bt224.1 bt224.2 bt229.1 bt229.2.1 bt229.2.2.1 bt229.2.2.2).bind fun bt233 => ((laws_eqOut.f k bt233.1 bt233.2.1 bt218.1 bt218.2.1).bind fun t239 => (if t239 = true then (laws_FnExactOutPut.j0 k bt218.2.2 bt233.2.2 (bt233.2.2 != bt218.2.2) a0_0 l0_1 a1_0 a1_1 a1_2 a1_3 bt218.1 bt218.2.1 bt224.1 bt224.2 bt233.1 bt233.2.1) else (laws_FnExactOutPut.j0 k bt218.2.2 bt233.2.2 true a0_0 l0_1 a1_0 a1_1 a1_2 a1_3 bt218.1 bt218.2.1 bt224.1 bt224.2 bt233.1 bt233.2.1)))))))) = some r := H
  have A10 := Aside0.mk A100
  clear A100
  replace H := Option.bind_eq_some_iff.mp H
  obtain ⟨⟨t214, t215, t216, t217⟩, A110, H⟩ := H
  replace H : ((spec_OutPut.f k t210 t211 t214 t215 t216 t217).bind fun bt218 => ((laws_toOut.f k a0_0 l0_1).bind fun bt224 => ((laws_toMsg.f a1_0 a1_1 a1_2 a1_3).bind fun bt229 => ((impl_OutPut.f k bt224.1 bt224.2 bt229.1 bt229.2.1 bt229.2.2.1 bt229.2.2.2).bind fun bt233 => ((laws_eqOut.f k bt233.1 bt233.2.1 bt218.1 bt218.2.1).bind fun t239 => (if t239 = true then (laws_FnExactOutPut.j0 k bt218.2.2 bt233.2.2 (bt233.2.2 != bt218.2.2) a0_0 l0_1 a1_0 a1_1 a1_2 a1_3 bt218.1 bt218.2.1 bt224.1 bt224.2 bt233.1 bt233.2.1) else (laws_FnExactOutPut.j0 k bt218.2.2 bt233.2.2 true a0_0 l0_1 a1_0 a1_1 a1_2 a1_3 bt218.1 bt218.2.1 bt224.1 bt224.2 bt233.1 bt233.2.1))))))) = some r := H
  have A11 := Aside0.mk A110
  clear A110
  replace H := Option.bind_eq_some_iff.mp H
  obtain ⟨⟨t218, t219, t222⟩, A120, H⟩ := H
  replace H : ((laws_toOut.f k a0_0 l0_1).bind fun bt224 => ((laws_toMsg.f a1_0 a1_1 a1_2 a1_3).bind fun bt229 => ((impl_OutPut.f k bt224.1 bt224.2 bt229.1 bt229.2.1 bt229.2.2.1 bt229.2.2.2).bind fun bt233 => ((laws_eqOut.f k bt233.1 bt233.2.1 t218 t219).bind fun t239 => (if t239 = true then (laws_FnExactOutPut.j0 k t222 bt233.2.2 (bt233.2.2 != t222) a0_0 l0_1 a1_0 a1_1 a1_2 a1_3 t218 t219 bt224.1 bt224.2 bt233.1 bt233.2.1) else (laws_FnExactOutPut.j0 k t222 bt233.2.2 true a0_0 l0_1 a1_0 a1_1 a1_2 a1_3 t218 t219 bt224.1 bt224.2 bt233.1 bt233.2.1)))))) = some r := H
  have A12 := Aside0.mk A120
  clear A120
  replace H := Option.bind_eq_some_iff.mp H
  obtain ⟨⟨t224, t225⟩, A130, H⟩ := H
  replace H : ((laws_toMsg.f a1_0 a1_1 a1_2 a1_3).bind fun bt229 => ((impl_OutPut.f k t224 t225 bt229.1 bt229.2.1 bt229.2.2.1 bt229.2.2.2).bind fun bt233 => ((laws_eqOut.f k bt233.1 bt233.2.1 t218 t219).bind fun t239 => (if t239 = true then (laws_FnExactOutPut.j0 k t222 bt233.2.2 (bt233.2.2 != t222) a0_0 l0_1 a1_0 a1_1 a1_2 a1_3 t218 t219 t224 t225 bt233.1 bt233.2.1) else (laws_FnExactOutPut.j0 k t222 bt233.2.2 true a0_0 l0_1 a1_0 a1_1 a1_2 a1_3 t218 t219 t224 t225 bt233.1 bt233.2.1))))) = some r := H
  have A13 := Aside0.mk A130
  clear A130
  replace H := Option.bind_eq_some_iff.mp H
  obtain ⟨⟨t229, t230, t231, t232⟩, A140, H⟩ := H
  replace H : ((impl_OutPut.f k t224 t225 t229 t230 t231 t232).bind fun bt233 => ((laws_eqOut.f k bt233.1 bt233.2.1 t218 t219).bind fun t239 => (if t239 = true then (laws_FnExactOutPut.j0 k t222 bt233.2.2 (bt233.2.2 != t222) a0_0 l0_1 a1_0 a1_1 a1_2 a1_3 t218 t219 t224 t225 bt233.1 bt233.2.1) else (laws_FnExactOutPut.j0 k t222 bt233.2.2 true a0_0 l0_1 a1_0 a1_1 a1_2 a1_3 t218 t219 t224 t225 bt233.1 bt233.2.1)))) = some r := H
  have A14 := Aside0.mk A140
  clear A140
  replace H := Option.bind_eq_some_iff.mp H
  obtain ⟨⟨t233, t234, t237⟩, A150, H⟩ := H
  replace H : ((laws_eqOut.f k t233 t234 t218 t219).bind fun t239 => (if t239 = true then (laws_FnExactOutPut.j0 k t222 t237 (t237 != t222) a0_0 l0_1 a1_0 a1_1 a1_2 a1_3 t218 t219 t224 t225 t233 t234) else (laws_FnExactOutPut.j0 k t222 t237 true a0_0 l0_1 a1_0 a1_1 a1_2 a1_3 t218 t219 t224 t225 t233 t234))) = some r := H
  have A15 := Aside0.mk A150
  clear A150
  have HC16 := Aside0.mk H
  clear H
  go_enter Try.func6, Try.ntmps6
  try go_wp2_with (first | ((with_reducible refine gate_dst (N := 2) rfl ?_); refine box_event ?hg (N := 2) ?hd (cs := #[.int .i64 a0_0, .slice A0_1 l0_1.length c0_1]) (t := 24) ?hr ?_; (case hd => rfl); (case hg => rfl); (case hr => first | (go_simp; done) | (go_simp; rfl)); intro gb207 hg w17 hbox hb; have n0_ := k0 (below_step (kW HB.out) hb); have n1_ := k0 (hbox); have n2_ := k0 ((by rw [hg]; exact (below_size (kW HB.out)) : w.heap.size ≤ gb207)); have n3_ := k0 ((by rw [hg]; exact (below_size (kW HB.out)) : w.heap.size ≤ gb207)); clear HB; have HB := n0_; have BK207 := n1_; have GW207 := n2_; have GE207 := n3_; clear n0_ n1_ n2_ n3_; clear hb hbox hg) | ((with_reducible refine gate_dst (N := 3) rfl ?_); refine box_event ?hg (N := 3) ?hd (cs := #[.int .i64 a1_0, .int .i64 a1_1, .int .i64 a1_2, .int .i64 a1_3]) (t := 40) ?hr ?_; (case hd => rfl); (case hg => rfl); (case hr => first | (go_simp; done) | (go_simp; rfl)); intro gb208 hg w18 hbox hb; have n0_ := k0 (kb BK207.out hb); have n1_ := k0 (below_step (kW HB.out) hb); have n2_ := k0 (hbox); have n3_ := k0 ((by rw [hg]; exact (below_size (kW HB.out)) : w.heap.size ≤ gb208)); have n4_ := k0 ((by rw [hg]; exact (below_size (kW HB.out)) : w.heap.size ≤ gb208)); have n5_ := k0 ((by rw [hg]; exact Nat.ne_of_lt (blk_lt (g := gb207) (o := .cells #[.int .i64 a0_0, .slice A0_1 l0_1.length c0_1] 24 (0, 0)) (kB BK207.out)) : gb207 ≠ gb208)); have n6_ := k0 ((by rw [hg]; exact Nat.ne_of_gt (blk_lt (g := gb207) (o := .cells #[.int .i64 a0_0, .slice A0_1 l0_1.length c0_1] 24 (0, 0)) (kB BK207.out)) : gb208 ≠ gb207)); clear BK207; clear HB; have BK207 := n0_; have HB := n1_; have BK208 := n2_; have GW208 := n3_; have GE208 := n4_; have NB207_208 := n5_; have NB208_207 := n6_; clear n0_ n1_ n2_ n3_ n4_ n5_ n6_; clear hb hbox hg; have hnb19 := NB207_208.out; have hnc19 := NB208_207.out; have hcz20_0 : w18.cell? ⟨gb207, 0, none⟩ = some (.int .i64 a0_0) := (blk_cell BK207.out 0).trans rfl; have hcz20_1 : w18.cell? ⟨gb207, 1, none⟩ = some (.slice A0_1 l0_1.length c0_1) := (blk_cell BK207.out 1).trans rfl; have hfz20_0 := blk_frozen BK207.out 0; have hfz20_1 := blk_frozen BK207.out 1) | ((with_reducible refine gate_callee (f := 12) rfl ?_); refine goesL_ (some 18) rfl rfl Try.func12 (by kernel_rfl) rfl #[.agg #[.int .i64 a0_0, .slice A0_1 l0_1.length c0_1], .int .i64 1048576] rfl (by (try simp only [List.map_toArray, List.map_cons, List.map_nil]); first | done | rfl | (simp only [List.length_drop, List.length_take]; rfl)) ?_; (with_reducible refine (laws_szOut.calls a0_0 _ _ l0_1 1048576 t209 _ ?side1 ?side2 A3.out).mono ?_); (case side1 => repeat (first | exact (Kd.C_below HR0_1.out HB.out) | (with_reducible refine Kd.C_alloc ?_ _) | (with_reducible refine Kd.C_drewN ?_ _) | (with_reducible refine Kd.C_drew ?_))); (case side2 => exact HC0_1.out); rintro e w21 ⟨rfl, hb⟩; refine ⟨_, rfl, ?_⟩; have n0_ := k0 (kb BK207.out hb); have n1_ := k0 (kb BK208.out hb); have n2_ := k0 (below_step (kW HB.out) hb); clear BK207; clear BK208; clear HB; have BK207 := n0_; have BK208 := n1_; have HB := n2_; clear n0_ n1_ n2_; (try clear hb); (try clear hb2); (try clear hk); (try clear hi)))
  have n0_ := k0 (blk_drew BK207.out)
  have n1_ := k0 (blk_drew BK208.out)
  have n2_ := k0 (below_drew1 HB.out)
  clear BK207
  clear BK208
  clear HB
  have BK207 := n0_
  have BK208 := n1_
  have HB := n2_
  clear n0_ n1_ n2_
  refine start_ (n := 11) (S := fun w' => w'.cell? ⟨gb207, 0, none⟩ = some (.int .i64 a0_0) ∧ w'.cell? ⟨gb207, 1, none⟩ = some (.slice A0_1 l0_1.length c0_1) ∧ w'.cell? ⟨gb208, 0, none⟩ = some (.int .i64 a1_0) ∧ w'.cell? ⟨gb208, 1, none⟩ = some (.int .i64 a1_1) ∧ w'.cell? ⟨gb208, 2, none⟩ = some (.int .i64 a1_2) ∧ w'.cell? ⟨gb208, 3, none⟩ = some (.int .i64 a1_3)) (ds := []) #[false, false, false, false, false, false, false, false, false, false, false] (by kernel_rfl) rfl rfl ⟨(blk_cell BK207.out 0).trans rfl, (blk_cell BK207.out 1).trans rfl, (blk_cell BK208.out 0).trans rfl, (blk_cell BK208.out 1).trans rfl, (blk_cell BK208.out 2).trans rfl, (blk_cell BK208.out 3).trans rfl⟩ (fun hHeld => ?_); refine with_tabW laws_FnExactOutPut.tab5 laws_FnExactOutPut.bits5 (fun HT_ HW_ => ?_)
  generalize w21.drew = w22 at BK207 BK208 HB hHeld ⊢
  refine take_ (i := 0) (N := some 22) (v := ?_) (a' := ?_) #[true, false, false, false, false, false, false, false, false, false, false] rfl rfl (take_ofW HT_.out HW_.out (by kernel_rfl)) (fun _ _ _ h => h) (Or.inl ⟨by rfl, ?_⟩) hHeld ?_ ?_
  rotate_left
  ·rintro w' ⟨s0, s1, s2, s3, s4, s5⟩
   go_simp
   with_reducible rfl
  rotate_left
  ·simp only [Act.put, List.setIfInBounds_toArray, List.set_cons_zero, List.set_cons_succ, i64_w, i32_w]
   rfl
  refine take_ (i := 2) (N := some 24) (v := ?_) (a' := ?_) #[true, false, true, false, false, false, false, false, false, false, false] rfl rfl (take_ofW HT_.out HW_.out (by kernel_rfl)) (fun _ _ _ h => h) (Or.inl ⟨by rfl, ?_⟩) hHeld ?_ ?_
  rotate_left
  ·rintro w' ⟨s0, s1, s2, s3, s4, s5⟩
   go_simp
   with_reducible rfl
  rotate_left
  ·simp only [Act.put, List.setIfInBounds_toArray, List.set_cons_zero, List.set_cons_succ, i64_w, i32_w]
   rfl
  refine join_ (σ := Value × Value × Nat) 2 #[true, true, true, true, true, true, true, true, true, false, false] (fun s_ => [(23, .agg #[.int .i64 t210, s_.1]), (25, .agg #[.int .i64 t214, .int .i64 t215, .int .i64 t216, .int .i64 t217]), (26, .tuple #[.agg #[.int .i64 t218, s_.2.1], .bool t222]), (6, .pointer (some ⟨s_.2.2, 0, none⟩)), (21, .tuple #[.agg #[.int .i64 t218, s_.2.1], .bool t222]), (27, .agg #[.int .i64 t218, s_.2.1]), (28, .bool t222)]) (fun s_ w' => (w'.cell? ⟨gb207, 0, none⟩ = some (.int .i64 a0_0) ∧ w'.cell? ⟨gb207, 1, none⟩ = some (.slice A0_1 l0_1.length c0_1) ∧ w'.cell? ⟨gb208, 0, none⟩ = some (.int .i64 a1_0) ∧ w'.cell? ⟨gb208, 1, none⟩ = some (.int .i64 a1_1) ∧ w'.cell? ⟨gb208, 2, none⟩ = some (.int .i64 a1_2) ∧ w'.cell? ⟨gb208, 3, none⟩ = some (.int .i64 a1_3)) ∧ (Kd.R k35 35 w' w.heap.size (fun k_ => some k_ ≠ (s_.2.1 : Value).ownBlock) s_.1 t211) ∧ (Kd.R k35 35 w' w.heap.size (fun k_ => some k_ ≠ (s_.1 : Value).ownBlock) s_.2.1 t219) ∧ (w'.heap[gb207]? = some (.cells #[.int .i64 a0_0, .slice A0_1 l0_1.length c0_1] 24 (0, 0))) ∧ (w'.heap[gb208]? = some (.cells #[.int .i64 a1_0, .int .i64 a1_1, .int .i64 a1_2, .int .i64 a1_3] 40 (0, 0))) ∧ (w'.heap[s_.2.2]? = some (.cells #[.int .i64 0, .slice none 0 0] 29 (0, 0))) ∧ (w.heap.size ≤ s_.2.2) ∧ (w.heap.size ≤ s_.2.2) ∧ (gb207 ≠ s_.2.2) ∧ (s_.2.2 ≠ gb207) ∧ (gb208 ≠ s_.2.2) ∧ (s_.2.2 ≠ gb208) ∧ (Below w.heap.size w w')) ?_ ?_
  rotate_left
  ·intro hCont
   refine two_ (i := 1) (j := 8) (Ni := some 23) (Nj := some 6) #[true, true, true, false, false, false, false, false, false, false, false] #[true, false, true, false, false, false, false, false, true, false, false] rfl rfl rfl rfl (two_of HT_.out (by kernel_rfl)) (by decide) (by decide) (fun K hK => ?_) (fun K hK => ?_)
   ·skip
    refine goes_ Try.func14 (by kernel_rfl) rfl #[.agg #[.int .i64 a0_0, .slice A0_1 l0_1.length c0_1]] (by rfl) rfl rfl (by (try simp only [List.map_toArray, List.map_cons, List.map_nil]); first | done | rfl | (simp only [List.length_drop, List.length_take]; rfl)) ?_
    with_reducible refine (laws_toOut.calls k a0_0 _ _ l0_1 t210 t211 _ ?side1 ?side2 A10.out).mono ?_
    (case side1 => repeat (first | exact (Kd.C_below HR0_1.out HB.out) | (with_reducible refine Kd.C_alloc ?_ _) | (with_reducible refine Kd.C_drewN ?_ _) | (with_reducible refine Kd.C_drew ?_)))
    (case side2 => exact HC0_1.out)
    rintro e w23 ⟨v212, rfl, ho0, hb⟩
    refine ⟨_, rfl, ?_⟩
    have n0_ := k0 (Kd.R_lower ho0 (below_size (kW HB.out)))
    have n1_ := k0 (kb BK207.out hb)
    have n2_ := k0 (kb BK208.out hb)
    have n3_ := k0 (below_step (kW HB.out) hb)
    clear BK207
    clear BK208
    clear HB
    have HO213 := n0_
    have BK207 := n1_
    have BK208 := n2_
    have HB := n3_
    clear n0_ n1_ n2_ n3_
    (try clear hb)
    (try clear hb2)
    (try clear hk)
    (try clear hi)
    (try clear ho0)
    refine hK.out _ _ ⟨(blk_cell BK207.out 0).trans rfl, (blk_cell BK207.out 1).trans rfl, (blk_cell BK208.out 0).trans rfl, (blk_cell BK208.out 1).trans rfl, (blk_cell BK208.out 2).trans rfl, (blk_cell BK208.out 3).trans rfl⟩ (fun hHeld => ?_)
    clear hK K
    refine norm_ (a' := ?_) ?_ ?_
    rotate_left
    ·show Act.put _ (some 23) _ = _
     simp only [Act.put, List.setIfInBounds_toArray, List.set_cons_zero, List.set_cons_succ, i64_w, i32_w]
     rfl
    refine two_ (i := 3) (j := 8) (Ni := some 25) (Nj := some 6) #[true, true, true, true, false, false, false, false, false, false, false] #[true, true, true, false, false, false, false, false, true, false, false] rfl rfl rfl rfl (two_of HT_.out (by kernel_rfl)) (by decide) (by decide) (fun K hK => ?_) (fun K hK => ?_)
    ·skip
     refine goes_ Try.func23 (by kernel_rfl) rfl #[.agg #[.int .i64 a1_0, .int .i64 a1_1, .int .i64 a1_2, .int .i64 a1_3]] (by rfl) rfl rfl (by (try simp only [List.map_toArray, List.map_cons, List.map_nil]); first | done | rfl | (simp only [List.length_drop, List.length_take]; rfl)) ?_
     with_reducible refine (laws_toMsg.calls a1_0 a1_1 a1_2 a1_3 t214 t215 t216 t217 _ A11.out).mono ?_
     rintro e w24 ⟨rfl, hb⟩
     refine ⟨_, rfl, ?_⟩
     have n0_ := k0 (Kd.R_below (kR HO213.out) hb)
     have n1_ := k0 (kb BK207.out hb)
     have n2_ := k0 (kb BK208.out hb)
     have n3_ := k0 (below_step (kW HB.out) hb)
     clear HO213
     clear BK207
     clear BK208
     clear HB
     have HO213 := n0_
     have BK207 := n1_
     have BK208 := n2_
     have HB := n3_
     clear n0_ n1_ n2_ n3_
     (try clear hb)
     (try clear hb2)
     (try clear hk)
     (try clear hi)
     obtain ⟨Ao25, co25, eo25⟩ := Kd.R_slice HO213.out
     (first | subst eo25 | (injection eo25 with f1_ f2_ f3_; have f4_ := f1_.symm; have f5_ := f3_.symm; clear f1_ f2_ f3_; subst f4_; subst f5_))
     refine hK.out _ _ ⟨(blk_cell BK207.out 0).trans rfl, (blk_cell BK207.out 1).trans rfl, (blk_cell BK208.out 0).trans rfl, (blk_cell BK208.out 1).trans rfl, (blk_cell BK208.out 2).trans rfl, (blk_cell BK208.out 3).trans rfl⟩ (fun hHeld => ?_)
     clear hK K
     refine norm_ (a' := ?_) ?_ ?_
     rotate_left
     ·show Act.put _ (some 25) _ = _
      simp only [Act.put, List.setIfInBounds_toArray, List.set_cons_zero, List.set_cons_succ, i64_w, i32_w]
      rfl
     refine two_ (i := 4) (j := 8) (Ni := some 26) (Nj := some 6) #[true, true, true, true, true, false, false, false, false, false, false] #[true, true, true, true, false, false, false, false, true, false, false] rfl rfl rfl rfl (two_of HT_.out (by kernel_rfl)) (by decide) (by decide) (fun K hK => ?_) (fun K hK => ?_)
     ·skip
      refine goes_ Try.func22 (by kernel_rfl) rfl #[.agg #[.int .i64 t210, .slice Ao25 t211.length co25], .agg #[.int .i64 t214, .int .i64 t215, .int .i64 t216, .int .i64 t217]] (by rfl) rfl rfl (by (try simp only [List.map_toArray, List.map_cons, List.map_nil]); first | done | rfl | (simp only [List.length_drop, List.length_take]; rfl)) ?_
      with_reducible refine (spec_OutPut.calls k t210 _ _ t211 t214 t215 t216 t217 t218 t219 t222 _ ?side1 ?side2 A12.out).mono ?_
      (case side1 => repeat (first | exact (Kd.R_reads' HO213.out).2.2 | (with_reducible refine Kd.C_alloc ?_ _) | (with_reducible refine Kd.C_drewN ?_ _) | (with_reducible refine Kd.C_drew ?_)))
      (case side2 => exact (Kd.R_reads' HO213.out).2.1)
      rintro e w26 ⟨v220, rfl, ho0, hb⟩
      refine ⟨_, rfl, ?_⟩
      have n0_ := k0 (Kd.R_elder' (kR HO213.out) (Kd.R_base ho0) hb)
      have n1_ := k0 (Kd.R_lower (Kd.R_new' ho0 (Kd.R_lt (kR HO213.out))) (below_size (kW HB.out)))
      have n2_ := k0 (kb BK207.out hb)
      have n3_ := k0 (kb BK208.out hb)
      have n4_ := k0 (below_step (kW HB.out) hb)
      clear HO213
      clear BK207
      clear BK208
      clear HB
      have HO213 := n0_
      have HO221 := n1_
      have BK207 := n2_
      have BK208 := n3_
      have HB := n4_
      clear n0_ n1_ n2_ n3_ n4_
      (try clear hb)
      (try clear hb2)
      (try clear hk)
      (try clear hi)
      (try clear ho0)
      refine hK.out _ _ ⟨(blk_cell BK207.out 0).trans rfl, (blk_cell BK207.out 1).trans rfl, (blk_cell BK208.out 0).trans rfl, (blk_cell BK208.out 1).trans rfl, (blk_cell BK208.out 2).trans rfl, (blk_cell BK208.out 3).trans rfl⟩ (fun hHeld => ?_)
      clear hK K
      refine norm_ (a' := ?_) ?_ ?_
      rotate_left
      ·show Act.put _ (some 26) _ = _
       simp only [Act.put, List.setIfInBounds_toArray, List.set_cons_zero, List.set_cons_succ, i64_w, i32_w]
       rfl
      refine pure_ (i := 5) (N := some 21) (v := ?_) (a' := ?_) #[true, true, true, true, true, true, false, false, false, false, false] rfl rfl (any_of HT_.out (by kernel_rfl)) (fun _ _ _ h => h) (Or.inl ⟨by rfl, ?_⟩) ?_ ?_
      rotate_left
      ·intro w'
       go_simp
       with_reducible rfl
      rotate_left
      ·simp only [Act.put, List.setIfInBounds_toArray, List.set_cons_zero, List.set_cons_succ, i64_w, i32_w]
       rfl
      refine pure_ (i := 6) (N := some 27) (v := ?_) (a' := ?_) #[true, true, true, true, true, true, true, false, false, false, false] rfl rfl (any_of HT_.out (by kernel_rfl)) (fun _ _ _ h => h) (Or.inl ⟨by rfl, ?_⟩) ?_ ?_
      rotate_left
      ·intro w'
       go_simp
       with_reducible rfl
      rotate_left
      ·simp only [Act.put, List.setIfInBounds_toArray, List.set_cons_zero, List.set_cons_succ, i64_w, i32_w]
       rfl
      refine pure_ (i := 7) (N := some 28) (v := ?_) (a' := ?_) #[true, true, true, true, true, true, true, true, false, false, false] rfl rfl (any_of HT_.out (by kernel_rfl)) (fun _ _ _ h => h) (Or.inl ⟨by rfl, ?_⟩) ?_ ?_
      rotate_left
      ·intro w'
       go_simp
       with_reducible rfl
      rotate_left
      ·simp only [Act.put, List.setIfInBounds_toArray, List.set_cons_zero, List.set_cons_succ, i64_w, i32_w]
       rfl
      refine one_ (i := 8) (N := some 6) #[true, true, true, true, true, true, true, true, true, false, false] rfl rfl (one_of HT_.out (by kernel_rfl)) (by decide) (fun K hK => ?_)
      refine box_step ?hg (N := 6) ?hd (cs := #[.int .i64 0, .slice none 0 0]) (t := 29) ?hr ?_; (case hd => rfl); (case hg => rfl); (case hr => first | (go_simp; done) | (go_simp; rfl))
      intro gb223 hg w27 hbox hb
      have n0_ := k0 (Kd.R_below (kR HO213.out) hb)
      have n1_ := k0 (Kd.R_below (kR HO221.out) hb)
      have n2_ := k0 (kb BK207.out hb)
      have n3_ := k0 (kb BK208.out hb)
      have n4_ := k0 (below_step (kW HB.out) hb)
      have n5_ := k0 (hbox)
      have n6_ := k0 ((by rw [hg]; exact (below_size (kW HB.out)) : w.heap.size ≤ gb223))
      have n7_ := k0 ((by rw [hg]; exact (below_size (kW HB.out)) : w.heap.size ≤ gb223))
      have n8_ := k0 ((by rw [hg]; exact Nat.ne_of_lt (blk_lt (g := gb207) (o := .cells #[.int .i64 a0_0, .slice A0_1 l0_1.length c0_1] 24 (0, 0)) (kB BK207.out)) : gb207 ≠ gb223))
      have n9_ := k0 ((by rw [hg]; exact Nat.ne_of_gt (blk_lt (g := gb207) (o := .cells #[.int .i64 a0_0, .slice A0_1 l0_1.length c0_1] 24 (0, 0)) (kB BK207.out)) : gb223 ≠ gb207))
      have n10_ := k0 ((by rw [hg]; exact Nat.ne_of_lt (blk_lt (g := gb208) (o := .cells #[.int .i64 a1_0, .int .i64 a1_1, .int .i64 a1_2, .int .i64 a1_3] 40 (0, 0)) (kB BK208.out)) : gb208 ≠ gb223))
      have n11_ := k0 ((by rw [hg]; exact Nat.ne_of_gt (blk_lt (g := gb208) (o := .cells #[.int .i64 a1_0, .int .i64 a1_1, .int .i64 a1_2, .int .i64 a1_3] 40 (0, 0)) (kB BK208.out)) : gb223 ≠ gb208))
      clear HO213
      clear HO221
      clear BK207
      clear BK208
      clear HB
      have HO213 := n0_
      have HO221 := n1_
      have BK207 := n2_
      have BK208 := n3_
      have HB := n4_
      have BK223 := n5_
      have GW223 := n6_
      have GE223 := n7_
      have NB207_223 := n8_
      have NB223_207 := n9_
      have NB208_223 := n10_
      have NB223_208 := n11_
      clear n0_ n1_ n2_ n3_ n4_ n5_ n6_ n7_ n8_ n9_ n10_ n11_
      clear hb hbox hg
      refine hK.out _ _ ⟨(blk_cell BK207.out 0).trans rfl, (blk_cell BK207.out 1).trans rfl, (blk_cell BK208.out 0).trans rfl, (blk_cell BK208.out 1).trans rfl, (blk_cell BK208.out 2).trans rfl, (blk_cell BK208.out 3).trans rfl⟩ (fun hHeld => ?_)
      clear hK K
      refine norm_ (a' := ?_) ?_ ?_
      rotate_left
      ·show Act.put _ (some 6) _ = _
       simp only [Act.put, List.setIfInBounds_toArray, List.set_cons_zero, List.set_cons_succ, i64_w, i32_w]
       rfl
      exact norm_ (by simp only [putAll, Act.put, List.setIfInBounds_toArray, List.set_cons_zero, List.set_cons_succ]) (hCont (.slice Ao25 t211.length co25, v220, gb223) _ ⟨hHeld, (by (with_reducible repeat (first | apply Kd.R_alloc | apply Kd.R_drewN | apply Kd.R_drew)); exact Kd.R_mono HO213.out (fun _ hk => hk.2)), (by (with_reducible repeat (first | apply Kd.R_alloc | apply Kd.R_drewN | apply Kd.R_drew)); exact Kd.R_mono HO221.out (fun _ hk => hk.2)), (kB BK207.out), (kB BK208.out), (kB BK223.out), GW223.out, GE223.out, NB207_223.out, NB223_207.out, NB208_223.out, NB223_208.out, (kW HB.out)⟩)
     ·skip
      refine box_step ?hg (N := 6) ?hd (cs := #[.int .i64 0, .slice none 0 0]) (t := 29) ?hr ?_; (case hd => rfl); (case hg => rfl); (case hr => first | (go_simp; done) | (go_simp; rfl))
      intro gb223 hg w25 hbox hb
      have n0_ := k0 (Kd.R_below (kR HO213.out) hb)
      have n1_ := k0 (kb BK207.out hb)
      have n2_ := k0 (kb BK208.out hb)
      have n3_ := k0 (below_step (kW HB.out) hb)
      have n4_ := k0 (hbox)
      have n5_ := k0 ((by rw [hg]; exact (below_size (kW HB.out)) : w.heap.size ≤ gb223))
      have n6_ := k0 ((by rw [hg]; exact (below_size (kW HB.out)) : w.heap.size ≤ gb223))
      have n7_ := k0 ((by rw [hg]; exact Nat.ne_of_lt (blk_lt (g := gb207) (o := .cells #[.int .i64 a0_0, .slice A0_1 l0_1.length c0_1] 24 (0, 0)) (kB BK207.out)) : gb207 ≠ gb223))
      have n8_ := k0 ((by rw [hg]; exact Nat.ne_of_gt (blk_lt (g := gb207) (o := .cells #[.int .i64 a0_0, .slice A0_1 l0_1.length c0_1] 24 (0, 0)) (kB BK207.out)) : gb223 ≠ gb207))
      have n9_ := k0 ((by rw [hg]; exact Nat.ne_of_lt (blk_lt (g := gb208) (o := .cells #[.int .i64 a1_0, .int .i64 a1_1, .int .i64 a1_2, .int .i64 a1_3] 40 (0, 0)) (kB BK208.out)) : gb208 ≠ gb223))
      have n10_ := k0 ((by rw [hg]; exact Nat.ne_of_gt (blk_lt (g := gb208) (o := .cells #[.int .i64 a1_0, .int .i64 a1_1, .int .i64 a1_2, .int .i64 a1_3] 40 (0, 0)) (kB BK208.out)) : gb223 ≠ gb208))
      clear HO213
      clear BK207
      clear BK208
      clear HB
      have HO213 := n0_
      have BK207 := n1_
      have BK208 := n2_
      have HB := n3_
      have BK223 := n4_
      have GW223 := n5_
      have GE223 := n6_
      have NB207_223 := n7_
      have NB223_207 := n8_
      have NB208_223 := n9_
      have NB223_208 := n10_
      clear n0_ n1_ n2_ n3_ n4_ n5_ n6_ n7_ n8_ n9_ n10_
      clear hb hbox hg
      obtain ⟨Ao26, co26, eo26⟩ := Kd.R_slice HO213.out
      (first | subst eo26 | (injection eo26 with f1_ f2_ f3_; have f4_ := f1_.symm; have f5_ := f3_.symm; clear f1_ f2_ f3_; subst f4_; subst f5_))
      refine hK.out _ _ ⟨(blk_cell BK207.out 0).trans rfl, (blk_cell BK207.out 1).trans rfl, (blk_cell BK208.out 0).trans rfl, (blk_cell BK208.out 1).trans rfl, (blk_cell BK208.out 2).trans rfl, (blk_cell BK208.out 3).trans rfl⟩ (fun hHeld => ?_)
      clear hK K
      refine norm_ (a' := ?_) ?_ ?_
      rotate_left
      ·show Act.put _ (some 6) _ = _
       simp only [Act.put, List.setIfInBounds_toArray, List.set_cons_zero, List.set_cons_succ, i64_w, i32_w]
       rfl
      refine one_ (i := 4) (N := some 26) #[true, true, true, true, true, false, false, false, true, false, false] rfl rfl (one_of HT_.out (by kernel_rfl)) (by decide) (fun K hK => ?_)
      refine goes_ Try.func22 (by kernel_rfl) rfl #[.agg #[.int .i64 t210, .slice Ao26 t211.length co26], .agg #[.int .i64 t214, .int .i64 t215, .int .i64 t216, .int .i64 t217]] (by rfl) rfl rfl (by (try simp only [List.map_toArray, List.map_cons, List.map_nil]); first | done | rfl | (simp only [List.length_drop, List.length_take]; rfl)) ?_
      with_reducible refine (spec_OutPut.calls k t210 _ _ t211 t214 t215 t216 t217 t218 t219 t222 _ ?side1 ?side2 A12.out).mono ?_
      (case side1 => repeat (first | exact (Kd.R_reads' HO213.out).2.2 | (with_reducible refine Kd.C_alloc ?_ _) | (with_reducible refine Kd.C_drewN ?_ _) | (with_reducible refine Kd.C_drew ?_)))
      (case side2 => exact (Kd.R_reads' HO213.out).2.1)
      rintro e w27 ⟨v220, rfl, ho0, hb⟩
      refine ⟨_, rfl, ?_⟩
      have n0_ := k0 (Kd.R_elder' (kR HO213.out) (Kd.R_base ho0) hb)
      have n1_ := k0 (Kd.R_lower (Kd.R_new' ho0 (Kd.R_lt (kR HO213.out))) (below_size (kW HB.out)))
      have n2_ := k0 (kb BK207.out hb)
      have n3_ := k0 (kb BK208.out hb)
      have n4_ := k0 (kb BK223.out hb)
      have n5_ := k0 (below_step (kW HB.out) hb)
      clear HO213
      clear BK207
      clear BK208
      clear BK223
      clear HB
      have HO213 := n0_
      have HO221 := n1_
      have BK207 := n2_
      have BK208 := n3_
      have BK223 := n4_
      have HB := n5_
      clear n0_ n1_ n2_ n3_ n4_ n5_
      (try clear hb)
      (try clear hb2)
      (try clear hk)
      (try clear hi)
      (try clear ho0)
      refine hK.out _ _ ⟨(blk_cell BK207.out 0).trans rfl, (blk_cell BK207.out 1).trans rfl, (blk_cell BK208.out 0).trans rfl, (blk_cell BK208.out 1).trans rfl, (blk_cell BK208.out 2).trans rfl, (blk_cell BK208.out 3).trans rfl⟩ (fun hHeld => ?_)
      clear hK K
      refine norm_ (a' := ?_) ?_ ?_
      rotate_left
      ·show Act.put _ (some 26) _ = _
       simp only [Act.put, List.setIfInBounds_toArray, List.set_cons_zero, List.set_cons_succ, i64_w, i32_w]
       rfl
      refine pure_ (i := 5) (N := some 21) (v := ?_) (a' := ?_) #[true, true, true, true, true, true, false, false, true, false, false] rfl rfl (any_of HT_.out (by kernel_rfl)) (fun _ _ _ h => h) (Or.inl ⟨by rfl, ?_⟩) ?_ ?_
      rotate_left
      ·intro w'
       go_simp
       with_reducible rfl
      rotate_left
      ·simp only [Act.put, List.setIfInBounds_toArray, List.set_cons_zero, List.set_cons_succ, i64_w, i32_w]
       rfl
      refine pure_ (i := 6) (N := some 27) (v := ?_) (a' := ?_) #[true, true, true, true, true, true, true, false, true, false, false] rfl rfl (any_of HT_.out (by kernel_rfl)) (fun _ _ _ h => h) (Or.inl ⟨by rfl, ?_⟩) ?_ ?_
      rotate_left
      ·intro w'
       go_simp
       with_reducible rfl
      rotate_left
      ·simp only [Act.put, List.setIfInBounds_toArray, List.set_cons_zero, List.set_cons_succ, i64_w, i32_w]
       rfl
      refine pure_ (i := 7) (N := some 28) (v := ?_) (a' := ?_) #[true, true, true, true, true, true, true, true, true, false, false] rfl rfl (any_of HT_.out (by kernel_rfl)) (fun _ _ _ h => h) (Or.inl ⟨by rfl, ?_⟩) ?_ ?_
      rotate_left
      ·intro w'
       go_simp
       with_reducible rfl
      rotate_left
      ·simp only [Act.put, List.setIfInBounds_toArray, List.set_cons_zero, List.set_cons_succ, i64_w, i32_w]
       rfl
      exact norm_ (by simp only [putAll, Act.put, List.setIfInBounds_toArray, List.set_cons_zero, List.set_cons_succ]) (hCont (.slice Ao26 t211.length co26, v220, gb223) _ ⟨hHeld, (by (with_reducible repeat (first | apply Kd.R_alloc | apply Kd.R_drewN | apply Kd.R_drew)); exact Kd.R_mono HO213.out (fun _ hk => hk.2)), (by (with_reducible repeat (first | apply Kd.R_alloc | apply Kd.R_drewN | apply Kd.R_drew)); exact Kd.R_mono HO221.out (fun _ hk => hk.2)), (kB BK207.out), (kB BK208.out), (kB BK223.out), GW223.out, GE223.out, NB207_223.out, NB223_207.out, NB208_223.out, NB223_208.out, (kW HB.out)⟩)
    ·skip
     refine box_step ?hg (N := 6) ?hd (cs := #[.int .i64 0, .slice none 0 0]) (t := 29) ?hr ?_; (case hd => rfl); (case hg => rfl); (case hr => first | (go_simp; done) | (go_simp; rfl))
     intro gb223 hg w24 hbox hb
     have n0_ := k0 (Kd.R_below (kR HO213.out) hb)
     have n1_ := k0 (kb BK207.out hb)
     have n2_ := k0 (kb BK208.out hb)
     have n3_ := k0 (below_step (kW HB.out) hb)
     have n4_ := k0 (hbox)
     have n5_ := k0 ((by rw [hg]; exact (below_size (kW HB.out)) : w.heap.size ≤ gb223))
     have n6_ := k0 ((by rw [hg]; exact (below_size (kW HB.out)) : w.heap.size ≤ gb223))
     have n7_ := k0 ((by rw [hg]; exact Nat.ne_of_lt (blk_lt (g := gb207) (o := .cells #[.int .i64 a0_0, .slice A0_1 l0_1.length c0_1] 24 (0, 0)) (kB BK207.out)) : gb207 ≠ gb223))
     have n8_ := k0 ((by rw [hg]; exact Nat.ne_of_gt (blk_lt (g := gb207) (o := .cells #[.int .i64 a0_0, .slice A0_1 l0_1.length c0_1] 24 (0, 0)) (kB BK207.out)) : gb223 ≠ gb207))
     have n9_ := k0 ((by rw [hg]; exact Nat.ne_of_lt (blk_lt (g := gb208) (o := .cells #[.int .i64 a1_0, .int .i64 a1_1, .int .i64 a1_2, .int .i64 a1_3] 40 (0, 0)) (kB BK208.out)) : gb208 ≠ gb223))
     have n10_ := k0 ((by rw [hg]; exact Nat.ne_of_gt (blk_lt (g := gb208) (o := .cells #[.int .i64 a1_0, .int .i64 a1_1, .int .i64 a1_2, .int .i64 a1_3] 40 (0, 0)) (kB BK208.out)) : gb223 ≠ gb208))
     clear HO213
     clear BK207
     clear BK208
     clear HB
     have HO213 := n0_
     have BK207 := n1_
     have BK208 := n2_
     have HB := n3_
     have BK223 := n4_
     have GW223 := n5_
     have GE223 := n6_
     have NB207_223 := n7_
     have NB223_207 := n8_
     have NB208_223 := n9_
     have NB223_208 := n10_
     clear n0_ n1_ n2_ n3_ n4_ n5_ n6_ n7_ n8_ n9_ n10_
     clear hb hbox hg
     refine hK.out _ _ ⟨(blk_cell BK207.out 0).trans rfl, (blk_cell BK207.out 1).trans rfl, (blk_cell BK208.out 0).trans rfl, (blk_cell BK208.out 1).trans rfl, (blk_cell BK208.out 2).trans rfl, (blk_cell BK208.out 3).trans rfl⟩ (fun hHeld => ?_)
     clear hK K
     refine norm_ (a' := ?_) ?_ ?_
     rotate_left
     ·show Act.put _ (some 6) _ = _
      simp only [Act.put, List.setIfInBounds_toArray, List.set_cons_zero, List.set_cons_succ, i64_w, i32_w]
      rfl
     refine one_ (i := 3) (N := some 25) #[true, true, true, true, false, false, false, false, true, false, false] rfl rfl (one_of HT_.out (by kernel_rfl)) (by decide) (fun K hK => ?_)
     refine goes_ Try.func23 (by kernel_rfl) rfl #[.agg #[.int .i64 a1_0, .int .i64 a1_1, .int .i64 a1_2, .int .i64 a1_3]] (by rfl) rfl rfl (by (try simp only [List.map_toArray, List.map_cons, List.map_nil]); first | done | rfl | (simp only [List.length_drop, List.length_take]; rfl)) ?_
     with_reducible refine (laws_toMsg.calls a1_0 a1_1 a1_2 a1_3 t214 t215 t216 t217 _ A11.out).mono ?_
     rintro e w25 ⟨rfl, hb⟩
     refine ⟨_, rfl, ?_⟩
     have n0_ := k0 (Kd.R_below (kR HO213.out) hb)
     have n1_ := k0 (kb BK207.out hb)
     have n2_ := k0 (kb BK208.out hb)
     have n3_ := k0 (kb BK223.out hb)
     have n4_ := k0 (below_step (kW HB.out) hb)
     clear HO213
     clear BK207
     clear BK208
     clear BK223
     clear HB
     have HO213 := n0_
     have BK207 := n1_
     have BK208 := n2_
     have BK223 := n3_
     have HB := n4_
     clear n0_ n1_ n2_ n3_ n4_
     (try clear hb)
     (try clear hb2)
     (try clear hk)
     (try clear hi)
     obtain ⟨Ao26, co26, eo26⟩ := Kd.R_slice HO213.out
     (first | subst eo26 | (injection eo26 with f1_ f2_ f3_; have f4_ := f1_.symm; have f5_ := f3_.symm; clear f1_ f2_ f3_; subst f4_; subst f5_))
     refine hK.out _ _ ⟨(blk_cell BK207.out 0).trans rfl, (blk_cell BK207.out 1).trans rfl, (blk_cell BK208.out 0).trans rfl, (blk_cell BK208.out 1).trans rfl, (blk_cell BK208.out 2).trans rfl, (blk_cell BK208.out 3).trans rfl⟩ (fun hHeld => ?_)
     clear hK K
     refine norm_ (a' := ?_) ?_ ?_
     rotate_left
     ·show Act.put _ (some 25) _ = _
      simp only [Act.put, List.setIfInBounds_toArray, List.set_cons_zero, List.set_cons_succ, i64_w, i32_w]
      rfl
     refine one_ (i := 4) (N := some 26) #[true, true, true, true, true, false, false, false, true, false, false] rfl rfl (one_of HT_.out (by kernel_rfl)) (by decide) (fun K hK => ?_)
     refine goes_ Try.func22 (by kernel_rfl) rfl #[.agg #[.int .i64 t210, .slice Ao26 t211.length co26], .agg #[.int .i64 t214, .int .i64 t215, .int .i64 t216, .int .i64 t217]] (by rfl) rfl rfl (by (try simp only [List.map_toArray, List.map_cons, List.map_nil]); first | done | rfl | (simp only [List.length_drop, List.length_take]; rfl)) ?_
     with_reducible refine (spec_OutPut.calls k t210 _ _ t211 t214 t215 t216 t217 t218 t219 t222 _ ?side1 ?side2 A12.out).mono ?_
     (case side1 => repeat (first | exact (Kd.R_reads' HO213.out).2.2 | (with_reducible refine Kd.C_alloc ?_ _) | (with_reducible refine Kd.C_drewN ?_ _) | (with_reducible refine Kd.C_drew ?_)))
     (case side2 => exact (Kd.R_reads' HO213.out).2.1)
     rintro e w27 ⟨v220, rfl, ho0, hb⟩
     refine ⟨_, rfl, ?_⟩
     have n0_ := k0 (Kd.R_elder' (kR HO213.out) (Kd.R_base ho0) hb)
     have n1_ := k0 (Kd.R_lower (Kd.R_new' ho0 (Kd.R_lt (kR HO213.out))) (below_size (kW HB.out)))
     have n2_ := k0 (kb BK207.out hb)
     have n3_ := k0 (kb BK208.out hb)
     have n4_ := k0 (kb BK223.out hb)
     have n5_ := k0 (below_step (kW HB.out) hb)
     clear HO213
     clear BK207
     clear BK208
     clear BK223
     clear HB
     have HO213 := n0_
     have HO221 := n1_
     have BK207 := n2_
     have BK208 := n3_
     have BK223 := n4_
     have HB := n5_
     clear n0_ n1_ n2_ n3_ n4_ n5_
     (try clear hb)
     (try clear hb2)
     (try clear hk)
     (try clear hi)
     (try clear ho0)
     refine hK.out _ _ ⟨(blk_cell BK207.out 0).trans rfl, (blk_cell BK207.out 1).trans rfl, (blk_cell BK208.out 0).trans rfl, (blk_cell BK208.out 1).trans rfl, (blk_cell BK208.out 2).trans rfl, (blk_cell BK208.out 3).trans rfl⟩ (fun hHeld => ?_)
     clear hK K
     refine norm_ (a' := ?_) ?_ ?_
     rotate_left
     ·show Act.put _ (some 26) _ = _
      simp only [Act.put, List.setIfInBounds_toArray, List.set_cons_zero, List.set_cons_succ, i64_w, i32_w]
      rfl
     refine pure_ (i := 5) (N := some 21) (v := ?_) (a' := ?_) #[true, true, true, true, true, true, false, false, true, false, false] rfl rfl (any_of HT_.out (by kernel_rfl)) (fun _ _ _ h => h) (Or.inl ⟨by rfl, ?_⟩) ?_ ?_
     rotate_left
     ·intro w'
      go_simp
      with_reducible rfl
     rotate_left
     ·simp only [Act.put, List.setIfInBounds_toArray, List.set_cons_zero, List.set_cons_succ, i64_w, i32_w]
      rfl
     refine pure_ (i := 6) (N := some 27) (v := ?_) (a' := ?_) #[true, true, true, true, true, true, true, false, true, false, false] rfl rfl (any_of HT_.out (by kernel_rfl)) (fun _ _ _ h => h) (Or.inl ⟨by rfl, ?_⟩) ?_ ?_
     rotate_left
     ·intro w'
      go_simp
      with_reducible rfl
     rotate_left
     ·simp only [Act.put, List.setIfInBounds_toArray, List.set_cons_zero, List.set_cons_succ, i64_w, i32_w]
      rfl
     refine pure_ (i := 7) (N := some 28) (v := ?_) (a' := ?_) #[true, true, true, true, true, true, true, true, true, false, false] rfl rfl (any_of HT_.out (by kernel_rfl)) (fun _ _ _ h => h) (Or.inl ⟨by rfl, ?_⟩) ?_ ?_
     rotate_left
     ·intro w'
      go_simp
      with_reducible rfl
     rotate_left
     ·simp only [Act.put, List.setIfInBounds_toArray, List.set_cons_zero, List.set_cons_succ, i64_w, i32_w]
      rfl
     exact norm_ (by simp only [putAll, Act.put, List.setIfInBounds_toArray, List.set_cons_zero, List.set_cons_succ]) (hCont (.slice Ao26 t211.length co26, v220, gb223) _ ⟨hHeld, (by (with_reducible repeat (first | apply Kd.R_alloc | apply Kd.R_drewN | apply Kd.R_drew)); exact Kd.R_mono HO213.out (fun _ hk => hk.2)), (by (with_reducible repeat (first | apply Kd.R_alloc | apply Kd.R_drewN | apply Kd.R_drew)); exact Kd.R_mono HO221.out (fun _ hk => hk.2)), (kB BK207.out), (kB BK208.out), (kB BK223.out), GW223.out, GE223.out, NB207_223.out, NB223_207.out, NB208_223.out, NB223_208.out, (kW HB.out)⟩)
   ·skip
    refine box_step ?hg (N := 6) ?hd (cs := #[.int .i64 0, .slice none 0 0]) (t := 29) ?hr ?_; (case hd => rfl); (case hg => rfl); (case hr => first | (go_simp; done) | (go_simp; rfl))
    intro gb223 hg w23 hbox hb
    have n0_ := k0 (kb BK207.out hb)
    have n1_ := k0 (kb BK208.out hb)
    have n2_ := k0 (below_step (kW HB.out) hb)
    have n3_ := k0 (hbox)
    have n4_ := k0 ((by rw [hg]; exact (below_size (kW HB.out)) : w.heap.size ≤ gb223))
    have n5_ := k0 ((by rw [hg]; exact (below_size (kW HB.out)) : w.heap.size ≤ gb223))
    have n6_ := k0 ((by rw [hg]; exact Nat.ne_of_lt (blk_lt (g := gb207) (o := .cells #[.int .i64 a0_0, .slice A0_1 l0_1.length c0_1] 24 (0, 0)) (kB BK207.out)) : gb207 ≠ gb223))
    have n7_ := k0 ((by rw [hg]; exact Nat.ne_of_gt (blk_lt (g := gb207) (o := .cells #[.int .i64 a0_0, .slice A0_1 l0_1.length c0_1] 24 (0, 0)) (kB BK207.out)) : gb223 ≠ gb207))
    have n8_ := k0 ((by rw [hg]; exact Nat.ne_of_lt (blk_lt (g := gb208) (o := .cells #[.int .i64 a1_0, .int .i64 a1_1, .int .i64 a1_2, .int .i64 a1_3] 40 (0, 0)) (kB BK208.out)) : gb208 ≠ gb223))
    have n9_ := k0 ((by rw [hg]; exact Nat.ne_of_gt (blk_lt (g := gb208) (o := .cells #[.int .i64 a1_0, .int .i64 a1_1, .int .i64 a1_2, .int .i64 a1_3] 40 (0, 0)) (kB BK208.out)) : gb223 ≠ gb208))
    clear BK207
    clear BK208
    clear HB
    have BK207 := n0_
    have BK208 := n1_
    have HB := n2_
    have BK223 := n3_
    have GW223 := n4_
    have GE223 := n5_
    have NB207_223 := n6_
    have NB223_207 := n7_
    have NB208_223 := n8_
    have NB223_208 := n9_
    clear n0_ n1_ n2_ n3_ n4_ n5_ n6_ n7_ n8_ n9_
    clear hb hbox hg
    refine hK.out _ _ ⟨(blk_cell BK207.out 0).trans rfl, (blk_cell BK207.out 1).trans rfl, (blk_cell BK208.out 0).trans rfl, (blk_cell BK208.out 1).trans rfl, (blk_cell BK208.out 2).trans rfl, (blk_cell BK208.out 3).trans rfl⟩ (fun hHeld => ?_)
    clear hK K
    refine norm_ (a' := ?_) ?_ ?_
    rotate_left
    ·show Act.put _ (some 6) _ = _
     simp only [Act.put, List.setIfInBounds_toArray, List.set_cons_zero, List.set_cons_succ, i64_w, i32_w]
     rfl
    refine one_ (i := 1) (N := some 23) #[true, true, true, false, false, false, false, false, true, false, false] rfl rfl (one_of HT_.out (by kernel_rfl)) (by decide) (fun K hK => ?_)
    refine goes_ Try.func14 (by kernel_rfl) rfl #[.agg #[.int .i64 a0_0, .slice A0_1 l0_1.length c0_1]] (by rfl) rfl rfl (by (try simp only [List.map_toArray, List.map_cons, List.map_nil]); first | done | rfl | (simp only [List.length_drop, List.length_take]; rfl)) ?_
    with_reducible refine (laws_toOut.calls k a0_0 _ _ l0_1 t210 t211 _ ?side1 ?side2 A10.out).mono ?_
    (case side1 => repeat (first | exact (Kd.C_below HR0_1.out HB.out) | (with_reducible refine Kd.C_alloc ?_ _) | (with_reducible refine Kd.C_drewN ?_ _) | (with_reducible refine Kd.C_drew ?_)))
    (case side2 => exact HC0_1.out)
    rintro e w24 ⟨v212, rfl, ho0, hb⟩
    refine ⟨_, rfl, ?_⟩
    have n0_ := k0 (Kd.R_lower ho0 (below_size (kW HB.out)))
    have n1_ := k0 (kb BK207.out hb)
    have n2_ := k0 (kb BK208.out hb)
    have n3_ := k0 (kb BK223.out hb)
    have n4_ := k0 (below_step (kW HB.out) hb)
    clear BK207
    clear BK208
    clear BK223
    clear HB
    have HO213 := n0_
    have BK207 := n1_
    have BK208 := n2_
    have BK223 := n3_
    have HB := n4_
    clear n0_ n1_ n2_ n3_ n4_
    (try clear hb)
    (try clear hb2)
    (try clear hk)
    (try clear hi)
    (try clear ho0)
    refine hK.out _ _ ⟨(blk_cell BK207.out 0).trans rfl, (blk_cell BK207.out 1).trans rfl, (blk_cell BK208.out 0).trans rfl, (blk_cell BK208.out 1).trans rfl, (blk_cell BK208.out 2).trans rfl, (blk_cell BK208.out 3).trans rfl⟩ (fun hHeld => ?_)
    clear hK K
    refine norm_ (a' := ?_) ?_ ?_
    rotate_left
    ·show Act.put _ (some 23) _ = _
     simp only [Act.put, List.setIfInBounds_toArray, List.set_cons_zero, List.set_cons_succ, i64_w, i32_w]
     rfl
    refine one_ (i := 3) (N := some 25) #[true, true, true, true, false, false, false, false, true, false, false] rfl rfl (one_of HT_.out (by kernel_rfl)) (by decide) (fun K hK => ?_)
    refine goes_ Try.func23 (by kernel_rfl) rfl #[.agg #[.int .i64 a1_0, .int .i64 a1_1, .int .i64 a1_2, .int .i64 a1_3]] (by rfl) rfl rfl (by (try simp only [List.map_toArray, List.map_cons, List.map_nil]); first | done | rfl | (simp only [List.length_drop, List.length_take]; rfl)) ?_
    with_reducible refine (laws_toMsg.calls a1_0 a1_1 a1_2 a1_3 t214 t215 t216 t217 _ A11.out).mono ?_
    rintro e w25 ⟨rfl, hb⟩
    refine ⟨_, rfl, ?_⟩
    have n0_ := k0 (Kd.R_below (kR HO213.out) hb)
    have n1_ := k0 (kb BK207.out hb)
    have n2_ := k0 (kb BK208.out hb)
    have n3_ := k0 (kb BK223.out hb)
    have n4_ := k0 (below_step (kW HB.out) hb)
    clear HO213
    clear BK207
    clear BK208
    clear BK223
    clear HB
    have HO213 := n0_
    have BK207 := n1_
    have BK208 := n2_
    have BK223 := n3_
    have HB := n4_
    clear n0_ n1_ n2_ n3_ n4_
    (try clear hb)
    (try clear hb2)
    (try clear hk)
    (try clear hi)
    obtain ⟨Ao26, co26, eo26⟩ := Kd.R_slice HO213.out
    (first | subst eo26 | (injection eo26 with f1_ f2_ f3_; have f4_ := f1_.symm; have f5_ := f3_.symm; clear f1_ f2_ f3_; subst f4_; subst f5_))
    refine hK.out _ _ ⟨(blk_cell BK207.out 0).trans rfl, (blk_cell BK207.out 1).trans rfl, (blk_cell BK208.out 0).trans rfl, (blk_cell BK208.out 1).trans rfl, (blk_cell BK208.out 2).trans rfl, (blk_cell BK208.out 3).trans rfl⟩ (fun hHeld => ?_)
    clear hK K
    refine norm_ (a' := ?_) ?_ ?_
    rotate_left
    ·show Act.put _ (some 25) _ = _
     simp only [Act.put, List.setIfInBounds_toArray, List.set_cons_zero, List.set_cons_succ, i64_w, i32_w]
     rfl
    refine one_ (i := 4) (N := some 26) #[true, true, true, true, true, false, false, false, true, false, false] rfl rfl (one_of HT_.out (by kernel_rfl)) (by decide) (fun K hK => ?_)
    refine goes_ Try.func22 (by kernel_rfl) rfl #[.agg #[.int .i64 t210, .slice Ao26 t211.length co26], .agg #[.int .i64 t214, .int .i64 t215, .int .i64 t216, .int .i64 t217]] (by rfl) rfl rfl (by (try simp only [List.map_toArray, List.map_cons, List.map_nil]); first | done | rfl | (simp only [List.length_drop, List.length_take]; rfl)) ?_
    with_reducible refine (spec_OutPut.calls k t210 _ _ t211 t214 t215 t216 t217 t218 t219 t222 _ ?side1 ?side2 A12.out).mono ?_
    (case side1 => repeat (first | exact (Kd.R_reads' HO213.out).2.2 | (with_reducible refine Kd.C_alloc ?_ _) | (with_reducible refine Kd.C_drewN ?_ _) | (with_reducible refine Kd.C_drew ?_)))
    (case side2 => exact (Kd.R_reads' HO213.out).2.1)
    rintro e w27 ⟨v220, rfl, ho0, hb⟩
    refine ⟨_, rfl, ?_⟩
    have n0_ := k0 (Kd.R_elder' (kR HO213.out) (Kd.R_base ho0) hb)
    have n1_ := k0 (Kd.R_lower (Kd.R_new' ho0 (Kd.R_lt (kR HO213.out))) (below_size (kW HB.out)))
    have n2_ := k0 (kb BK207.out hb)
    have n3_ := k0 (kb BK208.out hb)
    have n4_ := k0 (kb BK223.out hb)
    have n5_ := k0 (below_step (kW HB.out) hb)
    clear HO213
    clear BK207
    clear BK208
    clear BK223
    clear HB
    have HO213 := n0_
    have HO221 := n1_
    have BK207 := n2_
    have BK208 := n3_
    have BK223 := n4_
    have HB := n5_
    clear n0_ n1_ n2_ n3_ n4_ n5_
    (try clear hb)
    (try clear hb2)
    (try clear hk)
    (try clear hi)
    (try clear ho0)
    refine hK.out _ _ ⟨(blk_cell BK207.out 0).trans rfl, (blk_cell BK207.out 1).trans rfl, (blk_cell BK208.out 0).trans rfl, (blk_cell BK208.out 1).trans rfl, (blk_cell BK208.out 2).trans rfl, (blk_cell BK208.out 3).trans rfl⟩ (fun hHeld => ?_)
    clear hK K
    refine norm_ (a' := ?_) ?_ ?_
    rotate_left
    ·show Act.put _ (some 26) _ = _
     simp only [Act.put, List.setIfInBounds_toArray, List.set_cons_zero, List.set_cons_succ, i64_w, i32_w]
     rfl
    refine pure_ (i := 5) (N := some 21) (v := ?_) (a' := ?_) #[true, true, true, true, true, true, false, false, true, false, false] rfl rfl (any_of HT_.out (by kernel_rfl)) (fun _ _ _ h => h) (Or.inl ⟨by rfl, ?_⟩) ?_ ?_
    rotate_left
    ·intro w'
     go_simp
     with_reducible rfl
    rotate_left
    ·simp only [Act.put, List.setIfInBounds_toArray, List.set_cons_zero, List.set_cons_succ, i64_w, i32_w]
     rfl
    refine pure_ (i := 6) (N := some 27) (v := ?_) (a' := ?_) #[true, true, true, true, true, true, true, false, true, false, false] rfl rfl (any_of HT_.out (by kernel_rfl)) (fun _ _ _ h => h) (Or.inl ⟨by rfl, ?_⟩) ?_ ?_
    rotate_left
    ·intro w'
     go_simp
     with_reducible rfl
    rotate_left
    ·simp only [Act.put, List.setIfInBounds_toArray, List.set_cons_zero, List.set_cons_succ, i64_w, i32_w]
     rfl
    refine pure_ (i := 7) (N := some 28) (v := ?_) (a' := ?_) #[true, true, true, true, true, true, true, true, true, false, false] rfl rfl (any_of HT_.out (by kernel_rfl)) (fun _ _ _ h => h) (Or.inl ⟨by rfl, ?_⟩) ?_ ?_
    rotate_left
    ·intro w'
     go_simp
     with_reducible rfl
    rotate_left
    ·simp only [Act.put, List.setIfInBounds_toArray, List.set_cons_zero, List.set_cons_succ, i64_w, i32_w]
     rfl
    exact norm_ (by simp only [putAll, Act.put, List.setIfInBounds_toArray, List.set_cons_zero, List.set_cons_succ]) (hCont (.slice Ao26 t211.length co26, v220, gb223) _ ⟨hHeld, (by (with_reducible repeat (first | apply Kd.R_alloc | apply Kd.R_drewN | apply Kd.R_drew)); exact Kd.R_mono HO213.out (fun _ hk => hk.2)), (by (with_reducible repeat (first | apply Kd.R_alloc | apply Kd.R_drewN | apply Kd.R_drew)); exact Kd.R_mono HO221.out (fun _ hk => hk.2)), (kB BK207.out), (kB BK208.out), (kB BK223.out), GW223.out, GE223.out, NB207_223.out, NB223_207.out, NB208_223.out, NB223_208.out, (kW HB.out)⟩)
  rintro ⟨v212, v220, gb223⟩ w28 ⟨hS_, h0_, h1_, h2_, h3_, h4_, h5_, h6_, h7_, h8_, h9_, h10_, h11_⟩
  have n0_ : Aside0 (Kd.R k35 35 w28 w.heap.size (fun k_ => some k_ ≠ (v220 : Value).ownBlock) v212 t211) := ⟨h0_⟩
  have n1_ : Aside0 (Kd.R k35 35 w28 w.heap.size (fun k_ => some k_ ≠ (v212 : Value).ownBlock) v220 t219) := ⟨h1_⟩
  have n2_ : Aside0 (w28.heap[gb207]? = some (.cells #[.int .i64 a0_0, .slice A0_1 l0_1.length c0_1] 24 (0, 0))) := ⟨h2_⟩
  have n3_ : Aside0 (w28.heap[gb208]? = some (.cells #[.int .i64 a1_0, .int .i64 a1_1, .int .i64 a1_2, .int .i64 a1_3] 40 (0, 0))) := ⟨h3_⟩
  have n4_ : Aside0 (w28.heap[gb223]? = some (.cells #[.int .i64 0, .slice none 0 0] 29 (0, 0))) := ⟨h4_⟩
  have n5_ : Aside0 (w.heap.size ≤ gb223) := ⟨h5_⟩
  have n6_ : Aside0 (w.heap.size ≤ gb223) := ⟨h6_⟩
  have n7_ : Aside0 (gb207 ≠ gb223) := ⟨h7_⟩
  have n8_ : Aside0 (gb223 ≠ gb207) := ⟨h8_⟩
  have n9_ : Aside0 (gb208 ≠ gb223) := ⟨h9_⟩
  have n10_ : Aside0 (gb223 ≠ gb208) := ⟨h10_⟩
  have n11_ : Aside0 (Below w.heap.size w w28) := ⟨h11_⟩
  clear BK207
  clear BK208
  clear HB
  clear h0_ h1_ h2_ h3_ h4_ h5_ h6_ h7_ h8_ h9_ h10_ h11_
  have HO213 := n0_
  have HO221 := n1_
  have BK207 := n2_
  have BK208 := n3_
  have BK223 := n4_
  have GW223 := n5_
  have GE223 := n6_
  have NB207_223 := n7_
  have NB223_207 := n8_
  have NB208_223 := n9_
  have NB223_208 := n10_
  have HB := n11_
  clear n0_ n1_ n2_ n3_ n4_ n5_ n6_ n7_ n8_ n9_ n10_ n11_
  have hHeld : w28.cell? ⟨gb207, 0, none⟩ = some (.int .i64 a0_0) ∧ w28.cell? ⟨gb207, 1, none⟩ = some (.slice A0_1 l0_1.length c0_1) ∧ w28.cell? ⟨gb208, 0, none⟩ = some (.int .i64 a1_0) ∧ w28.cell? ⟨gb208, 1, none⟩ = some (.int .i64 a1_1) ∧ w28.cell? ⟨gb208, 2, none⟩ = some (.int .i64 a1_2) ∧ w28.cell? ⟨gb208, 3, none⟩ = some (.int .i64 a1_3) := hS_
  obtain ⟨Ao30, co30, eo30⟩ := Kd.R_slice HO221.out
  (first | subst eo30 | (injection eo30 with f1_ f2_ f3_; have f4_ := f1_.symm; have f5_ := f3_.symm; clear f1_ f2_ f3_; subst f4_; subst f5_))
  refine norm_ (a' := ?_) ?_ ?_
  rotate_left
  ·simp only [putAll, Act.put, List.setIfInBounds_toArray, List.set_cons_zero, List.set_cons_succ]
   rfl
  refine one_ (i := 9) (N := none) #[true, true, true, true, true, true, true, true, true, true, false] rfl rfl (one_of HT_.out (by kernel_rfl)) (by decide) (fun K hK => ?_)
  have hs29 : w28.cell? ⟨gb223, 0, none⟩ = some (.int .i64 0) := (blk_cell BK223.out 0).trans rfl
  have hfs29 := blk_frozen BK223.out 0
  have hns29_0 := NB207_223.out
  have hns29_1 := NB208_223.out
  have hms29_0 := NB223_207.out
  have hms29_1 := NB223_208.out
  have hs31 : w28.cell? ⟨gb223, 1, none⟩ = some (.slice none 0 0) := (blk_cell BK223.out 1).trans rfl
  have hfs31 := blk_frozen BK223.out 1
  have hns31_0 := NB207_223.out
  have hns31_1 := NB208_223.out
  have hms31_0 := NB223_207.out
  have hms31_1 := NB223_208.out
  refine skip_ (w1 := ?_) (by rfl) rfl ?_ ?_
  rotate_left
  ·go_simp
   rfl
  refine hK.out _ _ ⟨((cell_far (p := ⟨gb223, _, none⟩) NB207_223.out _).trans (((cell_far (p := ⟨gb223, _, none⟩) NB207_223.out _).trans (hHeld.1)))), ((cell_far (p := ⟨gb223, _, none⟩) NB207_223.out _).trans (((cell_far (p := ⟨gb223, _, none⟩) NB207_223.out _).trans (hHeld.2.1)))), ((cell_far (p := ⟨gb223, _, none⟩) NB208_223.out _).trans (((cell_far (p := ⟨gb223, _, none⟩) NB208_223.out _).trans (hHeld.2.2.1)))), ((cell_far (p := ⟨gb223, _, none⟩) NB208_223.out _).trans (((cell_far (p := ⟨gb223, _, none⟩) NB208_223.out _).trans (hHeld.2.2.2.1)))), ((cell_far (p := ⟨gb223, _, none⟩) NB208_223.out _).trans (((cell_far (p := ⟨gb223, _, none⟩) NB208_223.out _).trans (hHeld.2.2.2.2.1)))), ((cell_far (p := ⟨gb223, _, none⟩) NB208_223.out _).trans (((cell_far (p := ⟨gb223, _, none⟩) NB208_223.out _).trans (hHeld.2.2.2.2.2))))⟩ (fun hHeld => ?_)
  clear hK K
  refine pure_ (i := 10) (N := some 7) (v := ?_) (a' := ?_) #[true, true, true, true, true, true, true, true, true, true, true] rfl rfl (any_of HT_.out (by kernel_rfl)) (fun _ _ _ h => h) (Or.inl ⟨by rfl, ?_⟩) ?_ ?_
  rotate_left
  ·intro w'
   go_simp
   with_reducible rfl
  rotate_left
  ·simp only [Act.put, List.setIfInBounds_toArray, List.set_cons_zero, List.set_cons_succ, i64_w, i32_w]
   rfl
  refine done_ (done_of HT_.out (by kernel_rfl)) ?_
  have hnb32 := NB207_223.out
  have hnc32 := NB223_207.out
  have hcz33_0 : w28.cell? ⟨gb207, 0, none⟩ = some (.int .i64 a0_0) := (blk_cell BK207.out 0).trans rfl
  have hcz33_1 : w28.cell? ⟨gb207, 1, none⟩ = some (.slice A0_1 l0_1.length c0_1) := (blk_cell BK207.out 1).trans rfl
  have hfz33_0 := blk_frozen BK207.out 0
  have hfz33_1 := blk_frozen BK207.out 1
  try go_wp2_with (first | ((with_reducible refine gate_callee (f := 14) rfl ?_); refine goesL_ (some 30) rfl rfl Try.func14 (by kernel_rfl) rfl #[.agg #[.int .i64 a0_0, .slice A0_1 l0_1.length c0_1]] rfl (by (try simp only [List.map_toArray, List.map_cons, List.map_nil]); first | done | rfl | (simp only [List.length_drop, List.length_take]; rfl)) ?_; (with_reducible refine (laws_toOut.calls k a0_0 _ _ l0_1 t224 t225 _ ?side1 ?side2 A13.out).mono ?_); (case side1 => exact Kd.C_below HR0_1.out (kW HB.out)); (case side2 => exact HC0_1.out); rintro e w34 ⟨v226, rfl, ho0, hb⟩; refine ⟨_, rfl, ?_⟩; have n0_ := k0 (Kd.R_elder' (by (with_reducible repeat (first | apply Kd.R_alloc | apply Kd.R_drewN | apply Kd.R_drew)); exact (Kd.R_mono (Kd.R_far (p := ⟨gb223, 1, none⟩) (Kd.R_far (p := ⟨gb223, 0, none⟩) (Kd.R_types HO213.out BK223.out (by decide)) (fun _ hk => hk.2) (.int .i64 t218)) (fun _ hk => hk.2) (.slice Ao30 t219.length co30)) (fun _ h_ => h_.1))) (Kd.R_base ho0) hb); have n1_ := k0 (Kd.R_elder' (by (with_reducible repeat (first | apply Kd.R_alloc | apply Kd.R_drewN | apply Kd.R_drew)); exact (Kd.R_mono (Kd.R_far (p := ⟨gb223, 1, none⟩) (Kd.R_far (p := ⟨gb223, 0, none⟩) (Kd.R_types HO221.out BK223.out (by decide)) (fun _ hk => hk.2) (.int .i64 t218)) (fun _ hk => hk.2) (.slice Ao30 t219.length co30)) (fun _ h_ => h_.1))) (Kd.R_base ho0) hb); have n2_ := k0 (Kd.R_lower (Kd.R_new' (Kd.R_new' ho0 (Kd.R_lt (by (with_reducible repeat (first | apply Kd.R_alloc | apply Kd.R_drewN | apply Kd.R_drew)); exact (Kd.R_mono (Kd.R_far (p := ⟨gb223, 1, none⟩) (Kd.R_far (p := ⟨gb223, 0, none⟩) (Kd.R_types HO213.out BK223.out (by decide)) (fun _ hk => hk.2) (.int .i64 t218)) (fun _ hk => hk.2) (.slice Ao30 t219.length co30)) (fun _ h_ => h_.1))))) (Kd.R_lt (by (with_reducible repeat (first | apply Kd.R_alloc | apply Kd.R_drewN | apply Kd.R_drew)); exact (Kd.R_mono (Kd.R_far (p := ⟨gb223, 1, none⟩) (Kd.R_far (p := ⟨gb223, 0, none⟩) (Kd.R_types HO221.out BK223.out (by decide)) (fun _ hk => hk.2) (.int .i64 t218)) (fun _ hk => hk.2) (.slice Ao30 t219.length co30)) (fun _ h_ => h_.1))))) (below_size (kW HB.out))); have n3_ := k0 (blk_below (g := gb207) (o := .cells #[.int .i64 a0_0, .slice A0_1 l0_1.length c0_1] 24 (0, 0)) (by (with_reducible repeat (first | refine blk_drewN ?_ _ | refine blk_drew ?_ | refine blk_alloc ?_ _)); refine blk_far ?_ NB207_223.out _; (with_reducible repeat (first | refine blk_drewN ?_ _ | refine blk_drew ?_ | refine blk_alloc ?_ _)); refine blk_far ?_ NB207_223.out _; (with_reducible repeat (first | refine blk_drewN ?_ _ | refine blk_drew ?_ | refine blk_alloc ?_ _)); exact BK207.out) hb); have n4_ := k0 (blk_below (g := gb208) (o := .cells #[.int .i64 a1_0, .int .i64 a1_1, .int .i64 a1_2, .int .i64 a1_3] 40 (0, 0)) (by (with_reducible repeat (first | refine blk_drewN ?_ _ | refine blk_drew ?_ | refine blk_alloc ?_ _)); refine blk_far ?_ NB208_223.out _; (with_reducible repeat (first | refine blk_drewN ?_ _ | refine blk_drew ?_ | refine blk_alloc ?_ _)); refine blk_far ?_ NB208_223.out _; (with_reducible repeat (first | refine blk_drewN ?_ _ | refine blk_drew ?_ | refine blk_alloc ?_ _)); exact BK208.out) hb); have n5_ := k0 (blk_below (g := gb223) (o := .cells #[.int .i64 t218, .slice Ao30 t219.length co30] 29 (0, 0)) (by (with_reducible repeat (first | refine blk_drewN ?_ _ | refine blk_drew ?_ | refine blk_alloc ?_ _)); refine blk_put (cs := #[.int .i64 t218, .slice none 0 0]) ?_ 1 _ rfl; (with_reducible repeat (first | refine blk_drewN ?_ _ | refine blk_drew ?_ | refine blk_alloc ?_ _)); refine blk_put (cs := #[.int .i64 0, .slice none 0 0]) ?_ 0 _ rfl; (with_reducible repeat (first | refine blk_drewN ?_ _ | refine blk_drew ?_ | refine blk_alloc ?_ _)); exact BK223.out) hb); have n6_ := k0 (below_step (kW HB.out) hb); clear HO213; clear HO221; clear BK207; clear BK208; clear BK223; clear HB; have HO213 := n0_; have HO221 := n1_; have HO227 := n2_; have BK207 := n3_; have BK208 := n4_; have BK223 := n5_; have HB := n6_; clear n0_ n1_ n2_ n3_ n4_ n5_ n6_; (try clear hb); (try clear hb2); (try clear hk); (try clear hi); (try clear ho0)) | ((with_reducible refine gate_dst (N := 8) rfl ?_); refine box_event ?hg (N := 8) ?hd (cs := #[.int .i64 0, .slice none 0 0]) (t := 29) ?hr ?_; (case hd => rfl); (case hg => rfl); (case hr => first | (go_simp; done) | (go_simp; rfl)); intro gb228 hg w35 hbox hb; have n0_ := k0 (Kd.R_below (kR HO213.out) hb); have n1_ := k0 (Kd.R_below (kR HO221.out) hb); have n2_ := k0 (Kd.R_below (kR HO227.out) hb); have n3_ := k0 (kb BK207.out hb); have n4_ := k0 (kb BK208.out hb); have n5_ := k0 (kb BK223.out hb); have n6_ := k0 (below_step (kW HB.out) hb); have n7_ := k0 (hbox); have n8_ := k0 ((by rw [hg]; exact (below_size (kW HB.out)) : w.heap.size ≤ gb228)); have n9_ := k0 ((by rw [hg]; exact (below_size (kW HB.out)) : w.heap.size ≤ gb228)); have n10_ := k0 ((by rw [hg]; exact Nat.ne_of_lt (blk_lt (g := gb207) (o := .cells #[.int .i64 a0_0, .slice A0_1 l0_1.length c0_1] 24 (0, 0)) (kB BK207.out)) : gb207 ≠ gb228)); have n11_ := k0 ((by rw [hg]; exact Nat.ne_of_gt (blk_lt (g := gb207) (o := .cells #[.int .i64 a0_0, .slice A0_1 l0_1.length c0_1] 24 (0, 0)) (kB BK207.out)) : gb228 ≠ gb207)); have n12_ := k0 ((by rw [hg]; exact Nat.ne_of_lt (blk_lt (g := gb208) (o := .cells #[.int .i64 a1_0, .int .i64 a1_1, .int .i64 a1_2, .int .i64 a1_3] 40 (0, 0)) (kB BK208.out)) : gb208 ≠ gb228)); have n13_ := k0 ((by rw [hg]; exact Nat.ne_of_gt (blk_lt (g := gb208) (o := .cells #[.int .i64 a1_0, .int .i64 a1_1, .int .i64 a1_2, .int .i64 a1_3] 40 (0, 0)) (kB BK208.out)) : gb228 ≠ gb208)); have n14_ := k0 ((by rw [hg]; exact Nat.ne_of_lt (blk_lt (g := gb223) (o := .cells #[.int .i64 t218, .slice Ao30 t219.length co30] 29 (0, 0)) (kB BK223.out)) : gb223 ≠ gb228)); have n15_ := k0 ((by rw [hg]; exact Nat.ne_of_gt (blk_lt (g := gb223) (o := .cells #[.int .i64 t218, .slice Ao30 t219.length co30] 29 (0, 0)) (kB BK223.out)) : gb228 ≠ gb223)); clear HO213; clear HO221; clear HO227; clear BK207; clear BK208; clear BK223; clear HB; have HO213 := n0_; have HO221 := n1_; have HO227 := n2_; have BK207 := n3_; have BK208 := n4_; have BK223 := n5_; have HB := n6_; have BK228 := n7_; have GW228 := n8_; have GE228 := n9_; have NB207_228 := n10_; have NB228_207 := n11_; have NB208_228 := n12_; have NB228_208 := n13_; have NB223_228 := n14_; have NB228_223 := n15_; clear n0_ n1_ n2_ n3_ n4_ n5_ n6_ n7_ n8_ n9_ n10_ n11_ n12_ n13_ n14_ n15_; clear hb hbox hg; have hnb36 := NB228_207.out; have hnc36 := NB207_228.out; have hnb37 := NB228_208.out; have hnc37 := NB208_228.out; have hnb38 := NB228_223.out; have hnc38 := NB223_228.out; have hcz39_0 : w35.cell? ⟨gb228, 0, none⟩ = some (.int .i64 0) := (blk_cell BK228.out 0).trans rfl; have hcz39_1 : w35.cell? ⟨gb228, 1, none⟩ = some (.slice none 0 0) := (blk_cell BK228.out 1).trans rfl; have hfz39_0 := blk_frozen BK228.out 0; have hfz39_1 := blk_frozen BK228.out 1; obtain ⟨Ao40, co40, eo40⟩ := Kd.R_slice HO227.out; subst eo40))
  have n0_ : Aside0 (Kd.R k35 35 ((w35.setCell ⟨gb228, 0, none⟩ (.int .i64 t224)).setCell ⟨gb228, 1, none⟩ (.slice Ao40 t225.length co40)) w.heap.size (fun k_ => some k_ ≠ (.slice Ao30 t219.length co30 : Value).ownBlock ∧ some k_ ≠ (.slice Ao40 t225.length co40 : Value).ownBlock) v212 t211) := ⟨by (with_reducible repeat (first | apply Kd.R_alloc | apply Kd.R_drewN | apply Kd.R_drew)); exact Kd.R_mono (Kd.R_far (p := ⟨gb228, 1, none⟩) (Kd.R_far (p := ⟨gb228, 0, none⟩) (Kd.R_types HO213.out BK228.out (by decide)) (fun _ hk => hk.2) (.int .i64 t224)) (fun _ hk => hk.2) (.slice Ao40 t225.length co40)) (fun _ hk => ⟨hk.1.1, hk.1.2⟩)⟩
  have n1_ : Aside0 (Kd.R k35 35 ((w35.setCell ⟨gb228, 0, none⟩ (.int .i64 t224)).setCell ⟨gb228, 1, none⟩ (.slice Ao40 t225.length co40)) w.heap.size (fun k_ => some k_ ≠ (v212 : Value).ownBlock ∧ some k_ ≠ (.slice Ao40 t225.length co40 : Value).ownBlock) (.slice Ao30 t219.length co30) t219) := ⟨by (with_reducible repeat (first | apply Kd.R_alloc | apply Kd.R_drewN | apply Kd.R_drew)); exact Kd.R_mono (Kd.R_far (p := ⟨gb228, 1, none⟩) (Kd.R_far (p := ⟨gb228, 0, none⟩) (Kd.R_types HO221.out BK228.out (by decide)) (fun _ hk => hk.2) (.int .i64 t224)) (fun _ hk => hk.2) (.slice Ao40 t225.length co40)) (fun _ hk => ⟨hk.1.1, hk.1.2⟩)⟩
  have n2_ : Aside0 (Kd.R k35 35 ((w35.setCell ⟨gb228, 0, none⟩ (.int .i64 t224)).setCell ⟨gb228, 1, none⟩ (.slice Ao40 t225.length co40)) w.heap.size (fun k_ => some k_ ≠ (v212 : Value).ownBlock ∧ some k_ ≠ (.slice Ao30 t219.length co30 : Value).ownBlock) (.slice Ao40 t225.length co40) t225) := ⟨by (with_reducible repeat (first | apply Kd.R_alloc | apply Kd.R_drewN | apply Kd.R_drew)); exact Kd.R_mono (Kd.R_far (p := ⟨gb228, 1, none⟩) (Kd.R_far (p := ⟨gb228, 0, none⟩) (Kd.R_types HO227.out BK228.out (by decide)) (fun _ hk => hk.2) (.int .i64 t224)) (fun _ hk => hk.2) (.slice Ao40 t225.length co40)) (fun _ hk => ⟨hk.1.1.2, hk.1.2⟩)⟩
  have n3_ : Aside0 (((w35.setCell ⟨gb228, 0, none⟩ (.int .i64 t224)).setCell ⟨gb228, 1, none⟩ (.slice Ao40 t225.length co40)).heap[gb207]? = some (.cells #[.int .i64 a0_0, .slice A0_1 l0_1.length c0_1] 24 (0, 0))) := ⟨by (with_reducible repeat (first | refine blk_drewN ?_ _ | refine blk_drew ?_ | refine blk_alloc ?_ _)); refine blk_far ?_ NB207_228.out _; (with_reducible repeat (first | refine blk_drewN ?_ _ | refine blk_drew ?_ | refine blk_alloc ?_ _)); refine blk_far ?_ NB207_228.out _; (with_reducible repeat (first | refine blk_drewN ?_ _ | refine blk_drew ?_ | refine blk_alloc ?_ _)); exact BK207.out⟩
  have n4_ : Aside0 (((w35.setCell ⟨gb228, 0, none⟩ (.int .i64 t224)).setCell ⟨gb228, 1, none⟩ (.slice Ao40 t225.length co40)).heap[gb208]? = some (.cells #[.int .i64 a1_0, .int .i64 a1_1, .int .i64 a1_2, .int .i64 a1_3] 40 (0, 0))) := ⟨by (with_reducible repeat (first | refine blk_drewN ?_ _ | refine blk_drew ?_ | refine blk_alloc ?_ _)); refine blk_far ?_ NB208_228.out _; (with_reducible repeat (first | refine blk_drewN ?_ _ | refine blk_drew ?_ | refine blk_alloc ?_ _)); refine blk_far ?_ NB208_228.out _; (with_reducible repeat (first | refine blk_drewN ?_ _ | refine blk_drew ?_ | refine blk_alloc ?_ _)); exact BK208.out⟩
  have n5_ : Aside0 (((w35.setCell ⟨gb228, 0, none⟩ (.int .i64 t224)).setCell ⟨gb228, 1, none⟩ (.slice Ao40 t225.length co40)).heap[gb223]? = some (.cells #[.int .i64 t218, .slice Ao30 t219.length co30] 29 (0, 0))) := ⟨by (with_reducible repeat (first | refine blk_drewN ?_ _ | refine blk_drew ?_ | refine blk_alloc ?_ _)); refine blk_far ?_ NB223_228.out _; (with_reducible repeat (first | refine blk_drewN ?_ _ | refine blk_drew ?_ | refine blk_alloc ?_ _)); refine blk_far ?_ NB223_228.out _; (with_reducible repeat (first | refine blk_drewN ?_ _ | refine blk_drew ?_ | refine blk_alloc ?_ _)); exact BK223.out⟩
  have n6_ : Aside0 (((w35.setCell ⟨gb228, 0, none⟩ (.int .i64 t224)).setCell ⟨gb228, 1, none⟩ (.slice Ao40 t225.length co40)).heap[gb228]? = some (.cells #[.int .i64 t224, .slice Ao40 t225.length co40] 29 (0, 0))) := ⟨by (with_reducible repeat (first | refine blk_drewN ?_ _ | refine blk_drew ?_ | refine blk_alloc ?_ _)); refine blk_put (cs := #[.int .i64 t224, .slice none 0 0]) ?_ 1 _ rfl; (with_reducible repeat (first | refine blk_drewN ?_ _ | refine blk_drew ?_ | refine blk_alloc ?_ _)); refine blk_put (cs := #[.int .i64 0, .slice none 0 0]) ?_ 0 _ rfl; (with_reducible repeat (first | refine blk_drewN ?_ _ | refine blk_drew ?_ | refine blk_alloc ?_ _)); exact BK228.out⟩
  have n7_ : Aside0 (Below w.heap.size w ((w35.setCell ⟨gb228, 0, none⟩ (.int .i64 t224)).setCell ⟨gb228, 1, none⟩ (.slice Ao40 t225.length co40))) := ⟨by repeat (first | (with_reducible first | exact HB.out | apply below_alloc | apply pw_below_drewN | apply below_drew1 | refine below_set ?_ GE207.out | refine below_set ?_ GE208.out | refine below_set ?_ GE223.out | refine below_set ?_ GE228.out) | exact HB.out)⟩
  (try clear HO213)
  (try clear HO221)
  (try clear HO227)
  (try clear BK207)
  (try clear BK208)
  (try clear BK223)
  (try clear BK228)
  (try clear HB)
  generalize ((w35.setCell ⟨gb228, 0, none⟩ (.int .i64 t224)).setCell ⟨gb228, 1, none⟩ (.slice Ao40 t225.length co40)) = w41 at n0_ n1_ n2_ n3_ n4_ n5_ n6_ n7_ ⊢
  have HO213 := n0_
  have HO221 := n1_
  have HO227 := n2_
  have BK207 := n3_
  have BK208 := n4_
  have BK223 := n5_
  have BK228 := n6_
  have HB := n7_
  clear n0_ n1_ n2_ n3_ n4_ n5_ n6_ n7_
  have n0_ := k0 (Kd.R_drew HO213.out)
  have n1_ := k0 (Kd.R_drew HO221.out)
  have n2_ := k0 (Kd.R_drew HO227.out)
  have n3_ := k0 (blk_drew BK207.out)
  have n4_ := k0 (blk_drew BK208.out)
  have n5_ := k0 (blk_drew BK223.out)
  have n6_ := k0 (blk_drew BK228.out)
  have n7_ := k0 (below_drew1 HB.out)
  clear HO213
  clear HO221
  clear HO227
  clear BK207
  clear BK208
  clear BK223
  clear BK228
  clear HB
  have HO213 := n0_
  have HO221 := n1_
  have HO227 := n2_
  have BK207 := n3_
  have BK208 := n4_
  have BK223 := n5_
  have BK228 := n6_
  have HB := n7_
  clear n0_ n1_ n2_ n3_ n4_ n5_ n6_ n7_
  refine start_ (n := 10) (S := fun w' => w'.cell? ⟨gb228, 0, none⟩ = some (.int .i64 t224) ∧ w'.cell? ⟨gb228, 1, none⟩ = some (.slice Ao40 t225.length co40) ∧ w'.cell? ⟨gb208, 0, none⟩ = some (.int .i64 a1_0) ∧ w'.cell? ⟨gb208, 1, none⟩ = some (.int .i64 a1_1) ∧ w'.cell? ⟨gb208, 2, none⟩ = some (.int .i64 a1_2) ∧ w'.cell? ⟨gb208, 3, none⟩ = some (.int .i64 a1_3)) (ds := []) #[false, false, false, false, false, false, false, false, false, false] (by kernel_rfl) rfl rfl ⟨(blk_cell BK228.out 0).trans rfl, (blk_cell BK228.out 1).trans rfl, (blk_cell BK208.out 0).trans rfl, (blk_cell BK208.out 1).trans rfl, (blk_cell BK208.out 2).trans rfl, (blk_cell BK208.out 3).trans rfl⟩ (fun hHeld => ?_); refine with_tabW laws_FnExactOutPut.tab7 laws_FnExactOutPut.bits7 (fun HT_ HW_ => ?_)
  generalize w41.drew = w42 at HO213 HO221 HO227 BK207 BK208 BK223 BK228 HB hHeld ⊢
  refine take_ (i := 0) (N := some 32) (v := ?_) (a' := ?_) #[true, false, false, false, false, false, false, false, false, false] rfl rfl (take_ofW HT_.out HW_.out (by kernel_rfl)) (fun _ _ _ h => h) (Or.inl ⟨by rfl, ?_⟩) hHeld ?_ ?_
  rotate_left
  ·rintro w' ⟨s0, s1, s2, s3, s4, s5⟩
   go_simp
   with_reducible rfl
  rotate_left
  ·simp only [Act.put, List.setIfInBounds_toArray, List.set_cons_zero, List.set_cons_succ, i64_w, i32_w]
   rfl
  refine take_ (i := 1) (N := some 33) (v := ?_) (a' := ?_) #[true, true, false, false, false, false, false, false, false, false] rfl rfl (take_ofW HT_.out HW_.out (by kernel_rfl)) (fun _ _ _ h => h) (Or.inl ⟨by rfl, ?_⟩) hHeld ?_ ?_
  rotate_left
  ·rintro w' ⟨s0, s1, s2, s3, s4, s5⟩
   go_simp
   with_reducible rfl
  rotate_left
  ·simp only [Act.put, List.setIfInBounds_toArray, List.set_cons_zero, List.set_cons_succ, i64_w, i32_w]
   rfl
  refine join_ (σ := Value × Nat) 2 #[true, true, true, true, true, true, true, true, false, false] (fun s_ => [(34, .agg #[.int .i64 t229, .int .i64 t230, .int .i64 t231, .int .i64 t232]), (35, .tuple #[.agg #[.int .i64 t233, s_.1], .bool t237]), (9, .pointer (some ⟨s_.2, 0, none⟩)), (31, .tuple #[.agg #[.int .i64 t233, s_.1], .bool t237]), (36, .agg #[.int .i64 t233, s_.1]), (37, .bool t237)]) (fun s_ w' => (w'.cell? ⟨gb228, 0, none⟩ = some (.int .i64 t224) ∧ w'.cell? ⟨gb228, 1, none⟩ = some (.slice Ao40 t225.length co40) ∧ w'.cell? ⟨gb208, 0, none⟩ = some (.int .i64 a1_0) ∧ w'.cell? ⟨gb208, 1, none⟩ = some (.int .i64 a1_1) ∧ w'.cell? ⟨gb208, 2, none⟩ = some (.int .i64 a1_2) ∧ w'.cell? ⟨gb208, 3, none⟩ = some (.int .i64 a1_3)) ∧ (Kd.R k35 35 w' w.heap.size (fun k_ => some k_ ≠ (.slice Ao30 t219.length co30 : Value).ownBlock ∧ some k_ ≠ (.slice Ao40 t225.length co40 : Value).ownBlock ∧ some k_ ≠ (s_.1 : Value).ownBlock) v212 t211) ∧ (Kd.R k35 35 w' w.heap.size (fun k_ => some k_ ≠ (v212 : Value).ownBlock ∧ some k_ ≠ (.slice Ao40 t225.length co40 : Value).ownBlock ∧ some k_ ≠ (s_.1 : Value).ownBlock) (.slice Ao30 t219.length co30) t219) ∧ (Kd.R k35 35 w' w.heap.size (fun k_ => some k_ ≠ (v212 : Value).ownBlock ∧ some k_ ≠ (.slice Ao30 t219.length co30 : Value).ownBlock ∧ some k_ ≠ (s_.1 : Value).ownBlock) (.slice Ao40 t225.length co40) t225) ∧ (Kd.R k35 35 w' w.heap.size (fun k_ => some k_ ≠ (v212 : Value).ownBlock ∧ some k_ ≠ (.slice Ao30 t219.length co30 : Value).ownBlock ∧ some k_ ≠ (.slice Ao40 t225.length co40 : Value).ownBlock) s_.1 t234) ∧ (w'.heap[gb207]? = some (.cells #[.int .i64 a0_0, .slice A0_1 l0_1.length c0_1] 24 (0, 0))) ∧ (w'.heap[gb208]? = some (.cells #[.int .i64 a1_0, .int .i64 a1_1, .int .i64 a1_2, .int .i64 a1_3] 40 (0, 0))) ∧ (w'.heap[gb223]? = some (.cells #[.int .i64 t218, .slice Ao30 t219.length co30] 29 (0, 0))) ∧ (w'.heap[gb228]? = some (.cells #[.int .i64 t224, .slice Ao40 t225.length co40] 29 (0, 0))) ∧ (w'.heap[s_.2]? = some (.cells #[.int .i64 0, .slice none 0 0] 29 (0, 0))) ∧ (w.heap.size ≤ s_.2) ∧ (w.heap.size ≤ s_.2) ∧ (gb207 ≠ s_.2) ∧ (s_.2 ≠ gb207) ∧ (gb208 ≠ s_.2) ∧ (s_.2 ≠ gb208) ∧ (gb223 ≠ s_.2) ∧ (s_.2 ≠ gb223) ∧ (gb228 ≠ s_.2) ∧ (s_.2 ≠ gb228) ∧ (Below w.heap.size w w')) ?_ ?_
  rotate_left
  ·intro hCont
   refine two_ (i := 2) (j := 7) (Ni := some 34) (Nj := some 9) #[true, true, true, false, false, false, false, false, false, false] #[true, true, false, false, false, false, false, true, false, false] rfl rfl rfl rfl (two_of HT_.out (by kernel_rfl)) (by decide) (by decide) (fun K hK => ?_) (fun K hK => ?_)
   ·skip
    refine goes_ Try.func23 (by kernel_rfl) rfl #[.agg #[.int .i64 a1_0, .int .i64 a1_1, .int .i64 a1_2, .int .i64 a1_3]] (by rfl) rfl rfl (by (try simp only [List.map_toArray, List.map_cons, List.map_nil]); first | done | rfl | (simp only [List.length_drop, List.length_take]; rfl)) ?_
    with_reducible refine (laws_toMsg.calls a1_0 a1_1 a1_2 a1_3 t229 t230 t231 t232 _ A14.out).mono ?_
    rintro e w43 ⟨rfl, hb⟩
    refine ⟨_, rfl, ?_⟩
    have n0_ := k0 (Kd.R_below (kR HO213.out) hb)
    have n1_ := k0 (Kd.R_below (kR HO221.out) hb)
    have n2_ := k0 (Kd.R_below (kR HO227.out) hb)
    have n3_ := k0 (kb BK207.out hb)
    have n4_ := k0 (kb BK208.out hb)
    have n5_ := k0 (kb BK223.out hb)
    have n6_ := k0 (kb BK228.out hb)
    have n7_ := k0 (below_step (kW HB.out) hb)
    clear HO213
    clear HO221
    clear HO227
    clear BK207
    clear BK208
    clear BK223
    clear BK228
    clear HB
    have HO213 := n0_
    have HO221 := n1_
    have HO227 := n2_
    have BK207 := n3_
    have BK208 := n4_
    have BK223 := n5_
    have BK228 := n6_
    have HB := n7_
    clear n0_ n1_ n2_ n3_ n4_ n5_ n6_ n7_
    (try clear hb)
    (try clear hb2)
    (try clear hk)
    (try clear hi)
    refine hK.out _ _ ⟨(blk_cell BK228.out 0).trans rfl, (blk_cell BK228.out 1).trans rfl, (blk_cell BK208.out 0).trans rfl, (blk_cell BK208.out 1).trans rfl, (blk_cell BK208.out 2).trans rfl, (blk_cell BK208.out 3).trans rfl⟩ (fun hHeld => ?_)
    clear hK K
    refine norm_ (a' := ?_) ?_ ?_
    rotate_left
    ·show Act.put _ (some 34) _ = _
     simp only [Act.put, List.setIfInBounds_toArray, List.set_cons_zero, List.set_cons_succ, i64_w, i32_w]
     rfl
    refine two_ (i := 3) (j := 7) (Ni := some 35) (Nj := some 9) #[true, true, true, true, false, false, false, false, false, false] #[true, true, true, false, false, false, false, true, false, false] rfl rfl rfl rfl (two_of HT_.out (by kernel_rfl)) (by decide) (by decide) (fun K hK => ?_) (fun K hK => ?_)
    ·skip
     refine goes_ Try.func24 (by kernel_rfl) rfl #[.agg #[.int .i64 t224, .slice Ao40 t225.length co40], .agg #[.int .i64 t229, .int .i64 t230, .int .i64 t231, .int .i64 t232]] (by rfl) rfl rfl (by (try simp only [List.map_toArray, List.map_cons, List.map_nil]); first | done | rfl | (simp only [List.length_drop, List.length_take]; rfl)) ?_
     with_reducible refine (impl_OutPut.calls k t224 _ _ t225 t229 t230 t231 t232 t233 t234 t237 _ ?side1 ?side2 A15.out).mono ?_
     (case side1 => repeat (first | exact (Kd.R_reads' HO227.out).2.2 | (with_reducible refine Kd.C_alloc ?_ _) | (with_reducible refine Kd.C_drewN ?_ _) | (with_reducible refine Kd.C_drew ?_)))
     (case side2 => exact (Kd.R_reads' HO227.out).2.1)
     rintro e w44 ⟨v235, rfl, ho0, hb⟩
     refine ⟨_, rfl, ?_⟩
     have n0_ := k0 (Kd.R_elder' (kR HO213.out) (Kd.R_base ho0) hb)
     have n1_ := k0 (Kd.R_elder' (kR HO221.out) (Kd.R_base ho0) hb)
     have n2_ := k0 (Kd.R_elder' (kR HO227.out) (Kd.R_base ho0) hb)
     have n3_ := k0 (Kd.R_lower (Kd.R_new' (Kd.R_new' (Kd.R_new' ho0 (Kd.R_lt (kR HO213.out))) (Kd.R_lt (kR HO221.out))) (Kd.R_lt (kR HO227.out))) (below_size (kW HB.out)))
     have n4_ := k0 (kb BK207.out hb)
     have n5_ := k0 (kb BK208.out hb)
     have n6_ := k0 (kb BK223.out hb)
     have n7_ := k0 (kb BK228.out hb)
     have n8_ := k0 (below_step (kW HB.out) hb)
     clear HO213
     clear HO221
     clear HO227
     clear BK207
     clear BK208
     clear BK223
     clear BK228
     clear HB
     have HO213 := n0_
     have HO221 := n1_
     have HO227 := n2_
     have HO236 := n3_
     have BK207 := n4_
     have BK208 := n5_
     have BK223 := n6_
     have BK228 := n7_
     have HB := n8_
     clear n0_ n1_ n2_ n3_ n4_ n5_ n6_ n7_ n8_
     (try clear hb)
     (try clear hb2)
     (try clear hk)
     (try clear hi)
     (try clear ho0)
     refine hK.out _ _ ⟨(blk_cell BK228.out 0).trans rfl, (blk_cell BK228.out 1).trans rfl, (blk_cell BK208.out 0).trans rfl, (blk_cell BK208.out 1).trans rfl, (blk_cell BK208.out 2).trans rfl, (blk_cell BK208.out 3).trans rfl⟩ (fun hHeld => ?_)
     clear hK K
     refine norm_ (a' := ?_) ?_ ?_
     rotate_left
     ·show Act.put _ (some 35) _ = _
      simp only [Act.put, List.setIfInBounds_toArray, List.set_cons_zero, List.set_cons_succ, i64_w, i32_w]
      rfl
     refine pure_ (i := 4) (N := some 31) (v := ?_) (a' := ?_) #[true, true, true, true, true, false, false, false, false, false] rfl rfl (any_of HT_.out (by kernel_rfl)) (fun _ _ _ h => h) (Or.inl ⟨by rfl, ?_⟩) ?_ ?_
     rotate_left
     ·intro w'
      go_simp
      with_reducible rfl
     rotate_left
     ·simp only [Act.put, List.setIfInBounds_toArray, List.set_cons_zero, List.set_cons_succ, i64_w, i32_w]
      rfl
     refine pure_ (i := 5) (N := some 36) (v := ?_) (a' := ?_) #[true, true, true, true, true, true, false, false, false, false] rfl rfl (any_of HT_.out (by kernel_rfl)) (fun _ _ _ h => h) (Or.inl ⟨by rfl, ?_⟩) ?_ ?_
     rotate_left
     ·intro w'
      go_simp
      with_reducible rfl
     rotate_left
     ·simp only [Act.put, List.setIfInBounds_toArray, List.set_cons_zero, List.set_cons_succ, i64_w, i32_w]
      rfl
     refine pure_ (i := 6) (N := some 37) (v := ?_) (a' := ?_) #[true, true, true, true, true, true, true, false, false, false] rfl rfl (any_of HT_.out (by kernel_rfl)) (fun _ _ _ h => h) (Or.inl ⟨by rfl, ?_⟩) ?_ ?_
     rotate_left
     ·intro w'
      go_simp
      with_reducible rfl
     rotate_left
     ·simp only [Act.put, List.setIfInBounds_toArray, List.set_cons_zero, List.set_cons_succ, i64_w, i32_w]
      rfl
     refine one_ (i := 7) (N := some 9) #[true, true, true, true, true, true, true, true, false, false] rfl rfl (one_of HT_.out (by kernel_rfl)) (by decide) (fun K hK => ?_)
     refine box_step ?hg (N := 9) ?hd (cs := #[.int .i64 0, .slice none 0 0]) (t := 29) ?hr ?_; (case hd => rfl); (case hg => rfl); (case hr => first | (go_simp; done) | (go_simp; rfl))
     intro gb238 hg w45 hbox hb
     have n0_ := k0 (Kd.R_below (kR HO213.out) hb)
     have n1_ := k0 (Kd.R_below (kR HO221.out) hb)
     have n2_ := k0 (Kd.R_below (kR HO227.out) hb)
     have n3_ := k0 (Kd.R_below (kR HO236.out) hb)
     have n4_ := k0 (kb BK207.out hb)
     have n5_ := k0 (kb BK208.out hb)
     have n6_ := k0 (kb BK223.out hb)
     have n7_ := k0 (kb BK228.out hb)
     have n8_ := k0 (below_step (kW HB.out) hb)
     have n9_ := k0 (hbox)
     have n10_ := k0 ((by rw [hg]; exact (below_size (kW HB.out)) : w.heap.size ≤ gb238))
     have n11_ := k0 ((by rw [hg]; exact (below_size (kW HB.out)) : w.heap.size ≤ gb238))
     have n12_ := k0 ((by rw [hg]; exact Nat.ne_of_lt (blk_lt (g := gb207) (o := .cells #[.int .i64 a0_0, .slice A0_1 l0_1.length c0_1] 24 (0, 0)) (kB BK207.out)) : gb207 ≠ gb238))
     have n13_ := k0 ((by rw [hg]; exact Nat.ne_of_gt (blk_lt (g := gb207) (o := .cells #[.int .i64 a0_0, .slice A0_1 l0_1.length c0_1] 24 (0, 0)) (kB BK207.out)) : gb238 ≠ gb207))
     have n14_ := k0 ((by rw [hg]; exact Nat.ne_of_lt (blk_lt (g := gb208) (o := .cells #[.int .i64 a1_0, .int .i64 a1_1, .int .i64 a1_2, .int .i64 a1_3] 40 (0, 0)) (kB BK208.out)) : gb208 ≠ gb238))
     have n15_ := k0 ((by rw [hg]; exact Nat.ne_of_gt (blk_lt (g := gb208) (o := .cells #[.int .i64 a1_0, .int .i64 a1_1, .int .i64 a1_2, .int .i64 a1_3] 40 (0, 0)) (kB BK208.out)) : gb238 ≠ gb208))
     have n16_ := k0 ((by rw [hg]; exact Nat.ne_of_lt (blk_lt (g := gb223) (o := .cells #[.int .i64 t218, .slice Ao30 t219.length co30] 29 (0, 0)) (kB BK223.out)) : gb223 ≠ gb238))
     have n17_ := k0 ((by rw [hg]; exact Nat.ne_of_gt (blk_lt (g := gb223) (o := .cells #[.int .i64 t218, .slice Ao30 t219.length co30] 29 (0, 0)) (kB BK223.out)) : gb238 ≠ gb223))
     have n18_ := k0 ((by rw [hg]; exact Nat.ne_of_lt (blk_lt (g := gb228) (o := .cells #[.int .i64 t224, .slice Ao40 t225.length co40] 29 (0, 0)) (kB BK228.out)) : gb228 ≠ gb238))
     have n19_ := k0 ((by rw [hg]; exact Nat.ne_of_gt (blk_lt (g := gb228) (o := .cells #[.int .i64 t224, .slice Ao40 t225.length co40] 29 (0, 0)) (kB BK228.out)) : gb238 ≠ gb228))
     clear HO213
     clear HO221
     clear HO227
     clear HO236
     clear BK207
     clear BK208
     clear BK223
     clear BK228
     clear HB
     have HO213 := n0_
     have HO221 := n1_
     have HO227 := n2_
     have HO236 := n3_
     have BK207 := n4_
     have BK208 := n5_
     have BK223 := n6_
     have BK228 := n7_
     have HB := n8_
     have BK238 := n9_
     have GW238 := n10_
     have GE238 := n11_
     have NB207_238 := n12_
     have NB238_207 := n13_
     have NB208_238 := n14_
     have NB238_208 := n15_
     have NB223_238 := n16_
     have NB238_223 := n17_
     have NB228_238 := n18_
     have NB238_228 := n19_
     clear n0_ n1_ n2_ n3_ n4_ n5_ n6_ n7_ n8_ n9_ n10_ n11_ n12_ n13_ n14_ n15_ n16_ n17_ n18_ n19_
     clear hb hbox hg
     refine hK.out _ _ ⟨(blk_cell BK228.out 0).trans rfl, (blk_cell BK228.out 1).trans rfl, (blk_cell BK208.out 0).trans rfl, (blk_cell BK208.out 1).trans rfl, (blk_cell BK208.out 2).trans rfl, (blk_cell BK208.out 3).trans rfl⟩ (fun hHeld => ?_)
     clear hK K
     refine norm_ (a' := ?_) ?_ ?_
     rotate_left
     ·show Act.put _ (some 9) _ = _
      simp only [Act.put, List.setIfInBounds_toArray, List.set_cons_zero, List.set_cons_succ, i64_w, i32_w]
      rfl
     exact norm_ (by simp only [putAll, Act.put, List.setIfInBounds_toArray, List.set_cons_zero, List.set_cons_succ]) (hCont (v235, gb238) _ ⟨hHeld, (by (with_reducible repeat (first | apply Kd.R_alloc | apply Kd.R_drewN | apply Kd.R_drew)); exact Kd.R_mono HO213.out (fun _ hk => ⟨hk.1.1, ⟨hk.1.2, hk.2⟩⟩)), (by (with_reducible repeat (first | apply Kd.R_alloc | apply Kd.R_drewN | apply Kd.R_drew)); exact Kd.R_mono HO221.out (fun _ hk => ⟨hk.1.1, ⟨hk.1.2, hk.2⟩⟩)), (by (with_reducible repeat (first | apply Kd.R_alloc | apply Kd.R_drewN | apply Kd.R_drew)); exact Kd.R_mono HO227.out (fun _ hk => ⟨hk.1.1, ⟨hk.1.2, hk.2⟩⟩)), (by (with_reducible repeat (first | apply Kd.R_alloc | apply Kd.R_drewN | apply Kd.R_drew)); exact Kd.R_mono HO236.out (fun _ hk => ⟨hk.1.1.2, ⟨hk.1.2, hk.2⟩⟩)), (kB BK207.out), (kB BK208.out), (kB BK223.out), (kB BK228.out), (kB BK238.out), GW238.out, GE238.out, NB207_238.out, NB238_207.out, NB208_238.out, NB238_208.out, NB223_238.out, NB238_223.out, NB228_238.out, NB238_228.out, (kW HB.out)⟩)
    ·skip
     refine box_step ?hg (N := 9) ?hd (cs := #[.int .i64 0, .slice none 0 0]) (t := 29) ?hr ?_; (case hd => rfl); (case hg => rfl); (case hr => first | (go_simp; done) | (go_simp; rfl))
     intro gb238 hg w44 hbox hb
     have n0_ := k0 (Kd.R_below (kR HO213.out) hb)
     have n1_ := k0 (Kd.R_below (kR HO221.out) hb)
     have n2_ := k0 (Kd.R_below (kR HO227.out) hb)
     have n3_ := k0 (kb BK207.out hb)
     have n4_ := k0 (kb BK208.out hb)
     have n5_ := k0 (kb BK223.out hb)
     have n6_ := k0 (kb BK228.out hb)
     have n7_ := k0 (below_step (kW HB.out) hb)
     have n8_ := k0 (hbox)
     have n9_ := k0 ((by rw [hg]; exact (below_size (kW HB.out)) : w.heap.size ≤ gb238))
     have n10_ := k0 ((by rw [hg]; exact (below_size (kW HB.out)) : w.heap.size ≤ gb238))
     have n11_ := k0 ((by rw [hg]; exact Nat.ne_of_lt (blk_lt (g := gb207) (o := .cells #[.int .i64 a0_0, .slice A0_1 l0_1.length c0_1] 24 (0, 0)) (kB BK207.out)) : gb207 ≠ gb238))
     have n12_ := k0 ((by rw [hg]; exact Nat.ne_of_gt (blk_lt (g := gb207) (o := .cells #[.int .i64 a0_0, .slice A0_1 l0_1.length c0_1] 24 (0, 0)) (kB BK207.out)) : gb238 ≠ gb207))
     have n13_ := k0 ((by rw [hg]; exact Nat.ne_of_lt (blk_lt (g := gb208) (o := .cells #[.int .i64 a1_0, .int .i64 a1_1, .int .i64 a1_2, .int .i64 a1_3] 40 (0, 0)) (kB BK208.out)) : gb208 ≠ gb238))
     have n14_ := k0 ((by rw [hg]; exact Nat.ne_of_gt (blk_lt (g := gb208) (o := .cells #[.int .i64 a1_0, .int .i64 a1_1, .int .i64 a1_2, .int .i64 a1_3] 40 (0, 0)) (kB BK208.out)) : gb238 ≠ gb208))
     have n15_ := k0 ((by rw [hg]; exact Nat.ne_of_lt (blk_lt (g := gb223) (o := .cells #[.int .i64 t218, .slice Ao30 t219.length co30] 29 (0, 0)) (kB BK223.out)) : gb223 ≠ gb238))
     have n16_ := k0 ((by rw [hg]; exact Nat.ne_of_gt (blk_lt (g := gb223) (o := .cells #[.int .i64 t218, .slice Ao30 t219.length co30] 29 (0, 0)) (kB BK223.out)) : gb238 ≠ gb223))
     have n17_ := k0 ((by rw [hg]; exact Nat.ne_of_lt (blk_lt (g := gb228) (o := .cells #[.int .i64 t224, .slice Ao40 t225.length co40] 29 (0, 0)) (kB BK228.out)) : gb228 ≠ gb238))
     have n18_ := k0 ((by rw [hg]; exact Nat.ne_of_gt (blk_lt (g := gb228) (o := .cells #[.int .i64 t224, .slice Ao40 t225.length co40] 29 (0, 0)) (kB BK228.out)) : gb238 ≠ gb228))
     clear HO213
     clear HO221
     clear HO227
     clear BK207
     clear BK208
     clear BK223
     clear BK228
     clear HB
     have HO213 := n0_
     have HO221 := n1_
     have HO227 := n2_
     have BK207 := n3_
     have BK208 := n4_
     have BK223 := n5_
     have BK228 := n6_
     have HB := n7_
     have BK238 := n8_
     have GW238 := n9_
     have GE238 := n10_
     have NB207_238 := n11_
     have NB238_207 := n12_
     have NB208_238 := n13_
     have NB238_208 := n14_
     have NB223_238 := n15_
     have NB238_223 := n16_
     have NB228_238 := n17_
     have NB238_228 := n18_
     clear n0_ n1_ n2_ n3_ n4_ n5_ n6_ n7_ n8_ n9_ n10_ n11_ n12_ n13_ n14_ n15_ n16_ n17_ n18_
     clear hb hbox hg
     refine hK.out _ _ ⟨(blk_cell BK228.out 0).trans rfl, (blk_cell BK228.out 1).trans rfl, (blk_cell BK208.out 0).trans rfl, (blk_cell BK208.out 1).trans rfl, (blk_cell BK208.out 2).trans rfl, (blk_cell BK208.out 3).trans rfl⟩ (fun hHeld => ?_)
     clear hK K
     refine norm_ (a' := ?_) ?_ ?_
     rotate_left
     ·show Act.put _ (some 9) _ = _
      simp only [Act.put, List.setIfInBounds_toArray, List.set_cons_zero, List.set_cons_succ, i64_w, i32_w]
      rfl
     refine one_ (i := 3) (N := some 35) #[true, true, true, true, false, false, false, true, false, false] rfl rfl (one_of HT_.out (by kernel_rfl)) (by decide) (fun K hK => ?_)
     refine goes_ Try.func24 (by kernel_rfl) rfl #[.agg #[.int .i64 t224, .slice Ao40 t225.length co40], .agg #[.int .i64 t229, .int .i64 t230, .int .i64 t231, .int .i64 t232]] (by rfl) rfl rfl (by (try simp only [List.map_toArray, List.map_cons, List.map_nil]); first | done | rfl | (simp only [List.length_drop, List.length_take]; rfl)) ?_
     with_reducible refine (impl_OutPut.calls k t224 _ _ t225 t229 t230 t231 t232 t233 t234 t237 _ ?side1 ?side2 A15.out).mono ?_
     (case side1 => repeat (first | exact (Kd.R_reads' HO227.out).2.2 | (with_reducible refine Kd.C_alloc ?_ _) | (with_reducible refine Kd.C_drewN ?_ _) | (with_reducible refine Kd.C_drew ?_)))
     (case side2 => exact (Kd.R_reads' HO227.out).2.1)
     rintro e w45 ⟨v235, rfl, ho0, hb⟩
     refine ⟨_, rfl, ?_⟩
     have n0_ := k0 (Kd.R_elder' (kR HO213.out) (Kd.R_base ho0) hb)
     have n1_ := k0 (Kd.R_elder' (kR HO221.out) (Kd.R_base ho0) hb)
     have n2_ := k0 (Kd.R_elder' (kR HO227.out) (Kd.R_base ho0) hb)
     have n3_ := k0 (Kd.R_lower (Kd.R_new' (Kd.R_new' (Kd.R_new' ho0 (Kd.R_lt (kR HO213.out))) (Kd.R_lt (kR HO221.out))) (Kd.R_lt (kR HO227.out))) (below_size (kW HB.out)))
     have n4_ := k0 (kb BK207.out hb)
     have n5_ := k0 (kb BK208.out hb)
     have n6_ := k0 (kb BK223.out hb)
     have n7_ := k0 (kb BK228.out hb)
     have n8_ := k0 (kb BK238.out hb)
     have n9_ := k0 (below_step (kW HB.out) hb)
     clear HO213
     clear HO221
     clear HO227
     clear BK207
     clear BK208
     clear BK223
     clear BK228
     clear BK238
     clear HB
     have HO213 := n0_
     have HO221 := n1_
     have HO227 := n2_
     have HO236 := n3_
     have BK207 := n4_
     have BK208 := n5_
     have BK223 := n6_
     have BK228 := n7_
     have BK238 := n8_
     have HB := n9_
     clear n0_ n1_ n2_ n3_ n4_ n5_ n6_ n7_ n8_ n9_
     (try clear hb)
     (try clear hb2)
     (try clear hk)
     (try clear hi)
     (try clear ho0)
     refine hK.out _ _ ⟨(blk_cell BK228.out 0).trans rfl, (blk_cell BK228.out 1).trans rfl, (blk_cell BK208.out 0).trans rfl, (blk_cell BK208.out 1).trans rfl, (blk_cell BK208.out 2).trans rfl, (blk_cell BK208.out 3).trans rfl⟩ (fun hHeld => ?_)
     clear hK K
     refine norm_ (a' := ?_) ?_ ?_
     rotate_left
     ·show Act.put _ (some 35) _ = _
      simp only [Act.put, List.setIfInBounds_toArray, List.set_cons_zero, List.set_cons_succ, i64_w, i32_w]
      rfl
     refine pure_ (i := 4) (N := some 31) (v := ?_) (a' := ?_) #[true, true, true, true, true, false, false, true, false, false] rfl rfl (any_of HT_.out (by kernel_rfl)) (fun _ _ _ h => h) (Or.inl ⟨by rfl, ?_⟩) ?_ ?_
     rotate_left
     ·intro w'
      go_simp
      with_reducible rfl
     rotate_left
     ·simp only [Act.put, List.setIfInBounds_toArray, List.set_cons_zero, List.set_cons_succ, i64_w, i32_w]
      rfl
     refine pure_ (i := 5) (N := some 36) (v := ?_) (a' := ?_) #[true, true, true, true, true, true, false, true, false, false] rfl rfl (any_of HT_.out (by kernel_rfl)) (fun _ _ _ h => h) (Or.inl ⟨by rfl, ?_⟩) ?_ ?_
     rotate_left
     ·intro w'
      go_simp
      with_reducible rfl
     rotate_left
     ·simp only [Act.put, List.setIfInBounds_toArray, List.set_cons_zero, List.set_cons_succ, i64_w, i32_w]
      rfl
     refine pure_ (i := 6) (N := some 37) (v := ?_) (a' := ?_) #[true, true, true, true, true, true, true, true, false, false] rfl rfl (any_of HT_.out (by kernel_rfl)) (fun _ _ _ h => h) (Or.inl ⟨by rfl, ?_⟩) ?_ ?_
     rotate_left
     ·intro w'
      go_simp
      with_reducible rfl
     rotate_left
     ·simp only [Act.put, List.setIfInBounds_toArray, List.set_cons_zero, List.set_cons_succ, i64_w, i32_w]
      rfl
     exact norm_ (by simp only [putAll, Act.put, List.setIfInBounds_toArray, List.set_cons_zero, List.set_cons_succ]) (hCont (v235, gb238) _ ⟨hHeld, (by (with_reducible repeat (first | apply Kd.R_alloc | apply Kd.R_drewN | apply Kd.R_drew)); exact Kd.R_mono HO213.out (fun _ hk => ⟨hk.1.1, ⟨hk.1.2, hk.2⟩⟩)), (by (with_reducible repeat (first | apply Kd.R_alloc | apply Kd.R_drewN | apply Kd.R_drew)); exact Kd.R_mono HO221.out (fun _ hk => ⟨hk.1.1, ⟨hk.1.2, hk.2⟩⟩)), (by (with_reducible repeat (first | apply Kd.R_alloc | apply Kd.R_drewN | apply Kd.R_drew)); exact Kd.R_mono HO227.out (fun _ hk => ⟨hk.1.1, ⟨hk.1.2, hk.2⟩⟩)), (by (with_reducible repeat (first | apply Kd.R_alloc | apply Kd.R_drewN | apply Kd.R_drew)); exact Kd.R_mono HO236.out (fun _ hk => ⟨hk.1.1.2, ⟨hk.1.2, hk.2⟩⟩)), (kB BK207.out), (kB BK208.out), (kB BK223.out), (kB BK228.out), (kB BK238.out), GW238.out, GE238.out, NB207_238.out, NB238_207.out, NB208_238.out, NB238_208.out, NB223_238.out, NB238_223.out, NB228_238.out, NB238_228.out, (kW HB.out)⟩)
   ·skip
    refine box_step ?hg (N := 9) ?hd (cs := #[.int .i64 0, .slice none 0 0]) (t := 29) ?hr ?_; (case hd => rfl); (case hg => rfl); (case hr => first | (go_simp; done) | (go_simp; rfl))
    intro gb238 hg w43 hbox hb
    have n0_ := k0 (Kd.R_below (kR HO213.out) hb)
    have n1_ := k0 (Kd.R_below (kR HO221.out) hb)
    have n2_ := k0 (Kd.R_below (kR HO227.out) hb)
    have n3_ := k0 (kb BK207.out hb)
    have n4_ := k0 (kb BK208.out hb)
    have n5_ := k0 (kb BK223.out hb)
    have n6_ := k0 (kb BK228.out hb)
    have n7_ := k0 (below_step (kW HB.out) hb)
    have n8_ := k0 (hbox)
    have n9_ := k0 ((by rw [hg]; exact (below_size (kW HB.out)) : w.heap.size ≤ gb238))
    have n10_ := k0 ((by rw [hg]; exact (below_size (kW HB.out)) : w.heap.size ≤ gb238))
    have n11_ := k0 ((by rw [hg]; exact Nat.ne_of_lt (blk_lt (g := gb207) (o := .cells #[.int .i64 a0_0, .slice A0_1 l0_1.length c0_1] 24 (0, 0)) (kB BK207.out)) : gb207 ≠ gb238))
    have n12_ := k0 ((by rw [hg]; exact Nat.ne_of_gt (blk_lt (g := gb207) (o := .cells #[.int .i64 a0_0, .slice A0_1 l0_1.length c0_1] 24 (0, 0)) (kB BK207.out)) : gb238 ≠ gb207))
    have n13_ := k0 ((by rw [hg]; exact Nat.ne_of_lt (blk_lt (g := gb208) (o := .cells #[.int .i64 a1_0, .int .i64 a1_1, .int .i64 a1_2, .int .i64 a1_3] 40 (0, 0)) (kB BK208.out)) : gb208 ≠ gb238))
    have n14_ := k0 ((by rw [hg]; exact Nat.ne_of_gt (blk_lt (g := gb208) (o := .cells #[.int .i64 a1_0, .int .i64 a1_1, .int .i64 a1_2, .int .i64 a1_3] 40 (0, 0)) (kB BK208.out)) : gb238 ≠ gb208))
    have n15_ := k0 ((by rw [hg]; exact Nat.ne_of_lt (blk_lt (g := gb223) (o := .cells #[.int .i64 t218, .slice Ao30 t219.length co30] 29 (0, 0)) (kB BK223.out)) : gb223 ≠ gb238))
    have n16_ := k0 ((by rw [hg]; exact Nat.ne_of_gt (blk_lt (g := gb223) (o := .cells #[.int .i64 t218, .slice Ao30 t219.length co30] 29 (0, 0)) (kB BK223.out)) : gb238 ≠ gb223))
    have n17_ := k0 ((by rw [hg]; exact Nat.ne_of_lt (blk_lt (g := gb228) (o := .cells #[.int .i64 t224, .slice Ao40 t225.length co40] 29 (0, 0)) (kB BK228.out)) : gb228 ≠ gb238))
    have n18_ := k0 ((by rw [hg]; exact Nat.ne_of_gt (blk_lt (g := gb228) (o := .cells #[.int .i64 t224, .slice Ao40 t225.length co40] 29 (0, 0)) (kB BK228.out)) : gb238 ≠ gb228))
    clear HO213
    clear HO221
    clear HO227
    clear BK207
    clear BK208
    clear BK223
    clear BK228
    clear HB
    have HO213 := n0_
    have HO221 := n1_
    have HO227 := n2_
    have BK207 := n3_
    have BK208 := n4_
    have BK223 := n5_
    have BK228 := n6_
    have HB := n7_
    have BK238 := n8_
    have GW238 := n9_
    have GE238 := n10_
    have NB207_238 := n11_
    have NB238_207 := n12_
    have NB208_238 := n13_
    have NB238_208 := n14_
    have NB223_238 := n15_
    have NB238_223 := n16_
    have NB228_238 := n17_
    have NB238_228 := n18_
    clear n0_ n1_ n2_ n3_ n4_ n5_ n6_ n7_ n8_ n9_ n10_ n11_ n12_ n13_ n14_ n15_ n16_ n17_ n18_
    clear hb hbox hg
    refine hK.out _ _ ⟨(blk_cell BK228.out 0).trans rfl, (blk_cell BK228.out 1).trans rfl, (blk_cell BK208.out 0).trans rfl, (blk_cell BK208.out 1).trans rfl, (blk_cell BK208.out 2).trans rfl, (blk_cell BK208.out 3).trans rfl⟩ (fun hHeld => ?_)
    clear hK K
    refine norm_ (a' := ?_) ?_ ?_
    rotate_left
    ·show Act.put _ (some 9) _ = _
     simp only [Act.put, List.setIfInBounds_toArray, List.set_cons_zero, List.set_cons_succ, i64_w, i32_w]
     rfl
    refine one_ (i := 2) (N := some 34) #[true, true, true, false, false, false, false, true, false, false] rfl rfl (one_of HT_.out (by kernel_rfl)) (by decide) (fun K hK => ?_)
    refine goes_ Try.func23 (by kernel_rfl) rfl #[.agg #[.int .i64 a1_0, .int .i64 a1_1, .int .i64 a1_2, .int .i64 a1_3]] (by rfl) rfl rfl (by (try simp only [List.map_toArray, List.map_cons, List.map_nil]); first | done | rfl | (simp only [List.length_drop, List.length_take]; rfl)) ?_
    with_reducible refine (laws_toMsg.calls a1_0 a1_1 a1_2 a1_3 t229 t230 t231 t232 _ A14.out).mono ?_
    rintro e w44 ⟨rfl, hb⟩
    refine ⟨_, rfl, ?_⟩
    have n0_ := k0 (Kd.R_below (kR HO213.out) hb)
    have n1_ := k0 (Kd.R_below (kR HO221.out) hb)
    have n2_ := k0 (Kd.R_below (kR HO227.out) hb)
    have n3_ := k0 (kb BK207.out hb)
    have n4_ := k0 (kb BK208.out hb)
    have n5_ := k0 (kb BK223.out hb)
    have n6_ := k0 (kb BK228.out hb)
    have n7_ := k0 (kb BK238.out hb)
    have n8_ := k0 (below_step (kW HB.out) hb)
    clear HO213
    clear HO221
    clear HO227
    clear BK207
    clear BK208
    clear BK223
    clear BK228
    clear BK238
    clear HB
    have HO213 := n0_
    have HO221 := n1_
    have HO227 := n2_
    have BK207 := n3_
    have BK208 := n4_
    have BK223 := n5_
    have BK228 := n6_
    have BK238 := n7_
    have HB := n8_
    clear n0_ n1_ n2_ n3_ n4_ n5_ n6_ n7_ n8_
    (try clear hb)
    (try clear hb2)
    (try clear hk)
    (try clear hi)
    refine hK.out _ _ ⟨(blk_cell BK228.out 0).trans rfl, (blk_cell BK228.out 1).trans rfl, (blk_cell BK208.out 0).trans rfl, (blk_cell BK208.out 1).trans rfl, (blk_cell BK208.out 2).trans rfl, (blk_cell BK208.out 3).trans rfl⟩ (fun hHeld => ?_)
    clear hK K
    refine norm_ (a' := ?_) ?_ ?_
    rotate_left
    ·show Act.put _ (some 34) _ = _
     simp only [Act.put, List.setIfInBounds_toArray, List.set_cons_zero, List.set_cons_succ, i64_w, i32_w]
     rfl
    refine one_ (i := 3) (N := some 35) #[true, true, true, true, false, false, false, true, false, false] rfl rfl (one_of HT_.out (by kernel_rfl)) (by decide) (fun K hK => ?_)
    refine goes_ Try.func24 (by kernel_rfl) rfl #[.agg #[.int .i64 t224, .slice Ao40 t225.length co40], .agg #[.int .i64 t229, .int .i64 t230, .int .i64 t231, .int .i64 t232]] (by rfl) rfl rfl (by (try simp only [List.map_toArray, List.map_cons, List.map_nil]); first | done | rfl | (simp only [List.length_drop, List.length_take]; rfl)) ?_
    with_reducible refine (impl_OutPut.calls k t224 _ _ t225 t229 t230 t231 t232 t233 t234 t237 _ ?side1 ?side2 A15.out).mono ?_
    (case side1 => repeat (first | exact (Kd.R_reads' HO227.out).2.2 | (with_reducible refine Kd.C_alloc ?_ _) | (with_reducible refine Kd.C_drewN ?_ _) | (with_reducible refine Kd.C_drew ?_)))
    (case side2 => exact (Kd.R_reads' HO227.out).2.1)
    rintro e w45 ⟨v235, rfl, ho0, hb⟩
    refine ⟨_, rfl, ?_⟩
    have n0_ := k0 (Kd.R_elder' (kR HO213.out) (Kd.R_base ho0) hb)
    have n1_ := k0 (Kd.R_elder' (kR HO221.out) (Kd.R_base ho0) hb)
    have n2_ := k0 (Kd.R_elder' (kR HO227.out) (Kd.R_base ho0) hb)
    have n3_ := k0 (Kd.R_lower (Kd.R_new' (Kd.R_new' (Kd.R_new' ho0 (Kd.R_lt (kR HO213.out))) (Kd.R_lt (kR HO221.out))) (Kd.R_lt (kR HO227.out))) (below_size (kW HB.out)))
    have n4_ := k0 (kb BK207.out hb)
    have n5_ := k0 (kb BK208.out hb)
    have n6_ := k0 (kb BK223.out hb)
    have n7_ := k0 (kb BK228.out hb)
    have n8_ := k0 (kb BK238.out hb)
    have n9_ := k0 (below_step (kW HB.out) hb)
    clear HO213
    clear HO221
    clear HO227
    clear BK207
    clear BK208
    clear BK223
    clear BK228
    clear BK238
    clear HB
    have HO213 := n0_
    have HO221 := n1_
    have HO227 := n2_
    have HO236 := n3_
    have BK207 := n4_
    have BK208 := n5_
    have BK223 := n6_
    have BK228 := n7_
    have BK238 := n8_
    have HB := n9_
    clear n0_ n1_ n2_ n3_ n4_ n5_ n6_ n7_ n8_ n9_
    (try clear hb)
    (try clear hb2)
    (try clear hk)
    (try clear hi)
    (try clear ho0)
    refine hK.out _ _ ⟨(blk_cell BK228.out 0).trans rfl, (blk_cell BK228.out 1).trans rfl, (blk_cell BK208.out 0).trans rfl, (blk_cell BK208.out 1).trans rfl, (blk_cell BK208.out 2).trans rfl, (blk_cell BK208.out 3).trans rfl⟩ (fun hHeld => ?_)
    clear hK K
    refine norm_ (a' := ?_) ?_ ?_
    rotate_left
    ·show Act.put _ (some 35) _ = _
     simp only [Act.put, List.setIfInBounds_toArray, List.set_cons_zero, List.set_cons_succ, i64_w, i32_w]
     rfl
    refine pure_ (i := 4) (N := some 31) (v := ?_) (a' := ?_) #[true, true, true, true, true, false, false, true, false, false] rfl rfl (any_of HT_.out (by kernel_rfl)) (fun _ _ _ h => h) (Or.inl ⟨by rfl, ?_⟩) ?_ ?_
    rotate_left
    ·intro w'
     go_simp
     with_reducible rfl
    rotate_left
    ·simp only [Act.put, List.setIfInBounds_toArray, List.set_cons_zero, List.set_cons_succ, i64_w, i32_w]
     rfl
    refine pure_ (i := 5) (N := some 36) (v := ?_) (a' := ?_) #[true, true, true, true, true, true, false, true, false, false] rfl rfl (any_of HT_.out (by kernel_rfl)) (fun _ _ _ h => h) (Or.inl ⟨by rfl, ?_⟩) ?_ ?_
    rotate_left
    ·intro w'
     go_simp
     with_reducible rfl
    rotate_left
    ·simp only [Act.put, List.setIfInBounds_toArray, List.set_cons_zero, List.set_cons_succ, i64_w, i32_w]
     rfl
    refine pure_ (i := 6) (N := some 37) (v := ?_) (a' := ?_) #[true, true, true, true, true, true, true, true, false, false] rfl rfl (any_of HT_.out (by kernel_rfl)) (fun _ _ _ h => h) (Or.inl ⟨by rfl, ?_⟩) ?_ ?_
    rotate_left
    ·intro w'
     go_simp
     with_reducible rfl
    rotate_left
    ·simp only [Act.put, List.setIfInBounds_toArray, List.set_cons_zero, List.set_cons_succ, i64_w, i32_w]
     rfl
    exact norm_ (by simp only [putAll, Act.put, List.setIfInBounds_toArray, List.set_cons_zero, List.set_cons_succ]) (hCont (v235, gb238) _ ⟨hHeld, (by (with_reducible repeat (first | apply Kd.R_alloc | apply Kd.R_drewN | apply Kd.R_drew)); exact Kd.R_mono HO213.out (fun _ hk => ⟨hk.1.1, ⟨hk.1.2, hk.2⟩⟩)), (by (with_reducible repeat (first | apply Kd.R_alloc | apply Kd.R_drewN | apply Kd.R_drew)); exact Kd.R_mono HO221.out (fun _ hk => ⟨hk.1.1, ⟨hk.1.2, hk.2⟩⟩)), (by (with_reducible repeat (first | apply Kd.R_alloc | apply Kd.R_drewN | apply Kd.R_drew)); exact Kd.R_mono HO227.out (fun _ hk => ⟨hk.1.1, ⟨hk.1.2, hk.2⟩⟩)), (by (with_reducible repeat (first | apply Kd.R_alloc | apply Kd.R_drewN | apply Kd.R_drew)); exact Kd.R_mono HO236.out (fun _ hk => ⟨hk.1.1.2, ⟨hk.1.2, hk.2⟩⟩)), (kB BK207.out), (kB BK208.out), (kB BK223.out), (kB BK228.out), (kB BK238.out), GW238.out, GE238.out, NB207_238.out, NB238_207.out, NB208_238.out, NB238_208.out, NB223_238.out, NB238_223.out, NB228_238.out, NB238_228.out, (kW HB.out)⟩)
  rintro ⟨v235, gb238⟩ w46 ⟨hS_, h0_, h1_, h2_, h3_, h4_, h5_, h6_, h7_, h8_, h9_, h10_, h11_, h12_, h13_, h14_, h15_, h16_, h17_, h18_, h19_⟩
  have n0_ : Aside0 (Kd.R k35 35 w46 w.heap.size (fun k_ => some k_ ≠ (.slice Ao30 t219.length co30 : Value).ownBlock ∧ some k_ ≠ (.slice Ao40 t225.length co40 : Value).ownBlock ∧ some k_ ≠ (v235 : Value).ownBlock) v212 t211) := ⟨h0_⟩
  have n1_ : Aside0 (Kd.R k35 35 w46 w.heap.size (fun k_ => some k_ ≠ (v212 : Value).ownBlock ∧ some k_ ≠ (.slice Ao40 t225.length co40 : Value).ownBlock ∧ some k_ ≠ (v235 : Value).ownBlock) (.slice Ao30 t219.length co30) t219) := ⟨h1_⟩
  have n2_ : Aside0 (Kd.R k35 35 w46 w.heap.size (fun k_ => some k_ ≠ (v212 : Value).ownBlock ∧ some k_ ≠ (.slice Ao30 t219.length co30 : Value).ownBlock ∧ some k_ ≠ (v235 : Value).ownBlock) (.slice Ao40 t225.length co40) t225) := ⟨h2_⟩
  have n3_ : Aside0 (Kd.R k35 35 w46 w.heap.size (fun k_ => some k_ ≠ (v212 : Value).ownBlock ∧ some k_ ≠ (.slice Ao30 t219.length co30 : Value).ownBlock ∧ some k_ ≠ (.slice Ao40 t225.length co40 : Value).ownBlock) v235 t234) := ⟨h3_⟩
  have n4_ : Aside0 (w46.heap[gb207]? = some (.cells #[.int .i64 a0_0, .slice A0_1 l0_1.length c0_1] 24 (0, 0))) := ⟨h4_⟩
  have n5_ : Aside0 (w46.heap[gb208]? = some (.cells #[.int .i64 a1_0, .int .i64 a1_1, .int .i64 a1_2, .int .i64 a1_3] 40 (0, 0))) := ⟨h5_⟩
  have n6_ : Aside0 (w46.heap[gb223]? = some (.cells #[.int .i64 t218, .slice Ao30 t219.length co30] 29 (0, 0))) := ⟨h6_⟩
  have n7_ : Aside0 (w46.heap[gb228]? = some (.cells #[.int .i64 t224, .slice Ao40 t225.length co40] 29 (0, 0))) := ⟨h7_⟩
  have n8_ : Aside0 (w46.heap[gb238]? = some (.cells #[.int .i64 0, .slice none 0 0] 29 (0, 0))) := ⟨h8_⟩
  have n9_ : Aside0 (w.heap.size ≤ gb238) := ⟨h9_⟩
  have n10_ : Aside0 (w.heap.size ≤ gb238) := ⟨h10_⟩
  have n11_ : Aside0 (gb207 ≠ gb238) := ⟨h11_⟩
  have n12_ : Aside0 (gb238 ≠ gb207) := ⟨h12_⟩
  have n13_ : Aside0 (gb208 ≠ gb238) := ⟨h13_⟩
  have n14_ : Aside0 (gb238 ≠ gb208) := ⟨h14_⟩
  have n15_ : Aside0 (gb223 ≠ gb238) := ⟨h15_⟩
  have n16_ : Aside0 (gb238 ≠ gb223) := ⟨h16_⟩
  have n17_ : Aside0 (gb228 ≠ gb238) := ⟨h17_⟩
  have n18_ : Aside0 (gb238 ≠ gb228) := ⟨h18_⟩
  have n19_ : Aside0 (Below w.heap.size w w46) := ⟨h19_⟩
  clear HO213
  clear HO221
  clear HO227
  clear BK207
  clear BK208
  clear BK223
  clear BK228
  clear HB
  clear h0_ h1_ h2_ h3_ h4_ h5_ h6_ h7_ h8_ h9_ h10_ h11_ h12_ h13_ h14_ h15_ h16_ h17_ h18_ h19_
  have HO213 := n0_
  have HO221 := n1_
  have HO227 := n2_
  have HO236 := n3_
  have BK207 := n4_
  have BK208 := n5_
  have BK223 := n6_
  have BK228 := n7_
  have BK238 := n8_
  have GW238 := n9_
  have GE238 := n10_
  have NB207_238 := n11_
  have NB238_207 := n12_
  have NB208_238 := n13_
  have NB238_208 := n14_
  have NB223_238 := n15_
  have NB238_223 := n16_
  have NB228_238 := n17_
  have NB238_228 := n18_
  have HB := n19_
  clear n0_ n1_ n2_ n3_ n4_ n5_ n6_ n7_ n8_ n9_ n10_ n11_ n12_ n13_ n14_ n15_ n16_ n17_ n18_ n19_
  have hHeld : w46.cell? ⟨gb228, 0, none⟩ = some (.int .i64 t224) ∧ w46.cell? ⟨gb228, 1, none⟩ = some (.slice Ao40 t225.length co40) ∧ w46.cell? ⟨gb208, 0, none⟩ = some (.int .i64 a1_0) ∧ w46.cell? ⟨gb208, 1, none⟩ = some (.int .i64 a1_1) ∧ w46.cell? ⟨gb208, 2, none⟩ = some (.int .i64 a1_2) ∧ w46.cell? ⟨gb208, 3, none⟩ = some (.int .i64 a1_3) := hS_
  obtain ⟨Ao48, co48, eo48⟩ := Kd.R_slice HO236.out
  (first | subst eo48 | (injection eo48 with f1_ f2_ f3_; have f4_ := f1_.symm; have f5_ := f3_.symm; clear f1_ f2_ f3_; subst f4_; subst f5_))
  refine norm_ (a' := ?_) ?_ ?_
  rotate_left
  ·simp only [putAll, Act.put, List.setIfInBounds_toArray, List.set_cons_zero, List.set_cons_succ]
   rfl
  refine one_ (i := 8) (N := none) #[true, true, true, true, true, true, true, true, true, false] rfl rfl (one_of HT_.out (by kernel_rfl)) (by decide) (fun K hK => ?_)
  have hs47 : w46.cell? ⟨gb238, 0, none⟩ = some (.int .i64 0) := (blk_cell BK238.out 0).trans rfl
  have hfs47 := blk_frozen BK238.out 0
  have hns47_0 := NB207_238.out
  have hns47_1 := NB208_238.out
  have hns47_2 := NB223_238.out
  have hns47_3 := NB228_238.out
  have hms47_0 := NB238_207.out
  have hms47_1 := NB238_208.out
  have hms47_2 := NB238_223.out
  have hms47_3 := NB238_228.out
  have hs49 : w46.cell? ⟨gb238, 1, none⟩ = some (.slice none 0 0) := (blk_cell BK238.out 1).trans rfl
  have hfs49 := blk_frozen BK238.out 1
  have hns49_0 := NB207_238.out
  have hns49_1 := NB208_238.out
  have hns49_2 := NB223_238.out
  have hns49_3 := NB228_238.out
  have hms49_0 := NB238_207.out
  have hms49_1 := NB238_208.out
  have hms49_2 := NB238_223.out
  have hms49_3 := NB238_228.out
  refine skip_ (w1 := ?_) (by rfl) rfl ?_ ?_
  rotate_left
  ·go_simp
   rfl
  refine hK.out _ _ ⟨((cell_far (p := ⟨gb238, _, none⟩) NB228_238.out _).trans (((cell_far (p := ⟨gb238, _, none⟩) NB228_238.out _).trans (hHeld.1)))), ((cell_far (p := ⟨gb238, _, none⟩) NB228_238.out _).trans (((cell_far (p := ⟨gb238, _, none⟩) NB228_238.out _).trans (hHeld.2.1)))), ((cell_far (p := ⟨gb238, _, none⟩) NB208_238.out _).trans (((cell_far (p := ⟨gb238, _, none⟩) NB208_238.out _).trans (hHeld.2.2.1)))), ((cell_far (p := ⟨gb238, _, none⟩) NB208_238.out _).trans (((cell_far (p := ⟨gb238, _, none⟩) NB208_238.out _).trans (hHeld.2.2.2.1)))), ((cell_far (p := ⟨gb238, _, none⟩) NB208_238.out _).trans (((cell_far (p := ⟨gb238, _, none⟩) NB208_238.out _).trans (hHeld.2.2.2.2.1)))), ((cell_far (p := ⟨gb238, _, none⟩) NB208_238.out _).trans (((cell_far (p := ⟨gb238, _, none⟩) NB208_238.out _).trans (hHeld.2.2.2.2.2))))⟩ (fun hHeld => ?_)
  clear hK K
  refine pure_ (i := 9) (N := some 10) (v := ?_) (a' := ?_) #[true, true, true, true, true, true, true, true, true, true] rfl rfl (any_of HT_.out (by kernel_rfl)) (fun _ _ _ h => h) (Or.inl ⟨by rfl, ?_⟩) ?_ ?_
  rotate_left
  ·intro w'
   go_simp
   with_reducible rfl
  rotate_left
  ·simp only [Act.put, List.setIfInBounds_toArray, List.set_cons_zero, List.set_cons_succ, i64_w, i32_w]
   rfl
  refine done_ (done_of HT_.out (by kernel_rfl)) ?_
  go_upto_region 8 with (fail)
  go_cut [46] (fun v46 wc => ∃ (kq : Nat) (x46_15 : Bool), v46 = .bool x46_15 ∧ Aside0 (laws_FnExactOutPut.j0 kq t222 t237 x46_15 a0_0 l0_1 a1_0 a1_1 a1_2 a1_3 t218 t219 t224 t225 t233 t234 = some r) ∧ Aside0 (kq ≤ k) ∧ Aside0 (Kd.R k35 35 wc w.heap.size (fun k_ => some k_ ≠ ((.slice Ao40 t225.length co40) : Value).ownBlock ∧ some k_ ≠ ((.slice Ao48 t234.length co48) : Value).ownBlock) (.slice Ao30 t219.length co30) t219) ∧ Aside0 (Kd.R k35 35 wc w.heap.size (fun k_ => some k_ ≠ ((.slice Ao30 t219.length co30) : Value).ownBlock ∧ some k_ ≠ ((.slice Ao48 t234.length co48) : Value).ownBlock) (.slice Ao40 t225.length co40) t225) ∧ Aside0 (Kd.R k35 35 wc w.heap.size (fun k_ => some k_ ≠ ((.slice Ao30 t219.length co30) : Value).ownBlock ∧ some k_ ≠ ((.slice Ao40 t225.length co40) : Value).ownBlock) (.slice Ao48 t234.length co48) t234) ∧ Aside0 (wc.heap[gb207]? = some (.cells #[.int .i64 a0_0, (.slice A0_1 l0_1.length c0_1)] 24 (0, 0))) ∧ Aside0 (wc.heap[gb208]? = some (.cells #[.int .i64 a1_0, .int .i64 a1_1, .int .i64 a1_2, .int .i64 a1_3] 40 (0, 0))) ∧ Aside0 (wc.heap[gb223]? = some (.cells #[.int .i64 t218, (.slice Ao30 t219.length co30)] 29 (0, 0))) ∧ Aside0 (wc.heap[gb228]? = some (.cells #[.int .i64 t224, (.slice Ao40 t225.length co40)] 29 (0, 0))) ∧ Aside0 (wc.heap[gb238]? = some (.cells #[.int .i64 t233, (.slice Ao48 t234.length co48)] 29 (0, 0))) ∧ Aside0 (Below w.heap.size w wc))
  case first =>
   have H := HC16.out
   clear HC16
   replace H := Option.bind_eq_some_iff.mp H
   obtain ⟨t239, A500, H⟩ := H
   replace H : (if t239 = true then (laws_FnExactOutPut.j0 k t222 t237 (t237 != t222) a0_0 l0_1 a1_0 a1_1 a1_2 a1_3 t218 t219 t224 t225 t233 t234) else (laws_FnExactOutPut.j0 k t222 t237 true a0_0 l0_1 a1_0 a1_1 a1_2 a1_3 t218 t219 t224 t225 t233 t234)) = some r := H
   have A50 := Aside0.mk A500
   clear A500
   by_cases c51 : t239 = true
   ·subst c51
    have H1 : (laws_FnExactOutPut.j0 k t222 t237 (t237 != t222) a0_0 l0_1 a1_0 a1_1 a1_2 a1_3 t218 t219 t224 t225 t233 t234) = some r := by rw [if_pos rfl] at H; exact H
    clear H
    have H := H1
    clear H1
    have H' := Aside0.mk H
    clear H
    have hnb52 := NB238_207.out
    have hnc52 := NB207_238.out
    have hnb53 := NB238_208.out
    have hnc53 := NB208_238.out
    have hnb54 := NB238_223.out
    have hnc54 := NB223_238.out
    have hnb55 := NB238_228.out
    have hnc55 := NB228_238.out
    have hcz56_0 : w46.cell? ⟨gb238, 0, none⟩ = some (.int .i64 0) := (blk_cell BK238.out 0).trans rfl
    have hcz56_1 : w46.cell? ⟨gb238, 1, none⟩ = some (.slice none 0 0) := (blk_cell BK238.out 1).trans rfl
    have hfz56_0 := blk_frozen BK238.out 0
    have hfz56_1 := blk_frozen BK238.out 1
    have hnb57 := NB223_207.out
    have hnc57 := NB207_223.out
    have hnb58 := NB223_208.out
    have hnc58 := NB208_223.out
    have hnb59 := NB223_228.out
    have hnc59 := NB228_223.out
    have hcz60_0 : w46.cell? ⟨gb223, 0, none⟩ = some (.int .i64 t218) := (blk_cell BK223.out 0).trans rfl
    have hcz60_1 : w46.cell? ⟨gb223, 1, none⟩ = some (.slice Ao30 t219.length co30) := (blk_cell BK223.out 1).trans rfl
    have hfz60_0 := blk_frozen BK223.out 0
    have hfz60_1 := blk_frozen BK223.out 1
    go_wp2_with (first | ((with_reducible refine gate_callee (f := 16) rfl ?_); refine goesL_ (some 40) rfl rfl Try.func16 (by kernel_rfl) rfl #[.agg #[.int .i64 t233, .slice Ao48 t234.length co48], .agg #[.int .i64 t218, .slice Ao30 t219.length co30]] rfl (by (try simp only [List.map_toArray, List.map_cons, List.map_nil]); first | done | rfl | (simp only [List.length_drop, List.length_take]; rfl)) ?_; (with_reducible refine (laws_eqOut.calls k t233 _ _ t234 t218 _ _ t219 true _ ?side1 ?side2 ?side3 ?side4 A50.out).mono ?_); (case side1 => refine (Kd.R_reads' (e := 35) (base := w.heap.size) (ok := fun k_ => (some k_ ≠ (v212 : Value).ownBlock ∧ (some k_ ≠ (.slice Ao30 t219.length co30 : Value).ownBlock ∧ some k_ ≠ (.slice Ao40 t225.length co40 : Value).ownBlock))) (n := t234.length) (c := co48) ?_).2.2; exact (by (with_reducible repeat (first | apply Kd.R_alloc | apply Kd.R_drewN | apply Kd.R_drew)); exact (Kd.R_mono (Kd.R_far (p := ⟨gb238, 1, none⟩) (Kd.R_far (p := ⟨gb238, 0, none⟩) (Kd.R_types HO236.out BK238.out (by decide)) (fun _ hk => hk.2) (.int .i64 t233)) (fun _ hk => hk.2) (.slice Ao48 t234.length co48)) (fun _ h_ => h_.1)))); (case side2 => exact (Kd.R_reads' HO236.out).2.1); (case side3 => refine (Kd.R_reads' (e := 35) (base := w.heap.size) (ok := fun k_ => (some k_ ≠ (v212 : Value).ownBlock ∧ (some k_ ≠ (.slice Ao40 t225.length co40 : Value).ownBlock ∧ some k_ ≠ (.slice Ao48 t234.length co48 : Value).ownBlock))) (n := t219.length) (c := co30) ?_).2.2; exact (by (with_reducible repeat (first | apply Kd.R_alloc | apply Kd.R_drewN | apply Kd.R_drew)); exact (Kd.R_mono (Kd.R_far (p := ⟨gb238, 1, none⟩) (Kd.R_far (p := ⟨gb238, 0, none⟩) (Kd.R_types HO221.out BK238.out (by decide)) (fun _ hk => hk.2) (.int .i64 t233)) (fun _ hk => hk.2) (.slice Ao48 t234.length co48)) (fun _ h_ => h_.1)))); (case side4 => exact (Kd.R_reads' HO221.out).2.1); rintro e w61 ⟨rfl, hb⟩; refine ⟨_, rfl, ?_⟩; have n0_ := k0 (Kd.R_below (by (with_reducible repeat (first | apply Kd.R_alloc | apply Kd.R_drewN | apply Kd.R_drew)); exact (Kd.R_mono (Kd.R_far (p := ⟨gb238, 1, none⟩) (Kd.R_far (p := ⟨gb238, 0, none⟩) (Kd.R_types HO213.out BK238.out (by decide)) (fun _ hk => hk.2) (.int .i64 t233)) (fun _ hk => hk.2) (.slice Ao48 t234.length co48)) (fun _ h_ => h_.1))) hb); have n1_ := k0 (Kd.R_below (by (with_reducible repeat (first | apply Kd.R_alloc | apply Kd.R_drewN | apply Kd.R_drew)); exact (Kd.R_mono (Kd.R_far (p := ⟨gb238, 1, none⟩) (Kd.R_far (p := ⟨gb238, 0, none⟩) (Kd.R_types HO221.out BK238.out (by decide)) (fun _ hk => hk.2) (.int .i64 t233)) (fun _ hk => hk.2) (.slice Ao48 t234.length co48)) (fun _ h_ => h_.1))) hb); have n2_ := k0 (Kd.R_below (by (with_reducible repeat (first | apply Kd.R_alloc | apply Kd.R_drewN | apply Kd.R_drew)); exact (Kd.R_mono (Kd.R_far (p := ⟨gb238, 1, none⟩) (Kd.R_far (p := ⟨gb238, 0, none⟩) (Kd.R_types HO227.out BK238.out (by decide)) (fun _ hk => hk.2) (.int .i64 t233)) (fun _ hk => hk.2) (.slice Ao48 t234.length co48)) (fun _ h_ => h_.1))) hb); have n3_ := k0 (Kd.R_below (by (with_reducible repeat (first | apply Kd.R_alloc | apply Kd.R_drewN | apply Kd.R_drew)); exact (Kd.R_mono (Kd.R_far (p := ⟨gb238, 1, none⟩) (Kd.R_far (p := ⟨gb238, 0, none⟩) (Kd.R_types HO236.out BK238.out (by decide)) (fun _ hk => hk.2) (.int .i64 t233)) (fun _ hk => hk.2) (.slice Ao48 t234.length co48)) (fun _ h_ => h_.1))) hb); have n4_ := k0 (blk_below (g := gb207) (o := .cells #[.int .i64 a0_0, .slice A0_1 l0_1.length c0_1] 24 (0, 0)) (by (with_reducible repeat (first | refine blk_drewN ?_ _ | refine blk_drew ?_ | refine blk_alloc ?_ _)); refine blk_far ?_ NB207_238.out _; (with_reducible repeat (first | refine blk_drewN ?_ _ | refine blk_drew ?_ | refine blk_alloc ?_ _)); refine blk_far ?_ NB207_238.out _; (with_reducible repeat (first | refine blk_drewN ?_ _ | refine blk_drew ?_ | refine blk_alloc ?_ _)); exact BK207.out) hb); have n5_ := k0 (blk_below (g := gb208) (o := .cells #[.int .i64 a1_0, .int .i64 a1_1, .int .i64 a1_2, .int .i64 a1_3] 40 (0, 0)) (by (with_reducible repeat (first | refine blk_drewN ?_ _ | refine blk_drew ?_ | refine blk_alloc ?_ _)); refine blk_far ?_ NB208_238.out _; (with_reducible repeat (first | refine blk_drewN ?_ _ | refine blk_drew ?_ | refine blk_alloc ?_ _)); refine blk_far ?_ NB208_238.out _; (with_reducible repeat (first | refine blk_drewN ?_ _ | refine blk_drew ?_ | refine blk_alloc ?_ _)); exact BK208.out) hb); have n6_ := k0 (blk_below (g := gb223) (o := .cells #[.int .i64 t218, .slice Ao30 t219.length co30] 29 (0, 0)) (by (with_reducible repeat (first | refine blk_drewN ?_ _ | refine blk_drew ?_ | refine blk_alloc ?_ _)); refine blk_far ?_ NB223_238.out _; (with_reducible repeat (first | refine blk_drewN ?_ _ | refine blk_drew ?_ | refine blk_alloc ?_ _)); refine blk_far ?_ NB223_238.out _; (with_reducible repeat (first | refine blk_drewN ?_ _ | refine blk_drew ?_ | refine blk_alloc ?_ _)); exact BK223.out) hb); have n7_ := k0 (blk_below (g := gb228) (o := .cells #[.int .i64 t224, .slice Ao40 t225.length co40] 29 (0, 0)) (by (with_reducible repeat (first | refine blk_drewN ?_ _ | refine blk_drew ?_ | refine blk_alloc ?_ _)); refine blk_far ?_ NB228_238.out _; (with_reducible repeat (first | refine blk_drewN ?_ _ | refine blk_drew ?_ | refine blk_alloc ?_ _)); refine blk_far ?_ NB228_238.out _; (with_reducible repeat (first | refine blk_drewN ?_ _ | refine blk_drew ?_ | refine blk_alloc ?_ _)); exact BK228.out) hb); have n8_ := k0 (blk_below (g := gb238) (o := .cells #[.int .i64 t233, .slice Ao48 t234.length co48] 29 (0, 0)) (by (with_reducible repeat (first | refine blk_drewN ?_ _ | refine blk_drew ?_ | refine blk_alloc ?_ _)); refine blk_put (cs := #[.int .i64 t233, .slice none 0 0]) ?_ 1 _ rfl; (with_reducible repeat (first | refine blk_drewN ?_ _ | refine blk_drew ?_ | refine blk_alloc ?_ _)); refine blk_put (cs := #[.int .i64 0, .slice none 0 0]) ?_ 0 _ rfl; (with_reducible repeat (first | refine blk_drewN ?_ _ | refine blk_drew ?_ | refine blk_alloc ?_ _)); exact BK238.out) hb); have n9_ := k0 (below_step (kW HB.out) hb); clear HO213; clear HO221; clear HO227; clear HO236; clear BK207; clear BK208; clear BK223; clear BK228; clear BK238; clear HB; have HO213 := n0_; have HO221 := n1_; have HO227 := n2_; have HO236 := n3_; have BK207 := n4_; have BK208 := n5_; have BK223 := n6_; have BK228 := n7_; have BK238 := n8_; have HB := n9_; clear n0_ n1_ n2_ n3_ n4_ n5_ n6_ n7_ n8_ n9_; (try clear hb); (try clear hb2); (try clear hk); (try clear hi)))
    go_meet
    case rel => exact ⟨_, ((t237 != t222)), (by first | rfl | (simp; done) | (simp [*]; done)), H', ⟨by first | omega | exact Nat.le_refl _⟩, ⟨by (with_reducible repeat (first | apply Kd.R_alloc | apply Kd.R_drewN | apply Kd.R_drew)); exact Kd.R_mono HO221.out (fun _ hk => ⟨hk.2.1, hk.2.2⟩)⟩, ⟨by (with_reducible repeat (first | apply Kd.R_alloc | apply Kd.R_drewN | apply Kd.R_drew)); exact Kd.R_mono HO227.out (fun _ hk => ⟨hk.2.1, hk.2.2⟩)⟩, ⟨by (with_reducible repeat (first | apply Kd.R_alloc | apply Kd.R_drewN | apply Kd.R_drew)); exact Kd.R_mono HO236.out (fun _ hk => ⟨hk.2.1, hk.2.2⟩)⟩, ⟨by (with_reducible repeat (first | refine blk_drewN ?_ _ | refine blk_drew ?_ | refine blk_alloc ?_ _)); exact BK207.out⟩, ⟨by (with_reducible repeat (first | refine blk_drewN ?_ _ | refine blk_drew ?_ | refine blk_alloc ?_ _)); exact BK208.out⟩, ⟨by (with_reducible repeat (first | refine blk_drewN ?_ _ | refine blk_drew ?_ | refine blk_alloc ?_ _)); exact BK223.out⟩, ⟨by (with_reducible repeat (first | refine blk_drewN ?_ _ | refine blk_drew ?_ | refine blk_alloc ?_ _)); exact BK228.out⟩, ⟨by (with_reducible repeat (first | refine blk_drewN ?_ _ | refine blk_drew ?_ | refine blk_alloc ?_ _)); exact BK238.out⟩, ⟨by repeat (first | (with_reducible first | exact HB.out | apply below_alloc | apply pw_below_drewN | apply below_drew1 | refine below_set ?_ GE207.out | refine below_set ?_ GE208.out | refine below_set ?_ GE223.out | refine below_set ?_ GE228.out | refine below_set ?_ GE238.out) | exact HB.out)⟩⟩
   ·replace c51 := Bool.eq_false_iff.mpr c51
    subst c51
    have H1 : (laws_FnExactOutPut.j0 k t222 t237 true a0_0 l0_1 a1_0 a1_1 a1_2 a1_3 t218 t219 t224 t225 t233 t234) = some r := by rw [if_neg (show ¬ (false = true) by decide)] at H; exact H
    clear H
    have H := H1
    clear H1
    have H' := Aside0.mk H
    clear H
    have hnb62 := NB238_207.out
    have hnc62 := NB207_238.out
    have hnb63 := NB238_208.out
    have hnc63 := NB208_238.out
    have hnb64 := NB238_223.out
    have hnc64 := NB223_238.out
    have hnb65 := NB238_228.out
    have hnc65 := NB228_238.out
    have hcz66_0 : w46.cell? ⟨gb238, 0, none⟩ = some (.int .i64 0) := (blk_cell BK238.out 0).trans rfl
    have hcz66_1 : w46.cell? ⟨gb238, 1, none⟩ = some (.slice none 0 0) := (blk_cell BK238.out 1).trans rfl
    have hfz66_0 := blk_frozen BK238.out 0
    have hfz66_1 := blk_frozen BK238.out 1
    have hnb67 := NB223_207.out
    have hnc67 := NB207_223.out
    have hnb68 := NB223_208.out
    have hnc68 := NB208_223.out
    have hnb69 := NB223_228.out
    have hnc69 := NB228_223.out
    have hcz70_0 : w46.cell? ⟨gb223, 0, none⟩ = some (.int .i64 t218) := (blk_cell BK223.out 0).trans rfl
    have hcz70_1 : w46.cell? ⟨gb223, 1, none⟩ = some (.slice Ao30 t219.length co30) := (blk_cell BK223.out 1).trans rfl
    have hfz70_0 := blk_frozen BK223.out 0
    have hfz70_1 := blk_frozen BK223.out 1
    go_wp2_with (first | ((with_reducible refine gate_callee (f := 16) rfl ?_); refine goesL_ (some 40) rfl rfl Try.func16 (by kernel_rfl) rfl #[.agg #[.int .i64 t233, .slice Ao48 t234.length co48], .agg #[.int .i64 t218, .slice Ao30 t219.length co30]] rfl (by (try simp only [List.map_toArray, List.map_cons, List.map_nil]); first | done | rfl | (simp only [List.length_drop, List.length_take]; rfl)) ?_; (with_reducible refine (laws_eqOut.calls k t233 _ _ t234 t218 _ _ t219 false _ ?side1 ?side2 ?side3 ?side4 A50.out).mono ?_); (case side1 => refine (Kd.R_reads' (e := 35) (base := w.heap.size) (ok := fun k_ => (some k_ ≠ (v212 : Value).ownBlock ∧ (some k_ ≠ (.slice Ao30 t219.length co30 : Value).ownBlock ∧ some k_ ≠ (.slice Ao40 t225.length co40 : Value).ownBlock))) (n := t234.length) (c := co48) ?_).2.2; exact (by (with_reducible repeat (first | apply Kd.R_alloc | apply Kd.R_drewN | apply Kd.R_drew)); exact (Kd.R_mono (Kd.R_far (p := ⟨gb238, 1, none⟩) (Kd.R_far (p := ⟨gb238, 0, none⟩) (Kd.R_types HO236.out BK238.out (by decide)) (fun _ hk => hk.2) (.int .i64 t233)) (fun _ hk => hk.2) (.slice Ao48 t234.length co48)) (fun _ h_ => h_.1)))); (case side2 => exact (Kd.R_reads' HO236.out).2.1); (case side3 => refine (Kd.R_reads' (e := 35) (base := w.heap.size) (ok := fun k_ => (some k_ ≠ (v212 : Value).ownBlock ∧ (some k_ ≠ (.slice Ao40 t225.length co40 : Value).ownBlock ∧ some k_ ≠ (.slice Ao48 t234.length co48 : Value).ownBlock))) (n := t219.length) (c := co30) ?_).2.2; exact (by (with_reducible repeat (first | apply Kd.R_alloc | apply Kd.R_drewN | apply Kd.R_drew)); exact (Kd.R_mono (Kd.R_far (p := ⟨gb238, 1, none⟩) (Kd.R_far (p := ⟨gb238, 0, none⟩) (Kd.R_types HO221.out BK238.out (by decide)) (fun _ hk => hk.2) (.int .i64 t233)) (fun _ hk => hk.2) (.slice Ao48 t234.length co48)) (fun _ h_ => h_.1)))); (case side4 => exact (Kd.R_reads' HO221.out).2.1); rintro e w71 ⟨rfl, hb⟩; refine ⟨_, rfl, ?_⟩; have n0_ := k0 (Kd.R_below (by (with_reducible repeat (first | apply Kd.R_alloc | apply Kd.R_drewN | apply Kd.R_drew)); exact (Kd.R_mono (Kd.R_far (p := ⟨gb238, 1, none⟩) (Kd.R_far (p := ⟨gb238, 0, none⟩) (Kd.R_types HO213.out BK238.out (by decide)) (fun _ hk => hk.2) (.int .i64 t233)) (fun _ hk => hk.2) (.slice Ao48 t234.length co48)) (fun _ h_ => h_.1))) hb); have n1_ := k0 (Kd.R_below (by (with_reducible repeat (first | apply Kd.R_alloc | apply Kd.R_drewN | apply Kd.R_drew)); exact (Kd.R_mono (Kd.R_far (p := ⟨gb238, 1, none⟩) (Kd.R_far (p := ⟨gb238, 0, none⟩) (Kd.R_types HO221.out BK238.out (by decide)) (fun _ hk => hk.2) (.int .i64 t233)) (fun _ hk => hk.2) (.slice Ao48 t234.length co48)) (fun _ h_ => h_.1))) hb); have n2_ := k0 (Kd.R_below (by (with_reducible repeat (first | apply Kd.R_alloc | apply Kd.R_drewN | apply Kd.R_drew)); exact (Kd.R_mono (Kd.R_far (p := ⟨gb238, 1, none⟩) (Kd.R_far (p := ⟨gb238, 0, none⟩) (Kd.R_types HO227.out BK238.out (by decide)) (fun _ hk => hk.2) (.int .i64 t233)) (fun _ hk => hk.2) (.slice Ao48 t234.length co48)) (fun _ h_ => h_.1))) hb); have n3_ := k0 (Kd.R_below (by (with_reducible repeat (first | apply Kd.R_alloc | apply Kd.R_drewN | apply Kd.R_drew)); exact (Kd.R_mono (Kd.R_far (p := ⟨gb238, 1, none⟩) (Kd.R_far (p := ⟨gb238, 0, none⟩) (Kd.R_types HO236.out BK238.out (by decide)) (fun _ hk => hk.2) (.int .i64 t233)) (fun _ hk => hk.2) (.slice Ao48 t234.length co48)) (fun _ h_ => h_.1))) hb); have n4_ := k0 (blk_below (g := gb207) (o := .cells #[.int .i64 a0_0, .slice A0_1 l0_1.length c0_1] 24 (0, 0)) (by (with_reducible repeat (first | refine blk_drewN ?_ _ | refine blk_drew ?_ | refine blk_alloc ?_ _)); refine blk_far ?_ NB207_238.out _; (with_reducible repeat (first | refine blk_drewN ?_ _ | refine blk_drew ?_ | refine blk_alloc ?_ _)); refine blk_far ?_ NB207_238.out _; (with_reducible repeat (first | refine blk_drewN ?_ _ | refine blk_drew ?_ | refine blk_alloc ?_ _)); exact BK207.out) hb); have n5_ := k0 (blk_below (g := gb208) (o := .cells #[.int .i64 a1_0, .int .i64 a1_1, .int .i64 a1_2, .int .i64 a1_3] 40 (0, 0)) (by (with_reducible repeat (first | refine blk_drewN ?_ _ | refine blk_drew ?_ | refine blk_alloc ?_ _)); refine blk_far ?_ NB208_238.out _; (with_reducible repeat (first | refine blk_drewN ?_ _ | refine blk_drew ?_ | refine blk_alloc ?_ _)); refine blk_far ?_ NB208_238.out _; (with_reducible repeat (first | refine blk_drewN ?_ _ | refine blk_drew ?_ | refine blk_alloc ?_ _)); exact BK208.out) hb); have n6_ := k0 (blk_below (g := gb223) (o := .cells #[.int .i64 t218, .slice Ao30 t219.length co30] 29 (0, 0)) (by (with_reducible repeat (first | refine blk_drewN ?_ _ | refine blk_drew ?_ | refine blk_alloc ?_ _)); refine blk_far ?_ NB223_238.out _; (with_reducible repeat (first | refine blk_drewN ?_ _ | refine blk_drew ?_ | refine blk_alloc ?_ _)); refine blk_far ?_ NB223_238.out _; (with_reducible repeat (first | refine blk_drewN ?_ _ | refine blk_drew ?_ | refine blk_alloc ?_ _)); exact BK223.out) hb); have n7_ := k0 (blk_below (g := gb228) (o := .cells #[.int .i64 t224, .slice Ao40 t225.length co40] 29 (0, 0)) (by (with_reducible repeat (first | refine blk_drewN ?_ _ | refine blk_drew ?_ | refine blk_alloc ?_ _)); refine blk_far ?_ NB228_238.out _; (with_reducible repeat (first | refine blk_drewN ?_ _ | refine blk_drew ?_ | refine blk_alloc ?_ _)); refine blk_far ?_ NB228_238.out _; (with_reducible repeat (first | refine blk_drewN ?_ _ | refine blk_drew ?_ | refine blk_alloc ?_ _)); exact BK228.out) hb); have n8_ := k0 (blk_below (g := gb238) (o := .cells #[.int .i64 t233, .slice Ao48 t234.length co48] 29 (0, 0)) (by (with_reducible repeat (first | refine blk_drewN ?_ _ | refine blk_drew ?_ | refine blk_alloc ?_ _)); refine blk_put (cs := #[.int .i64 t233, .slice none 0 0]) ?_ 1 _ rfl; (with_reducible repeat (first | refine blk_drewN ?_ _ | refine blk_drew ?_ | refine blk_alloc ?_ _)); refine blk_put (cs := #[.int .i64 0, .slice none 0 0]) ?_ 0 _ rfl; (with_reducible repeat (first | refine blk_drewN ?_ _ | refine blk_drew ?_ | refine blk_alloc ?_ _)); exact BK238.out) hb); have n9_ := k0 (below_step (kW HB.out) hb); clear HO213; clear HO221; clear HO227; clear HO236; clear BK207; clear BK208; clear BK223; clear BK228; clear BK238; clear HB; have HO213 := n0_; have HO221 := n1_; have HO227 := n2_; have HO236 := n3_; have BK207 := n4_; have BK208 := n5_; have BK223 := n6_; have BK228 := n7_; have BK238 := n8_; have HB := n9_; clear n0_ n1_ n2_ n3_ n4_ n5_ n6_ n7_ n8_ n9_; (try clear hb); (try clear hb2); (try clear hk); (try clear hi)))
    go_meet
    case rel => exact ⟨_, (true), (by first | rfl | (simp; done) | (simp [*]; done)), H', ⟨by first | omega | exact Nat.le_refl _⟩, ⟨by (with_reducible repeat (first | apply Kd.R_alloc | apply Kd.R_drewN | apply Kd.R_drew)); exact Kd.R_mono HO221.out (fun _ hk => ⟨hk.2.1, hk.2.2⟩)⟩, ⟨by (with_reducible repeat (first | apply Kd.R_alloc | apply Kd.R_drewN | apply Kd.R_drew)); exact Kd.R_mono HO227.out (fun _ hk => ⟨hk.2.1, hk.2.2⟩)⟩, ⟨by (with_reducible repeat (first | apply Kd.R_alloc | apply Kd.R_drewN | apply Kd.R_drew)); exact Kd.R_mono HO236.out (fun _ hk => ⟨hk.2.1, hk.2.2⟩)⟩, ⟨by (with_reducible repeat (first | refine blk_drewN ?_ _ | refine blk_drew ?_ | refine blk_alloc ?_ _)); exact BK207.out⟩, ⟨by (with_reducible repeat (first | refine blk_drewN ?_ _ | refine blk_drew ?_ | refine blk_alloc ?_ _)); exact BK208.out⟩, ⟨by (with_reducible repeat (first | refine blk_drewN ?_ _ | refine blk_drew ?_ | refine blk_alloc ?_ _)); exact BK223.out⟩, ⟨by (with_reducible repeat (first | refine blk_drewN ?_ _ | refine blk_drew ?_ | refine blk_alloc ?_ _)); exact BK228.out⟩, ⟨by (with_reducible repeat (first | refine blk_drewN ?_ _ | refine blk_drew ?_ | refine blk_alloc ?_ _)); exact BK238.out⟩, ⟨by repeat (first | (with_reducible first | exact HB.out | apply below_alloc | apply pw_below_drewN | apply below_drew1 | refine below_set ?_ GE207.out | refine below_set ?_ GE208.out | refine below_set ?_ GE223.out | refine below_set ?_ GE228.out | refine below_set ?_ GE238.out) | exact HB.out)⟩⟩
  case rest =>
   clear HC16
   try clear c1
   try clear c2
   try clear p2
   try clear c5
   try clear c6
   try clear c16
   try clear c23
   try clear c24
   try clear c51
   try clear c52
   try clear c53
   try clear c54
   try clear c55
   try clear c57
   try clear c58
   try clear c59
   try clear c62
   try clear c63
   try clear c64
   try clear c65
   try clear c67
   try clear c68
   try clear c69
   try clear hcz56_0
   try clear hcz56_1
   try clear hcz60_0
   try clear hcz60_1
   try clear hcz66_0
   try clear hcz66_1
   try clear hcz70_0
   try clear hcz70_1
   try clear hfz56_0
   try clear hfz56_1
   try clear hfz60_0
   try clear hfz60_1
   try clear hfz66_0
   try clear hfz66_1
   try clear hfz70_0
   try clear hfz70_1
   obtain ⟨kq, x46_15, rfl, HA, HJ15, HO_224001, HO_229001, HO_239001, BK207, BK208, BK223, BK228, BK238, HB⟩ := hcut
   cases kq with
   | zero => exact absurd HA.out (by simp [laws_FnExactOutPut.j0])
   | succ kj15 =>
    have H := HA.out
    clear HA
    simp only [laws_FnExactOutPut.j0] at H
    by_cases c72 : x46_15 = true
    ·subst c72
     have H1 : (some false) = some r := by rw [if_pos rfl] at H; exact H
     clear H
     have H := H1
     clear H1
     exact absurd ((Option.some.inj H).trans HR.out) (by decide)
    ·replace c72 := Bool.eq_false_iff.mpr c72
     subst c72
     have H1 : ((laws_toOut.f kj15 a0_0 l0_1).bind fun bt240 => ((laws_eqOut.f kj15 t224 t225 bt240.1 bt240.2).bind fun t244 => (if t244 = true then ((laws_markOut.f kj15 t224 t225 1).bind fun bt245 => (if bt245.1 < 0 then (laws_FnExactOutPut.j1 kj15 t222 true a0_0 l0_1 a1_0 a1_1 a1_2 a1_3 t218 t219 t233 t234) else ((laws_eqOut.f kj15 t233 t234 t218 t219).bind fun t247 => (if t247 = true then (laws_FnExactOutPut.j1 kj15 t222 (t237 != t222) a0_0 l0_1 a1_0 a1_1 a1_2 a1_3 t218 t219 t233 t234) else (laws_FnExactOutPut.j1 kj15 t222 true a0_0 l0_1 a1_0 a1_1 a1_2 a1_3 t218 t219 t233 t234))))) else (some false)))) = some r := by rw [if_neg (show ¬ (false = true) by decide)] at H; exact H
     clear H
     have H := H1
     clear H1
     replace H := Option.bind_eq_some_iff.mp H
     obtain ⟨⟨t240, t241⟩, A730, H⟩ := H
     replace H : ((laws_eqOut.f kj15 t224 t225 t240 t241).bind fun t244 => (if t244 = true then ((laws_markOut.f kj15 t224 t225 1).bind fun bt245 => (if bt245.1 < 0 then (laws_FnExactOutPut.j1 kj15 t222 true a0_0 l0_1 a1_0 a1_1 a1_2 a1_3 t218 t219 t233 t234) else ((laws_eqOut.f kj15 t233 t234 t218 t219).bind fun t247 => (if t247 = true then (laws_FnExactOutPut.j1 kj15 t222 (t237 != t222) a0_0 l0_1 a1_0 a1_1 a1_2 a1_3 t218 t219 t233 t234) else (laws_FnExactOutPut.j1 kj15 t222 true a0_0 l0_1 a1_0 a1_1 a1_2 a1_3 t218 t219 t233 t234))))) else (some false))) = some r := H
     have A73 := Aside0.mk A730
     clear A730
     replace H := Option.bind_eq_some_iff.mp H
     obtain ⟨t244, A740, H⟩ := H
     replace H : (if t244 = true then ((laws_markOut.f kj15 t224 t225 1).bind fun bt245 => (if bt245.1 < 0 then (laws_FnExactOutPut.j1 kj15 t222 true a0_0 l0_1 a1_0 a1_1 a1_2 a1_3 t218 t219 t233 t234) else ((laws_eqOut.f kj15 t233 t234 t218 t219).bind fun t247 => (if t247 = true then (laws_FnExactOutPut.j1 kj15 t222 (t237 != t222) a0_0 l0_1 a1_0 a1_1 a1_2 a1_3 t218 t219 t233 t234) else (laws_FnExactOutPut.j1 kj15 t222 true a0_0 l0_1 a1_0 a1_1 a1_2 a1_3 t218 t219 t233 t234))))) else (some false)) = some r := H
     have A74 := Aside0.mk A740
     clear A740
     by_cases c75 : t244 = true
     ·subst c75
      have H1 : ((laws_markOut.f kj15 t224 t225 1).bind fun bt245 => (if bt245.1 < 0 then (laws_FnExactOutPut.j1 kj15 t222 true a0_0 l0_1 a1_0 a1_1 a1_2 a1_3 t218 t219 t233 t234) else ((laws_eqOut.f kj15 t233 t234 t218 t219).bind fun t247 => (if t247 = true then (laws_FnExactOutPut.j1 kj15 t222 (t237 != t222) a0_0 l0_1 a1_0 a1_1 a1_2 a1_3 t218 t219 t233 t234) else (laws_FnExactOutPut.j1 kj15 t222 true a0_0 l0_1 a1_0 a1_1 a1_2 a1_3 t218 t219 t233 t234))))) = some r := by rw [if_pos rfl] at H; exact H
      clear H
      have H := H1
      clear H1
      replace H := Option.bind_eq_some_iff.mp H
      obtain ⟨⟨t245, t246⟩, A760, H⟩ := H
      replace H : (if t245 < 0 then (laws_FnExactOutPut.j1 kj15 t222 true a0_0 l0_1 a1_0 a1_1 a1_2 a1_3 t218 t219 t233 t234) else ((laws_eqOut.f kj15 t233 t234 t218 t219).bind fun t247 => (if t247 = true then (laws_FnExactOutPut.j1 kj15 t222 (t237 != t222) a0_0 l0_1 a1_0 a1_1 a1_2 a1_3 t218 t219 t233 t234) else (laws_FnExactOutPut.j1 kj15 t222 true a0_0 l0_1 a1_0 a1_1 a1_2 a1_3 t218 t219 t233 t234)))) = some r := H
      have A76 := Aside0.mk A760
      clear A760
      have HC77 := Aside0.mk H
      clear H
      try go_wp2
      have n0_ := k0 (Kd.R_drew HO_224001.out)
      have n1_ := k0 (Kd.R_drew HO_229001.out)
      have n2_ := k0 (Kd.R_drew HO_239001.out)
      have n3_ := k0 (blk_drew BK207.out)
      have n4_ := k0 (blk_drew BK208.out)
      have n5_ := k0 (blk_drew BK223.out)
      have n6_ := k0 (blk_drew BK228.out)
      have n7_ := k0 (blk_drew BK238.out)
      have n8_ := k0 (below_drew1 HB.out)
      clear HO_224001
      clear HO_229001
      clear HO_239001
      clear BK207
      clear BK208
      clear BK223
      clear BK228
      clear BK238
      clear HB
      have HO_224001 := n0_
      have HO_229001 := n1_
      have HO_239001 := n2_
      have BK207 := n3_
      have BK208 := n4_
      have BK223 := n5_
      have BK228 := n6_
      have BK238 := n7_
      have HB := n8_
      clear n0_ n1_ n2_ n3_ n4_ n5_ n6_ n7_ n8_
      refine start_ (n := 5) (S := fun w' => w'.cell? ⟨gb228, 0, none⟩ = some (.int .i64 t224) ∧ w'.cell? ⟨gb228, 1, none⟩ = some (.slice Ao40 t225.length co40) ∧ w'.cell? ⟨gb207, 0, none⟩ = some (.int .i64 a0_0) ∧ w'.cell? ⟨gb207, 1, none⟩ = some (.slice A0_1 l0_1.length c0_1)) (ds := []) #[false, false, false, false, false] (by kernel_rfl) rfl rfl ⟨(blk_cell BK228.out 0).trans rfl, (blk_cell BK228.out 1).trans rfl, (blk_cell BK207.out 0).trans rfl, (blk_cell BK207.out 1).trans rfl⟩ (fun hHeld => ?_)
      generalize wc.drew = w78 at HO_224001 HO_229001 HO_239001 BK207 BK208 BK223 BK228 BK238 HB hHeld ⊢
      refine take_ (i := 0) (N := some 47) (v := ?_) (a' := ?_) #[true, false, false, false, false] rfl rfl (by kernel_rfl) (fun _ _ _ h => h) (Or.inl ⟨by rfl, ?_⟩) hHeld ?_ ?_
      rotate_left
      ·rintro w' ⟨s0, s1, s2, s3⟩
       go_simp
       with_reducible rfl
      rotate_left
      ·simp only [Act.put, List.setIfInBounds_toArray, List.set_cons_zero, List.set_cons_succ, i64_w, i32_w]
       rfl
      refine take_ (i := 1) (N := some 48) (v := ?_) (a' := ?_) #[true, true, false, false, false] rfl rfl (by kernel_rfl) (fun _ _ _ h => h) (Or.inl ⟨by rfl, ?_⟩) hHeld ?_ ?_
      rotate_left
      ·rintro w' ⟨s0, s1, s2, s3⟩
       go_simp
       with_reducible rfl
      rotate_left
      ·simp only [Act.put, List.setIfInBounds_toArray, List.set_cons_zero, List.set_cons_succ, i64_w, i32_w]
       rfl
      refine one_ (i := 2) (N := some 49) #[true, true, true, false, false] rfl rfl (by kernel_rfl) (by decide) (fun K hK => ?_)
      refine goes_ Try.func14 (by kernel_rfl) rfl #[.agg #[.int .i64 a0_0, .slice A0_1 l0_1.length c0_1]] (by rfl) rfl rfl (by (try simp only [List.map_toArray, List.map_cons, List.map_nil]); first | done | rfl | (simp only [List.length_drop, List.length_take]; rfl)) ?_
      with_reducible refine (laws_toOut.calls kj15 a0_0 _ _ l0_1 t240 t241 _ ?side1 ?side2 A73.out).mono ?_
      (case side1 => repeat (first | exact (Kd.C_below HR0_1.out HB.out) | (with_reducible refine Kd.C_alloc ?_ _) | (with_reducible refine Kd.C_drewN ?_ _) | (with_reducible refine Kd.C_drew ?_)))
      (case side2 => exact HC0_1.out)
      rintro e w79 ⟨v242, rfl, ho0, hb⟩
      refine ⟨_, rfl, ?_⟩
      have n0_ := k0 (Kd.R_elder' (kR HO_224001.out) (Kd.R_base ho0) hb)
      have n1_ := k0 (Kd.R_elder' (kR HO_229001.out) (Kd.R_base ho0) hb)
      have n2_ := k0 (Kd.R_elder' (kR HO_239001.out) (Kd.R_base ho0) hb)
      have n3_ := k0 (Kd.R_lower (Kd.R_new' (Kd.R_new' (Kd.R_new' ho0 (Kd.R_lt (kR HO_224001.out))) (Kd.R_lt (kR HO_229001.out))) (Kd.R_lt (kR HO_239001.out))) (below_size (kW HB.out)))
      have n4_ := k0 (kb BK207.out hb)
      have n5_ := k0 (kb BK208.out hb)
      have n6_ := k0 (kb BK223.out hb)
      have n7_ := k0 (kb BK228.out hb)
      have n8_ := k0 (kb BK238.out hb)
      have n9_ := k0 (below_step (kW HB.out) hb)
      clear HO_224001
      clear HO_229001
      clear HO_239001
      clear BK207
      clear BK208
      clear BK223
      clear BK228
      clear BK238
      clear HB
      have HO_224001 := n0_
      have HO_229001 := n1_
      have HO_239001 := n2_
      have HO243 := n3_
      have BK207 := n4_
      have BK208 := n5_
      have BK223 := n6_
      have BK228 := n7_
      have BK238 := n8_
      have HB := n9_
      clear n0_ n1_ n2_ n3_ n4_ n5_ n6_ n7_ n8_ n9_
      (try clear hb)
      (try clear hb2)
      (try clear hk)
      (try clear hi)
      (try clear ho0)
      obtain ⟨Ao80, co80, eo80⟩ := Kd.R_slice HO243.out
      (first | subst eo80 | (injection eo80 with f1_ f2_ f3_; have f4_ := f1_.symm; have f5_ := f3_.symm; clear f1_ f2_ f3_; subst f4_; subst f5_))
      refine hK.out _ _ ⟨(blk_cell BK228.out 0).trans rfl, (blk_cell BK228.out 1).trans rfl, (blk_cell BK207.out 0).trans rfl, (blk_cell BK207.out 1).trans rfl⟩ (fun hHeld => ?_)
      clear hK K
      refine norm_ (a' := ?_) ?_ ?_
      rotate_left
      ·show Act.put _ (some 49) _ = _
       simp only [Act.put, List.setIfInBounds_toArray, List.set_cons_zero, List.set_cons_succ, i64_w, i32_w]
       rfl
      refine one_ (i := 3) (N := some 50) #[true, true, true, true, false] rfl rfl (by kernel_rfl) (by decide) (fun K hK => ?_)
      refine goes_ Try.func16 (by kernel_rfl) rfl #[.agg #[.int .i64 t224, .slice Ao40 t225.length co40], .agg #[.int .i64 t240, .slice Ao80 t241.length co80]] (by rfl) rfl rfl (by (try simp only [List.map_toArray, List.map_cons, List.map_nil]); first | done | rfl | (simp only [List.length_drop, List.length_take]; rfl)) ?_
      with_reducible refine (laws_eqOut.calls kj15 t224 _ _ t225 t240 _ _ t241 true _ ?side1 ?side2 ?side3 ?side4 A74.out).mono ?_
      (case side1 => repeat (first | exact (Kd.R_reads' HO_229001.out).2.2 | (with_reducible refine Kd.C_alloc ?_ _) | (with_reducible refine Kd.C_drewN ?_ _) | (with_reducible refine Kd.C_drew ?_)))
      (case side2 => exact (Kd.R_reads' HO_229001.out).2.1)
      (case side3 => repeat (first | exact (Kd.R_reads' HO243.out).2.2 | (with_reducible refine Kd.C_alloc ?_ _) | (with_reducible refine Kd.C_drewN ?_ _) | (with_reducible refine Kd.C_drew ?_)))
      (case side4 => exact (Kd.R_reads' HO243.out).2.1)
      rintro e w81 ⟨rfl, hb⟩
      refine ⟨_, rfl, ?_⟩
      have n0_ := k0 (Kd.R_below (kR HO_224001.out) hb)
      have n1_ := k0 (Kd.R_below (kR HO_229001.out) hb)
      have n2_ := k0 (Kd.R_below (kR HO_239001.out) hb)
      have n3_ := k0 (Kd.R_below (kR HO243.out) hb)
      have n4_ := k0 (kb BK207.out hb)
      have n5_ := k0 (kb BK208.out hb)
      have n6_ := k0 (kb BK223.out hb)
      have n7_ := k0 (kb BK228.out hb)
      have n8_ := k0 (kb BK238.out hb)
      have n9_ := k0 (below_step (kW HB.out) hb)
      clear HO_224001
      clear HO_229001
      clear HO_239001
      clear HO243
      clear BK207
      clear BK208
      clear BK223
      clear BK228
      clear BK238
      clear HB
      have HO_224001 := n0_
      have HO_229001 := n1_
      have HO_239001 := n2_
      have HO243 := n3_
      have BK207 := n4_
      have BK208 := n5_
      have BK223 := n6_
      have BK228 := n7_
      have BK238 := n8_
      have HB := n9_
      clear n0_ n1_ n2_ n3_ n4_ n5_ n6_ n7_ n8_ n9_
      (try clear hb)
      (try clear hb2)
      (try clear hk)
      (try clear hi)
      refine hK.out _ _ ⟨(blk_cell BK228.out 0).trans rfl, (blk_cell BK228.out 1).trans rfl, (blk_cell BK207.out 0).trans rfl, (blk_cell BK207.out 1).trans rfl⟩ (fun hHeld => ?_)
      clear hK K
      refine norm_ (a' := ?_) ?_ ?_
      rotate_left
      ·show Act.put _ (some 50) _ = _
       simp only [Act.put, List.setIfInBounds_toArray, List.set_cons_zero, List.set_cons_succ, i64_w, i32_w]
       rfl
      refine pure_ (i := 4) (N := some 51) (v := ?_) (a' := ?_) #[true, true, true, true, true] rfl rfl (by kernel_rfl) (fun _ _ _ h => h) (Or.inl ⟨by rfl, ?_⟩) ?_ ?_
      rotate_left
      ·intro w'
       go_simp
       with_reducible rfl
      rotate_left
      ·simp only [Act.put, List.setIfInBounds_toArray, List.set_cons_zero, List.set_cons_succ, i64_w, i32_w]
       rfl
      refine done_ (by kernel_rfl) ?_
      have hnb82 := NB228_207.out
      have hnc82 := NB207_228.out
      have hnb83 := NB228_208.out
      have hnc83 := NB208_228.out
      have hnb84 := NB228_223.out
      have hnc84 := NB223_228.out
      have hnb85 := NB228_238.out
      have hnc85 := NB238_228.out
      have hcz86_0 : w81.cell? ⟨gb228, 0, none⟩ = some (.int .i64 t224) := (blk_cell BK228.out 0).trans rfl
      have hcz86_1 : w81.cell? ⟨gb228, 1, none⟩ = some (.slice Ao40 t225.length co40) := (blk_cell BK228.out 1).trans rfl
      have hfz86_0 := blk_frozen BK228.out 0
      have hfz86_1 := blk_frozen BK228.out 1
      go_upto_region 14 with (first | ((with_reducible refine gate_callee (f := 25) rfl ?_); refine goesL_ (some 54) rfl rfl Try.func25 (by kernel_rfl) rfl #[.agg #[.int .i64 t224, .slice Ao40 t225.length co40], .int .i64 1] rfl (by (try simp only [List.map_toArray, List.map_cons, List.map_nil]); first | done | rfl | (simp only [List.length_drop, List.length_take]; rfl)) ?_; (with_reducible refine (laws_markOut.calls kj15 t224 (fun k_ => some k_ = (.slice Ao40 t225.length co40 : Value).ownBlock) (.slice Ao40 t225.length co40) t225 1 t245 t246 w _ ?side1 ?side2 A76.out).mono ?_); (case side1 => repeat (first | (with_reducible first | exact HB.out | apply below_alloc | apply pw_below_drewN | apply below_drew1 | refine below_set ?_ GE207.out | refine below_set ?_ GE208.out | refine below_set ?_ GE223.out | refine below_set ?_ GE228.out | refine below_set ?_ GE238.out) | exact HB.out)); (case side2 => exact Kd.R_tight rfl HO_229001.out); rintro e w87 ⟨rfl, hy0, hb, hkp⟩; refine ⟨_, rfl, ?_⟩; have n0_ := k0 (Kd.R_mono (ok' := fun k_ => some k_ ≠ (.slice Ao40 t225.length co40 : Value).ownBlock ∧ some k_ ≠ (.slice Ao48 t234.length co48 : Value).ownBlock ∧ some k_ ≠ (.slice Ao80 t241.length co80 : Value).ownBlock) (Kd.R_keptB (HO_224001.out) hkp (fun k_ hk_ hs_ => (hk_.1.1) hs_)) (fun k_ hk_ => ⟨hk_.1.1.1, hk_.1.1.2, hk_.1.2⟩)); have n1_ := k0 (Kd.R_reok rfl hy0 (fun k_ e_ => HO_229001.out.1 k_ e_)); have n2_ := k0 (Kd.R_mono (ok' := fun k_ => some k_ ≠ (.slice Ao30 t219.length co30 : Value).ownBlock ∧ some k_ ≠ (.slice Ao40 t225.length co40 : Value).ownBlock ∧ some k_ ≠ (.slice Ao80 t241.length co80 : Value).ownBlock) (Kd.R_keptB (HO_239001.out) hkp (fun k_ hk_ hs_ => (hk_.1.2) hs_)) (fun k_ hk_ => ⟨hk_.1.1.1, hk_.1.1.2, hk_.1.2⟩)); have n3_ := k0 (blk_kept (kB BK207.out) hkp (fun hs_ => (fun e_ => (Kd.R_ne HO_229001.out BK207.out (by decide)) e_) hs_)); have n4_ := k0 (blk_kept (kB BK208.out) hkp (fun hs_ => (fun e_ => (Kd.R_ne HO_229001.out BK208.out (by decide)) e_) hs_)); have n5_ := k0 (blk_kept (kB BK223.out) hkp (fun hs_ => (fun e_ => (Kd.R_ne HO_229001.out BK223.out (by decide)) e_) hs_)); have n6_ := k0 (blk_kept (kB BK228.out) hkp (fun hs_ => (fun e_ => (Kd.R_ne HO_229001.out BK228.out (by decide)) e_) hs_)); have n7_ := k0 (blk_kept (kB BK238.out) hkp (fun hs_ => (fun e_ => (Kd.R_ne HO_229001.out BK238.out (by decide)) e_) hs_)); have n8_ := k0 (Kd.R_mono (ok' := fun k_ => some k_ ≠ (.slice Ao30 t219.length co30 : Value).ownBlock ∧ some k_ ≠ (.slice Ao40 t225.length co40 : Value).ownBlock ∧ some k_ ≠ (.slice Ao48 t234.length co48 : Value).ownBlock) (Kd.R_keptB (HO243.out) hkp (fun k_ hk_ hs_ => (hk_.1.2) hs_)) (fun k_ hk_ => ⟨hk_.1.1.1.2, hk_.1.1.2, hk_.1.2⟩)); have n9_ := k0 (hb); clear HO_224001; clear HO_229001; clear HO_239001; clear BK207; clear BK208; clear BK223; clear BK228; clear BK238; clear HO243; clear HB; have HO_224001 := n0_; have HO_229001 := n1_; have HO_239001 := n2_; have BK207 := n3_; have BK208 := n4_; have BK223 := n5_; have BK228 := n6_; have BK238 := n7_; have HO243 := n8_; have HB := n9_; clear n0_ n1_ n2_ n3_ n4_ n5_ n6_ n7_ n8_ n9_; (try clear hb); (try clear hkp); (try clear hy0)))
      (try simp only [Act.put, List.setIfInBounds_toArray, List.set_cons_zero, List.set_cons_succ])
      go_cut [67] (fun v67 wc => ∃ (kq : Nat) (x67_76 : Bool), v67 = .bool x67_76 ∧ Aside0 (laws_FnExactOutPut.j1 kq t222 x67_76 a0_0 l0_1 a1_0 a1_1 a1_2 a1_3 t218 t219 t233 t234 = some r) ∧ Aside0 (kq ≤ kj15) ∧ Aside0 (Kd.R k35 35 wc w.heap.size (fun k_ => some k_ ≠ ((.slice Ao40 t225.length co40) : Value).ownBlock ∧ some k_ ≠ ((.slice Ao48 t234.length co48) : Value).ownBlock) (.slice Ao30 t219.length co30) t219) ∧ Aside0 (Kd.R k35 35 wc w.heap.size (fun k_ => some k_ ≠ ((.slice Ao30 t219.length co30) : Value).ownBlock ∧ some k_ ≠ ((.slice Ao48 t234.length co48) : Value).ownBlock) (.slice Ao40 t225.length co40) t246) ∧ Aside0 (Kd.R k35 35 wc w.heap.size (fun k_ => some k_ ≠ ((.slice Ao30 t219.length co30) : Value).ownBlock ∧ some k_ ≠ ((.slice Ao40 t225.length co40) : Value).ownBlock) (.slice Ao48 t234.length co48) t234) ∧ Aside0 (wc.heap[gb207]? = some (.cells #[.int .i64 a0_0, (.slice A0_1 l0_1.length c0_1)] 24 (0, 0))) ∧ Aside0 (wc.heap[gb208]? = some (.cells #[.int .i64 a1_0, .int .i64 a1_1, .int .i64 a1_2, .int .i64 a1_3] 40 (0, 0))) ∧ Aside0 (wc.heap[gb223]? = some (.cells #[.int .i64 t218, (.slice Ao30 t219.length co30)] 29 (0, 0))) ∧ Aside0 (wc.heap[gb228]? = some (.cells #[.int .i64 t224, (.slice Ao40 t225.length co40)] 29 (0, 0))) ∧ Aside0 (wc.heap[gb238]? = some (.cells #[.int .i64 t233, (.slice Ao48 t234.length co48)] 29 (0, 0))) ∧ Aside0 (Below w.heap.size w wc))
      case first =>
       have H := HC77.out
       clear HC77
       by_cases c88 : t245 < 0
       ·rw [if_pos c88] at H
        have c88b0 : decide (t245 < 0) = true := decide_eq_true c88
        clear c88
        (first | rw [c88b0] | (simp only [i64_w, i32_w]; rw [c88b0]) | skip)
        have H' := Aside0.mk H
        clear H
        go_wp2
        go_meet
        case rel => exact ⟨_, (true), (by first | rfl | (simp; done) | (simp [*]; done)), H', ⟨by have := HJ15.out; first | omega | exact Nat.le_refl _⟩, ⟨by (with_reducible repeat (first | apply Kd.R_alloc | apply Kd.R_drewN | apply Kd.R_drew)); exact Kd.R_mono HO_224001.out (fun _ hk => ⟨hk.1, hk.2.1⟩)⟩, ⟨by (with_reducible repeat (first | apply Kd.R_alloc | apply Kd.R_drewN | apply Kd.R_drew)); exact Kd.R_mono HO_229001.out (fun _ hk => ⟨hk.1.1, hk.1.2⟩)⟩, ⟨by (with_reducible repeat (first | apply Kd.R_alloc | apply Kd.R_drewN | apply Kd.R_drew)); exact Kd.R_mono HO_239001.out (fun _ hk => ⟨hk.1, hk.2.1⟩)⟩, ⟨by (with_reducible repeat (first | refine blk_drewN ?_ _ | refine blk_drew ?_ | refine blk_alloc ?_ _)); exact BK207.out⟩, ⟨by (with_reducible repeat (first | refine blk_drewN ?_ _ | refine blk_drew ?_ | refine blk_alloc ?_ _)); exact BK208.out⟩, ⟨by (with_reducible repeat (first | refine blk_drewN ?_ _ | refine blk_drew ?_ | refine blk_alloc ?_ _)); exact BK223.out⟩, ⟨by (with_reducible repeat (first | refine blk_drewN ?_ _ | refine blk_drew ?_ | refine blk_alloc ?_ _)); exact BK228.out⟩, ⟨by (with_reducible repeat (first | refine blk_drewN ?_ _ | refine blk_drew ?_ | refine blk_alloc ?_ _)); exact BK238.out⟩, ⟨by repeat (first | (with_reducible first | exact HB.out | apply below_alloc | apply pw_below_drewN | apply below_drew1 | refine below_set ?_ GE207.out | refine below_set ?_ GE208.out | refine below_set ?_ GE223.out | refine below_set ?_ GE228.out | refine below_set ?_ GE238.out) | exact HB.out)⟩⟩
       ·rw [if_neg c88] at H
        have c88b0 : decide (t245 < 0) = false := decide_eq_false c88
        clear c88
        (first | rw [c88b0] | (simp only [i64_w, i32_w]; rw [c88b0]) | skip)
        replace H := Option.bind_eq_some_iff.mp H
        obtain ⟨t247, A890, H⟩ := H
        replace H : (if t247 = true then (laws_FnExactOutPut.j1 kj15 t222 (t237 != t222) a0_0 l0_1 a1_0 a1_1 a1_2 a1_3 t218 t219 t233 t234) else (laws_FnExactOutPut.j1 kj15 t222 true a0_0 l0_1 a1_0 a1_1 a1_2 a1_3 t218 t219 t233 t234)) = some r := H
        have A89 := Aside0.mk A890
        clear A890
        by_cases c90 : t247 = true
        ·subst c90
         have H1 : (laws_FnExactOutPut.j1 kj15 t222 (t237 != t222) a0_0 l0_1 a1_0 a1_1 a1_2 a1_3 t218 t219 t233 t234) = some r := by rw [if_pos rfl] at H; exact H
         clear H
         have H := H1
         clear H1
         have H' := Aside0.mk H
         clear H
         have hnb91 := NB238_207.out
         have hnc91 := NB207_238.out
         have hnb92 := NB238_208.out
         have hnc92 := NB208_238.out
         have hnb93 := NB238_223.out
         have hnc93 := NB223_238.out
         have hnb94 := NB238_228.out
         have hnc94 := NB228_238.out
         have hcz95_0 : w87.cell? ⟨gb238, 0, none⟩ = some (.int .i64 t233) := (blk_cell BK238.out 0).trans rfl
         have hcz95_1 : w87.cell? ⟨gb238, 1, none⟩ = some (.slice Ao48 t234.length co48) := (blk_cell BK238.out 1).trans rfl
         have hfz95_0 := blk_frozen BK238.out 0
         have hfz95_1 := blk_frozen BK238.out 1
         have hnb96 := NB223_207.out
         have hnc96 := NB207_223.out
         have hnb97 := NB223_208.out
         have hnc97 := NB208_223.out
         have hnb98 := NB223_228.out
         have hnc98 := NB228_223.out
         have hcz99_0 : w87.cell? ⟨gb223, 0, none⟩ = some (.int .i64 t218) := (blk_cell BK223.out 0).trans rfl
         have hcz99_1 : w87.cell? ⟨gb223, 1, none⟩ = some (.slice Ao30 t219.length co30) := (blk_cell BK223.out 1).trans rfl
         have hfz99_0 := blk_frozen BK223.out 0
         have hfz99_1 := blk_frozen BK223.out 1
         go_wp2_with (first | (go_at_call 16; (with_reducible refine (laws_eqOut.calls kj15 t233 _ _ t234 t218 _ _ t219 true _ ?side1 ?side2 ?side3 ?side4 A89.out).mono ?_); (case side1 => repeat (first | exact (Kd.R_reads' HO_239001.out).2.2 | (with_reducible refine Kd.C_alloc ?_ _) | (with_reducible refine Kd.C_drewN ?_ _) | (with_reducible refine Kd.C_drew ?_))); (case side2 => exact (Kd.R_reads' HO_239001.out).2.1); (case side3 => repeat (first | exact (Kd.R_reads' HO_224001.out).2.2 | (with_reducible refine Kd.C_alloc ?_ _) | (with_reducible refine Kd.C_drewN ?_ _) | (with_reducible refine Kd.C_drew ?_))); (case side4 => exact (Kd.R_reads' HO_224001.out).2.1); rintro e w100 ⟨rfl, hb⟩; have n0_ := k0 (Kd.R_below (kR HO_224001.out) hb); have n1_ := k0 (Kd.R_below (kR HO_229001.out) hb); have n2_ := k0 (Kd.R_below (kR HO_239001.out) hb); have n3_ := k0 (Kd.R_below (kR HO243.out) hb); have n4_ := k0 (kb BK207.out hb); have n5_ := k0 (kb BK208.out hb); have n6_ := k0 (kb BK223.out hb); have n7_ := k0 (kb BK228.out hb); have n8_ := k0 (kb BK238.out hb); have n9_ := k0 (below_step (kW HB.out) hb); clear HO_224001; clear HO_229001; clear HO_239001; clear HO243; clear BK207; clear BK208; clear BK223; clear BK228; clear BK238; clear HB; have HO_224001 := n0_; have HO_229001 := n1_; have HO_239001 := n2_; have HO243 := n3_; have BK207 := n4_; have BK208 := n5_; have BK223 := n6_; have BK228 := n7_; have BK238 := n8_; have HB := n9_; clear n0_ n1_ n2_ n3_ n4_ n5_ n6_ n7_ n8_ n9_; (try clear hb); (try clear hb2); (try clear hk); (try clear hi)))
         go_meet
         case rel => exact ⟨_, ((t237 != t222)), (by first | rfl | (simp; done) | (simp [*]; done)), H', ⟨by have := HJ15.out; first | omega | exact Nat.le_refl _⟩, ⟨by (with_reducible repeat (first | apply Kd.R_alloc | apply Kd.R_drewN | apply Kd.R_drew)); exact Kd.R_mono HO_224001.out (fun _ hk => ⟨hk.1, hk.2.1⟩)⟩, ⟨by (with_reducible repeat (first | apply Kd.R_alloc | apply Kd.R_drewN | apply Kd.R_drew)); exact Kd.R_mono HO_229001.out (fun _ hk => ⟨hk.1.1, hk.1.2⟩)⟩, ⟨by (with_reducible repeat (first | apply Kd.R_alloc | apply Kd.R_drewN | apply Kd.R_drew)); exact Kd.R_mono HO_239001.out (fun _ hk => ⟨hk.1, hk.2.1⟩)⟩, ⟨by (with_reducible repeat (first | refine blk_drewN ?_ _ | refine blk_drew ?_ | refine blk_alloc ?_ _)); exact BK207.out⟩, ⟨by (with_reducible repeat (first | refine blk_drewN ?_ _ | refine blk_drew ?_ | refine blk_alloc ?_ _)); exact BK208.out⟩, ⟨by (with_reducible repeat (first | refine blk_drewN ?_ _ | refine blk_drew ?_ | refine blk_alloc ?_ _)); exact BK223.out⟩, ⟨by (with_reducible repeat (first | refine blk_drewN ?_ _ | refine blk_drew ?_ | refine blk_alloc ?_ _)); exact BK228.out⟩, ⟨by (with_reducible repeat (first | refine blk_drewN ?_ _ | refine blk_drew ?_ | refine blk_alloc ?_ _)); exact BK238.out⟩, ⟨by repeat (first | (with_reducible first | exact HB.out | apply below_alloc | apply pw_below_drewN | apply below_drew1 | refine below_set ?_ GE207.out | refine below_set ?_ GE208.out | refine below_set ?_ GE223.out | refine below_set ?_ GE228.out | refine below_set ?_ GE238.out) | exact HB.out)⟩⟩
        ·replace c90 := Bool.eq_false_iff.mpr c90
         subst c90
         have H1 : (laws_FnExactOutPut.j1 kj15 t222 true a0_0 l0_1 a1_0 a1_1 a1_2 a1_3 t218 t219 t233 t234) = some r := by rw [if_neg (show ¬ (false = true) by decide)] at H; exact H
         clear H
         have H := H1
         clear H1
         have H' := Aside0.mk H
         clear H
         have hnb101 := NB238_207.out
         have hnc101 := NB207_238.out
         have hnb102 := NB238_208.out
         have hnc102 := NB208_238.out
         have hnb103 := NB238_223.out
         have hnc103 := NB223_238.out
         have hnb104 := NB238_228.out
         have hnc104 := NB228_238.out
         have hcz105_0 : w87.cell? ⟨gb238, 0, none⟩ = some (.int .i64 t233) := (blk_cell BK238.out 0).trans rfl
         have hcz105_1 : w87.cell? ⟨gb238, 1, none⟩ = some (.slice Ao48 t234.length co48) := (blk_cell BK238.out 1).trans rfl
         have hfz105_0 := blk_frozen BK238.out 0
         have hfz105_1 := blk_frozen BK238.out 1
         have hnb106 := NB223_207.out
         have hnc106 := NB207_223.out
         have hnb107 := NB223_208.out
         have hnc107 := NB208_223.out
         have hnb108 := NB223_228.out
         have hnc108 := NB228_223.out
         have hcz109_0 : w87.cell? ⟨gb223, 0, none⟩ = some (.int .i64 t218) := (blk_cell BK223.out 0).trans rfl
         have hcz109_1 : w87.cell? ⟨gb223, 1, none⟩ = some (.slice Ao30 t219.length co30) := (blk_cell BK223.out 1).trans rfl
         have hfz109_0 := blk_frozen BK223.out 0
         have hfz109_1 := blk_frozen BK223.out 1
         go_wp2_with (first | (go_at_call 16; (with_reducible refine (laws_eqOut.calls kj15 t233 _ _ t234 t218 _ _ t219 false _ ?side1 ?side2 ?side3 ?side4 A89.out).mono ?_); (case side1 => repeat (first | exact (Kd.R_reads' HO_239001.out).2.2 | (with_reducible refine Kd.C_alloc ?_ _) | (with_reducible refine Kd.C_drewN ?_ _) | (with_reducible refine Kd.C_drew ?_))); (case side2 => exact (Kd.R_reads' HO_239001.out).2.1); (case side3 => repeat (first | exact (Kd.R_reads' HO_224001.out).2.2 | (with_reducible refine Kd.C_alloc ?_ _) | (with_reducible refine Kd.C_drewN ?_ _) | (with_reducible refine Kd.C_drew ?_))); (case side4 => exact (Kd.R_reads' HO_224001.out).2.1); rintro e w110 ⟨rfl, hb⟩; have n0_ := k0 (Kd.R_below (kR HO_224001.out) hb); have n1_ := k0 (Kd.R_below (kR HO_229001.out) hb); have n2_ := k0 (Kd.R_below (kR HO_239001.out) hb); have n3_ := k0 (Kd.R_below (kR HO243.out) hb); have n4_ := k0 (kb BK207.out hb); have n5_ := k0 (kb BK208.out hb); have n6_ := k0 (kb BK223.out hb); have n7_ := k0 (kb BK228.out hb); have n8_ := k0 (kb BK238.out hb); have n9_ := k0 (below_step (kW HB.out) hb); clear HO_224001; clear HO_229001; clear HO_239001; clear HO243; clear BK207; clear BK208; clear BK223; clear BK228; clear BK238; clear HB; have HO_224001 := n0_; have HO_229001 := n1_; have HO_239001 := n2_; have HO243 := n3_; have BK207 := n4_; have BK208 := n5_; have BK223 := n6_; have BK228 := n7_; have BK238 := n8_; have HB := n9_; clear n0_ n1_ n2_ n3_ n4_ n5_ n6_ n7_ n8_ n9_; (try clear hb); (try clear hb2); (try clear hk); (try clear hi)))
         go_meet
         case rel => exact ⟨_, (true), (by first | rfl | (simp; done) | (simp [*]; done)), H', ⟨by have := HJ15.out; first | omega | exact Nat.le_refl _⟩, ⟨by (with_reducible repeat (first | apply Kd.R_alloc | apply Kd.R_drewN | apply Kd.R_drew)); exact Kd.R_mono HO_224001.out (fun _ hk => ⟨hk.1, hk.2.1⟩)⟩, ⟨by (with_reducible repeat (first | apply Kd.R_alloc | apply Kd.R_drewN | apply Kd.R_drew)); exact Kd.R_mono HO_229001.out (fun _ hk => ⟨hk.1.1, hk.1.2⟩)⟩, ⟨by (with_reducible repeat (first | apply Kd.R_alloc | apply Kd.R_drewN | apply Kd.R_drew)); exact Kd.R_mono HO_239001.out (fun _ hk => ⟨hk.1, hk.2.1⟩)⟩, ⟨by (with_reducible repeat (first | refine blk_drewN ?_ _ | refine blk_drew ?_ | refine blk_alloc ?_ _)); exact BK207.out⟩, ⟨by (with_reducible repeat (first | refine blk_drewN ?_ _ | refine blk_drew ?_ | refine blk_alloc ?_ _)); exact BK208.out⟩, ⟨by (with_reducible repeat (first | refine blk_drewN ?_ _ | refine blk_drew ?_ | refine blk_alloc ?_ _)); exact BK223.out⟩, ⟨by (with_reducible repeat (first | refine blk_drewN ?_ _ | refine blk_drew ?_ | refine blk_alloc ?_ _)); exact BK228.out⟩, ⟨by (with_reducible repeat (first | refine blk_drewN ?_ _ | refine blk_drew ?_ | refine blk_alloc ?_ _)); exact BK238.out⟩, ⟨by repeat (first | (with_reducible first | exact HB.out | apply below_alloc | apply pw_below_drewN | apply below_drew1 | refine below_set ?_ GE207.out | refine below_set ?_ GE208.out | refine below_set ?_ GE223.out | refine below_set ?_ GE228.out | refine below_set ?_ GE238.out) | exact HB.out)⟩⟩
      case rest =>
       clear HC77
       try clear c1
       try clear c2
       try clear p2
       try clear c5
       try clear c6
       try clear c7
       try clear c8
       try clear c9
       try clear c10
       try clear c14
       try clear c16
       try clear c23
       try clear c24
       try clear c25
       try clear c51
       try clear c52
       try clear c53
       try clear c54
       try clear c55
       try clear c57
       try clear c58
       try clear c59
       try clear c62
       try clear c63
       try clear c64
       try clear c65
       try clear c67
       try clear c68
       try clear c69
       try clear c72
       try clear c75
       try clear c82
       try clear c83
       try clear c84
       try clear c85
       try clear c88
       try clear c88b0
       try clear c90
       try clear c91
       try clear c92
       try clear c93
       try clear c94
       try clear c96
       try clear c97
       try clear c98
       try clear c101
       try clear c102
       try clear c103
       try clear c104
       try clear c106
       try clear c107
       try clear c108
       try clear hcz105_0
       try clear hcz105_1
       try clear hcz109_0
       try clear hcz109_1
       try clear hcz56_0
       try clear hcz56_1
       try clear hcz60_0
       try clear hcz60_1
       try clear hcz66_0
       try clear hcz66_1
       try clear hcz70_0
       try clear hcz70_1
       try clear hcz86_0
       try clear hcz86_1
       try clear hcz95_0
       try clear hcz95_1
       try clear hcz99_0
       try clear hcz99_1
       try clear hfz105_0
       try clear hfz105_1
       try clear hfz109_0
       try clear hfz109_1
       try clear hfz56_0
       try clear hfz56_1
       try clear hfz60_0
       try clear hfz60_1
       try clear hfz66_0
       try clear hfz66_1
       try clear hfz70_0
       try clear hfz70_1
       try clear hfz86_0
       try clear hfz86_1
       try clear hfz95_0
       try clear hfz95_1
       try clear hfz99_0
       try clear hfz99_1
       try clear p2
       obtain ⟨kq, x67_76, rfl, HA, HJ76, HO_224001, HO_229001, HO_239001, BK207, BK208, BK223, BK228, BK238, HB⟩ := hcut
       have hl229001_76 := (Kd.R_reads' HO_229001.out).1
       rw [hl229001_76] at HO_229001
       (try simp only [hl229001_76])
       (try simp only [hl229001_76] at BK207)
       (try simp only [hl229001_76] at BK208)
       (try simp only [hl229001_76] at BK223)
       (try simp only [hl229001_76] at BK228)
       (try simp only [hl229001_76] at BK238)
       (try simp only [hl229001_76] at HO_224001)
       (try simp only [hl229001_76] at HO_239001)
       cases kq with
       | zero => exact absurd HA.out (by simp [laws_FnExactOutPut.j1])
       | succ kj76 =>
        have H := HA.out
        clear HA
        simp only [laws_FnExactOutPut.j1] at H
        by_cases c111 : x67_76 = true
        ·subst c111
         have H1 : (some false) = some r := by rw [if_pos rfl] at H; exact H
         clear H
         have H := H1
         clear H1
         exact absurd ((Option.some.inj H).trans HR.out) (by decide)
        ·replace c111 := Bool.eq_false_iff.mpr c111
         subst c111
         have H1 : ((laws_markOut.f kj76 t233 t234 1).bind fun bt248 => ((laws_heldOut.f kj76 t233 bt248.2 1).bind fun t250 => (if t250 < 0 then (some false) else (if t250 = bt248.1 then ((laws_toOut.f kj76 a0_0 l0_1).bind fun bt251 => ((laws_toMsg.f a1_0 a1_1 a1_2 a1_3).bind fun bt255 => ((impl_OutPut.f kj76 bt251.1 bt251.2 bt255.1 bt255.2.1 bt255.2.2.1 bt255.2.2.2).bind fun bt259 => ((laws_eqOut.f kj76 bt259.1 bt259.2.1 t218 t219).bind fun t265 => (if t265 = true then (laws_FnExactOutPut.j2 kj76 bt248.1 (bt259.2.2 != t222) t233 bt248.2) else (laws_FnExactOutPut.j2 kj76 bt248.1 true t233 bt248.2)))))) else (some false))))) = some r := by rw [if_neg (show ¬ (false = true) by decide)] at H; exact H
         clear H
         have H := H1
         clear H1
         replace H := Option.bind_eq_some_iff.mp H
         obtain ⟨⟨t248, t249⟩, A1120, H⟩ := H
         replace H : ((laws_heldOut.f kj76 t233 t249 1).bind fun t250 => (if t250 < 0 then (some false) else (if t250 = t248 then ((laws_toOut.f kj76 a0_0 l0_1).bind fun bt251 => ((laws_toMsg.f a1_0 a1_1 a1_2 a1_3).bind fun bt255 => ((impl_OutPut.f kj76 bt251.1 bt251.2 bt255.1 bt255.2.1 bt255.2.2.1 bt255.2.2.2).bind fun bt259 => ((laws_eqOut.f kj76 bt259.1 bt259.2.1 t218 t219).bind fun t265 => (if t265 = true then (laws_FnExactOutPut.j2 kj76 t248 (bt259.2.2 != t222) t233 t249) else (laws_FnExactOutPut.j2 kj76 t248 true t233 t249)))))) else (some false)))) = some r := H
         have A112 := Aside0.mk A1120
         clear A1120
         replace H := Option.bind_eq_some_iff.mp H
         obtain ⟨t250, A1130, H⟩ := H
         replace H : (if t250 < 0 then (some false) else (if t250 = t248 then ((laws_toOut.f kj76 a0_0 l0_1).bind fun bt251 => ((laws_toMsg.f a1_0 a1_1 a1_2 a1_3).bind fun bt255 => ((impl_OutPut.f kj76 bt251.1 bt251.2 bt255.1 bt255.2.1 bt255.2.2.1 bt255.2.2.2).bind fun bt259 => ((laws_eqOut.f kj76 bt259.1 bt259.2.1 t218 t219).bind fun t265 => (if t265 = true then (laws_FnExactOutPut.j2 kj76 t248 (bt259.2.2 != t222) t233 t249) else (laws_FnExactOutPut.j2 kj76 t248 true t233 t249)))))) else (some false))) = some r := H
         have A113 := Aside0.mk A1130
         clear A1130
         by_cases c114 : t250 < 0
         ·rw [if_pos c114] at H
          have c114b0 : decide (t250 < 0) = true := decide_eq_true c114
          clear c114
          exact absurd ((Option.some.inj H).trans HR.out) (by decide)
         ·rw [if_neg c114] at H
          have c114b0 : decide (t250 < 0) = false := decide_eq_false c114
          clear c114
          by_cases c115 : t250 = t248
          ·rw [if_pos c115] at H
           have c115b0 : (t250 == t248) = true := beq_iff_eq.mpr c115
           have c115b1 : (t250 != t248) = false := bne_eq_false_iff_eq.mpr c115
           clear c115
           replace H := Option.bind_eq_some_iff.mp H
           obtain ⟨⟨t251, t252⟩, A1160, H⟩ := H
           replace H : ((laws_toMsg.f a1_0 a1_1 a1_2 a1_3).bind fun bt255 => ((impl_OutPut.f kj76 t251 t252 bt255.1 bt255.2.1 bt255.2.2.1 bt255.2.2.2).bind fun bt259 => ((laws_eqOut.f kj76 bt259.1 bt259.2.1 t218 t219).bind fun t265 => (if t265 = true then (laws_FnExactOutPut.j2 kj76 t248 (bt259.2.2 != t222) t233 t249) else (laws_FnExactOutPut.j2 kj76 t248 true t233 t249))))) = some r := H
           have A116 := Aside0.mk A1160
           clear A1160
           replace H := Option.bind_eq_some_iff.mp H
           obtain ⟨⟨t255, t256, t257, t258⟩, A1170, H⟩ := H
           replace H : ((impl_OutPut.f kj76 t251 t252 t255 t256 t257 t258).bind fun bt259 => ((laws_eqOut.f kj76 bt259.1 bt259.2.1 t218 t219).bind fun t265 => (if t265 = true then (laws_FnExactOutPut.j2 kj76 t248 (bt259.2.2 != t222) t233 t249) else (laws_FnExactOutPut.j2 kj76 t248 true t233 t249)))) = some r := H
           have A117 := Aside0.mk A1170
           clear A1170
           replace H := Option.bind_eq_some_iff.mp H
           obtain ⟨⟨t259, t260, t263⟩, A1180, H⟩ := H
           replace H : ((laws_eqOut.f kj76 t259 t260 t218 t219).bind fun t265 => (if t265 = true then (laws_FnExactOutPut.j2 kj76 t248 (t263 != t222) t233 t249) else (laws_FnExactOutPut.j2 kj76 t248 true t233 t249))) = some r := H
           have A118 := Aside0.mk A1180
           clear A1180
           have HC119 := Aside0.mk H
           clear H
           have hnb120 := NB238_207.out
           have hnc120 := NB207_238.out
           have hnb121 := NB238_208.out
           have hnc121 := NB208_238.out
           have hnb122 := NB238_223.out
           have hnc122 := NB223_238.out
           have hnb123 := NB238_228.out
           have hnc123 := NB228_238.out
           have hcz124_0 : wc.cell? ⟨gb238, 0, none⟩ = some (.int .i64 t233) := (blk_cell BK238.out 0).trans rfl
           have hcz124_1 : wc.cell? ⟨gb238, 1, none⟩ = some (.slice Ao48 t234.length co48) := (blk_cell BK238.out 1).trans rfl
           have hfz124_0 := blk_frozen BK238.out 0
           have hfz124_1 := blk_frozen BK238.out 1
           try go_wp2_with (first | ((with_reducible refine gate_callee (f := 25) rfl ?_); refine goesL_ (some 70) rfl rfl Try.func25 (by kernel_rfl) rfl #[.agg #[.int .i64 t233, .slice Ao48 t234.length co48], .int .i64 1] rfl (by (try simp only [List.map_toArray, List.map_cons, List.map_nil]); first | done | rfl | (simp only [List.length_drop, List.length_take]; rfl)) ?_; (with_reducible refine (laws_markOut.calls kj76 t233 (fun k_ => some k_ = (.slice Ao48 t234.length co48 : Value).ownBlock) (.slice Ao48 t234.length co48) t234 1 t248 t249 w _ ?side1 ?side2 A112.out).mono ?_); (case side1 => repeat (first | (with_reducible first | exact HB.out | apply below_alloc | apply pw_below_drewN | apply below_drew1 | refine below_set ?_ GE207.out | refine below_set ?_ GE208.out | refine below_set ?_ GE223.out | refine below_set ?_ GE228.out | refine below_set ?_ GE238.out) | exact HB.out)); (case side2 => exact Kd.R_tight rfl HO_239001.out); rintro e w125 ⟨rfl, hy0, hb, hkp⟩; refine ⟨_, rfl, ?_⟩; have n0_ := k0 (Kd.R_mono (ok' := fun k_ => some k_ ≠ (.slice Ao40 t246.length co40 : Value).ownBlock ∧ some k_ ≠ (.slice Ao48 t234.length co48 : Value).ownBlock) (Kd.R_keptB (HO_224001.out) hkp (fun k_ hk_ hs_ => (hk_.2) hs_)) (fun k_ hk_ => ⟨hk_.1.1, hk_.1.2⟩)); have n1_ := k0 (Kd.R_mono (ok' := fun k_ => some k_ ≠ (.slice Ao30 t219.length co30 : Value).ownBlock ∧ some k_ ≠ (.slice Ao48 t234.length co48 : Value).ownBlock) (Kd.R_keptB (HO_229001.out) hkp (fun k_ hk_ hs_ => (hk_.2) hs_)) (fun k_ hk_ => ⟨hk_.1.1, hk_.1.2⟩)); have n2_ := k0 (Kd.R_reok rfl hy0 (fun k_ e_ => HO_239001.out.1 k_ e_)); have n3_ := k0 (blk_kept (kB BK207.out) hkp (fun hs_ => (fun e_ => (Kd.R_ne HO_239001.out BK207.out (by decide)) e_) hs_)); have n4_ := k0 (blk_kept (kB BK208.out) hkp (fun hs_ => (fun e_ => (Kd.R_ne HO_239001.out BK208.out (by decide)) e_) hs_)); have n5_ := k0 (blk_kept (kB BK223.out) hkp (fun hs_ => (fun e_ => (Kd.R_ne HO_239001.out BK223.out (by decide)) e_) hs_)); have n6_ := k0 (blk_kept (kB BK228.out) hkp (fun hs_ => (fun e_ => (Kd.R_ne HO_239001.out BK228.out (by decide)) e_) hs_)); have n7_ := k0 (blk_kept (kB BK238.out) hkp (fun hs_ => (fun e_ => (Kd.R_ne HO_239001.out BK238.out (by decide)) e_) hs_)); have n8_ := k0 (hb); clear HO_224001; clear HO_229001; clear HO_239001; clear BK207; clear BK208; clear BK223; clear BK228; clear BK238; clear HB; have HO_224001 := n0_; have HO_229001 := n1_; have HO_239001 := n2_; have BK207 := n3_; have BK208 := n4_; have BK223 := n5_; have BK228 := n6_; have BK238 := n7_; have HB := n8_; clear n0_ n1_ n2_ n3_ n4_ n5_ n6_ n7_ n8_; (try clear hb); (try clear hkp); (try clear hy0); have hcz126_0 : w125.cell? ⟨gb238, 0, none⟩ = some (.int .i64 t233) := (blk_cell BK238.out 0).trans rfl; have hcz126_1 : w125.cell? ⟨gb238, 1, none⟩ = some (.slice Ao48 t234.length co48) := (blk_cell BK238.out 1).trans rfl; have hfz126_0 := blk_frozen BK238.out 0; have hfz126_1 := blk_frozen BK238.out 1) | ((with_reducible refine gate_callee (f := 26) rfl ?_); refine goesL_ (some 73) rfl rfl Try.func26 (by kernel_rfl) rfl #[.agg #[.int .i64 t233, .slice Ao48 t249.length co48], .int .i64 1] rfl (by (try simp only [List.map_toArray, List.map_cons, List.map_nil]); first | done | (rw [show t249.length = t234.length from (Kd.R_reads' HO_239001.out).1.symm] <;> rfl) | rfl | (simp only [List.length_drop, List.length_take]; rfl)) ?_; (with_reducible refine (laws_heldOut.calls kj76 t233 _ _ t249 1 t250 _ ?side1 ?side2 A113.out).mono ?_); (case side1 => repeat (first | exact (Kd.R_reads' HO_239001.out).2.2 | (with_reducible refine Kd.C_alloc ?_ _) | (with_reducible refine Kd.C_drewN ?_ _) | (with_reducible refine Kd.C_drew ?_))); (case side2 => rw [show t249.length = t234.length from (Kd.R_reads' HO_239001.out).1.symm]; exact (Kd.R_reads' HO_239001.out).2.1); rintro e w127 ⟨rfl, hb⟩; refine ⟨_, rfl, ?_⟩; have n0_ := k0 (Kd.R_below (kR HO_224001.out) hb); have n1_ := k0 (Kd.R_below (kR HO_229001.out) hb); have n2_ := k0 (Kd.R_below (kR HO_239001.out) hb); have n3_ := k0 (kb BK207.out hb); have n4_ := k0 (kb BK208.out hb); have n5_ := k0 (kb BK223.out hb); have n6_ := k0 (kb BK228.out hb); have n7_ := k0 (kb BK238.out hb); have n8_ := k0 (below_step (kW HB.out) hb); clear HO_224001; clear HO_229001; clear HO_239001; clear BK207; clear BK208; clear BK223; clear BK228; clear BK238; clear HB; have HO_224001 := n0_; have HO_229001 := n1_; have HO_239001 := n2_; have BK207 := n3_; have BK208 := n4_; have BK223 := n5_; have BK228 := n6_; have BK238 := n7_; have HB := n8_; clear n0_ n1_ n2_ n3_ n4_ n5_ n6_ n7_ n8_; (try clear hb); (try clear hb2); (try clear hk); (try clear hi)))
           have n0_ := k0 (Kd.R_drew HO_224001.out)
           have n1_ := k0 (Kd.R_drew HO_229001.out)
           have n2_ := k0 (Kd.R_drew HO_239001.out)
           have n3_ := k0 (blk_drew BK207.out)
           have n4_ := k0 (blk_drew BK208.out)
           have n5_ := k0 (blk_drew BK223.out)
           have n6_ := k0 (blk_drew BK228.out)
           have n7_ := k0 (blk_drew BK238.out)
           have n8_ := k0 (below_drew1 HB.out)
           clear HO_224001
           clear HO_229001
           clear HO_239001
           clear BK207
           clear BK208
           clear BK223
           clear BK228
           clear BK238
           clear HB
           have HO_224001 := n0_
           have HO_229001 := n1_
           have HO_239001 := n2_
           have BK207 := n3_
           have BK208 := n4_
           have BK223 := n5_
           have BK228 := n6_
           have BK238 := n7_
           have HB := n8_
           clear n0_ n1_ n2_ n3_ n4_ n5_ n6_ n7_ n8_
           refine start_ (n := 11) (S := fun w' => w'.cell? ⟨gb207, 0, none⟩ = some (.int .i64 a0_0) ∧ w'.cell? ⟨gb207, 1, none⟩ = some (.slice A0_1 l0_1.length c0_1) ∧ w'.cell? ⟨gb208, 0, none⟩ = some (.int .i64 a1_0) ∧ w'.cell? ⟨gb208, 1, none⟩ = some (.int .i64 a1_1) ∧ w'.cell? ⟨gb208, 2, none⟩ = some (.int .i64 a1_2) ∧ w'.cell? ⟨gb208, 3, none⟩ = some (.int .i64 a1_3)) (ds := []) #[false, false, false, false, false, false, false, false, false, false, false] (by kernel_rfl) rfl rfl ⟨(blk_cell BK207.out 0).trans rfl, (blk_cell BK207.out 1).trans rfl, (blk_cell BK208.out 0).trans rfl, (blk_cell BK208.out 1).trans rfl, (blk_cell BK208.out 2).trans rfl, (blk_cell BK208.out 3).trans rfl⟩ (fun hHeld => ?_); refine with_tabW laws_FnExactOutPut.tab24 laws_FnExactOutPut.bits24 (fun HT_ HW_ => ?_)
           generalize w127.drew = w128 at HO_224001 HO_229001 HO_239001 BK207 BK208 BK223 BK228 BK238 HB hHeld ⊢
           refine take_ (i := 0) (N := some 80) (v := ?_) (a' := ?_) #[true, false, false, false, false, false, false, false, false, false, false] rfl rfl (take_ofW HT_.out HW_.out (by kernel_rfl)) (fun _ _ _ h => h) (Or.inl ⟨by rfl, ?_⟩) hHeld ?_ ?_
           rotate_left
           ·rintro w' ⟨s0, s1, s2, s3, s4, s5⟩
            go_simp
            with_reducible rfl
           rotate_left
           ·simp only [Act.put, List.setIfInBounds_toArray, List.set_cons_zero, List.set_cons_succ, i64_w, i32_w]
            rfl
           refine take_ (i := 2) (N := some 82) (v := ?_) (a' := ?_) #[true, false, true, false, false, false, false, false, false, false, false] rfl rfl (take_ofW HT_.out HW_.out (by kernel_rfl)) (fun _ _ _ h => h) (Or.inl ⟨by rfl, ?_⟩) hHeld ?_ ?_
           rotate_left
           ·rintro w' ⟨s0, s1, s2, s3, s4, s5⟩
            go_simp
            with_reducible rfl
           rotate_left
           ·simp only [Act.put, List.setIfInBounds_toArray, List.set_cons_zero, List.set_cons_succ, i64_w, i32_w]
            rfl
           refine join_ (σ := Value × Value × Nat) 2 #[true, true, true, true, true, true, true, true, true, false, false] (fun s_ => [(81, .agg #[.int .i64 t251, s_.1]), (83, .agg #[.int .i64 t255, .int .i64 t256, .int .i64 t257, .int .i64 t258]), (84, .tuple #[.agg #[.int .i64 t259, s_.2.1], .bool t263]), (14, .pointer (some ⟨s_.2.2, 0, none⟩)), (79, .tuple #[.agg #[.int .i64 t259, s_.2.1], .bool t263]), (85, .agg #[.int .i64 t259, s_.2.1]), (86, .bool t263)]) (fun s_ w' => (w'.cell? ⟨gb207, 0, none⟩ = some (.int .i64 a0_0) ∧ w'.cell? ⟨gb207, 1, none⟩ = some (.slice A0_1 l0_1.length c0_1) ∧ w'.cell? ⟨gb208, 0, none⟩ = some (.int .i64 a1_0) ∧ w'.cell? ⟨gb208, 1, none⟩ = some (.int .i64 a1_1) ∧ w'.cell? ⟨gb208, 2, none⟩ = some (.int .i64 a1_2) ∧ w'.cell? ⟨gb208, 3, none⟩ = some (.int .i64 a1_3)) ∧ (Kd.R k35 35 w' w.heap.size (fun k_ => some k_ ≠ (s_.2.1 : Value).ownBlock ∧ some k_ ≠ (.slice Ao30 t219.length co30 : Value).ownBlock ∧ some k_ ≠ (.slice Ao40 t246.length co40 : Value).ownBlock ∧ some k_ ≠ (.slice Ao48 t234.length co48 : Value).ownBlock) s_.1 t252) ∧ (Kd.R k35 35 w' w.heap.size (fun k_ => some k_ ≠ (s_.1 : Value).ownBlock ∧ some k_ ≠ (.slice Ao30 t219.length co30 : Value).ownBlock ∧ some k_ ≠ (.slice Ao40 t246.length co40 : Value).ownBlock ∧ some k_ ≠ (.slice Ao48 t234.length co48 : Value).ownBlock) s_.2.1 t260) ∧ (Kd.R k35 35 w' w.heap.size (fun k_ => some k_ ≠ (s_.1 : Value).ownBlock ∧ some k_ ≠ (s_.2.1 : Value).ownBlock ∧ some k_ ≠ (.slice Ao40 t246.length co40 : Value).ownBlock ∧ some k_ ≠ (.slice Ao48 t234.length co48 : Value).ownBlock) (.slice Ao30 t219.length co30) t219) ∧ (Kd.R k35 35 w' w.heap.size (fun k_ => some k_ ≠ (s_.1 : Value).ownBlock ∧ some k_ ≠ (s_.2.1 : Value).ownBlock ∧ some k_ ≠ (.slice Ao30 t219.length co30 : Value).ownBlock ∧ some k_ ≠ (.slice Ao48 t234.length co48 : Value).ownBlock) (.slice Ao40 t246.length co40) t246) ∧ (Kd.R k35 35 w' w.heap.size (fun k_ => some k_ ≠ (s_.1 : Value).ownBlock ∧ some k_ ≠ (s_.2.1 : Value).ownBlock ∧ some k_ ≠ (.slice Ao30 t219.length co30 : Value).ownBlock ∧ some k_ ≠ (.slice Ao40 t246.length co40 : Value).ownBlock) (.slice Ao48 t234.length co48) t249) ∧ (w'.heap[gb207]? = some (.cells #[.int .i64 a0_0, .slice A0_1 l0_1.length c0_1] 24 (0, 0))) ∧ (w'.heap[gb208]? = some (.cells #[.int .i64 a1_0, .int .i64 a1_1, .int .i64 a1_2, .int .i64 a1_3] 40 (0, 0))) ∧ (w'.heap[gb223]? = some (.cells #[.int .i64 t218, .slice Ao30 t219.length co30] 29 (0, 0))) ∧ (w'.heap[gb228]? = some (.cells #[.int .i64 t224, .slice Ao40 t246.length co40] 29 (0, 0))) ∧ (w'.heap[gb238]? = some (.cells #[.int .i64 t233, .slice Ao48 t234.length co48] 29 (0, 0))) ∧ (w'.heap[s_.2.2]? = some (.cells #[.int .i64 0, .slice none 0 0] 29 (0, 0))) ∧ (w.heap.size ≤ s_.2.2) ∧ (w.heap.size ≤ s_.2.2) ∧ (gb207 ≠ s_.2.2) ∧ (s_.2.2 ≠ gb207) ∧ (gb208 ≠ s_.2.2) ∧ (s_.2.2 ≠ gb208) ∧ (gb223 ≠ s_.2.2) ∧ (s_.2.2 ≠ gb223) ∧ (gb228 ≠ s_.2.2) ∧ (s_.2.2 ≠ gb228) ∧ (gb238 ≠ s_.2.2) ∧ (s_.2.2 ≠ gb238) ∧ (Below w.heap.size w w')) ?_ ?_
           rotate_left
           ·intro hCont
            refine two_ (i := 1) (j := 8) (Ni := some 81) (Nj := some 14) #[true, true, true, false, false, false, false, false, false, false, false] #[true, false, true, false, false, false, false, false, true, false, false] rfl rfl rfl rfl (two_of HT_.out (by kernel_rfl)) (by decide) (by decide) (fun K hK => ?_) (fun K hK => ?_)
            ·skip
             refine goes_ Try.func14 (by kernel_rfl) rfl #[.agg #[.int .i64 a0_0, .slice A0_1 l0_1.length c0_1]] (by rfl) rfl rfl (by (try simp only [List.map_toArray, List.map_cons, List.map_nil]); first | done | rfl | (simp only [List.length_drop, List.length_take]; rfl)) ?_
             with_reducible refine (laws_toOut.calls kj76 a0_0 _ _ l0_1 t251 t252 _ ?side1 ?side2 A116.out).mono ?_
             (case side1 => repeat (first | exact (Kd.C_below HR0_1.out HB.out) | (with_reducible refine Kd.C_alloc ?_ _) | (with_reducible refine Kd.C_drewN ?_ _) | (with_reducible refine Kd.C_drew ?_)))
             (case side2 => exact HC0_1.out)
             rintro e w129 ⟨v253, rfl, ho0, hb⟩
             refine ⟨_, rfl, ?_⟩
             have n0_ := k0 (Kd.R_elder' (kR HO_224001.out) (Kd.R_base ho0) hb)
             have n1_ := k0 (Kd.R_elder' (kR HO_229001.out) (Kd.R_base ho0) hb)
             have n2_ := k0 (Kd.R_elder' (kR HO_239001.out) (Kd.R_base ho0) hb)
             have n3_ := k0 (Kd.R_lower (Kd.R_new' (Kd.R_new' (Kd.R_new' ho0 (Kd.R_lt (kR HO_224001.out))) (Kd.R_lt (kR HO_229001.out))) (Kd.R_lt (kR HO_239001.out))) (below_size (kW HB.out)))
             have n4_ := k0 (kb BK207.out hb)
             have n5_ := k0 (kb BK208.out hb)
             have n6_ := k0 (kb BK223.out hb)
             have n7_ := k0 (kb BK228.out hb)
             have n8_ := k0 (kb BK238.out hb)
             have n9_ := k0 (below_step (kW HB.out) hb)
             clear HO_224001
             clear HO_229001
             clear HO_239001
             clear BK207
             clear BK208
             clear BK223
             clear BK228
             clear BK238
             clear HB
             have HO_224001 := n0_
             have HO_229001 := n1_
             have HO_239001 := n2_
             have HO254 := n3_
             have BK207 := n4_
             have BK208 := n5_
             have BK223 := n6_
             have BK228 := n7_
             have BK238 := n8_
             have HB := n9_
             clear n0_ n1_ n2_ n3_ n4_ n5_ n6_ n7_ n8_ n9_
             (try clear hb)
             (try clear hb2)
             (try clear hk)
             (try clear hi)
             (try clear ho0)
             refine hK.out _ _ ⟨(blk_cell BK207.out 0).trans rfl, (blk_cell BK207.out 1).trans rfl, (blk_cell BK208.out 0).trans rfl, (blk_cell BK208.out 1).trans rfl, (blk_cell BK208.out 2).trans rfl, (blk_cell BK208.out 3).trans rfl⟩ (fun hHeld => ?_)
             clear hK K
             refine norm_ (a' := ?_) ?_ ?_
             rotate_left
             ·show Act.put _ (some 81) _ = _
              simp only [Act.put, List.setIfInBounds_toArray, List.set_cons_zero, List.set_cons_succ, i64_w, i32_w]
              rfl
             refine two_ (i := 3) (j := 8) (Ni := some 83) (Nj := some 14) #[true, true, true, true, false, false, false, false, false, false, false] #[true, true, true, false, false, false, false, false, true, false, false] rfl rfl rfl rfl (two_of HT_.out (by kernel_rfl)) (by decide) (by decide) (fun K hK => ?_) (fun K hK => ?_)
             ·skip
              refine goes_ Try.func23 (by kernel_rfl) rfl #[.agg #[.int .i64 a1_0, .int .i64 a1_1, .int .i64 a1_2, .int .i64 a1_3]] (by rfl) rfl rfl (by (try simp only [List.map_toArray, List.map_cons, List.map_nil]); first | done | rfl | (simp only [List.length_drop, List.length_take]; rfl)) ?_
              with_reducible refine (laws_toMsg.calls a1_0 a1_1 a1_2 a1_3 t255 t256 t257 t258 _ A117.out).mono ?_
              rintro e w130 ⟨rfl, hb⟩
              refine ⟨_, rfl, ?_⟩
              have n0_ := k0 (Kd.R_below (kR HO_224001.out) hb)
              have n1_ := k0 (Kd.R_below (kR HO_229001.out) hb)
              have n2_ := k0 (Kd.R_below (kR HO_239001.out) hb)
              have n3_ := k0 (Kd.R_below (kR HO254.out) hb)
              have n4_ := k0 (kb BK207.out hb)
              have n5_ := k0 (kb BK208.out hb)
              have n6_ := k0 (kb BK223.out hb)
              have n7_ := k0 (kb BK228.out hb)
              have n8_ := k0 (kb BK238.out hb)
              have n9_ := k0 (below_step (kW HB.out) hb)
              clear HO_224001
              clear HO_229001
              clear HO_239001
              clear HO254
              clear BK207
              clear BK208
              clear BK223
              clear BK228
              clear BK238
              clear HB
              have HO_224001 := n0_
              have HO_229001 := n1_
              have HO_239001 := n2_
              have HO254 := n3_
              have BK207 := n4_
              have BK208 := n5_
              have BK223 := n6_
              have BK228 := n7_
              have BK238 := n8_
              have HB := n9_
              clear n0_ n1_ n2_ n3_ n4_ n5_ n6_ n7_ n8_ n9_
              (try clear hb)
              (try clear hb2)
              (try clear hk)
              (try clear hi)
              obtain ⟨Ao131, co131, eo131⟩ := Kd.R_slice HO254.out
              (first | subst eo131 | (injection eo131 with f1_ f2_ f3_; have f4_ := f1_.symm; have f5_ := f3_.symm; clear f1_ f2_ f3_; subst f4_; subst f5_))
              refine hK.out _ _ ⟨(blk_cell BK207.out 0).trans rfl, (blk_cell BK207.out 1).trans rfl, (blk_cell BK208.out 0).trans rfl, (blk_cell BK208.out 1).trans rfl, (blk_cell BK208.out 2).trans rfl, (blk_cell BK208.out 3).trans rfl⟩ (fun hHeld => ?_)
              clear hK K
              refine norm_ (a' := ?_) ?_ ?_
              rotate_left
              ·show Act.put _ (some 83) _ = _
               simp only [Act.put, List.setIfInBounds_toArray, List.set_cons_zero, List.set_cons_succ, i64_w, i32_w]
               rfl
              refine two_ (i := 4) (j := 8) (Ni := some 84) (Nj := some 14) #[true, true, true, true, true, false, false, false, false, false, false] #[true, true, true, true, false, false, false, false, true, false, false] rfl rfl rfl rfl (two_of HT_.out (by kernel_rfl)) (by decide) (by decide) (fun K hK => ?_) (fun K hK => ?_)
              ·skip
               refine goes_ Try.func24 (by kernel_rfl) rfl #[.agg #[.int .i64 t251, .slice Ao131 t252.length co131], .agg #[.int .i64 t255, .int .i64 t256, .int .i64 t257, .int .i64 t258]] (by rfl) rfl rfl (by (try simp only [List.map_toArray, List.map_cons, List.map_nil]); first | done | rfl | (simp only [List.length_drop, List.length_take]; rfl)) ?_
               with_reducible refine (impl_OutPut.calls kj76 t251 _ _ t252 t255 t256 t257 t258 t259 t260 t263 _ ?side1 ?side2 A118.out).mono ?_
               (case side1 => repeat (first | exact (Kd.R_reads' HO254.out).2.2 | (with_reducible refine Kd.C_alloc ?_ _) | (with_reducible refine Kd.C_drewN ?_ _) | (with_reducible refine Kd.C_drew ?_)))
               (case side2 => exact (Kd.R_reads' HO254.out).2.1)
               rintro e w132 ⟨v261, rfl, ho0, hb⟩
               refine ⟨_, rfl, ?_⟩
               have n0_ := k0 (Kd.R_elder' (kR HO_224001.out) (Kd.R_base ho0) hb)
               have n1_ := k0 (Kd.R_elder' (kR HO_229001.out) (Kd.R_base ho0) hb)
               have n2_ := k0 (Kd.R_elder' (kR HO_239001.out) (Kd.R_base ho0) hb)
               have n3_ := k0 (Kd.R_elder' (kR HO254.out) (Kd.R_base ho0) hb)
               have n4_ := k0 (Kd.R_lower (Kd.R_new' (Kd.R_new' (Kd.R_new' (Kd.R_new' ho0 (Kd.R_lt (kR HO_224001.out))) (Kd.R_lt (kR HO_229001.out))) (Kd.R_lt (kR HO_239001.out))) (Kd.R_lt (kR HO254.out))) (below_size (kW HB.out)))
               have n5_ := k0 (kb BK207.out hb)
               have n6_ := k0 (kb BK208.out hb)
               have n7_ := k0 (kb BK223.out hb)
               have n8_ := k0 (kb BK228.out hb)
               have n9_ := k0 (kb BK238.out hb)
               have n10_ := k0 (below_step (kW HB.out) hb)
               clear HO_224001
               clear HO_229001
               clear HO_239001
               clear HO254
               clear BK207
               clear BK208
               clear BK223
               clear BK228
               clear BK238
               clear HB
               have HO_224001 := n0_
               have HO_229001 := n1_
               have HO_239001 := n2_
               have HO254 := n3_
               have HO262 := n4_
               have BK207 := n5_
               have BK208 := n6_
               have BK223 := n7_
               have BK228 := n8_
               have BK238 := n9_
               have HB := n10_
               clear n0_ n1_ n2_ n3_ n4_ n5_ n6_ n7_ n8_ n9_ n10_
               (try clear hb)
               (try clear hb2)
               (try clear hk)
               (try clear hi)
               (try clear ho0)
               refine hK.out _ _ ⟨(blk_cell BK207.out 0).trans rfl, (blk_cell BK207.out 1).trans rfl, (blk_cell BK208.out 0).trans rfl, (blk_cell BK208.out 1).trans rfl, (blk_cell BK208.out 2).trans rfl, (blk_cell BK208.out 3).trans rfl⟩ (fun hHeld => ?_)
               clear hK K
               refine norm_ (a' := ?_) ?_ ?_
               rotate_left
               ·show Act.put _ (some 84) _ = _
                simp only [Act.put, List.setIfInBounds_toArray, List.set_cons_zero, List.set_cons_succ, i64_w, i32_w]
                rfl
               refine pure_ (i := 5) (N := some 79) (v := ?_) (a' := ?_) #[true, true, true, true, true, true, false, false, false, false, false] rfl rfl (any_of HT_.out (by kernel_rfl)) (fun _ _ _ h => h) (Or.inl ⟨by rfl, ?_⟩) ?_ ?_
               rotate_left
               ·intro w'
                go_simp
                with_reducible rfl
               rotate_left
               ·simp only [Act.put, List.setIfInBounds_toArray, List.set_cons_zero, List.set_cons_succ, i64_w, i32_w]
                rfl
               refine pure_ (i := 6) (N := some 85) (v := ?_) (a' := ?_) #[true, true, true, true, true, true, true, false, false, false, false] rfl rfl (any_of HT_.out (by kernel_rfl)) (fun _ _ _ h => h) (Or.inl ⟨by rfl, ?_⟩) ?_ ?_
               rotate_left
               ·intro w'
                go_simp
                with_reducible rfl
               rotate_left
               ·simp only [Act.put, List.setIfInBounds_toArray, List.set_cons_zero, List.set_cons_succ, i64_w, i32_w]
                rfl
               refine pure_ (i := 7) (N := some 86) (v := ?_) (a' := ?_) #[true, true, true, true, true, true, true, true, false, false, false] rfl rfl (any_of HT_.out (by kernel_rfl)) (fun _ _ _ h => h) (Or.inl ⟨by rfl, ?_⟩) ?_ ?_
               rotate_left
               ·intro w'
                go_simp
                with_reducible rfl
               rotate_left
               ·simp only [Act.put, List.setIfInBounds_toArray, List.set_cons_zero, List.set_cons_succ, i64_w, i32_w]
                rfl
               refine one_ (i := 8) (N := some 14) #[true, true, true, true, true, true, true, true, true, false, false] rfl rfl (one_of HT_.out (by kernel_rfl)) (by decide) (fun K hK => ?_)
               refine box_step ?hg (N := 14) ?hd (cs := #[.int .i64 0, .slice none 0 0]) (t := 29) ?hr ?_; (case hd => rfl); (case hg => rfl); (case hr => first | (go_simp; done) | (go_simp; rfl))
               intro gb264 hg w133 hbox hb
               have n0_ := k0 (Kd.R_below (kR HO_224001.out) hb)
               have n1_ := k0 (Kd.R_below (kR HO_229001.out) hb)
               have n2_ := k0 (Kd.R_below (kR HO_239001.out) hb)
               have n3_ := k0 (Kd.R_below (kR HO254.out) hb)
               have n4_ := k0 (Kd.R_below (kR HO262.out) hb)
               have n5_ := k0 (kb BK207.out hb)
               have n6_ := k0 (kb BK208.out hb)
               have n7_ := k0 (kb BK223.out hb)
               have n8_ := k0 (kb BK228.out hb)
               have n9_ := k0 (kb BK238.out hb)
               have n10_ := k0 (below_step (kW HB.out) hb)
               have n11_ := k0 (hbox)
               have n12_ := k0 ((by rw [hg]; exact (below_size (kW HB.out)) : w.heap.size ≤ gb264))
               have n13_ := k0 ((by rw [hg]; exact (below_size (kW HB.out)) : w.heap.size ≤ gb264))
               have n14_ := k0 ((by rw [hg]; exact Nat.ne_of_lt (blk_lt (g := gb207) (o := .cells #[.int .i64 a0_0, .slice A0_1 l0_1.length c0_1] 24 (0, 0)) (kB BK207.out)) : gb207 ≠ gb264))
               have n15_ := k0 ((by rw [hg]; exact Nat.ne_of_gt (blk_lt (g := gb207) (o := .cells #[.int .i64 a0_0, .slice A0_1 l0_1.length c0_1] 24 (0, 0)) (kB BK207.out)) : gb264 ≠ gb207))
               have n16_ := k0 ((by rw [hg]; exact Nat.ne_of_lt (blk_lt (g := gb208) (o := .cells #[.int .i64 a1_0, .int .i64 a1_1, .int .i64 a1_2, .int .i64 a1_3] 40 (0, 0)) (kB BK208.out)) : gb208 ≠ gb264))
               have n17_ := k0 ((by rw [hg]; exact Nat.ne_of_gt (blk_lt (g := gb208) (o := .cells #[.int .i64 a1_0, .int .i64 a1_1, .int .i64 a1_2, .int .i64 a1_3] 40 (0, 0)) (kB BK208.out)) : gb264 ≠ gb208))
               have n18_ := k0 ((by rw [hg]; exact Nat.ne_of_lt (blk_lt (g := gb223) (o := .cells #[.int .i64 t218, .slice Ao30 t219.length co30] 29 (0, 0)) (kB BK223.out)) : gb223 ≠ gb264))
               have n19_ := k0 ((by rw [hg]; exact Nat.ne_of_gt (blk_lt (g := gb223) (o := .cells #[.int .i64 t218, .slice Ao30 t219.length co30] 29 (0, 0)) (kB BK223.out)) : gb264 ≠ gb223))
               have n20_ := k0 ((by rw [hg]; exact Nat.ne_of_lt (blk_lt (g := gb228) (o := .cells #[.int .i64 t224, .slice Ao40 t246.length co40] 29 (0, 0)) (kB BK228.out)) : gb228 ≠ gb264))
               have n21_ := k0 ((by rw [hg]; exact Nat.ne_of_gt (blk_lt (g := gb228) (o := .cells #[.int .i64 t224, .slice Ao40 t246.length co40] 29 (0, 0)) (kB BK228.out)) : gb264 ≠ gb228))
               have n22_ := k0 ((by rw [hg]; exact Nat.ne_of_lt (blk_lt (g := gb238) (o := .cells #[.int .i64 t233, .slice Ao48 t234.length co48] 29 (0, 0)) (kB BK238.out)) : gb238 ≠ gb264))
               have n23_ := k0 ((by rw [hg]; exact Nat.ne_of_gt (blk_lt (g := gb238) (o := .cells #[.int .i64 t233, .slice Ao48 t234.length co48] 29 (0, 0)) (kB BK238.out)) : gb264 ≠ gb238))
               clear HO_224001
               clear HO_229001
               clear HO_239001
               clear HO254
               clear HO262
               clear BK207
               clear BK208
               clear BK223
               clear BK228
               clear BK238
               clear HB
               have HO_224001 := n0_
               have HO_229001 := n1_
               have HO_239001 := n2_
               have HO254 := n3_
               have HO262 := n4_
               have BK207 := n5_
               have BK208 := n6_
               have BK223 := n7_
               have BK228 := n8_
               have BK238 := n9_
               have HB := n10_
               have BK264 := n11_
               have GW264 := n12_
               have GE264 := n13_
               have NB207_264 := n14_
               have NB264_207 := n15_
               have NB208_264 := n16_
               have NB264_208 := n17_
               have NB223_264 := n18_
               have NB264_223 := n19_
               have NB228_264 := n20_
               have NB264_228 := n21_
               have NB238_264 := n22_
               have NB264_238 := n23_
               clear n0_ n1_ n2_ n3_ n4_ n5_ n6_ n7_ n8_ n9_ n10_ n11_ n12_ n13_ n14_ n15_ n16_ n17_ n18_ n19_ n20_ n21_ n22_ n23_
               clear hb hbox hg
               refine hK.out _ _ ⟨(blk_cell BK207.out 0).trans rfl, (blk_cell BK207.out 1).trans rfl, (blk_cell BK208.out 0).trans rfl, (blk_cell BK208.out 1).trans rfl, (blk_cell BK208.out 2).trans rfl, (blk_cell BK208.out 3).trans rfl⟩ (fun hHeld => ?_)
               clear hK K
               refine norm_ (a' := ?_) ?_ ?_
               rotate_left
               ·show Act.put _ (some 14) _ = _
                simp only [Act.put, List.setIfInBounds_toArray, List.set_cons_zero, List.set_cons_succ, i64_w, i32_w]
                rfl
               exact norm_ (by simp only [putAll, Act.put, List.setIfInBounds_toArray, List.set_cons_zero, List.set_cons_succ]) (hCont (.slice Ao131 t252.length co131, v261, gb264) _ ⟨hHeld, (by (with_reducible repeat (first | apply Kd.R_alloc | apply Kd.R_drewN | apply Kd.R_drew)); exact Kd.R_mono HO254.out (fun _ hk => ⟨hk.2, ⟨hk.1.1.1.2, ⟨hk.1.1.2, hk.1.2⟩⟩⟩)), (by (with_reducible repeat (first | apply Kd.R_alloc | apply Kd.R_drewN | apply Kd.R_drew)); exact Kd.R_mono HO262.out (fun _ hk => ⟨hk.2, ⟨hk.1.1.1.2, ⟨hk.1.1.2, hk.1.2⟩⟩⟩)), (by (with_reducible repeat (first | apply Kd.R_alloc | apply Kd.R_drewN | apply Kd.R_drew)); exact Kd.R_mono HO_224001.out (fun _ hk => ⟨hk.1.2, ⟨hk.2, ⟨hk.1.1.1, hk.1.1.2⟩⟩⟩)), (by (with_reducible repeat (first | apply Kd.R_alloc | apply Kd.R_drewN | apply Kd.R_drew)); exact Kd.R_mono HO_229001.out (fun _ hk => ⟨hk.1.2, ⟨hk.2, ⟨hk.1.1.1, hk.1.1.2⟩⟩⟩)), (by (with_reducible repeat (first | apply Kd.R_alloc | apply Kd.R_drewN | apply Kd.R_drew)); exact Kd.R_mono HO_239001.out (fun _ hk => ⟨hk.1.2, ⟨hk.2, ⟨hk.1.1.1, hk.1.1.2⟩⟩⟩)), (kB BK207.out), (kB BK208.out), (kB BK223.out), (kB BK228.out), (kB BK238.out), (kB BK264.out), GW264.out, GE264.out, NB207_264.out, NB264_207.out, NB208_264.out, NB264_208.out, NB223_264.out, NB264_223.out, NB228_264.out, NB264_228.out, NB238_264.out, NB264_238.out, (kW HB.out)⟩)
              ·skip
               refine box_step ?hg (N := 14) ?hd (cs := #[.int .i64 0, .slice none 0 0]) (t := 29) ?hr ?_; (case hd => rfl); (case hg => rfl); (case hr => first | (go_simp; done) | (go_simp; rfl))
               intro gb264 hg w131 hbox hb
               have n0_ := k0 (Kd.R_below (kR HO_224001.out) hb)
               have n1_ := k0 (Kd.R_below (kR HO_229001.out) hb)
               have n2_ := k0 (Kd.R_below (kR HO_239001.out) hb)
               have n3_ := k0 (Kd.R_below (kR HO254.out) hb)
               have n4_ := k0 (kb BK207.out hb)
               have n5_ := k0 (kb BK208.out hb)
               have n6_ := k0 (kb BK223.out hb)
               have n7_ := k0 (kb BK228.out hb)
               have n8_ := k0 (kb BK238.out hb)
               have n9_ := k0 (below_step (kW HB.out) hb)
               have n10_ := k0 (hbox)
               have n11_ := k0 ((by rw [hg]; exact (below_size (kW HB.out)) : w.heap.size ≤ gb264))
               have n12_ := k0 ((by rw [hg]; exact (below_size (kW HB.out)) : w.heap.size ≤ gb264))
               have n13_ := k0 ((by rw [hg]; exact Nat.ne_of_lt (blk_lt (g := gb207) (o := .cells #[.int .i64 a0_0, .slice A0_1 l0_1.length c0_1] 24 (0, 0)) (kB BK207.out)) : gb207 ≠ gb264))
               have n14_ := k0 ((by rw [hg]; exact Nat.ne_of_gt (blk_lt (g := gb207) (o := .cells #[.int .i64 a0_0, .slice A0_1 l0_1.length c0_1] 24 (0, 0)) (kB BK207.out)) : gb264 ≠ gb207))
               have n15_ := k0 ((by rw [hg]; exact Nat.ne_of_lt (blk_lt (g := gb208) (o := .cells #[.int .i64 a1_0, .int .i64 a1_1, .int .i64 a1_2, .int .i64 a1_3] 40 (0, 0)) (kB BK208.out)) : gb208 ≠ gb264))
               have n16_ := k0 ((by rw [hg]; exact Nat.ne_of_gt (blk_lt (g := gb208) (o := .cells #[.int .i64 a1_0, .int .i64 a1_1, .int .i64 a1_2, .int .i64 a1_3] 40 (0, 0)) (kB BK208.out)) : gb264 ≠ gb208))
               have n17_ := k0 ((by rw [hg]; exact Nat.ne_of_lt (blk_lt (g := gb223) (o := .cells #[.int .i64 t218, .slice Ao30 t219.length co30] 29 (0, 0)) (kB BK223.out)) : gb223 ≠ gb264))
               have n18_ := k0 ((by rw [hg]; exact Nat.ne_of_gt (blk_lt (g := gb223) (o := .cells #[.int .i64 t218, .slice Ao30 t219.length co30] 29 (0, 0)) (kB BK223.out)) : gb264 ≠ gb223))
               have n19_ := k0 ((by rw [hg]; exact Nat.ne_of_lt (blk_lt (g := gb228) (o := .cells #[.int .i64 t224, .slice Ao40 t246.length co40] 29 (0, 0)) (kB BK228.out)) : gb228 ≠ gb264))
               have n20_ := k0 ((by rw [hg]; exact Nat.ne_of_gt (blk_lt (g := gb228) (o := .cells #[.int .i64 t224, .slice Ao40 t246.length co40] 29 (0, 0)) (kB BK228.out)) : gb264 ≠ gb228))
               have n21_ := k0 ((by rw [hg]; exact Nat.ne_of_lt (blk_lt (g := gb238) (o := .cells #[.int .i64 t233, .slice Ao48 t234.length co48] 29 (0, 0)) (kB BK238.out)) : gb238 ≠ gb264))
               have n22_ := k0 ((by rw [hg]; exact Nat.ne_of_gt (blk_lt (g := gb238) (o := .cells #[.int .i64 t233, .slice Ao48 t234.length co48] 29 (0, 0)) (kB BK238.out)) : gb264 ≠ gb238))
               clear HO_224001
               clear HO_229001
               clear HO_239001
               clear HO254
               clear BK207
               clear BK208
               clear BK223
               clear BK228
               clear BK238
               clear HB
               have HO_224001 := n0_
               have HO_229001 := n1_
               have HO_239001 := n2_
               have HO254 := n3_
               have BK207 := n4_
               have BK208 := n5_
               have BK223 := n6_
               have BK228 := n7_
               have BK238 := n8_
               have HB := n9_
               have BK264 := n10_
               have GW264 := n11_
               have GE264 := n12_
               have NB207_264 := n13_
               have NB264_207 := n14_
               have NB208_264 := n15_
               have NB264_208 := n16_
               have NB223_264 := n17_
               have NB264_223 := n18_
               have NB228_264 := n19_
               have NB264_228 := n20_
               have NB238_264 := n21_
               have NB264_238 := n22_
               clear n0_ n1_ n2_ n3_ n4_ n5_ n6_ n7_ n8_ n9_ n10_ n11_ n12_ n13_ n14_ n15_ n16_ n17_ n18_ n19_ n20_ n21_ n22_
               clear hb hbox hg
               obtain ⟨Ao132, co132, eo132⟩ := Kd.R_slice HO254.out
               (first | subst eo132 | (injection eo132 with f1_ f2_ f3_; have f4_ := f1_.symm; have f5_ := f3_.symm; clear f1_ f2_ f3_; subst f4_; subst f5_))
               refine hK.out _ _ ⟨(blk_cell BK207.out 0).trans rfl, (blk_cell BK207.out 1).trans rfl, (blk_cell BK208.out 0).trans rfl, (blk_cell BK208.out 1).trans rfl, (blk_cell BK208.out 2).trans rfl, (blk_cell BK208.out 3).trans rfl⟩ (fun hHeld => ?_)
               clear hK K
               refine norm_ (a' := ?_) ?_ ?_
               rotate_left
               ·show Act.put _ (some 14) _ = _
                simp only [Act.put, List.setIfInBounds_toArray, List.set_cons_zero, List.set_cons_succ, i64_w, i32_w]
                rfl
               refine one_ (i := 4) (N := some 84) #[true, true, true, true, true, false, false, false, true, false, false] rfl rfl (one_of HT_.out (by kernel_rfl)) (by decide) (fun K hK => ?_)
               refine goes_ Try.func24 (by kernel_rfl) rfl #[.agg #[.int .i64 t251, .slice Ao132 t252.length co132], .agg #[.int .i64 t255, .int .i64 t256, .int .i64 t257, .int .i64 t258]] (by rfl) rfl rfl (by (try simp only [List.map_toArray, List.map_cons, List.map_nil]); first | done | rfl | (simp only [List.length_drop, List.length_take]; rfl)) ?_
               with_reducible refine (impl_OutPut.calls kj76 t251 _ _ t252 t255 t256 t257 t258 t259 t260 t263 _ ?side1 ?side2 A118.out).mono ?_
               (case side1 => repeat (first | exact (Kd.R_reads' HO254.out).2.2 | (with_reducible refine Kd.C_alloc ?_ _) | (with_reducible refine Kd.C_drewN ?_ _) | (with_reducible refine Kd.C_drew ?_)))
               (case side2 => exact (Kd.R_reads' HO254.out).2.1)
               rintro e w133 ⟨v261, rfl, ho0, hb⟩
               refine ⟨_, rfl, ?_⟩
               have n0_ := k0 (Kd.R_elder' (kR HO_224001.out) (Kd.R_base ho0) hb)
               have n1_ := k0 (Kd.R_elder' (kR HO_229001.out) (Kd.R_base ho0) hb)
               have n2_ := k0 (Kd.R_elder' (kR HO_239001.out) (Kd.R_base ho0) hb)
               have n3_ := k0 (Kd.R_elder' (kR HO254.out) (Kd.R_base ho0) hb)
               have n4_ := k0 (Kd.R_lower (Kd.R_new' (Kd.R_new' (Kd.R_new' (Kd.R_new' ho0 (Kd.R_lt (kR HO_224001.out))) (Kd.R_lt (kR HO_229001.out))) (Kd.R_lt (kR HO_239001.out))) (Kd.R_lt (kR HO254.out))) (below_size (kW HB.out)))
               have n5_ := k0 (kb BK207.out hb)
               have n6_ := k0 (kb BK208.out hb)
               have n7_ := k0 (kb BK223.out hb)
               have n8_ := k0 (kb BK228.out hb)
               have n9_ := k0 (kb BK238.out hb)
               have n10_ := k0 (kb BK264.out hb)
               have n11_ := k0 (below_step (kW HB.out) hb)
               clear HO_224001
               clear HO_229001
               clear HO_239001
               clear HO254
               clear BK207
               clear BK208
               clear BK223
               clear BK228
               clear BK238
               clear BK264
               clear HB
               have HO_224001 := n0_
               have HO_229001 := n1_
               have HO_239001 := n2_
               have HO254 := n3_
               have HO262 := n4_
               have BK207 := n5_
               have BK208 := n6_
               have BK223 := n7_
               have BK228 := n8_
               have BK238 := n9_
               have BK264 := n10_
               have HB := n11_
               clear n0_ n1_ n2_ n3_ n4_ n5_ n6_ n7_ n8_ n9_ n10_ n11_
               (try clear hb)
               (try clear hb2)
               (try clear hk)
               (try clear hi)
               (try clear ho0)
               refine hK.out _ _ ⟨(blk_cell BK207.out 0).trans rfl, (blk_cell BK207.out 1).trans rfl, (blk_cell BK208.out 0).trans rfl, (blk_cell BK208.out 1).trans rfl, (blk_cell BK208.out 2).trans rfl, (blk_cell BK208.out 3).trans rfl⟩ (fun hHeld => ?_)
               clear hK K
               refine norm_ (a' := ?_) ?_ ?_
               rotate_left
               ·show Act.put _ (some 84) _ = _
                simp only [Act.put, List.setIfInBounds_toArray, List.set_cons_zero, List.set_cons_succ, i64_w, i32_w]
                rfl
               refine pure_ (i := 5) (N := some 79) (v := ?_) (a' := ?_) #[true, true, true, true, true, true, false, false, true, false, false] rfl rfl (any_of HT_.out (by kernel_rfl)) (fun _ _ _ h => h) (Or.inl ⟨by rfl, ?_⟩) ?_ ?_
               rotate_left
               ·intro w'
                go_simp
                with_reducible rfl
               rotate_left
               ·simp only [Act.put, List.setIfInBounds_toArray, List.set_cons_zero, List.set_cons_succ, i64_w, i32_w]
                rfl
               refine pure_ (i := 6) (N := some 85) (v := ?_) (a' := ?_) #[true, true, true, true, true, true, true, false, true, false, false] rfl rfl (any_of HT_.out (by kernel_rfl)) (fun _ _ _ h => h) (Or.inl ⟨by rfl, ?_⟩) ?_ ?_
               rotate_left
               ·intro w'
                go_simp
                with_reducible rfl
               rotate_left
               ·simp only [Act.put, List.setIfInBounds_toArray, List.set_cons_zero, List.set_cons_succ, i64_w, i32_w]
                rfl
               refine pure_ (i := 7) (N := some 86) (v := ?_) (a' := ?_) #[true, true, true, true, true, true, true, true, true, false, false] rfl rfl (any_of HT_.out (by kernel_rfl)) (fun _ _ _ h => h) (Or.inl ⟨by rfl, ?_⟩) ?_ ?_
               rotate_left
               ·intro w'
                go_simp
                with_reducible rfl
               rotate_left
               ·simp only [Act.put, List.setIfInBounds_toArray, List.set_cons_zero, List.set_cons_succ, i64_w, i32_w]
                rfl
               exact norm_ (by simp only [putAll, Act.put, List.setIfInBounds_toArray, List.set_cons_zero, List.set_cons_succ]) (hCont (.slice Ao132 t252.length co132, v261, gb264) _ ⟨hHeld, (by (with_reducible repeat (first | apply Kd.R_alloc | apply Kd.R_drewN | apply Kd.R_drew)); exact Kd.R_mono HO254.out (fun _ hk => ⟨hk.2, ⟨hk.1.1.1.2, ⟨hk.1.1.2, hk.1.2⟩⟩⟩)), (by (with_reducible repeat (first | apply Kd.R_alloc | apply Kd.R_drewN | apply Kd.R_drew)); exact Kd.R_mono HO262.out (fun _ hk => ⟨hk.2, ⟨hk.1.1.1.2, ⟨hk.1.1.2, hk.1.2⟩⟩⟩)), (by (with_reducible repeat (first | apply Kd.R_alloc | apply Kd.R_drewN | apply Kd.R_drew)); exact Kd.R_mono HO_224001.out (fun _ hk => ⟨hk.1.2, ⟨hk.2, ⟨hk.1.1.1, hk.1.1.2⟩⟩⟩)), (by (with_reducible repeat (first | apply Kd.R_alloc | apply Kd.R_drewN | apply Kd.R_drew)); exact Kd.R_mono HO_229001.out (fun _ hk => ⟨hk.1.2, ⟨hk.2, ⟨hk.1.1.1, hk.1.1.2⟩⟩⟩)), (by (with_reducible repeat (first | apply Kd.R_alloc | apply Kd.R_drewN | apply Kd.R_drew)); exact Kd.R_mono HO_239001.out (fun _ hk => ⟨hk.1.2, ⟨hk.2, ⟨hk.1.1.1, hk.1.1.2⟩⟩⟩)), (kB BK207.out), (kB BK208.out), (kB BK223.out), (kB BK228.out), (kB BK238.out), (kB BK264.out), GW264.out, GE264.out, NB207_264.out, NB264_207.out, NB208_264.out, NB264_208.out, NB223_264.out, NB264_223.out, NB228_264.out, NB264_228.out, NB238_264.out, NB264_238.out, (kW HB.out)⟩)
             ·skip
              refine box_step ?hg (N := 14) ?hd (cs := #[.int .i64 0, .slice none 0 0]) (t := 29) ?hr ?_; (case hd => rfl); (case hg => rfl); (case hr => first | (go_simp; done) | (go_simp; rfl))
              intro gb264 hg w130 hbox hb
              have n0_ := k0 (Kd.R_below (kR HO_224001.out) hb)
              have n1_ := k0 (Kd.R_below (kR HO_229001.out) hb)
              have n2_ := k0 (Kd.R_below (kR HO_239001.out) hb)
              have n3_ := k0 (Kd.R_below (kR HO254.out) hb)
              have n4_ := k0 (kb BK207.out hb)
              have n5_ := k0 (kb BK208.out hb)
              have n6_ := k0 (kb BK223.out hb)
              have n7_ := k0 (kb BK228.out hb)
              have n8_ := k0 (kb BK238.out hb)
              have n9_ := k0 (below_step (kW HB.out) hb)
              have n10_ := k0 (hbox)
              have n11_ := k0 ((by rw [hg]; exact (below_size (kW HB.out)) : w.heap.size ≤ gb264))
              have n12_ := k0 ((by rw [hg]; exact (below_size (kW HB.out)) : w.heap.size ≤ gb264))
              have n13_ := k0 ((by rw [hg]; exact Nat.ne_of_lt (blk_lt (g := gb207) (o := .cells #[.int .i64 a0_0, .slice A0_1 l0_1.length c0_1] 24 (0, 0)) (kB BK207.out)) : gb207 ≠ gb264))
              have n14_ := k0 ((by rw [hg]; exact Nat.ne_of_gt (blk_lt (g := gb207) (o := .cells #[.int .i64 a0_0, .slice A0_1 l0_1.length c0_1] 24 (0, 0)) (kB BK207.out)) : gb264 ≠ gb207))
              have n15_ := k0 ((by rw [hg]; exact Nat.ne_of_lt (blk_lt (g := gb208) (o := .cells #[.int .i64 a1_0, .int .i64 a1_1, .int .i64 a1_2, .int .i64 a1_3] 40 (0, 0)) (kB BK208.out)) : gb208 ≠ gb264))
              have n16_ := k0 ((by rw [hg]; exact Nat.ne_of_gt (blk_lt (g := gb208) (o := .cells #[.int .i64 a1_0, .int .i64 a1_1, .int .i64 a1_2, .int .i64 a1_3] 40 (0, 0)) (kB BK208.out)) : gb264 ≠ gb208))
              have n17_ := k0 ((by rw [hg]; exact Nat.ne_of_lt (blk_lt (g := gb223) (o := .cells #[.int .i64 t218, .slice Ao30 t219.length co30] 29 (0, 0)) (kB BK223.out)) : gb223 ≠ gb264))
              have n18_ := k0 ((by rw [hg]; exact Nat.ne_of_gt (blk_lt (g := gb223) (o := .cells #[.int .i64 t218, .slice Ao30 t219.length co30] 29 (0, 0)) (kB BK223.out)) : gb264 ≠ gb223))
              have n19_ := k0 ((by rw [hg]; exact Nat.ne_of_lt (blk_lt (g := gb228) (o := .cells #[.int .i64 t224, .slice Ao40 t246.length co40] 29 (0, 0)) (kB BK228.out)) : gb228 ≠ gb264))
              have n20_ := k0 ((by rw [hg]; exact Nat.ne_of_gt (blk_lt (g := gb228) (o := .cells #[.int .i64 t224, .slice Ao40 t246.length co40] 29 (0, 0)) (kB BK228.out)) : gb264 ≠ gb228))
              have n21_ := k0 ((by rw [hg]; exact Nat.ne_of_lt (blk_lt (g := gb238) (o := .cells #[.int .i64 t233, .slice Ao48 t234.length co48] 29 (0, 0)) (kB BK238.out)) : gb238 ≠ gb264))
              have n22_ := k0 ((by rw [hg]; exact Nat.ne_of_gt (blk_lt (g := gb238) (o := .cells #[.int .i64 t233, .slice Ao48 t234.length co48] 29 (0, 0)) (kB BK238.out)) : gb264 ≠ gb238))
              clear HO_224001
              clear HO_229001
              clear HO_239001
              clear HO254
              clear BK207
              clear BK208
              clear BK223
              clear BK228
              clear BK238
              clear HB
              have HO_224001 := n0_
              have HO_229001 := n1_
              have HO_239001 := n2_
              have HO254 := n3_
              have BK207 := n4_
              have BK208 := n5_
              have BK223 := n6_
              have BK228 := n7_
              have BK238 := n8_
              have HB := n9_
              have BK264 := n10_
              have GW264 := n11_
              have GE264 := n12_
              have NB207_264 := n13_
              have NB264_207 := n14_
              have NB208_264 := n15_
              have NB264_208 := n16_
              have NB223_264 := n17_
              have NB264_223 := n18_
              have NB228_264 := n19_
              have NB264_228 := n20_
              have NB238_264 := n21_
              have NB264_238 := n22_
              clear n0_ n1_ n2_ n3_ n4_ n5_ n6_ n7_ n8_ n9_ n10_ n11_ n12_ n13_ n14_ n15_ n16_ n17_ n18_ n19_ n20_ n21_ n22_
              clear hb hbox hg
              refine hK.out _ _ ⟨(blk_cell BK207.out 0).trans rfl, (blk_cell BK207.out 1).trans rfl, (blk_cell BK208.out 0).trans rfl, (blk_cell BK208.out 1).trans rfl, (blk_cell BK208.out 2).trans rfl, (blk_cell BK208.out 3).trans rfl⟩ (fun hHeld => ?_)
              clear hK K
              refine norm_ (a' := ?_) ?_ ?_
              rotate_left
              ·show Act.put _ (some 14) _ = _
               simp only [Act.put, List.setIfInBounds_toArray, List.set_cons_zero, List.set_cons_succ, i64_w, i32_w]
               rfl
              refine one_ (i := 3) (N := some 83) #[true, true, true, true, false, false, false, false, true, false, false] rfl rfl (one_of HT_.out (by kernel_rfl)) (by decide) (fun K hK => ?_)
              refine goes_ Try.func23 (by kernel_rfl) rfl #[.agg #[.int .i64 a1_0, .int .i64 a1_1, .int .i64 a1_2, .int .i64 a1_3]] (by rfl) rfl rfl (by (try simp only [List.map_toArray, List.map_cons, List.map_nil]); first | done | rfl | (simp only [List.length_drop, List.length_take]; rfl)) ?_
              with_reducible refine (laws_toMsg.calls a1_0 a1_1 a1_2 a1_3 t255 t256 t257 t258 _ A117.out).mono ?_
              rintro e w131 ⟨rfl, hb⟩
              refine ⟨_, rfl, ?_⟩
              have n0_ := k0 (Kd.R_below (kR HO_224001.out) hb)
              have n1_ := k0 (Kd.R_below (kR HO_229001.out) hb)
              have n2_ := k0 (Kd.R_below (kR HO_239001.out) hb)
              have n3_ := k0 (Kd.R_below (kR HO254.out) hb)
              have n4_ := k0 (kb BK207.out hb)
              have n5_ := k0 (kb BK208.out hb)
              have n6_ := k0 (kb BK223.out hb)
              have n7_ := k0 (kb BK228.out hb)
              have n8_ := k0 (kb BK238.out hb)
              have n9_ := k0 (kb BK264.out hb)
              have n10_ := k0 (below_step (kW HB.out) hb)
              clear HO_224001
              clear HO_229001
              clear HO_239001
              clear HO254
              clear BK207
              clear BK208
              clear BK223
              clear BK228
              clear BK238
              clear BK264
              clear HB
              have HO_224001 := n0_
              have HO_229001 := n1_
              have HO_239001 := n2_
              have HO254 := n3_
              have BK207 := n4_
              have BK208 := n5_
              have BK223 := n6_
              have BK228 := n7_
              have BK238 := n8_
              have BK264 := n9_
              have HB := n10_
              clear n0_ n1_ n2_ n3_ n4_ n5_ n6_ n7_ n8_ n9_ n10_
              (try clear hb)
              (try clear hb2)
              (try clear hk)
              (try clear hi)
              obtain ⟨Ao132, co132, eo132⟩ := Kd.R_slice HO254.out
              (first | subst eo132 | (injection eo132 with f1_ f2_ f3_; have f4_ := f1_.symm; have f5_ := f3_.symm; clear f1_ f2_ f3_; subst f4_; subst f5_))
              refine hK.out _ _ ⟨(blk_cell BK207.out 0).trans rfl, (blk_cell BK207.out 1).trans rfl, (blk_cell BK208.out 0).trans rfl, (blk_cell BK208.out 1).trans rfl, (blk_cell BK208.out 2).trans rfl, (blk_cell BK208.out 3).trans rfl⟩ (fun hHeld => ?_)
              clear hK K
              refine norm_ (a' := ?_) ?_ ?_
              rotate_left
              ·show Act.put _ (some 83) _ = _
               simp only [Act.put, List.setIfInBounds_toArray, List.set_cons_zero, List.set_cons_succ, i64_w, i32_w]
               rfl
              refine one_ (i := 4) (N := some 84) #[true, true, true, true, true, false, false, false, true, false, false] rfl rfl (one_of HT_.out (by kernel_rfl)) (by decide) (fun K hK => ?_)
              refine goes_ Try.func24 (by kernel_rfl) rfl #[.agg #[.int .i64 t251, .slice Ao132 t252.length co132], .agg #[.int .i64 t255, .int .i64 t256, .int .i64 t257, .int .i64 t258]] (by rfl) rfl rfl (by (try simp only [List.map_toArray, List.map_cons, List.map_nil]); first | done | rfl | (simp only [List.length_drop, List.length_take]; rfl)) ?_
              with_reducible refine (impl_OutPut.calls kj76 t251 _ _ t252 t255 t256 t257 t258 t259 t260 t263 _ ?side1 ?side2 A118.out).mono ?_
              (case side1 => repeat (first | exact (Kd.R_reads' HO254.out).2.2 | (with_reducible refine Kd.C_alloc ?_ _) | (with_reducible refine Kd.C_drewN ?_ _) | (with_reducible refine Kd.C_drew ?_)))
              (case side2 => exact (Kd.R_reads' HO254.out).2.1)
              rintro e w133 ⟨v261, rfl, ho0, hb⟩
              refine ⟨_, rfl, ?_⟩
              have n0_ := k0 (Kd.R_elder' (kR HO_224001.out) (Kd.R_base ho0) hb)
              have n1_ := k0 (Kd.R_elder' (kR HO_229001.out) (Kd.R_base ho0) hb)
              have n2_ := k0 (Kd.R_elder' (kR HO_239001.out) (Kd.R_base ho0) hb)
              have n3_ := k0 (Kd.R_elder' (kR HO254.out) (Kd.R_base ho0) hb)
              have n4_ := k0 (Kd.R_lower (Kd.R_new' (Kd.R_new' (Kd.R_new' (Kd.R_new' ho0 (Kd.R_lt (kR HO_224001.out))) (Kd.R_lt (kR HO_229001.out))) (Kd.R_lt (kR HO_239001.out))) (Kd.R_lt (kR HO254.out))) (below_size (kW HB.out)))
              have n5_ := k0 (kb BK207.out hb)
              have n6_ := k0 (kb BK208.out hb)
              have n7_ := k0 (kb BK223.out hb)
              have n8_ := k0 (kb BK228.out hb)
              have n9_ := k0 (kb BK238.out hb)
              have n10_ := k0 (kb BK264.out hb)
              have n11_ := k0 (below_step (kW HB.out) hb)
              clear HO_224001
              clear HO_229001
              clear HO_239001
              clear HO254
              clear BK207
              clear BK208
              clear BK223
              clear BK228
              clear BK238
              clear BK264
              clear HB
              have HO_224001 := n0_
              have HO_229001 := n1_
              have HO_239001 := n2_
              have HO254 := n3_
              have HO262 := n4_
              have BK207 := n5_
              have BK208 := n6_
              have BK223 := n7_
              have BK228 := n8_
              have BK238 := n9_
              have BK264 := n10_
              have HB := n11_
              clear n0_ n1_ n2_ n3_ n4_ n5_ n6_ n7_ n8_ n9_ n10_ n11_
              (try clear hb)
              (try clear hb2)
              (try clear hk)
              (try clear hi)
              (try clear ho0)
              refine hK.out _ _ ⟨(blk_cell BK207.out 0).trans rfl, (blk_cell BK207.out 1).trans rfl, (blk_cell BK208.out 0).trans rfl, (blk_cell BK208.out 1).trans rfl, (blk_cell BK208.out 2).trans rfl, (blk_cell BK208.out 3).trans rfl⟩ (fun hHeld => ?_)
              clear hK K
              refine norm_ (a' := ?_) ?_ ?_
              rotate_left
              ·show Act.put _ (some 84) _ = _
               simp only [Act.put, List.setIfInBounds_toArray, List.set_cons_zero, List.set_cons_succ, i64_w, i32_w]
               rfl
              refine pure_ (i := 5) (N := some 79) (v := ?_) (a' := ?_) #[true, true, true, true, true, true, false, false, true, false, false] rfl rfl (any_of HT_.out (by kernel_rfl)) (fun _ _ _ h => h) (Or.inl ⟨by rfl, ?_⟩) ?_ ?_
              rotate_left
              ·intro w'
               go_simp
               with_reducible rfl
              rotate_left
              ·simp only [Act.put, List.setIfInBounds_toArray, List.set_cons_zero, List.set_cons_succ, i64_w, i32_w]
               rfl
              refine pure_ (i := 6) (N := some 85) (v := ?_) (a' := ?_) #[true, true, true, true, true, true, true, false, true, false, false] rfl rfl (any_of HT_.out (by kernel_rfl)) (fun _ _ _ h => h) (Or.inl ⟨by rfl, ?_⟩) ?_ ?_
              rotate_left
              ·intro w'
               go_simp
               with_reducible rfl
              rotate_left
              ·simp only [Act.put, List.setIfInBounds_toArray, List.set_cons_zero, List.set_cons_succ, i64_w, i32_w]
               rfl
              refine pure_ (i := 7) (N := some 86) (v := ?_) (a' := ?_) #[true, true, true, true, true, true, true, true, true, false, false] rfl rfl (any_of HT_.out (by kernel_rfl)) (fun _ _ _ h => h) (Or.inl ⟨by rfl, ?_⟩) ?_ ?_
              rotate_left
              ·intro w'
               go_simp
               with_reducible rfl
              rotate_left
              ·simp only [Act.put, List.setIfInBounds_toArray, List.set_cons_zero, List.set_cons_succ, i64_w, i32_w]
               rfl
              exact norm_ (by simp only [putAll, Act.put, List.setIfInBounds_toArray, List.set_cons_zero, List.set_cons_succ]) (hCont (.slice Ao132 t252.length co132, v261, gb264) _ ⟨hHeld, (by (with_reducible repeat (first | apply Kd.R_alloc | apply Kd.R_drewN | apply Kd.R_drew)); exact Kd.R_mono HO254.out (fun _ hk => ⟨hk.2, ⟨hk.1.1.1.2, ⟨hk.1.1.2, hk.1.2⟩⟩⟩)), (by (with_reducible repeat (first | apply Kd.R_alloc | apply Kd.R_drewN | apply Kd.R_drew)); exact Kd.R_mono HO262.out (fun _ hk => ⟨hk.2, ⟨hk.1.1.1.2, ⟨hk.1.1.2, hk.1.2⟩⟩⟩)), (by (with_reducible repeat (first | apply Kd.R_alloc | apply Kd.R_drewN | apply Kd.R_drew)); exact Kd.R_mono HO_224001.out (fun _ hk => ⟨hk.1.2, ⟨hk.2, ⟨hk.1.1.1, hk.1.1.2⟩⟩⟩)), (by (with_reducible repeat (first | apply Kd.R_alloc | apply Kd.R_drewN | apply Kd.R_drew)); exact Kd.R_mono HO_229001.out (fun _ hk => ⟨hk.1.2, ⟨hk.2, ⟨hk.1.1.1, hk.1.1.2⟩⟩⟩)), (by (with_reducible repeat (first | apply Kd.R_alloc | apply Kd.R_drewN | apply Kd.R_drew)); exact Kd.R_mono HO_239001.out (fun _ hk => ⟨hk.1.2, ⟨hk.2, ⟨hk.1.1.1, hk.1.1.2⟩⟩⟩)), (kB BK207.out), (kB BK208.out), (kB BK223.out), (kB BK228.out), (kB BK238.out), (kB BK264.out), GW264.out, GE264.out, NB207_264.out, NB264_207.out, NB208_264.out, NB264_208.out, NB223_264.out, NB264_223.out, NB228_264.out, NB264_228.out, NB238_264.out, NB264_238.out, (kW HB.out)⟩)
            ·skip
             refine box_step ?hg (N := 14) ?hd (cs := #[.int .i64 0, .slice none 0 0]) (t := 29) ?hr ?_; (case hd => rfl); (case hg => rfl); (case hr => first | (go_simp; done) | (go_simp; rfl))
             intro gb264 hg w129 hbox hb
             have n0_ := k0 (Kd.R_below (kR HO_224001.out) hb)
             have n1_ := k0 (Kd.R_below (kR HO_229001.out) hb)
             have n2_ := k0 (Kd.R_below (kR HO_239001.out) hb)
             have n3_ := k0 (kb BK207.out hb)
             have n4_ := k0 (kb BK208.out hb)
             have n5_ := k0 (kb BK223.out hb)
             have n6_ := k0 (kb BK228.out hb)
             have n7_ := k0 (kb BK238.out hb)
             have n8_ := k0 (below_step (kW HB.out) hb)
             have n9_ := k0 (hbox)
             have n10_ := k0 ((by rw [hg]; exact (below_size (kW HB.out)) : w.heap.size ≤ gb264))
             have n11_ := k0 ((by rw [hg]; exact (below_size (kW HB.out)) : w.heap.size ≤ gb264))
             have n12_ := k0 ((by rw [hg]; exact Nat.ne_of_lt (blk_lt (g := gb207) (o := .cells #[.int .i64 a0_0, .slice A0_1 l0_1.length c0_1] 24 (0, 0)) (kB BK207.out)) : gb207 ≠ gb264))
             have n13_ := k0 ((by rw [hg]; exact Nat.ne_of_gt (blk_lt (g := gb207) (o := .cells #[.int .i64 a0_0, .slice A0_1 l0_1.length c0_1] 24 (0, 0)) (kB BK207.out)) : gb264 ≠ gb207))
             have n14_ := k0 ((by rw [hg]; exact Nat.ne_of_lt (blk_lt (g := gb208) (o := .cells #[.int .i64 a1_0, .int .i64 a1_1, .int .i64 a1_2, .int .i64 a1_3] 40 (0, 0)) (kB BK208.out)) : gb208 ≠ gb264))
             have n15_ := k0 ((by rw [hg]; exact Nat.ne_of_gt (blk_lt (g := gb208) (o := .cells #[.int .i64 a1_0, .int .i64 a1_1, .int .i64 a1_2, .int .i64 a1_3] 40 (0, 0)) (kB BK208.out)) : gb264 ≠ gb208))
             have n16_ := k0 ((by rw [hg]; exact Nat.ne_of_lt (blk_lt (g := gb223) (o := .cells #[.int .i64 t218, .slice Ao30 t219.length co30] 29 (0, 0)) (kB BK223.out)) : gb223 ≠ gb264))
             have n17_ := k0 ((by rw [hg]; exact Nat.ne_of_gt (blk_lt (g := gb223) (o := .cells #[.int .i64 t218, .slice Ao30 t219.length co30] 29 (0, 0)) (kB BK223.out)) : gb264 ≠ gb223))
             have n18_ := k0 ((by rw [hg]; exact Nat.ne_of_lt (blk_lt (g := gb228) (o := .cells #[.int .i64 t224, .slice Ao40 t246.length co40] 29 (0, 0)) (kB BK228.out)) : gb228 ≠ gb264))
             have n19_ := k0 ((by rw [hg]; exact Nat.ne_of_gt (blk_lt (g := gb228) (o := .cells #[.int .i64 t224, .slice Ao40 t246.length co40] 29 (0, 0)) (kB BK228.out)) : gb264 ≠ gb228))
             have n20_ := k0 ((by rw [hg]; exact Nat.ne_of_lt (blk_lt (g := gb238) (o := .cells #[.int .i64 t233, .slice Ao48 t234.length co48] 29 (0, 0)) (kB BK238.out)) : gb238 ≠ gb264))
             have n21_ := k0 ((by rw [hg]; exact Nat.ne_of_gt (blk_lt (g := gb238) (o := .cells #[.int .i64 t233, .slice Ao48 t234.length co48] 29 (0, 0)) (kB BK238.out)) : gb264 ≠ gb238))
             clear HO_224001
             clear HO_229001
             clear HO_239001
             clear BK207
             clear BK208
             clear BK223
             clear BK228
             clear BK238
             clear HB
             have HO_224001 := n0_
             have HO_229001 := n1_
             have HO_239001 := n2_
             have BK207 := n3_
             have BK208 := n4_
             have BK223 := n5_
             have BK228 := n6_
             have BK238 := n7_
             have HB := n8_
             have BK264 := n9_
             have GW264 := n10_
             have GE264 := n11_
             have NB207_264 := n12_
             have NB264_207 := n13_
             have NB208_264 := n14_
             have NB264_208 := n15_
             have NB223_264 := n16_
             have NB264_223 := n17_
             have NB228_264 := n18_
             have NB264_228 := n19_
             have NB238_264 := n20_
             have NB264_238 := n21_
             clear n0_ n1_ n2_ n3_ n4_ n5_ n6_ n7_ n8_ n9_ n10_ n11_ n12_ n13_ n14_ n15_ n16_ n17_ n18_ n19_ n20_ n21_
             clear hb hbox hg
             refine hK.out _ _ ⟨(blk_cell BK207.out 0).trans rfl, (blk_cell BK207.out 1).trans rfl, (blk_cell BK208.out 0).trans rfl, (blk_cell BK208.out 1).trans rfl, (blk_cell BK208.out 2).trans rfl, (blk_cell BK208.out 3).trans rfl⟩ (fun hHeld => ?_)
             clear hK K
             refine norm_ (a' := ?_) ?_ ?_
             rotate_left
             ·show Act.put _ (some 14) _ = _
              simp only [Act.put, List.setIfInBounds_toArray, List.set_cons_zero, List.set_cons_succ, i64_w, i32_w]
              rfl
             refine one_ (i := 1) (N := some 81) #[true, true, true, false, false, false, false, false, true, false, false] rfl rfl (one_of HT_.out (by kernel_rfl)) (by decide) (fun K hK => ?_)
             refine goes_ Try.func14 (by kernel_rfl) rfl #[.agg #[.int .i64 a0_0, .slice A0_1 l0_1.length c0_1]] (by rfl) rfl rfl (by (try simp only [List.map_toArray, List.map_cons, List.map_nil]); first | done | rfl | (simp only [List.length_drop, List.length_take]; rfl)) ?_
             with_reducible refine (laws_toOut.calls kj76 a0_0 _ _ l0_1 t251 t252 _ ?side1 ?side2 A116.out).mono ?_
             (case side1 => repeat (first | exact (Kd.C_below HR0_1.out HB.out) | (with_reducible refine Kd.C_alloc ?_ _) | (with_reducible refine Kd.C_drewN ?_ _) | (with_reducible refine Kd.C_drew ?_)))
             (case side2 => exact HC0_1.out)
             rintro e w130 ⟨v253, rfl, ho0, hb⟩
             refine ⟨_, rfl, ?_⟩
             have n0_ := k0 (Kd.R_elder' (kR HO_224001.out) (Kd.R_base ho0) hb)
             have n1_ := k0 (Kd.R_elder' (kR HO_229001.out) (Kd.R_base ho0) hb)
             have n2_ := k0 (Kd.R_elder' (kR HO_239001.out) (Kd.R_base ho0) hb)
             have n3_ := k0 (Kd.R_lower (Kd.R_new' (Kd.R_new' (Kd.R_new' ho0 (Kd.R_lt (kR HO_224001.out))) (Kd.R_lt (kR HO_229001.out))) (Kd.R_lt (kR HO_239001.out))) (below_size (kW HB.out)))
             have n4_ := k0 (kb BK207.out hb)
             have n5_ := k0 (kb BK208.out hb)
             have n6_ := k0 (kb BK223.out hb)
             have n7_ := k0 (kb BK228.out hb)
             have n8_ := k0 (kb BK238.out hb)
             have n9_ := k0 (kb BK264.out hb)
             have n10_ := k0 (below_step (kW HB.out) hb)
             clear HO_224001
             clear HO_229001
             clear HO_239001
             clear BK207
             clear BK208
             clear BK223
             clear BK228
             clear BK238
             clear BK264
             clear HB
             have HO_224001 := n0_
             have HO_229001 := n1_
             have HO_239001 := n2_
             have HO254 := n3_
             have BK207 := n4_
             have BK208 := n5_
             have BK223 := n6_
             have BK228 := n7_
             have BK238 := n8_
             have BK264 := n9_
             have HB := n10_
             clear n0_ n1_ n2_ n3_ n4_ n5_ n6_ n7_ n8_ n9_ n10_
             (try clear hb)
             (try clear hb2)
             (try clear hk)
             (try clear hi)
             (try clear ho0)
             refine hK.out _ _ ⟨(blk_cell BK207.out 0).trans rfl, (blk_cell BK207.out 1).trans rfl, (blk_cell BK208.out 0).trans rfl, (blk_cell BK208.out 1).trans rfl, (blk_cell BK208.out 2).trans rfl, (blk_cell BK208.out 3).trans rfl⟩ (fun hHeld => ?_)
             clear hK K
             refine norm_ (a' := ?_) ?_ ?_
             rotate_left
             ·show Act.put _ (some 81) _ = _
              simp only [Act.put, List.setIfInBounds_toArray, List.set_cons_zero, List.set_cons_succ, i64_w, i32_w]
              rfl
             refine one_ (i := 3) (N := some 83) #[true, true, true, true, false, false, false, false, true, false, false] rfl rfl (one_of HT_.out (by kernel_rfl)) (by decide) (fun K hK => ?_)
             refine goes_ Try.func23 (by kernel_rfl) rfl #[.agg #[.int .i64 a1_0, .int .i64 a1_1, .int .i64 a1_2, .int .i64 a1_3]] (by rfl) rfl rfl (by (try simp only [List.map_toArray, List.map_cons, List.map_nil]); first | done | rfl | (simp only [List.length_drop, List.length_take]; rfl)) ?_
             with_reducible refine (laws_toMsg.calls a1_0 a1_1 a1_2 a1_3 t255 t256 t257 t258 _ A117.out).mono ?_
             rintro e w131 ⟨rfl, hb⟩
             refine ⟨_, rfl, ?_⟩
             have n0_ := k0 (Kd.R_below (kR HO_224001.out) hb)
             have n1_ := k0 (Kd.R_below (kR HO_229001.out) hb)
             have n2_ := k0 (Kd.R_below (kR HO_239001.out) hb)
             have n3_ := k0 (Kd.R_below (kR HO254.out) hb)
             have n4_ := k0 (kb BK207.out hb)
             have n5_ := k0 (kb BK208.out hb)
             have n6_ := k0 (kb BK223.out hb)
             have n7_ := k0 (kb BK228.out hb)
             have n8_ := k0 (kb BK238.out hb)
             have n9_ := k0 (kb BK264.out hb)
             have n10_ := k0 (below_step (kW HB.out) hb)
             clear HO_224001
             clear HO_229001
             clear HO_239001
             clear HO254
             clear BK207
             clear BK208
             clear BK223
             clear BK228
             clear BK238
             clear BK264
             clear HB
             have HO_224001 := n0_
             have HO_229001 := n1_
             have HO_239001 := n2_
             have HO254 := n3_
             have BK207 := n4_
             have BK208 := n5_
             have BK223 := n6_
             have BK228 := n7_
             have BK238 := n8_
             have BK264 := n9_
             have HB := n10_
             clear n0_ n1_ n2_ n3_ n4_ n5_ n6_ n7_ n8_ n9_ n10_
             (try clear hb)
             (try clear hb2)
             (try clear hk)
             (try clear hi)
             obtain ⟨Ao132, co132, eo132⟩ := Kd.R_slice HO254.out
             (first | subst eo132 | (injection eo132 with f1_ f2_ f3_; have f4_ := f1_.symm; have f5_ := f3_.symm; clear f1_ f2_ f3_; subst f4_; subst f5_))
             refine hK.out _ _ ⟨(blk_cell BK207.out 0).trans rfl, (blk_cell BK207.out 1).trans rfl, (blk_cell BK208.out 0).trans rfl, (blk_cell BK208.out 1).trans rfl, (blk_cell BK208.out 2).trans rfl, (blk_cell BK208.out 3).trans rfl⟩ (fun hHeld => ?_)
             clear hK K
             refine norm_ (a' := ?_) ?_ ?_
             rotate_left
             ·show Act.put _ (some 83) _ = _
              simp only [Act.put, List.setIfInBounds_toArray, List.set_cons_zero, List.set_cons_succ, i64_w, i32_w]
              rfl
             refine one_ (i := 4) (N := some 84) #[true, true, true, true, true, false, false, false, true, false, false] rfl rfl (one_of HT_.out (by kernel_rfl)) (by decide) (fun K hK => ?_)
             refine goes_ Try.func24 (by kernel_rfl) rfl #[.agg #[.int .i64 t251, .slice Ao132 t252.length co132], .agg #[.int .i64 t255, .int .i64 t256, .int .i64 t257, .int .i64 t258]] (by rfl) rfl rfl (by (try simp only [List.map_toArray, List.map_cons, List.map_nil]); first | done | rfl | (simp only [List.length_drop, List.length_take]; rfl)) ?_
             with_reducible refine (impl_OutPut.calls kj76 t251 _ _ t252 t255 t256 t257 t258 t259 t260 t263 _ ?side1 ?side2 A118.out).mono ?_
             (case side1 => repeat (first | exact (Kd.R_reads' HO254.out).2.2 | (with_reducible refine Kd.C_alloc ?_ _) | (with_reducible refine Kd.C_drewN ?_ _) | (with_reducible refine Kd.C_drew ?_)))
             (case side2 => exact (Kd.R_reads' HO254.out).2.1)
             rintro e w133 ⟨v261, rfl, ho0, hb⟩
             refine ⟨_, rfl, ?_⟩
             have n0_ := k0 (Kd.R_elder' (kR HO_224001.out) (Kd.R_base ho0) hb)
             have n1_ := k0 (Kd.R_elder' (kR HO_229001.out) (Kd.R_base ho0) hb)
             have n2_ := k0 (Kd.R_elder' (kR HO_239001.out) (Kd.R_base ho0) hb)
             have n3_ := k0 (Kd.R_elder' (kR HO254.out) (Kd.R_base ho0) hb)
             have n4_ := k0 (Kd.R_lower (Kd.R_new' (Kd.R_new' (Kd.R_new' (Kd.R_new' ho0 (Kd.R_lt (kR HO_224001.out))) (Kd.R_lt (kR HO_229001.out))) (Kd.R_lt (kR HO_239001.out))) (Kd.R_lt (kR HO254.out))) (below_size (kW HB.out)))
             have n5_ := k0 (kb BK207.out hb)
             have n6_ := k0 (kb BK208.out hb)
             have n7_ := k0 (kb BK223.out hb)
             have n8_ := k0 (kb BK228.out hb)
             have n9_ := k0 (kb BK238.out hb)
             have n10_ := k0 (kb BK264.out hb)
             have n11_ := k0 (below_step (kW HB.out) hb)
             clear HO_224001
             clear HO_229001
             clear HO_239001
             clear HO254
             clear BK207
             clear BK208
             clear BK223
             clear BK228
             clear BK238
             clear BK264
             clear HB
             have HO_224001 := n0_
             have HO_229001 := n1_
             have HO_239001 := n2_
             have HO254 := n3_
             have HO262 := n4_
             have BK207 := n5_
             have BK208 := n6_
             have BK223 := n7_
             have BK228 := n8_
             have BK238 := n9_
             have BK264 := n10_
             have HB := n11_
             clear n0_ n1_ n2_ n3_ n4_ n5_ n6_ n7_ n8_ n9_ n10_ n11_
             (try clear hb)
             (try clear hb2)
             (try clear hk)
             (try clear hi)
             (try clear ho0)
             refine hK.out _ _ ⟨(blk_cell BK207.out 0).trans rfl, (blk_cell BK207.out 1).trans rfl, (blk_cell BK208.out 0).trans rfl, (blk_cell BK208.out 1).trans rfl, (blk_cell BK208.out 2).trans rfl, (blk_cell BK208.out 3).trans rfl⟩ (fun hHeld => ?_)
             clear hK K
             refine norm_ (a' := ?_) ?_ ?_
             rotate_left
             ·show Act.put _ (some 84) _ = _
              simp only [Act.put, List.setIfInBounds_toArray, List.set_cons_zero, List.set_cons_succ, i64_w, i32_w]
              rfl
             refine pure_ (i := 5) (N := some 79) (v := ?_) (a' := ?_) #[true, true, true, true, true, true, false, false, true, false, false] rfl rfl (any_of HT_.out (by kernel_rfl)) (fun _ _ _ h => h) (Or.inl ⟨by rfl, ?_⟩) ?_ ?_
             rotate_left
             ·intro w'
              go_simp
              with_reducible rfl
             rotate_left
             ·simp only [Act.put, List.setIfInBounds_toArray, List.set_cons_zero, List.set_cons_succ, i64_w, i32_w]
              rfl
             refine pure_ (i := 6) (N := some 85) (v := ?_) (a' := ?_) #[true, true, true, true, true, true, true, false, true, false, false] rfl rfl (any_of HT_.out (by kernel_rfl)) (fun _ _ _ h => h) (Or.inl ⟨by rfl, ?_⟩) ?_ ?_
             rotate_left
             ·intro w'
              go_simp
              with_reducible rfl
             rotate_left
             ·simp only [Act.put, List.setIfInBounds_toArray, List.set_cons_zero, List.set_cons_succ, i64_w, i32_w]
              rfl
             refine pure_ (i := 7) (N := some 86) (v := ?_) (a' := ?_) #[true, true, true, true, true, true, true, true, true, false, false] rfl rfl (any_of HT_.out (by kernel_rfl)) (fun _ _ _ h => h) (Or.inl ⟨by rfl, ?_⟩) ?_ ?_
             rotate_left
             ·intro w'
              go_simp
              with_reducible rfl
             rotate_left
             ·simp only [Act.put, List.setIfInBounds_toArray, List.set_cons_zero, List.set_cons_succ, i64_w, i32_w]
              rfl
             exact norm_ (by simp only [putAll, Act.put, List.setIfInBounds_toArray, List.set_cons_zero, List.set_cons_succ]) (hCont (.slice Ao132 t252.length co132, v261, gb264) _ ⟨hHeld, (by (with_reducible repeat (first | apply Kd.R_alloc | apply Kd.R_drewN | apply Kd.R_drew)); exact Kd.R_mono HO254.out (fun _ hk => ⟨hk.2, ⟨hk.1.1.1.2, ⟨hk.1.1.2, hk.1.2⟩⟩⟩)), (by (with_reducible repeat (first | apply Kd.R_alloc | apply Kd.R_drewN | apply Kd.R_drew)); exact Kd.R_mono HO262.out (fun _ hk => ⟨hk.2, ⟨hk.1.1.1.2, ⟨hk.1.1.2, hk.1.2⟩⟩⟩)), (by (with_reducible repeat (first | apply Kd.R_alloc | apply Kd.R_drewN | apply Kd.R_drew)); exact Kd.R_mono HO_224001.out (fun _ hk => ⟨hk.1.2, ⟨hk.2, ⟨hk.1.1.1, hk.1.1.2⟩⟩⟩)), (by (with_reducible repeat (first | apply Kd.R_alloc | apply Kd.R_drewN | apply Kd.R_drew)); exact Kd.R_mono HO_229001.out (fun _ hk => ⟨hk.1.2, ⟨hk.2, ⟨hk.1.1.1, hk.1.1.2⟩⟩⟩)), (by (with_reducible repeat (first | apply Kd.R_alloc | apply Kd.R_drewN | apply Kd.R_drew)); exact Kd.R_mono HO_239001.out (fun _ hk => ⟨hk.1.2, ⟨hk.2, ⟨hk.1.1.1, hk.1.1.2⟩⟩⟩)), (kB BK207.out), (kB BK208.out), (kB BK223.out), (kB BK228.out), (kB BK238.out), (kB BK264.out), GW264.out, GE264.out, NB207_264.out, NB264_207.out, NB208_264.out, NB264_208.out, NB223_264.out, NB264_223.out, NB228_264.out, NB264_228.out, NB238_264.out, NB264_238.out, (kW HB.out)⟩)
           rintro ⟨v253, v261, gb264⟩ w134 ⟨hS_, h0_, h1_, h2_, h3_, h4_, h5_, h6_, h7_, h8_, h9_, h10_, h11_, h12_, h13_, h14_, h15_, h16_, h17_, h18_, h19_, h20_, h21_, h22_, h23_⟩
           have n0_ : Aside0 (Kd.R k35 35 w134 w.heap.size (fun k_ => some k_ ≠ (v261 : Value).ownBlock ∧ some k_ ≠ (.slice Ao30 t219.length co30 : Value).ownBlock ∧ some k_ ≠ (.slice Ao40 t246.length co40 : Value).ownBlock ∧ some k_ ≠ (.slice Ao48 t234.length co48 : Value).ownBlock) v253 t252) := ⟨h0_⟩
           have n1_ : Aside0 (Kd.R k35 35 w134 w.heap.size (fun k_ => some k_ ≠ (v253 : Value).ownBlock ∧ some k_ ≠ (.slice Ao30 t219.length co30 : Value).ownBlock ∧ some k_ ≠ (.slice Ao40 t246.length co40 : Value).ownBlock ∧ some k_ ≠ (.slice Ao48 t234.length co48 : Value).ownBlock) v261 t260) := ⟨h1_⟩
           have n2_ : Aside0 (Kd.R k35 35 w134 w.heap.size (fun k_ => some k_ ≠ (v253 : Value).ownBlock ∧ some k_ ≠ (v261 : Value).ownBlock ∧ some k_ ≠ (.slice Ao40 t246.length co40 : Value).ownBlock ∧ some k_ ≠ (.slice Ao48 t234.length co48 : Value).ownBlock) (.slice Ao30 t219.length co30) t219) := ⟨h2_⟩
           have n3_ : Aside0 (Kd.R k35 35 w134 w.heap.size (fun k_ => some k_ ≠ (v253 : Value).ownBlock ∧ some k_ ≠ (v261 : Value).ownBlock ∧ some k_ ≠ (.slice Ao30 t219.length co30 : Value).ownBlock ∧ some k_ ≠ (.slice Ao48 t234.length co48 : Value).ownBlock) (.slice Ao40 t246.length co40) t246) := ⟨h3_⟩
           have n4_ : Aside0 (Kd.R k35 35 w134 w.heap.size (fun k_ => some k_ ≠ (v253 : Value).ownBlock ∧ some k_ ≠ (v261 : Value).ownBlock ∧ some k_ ≠ (.slice Ao30 t219.length co30 : Value).ownBlock ∧ some k_ ≠ (.slice Ao40 t246.length co40 : Value).ownBlock) (.slice Ao48 t234.length co48) t249) := ⟨h4_⟩
           have n5_ : Aside0 (w134.heap[gb207]? = some (.cells #[.int .i64 a0_0, .slice A0_1 l0_1.length c0_1] 24 (0, 0))) := ⟨h5_⟩
           have n6_ : Aside0 (w134.heap[gb208]? = some (.cells #[.int .i64 a1_0, .int .i64 a1_1, .int .i64 a1_2, .int .i64 a1_3] 40 (0, 0))) := ⟨h6_⟩
           have n7_ : Aside0 (w134.heap[gb223]? = some (.cells #[.int .i64 t218, .slice Ao30 t219.length co30] 29 (0, 0))) := ⟨h7_⟩
           have n8_ : Aside0 (w134.heap[gb228]? = some (.cells #[.int .i64 t224, .slice Ao40 t246.length co40] 29 (0, 0))) := ⟨h8_⟩
           have n9_ : Aside0 (w134.heap[gb238]? = some (.cells #[.int .i64 t233, .slice Ao48 t234.length co48] 29 (0, 0))) := ⟨h9_⟩
           have n10_ : Aside0 (w134.heap[gb264]? = some (.cells #[.int .i64 0, .slice none 0 0] 29 (0, 0))) := ⟨h10_⟩
           have n11_ : Aside0 (w.heap.size ≤ gb264) := ⟨h11_⟩
           have n12_ : Aside0 (w.heap.size ≤ gb264) := ⟨h12_⟩
           have n13_ : Aside0 (gb207 ≠ gb264) := ⟨h13_⟩
           have n14_ : Aside0 (gb264 ≠ gb207) := ⟨h14_⟩
           have n15_ : Aside0 (gb208 ≠ gb264) := ⟨h15_⟩
           have n16_ : Aside0 (gb264 ≠ gb208) := ⟨h16_⟩
           have n17_ : Aside0 (gb223 ≠ gb264) := ⟨h17_⟩
           have n18_ : Aside0 (gb264 ≠ gb223) := ⟨h18_⟩
           have n19_ : Aside0 (gb228 ≠ gb264) := ⟨h19_⟩
           have n20_ : Aside0 (gb264 ≠ gb228) := ⟨h20_⟩
           have n21_ : Aside0 (gb238 ≠ gb264) := ⟨h21_⟩
           have n22_ : Aside0 (gb264 ≠ gb238) := ⟨h22_⟩
           have n23_ : Aside0 (Below w.heap.size w w134) := ⟨h23_⟩
           clear HO_224001
           clear HO_229001
           clear HO_239001
           clear BK207
           clear BK208
           clear BK223
           clear BK228
           clear BK238
           clear HB
           clear h0_ h1_ h2_ h3_ h4_ h5_ h6_ h7_ h8_ h9_ h10_ h11_ h12_ h13_ h14_ h15_ h16_ h17_ h18_ h19_ h20_ h21_ h22_ h23_
           have HO254 := n0_
           have HO262 := n1_
           have HO_224001 := n2_
           have HO_229001 := n3_
           have HO_239001 := n4_
           have BK207 := n5_
           have BK208 := n6_
           have BK223 := n7_
           have BK228 := n8_
           have BK238 := n9_
           have BK264 := n10_
           have GW264 := n11_
           have GE264 := n12_
           have NB207_264 := n13_
           have NB264_207 := n14_
           have NB208_264 := n15_
           have NB264_208 := n16_
           have NB223_264 := n17_
           have NB264_223 := n18_
           have NB228_264 := n19_
           have NB264_228 := n20_
           have NB238_264 := n21_
           have NB264_238 := n22_
           have HB := n23_
           clear n0_ n1_ n2_ n3_ n4_ n5_ n6_ n7_ n8_ n9_ n10_ n11_ n12_ n13_ n14_ n15_ n16_ n17_ n18_ n19_ n20_ n21_ n22_ n23_
           have hHeld : w134.cell? ⟨gb207, 0, none⟩ = some (.int .i64 a0_0) ∧ w134.cell? ⟨gb207, 1, none⟩ = some (.slice A0_1 l0_1.length c0_1) ∧ w134.cell? ⟨gb208, 0, none⟩ = some (.int .i64 a1_0) ∧ w134.cell? ⟨gb208, 1, none⟩ = some (.int .i64 a1_1) ∧ w134.cell? ⟨gb208, 2, none⟩ = some (.int .i64 a1_2) ∧ w134.cell? ⟨gb208, 3, none⟩ = some (.int .i64 a1_3) := hS_
           obtain ⟨Ao136, co136, eo136⟩ := Kd.R_slice HO262.out
           (first | subst eo136 | (injection eo136 with f1_ f2_ f3_; have f4_ := f1_.symm; have f5_ := f3_.symm; clear f1_ f2_ f3_; subst f4_; subst f5_))
           refine norm_ (a' := ?_) ?_ ?_
           rotate_left
           ·simp only [putAll, Act.put, List.setIfInBounds_toArray, List.set_cons_zero, List.set_cons_succ]
            rfl
           refine one_ (i := 9) (N := none) #[true, true, true, true, true, true, true, true, true, true, false] rfl rfl (one_of HT_.out (by kernel_rfl)) (by decide) (fun K hK => ?_)
           have hs135 : w134.cell? ⟨gb264, 0, none⟩ = some (.int .i64 0) := (blk_cell BK264.out 0).trans rfl
           have hfs135 := blk_frozen BK264.out 0
           have hns135_0 := NB207_264.out
           have hns135_1 := NB208_264.out
           have hns135_2 := NB223_264.out
           have hns135_3 := NB228_264.out
           have hns135_4 := NB238_264.out
           have hms135_0 := NB264_207.out
           have hms135_1 := NB264_208.out
           have hms135_2 := NB264_223.out
           have hms135_3 := NB264_228.out
           have hms135_4 := NB264_238.out
           have hs137 : w134.cell? ⟨gb264, 1, none⟩ = some (.slice none 0 0) := (blk_cell BK264.out 1).trans rfl
           have hfs137 := blk_frozen BK264.out 1
           have hns137_0 := NB207_264.out
           have hns137_1 := NB208_264.out
           have hns137_2 := NB223_264.out
           have hns137_3 := NB228_264.out
           have hns137_4 := NB238_264.out
           have hms137_0 := NB264_207.out
           have hms137_1 := NB264_208.out
           have hms137_2 := NB264_223.out
           have hms137_3 := NB264_228.out
           have hms137_4 := NB264_238.out
           refine skip_ (w1 := ?_) (by rfl) rfl ?_ ?_
           rotate_left
           ·go_simp
            rfl
           refine hK.out _ _ ⟨((cell_far (p := ⟨gb264, _, none⟩) NB207_264.out _).trans (((cell_far (p := ⟨gb264, _, none⟩) NB207_264.out _).trans (hHeld.1)))), ((cell_far (p := ⟨gb264, _, none⟩) NB207_264.out _).trans (((cell_far (p := ⟨gb264, _, none⟩) NB207_264.out _).trans (hHeld.2.1)))), ((cell_far (p := ⟨gb264, _, none⟩) NB208_264.out _).trans (((cell_far (p := ⟨gb264, _, none⟩) NB208_264.out _).trans (hHeld.2.2.1)))), ((cell_far (p := ⟨gb264, _, none⟩) NB208_264.out _).trans (((cell_far (p := ⟨gb264, _, none⟩) NB208_264.out _).trans (hHeld.2.2.2.1)))), ((cell_far (p := ⟨gb264, _, none⟩) NB208_264.out _).trans (((cell_far (p := ⟨gb264, _, none⟩) NB208_264.out _).trans (hHeld.2.2.2.2.1)))), ((cell_far (p := ⟨gb264, _, none⟩) NB208_264.out _).trans (((cell_far (p := ⟨gb264, _, none⟩) NB208_264.out _).trans (hHeld.2.2.2.2.2))))⟩ (fun hHeld => ?_)
           clear hK K
           refine pure_ (i := 10) (N := some 15) (v := ?_) (a' := ?_) #[true, true, true, true, true, true, true, true, true, true, true] rfl rfl (any_of HT_.out (by kernel_rfl)) (fun _ _ _ h => h) (Or.inl ⟨by rfl, ?_⟩) ?_ ?_
           rotate_left
           ·intro w'
            go_simp
            with_reducible rfl
           rotate_left
           ·simp only [Act.put, List.setIfInBounds_toArray, List.set_cons_zero, List.set_cons_succ, i64_w, i32_w]
            rfl
           refine done_ (done_of HT_.out (by kernel_rfl)) ?_
           go_upto_region 25 with (fail)
           go_cut [95] (fun v95 wc => ∃ (kq : Nat) (x95_118 : Bool), v95 = .bool x95_118 ∧ Aside0 (laws_FnExactOutPut.j2 kq t248 x95_118 t233 t249 = some r) ∧ Aside0 (kq ≤ kj76) ∧ Aside0 (Kd.R k35 35 wc w.heap.size (fun k_ => some k_ ≠ ((.slice Ao40 t246.length co40) : Value).ownBlock ∧ some k_ ≠ ((.slice Ao48 t234.length co48) : Value).ownBlock ∧ some k_ ≠ ((.slice Ao136 t260.length co136) : Value).ownBlock) (.slice Ao30 t219.length co30) t219) ∧ Aside0 (Kd.R k35 35 wc w.heap.size (fun k_ => some k_ ≠ ((.slice Ao30 t219.length co30) : Value).ownBlock ∧ some k_ ≠ ((.slice Ao48 t234.length co48) : Value).ownBlock ∧ some k_ ≠ ((.slice Ao136 t260.length co136) : Value).ownBlock) (.slice Ao40 t246.length co40) t246) ∧ Aside0 (Kd.R k35 35 wc w.heap.size (fun k_ => some k_ ≠ ((.slice Ao30 t219.length co30) : Value).ownBlock ∧ some k_ ≠ ((.slice Ao40 t246.length co40) : Value).ownBlock ∧ some k_ ≠ ((.slice Ao136 t260.length co136) : Value).ownBlock) (.slice Ao48 t234.length co48) t249) ∧ Aside0 (Kd.R k35 35 wc w.heap.size (fun k_ => some k_ ≠ ((.slice Ao30 t219.length co30) : Value).ownBlock ∧ some k_ ≠ ((.slice Ao40 t246.length co40) : Value).ownBlock ∧ some k_ ≠ ((.slice Ao48 t234.length co48) : Value).ownBlock) (.slice Ao136 t260.length co136) t260) ∧ Aside0 (wc.heap[gb207]? = some (.cells #[.int .i64 a0_0, (.slice A0_1 l0_1.length c0_1)] 24 (0, 0))) ∧ Aside0 (wc.heap[gb208]? = some (.cells #[.int .i64 a1_0, .int .i64 a1_1, .int .i64 a1_2, .int .i64 a1_3] 40 (0, 0))) ∧ Aside0 (wc.heap[gb223]? = some (.cells #[.int .i64 t218, (.slice Ao30 t219.length co30)] 29 (0, 0))) ∧ Aside0 (wc.heap[gb228]? = some (.cells #[.int .i64 t224, (.slice Ao40 t246.length co40)] 29 (0, 0))) ∧ Aside0 (wc.heap[gb238]? = some (.cells #[.int .i64 t233, (.slice Ao48 t234.length co48)] 29 (0, 0))) ∧ Aside0 (wc.heap[gb264]? = some (.cells #[.int .i64 t259, (.slice Ao136 t260.length co136)] 29 (0, 0))) ∧ Aside0 (Below w.heap.size w wc))
           case first =>
            have H := HC119.out
            clear HC119
            replace H := Option.bind_eq_some_iff.mp H
            obtain ⟨t265, A1380, H⟩ := H
            replace H : (if t265 = true then (laws_FnExactOutPut.j2 kj76 t248 (t263 != t222) t233 t249) else (laws_FnExactOutPut.j2 kj76 t248 true t233 t249)) = some r := H
            have A138 := Aside0.mk A1380
            clear A1380
            by_cases c139 : t265 = true
            ·subst c139
             have H1 : (laws_FnExactOutPut.j2 kj76 t248 (t263 != t222) t233 t249) = some r := by rw [if_pos rfl] at H; exact H
             clear H
             have H := H1
             clear H1
             have H' := Aside0.mk H
             clear H
             have hnb140 := NB264_207.out
             have hnc140 := NB207_264.out
             have hnb141 := NB264_208.out
             have hnc141 := NB208_264.out
             have hnb142 := NB264_223.out
             have hnc142 := NB223_264.out
             have hnb143 := NB264_228.out
             have hnc143 := NB228_264.out
             have hnb144 := NB264_238.out
             have hnc144 := NB238_264.out
             have hcz145_0 : w134.cell? ⟨gb264, 0, none⟩ = some (.int .i64 0) := (blk_cell BK264.out 0).trans rfl
             have hcz145_1 : w134.cell? ⟨gb264, 1, none⟩ = some (.slice none 0 0) := (blk_cell BK264.out 1).trans rfl
             have hfz145_0 := blk_frozen BK264.out 0
             have hfz145_1 := blk_frozen BK264.out 1
             have hnb146 := NB223_207.out
             have hnc146 := NB207_223.out
             have hnb147 := NB223_208.out
             have hnc147 := NB208_223.out
             have hnb148 := NB223_228.out
             have hnc148 := NB228_223.out
             have hnb149 := NB223_238.out
             have hnc149 := NB238_223.out
             have hcz150_0 : w134.cell? ⟨gb223, 0, none⟩ = some (.int .i64 t218) := (blk_cell BK223.out 0).trans rfl
             have hcz150_1 : w134.cell? ⟨gb223, 1, none⟩ = some (.slice Ao30 t219.length co30) := (blk_cell BK223.out 1).trans rfl
             have hfz150_0 := blk_frozen BK223.out 0
             have hfz150_1 := blk_frozen BK223.out 1
             go_wp2_with (first | ((with_reducible refine gate_callee (f := 16) rfl ?_); refine goesL_ (some 89) rfl rfl Try.func16 (by kernel_rfl) rfl #[.agg #[.int .i64 t259, .slice Ao136 t260.length co136], .agg #[.int .i64 t218, .slice Ao30 t219.length co30]] rfl (by (try simp only [List.map_toArray, List.map_cons, List.map_nil]); first | done | rfl | (simp only [List.length_drop, List.length_take]; rfl)) ?_; (with_reducible refine (laws_eqOut.calls kj76 t259 _ _ t260 t218 _ _ t219 true _ ?side1 ?side2 ?side3 ?side4 A138.out).mono ?_); (case side1 => refine (Kd.R_reads' (e := 35) (base := w.heap.size) (ok := fun k_ => (some k_ ≠ (v253 : Value).ownBlock ∧ (some k_ ≠ (.slice Ao30 t219.length co30 : Value).ownBlock ∧ (some k_ ≠ (.slice Ao40 t246.length co40 : Value).ownBlock ∧ some k_ ≠ (.slice Ao48 t234.length co48 : Value).ownBlock)))) (n := t260.length) (c := co136) ?_).2.2; exact (by (with_reducible repeat (first | apply Kd.R_alloc | apply Kd.R_drewN | apply Kd.R_drew)); exact (Kd.R_mono (Kd.R_far (p := ⟨gb264, 1, none⟩) (Kd.R_far (p := ⟨gb264, 0, none⟩) (Kd.R_types HO262.out BK264.out (by decide)) (fun _ hk => hk.2) (.int .i64 t259)) (fun _ hk => hk.2) (.slice Ao136 t260.length co136)) (fun _ h_ => h_.1)))); (case side2 => exact (Kd.R_reads' HO262.out).2.1); (case side3 => refine (Kd.R_reads' (e := 35) (base := w.heap.size) (ok := fun k_ => (some k_ ≠ (v253 : Value).ownBlock ∧ (some k_ ≠ (.slice Ao136 t260.length co136 : Value).ownBlock ∧ (some k_ ≠ (.slice Ao40 t246.length co40 : Value).ownBlock ∧ some k_ ≠ (.slice Ao48 t234.length co48 : Value).ownBlock)))) (n := t219.length) (c := co30) ?_).2.2; exact (by (with_reducible repeat (first | apply Kd.R_alloc | apply Kd.R_drewN | apply Kd.R_drew)); exact (Kd.R_mono (Kd.R_far (p := ⟨gb264, 1, none⟩) (Kd.R_far (p := ⟨gb264, 0, none⟩) (Kd.R_types HO_224001.out BK264.out (by decide)) (fun _ hk => hk.2) (.int .i64 t259)) (fun _ hk => hk.2) (.slice Ao136 t260.length co136)) (fun _ h_ => h_.1)))); (case side4 => exact (Kd.R_reads' HO_224001.out).2.1); rintro e w151 ⟨rfl, hb⟩; refine ⟨_, rfl, ?_⟩; have n0_ := k0 (Kd.R_below (by (with_reducible repeat (first | apply Kd.R_alloc | apply Kd.R_drewN | apply Kd.R_drew)); exact (Kd.R_mono (Kd.R_far (p := ⟨gb264, 1, none⟩) (Kd.R_far (p := ⟨gb264, 0, none⟩) (Kd.R_types HO_224001.out BK264.out (by decide)) (fun _ hk => hk.2) (.int .i64 t259)) (fun _ hk => hk.2) (.slice Ao136 t260.length co136)) (fun _ h_ => h_.1))) hb); have n1_ := k0 (Kd.R_below (by (with_reducible repeat (first | apply Kd.R_alloc | apply Kd.R_drewN | apply Kd.R_drew)); exact (Kd.R_mono (Kd.R_far (p := ⟨gb264, 1, none⟩) (Kd.R_far (p := ⟨gb264, 0, none⟩) (Kd.R_types HO_229001.out BK264.out (by decide)) (fun _ hk => hk.2) (.int .i64 t259)) (fun _ hk => hk.2) (.slice Ao136 t260.length co136)) (fun _ h_ => h_.1))) hb); have n2_ := k0 (Kd.R_below (by (with_reducible repeat (first | apply Kd.R_alloc | apply Kd.R_drewN | apply Kd.R_drew)); exact (Kd.R_mono (Kd.R_far (p := ⟨gb264, 1, none⟩) (Kd.R_far (p := ⟨gb264, 0, none⟩) (Kd.R_types HO_239001.out BK264.out (by decide)) (fun _ hk => hk.2) (.int .i64 t259)) (fun _ hk => hk.2) (.slice Ao136 t260.length co136)) (fun _ h_ => h_.1))) hb); have n3_ := k0 (Kd.R_below (by (with_reducible repeat (first | apply Kd.R_alloc | apply Kd.R_drewN | apply Kd.R_drew)); exact (Kd.R_mono (Kd.R_far (p := ⟨gb264, 1, none⟩) (Kd.R_far (p := ⟨gb264, 0, none⟩) (Kd.R_types HO254.out BK264.out (by decide)) (fun _ hk => hk.2) (.int .i64 t259)) (fun _ hk => hk.2) (.slice Ao136 t260.length co136)) (fun _ h_ => h_.1))) hb); have n4_ := k0 (Kd.R_below (by (with_reducible repeat (first | apply Kd.R_alloc | apply Kd.R_drewN | apply Kd.R_drew)); exact (Kd.R_mono (Kd.R_far (p := ⟨gb264, 1, none⟩) (Kd.R_far (p := ⟨gb264, 0, none⟩) (Kd.R_types HO262.out BK264.out (by decide)) (fun _ hk => hk.2) (.int .i64 t259)) (fun _ hk => hk.2) (.slice Ao136 t260.length co136)) (fun _ h_ => h_.1))) hb); have n5_ := k0 (blk_below (g := gb207) (o := .cells #[.int .i64 a0_0, .slice A0_1 l0_1.length c0_1] 24 (0, 0)) (by (with_reducible repeat (first | refine blk_drewN ?_ _ | refine blk_drew ?_ | refine blk_alloc ?_ _)); refine blk_far ?_ NB207_264.out _; (with_reducible repeat (first | refine blk_drewN ?_ _ | refine blk_drew ?_ | refine blk_alloc ?_ _)); refine blk_far ?_ NB207_264.out _; (with_reducible repeat (first | refine blk_drewN ?_ _ | refine blk_drew ?_ | refine blk_alloc ?_ _)); exact BK207.out) hb); have n6_ := k0 (blk_below (g := gb208) (o := .cells #[.int .i64 a1_0, .int .i64 a1_1, .int .i64 a1_2, .int .i64 a1_3] 40 (0, 0)) (by (with_reducible repeat (first | refine blk_drewN ?_ _ | refine blk_drew ?_ | refine blk_alloc ?_ _)); refine blk_far ?_ NB208_264.out _; (with_reducible repeat (first | refine blk_drewN ?_ _ | refine blk_drew ?_ | refine blk_alloc ?_ _)); refine blk_far ?_ NB208_264.out _; (with_reducible repeat (first | refine blk_drewN ?_ _ | refine blk_drew ?_ | refine blk_alloc ?_ _)); exact BK208.out) hb); have n7_ := k0 (blk_below (g := gb223) (o := .cells #[.int .i64 t218, .slice Ao30 t219.length co30] 29 (0, 0)) (by (with_reducible repeat (first | refine blk_drewN ?_ _ | refine blk_drew ?_ | refine blk_alloc ?_ _)); refine blk_far ?_ NB223_264.out _; (with_reducible repeat (first | refine blk_drewN ?_ _ | refine blk_drew ?_ | refine blk_alloc ?_ _)); refine blk_far ?_ NB223_264.out _; (with_reducible repeat (first | refine blk_drewN ?_ _ | refine blk_drew ?_ | refine blk_alloc ?_ _)); exact BK223.out) hb); have n8_ := k0 (blk_below (g := gb228) (o := .cells #[.int .i64 t224, .slice Ao40 t246.length co40] 29 (0, 0)) (by (with_reducible repeat (first | refine blk_drewN ?_ _ | refine blk_drew ?_ | refine blk_alloc ?_ _)); refine blk_far ?_ NB228_264.out _; (with_reducible repeat (first | refine blk_drewN ?_ _ | refine blk_drew ?_ | refine blk_alloc ?_ _)); refine blk_far ?_ NB228_264.out _; (with_reducible repeat (first | refine blk_drewN ?_ _ | refine blk_drew ?_ | refine blk_alloc ?_ _)); exact BK228.out) hb); have n9_ := k0 (blk_below (g := gb238) (o := .cells #[.int .i64 t233, .slice Ao48 t234.length co48] 29 (0, 0)) (by (with_reducible repeat (first | refine blk_drewN ?_ _ | refine blk_drew ?_ | refine blk_alloc ?_ _)); refine blk_far ?_ NB238_264.out _; (with_reducible repeat (first | refine blk_drewN ?_ _ | refine blk_drew ?_ | refine blk_alloc ?_ _)); refine blk_far ?_ NB238_264.out _; (with_reducible repeat (first | refine blk_drewN ?_ _ | refine blk_drew ?_ | refine blk_alloc ?_ _)); exact BK238.out) hb); have n10_ := k0 (blk_below (g := gb264) (o := .cells #[.int .i64 t259, .slice Ao136 t260.length co136] 29 (0, 0)) (by (with_reducible repeat (first | refine blk_drewN ?_ _ | refine blk_drew ?_ | refine blk_alloc ?_ _)); refine blk_put (cs := #[.int .i64 t259, .slice none 0 0]) ?_ 1 _ rfl; (with_reducible repeat (first | refine blk_drewN ?_ _ | refine blk_drew ?_ | refine blk_alloc ?_ _)); refine blk_put (cs := #[.int .i64 0, .slice none 0 0]) ?_ 0 _ rfl; (with_reducible repeat (first | refine blk_drewN ?_ _ | refine blk_drew ?_ | refine blk_alloc ?_ _)); exact BK264.out) hb); have n11_ := k0 (below_step (kW HB.out) hb); clear HO_224001; clear HO_229001; clear HO_239001; clear HO254; clear HO262; clear BK207; clear BK208; clear BK223; clear BK228; clear BK238; clear BK264; clear HB; have HO_224001 := n0_; have HO_229001 := n1_; have HO_239001 := n2_; have HO254 := n3_; have HO262 := n4_; have BK207 := n5_; have BK208 := n6_; have BK223 := n7_; have BK228 := n8_; have BK238 := n9_; have BK264 := n10_; have HB := n11_; clear n0_ n1_ n2_ n3_ n4_ n5_ n6_ n7_ n8_ n9_ n10_ n11_; (try clear hb); (try clear hb2); (try clear hk); (try clear hi)))
             go_meet
             case rel => exact ⟨_, ((t263 != t222)), (by first | rfl | (simp; done) | (simp [*]; done)), H', ⟨by have := HJ15.out; have := HJ76.out; first | omega | exact Nat.le_refl _⟩, ⟨by (try simp only [hl229001_76]); (with_reducible repeat (first | apply Kd.R_alloc | apply Kd.R_drewN | apply Kd.R_drew)); exact Kd.R_mono HO_224001.out (fun _ hk => ⟨hk.2.2.1, ⟨hk.2.2.2, hk.2.1⟩⟩)⟩, ⟨by (try simp only [hl229001_76]); (with_reducible repeat (first | apply Kd.R_alloc | apply Kd.R_drewN | apply Kd.R_drew)); exact Kd.R_mono HO_229001.out (fun _ hk => ⟨hk.2.2.1, ⟨hk.2.2.2, hk.2.1⟩⟩)⟩, ⟨by (try simp only [hl229001_76]); (with_reducible repeat (first | apply Kd.R_alloc | apply Kd.R_drewN | apply Kd.R_drew)); exact Kd.R_mono HO_239001.out (fun _ hk => ⟨hk.2.2.1, ⟨hk.2.2.2, hk.2.1⟩⟩)⟩, ⟨by (try simp only [hl229001_76]); (with_reducible repeat (first | apply Kd.R_alloc | apply Kd.R_drewN | apply Kd.R_drew)); exact Kd.R_mono HO262.out (fun _ hk => ⟨hk.2.1, ⟨hk.2.2.1, hk.2.2.2⟩⟩)⟩, ⟨by (try simp only [hl229001_76]); (with_reducible repeat (first | refine blk_drewN ?_ _ | refine blk_drew ?_ | refine blk_alloc ?_ _)); exact BK207.out⟩, ⟨by (try simp only [hl229001_76]); (with_reducible repeat (first | refine blk_drewN ?_ _ | refine blk_drew ?_ | refine blk_alloc ?_ _)); exact BK208.out⟩, ⟨by (try simp only [hl229001_76]); (with_reducible repeat (first | refine blk_drewN ?_ _ | refine blk_drew ?_ | refine blk_alloc ?_ _)); exact BK223.out⟩, ⟨by (try simp only [hl229001_76]); (with_reducible repeat (first | refine blk_drewN ?_ _ | refine blk_drew ?_ | refine blk_alloc ?_ _)); exact BK228.out⟩, ⟨by (try simp only [hl229001_76]); (with_reducible repeat (first | refine blk_drewN ?_ _ | refine blk_drew ?_ | refine blk_alloc ?_ _)); exact BK238.out⟩, ⟨by (try simp only [hl229001_76]); (with_reducible repeat (first | refine blk_drewN ?_ _ | refine blk_drew ?_ | refine blk_alloc ?_ _)); exact BK264.out⟩, ⟨by repeat (first | (with_reducible first | exact HB.out | apply below_alloc | apply pw_below_drewN | apply below_drew1 | refine below_set ?_ GE207.out | refine below_set ?_ GE208.out | refine below_set ?_ GE223.out | refine below_set ?_ GE228.out | refine below_set ?_ GE238.out | refine below_set ?_ GE264.out) | exact HB.out)⟩⟩
            ·replace c139 := Bool.eq_false_iff.mpr c139
             subst c139
             have H1 : (laws_FnExactOutPut.j2 kj76 t248 true t233 t249) = some r := by rw [if_neg (show ¬ (false = true) by decide)] at H; exact H
             clear H
             have H := H1
             clear H1
             have H' := Aside0.mk H
             clear H
             have hnb152 := NB264_207.out
             have hnc152 := NB207_264.out
             have hnb153 := NB264_208.out
             have hnc153 := NB208_264.out
             have hnb154 := NB264_223.out
             have hnc154 := NB223_264.out
             have hnb155 := NB264_228.out
             have hnc155 := NB228_264.out
             have hnb156 := NB264_238.out
             have hnc156 := NB238_264.out
             have hcz157_0 : w134.cell? ⟨gb264, 0, none⟩ = some (.int .i64 0) := (blk_cell BK264.out 0).trans rfl
             have hcz157_1 : w134.cell? ⟨gb264, 1, none⟩ = some (.slice none 0 0) := (blk_cell BK264.out 1).trans rfl
             have hfz157_0 := blk_frozen BK264.out 0
             have hfz157_1 := blk_frozen BK264.out 1
             have hnb158 := NB223_207.out
             have hnc158 := NB207_223.out
             have hnb159 := NB223_208.out
             have hnc159 := NB208_223.out
             have hnb160 := NB223_228.out
             have hnc160 := NB228_223.out
             have hnb161 := NB223_238.out
             have hnc161 := NB238_223.out
             have hcz162_0 : w134.cell? ⟨gb223, 0, none⟩ = some (.int .i64 t218) := (blk_cell BK223.out 0).trans rfl
             have hcz162_1 : w134.cell? ⟨gb223, 1, none⟩ = some (.slice Ao30 t219.length co30) := (blk_cell BK223.out 1).trans rfl
             have hfz162_0 := blk_frozen BK223.out 0
             have hfz162_1 := blk_frozen BK223.out 1
             go_wp2_with (first | ((with_reducible refine gate_callee (f := 16) rfl ?_); refine goesL_ (some 89) rfl rfl Try.func16 (by kernel_rfl) rfl #[.agg #[.int .i64 t259, .slice Ao136 t260.length co136], .agg #[.int .i64 t218, .slice Ao30 t219.length co30]] rfl (by (try simp only [List.map_toArray, List.map_cons, List.map_nil]); first | done | rfl | (simp only [List.length_drop, List.length_take]; rfl)) ?_; (with_reducible refine (laws_eqOut.calls kj76 t259 _ _ t260 t218 _ _ t219 false _ ?side1 ?side2 ?side3 ?side4 A138.out).mono ?_); (case side1 => refine (Kd.R_reads' (e := 35) (base := w.heap.size) (ok := fun k_ => (some k_ ≠ (v253 : Value).ownBlock ∧ (some k_ ≠ (.slice Ao30 t219.length co30 : Value).ownBlock ∧ (some k_ ≠ (.slice Ao40 t246.length co40 : Value).ownBlock ∧ some k_ ≠ (.slice Ao48 t234.length co48 : Value).ownBlock)))) (n := t260.length) (c := co136) ?_).2.2; exact (by (with_reducible repeat (first | apply Kd.R_alloc | apply Kd.R_drewN | apply Kd.R_drew)); exact (Kd.R_mono (Kd.R_far (p := ⟨gb264, 1, none⟩) (Kd.R_far (p := ⟨gb264, 0, none⟩) (Kd.R_types HO262.out BK264.out (by decide)) (fun _ hk => hk.2) (.int .i64 t259)) (fun _ hk => hk.2) (.slice Ao136 t260.length co136)) (fun _ h_ => h_.1)))); (case side2 => exact (Kd.R_reads' HO262.out).2.1); (case side3 => refine (Kd.R_reads' (e := 35) (base := w.heap.size) (ok := fun k_ => (some k_ ≠ (v253 : Value).ownBlock ∧ (some k_ ≠ (.slice Ao136 t260.length co136 : Value).ownBlock ∧ (some k_ ≠ (.slice Ao40 t246.length co40 : Value).ownBlock ∧ some k_ ≠ (.slice Ao48 t234.length co48 : Value).ownBlock)))) (n := t219.length) (c := co30) ?_).2.2; exact (by (with_reducible repeat (first | apply Kd.R_alloc | apply Kd.R_drewN | apply Kd.R_drew)); exact (Kd.R_mono (Kd.R_far (p := ⟨gb264, 1, none⟩) (Kd.R_far (p := ⟨gb264, 0, none⟩) (Kd.R_types HO_224001.out BK264.out (by decide)) (fun _ hk => hk.2) (.int .i64 t259)) (fun _ hk => hk.2) (.slice Ao136 t260.length co136)) (fun _ h_ => h_.1)))); (case side4 => exact (Kd.R_reads' HO_224001.out).2.1); rintro e w163 ⟨rfl, hb⟩; refine ⟨_, rfl, ?_⟩; have n0_ := k0 (Kd.R_below (by (with_reducible repeat (first | apply Kd.R_alloc | apply Kd.R_drewN | apply Kd.R_drew)); exact (Kd.R_mono (Kd.R_far (p := ⟨gb264, 1, none⟩) (Kd.R_far (p := ⟨gb264, 0, none⟩) (Kd.R_types HO_224001.out BK264.out (by decide)) (fun _ hk => hk.2) (.int .i64 t259)) (fun _ hk => hk.2) (.slice Ao136 t260.length co136)) (fun _ h_ => h_.1))) hb); have n1_ := k0 (Kd.R_below (by (with_reducible repeat (first | apply Kd.R_alloc | apply Kd.R_drewN | apply Kd.R_drew)); exact (Kd.R_mono (Kd.R_far (p := ⟨gb264, 1, none⟩) (Kd.R_far (p := ⟨gb264, 0, none⟩) (Kd.R_types HO_229001.out BK264.out (by decide)) (fun _ hk => hk.2) (.int .i64 t259)) (fun _ hk => hk.2) (.slice Ao136 t260.length co136)) (fun _ h_ => h_.1))) hb); have n2_ := k0 (Kd.R_below (by (with_reducible repeat (first | apply Kd.R_alloc | apply Kd.R_drewN | apply Kd.R_drew)); exact (Kd.R_mono (Kd.R_far (p := ⟨gb264, 1, none⟩) (Kd.R_far (p := ⟨gb264, 0, none⟩) (Kd.R_types HO_239001.out BK264.out (by decide)) (fun _ hk => hk.2) (.int .i64 t259)) (fun _ hk => hk.2) (.slice Ao136 t260.length co136)) (fun _ h_ => h_.1))) hb); have n3_ := k0 (Kd.R_below (by (with_reducible repeat (first | apply Kd.R_alloc | apply Kd.R_drewN | apply Kd.R_drew)); exact (Kd.R_mono (Kd.R_far (p := ⟨gb264, 1, none⟩) (Kd.R_far (p := ⟨gb264, 0, none⟩) (Kd.R_types HO254.out BK264.out (by decide)) (fun _ hk => hk.2) (.int .i64 t259)) (fun _ hk => hk.2) (.slice Ao136 t260.length co136)) (fun _ h_ => h_.1))) hb); have n4_ := k0 (Kd.R_below (by (with_reducible repeat (first | apply Kd.R_alloc | apply Kd.R_drewN | apply Kd.R_drew)); exact (Kd.R_mono (Kd.R_far (p := ⟨gb264, 1, none⟩) (Kd.R_far (p := ⟨gb264, 0, none⟩) (Kd.R_types HO262.out BK264.out (by decide)) (fun _ hk => hk.2) (.int .i64 t259)) (fun _ hk => hk.2) (.slice Ao136 t260.length co136)) (fun _ h_ => h_.1))) hb); have n5_ := k0 (blk_below (g := gb207) (o := .cells #[.int .i64 a0_0, .slice A0_1 l0_1.length c0_1] 24 (0, 0)) (by (with_reducible repeat (first | refine blk_drewN ?_ _ | refine blk_drew ?_ | refine blk_alloc ?_ _)); refine blk_far ?_ NB207_264.out _; (with_reducible repeat (first | refine blk_drewN ?_ _ | refine blk_drew ?_ | refine blk_alloc ?_ _)); refine blk_far ?_ NB207_264.out _; (with_reducible repeat (first | refine blk_drewN ?_ _ | refine blk_drew ?_ | refine blk_alloc ?_ _)); exact BK207.out) hb); have n6_ := k0 (blk_below (g := gb208) (o := .cells #[.int .i64 a1_0, .int .i64 a1_1, .int .i64 a1_2, .int .i64 a1_3] 40 (0, 0)) (by (with_reducible repeat (first | refine blk_drewN ?_ _ | refine blk_drew ?_ | refine blk_alloc ?_ _)); refine blk_far ?_ NB208_264.out _; (with_reducible repeat (first | refine blk_drewN ?_ _ | refine blk_drew ?_ | refine blk_alloc ?_ _)); refine blk_far ?_ NB208_264.out _; (with_reducible repeat (first | refine blk_drewN ?_ _ | refine blk_drew ?_ | refine blk_alloc ?_ _)); exact BK208.out) hb); have n7_ := k0 (blk_below (g := gb223) (o := .cells #[.int .i64 t218, .slice Ao30 t219.length co30] 29 (0, 0)) (by (with_reducible repeat (first | refine blk_drewN ?_ _ | refine blk_drew ?_ | refine blk_alloc ?_ _)); refine blk_far ?_ NB223_264.out _; (with_reducible repeat (first | refine blk_drewN ?_ _ | refine blk_drew ?_ | refine blk_alloc ?_ _)); refine blk_far ?_ NB223_264.out _; (with_reducible repeat (first | refine blk_drewN ?_ _ | refine blk_drew ?_ | refine blk_alloc ?_ _)); exact BK223.out) hb); have n8_ := k0 (blk_below (g := gb228) (o := .cells #[.int .i64 t224, .slice Ao40 t246.length co40] 29 (0, 0)) (by (with_reducible repeat (first | refine blk_drewN ?_ _ | refine blk_drew ?_ | refine blk_alloc ?_ _)); refine blk_far ?_ NB228_264.out _; (with_reducible repeat (first | refine blk_drewN ?_ _ | refine blk_drew ?_ | refine blk_alloc ?_ _)); refine blk_far ?_ NB228_264.out _; (with_reducible repeat (first | refine blk_drewN ?_ _ | refine blk_drew ?_ | refine blk_alloc ?_ _)); exact BK228.out) hb); have n9_ := k0 (blk_below (g := gb238) (o := .cells #[.int .i64 t233, .slice Ao48 t234.length co48] 29 (0, 0)) (by (with_reducible repeat (first | refine blk_drewN ?_ _ | refine blk_drew ?_ | refine blk_alloc ?_ _)); refine blk_far ?_ NB238_264.out _; (with_reducible repeat (first | refine blk_drewN ?_ _ | refine blk_drew ?_ | refine blk_alloc ?_ _)); refine blk_far ?_ NB238_264.out _; (with_reducible repeat (first | refine blk_drewN ?_ _ | refine blk_drew ?_ | refine blk_alloc ?_ _)); exact BK238.out) hb); have n10_ := k0 (blk_below (g := gb264) (o := .cells #[.int .i64 t259, .slice Ao136 t260.length co136] 29 (0, 0)) (by (with_reducible repeat (first | refine blk_drewN ?_ _ | refine blk_drew ?_ | refine blk_alloc ?_ _)); refine blk_put (cs := #[.int .i64 t259, .slice none 0 0]) ?_ 1 _ rfl; (with_reducible repeat (first | refine blk_drewN ?_ _ | refine blk_drew ?_ | refine blk_alloc ?_ _)); refine blk_put (cs := #[.int .i64 0, .slice none 0 0]) ?_ 0 _ rfl; (with_reducible repeat (first | refine blk_drewN ?_ _ | refine blk_drew ?_ | refine blk_alloc ?_ _)); exact BK264.out) hb); have n11_ := k0 (below_step (kW HB.out) hb); clear HO_224001; clear HO_229001; clear HO_239001; clear HO254; clear HO262; clear BK207; clear BK208; clear BK223; clear BK228; clear BK238; clear BK264; clear HB; have HO_224001 := n0_; have HO_229001 := n1_; have HO_239001 := n2_; have HO254 := n3_; have HO262 := n4_; have BK207 := n5_; have BK208 := n6_; have BK223 := n7_; have BK228 := n8_; have BK238 := n9_; have BK264 := n10_; have HB := n11_; clear n0_ n1_ n2_ n3_ n4_ n5_ n6_ n7_ n8_ n9_ n10_ n11_; (try clear hb); (try clear hb2); (try clear hk); (try clear hi)))
             go_meet
             case rel => exact ⟨_, (true), (by first | rfl | (simp; done) | (simp [*]; done)), H', ⟨by have := HJ15.out; have := HJ76.out; first | omega | exact Nat.le_refl _⟩, ⟨by (try simp only [hl229001_76]); (with_reducible repeat (first | apply Kd.R_alloc | apply Kd.R_drewN | apply Kd.R_drew)); exact Kd.R_mono HO_224001.out (fun _ hk => ⟨hk.2.2.1, ⟨hk.2.2.2, hk.2.1⟩⟩)⟩, ⟨by (try simp only [hl229001_76]); (with_reducible repeat (first | apply Kd.R_alloc | apply Kd.R_drewN | apply Kd.R_drew)); exact Kd.R_mono HO_229001.out (fun _ hk => ⟨hk.2.2.1, ⟨hk.2.2.2, hk.2.1⟩⟩)⟩, ⟨by (try simp only [hl229001_76]); (with_reducible repeat (first | apply Kd.R_alloc | apply Kd.R_drewN | apply Kd.R_drew)); exact Kd.R_mono HO_239001.out (fun _ hk => ⟨hk.2.2.1, ⟨hk.2.2.2, hk.2.1⟩⟩)⟩, ⟨by (try simp only [hl229001_76]); (with_reducible repeat (first | apply Kd.R_alloc | apply Kd.R_drewN | apply Kd.R_drew)); exact Kd.R_mono HO262.out (fun _ hk => ⟨hk.2.1, ⟨hk.2.2.1, hk.2.2.2⟩⟩)⟩, ⟨by (try simp only [hl229001_76]); (with_reducible repeat (first | refine blk_drewN ?_ _ | refine blk_drew ?_ | refine blk_alloc ?_ _)); exact BK207.out⟩, ⟨by (try simp only [hl229001_76]); (with_reducible repeat (first | refine blk_drewN ?_ _ | refine blk_drew ?_ | refine blk_alloc ?_ _)); exact BK208.out⟩, ⟨by (try simp only [hl229001_76]); (with_reducible repeat (first | refine blk_drewN ?_ _ | refine blk_drew ?_ | refine blk_alloc ?_ _)); exact BK223.out⟩, ⟨by (try simp only [hl229001_76]); (with_reducible repeat (first | refine blk_drewN ?_ _ | refine blk_drew ?_ | refine blk_alloc ?_ _)); exact BK228.out⟩, ⟨by (try simp only [hl229001_76]); (with_reducible repeat (first | refine blk_drewN ?_ _ | refine blk_drew ?_ | refine blk_alloc ?_ _)); exact BK238.out⟩, ⟨by (try simp only [hl229001_76]); (with_reducible repeat (first | refine blk_drewN ?_ _ | refine blk_drew ?_ | refine blk_alloc ?_ _)); exact BK264.out⟩, ⟨by repeat (first | (with_reducible first | exact HB.out | apply below_alloc | apply pw_below_drewN | apply below_drew1 | refine below_set ?_ GE207.out | refine below_set ?_ GE208.out | refine below_set ?_ GE223.out | refine below_set ?_ GE228.out | refine below_set ?_ GE238.out | refine below_set ?_ GE264.out) | exact HB.out)⟩⟩
           case rest =>
            clear HC119
            try clear c1
            try clear c2
            try clear p2
            try clear c13
            try clear c14
            try clear c15
            try clear c16
            try clear c23
            try clear c24
            try clear c139
            try clear c140
            try clear c141
            try clear c142
            try clear c143
            try clear c144
            try clear c146
            try clear c147
            try clear c148
            try clear c149
            try clear c152
            try clear c153
            try clear c154
            try clear c155
            try clear c156
            try clear c158
            try clear c159
            try clear c160
            try clear c161
            try clear hcz145_0
            try clear hcz145_1
            try clear hcz150_0
            try clear hcz150_1
            try clear hcz157_0
            try clear hcz157_1
            try clear hcz162_0
            try clear hcz162_1
            try clear hfz145_0
            try clear hfz145_1
            try clear hfz150_0
            try clear hfz150_1
            try clear hfz157_0
            try clear hfz157_1
            try clear hfz162_0
            try clear hfz162_1
            obtain ⟨kq, x95_118, rfl, HA, HJ118, HO_224001, HO_229001, HO_239001, HO_265001, BK207, BK208, BK223, BK228, BK238, BK264, HB⟩ := hcut
            have hl239001_118 := (Kd.R_reads' HO_239001.out).1
            rw [hl239001_118] at HO_239001
            (try simp only [hl239001_118])
            (try simp only [hl239001_118] at BK207)
            (try simp only [hl239001_118] at BK208)
            (try simp only [hl239001_118] at BK223)
            (try simp only [hl239001_118] at BK228)
            (try simp only [hl239001_118] at BK238)
            (try simp only [hl239001_118] at BK264)
            (try simp only [hl239001_118] at HO_224001)
            (try simp only [hl239001_118] at HO_229001)
            (try simp only [hl239001_118] at HO_265001)
            cases kq with
            | zero => exact absurd HA.out (by simp [laws_FnExactOutPut.j2])
            | succ kj118 =>
             have H := HA.out
             clear HA
             simp only [laws_FnExactOutPut.j2] at H
             by_cases c164 : x95_118 = true
             ·subst c164
              have H1 : (some false) = some r := by rw [if_pos rfl] at H; exact H
              clear H
              have H := H1
              clear H1
              exact absurd ((Option.some.inj H).trans HR.out) (by decide)
             ·replace c164 := Bool.eq_false_iff.mpr c164
              subst c164
              have H1 : ((laws_heldOut.f kj118 t233 t249 1).bind fun t266 => (if t266 < 0 then (some false) else (if t266 = t248 then (some true) else (some false)))) = some r := by rw [if_neg (show ¬ (false = true) by decide)] at H; exact H
              clear H
              have H := H1
              clear H1
              replace H := Option.bind_eq_some_iff.mp H
              obtain ⟨t266, A1650, H⟩ := H
              replace H : (if t266 < 0 then (some false) else (if t266 = t248 then (some true) else (some false))) = some r := H
              have A165 := Aside0.mk A1650
              clear A1650
              by_cases c166 : t266 < 0
              ·rw [if_pos c166] at H
               have c166b0 : decide (t266 < 0) = true := decide_eq_true c166
               clear c166
               exact absurd ((Option.some.inj H).trans HR.out) (by decide)
              ·rw [if_neg c166] at H
               have c166b0 : decide (t266 < 0) = false := decide_eq_false c166
               clear c166
               by_cases c167 : t266 = t248
               ·rw [if_pos c167] at H
                have c167b0 : (t266 == t248) = true := beq_iff_eq.mpr c167
                have c167b1 : (t266 != t248) = false := bne_eq_false_iff_eq.mpr c167
                clear c167
                obtain rfl := Option.some.inj H
                have hnb168 := NB238_207.out
                have hnc168 := NB207_238.out
                have hnb169 := NB238_208.out
                have hnc169 := NB208_238.out
                have hnb170 := NB238_223.out
                have hnc170 := NB223_238.out
                have hnb171 := NB238_228.out
                have hnc171 := NB228_238.out
                have hnb172 := NB238_264.out
                have hnc172 := NB264_238.out
                have hcz173_0 : wc.cell? ⟨gb238, 0, none⟩ = some (.int .i64 t233) := (blk_cell BK238.out 0).trans rfl
                have hcz173_1 : wc.cell? ⟨gb238, 1, none⟩ = some (.slice Ao48 t249.length co48) := (blk_cell BK238.out 1).trans rfl
                have hfz173_0 := blk_frozen BK238.out 0
                have hfz173_1 := blk_frozen BK238.out 1
                go_wp2_with (first | ((with_reducible refine gate_callee (f := 26) rfl ?_); refine goesL_ (some 98) rfl rfl Try.func26 (by kernel_rfl) rfl #[.agg #[.int .i64 t233, .slice Ao48 t249.length co48], .int .i64 1] rfl (by (try simp only [List.map_toArray, List.map_cons, List.map_nil]); first | done | rfl | (simp only [List.length_drop, List.length_take]; rfl)) ?_; (with_reducible refine (laws_heldOut.calls kj118 t233 _ _ t249 1 t266 _ ?side1 ?side2 A165.out).mono ?_); (case side1 => repeat (first | exact (Kd.R_reads' HO_239001.out).2.2 | (with_reducible refine Kd.C_alloc ?_ _) | (with_reducible refine Kd.C_drewN ?_ _) | (with_reducible refine Kd.C_drew ?_))); (case side2 => exact (Kd.R_reads' HO_239001.out).2.1); rintro e w174 ⟨rfl, hb⟩; refine ⟨_, rfl, ?_⟩; have n0_ := k0 (Kd.R_below (kR HO_224001.out) hb); have n1_ := k0 (Kd.R_below (kR HO_229001.out) hb); have n2_ := k0 (Kd.R_below (kR HO_239001.out) hb); have n3_ := k0 (Kd.R_below (kR HO_265001.out) hb); have n4_ := k0 (kb BK207.out hb); have n5_ := k0 (kb BK208.out hb); have n6_ := k0 (kb BK223.out hb); have n7_ := k0 (kb BK228.out hb); have n8_ := k0 (kb BK238.out hb); have n9_ := k0 (kb BK264.out hb); have n10_ := k0 (below_step (kW HB.out) hb); clear HO_224001; clear HO_229001; clear HO_239001; clear HO_265001; clear BK207; clear BK208; clear BK223; clear BK228; clear BK238; clear BK264; clear HB; have HO_224001 := n0_; have HO_229001 := n1_; have HO_239001 := n2_; have HO_265001 := n3_; have BK207 := n4_; have BK208 := n5_; have BK223 := n6_; have BK228 := n7_; have BK238 := n8_; have BK264 := n9_; have HB := n10_; clear n0_ n1_ n2_ n3_ n4_ n5_ n6_ n7_ n8_ n9_ n10_; (try clear hb); (try clear hb2); (try clear hk); (try clear hi)))
                go_ret
                exact ⟨by first | rfl | (simp [errW_none, errW_some] <;> rfl) | (simp [*, errW_none, errW_some] <;> rfl), by repeat (first | (with_reducible first | exact HB.out | apply below_alloc | apply pw_below_drewN | apply below_drew1 | refine below_set ?_ GE207.out | refine below_set ?_ GE208.out | refine below_set ?_ GE223.out | refine below_set ?_ GE228.out | refine below_set ?_ GE238.out | refine below_set ?_ GE264.out) | exact HB.out)⟩
               ·rw [if_neg c167] at H
                have c167b0 : (t266 == t248) = false := beq_eq_false_iff_ne.mpr c167
                have c167b1 : (t266 != t248) = true := bne_iff_ne.mpr c167
                exact absurd ((Option.some.inj H).trans HR.out) (by decide)
          ·rw [if_neg c115] at H
           have c115b0 : (t250 == t248) = false := beq_eq_false_iff_ne.mpr c115
           have c115b1 : (t250 != t248) = true := bne_iff_ne.mpr c115
           exact absurd ((Option.some.inj H).trans HR.out) (by decide)
     ·replace c75 := Bool.eq_false_iff.mpr c75
      subst c75
      have H1 : (some false) = some r := by rw [if_neg (show ¬ (false = true) by decide)] at H; exact H
      clear H
      have H := H1
      clear H1
      exact absurd ((Option.some.inj H).trans HR.out) (by decide)

end Go.Proofs.Ytfkoipmoikhehaa.PFnExactOutPut
