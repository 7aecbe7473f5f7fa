import Derived.Test.YtcnanifokpcjaaaPFnRightsx0
import Derived.Test.YtcnanifokpcjaaaPFnRightsx2
import Derived.Test.YtcnanifokpcjaaaPFnRightsx3
import Derived.Test.YtcnanifokpcjaaaPFnRightsx4
import Derived.Test.YtcnanifokpcjaaaPFnRightsx5
import Derived.Test.YtcnanifokpcjaaaPFnRightsx12
namespace Go.Proofs.Ytcnanifokpcjaaa.PFnRights
open Go.RowKit Go.Proofs.YtcnanifokpcjaaaW.PrintWords Go.Proofs.YtcnanifokpcjaaaW.PrintLast Go.Proofs.YtcnanifokpcjaaaW.PrintMore
attribute [local go_sem] max2_int min2_int max_two min_two max_three min_three max_four min_four   -- for this text's walks alone
set_option linter.unusedVariables false
set_option linter.unusedSimpArgs false

/-! ### laws_FnRights: function 11 -/
def laws_FnRights.j0 : Nat → Int → Int → Int → Int → Bool → Bool → List (List Int) → List Int → List (List Int) → List Int → List (List Int) → List Int → Option (Bool)
 | 0, _, _, _, _, _, _, _, _, _, _, _, _ => none
 | k + 1, x5, x6, x7, x8, x10, x101, x384000, x384001, x395000, x395001, x403000, x403001 => if x101 = true then (some false) else (if x10 = true then ((impl_HasOf.f k x395000 x395001 x5).bind fun t415 => (if t415 = (wrap64 (x8 - x7)) then ((impl_HasOf.f k x395000 x395001 x6).bind fun t416 => ((impl_HasOf.f k x384000 x384001 x6).bind fun t417 => (if t416 = (wrap64 (t417 + x7)) then ((impl_AllOf.f k x395000 x395001).bind fun t418 => ((impl_AllOf.f k x384000 x384001).bind fun t419 => (if t418 = t419 then ((impl_AllOf.f k x403000 x403001).bind fun t420 => ((impl_AllOf.f k x384000 x384001).bind fun t421 => (if t420 = (wrap64 (t421 - x7)) then ((impl_Later.f k x384000 x384001 x395000 x395001).bind fun t422 => (if t422 = true then ((impl_Later.f k x384000 x384001 x403000 x403001).bind fun t423 => (some t423)) else (some false))) else (some false)))) else (some false)))) else (some false)))) else (some false))) else (some true))
def laws_FnRights.f (k : Nat) (l0 : List Int) : Option (Bool) := if (l0.length : Int) > 1048576 then (some true) else ((spec_MakeNum.f k l0 2).bind fun t376 => ((spec_MakeRights.f k l0 (wrap64 (2 + t376)) 1).bind fun bt377 => ((spec_MakeNum.f k l0 (wrap64 (2 + t376))).bind fun t384 => (if (wrap64 (2 + t376)) = 0 then (none) else ((spec_MakeNum.f k l0 30).bind fun t385 => ((impl_HasOf.f k bt377.1 bt377.2 t384).bind fun t386 => ((impl_Hand.f k bt377.1 bt377.2 t384 (Int.tmod (wrap64 (t384 + 1)) (wrap64 (2 + t376))) (wrap64 (1 + t385))).bind fun bt387 => ((impl_Spend.f k bt377.1 bt377.2 t384 (wrap64 (1 + t385))).bind fun bt395 => ((impl_Mint.f k bt377.1 bt377.2 t384 (wrap64 (1 + t385))).bind fun bt403 => ((impl_RightsOk.f k bt377.1 bt377.2).bind fun t411 => (if t411 = true then (if t386 < 0 then (laws_FnRights.j0 k t384 (Int.tmod (wrap64 (t384 + 1)) (wrap64 (2 + t376))) (wrap64 (1 + t385)) t386 bt387.2.2 true bt377.1 bt377.2 bt387.1 bt387.2.1 bt395.1 bt395.2.1) else (if (bt387.2.2 != (decide (t386 ≥ (wrap64 (1 + t385))))) = true then (laws_FnRights.j0 k t384 (Int.tmod (wrap64 (t384 + 1)) (wrap64 (2 + t376))) (wrap64 (1 + t385)) t386 bt387.2.2 true bt377.1 bt377.2 bt387.1 bt387.2.1 bt395.1 bt395.2.1) else (if (bt395.2.2 != (decide (t386 ≥ (wrap64 (1 + t385))))) = true then (laws_FnRights.j0 k t384 (Int.tmod (wrap64 (t384 + 1)) (wrap64 (2 + t376))) (wrap64 (1 + t385)) t386 bt387.2.2 true bt377.1 bt377.2 bt387.1 bt387.2.1 bt395.1 bt395.2.1) else (if bt403.2.2 = true then ((impl_AllOf.f k bt403.1 bt403.2.1).bind fun t412 => ((impl_AllOf.f k bt377.1 bt377.2).bind fun t413 => (if t412 = (wrap64 (t413 + (wrap64 (1 + t385)))) then ((impl_HasOf.f k bt403.1 bt403.2.1 t384).bind fun t414 => (laws_FnRights.j0 k t384 (Int.tmod (wrap64 (t384 + 1)) (wrap64 (2 + t376))) (wrap64 (1 + t385)) t386 bt387.2.2 (t414 != (wrap64 (t386 + (wrap64 (1 + t385))))) bt377.1 bt377.2 bt387.1 bt387.2.1 bt395.1 bt395.2.1)) else (laws_FnRights.j0 k t384 (Int.tmod (wrap64 (t384 + 1)) (wrap64 (2 + t376))) (wrap64 (1 + t385)) t386 bt387.2.2 true bt377.1 bt377.2 bt387.1 bt387.2.1 bt395.1 bt395.2.1)))) else (laws_FnRights.j0 k t384 (Int.tmod (wrap64 (t384 + 1)) (wrap64 (2 + t376))) (wrap64 (1 + t385)) t386 bt387.2.2 true bt377.1 bt377.2 bt387.1 bt387.2.1 bt395.1 bt395.2.1))))) else (laws_FnRights.j0 k t384 (Int.tmod (wrap64 (t384 + 1)) (wrap64 (2 + t376))) (wrap64 (1 + t385)) t386 bt387.2.2 true bt377.1 bt377.2 bt387.1 bt387.2.1 bt395.1 bt395.2.1))))))))))))
theorem laws_FnRights.mono_l : ∀ k, (∀ y0 y1 y2 y3 y4 y5 y6 y7 y8 y9 y10 y11, LeO (laws_FnRights.j0 k y0 y1 y2 y3 y4 y5 y6 y7 y8 y9 y10 y11) (laws_FnRights.j0 (k + 1) y0 y1 y2 y3 y4 y5 y6 y7 y8 y9 y10 y11))
 | 0 => fun _ _ _ _ _ _ _ _ _ _ _ _ r h => by simp [laws_FnRights.j0] at h
 | k + 1 => by
  have ih0 := laws_FnRights.mono_l k
  ·intro y0 y1 y2 y3 y4 y5 y6 y7 y8 y9 y10 y11
   unfold laws_FnRights.j0
   repeat' first
   | (with_reducible exact ih0 _ _ _ _ _ _ _ _ _ _ _ _)
   | (with_reducible exact impl_AllOf.mono _ _ _)
   | (with_reducible exact impl_Hand.mono _ _ _ _ _ _)
   | (with_reducible exact impl_HasOf.mono _ _ _ _)
   | (with_reducible exact impl_Later.mono _ _ _ _ _)
   | (with_reducible exact impl_Mint.mono _ _ _ _ _)
   | (with_reducible exact impl_RightsOk.mono _ _ _)
   | (with_reducible exact impl_Spend.mono _ _ _ _ _)
   | (with_reducible exact spec_MakeNum.mono _ _ _)
   | (with_reducible exact spec_MakeRights.mono _ _ _ _)
   | (with_reducible exact LeO.refl _)
   | (with_reducible exact LeO.none _)
   | (with_reducible refine LeO.ite ?_ ?_)
   | (with_reducible refine LeO.bind ?_ (fun _ => ?_))
   | exact ih0 _ _ _ _ _ _ _ _ _ _ _ _
   | exact impl_AllOf.mono _ _ _
   | exact impl_Hand.mono _ _ _ _ _ _
   | exact impl_HasOf.mono _ _ _ _
   | exact impl_Later.mono _ _ _ _ _
   | exact impl_Mint.mono _ _ _ _ _
   | exact impl_RightsOk.mono _ _ _
   | exact impl_Spend.mono _ _ _ _ _
   | exact spec_MakeNum.mono _ _ _
   | exact spec_MakeRights.mono _ _ _ _
   | exact LeO.none _
   | refine LeO.ite ?_ ?_
   | refine LeO.bind ?_ (fun _ => ?_)
theorem laws_FnRights.mono : ∀ a0 k, LeO (laws_FnRights.f k a0) (laws_FnRights.f (k + 1) a0) := by
 intro a0 k
 have ih0 := laws_FnRights.mono_l k
 unfold laws_FnRights.f
 repeat' first
   | (with_reducible exact ih0 _ _ _ _ _ _ _ _ _ _ _ _)
   | (with_reducible exact impl_AllOf.mono _ _ _)
   | (with_reducible exact impl_Hand.mono _ _ _ _ _ _)
   | (with_reducible exact impl_HasOf.mono _ _ _ _)
   | (with_reducible exact impl_Later.mono _ _ _ _ _)
   | (with_reducible exact impl_Mint.mono _ _ _ _ _)
   | (with_reducible exact impl_RightsOk.mono _ _ _)
   | (with_reducible exact impl_Spend.mono _ _ _ _ _)
   | (with_reducible exact spec_MakeNum.mono _ _ _)
   | (with_reducible exact spec_MakeRights.mono _ _ _ _)
   | (with_reducible exact LeO.refl _)
   | (with_reducible exact LeO.none _)
   | (with_reducible refine LeO.ite ?_ ?_)
   | (with_reducible refine LeO.bind ?_ (fun _ => ?_))
   | exact ih0 _ _ _ _ _ _ _ _ _ _ _ _
   | exact impl_AllOf.mono _ _ _
   | exact impl_Hand.mono _ _ _ _ _ _
   | exact impl_HasOf.mono _ _ _ _
   | exact impl_Later.mono _ _ _ _ _
   | exact impl_Mint.mono _ _ _ _ _
   | exact impl_RightsOk.mono _ _ _
   | exact impl_Spend.mono _ _ _ _ _
   | exact spec_MakeNum.mono _ _ _
   | exact spec_MakeRights.mono _ _ _ _
   | exact LeO.none _
   | refine LeO.ite ?_ ?_
   | refine LeO.bind ?_ (fun _ => ?_)
def laws_FnRights.T12 : Bool × List (List Nat × List Nat) := (true, [([], []), ([0], [0]), ([1], [1]), ([2, 1], [2]), ([3], [3]), ([4, 3], [3, 4]), ([3, 5], [3, 5]), ([6, 3], [6]), ([7], [7]), ([7], [7]), ([7], [7]), ([9, 10, 7], [7, 9, 10]), ([8, 11, 7], [7, 8, 11]), ([7, 12], [7, 12]), ([13, 7], [13]), ([14], [14]), ([14], [14]), ([14], [14]), ([16, 17, 14], [14, 16, 17]), ([15, 18, 14], [14, 15, 18]), ([14, 19], [14, 19]), ([20, 14], [20]), ([21], [21]), ([22, 21], [21, 22]), ([21, 23], [21, 23]), ([24, 21], [24]), ([25], [25]), ([26, 25, 25], [25, 26]), ([25], [25]), ([28, 27, 25], [25, 28]), ([25], [25]), ([29, 30, 25], [25, 29, 30]), ([27, 31, 25], [25, 27, 31]), ([25, 32], [25, 32]), ([33, 29], [33]), ([34], [34]), ([34], [34]), ([35, 36, 34, 34], [34, 35, 36]), ([34], [34]), ([34], [34]), ([38, 39, 34], [34, 38, 39]), ([37, 40, 34], [34, 37, 40]), ([34, 41], [34, 41])])
def laws_FnRights.B12 : List Nat := [0, 1, 3, 7, 15, 31, 63, 127, 255, 255, 255, 1791, 4095, 8191, 16383, 32767, 32767, 32767, 229375, 524287, 1048575, 2097151, 4194303, 8388607, 16777215, 33554431, 67108863, 134217727, 67108863, 536870911, 67108863, 2147483647, 4294967295, 8589934591, 17179869183, 34359738367, 34359738367, 137438953471, 34359738367, 34359738367, 858993459199, 2199023255551, 4398046511103]
theorem laws_FnRights.tab12 : rtab .any (opsOf Try.f11 12) = laws_FnRights.T12 := by kernel_rfl
theorem laws_FnRights.bits12 : waitsOk laws_FnRights.T12.2 laws_FnRights.B12 = true := by kernel_rfl
def laws_FnRights.T16 : Bool × List (List Nat × List Nat) := (true, [([], []), ([], []), ([0, 1], [0, 1]), ([], []), ([], []), ([3, 4], [3, 4]), ([2, 5], [2, 5]), ([6, 2], [6]), ([7], [7]), ([7], [7]), ([8, 9, 7, 7], [7, 8, 9]), ([7], [7]), ([7], [7]), ([11, 12, 10, 7], [7, 11, 12]), ([7], [7]), ([13, 14, 7], [7, 13, 14]), ([10, 15, 7], [7, 10, 15]), ([7, 16], [7, 16]), ([17, 13], [17]), ([18], [18]), ([19, 18, 18], [18, 19]), ([18], [18]), ([21, 20, 18], [18, 21]), ([20, 22, 18], [18, 20, 22]), ([18, 23], [18, 23]), ([24, 22], [24]), ([25], [25]), ([26, 25, 25], [25, 26]), ([25], [25]), ([28, 27, 25], [25, 28]), ([25], [25]), ([29, 30, 25], [25, 29, 30]), ([27, 31, 25], [25, 27, 31]), ([25, 32], [25, 32]), ([33, 29], [33]), ([34], [34]), ([34], [34]), ([35, 36, 34, 34], [34, 35, 36]), ([34, 37], [34, 37]), ([38, 37], [38]), ([39], [39]), ([39], [39]), ([40, 41, 39, 39], [39, 40, 41]), ([39, 42], [39, 42]), ([43, 42, 0, 1, 2, 3, 4, 5, 6, 7, 8, 9, 10, 11, 12, 13, 14, 15, 16, 17, 18, 19, 20, 21, 22, 23, 24, 25, 26, 27, 28, 29, 30, 31, 32, 33, 34, 35, 36, 37, 38, 39, 40, 41, 42, 43], [43])])
def laws_FnRights.B16 : List Nat := [0, 0, 3, 0, 0, 24, 63, 127, 255, 255, 1023, 255, 255, 8191, 255, 32767, 65535, 131071, 262143, 524287, 1048575, 524287, 4194303, 8388607, 16777215, 33554431, 67108863, 134217727, 67108863, 536870911, 67108863, 2147483647, 4294967295, 8589934591, 17179869183, 34359738367, 34359738367, 137438953471, 274877906943, 549755813887, 1099511627775, 1099511627775, 4398046511103, 8796093022207, 17592186044415]
theorem laws_FnRights.tab16 : rtab .any (opsOf Try.f11 16) = laws_FnRights.T16 := by kernel_rfl
theorem laws_FnRights.bits16 : waitsOk laws_FnRights.T16.2 laws_FnRights.B16 = true := by kernel_rfl
set_option maxHeartbeats 8000000 in
set_option maxRecDepth 100000 in
theorem laws_FnRights.calls (k : Nat) (A0 : Option Addr) (c0 : Nat) (l0 : List Int) (r : Bool) (w : World) (hr0 : Kd.C (Kd.int .u8) w A0 l0.length l0) (hc0 : l0.length ≤ c0) (HR : Aside0 (r = true)) (h : laws_FnRights.f k l0 = some r) :
  Calls Try.prog 11 #[.slice A0 l0.length c0] w fun e w' => e = .returned (.bool r) ∧ Below w.heap.size w w' := by
 have hu28 := Try.underlying28
 have HR0 := Aside0.mk hr0
 have HC0 := Aside0.mk hc0
 clear hr0 hc0
 have HB := k0 (Below.refl w.heap.size w)
 have H : (if (l0.length : Int) > 1048576 then (some true) else ((spec_MakeNum.f k l0 2).bind fun t376 => ((spec_MakeRights.f k l0 (wrap64 (2 + t376)) 1).bind fun bt377 => ((spec_MakeNum.f k l0 (wrap64 (2 + t376))).bind fun t384 => (if (wrap64 (2 + t376)) = 0 then (none) else ((spec_MakeNum.f k l0 30).bind fun t385 => ((impl_HasOf.f k bt377.1 bt377.2 t384).bind fun t386 => ((impl_Hand.f k bt377.1 bt377.2 t384 (Int.tmod (wrap64 (t384 + 1)) (wrap64 (2 + t376))) (wrap64 (1 + t385))).bind fun bt387 => ((impl_Spend.f k bt377.1 bt377.2 t384 (wrap64 (1 + t385))).bind fun bt395 => ((impl_Mint.f k bt377.1 bt377.2 t384 (wrap64 (1 + t385))).bind fun bt403 => ((impl_RightsOk.f k bt377.1 bt377.2).bind fun t411 => (if t411 = true then (if t386 < 0 then (laws_FnRights.j0 k t384 (Int.tmod (wrap64 (t384 + 1)) (wrap64 (2 + t376))) (wrap64 (1 + t385)) t386 bt387.2.2 true bt377.1 bt377.2 bt387.1 bt387.2.1 bt395.1 bt395.2.1) else (if (bt387.2.2 != (decide (t386 ≥ (wrap64 (1 + t385))))) = true then (laws_FnRights.j0 k t384 (Int.tmod (wrap64 (t384 + 1)) (wrap64 (2 + t376))) (wrap64 (1 + t385)) t386 bt387.2.2 true bt377.1 bt377.2 bt387.1 bt387.2.1 bt395.1 bt395.2.1) else (if (bt395.2.2 != (decide (t386 ≥ (wrap64 (1 + t385))))) = true then (laws_FnRights.j0 k t384 (Int.tmod (wrap64 (t384 + 1)) (wrap64 (2 + t376))) (wrap64 (1 + t385)) t386 bt387.2.2 true bt377.1 bt377.2 bt387.1 bt387.2.1 bt395.1 bt395.2.1) else (if bt403.2.2 = true then ((impl_AllOf.f k bt403.1 bt403.2.1).bind fun t412 => ((impl_AllOf.f k bt377.1 bt377.2).bind fun t413 => (if t412 = (wrap64 (t413 + (wrap64 (1 + t385)))) then ((impl_HasOf.f k bt403.1 bt403.2.1 t384).bind fun t414 => (laws_FnRights.j0 k t384 (Int.tmod (wrap64 (t384 + 1)) (wrap64 (2 + t376))) (wrap64 (1 + t385)) t386 bt387.2.2 (t414 != (wrap64 (t386 + (wrap64 (1 + t385))))) bt377.1 bt377.2 bt387.1 bt387.2.1 bt395.1 bt395.2.1)) else (laws_FnRights.j0 k t384 (Int.tmod (wrap64 (t384 + 1)) (wrap64 (2 + t376))) (wrap64 (1 + t385)) t386 bt387.2.2 true bt377.1 bt377.2 bt387.1 bt387.2.1 bt395.1 bt395.2.1)))) else (laws_FnRights.j0 k t384 (Int.tmod (wrap64 (t384 + 1)) (wrap64 (2 + t376))) (wrap64 (1 + t385)) t386 bt387.2.2 true bt377.1 bt377.2 bt387.1 bt387.2.1 bt395.1 bt395.2.1))))) else (laws_FnRights.j0 k t384 (Int.tmod (wrap64 (t384 + 1)) (wrap64 (2 + t376))) (wrap64 (1 + t385)) t386 bt387.2.2 true bt377.1 bt377.2 bt387.1 bt387.2.1 bt395.1 bt395.2.1))))))))))))) = some r := h
 clear h
 by_cases c2 : (l0.length : Int) > 1048576
 ·rw [if_pos c2] at H
  have c2b0 : decide (1048576 < (l0.length : Int)) = true := decide_eq_true c2
  have c2b1 : decide (1048576 < l0.length) = true := decide_eq_true (by omega)
  clear c2
  obtain rfl := Option.some.inj H
  go_enter Try.func11, Try.ntmps11
  go_wp2
  go_ret
  exact ⟨by first | rfl | (simp [errW_none, errW_some] <;> rfl) | (simp [*, errW_none, errW_some] <;> rfl), by repeat (first | (with_reducible first | exact HB.out | apply below_alloc | apply pw_below_drewN | apply below_drew1) | exact HB.out)⟩
 ·rw [if_neg c2] at H
  have c2b0 : decide (1048576 < (l0.length : Int)) = false := decide_eq_false c2
  have c2b1 : decide (1048576 < l0.length) = false := decide_eq_false (by omega)
  clear c2
  replace H := Option.bind_eq_some_iff.mp H
  obtain ⟨t376, A30, H⟩ := H
  replace H : ((spec_MakeRights.f k l0 (wrap64 (2 + t376)) 1).bind fun bt377 => ((spec_MakeNum.f k l0 (wrap64 (2 + t376))).bind fun t384 => (if (wrap64 (2 + t376)) = 0 then (none) else ((spec_MakeNum.f k l0 30).bind fun t385 => ((impl_HasOf.f k bt377.1 bt377.2 t384).bind fun t386 => ((impl_Hand.f k bt377.1 bt377.2 t384 (Int.tmod (wrap64 (t384 + 1)) (wrap64 (2 + t376))) (wrap64 (1 + t385))).bind fun bt387 => ((impl_Spend.f k bt377.1 bt377.2 t384 (wrap64 (1 + t385))).bind fun bt395 => ((impl_Mint.f k bt377.1 bt377.2 t384 (wrap64 (1 + t385))).bind fun bt403 => ((impl_RightsOk.f k bt377.1 bt377.2).bind fun t411 => (if t411 = true then (if t386 < 0 then (laws_FnRights.j0 k t384 (Int.tmod (wrap64 (t384 + 1)) (wrap64 (2 + t376))) (wrap64 (1 + t385)) t386 bt387.2.2 true bt377.1 bt377.2 bt387.1 bt387.2.1 bt395.1 bt395.2.1) else (if (bt387.2.2 != (decide (t386 ≥ (wrap64 (1 + t385))))) = true then (laws_FnRights.j0 k t384 (Int.tmod (wrap64 (t384 + 1)) (wrap64 (2 + t376))) (wrap64 (1 + t385)) t386 bt387.2.2 true bt377.1 bt377.2 bt387.1 bt387.2.1 bt395.1 bt395.2.1) else (if (bt395.2.2 != (decide (t386 ≥ (wrap64 (1 + t385))))) = true then (laws_FnRights.j0 k t384 (Int.tmod (wrap64 (t384 + 1)) (wrap64 (2 + t376))) (wrap64 (1 + t385)) t386 bt387.2.2 true bt377.1 bt377.2 bt387.1 bt387.2.1 bt395.1 bt395.2.1) else (if bt403.2.2 = true then ((impl_AllOf.f k bt403.1 bt403.2.1).bind fun t412 => ((impl_AllOf.f k bt377.1 bt377.2).bind fun t413 => (if t412 = (wrap64 (t413 + (wrap64 (1 + t385)))) then ((impl_HasOf.f k bt403.1 bt403.2.1 t384).bind fun t414 => (laws_FnRights.j0 k t384 (Int.tmod (wrap64 (t384 + 1)) (wrap64 (2 + t376))) (wrap64 (1 + t385)) t386 bt387.2.2 (t414 != (wrap64 (t386 + (wrap64 (1 + t385))))) bt377.1 bt377.2 bt387.1 bt387.2.1 bt395.1 bt395.2.1)) else (laws_FnRights.j0 k t384 (Int.tmod (wrap64 (t384 + 1)) (wrap64 (2 + t376))) (wrap64 (1 + t385)) t386 bt387.2.2 true bt377.1 bt377.2 bt387.1 bt387.2.1 bt395.1 bt395.2.1)))) else (laws_FnRights.j0 k t384 (Int.tmod (wrap64 (t384 + 1)) (wrap64 (2 + t376))) (wrap64 (1 + t385)) t386 bt387.2.2 true bt377.1 bt377.2 bt387.1 bt387.2.1 bt395.1 bt395.2.1))))) else (laws_FnRights.j0 k t384 (Int.tmod (wrap64 (t384 + 1)) (wrap64 (2 + t376))) (wrap64 (1 + t385)) t386 bt387.2.2 true bt377.1 bt377.2 bt387.1 bt387.2.1 bt395.1 bt395.2.1))))))))))) = some r := H
  have A3 := Aside0.mk A30
  clear A30
  replace H := Option.bind_eq_some_iff.mp H
  obtain ⟨⟨t377, t380⟩, A40, H⟩ := H
  replace H : ((spec_MakeNum.f k l0 (wrap64 (2 + t376))).bind fun t384 => (if (wrap64 (2 + t376)) = 0 then (none) else ((spec_MakeNum.f k l0 30).bind fun t385 => ((impl_HasOf.f k t377 t380 t384).bind fun t386 => ((impl_Hand.f k t377 t380 t384 (Int.tmod (wrap64 (t384 + 1)) (wrap64 (2 + t376))) (wrap64 (1 + t385))).bind fun bt387 => ((impl_Spend.f k t377 t380 t384 (wrap64 (1 + t385))).bind fun bt395 => ((impl_Mint.f k t377 t380 t384 (wrap64 (1 + t385))).bind fun bt403 => ((impl_RightsOk.f k t377 t380).bind fun t411 => (if t411 = true then (if t386 < 0 then (laws_FnRights.j0 k t384 (Int.tmod (wrap64 (t384 + 1)) (wrap64 (2 + t376))) (wrap64 (1 + t385)) t386 bt387.2.2 true t377 t380 bt387.1 bt387.2.1 bt395.1 bt395.2.1) else (if (bt387.2.2 != (decide (t386 ≥ (wrap64 (1 + t385))))) = true then (laws_FnRights.j0 k t384 (Int.tmod (wrap64 (t384 + 1)) (wrap64 (2 + t376))) (wrap64 (1 + t385)) t386 bt387.2.2 true t377 t380 bt387.1 bt387.2.1 bt395.1 bt395.2.1) else (if (bt395.2.2 != (decide (t386 ≥ (wrap64 (1 + t385))))) = true then (laws_FnRights.j0 k t384 (Int.tmod (wrap64 (t384 + 1)) (wrap64 (2 + t376))) (wrap64 (1 + t385)) t386 bt387.2.2 true t377 t380 bt387.1 bt387.2.1 bt395.1 bt395.2.1) else (if bt403.2.2 = true then ((impl_AllOf.f k bt403.1 bt403.2.1).bind fun t412 => ((impl_AllOf.f k t377 t380).bind fun t413 => (if t412 = (wrap64 (t413 + (wrap64 (1 + t385)))) then ((impl_HasOf.f k bt403.1 bt403.2.1 t384).bind fun t414 => (laws_FnRights.j0 k t384 (Int.tmod (wrap64 (t384 + 1)) (wrap64 (2 + t376))) (wrap64 (1 + t385)) t386 bt387.2.2 (t414 != (wrap64 (t386 + (wrap64 (1 + t385))))) t377 t380 bt387.1 bt387.2.1 bt395.1 bt395.2.1)) else (laws_FnRights.j0 k t384 (Int.tmod (wrap64 (t384 + 1)) (wrap64 (2 + t376))) (wrap64 (1 + t385)) t386 bt387.2.2 true t377 t380 bt387.1 bt387.2.1 bt395.1 bt395.2.1)))) else (laws_FnRights.j0 k t384 (Int.tmod (wrap64 (t384 + 1)) (wrap64 (2 + t376))) (wrap64 (1 + t385)) t386 bt387.2.2 true t377 t380 bt387.1 bt387.2.1 bt395.1 bt395.2.1))))) else (laws_FnRights.j0 k t384 (Int.tmod (wrap64 (t384 + 1)) (wrap64 (2 + t376))) (wrap64 (1 + t385)) t386 bt387.2.2 true t377 t380 bt387.1 bt387.2.1 bt395.1 bt395.2.1)))))))))) = some r := H
  have A4 := Aside0.mk A40
  clear A40
  replace H := Option.bind_eq_some_iff.mp H
  obtain ⟨t384, A50, H⟩ := H
  replace H : (if (wrap64 (2 + t376)) = 0 then (none) else ((spec_MakeNum.f k l0 30).bind fun t385 => ((impl_HasOf.f k t377 t380 t384).bind fun t386 => ((impl_Hand.f k t377 t380 t384 (Int.tmod (wrap64 (t384 + 1)) (wrap64 (2 + t376))) (wrap64 (1 + t385))).bind fun bt387 => ((impl_Spend.f k t377 t380 t384 (wrap64 (1 + t385))).bind fun bt395 => ((impl_Mint.f k t377 t380 t384 (wrap64 (1 + t385))).bind fun bt403 => ((impl_RightsOk.f k t377 t380).bind fun t411 => (if t411 = true then (if t386 < 0 then (laws_FnRights.j0 k t384 (Int.tmod (wrap64 (t384 + 1)) (wrap64 (2 + t376))) (wrap64 (1 + t385)) t386 bt387.2.2 true t377 t380 bt387.1 bt387.2.1 bt395.1 bt395.2.1) else (if (bt387.2.2 != (decide (t386 ≥ (wrap64 (1 + t385))))) = true then (laws_FnRights.j0 k t384 (Int.tmod (wrap64 (t384 + 1)) (wrap64 (2 + t376))) (wrap64 (1 + t385)) t386 bt387.2.2 true t377 t380 bt387.1 bt387.2.1 bt395.1 bt395.2.1) else (if (bt395.2.2 != (decide (t386 ≥ (wrap64 (1 + t385))))) = true then (laws_FnRights.j0 k t384 (Int.tmod (wrap64 (t384 + 1)) (wrap64 (2 + t376))) (wrap64 (1 + t385)) t386 bt387.2.2 true t377 t380 bt387.1 bt387.2.1 bt395.1 bt395.2.1) else (if bt403.2.2 = true then ((impl_AllOf.f k bt403.1 bt403.2.1).bind fun t412 => ((impl_AllOf.f k t377 t380).bind fun t413 => (if t412 = (wrap64 (t413 + (wrap64 (1 + t385)))) then ((impl_HasOf.f k bt403.1 bt403.2.1 t384).bind fun t414 => (laws_FnRights.j0 k t384 (Int.tmod (wrap64 (t384 + 1)) (wrap64 (2 + t376))) (wrap64 (1 + t385)) t386 bt387.2.2 (t414 != (wrap64 (t386 + (wrap64 (1 + t385))))) t377 t380 bt387.1 bt387.2.1 bt395.1 bt395.2.1)) else (laws_FnRights.j0 k t384 (Int.tmod (wrap64 (t384 + 1)) (wrap64 (2 + t376))) (wrap64 (1 + t385)) t386 bt387.2.2 true t377 t380 bt387.1 bt387.2.1 bt395.1 bt395.2.1)))) else (laws_FnRights.j0 k t384 (Int.tmod (wrap64 (t384 + 1)) (wrap64 (2 + t376))) (wrap64 (1 + t385)) t386 bt387.2.2 true t377 t380 bt387.1 bt387.2.1 bt395.1 bt395.2.1))))) else (laws_FnRights.j0 k t384 (Int.tmod (wrap64 (t384 + 1)) (wrap64 (2 + t376))) (wrap64 (1 + t385)) t386 bt387.2.2 true t377 t380 bt387.1 bt387.2.1 bt395.1 bt395.2.1))))))))) = some r := H
  have A5 := Aside0.mk A50
  clear A50
  by_cases c6 : (wrap64 (2 + t376)) = 0
  ·rw [if_pos c6] at H
   exact absurd H (by simp)
  ·rw [if_neg c6] at H
   have c6b0 : ((wrap64 (2 + t376)) == 0) = false := beq_eq_false_iff_ne.mpr c6
   have c6b1 : ((wrap64 (2 + t376)) != 0) = true := bne_iff_ne.mpr c6
   replace H := Option.bind_eq_some_iff.mp H
   obtain ⟨t385, A70, H⟩ := H
   replace H : ((impl_HasOf.f k t377 t380 t384).bind fun t386 => ((impl_Hand.f k t377 t380 t384 (Int.tmod (wrap64 (t384 + 1)) (wrap64 (2 + t376))) (wrap64 (1 + t385))).bind fun bt387 => ((impl_Spend.f k t377 t380 t384 (wrap64 (1 + t385))).bind fun bt395 => ((impl_Mint.f k t377 t380 t384 (wrap64 (1 + t385))).bind fun bt403 => ((impl_RightsOk.f k t377 t380).bind fun t411 => (if t411 = true then (if t386 < 0 then (laws_FnRights.j0 k t384 (Int.tmod (wrap64 (t384 + 1)) (wrap64 (2 + t376))) (wrap64 (1 + t385)) t386 bt387.2.2 true t377 t380 bt387.1 bt387.2.1 bt395.1 bt395.2.1) else (if (bt387.2.2 != (decide (t386 ≥ (wrap64 (1 + t385))))) = true then (laws_FnRights.j0 k t384 (Int.tmod (wrap64 (t384 + 1)) (wrap64 (2 + t376))) (wrap64 (1 + t385)) t386 bt387.2.2 true t377 t380 bt387.1 bt387.2.1 bt395.1 bt395.2.1) else (if (bt395.2.2 != (decide (t386 ≥ (wrap64 (1 + t385))))) = true then (laws_FnRights.j0 k t384 (Int.tmod (wrap64 (t384 + 1)) (wrap64 (2 + t376))) (wrap64 (1 + t385)) t386 bt387.2.2 true t377 t380 bt387.1 bt387.2.1 bt395.1 bt395.2.1) else (if bt403.2.2 = true then ((impl_AllOf.f k bt403.1 bt403.2.1).bind fun t412 => ((impl_AllOf.f k t377 t380).bind fun t413 => (if t412 = (wrap64 (t413 + (wrap64 (1 + t385)))) then ((impl_HasOf.f k bt403.1 bt403.2.1 t384).bind fun t414 => (laws_FnRights.j0 k t384 (Int.tmod (wrap64 (t384 + 1)) (wrap64 (2 + t376))) (wrap64 (1 + t385)) t386 bt387.2.2 (t414 != (wrap64 (t386 + (wrap64 (1 + t385))))) t377 t380 bt387.1 bt387.2.1 bt395.1 bt395.2.1)) else (laws_FnRights.j0 k t384 (Int.tmod (wrap64 (t384 + 1)) (wrap64 (2 + t376))) (wrap64 (1 + t385)) t386 bt387.2.2 true t377 t380 bt387.1 bt387.2.1 bt395.1 bt395.2.1)))) else (laws_FnRights.j0 k t384 (Int.tmod (wrap64 (t384 + 1)) (wrap64 (2 + t376))) (wrap64 (1 + t385)) t386 bt387.2.2 true t377 t380 bt387.1 bt387.2.1 bt395.1 bt395.2.1))))) else (laws_FnRights.j0 k t384 (Int.tmod (wrap64 (t384 + 1)) (wrap64 (2 + t376))) (wrap64 (1 + t385)) t386 bt387.2.2 true t377 t380 bt387.1 bt387.2.1 bt395.1 bt395.2.1))))))) = some r := H
   have A7 := Aside0.mk A70
   clear A70
   replace H := Option.bind_eq_some_iff.mp H
   obtain ⟨t386, A80, H⟩ := H
   replace H : ((impl_Hand.f k t377 t380 t384 (Int.tmod (wrap64 (t384 + 1)) (wrap64 (2 + t376))) (wrap64 (1 + t385))).bind fun bt387 => ((impl_Spend.f k t377 t380 t384 (wrap64 (1 + t385))).bind fun bt395 => ((impl_Mint.f k t377 t380 t384 (wrap64 (1 + t385))).bind fun bt403 => ((impl_RightsOk.f k t377 t380).bind fun t411 => (if t411 = true then (if t386 < 0 then (laws_FnRights.j0 k t384 (Int.tmod (wrap64 (t384 + 1)) (wrap64 (2 + t376))) (wrap64 (1 + t385)) t386 bt387.2.2 true t377 t380 bt387.1 bt387.2.1 bt395.1 bt395.2.1) else (if (bt387.2.2 != (decide (t386 ≥ (wrap64 (1 + t385))))) = true then (laws_FnRights.j0 k t384 (Int.tmod (wrap64 (t384 + 1)) (wrap64 (2 + t376))) (wrap64 (1 + t385)) t386 bt387.2.2 true t377 t380 bt387.1 bt387.2.1 bt395.1 bt395.2.1) else (if (bt395.2.2 != (decide (t386 ≥ (wrap64 (1 + t385))))) = true then (laws_FnRights.j0 k t384 (Int.tmod (wrap64 (t384 + 1)) (wrap64 (2 + t376))) (wrap64 (1 + t385)) t386 bt387.2.2 true t377 t380 bt387.1 bt387.2.1 bt395.1 bt395.2.1) else (if bt403.2.2 = true then ((impl_AllOf.f k bt403.1 bt403.2.1).bind fun t412 => ((impl_AllOf.f k t377 t380).bind fun t413 => (if t412 = (wrap64 (t413 + (wrap64 (1 + t385)))) then ((impl_HasOf.f k bt403.1 bt403.2.1 t384).bind fun t414 => (laws_FnRights.j0 k t384 (Int.tmod (wrap64 (t384 + 1)) (wrap64 (2 + t376))) (wrap64 (1 + t385)) t386 bt387.2.2 (t414 != (wrap64 (t386 + (wrap64 (1 + t385))))) t377 t380 bt387.1 bt387.2.1 bt395.1 bt395.2.1)) else (laws_FnRights.j0 k t384 (Int.tmod (wrap64 (t384 + 1)) (wrap64 (2 + t376))) (wrap64 (1 + t385)) t386 bt387.2.2 true t377 t380 bt387.1 bt387.2.1 bt395.1 bt395.2.1)))) else (laws_FnRights.j0 k t384 (Int.tmod (wrap64 (t384 + 1)) (wrap64 (2 + t376))) (wrap64 (1 + t385)) t386 bt387.2.2 true t377 t380 bt387.1 bt387.2.1 bt395.1 bt395.2.1))))) else (laws_FnRights.j0 k t384 (Int.tmod (wrap64 (t384 + 1)) (wrap64 (2 + t376))) (wrap64 (1 + t385)) t386 bt387.2.2 true t377 t380 bt387.1 bt387.2.1 bt395.1 bt395.2.1)))))) = some r := H
   have A8 := Aside0.mk A80
   clear A80
   replace H := Option.bind_eq_some_iff.mp H
   obtain ⟨⟨t387, t390, t393⟩, A90, H⟩ := H
   replace H : ((impl_Spend.f k t377 t380 t384 (wrap64 (1 + t385))).bind fun bt395 => ((impl_Mint.f k t377 t380 t384 (wrap64 (1 + t385))).bind fun bt403 => ((impl_RightsOk.f k t377 t380).bind fun t411 => (if t411 = true then (if t386 < 0 then (laws_FnRights.j0 k t384 (Int.tmod (wrap64 (t384 + 1)) (wrap64 (2 + t376))) (wrap64 (1 + t385)) t386 t393 true t377 t380 t387 t390 bt395.1 bt395.2.1) else (if (t393 != (decide (t386 ≥ (wrap64 (1 + t385))))) = true then (laws_FnRights.j0 k t384 (Int.tmod (wrap64 (t384 + 1)) (wrap64 (2 + t376))) (wrap64 (1 + t385)) t386 t393 true t377 t380 t387 t390 bt395.1 bt395.2.1) else (if (bt395.2.2 != (decide (t386 ≥ (wrap64 (1 + t385))))) = true then (laws_FnRights.j0 k t384 (Int.tmod (wrap64 (t384 + 1)) (wrap64 (2 + t376))) (wrap64 (1 + t385)) t386 t393 true t377 t380 t387 t390 bt395.1 bt395.2.1) else (if bt403.2.2 = true then ((impl_AllOf.f k bt403.1 bt403.2.1).bind fun t412 => ((impl_AllOf.f k t377 t380).bind fun t413 => (if t412 = (wrap64 (t413 + (wrap64 (1 + t385)))) then ((impl_HasOf.f k bt403.1 bt403.2.1 t384).bind fun t414 => (laws_FnRights.j0 k t384 (Int.tmod (wrap64 (t384 + 1)) (wrap64 (2 + t376))) (wrap64 (1 + t385)) t386 t393 (t414 != (wrap64 (t386 + (wrap64 (1 + t385))))) t377 t380 t387 t390 bt395.1 bt395.2.1)) else (laws_FnRights.j0 k t384 (Int.tmod (wrap64 (t384 + 1)) (wrap64 (2 + t376))) (wrap64 (1 + t385)) t386 t393 true t377 t380 t387 t390 bt395.1 bt395.2.1)))) else (laws_FnRights.j0 k t384 (Int.tmod (wrap64 (t384 + 1)) (wrap64 (2 + t376))) (wrap64 (1 + t385)) t386 t393 true t377 t380 t387 t390 bt395.1 bt395.2.1))))) else (laws_FnRights.j0 k t384 (Int.tmod (wrap64 (t384 + 1)) (wrap64 (2 + t376))) (wrap64 (1 + t385)) t386 t393 true t377 t380 t387 t390 bt395.1 bt395.2.1))))) = some r := H
   have A9 := Aside0.mk A90
   clear A90
   replace H := Option.bind_eq_some_iff.mp H
   obtain ⟨⟨t395, t398, t401⟩, A100, H⟩ := H
   replace H : ((impl_Mint.f k t377 t380 t384 (wrap64 (1 + t385))).bind fun bt403 => ((impl_RightsOk.f k t377 t380).bind fun t411 => (if t411 = true then (if t386 < 0 then (laws_FnRights.j0 k t384 (Int.tmod (wrap64 (t384 + 1)) (wrap64 (2 + t376))) (wrap64 (1 + t385)) t386 t393 true t377 t380 t387 t390 t395 t398) else (if (t393 != (decide (t386 ≥ (wrap64 (1 + t385))))) = true then (laws_FnRights.j0 k t384 (Int.tmod (wrap64 (t384 + 1)) (wrap64 (2 + t376))) (wrap64 (1 + t385)) t386 t393 true t377 t380 t387 t390 t395 t398) else (if (t401 != (decide (t386 ≥ (wrap64 (1 + t385))))) = true then (laws_FnRights.j0 k t384 (Int.tmod (wrap64 (t384 + 1)) (wrap64 (2 + t376))) (wrap64 (1 + t385)) t386 t393 true t377 t380 t387 t390 t395 t398) else (if bt403.2.2 = true then ((impl_AllOf.f k bt403.1 bt403.2.1).bind fun t412 => ((impl_AllOf.f k t377 t380).bind fun t413 => (if t412 = (wrap64 (t413 + (wrap64 (1 + t385)))) then ((impl_HasOf.f k bt403.1 bt403.2.1 t384).bind fun t414 => (laws_FnRights.j0 k t384 (Int.tmod (wrap64 (t384 + 1)) (wrap64 (2 + t376))) (wrap64 (1 + t385)) t386 t393 (t414 != (wrap64 (t386 + (wrap64 (1 + t385))))) t377 t380 t387 t390 t395 t398)) else (laws_FnRights.j0 k t384 (Int.tmod (wrap64 (t384 + 1)) (wrap64 (2 + t376))) (wrap64 (1 + t385)) t386 t393 true t377 t380 t387 t390 t395 t398)))) else (laws_FnRights.j0 k t384 (Int.tmod (wrap64 (t384 + 1)) (wrap64 (2 + t376))) (wrap64 (1 + t385)) t386 t393 true t377 t380 t387 t390 t395 t398))))) else (laws_FnRights.j0 k t384 (Int.tmod (wrap64 (t384 + 1)) (wrap64 (2 + t376))) (wrap64 (1 + t385)) t386 t393 true t377 t380 t387 t390 t395 t398)))) = some r := H
   have A10 := Aside0.mk A100
   clear A100
   replace H := Option.bind_eq_some_iff.mp H
   obtain ⟨⟨t403, t406, t409⟩, A110, H⟩ := H
   replace H : ((impl_RightsOk.f k t377 t380).bind fun t411 => (if t411 = true then (if t386 < 0 then (laws_FnRights.j0 k t384 (Int.tmod (wrap64 (t384 + 1)) (wrap64 (2 + t376))) (wrap64 (1 + t385)) t386 t393 true t377 t380 t387 t390 t395 t398) else (if (t393 != (decide (t386 ≥ (wrap64 (1 + t385))))) = true then (laws_FnRights.j0 k t384 (Int.tmod (wrap64 (t384 + 1)) (wrap64 (2 + t376))) (wrap64 (1 + t385)) t386 t393 true t377 t380 t387 t390 t395 t398) else (if (t401 != (decide (t386 ≥ (wrap64 (1 + t385))))) = true then (laws_FnRights.j0 k t384 (Int.tmod (wrap64 (t384 + 1)) (wrap64 (2 + t376))) (wrap64 (1 + t385)) t386 t393 true t377 t380 t387 t390 t395 t398) else (if t409 = true then ((impl_AllOf.f k t403 t406).bind fun t412 => ((impl_AllOf.f k t377 t380).bind fun t413 => (if t412 = (wrap64 (t413 + (wrap64 (1 + t385)))) then ((impl_HasOf.f k t403 t406 t384).bind fun t414 => (laws_FnRights.j0 k t384 (Int.tmod (wrap64 (t384 + 1)) (wrap64 (2 + t376))) (wrap64 (1 + t385)) t386 t393 (t414 != (wrap64 (t386 + (wrap64 (1 + t385))))) t377 t380 t387 t390 t395 t398)) else (laws_FnRights.j0 k t384 (Int.tmod (wrap64 (t384 + 1)) (wrap64 (2 + t376))) (wrap64 (1 + t385)) t386 t393 true t377 t380 t387 t390 t395 t398)))) else (laws_FnRights.j0 k t384 (Int.tmod (wrap64 (t384 + 1)) (wrap64 (2 + t376))) (wrap64 (1 + t385)) t386 t393 true t377 t380 t387 t390 t395 t398))))) else (laws_FnRights.j0 k t384 (Int.tmod (wrap64 (t384 + 1)) (wrap64 (2 + t376))) (wrap64 (1 + t385)) t386 t393 true t377 t380 t387 t390 t395 t398))) = some r := H
   have A11 := Aside0.mk A110
   clear A110
   have HC12 := Aside0.mk H
   clear H
   go_enter Try.func11, Try.ntmps11
   go_upto_region 12 with (first | ((with_reducible refine gate_callee (f := 34) rfl ?_); refine kG (some 19) Try.func34 #[.slice A0 l0.length c0, .int .i64 2] ?_; (with_reducible refine (spec_MakeNum.calls k _ _ l0 2 t376 _ ?side1 ?side2 A3.out).mono ?_); (case side1 => exact kC HR0.out); (case side2 => exact HC0.out); rintro e w13 ⟨rfl, hb⟩; refine ⟨_, rfl, ?_⟩; have n0_ := k0 (below_step (kW HB.out) hb); clear HB; have HB := n0_; clear n0_; (try clear hb); (try clear hb2); (try clear hk); (try clear hi)) | ((with_reducible refine gate_callee (f := 35) rfl ?_); refine kG (some 23) Try.func35 #[.slice A0 l0.length c0, .int .i64 (wrap64 (2 + t376)), .int .i64 1] ?_; (with_reducible refine (spec_MakeRights.calls k _ _ l0 (wrap64 (2 + t376)) 1 t377 t380 _ ?side1 ?side2 A4.out).mono ?_); (case side1 => exact kC (Kd.C_below HR0.out HB.out)); (case side2 => exact HC0.out); rintro e w14 ⟨v378, v381, rfl, ho0, ho1, hb⟩; refine ⟨_, rfl, ?_⟩; have n0_ := k0 (Kd.V_lower (Kd.V_mono (ok' := fun k_ => some k_ ≠ (v381 : Value).ownBlock) ho0 (fun k_ hk_ => hk_.2)) (below_size (kW HB.out))); have n1_ := k0 (Kd.R_lower (Kd.R_mono (ok' := fun k_ => True) ho1 (fun _ hk_ => trivial)) (below_size (kW HB.out))); have n2_ := k0 (below_step (kW HB.out) hb); clear HB; have HO379 := n0_; have HO382 := n1_; have HB := n2_; clear n0_ n1_ n2_; (try clear hb); (try clear hb2); (try clear hk); (try clear hi); (try clear ho0); (try clear ho1)) | ((with_reducible refine gate_dst (N := 4) rfl ?_); refine kE (N := 4) (cs := #[.slice none 0 0, .slice none 0 0]) (t := 28) ?_; intro gb383 hg w15 hbox hb; have n0_ := k0 (Kd.V_below (Kd.V_elderB (kV HO379.out) gb383 (Nat.le_of_eq hg.symm)) hb); have n1_ := k0 (Kd.R_below (kR HO382.out) hb); have n2_ := k0 (below_step (kW HB.out) hb); have n3_ := k0 (hbox); have n4_ := k0 (kY HB.out hg); have n5_ := k0 (kY HB.out hg); clear HO379; clear HO382; clear HB; have HO379 := n0_; have HO382 := n1_; have HB := n2_; have BK383 := n3_; have GW383 := n4_; have GE383 := n5_; clear n0_ n1_ n2_ n3_ n4_ n5_; clear hb hbox hg; obtain ⟨Ao16, co16, eo16⟩ := Kd.V_slice HO379.out; subst eo16; have hcz17_0 : w15.cell? ⟨gb383, 0, none⟩ = some (.slice none 0 0) := kx BK383.out; have hcz17_1 : w15.cell? ⟨gb383, 1, none⟩ = some (.slice none 0 0) := kx BK383.out; have hfz17_0 := blk_frozen BK383.out 0; have hfz17_1 := blk_frozen BK383.out 1; obtain ⟨Ao18, co18, eo18⟩ := Kd.R_slice HO382.out; subst eo18) | ((with_reducible refine gate_callee (f := 34) rfl ?_); refine kG (some 26) Try.func34 #[.slice A0 l0.length c0, .int .i64 (wrap64 (2 + t376))] ?_; (with_reducible refine (spec_MakeNum.calls k _ _ l0 (wrap64 (2 + t376)) t384 _ ?side1 ?side2 A5.out).mono ?_); (case side1 => exact Kd.C_below HR0.out (kW HB.out)); (case side2 => exact HC0.out); rintro e w19 ⟨rfl, hb⟩; refine ⟨_, rfl, ?_⟩; have n0_ := k0 (Kd.V_below (by (with_reducible repeat (first | apply Kd.V_alloc | apply Kd.V_drewN | apply Kd.V_drew)); exact (Kd.V_mono (Kd.V_far (p := ⟨gb383, 1, none⟩) (Kd.V_far (p := ⟨gb383, 0, none⟩) (Kd.V_mono HO379.out (fun k_ hk => (⟨hk, hk.2⟩ : _ ∧ k_ ≠ gb383))) (fun _ hk => hk.2) (.slice Ao16 t377.length co16)) (fun _ hk => hk.2) (.slice Ao18 t380.length co18)) (fun _ h_ => h_.1))) hb); have n1_ := k0 (Kd.R_below (by (with_reducible repeat (first | apply Kd.R_alloc | apply Kd.R_drewN | apply Kd.R_drew)); exact (Kd.R_mono (Kd.R_far (p := ⟨gb383, 1, none⟩) (Kd.R_far (p := ⟨gb383, 0, none⟩) (Kd.R_types HO382.out BK383.out (by decide)) (fun _ hk => hk.2) (.slice Ao16 t377.length co16)) (fun _ hk => hk.2) (.slice Ao18 t380.length co18)) (fun _ h_ => h_.1))) hb); have n2_ := k0 (blk_below (g := gb383) (o := .cells #[.slice Ao16 t377.length co16, .slice Ao18 t380.length co18] 28 (0, 0)) (by (with_reducible repeat first | apply k1 | apply k2 | apply k3); refine blk_put (cs := #[.slice Ao16 t377.length co16, .slice none 0 0]) ?_ 1 _ rfl; (with_reducible repeat first | apply k1 | apply k2 | apply k3); refine blk_put (cs := #[.slice none 0 0, .slice none 0 0]) ?_ 0 _ rfl; (with_reducible repeat first | apply k1 | apply k2 | apply k3); exact BK383.out) hb); have n3_ := k0 (below_step (kW HB.out) hb); clear HO379; clear HO382; clear BK383; clear HB; have HO379 := n0_; have HO382 := n1_; have BK383 := n2_; have HB := n3_; clear n0_ n1_ n2_ n3_; (try clear hb); (try clear hb2); (try clear hk); (try clear hi)) | ((with_reducible refine gate_callee (f := 34) rfl ?_); refine kG (some 32) Try.func34 #[.slice A0 l0.length c0, .int .i64 30] ?_; (with_reducible refine (spec_MakeNum.calls k _ _ l0 30 t385 _ ?side1 ?side2 A7.out).mono ?_); (case side1 => exact kC (Kd.C_below HR0.out HB.out)); (case side2 => exact HC0.out); rintro e w20 ⟨rfl, hb⟩; refine ⟨_, rfl, ?_⟩; have n0_ := k0 (Kd.V_below (kV HO379.out) hb); have n1_ := k0 (Kd.R_below (kR HO382.out) hb); have n2_ := k0 (kb BK383.out hb); have n3_ := k0 (below_step (kW HB.out) hb); clear HO379; clear HO382; clear BK383; clear HB; have HO379 := n0_; have HO382 := n1_; have BK383 := n2_; have HB := n3_; clear n0_ n1_ n2_ n3_; (try clear hb); (try clear hb2); (try clear hk); (try clear hi); have hcz21_0 : w20.cell? ⟨gb383, 0, none⟩ = some (.slice Ao16 t377.length co16) := kx BK383.out; have hcz21_1 : w20.cell? ⟨gb383, 1, none⟩ = some (.slice Ao18 t380.length co18) := kx BK383.out; have hfz21_0 := blk_frozen BK383.out 0; have hfz21_1 := blk_frozen BK383.out 1) | ((with_reducible refine gate_callee (f := 19) rfl ?_); refine kG (some 36) Try.func19 #[.agg #[.slice Ao16 t377.length co16, .slice Ao18 t380.length co18], .int .i64 t384] ?_; (with_reducible refine (impl_HasOf.calls k _ _ t377 _ _ t380 t384 t386 _ ?side1 ?side2 ?side3 ?side4 A8.out).mono ?_); (case side1 => exact kC (Kd.V_reads' HO379.out).2.2); (case side2 => exact (Kd.V_reads' HO379.out).2.1); (case side3 => exact kC (Kd.R_reads' HO382.out).2.2); (case side4 => exact (Kd.R_reads' HO382.out).2.1); rintro e w22 ⟨rfl, hb⟩; refine ⟨_, rfl, ?_⟩; have n0_ := k0 (Kd.V_below (kV HO379.out) hb); have n1_ := k0 (Kd.R_below (kR HO382.out) hb); have n2_ := k0 (kb BK383.out hb); have n3_ := k0 (below_step (kW HB.out) hb); clear HO379; clear HO382; clear BK383; clear HB; have HO379 := n0_; have HO382 := n1_; have BK383 := n2_; have HB := n3_; clear n0_ n1_ n2_ n3_; (try clear hb); (try clear hb2); (try clear hk); (try clear hi); have hcz23_0 : w22.cell? ⟨gb383, 0, none⟩ = some (.slice Ao16 t377.length co16) := kx BK383.out; have hcz23_1 : w22.cell? ⟨gb383, 1, none⟩ = some (.slice Ao18 t380.length co18) := kx BK383.out; have hfz23_0 := blk_frozen BK383.out 0; have hfz23_1 := blk_frozen BK383.out 1) | ((with_reducible refine gate_callee (f := 33) rfl ?_); refine kG (some 42) Try.func33 #[.agg #[.slice Ao16 t377.length co16, .slice Ao18 t380.length co18], .int .i64 t384, .int .i64 (Int.tmod (wrap64 (t384 + 1)) (wrap64 (2 + t376))), .int .i64 (wrap64 (1 + t385))] ?_; (with_reducible refine (impl_Hand.calls k _ _ t377 _ _ t380 t384 (Int.tmod (wrap64 (t384 + 1)) (wrap64 (2 + t376))) (wrap64 (1 + t385)) t387 t390 t393 _ ?side1 ?side2 ?side3 ?side4 A9.out).mono ?_); (case side1 => exact kC (Kd.V_reads' HO379.out).2.2); (case side2 => exact (Kd.V_reads' HO379.out).2.1); (case side3 => exact kC (Kd.R_reads' HO382.out).2.2); (case side4 => exact (Kd.R_reads' HO382.out).2.1); rintro e w24 ⟨v388, v391, rfl, ho0, ho1, hb⟩; refine ⟨_, rfl, ?_⟩; have n0_ := k0 (Kd.V_mono (Kd.V_told (Kd.V_told (Kd.V_old (kV HO379.out) hb) (Kd.S_base ho0)) (Kd.R_base ho1)) (fun _ h_ => h_.1)); have n1_ := k0 (Kd.R_elder' (kR HO382.out) (Kd.R_base ho1) hb); have n2_ := k0 (Kd.S_lower (Kd.S_new' ho0 (Kd.R_lt (kR HO382.out))) (below_size (kW HB.out))); have n3_ := k0 (Kd.R_lower (Kd.R_new' ho1 (Kd.R_lt (kR HO382.out))) (below_size (kW HB.out))); have n4_ := k0 (kb BK383.out hb); have n5_ := k0 (below_step (kW HB.out) hb); clear HO379; clear HO382; clear BK383; clear HB; have HO379 := n0_; have HO382 := n1_; have HO389 := n2_; have HO392 := n3_; have BK383 := n4_; have HB := n5_; clear n0_ n1_ n2_ n3_ n4_ n5_; (try clear hb); (try clear hb2); (try clear hk); (try clear hi); (try clear ho0); (try clear ho1)) | ((with_reducible refine gate_dst (N := 9) rfl ?_); refine kE (N := 9) (cs := #[.slice none 0 0, .slice none 0 0]) (t := 28) ?_; intro gb394 hg w25 hbox hb; have n0_ := k0 (Kd.V_below (Kd.V_elderB (kV HO379.out) gb394 (Nat.le_of_eq hg.symm)) hb); have n1_ := k0 (Kd.R_below (kR HO382.out) hb); have n2_ := k0 (Kd.S_below (kS HO389.out) hb); have n3_ := k0 (Kd.R_below (kR HO392.out) hb); have n4_ := k0 (kb BK383.out hb); have n5_ := k0 (below_step (kW HB.out) hb); have n6_ := k0 (hbox); have n7_ := k0 (kY HB.out hg); have n8_ := k0 (kY HB.out hg); have n9_ := k0 ((by rw [hg]; exact Nat.ne_of_lt (blk_lt (g := gb383) (o := .cells #[.slice Ao16 t377.length co16, .slice Ao18 t380.length co18] 28 (0, 0)) (kB BK383.out)) : gb383 ≠ gb394)); have n10_ := k0 ((by rw [hg]; exact Nat.ne_of_gt (blk_lt (g := gb383) (o := .cells #[.slice Ao16 t377.length co16, .slice Ao18 t380.length co18] 28 (0, 0)) (kB BK383.out)) : gb394 ≠ gb383)); clear HO379; clear HO382; clear HO389; clear HO392; clear BK383; clear HB; have HO379 := n0_; have HO382 := n1_; have HO389 := n2_; have HO392 := n3_; have BK383 := n4_; have HB := n5_; have BK394 := n6_; have GW394 := n7_; have GE394 := n8_; have NB383_394 := n9_; have NB394_383 := n10_; clear n0_ n1_ n2_ n3_ n4_ n5_ n6_ n7_ n8_ n9_ n10_; clear hb hbox hg; obtain ⟨Ao26, co26, eo26⟩ := Kd.S_slice HO389.out; subst eo26; have hnb27 := NB394_383.out; have hnc27 := NB383_394.out; have hcz28_0 : w25.cell? ⟨gb394, 0, none⟩ = some (.slice none 0 0) := kx BK394.out; have hcz28_1 : w25.cell? ⟨gb394, 1, none⟩ = some (.slice none 0 0) := kx BK394.out; have hfz28_0 := blk_frozen BK394.out 0; have hfz28_1 := blk_frozen BK394.out 1; obtain ⟨Ao29, co29, eo29⟩ := Kd.R_slice HO392.out; subst eo29; have hcz30_0 : w25.cell? ⟨gb383, 0, none⟩ = some (.slice Ao16 t377.length co16) := kx BK383.out; have hcz30_1 : w25.cell? ⟨gb383, 1, none⟩ = some (.slice Ao18 t380.length co18) := kx BK383.out; have hfz30_0 := blk_frozen BK383.out 0; have hfz30_1 := blk_frozen BK383.out 1) | ((with_reducible refine gate_callee (f := 31) rfl ?_); refine kG (some 49) Try.func31 #[.agg #[.slice Ao16 t377.length co16, .slice Ao18 t380.length co18], .int .i64 t384, .int .i64 (wrap64 (1 + t385))] ?_; (with_reducible refine (impl_Spend.calls k _ _ t377 _ _ t380 t384 (wrap64 (1 + t385)) t395 t398 t401 _ ?side1 ?side2 ?side3 ?side4 A10.out).mono ?_); (case side1 => refine (Kd.V_reads' (e := 23) (base := w.heap.size) (ok := fun k_ => ((((some k_ ≠ (.slice Ao18 t380.length co18 : Value).ownBlock ∧ k_ ≠ gb383) ∧ some k_ ≠ (.slice Ao26 t387.length co26 : Value).ownBlock) ∧ some k_ ≠ (.slice Ao29 t390.length co29 : Value).ownBlock) ∧ k_ ≠ gb394)) (n := t377.length) (c := co16) ?_).2.2; exact (by (with_reducible repeat (first | apply Kd.V_alloc | apply Kd.V_drewN | apply Kd.V_drew)); exact (Kd.V_mono (Kd.V_far (p := ⟨gb394, 1, none⟩) (Kd.V_far (p := ⟨gb394, 0, none⟩) (Kd.V_mono HO379.out (fun k_ hk => (⟨hk, hk.2⟩ : _ ∧ k_ ≠ gb394))) (fun _ hk => hk.2) (.slice Ao26 t387.length co26)) (fun _ hk => hk.2) (.slice Ao29 t390.length co29)) (fun _ h_ => h_.1)))); (case side2 => exact (Kd.V_reads' HO379.out).2.1); (case side3 => refine (Kd.R_reads' (e := 3) (base := w.heap.size) (ok := fun k_ => (True ∧ some k_ ≠ (.slice Ao29 t390.length co29 : Value).ownBlock)) (n := t380.length) (c := co18) ?_).2.2; exact (by (with_reducible repeat (first | apply Kd.R_alloc | apply Kd.R_drewN | apply Kd.R_drew)); exact (Kd.R_mono (Kd.R_far (p := ⟨gb394, 1, none⟩) (Kd.R_far (p := ⟨gb394, 0, none⟩) (Kd.R_types HO382.out BK394.out (by decide)) (fun _ hk => hk.2) (.slice Ao26 t387.length co26)) (fun _ hk => hk.2) (.slice Ao29 t390.length co29)) (fun _ h_ => h_.1)))); (case side4 => exact (Kd.R_reads' HO382.out).2.1); rintro e w31 ⟨v396, v399, rfl, ho0, ho1, hb⟩; refine ⟨_, rfl, ?_⟩; have n0_ := k0 (Kd.V_mono (Kd.V_told (Kd.V_told (Kd.V_old (by (with_reducible repeat (first | apply Kd.V_alloc | apply Kd.V_drewN | apply Kd.V_drew)); exact (Kd.V_mono (Kd.V_far (p := ⟨gb394, 1, none⟩) (Kd.V_far (p := ⟨gb394, 0, none⟩) (Kd.V_mono HO379.out (fun k_ hk => (⟨hk, hk.2⟩ : _ ∧ k_ ≠ gb394))) (fun _ hk => hk.2) (.slice Ao26 t387.length co26)) (fun _ hk => hk.2) (.slice Ao29 t390.length co29)) (fun _ h_ => h_.1))) hb) (Kd.S_base ho0)) (Kd.R_base ho1)) (fun _ h_ => h_.1)); have n1_ := k0 (Kd.R_elder' (by (with_reducible repeat (first | apply Kd.R_alloc | apply Kd.R_drewN | apply Kd.R_drew)); exact (Kd.R_mono (Kd.R_far (p := ⟨gb394, 1, none⟩) (Kd.R_far (p := ⟨gb394, 0, none⟩) (Kd.R_types HO382.out BK394.out (by decide)) (fun _ hk => hk.2) (.slice Ao26 t387.length co26)) (fun _ hk => hk.2) (.slice Ao29 t390.length co29)) (fun _ h_ => h_.1))) (Kd.R_base ho1) hb); have n2_ := k0 (Kd.S_mono (Kd.S_told (Kd.S_told (Kd.S_old (by (with_reducible repeat (first | apply Kd.S_alloc | apply Kd.S_drewN | apply Kd.S_drew)); exact (Kd.S_mono (Kd.S_far (p := ⟨gb394, 1, none⟩) (Kd.S_far (p := ⟨gb394, 0, none⟩) (Kd.S_types HO389.out BK394.out (by decide)) (fun _ hk => hk.2) (.slice Ao26 t387.length co26)) (fun _ hk => hk.2) (.slice Ao29 t390.length co29)) (fun _ h_ => h_.1))) hb) (Kd.S_base ho0)) (Kd.R_base ho1)) (fun _ h_ => h_.1)); have n3_ := k0 (Kd.R_elder' (by (with_reducible repeat (first | apply Kd.R_alloc | apply Kd.R_drewN | apply Kd.R_drew)); exact (Kd.R_mono (Kd.R_far (p := ⟨gb394, 1, none⟩) (Kd.R_far (p := ⟨gb394, 0, none⟩) (Kd.R_types HO392.out BK394.out (by decide)) (fun _ hk => hk.2) (.slice Ao26 t387.length co26)) (fun _ hk => hk.2) (.slice Ao29 t390.length co29)) (fun _ h_ => h_.1))) (Kd.R_base ho1) hb); have n4_ := k0 (Kd.S_lower (Kd.S_new' (Kd.S_new' (Kd.S_new' ho0 (Kd.R_lt (by (with_reducible repeat (first | apply Kd.R_alloc | apply Kd.R_drewN | apply Kd.R_drew)); exact (Kd.R_mono (Kd.R_far (p := ⟨gb394, 1, none⟩) (Kd.R_far (p := ⟨gb394, 0, none⟩) (Kd.R_types HO382.out BK394.out (by decide)) (fun _ hk => hk.2) (.slice Ao26 t387.length co26)) (fun _ hk => hk.2) (.slice Ao29 t390.length co29)) (fun _ h_ => h_.1))))) (Kd.S_lt (by (with_reducible repeat (first | apply Kd.S_alloc | apply Kd.S_drewN | apply Kd.S_drew)); exact (Kd.S_mono (Kd.S_far (p := ⟨gb394, 1, none⟩) (Kd.S_far (p := ⟨gb394, 0, none⟩) (Kd.S_types HO389.out BK394.out (by decide)) (fun _ hk => hk.2) (.slice Ao26 t387.length co26)) (fun _ hk => hk.2) (.slice Ao29 t390.length co29)) (fun _ h_ => h_.1))))) (Kd.R_lt (by (with_reducible repeat (first | apply Kd.R_alloc | apply Kd.R_drewN | apply Kd.R_drew)); exact (Kd.R_mono (Kd.R_far (p := ⟨gb394, 1, none⟩) (Kd.R_far (p := ⟨gb394, 0, none⟩) (Kd.R_types HO392.out BK394.out (by decide)) (fun _ hk => hk.2) (.slice Ao26 t387.length co26)) (fun _ hk => hk.2) (.slice Ao29 t390.length co29)) (fun _ h_ => h_.1))))) (below_size (kW HB.out))); have n5_ := k0 (Kd.R_lower (Kd.R_new' (Kd.R_new' ho1 (Kd.R_lt (by (with_reducible repeat (first | apply Kd.R_alloc | apply Kd.R_drewN | apply Kd.R_drew)); exact (Kd.R_mono (Kd.R_far (p := ⟨gb394, 1, none⟩) (Kd.R_far (p := ⟨gb394, 0, none⟩) (Kd.R_types HO382.out BK394.out (by decide)) (fun _ hk => hk.2) (.slice Ao26 t387.length co26)) (fun _ hk => hk.2) (.slice Ao29 t390.length co29)) (fun _ h_ => h_.1))))) (Kd.R_lt (by (with_reducible repeat (first | apply Kd.R_alloc | apply Kd.R_drewN | apply Kd.R_drew)); exact (Kd.R_mono (Kd.R_far (p := ⟨gb394, 1, none⟩) (Kd.R_far (p := ⟨gb394, 0, none⟩) (Kd.R_types HO392.out BK394.out (by decide)) (fun _ hk => hk.2) (.slice Ao26 t387.length co26)) (fun _ hk => hk.2) (.slice Ao29 t390.length co29)) (fun _ h_ => h_.1))))) (below_size (kW HB.out))); have n6_ := k0 (blk_below (g := gb383) (o := .cells #[.slice Ao16 t377.length co16, .slice Ao18 t380.length co18] 28 (0, 0)) (by (with_reducible repeat first | apply k1 | apply k2 | apply k3); refine blk_far ?_ NB383_394.out _; (with_reducible repeat first | apply k1 | apply k2 | apply k3); refine blk_far ?_ NB383_394.out _; (with_reducible repeat first | apply k1 | apply k2 | apply k3); exact BK383.out) hb); have n7_ := k0 (blk_below (g := gb394) (o := .cells #[.slice Ao26 t387.length co26, .slice Ao29 t390.length co29] 28 (0, 0)) (by (with_reducible repeat first | apply k1 | apply k2 | apply k3); refine blk_put (cs := #[.slice Ao26 t387.length co26, .slice none 0 0]) ?_ 1 _ rfl; (with_reducible repeat first | apply k1 | apply k2 | apply k3); refine blk_put (cs := #[.slice none 0 0, .slice none 0 0]) ?_ 0 _ rfl; (with_reducible repeat first | apply k1 | apply k2 | apply k3); exact BK394.out) hb); have n8_ := k0 (below_step (kW HB.out) hb); clear HO379; clear HO382; clear HO389; clear HO392; clear BK383; clear BK394; clear HB; have HO379 := n0_; have HO382 := n1_; have HO389 := n2_; have HO392 := n3_; have HO397 := n4_; have HO400 := n5_; have BK383 := n6_; have BK394 := n7_; have HB := n8_; clear n0_ n1_ n2_ n3_ n4_ n5_ n6_ n7_ n8_; (try clear hb); (try clear hb2); (try clear hk); (try clear hi); (try clear ho0); (try clear ho1)) | ((with_reducible refine gate_dst (N := 11) rfl ?_); refine kE (N := 11) (cs := #[.slice none 0 0, .slice none 0 0]) (t := 28) ?_; intro gb402 hg w32 hbox hb; have n0_ := k0 (Kd.V_below (Kd.V_elderB (kV HO379.out) gb402 (Nat.le_of_eq hg.symm)) hb); have n1_ := k0 (Kd.R_below (kR HO382.out) hb); have n2_ := k0 (Kd.S_below (kS HO389.out) hb); have n3_ := k0 (Kd.R_below (kR HO392.out) hb); have n4_ := k0 (Kd.S_below (kS HO397.out) hb); have n5_ := k0 (Kd.R_below (kR HO400.out) hb); have n6_ := k0 (kb BK383.out hb); have n7_ := k0 (kb BK394.out hb); have n8_ := k0 (below_step (kW HB.out) hb); have n9_ := k0 (hbox); have n10_ := k0 (kY HB.out hg); have n11_ := k0 (kY HB.out hg); have n12_ := k0 ((by rw [hg]; exact Nat.ne_of_lt (blk_lt (g := gb383) (o := .cells #[.slice Ao16 t377.length co16, .slice Ao18 t380.length co18] 28 (0, 0)) (kB BK383.out)) : gb383 ≠ gb402)); have n13_ := k0 ((by rw [hg]; exact Nat.ne_of_gt (blk_lt (g := gb383) (o := .cells #[.slice Ao16 t377.length co16, .slice Ao18 t380.length co18] 28 (0, 0)) (kB BK383.out)) : gb402 ≠ gb383)); have n14_ := k0 ((by rw [hg]; exact Nat.ne_of_lt (blk_lt (g := gb394) (o := .cells #[.slice Ao26 t387.length co26, .slice Ao29 t390.length co29] 28 (0, 0)) (kB BK394.out)) : gb394 ≠ gb402)); have n15_ := k0 ((by rw [hg]; exact Nat.ne_of_gt (blk_lt (g := gb394) (o := .cells #[.slice Ao26 t387.length co26, .slice Ao29 t390.length co29] 28 (0, 0)) (kB BK394.out)) : gb402 ≠ gb394)); clear HO379; clear HO382; clear HO389; clear HO392; clear HO397; clear HO400; clear BK383; clear BK394; clear HB; have HO379 := n0_; have HO382 := n1_; have HO389 := n2_; have HO392 := n3_; have HO397 := n4_; have HO400 := n5_; have BK383 := n6_; have BK394 := n7_; have HB := n8_; have BK402 := n9_; have GW402 := n10_; have GE402 := n11_; have NB383_402 := n12_; have NB402_383 := n13_; have NB394_402 := n14_; have NB402_394 := n15_; clear n0_ n1_ n2_ n3_ n4_ n5_ n6_ n7_ n8_ n9_ n10_ n11_ n12_ n13_ n14_ n15_; clear hb hbox hg; obtain ⟨Ao33, co33, eo33⟩ := Kd.S_slice HO397.out; subst eo33; have hnb34 := NB402_383.out; have hnc34 := NB383_402.out; have hnb35 := NB402_394.out; have hnc35 := NB394_402.out; have hcz36_0 : w32.cell? ⟨gb402, 0, none⟩ = some (.slice none 0 0) := kx BK402.out; have hcz36_1 : w32.cell? ⟨gb402, 1, none⟩ = some (.slice none 0 0) := kx BK402.out; have hfz36_0 := blk_frozen BK402.out 0; have hfz36_1 := blk_frozen BK402.out 1; obtain ⟨Ao37, co37, eo37⟩ := Kd.R_slice HO400.out; subst eo37; have hcz38_0 : w32.cell? ⟨gb383, 0, none⟩ = some (.slice Ao16 t377.length co16) := kx BK383.out; have hcz38_1 : w32.cell? ⟨gb383, 1, none⟩ = some (.slice Ao18 t380.length co18) := kx BK383.out; have hfz38_0 := blk_frozen BK383.out 0; have hfz38_1 := blk_frozen BK383.out 1) | ((with_reducible refine gate_callee (f := 29) rfl ?_); refine kG (some 56) Try.func29 #[.agg #[.slice Ao16 t377.length co16, .slice Ao18 t380.length co18], .int .i64 t384, .int .i64 (wrap64 (1 + t385))] ?_; (with_reducible refine (impl_Mint.calls k _ _ t377 _ _ t380 t384 (wrap64 (1 + t385)) t403 t406 t409 _ ?side1 ?side2 ?side3 ?side4 A11.out).mono ?_); (case side1 => refine (Kd.V_reads' (e := 23) (base := w.heap.size) (ok := fun k_ => (((((((some k_ ≠ (.slice Ao18 t380.length co18 : Value).ownBlock ∧ k_ ≠ gb383) ∧ some k_ ≠ (.slice Ao26 t387.length co26 : Value).ownBlock) ∧ some k_ ≠ (.slice Ao29 t390.length co29 : Value).ownBlock) ∧ k_ ≠ gb394) ∧ some k_ ≠ (.slice Ao33 t395.length co33 : Value).ownBlock) ∧ some k_ ≠ (.slice Ao37 t398.length co37 : Value).ownBlock) ∧ k_ ≠ gb402)) (n := t377.length) (c := co16) ?_).2.2; exact (by (with_reducible repeat (first | apply Kd.V_alloc | apply Kd.V_drewN | apply Kd.V_drew)); exact (Kd.V_mono (Kd.V_far (p := ⟨gb402, 1, none⟩) (Kd.V_far (p := ⟨gb402, 0, none⟩) (Kd.V_mono HO379.out (fun k_ hk => (⟨hk, hk.2⟩ : _ ∧ k_ ≠ gb402))) (fun _ hk => hk.2) (.slice Ao33 t395.length co33)) (fun _ hk => hk.2) (.slice Ao37 t398.length co37)) (fun _ h_ => h_.1)))); (case side2 => exact (Kd.V_reads' HO379.out).2.1); (case side3 => refine (Kd.R_reads' (e := 3) (base := w.heap.size) (ok := fun k_ => ((True ∧ some k_ ≠ (.slice Ao29 t390.length co29 : Value).ownBlock) ∧ some k_ ≠ (.slice Ao37 t398.length co37 : Value).ownBlock)) (n := t380.length) (c := co18) ?_).2.2; exact (by (with_reducible repeat (first | apply Kd.R_alloc | apply Kd.R_drewN | apply Kd.R_drew)); exact (Kd.R_mono (Kd.R_far (p := ⟨gb402, 1, none⟩) (Kd.R_far (p := ⟨gb402, 0, none⟩) (Kd.R_types HO382.out BK402.out (by decide)) (fun _ hk => hk.2) (.slice Ao33 t395.length co33)) (fun _ hk => hk.2) (.slice Ao37 t398.length co37)) (fun _ h_ => h_.1)))); (case side4 => exact (Kd.R_reads' HO382.out).2.1); rintro e w39 ⟨v404, v407, rfl, ho0, ho1, hb⟩; refine ⟨_, rfl, ?_⟩; have n0_ := k0 (Kd.V_mono (Kd.V_told (Kd.V_told (Kd.V_old (by (with_reducible repeat (first | apply Kd.V_alloc | apply Kd.V_drewN | apply Kd.V_drew)); exact (Kd.V_mono (Kd.V_far (p := ⟨gb402, 1, none⟩) (Kd.V_far (p := ⟨gb402, 0, none⟩) (Kd.V_mono HO379.out (fun k_ hk => (⟨hk, hk.2⟩ : _ ∧ k_ ≠ gb402))) (fun _ hk => hk.2) (.slice Ao33 t395.length co33)) (fun _ hk => hk.2) (.slice Ao37 t398.length co37)) (fun _ h_ => h_.1))) hb) (Kd.S_base ho0)) (Kd.R_base ho1)) (fun _ h_ => h_.1)); have n1_ := k0 (Kd.R_elder' (by (with_reducible repeat (first | apply Kd.R_alloc | apply Kd.R_drewN | apply Kd.R_drew)); exact (Kd.R_mono (Kd.R_far (p := ⟨gb402, 1, none⟩) (Kd.R_far (p := ⟨gb402, 0, none⟩) (Kd.R_types HO382.out BK402.out (by decide)) (fun _ hk => hk.2) (.slice Ao33 t395.length co33)) (fun _ hk => hk.2) (.slice Ao37 t398.length co37)) (fun _ h_ => h_.1))) (Kd.R_base ho1) hb); have n2_ := k0 (Kd.S_mono (Kd.S_told (Kd.S_told (Kd.S_old (by (with_reducible repeat (first | apply Kd.S_alloc | apply Kd.S_drewN | apply Kd.S_drew)); exact (Kd.S_mono (Kd.S_far (p := ⟨gb402, 1, none⟩) (Kd.S_far (p := ⟨gb402, 0, none⟩) (Kd.S_types HO389.out BK402.out (by decide)) (fun _ hk => hk.2) (.slice Ao33 t395.length co33)) (fun _ hk => hk.2) (.slice Ao37 t398.length co37)) (fun _ h_ => h_.1))) hb) (Kd.S_base ho0)) (Kd.R_base ho1)) (fun _ h_ => h_.1)); have n3_ := k0 (Kd.R_elder' (by (with_reducible repeat (first | apply Kd.R_alloc | apply Kd.R_drewN | apply Kd.R_drew)); exact (Kd.R_mono (Kd.R_far (p := ⟨gb402, 1, none⟩) (Kd.R_far (p := ⟨gb402, 0, none⟩) (Kd.R_types HO392.out BK402.out (by decide)) (fun _ hk => hk.2) (.slice Ao33 t395.length co33)) (fun _ hk => hk.2) (.slice Ao37 t398.length co37)) (fun _ h_ => h_.1))) (Kd.R_base ho1) hb); have n4_ := k0 (Kd.S_mono (Kd.S_told (Kd.S_told (Kd.S_old (by (with_reducible repeat (first | apply Kd.S_alloc | apply Kd.S_drewN | apply Kd.S_drew)); exact (Kd.S_mono (Kd.S_far (p := ⟨gb402, 1, none⟩) (Kd.S_far (p := ⟨gb402, 0, none⟩) (Kd.S_types HO397.out BK402.out (by decide)) (fun _ hk => hk.2) (.slice Ao33 t395.length co33)) (fun _ hk => hk.2) (.slice Ao37 t398.length co37)) (fun _ h_ => h_.1))) hb) (Kd.S_base ho0)) (Kd.R_base ho1)) (fun _ h_ => h_.1)); have n5_ := k0 (Kd.R_elder' (by (with_reducible repeat (first | apply Kd.R_alloc | apply Kd.R_drewN | apply Kd.R_drew)); exact (Kd.R_mono (Kd.R_far (p := ⟨gb402, 1, none⟩) (Kd.R_far (p := ⟨gb402, 0, none⟩) (Kd.R_types HO400.out BK402.out (by decide)) (fun _ hk => hk.2) (.slice Ao33 t395.length co33)) (fun _ hk => hk.2) (.slice Ao37 t398.length co37)) (fun _ h_ => h_.1))) (Kd.R_base ho1) hb); have n6_ := k0 (Kd.S_lower (Kd.S_new' (Kd.S_new' (Kd.S_new' (Kd.S_new' (Kd.S_new' ho0 (Kd.R_lt (by (with_reducible repeat (first | apply Kd.R_alloc | apply Kd.R_drewN | apply Kd.R_drew)); exact (Kd.R_mono (Kd.R_far (p := ⟨gb402, 1, none⟩) (Kd.R_far (p := ⟨gb402, 0, none⟩) (Kd.R_types HO382.out BK402.out (by decide)) (fun _ hk => hk.2) (.slice Ao33 t395.length co33)) (fun _ hk => hk.2) (.slice Ao37 t398.length co37)) (fun _ h_ => h_.1))))) (Kd.S_lt (by (with_reducible repeat (first | apply Kd.S_alloc | apply Kd.S_drewN | apply Kd.S_drew)); exact (Kd.S_mono (Kd.S_far (p := ⟨gb402, 1, none⟩) (Kd.S_far (p := ⟨gb402, 0, none⟩) (Kd.S_types HO389.out BK402.out (by decide)) (fun _ hk => hk.2) (.slice Ao33 t395.length co33)) (fun _ hk => hk.2) (.slice Ao37 t398.length co37)) (fun _ h_ => h_.1))))) (Kd.R_lt (by (with_reducible repeat (first | apply Kd.R_alloc | apply Kd.R_drewN | apply Kd.R_drew)); exact (Kd.R_mono (Kd.R_far (p := ⟨gb402, 1, none⟩) (Kd.R_far (p := ⟨gb402, 0, none⟩) (Kd.R_types HO392.out BK402.out (by decide)) (fun _ hk => hk.2) (.slice Ao33 t395.length co33)) (fun _ hk => hk.2) (.slice Ao37 t398.length co37)) (fun _ h_ => h_.1))))) (Kd.S_lt (by (with_reducible repeat (first | apply Kd.S_alloc | apply Kd.S_drewN | apply Kd.S_drew)); exact (Kd.S_mono (Kd.S_far (p := ⟨gb402, 1, none⟩) (Kd.S_far (p := ⟨gb402, 0, none⟩) (Kd.S_types HO397.out BK402.out (by decide)) (fun _ hk => hk.2) (.slice Ao33 t395.length co33)) (fun _ hk => hk.2) (.slice Ao37 t398.length co37)) (fun _ h_ => h_.1))))) (Kd.R_lt (by (with_reducible repeat (first | apply Kd.R_alloc | apply Kd.R_drewN | apply Kd.R_drew)); exact (Kd.R_mono (Kd.R_far (p := ⟨gb402, 1, none⟩) (Kd.R_far (p := ⟨gb402, 0, none⟩) (Kd.R_types HO400.out BK402.out (by decide)) (fun _ hk => hk.2) (.slice Ao33 t395.length co33)) (fun _ hk => hk.2) (.slice Ao37 t398.length co37)) (fun _ h_ => h_.1))))) (below_size (kW HB.out))); have n7_ := k0 (Kd.R_lower (Kd.R_new' (Kd.R_new' (Kd.R_new' ho1 (Kd.R_lt (by (with_reducible repeat (first | apply Kd.R_alloc | apply Kd.R_drewN | apply Kd.R_drew)); exact (Kd.R_mono (Kd.R_far (p := ⟨gb402, 1, none⟩) (Kd.R_far (p := ⟨gb402, 0, none⟩) (Kd.R_types HO382.out BK402.out (by decide)) (fun _ hk => hk.2) (.slice Ao33 t395.length co33)) (fun _ hk => hk.2) (.slice Ao37 t398.length co37)) (fun _ h_ => h_.1))))) (Kd.R_lt (by (with_reducible repeat (first | apply Kd.R_alloc | apply Kd.R_drewN | apply Kd.R_drew)); exact (Kd.R_mono (Kd.R_far (p := ⟨gb402, 1, none⟩) (Kd.R_far (p := ⟨gb402, 0, none⟩) (Kd.R_types HO392.out BK402.out (by decide)) (fun _ hk => hk.2) (.slice Ao33 t395.length co33)) (fun _ hk => hk.2) (.slice Ao37 t398.length co37)) (fun _ h_ => h_.1))))) (Kd.R_lt (by (with_reducible repeat (first | apply Kd.R_alloc | apply Kd.R_drewN | apply Kd.R_drew)); exact (Kd.R_mono (Kd.R_far (p := ⟨gb402, 1, none⟩) (Kd.R_far (p := ⟨gb402, 0, none⟩) (Kd.R_types HO400.out BK402.out (by decide)) (fun _ hk => hk.2) (.slice Ao33 t395.length co33)) (fun _ hk => hk.2) (.slice Ao37 t398.length co37)) (fun _ h_ => h_.1))))) (below_size (kW HB.out))); have n8_ := k0 (blk_below (g := gb383) (o := .cells #[.slice Ao16 t377.length co16, .slice Ao18 t380.length co18] 28 (0, 0)) (by (with_reducible repeat first | apply k1 | apply k2 | apply k3); refine blk_far ?_ NB383_402.out _; (with_reducible repeat first | apply k1 | apply k2 | apply k3); refine blk_far ?_ NB383_402.out _; (with_reducible repeat first | apply k1 | apply k2 | apply k3); exact BK383.out) hb); have n9_ := k0 (blk_below (g := gb394) (o := .cells #[.slice Ao26 t387.length co26, .slice Ao29 t390.length co29] 28 (0, 0)) (by (with_reducible repeat first | apply k1 | apply k2 | apply k3); refine blk_far ?_ NB394_402.out _; (with_reducible repeat first | apply k1 | apply k2 | apply k3); refine blk_far ?_ NB394_402.out _; (with_reducible repeat first | apply k1 | apply k2 | apply k3); exact BK394.out) hb); have n10_ := k0 (blk_below (g := gb402) (o := .cells #[.slice Ao33 t395.length co33, .slice Ao37 t398.length co37] 28 (0, 0)) (by (with_reducible repeat first | apply k1 | apply k2 | apply k3); refine blk_put (cs := #[.slice Ao33 t395.length co33, .slice none 0 0]) ?_ 1 _ rfl; (with_reducible repeat first | apply k1 | apply k2 | apply k3); refine blk_put (cs := #[.slice none 0 0, .slice none 0 0]) ?_ 0 _ rfl; (with_reducible repeat first | apply k1 | apply k2 | apply k3); exact BK402.out) hb); have n11_ := k0 (below_step (kW HB.out) hb); clear HO379; clear HO382; clear HO389; clear HO392; clear HO397; clear HO400; clear BK383; clear BK394; clear BK402; clear HB; have HO379 := n0_; have HO382 := n1_; have HO389 := n2_; have HO392 := n3_; have HO397 := n4_; have HO400 := n5_; have HO405 := n6_; have HO408 := n7_; have BK383 := n8_; have BK394 := n9_; have BK402 := n10_; have HB := n11_; clear n0_ n1_ n2_ n3_ n4_ n5_ n6_ n7_ n8_ n9_ n10_ n11_; (try clear hb); (try clear hb2); (try clear hk); (try clear hi); (try clear ho0); (try clear ho1)) | ((with_reducible refine gate_dst (N := 13) rfl ?_); refine kE (N := 13) (cs := #[.slice none 0 0, .slice none 0 0]) (t := 28) ?_; intro gb410 hg w40 hbox hb; have n0_ := k0 (Kd.V_below (Kd.V_elderB (kV HO379.out) gb410 (Nat.le_of_eq hg.symm)) hb); have n1_ := k0 (Kd.R_below (kR HO382.out) hb); have n2_ := k0 (Kd.S_below (kS HO389.out) hb); have n3_ := k0 (Kd.R_below (kR HO392.out) hb); have n4_ := k0 (Kd.S_below (kS HO397.out) hb); have n5_ := k0 (Kd.R_below (kR HO400.out) hb); have n6_ := k0 (Kd.S_below (kS HO405.out) hb); have n7_ := k0 (Kd.R_below (kR HO408.out) hb); have n8_ := k0 (kb BK383.out hb); have n9_ := k0 (kb BK394.out hb); have n10_ := k0 (kb BK402.out hb); have n11_ := k0 (below_step (kW HB.out) hb); have n12_ := k0 (hbox); have n13_ := k0 (kY HB.out hg); have n14_ := k0 (kY HB.out hg); have n15_ := k0 ((by rw [hg]; exact Nat.ne_of_lt (blk_lt (g := gb383) (o := .cells #[.slice Ao16 t377.length co16, .slice Ao18 t380.length co18] 28 (0, 0)) (kB BK383.out)) : gb383 ≠ gb410)); have n16_ := k0 ((by rw [hg]; exact Nat.ne_of_gt (blk_lt (g := gb383) (o := .cells #[.slice Ao16 t377.length co16, .slice Ao18 t380.length co18] 28 (0, 0)) (kB BK383.out)) : gb410 ≠ gb383)); have n17_ := k0 ((by rw [hg]; exact Nat.ne_of_lt (blk_lt (g := gb394) (o := .cells #[.slice Ao26 t387.length co26, .slice Ao29 t390.length co29] 28 (0, 0)) (kB BK394.out)) : gb394 ≠ gb410)); have n18_ := k0 ((by rw [hg]; exact Nat.ne_of_gt (blk_lt (g := gb394) (o := .cells #[.slice Ao26 t387.length co26, .slice Ao29 t390.length co29] 28 (0, 0)) (kB BK394.out)) : gb410 ≠ gb394)); have n19_ := k0 ((by rw [hg]; exact Nat.ne_of_lt (blk_lt (g := gb402) (o := .cells #[.slice Ao33 t395.length co33, .slice Ao37 t398.length co37] 28 (0, 0)) (kB BK402.out)) : gb402 ≠ gb410)); have n20_ := k0 ((by rw [hg]; exact Nat.ne_of_gt (blk_lt (g := gb402) (o := .cells #[.slice Ao33 t395.length co33, .slice Ao37 t398.length co37] 28 (0, 0)) (kB BK402.out)) : gb410 ≠ gb402)); clear HO379; clear HO382; clear HO389; clear HO392; clear HO397; clear HO400; clear HO405; clear HO408; clear BK383; clear BK394; clear BK402; clear HB; have HO379 := n0_; have HO382 := n1_; have HO389 := n2_; have HO392 := n3_; have HO397 := n4_; have HO400 := n5_; have HO405 := n6_; have HO408 := n7_; have BK383 := n8_; have BK394 := n9_; have BK402 := n10_; have HB := n11_; have BK410 := n12_; have GW410 := n13_; have GE410 := n14_; have NB383_410 := n15_; have NB410_383 := n16_; have NB394_410 := n17_; have NB410_394 := n18_; have NB402_410 := n19_; have NB410_402 := n20_; clear n0_ n1_ n2_ n3_ n4_ n5_ n6_ n7_ n8_ n9_ n10_ n11_ n12_ n13_ n14_ n15_ n16_ n17_ n18_ n19_ n20_; clear hb hbox hg; obtain ⟨Ao41, co41, eo41⟩ := Kd.S_slice HO405.out; subst eo41; have hnb42 := NB410_383.out; have hnc42 := NB383_410.out; have hnb43 := NB410_394.out; have hnc43 := NB394_410.out; have hnb44 := NB410_402.out; have hnc44 := NB402_410.out; have hcz45_0 : w40.cell? ⟨gb410, 0, none⟩ = some (.slice none 0 0) := kx BK410.out; have hcz45_1 : w40.cell? ⟨gb410, 1, none⟩ = some (.slice none 0 0) := kx BK410.out; have hfz45_0 := blk_frozen BK410.out 0; have hfz45_1 := blk_frozen BK410.out 1; obtain ⟨Ao46, co46, eo46⟩ := Kd.R_slice HO408.out; subst eo46))
   (try simp only [Act.put, List.setIfInBounds_toArray, List.set_cons_zero, List.set_cons_succ])
   go_cut [101] (fun v101 wc => ∃ (kq : Nat) (x101_11 : Bool), v101 = .bool x101_11 ∧ Aside0 (laws_FnRights.j0 kq t384 (Int.tmod (wrap64 (t384 + 1)) (wrap64 (2 + t376))) (wrap64 (1 + t385)) t386 t393 x101_11 t377 t380 t387 t390 t395 t398 = some r) ∧ Aside0 (kq ≤ k) ∧ Aside0 (Kd.V (Kd.slice 3 (Kd.int .i64)) 23 wc w.heap.size (fun k_ => some k_ ≠ ((.slice Ao18 t380.length co18) : Value).ownBlock ∧ some k_ ≠ ((.slice Ao26 t387.length co26) : Value).ownBlock ∧ some k_ ≠ ((.slice Ao29 t390.length co29) : Value).ownBlock ∧ some k_ ≠ ((.slice Ao33 t395.length co33) : Value).ownBlock ∧ some k_ ≠ ((.slice Ao37 t398.length co37) : Value).ownBlock ∧ some k_ ≠ ((.slice Ao41 t403.length co41) : Value).ownBlock ∧ some k_ ≠ ((.slice Ao46 t406.length co46) : Value).ownBlock ∧ k_ ≠ gb383 ∧ k_ ≠ gb394 ∧ k_ ≠ gb402 ∧ k_ ≠ gb410) (.slice Ao16 t377.length co16) t377) ∧ Aside0 (Kd.R (Kd.int .i64) 3 wc w.heap.size (fun k_ => some k_ ≠ ((.slice Ao29 t390.length co29) : Value).ownBlock ∧ some k_ ≠ ((.slice Ao37 t398.length co37) : Value).ownBlock ∧ some k_ ≠ ((.slice Ao46 t406.length co46) : Value).ownBlock) (.slice Ao18 t380.length co18) t380) ∧ Aside0 (Kd.S (Kd.slice 3 (Kd.int .i64)) 23 wc w.heap.size (fun k_ => some k_ ≠ ((.slice Ao18 t380.length co18) : Value).ownBlock ∧ some k_ ≠ ((.slice Ao29 t390.length co29) : Value).ownBlock ∧ some k_ ≠ ((.slice Ao33 t395.length co33) : Value).ownBlock ∧ some k_ ≠ ((.slice Ao37 t398.length co37) : Value).ownBlock ∧ some k_ ≠ ((.slice Ao41 t403.length co41) : Value).ownBlock ∧ some k_ ≠ ((.slice Ao46 t406.length co46) : Value).ownBlock) (.slice Ao26 t387.length co26) t387) ∧ Aside0 (Kd.R (Kd.int .i64) 3 wc w.heap.size (fun k_ => some k_ ≠ ((.slice Ao18 t380.length co18) : Value).ownBlock ∧ some k_ ≠ ((.slice Ao37 t398.length co37) : Value).ownBlock ∧ some k_ ≠ ((.slice Ao46 t406.length co46) : Value).ownBlock) (.slice Ao29 t390.length co29) t390) ∧ Aside0 (Kd.S (Kd.slice 3 (Kd.int .i64)) 23 wc w.heap.size (fun k_ => some k_ ≠ ((.slice Ao18 t380.length co18) : Value).ownBlock ∧ some k_ ≠ ((.slice Ao26 t387.length co26) : Value).ownBlock ∧ some k_ ≠ ((.slice Ao29 t390.length co29) : Value).ownBlock ∧ some k_ ≠ ((.slice Ao37 t398.length co37) : Value).ownBlock ∧ some k_ ≠ ((.slice Ao41 t403.length co41) : Value).ownBlock ∧ some k_ ≠ ((.slice Ao46 t406.length co46) : Value).ownBlock) (.slice Ao33 t395.length co33) t395) ∧ Aside0 (Kd.R (Kd.int .i64) 3 wc w.heap.size (fun k_ => some k_ ≠ ((.slice Ao18 t380.length co18) : Value).ownBlock ∧ some k_ ≠ ((.slice Ao29 t390.length co29) : Value).ownBlock ∧ some k_ ≠ ((.slice Ao46 t406.length co46) : Value).ownBlock) (.slice Ao37 t398.length co37) t398) ∧ Aside0 (Kd.S (Kd.slice 3 (Kd.int .i64)) 23 wc w.heap.size (fun k_ => some k_ ≠ ((.slice Ao18 t380.length co18) : Value).ownBlock ∧ some k_ ≠ ((.slice Ao26 t387.length co26) : Value).ownBlock ∧ some k_ ≠ ((.slice Ao29 t390.length co29) : Value).ownBlock ∧ some k_ ≠ ((.slice Ao33 t395.length co33) : Value).ownBlock ∧ some k_ ≠ ((.slice Ao37 t398.length co37) : Value).ownBlock ∧ some k_ ≠ ((.slice Ao46 t406.length co46) : Value).ownBlock) (.slice Ao41 t403.length co41) t403) ∧ Aside0 (Kd.R (Kd.int .i64) 3 wc w.heap.size (fun k_ => some k_ ≠ ((.slice Ao18 t380.length co18) : Value).ownBlock ∧ some k_ ≠ ((.slice Ao29 t390.length co29) : Value).ownBlock ∧ some k_ ≠ ((.slice Ao37 t398.length co37) : Value).ownBlock) (.slice Ao46 t406.length co46) t406) ∧ Aside0 (wc.heap[gb383]? = some (.cells #[(.slice Ao16 t377.length co16), (.slice Ao18 t380.length co18)] 28 (0, 0))) ∧ Aside0 (wc.heap[gb394]? = some (.cells #[(.slice Ao26 t387.length co26), (.slice Ao29 t390.length co29)] 28 (0, 0))) ∧ Aside0 (wc.heap[gb402]? = some (.cells #[(.slice Ao33 t395.length co33), (.slice Ao37 t398.length co37)] 28 (0, 0))) ∧ Aside0 (wc.heap[gb410]? = some (.cells #[(.slice Ao41 t403.length co41), (.slice Ao46 t406.length co46)] 28 (0, 0))) ∧ Aside0 (Below w.heap.size w wc))
   case first =>
    have H := HC12.out
    clear HC12
    replace H := Option.bind_eq_some_iff.mp H
    obtain ⟨t411, A470, H⟩ := H
    replace H : (if t411 = true then (if t386 < 0 then (laws_FnRights.j0 k t384 (Int.tmod (wrap64 (t384 + 1)) (wrap64 (2 + t376))) (wrap64 (1 + t385)) t386 t393 true t377 t380 t387 t390 t395 t398) else (if (t393 != (decide (t386 ≥ (wrap64 (1 + t385))))) = true then (laws_FnRights.j0 k t384 (Int.tmod (wrap64 (t384 + 1)) (wrap64 (2 + t376))) (wrap64 (1 + t385)) t386 t393 true t377 t380 t387 t390 t395 t398) else (if (t401 != (decide (t386 ≥ (wrap64 (1 + t385))))) = true then (laws_FnRights.j0 k t384 (Int.tmod (wrap64 (t384 + 1)) (wrap64 (2 + t376))) (wrap64 (1 + t385)) t386 t393 true t377 t380 t387 t390 t395 t398) else (if t409 = true then ((impl_AllOf.f k t403 t406).bind fun t412 => ((impl_AllOf.f k t377 t380).bind fun t413 => (if t412 = (wrap64 (t413 + (wrap64 (1 + t385)))) then ((impl_HasOf.f k t403 t406 t384).bind fun t414 => (laws_FnRights.j0 k t384 (Int.tmod (wrap64 (t384 + 1)) (wrap64 (2 + t376))) (wrap64 (1 + t385)) t386 t393 (t414 != (wrap64 (t386 + (wrap64 (1 + t385))))) t377 t380 t387 t390 t395 t398)) else (laws_FnRights.j0 k t384 (Int.tmod (wrap64 (t384 + 1)) (wrap64 (2 + t376))) (wrap64 (1 + t385)) t386 t393 true t377 t380 t387 t390 t395 t398)))) else (laws_FnRights.j0 k t384 (Int.tmod (wrap64 (t384 + 1)) (wrap64 (2 + t376))) (wrap64 (1 + t385)) t386 t393 true t377 t380 t387 t390 t395 t398))))) else (laws_FnRights.j0 k t384 (Int.tmod (wrap64 (t384 + 1)) (wrap64 (2 + t376))) (wrap64 (1 + t385)) t386 t393 true t377 t380 t387 t390 t395 t398)) = some r := H
    have A47 := Aside0.mk A470
    clear A470
    have z0_ : Aside0 (Kd.V (Kd.slice 3 (Kd.int .i64)) 23 ((w40.setCell ⟨gb410, 0, none⟩ (.slice Ao41 t403.length co41)).setCell ⟨gb410, 1, none⟩ (.slice Ao46 t406.length co46)) w.heap.size (fun k_ => some k_ ≠ (.slice Ao18 t380.length co18 : Value).ownBlock ∧ some k_ ≠ (.slice Ao26 t387.length co26 : Value).ownBlock ∧ some k_ ≠ (.slice Ao29 t390.length co29 : Value).ownBlock ∧ some k_ ≠ (.slice Ao33 t395.length co33 : Value).ownBlock ∧ some k_ ≠ (.slice Ao37 t398.length co37 : Value).ownBlock ∧ some k_ ≠ (.slice Ao41 t403.length co41 : Value).ownBlock ∧ some k_ ≠ (.slice Ao46 t406.length co46 : Value).ownBlock ∧ k_ ≠ gb383 ∧ k_ ≠ gb394 ∧ k_ ≠ gb402 ∧ k_ ≠ gb410) (.slice Ao16 t377.length co16) t377) := ⟨by (with_reducible repeat (first | apply Kd.V_alloc | apply Kd.V_drewN | apply Kd.V_drew)); exact Kd.V_mono (Kd.V_far (p := ⟨gb410, 1, none⟩) (Kd.V_far (p := ⟨gb410, 0, none⟩) (Kd.V_mono HO379.out (fun k_ hk => (⟨hk, hk.2⟩ : _ ∧ k_ ≠ gb410))) (fun _ hk => hk.2) (.slice Ao41 t403.length co41)) (fun _ hk => hk.2) (.slice Ao46 t406.length co46)) (fun _ hk => ⟨hk.1.1.1.1.1.1.1.1.1.1.1, ⟨hk.1.1.1.1.1.1.1.1.1.2, ⟨hk.1.1.1.1.1.1.1.1.2, ⟨hk.1.1.1.1.1.1.2, ⟨hk.1.1.1.1.1.2, ⟨hk.1.1.1.2, ⟨hk.1.1.2, ⟨hk.1.1.1.1.1.1.1.1.1.1.2, ⟨hk.1.1.1.1.1.1.1.2, ⟨hk.1.1.1.1.2, hk.1.2⟩⟩⟩⟩⟩⟩⟩⟩⟩⟩)⟩
    have z1_ : Aside0 (Kd.R (Kd.int .i64) 3 ((w40.setCell ⟨gb410, 0, none⟩ (.slice Ao41 t403.length co41)).setCell ⟨gb410, 1, none⟩ (.slice Ao46 t406.length co46)) w.heap.size (fun k_ => some k_ ≠ (.slice Ao29 t390.length co29 : Value).ownBlock ∧ some k_ ≠ (.slice Ao37 t398.length co37 : Value).ownBlock ∧ some k_ ≠ (.slice Ao46 t406.length co46 : Value).ownBlock) (.slice Ao18 t380.length co18) t380) := ⟨by (with_reducible repeat (first | apply Kd.R_alloc | apply Kd.R_drewN | apply Kd.R_drew)); exact Kd.R_mono (Kd.R_far (p := ⟨gb410, 1, none⟩) (Kd.R_far (p := ⟨gb410, 0, none⟩) (Kd.R_types HO382.out BK410.out (by decide)) (fun _ hk => hk.2) (.slice Ao41 t403.length co41)) (fun _ hk => hk.2) (.slice Ao46 t406.length co46)) (fun _ hk => ⟨hk.1.1.1.2, ⟨hk.1.1.2, hk.1.2⟩⟩)⟩
    have z2_ : Aside0 (Kd.S (Kd.slice 3 (Kd.int .i64)) 23 ((w40.setCell ⟨gb410, 0, none⟩ (.slice Ao41 t403.length co41)).setCell ⟨gb410, 1, none⟩ (.slice Ao46 t406.length co46)) w.heap.size (fun k_ => some k_ ≠ (.slice Ao18 t380.length co18 : Value).ownBlock ∧ some k_ ≠ (.slice Ao29 t390.length co29 : Value).ownBlock ∧ some k_ ≠ (.slice Ao33 t395.length co33 : Value).ownBlock ∧ some k_ ≠ (.slice Ao37 t398.length co37 : Value).ownBlock ∧ some k_ ≠ (.slice Ao41 t403.length co41 : Value).ownBlock ∧ some k_ ≠ (.slice Ao46 t406.length co46 : Value).ownBlock) (.slice Ao26 t387.length co26) t387) := ⟨by (with_reducible repeat (first | apply Kd.S_alloc | apply Kd.S_drewN | apply Kd.S_drew)); exact Kd.S_mono (Kd.S_far (p := ⟨gb410, 1, none⟩) (Kd.S_far (p := ⟨gb410, 0, none⟩) (Kd.S_types HO389.out BK410.out (by decide)) (fun _ hk => hk.2) (.slice Ao41 t403.length co41)) (fun _ hk => hk.2) (.slice Ao46 t406.length co46)) (fun _ hk => ⟨hk.1.1.1.1.1.2, ⟨hk.1.1.1.1.1.1, ⟨hk.1.1.1.1.2, ⟨hk.1.1.1.2, ⟨hk.1.1.2, hk.1.2⟩⟩⟩⟩⟩)⟩
    have z3_ : Aside0 (Kd.R (Kd.int .i64) 3 ((w40.setCell ⟨gb410, 0, none⟩ (.slice Ao41 t403.length co41)).setCell ⟨gb410, 1, none⟩ (.slice Ao46 t406.length co46)) w.heap.size (fun k_ => some k_ ≠ (.slice Ao18 t380.length co18 : Value).ownBlock ∧ some k_ ≠ (.slice Ao37 t398.length co37 : Value).ownBlock ∧ some k_ ≠ (.slice Ao46 t406.length co46 : Value).ownBlock) (.slice Ao29 t390.length co29) t390) := ⟨by (with_reducible repeat (first | apply Kd.R_alloc | apply Kd.R_drewN | apply Kd.R_drew)); exact Kd.R_mono (Kd.R_far (p := ⟨gb410, 1, none⟩) (Kd.R_far (p := ⟨gb410, 0, none⟩) (Kd.R_types HO392.out BK410.out (by decide)) (fun _ hk => hk.2) (.slice Ao41 t403.length co41)) (fun _ hk => hk.2) (.slice Ao46 t406.length co46)) (fun _ hk => ⟨hk.1.1.1.2, ⟨hk.1.1.2, hk.1.2⟩⟩)⟩
    have z4_ : Aside0 (Kd.S (Kd.slice 3 (Kd.int .i64)) 23 ((w40.setCell ⟨gb410, 0, none⟩ (.slice Ao41 t403.length co41)).setCell ⟨gb410, 1, none⟩ (.slice Ao46 t406.length co46)) w.heap.size (fun k_ => some k_ ≠ (.slice Ao18 t380.length co18 : Value).ownBlock ∧ some k_ ≠ (.slice Ao26 t387.length co26 : Value).ownBlock ∧ some k_ ≠ (.slice Ao29 t390.length co29 : Value).ownBlock ∧ some k_ ≠ (.slice Ao37 t398.length co37 : Value).ownBlock ∧ some k_ ≠ (.slice Ao41 t403.length co41 : Value).ownBlock ∧ some k_ ≠ (.slice Ao46 t406.length co46 : Value).ownBlock) (.slice Ao33 t395.length co33) t395) := ⟨by (with_reducible repeat (first | apply Kd.S_alloc | apply Kd.S_drewN | apply Kd.S_drew)); exact Kd.S_mono (Kd.S_far (p := ⟨gb410, 1, none⟩) (Kd.S_far (p := ⟨gb410, 0, none⟩) (Kd.S_types HO397.out BK410.out (by decide)) (fun _ hk => hk.2) (.slice Ao41 t403.length co41)) (fun _ hk => hk.2) (.slice Ao46 t406.length co46)) (fun _ hk => ⟨hk.1.1.1.1.1.2, ⟨hk.1.1.1.1.2, ⟨hk.1.1.1.2, ⟨hk.1.1.1.1.1.1, ⟨hk.1.1.2, hk.1.2⟩⟩⟩⟩⟩)⟩
    have z5_ : Aside0 (Kd.R (Kd.int .i64) 3 ((w40.setCell ⟨gb410, 0, none⟩ (.slice Ao41 t403.length co41)).setCell ⟨gb410, 1, none⟩ (.slice Ao46 t406.length co46)) w.heap.size (fun k_ => some k_ ≠ (.slice Ao18 t380.length co18 : Value).ownBlock ∧ some k_ ≠ (.slice Ao29 t390.length co29 : Value).ownBlock ∧ some k_ ≠ (.slice Ao46 t406.length co46 : Value).ownBlock) (.slice Ao37 t398.length co37) t398) := ⟨by (with_reducible repeat (first | apply Kd.R_alloc | apply Kd.R_drewN | apply Kd.R_drew)); exact Kd.R_mono (Kd.R_far (p := ⟨gb410, 1, none⟩) (Kd.R_far (p := ⟨gb410, 0, none⟩) (Kd.R_types HO400.out BK410.out (by decide)) (fun _ hk => hk.2) (.slice Ao41 t403.length co41)) (fun _ hk => hk.2) (.slice Ao46 t406.length co46)) (fun _ hk => ⟨hk.1.1.1.2, ⟨hk.1.1.2, hk.1.2⟩⟩)⟩
    have z6_ : Aside0 (Kd.S (Kd.slice 3 (Kd.int .i64)) 23 ((w40.setCell ⟨gb410, 0, none⟩ (.slice Ao41 t403.length co41)).setCell ⟨gb410, 1, none⟩ (.slice Ao46 t406.length co46)) w.heap.size (fun k_ => some k_ ≠ (.slice Ao18 t380.length co18 : Value).ownBlock ∧ some k_ ≠ (.slice Ao26 t387.length co26 : Value).ownBlock ∧ some k_ ≠ (.slice Ao29 t390.length co29 : Value).ownBlock ∧ some k_ ≠ (.slice Ao33 t395.length co33 : Value).ownBlock ∧ some k_ ≠ (.slice Ao37 t398.length co37 : Value).ownBlock ∧ some k_ ≠ (.slice Ao46 t406.length co46 : Value).ownBlock) (.slice Ao41 t403.length co41) t403) := ⟨by (with_reducible repeat (first | apply Kd.S_alloc | apply Kd.S_drewN | apply Kd.S_drew)); exact Kd.S_mono (Kd.S_far (p := ⟨gb410, 1, none⟩) (Kd.S_far (p := ⟨gb410, 0, none⟩) (Kd.S_types HO405.out BK410.out (by decide)) (fun _ hk => hk.2) (.slice Ao41 t403.length co41)) (fun _ hk => hk.2) (.slice Ao46 t406.length co46)) (fun _ hk => ⟨hk.1.1.1.1.1.2, ⟨hk.1.1.1.1.2, ⟨hk.1.1.1.2, ⟨hk.1.1.2, ⟨hk.1.2, hk.1.1.1.1.1.1⟩⟩⟩⟩⟩)⟩
    have z7_ : Aside0 (Kd.R (Kd.int .i64) 3 ((w40.setCell ⟨gb410, 0, none⟩ (.slice Ao41 t403.length co41)).setCell ⟨gb410, 1, none⟩ (.slice Ao46 t406.length co46)) w.heap.size (fun k_ => some k_ ≠ (.slice Ao18 t380.length co18 : Value).ownBlock ∧ some k_ ≠ (.slice Ao29 t390.length co29 : Value).ownBlock ∧ some k_ ≠ (.slice Ao37 t398.length co37 : Value).ownBlock) (.slice Ao46 t406.length co46) t406) := ⟨by (with_reducible repeat (first | apply Kd.R_alloc | apply Kd.R_drewN | apply Kd.R_drew)); exact Kd.R_mono (Kd.R_far (p := ⟨gb410, 1, none⟩) (Kd.R_far (p := ⟨gb410, 0, none⟩) (Kd.R_types HO408.out BK410.out (by decide)) (fun _ hk => hk.2) (.slice Ao41 t403.length co41)) (fun _ hk => hk.2) (.slice Ao46 t406.length co46)) (fun _ hk => ⟨hk.1.1.1.2, ⟨hk.1.1.2, hk.1.2⟩⟩)⟩
    have z8_ : Aside0 (((w40.setCell ⟨gb410, 0, none⟩ (.slice Ao41 t403.length co41)).setCell ⟨gb410, 1, none⟩ (.slice Ao46 t406.length co46)).heap[gb383]? = some (.cells #[.slice Ao16 t377.length co16, .slice Ao18 t380.length co18] 28 (0, 0))) := ⟨by (with_reducible repeat first | apply k1 | apply k2 | apply k3); refine blk_far ?_ NB383_410.out _; (with_reducible repeat first | apply k1 | apply k2 | apply k3); refine blk_far ?_ NB383_410.out _; (with_reducible repeat first | apply k1 | apply k2 | apply k3); exact BK383.out⟩
    have z9_ : Aside0 (((w40.setCell ⟨gb410, 0, none⟩ (.slice Ao41 t403.length co41)).setCell ⟨gb410, 1, none⟩ (.slice Ao46 t406.length co46)).heap[gb394]? = some (.cells #[.slice Ao26 t387.length co26, .slice Ao29 t390.length co29] 28 (0, 0))) := ⟨by (with_reducible repeat first | apply k1 | apply k2 | apply k3); refine blk_far ?_ NB394_410.out _; (with_reducible repeat first | apply k1 | apply k2 | apply k3); refine blk_far ?_ NB394_410.out _; (with_reducible repeat first | apply k1 | apply k2 | apply k3); exact BK394.out⟩
    have z10_ : Aside0 (((w40.setCell ⟨gb410, 0, none⟩ (.slice Ao41 t403.length co41)).setCell ⟨gb410, 1, none⟩ (.slice Ao46 t406.length co46)).heap[gb402]? = some (.cells #[.slice Ao33 t395.length co33, .slice Ao37 t398.length co37] 28 (0, 0))) := ⟨by (with_reducible repeat first | apply k1 | apply k2 | apply k3); refine blk_far ?_ NB402_410.out _; (with_reducible repeat first | apply k1 | apply k2 | apply k3); refine blk_far ?_ NB402_410.out _; (with_reducible repeat first | apply k1 | apply k2 | apply k3); exact BK402.out⟩
    have z11_ : Aside0 (((w40.setCell ⟨gb410, 0, none⟩ (.slice Ao41 t403.length co41)).setCell ⟨gb410, 1, none⟩ (.slice Ao46 t406.length co46)).heap[gb410]? = some (.cells #[.slice Ao41 t403.length co41, .slice Ao46 t406.length co46] 28 (0, 0))) := ⟨by (with_reducible repeat first | apply k1 | apply k2 | apply k3); refine blk_put (cs := #[.slice Ao41 t403.length co41, .slice none 0 0]) ?_ 1 _ rfl; (with_reducible repeat first | apply k1 | apply k2 | apply k3); refine blk_put (cs := #[.slice none 0 0, .slice none 0 0]) ?_ 0 _ rfl; (with_reducible repeat first | apply k1 | apply k2 | apply k3); exact BK410.out⟩
    have z12_ : Aside0 (Below w.heap.size w ((w40.setCell ⟨gb410, 0, none⟩ (.slice Ao41 t403.length co41)).setCell ⟨gb410, 1, none⟩ (.slice Ao46 t406.length co46))) := ⟨by repeat (first | (with_reducible first | exact HB.out | apply below_alloc | apply pw_below_drewN | apply below_drew1 | refine below_set ?_ GE383.out | refine below_set ?_ GE394.out | refine below_set ?_ GE402.out | refine below_set ?_ GE410.out) | exact HB.out)⟩
    by_cases c48 : t411 = true
    ·subst c48
     have H1 : (if t386 < 0 then (laws_FnRights.j0 k t384 (Int.tmod (wrap64 (t384 + 1)) (wrap64 (2 + t376))) (wrap64 (1 + t385)) t386 t393 true t377 t380 t387 t390 t395 t398) else (if (t393 != (decide (t386 ≥ (wrap64 (1 + t385))))) = true then (laws_FnRights.j0 k t384 (Int.tmod (wrap64 (t384 + 1)) (wrap64 (2 + t376))) (wrap64 (1 + t385)) t386 t393 true t377 t380 t387 t390 t395 t398) else (if (t401 != (decide (t386 ≥ (wrap64 (1 + t385))))) = true then (laws_FnRights.j0 k t384 (Int.tmod (wrap64 (t384 + 1)) (wrap64 (2 + t376))) (wrap64 (1 + t385)) t386 t393 true t377 t380 t387 t390 t395 t398) else (if t409 = true then ((impl_AllOf.f k t403 t406).bind fun t412 => ((impl_AllOf.f k t377 t380).bind fun t413 => (if t412 = (wrap64 (t413 + (wrap64 (1 + t385)))) then ((impl_HasOf.f k t403 t406 t384).bind fun t414 => (laws_FnRights.j0 k t384 (Int.tmod (wrap64 (t384 + 1)) (wrap64 (2 + t376))) (wrap64 (1 + t385)) t386 t393 (t414 != (wrap64 (t386 + (wrap64 (1 + t385))))) t377 t380 t387 t390 t395 t398)) else (laws_FnRights.j0 k t384 (Int.tmod (wrap64 (t384 + 1)) (wrap64 (2 + t376))) (wrap64 (1 + t385)) t386 t393 true t377 t380 t387 t390 t395 t398)))) else (laws_FnRights.j0 k t384 (Int.tmod (wrap64 (t384 + 1)) (wrap64 (2 + t376))) (wrap64 (1 + t385)) t386 t393 true t377 t380 t387 t390 t395 t398))))) = some r := by rw [if_pos rfl] at H; exact H
     clear H
     have H := H1
     clear H1
     by_cases c49 : t386 < 0
     ·rw [if_pos c49] at H
      have c49b0 : decide (t386 < 0) = true := decide_eq_true c49
      clear c49
      (first | rw [c49b0] | (simp only [i64_w, i32_w]; rw [c49b0]) | skip)
      have H' := Aside0.mk H
      clear H
      try go_wp2
      have n0_ := z0_
      have n1_ := z1_
      have n2_ := z2_
      have n3_ := z3_
      have n4_ := z4_
      have n5_ := z5_
      have n6_ := z6_
      have n7_ := z7_
      have n8_ := z8_
      have n9_ := z9_
      have n10_ := z10_
      have n11_ := z11_
      have n12_ := z12_
      (try clear HO379)
      (try clear HO382)
      (try clear HO389)
      (try clear HO392)
      (try clear HO397)
      (try clear HO400)
      (try clear HO405)
      (try clear HO408)
      (try clear BK383)
      (try clear BK394)
      (try clear BK402)
      (try clear BK410)
      (try clear HB)
      generalize ((w40.setCell ⟨gb410, 0, none⟩ (.slice Ao41 t403.length co41)).setCell ⟨gb410, 1, none⟩ (.slice Ao46 t406.length co46)) = w50 at n0_ n1_ n2_ n3_ n4_ n5_ n6_ n7_ n8_ n9_ n10_ n11_ n12_ ⊢
      have HO379 := n0_
      have HO382 := n1_
      have HO389 := n2_
      have HO392 := n3_
      have HO397 := n4_
      have HO400 := n5_
      have HO405 := n6_
      have HO408 := n7_
      have BK383 := n8_
      have BK394 := n9_
      have BK402 := n10_
      have BK410 := n11_
      have HB := n12_
      clear n0_ n1_ n2_ n3_ n4_ n5_ n6_ n7_ n8_ n9_ n10_ n11_ n12_
      have n0_ := k0 (Kd.V_drew HO379.out)
      have n1_ := k0 (Kd.R_drew HO382.out)
      have n2_ := k0 (Kd.S_drew HO389.out)
      have n3_ := k0 (Kd.R_drew HO392.out)
      have n4_ := k0 (Kd.S_drew HO397.out)
      have n5_ := k0 (Kd.R_drew HO400.out)
      have n6_ := k0 (Kd.S_drew HO405.out)
      have n7_ := k0 (Kd.R_drew HO408.out)
      have n8_ := k0 (blk_drew BK383.out)
      have n9_ := k0 (blk_drew BK394.out)
      have n10_ := k0 (blk_drew BK402.out)
      have n11_ := k0 (blk_drew BK410.out)
      have n12_ := k0 (below_drew1 HB.out)
      clear HO379 HO382 HO389 HO392 HO397 HO400 HO405 HO408 BK383 BK394 BK402 BK410 HB
      have HO379 := n0_
      have HO382 := n1_
      have HO389 := n2_
      have HO392 := n3_
      have HO397 := n4_
      have HO400 := n5_
      have HO405 := n6_
      have HO408 := n7_
      have BK383 := n8_
      have BK394 := n9_
      have BK402 := n10_
      have BK410 := n11_
      have HB := n12_
      clear n0_ n1_ n2_ n3_ n4_ n5_ n6_ n7_ n8_ n9_ n10_ n11_ n12_
      refine start_ (n := 43) (S := fun w' => w'.cell? ⟨gb383, 0, none⟩ = some (.slice Ao16 t377.length co16) ∧ w'.cell? ⟨gb383, 1, none⟩ = some (.slice Ao18 t380.length co18)) (ds := []) #[false, false, false, false, false, false, false, false, false, false, false, false, false, false, false, false, false, false, false, false, false, false, false, false, false, false, false, false, false, false, false, false, false, false, false, false, false, false, false, false, false, false, false] (by kernel_rfl) rfl rfl ⟨(blk_cell BK383.out 0).trans rfl, (blk_cell BK383.out 1).trans rfl⟩ (fun hHeld => ?_); refine with_tabW laws_FnRights.tab12 laws_FnRights.bits12 (fun HT_ HW_ => ?_)
      generalize w50.drew = w51 at HO379 HO382 HO389 HO392 HO397 HO400 HO405 HO408 BK383 BK394 BK402 BK410 HB hHeld ⊢
      refine take_ (i := 0) (N := some 59) (v := ?_) (a' := ?_) (bt 43 1) rfl rfl (take_ofW HT_.out HW_.out (by kernel_rfl)) (fun _ _ _ h => h) (Or.inl ⟨by rfl, ?_⟩) hHeld ?_ ?_
      rotate_left
      ·rintro w' ⟨s0, s1⟩
       go_simp
       with_reducible rfl
      rotate_left
      ·simp only [Act.put, List.setIfInBounds_toArray, List.set_cons_zero, List.set_cons_succ, i64_w, i32_w]
       rfl
      refine one_ (i := 1) (N := some 60) (bt 43 3) rfl rfl (one_of HT_.out (by kernel_rfl)) (by decide) (fun K hK => ?_)
      refine goes_ Try.func16 (by kernel_rfl) rfl #[.agg #[.slice Ao16 t377.length co16, .slice Ao18 t380.length co18]] (by rfl) rfl rfl (by (try simp only [List.map_toArray, List.map_cons, List.map_nil]); first | done | rfl | (simp only [List.length_drop, List.length_take]; rfl)) ?_
      with_reducible refine (impl_RightsOk.calls k _ _ t377 _ _ t380 true _ ?side1 ?side2 ?side3 ?side4 A47.out).mono ?_
      (case side1 => exact kC (Kd.V_reads' HO379.out).2.2)
      (case side2 => exact (Kd.V_reads' HO379.out).2.1)
      (case side3 => exact kC (Kd.R_reads' HO382.out).2.2)
      (case side4 => exact (Kd.R_reads' HO382.out).2.1)
      rintro e w52 ⟨rfl, hb⟩
      refine ⟨_, rfl, ?_⟩
      have n0_ := k0 (Kd.V_below (kV HO379.out) hb)
      have n1_ := k0 (Kd.R_below (kR HO382.out) hb)
      have n2_ := k0 (Kd.S_below (kS HO389.out) hb)
      have n3_ := k0 (Kd.R_below (kR HO392.out) hb)
      have n4_ := k0 (Kd.S_below (kS HO397.out) hb)
      have n5_ := k0 (Kd.R_below (kR HO400.out) hb)
      have n6_ := k0 (Kd.S_below (kS HO405.out) hb)
      have n7_ := k0 (Kd.R_below (kR HO408.out) hb)
      have n8_ := k0 (kb BK383.out hb)
      have n9_ := k0 (kb BK394.out hb)
      have n10_ := k0 (kb BK402.out hb)
      have n11_ := k0 (kb BK410.out hb)
      have n12_ := k0 (below_step (kW HB.out) hb)
      clear HO379 HO382 HO389 HO392 HO397 HO400 HO405 HO408 BK383 BK394 BK402 BK410 HB
      have HO379 := n0_
      have HO382 := n1_
      have HO389 := n2_
      have HO392 := n3_
      have HO397 := n4_
      have HO400 := n5_
      have HO405 := n6_
      have HO408 := n7_
      have BK383 := n8_
      have BK394 := n9_
      have BK402 := n10_
      have BK410 := n11_
      have HB := n12_
      clear n0_ n1_ n2_ n3_ n4_ n5_ n6_ n7_ n8_ n9_ n10_ n11_ n12_
      (try clear hb)
      (try clear hb2)
      (try clear hk)
      (try clear hi)
      refine hK.out _ _ ⟨(blk_cell BK383.out 0).trans rfl, (blk_cell BK383.out 1).trans rfl⟩ (fun hHeld => ?_)
      clear hK K
      refine norm_ (a' := ?_) ?_ ?_
      rotate_left
      ·show Act.put _ (some 60) _ = _
       simp only [Act.put, List.setIfInBounds_toArray, List.set_cons_zero, List.set_cons_succ, i64_w, i32_w]
       rfl
      refine kP 2 61 43 7 HT_.out ?_
      refine kP 3 62 43 15 HT_.out ?_
      refine kP 4 63 43 31 HT_.out ?_
      refine kP 5 64 43 63 HT_.out ?_
      refine kP 6 65 43 127 HT_.out ?_
      refine kP 7 66 43 255 HT_.out ?_
      refine kU 8 67 43 511 HT_.out ?_
      refine kU 9 68 43 1023 HT_.out ?_
      refine kU 10 69 43 2047 HT_.out ?_
      refine kU 11 70 43 4095 HT_.out ?_
      refine kU 12 71 43 8191 HT_.out ?_
      refine kP 13 72 43 16383 HT_.out ?_
      refine kP 14 73 43 32767 HT_.out ?_
      refine kU 15 74 43 65535 HT_.out ?_
      refine kU 16 75 43 131071 HT_.out ?_
      refine kU 17 76 43 262143 HT_.out ?_
      refine kU 18 77 43 524287 HT_.out ?_
      refine kU 19 78 43 1048575 HT_.out ?_
      refine kP 20 79 43 2097151 HT_.out ?_
      refine kP 21 80 43 4194303 HT_.out ?_
      refine kU 22 81 43 8388607 HT_.out ?_
      refine kU 23 82 43 16777215 HT_.out ?_
      refine kP 24 83 43 33554431 HT_.out ?_
      refine kP 25 84 43 67108863 HT_.out ?_
      refine kU 26 85 43 134217727 HT_.out ?_
      refine kU 27 86 43 268435455 HT_.out ?_
      refine kU 28 87 43 536870911 HT_.out ?_
      refine kU 29 88 43 1073741823 HT_.out ?_
      refine kU 30 89 43 2147483647 HT_.out ?_
      refine kU 31 90 43 4294967295 HT_.out ?_
      refine kU 32 91 43 8589934591 HT_.out ?_
      refine kP 33 92 43 17179869183 HT_.out ?_
      refine kP 34 93 43 34359738367 HT_.out ?_
      refine kU 35 94 43 68719476735 HT_.out ?_
      refine kU 36 95 43 137438953471 HT_.out ?_
      refine kU 37 96 43 274877906943 HT_.out ?_
      refine kU 38 97 43 549755813887 HT_.out ?_
      refine kU 39 98 43 1099511627775 HT_.out ?_
      refine kU 40 99 43 2199023255551 HT_.out ?_
      refine kU 41 100 43 4398046511103 HT_.out ?_
      refine kP 42 101 43 8796093022207 HT_.out ?_
      refine done_ (done_of HT_.out (by kernel_rfl)) ?_
      try go_wp2
      go_meet
      case rel => exact ⟨_, (true), (by first | rfl | (simp; done) | (simp [*]; done)), H', ⟨by first | omega | exact Nat.le_refl _⟩, ⟨by (with_reducible repeat (first | apply Kd.V_alloc | apply Kd.V_drewN | apply Kd.V_drew)); exact HO379.out⟩, ⟨by (with_reducible repeat (first | apply Kd.R_alloc | apply Kd.R_drewN | apply Kd.R_drew)); exact HO382.out⟩, ⟨by (with_reducible repeat (first | apply Kd.S_alloc | apply Kd.S_drewN | apply Kd.S_drew)); exact HO389.out⟩, ⟨by (with_reducible repeat (first | apply Kd.R_alloc | apply Kd.R_drewN | apply Kd.R_drew)); exact HO392.out⟩, ⟨by (with_reducible repeat (first | apply Kd.S_alloc | apply Kd.S_drewN | apply Kd.S_drew)); exact HO397.out⟩, ⟨by (with_reducible repeat (first | apply Kd.R_alloc | apply Kd.R_drewN | apply Kd.R_drew)); exact HO400.out⟩, ⟨by (with_reducible repeat (first | apply Kd.S_alloc | apply Kd.S_drewN | apply Kd.S_drew)); exact HO405.out⟩, ⟨by (with_reducible repeat (first | apply Kd.R_alloc | apply Kd.R_drewN | apply Kd.R_drew)); exact HO408.out⟩, ⟨kB BK383.out⟩, ⟨kB BK394.out⟩, ⟨kB BK402.out⟩, ⟨kB BK410.out⟩, ⟨by repeat (first | (with_reducible first | exact HB.out | apply below_alloc | apply pw_below_drewN | apply below_drew1 | refine below_set ?_ GE383.out | refine below_set ?_ GE394.out | refine below_set ?_ GE402.out | refine below_set ?_ GE410.out) | exact HB.out)⟩⟩
     ·rw [if_neg c49] at H
      have c49b0 : decide (t386 < 0) = false := decide_eq_false c49
      clear c49
      (first | rw [c49b0] | (simp only [i64_w, i32_w]; rw [c49b0]) | skip)
      by_cases c53 : (t393 != (decide (t386 ≥ (wrap64 (1 + t385))))) = true
      ·rw [if_pos c53] at H
       have c53b0 : (t393 != (decide (t386 ≥ (wrap64 (1 + t385))))) = true := c53
       (try (have c53b1 : decide (t393 = (decide (t386 ≥ (wrap64 (1 + t385))))) = false := by simpa using c53))
       (try (have c53b2 : (t393 == (decide (t386 ≥ (wrap64 (1 + t385))))) = false := by simpa using c53))
       (try (have c53b3 : ¬ (t393 = (decide (t386 ≥ (wrap64 (1 + t385))))) := by simpa using c53))
       clear c53
       have H' := Aside0.mk H
       clear H
       try go_wp2
       have n0_ := z0_
       have n1_ := z1_
       have n2_ := z2_
       have n3_ := z3_
       have n4_ := z4_
       have n5_ := z5_
       have n6_ := z6_
       have n7_ := z7_
       have n8_ := z8_
       have n9_ := z9_
       have n10_ := z10_
       have n11_ := z11_
       have n12_ := z12_
       (try clear HO379)
       (try clear HO382)
       (try clear HO389)
       (try clear HO392)
       (try clear HO397)
       (try clear HO400)
       (try clear HO405)
       (try clear HO408)
       (try clear BK383)
       (try clear BK394)
       (try clear BK402)
       (try clear BK410)
       (try clear HB)
       generalize ((w40.setCell ⟨gb410, 0, none⟩ (.slice Ao41 t403.length co41)).setCell ⟨gb410, 1, none⟩ (.slice Ao46 t406.length co46)) = w54 at n0_ n1_ n2_ n3_ n4_ n5_ n6_ n7_ n8_ n9_ n10_ n11_ n12_ ⊢
       have HO379 := n0_
       have HO382 := n1_
       have HO389 := n2_
       have HO392 := n3_
       have HO397 := n4_
       have HO400 := n5_
       have HO405 := n6_
       have HO408 := n7_
       have BK383 := n8_
       have BK394 := n9_
       have BK402 := n10_
       have BK410 := n11_
       have HB := n12_
       clear n0_ n1_ n2_ n3_ n4_ n5_ n6_ n7_ n8_ n9_ n10_ n11_ n12_
       have n0_ := k0 (Kd.V_drew HO379.out)
       have n1_ := k0 (Kd.R_drew HO382.out)
       have n2_ := k0 (Kd.S_drew HO389.out)
       have n3_ := k0 (Kd.R_drew HO392.out)
       have n4_ := k0 (Kd.S_drew HO397.out)
       have n5_ := k0 (Kd.R_drew HO400.out)
       have n6_ := k0 (Kd.S_drew HO405.out)
       have n7_ := k0 (Kd.R_drew HO408.out)
       have n8_ := k0 (blk_drew BK383.out)
       have n9_ := k0 (blk_drew BK394.out)
       have n10_ := k0 (blk_drew BK402.out)
       have n11_ := k0 (blk_drew BK410.out)
       have n12_ := k0 (below_drew1 HB.out)
       clear HO379 HO382 HO389 HO392 HO397 HO400 HO405 HO408 BK383 BK394 BK402 BK410 HB
       have HO379 := n0_
       have HO382 := n1_
       have HO389 := n2_
       have HO392 := n3_
       have HO397 := n4_
       have HO400 := n5_
       have HO405 := n6_
       have HO408 := n7_
       have BK383 := n8_
       have BK394 := n9_
       have BK402 := n10_
       have BK410 := n11_
       have HB := n12_
       clear n0_ n1_ n2_ n3_ n4_ n5_ n6_ n7_ n8_ n9_ n10_ n11_ n12_
       refine start_ (n := 43) (S := fun w' => w'.cell? ⟨gb383, 0, none⟩ = some (.slice Ao16 t377.length co16) ∧ w'.cell? ⟨gb383, 1, none⟩ = some (.slice Ao18 t380.length co18)) (ds := []) #[false, false, false, false, false, false, false, false, false, false, false, false, false, false, false, false, false, false, false, false, false, false, false, false, false, false, false, false, false, false, false, false, false, false, false, false, false, false, false, false, false, false, false] (by kernel_rfl) rfl rfl ⟨(blk_cell BK383.out 0).trans rfl, (blk_cell BK383.out 1).trans rfl⟩ (fun hHeld => ?_); refine with_tabW laws_FnRights.tab12 laws_FnRights.bits12 (fun HT_ HW_ => ?_)
       generalize w54.drew = w55 at HO379 HO382 HO389 HO392 HO397 HO400 HO405 HO408 BK383 BK394 BK402 BK410 HB hHeld ⊢
       refine take_ (i := 0) (N := some 59) (v := ?_) (a' := ?_) (bt 43 1) rfl rfl (take_ofW HT_.out HW_.out (by kernel_rfl)) (fun _ _ _ h => h) (Or.inl ⟨by rfl, ?_⟩) hHeld ?_ ?_
       rotate_left
       ·rintro w' ⟨s0, s1⟩
        go_simp
        with_reducible rfl
       rotate_left
       ·simp only [Act.put, List.setIfInBounds_toArray, List.set_cons_zero, List.set_cons_succ, i64_w, i32_w]
        rfl
       refine one_ (i := 1) (N := some 60) (bt 43 3) rfl rfl (one_of HT_.out (by kernel_rfl)) (by decide) (fun K hK => ?_)
       refine goes_ Try.func16 (by kernel_rfl) rfl #[.agg #[.slice Ao16 t377.length co16, .slice Ao18 t380.length co18]] (by rfl) rfl rfl (by (try simp only [List.map_toArray, List.map_cons, List.map_nil]); first | done | rfl | (simp only [List.length_drop, List.length_take]; rfl)) ?_
       with_reducible refine (impl_RightsOk.calls k _ _ t377 _ _ t380 true _ ?side1 ?side2 ?side3 ?side4 A47.out).mono ?_
       (case side1 => exact kC (Kd.V_reads' HO379.out).2.2)
       (case side2 => exact (Kd.V_reads' HO379.out).2.1)
       (case side3 => exact kC (Kd.R_reads' HO382.out).2.2)
       (case side4 => exact (Kd.R_reads' HO382.out).2.1)
       rintro e w56 ⟨rfl, hb⟩
       refine ⟨_, rfl, ?_⟩
       have n0_ := k0 (Kd.V_below (kV HO379.out) hb)
       have n1_ := k0 (Kd.R_below (kR HO382.out) hb)
       have n2_ := k0 (Kd.S_below (kS HO389.out) hb)
       have n3_ := k0 (Kd.R_below (kR HO392.out) hb)
       have n4_ := k0 (Kd.S_below (kS HO397.out) hb)
       have n5_ := k0 (Kd.R_below (kR HO400.out) hb)
       have n6_ := k0 (Kd.S_below (kS HO405.out) hb)
       have n7_ := k0 (Kd.R_below (kR HO408.out) hb)
       have n8_ := k0 (kb BK383.out hb)
       have n9_ := k0 (kb BK394.out hb)
       have n10_ := k0 (kb BK402.out hb)
       have n11_ := k0 (kb BK410.out hb)
       have n12_ := k0 (below_step (kW HB.out) hb)
       clear HO379 HO382 HO389 HO392 HO397 HO400 HO405 HO408 BK383 BK394 BK402 BK410 HB
       have HO379 := n0_
       have HO382 := n1_
       have HO389 := n2_
       have HO392 := n3_
       have HO397 := n4_
       have HO400 := n5_
       have HO405 := n6_
       have HO408 := n7_
       have BK383 := n8_
       have BK394 := n9_
       have BK402 := n10_
       have BK410 := n11_
       have HB := n12_
       clear n0_ n1_ n2_ n3_ n4_ n5_ n6_ n7_ n8_ n9_ n10_ n11_ n12_
       (try clear hb)
       (try clear hb2)
       (try clear hk)
       (try clear hi)
       refine hK.out _ _ ⟨(blk_cell BK383.out 0).trans rfl, (blk_cell BK383.out 1).trans rfl⟩ (fun hHeld => ?_)
       clear hK K
       refine norm_ (a' := ?_) ?_ ?_
       rotate_left
       ·show Act.put _ (some 60) _ = _
        simp only [Act.put, List.setIfInBounds_toArray, List.set_cons_zero, List.set_cons_succ, i64_w, i32_w]
        rfl
       refine kP 2 61 43 7 HT_.out ?_
       refine kP 3 62 43 15 HT_.out ?_
       refine kP 4 63 43 31 HT_.out ?_
       refine kP 5 64 43 63 HT_.out ?_
       refine kP 6 65 43 127 HT_.out ?_
       refine kP 7 66 43 255 HT_.out ?_
       refine kP 8 67 43 511 HT_.out ?_
       refine kP 9 68 43 1023 HT_.out ?_
       refine kP 10 69 43 2047 HT_.out ?_
       refine kP 11 70 43 4095 HT_.out ?_
       refine kP 12 71 43 8191 HT_.out ?_
       refine kP 13 72 43 16383 HT_.out ?_
       refine kP 14 73 43 32767 HT_.out ?_
       refine kU 15 74 43 65535 HT_.out ?_
       refine kU 16 75 43 131071 HT_.out ?_
       refine kU 17 76 43 262143 HT_.out ?_
       refine kU 18 77 43 524287 HT_.out ?_
       refine kU 19 78 43 1048575 HT_.out ?_
       refine kP 20 79 43 2097151 HT_.out ?_
       refine kP 21 80 43 4194303 HT_.out ?_
       refine kU 22 81 43 8388607 HT_.out ?_
       refine kU 23 82 43 16777215 HT_.out ?_
       refine kP 24 83 43 33554431 HT_.out ?_
       refine kP 25 84 43 67108863 HT_.out ?_
       refine kU 26 85 43 134217727 HT_.out ?_
       refine kU 27 86 43 268435455 HT_.out ?_
       refine kU 28 87 43 536870911 HT_.out ?_
       refine kU 29 88 43 1073741823 HT_.out ?_
       refine kU 30 89 43 2147483647 HT_.out ?_
       refine kU 31 90 43 4294967295 HT_.out ?_
       refine kU 32 91 43 8589934591 HT_.out ?_
       refine kP 33 92 43 17179869183 HT_.out ?_
       refine kP 34 93 43 34359738367 HT_.out ?_
       refine kU 35 94 43 68719476735 HT_.out ?_
       refine kU 36 95 43 137438953471 HT_.out ?_
       refine kU 37 96 43 274877906943 HT_.out ?_
       refine kU 38 97 43 549755813887 HT_.out ?_
       refine kU 39 98 43 1099511627775 HT_.out ?_
       refine kU 40 99 43 2199023255551 HT_.out ?_
       refine kU 41 100 43 4398046511103 HT_.out ?_
       refine kP 42 101 43 8796093022207 HT_.out ?_
       refine done_ (done_of HT_.out (by kernel_rfl)) ?_
       try go_wp2
       go_meet
       case rel => exact ⟨_, (true), (by first | rfl | (simp; done) | (simp [*]; done)), H', ⟨by first | omega | exact Nat.le_refl _⟩, ⟨by (with_reducible repeat (first | apply Kd.V_alloc | apply Kd.V_drewN | apply Kd.V_drew)); exact HO379.out⟩, ⟨by (with_reducible repeat (first | apply Kd.R_alloc | apply Kd.R_drewN | apply Kd.R_drew)); exact HO382.out⟩, ⟨by (with_reducible repeat (first | apply Kd.S_alloc | apply Kd.S_drewN | apply Kd.S_drew)); exact HO389.out⟩, ⟨by (with_reducible repeat (first | apply Kd.R_alloc | apply Kd.R_drewN | apply Kd.R_drew)); exact HO392.out⟩, ⟨by (with_reducible repeat (first | apply Kd.S_alloc | apply Kd.S_drewN | apply Kd.S_drew)); exact HO397.out⟩, ⟨by (with_reducible repeat (first | apply Kd.R_alloc | apply Kd.R_drewN | apply Kd.R_drew)); exact HO400.out⟩, ⟨by (with_reducible repeat (first | apply Kd.S_alloc | apply Kd.S_drewN | apply Kd.S_drew)); exact HO405.out⟩, ⟨by (with_reducible repeat (first | apply Kd.R_alloc | apply Kd.R_drewN | apply Kd.R_drew)); exact HO408.out⟩, ⟨kB BK383.out⟩, ⟨kB BK394.out⟩, ⟨kB BK402.out⟩, ⟨kB BK410.out⟩, ⟨by repeat (first | (with_reducible first | exact HB.out | apply below_alloc | apply pw_below_drewN | apply below_drew1 | refine below_set ?_ GE383.out | refine below_set ?_ GE394.out | refine below_set ?_ GE402.out | refine below_set ?_ GE410.out) | exact HB.out)⟩⟩
      ·rw [if_neg c53] at H
       have c53b0 : (t393 != (decide (t386 ≥ (wrap64 (1 + t385))))) = false := by simpa using c53
       (try (have c53b1 : decide (t393 = (decide (t386 ≥ (wrap64 (1 + t385))))) = true := by simpa using c53))
       (try (have c53b2 : (t393 == (decide (t386 ≥ (wrap64 (1 + t385))))) = true := by simpa using c53))
       clear c53
       by_cases c57 : (t401 != (decide (t386 ≥ (wrap64 (1 + t385))))) = true
       ·rw [if_pos c57] at H
        have c57b0 : (t401 != (decide (t386 ≥ (wrap64 (1 + t385))))) = true := c57
        (try (have c57b1 : decide (t401 = (decide (t386 ≥ (wrap64 (1 + t385))))) = false := by simpa using c57))
        (try (have c57b2 : (t401 == (decide (t386 ≥ (wrap64 (1 + t385))))) = false := by simpa using c57))
        (try (have c57b3 : ¬ (t401 = (decide (t386 ≥ (wrap64 (1 + t385))))) := by simpa using c57))
        clear c57
        have H' := Aside0.mk H
        clear H
        try go_wp2
        have n0_ := z0_
        have n1_ := z1_
        have n2_ := z2_
        have n3_ := z3_
        have n4_ := z4_
        have n5_ := z5_
        have n6_ := z6_
        have n7_ := z7_
        have n8_ := z8_
        have n9_ := z9_
        have n10_ := z10_
        have n11_ := z11_
        have n12_ := z12_
        (try clear HO379)
        (try clear HO382)
        (try clear HO389)
        (try clear HO392)
        (try clear HO397)
        (try clear HO400)
        (try clear HO405)
        (try clear HO408)
        (try clear BK383)
        (try clear BK394)
        (try clear BK402)
        (try clear BK410)
        (try clear HB)
        generalize ((w40.setCell ⟨gb410, 0, none⟩ (.slice Ao41 t403.length co41)).setCell ⟨gb410, 1, none⟩ (.slice Ao46 t406.length co46)) = w58 at n0_ n1_ n2_ n3_ n4_ n5_ n6_ n7_ n8_ n9_ n10_ n11_ n12_ ⊢
        have HO379 := n0_
        have HO382 := n1_
        have HO389 := n2_
        have HO392 := n3_
        have HO397 := n4_
        have HO400 := n5_
        have HO405 := n6_
        have HO408 := n7_
        have BK383 := n8_
        have BK394 := n9_
        have BK402 := n10_
        have BK410 := n11_
        have HB := n12_
        clear n0_ n1_ n2_ n3_ n4_ n5_ n6_ n7_ n8_ n9_ n10_ n11_ n12_
        have n0_ := k0 (Kd.V_drew HO379.out)
        have n1_ := k0 (Kd.R_drew HO382.out)
        have n2_ := k0 (Kd.S_drew HO389.out)
        have n3_ := k0 (Kd.R_drew HO392.out)
        have n4_ := k0 (Kd.S_drew HO397.out)
        have n5_ := k0 (Kd.R_drew HO400.out)
        have n6_ := k0 (Kd.S_drew HO405.out)
        have n7_ := k0 (Kd.R_drew HO408.out)
        have n8_ := k0 (blk_drew BK383.out)
        have n9_ := k0 (blk_drew BK394.out)
        have n10_ := k0 (blk_drew BK402.out)
        have n11_ := k0 (blk_drew BK410.out)
        have n12_ := k0 (below_drew1 HB.out)
        clear HO379 HO382 HO389 HO392 HO397 HO400 HO405 HO408 BK383 BK394 BK402 BK410 HB
        have HO379 := n0_
        have HO382 := n1_
        have HO389 := n2_
        have HO392 := n3_
        have HO397 := n4_
        have HO400 := n5_
        have HO405 := n6_
        have HO408 := n7_
        have BK383 := n8_
        have BK394 := n9_
        have BK402 := n10_
        have BK410 := n11_
        have HB := n12_
        clear n0_ n1_ n2_ n3_ n4_ n5_ n6_ n7_ n8_ n9_ n10_ n11_ n12_
        refine start_ (n := 43) (S := fun w' => w'.cell? ⟨gb383, 0, none⟩ = some (.slice Ao16 t377.length co16) ∧ w'.cell? ⟨gb383, 1, none⟩ = some (.slice Ao18 t380.length co18)) (ds := []) #[false, false, false, false, false, false, false, false, false, false, false, false, false, false, false, false, false, false, false, false, false, false, false, false, false, false, false, false, false, false, false, false, false, false, false, false, false, false, false, false, false, false, false] (by kernel_rfl) rfl rfl ⟨(blk_cell BK383.out 0).trans rfl, (blk_cell BK383.out 1).trans rfl⟩ (fun hHeld => ?_); refine with_tabW laws_FnRights.tab12 laws_FnRights.bits12 (fun HT_ HW_ => ?_)
        generalize w58.drew = w59 at HO379 HO382 HO389 HO392 HO397 HO400 HO405 HO408 BK383 BK394 BK402 BK410 HB hHeld ⊢
        refine take_ (i := 0) (N := some 59) (v := ?_) (a' := ?_) (bt 43 1) rfl rfl (take_ofW HT_.out HW_.out (by kernel_rfl)) (fun _ _ _ h => h) (Or.inl ⟨by rfl, ?_⟩) hHeld ?_ ?_
        rotate_left
        ·rintro w' ⟨s0, s1⟩
         go_simp
         with_reducible rfl
        rotate_left
        ·simp only [Act.put, List.setIfInBounds_toArray, List.set_cons_zero, List.set_cons_succ, i64_w, i32_w]
         rfl
        refine one_ (i := 1) (N := some 60) (bt 43 3) rfl rfl (one_of HT_.out (by kernel_rfl)) (by decide) (fun K hK => ?_)
        refine goes_ Try.func16 (by kernel_rfl) rfl #[.agg #[.slice Ao16 t377.length co16, .slice Ao18 t380.length co18]] (by rfl) rfl rfl (by (try simp only [List.map_toArray, List.map_cons, List.map_nil]); first | done | rfl | (simp only [List.length_drop, List.length_take]; rfl)) ?_
        with_reducible refine (impl_RightsOk.calls k _ _ t377 _ _ t380 true _ ?side1 ?side2 ?side3 ?side4 A47.out).mono ?_
        (case side1 => exact kC (Kd.V_reads' HO379.out).2.2)
        (case side2 => exact (Kd.V_reads' HO379.out).2.1)
        (case side3 => exact kC (Kd.R_reads' HO382.out).2.2)
        (case side4 => exact (Kd.R_reads' HO382.out).2.1)
        rintro e w60 ⟨rfl, hb⟩
        refine ⟨_, rfl, ?_⟩
        have n0_ := k0 (Kd.V_below (kV HO379.out) hb)
        have n1_ := k0 (Kd.R_below (kR HO382.out) hb)
        have n2_ := k0 (Kd.S_below (kS HO389.out) hb)
        have n3_ := k0 (Kd.R_below (kR HO392.out) hb)
        have n4_ := k0 (Kd.S_below (kS HO397.out) hb)
        have n5_ := k0 (Kd.R_below (kR HO400.out) hb)
        have n6_ := k0 (Kd.S_below (kS HO405.out) hb)
        have n7_ := k0 (Kd.R_below (kR HO408.out) hb)
        have n8_ := k0 (kb BK383.out hb)
        have n9_ := k0 (kb BK394.out hb)
        have n10_ := k0 (kb BK402.out hb)
        have n11_ := k0 (kb BK410.out hb)
        have n12_ := k0 (below_step (kW HB.out) hb)
        clear HO379 HO382 HO389 HO392 HO397 HO400 HO405 HO408 BK383 BK394 BK402 BK410 HB
        have HO379 := n0_
        have HO382 := n1_
        have HO389 := n2_
        have HO392 := n3_
        have HO397 := n4_
        have HO400 := n5_
        have HO405 := n6_
        have HO408 := n7_
        have BK383 := n8_
        have BK394 := n9_
        have BK402 := n10_
        have BK410 := n11_
        have HB := n12_
        clear n0_ n1_ n2_ n3_ n4_ n5_ n6_ n7_ n8_ n9_ n10_ n11_ n12_
        (try clear hb)
        (try clear hb2)
        (try clear hk)
        (try clear hi)
        refine hK.out _ _ ⟨(blk_cell BK383.out 0).trans rfl, (blk_cell BK383.out 1).trans rfl⟩ (fun hHeld => ?_)
        clear hK K
        refine norm_ (a' := ?_) ?_ ?_
        rotate_left
        ·show Act.put _ (some 60) _ = _
         simp only [Act.put, List.setIfInBounds_toArray, List.set_cons_zero, List.set_cons_succ, i64_w, i32_w]
         rfl
        refine kP 2 61 43 7 HT_.out ?_
        refine kP 3 62 43 15 HT_.out ?_
        refine kP 4 63 43 31 HT_.out ?_
        refine kP 5 64 43 63 HT_.out ?_
        refine kP 6 65 43 127 HT_.out ?_
        refine kP 7 66 43 255 HT_.out ?_
        refine kP 8 67 43 511 HT_.out ?_
        refine kP 9 68 43 1023 HT_.out ?_
        refine kP 10 69 43 2047 HT_.out ?_
        refine kP 11 70 43 4095 HT_.out ?_
        refine kP 12 71 43 8191 HT_.out ?_
        refine kP 13 72 43 16383 HT_.out ?_
        refine kP 14 73 43 32767 HT_.out ?_
        refine kP 15 74 43 65535 HT_.out ?_
        refine kP 16 75 43 131071 HT_.out ?_
        refine kP 17 76 43 262143 HT_.out ?_
        refine kP 18 77 43 524287 HT_.out ?_
        refine kP 19 78 43 1048575 HT_.out ?_
        refine kP 20 79 43 2097151 HT_.out ?_
        refine kP 21 80 43 4194303 HT_.out ?_
        refine kU 22 81 43 8388607 HT_.out ?_
        refine kU 23 82 43 16777215 HT_.out ?_
        refine kP 24 83 43 33554431 HT_.out ?_
        refine kP 25 84 43 67108863 HT_.out ?_
        refine kU 26 85 43 134217727 HT_.out ?_
        refine kU 27 86 43 268435455 HT_.out ?_
        refine kU 28 87 43 536870911 HT_.out ?_
        refine kU 29 88 43 1073741823 HT_.out ?_
        refine kU 30 89 43 2147483647 HT_.out ?_
        refine kU 31 90 43 4294967295 HT_.out ?_
        refine kU 32 91 43 8589934591 HT_.out ?_
        refine kP 33 92 43 17179869183 HT_.out ?_
        refine kP 34 93 43 34359738367 HT_.out ?_
        refine kU 35 94 43 68719476735 HT_.out ?_
        refine kU 36 95 43 137438953471 HT_.out ?_
        refine kU 37 96 43 274877906943 HT_.out ?_
        refine kU 38 97 43 549755813887 HT_.out ?_
        refine kU 39 98 43 1099511627775 HT_.out ?_
        refine kU 40 99 43 2199023255551 HT_.out ?_
        refine kU 41 100 43 4398046511103 HT_.out ?_
        refine kP 42 101 43 8796093022207 HT_.out ?_
        refine done_ (done_of HT_.out (by kernel_rfl)) ?_
        try go_wp2
        go_meet
        case rel => exact ⟨_, (true), (by first | rfl | (simp; done) | (simp [*]; done)), H', ⟨by first | omega | exact Nat.le_refl _⟩, ⟨by (with_reducible repeat (first | apply Kd.V_alloc | apply Kd.V_drewN | apply Kd.V_drew)); exact HO379.out⟩, ⟨by (with_reducible repeat (first | apply Kd.R_alloc | apply Kd.R_drewN | apply Kd.R_drew)); exact HO382.out⟩, ⟨by (with_reducible repeat (first | apply Kd.S_alloc | apply Kd.S_drewN | apply Kd.S_drew)); exact HO389.out⟩, ⟨by (with_reducible repeat (first | apply Kd.R_alloc | apply Kd.R_drewN | apply Kd.R_drew)); exact HO392.out⟩, ⟨by (with_reducible repeat (first | apply Kd.S_alloc | apply Kd.S_drewN | apply Kd.S_drew)); exact HO397.out⟩, ⟨by (with_reducible repeat (first | apply Kd.R_alloc | apply Kd.R_drewN | apply Kd.R_drew)); exact HO400.out⟩, ⟨by (with_reducible repeat (first | apply Kd.S_alloc | apply Kd.S_drewN | apply Kd.S_drew)); exact HO405.out⟩, ⟨by (with_reducible repeat (first | apply Kd.R_alloc | apply Kd.R_drewN | apply Kd.R_drew)); exact HO408.out⟩, ⟨kB BK383.out⟩, ⟨kB BK394.out⟩, ⟨kB BK402.out⟩, ⟨kB BK410.out⟩, ⟨by repeat (first | (with_reducible first | exact HB.out | apply below_alloc | apply pw_below_drewN | apply below_drew1 | refine below_set ?_ GE383.out | refine below_set ?_ GE394.out | refine below_set ?_ GE402.out | refine below_set ?_ GE410.out) | exact HB.out)⟩⟩
       ·rw [if_neg c57] at H
        have c57b0 : (t401 != (decide (t386 ≥ (wrap64 (1 + t385))))) = false := by simpa using c57
        (try (have c57b1 : decide (t401 = (decide (t386 ≥ (wrap64 (1 + t385))))) = true := by simpa using c57))
        (try (have c57b2 : (t401 == (decide (t386 ≥ (wrap64 (1 + t385))))) = true := by simpa using c57))
        clear c57
        by_cases c61 : t409 = true
        ·subst c61
         have H1 : ((impl_AllOf.f k t403 t406).bind fun t412 => ((impl_AllOf.f k t377 t380).bind fun t413 => (if t412 = (wrap64 (t413 + (wrap64 (1 + t385)))) then ((impl_HasOf.f k t403 t406 t384).bind fun t414 => (laws_FnRights.j0 k t384 (Int.tmod (wrap64 (t384 + 1)) (wrap64 (2 + t376))) (wrap64 (1 + t385)) t386 t393 (t414 != (wrap64 (t386 + (wrap64 (1 + t385))))) t377 t380 t387 t390 t395 t398)) else (laws_FnRights.j0 k t384 (Int.tmod (wrap64 (t384 + 1)) (wrap64 (2 + t376))) (wrap64 (1 + t385)) t386 t393 true t377 t380 t387 t390 t395 t398)))) = some r := by rw [if_pos rfl] at H; exact H
         clear H
         have H := H1
         clear H1
         replace H := Option.bind_eq_some_iff.mp H
         obtain ⟨t412, A620, H⟩ := H
         replace H : ((impl_AllOf.f k t377 t380).bind fun t413 => (if t412 = (wrap64 (t413 + (wrap64 (1 + t385)))) then ((impl_HasOf.f k t403 t406 t384).bind fun t414 => (laws_FnRights.j0 k t384 (Int.tmod (wrap64 (t384 + 1)) (wrap64 (2 + t376))) (wrap64 (1 + t385)) t386 t393 (t414 != (wrap64 (t386 + (wrap64 (1 + t385))))) t377 t380 t387 t390 t395 t398)) else (laws_FnRights.j0 k t384 (Int.tmod (wrap64 (t384 + 1)) (wrap64 (2 + t376))) (wrap64 (1 + t385)) t386 t393 true t377 t380 t387 t390 t395 t398))) = some r := H
         have A62 := Aside0.mk A620
         clear A620
         replace H := Option.bind_eq_some_iff.mp H
         obtain ⟨t413, A630, H⟩ := H
         replace H : (if t412 = (wrap64 (t413 + (wrap64 (1 + t385)))) then ((impl_HasOf.f k t403 t406 t384).bind fun t414 => (laws_FnRights.j0 k t384 (Int.tmod (wrap64 (t384 + 1)) (wrap64 (2 + t376))) (wrap64 (1 + t385)) t386 t393 (t414 != (wrap64 (t386 + (wrap64 (1 + t385))))) t377 t380 t387 t390 t395 t398)) else (laws_FnRights.j0 k t384 (Int.tmod (wrap64 (t384 + 1)) (wrap64 (2 + t376))) (wrap64 (1 + t385)) t386 t393 true t377 t380 t387 t390 t395 t398)) = some r := H
         have A63 := Aside0.mk A630
         clear A630
         by_cases c64 : t412 = (wrap64 (t413 + (wrap64 (1 + t385))))
         ·rw [if_pos c64] at H
          have c64b0 : (t412 == (wrap64 (t413 + (wrap64 (1 + t385))))) = true := beq_iff_eq.mpr c64
          have c64b1 : (t412 != (wrap64 (t413 + (wrap64 (1 + t385))))) = false := bne_eq_false_iff_eq.mpr c64
          clear c64
          replace H := Option.bind_eq_some_iff.mp H
          obtain ⟨t414, A650, H⟩ := H
          replace H : (laws_FnRights.j0 k t384 (Int.tmod (wrap64 (t384 + 1)) (wrap64 (2 + t376))) (wrap64 (1 + t385)) t386 t393 (t414 != (wrap64 (t386 + (wrap64 (1 + t385))))) t377 t380 t387 t390 t395 t398) = some r := H
          have A65 := Aside0.mk A650
          clear A650
          have H' := Aside0.mk H
          clear H
          try go_wp2
          have n0_ := z0_
          have n1_ := z1_
          have n2_ := z2_
          have n3_ := z3_
          have n4_ := z4_
          have n5_ := z5_
          have n6_ := z6_
          have n7_ := z7_
          have n8_ := z8_
          have n9_ := z9_
          have n10_ := z10_
          have n11_ := z11_
          have n12_ := z12_
          (try clear HO379)
          (try clear HO382)
          (try clear HO389)
          (try clear HO392)
          (try clear HO397)
          (try clear HO400)
          (try clear HO405)
          (try clear HO408)
          (try clear BK383)
          (try clear BK394)
          (try clear BK402)
          (try clear BK410)
          (try clear HB)
          generalize ((w40.setCell ⟨gb410, 0, none⟩ (.slice Ao41 t403.length co41)).setCell ⟨gb410, 1, none⟩ (.slice Ao46 t406.length co46)) = w66 at n0_ n1_ n2_ n3_ n4_ n5_ n6_ n7_ n8_ n9_ n10_ n11_ n12_ ⊢
          have HO379 := n0_
          have HO382 := n1_
          have HO389 := n2_
          have HO392 := n3_
          have HO397 := n4_
          have HO400 := n5_
          have HO405 := n6_
          have HO408 := n7_
          have BK383 := n8_
          have BK394 := n9_
          have BK402 := n10_
          have BK410 := n11_
          have HB := n12_
          clear n0_ n1_ n2_ n3_ n4_ n5_ n6_ n7_ n8_ n9_ n10_ n11_ n12_
          have n0_ := k0 (Kd.V_drew HO379.out)
          have n1_ := k0 (Kd.R_drew HO382.out)
          have n2_ := k0 (Kd.S_drew HO389.out)
          have n3_ := k0 (Kd.R_drew HO392.out)
          have n4_ := k0 (Kd.S_drew HO397.out)
          have n5_ := k0 (Kd.R_drew HO400.out)
          have n6_ := k0 (Kd.S_drew HO405.out)
          have n7_ := k0 (Kd.R_drew HO408.out)
          have n8_ := k0 (blk_drew BK383.out)
          have n9_ := k0 (blk_drew BK394.out)
          have n10_ := k0 (blk_drew BK402.out)
          have n11_ := k0 (blk_drew BK410.out)
          have n12_ := k0 (below_drew1 HB.out)
          clear HO379 HO382 HO389 HO392 HO397 HO400 HO405 HO408 BK383 BK394 BK402 BK410 HB
          have HO379 := n0_
          have HO382 := n1_
          have HO389 := n2_
          have HO392 := n3_
          have HO397 := n4_
          have HO400 := n5_
          have HO405 := n6_
          have HO408 := n7_
          have BK383 := n8_
          have BK394 := n9_
          have BK402 := n10_
          have BK410 := n11_
          have HB := n12_
          clear n0_ n1_ n2_ n3_ n4_ n5_ n6_ n7_ n8_ n9_ n10_ n11_ n12_
          refine start_ (n := 43) (S := fun w' => w'.cell? ⟨gb383, 0, none⟩ = some (.slice Ao16 t377.length co16) ∧ w'.cell? ⟨gb383, 1, none⟩ = some (.slice Ao18 t380.length co18) ∧ w'.cell? ⟨gb410, 0, none⟩ = some (.slice Ao41 t403.length co41) ∧ w'.cell? ⟨gb410, 1, none⟩ = some (.slice Ao46 t406.length co46)) (ds := []) #[false, false, false, false, false, false, false, false, false, false, false, false, false, false, false, false, false, false, false, false, false, false, false, false, false, false, false, false, false, false, false, false, false, false, false, false, false, false, false, false, false, false, false] (by kernel_rfl) rfl rfl ⟨(blk_cell BK383.out 0).trans rfl, (blk_cell BK383.out 1).trans rfl, (blk_cell BK410.out 0).trans rfl, (blk_cell BK410.out 1).trans rfl⟩ (fun hHeld => ?_); refine with_tabW laws_FnRights.tab12 laws_FnRights.bits12 (fun HT_ HW_ => ?_)
          generalize w66.drew = w67 at HO379 HO382 HO389 HO392 HO397 HO400 HO405 HO408 BK383 BK394 BK402 BK410 HB hHeld ⊢
          refine take_ (i := 0) (N := some 59) (v := ?_) (a' := ?_) (bt 43 1) rfl rfl (take_ofW HT_.out HW_.out (by kernel_rfl)) (fun _ _ _ h => h) (Or.inl ⟨by rfl, ?_⟩) hHeld ?_ ?_
          rotate_left
          ·rintro w' ⟨s0, s1, s2, s3⟩
           go_simp
           with_reducible rfl
          rotate_left
          ·simp only [Act.put, List.setIfInBounds_toArray, List.set_cons_zero, List.set_cons_succ, i64_w, i32_w]
           rfl
          refine one_ (i := 1) (N := some 60) (bt 43 3) rfl rfl (one_of HT_.out (by kernel_rfl)) (by decide) (fun K hK => ?_)
          refine goes_ Try.func16 (by kernel_rfl) rfl #[.agg #[.slice Ao16 t377.length co16, .slice Ao18 t380.length co18]] (by rfl) rfl rfl (by (try simp only [List.map_toArray, List.map_cons, List.map_nil]); first | done | rfl | (simp only [List.length_drop, List.length_take]; rfl)) ?_
          with_reducible refine (impl_RightsOk.calls k _ _ t377 _ _ t380 true _ ?side1 ?side2 ?side3 ?side4 A47.out).mono ?_
          (case side1 => exact kC (Kd.V_reads' HO379.out).2.2)
          (case side2 => exact (Kd.V_reads' HO379.out).2.1)
          (case side3 => exact kC (Kd.R_reads' HO382.out).2.2)
          (case side4 => exact (Kd.R_reads' HO382.out).2.1)
          rintro e w68 ⟨rfl, hb⟩
          refine ⟨_, rfl, ?_⟩
          have n0_ := k0 (Kd.V_below (kV HO379.out) hb)
          have n1_ := k0 (Kd.R_below (kR HO382.out) hb)
          have n2_ := k0 (Kd.S_below (kS HO389.out) hb)
          have n3_ := k0 (Kd.R_below (kR HO392.out) hb)
          have n4_ := k0 (Kd.S_below (kS HO397.out) hb)
          have n5_ := k0 (Kd.R_below (kR HO400.out) hb)
          have n6_ := k0 (Kd.S_below (kS HO405.out) hb)
          have n7_ := k0 (Kd.R_below (kR HO408.out) hb)
          have n8_ := k0 (kb BK383.out hb)
          have n9_ := k0 (kb BK394.out hb)
          have n10_ := k0 (kb BK402.out hb)
          have n11_ := k0 (kb BK410.out hb)
          have n12_ := k0 (below_step (kW HB.out) hb)
          clear HO379 HO382 HO389 HO392 HO397 HO400 HO405 HO408 BK383 BK394 BK402 BK410 HB
          have HO379 := n0_
          have HO382 := n1_
          have HO389 := n2_
          have HO392 := n3_
          have HO397 := n4_
          have HO400 := n5_
          have HO405 := n6_
          have HO408 := n7_
          have BK383 := n8_
          have BK394 := n9_
          have BK402 := n10_
          have BK410 := n11_
          have HB := n12_
          clear n0_ n1_ n2_ n3_ n4_ n5_ n6_ n7_ n8_ n9_ n10_ n11_ n12_
          (try clear hb)
          (try clear hb2)
          (try clear hk)
          (try clear hi)
          refine hK.out _ _ ⟨(blk_cell BK383.out 0).trans rfl, (blk_cell BK383.out 1).trans rfl, (blk_cell BK410.out 0).trans rfl, (blk_cell BK410.out 1).trans rfl⟩ (fun hHeld => ?_)
          clear hK K
          refine norm_ (a' := ?_) ?_ ?_
          rotate_left
          ·show Act.put _ (some 60) _ = _
           simp only [Act.put, List.setIfInBounds_toArray, List.set_cons_zero, List.set_cons_succ, i64_w, i32_w]
           rfl
          refine kP 2 61 43 7 HT_.out ?_
          refine kP 3 62 43 15 HT_.out ?_
          refine kP 4 63 43 31 HT_.out ?_
          refine kP 5 64 43 63 HT_.out ?_
          refine kP 6 65 43 127 HT_.out ?_
          refine kP 7 66 43 255 HT_.out ?_
          refine kP 8 67 43 511 HT_.out ?_
          refine kP 9 68 43 1023 HT_.out ?_
          refine kP 10 69 43 2047 HT_.out ?_
          refine kP 11 70 43 4095 HT_.out ?_
          refine kP 12 71 43 8191 HT_.out ?_
          refine kP 13 72 43 16383 HT_.out ?_
          refine kP 14 73 43 32767 HT_.out ?_
          refine kP 15 74 43 65535 HT_.out ?_
          refine kP 16 75 43 131071 HT_.out ?_
          refine kP 17 76 43 262143 HT_.out ?_
          refine kP 18 77 43 524287 HT_.out ?_
          refine kP 19 78 43 1048575 HT_.out ?_
          refine kP 20 79 43 2097151 HT_.out ?_
          refine kP 21 80 43 4194303 HT_.out ?_
          refine kP 22 81 43 8388607 HT_.out ?_
          refine kP 23 82 43 16777215 HT_.out ?_
          refine kP 24 83 43 33554431 HT_.out ?_
          refine kP 25 84 43 67108863 HT_.out ?_
          refine kP 30 89 43 1140850687 HT_.out ?_
          refine take_ (i := 26) (N := some 85) (v := ?_) (a' := ?_) (bt 43 1207959551) rfl rfl (take_ofW HT_.out HW_.out (by kernel_rfl)) (fun _ _ _ h => h) (Or.inl ⟨by rfl, ?_⟩) hHeld ?_ ?_
          rotate_left
          ·rintro w' ⟨s0, s1, s2, s3⟩
           go_simp
           with_reducible rfl
          rotate_left
          ·simp only [Act.put, List.setIfInBounds_toArray, List.set_cons_zero, List.set_cons_succ, i64_w, i32_w]
           rfl
          refine take_ (i := 28) (N := some 87) (v := ?_) (a' := ?_) (bt 43 1476395007) rfl rfl (take_ofW HT_.out HW_.out (by kernel_rfl)) (fun _ _ _ h => h) (Or.inl ⟨by rfl, ?_⟩) hHeld ?_ ?_
          rotate_left
          ·rintro w' ⟨s0, s1, s2, s3⟩
           go_simp
           with_reducible rfl
          rotate_left
          ·simp only [Act.put, List.setIfInBounds_toArray, List.set_cons_zero, List.set_cons_succ, i64_w, i32_w]
           rfl
          refine one_ (i := 27) (N := some 86) (bt 43 1610612735) rfl rfl (one_of HT_.out (by kernel_rfl)) (by decide) (fun K hK => ?_)
          refine goes_ Try.func21 (by kernel_rfl) rfl #[.agg #[.slice Ao41 t403.length co41, .slice Ao46 t406.length co46]] (by rfl) rfl rfl (by (try simp only [List.map_toArray, List.map_cons, List.map_nil]); first | done | rfl | (simp only [List.length_drop, List.length_take]; rfl)) ?_
          with_reducible refine (impl_AllOf.calls k _ _ t403 _ _ t406 t412 _ ?side1 ?side2 ?side3 ?side4 A62.out).mono ?_
          (case side1 => exact kC (Kd.S_reads' HO405.out).2.2)
          (case side2 => exact (Kd.S_reads' HO405.out).2.1)
          (case side3 => exact kC (Kd.R_reads' HO408.out).2.2)
          (case side4 => exact (Kd.R_reads' HO408.out).2.1)
          rintro e w69 ⟨rfl, hb⟩
          refine ⟨_, rfl, ?_⟩
          have n0_ := k0 (Kd.V_below (kV HO379.out) hb)
          have n1_ := k0 (Kd.R_below (kR HO382.out) hb)
          have n2_ := k0 (Kd.S_below (kS HO389.out) hb)
          have n3_ := k0 (Kd.R_below (kR HO392.out) hb)
          have n4_ := k0 (Kd.S_below (kS HO397.out) hb)
          have n5_ := k0 (Kd.R_below (kR HO400.out) hb)
          have n6_ := k0 (Kd.S_below (kS HO405.out) hb)
          have n7_ := k0 (Kd.R_below (kR HO408.out) hb)
          have n8_ := k0 (kb BK383.out hb)
          have n9_ := k0 (kb BK394.out hb)
          have n10_ := k0 (kb BK402.out hb)
          have n11_ := k0 (kb BK410.out hb)
          have n12_ := k0 (below_step (kW HB.out) hb)
          clear HO379 HO382 HO389 HO392 HO397 HO400 HO405 HO408 BK383 BK394 BK402 BK410 HB
          have HO379 := n0_
          have HO382 := n1_
          have HO389 := n2_
          have HO392 := n3_
          have HO397 := n4_
          have HO400 := n5_
          have HO405 := n6_
          have HO408 := n7_
          have BK383 := n8_
          have BK394 := n9_
          have BK402 := n10_
          have BK410 := n11_
          have HB := n12_
          clear n0_ n1_ n2_ n3_ n4_ n5_ n6_ n7_ n8_ n9_ n10_ n11_ n12_
          (try clear hb)
          (try clear hb2)
          (try clear hk)
          (try clear hi)
          refine hK.out _ _ ⟨(blk_cell BK383.out 0).trans rfl, (blk_cell BK383.out 1).trans rfl, (blk_cell BK410.out 0).trans rfl, (blk_cell BK410.out 1).trans rfl⟩ (fun hHeld => ?_)
          clear hK K
          refine norm_ (a' := ?_) ?_ ?_
          rotate_left
          ·show Act.put _ (some 86) _ = _
           simp only [Act.put, List.setIfInBounds_toArray, List.set_cons_zero, List.set_cons_succ, i64_w, i32_w]
           rfl
          refine one_ (i := 29) (N := some 88) (bt 43 2147483647) rfl rfl (one_of HT_.out (by kernel_rfl)) (by decide) (fun K hK => ?_)
          refine goes_ Try.func21 (by kernel_rfl) rfl #[.agg #[.slice Ao16 t377.length co16, .slice Ao18 t380.length co18]] (by rfl) rfl rfl (by (try simp only [List.map_toArray, List.map_cons, List.map_nil]); first | done | rfl | (simp only [List.length_drop, List.length_take]; rfl)) ?_
          with_reducible refine (impl_AllOf.calls k _ _ t377 _ _ t380 t413 _ ?side1 ?side2 ?side3 ?side4 A63.out).mono ?_
          (case side1 => exact kC (Kd.V_reads' HO379.out).2.2)
          (case side2 => exact (Kd.V_reads' HO379.out).2.1)
          (case side3 => exact kC (Kd.R_reads' HO382.out).2.2)
          (case side4 => exact (Kd.R_reads' HO382.out).2.1)
          rintro e w70 ⟨rfl, hb⟩
          refine ⟨_, rfl, ?_⟩
          have n0_ := k0 (Kd.V_below (kV HO379.out) hb)
          have n1_ := k0 (Kd.R_below (kR HO382.out) hb)
          have n2_ := k0 (Kd.S_below (kS HO389.out) hb)
          have n3_ := k0 (Kd.R_below (kR HO392.out) hb)
          have n4_ := k0 (Kd.S_below (kS HO397.out) hb)
          have n5_ := k0 (Kd.R_below (kR HO400.out) hb)
          have n6_ := k0 (Kd.S_below (kS HO405.out) hb)
          have n7_ := k0 (Kd.R_below (kR HO408.out) hb)
          have n8_ := k0 (kb BK383.out hb)
          have n9_ := k0 (kb BK394.out hb)
          have n10_ := k0 (kb BK402.out hb)
          have n11_ := k0 (kb BK410.out hb)
          have n12_ := k0 (below_step (kW HB.out) hb)
          clear HO379 HO382 HO389 HO392 HO397 HO400 HO405 HO408 BK383 BK394 BK402 BK410 HB
          have HO379 := n0_
          have HO382 := n1_
          have HO389 := n2_
          have HO392 := n3_
          have HO397 := n4_
          have HO400 := n5_
          have HO405 := n6_
          have HO408 := n7_
          have BK383 := n8_
          have BK394 := n9_
          have BK402 := n10_
          have BK410 := n11_
          have HB := n12_
          clear n0_ n1_ n2_ n3_ n4_ n5_ n6_ n7_ n8_ n9_ n10_ n11_ n12_
          (try clear hb)
          (try clear hb2)
          (try clear hk)
          (try clear hi)
          refine hK.out _ _ ⟨(blk_cell BK383.out 0).trans rfl, (blk_cell BK383.out 1).trans rfl, (blk_cell BK410.out 0).trans rfl, (blk_cell BK410.out 1).trans rfl⟩ (fun hHeld => ?_)
          clear hK K
          refine norm_ (a' := ?_) ?_ ?_
          rotate_left
          ·show Act.put _ (some 88) _ = _
           simp only [Act.put, List.setIfInBounds_toArray, List.set_cons_zero, List.set_cons_succ, i64_w, i32_w]
           rfl
          refine kP 31 90 43 4294967295 HT_.out ?_
          refine kP 32 91 43 8589934591 HT_.out ?_
          refine kP 33 92 43 17179869183 HT_.out ?_
          refine kP 34 93 43 34359738367 HT_.out ?_
          refine kP 36 95 43 103079215103 HT_.out ?_
          refine kP 38 97 43 377957122047 HT_.out ?_
          refine kP 39 98 43 927712935935 HT_.out ?_
          refine kP 40 99 43 2027224563711 HT_.out ?_
          refine take_ (i := 35) (N := some 94) (v := ?_) (a' := ?_) (bt 43 2061584302079) rfl rfl (take_ofW HT_.out HW_.out (by kernel_rfl)) (fun _ _ _ h => h) (Or.inl ⟨by rfl, ?_⟩) hHeld ?_ ?_
          rotate_left
          ·rintro w' ⟨s0, s1, s2, s3⟩
           go_simp
           with_reducible rfl
          rotate_left
          ·simp only [Act.put, List.setIfInBounds_toArray, List.set_cons_zero, List.set_cons_succ, i64_w, i32_w]
           rfl
          refine one_ (i := 37) (N := some 96) (bt 43 2199023255551) rfl rfl (one_of HT_.out (by kernel_rfl)) (by decide) (fun K hK => ?_)
          refine goes_ Try.func19 (by kernel_rfl) rfl #[.agg #[.slice Ao41 t403.length co41, .slice Ao46 t406.length co46], .int .i64 t384] (by rfl) rfl rfl (by (try simp only [List.map_toArray, List.map_cons, List.map_nil]); first | done | rfl | (simp only [List.length_drop, List.length_take]; rfl)) ?_
          with_reducible refine (impl_HasOf.calls k _ _ t403 _ _ t406 t384 t414 _ ?side1 ?side2 ?side3 ?side4 A65.out).mono ?_
          (case side1 => exact kC (Kd.S_reads' HO405.out).2.2)
          (case side2 => exact (Kd.S_reads' HO405.out).2.1)
          (case side3 => exact kC (Kd.R_reads' HO408.out).2.2)
          (case side4 => exact (Kd.R_reads' HO408.out).2.1)
          rintro e w71 ⟨rfl, hb⟩
          refine ⟨_, rfl, ?_⟩
          have n0_ := k0 (Kd.V_below (kV HO379.out) hb)
          have n1_ := k0 (Kd.R_below (kR HO382.out) hb)
          have n2_ := k0 (Kd.S_below (kS HO389.out) hb)
          have n3_ := k0 (Kd.R_below (kR HO392.out) hb)
          have n4_ := k0 (Kd.S_below (kS HO397.out) hb)
          have n5_ := k0 (Kd.R_below (kR HO400.out) hb)
          have n6_ := k0 (Kd.S_below (kS HO405.out) hb)
          have n7_ := k0 (Kd.R_below (kR HO408.out) hb)
          have n8_ := k0 (kb BK383.out hb)
          have n9_ := k0 (kb BK394.out hb)
          have n10_ := k0 (kb BK402.out hb)
          have n11_ := k0 (kb BK410.out hb)
          have n12_ := k0 (below_step (kW HB.out) hb)
          clear HO379 HO382 HO389 HO392 HO397 HO400 HO405 HO408 BK383 BK394 BK402 BK410 HB
          have HO379 := n0_
          have HO382 := n1_
          have HO389 := n2_
          have HO392 := n3_
          have HO397 := n4_
          have HO400 := n5_
          have HO405 := n6_
          have HO408 := n7_
          have BK383 := n8_
          have BK394 := n9_
          have BK402 := n10_
          have BK410 := n11_
          have HB := n12_
          clear n0_ n1_ n2_ n3_ n4_ n5_ n6_ n7_ n8_ n9_ n10_ n11_ n12_
          (try clear hb)
          (try clear hb2)
          (try clear hk)
          (try clear hi)
          refine hK.out _ _ ⟨(blk_cell BK383.out 0).trans rfl, (blk_cell BK383.out 1).trans rfl, (blk_cell BK410.out 0).trans rfl, (blk_cell BK410.out 1).trans rfl⟩ (fun hHeld => ?_)
          clear hK K
          refine norm_ (a' := ?_) ?_ ?_
          rotate_left
          ·show Act.put _ (some 96) _ = _
           simp only [Act.put, List.setIfInBounds_toArray, List.set_cons_zero, List.set_cons_succ, i64_w, i32_w]
           rfl
          refine kP 41 100 43 4398046511103 HT_.out ?_
          refine kP 42 101 43 8796093022207 HT_.out ?_
          refine done_ (done_of HT_.out (by kernel_rfl)) ?_
          try go_wp2
          go_meet
          case rel => exact ⟨_, ((t414 != (wrap64 (t386 + (wrap64 (1 + t385)))))), (by first | rfl | (simp; done) | (simp [*]; done)), H', ⟨by first | omega | exact Nat.le_refl _⟩, ⟨by (with_reducible repeat (first | apply Kd.V_alloc | apply Kd.V_drewN | apply Kd.V_drew)); exact HO379.out⟩, ⟨by (with_reducible repeat (first | apply Kd.R_alloc | apply Kd.R_drewN | apply Kd.R_drew)); exact HO382.out⟩, ⟨by (with_reducible repeat (first | apply Kd.S_alloc | apply Kd.S_drewN | apply Kd.S_drew)); exact HO389.out⟩, ⟨by (with_reducible repeat (first | apply Kd.R_alloc | apply Kd.R_drewN | apply Kd.R_drew)); exact HO392.out⟩, ⟨by (with_reducible repeat (first | apply Kd.S_alloc | apply Kd.S_drewN | apply Kd.S_drew)); exact HO397.out⟩, ⟨by (with_reducible repeat (first | apply Kd.R_alloc | apply Kd.R_drewN | apply Kd.R_drew)); exact HO400.out⟩, ⟨by (with_reducible repeat (first | apply Kd.S_alloc | apply Kd.S_drewN | apply Kd.S_drew)); exact HO405.out⟩, ⟨by (with_reducible repeat (first | apply Kd.R_alloc | apply Kd.R_drewN | apply Kd.R_drew)); exact HO408.out⟩, ⟨kB BK383.out⟩, ⟨kB BK394.out⟩, ⟨kB BK402.out⟩, ⟨kB BK410.out⟩, ⟨by repeat (first | (with_reducible first | exact HB.out | apply below_alloc | apply pw_below_drewN | apply below_drew1 | refine below_set ?_ GE383.out | refine below_set ?_ GE394.out | refine below_set ?_ GE402.out | refine below_set ?_ GE410.out) | exact HB.out)⟩⟩
         ·rw [if_neg c64] at H
          have c64b0 : (t412 == (wrap64 (t413 + (wrap64 (1 + t385))))) = false := beq_eq_false_iff_ne.mpr c64
          have c64b1 : (t412 != (wrap64 (t413 + (wrap64 (1 + t385))))) = true := bne_iff_ne.mpr c64
          have H' := Aside0.mk H
          clear H
          try go_wp2
          have n0_ := z0_
          have n1_ := z1_
          have n2_ := z2_
          have n3_ := z3_
          have n4_ := z4_
          have n5_ := z5_
          have n6_ := z6_
          have n7_ := z7_
          have n8_ := z8_
          have n9_ := z9_
          have n10_ := z10_
          have n11_ := z11_
          have n12_ := z12_
          (try clear HO379)
          (try clear HO382)
          (try clear HO389)
          (try clear HO392)
          (try clear HO397)
          (try clear HO400)
          (try clear HO405)
          (try clear HO408)
          (try clear BK383)
          (try clear BK394)
          (try clear BK402)
          (try clear BK410)
          (try clear HB)
          generalize ((w40.setCell ⟨gb410, 0, none⟩ (.slice Ao41 t403.length co41)).setCell ⟨gb410, 1, none⟩ (.slice Ao46 t406.length co46)) = w72 at n0_ n1_ n2_ n3_ n4_ n5_ n6_ n7_ n8_ n9_ n10_ n11_ n12_ ⊢
          have HO379 := n0_
          have HO382 := n1_
          have HO389 := n2_
          have HO392 := n3_
          have HO397 := n4_
          have HO400 := n5_
          have HO405 := n6_
          have HO408 := n7_
          have BK383 := n8_
          have BK394 := n9_
          have BK402 := n10_
          have BK410 := n11_
          have HB := n12_
          clear n0_ n1_ n2_ n3_ n4_ n5_ n6_ n7_ n8_ n9_ n10_ n11_ n12_
          have n0_ := k0 (Kd.V_drew HO379.out)
          have n1_ := k0 (Kd.R_drew HO382.out)
          have n2_ := k0 (Kd.S_drew HO389.out)
          have n3_ := k0 (Kd.R_drew HO392.out)
          have n4_ := k0 (Kd.S_drew HO397.out)
          have n5_ := k0 (Kd.R_drew HO400.out)
          have n6_ := k0 (Kd.S_drew HO405.out)
          have n7_ := k0 (Kd.R_drew HO408.out)
          have n8_ := k0 (blk_drew BK383.out)
          have n9_ := k0 (blk_drew BK394.out)
          have n10_ := k0 (blk_drew BK402.out)
          have n11_ := k0 (blk_drew BK410.out)
          have n12_ := k0 (below_drew1 HB.out)
          clear HO379 HO382 HO389 HO392 HO397 HO400 HO405 HO408 BK383 BK394 BK402 BK410 HB
          have HO379 := n0_
          have HO382 := n1_
          have HO389 := n2_
          have HO392 := n3_
          have HO397 := n4_
          have HO400 := n5_
          have HO405 := n6_
          have HO408 := n7_
          have BK383 := n8_
          have BK394 := n9_
          have BK402 := n10_
          have BK410 := n11_
          have HB := n12_
          clear n0_ n1_ n2_ n3_ n4_ n5_ n6_ n7_ n8_ n9_ n10_ n11_ n12_
          refine start_ (n := 43) (S := fun w' => w'.cell? ⟨gb383, 0, none⟩ = some (.slice Ao16 t377.length co16) ∧ w'.cell? ⟨gb383, 1, none⟩ = some (.slice Ao18 t380.length co18) ∧ w'.cell? ⟨gb410, 0, none⟩ = some (.slice Ao41 t403.length co41) ∧ w'.cell? ⟨gb410, 1, none⟩ = some (.slice Ao46 t406.length co46)) (ds := []) #[false, false, false, false, false, false, false, false, false, false, false, false, false, false, false, false, false, false, false, false, false, false, false, false, false, false, false, false, false, false, false, false, false, false, false, false, false, false, false, false, false, false, false] (by kernel_rfl) rfl rfl ⟨(blk_cell BK383.out 0).trans rfl, (blk_cell BK383.out 1).trans rfl, (blk_cell BK410.out 0).trans rfl, (blk_cell BK410.out 1).trans rfl⟩ (fun hHeld => ?_); refine with_tabW laws_FnRights.tab12 laws_FnRights.bits12 (fun HT_ HW_ => ?_)
          generalize w72.drew = w73 at HO379 HO382 HO389 HO392 HO397 HO400 HO405 HO408 BK383 BK394 BK402 BK410 HB hHeld ⊢
          refine take_ (i := 0) (N := some 59) (v := ?_) (a' := ?_) (bt 43 1) rfl rfl (take_ofW HT_.out HW_.out (by kernel_rfl)) (fun _ _ _ h => h) (Or.inl ⟨by rfl, ?_⟩) hHeld ?_ ?_
          rotate_left
          ·rintro w' ⟨s0, s1, s2, s3⟩
           go_simp
           with_reducible rfl
          rotate_left
          ·simp only [Act.put, List.setIfInBounds_toArray, List.set_cons_zero, List.set_cons_succ, i64_w, i32_w]
           rfl
          refine one_ (i := 1) (N := some 60) (bt 43 3) rfl rfl (one_of HT_.out (by kernel_rfl)) (by decide) (fun K hK => ?_)
          refine goes_ Try.func16 (by kernel_rfl) rfl #[.agg #[.slice Ao16 t377.length co16, .slice Ao18 t380.length co18]] (by rfl) rfl rfl (by (try simp only [List.map_toArray, List.map_cons, List.map_nil]); first | done | rfl | (simp only [List.length_drop, List.length_take]; rfl)) ?_
          with_reducible refine (impl_RightsOk.calls k _ _ t377 _ _ t380 true _ ?side1 ?side2 ?side3 ?side4 A47.out).mono ?_
          (case side1 => exact kC (Kd.V_reads' HO379.out).2.2)
          (case side2 => exact (Kd.V_reads' HO379.out).2.1)
          (case side3 => exact kC (Kd.R_reads' HO382.out).2.2)
          (case side4 => exact (Kd.R_reads' HO382.out).2.1)
          rintro e w74 ⟨rfl, hb⟩
          refine ⟨_, rfl, ?_⟩
          have n0_ := k0 (Kd.V_below (kV HO379.out) hb)
          have n1_ := k0 (Kd.R_below (kR HO382.out) hb)
          have n2_ := k0 (Kd.S_below (kS HO389.out) hb)
          have n3_ := k0 (Kd.R_below (kR HO392.out) hb)
          have n4_ := k0 (Kd.S_below (kS HO397.out) hb)
          have n5_ := k0 (Kd.R_below (kR HO400.out) hb)
          have n6_ := k0 (Kd.S_below (kS HO405.out) hb)
          have n7_ := k0 (Kd.R_below (kR HO408.out) hb)
          have n8_ := k0 (kb BK383.out hb)
          have n9_ := k0 (kb BK394.out hb)
          have n10_ := k0 (kb BK402.out hb)
          have n11_ := k0 (kb BK410.out hb)
          have n12_ := k0 (below_step (kW HB.out) hb)
          clear HO379 HO382 HO389 HO392 HO397 HO400 HO405 HO408 BK383 BK394 BK402 BK410 HB
          have HO379 := n0_
          have HO382 := n1_
          have HO389 := n2_
          have HO392 := n3_
          have HO397 := n4_
          have HO400 := n5_
          have HO405 := n6_
          have HO408 := n7_
          have BK383 := n8_
          have BK394 := n9_
          have BK402 := n10_
          have BK410 := n11_
          have HB := n12_
          clear n0_ n1_ n2_ n3_ n4_ n5_ n6_ n7_ n8_ n9_ n10_ n11_ n12_
          (try clear hb)
          (try clear hb2)
          (try clear hk)
          (try clear hi)
          refine hK.out _ _ ⟨(blk_cell BK383.out 0).trans rfl, (blk_cell BK383.out 1).trans rfl, (blk_cell BK410.out 0).trans rfl, (blk_cell BK410.out 1).trans rfl⟩ (fun hHeld => ?_)
          clear hK K
          refine norm_ (a' := ?_) ?_ ?_
          rotate_left
          ·show Act.put _ (some 60) _ = _
           simp only [Act.put, List.setIfInBounds_toArray, List.set_cons_zero, List.set_cons_succ, i64_w, i32_w]
           rfl
          refine kP 2 61 43 7 HT_.out ?_
          refine kP 3 62 43 15 HT_.out ?_
          refine kP 4 63 43 31 HT_.out ?_
          refine kP 5 64 43 63 HT_.out ?_
          refine kP 6 65 43 127 HT_.out ?_
          refine kP 7 66 43 255 HT_.out ?_
          refine kP 8 67 43 511 HT_.out ?_
          refine kP 9 68 43 1023 HT_.out ?_
          refine kP 10 69 43 2047 HT_.out ?_
          refine kP 11 70 43 4095 HT_.out ?_
          refine kP 12 71 43 8191 HT_.out ?_
          refine kP 13 72 43 16383 HT_.out ?_
          refine kP 14 73 43 32767 HT_.out ?_
          refine kP 15 74 43 65535 HT_.out ?_
          refine kP 16 75 43 131071 HT_.out ?_
          refine kP 17 76 43 262143 HT_.out ?_
          refine kP 18 77 43 524287 HT_.out ?_
          refine kP 19 78 43 1048575 HT_.out ?_
          refine kP 20 79 43 2097151 HT_.out ?_
          refine kP 21 80 43 4194303 HT_.out ?_
          refine kP 22 81 43 8388607 HT_.out ?_
          refine kP 23 82 43 16777215 HT_.out ?_
          refine kP 24 83 43 33554431 HT_.out ?_
          refine kP 25 84 43 67108863 HT_.out ?_
          refine kP 30 89 43 1140850687 HT_.out ?_
          refine take_ (i := 26) (N := some 85) (v := ?_) (a' := ?_) (bt 43 1207959551) rfl rfl (take_ofW HT_.out HW_.out (by kernel_rfl)) (fun _ _ _ h => h) (Or.inl ⟨by rfl, ?_⟩) hHeld ?_ ?_
          rotate_left
          ·rintro w' ⟨s0, s1, s2, s3⟩
           go_simp
           with_reducible rfl
          rotate_left
          ·simp only [Act.put, List.setIfInBounds_toArray, List.set_cons_zero, List.set_cons_succ, i64_w, i32_w]
           rfl
          refine take_ (i := 28) (N := some 87) (v := ?_) (a' := ?_) (bt 43 1476395007) rfl rfl (take_ofW HT_.out HW_.out (by kernel_rfl)) (fun _ _ _ h => h) (Or.inl ⟨by rfl, ?_⟩) hHeld ?_ ?_
          rotate_left
          ·rintro w' ⟨s0, s1, s2, s3⟩
           go_simp
           with_reducible rfl
          rotate_left
          ·simp only [Act.put, List.setIfInBounds_toArray, List.set_cons_zero, List.set_cons_succ, i64_w, i32_w]
           rfl
          refine one_ (i := 27) (N := some 86) (bt 43 1610612735) rfl rfl (one_of HT_.out (by kernel_rfl)) (by decide) (fun K hK => ?_)
          refine goes_ Try.func21 (by kernel_rfl) rfl #[.agg #[.slice Ao41 t403.length co41, .slice Ao46 t406.length co46]] (by rfl) rfl rfl (by (try simp only [List.map_toArray, List.map_cons, List.map_nil]); first | done | rfl | (simp only [List.length_drop, List.length_take]; rfl)) ?_
          with_reducible refine (impl_AllOf.calls k _ _ t403 _ _ t406 t412 _ ?side1 ?side2 ?side3 ?side4 A62.out).mono ?_
          (case side1 => exact kC (Kd.S_reads' HO405.out).2.2)
          (case side2 => exact (Kd.S_reads' HO405.out).2.1)
          (case side3 => exact kC (Kd.R_reads' HO408.out).2.2)
          (case side4 => exact (Kd.R_reads' HO408.out).2.1)
          rintro e w75 ⟨rfl, hb⟩
          refine ⟨_, rfl, ?_⟩
          have n0_ := k0 (Kd.V_below (kV HO379.out) hb)
          have n1_ := k0 (Kd.R_below (kR HO382.out) hb)
          have n2_ := k0 (Kd.S_below (kS HO389.out) hb)
          have n3_ := k0 (Kd.R_below (kR HO392.out) hb)
          have n4_ := k0 (Kd.S_below (kS HO397.out) hb)
          have n5_ := k0 (Kd.R_below (kR HO400.out) hb)
          have n6_ := k0 (Kd.S_below (kS HO405.out) hb)
          have n7_ := k0 (Kd.R_below (kR HO408.out) hb)
          have n8_ := k0 (kb BK383.out hb)
          have n9_ := k0 (kb BK394.out hb)
          have n10_ := k0 (kb BK402.out hb)
          have n11_ := k0 (kb BK410.out hb)
          have n12_ := k0 (below_step (kW HB.out) hb)
          clear HO379 HO382 HO389 HO392 HO397 HO400 HO405 HO408 BK383 BK394 BK402 BK410 HB
          have HO379 := n0_
          have HO382 := n1_
          have HO389 := n2_
          have HO392 := n3_
          have HO397 := n4_
          have HO400 := n5_
          have HO405 := n6_
          have HO408 := n7_
          have BK383 := n8_
          have BK394 := n9_
          have BK402 := n10_
          have BK410 := n11_
          have HB := n12_
          clear n0_ n1_ n2_ n3_ n4_ n5_ n6_ n7_ n8_ n9_ n10_ n11_ n12_
          (try clear hb)
          (try clear hb2)
          (try clear hk)
          (try clear hi)
          refine hK.out _ _ ⟨(blk_cell BK383.out 0).trans rfl, (blk_cell BK383.out 1).trans rfl, (blk_cell BK410.out 0).trans rfl, (blk_cell BK410.out 1).trans rfl⟩ (fun hHeld => ?_)
          clear hK K
          refine norm_ (a' := ?_) ?_ ?_
          rotate_left
          ·show Act.put _ (some 86) _ = _
           simp only [Act.put, List.setIfInBounds_toArray, List.set_cons_zero, List.set_cons_succ, i64_w, i32_w]
           rfl
          refine one_ (i := 29) (N := some 88) (bt 43 2147483647) rfl rfl (one_of HT_.out (by kernel_rfl)) (by decide) (fun K hK => ?_)
          refine goes_ Try.func21 (by kernel_rfl) rfl #[.agg #[.slice Ao16 t377.length co16, .slice Ao18 t380.length co18]] (by rfl) rfl rfl (by (try simp only [List.map_toArray, List.map_cons, List.map_nil]); first | done | rfl | (simp only [List.length_drop, List.length_take]; rfl)) ?_
          with_reducible refine (impl_AllOf.calls k _ _ t377 _ _ t380 t413 _ ?side1 ?side2 ?side3 ?side4 A63.out).mono ?_
          (case side1 => exact kC (Kd.V_reads' HO379.out).2.2)
          (case side2 => exact (Kd.V_reads' HO379.out).2.1)
          (case side3 => exact kC (Kd.R_reads' HO382.out).2.2)
          (case side4 => exact (Kd.R_reads' HO382.out).2.1)
          rintro e w76 ⟨rfl, hb⟩
          refine ⟨_, rfl, ?_⟩
          have n0_ := k0 (Kd.V_below (kV HO379.out) hb)
          have n1_ := k0 (Kd.R_below (kR HO382.out) hb)
          have n2_ := k0 (Kd.S_below (kS HO389.out) hb)
          have n3_ := k0 (Kd.R_below (kR HO392.out) hb)
          have n4_ := k0 (Kd.S_below (kS HO397.out) hb)
          have n5_ := k0 (Kd.R_below (kR HO400.out) hb)
          have n6_ := k0 (Kd.S_below (kS HO405.out) hb)
          have n7_ := k0 (Kd.R_below (kR HO408.out) hb)
          have n8_ := k0 (kb BK383.out hb)
          have n9_ := k0 (kb BK394.out hb)
          have n10_ := k0 (kb BK402.out hb)
          have n11_ := k0 (kb BK410.out hb)
          have n12_ := k0 (below_step (kW HB.out) hb)
          clear HO379 HO382 HO389 HO392 HO397 HO400 HO405 HO408 BK383 BK394 BK402 BK410 HB
          have HO379 := n0_
          have HO382 := n1_
          have HO389 := n2_
          have HO392 := n3_
          have HO397 := n4_
          have HO400 := n5_
          have HO405 := n6_
          have HO408 := n7_
          have BK383 := n8_
          have BK394 := n9_
          have BK402 := n10_
          have BK410 := n11_
          have HB := n12_
          clear n0_ n1_ n2_ n3_ n4_ n5_ n6_ n7_ n8_ n9_ n10_ n11_ n12_
          (try clear hb)
          (try clear hb2)
          (try clear hk)
          (try clear hi)
          refine hK.out _ _ ⟨(blk_cell BK383.out 0).trans rfl, (blk_cell BK383.out 1).trans rfl, (blk_cell BK410.out 0).trans rfl, (blk_cell BK410.out 1).trans rfl⟩ (fun hHeld => ?_)
          clear hK K
          refine norm_ (a' := ?_) ?_ ?_
          rotate_left
          ·show Act.put _ (some 88) _ = _
           simp only [Act.put, List.setIfInBounds_toArray, List.set_cons_zero, List.set_cons_succ, i64_w, i32_w]
           rfl
          refine kP 31 90 43 4294967295 HT_.out ?_
          refine kP 32 91 43 8589934591 HT_.out ?_
          refine kP 33 92 43 17179869183 HT_.out ?_
          refine kP 34 93 43 34359738367 HT_.out ?_
          refine kU 35 94 43 68719476735 HT_.out ?_
          refine kU 36 95 43 137438953471 HT_.out ?_
          refine kU 37 96 43 274877906943 HT_.out ?_
          refine kU 38 97 43 549755813887 HT_.out ?_
          refine kU 39 98 43 1099511627775 HT_.out ?_
          refine kU 40 99 43 2199023255551 HT_.out ?_
          refine kU 41 100 43 4398046511103 HT_.out ?_
          refine kP 42 101 43 8796093022207 HT_.out ?_
          refine done_ (done_of HT_.out (by kernel_rfl)) ?_
          try go_wp2
          go_meet
          case rel => exact ⟨_, (true), (by first | rfl | (simp; done) | (simp [*]; done)), H', ⟨by first | omega | exact Nat.le_refl _⟩, ⟨by (with_reducible repeat (first | apply Kd.V_alloc | apply Kd.V_drewN | apply Kd.V_drew)); exact HO379.out⟩, ⟨by (with_reducible repeat (first | apply Kd.R_alloc | apply Kd.R_drewN | apply Kd.R_drew)); exact HO382.out⟩, ⟨by (with_reducible repeat (first | apply Kd.S_alloc | apply Kd.S_drewN | apply Kd.S_drew)); exact HO389.out⟩, ⟨by (with_reducible repeat (first | apply Kd.R_alloc | apply Kd.R_drewN | apply Kd.R_drew)); exact HO392.out⟩, ⟨by (with_reducible repeat (first | apply Kd.S_alloc | apply Kd.S_drewN | apply Kd.S_drew)); exact HO397.out⟩, ⟨by (with_reducible repeat (first | apply Kd.R_alloc | apply Kd.R_drewN | apply Kd.R_drew)); exact HO400.out⟩, ⟨by (with_reducible repeat (first | apply Kd.S_alloc | apply Kd.S_drewN | apply Kd.S_drew)); exact HO405.out⟩, ⟨by (with_reducible repeat (first | apply Kd.R_alloc | apply Kd.R_drewN | apply Kd.R_drew)); exact HO408.out⟩, ⟨kB BK383.out⟩, ⟨kB BK394.out⟩, ⟨kB BK402.out⟩, ⟨kB BK410.out⟩, ⟨by repeat (first | (with_reducible first | exact HB.out | apply below_alloc | apply pw_below_drewN | apply below_drew1 | refine below_set ?_ GE383.out | refine below_set ?_ GE394.out | refine below_set ?_ GE402.out | refine below_set ?_ GE410.out) | exact HB.out)⟩⟩
        ·replace c61 := Bool.eq_false_iff.mpr c61
         subst c61
         have H1 : (laws_FnRights.j0 k t384 (Int.tmod (wrap64 (t384 + 1)) (wrap64 (2 + t376))) (wrap64 (1 + t385)) t386 t393 true t377 t380 t387 t390 t395 t398) = some r := by rw [if_neg (show ¬ (false = true) by decide)] at H; exact H
         clear H
         have H := H1
         clear H1
         have H' := Aside0.mk H
         clear H
         try go_wp2
         have n0_ := z0_
         have n1_ := z1_
         have n2_ := z2_
         have n3_ := z3_
         have n4_ := z4_
         have n5_ := z5_
         have n6_ := z6_
         have n7_ := z7_
         have n8_ := z8_
         have n9_ := z9_
         have n10_ := z10_
         have n11_ := z11_
         have n12_ := z12_
         (try clear HO379)
         (try clear HO382)
         (try clear HO389)
         (try clear HO392)
         (try clear HO397)
         (try clear HO400)
         (try clear HO405)
         (try clear HO408)
         (try clear BK383)
         (try clear BK394)
         (try clear BK402)
         (try clear BK410)
         (try clear HB)
         generalize ((w40.setCell ⟨gb410, 0, none⟩ (.slice Ao41 t403.length co41)).setCell ⟨gb410, 1, none⟩ (.slice Ao46 t406.length co46)) = w77 at n0_ n1_ n2_ n3_ n4_ n5_ n6_ n7_ n8_ n9_ n10_ n11_ n12_ ⊢
         have HO379 := n0_
         have HO382 := n1_
         have HO389 := n2_
         have HO392 := n3_
         have HO397 := n4_
         have HO400 := n5_
         have HO405 := n6_
         have HO408 := n7_
         have BK383 := n8_
         have BK394 := n9_
         have BK402 := n10_
         have BK410 := n11_
         have HB := n12_
         clear n0_ n1_ n2_ n3_ n4_ n5_ n6_ n7_ n8_ n9_ n10_ n11_ n12_
         have n0_ := k0 (Kd.V_drew HO379.out)
         have n1_ := k0 (Kd.R_drew HO382.out)
         have n2_ := k0 (Kd.S_drew HO389.out)
         have n3_ := k0 (Kd.R_drew HO392.out)
         have n4_ := k0 (Kd.S_drew HO397.out)
         have n5_ := k0 (Kd.R_drew HO400.out)
         have n6_ := k0 (Kd.S_drew HO405.out)
         have n7_ := k0 (Kd.R_drew HO408.out)
         have n8_ := k0 (blk_drew BK383.out)
         have n9_ := k0 (blk_drew BK394.out)
         have n10_ := k0 (blk_drew BK402.out)
         have n11_ := k0 (blk_drew BK410.out)
         have n12_ := k0 (below_drew1 HB.out)
         clear HO379 HO382 HO389 HO392 HO397 HO400 HO405 HO408 BK383 BK394 BK402 BK410 HB
         have HO379 := n0_
         have HO382 := n1_
         have HO389 := n2_
         have HO392 := n3_
         have HO397 := n4_
         have HO400 := n5_
         have HO405 := n6_
         have HO408 := n7_
         have BK383 := n8_
         have BK394 := n9_
         have BK402 := n10_
         have BK410 := n11_
         have HB := n12_
         clear n0_ n1_ n2_ n3_ n4_ n5_ n6_ n7_ n8_ n9_ n10_ n11_ n12_
         refine start_ (n := 43) (S := fun w' => w'.cell? ⟨gb383, 0, none⟩ = some (.slice Ao16 t377.length co16) ∧ w'.cell? ⟨gb383, 1, none⟩ = some (.slice Ao18 t380.length co18)) (ds := []) #[false, false, false, false, false, false, false, false, false, false, false, false, false, false, false, false, false, false, false, false, false, false, false, false, false, false, false, false, false, false, false, false, false, false, false, false, false, false, false, false, false, false, false] (by kernel_rfl) rfl rfl ⟨(blk_cell BK383.out 0).trans rfl, (blk_cell BK383.out 1).trans rfl⟩ (fun hHeld => ?_); refine with_tabW laws_FnRights.tab12 laws_FnRights.bits12 (fun HT_ HW_ => ?_)
         generalize w77.drew = w78 at HO379 HO382 HO389 HO392 HO397 HO400 HO405 HO408 BK383 BK394 BK402 BK410 HB hHeld ⊢
         refine take_ (i := 0) (N := some 59) (v := ?_) (a' := ?_) (bt 43 1) rfl rfl (take_ofW HT_.out HW_.out (by kernel_rfl)) (fun _ _ _ h => h) (Or.inl ⟨by rfl, ?_⟩) hHeld ?_ ?_
         rotate_left
         ·rintro w' ⟨s0, s1⟩
          go_simp
          with_reducible rfl
         rotate_left
         ·simp only [Act.put, List.setIfInBounds_toArray, List.set_cons_zero, List.set_cons_succ, i64_w, i32_w]
          rfl
         refine one_ (i := 1) (N := some 60) (bt 43 3) rfl rfl (one_of HT_.out (by kernel_rfl)) (by decide) (fun K hK => ?_)
         refine goes_ Try.func16 (by kernel_rfl) rfl #[.agg #[.slice Ao16 t377.length co16, .slice Ao18 t380.length co18]] (by rfl) rfl rfl (by (try simp only [List.map_toArray, List.map_cons, List.map_nil]); first | done | rfl | (simp only [List.length_drop, List.length_take]; rfl)) ?_
         with_reducible refine (impl_RightsOk.calls k _ _ t377 _ _ t380 true _ ?side1 ?side2 ?side3 ?side4 A47.out).mono ?_
         (case side1 => exact kC (Kd.V_reads' HO379.out).2.2)
         (case side2 => exact (Kd.V_reads' HO379.out).2.1)
         (case side3 => exact kC (Kd.R_reads' HO382.out).2.2)
         (case side4 => exact (Kd.R_reads' HO382.out).2.1)
         rintro e w79 ⟨rfl, hb⟩
         refine ⟨_, rfl, ?_⟩
         have n0_ := k0 (Kd.V_below (kV HO379.out) hb)
         have n1_ := k0 (Kd.R_below (kR HO382.out) hb)
         have n2_ := k0 (Kd.S_below (kS HO389.out) hb)
         have n3_ := k0 (Kd.R_below (kR HO392.out) hb)
         have n4_ := k0 (Kd.S_below (kS HO397.out) hb)
         have n5_ := k0 (Kd.R_below (kR HO400.out) hb)
         have n6_ := k0 (Kd.S_below (kS HO405.out) hb)
         have n7_ := k0 (Kd.R_below (kR HO408.out) hb)
         have n8_ := k0 (kb BK383.out hb)
         have n9_ := k0 (kb BK394.out hb)
         have n10_ := k0 (kb BK402.out hb)
         have n11_ := k0 (kb BK410.out hb)
         have n12_ := k0 (below_step (kW HB.out) hb)
         clear HO379 HO382 HO389 HO392 HO397 HO400 HO405 HO408 BK383 BK394 BK402 BK410 HB
         have HO379 := n0_
         have HO382 := n1_
         have HO389 := n2_
         have HO392 := n3_
         have HO397 := n4_
         have HO400 := n5_
         have HO405 := n6_
         have HO408 := n7_
         have BK383 := n8_
         have BK394 := n9_
         have BK402 := n10_
         have BK410 := n11_
         have HB := n12_
         clear n0_ n1_ n2_ n3_ n4_ n5_ n6_ n7_ n8_ n9_ n10_ n11_ n12_
         (try clear hb)
         (try clear hb2)
         (try clear hk)
         (try clear hi)
         refine hK.out _ _ ⟨(blk_cell BK383.out 0).trans rfl, (blk_cell BK383.out 1).trans rfl⟩ (fun hHeld => ?_)
         clear hK K
         refine norm_ (a' := ?_) ?_ ?_
         rotate_left
         ·show Act.put _ (some 60) _ = _
          simp only [Act.put, List.setIfInBounds_toArray, List.set_cons_zero, List.set_cons_succ, i64_w, i32_w]
          rfl
         refine kP 2 61 43 7 HT_.out ?_
         refine kP 3 62 43 15 HT_.out ?_
         refine kP 4 63 43 31 HT_.out ?_
         refine kP 5 64 43 63 HT_.out ?_
         refine kP 6 65 43 127 HT_.out ?_
         refine kP 7 66 43 255 HT_.out ?_
         refine kP 8 67 43 511 HT_.out ?_
         refine kP 9 68 43 1023 HT_.out ?_
         refine kP 10 69 43 2047 HT_.out ?_
         refine kP 11 70 43 4095 HT_.out ?_
         refine kP 12 71 43 8191 HT_.out ?_
         refine kP 13 72 43 16383 HT_.out ?_
         refine kP 14 73 43 32767 HT_.out ?_
         refine kP 15 74 43 65535 HT_.out ?_
         refine kP 16 75 43 131071 HT_.out ?_
         refine kP 17 76 43 262143 HT_.out ?_
         refine kP 18 77 43 524287 HT_.out ?_
         refine kP 19 78 43 1048575 HT_.out ?_
         refine kP 20 79 43 2097151 HT_.out ?_
         refine kP 21 80 43 4194303 HT_.out ?_
         refine kP 22 81 43 8388607 HT_.out ?_
         refine kP 23 82 43 16777215 HT_.out ?_
         refine kP 24 83 43 33554431 HT_.out ?_
         refine kP 25 84 43 67108863 HT_.out ?_
         refine kU 26 85 43 134217727 HT_.out ?_
         refine kU 27 86 43 268435455 HT_.out ?_
         refine kU 28 87 43 536870911 HT_.out ?_
         refine kU 29 88 43 1073741823 HT_.out ?_
         refine kU 30 89 43 2147483647 HT_.out ?_
         refine kU 31 90 43 4294967295 HT_.out ?_
         refine kU 32 91 43 8589934591 HT_.out ?_
         refine kP 33 92 43 17179869183 HT_.out ?_
         refine kP 34 93 43 34359738367 HT_.out ?_
         refine kU 35 94 43 68719476735 HT_.out ?_
         refine kU 36 95 43 137438953471 HT_.out ?_
         refine kU 37 96 43 274877906943 HT_.out ?_
         refine kU 38 97 43 549755813887 HT_.out ?_
         refine kU 39 98 43 1099511627775 HT_.out ?_
         refine kU 40 99 43 2199023255551 HT_.out ?_
         refine kU 41 100 43 4398046511103 HT_.out ?_
         refine kP 42 101 43 8796093022207 HT_.out ?_
         refine done_ (done_of HT_.out (by kernel_rfl)) ?_
         try go_wp2
         go_meet
         case rel => exact ⟨_, (true), (by first | rfl | (simp; done) | (simp [*]; done)), H', ⟨by first | omega | exact Nat.le_refl _⟩, ⟨by (with_reducible repeat (first | apply Kd.V_alloc | apply Kd.V_drewN | apply Kd.V_drew)); exact HO379.out⟩, ⟨by (with_reducible repeat (first | apply Kd.R_alloc | apply Kd.R_drewN | apply Kd.R_drew)); exact HO382.out⟩, ⟨by (with_reducible repeat (first | apply Kd.S_alloc | apply Kd.S_drewN | apply Kd.S_drew)); exact HO389.out⟩, ⟨by (with_reducible repeat (first | apply Kd.R_alloc | apply Kd.R_drewN | apply Kd.R_drew)); exact HO392.out⟩, ⟨by (with_reducible repeat (first | apply Kd.S_alloc | apply Kd.S_drewN | apply Kd.S_drew)); exact HO397.out⟩, ⟨by (with_reducible repeat (first | apply Kd.R_alloc | apply Kd.R_drewN | apply Kd.R_drew)); exact HO400.out⟩, ⟨by (with_reducible repeat (first | apply Kd.S_alloc | apply Kd.S_drewN | apply Kd.S_drew)); exact HO405.out⟩, ⟨by (with_reducible repeat (first | apply Kd.R_alloc | apply Kd.R_drewN | apply Kd.R_drew)); exact HO408.out⟩, ⟨kB BK383.out⟩, ⟨kB BK394.out⟩, ⟨kB BK402.out⟩, ⟨kB BK410.out⟩, ⟨by repeat (first | (with_reducible first | exact HB.out | apply below_alloc | apply pw_below_drewN | apply below_drew1 | refine below_set ?_ GE383.out | refine below_set ?_ GE394.out | refine below_set ?_ GE402.out | refine below_set ?_ GE410.out) | exact HB.out)⟩⟩
    ·replace c48 := Bool.eq_false_iff.mpr c48
     subst c48
     have H1 : (laws_FnRights.j0 k t384 (Int.tmod (wrap64 (t384 + 1)) (wrap64 (2 + t376))) (wrap64 (1 + t385)) t386 t393 true t377 t380 t387 t390 t395 t398) = some r := by rw [if_neg (show ¬ (false = true) by decide)] at H; exact H
     clear H
     have H := H1
     clear H1
     have H' := Aside0.mk H
     clear H
     try go_wp2
     have n0_ := z0_
     have n1_ := z1_
     have n2_ := z2_
     have n3_ := z3_
     have n4_ := z4_
     have n5_ := z5_
     have n6_ := z6_
     have n7_ := z7_
     have n8_ := z8_
     have n9_ := z9_
     have n10_ := z10_
     have n11_ := z11_
     have n12_ := z12_
     (try clear HO379)
     (try clear HO382)
     (try clear HO389)
     (try clear HO392)
     (try clear HO397)
     (try clear HO400)
     (try clear HO405)
     (try clear HO408)
     (try clear BK383)
     (try clear BK394)
     (try clear BK402)
     (try clear BK410)
     (try clear HB)
     generalize ((w40.setCell ⟨gb410, 0, none⟩ (.slice Ao41 t403.length co41)).setCell ⟨gb410, 1, none⟩ (.slice Ao46 t406.length co46)) = w80 at n0_ n1_ n2_ n3_ n4_ n5_ n6_ n7_ n8_ n9_ n10_ n11_ n12_ ⊢
     have HO379 := n0_
     have HO382 := n1_
     have HO389 := n2_
     have HO392 := n3_
     have HO397 := n4_
     have HO400 := n5_
     have HO405 := n6_
     have HO408 := n7_
     have BK383 := n8_
     have BK394 := n9_
     have BK402 := n10_
     have BK410 := n11_
     have HB := n12_
     clear n0_ n1_ n2_ n3_ n4_ n5_ n6_ n7_ n8_ n9_ n10_ n11_ n12_
     have n0_ := k0 (Kd.V_drew HO379.out)
     have n1_ := k0 (Kd.R_drew HO382.out)
     have n2_ := k0 (Kd.S_drew HO389.out)
     have n3_ := k0 (Kd.R_drew HO392.out)
     have n4_ := k0 (Kd.S_drew HO397.out)
     have n5_ := k0 (Kd.R_drew HO400.out)
     have n6_ := k0 (Kd.S_drew HO405.out)
     have n7_ := k0 (Kd.R_drew HO408.out)
     have n8_ := k0 (blk_drew BK383.out)
     have n9_ := k0 (blk_drew BK394.out)
     have n10_ := k0 (blk_drew BK402.out)
     have n11_ := k0 (blk_drew BK410.out)
     have n12_ := k0 (below_drew1 HB.out)
     clear HO379 HO382 HO389 HO392 HO397 HO400 HO405 HO408 BK383 BK394 BK402 BK410 HB
     have HO379 := n0_
     have HO382 := n1_
     have HO389 := n2_
     have HO392 := n3_
     have HO397 := n4_
     have HO400 := n5_
     have HO405 := n6_
     have HO408 := n7_
     have BK383 := n8_
     have BK394 := n9_
     have BK402 := n10_
     have BK410 := n11_
     have HB := n12_
     clear n0_ n1_ n2_ n3_ n4_ n5_ n6_ n7_ n8_ n9_ n10_ n11_ n12_
     refine start_ (n := 43) (S := fun w' => w'.cell? ⟨gb383, 0, none⟩ = some (.slice Ao16 t377.length co16) ∧ w'.cell? ⟨gb383, 1, none⟩ = some (.slice Ao18 t380.length co18)) (ds := []) #[false, false, false, false, false, false, false, false, false, false, false, false, false, false, false, false, false, false, false, false, false, false, false, false, false, false, false, false, false, false, false, false, false, false, false, false, false, false, false, false, false, false, false] (by kernel_rfl) rfl rfl ⟨(blk_cell BK383.out 0).trans rfl, (blk_cell BK383.out 1).trans rfl⟩ (fun hHeld => ?_); refine with_tabW laws_FnRights.tab12 laws_FnRights.bits12 (fun HT_ HW_ => ?_)
     generalize w80.drew = w81 at HO379 HO382 HO389 HO392 HO397 HO400 HO405 HO408 BK383 BK394 BK402 BK410 HB hHeld ⊢
     refine take_ (i := 0) (N := some 59) (v := ?_) (a' := ?_) (bt 43 1) rfl rfl (take_ofW HT_.out HW_.out (by kernel_rfl)) (fun _ _ _ h => h) (Or.inl ⟨by rfl, ?_⟩) hHeld ?_ ?_
     rotate_left
     ·rintro w' ⟨s0, s1⟩
      go_simp
      with_reducible rfl
     rotate_left
     ·simp only [Act.put, List.setIfInBounds_toArray, List.set_cons_zero, List.set_cons_succ, i64_w, i32_w]
      rfl
     refine one_ (i := 1) (N := some 60) (bt 43 3) rfl rfl (one_of HT_.out (by kernel_rfl)) (by decide) (fun K hK => ?_)
     refine goes_ Try.func16 (by kernel_rfl) rfl #[.agg #[.slice Ao16 t377.length co16, .slice Ao18 t380.length co18]] (by rfl) rfl rfl (by (try simp only [List.map_toArray, List.map_cons, List.map_nil]); first | done | rfl | (simp only [List.length_drop, List.length_take]; rfl)) ?_
     with_reducible refine (impl_RightsOk.calls k _ _ t377 _ _ t380 false _ ?side1 ?side2 ?side3 ?side4 A47.out).mono ?_
     (case side1 => exact kC (Kd.V_reads' HO379.out).2.2)
     (case side2 => exact (Kd.V_reads' HO379.out).2.1)
     (case side3 => exact kC (Kd.R_reads' HO382.out).2.2)
     (case side4 => exact (Kd.R_reads' HO382.out).2.1)
     rintro e w82 ⟨rfl, hb⟩
     refine ⟨_, rfl, ?_⟩
     have n0_ := k0 (Kd.V_below (kV HO379.out) hb)
     have n1_ := k0 (Kd.R_below (kR HO382.out) hb)
     have n2_ := k0 (Kd.S_below (kS HO389.out) hb)
     have n3_ := k0 (Kd.R_below (kR HO392.out) hb)
     have n4_ := k0 (Kd.S_below (kS HO397.out) hb)
     have n5_ := k0 (Kd.R_below (kR HO400.out) hb)
     have n6_ := k0 (Kd.S_below (kS HO405.out) hb)
     have n7_ := k0 (Kd.R_below (kR HO408.out) hb)
     have n8_ := k0 (kb BK383.out hb)
     have n9_ := k0 (kb BK394.out hb)
     have n10_ := k0 (kb BK402.out hb)
     have n11_ := k0 (kb BK410.out hb)
     have n12_ := k0 (below_step (kW HB.out) hb)
     clear HO379 HO382 HO389 HO392 HO397 HO400 HO405 HO408 BK383 BK394 BK402 BK410 HB
     have HO379 := n0_
     have HO382 := n1_
     have HO389 := n2_
     have HO392 := n3_
     have HO397 := n4_
     have HO400 := n5_
     have HO405 := n6_
     have HO408 := n7_
     have BK383 := n8_
     have BK394 := n9_
     have BK402 := n10_
     have BK410 := n11_
     have HB := n12_
     clear n0_ n1_ n2_ n3_ n4_ n5_ n6_ n7_ n8_ n9_ n10_ n11_ n12_
     (try clear hb)
     (try clear hb2)
     (try clear hk)
     (try clear hi)
     refine hK.out _ _ ⟨(blk_cell BK383.out 0).trans rfl, (blk_cell BK383.out 1).trans rfl⟩ (fun hHeld => ?_)
     clear hK K
     refine norm_ (a' := ?_) ?_ ?_
     rotate_left
     ·show Act.put _ (some 60) _ = _
      simp only [Act.put, List.setIfInBounds_toArray, List.set_cons_zero, List.set_cons_succ, i64_w, i32_w]
      rfl
     refine kP 2 61 43 7 HT_.out ?_
     refine kP 3 62 43 15 HT_.out ?_
     refine kU 4 63 43 31 HT_.out ?_
     refine kU 5 64 43 63 HT_.out ?_
     refine kP 6 65 43 127 HT_.out ?_
     refine kP 7 66 43 255 HT_.out ?_
     refine kU 8 67 43 511 HT_.out ?_
     refine kU 9 68 43 1023 HT_.out ?_
     refine kU 10 69 43 2047 HT_.out ?_
     refine kU 11 70 43 4095 HT_.out ?_
     refine kU 12 71 43 8191 HT_.out ?_
     refine kP 13 72 43 16383 HT_.out ?_
     refine kP 14 73 43 32767 HT_.out ?_
     refine kU 15 74 43 65535 HT_.out ?_
     refine kU 16 75 43 131071 HT_.out ?_
     refine kU 17 76 43 262143 HT_.out ?_
     refine kU 18 77 43 524287 HT_.out ?_
     refine kU 19 78 43 1048575 HT_.out ?_
     refine kP 20 79 43 2097151 HT_.out ?_
     refine kP 21 80 43 4194303 HT_.out ?_
     refine kU 22 81 43 8388607 HT_.out ?_
     refine kU 23 82 43 16777215 HT_.out ?_
     refine kP 24 83 43 33554431 HT_.out ?_
     refine kP 25 84 43 67108863 HT_.out ?_
     refine kU 26 85 43 134217727 HT_.out ?_
     refine kU 27 86 43 268435455 HT_.out ?_
     refine kU 28 87 43 536870911 HT_.out ?_
     refine kU 29 88 43 1073741823 HT_.out ?_
     refine kU 30 89 43 2147483647 HT_.out ?_
     refine kU 31 90 43 4294967295 HT_.out ?_
     refine kU 32 91 43 8589934591 HT_.out ?_
     refine kP 33 92 43 17179869183 HT_.out ?_
     refine kP 34 93 43 34359738367 HT_.out ?_
     refine kU 35 94 43 68719476735 HT_.out ?_
     refine kU 36 95 43 137438953471 HT_.out ?_
     refine kU 37 96 43 274877906943 HT_.out ?_
     refine kU 38 97 43 549755813887 HT_.out ?_
     refine kU 39 98 43 1099511627775 HT_.out ?_
     refine kU 40 99 43 2199023255551 HT_.out ?_
     refine kU 41 100 43 4398046511103 HT_.out ?_
     refine kP 42 101 43 8796093022207 HT_.out ?_
     refine done_ (done_of HT_.out (by kernel_rfl)) ?_
     try go_wp2
     go_meet
     case rel => exact ⟨_, (true), (by first | rfl | (simp; done) | (simp [*]; done)), H', ⟨by first | omega | exact Nat.le_refl _⟩, ⟨by (with_reducible repeat (first | apply Kd.V_alloc | apply Kd.V_drewN | apply Kd.V_drew)); exact HO379.out⟩, ⟨by (with_reducible repeat (first | apply Kd.R_alloc | apply Kd.R_drewN | apply Kd.R_drew)); exact HO382.out⟩, ⟨by (with_reducible repeat (first | apply Kd.S_alloc | apply Kd.S_drewN | apply Kd.S_drew)); exact HO389.out⟩, ⟨by (with_reducible repeat (first | apply Kd.R_alloc | apply Kd.R_drewN | apply Kd.R_drew)); exact HO392.out⟩, ⟨by (with_reducible repeat (first | apply Kd.S_alloc | apply Kd.S_drewN | apply Kd.S_drew)); exact HO397.out⟩, ⟨by (with_reducible repeat (first | apply Kd.R_alloc | apply Kd.R_drewN | apply Kd.R_drew)); exact HO400.out⟩, ⟨by (with_reducible repeat (first | apply Kd.S_alloc | apply Kd.S_drewN | apply Kd.S_drew)); exact HO405.out⟩, ⟨by (with_reducible repeat (first | apply Kd.R_alloc | apply Kd.R_drewN | apply Kd.R_drew)); exact HO408.out⟩, ⟨kB BK383.out⟩, ⟨kB BK394.out⟩, ⟨kB BK402.out⟩, ⟨kB BK410.out⟩, ⟨by repeat (first | (with_reducible first | exact HB.out | apply below_alloc | apply pw_below_drewN | apply below_drew1 | refine below_set ?_ GE383.out | refine below_set ?_ GE394.out | refine below_set ?_ GE402.out | refine below_set ?_ GE410.out) | exact HB.out)⟩⟩
   case rest =>
    clear HC12
    try clear c1
    try clear p2
    try clear c4
    try clear p6
    try clear c16
    try clear c48
    try clear p64
    obtain ⟨kq, x101_11, rfl, HA, HJ11, HO_384000, HO_384001, HO_395000, HO_395001, HO_403000, HO_403001, HO_411000, HO_411001, BK383, BK394, BK402, BK410, HB⟩ := hcut
    cases kq with
    | zero => exact absurd HA.out (by simp [laws_FnRights.j0])
    | succ kj11 =>
     have H := HA.out
     clear HA
     simp only [laws_FnRights.j0] at H
     by_cases c83 : x101_11 = true
     ·subst c83
      have H1 : (some false) = some r := by rw [if_pos rfl] at H; exact H
      clear H
      have H := H1
      clear H1
      exact absurd ((Option.some.inj H).trans HR.out) (by decide)
     ·replace c83 := Bool.eq_false_iff.mpr c83
      subst c83
      have H1 : (if t393 = true then ((impl_HasOf.f kj11 t387 t390 t384).bind fun t415 => (if t415 = (wrap64 (t386 - (wrap64 (1 + t385)))) then ((impl_HasOf.f kj11 t387 t390 (Int.tmod (wrap64 (t384 + 1)) (wrap64 (2 + t376)))).bind fun t416 => ((impl_HasOf.f kj11 t377 t380 (Int.tmod (wrap64 (t384 + 1)) (wrap64 (2 + t376)))).bind fun t417 => (if t416 = (wrap64 (t417 + (wrap64 (1 + t385)))) then ((impl_AllOf.f kj11 t387 t390).bind fun t418 => ((impl_AllOf.f kj11 t377 t380).bind fun t419 => (if t418 = t419 then ((impl_AllOf.f kj11 t395 t398).bind fun t420 => ((impl_AllOf.f kj11 t377 t380).bind fun t421 => (if t420 = (wrap64 (t421 - (wrap64 (1 + t385)))) then ((impl_Later.f kj11 t377 t380 t387 t390).bind fun t422 => (if t422 = true then ((impl_Later.f kj11 t377 t380 t395 t398).bind fun t423 => (some t423)) else (some false))) else (some false)))) else (some false)))) else (some false)))) else (some false))) else (some true)) = some r := by rw [if_neg (show ¬ (false = true) by decide)] at H; exact H
      clear H
      have H := H1
      clear H1
      by_cases c84 : t393 = true
      ·subst c84
       have H1 : ((impl_HasOf.f kj11 t387 t390 t384).bind fun t415 => (if t415 = (wrap64 (t386 - (wrap64 (1 + t385)))) then ((impl_HasOf.f kj11 t387 t390 (Int.tmod (wrap64 (t384 + 1)) (wrap64 (2 + t376)))).bind fun t416 => ((impl_HasOf.f kj11 t377 t380 (Int.tmod (wrap64 (t384 + 1)) (wrap64 (2 + t376)))).bind fun t417 => (if t416 = (wrap64 (t417 + (wrap64 (1 + t385)))) then ((impl_AllOf.f kj11 t387 t390).bind fun t418 => ((impl_AllOf.f kj11 t377 t380).bind fun t419 => (if t418 = t419 then ((impl_AllOf.f kj11 t395 t398).bind fun t420 => ((impl_AllOf.f kj11 t377 t380).bind fun t421 => (if t420 = (wrap64 (t421 - (wrap64 (1 + t385)))) then ((impl_Later.f kj11 t377 t380 t387 t390).bind fun t422 => (if t422 = true then ((impl_Later.f kj11 t377 t380 t395 t398).bind fun t423 => (some t423)) else (some false))) else (some false)))) else (some false)))) else (some false)))) else (some false))) = some r := by rw [if_pos rfl] at H; exact H
       clear H
       have H := H1
       clear H1
       replace H := Option.bind_eq_some_iff.mp H
       obtain ⟨t415, A850, H⟩ := H
       replace H : (if t415 = (wrap64 (t386 - (wrap64 (1 + t385)))) then ((impl_HasOf.f kj11 t387 t390 (Int.tmod (wrap64 (t384 + 1)) (wrap64 (2 + t376)))).bind fun t416 => ((impl_HasOf.f kj11 t377 t380 (Int.tmod (wrap64 (t384 + 1)) (wrap64 (2 + t376)))).bind fun t417 => (if t416 = (wrap64 (t417 + (wrap64 (1 + t385)))) then ((impl_AllOf.f kj11 t387 t390).bind fun t418 => ((impl_AllOf.f kj11 t377 t380).bind fun t419 => (if t418 = t419 then ((impl_AllOf.f kj11 t395 t398).bind fun t420 => ((impl_AllOf.f kj11 t377 t380).bind fun t421 => (if t420 = (wrap64 (t421 - (wrap64 (1 + t385)))) then ((impl_Later.f kj11 t377 t380 t387 t390).bind fun t422 => (if t422 = true then ((impl_Later.f kj11 t377 t380 t395 t398).bind fun t423 => (some t423)) else (some false))) else (some false)))) else (some false)))) else (some false)))) else (some false)) = some r := H
       have A85 := Aside0.mk A850
       clear A850
       by_cases c86 : t415 = (wrap64 (t386 - (wrap64 (1 + t385))))
       ·rw [if_pos c86] at H
        have c86b0 : (t415 == (wrap64 (t386 - (wrap64 (1 + t385))))) = true := beq_iff_eq.mpr c86
        have c86b1 : (t415 != (wrap64 (t386 - (wrap64 (1 + t385))))) = false := bne_eq_false_iff_eq.mpr c86
        clear c86
        replace H := Option.bind_eq_some_iff.mp H
        obtain ⟨t416, A870, H⟩ := H
        replace H : ((impl_HasOf.f kj11 t377 t380 (Int.tmod (wrap64 (t384 + 1)) (wrap64 (2 + t376)))).bind fun t417 => (if t416 = (wrap64 (t417 + (wrap64 (1 + t385)))) then ((impl_AllOf.f kj11 t387 t390).bind fun t418 => ((impl_AllOf.f kj11 t377 t380).bind fun t419 => (if t418 = t419 then ((impl_AllOf.f kj11 t395 t398).bind fun t420 => ((impl_AllOf.f kj11 t377 t380).bind fun t421 => (if t420 = (wrap64 (t421 - (wrap64 (1 + t385)))) then ((impl_Later.f kj11 t377 t380 t387 t390).bind fun t422 => (if t422 = true then ((impl_Later.f kj11 t377 t380 t395 t398).bind fun t423 => (some t423)) else (some false))) else (some false)))) else (some false)))) else (some false))) = some r := H
        have A87 := Aside0.mk A870
        clear A870
        replace H := Option.bind_eq_some_iff.mp H
        obtain ⟨t417, A880, H⟩ := H
        replace H : (if t416 = (wrap64 (t417 + (wrap64 (1 + t385)))) then ((impl_AllOf.f kj11 t387 t390).bind fun t418 => ((impl_AllOf.f kj11 t377 t380).bind fun t419 => (if t418 = t419 then ((impl_AllOf.f kj11 t395 t398).bind fun t420 => ((impl_AllOf.f kj11 t377 t380).bind fun t421 => (if t420 = (wrap64 (t421 - (wrap64 (1 + t385)))) then ((impl_Later.f kj11 t377 t380 t387 t390).bind fun t422 => (if t422 = true then ((impl_Later.f kj11 t377 t380 t395 t398).bind fun t423 => (some t423)) else (some false))) else (some false)))) else (some false)))) else (some false)) = some r := H
        have A88 := Aside0.mk A880
        clear A880
        by_cases c89 : t416 = (wrap64 (t417 + (wrap64 (1 + t385))))
        ·rw [if_pos c89] at H
         have c89b0 : (t416 == (wrap64 (t417 + (wrap64 (1 + t385))))) = true := beq_iff_eq.mpr c89
         have c89b1 : (t416 != (wrap64 (t417 + (wrap64 (1 + t385))))) = false := bne_eq_false_iff_eq.mpr c89
         clear c89
         replace H := Option.bind_eq_some_iff.mp H
         obtain ⟨t418, A900, H⟩ := H
         replace H : ((impl_AllOf.f kj11 t377 t380).bind fun t419 => (if t418 = t419 then ((impl_AllOf.f kj11 t395 t398).bind fun t420 => ((impl_AllOf.f kj11 t377 t380).bind fun t421 => (if t420 = (wrap64 (t421 - (wrap64 (1 + t385)))) then ((impl_Later.f kj11 t377 t380 t387 t390).bind fun t422 => (if t422 = true then ((impl_Later.f kj11 t377 t380 t395 t398).bind fun t423 => (some t423)) else (some false))) else (some false)))) else (some false))) = some r := H
         have A90 := Aside0.mk A900
         clear A900
         replace H := Option.bind_eq_some_iff.mp H
         obtain ⟨t419, A910, H⟩ := H
         replace H : (if t418 = t419 then ((impl_AllOf.f kj11 t395 t398).bind fun t420 => ((impl_AllOf.f kj11 t377 t380).bind fun t421 => (if t420 = (wrap64 (t421 - (wrap64 (1 + t385)))) then ((impl_Later.f kj11 t377 t380 t387 t390).bind fun t422 => (if t422 = true then ((impl_Later.f kj11 t377 t380 t395 t398).bind fun t423 => (some t423)) else (some false))) else (some false)))) else (some false)) = some r := H
         have A91 := Aside0.mk A910
         clear A910
         by_cases c92 : t418 = t419
         ·rw [if_pos c92] at H
          have c92b0 : (t418 == t419) = true := beq_iff_eq.mpr c92
          have c92b1 : (t418 != t419) = false := bne_eq_false_iff_eq.mpr c92
          clear c92
          replace H := Option.bind_eq_some_iff.mp H
          obtain ⟨t420, A930, H⟩ := H
          replace H : ((impl_AllOf.f kj11 t377 t380).bind fun t421 => (if t420 = (wrap64 (t421 - (wrap64 (1 + t385)))) then ((impl_Later.f kj11 t377 t380 t387 t390).bind fun t422 => (if t422 = true then ((impl_Later.f kj11 t377 t380 t395 t398).bind fun t423 => (some t423)) else (some false))) else (some false))) = some r := H
          have A93 := Aside0.mk A930
          clear A930
          replace H := Option.bind_eq_some_iff.mp H
          obtain ⟨t421, A940, H⟩ := H
          replace H : (if t420 = (wrap64 (t421 - (wrap64 (1 + t385)))) then ((impl_Later.f kj11 t377 t380 t387 t390).bind fun t422 => (if t422 = true then ((impl_Later.f kj11 t377 t380 t395 t398).bind fun t423 => (some t423)) else (some false))) else (some false)) = some r := H
          have A94 := Aside0.mk A940
          clear A940
          by_cases c95 : t420 = (wrap64 (t421 - (wrap64 (1 + t385))))
          ·rw [if_pos c95] at H
           have c95b0 : (t420 == (wrap64 (t421 - (wrap64 (1 + t385))))) = true := beq_iff_eq.mpr c95
           have c95b1 : (t420 != (wrap64 (t421 - (wrap64 (1 + t385))))) = false := bne_eq_false_iff_eq.mpr c95
           clear c95
           replace H := Option.bind_eq_some_iff.mp H
           obtain ⟨t422, A960, H⟩ := H
           replace H : (if t422 = true then ((impl_Later.f kj11 t377 t380 t395 t398).bind fun t423 => (some t423)) else (some false)) = some r := H
           have A96 := Aside0.mk A960
           clear A960
           by_cases c97 : t422 = true
           ·subst c97
            have H1 : ((impl_Later.f kj11 t377 t380 t395 t398).bind fun t423 => (some t423)) = some r := by rw [if_pos rfl] at H; exact H
            clear H
            have H := H1
            clear H1
            replace H := Option.bind_eq_some_iff.mp H
            obtain ⟨t423, A980, H⟩ := H
            replace H : (some t423) = some r := H
            have A98 := Aside0.mk A980
            clear A980
            obtain rfl := Option.some.inj H
            try go_wp2
            have n0_ := k0 (Kd.V_drew HO_384000.out)
            have n1_ := k0 (Kd.R_drew HO_384001.out)
            have n2_ := k0 (Kd.S_drew HO_395000.out)
            have n3_ := k0 (Kd.R_drew HO_395001.out)
            have n4_ := k0 (Kd.S_drew HO_403000.out)
            have n5_ := k0 (Kd.R_drew HO_403001.out)
            have n6_ := k0 (Kd.S_drew HO_411000.out)
            have n7_ := k0 (Kd.R_drew HO_411001.out)
            have n8_ := k0 (blk_drew BK383.out)
            have n9_ := k0 (blk_drew BK394.out)
            have n10_ := k0 (blk_drew BK402.out)
            have n11_ := k0 (blk_drew BK410.out)
            have n12_ := k0 (below_drew1 HB.out)
            clear HO_384000 HO_384001 HO_395000 HO_395001 HO_403000 HO_403001 HO_411000 HO_411001 BK383 BK394 BK402 BK410 HB
            have HO_384000 := n0_
            have HO_384001 := n1_
            have HO_395000 := n2_
            have HO_395001 := n3_
            have HO_403000 := n4_
            have HO_403001 := n5_
            have HO_411000 := n6_
            have HO_411001 := n7_
            have BK383 := n8_
            have BK394 := n9_
            have BK402 := n10_
            have BK410 := n11_
            have HB := n12_
            clear n0_ n1_ n2_ n3_ n4_ n5_ n6_ n7_ n8_ n9_ n10_ n11_ n12_
            refine start_ (n := 45) (S := fun w' => w'.cell? ⟨gb394, 0, none⟩ = some (.slice Ao26 t387.length co26) ∧ w'.cell? ⟨gb394, 1, none⟩ = some (.slice Ao29 t390.length co29) ∧ w'.cell? ⟨gb383, 0, none⟩ = some (.slice Ao16 t377.length co16) ∧ w'.cell? ⟨gb383, 1, none⟩ = some (.slice Ao18 t380.length co18) ∧ w'.cell? ⟨gb402, 0, none⟩ = some (.slice Ao33 t395.length co33) ∧ w'.cell? ⟨gb402, 1, none⟩ = some (.slice Ao37 t398.length co37)) (ds := []) #[false, false, false, false, false, false, false, false, false, false, false, false, false, false, false, false, false, false, false, false, false, false, false, false, false, false, false, false, false, false, false, false, false, false, false, false, false, false, false, false, false, false, false, false, false] (by kernel_rfl) rfl rfl ⟨(blk_cell BK394.out 0).trans rfl, (blk_cell BK394.out 1).trans rfl, (blk_cell BK383.out 0).trans rfl, (blk_cell BK383.out 1).trans rfl, (blk_cell BK402.out 0).trans rfl, (blk_cell BK402.out 1).trans rfl⟩ (fun hHeld => ?_); refine with_tabW laws_FnRights.tab16 laws_FnRights.bits16 (fun HT_ HW_ => ?_)
            generalize wc.drew = w99 at HO_384000 HO_384001 HO_395000 HO_395001 HO_403000 HO_403001 HO_411000 HO_411001 BK383 BK394 BK402 BK410 HB hHeld ⊢
            refine kP 1 105 45 2 HT_.out ?_
            refine kP 3 107 45 10 HT_.out ?_
            refine kP 4 108 45 26 HT_.out ?_
            refine kP 5 109 45 58 HT_.out ?_
            refine take_ (i := 0) (N := some 104) (v := ?_) (a' := ?_) (bt 45 59) rfl rfl (take_ofW HT_.out HW_.out (by kernel_rfl)) (fun _ _ _ h => h) (Or.inl ⟨by rfl, ?_⟩) hHeld ?_ ?_
            rotate_left
            ·rintro w' ⟨s0, s1, s2, s3, s4, s5⟩
             go_simp
             with_reducible rfl
            rotate_left
            ·simp only [Act.put, List.setIfInBounds_toArray, List.set_cons_zero, List.set_cons_succ, i64_w, i32_w]
             rfl
            refine one_ (i := 2) (N := some 106) (bt 45 63) rfl rfl (one_of HT_.out (by kernel_rfl)) (by decide) (fun K hK => ?_)
            refine goes_ Try.func19 (by kernel_rfl) rfl #[.agg #[.slice Ao26 t387.length co26, .slice Ao29 t390.length co29], .int .i64 t384] (by rfl) rfl rfl (by (try simp only [List.map_toArray, List.map_cons, List.map_nil]); first | done | rfl | (simp only [List.length_drop, List.length_take]; rfl)) ?_
            with_reducible refine (impl_HasOf.calls kj11 _ _ t387 _ _ t390 t384 t415 _ ?side1 ?side2 ?side3 ?side4 A85.out).mono ?_
            (case side1 => exact kC (Kd.S_reads' HO_395000.out).2.2)
            (case side2 => exact (Kd.S_reads' HO_395000.out).2.1)
            (case side3 => exact kC (Kd.R_reads' HO_395001.out).2.2)
            (case side4 => exact (Kd.R_reads' HO_395001.out).2.1)
            rintro e w100 ⟨rfl, hb⟩
            refine ⟨_, rfl, ?_⟩
            have n0_ := k0 (Kd.V_below (kV HO_384000.out) hb)
            have n1_ := k0 (Kd.R_below (kR HO_384001.out) hb)
            have n2_ := k0 (Kd.S_below (kS HO_395000.out) hb)
            have n3_ := k0 (Kd.R_below (kR HO_395001.out) hb)
            have n4_ := k0 (Kd.S_below (kS HO_403000.out) hb)
            have n5_ := k0 (Kd.R_below (kR HO_403001.out) hb)
            have n6_ := k0 (Kd.S_below (kS HO_411000.out) hb)
            have n7_ := k0 (Kd.R_below (kR HO_411001.out) hb)
            have n8_ := k0 (kb BK383.out hb)
            have n9_ := k0 (kb BK394.out hb)
            have n10_ := k0 (kb BK402.out hb)
            have n11_ := k0 (kb BK410.out hb)
            have n12_ := k0 (below_step (kW HB.out) hb)
            clear HO_384000 HO_384001 HO_395000 HO_395001 HO_403000 HO_403001 HO_411000 HO_411001 BK383 BK394 BK402 BK410 HB
            have HO_384000 := n0_
            have HO_384001 := n1_
            have HO_395000 := n2_
            have HO_395001 := n3_
            have HO_403000 := n4_
            have HO_403001 := n5_
            have HO_411000 := n6_
            have HO_411001 := n7_
            have BK383 := n8_
            have BK394 := n9_
            have BK402 := n10_
            have BK410 := n11_
            have HB := n12_
            clear n0_ n1_ n2_ n3_ n4_ n5_ n6_ n7_ n8_ n9_ n10_ n11_ n12_
            (try clear hb)
            (try clear hb2)
            (try clear hk)
            (try clear hi)
            refine hK.out _ _ ⟨(blk_cell BK394.out 0).trans rfl, (blk_cell BK394.out 1).trans rfl, (blk_cell BK383.out 0).trans rfl, (blk_cell BK383.out 1).trans rfl, (blk_cell BK402.out 0).trans rfl, (blk_cell BK402.out 1).trans rfl⟩ (fun hHeld => ?_)
            clear hK K
            refine norm_ (a' := ?_) ?_ ?_
            rotate_left
            ·show Act.put _ (some 106) _ = _
             simp only [Act.put, List.setIfInBounds_toArray, List.set_cons_zero, List.set_cons_succ, i64_w, i32_w]
             rfl
            refine kP 6 110 45 127 HT_.out ?_
            refine kP 7 111 45 255 HT_.out ?_
            refine kP 9 113 45 767 HT_.out ?_
            refine kP 12 116 45 4863 HT_.out ?_
            refine kP 14 118 45 21247 HT_.out ?_
            refine take_ (i := 8) (N := some 112) (v := ?_) (a' := ?_) (bt 45 21503) rfl rfl (take_ofW HT_.out HW_.out (by kernel_rfl)) (fun _ _ _ h => h) (Or.inl ⟨by rfl, ?_⟩) hHeld ?_ ?_
            rotate_left
            ·rintro w' ⟨s0, s1, s2, s3, s4, s5⟩
             go_simp
             with_reducible rfl
            rotate_left
            ·simp only [Act.put, List.setIfInBounds_toArray, List.set_cons_zero, List.set_cons_succ, i64_w, i32_w]
             rfl
            refine take_ (i := 11) (N := some 115) (v := ?_) (a' := ?_) (bt 45 23551) rfl rfl (take_ofW HT_.out HW_.out (by kernel_rfl)) (fun _ _ _ h => h) (Or.inl ⟨by rfl, ?_⟩) hHeld ?_ ?_
            rotate_left
            ·rintro w' ⟨s0, s1, s2, s3, s4, s5⟩
             go_simp
             with_reducible rfl
            rotate_left
            ·simp only [Act.put, List.setIfInBounds_toArray, List.set_cons_zero, List.set_cons_succ, i64_w, i32_w]
             rfl
            refine one_ (i := 10) (N := some 114) (bt 45 24575) rfl rfl (one_of HT_.out (by kernel_rfl)) (by decide) (fun K hK => ?_)
            refine goes_ Try.func19 (by kernel_rfl) rfl #[.agg #[.slice Ao26 t387.length co26, .slice Ao29 t390.length co29], .int .i64 (Int.tmod (wrap64 (t384 + 1)) (wrap64 (2 + t376)))] (by rfl) rfl rfl (by (try simp only [List.map_toArray, List.map_cons, List.map_nil]); first | done | rfl | (simp only [List.length_drop, List.length_take]; rfl)) ?_
            with_reducible refine (impl_HasOf.calls kj11 _ _ t387 _ _ t390 (Int.tmod (wrap64 (t384 + 1)) (wrap64 (2 + t376))) t416 _ ?side1 ?side2 ?side3 ?side4 A87.out).mono ?_
            (case side1 => exact kC (Kd.S_reads' HO_395000.out).2.2)
            (case side2 => exact (Kd.S_reads' HO_395000.out).2.1)
            (case side3 => exact kC (Kd.R_reads' HO_395001.out).2.2)
            (case side4 => exact (Kd.R_reads' HO_395001.out).2.1)
            rintro e w101 ⟨rfl, hb⟩
            refine ⟨_, rfl, ?_⟩
            have n0_ := k0 (Kd.V_below (kV HO_384000.out) hb)
            have n1_ := k0 (Kd.R_below (kR HO_384001.out) hb)
            have n2_ := k0 (Kd.S_below (kS HO_395000.out) hb)
            have n3_ := k0 (Kd.R_below (kR HO_395001.out) hb)
            have n4_ := k0 (Kd.S_below (kS HO_403000.out) hb)
            have n5_ := k0 (Kd.R_below (kR HO_403001.out) hb)
            have n6_ := k0 (Kd.S_below (kS HO_411000.out) hb)
            have n7_ := k0 (Kd.R_below (kR HO_411001.out) hb)
            have n8_ := k0 (kb BK383.out hb)
            have n9_ := k0 (kb BK394.out hb)
            have n10_ := k0 (kb BK402.out hb)
            have n11_ := k0 (kb BK410.out hb)
            have n12_ := k0 (below_step (kW HB.out) hb)
            clear HO_384000 HO_384001 HO_395000 HO_395001 HO_403000 HO_403001 HO_411000 HO_411001 BK383 BK394 BK402 BK410 HB
            have HO_384000 := n0_
            have HO_384001 := n1_
            have HO_395000 := n2_
            have HO_395001 := n3_
            have HO_403000 := n4_
            have HO_403001 := n5_
            have HO_411000 := n6_
            have HO_411001 := n7_
            have BK383 := n8_
            have BK394 := n9_
            have BK402 := n10_
            have BK410 := n11_
            have HB := n12_
            clear n0_ n1_ n2_ n3_ n4_ n5_ n6_ n7_ n8_ n9_ n10_ n11_ n12_
            (try clear hb)
            (try clear hb2)
            (try clear hk)
            (try clear hi)
            refine hK.out _ _ ⟨(blk_cell BK394.out 0).trans rfl, (blk_cell BK394.out 1).trans rfl, (blk_cell BK383.out 0).trans rfl, (blk_cell BK383.out 1).trans rfl, (blk_cell BK402.out 0).trans rfl, (blk_cell BK402.out 1).trans rfl⟩ (fun hHeld => ?_)
            clear hK K
            refine norm_ (a' := ?_) ?_ ?_
            rotate_left
            ·show Act.put _ (some 114) _ = _
             simp only [Act.put, List.setIfInBounds_toArray, List.set_cons_zero, List.set_cons_succ, i64_w, i32_w]
             rfl
            refine one_ (i := 13) (N := some 117) (bt 45 32767) rfl rfl (one_of HT_.out (by kernel_rfl)) (by decide) (fun K hK => ?_)
            refine goes_ Try.func19 (by kernel_rfl) rfl #[.agg #[.slice Ao16 t377.length co16, .slice Ao18 t380.length co18], .int .i64 (Int.tmod (wrap64 (t384 + 1)) (wrap64 (2 + t376)))] (by rfl) rfl rfl (by (try simp only [List.map_toArray, List.map_cons, List.map_nil]); first | done | rfl | (simp only [List.length_drop, List.length_take]; rfl)) ?_
            with_reducible refine (impl_HasOf.calls kj11 _ _ t377 _ _ t380 (Int.tmod (wrap64 (t384 + 1)) (wrap64 (2 + t376))) t417 _ ?side1 ?side2 ?side3 ?side4 A88.out).mono ?_
            (case side1 => exact kC (Kd.V_reads' HO_384000.out).2.2)
            (case side2 => exact (Kd.V_reads' HO_384000.out).2.1)
            (case side3 => exact kC (Kd.R_reads' HO_384001.out).2.2)
            (case side4 => exact (Kd.R_reads' HO_384001.out).2.1)
            rintro e w102 ⟨rfl, hb⟩
            refine ⟨_, rfl, ?_⟩
            have n0_ := k0 (Kd.V_below (kV HO_384000.out) hb)
            have n1_ := k0 (Kd.R_below (kR HO_384001.out) hb)
            have n2_ := k0 (Kd.S_below (kS HO_395000.out) hb)
            have n3_ := k0 (Kd.R_below (kR HO_395001.out) hb)
            have n4_ := k0 (Kd.S_below (kS HO_403000.out) hb)
            have n5_ := k0 (Kd.R_below (kR HO_403001.out) hb)
            have n6_ := k0 (Kd.S_below (kS HO_411000.out) hb)
            have n7_ := k0 (Kd.R_below (kR HO_411001.out) hb)
            have n8_ := k0 (kb BK383.out hb)
            have n9_ := k0 (kb BK394.out hb)
            have n10_ := k0 (kb BK402.out hb)
            have n11_ := k0 (kb BK410.out hb)
            have n12_ := k0 (below_step (kW HB.out) hb)
            clear HO_384000 HO_384001 HO_395000 HO_395001 HO_403000 HO_403001 HO_411000 HO_411001 BK383 BK394 BK402 BK410 HB
            have HO_384000 := n0_
            have HO_384001 := n1_
            have HO_395000 := n2_
            have HO_395001 := n3_
            have HO_403000 := n4_
            have HO_403001 := n5_
            have HO_411000 := n6_
            have HO_411001 := n7_
            have BK383 := n8_
            have BK394 := n9_
            have BK402 := n10_
            have BK410 := n11_
            have HB := n12_
            clear n0_ n1_ n2_ n3_ n4_ n5_ n6_ n7_ n8_ n9_ n10_ n11_ n12_
            (try clear hb)
            (try clear hb2)
            (try clear hk)
            (try clear hi)
            refine hK.out _ _ ⟨(blk_cell BK394.out 0).trans rfl, (blk_cell BK394.out 1).trans rfl, (blk_cell BK383.out 0).trans rfl, (blk_cell BK383.out 1).trans rfl, (blk_cell BK402.out 0).trans rfl, (blk_cell BK402.out 1).trans rfl⟩ (fun hHeld => ?_)
            clear hK K
            refine norm_ (a' := ?_) ?_ ?_
            rotate_left
            ·show Act.put _ (some 117) _ = _
             simp only [Act.put, List.setIfInBounds_toArray, List.set_cons_zero, List.set_cons_succ, i64_w, i32_w]
             rfl
            refine kP 15 119 45 65535 HT_.out ?_
            refine kP 16 120 45 131071 HT_.out ?_
            refine kP 17 121 45 262143 HT_.out ?_
            refine kP 18 122 45 524287 HT_.out ?_
            refine take_ (i := 19) (N := some 123) (v := ?_) (a' := ?_) (bt 45 1048575) rfl rfl (take_ofW HT_.out HW_.out (by kernel_rfl)) (fun _ _ _ h => h) (Or.inl ⟨by rfl, ?_⟩) hHeld ?_ ?_
            rotate_left
            ·rintro w' ⟨s0, s1, s2, s3, s4, s5⟩
             go_simp
             with_reducible rfl
            rotate_left
            ·simp only [Act.put, List.setIfInBounds_toArray, List.set_cons_zero, List.set_cons_succ, i64_w, i32_w]
             rfl
            refine take_ (i := 21) (N := some 125) (v := ?_) (a' := ?_) (bt 45 3145727) rfl rfl (take_ofW HT_.out HW_.out (by kernel_rfl)) (fun _ _ _ h => h) (Or.inl ⟨by rfl, ?_⟩) hHeld ?_ ?_
            rotate_left
            ·rintro w' ⟨s0, s1, s2, s3, s4, s5⟩
             go_simp
             with_reducible rfl
            rotate_left
            ·simp only [Act.put, List.setIfInBounds_toArray, List.set_cons_zero, List.set_cons_succ, i64_w, i32_w]
             rfl
            refine one_ (i := 20) (N := some 124) (bt 45 4194303) rfl rfl (one_of HT_.out (by kernel_rfl)) (by decide) (fun K hK => ?_)
            refine goes_ Try.func21 (by kernel_rfl) rfl #[.agg #[.slice Ao26 t387.length co26, .slice Ao29 t390.length co29]] (by rfl) rfl rfl (by (try simp only [List.map_toArray, List.map_cons, List.map_nil]); first | done | rfl | (simp only [List.length_drop, List.length_take]; rfl)) ?_
            with_reducible refine (impl_AllOf.calls kj11 _ _ t387 _ _ t390 t418 _ ?side1 ?side2 ?side3 ?side4 A90.out).mono ?_
            (case side1 => exact kC (Kd.S_reads' HO_395000.out).2.2)
            (case side2 => exact (Kd.S_reads' HO_395000.out).2.1)
            (case side3 => exact kC (Kd.R_reads' HO_395001.out).2.2)
            (case side4 => exact (Kd.R_reads' HO_395001.out).2.1)
            rintro e w103 ⟨rfl, hb⟩
            refine ⟨_, rfl, ?_⟩
            have n0_ := k0 (Kd.V_below (kV HO_384000.out) hb)
            have n1_ := k0 (Kd.R_below (kR HO_384001.out) hb)
            have n2_ := k0 (Kd.S_below (kS HO_395000.out) hb)
            have n3_ := k0 (Kd.R_below (kR HO_395001.out) hb)
            have n4_ := k0 (Kd.S_below (kS HO_403000.out) hb)
            have n5_ := k0 (Kd.R_below (kR HO_403001.out) hb)
            have n6_ := k0 (Kd.S_below (kS HO_411000.out) hb)
            have n7_ := k0 (Kd.R_below (kR HO_411001.out) hb)
            have n8_ := k0 (kb BK383.out hb)
            have n9_ := k0 (kb BK394.out hb)
            have n10_ := k0 (kb BK402.out hb)
            have n11_ := k0 (kb BK410.out hb)
            have n12_ := k0 (below_step (kW HB.out) hb)
            clear HO_384000 HO_384001 HO_395000 HO_395001 HO_403000 HO_403001 HO_411000 HO_411001 BK383 BK394 BK402 BK410 HB
            have HO_384000 := n0_
            have HO_384001 := n1_
            have HO_395000 := n2_
            have HO_395001 := n3_
            have HO_403000 := n4_
            have HO_403001 := n5_
            have HO_411000 := n6_
            have HO_411001 := n7_
            have BK383 := n8_
            have BK394 := n9_
            have BK402 := n10_
            have BK410 := n11_
            have HB := n12_
            clear n0_ n1_ n2_ n3_ n4_ n5_ n6_ n7_ n8_ n9_ n10_ n11_ n12_
            (try clear hb)
            (try clear hb2)
            (try clear hk)
            (try clear hi)
            refine hK.out _ _ ⟨(blk_cell BK394.out 0).trans rfl, (blk_cell BK394.out 1).trans rfl, (blk_cell BK383.out 0).trans rfl, (blk_cell BK383.out 1).trans rfl, (blk_cell BK402.out 0).trans rfl, (blk_cell BK402.out 1).trans rfl⟩ (fun hHeld => ?_)
            clear hK K
            refine norm_ (a' := ?_) ?_ ?_
            rotate_left
            ·show Act.put _ (some 124) _ = _
             simp only [Act.put, List.setIfInBounds_toArray, List.set_cons_zero, List.set_cons_succ, i64_w, i32_w]
             rfl
            refine one_ (i := 22) (N := some 126) (bt 45 8388607) rfl rfl (one_of HT_.out (by kernel_rfl)) (by decide) (fun K hK => ?_)
            refine goes_ Try.func21 (by kernel_rfl) rfl #[.agg #[.slice Ao16 t377.length co16, .slice Ao18 t380.length co18]] (by rfl) rfl rfl (by (try simp only [List.map_toArray, List.map_cons, List.map_nil]); first | done | rfl | (simp only [List.length_drop, List.length_take]; rfl)) ?_
            with_reducible refine (impl_AllOf.calls kj11 _ _ t377 _ _ t380 t419 _ ?side1 ?side2 ?side3 ?side4 A91.out).mono ?_
            (case side1 => exact kC (Kd.V_reads' HO_384000.out).2.2)
            (case side2 => exact (Kd.V_reads' HO_384000.out).2.1)
            (case side3 => exact kC (Kd.R_reads' HO_384001.out).2.2)
            (case side4 => exact (Kd.R_reads' HO_384001.out).2.1)
            rintro e w104 ⟨rfl, hb⟩
            refine ⟨_, rfl, ?_⟩
            have n0_ := k0 (Kd.V_below (kV HO_384000.out) hb)
            have n1_ := k0 (Kd.R_below (kR HO_384001.out) hb)
            have n2_ := k0 (Kd.S_below (kS HO_395000.out) hb)
            have n3_ := k0 (Kd.R_below (kR HO_395001.out) hb)
            have n4_ := k0 (Kd.S_below (kS HO_403000.out) hb)
            have n5_ := k0 (Kd.R_below (kR HO_403001.out) hb)
            have n6_ := k0 (Kd.S_below (kS HO_411000.out) hb)
            have n7_ := k0 (Kd.R_below (kR HO_411001.out) hb)
            have n8_ := k0 (kb BK383.out hb)
            have n9_ := k0 (kb BK394.out hb)
            have n10_ := k0 (kb BK402.out hb)
            have n11_ := k0 (kb BK410.out hb)
            have n12_ := k0 (below_step (kW HB.out) hb)
            clear HO_384000 HO_384001 HO_395000 HO_395001 HO_403000 HO_403001 HO_411000 HO_411001 BK383 BK394 BK402 BK410 HB
            have HO_384000 := n0_
            have HO_384001 := n1_
            have HO_395000 := n2_
            have HO_395001 := n3_
            have HO_403000 := n4_
            have HO_403001 := n5_
            have HO_411000 := n6_
            have HO_411001 := n7_
            have BK383 := n8_
            have BK394 := n9_
            have BK402 := n10_
            have BK410 := n11_
            have HB := n12_
            clear n0_ n1_ n2_ n3_ n4_ n5_ n6_ n7_ n8_ n9_ n10_ n11_ n12_
            (try clear hb)
            (try clear hb2)
            (try clear hk)
            (try clear hi)
            refine hK.out _ _ ⟨(blk_cell BK394.out 0).trans rfl, (blk_cell BK394.out 1).trans rfl, (blk_cell BK383.out 0).trans rfl, (blk_cell BK383.out 1).trans rfl, (blk_cell BK402.out 0).trans rfl, (blk_cell BK402.out 1).trans rfl⟩ (fun hHeld => ?_)
            clear hK K
            refine norm_ (a' := ?_) ?_ ?_
            rotate_left
            ·show Act.put _ (some 126) _ = _
             simp only [Act.put, List.setIfInBounds_toArray, List.set_cons_zero, List.set_cons_succ, i64_w, i32_w]
             rfl
            refine kP 23 127 45 16777215 HT_.out ?_
            refine kP 24 128 45 33554431 HT_.out ?_
            refine kP 25 129 45 67108863 HT_.out ?_
            refine kP 30 134 45 1140850687 HT_.out ?_
            refine take_ (i := 26) (N := some 130) (v := ?_) (a' := ?_) (bt 45 1207959551) rfl rfl (take_ofW HT_.out HW_.out (by kernel_rfl)) (fun _ _ _ h => h) (Or.inl ⟨by rfl, ?_⟩) hHeld ?_ ?_
            rotate_left
            ·rintro w' ⟨s0, s1, s2, s3, s4, s5⟩
             go_simp
             with_reducible rfl
            rotate_left
            ·simp only [Act.put, List.setIfInBounds_toArray, List.set_cons_zero, List.set_cons_succ, i64_w, i32_w]
             rfl
            refine take_ (i := 28) (N := some 132) (v := ?_) (a' := ?_) (bt 45 1476395007) rfl rfl (take_ofW HT_.out HW_.out (by kernel_rfl)) (fun _ _ _ h => h) (Or.inl ⟨by rfl, ?_⟩) hHeld ?_ ?_
            rotate_left
            ·rintro w' ⟨s0, s1, s2, s3, s4, s5⟩
             go_simp
             with_reducible rfl
            rotate_left
            ·simp only [Act.put, List.setIfInBounds_toArray, List.set_cons_zero, List.set_cons_succ, i64_w, i32_w]
             rfl
            refine one_ (i := 27) (N := some 131) (bt 45 1610612735) rfl rfl (one_of HT_.out (by kernel_rfl)) (by decide) (fun K hK => ?_)
            refine goes_ Try.func21 (by kernel_rfl) rfl #[.agg #[.slice Ao33 t395.length co33, .slice Ao37 t398.length co37]] (by rfl) rfl rfl (by (try simp only [List.map_toArray, List.map_cons, List.map_nil]); first | done | rfl | (simp only [List.length_drop, List.length_take]; rfl)) ?_
            with_reducible refine (impl_AllOf.calls kj11 _ _ t395 _ _ t398 t420 _ ?side1 ?side2 ?side3 ?side4 A93.out).mono ?_
            (case side1 => exact kC (Kd.S_reads' HO_403000.out).2.2)
            (case side2 => exact (Kd.S_reads' HO_403000.out).2.1)
            (case side3 => exact kC (Kd.R_reads' HO_403001.out).2.2)
            (case side4 => exact (Kd.R_reads' HO_403001.out).2.1)
            rintro e w105 ⟨rfl, hb⟩
            refine ⟨_, rfl, ?_⟩
            have n0_ := k0 (Kd.V_below (kV HO_384000.out) hb)
            have n1_ := k0 (Kd.R_below (kR HO_384001.out) hb)
            have n2_ := k0 (Kd.S_below (kS HO_395000.out) hb)
            have n3_ := k0 (Kd.R_below (kR HO_395001.out) hb)
            have n4_ := k0 (Kd.S_below (kS HO_403000.out) hb)
            have n5_ := k0 (Kd.R_below (kR HO_403001.out) hb)
            have n6_ := k0 (Kd.S_below (kS HO_411000.out) hb)
            have n7_ := k0 (Kd.R_below (kR HO_411001.out) hb)
            have n8_ := k0 (kb BK383.out hb)
            have n9_ := k0 (kb BK394.out hb)
            have n10_ := k0 (kb BK402.out hb)
            have n11_ := k0 (kb BK410.out hb)
            have n12_ := k0 (below_step (kW HB.out) hb)
            clear HO_384000 HO_384001 HO_395000 HO_395001 HO_403000 HO_403001 HO_411000 HO_411001 BK383 BK394 BK402 BK410 HB
            have HO_384000 := n0_
            have HO_384001 := n1_
            have HO_395000 := n2_
            have HO_395001 := n3_
            have HO_403000 := n4_
            have HO_403001 := n5_
            have HO_411000 := n6_
            have HO_411001 := n7_
            have BK383 := n8_
            have BK394 := n9_
            have BK402 := n10_
            have BK410 := n11_
            have HB := n12_
            clear n0_ n1_ n2_ n3_ n4_ n5_ n6_ n7_ n8_ n9_ n10_ n11_ n12_
            (try clear hb)
            (try clear hb2)
            (try clear hk)
            (try clear hi)
            refine hK.out _ _ ⟨(blk_cell BK394.out 0).trans rfl, (blk_cell BK394.out 1).trans rfl, (blk_cell BK383.out 0).trans rfl, (blk_cell BK383.out 1).trans rfl, (blk_cell BK402.out 0).trans rfl, (blk_cell BK402.out 1).trans rfl⟩ (fun hHeld => ?_)
            clear hK K
            refine norm_ (a' := ?_) ?_ ?_
            rotate_left
            ·show Act.put _ (some 131) _ = _
             simp only [Act.put, List.setIfInBounds_toArray, List.set_cons_zero, List.set_cons_succ, i64_w, i32_w]
             rfl
            refine one_ (i := 29) (N := some 133) (bt 45 2147483647) rfl rfl (one_of HT_.out (by kernel_rfl)) (by decide) (fun K hK => ?_)
            refine goes_ Try.func21 (by kernel_rfl) rfl #[.agg #[.slice Ao16 t377.length co16, .slice Ao18 t380.length co18]] (by rfl) rfl rfl (by (try simp only [List.map_toArray, List.map_cons, List.map_nil]); first | done | rfl | (simp only [List.length_drop, List.length_take]; rfl)) ?_
            with_reducible refine (impl_AllOf.calls kj11 _ _ t377 _ _ t380 t421 _ ?side1 ?side2 ?side3 ?side4 A94.out).mono ?_
            (case side1 => exact kC (Kd.V_reads' HO_384000.out).2.2)
            (case side2 => exact (Kd.V_reads' HO_384000.out).2.1)
            (case side3 => exact kC (Kd.R_reads' HO_384001.out).2.2)
            (case side4 => exact (Kd.R_reads' HO_384001.out).2.1)
            rintro e w106 ⟨rfl, hb⟩
            refine ⟨_, rfl, ?_⟩
            have n0_ := k0 (Kd.V_below (kV HO_384000.out) hb)
            have n1_ := k0 (Kd.R_below (kR HO_384001.out) hb)
            have n2_ := k0 (Kd.S_below (kS HO_395000.out) hb)
            have n3_ := k0 (Kd.R_below (kR HO_395001.out) hb)
            have n4_ := k0 (Kd.S_below (kS HO_403000.out) hb)
            have n5_ := k0 (Kd.R_below (kR HO_403001.out) hb)
            have n6_ := k0 (Kd.S_below (kS HO_411000.out) hb)
            have n7_ := k0 (Kd.R_below (kR HO_411001.out) hb)
            have n8_ := k0 (kb BK383.out hb)
            have n9_ := k0 (kb BK394.out hb)
            have n10_ := k0 (kb BK402.out hb)
            have n11_ := k0 (kb BK410.out hb)
            have n12_ := k0 (below_step (kW HB.out) hb)
            clear HO_384000 HO_384001 HO_395000 HO_395001 HO_403000 HO_403001 HO_411000 HO_411001 BK383 BK394 BK402 BK410 HB
            have HO_384000 := n0_
            have HO_384001 := n1_
            have HO_395000 := n2_
            have HO_395001 := n3_
            have HO_403000 := n4_
            have HO_403001 := n5_
            have HO_411000 := n6_
            have HO_411001 := n7_
            have BK383 := n8_
            have BK394 := n9_
            have BK402 := n10_
            have BK410 := n11_
            have HB := n12_
            clear n0_ n1_ n2_ n3_ n4_ n5_ n6_ n7_ n8_ n9_ n10_ n11_ n12_
            (try clear hb)
            (try clear hb2)
            (try clear hk)
            (try clear hi)
            refine hK.out _ _ ⟨(blk_cell BK394.out 0).trans rfl, (blk_cell BK394.out 1).trans rfl, (blk_cell BK383.out 0).trans rfl, (blk_cell BK383.out 1).trans rfl, (blk_cell BK402.out 0).trans rfl, (blk_cell BK402.out 1).trans rfl⟩ (fun hHeld => ?_)
            clear hK K
            refine norm_ (a' := ?_) ?_ ?_
            rotate_left
            ·show Act.put _ (some 133) _ = _
             simp only [Act.put, List.setIfInBounds_toArray, List.set_cons_zero, List.set_cons_succ, i64_w, i32_w]
             rfl
            refine kP 31 135 45 4294967295 HT_.out ?_
            refine kP 32 136 45 8589934591 HT_.out ?_
            refine kP 33 137 45 17179869183 HT_.out ?_
            refine kP 34 138 45 34359738367 HT_.out ?_
            refine take_ (i := 35) (N := some 139) (v := ?_) (a' := ?_) (bt 45 68719476735) rfl rfl (take_ofW HT_.out HW_.out (by kernel_rfl)) (fun _ _ _ h => h) (Or.inl ⟨by rfl, ?_⟩) hHeld ?_ ?_
            rotate_left
            ·rintro w' ⟨s0, s1, s2, s3, s4, s5⟩
             go_simp
             with_reducible rfl
            rotate_left
            ·simp only [Act.put, List.setIfInBounds_toArray, List.set_cons_zero, List.set_cons_succ, i64_w, i32_w]
             rfl
            refine take_ (i := 36) (N := some 140) (v := ?_) (a' := ?_) (bt 45 137438953471) rfl rfl (take_ofW HT_.out HW_.out (by kernel_rfl)) (fun _ _ _ h => h) (Or.inl ⟨by rfl, ?_⟩) hHeld ?_ ?_
            rotate_left
            ·rintro w' ⟨s0, s1, s2, s3, s4, s5⟩
             go_simp
             with_reducible rfl
            rotate_left
            ·simp only [Act.put, List.setIfInBounds_toArray, List.set_cons_zero, List.set_cons_succ, i64_w, i32_w]
             rfl
            refine one_ (i := 37) (N := some 141) (bt 45 274877906943) rfl rfl (one_of HT_.out (by kernel_rfl)) (by decide) (fun K hK => ?_)
            refine goes_ Try.func23 (by kernel_rfl) rfl #[.agg #[.slice Ao16 t377.length co16, .slice Ao18 t380.length co18], .agg #[.slice Ao26 t387.length co26, .slice Ao29 t390.length co29]] (by rfl) rfl rfl (by (try simp only [List.map_toArray, List.map_cons, List.map_nil]); first | done | rfl | (simp only [List.length_drop, List.length_take]; rfl)) ?_
            with_reducible refine (impl_Later.calls kj11 _ _ t377 _ _ t380 _ _ t387 _ _ t390 true _ ?side1 ?side2 ?side3 ?side4 ?side5 ?side6 ?side7 ?side8 A96.out).mono ?_
            (case side1 => exact kC (Kd.V_reads' HO_384000.out).2.2)
            (case side2 => exact (Kd.V_reads' HO_384000.out).2.1)
            (case side3 => exact kC (Kd.R_reads' HO_384001.out).2.2)
            (case side4 => exact (Kd.R_reads' HO_384001.out).2.1)
            (case side5 => exact kC (Kd.S_reads' HO_395000.out).2.2)
            (case side6 => exact (Kd.S_reads' HO_395000.out).2.1)
            (case side7 => exact kC (Kd.R_reads' HO_395001.out).2.2)
            (case side8 => exact (Kd.R_reads' HO_395001.out).2.1)
            rintro e w107 ⟨rfl, hb⟩
            refine ⟨_, rfl, ?_⟩
            have n0_ := k0 (Kd.V_below (kV HO_384000.out) hb)
            have n1_ := k0 (Kd.R_below (kR HO_384001.out) hb)
            have n2_ := k0 (Kd.S_below (kS HO_395000.out) hb)
            have n3_ := k0 (Kd.R_below (kR HO_395001.out) hb)
            have n4_ := k0 (Kd.S_below (kS HO_403000.out) hb)
            have n5_ := k0 (Kd.R_below (kR HO_403001.out) hb)
            have n6_ := k0 (Kd.S_below (kS HO_411000.out) hb)
            have n7_ := k0 (Kd.R_below (kR HO_411001.out) hb)
            have n8_ := k0 (kb BK383.out hb)
            have n9_ := k0 (kb BK394.out hb)
            have n10_ := k0 (kb BK402.out hb)
            have n11_ := k0 (kb BK410.out hb)
            have n12_ := k0 (below_step (kW HB.out) hb)
            clear HO_384000 HO_384001 HO_395000 HO_395001 HO_403000 HO_403001 HO_411000 HO_411001 BK383 BK394 BK402 BK410 HB
            have HO_384000 := n0_
            have HO_384001 := n1_
            have HO_395000 := n2_
            have HO_395001 := n3_
            have HO_403000 := n4_
            have HO_403001 := n5_
            have HO_411000 := n6_
            have HO_411001 := n7_
            have BK383 := n8_
            have BK394 := n9_
            have BK402 := n10_
            have BK410 := n11_
            have HB := n12_
            clear n0_ n1_ n2_ n3_ n4_ n5_ n6_ n7_ n8_ n9_ n10_ n11_ n12_
            (try clear hb)
            (try clear hb2)
            (try clear hk)
            (try clear hi)
            refine hK.out _ _ ⟨(blk_cell BK394.out 0).trans rfl, (blk_cell BK394.out 1).trans rfl, (blk_cell BK383.out 0).trans rfl, (blk_cell BK383.out 1).trans rfl, (blk_cell BK402.out 0).trans rfl, (blk_cell BK402.out 1).trans rfl⟩ (fun hHeld => ?_)
            clear hK K
            refine norm_ (a' := ?_) ?_ ?_
            rotate_left
            ·show Act.put _ (some 141) _ = _
             simp only [Act.put, List.setIfInBounds_toArray, List.set_cons_zero, List.set_cons_succ, i64_w, i32_w]
             rfl
            refine kP 38 142 45 549755813887 HT_.out ?_
            refine kP 39 143 45 1099511627775 HT_.out ?_
            refine take_ (i := 40) (N := some 144) (v := ?_) (a' := ?_) (bt 45 2199023255551) rfl rfl (take_ofW HT_.out HW_.out (by kernel_rfl)) (fun _ _ _ h => h) (Or.inl ⟨by rfl, ?_⟩) hHeld ?_ ?_
            rotate_left
            ·rintro w' ⟨s0, s1, s2, s3, s4, s5⟩
             go_simp
             with_reducible rfl
            rotate_left
            ·simp only [Act.put, List.setIfInBounds_toArray, List.set_cons_zero, List.set_cons_succ, i64_w, i32_w]
             rfl
            refine take_ (i := 41) (N := some 145) (v := ?_) (a' := ?_) (bt 45 4398046511103) rfl rfl (take_ofW HT_.out HW_.out (by kernel_rfl)) (fun _ _ _ h => h) (Or.inl ⟨by rfl, ?_⟩) hHeld ?_ ?_
            rotate_left
            ·rintro w' ⟨s0, s1, s2, s3, s4, s5⟩
             go_simp
             with_reducible rfl
            rotate_left
            ·simp only [Act.put, List.setIfInBounds_toArray, List.set_cons_zero, List.set_cons_succ, i64_w, i32_w]
             rfl
            refine one_ (i := 42) (N := some 146) (bt 45 8796093022207) rfl rfl (one_of HT_.out (by kernel_rfl)) (by decide) (fun K hK => ?_)
            refine goes_ Try.func23 (by kernel_rfl) rfl #[.agg #[.slice Ao16 t377.length co16, .slice Ao18 t380.length co18], .agg #[.slice Ao33 t395.length co33, .slice Ao37 t398.length co37]] (by rfl) rfl rfl (by (try simp only [List.map_toArray, List.map_cons, List.map_nil]); first | done | rfl | (simp only [List.length_drop, List.length_take]; rfl)) ?_
            with_reducible refine (impl_Later.calls kj11 _ _ t377 _ _ t380 _ _ t395 _ _ t398 t423 _ ?side1 ?side2 ?side3 ?side4 ?side5 ?side6 ?side7 ?side8 A98.out).mono ?_
            (case side1 => exact kC (Kd.V_reads' HO_384000.out).2.2)
            (case side2 => exact (Kd.V_reads' HO_384000.out).2.1)
            (case side3 => exact kC (Kd.R_reads' HO_384001.out).2.2)
            (case side4 => exact (Kd.R_reads' HO_384001.out).2.1)
            (case side5 => exact kC (Kd.S_reads' HO_403000.out).2.2)
            (case side6 => exact (Kd.S_reads' HO_403000.out).2.1)
            (case side7 => exact kC (Kd.R_reads' HO_403001.out).2.2)
            (case side8 => exact (Kd.R_reads' HO_403001.out).2.1)
            rintro e w108 ⟨rfl, hb⟩
            refine ⟨_, rfl, ?_⟩
            have n0_ := k0 (Kd.V_below (kV HO_384000.out) hb)
            have n1_ := k0 (Kd.R_below (kR HO_384001.out) hb)
            have n2_ := k0 (Kd.S_below (kS HO_395000.out) hb)
            have n3_ := k0 (Kd.R_below (kR HO_395001.out) hb)
            have n4_ := k0 (Kd.S_below (kS HO_403000.out) hb)
            have n5_ := k0 (Kd.R_below (kR HO_403001.out) hb)
            have n6_ := k0 (Kd.S_below (kS HO_411000.out) hb)
            have n7_ := k0 (Kd.R_below (kR HO_411001.out) hb)
            have n8_ := k0 (kb BK383.out hb)
            have n9_ := k0 (kb BK394.out hb)
            have n10_ := k0 (kb BK402.out hb)
            have n11_ := k0 (kb BK410.out hb)
            have n12_ := k0 (below_step (kW HB.out) hb)
            clear HO_384000 HO_384001 HO_395000 HO_395001 HO_403000 HO_403001 HO_411000 HO_411001 BK383 BK394 BK402 BK410 HB
            have HO_384000 := n0_
            have HO_384001 := n1_
            have HO_395000 := n2_
            have HO_395001 := n3_
            have HO_403000 := n4_
            have HO_403001 := n5_
            have HO_411000 := n6_
            have HO_411001 := n7_
            have BK383 := n8_
            have BK394 := n9_
            have BK402 := n10_
            have BK410 := n11_
            have HB := n12_
            clear n0_ n1_ n2_ n3_ n4_ n5_ n6_ n7_ n8_ n9_ n10_ n11_ n12_
            (try clear hb)
            (try clear hb2)
            (try clear hk)
            (try clear hi)
            refine hK.out _ _ ⟨(blk_cell BK394.out 0).trans rfl, (blk_cell BK394.out 1).trans rfl, (blk_cell BK383.out 0).trans rfl, (blk_cell BK383.out 1).trans rfl, (blk_cell BK402.out 0).trans rfl, (blk_cell BK402.out 1).trans rfl⟩ (fun hHeld => ?_)
            clear hK K
            refine norm_ (a' := ?_) ?_ ?_
            rotate_left
            ·show Act.put _ (some 146) _ = _
             simp only [Act.put, List.setIfInBounds_toArray, List.set_cons_zero, List.set_cons_succ, i64_w, i32_w]
             rfl
            refine kP 43 147 45 17592186044415 HT_.out ?_
            refine kP 44 2 45 35184372088831 HT_.out ?_
            refine done_ (done_of HT_.out (by kernel_rfl)) ?_
            try go_wp2
            go_ret
            exact ⟨by first | rfl | (simp [errW_none, errW_some] <;> rfl) | (simp [*, errW_none, errW_some] <;> rfl), by repeat (first | (with_reducible first | exact HB.out | apply below_alloc | apply pw_below_drewN | apply below_drew1 | refine below_set ?_ GE383.out | refine below_set ?_ GE394.out | refine below_set ?_ GE402.out | refine below_set ?_ GE410.out) | exact HB.out)⟩
           ·replace c97 := Bool.eq_false_iff.mpr c97
            subst c97
            have H1 : (some false) = some r := by rw [if_neg (show ¬ (false = true) by decide)] at H; exact H
            clear H
            have H := H1
            clear H1
            exact absurd ((Option.some.inj H).trans HR.out) (by decide)
          ·rw [if_neg c95] at H
           have c95b0 : (t420 == (wrap64 (t421 - (wrap64 (1 + t385))))) = false := beq_eq_false_iff_ne.mpr c95
           have c95b1 : (t420 != (wrap64 (t421 - (wrap64 (1 + t385))))) = true := bne_iff_ne.mpr c95
           exact absurd ((Option.some.inj H).trans HR.out) (by decide)
         ·rw [if_neg c92] at H
          have c92b0 : (t418 == t419) = false := beq_eq_false_iff_ne.mpr c92
          have c92b1 : (t418 != t419) = true := bne_iff_ne.mpr c92
          exact absurd ((Option.some.inj H).trans HR.out) (by decide)
        ·rw [if_neg c89] at H
         have c89b0 : (t416 == (wrap64 (t417 + (wrap64 (1 + t385))))) = false := beq_eq_false_iff_ne.mpr c89
         have c89b1 : (t416 != (wrap64 (t417 + (wrap64 (1 + t385))))) = true := bne_iff_ne.mpr c89
         exact absurd ((Option.some.inj H).trans HR.out) (by decide)
       ·rw [if_neg c86] at H
        have c86b0 : (t415 == (wrap64 (t386 - (wrap64 (1 + t385))))) = false := beq_eq_false_iff_ne.mpr c86
        have c86b1 : (t415 != (wrap64 (t386 - (wrap64 (1 + t385))))) = true := bne_iff_ne.mpr c86
        exact absurd ((Option.some.inj H).trans HR.out) (by decide)
      ·replace c84 := Bool.eq_false_iff.mpr c84
       subst c84
       have H1 : (some true) = some r := by rw [if_neg (show ¬ (false = true) by decide)] at H; exact H
       clear H
       have H := H1
       clear H1
       obtain rfl := Option.some.inj H
       go_wp2
       go_ret
       exact ⟨by first | rfl | (simp [errW_none, errW_some] <;> rfl) | (simp [*, errW_none, errW_some] <;> rfl), by repeat (first | (with_reducible first | exact HB.out | apply below_alloc | apply pw_below_drewN | apply below_drew1 | refine below_set ?_ GE383.out | refine below_set ?_ GE394.out | refine below_set ?_ GE402.out | refine below_set ?_ GE410.out) | exact HB.out)⟩

/-- THE ONE PURE STATEMENT of laws_FnRights: yours. -/
def laws_FnRights.Pure : Prop := ∀ (l0 : List Int), l0.length ≤ maxLen → l0.length * 1 ≤ 140737488351232 → (∀ x ∈ l0, (Lit.int .u8 x).wf = true) → ∃ k, laws_FnRights.f k l0 = some true
theorem laws_FnRights.walk (P : laws_FnRights.Pure) (a0 : Option Addr) (len0 cap0 : Nat) (z0 : List Int) (w : World) (w0 : (a0 = none ∧ len0 = 0 ∧ cap0 = 0 ∧ z0 = []) ∨ ∃ x, a0 = some x ∧ len0 ≤ cap0 ∧ cap0 ≤ maxLen ∧ z0.length = cap0 ∧ (∀ i, i < z0.length → w.cell? (x.add i) = some (.int .u8 (z0.getD i 0))) ∧ ∀ n ∈ z0, (Lit.int .u8 n).wf = true) (y0 : len0 * 1 ≤ 140737488351232) :
  Calls Try.prog 11 #[.slice a0 len0 cap0] w fun e w' => e = .returned (.bool true) ∧ Below w.heap.size w w' := by
 obtain ⟨l0, rfl, hr0, hm0, hw0, hc0⟩ := ReadsInt.ofRowC w0
 obtain ⟨k, h⟩ := P l0 hm0 y0 hw0
 refine (laws_FnRights.calls k _ _ l0 true w (Kd.C_of_reads (d := (0 : Int)) (h1 := fun _ => rfl) hr0) hc0 (Aside0.mk rfl) h).mono ?_
 rintro e w' ⟨rfl, hd⟩
 exact ⟨rfl, hd⟩

end Go.Proofs.Ytcnanifokpcjaaa.PFnRights
