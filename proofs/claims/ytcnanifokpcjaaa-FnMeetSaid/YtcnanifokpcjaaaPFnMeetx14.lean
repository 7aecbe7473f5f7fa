import Derived.Test.YtcnanifokpcjaaaPFnMeetx0
import Derived.Test.YtcnanifokpcjaaaPFnMeetx2
import Derived.Test.YtcnanifokpcjaaaPFnMeetx3
import Derived.Test.YtcnanifokpcjaaaPFnMeetx5
import Derived.Test.YtcnanifokpcjaaaPFnMeetx6
import Derived.Test.YtcnanifokpcjaaaPFnMeetx13
namespace Go.Proofs.Ytcnanifokpcjaaa.PFnMeet
open Go.RowKit Go.Proofs.YtcnanifokpcjaaaW.PrintWords Go.Proofs.YtcnanifokpcjaaaW.PrintLast Go.Proofs.YtcnanifokpcjaaaW.PrintMore
attribute [local go_sem] max2_int min2_int max_two min_two max_three min_three max_four min_four   -- for this text's walks alone
set_option linter.unusedVariables false
set_option linter.unusedSimpArgs false

/-! ### laws_FnMeet: function 12 -/
def laws_FnMeet.f (k : Nat) (l0 : List Int) : Option (Bool) := if (l0.length : Int) > 1048576 then (some true) else ((spec_MakeNum.f k l0 3).bind fun t402 => ((spec_MakeRights.f k l0 (wrap64 (1 + t402)) 1).bind fun bt403 => ((spec_MakeNum.f k l0 (wrap64 (1 + t402))).bind fun t410 => ((impl_Mint.f k bt403.1 bt403.2 t410 5).bind fun bt411 => ((spec_MakeNum.f k l0 (wrap64 (1 + t402))).bind fun t419 => ((impl_Mint.f k bt403.1 bt403.2 t419 9).bind fun bt420 => ((impl_Meet.f k bt411.1 bt411.2.1 bt420.1 bt420.2.1).bind fun bt428 => ((impl_Meet.f k bt420.1 bt420.2.1 bt411.1 bt411.2.1).bind fun bt436 => ((impl_Meet.f k bt428.1 bt428.2.1 bt411.1 bt411.2.1).bind fun bt444 => ((impl_Meet.f k bt403.1 bt403.2 bt403.1 bt403.2).bind fun bt452 => (if bt411.2.2 = true then (if bt420.2.2 = true then (if bt428.2.2 = true then (if bt436.2.2 = true then (if bt444.2.2 = true then (if bt452.2.2 = true then ((impl_RightsSame.f k bt428.1 bt428.2.1 bt436.1 bt436.2.1).bind fun t460 => (if t460 = true then ((impl_RightsSame.f k bt444.1 bt444.2.1 bt428.1 bt428.2.1).bind fun t461 => (if t461 = true then ((impl_RightsSame.f k bt452.1 bt452.2.1 bt403.1 bt403.2).bind fun t462 => (if t462 = true then ((impl_Later.f k bt403.1 bt403.2 bt411.1 bt411.2.1).bind fun t463 => (if t463 = true then ((impl_Later.f k bt411.1 bt411.2.1 bt428.1 bt428.2.1).bind fun t464 => (if t464 = true then ((impl_Later.f k bt420.1 bt420.2.1 bt428.1 bt428.2.1).bind fun t465 => (if t465 = true then ((impl_RightsOk.f k bt428.1 bt428.2.1).bind fun t466 => (some t466)) else (some false))) else (some false))) else (some false))) else (some false))) else (some false))) else (some false))) else (some false)) else (some false)) else (some false)) else (some false)) else (some false)) else (some false))))))))))))
theorem laws_FnMeet.mono : ∀ a0 k, LeO (laws_FnMeet.f k a0) (laws_FnMeet.f (k + 1) a0) := by
 intro a0 k
 unfold laws_FnMeet.f
 repeat' first
   | (with_reducible exact impl_Later.mono _ _ _ _ _)
   | (with_reducible exact impl_Meet.mono _ _ _ _ _)
   | (with_reducible exact impl_Mint.mono _ _ _ _ _)
   | (with_reducible exact impl_RightsOk.mono _ _ _)
   | (with_reducible exact impl_RightsSame.mono _ _ _ _ _)
   | (with_reducible exact spec_MakeNum.mono _ _ _)
   | (with_reducible exact spec_MakeRights.mono _ _ _ _)
   | (with_reducible exact LeO.refl _)
   | (with_reducible exact LeO.none _)
   | (with_reducible refine LeO.ite ?_ ?_)
   | (with_reducible refine LeO.bind ?_ (fun _ => ?_))
   | exact impl_Later.mono _ _ _ _ _
   | exact impl_Meet.mono _ _ _ _ _
   | exact impl_Mint.mono _ _ _ _ _
   | exact impl_RightsOk.mono _ _ _
   | exact impl_RightsSame.mono _ _ _ _ _
   | exact spec_MakeNum.mono _ _ _
   | exact spec_MakeRights.mono _ _ _ _
   | exact LeO.none _
   | refine LeO.ite ?_ ?_
   | refine LeO.bind ?_ (fun _ => ?_)
def laws_FnMeet.T5 : Bool × List (List Nat × List Nat) := (true, [([], []), ([], []), ([], []), ([1, 2], [1, 2]), ([0, 3, 3], [0, 3]), ([4], [4]), ([5], [5]), ([5], [5]), ([], []), ([8, 6, 4, 0, 1, 2, 3, 4, 5, 6, 8], [6, 8]), ([7, 9, 0, 1, 2, 3, 4, 5, 6, 7, 8, 9], [7])])
def laws_FnMeet.B5 : List Nat := [0, 0, 0, 6, 15, 31, 63, 63, 0, 383, 1023]
theorem laws_FnMeet.tab5 : rtab .any (opsOf Try.f12 5) = laws_FnMeet.T5 := by kernel_rfl
theorem laws_FnMeet.bits5 : waitsOk laws_FnMeet.T5.2 laws_FnMeet.B5 = true := by kernel_rfl
def laws_FnMeet.T6 : Bool × List (List Nat × List Nat) := (true, [([], []), ([], []), ([], []), ([1, 2], [1, 2]), ([0, 3, 3], [0, 3]), ([4], [4]), ([5], [5]), ([5], [5]), ([], []), ([8, 6, 4, 0, 1, 2, 3, 4, 5, 6, 8], [6, 8]), ([7, 9, 0, 1, 2, 3, 4, 5, 6, 7, 8, 9], [7])])
def laws_FnMeet.B6 : List Nat := [0, 0, 0, 6, 15, 31, 63, 63, 0, 383, 1023]
theorem laws_FnMeet.tab6 : rtab .any (opsOf Try.f12 6) = laws_FnMeet.T6 := by kernel_rfl
theorem laws_FnMeet.bits6 : waitsOk laws_FnMeet.T6.2 laws_FnMeet.B6 = true := by kernel_rfl
set_option maxHeartbeats 8000000 in
set_option maxRecDepth 100000 in
theorem laws_FnMeet.calls (k : Nat) (A0 : Option Addr) (c0 : Nat) (l0 : List Int) (r : Bool) (w : World) (hr0 : Kd.C (Kd.int .u8) w A0 l0.length l0) (hc0 : l0.length ≤ c0) (HR : Aside0 (r = true)) (h : laws_FnMeet.f k l0 = some r) :
  Calls Try.prog 12 #[.slice A0 l0.length c0] w fun e w' => e = .returned (.bool r) ∧ Below w.heap.size w w' := by
 have hu28 := Try.underlying28
 have HR0 := Aside0.mk hr0
 have HC0 := Aside0.mk hc0
 clear hr0 hc0
 have HB := k0 (Below.refl w.heap.size w)
 have H : (if (l0.length : Int) > 1048576 then (some true) else ((spec_MakeNum.f k l0 3).bind fun t402 => ((spec_MakeRights.f k l0 (wrap64 (1 + t402)) 1).bind fun bt403 => ((spec_MakeNum.f k l0 (wrap64 (1 + t402))).bind fun t410 => ((impl_Mint.f k bt403.1 bt403.2 t410 5).bind fun bt411 => ((spec_MakeNum.f k l0 (wrap64 (1 + t402))).bind fun t419 => ((impl_Mint.f k bt403.1 bt403.2 t419 9).bind fun bt420 => ((impl_Meet.f k bt411.1 bt411.2.1 bt420.1 bt420.2.1).bind fun bt428 => ((impl_Meet.f k bt420.1 bt420.2.1 bt411.1 bt411.2.1).bind fun bt436 => ((impl_Meet.f k bt428.1 bt428.2.1 bt411.1 bt411.2.1).bind fun bt444 => ((impl_Meet.f k bt403.1 bt403.2 bt403.1 bt403.2).bind fun bt452 => (if bt411.2.2 = true then (if bt420.2.2 = true then (if bt428.2.2 = true then (if bt436.2.2 = true then (if bt444.2.2 = true then (if bt452.2.2 = true then ((impl_RightsSame.f k bt428.1 bt428.2.1 bt436.1 bt436.2.1).bind fun t460 => (if t460 = true then ((impl_RightsSame.f k bt444.1 bt444.2.1 bt428.1 bt428.2.1).bind fun t461 => (if t461 = true then ((impl_RightsSame.f k bt452.1 bt452.2.1 bt403.1 bt403.2).bind fun t462 => (if t462 = true then ((impl_Later.f k bt403.1 bt403.2 bt411.1 bt411.2.1).bind fun t463 => (if t463 = true then ((impl_Later.f k bt411.1 bt411.2.1 bt428.1 bt428.2.1).bind fun t464 => (if t464 = true then ((impl_Later.f k bt420.1 bt420.2.1 bt428.1 bt428.2.1).bind fun t465 => (if t465 = true then ((impl_RightsOk.f k bt428.1 bt428.2.1).bind fun t466 => (some t466)) else (some false))) else (some false))) else (some false))) else (some false))) else (some false))) else (some false))) else (some false)) else (some false)) else (some false)) else (some false)) else (some false)) else (some false))))))))))))) = some r := h
 clear h
 by_cases c2 : (l0.length : Int) > 1048576
 ·rw [if_pos c2] at H
  have c2b0 : decide (1048576 < (l0.length : Int)) = true := decide_eq_true c2
  have c2b1 : decide (1048576 < l0.length) = true := decide_eq_true (by omega)
  clear c2
  obtain rfl := Option.some.inj H
  go_enter Try.func12, Try.ntmps12
  go_wp2
  go_ret
  exact ⟨by first | rfl | (simp [errW_none, errW_some] <;> rfl) | (simp [*, errW_none, errW_some] <;> rfl), by repeat (first | (with_reducible first | exact HB.out | apply below_alloc | apply pw_below_drewN | apply below_drew1) | exact HB.out)⟩
 ·rw [if_neg c2] at H
  have c2b0 : decide (1048576 < (l0.length : Int)) = false := decide_eq_false c2
  have c2b1 : decide (1048576 < l0.length) = false := decide_eq_false (by omega)
  clear c2
  replace H := Option.bind_eq_some_iff.mp H
  obtain ⟨t402, A30, H⟩ := H
  replace H : ((spec_MakeRights.f k l0 (wrap64 (1 + t402)) 1).bind fun bt403 => ((spec_MakeNum.f k l0 (wrap64 (1 + t402))).bind fun t410 => ((impl_Mint.f k bt403.1 bt403.2 t410 5).bind fun bt411 => ((spec_MakeNum.f k l0 (wrap64 (1 + t402))).bind fun t419 => ((impl_Mint.f k bt403.1 bt403.2 t419 9).bind fun bt420 => ((impl_Meet.f k bt411.1 bt411.2.1 bt420.1 bt420.2.1).bind fun bt428 => ((impl_Meet.f k bt420.1 bt420.2.1 bt411.1 bt411.2.1).bind fun bt436 => ((impl_Meet.f k bt428.1 bt428.2.1 bt411.1 bt411.2.1).bind fun bt444 => ((impl_Meet.f k bt403.1 bt403.2 bt403.1 bt403.2).bind fun bt452 => (if bt411.2.2 = true then (if bt420.2.2 = true then (if bt428.2.2 = true then (if bt436.2.2 = true then (if bt444.2.2 = true then (if bt452.2.2 = true then ((impl_RightsSame.f k bt428.1 bt428.2.1 bt436.1 bt436.2.1).bind fun t460 => (if t460 = true then ((impl_RightsSame.f k bt444.1 bt444.2.1 bt428.1 bt428.2.1).bind fun t461 => (if t461 = true then ((impl_RightsSame.f k bt452.1 bt452.2.1 bt403.1 bt403.2).bind fun t462 => (if t462 = true then ((impl_Later.f k bt403.1 bt403.2 bt411.1 bt411.2.1).bind fun t463 => (if t463 = true then ((impl_Later.f k bt411.1 bt411.2.1 bt428.1 bt428.2.1).bind fun t464 => (if t464 = true then ((impl_Later.f k bt420.1 bt420.2.1 bt428.1 bt428.2.1).bind fun t465 => (if t465 = true then ((impl_RightsOk.f k bt428.1 bt428.2.1).bind fun t466 => (some t466)) else (some false))) else (some false))) else (some false))) else (some false))) else (some false))) else (some false))) else (some false)) else (some false)) else (some false)) else (some false)) else (some false)) else (some false))))))))))) = some r := H
  have A3 := Aside0.mk A30
  clear A30
  replace H := Option.bind_eq_some_iff.mp H
  obtain ⟨⟨t403, t406⟩, A40, H⟩ := H
  replace H : ((spec_MakeNum.f k l0 (wrap64 (1 + t402))).bind fun t410 => ((impl_Mint.f k t403 t406 t410 5).bind fun bt411 => ((spec_MakeNum.f k l0 (wrap64 (1 + t402))).bind fun t419 => ((impl_Mint.f k t403 t406 t419 9).bind fun bt420 => ((impl_Meet.f k bt411.1 bt411.2.1 bt420.1 bt420.2.1).bind fun bt428 => ((impl_Meet.f k bt420.1 bt420.2.1 bt411.1 bt411.2.1).bind fun bt436 => ((impl_Meet.f k bt428.1 bt428.2.1 bt411.1 bt411.2.1).bind fun bt444 => ((impl_Meet.f k t403 t406 t403 t406).bind fun bt452 => (if bt411.2.2 = true then (if bt420.2.2 = true then (if bt428.2.2 = true then (if bt436.2.2 = true then (if bt444.2.2 = true then (if bt452.2.2 = true then ((impl_RightsSame.f k bt428.1 bt428.2.1 bt436.1 bt436.2.1).bind fun t460 => (if t460 = true then ((impl_RightsSame.f k bt444.1 bt444.2.1 bt428.1 bt428.2.1).bind fun t461 => (if t461 = true then ((impl_RightsSame.f k bt452.1 bt452.2.1 t403 t406).bind fun t462 => (if t462 = true then ((impl_Later.f k t403 t406 bt411.1 bt411.2.1).bind fun t463 => (if t463 = true then ((impl_Later.f k bt411.1 bt411.2.1 bt428.1 bt428.2.1).bind fun t464 => (if t464 = true then ((impl_Later.f k bt420.1 bt420.2.1 bt428.1 bt428.2.1).bind fun t465 => (if t465 = true then ((impl_RightsOk.f k bt428.1 bt428.2.1).bind fun t466 => (some t466)) else (some false))) else (some false))) else (some false))) else (some false))) else (some false))) else (some false))) else (some false)) else (some false)) else (some false)) else (some false)) else (some false)) else (some false)))))))))) = some r := H
  have A4 := Aside0.mk A40
  clear A40
  replace H := Option.bind_eq_some_iff.mp H
  obtain ⟨t410, A50, H⟩ := H
  replace H : ((impl_Mint.f k t403 t406 t410 5).bind fun bt411 => ((spec_MakeNum.f k l0 (wrap64 (1 + t402))).bind fun t419 => ((impl_Mint.f k t403 t406 t419 9).bind fun bt420 => ((impl_Meet.f k bt411.1 bt411.2.1 bt420.1 bt420.2.1).bind fun bt428 => ((impl_Meet.f k bt420.1 bt420.2.1 bt411.1 bt411.2.1).bind fun bt436 => ((impl_Meet.f k bt428.1 bt428.2.1 bt411.1 bt411.2.1).bind fun bt444 => ((impl_Meet.f k t403 t406 t403 t406).bind fun bt452 => (if bt411.2.2 = true then (if bt420.2.2 = true then (if bt428.2.2 = true then (if bt436.2.2 = true then (if bt444.2.2 = true then (if bt452.2.2 = true then ((impl_RightsSame.f k bt428.1 bt428.2.1 bt436.1 bt436.2.1).bind fun t460 => (if t460 = true then ((impl_RightsSame.f k bt444.1 bt444.2.1 bt428.1 bt428.2.1).bind fun t461 => (if t461 = true then ((impl_RightsSame.f k bt452.1 bt452.2.1 t403 t406).bind fun t462 => (if t462 = true then ((impl_Later.f k t403 t406 bt411.1 bt411.2.1).bind fun t463 => (if t463 = true then ((impl_Later.f k bt411.1 bt411.2.1 bt428.1 bt428.2.1).bind fun t464 => (if t464 = true then ((impl_Later.f k bt420.1 bt420.2.1 bt428.1 bt428.2.1).bind fun t465 => (if t465 = true then ((impl_RightsOk.f k bt428.1 bt428.2.1).bind fun t466 => (some t466)) else (some false))) else (some false))) else (some false))) else (some false))) else (some false))) else (some false))) else (some false)) else (some false)) else (some false)) else (some false)) else (some false)) else (some false))))))))) = some r := H
  have A5 := Aside0.mk A50
  clear A50
  replace H := Option.bind_eq_some_iff.mp H
  obtain ⟨⟨t411, t414, t417⟩, A60, H⟩ := H
  replace H : ((spec_MakeNum.f k l0 (wrap64 (1 + t402))).bind fun t419 => ((impl_Mint.f k t403 t406 t419 9).bind fun bt420 => ((impl_Meet.f k t411 t414 bt420.1 bt420.2.1).bind fun bt428 => ((impl_Meet.f k bt420.1 bt420.2.1 t411 t414).bind fun bt436 => ((impl_Meet.f k bt428.1 bt428.2.1 t411 t414).bind fun bt444 => ((impl_Meet.f k t403 t406 t403 t406).bind fun bt452 => (if t417 = true then (if bt420.2.2 = true then (if bt428.2.2 = true then (if bt436.2.2 = true then (if bt444.2.2 = true then (if bt452.2.2 = true then ((impl_RightsSame.f k bt428.1 bt428.2.1 bt436.1 bt436.2.1).bind fun t460 => (if t460 = true then ((impl_RightsSame.f k bt444.1 bt444.2.1 bt428.1 bt428.2.1).bind fun t461 => (if t461 = true then ((impl_RightsSame.f k bt452.1 bt452.2.1 t403 t406).bind fun t462 => (if t462 = true then ((impl_Later.f k t403 t406 t411 t414).bind fun t463 => (if t463 = true then ((impl_Later.f k t411 t414 bt428.1 bt428.2.1).bind fun t464 => (if t464 = true then ((impl_Later.f k bt420.1 bt420.2.1 bt428.1 bt428.2.1).bind fun t465 => (if t465 = true then ((impl_RightsOk.f k bt428.1 bt428.2.1).bind fun t466 => (some t466)) else (some false))) else (some false))) else (some false))) else (some false))) else (some false))) else (some false))) else (some false)) else (some false)) else (some false)) else (some false)) else (some false)) else (some false)))))))) = some r := H
  have A6 := Aside0.mk A60
  clear A60
  replace H := Option.bind_eq_some_iff.mp H
  obtain ⟨t419, A70, H⟩ := H
  replace H : ((impl_Mint.f k t403 t406 t419 9).bind fun bt420 => ((impl_Meet.f k t411 t414 bt420.1 bt420.2.1).bind fun bt428 => ((impl_Meet.f k bt420.1 bt420.2.1 t411 t414).bind fun bt436 => ((impl_Meet.f k bt428.1 bt428.2.1 t411 t414).bind fun bt444 => ((impl_Meet.f k t403 t406 t403 t406).bind fun bt452 => (if t417 = true then (if bt420.2.2 = true then (if bt428.2.2 = true then (if bt436.2.2 = true then (if bt444.2.2 = true then (if bt452.2.2 = true then ((impl_RightsSame.f k bt428.1 bt428.2.1 bt436.1 bt436.2.1).bind fun t460 => (if t460 = true then ((impl_RightsSame.f k bt444.1 bt444.2.1 bt428.1 bt428.2.1).bind fun t461 => (if t461 = true then ((impl_RightsSame.f k bt452.1 bt452.2.1 t403 t406).bind fun t462 => (if t462 = true then ((impl_Later.f k t403 t406 t411 t414).bind fun t463 => (if t463 = true then ((impl_Later.f k t411 t414 bt428.1 bt428.2.1).bind fun t464 => (if t464 = true then ((impl_Later.f k bt420.1 bt420.2.1 bt428.1 bt428.2.1).bind fun t465 => (if t465 = true then ((impl_RightsOk.f k bt428.1 bt428.2.1).bind fun t466 => (some t466)) else (some false))) else (some false))) else (some false))) else (some false))) else (some false))) else (some false))) else (some false)) else (some false)) else (some false)) else (some false)) else (some false)) else (some false))))))) = some r := H
  have A7 := Aside0.mk A70
  clear A70
  replace H := Option.bind_eq_some_iff.mp H
  obtain ⟨⟨t420, t423, t426⟩, A80, H⟩ := H
  replace H : ((impl_Meet.f k t411 t414 t420 t423).bind fun bt428 => ((impl_Meet.f k t420 t423 t411 t414).bind fun bt436 => ((impl_Meet.f k bt428.1 bt428.2.1 t411 t414).bind fun bt444 => ((impl_Meet.f k t403 t406 t403 t406).bind fun bt452 => (if t417 = true then (if t426 = true then (if bt428.2.2 = true then (if bt436.2.2 = true then (if bt444.2.2 = true then (if bt452.2.2 = true then ((impl_RightsSame.f k bt428.1 bt428.2.1 bt436.1 bt436.2.1).bind fun t460 => (if t460 = true then ((impl_RightsSame.f k bt444.1 bt444.2.1 bt428.1 bt428.2.1).bind fun t461 => (if t461 = true then ((impl_RightsSame.f k bt452.1 bt452.2.1 t403 t406).bind fun t462 => (if t462 = true then ((impl_Later.f k t403 t406 t411 t414).bind fun t463 => (if t463 = true then ((impl_Later.f k t411 t414 bt428.1 bt428.2.1).bind fun t464 => (if t464 = true then ((impl_Later.f k t420 t423 bt428.1 bt428.2.1).bind fun t465 => (if t465 = true then ((impl_RightsOk.f k bt428.1 bt428.2.1).bind fun t466 => (some t466)) else (some false))) else (some false))) else (some false))) else (some false))) else (some false))) else (some false))) else (some false)) else (some false)) else (some false)) else (some false)) else (some false)) else (some false)))))) = some r := H
  have A8 := Aside0.mk A80
  clear A80
  replace H := Option.bind_eq_some_iff.mp H
  obtain ⟨⟨t428, t431, t434⟩, A90, H⟩ := H
  replace H : ((impl_Meet.f k t420 t423 t411 t414).bind fun bt436 => ((impl_Meet.f k t428 t431 t411 t414).bind fun bt444 => ((impl_Meet.f k t403 t406 t403 t406).bind fun bt452 => (if t417 = true then (if t426 = true then (if t434 = true then (if bt436.2.2 = true then (if bt444.2.2 = true then (if bt452.2.2 = true then ((impl_RightsSame.f k t428 t431 bt436.1 bt436.2.1).bind fun t460 => (if t460 = true then ((impl_RightsSame.f k bt444.1 bt444.2.1 t428 t431).bind fun t461 => (if t461 = true then ((impl_RightsSame.f k bt452.1 bt452.2.1 t403 t406).bind fun t462 => (if t462 = true then ((impl_Later.f k t403 t406 t411 t414).bind fun t463 => (if t463 = true then ((impl_Later.f k t411 t414 t428 t431).bind fun t464 => (if t464 = true then ((impl_Later.f k t420 t423 t428 t431).bind fun t465 => (if t465 = true then ((impl_RightsOk.f k t428 t431).bind fun t466 => (some t466)) else (some false))) else (some false))) else (some false))) else (some false))) else (some false))) else (some false))) else (some false)) else (some false)) else (some false)) else (some false)) else (some false)) else (some false))))) = some r := H
  have A9 := Aside0.mk A90
  clear A90
  replace H := Option.bind_eq_some_iff.mp H
  obtain ⟨⟨t436, t439, t442⟩, A100, H⟩ := H
  replace H : ((impl_Meet.f k t428 t431 t411 t414).bind fun bt444 => ((impl_Meet.f k t403 t406 t403 t406).bind fun bt452 => (if t417 = true then (if t426 = true then (if t434 = true then (if t442 = true then (if bt444.2.2 = true then (if bt452.2.2 = true then ((impl_RightsSame.f k t428 t431 t436 t439).bind fun t460 => (if t460 = true then ((impl_RightsSame.f k bt444.1 bt444.2.1 t428 t431).bind fun t461 => (if t461 = true then ((impl_RightsSame.f k bt452.1 bt452.2.1 t403 t406).bind fun t462 => (if t462 = true then ((impl_Later.f k t403 t406 t411 t414).bind fun t463 => (if t463 = true then ((impl_Later.f k t411 t414 t428 t431).bind fun t464 => (if t464 = true then ((impl_Later.f k t420 t423 t428 t431).bind fun t465 => (if t465 = true then ((impl_RightsOk.f k t428 t431).bind fun t466 => (some t466)) else (some false))) else (some false))) else (some false))) else (some false))) else (some false))) else (some false))) else (some false)) else (some false)) else (some false)) else (some false)) else (some false)) else (some false)))) = some r := H
  have A10 := Aside0.mk A100
  clear A100
  replace H := Option.bind_eq_some_iff.mp H
  obtain ⟨⟨t444, t447, t450⟩, A110, H⟩ := H
  replace H : ((impl_Meet.f k t403 t406 t403 t406).bind fun bt452 => (if t417 = true then (if t426 = true then (if t434 = true then (if t442 = true then (if t450 = true then (if bt452.2.2 = true then ((impl_RightsSame.f k t428 t431 t436 t439).bind fun t460 => (if t460 = true then ((impl_RightsSame.f k t444 t447 t428 t431).bind fun t461 => (if t461 = true then ((impl_RightsSame.f k bt452.1 bt452.2.1 t403 t406).bind fun t462 => (if t462 = true then ((impl_Later.f k t403 t406 t411 t414).bind fun t463 => (if t463 = true then ((impl_Later.f k t411 t414 t428 t431).bind fun t464 => (if t464 = true then ((impl_Later.f k t420 t423 t428 t431).bind fun t465 => (if t465 = true then ((impl_RightsOk.f k t428 t431).bind fun t466 => (some t466)) else (some false))) else (some false))) else (some false))) else (some false))) else (some false))) else (some false))) else (some false)) else (some false)) else (some false)) else (some false)) else (some false)) else (some false))) = some r := H
  have A11 := Aside0.mk A110
  clear A110
  replace H := Option.bind_eq_some_iff.mp H
  obtain ⟨⟨t452, t455, t458⟩, A120, H⟩ := H
  replace H : (if t417 = true then (if t426 = true then (if t434 = true then (if t442 = true then (if t450 = true then (if t458 = true then ((impl_RightsSame.f k t428 t431 t436 t439).bind fun t460 => (if t460 = true then ((impl_RightsSame.f k t444 t447 t428 t431).bind fun t461 => (if t461 = true then ((impl_RightsSame.f k t452 t455 t403 t406).bind fun t462 => (if t462 = true then ((impl_Later.f k t403 t406 t411 t414).bind fun t463 => (if t463 = true then ((impl_Later.f k t411 t414 t428 t431).bind fun t464 => (if t464 = true then ((impl_Later.f k t420 t423 t428 t431).bind fun t465 => (if t465 = true then ((impl_RightsOk.f k t428 t431).bind fun t466 => (some t466)) else (some false))) else (some false))) else (some false))) else (some false))) else (some false))) else (some false))) else (some false)) else (some false)) else (some false)) else (some false)) else (some false)) else (some false)) = some r := H
  have A12 := Aside0.mk A120
  clear A120
  by_cases c13 : t417 = true
  ·subst c13
   have H1 : (if t426 = true then (if t434 = true then (if t442 = true then (if t450 = true then (if t458 = true then ((impl_RightsSame.f k t428 t431 t436 t439).bind fun t460 => (if t460 = true then ((impl_RightsSame.f k t444 t447 t428 t431).bind fun t461 => (if t461 = true then ((impl_RightsSame.f k t452 t455 t403 t406).bind fun t462 => (if t462 = true then ((impl_Later.f k t403 t406 t411 t414).bind fun t463 => (if t463 = true then ((impl_Later.f k t411 t414 t428 t431).bind fun t464 => (if t464 = true then ((impl_Later.f k t420 t423 t428 t431).bind fun t465 => (if t465 = true then ((impl_RightsOk.f k t428 t431).bind fun t466 => (some t466)) else (some false))) else (some false))) else (some false))) else (some false))) else (some false))) else (some false))) else (some false)) else (some false)) else (some false)) else (some false)) else (some false)) = some r := by rw [if_pos rfl] at H; exact H
   clear H
   have H := H1
   clear H1
   by_cases c14 : t426 = true
   ·subst c14
    have H1 : (if t434 = true then (if t442 = true then (if t450 = true then (if t458 = true then ((impl_RightsSame.f k t428 t431 t436 t439).bind fun t460 => (if t460 = true then ((impl_RightsSame.f k t444 t447 t428 t431).bind fun t461 => (if t461 = true then ((impl_RightsSame.f k t452 t455 t403 t406).bind fun t462 => (if t462 = true then ((impl_Later.f k t403 t406 t411 t414).bind fun t463 => (if t463 = true then ((impl_Later.f k t411 t414 t428 t431).bind fun t464 => (if t464 = true then ((impl_Later.f k t420 t423 t428 t431).bind fun t465 => (if t465 = true then ((impl_RightsOk.f k t428 t431).bind fun t466 => (some t466)) else (some false))) else (some false))) else (some false))) else (some false))) else (some false))) else (some false))) else (some false)) else (some false)) else (some false)) else (some false)) = some r := by rw [if_pos rfl] at H; exact H
    clear H
    have H := H1
    clear H1
    by_cases c15 : t434 = true
    ·subst c15
     have H1 : (if t442 = true then (if t450 = true then (if t458 = true then ((impl_RightsSame.f k t428 t431 t436 t439).bind fun t460 => (if t460 = true then ((impl_RightsSame.f k t444 t447 t428 t431).bind fun t461 => (if t461 = true then ((impl_RightsSame.f k t452 t455 t403 t406).bind fun t462 => (if t462 = true then ((impl_Later.f k t403 t406 t411 t414).bind fun t463 => (if t463 = true then ((impl_Later.f k t411 t414 t428 t431).bind fun t464 => (if t464 = true then ((impl_Later.f k t420 t423 t428 t431).bind fun t465 => (if t465 = true then ((impl_RightsOk.f k t428 t431).bind fun t466 => (some t466)) else (some false))) else (some false))) else (some false))) else (some false))) else (some false))) else (some false))) else (some false)) else (some false)) else (some false)) = some r := by rw [if_pos rfl] at H; exact H
     clear H
     have H := H1
     clear H1
     by_cases c16 : t442 = true
     ·subst c16
      have H1 : (if t450 = true then (if t458 = true then ((impl_RightsSame.f k t428 t431 t436 t439).bind fun t460 => (if t460 = true then ((impl_RightsSame.f k t444 t447 t428 t431).bind fun t461 => (if t461 = true then ((impl_RightsSame.f k t452 t455 t403 t406).bind fun t462 => (if t462 = true then ((impl_Later.f k t403 t406 t411 t414).bind fun t463 => (if t463 = true then ((impl_Later.f k t411 t414 t428 t431).bind fun t464 => (if t464 = true then ((impl_Later.f k t420 t423 t428 t431).bind fun t465 => (if t465 = true then ((impl_RightsOk.f k t428 t431).bind fun t466 => (some t466)) else (some false))) else (some false))) else (some false))) else (some false))) else (some false))) else (some false))) else (some false)) else (some false)) = some r := by rw [if_pos rfl] at H; exact H
      clear H
      have H := H1
      clear H1
      by_cases c17 : t450 = true
      ·subst c17
       have H1 : (if t458 = true then ((impl_RightsSame.f k t428 t431 t436 t439).bind fun t460 => (if t460 = true then ((impl_RightsSame.f k t444 t447 t428 t431).bind fun t461 => (if t461 = true then ((impl_RightsSame.f k t452 t455 t403 t406).bind fun t462 => (if t462 = true then ((impl_Later.f k t403 t406 t411 t414).bind fun t463 => (if t463 = true then ((impl_Later.f k t411 t414 t428 t431).bind fun t464 => (if t464 = true then ((impl_Later.f k t420 t423 t428 t431).bind fun t465 => (if t465 = true then ((impl_RightsOk.f k t428 t431).bind fun t466 => (some t466)) else (some false))) else (some false))) else (some false))) else (some false))) else (some false))) else (some false))) else (some false)) = some r := by rw [if_pos rfl] at H; exact H
       clear H
       have H := H1
       clear H1
       by_cases c18 : t458 = true
       ·subst c18
        have H1 : ((impl_RightsSame.f k t428 t431 t436 t439).bind fun t460 => (if t460 = true then ((impl_RightsSame.f k t444 t447 t428 t431).bind fun t461 => (if t461 = true then ((impl_RightsSame.f k t452 t455 t403 t406).bind fun t462 => (if t462 = true then ((impl_Later.f k t403 t406 t411 t414).bind fun t463 => (if t463 = true then ((impl_Later.f k t411 t414 t428 t431).bind fun t464 => (if t464 = true then ((impl_Later.f k t420 t423 t428 t431).bind fun t465 => (if t465 = true then ((impl_RightsOk.f k t428 t431).bind fun t466 => (some t466)) else (some false))) else (some false))) else (some false))) else (some false))) else (some false))) else (some false))) = some r := by rw [if_pos rfl] at H; exact H
        clear H
        have H := H1
        clear H1
        replace H := Option.bind_eq_some_iff.mp H
        obtain ⟨t460, A190, H⟩ := H
        replace H : (if t460 = true then ((impl_RightsSame.f k t444 t447 t428 t431).bind fun t461 => (if t461 = true then ((impl_RightsSame.f k t452 t455 t403 t406).bind fun t462 => (if t462 = true then ((impl_Later.f k t403 t406 t411 t414).bind fun t463 => (if t463 = true then ((impl_Later.f k t411 t414 t428 t431).bind fun t464 => (if t464 = true then ((impl_Later.f k t420 t423 t428 t431).bind fun t465 => (if t465 = true then ((impl_RightsOk.f k t428 t431).bind fun t466 => (some t466)) else (some false))) else (some false))) else (some false))) else (some false))) else (some false))) else (some false)) = some r := H
        have A19 := Aside0.mk A190
        clear A190
        by_cases c20 : t460 = true
        ·subst c20
         have H1 : ((impl_RightsSame.f k t444 t447 t428 t431).bind fun t461 => (if t461 = true then ((impl_RightsSame.f k t452 t455 t403 t406).bind fun t462 => (if t462 = true then ((impl_Later.f k t403 t406 t411 t414).bind fun t463 => (if t463 = true then ((impl_Later.f k t411 t414 t428 t431).bind fun t464 => (if t464 = true then ((impl_Later.f k t420 t423 t428 t431).bind fun t465 => (if t465 = true then ((impl_RightsOk.f k t428 t431).bind fun t466 => (some t466)) else (some false))) else (some false))) else (some false))) else (some false))) else (some false))) = some r := by rw [if_pos rfl] at H; exact H
         clear H
         have H := H1
         clear H1
         replace H := Option.bind_eq_some_iff.mp H
         obtain ⟨t461, A210, H⟩ := H
         replace H : (if t461 = true then ((impl_RightsSame.f k t452 t455 t403 t406).bind fun t462 => (if t462 = true then ((impl_Later.f k t403 t406 t411 t414).bind fun t463 => (if t463 = true then ((impl_Later.f k t411 t414 t428 t431).bind fun t464 => (if t464 = true then ((impl_Later.f k t420 t423 t428 t431).bind fun t465 => (if t465 = true then ((impl_RightsOk.f k t428 t431).bind fun t466 => (some t466)) else (some false))) else (some false))) else (some false))) else (some false))) else (some false)) = some r := H
         have A21 := Aside0.mk A210
         clear A210
         by_cases c22 : t461 = true
         ·subst c22
          have H1 : ((impl_RightsSame.f k t452 t455 t403 t406).bind fun t462 => (if t462 = true then ((impl_Later.f k t403 t406 t411 t414).bind fun t463 => (if t463 = true then ((impl_Later.f k t411 t414 t428 t431).bind fun t464 => (if t464 = true then ((impl_Later.f k t420 t423 t428 t431).bind fun t465 => (if t465 = true then ((impl_RightsOk.f k t428 t431).bind fun t466 => (some t466)) else (some false))) else (some false))) else (some false))) else (some false))) = some r := by rw [if_pos rfl] at H; exact H
          clear H
          have H := H1
          clear H1
          replace H := Option.bind_eq_some_iff.mp H
          obtain ⟨t462, A230, H⟩ := H
          replace H : (if t462 = true then ((impl_Later.f k t403 t406 t411 t414).bind fun t463 => (if t463 = true then ((impl_Later.f k t411 t414 t428 t431).bind fun t464 => (if t464 = true then ((impl_Later.f k t420 t423 t428 t431).bind fun t465 => (if t465 = true then ((impl_RightsOk.f k t428 t431).bind fun t466 => (some t466)) else (some false))) else (some false))) else (some false))) else (some false)) = some r := H
          have A23 := Aside0.mk A230
          clear A230
          by_cases c24 : t462 = true
          ·subst c24
           have H1 : ((impl_Later.f k t403 t406 t411 t414).bind fun t463 => (if t463 = true then ((impl_Later.f k t411 t414 t428 t431).bind fun t464 => (if t464 = true then ((impl_Later.f k t420 t423 t428 t431).bind fun t465 => (if t465 = true then ((impl_RightsOk.f k t428 t431).bind fun t466 => (some t466)) else (some false))) else (some false))) else (some false))) = some r := by rw [if_pos rfl] at H; exact H
           clear H
           have H := H1
           clear H1
           replace H := Option.bind_eq_some_iff.mp H
           obtain ⟨t463, A250, H⟩ := H
           replace H : (if t463 = true then ((impl_Later.f k t411 t414 t428 t431).bind fun t464 => (if t464 = true then ((impl_Later.f k t420 t423 t428 t431).bind fun t465 => (if t465 = true then ((impl_RightsOk.f k t428 t431).bind fun t466 => (some t466)) else (some false))) else (some false))) else (some false)) = some r := H
           have A25 := Aside0.mk A250
           clear A250
           by_cases c26 : t463 = true
           ·subst c26
            have H1 : ((impl_Later.f k t411 t414 t428 t431).bind fun t464 => (if t464 = true then ((impl_Later.f k t420 t423 t428 t431).bind fun t465 => (if t465 = true then ((impl_RightsOk.f k t428 t431).bind fun t466 => (some t466)) else (some false))) else (some false))) = some r := by rw [if_pos rfl] at H; exact H
            clear H
            have H := H1
            clear H1
            replace H := Option.bind_eq_some_iff.mp H
            obtain ⟨t464, A270, H⟩ := H
            replace H : (if t464 = true then ((impl_Later.f k t420 t423 t428 t431).bind fun t465 => (if t465 = true then ((impl_RightsOk.f k t428 t431).bind fun t466 => (some t466)) else (some false))) else (some false)) = some r := H
            have A27 := Aside0.mk A270
            clear A270
            by_cases c28 : t464 = true
            ·subst c28
             have H1 : ((impl_Later.f k t420 t423 t428 t431).bind fun t465 => (if t465 = true then ((impl_RightsOk.f k t428 t431).bind fun t466 => (some t466)) else (some false))) = some r := by rw [if_pos rfl] at H; exact H
             clear H
             have H := H1
             clear H1
             replace H := Option.bind_eq_some_iff.mp H
             obtain ⟨t465, A290, H⟩ := H
             replace H : (if t465 = true then ((impl_RightsOk.f k t428 t431).bind fun t466 => (some t466)) else (some false)) = some r := H
             have A29 := Aside0.mk A290
             clear A290
             by_cases c30 : t465 = true
             ·subst c30
              have H1 : ((impl_RightsOk.f k t428 t431).bind fun t466 => (some t466)) = some r := by rw [if_pos rfl] at H; exact H
              clear H
              have H := H1
              clear H1
              replace H := Option.bind_eq_some_iff.mp H
              obtain ⟨t466, A310, H⟩ := H
              replace H : (some t466) = some r := H
              have A31 := Aside0.mk A310
              clear A310
              obtain rfl := Option.some.inj H
              go_enter Try.func12, Try.ntmps12
              try go_wp2_with (first | ((with_reducible refine gate_callee (f := 34) rfl ?_); refine kG (some 21) Try.func34 #[.slice A0 l0.length c0, .int .i64 3] ?_; (with_reducible refine (spec_MakeNum.calls k _ _ l0 3 t402 _ ?side1 ?side2 A3.out).mono ?_); (case side1 => exact kC HR0.out); (case side2 => exact HC0.out); rintro e w32 ⟨rfl, hb⟩; refine ⟨_, rfl, ?_⟩; have n0_ := k0 (below_step (kW HB.out) hb); clear HB; have HB := n0_; clear n0_; (try clear hb); (try clear hb2); (try clear hk); (try clear hi)) | ((with_reducible refine gate_callee (f := 35) rfl ?_); refine kG (some 25) Try.func35 #[.slice A0 l0.length c0, .int .i64 (wrap64 (1 + t402)), .int .i64 1] ?_; (with_reducible refine (spec_MakeRights.calls k _ _ l0 (wrap64 (1 + t402)) 1 t403 t406 _ ?side1 ?side2 A4.out).mono ?_); (case side1 => exact kC (Kd.C_below HR0.out HB.out)); (case side2 => exact HC0.out); rintro e w33 ⟨v404, v407, rfl, ho0, ho1, hb⟩; refine ⟨_, rfl, ?_⟩; have n0_ := k0 (Kd.V_lower (Kd.V_mono (ok' := fun k_ => some k_ ≠ (v407 : Value).ownBlock) ho0 (fun k_ hk_ => hk_.2)) (below_size (kW HB.out))); have n1_ := k0 (Kd.R_lower (Kd.R_mono (ok' := fun k_ => True) ho1 (fun _ hk_ => trivial)) (below_size (kW HB.out))); have n2_ := k0 (below_step (kW HB.out) hb); clear HB; have HO405 := n0_; have HO408 := n1_; have HB := n2_; clear n0_ n1_ n2_; (try clear hb); (try clear hb2); (try clear hk); (try clear hi); (try clear ho0); (try clear ho1)) | ((with_reducible refine gate_dst (N := 4) rfl ?_); refine kE (N := 4) (cs := #[.slice none 0 0, .slice none 0 0]) (t := 28) ?_; intro gb409 hg w34 hbox hb; have n0_ := k0 (Kd.V_below (Kd.V_elderB (kV HO405.out) gb409 (Nat.le_of_eq hg.symm)) hb); have n1_ := k0 (Kd.R_below (kR HO408.out) hb); have n2_ := k0 (below_step (kW HB.out) hb); have n3_ := k0 (hbox); have n4_ := k0 (kY HB.out hg); have n5_ := k0 (kY HB.out hg); clear HO405; clear HO408; clear HB; have HO405 := n0_; have HO408 := n1_; have HB := n2_; have BK409 := n3_; have GW409 := n4_; have GE409 := n5_; clear n0_ n1_ n2_ n3_ n4_ n5_; clear hb hbox hg; obtain ⟨Ao35, co35, eo35⟩ := Kd.V_slice HO405.out; subst eo35; have hcz36_0 : w34.cell? ⟨gb409, 0, none⟩ = some (.slice none 0 0) := kx BK409.out; have hcz36_1 : w34.cell? ⟨gb409, 1, none⟩ = some (.slice none 0 0) := kx BK409.out; have hfz36_0 := blk_frozen BK409.out 0; have hfz36_1 := blk_frozen BK409.out 1; obtain ⟨Ao37, co37, eo37⟩ := Kd.R_slice HO408.out; subst eo37))
              have n0_ : Aside0 (Kd.V (Kd.slice 3 (Kd.int .i64)) 23 ((w34.setCell ⟨gb409, 0, none⟩ (.slice Ao35 t403.length co35)).setCell ⟨gb409, 1, none⟩ (.slice Ao37 t406.length co37)) w.heap.size (fun k_ => some k_ ≠ (.slice Ao37 t406.length co37 : Value).ownBlock ∧ k_ ≠ gb409) (.slice Ao35 t403.length co35) t403) := ⟨by (with_reducible repeat (first | apply Kd.V_alloc | apply Kd.V_drewN | apply Kd.V_drew)); exact Kd.V_mono (Kd.V_far (p := ⟨gb409, 1, none⟩) (Kd.V_far (p := ⟨gb409, 0, none⟩) (Kd.V_mono HO405.out (fun k_ hk => (⟨hk, hk.2⟩ : _ ∧ k_ ≠ gb409))) (fun _ hk => hk.2) (.slice Ao35 t403.length co35)) (fun _ hk => hk.2) (.slice Ao37 t406.length co37)) (fun _ hk => ⟨hk.1.1, hk.1.2⟩)⟩
              have n1_ : Aside0 (Kd.R (Kd.int .i64) 3 ((w34.setCell ⟨gb409, 0, none⟩ (.slice Ao35 t403.length co35)).setCell ⟨gb409, 1, none⟩ (.slice Ao37 t406.length co37)) w.heap.size (fun _ => True) (.slice Ao37 t406.length co37) t406) := ⟨by (with_reducible repeat (first | apply Kd.R_alloc | apply Kd.R_drewN | apply Kd.R_drew)); exact Kd.R_mono (Kd.R_far (p := ⟨gb409, 1, none⟩) (Kd.R_far (p := ⟨gb409, 0, none⟩) (Kd.R_types HO408.out BK409.out (by decide)) (fun _ hk => hk.2) (.slice Ao35 t403.length co35)) (fun _ hk => hk.2) (.slice Ao37 t406.length co37)) (fun _ hk => trivial)⟩
              have n2_ : Aside0 (((w34.setCell ⟨gb409, 0, none⟩ (.slice Ao35 t403.length co35)).setCell ⟨gb409, 1, none⟩ (.slice Ao37 t406.length co37)).heap[gb409]? = some (.cells #[.slice Ao35 t403.length co35, .slice Ao37 t406.length co37] 28 (0, 0))) := ⟨by (with_reducible repeat first | apply k1 | apply k2 | apply k3); refine blk_put (cs := #[.slice Ao35 t403.length co35, .slice none 0 0]) ?_ 1 _ rfl; (with_reducible repeat first | apply k1 | apply k2 | apply k3); refine blk_put (cs := #[.slice none 0 0, .slice none 0 0]) ?_ 0 _ rfl; (with_reducible repeat first | apply k1 | apply k2 | apply k3); exact BK409.out⟩
              have n3_ : Aside0 (Below w.heap.size w ((w34.setCell ⟨gb409, 0, none⟩ (.slice Ao35 t403.length co35)).setCell ⟨gb409, 1, none⟩ (.slice Ao37 t406.length co37))) := ⟨by repeat (first | (with_reducible first | exact HB.out | apply below_alloc | apply pw_below_drewN | apply below_drew1 | refine below_set ?_ GE409.out) | exact HB.out)⟩
              (try clear HO405)
              (try clear HO408)
              (try clear BK409)
              (try clear HB)
              generalize ((w34.setCell ⟨gb409, 0, none⟩ (.slice Ao35 t403.length co35)).setCell ⟨gb409, 1, none⟩ (.slice Ao37 t406.length co37)) = w38 at n0_ n1_ n2_ n3_ ⊢
              have HO405 := n0_
              have HO408 := n1_
              have BK409 := n2_
              have HB := n3_
              clear n0_ n1_ n2_ n3_
              have n0_ := k0 (Kd.V_drew HO405.out)
              have n1_ := k0 (Kd.R_drew HO408.out)
              have n2_ := k0 (blk_drew BK409.out)
              have n3_ := k0 (below_drew1 HB.out)
              clear HO405 HO408 BK409 HB
              have HO405 := n0_
              have HO408 := n1_
              have BK409 := n2_
              have HB := n3_
              clear n0_ n1_ n2_ n3_
              refine start_ (n := 11) (S := fun w' => w'.cell? ⟨gb409, 0, none⟩ = some (.slice Ao35 t403.length co35) ∧ w'.cell? ⟨gb409, 1, none⟩ = some (.slice Ao37 t406.length co37)) (ds := []) #[false, false, false, false, false, false, false, false, false, false, false] (by kernel_rfl) rfl rfl ⟨(blk_cell BK409.out 0).trans rfl, (blk_cell BK409.out 1).trans rfl⟩ (fun hHeld => ?_); refine with_tabW laws_FnMeet.tab5 laws_FnMeet.bits5 (fun HT_ HW_ => ?_)
              generalize w38.drew = w39 at HO405 HO408 BK409 HB hHeld ⊢
              refine kP 1 28 11 2 HT_.out ?_
              refine kP 2 29 11 6 HT_.out ?_
              refine take_ (i := 0) (N := some 27) (v := ?_) (a' := ?_) (bt 11 7) rfl rfl (take_ofW HT_.out HW_.out (by kernel_rfl)) (fun _ _ _ h => h) (Or.inl ⟨by rfl, ?_⟩) hHeld ?_ ?_
              rotate_left
              ·rintro w' ⟨s0, s1⟩
               go_simp
               with_reducible rfl
              rotate_left
              ·simp only [Act.put, List.setIfInBounds_toArray, List.set_cons_zero, List.set_cons_succ, i64_w, i32_w]
               rfl
              refine join_ (σ := Value × Value × Nat) 2 #[true, true, true, true, true, true, true, true, true, false, false] (fun s_ => [(30, .int .i64 t410), (31, .tuple #[.agg #[s_.1, s_.2.1], .bool true]), (5, .pointer (some ⟨s_.2.2, 0, none⟩)), (26, .tuple #[.agg #[s_.1, s_.2.1], .bool true]), (32, .agg #[s_.1, s_.2.1]), (33, .bool true)]) (fun s_ w' => (w'.cell? ⟨gb409, 0, none⟩ = some (.slice Ao35 t403.length co35) ∧ w'.cell? ⟨gb409, 1, none⟩ = some (.slice Ao37 t406.length co37)) ∧ (Kd.V (Kd.slice 3 (Kd.int .i64)) 23 w' w.heap.size (fun k_ => some k_ ≠ (.slice Ao37 t406.length co37 : Value).ownBlock ∧ some k_ ≠ (s_.1 : Value).ownBlock ∧ some k_ ≠ (s_.2.1 : Value).ownBlock ∧ k_ ≠ gb409 ∧ k_ ≠ s_.2.2) (.slice Ao35 t403.length co35) t403) ∧ (Kd.R (Kd.int .i64) 3 w' w.heap.size (fun k_ => some k_ ≠ (s_.2.1 : Value).ownBlock) (.slice Ao37 t406.length co37) t406) ∧ (Kd.S (Kd.slice 3 (Kd.int .i64)) 23 w' w.heap.size (fun k_ => some k_ ≠ (.slice Ao37 t406.length co37 : Value).ownBlock ∧ some k_ ≠ (s_.2.1 : Value).ownBlock) s_.1 t411) ∧ (Kd.R (Kd.int .i64) 3 w' w.heap.size (fun k_ => some k_ ≠ (.slice Ao37 t406.length co37 : Value).ownBlock) s_.2.1 t414) ∧ (w'.heap[gb409]? = some (.cells #[.slice Ao35 t403.length co35, .slice Ao37 t406.length co37] 28 (0, 0))) ∧ (w'.heap[s_.2.2]? = some (.cells #[.slice none 0 0, .slice none 0 0] 28 (0, 0))) ∧ (w.heap.size ≤ s_.2.2) ∧ (w.heap.size ≤ s_.2.2) ∧ (gb409 ≠ s_.2.2) ∧ (s_.2.2 ≠ gb409) ∧ (Below w.heap.size w w')) ?_ ?_
              rotate_left
              ·intro hCont
               refine two_ (i := 3) (j := 8) (Ni := some 30) (Nj := some 5) #[true, true, true, true, false, false, false, false, false, false, false] #[true, true, true, false, false, false, false, false, true, false, false] rfl rfl rfl rfl (two_of HT_.out (by kernel_rfl)) (by decide) (by decide) (fun K hK => ?_) (fun K hK => ?_)
               ·skip
                refine goes_ Try.func34 (by kernel_rfl) rfl #[.slice A0 l0.length c0, .int .i64 (wrap64 (1 + t402))] (by rfl) rfl rfl (by (try simp only [List.map_toArray, List.map_cons, List.map_nil]); first | done | rfl | (simp only [List.length_drop, List.length_take]; rfl)) ?_
                with_reducible refine (spec_MakeNum.calls k _ _ l0 (wrap64 (1 + t402)) t410 _ ?side1 ?side2 A5.out).mono ?_
                (case side1 => exact kC (Kd.C_below HR0.out HB.out))
                (case side2 => exact HC0.out)
                rintro e w40 ⟨rfl, hb⟩
                refine ⟨_, rfl, ?_⟩
                have n0_ := k0 (Kd.V_below (kV HO405.out) hb)
                have n1_ := k0 (Kd.R_below (kR HO408.out) hb)
                have n2_ := k0 (kb BK409.out hb)
                have n3_ := k0 (below_step (kW HB.out) hb)
                clear HO405 HO408 BK409 HB
                have HO405 := n0_
                have HO408 := n1_
                have BK409 := n2_
                have HB := n3_
                clear n0_ n1_ n2_ n3_
                (try clear hb)
                (try clear hb2)
                (try clear hk)
                (try clear hi)
                refine hK.out _ _ ⟨(blk_cell BK409.out 0).trans rfl, (blk_cell BK409.out 1).trans rfl⟩ (fun hHeld => ?_)
                clear hK K
                refine norm_ (a' := ?_) ?_ ?_
                rotate_left
                ·show Act.put _ (some 30) _ = _
                 simp only [Act.put, List.setIfInBounds_toArray, List.set_cons_zero, List.set_cons_succ, i64_w, i32_w]
                 rfl
                refine two_ (i := 4) (j := 8) (Ni := some 31) (Nj := some 5) #[true, true, true, true, true, false, false, false, false, false, false] #[true, true, true, true, false, false, false, false, true, false, false] rfl rfl rfl rfl (two_of HT_.out (by kernel_rfl)) (by decide) (by decide) (fun K hK => ?_) (fun K hK => ?_)
                ·skip
                 refine goes_ Try.func29 (by kernel_rfl) rfl #[.agg #[.slice Ao35 t403.length co35, .slice Ao37 t406.length co37], .int .i64 t410, .int .i64 5] (by rfl) rfl rfl (by (try simp only [List.map_toArray, List.map_cons, List.map_nil]); first | done | rfl | (simp only [List.length_drop, List.length_take]; rfl)) ?_
                 with_reducible refine (impl_Mint.calls k _ _ t403 _ _ t406 t410 5 t411 t414 true _ ?side1 ?side2 ?side3 ?side4 A6.out).mono ?_
                 (case side1 => exact kC (Kd.V_reads' HO405.out).2.2)
                 (case side2 => exact (Kd.V_reads' HO405.out).2.1)
                 (case side3 => exact kC (Kd.R_reads' HO408.out).2.2)
                 (case side4 => exact (Kd.R_reads' HO408.out).2.1)
                 rintro e w41 ⟨v412, v415, rfl, ho0, ho1, hb⟩
                 refine ⟨_, rfl, ?_⟩
                 have n0_ := k0 (Kd.V_mono (Kd.V_told (Kd.V_told (Kd.V_old (kV HO405.out) hb) (Kd.S_base ho0)) (Kd.R_base ho1)) (fun _ h_ => h_.1))
                 have n1_ := k0 (Kd.R_elder' (kR HO408.out) (Kd.R_base ho1) hb)
                 have n2_ := k0 (Kd.S_lower (Kd.S_new' ho0 (Kd.R_lt (kR HO408.out))) (below_size (kW HB.out)))
                 have n3_ := k0 (Kd.R_lower (Kd.R_new' ho1 (Kd.R_lt (kR HO408.out))) (below_size (kW HB.out)))
                 have n4_ := k0 (kb BK409.out hb)
                 have n5_ := k0 (below_step (kW HB.out) hb)
                 clear HO405 HO408 BK409 HB
                 have HO405 := n0_
                 have HO408 := n1_
                 have HO413 := n2_
                 have HO416 := n3_
                 have BK409 := n4_
                 have HB := n5_
                 clear n0_ n1_ n2_ n3_ n4_ n5_
                 (try clear hb)
                 (try clear hb2)
                 (try clear hk)
                 (try clear hi)
                 (try clear ho0)
                 (try clear ho1)
                 refine hK.out _ _ ⟨(blk_cell BK409.out 0).trans rfl, (blk_cell BK409.out 1).trans rfl⟩ (fun hHeld => ?_)
                 clear hK K
                 refine norm_ (a' := ?_) ?_ ?_
                 rotate_left
                 ·show Act.put _ (some 31) _ = _
                  simp only [Act.put, List.setIfInBounds_toArray, List.set_cons_zero, List.set_cons_succ, i64_w, i32_w]
                  rfl
                 refine kP 5 26 11 63 HT_.out ?_
                 refine kP 6 32 11 127 HT_.out ?_
                 refine kP 7 33 11 255 HT_.out ?_
                 refine one_ (i := 8) (N := some 5) (bt 11 511) rfl rfl (one_of HT_.out (by kernel_rfl)) (by decide) (fun K hK => ?_)
                 refine box_step ?hg (N := 5) ?hd (cs := #[.slice none 0 0, .slice none 0 0]) (t := 28) ?hr ?_; (case hd => rfl); (case hg => rfl); (case hr => first | (go_simp; done) | (go_simp; rfl))
                 intro gb418 hg w42 hbox hb
                 have n0_ := k0 (Kd.V_below (Kd.V_elderB (kV HO405.out) gb418 (Nat.le_of_eq hg.symm)) hb)
                 have n1_ := k0 (Kd.R_below (kR HO408.out) hb)
                 have n2_ := k0 (Kd.S_below (kS HO413.out) hb)
                 have n3_ := k0 (Kd.R_below (kR HO416.out) hb)
                 have n4_ := k0 (kb BK409.out hb)
                 have n5_ := k0 (below_step (kW HB.out) hb)
                 have n6_ := k0 (hbox)
                 have n7_ := k0 (kY HB.out hg)
                 have n8_ := k0 (kY HB.out hg)
                 have n9_ := k0 ((by rw [hg]; exact Nat.ne_of_lt (blk_lt (g := gb409) (o := .cells #[.slice Ao35 t403.length co35, .slice Ao37 t406.length co37] 28 (0, 0)) (kB BK409.out)) : gb409 ≠ gb418))
                 have n10_ := k0 ((by rw [hg]; exact Nat.ne_of_gt (blk_lt (g := gb409) (o := .cells #[.slice Ao35 t403.length co35, .slice Ao37 t406.length co37] 28 (0, 0)) (kB BK409.out)) : gb418 ≠ gb409))
                 clear HO405 HO408 HO413 HO416 BK409 HB
                 have HO405 := n0_
                 have HO408 := n1_
                 have HO413 := n2_
                 have HO416 := n3_
                 have BK409 := n4_
                 have HB := n5_
                 have BK418 := n6_
                 have GW418 := n7_
                 have GE418 := n8_
                 have NB409_418 := n9_
                 have NB418_409 := n10_
                 clear n0_ n1_ n2_ n3_ n4_ n5_ n6_ n7_ n8_ n9_ n10_
                 clear hb hbox hg
                 refine hK.out _ _ ⟨(blk_cell BK409.out 0).trans rfl, (blk_cell BK409.out 1).trans rfl⟩ (fun hHeld => ?_)
                 clear hK K
                 refine norm_ (a' := ?_) ?_ ?_
                 rotate_left
                 ·show Act.put _ (some 5) _ = _
                  simp only [Act.put, List.setIfInBounds_toArray, List.set_cons_zero, List.set_cons_succ, i64_w, i32_w]
                  rfl
                 exact norm_ (by simp only [putAll, Act.put, List.setIfInBounds_toArray, List.set_cons_zero, List.set_cons_succ]) (hCont (v412, v415, gb418) _ ⟨hHeld, (by (with_reducible repeat (first | apply Kd.V_alloc | apply Kd.V_drewN | apply Kd.V_drew)); exact Kd.V_mono HO405.out (fun _ hk => ⟨hk.1.1.1.1, ⟨hk.1.1.2, ⟨hk.1.2, ⟨hk.1.1.1.2, hk.2⟩⟩⟩⟩)), (by (with_reducible repeat (first | apply Kd.R_alloc | apply Kd.R_drewN | apply Kd.R_drew)); exact Kd.R_mono HO408.out (fun _ hk => hk.2)), (by (with_reducible repeat (first | apply Kd.S_alloc | apply Kd.S_drewN | apply Kd.S_drew)); exact Kd.S_mono HO413.out (fun _ hk => ⟨hk.2, hk.1⟩)), (by (with_reducible repeat (first | apply Kd.R_alloc | apply Kd.R_drewN | apply Kd.R_drew)); exact Kd.R_mono HO416.out (fun _ hk => hk.2)), (kB BK409.out), (kB BK418.out), GW418.out, GE418.out, NB409_418.out, NB418_409.out, (kW HB.out)⟩)
                ·skip
                 refine box_step ?hg (N := 5) ?hd (cs := #[.slice none 0 0, .slice none 0 0]) (t := 28) ?hr ?_; (case hd => rfl); (case hg => rfl); (case hr => first | (go_simp; done) | (go_simp; rfl))
                 intro gb418 hg w41 hbox hb
                 have n0_ := k0 (Kd.V_below (Kd.V_elderB (kV HO405.out) gb418 (Nat.le_of_eq hg.symm)) hb)
                 have n1_ := k0 (Kd.R_below (kR HO408.out) hb)
                 have n2_ := k0 (kb BK409.out hb)
                 have n3_ := k0 (below_step (kW HB.out) hb)
                 have n4_ := k0 (hbox)
                 have n5_ := k0 (kY HB.out hg)
                 have n6_ := k0 (kY HB.out hg)
                 have n7_ := k0 ((by rw [hg]; exact Nat.ne_of_lt (blk_lt (g := gb409) (o := .cells #[.slice Ao35 t403.length co35, .slice Ao37 t406.length co37] 28 (0, 0)) (kB BK409.out)) : gb409 ≠ gb418))
                 have n8_ := k0 ((by rw [hg]; exact Nat.ne_of_gt (blk_lt (g := gb409) (o := .cells #[.slice Ao35 t403.length co35, .slice Ao37 t406.length co37] 28 (0, 0)) (kB BK409.out)) : gb418 ≠ gb409))
                 clear HO405 HO408 BK409 HB
                 have HO405 := n0_
                 have HO408 := n1_
                 have BK409 := n2_
                 have HB := n3_
                 have BK418 := n4_
                 have GW418 := n5_
                 have GE418 := n6_
                 have NB409_418 := n7_
                 have NB418_409 := n8_
                 clear n0_ n1_ n2_ n3_ n4_ n5_ n6_ n7_ n8_
                 clear hb hbox hg
                 refine hK.out _ _ ⟨(blk_cell BK409.out 0).trans rfl, (blk_cell BK409.out 1).trans rfl⟩ (fun hHeld => ?_)
                 clear hK K
                 refine norm_ (a' := ?_) ?_ ?_
                 rotate_left
                 ·show Act.put _ (some 5) _ = _
                  simp only [Act.put, List.setIfInBounds_toArray, List.set_cons_zero, List.set_cons_succ, i64_w, i32_w]
                  rfl
                 refine one_ (i := 4) (N := some 31) (bt 11 287) rfl rfl (one_of HT_.out (by kernel_rfl)) (by decide) (fun K hK => ?_)
                 refine goes_ Try.func29 (by kernel_rfl) rfl #[.agg #[.slice Ao35 t403.length co35, .slice Ao37 t406.length co37], .int .i64 t410, .int .i64 5] (by rfl) rfl rfl (by (try simp only [List.map_toArray, List.map_cons, List.map_nil]); first | done | rfl | (simp only [List.length_drop, List.length_take]; rfl)) ?_
                 with_reducible refine (impl_Mint.calls k _ _ t403 _ _ t406 t410 5 t411 t414 true _ ?side1 ?side2 ?side3 ?side4 A6.out).mono ?_
                 (case side1 => exact kC (Kd.V_reads' HO405.out).2.2)
                 (case side2 => exact (Kd.V_reads' HO405.out).2.1)
                 (case side3 => exact kC (Kd.R_reads' HO408.out).2.2)
                 (case side4 => exact (Kd.R_reads' HO408.out).2.1)
                 rintro e w42 ⟨v412, v415, rfl, ho0, ho1, hb⟩
                 refine ⟨_, rfl, ?_⟩
                 have n0_ := k0 (Kd.V_mono (Kd.V_told (Kd.V_told (Kd.V_old (kV HO405.out) hb) (Kd.S_base ho0)) (Kd.R_base ho1)) (fun _ h_ => h_.1))
                 have n1_ := k0 (Kd.R_elder' (kR HO408.out) (Kd.R_base ho1) hb)
                 have n2_ := k0 (Kd.S_lower (Kd.S_new' ho0 (Kd.R_lt (kR HO408.out))) (below_size (kW HB.out)))
                 have n3_ := k0 (Kd.R_lower (Kd.R_new' ho1 (Kd.R_lt (kR HO408.out))) (below_size (kW HB.out)))
                 have n4_ := k0 (kb BK409.out hb)
                 have n5_ := k0 (kb BK418.out hb)
                 have n6_ := k0 (below_step (kW HB.out) hb)
                 clear HO405 HO408 BK409 BK418 HB
                 have HO405 := n0_
                 have HO408 := n1_
                 have HO413 := n2_
                 have HO416 := n3_
                 have BK409 := n4_
                 have BK418 := n5_
                 have HB := n6_
                 clear n0_ n1_ n2_ n3_ n4_ n5_ n6_
                 (try clear hb)
                 (try clear hb2)
                 (try clear hk)
                 (try clear hi)
                 (try clear ho0)
                 (try clear ho1)
                 refine hK.out _ _ ⟨(blk_cell BK409.out 0).trans rfl, (blk_cell BK409.out 1).trans rfl⟩ (fun hHeld => ?_)
                 clear hK K
                 refine norm_ (a' := ?_) ?_ ?_
                 rotate_left
                 ·show Act.put _ (some 31) _ = _
                  simp only [Act.put, List.setIfInBounds_toArray, List.set_cons_zero, List.set_cons_succ, i64_w, i32_w]
                  rfl
                 refine kP 5 26 11 319 HT_.out ?_
                 refine kP 6 32 11 383 HT_.out ?_
                 refine kP 7 33 11 511 HT_.out ?_
                 exact norm_ (by simp only [putAll, Act.put, List.setIfInBounds_toArray, List.set_cons_zero, List.set_cons_succ]) (hCont (v412, v415, gb418) _ ⟨hHeld, (by (with_reducible repeat (first | apply Kd.V_alloc | apply Kd.V_drewN | apply Kd.V_drew)); exact Kd.V_mono HO405.out (fun _ hk => ⟨hk.1.1.1.1, ⟨hk.1.2, ⟨hk.2, ⟨hk.1.1.1.2, hk.1.1.2⟩⟩⟩⟩)), (by (with_reducible repeat (first | apply Kd.R_alloc | apply Kd.R_drewN | apply Kd.R_drew)); exact Kd.R_mono HO408.out (fun _ hk => hk.2)), (by (with_reducible repeat (first | apply Kd.S_alloc | apply Kd.S_drewN | apply Kd.S_drew)); exact Kd.S_mono HO413.out (fun _ hk => ⟨hk.2, hk.1⟩)), (by (with_reducible repeat (first | apply Kd.R_alloc | apply Kd.R_drewN | apply Kd.R_drew)); exact Kd.R_mono HO416.out (fun _ hk => hk.2)), (kB BK409.out), (kB BK418.out), GW418.out, GE418.out, NB409_418.out, NB418_409.out, (kW HB.out)⟩)
               ·skip
                refine box_step ?hg (N := 5) ?hd (cs := #[.slice none 0 0, .slice none 0 0]) (t := 28) ?hr ?_; (case hd => rfl); (case hg => rfl); (case hr => first | (go_simp; done) | (go_simp; rfl))
                intro gb418 hg w40 hbox hb
                have n0_ := k0 (Kd.V_below (Kd.V_elderB (kV HO405.out) gb418 (Nat.le_of_eq hg.symm)) hb)
                have n1_ := k0 (Kd.R_below (kR HO408.out) hb)
                have n2_ := k0 (kb BK409.out hb)
                have n3_ := k0 (below_step (kW HB.out) hb)
                have n4_ := k0 (hbox)
                have n5_ := k0 (kY HB.out hg)
                have n6_ := k0 (kY HB.out hg)
                have n7_ := k0 ((by rw [hg]; exact Nat.ne_of_lt (blk_lt (g := gb409) (o := .cells #[.slice Ao35 t403.length co35, .slice Ao37 t406.length co37] 28 (0, 0)) (kB BK409.out)) : gb409 ≠ gb418))
                have n8_ := k0 ((by rw [hg]; exact Nat.ne_of_gt (blk_lt (g := gb409) (o := .cells #[.slice Ao35 t403.length co35, .slice Ao37 t406.length co37] 28 (0, 0)) (kB BK409.out)) : gb418 ≠ gb409))
                clear HO405 HO408 BK409 HB
                have HO405 := n0_
                have HO408 := n1_
                have BK409 := n2_
                have HB := n3_
                have BK418 := n4_
                have GW418 := n5_
                have GE418 := n6_
                have NB409_418 := n7_
                have NB418_409 := n8_
                clear n0_ n1_ n2_ n3_ n4_ n5_ n6_ n7_ n8_
                clear hb hbox hg
                refine hK.out _ _ ⟨(blk_cell BK409.out 0).trans rfl, (blk_cell BK409.out 1).trans rfl⟩ (fun hHeld => ?_)
                clear hK K
                refine norm_ (a' := ?_) ?_ ?_
                rotate_left
                ·show Act.put _ (some 5) _ = _
                 simp only [Act.put, List.setIfInBounds_toArray, List.set_cons_zero, List.set_cons_succ, i64_w, i32_w]
                 rfl
                refine one_ (i := 3) (N := some 30) (bt 11 271) rfl rfl (one_of HT_.out (by kernel_rfl)) (by decide) (fun K hK => ?_)
                refine goes_ Try.func34 (by kernel_rfl) rfl #[.slice A0 l0.length c0, .int .i64 (wrap64 (1 + t402))] (by rfl) rfl rfl (by (try simp only [List.map_toArray, List.map_cons, List.map_nil]); first | done | rfl | (simp only [List.length_drop, List.length_take]; rfl)) ?_
                with_reducible refine (spec_MakeNum.calls k _ _ l0 (wrap64 (1 + t402)) t410 _ ?side1 ?side2 A5.out).mono ?_
                (case side1 => exact kC (Kd.C_below HR0.out HB.out))
                (case side2 => exact HC0.out)
                rintro e w41 ⟨rfl, hb⟩
                refine ⟨_, rfl, ?_⟩
                have n0_ := k0 (Kd.V_below (kV HO405.out) hb)
                have n1_ := k0 (Kd.R_below (kR HO408.out) hb)
                have n2_ := k0 (kb BK409.out hb)
                have n3_ := k0 (kb BK418.out hb)
                have n4_ := k0 (below_step (kW HB.out) hb)
                clear HO405 HO408 BK409 BK418 HB
                have HO405 := n0_
                have HO408 := n1_
                have BK409 := n2_
                have BK418 := n3_
                have HB := n4_
                clear n0_ n1_ n2_ n3_ n4_
                (try clear hb)
                (try clear hb2)
                (try clear hk)
                (try clear hi)
                refine hK.out _ _ ⟨(blk_cell BK409.out 0).trans rfl, (blk_cell BK409.out 1).trans rfl⟩ (fun hHeld => ?_)
                clear hK K
                refine norm_ (a' := ?_) ?_ ?_
                rotate_left
                ·show Act.put _ (some 30) _ = _
                 simp only [Act.put, List.setIfInBounds_toArray, List.set_cons_zero, List.set_cons_succ, i64_w, i32_w]
                 rfl
                refine one_ (i := 4) (N := some 31) (bt 11 287) rfl rfl (one_of HT_.out (by kernel_rfl)) (by decide) (fun K hK => ?_)
                refine goes_ Try.func29 (by kernel_rfl) rfl #[.agg #[.slice Ao35 t403.length co35, .slice Ao37 t406.length co37], .int .i64 t410, .int .i64 5] (by rfl) rfl rfl (by (try simp only [List.map_toArray, List.map_cons, List.map_nil]); first | done | rfl | (simp only [List.length_drop, List.length_take]; rfl)) ?_
                with_reducible refine (impl_Mint.calls k _ _ t403 _ _ t406 t410 5 t411 t414 true _ ?side1 ?side2 ?side3 ?side4 A6.out).mono ?_
                (case side1 => exact kC (Kd.V_reads' HO405.out).2.2)
                (case side2 => exact (Kd.V_reads' HO405.out).2.1)
                (case side3 => exact kC (Kd.R_reads' HO408.out).2.2)
                (case side4 => exact (Kd.R_reads' HO408.out).2.1)
                rintro e w42 ⟨v412, v415, rfl, ho0, ho1, hb⟩
                refine ⟨_, rfl, ?_⟩
                have n0_ := k0 (Kd.V_mono (Kd.V_told (Kd.V_told (Kd.V_old (kV HO405.out) hb) (Kd.S_base ho0)) (Kd.R_base ho1)) (fun _ h_ => h_.1))
                have n1_ := k0 (Kd.R_elder' (kR HO408.out) (Kd.R_base ho1) hb)
                have n2_ := k0 (Kd.S_lower (Kd.S_new' ho0 (Kd.R_lt (kR HO408.out))) (below_size (kW HB.out)))
                have n3_ := k0 (Kd.R_lower (Kd.R_new' ho1 (Kd.R_lt (kR HO408.out))) (below_size (kW HB.out)))
                have n4_ := k0 (kb BK409.out hb)
                have n5_ := k0 (kb BK418.out hb)
                have n6_ := k0 (below_step (kW HB.out) hb)
                clear HO405 HO408 BK409 BK418 HB
                have HO405 := n0_
                have HO408 := n1_
                have HO413 := n2_
                have HO416 := n3_
                have BK409 := n4_
                have BK418 := n5_
                have HB := n6_
                clear n0_ n1_ n2_ n3_ n4_ n5_ n6_
                (try clear hb)
                (try clear hb2)
                (try clear hk)
                (try clear hi)
                (try clear ho0)
                (try clear ho1)
                refine hK.out _ _ ⟨(blk_cell BK409.out 0).trans rfl, (blk_cell BK409.out 1).trans rfl⟩ (fun hHeld => ?_)
                clear hK K
                refine norm_ (a' := ?_) ?_ ?_
                rotate_left
                ·show Act.put _ (some 31) _ = _
                 simp only [Act.put, List.setIfInBounds_toArray, List.set_cons_zero, List.set_cons_succ, i64_w, i32_w]
                 rfl
                refine kP 5 26 11 319 HT_.out ?_
                refine kP 6 32 11 383 HT_.out ?_
                refine kP 7 33 11 511 HT_.out ?_
                exact norm_ (by simp only [putAll, Act.put, List.setIfInBounds_toArray, List.set_cons_zero, List.set_cons_succ]) (hCont (v412, v415, gb418) _ ⟨hHeld, (by (with_reducible repeat (first | apply Kd.V_alloc | apply Kd.V_drewN | apply Kd.V_drew)); exact Kd.V_mono HO405.out (fun _ hk => ⟨hk.1.1.1.1, ⟨hk.1.2, ⟨hk.2, ⟨hk.1.1.1.2, hk.1.1.2⟩⟩⟩⟩)), (by (with_reducible repeat (first | apply Kd.R_alloc | apply Kd.R_drewN | apply Kd.R_drew)); exact Kd.R_mono HO408.out (fun _ hk => hk.2)), (by (with_reducible repeat (first | apply Kd.S_alloc | apply Kd.S_drewN | apply Kd.S_drew)); exact Kd.S_mono HO413.out (fun _ hk => ⟨hk.2, hk.1⟩)), (by (with_reducible repeat (first | apply Kd.R_alloc | apply Kd.R_drewN | apply Kd.R_drew)); exact Kd.R_mono HO416.out (fun _ hk => hk.2)), (kB BK409.out), (kB BK418.out), GW418.out, GE418.out, NB409_418.out, NB418_409.out, (kW HB.out)⟩)
              rintro ⟨v412, v415, gb418⟩ w43 ⟨hS_, h0_, h1_, h2_, h3_, h4_, h5_, h6_, h7_, h8_, h9_, h10_⟩
              have n0_ : Aside0 (Kd.V (Kd.slice 3 (Kd.int .i64)) 23 w43 w.heap.size (fun k_ => some k_ ≠ (.slice Ao37 t406.length co37 : Value).ownBlock ∧ some k_ ≠ (v412 : Value).ownBlock ∧ some k_ ≠ (v415 : Value).ownBlock ∧ k_ ≠ gb409 ∧ k_ ≠ gb418) (.slice Ao35 t403.length co35) t403) := ⟨h0_⟩
              have n1_ : Aside0 (Kd.R (Kd.int .i64) 3 w43 w.heap.size (fun k_ => some k_ ≠ (v415 : Value).ownBlock) (.slice Ao37 t406.length co37) t406) := ⟨h1_⟩
              have n2_ : Aside0 (Kd.S (Kd.slice 3 (Kd.int .i64)) 23 w43 w.heap.size (fun k_ => some k_ ≠ (.slice Ao37 t406.length co37 : Value).ownBlock ∧ some k_ ≠ (v415 : Value).ownBlock) v412 t411) := ⟨h2_⟩
              have n3_ : Aside0 (Kd.R (Kd.int .i64) 3 w43 w.heap.size (fun k_ => some k_ ≠ (.slice Ao37 t406.length co37 : Value).ownBlock) v415 t414) := ⟨h3_⟩
              have n4_ : Aside0 (w43.heap[gb409]? = some (.cells #[.slice Ao35 t403.length co35, .slice Ao37 t406.length co37] 28 (0, 0))) := ⟨h4_⟩
              have n5_ : Aside0 (w43.heap[gb418]? = some (.cells #[.slice none 0 0, .slice none 0 0] 28 (0, 0))) := ⟨h5_⟩
              have n6_ : Aside0 (w.heap.size ≤ gb418) := ⟨h6_⟩
              have n7_ : Aside0 (w.heap.size ≤ gb418) := ⟨h7_⟩
              have n8_ : Aside0 (gb409 ≠ gb418) := ⟨h8_⟩
              have n9_ : Aside0 (gb418 ≠ gb409) := ⟨h9_⟩
              have n10_ : Aside0 (Below w.heap.size w w43) := ⟨h10_⟩
              clear HO405 HO408 BK409 HB
              clear h0_ h1_ h2_ h3_ h4_ h5_ h6_ h7_ h8_ h9_ h10_
              have HO405 := n0_
              have HO408 := n1_
              have HO413 := n2_
              have HO416 := n3_
              have BK409 := n4_
              have BK418 := n5_
              have GW418 := n6_
              have GE418 := n7_
              have NB409_418 := n8_
              have NB418_409 := n9_
              have HB := n10_
              clear n0_ n1_ n2_ n3_ n4_ n5_ n6_ n7_ n8_ n9_ n10_
              have hHeld : w43.cell? ⟨gb409, 0, none⟩ = some (.slice Ao35 t403.length co35) ∧ w43.cell? ⟨gb409, 1, none⟩ = some (.slice Ao37 t406.length co37) := hS_
              obtain ⟨Ao44, co44, eo44⟩ := Kd.S_slice HO413.out
              (first | subst eo44 | (injection eo44 with f1_ f2_ f3_; have f4_ := f1_.symm; have f5_ := f3_.symm; clear f1_ f2_ f3_; subst f4_; subst f5_))
              obtain ⟨Ao46, co46, eo46⟩ := Kd.R_slice HO416.out
              (first | subst eo46 | (injection eo46 with f1_ f2_ f3_; have f4_ := f1_.symm; have f5_ := f3_.symm; clear f1_ f2_ f3_; subst f4_; subst f5_))
              refine norm_ (a' := ?_) ?_ ?_
              rotate_left
              ·simp only [putAll, Act.put, List.setIfInBounds_toArray, List.set_cons_zero, List.set_cons_succ]
               rfl
              refine one_ (i := 9) (N := none) (bt 11 1023) rfl rfl (one_of HT_.out (by kernel_rfl)) (by decide) (fun K hK => ?_)
              have hs45 : w43.cell? ⟨gb418, 0, none⟩ = some (.slice none 0 0) := (blk_cell BK418.out 0).trans rfl
              have hfs45 := blk_frozen BK418.out 0
              have hns45_0 := NB409_418.out
              have hms45_0 := NB418_409.out
              have hs47 : w43.cell? ⟨gb418, 1, none⟩ = some (.slice none 0 0) := (blk_cell BK418.out 1).trans rfl
              have hfs47 := blk_frozen BK418.out 1
              have hns47_0 := NB409_418.out
              have hms47_0 := NB418_409.out
              refine skip_ (w1 := ?_) (by rfl) rfl ?_ ?_
              rotate_left
              ·go_simp
               rfl
              refine hK.out _ _ ⟨((cell_far (p := ⟨gb418, _, none⟩) NB409_418.out _).trans (((cell_far (p := ⟨gb418, _, none⟩) NB409_418.out _).trans (hHeld.1)))), ((cell_far (p := ⟨gb418, _, none⟩) NB409_418.out _).trans (((cell_far (p := ⟨gb418, _, none⟩) NB409_418.out _).trans (hHeld.2))))⟩ (fun hHeld => ?_)
              clear hK K
              refine kP 10 6 11 2047 HT_.out ?_
              refine done_ (done_of HT_.out (by kernel_rfl)) ?_
              try go_wp2
              have n0_ : Aside0 (Kd.V (Kd.slice 3 (Kd.int .i64)) 23 ((w43.setCell ⟨gb418, 0, none⟩ (.slice Ao44 t411.length co44)).setCell ⟨gb418, 1, none⟩ (.slice Ao46 t414.length co46)) w.heap.size (fun k_ => some k_ ≠ (.slice Ao37 t406.length co37 : Value).ownBlock ∧ some k_ ≠ (.slice Ao44 t411.length co44 : Value).ownBlock ∧ some k_ ≠ (.slice Ao46 t414.length co46 : Value).ownBlock ∧ k_ ≠ gb409 ∧ k_ ≠ gb418) (.slice Ao35 t403.length co35) t403) := ⟨by (with_reducible repeat (first | apply Kd.V_alloc | apply Kd.V_drewN | apply Kd.V_drew)); exact Kd.V_mono (Kd.V_far (p := ⟨gb418, 1, none⟩) (Kd.V_far (p := ⟨gb418, 0, none⟩) (Kd.V_mono HO405.out (fun k_ hk => (⟨hk, hk.2.2.2.2⟩ : _ ∧ k_ ≠ gb418))) (fun _ hk => hk.2) (.slice Ao44 t411.length co44)) (fun _ hk => hk.2) (.slice Ao46 t414.length co46)) (fun _ hk => ⟨hk.1.1, ⟨hk.1.2.1, ⟨hk.1.2.2.1, ⟨hk.1.2.2.2.1, hk.1.2.2.2.2⟩⟩⟩⟩)⟩
              have n1_ : Aside0 (Kd.R (Kd.int .i64) 3 ((w43.setCell ⟨gb418, 0, none⟩ (.slice Ao44 t411.length co44)).setCell ⟨gb418, 1, none⟩ (.slice Ao46 t414.length co46)) w.heap.size (fun k_ => some k_ ≠ (.slice Ao46 t414.length co46 : Value).ownBlock) (.slice Ao37 t406.length co37) t406) := ⟨by (with_reducible repeat (first | apply Kd.R_alloc | apply Kd.R_drewN | apply Kd.R_drew)); exact Kd.R_mono (Kd.R_far (p := ⟨gb418, 1, none⟩) (Kd.R_far (p := ⟨gb418, 0, none⟩) (Kd.R_types HO408.out BK418.out (by decide)) (fun _ hk => hk.2) (.slice Ao44 t411.length co44)) (fun _ hk => hk.2) (.slice Ao46 t414.length co46)) (fun _ hk => hk.1)⟩
              have n2_ : Aside0 (Kd.S (Kd.slice 3 (Kd.int .i64)) 23 ((w43.setCell ⟨gb418, 0, none⟩ (.slice Ao44 t411.length co44)).setCell ⟨gb418, 1, none⟩ (.slice Ao46 t414.length co46)) w.heap.size (fun k_ => some k_ ≠ (.slice Ao37 t406.length co37 : Value).ownBlock ∧ some k_ ≠ (.slice Ao46 t414.length co46 : Value).ownBlock) (.slice Ao44 t411.length co44) t411) := ⟨by (with_reducible repeat (first | apply Kd.S_alloc | apply Kd.S_drewN | apply Kd.S_drew)); exact Kd.S_mono (Kd.S_far (p := ⟨gb418, 1, none⟩) (Kd.S_far (p := ⟨gb418, 0, none⟩) (Kd.S_types HO413.out BK418.out (by decide)) (fun _ hk => hk.2) (.slice Ao44 t411.length co44)) (fun _ hk => hk.2) (.slice Ao46 t414.length co46)) (fun _ hk => ⟨hk.1.1, hk.1.2⟩)⟩
              have n3_ : Aside0 (Kd.R (Kd.int .i64) 3 ((w43.setCell ⟨gb418, 0, none⟩ (.slice Ao44 t411.length co44)).setCell ⟨gb418, 1, none⟩ (.slice Ao46 t414.length co46)) w.heap.size (fun k_ => some k_ ≠ (.slice Ao37 t406.length co37 : Value).ownBlock) (.slice Ao46 t414.length co46) t414) := ⟨by (with_reducible repeat (first | apply Kd.R_alloc | apply Kd.R_drewN | apply Kd.R_drew)); exact Kd.R_mono (Kd.R_far (p := ⟨gb418, 1, none⟩) (Kd.R_far (p := ⟨gb418, 0, none⟩) (Kd.R_types HO416.out BK418.out (by decide)) (fun _ hk => hk.2) (.slice Ao44 t411.length co44)) (fun _ hk => hk.2) (.slice Ao46 t414.length co46)) (fun _ hk => hk.1)⟩
              have n4_ : Aside0 (((w43.setCell ⟨gb418, 0, none⟩ (.slice Ao44 t411.length co44)).setCell ⟨gb418, 1, none⟩ (.slice Ao46 t414.length co46)).heap[gb409]? = some (.cells #[.slice Ao35 t403.length co35, .slice Ao37 t406.length co37] 28 (0, 0))) := ⟨by (with_reducible repeat first | apply k1 | apply k2 | apply k3); refine blk_far ?_ NB409_418.out _; (with_reducible repeat first | apply k1 | apply k2 | apply k3); refine blk_far ?_ NB409_418.out _; (with_reducible repeat first | apply k1 | apply k2 | apply k3); exact BK409.out⟩
              have n5_ : Aside0 (((w43.setCell ⟨gb418, 0, none⟩ (.slice Ao44 t411.length co44)).setCell ⟨gb418, 1, none⟩ (.slice Ao46 t414.length co46)).heap[gb418]? = some (.cells #[.slice Ao44 t411.length co44, .slice Ao46 t414.length co46] 28 (0, 0))) := ⟨by (with_reducible repeat first | apply k1 | apply k2 | apply k3); refine blk_put (cs := #[.slice Ao44 t411.length co44, .slice none 0 0]) ?_ 1 _ rfl; (with_reducible repeat first | apply k1 | apply k2 | apply k3); refine blk_put (cs := #[.slice none 0 0, .slice none 0 0]) ?_ 0 _ rfl; (with_reducible repeat first | apply k1 | apply k2 | apply k3); exact BK418.out⟩
              have n6_ : Aside0 (Below w.heap.size w ((w43.setCell ⟨gb418, 0, none⟩ (.slice Ao44 t411.length co44)).setCell ⟨gb418, 1, none⟩ (.slice Ao46 t414.length co46))) := ⟨by repeat (first | (with_reducible first | exact HB.out | apply below_alloc | apply pw_below_drewN | apply below_drew1 | refine below_set ?_ GE409.out | refine below_set ?_ GE418.out) | exact HB.out)⟩
              (try clear HO405)
              (try clear HO408)
              (try clear HO413)
              (try clear HO416)
              (try clear BK409)
              (try clear BK418)
              (try clear HB)
              generalize ((w43.setCell ⟨gb418, 0, none⟩ (.slice Ao44 t411.length co44)).setCell ⟨gb418, 1, none⟩ (.slice Ao46 t414.length co46)) = w48 at n0_ n1_ n2_ n3_ n4_ n5_ n6_ ⊢
              have HO405 := n0_
              have HO408 := n1_
              have HO413 := n2_
              have HO416 := n3_
              have BK409 := n4_
              have BK418 := n5_
              have HB := n6_
              clear n0_ n1_ n2_ n3_ n4_ n5_ n6_
              have n0_ := k0 (Kd.V_drew HO405.out)
              have n1_ := k0 (Kd.R_drew HO408.out)
              have n2_ := k0 (Kd.S_drew HO413.out)
              have n3_ := k0 (Kd.R_drew HO416.out)
              have n4_ := k0 (blk_drew BK409.out)
              have n5_ := k0 (blk_drew BK418.out)
              have n6_ := k0 (below_drew1 HB.out)
              clear HO405 HO408 HO413 HO416 BK409 BK418 HB
              have HO405 := n0_
              have HO408 := n1_
              have HO413 := n2_
              have HO416 := n3_
              have BK409 := n4_
              have BK418 := n5_
              have HB := n6_
              clear n0_ n1_ n2_ n3_ n4_ n5_ n6_
              refine start_ (n := 11) (S := fun w' => w'.cell? ⟨gb409, 0, none⟩ = some (.slice Ao35 t403.length co35) ∧ w'.cell? ⟨gb409, 1, none⟩ = some (.slice Ao37 t406.length co37)) (ds := []) #[false, false, false, false, false, false, false, false, false, false, false] (by kernel_rfl) rfl rfl ⟨(blk_cell BK409.out 0).trans rfl, (blk_cell BK409.out 1).trans rfl⟩ (fun hHeld => ?_); refine with_tabW laws_FnMeet.tab6 laws_FnMeet.bits6 (fun HT_ HW_ => ?_)
              generalize w48.drew = w49 at HO405 HO408 HO413 HO416 BK409 BK418 HB hHeld ⊢
              refine kP 1 36 11 2 HT_.out ?_
              refine kP 2 37 11 6 HT_.out ?_
              refine take_ (i := 0) (N := some 35) (v := ?_) (a' := ?_) (bt 11 7) rfl rfl (take_ofW HT_.out HW_.out (by kernel_rfl)) (fun _ _ _ h => h) (Or.inl ⟨by rfl, ?_⟩) hHeld ?_ ?_
              rotate_left
              ·rintro w' ⟨s0, s1⟩
               go_simp
               with_reducible rfl
              rotate_left
              ·simp only [Act.put, List.setIfInBounds_toArray, List.set_cons_zero, List.set_cons_succ, i64_w, i32_w]
               rfl
              refine join_ (σ := Value × Value × Nat) 2 #[true, true, true, true, true, true, true, true, true, false, false] (fun s_ => [(38, .int .i64 t419), (39, .tuple #[.agg #[s_.1, s_.2.1], .bool true]), (7, .pointer (some ⟨s_.2.2, 0, none⟩)), (34, .tuple #[.agg #[s_.1, s_.2.1], .bool true]), (40, .agg #[s_.1, s_.2.1]), (41, .bool true)]) (fun s_ w' => (w'.cell? ⟨gb409, 0, none⟩ = some (.slice Ao35 t403.length co35) ∧ w'.cell? ⟨gb409, 1, none⟩ = some (.slice Ao37 t406.length co37)) ∧ (Kd.V (Kd.slice 3 (Kd.int .i64)) 23 w' w.heap.size (fun k_ => some k_ ≠ (.slice Ao37 t406.length co37 : Value).ownBlock ∧ some k_ ≠ (.slice Ao44 t411.length co44 : Value).ownBlock ∧ some k_ ≠ (.slice Ao46 t414.length co46 : Value).ownBlock ∧ some k_ ≠ (s_.1 : Value).ownBlock ∧ some k_ ≠ (s_.2.1 : Value).ownBlock ∧ k_ ≠ gb409 ∧ k_ ≠ gb418 ∧ k_ ≠ s_.2.2) (.slice Ao35 t403.length co35) t403) ∧ (Kd.R (Kd.int .i64) 3 w' w.heap.size (fun k_ => some k_ ≠ (.slice Ao46 t414.length co46 : Value).ownBlock ∧ some k_ ≠ (s_.2.1 : Value).ownBlock) (.slice Ao37 t406.length co37) t406) ∧ (Kd.S (Kd.slice 3 (Kd.int .i64)) 23 w' w.heap.size (fun k_ => some k_ ≠ (.slice Ao37 t406.length co37 : Value).ownBlock ∧ some k_ ≠ (.slice Ao46 t414.length co46 : Value).ownBlock ∧ some k_ ≠ (s_.1 : Value).ownBlock ∧ some k_ ≠ (s_.2.1 : Value).ownBlock) (.slice Ao44 t411.length co44) t411) ∧ (Kd.R (Kd.int .i64) 3 w' w.heap.size (fun k_ => some k_ ≠ (.slice Ao37 t406.length co37 : Value).ownBlock ∧ some k_ ≠ (s_.2.1 : Value).ownBlock) (.slice Ao46 t414.length co46) t414) ∧ (Kd.S (Kd.slice 3 (Kd.int .i64)) 23 w' w.heap.size (fun k_ => some k_ ≠ (.slice Ao37 t406.length co37 : Value).ownBlock ∧ some k_ ≠ (.slice Ao44 t411.length co44 : Value).ownBlock ∧ some k_ ≠ (.slice Ao46 t414.length co46 : Value).ownBlock ∧ some k_ ≠ (s_.2.1 : Value).ownBlock) s_.1 t420) ∧ (Kd.R (Kd.int .i64) 3 w' w.heap.size (fun k_ => some k_ ≠ (.slice Ao37 t406.length co37 : Value).ownBlock ∧ some k_ ≠ (.slice Ao46 t414.length co46 : Value).ownBlock) s_.2.1 t423) ∧ (w'.heap[gb409]? = some (.cells #[.slice Ao35 t403.length co35, .slice Ao37 t406.length co37] 28 (0, 0))) ∧ (w'.heap[gb418]? = some (.cells #[.slice Ao44 t411.length co44, .slice Ao46 t414.length co46] 28 (0, 0))) ∧ (w'.heap[s_.2.2]? = some (.cells #[.slice none 0 0, .slice none 0 0] 28 (0, 0))) ∧ (w.heap.size ≤ s_.2.2) ∧ (w.heap.size ≤ s_.2.2) ∧ (gb409 ≠ s_.2.2) ∧ (s_.2.2 ≠ gb409) ∧ (gb418 ≠ s_.2.2) ∧ (s_.2.2 ≠ gb418) ∧ (Below w.heap.size w w')) ?_ ?_
              rotate_left
              ·intro hCont
               refine two_ (i := 3) (j := 8) (Ni := some 38) (Nj := some 7) #[true, true, true, true, false, false, false, false, false, false, false] #[true, true, true, false, false, false, false, false, true, false, false] rfl rfl rfl rfl (two_of HT_.out (by kernel_rfl)) (by decide) (by decide) (fun K hK => ?_) (fun K hK => ?_)
               ·skip
                refine goes_ Try.func34 (by kernel_rfl) rfl #[.slice A0 l0.length c0, .int .i64 (wrap64 (1 + t402))] (by rfl) rfl rfl (by (try simp only [List.map_toArray, List.map_cons, List.map_nil]); first | done | rfl | (simp only [List.length_drop, List.length_take]; rfl)) ?_
                with_reducible refine (spec_MakeNum.calls k _ _ l0 (wrap64 (1 + t402)) t419 _ ?side1 ?side2 A7.out).mono ?_
                (case side1 => exact kC (Kd.C_below HR0.out HB.out))
                (case side2 => exact HC0.out)
                rintro e w50 ⟨rfl, hb⟩
                refine ⟨_, rfl, ?_⟩
                have n0_ := k0 (Kd.V_below (kV HO405.out) hb)
                have n1_ := k0 (Kd.R_below (kR HO408.out) hb)
                have n2_ := k0 (Kd.S_below (kS HO413.out) hb)
                have n3_ := k0 (Kd.R_below (kR HO416.out) hb)
                have n4_ := k0 (kb BK409.out hb)
                have n5_ := k0 (kb BK418.out hb)
                have n6_ := k0 (below_step (kW HB.out) hb)
                clear HO405 HO408 HO413 HO416 BK409 BK418 HB
                have HO405 := n0_
                have HO408 := n1_
                have HO413 := n2_
                have HO416 := n3_
                have BK409 := n4_
                have BK418 := n5_
                have HB := n6_
                clear n0_ n1_ n2_ n3_ n4_ n5_ n6_
                (try clear hb)
                (try clear hb2)
                (try clear hk)
                (try clear hi)
                refine hK.out _ _ ⟨(blk_cell BK409.out 0).trans rfl, (blk_cell BK409.out 1).trans rfl⟩ (fun hHeld => ?_)
                clear hK K
                refine norm_ (a' := ?_) ?_ ?_
                rotate_left
                ·show Act.put _ (some 38) _ = _
                 simp only [Act.put, List.setIfInBounds_toArray, List.set_cons_zero, List.set_cons_succ, i64_w, i32_w]
                 rfl
                refine two_ (i := 4) (j := 8) (Ni := some 39) (Nj := some 7) #[true, true, true, true, true, false, false, false, false, false, false] #[true, true, true, true, false, false, false, false, true, false, false] rfl rfl rfl rfl (two_of HT_.out (by kernel_rfl)) (by decide) (by decide) (fun K hK => ?_) (fun K hK => ?_)
                ·skip
                 refine goes_ Try.func29 (by kernel_rfl) rfl #[.agg #[.slice Ao35 t403.length co35, .slice Ao37 t406.length co37], .int .i64 t419, .int .i64 9] (by rfl) rfl rfl (by (try simp only [List.map_toArray, List.map_cons, List.map_nil]); first | done | rfl | (simp only [List.length_drop, List.length_take]; rfl)) ?_
                 with_reducible refine (impl_Mint.calls k _ _ t403 _ _ t406 t419 9 t420 t423 true _ ?side1 ?side2 ?side3 ?side4 A8.out).mono ?_
                 (case side1 => exact kC (Kd.V_reads' HO405.out).2.2)
                 (case side2 => exact (Kd.V_reads' HO405.out).2.1)
                 (case side3 => exact kC (Kd.R_reads' HO408.out).2.2)
                 (case side4 => exact (Kd.R_reads' HO408.out).2.1)
                 rintro e w51 ⟨v421, v424, rfl, ho0, ho1, hb⟩
                 refine ⟨_, rfl, ?_⟩
                 have n0_ := k0 (Kd.V_mono (Kd.V_told (Kd.V_told (Kd.V_old (kV HO405.out) hb) (Kd.S_base ho0)) (Kd.R_base ho1)) (fun _ h_ => h_.1))
                 have n1_ := k0 (Kd.R_elder' (kR HO408.out) (Kd.R_base ho1) hb)
                 have n2_ := k0 (Kd.S_mono (Kd.S_told (Kd.S_told (Kd.S_old (kS HO413.out) hb) (Kd.S_base ho0)) (Kd.R_base ho1)) (fun _ h_ => h_.1))
                 have n3_ := k0 (Kd.R_elder' (kR HO416.out) (Kd.R_base ho1) hb)
                 have n4_ := k0 (Kd.S_lower (Kd.S_new' (Kd.S_new' (Kd.S_new' ho0 (Kd.R_lt (kR HO408.out))) (Kd.S_lt (kS HO413.out))) (Kd.R_lt (kR HO416.out))) (below_size (kW HB.out)))
                 have n5_ := k0 (Kd.R_lower (Kd.R_new' (Kd.R_new' ho1 (Kd.R_lt (kR HO408.out))) (Kd.R_lt (kR HO416.out))) (below_size (kW HB.out)))
                 have n6_ := k0 (kb BK409.out hb)
                 have n7_ := k0 (kb BK418.out hb)
                 have n8_ := k0 (below_step (kW HB.out) hb)
                 clear HO405 HO408 HO413 HO416 BK409 BK418 HB
                 have HO405 := n0_
                 have HO408 := n1_
                 have HO413 := n2_
                 have HO416 := n3_
                 have HO422 := n4_
                 have HO425 := n5_
                 have BK409 := n6_
                 have BK418 := n7_
                 have HB := n8_
                 clear n0_ n1_ n2_ n3_ n4_ n5_ n6_ n7_ n8_
                 (try clear hb)
                 (try clear hb2)
                 (try clear hk)
                 (try clear hi)
                 (try clear ho0)
                 (try clear ho1)
                 refine hK.out _ _ ⟨(blk_cell BK409.out 0).trans rfl, (blk_cell BK409.out 1).trans rfl⟩ (fun hHeld => ?_)
                 clear hK K
                 refine norm_ (a' := ?_) ?_ ?_
                 rotate_left
                 ·show Act.put _ (some 39) _ = _
                  simp only [Act.put, List.setIfInBounds_toArray, List.set_cons_zero, List.set_cons_succ, i64_w, i32_w]
                  rfl
                 refine kP 5 34 11 63 HT_.out ?_
                 refine kP 6 40 11 127 HT_.out ?_
                 refine kP 7 41 11 255 HT_.out ?_
                 refine one_ (i := 8) (N := some 7) (bt 11 511) rfl rfl (one_of HT_.out (by kernel_rfl)) (by decide) (fun K hK => ?_)
                 refine box_step ?hg (N := 7) ?hd (cs := #[.slice none 0 0, .slice none 0 0]) (t := 28) ?hr ?_; (case hd => rfl); (case hg => rfl); (case hr => first | (go_simp; done) | (go_simp; rfl))
                 intro gb427 hg w52 hbox hb
                 have n0_ := k0 (Kd.V_below (Kd.V_elderB (kV HO405.out) gb427 (Nat.le_of_eq hg.symm)) hb)
                 have n1_ := k0 (Kd.R_below (kR HO408.out) hb)
                 have n2_ := k0 (Kd.S_below (kS HO413.out) hb)
                 have n3_ := k0 (Kd.R_below (kR HO416.out) hb)
                 have n4_ := k0 (Kd.S_below (kS HO422.out) hb)
                 have n5_ := k0 (Kd.R_below (kR HO425.out) hb)
                 have n6_ := k0 (kb BK409.out hb)
                 have n7_ := k0 (kb BK418.out hb)
                 have n8_ := k0 (below_step (kW HB.out) hb)
                 have n9_ := k0 (hbox)
                 have n10_ := k0 (kY HB.out hg)
                 have n11_ := k0 (kY HB.out hg)
                 have n12_ := k0 ((by rw [hg]; exact Nat.ne_of_lt (blk_lt (g := gb409) (o := .cells #[.slice Ao35 t403.length co35, .slice Ao37 t406.length co37] 28 (0, 0)) (kB BK409.out)) : gb409 ≠ gb427))
                 have n13_ := k0 ((by rw [hg]; exact Nat.ne_of_gt (blk_lt (g := gb409) (o := .cells #[.slice Ao35 t403.length co35, .slice Ao37 t406.length co37] 28 (0, 0)) (kB BK409.out)) : gb427 ≠ gb409))
                 have n14_ := k0 ((by rw [hg]; exact Nat.ne_of_lt (blk_lt (g := gb418) (o := .cells #[.slice Ao44 t411.length co44, .slice Ao46 t414.length co46] 28 (0, 0)) (kB BK418.out)) : gb418 ≠ gb427))
                 have n15_ := k0 ((by rw [hg]; exact Nat.ne_of_gt (blk_lt (g := gb418) (o := .cells #[.slice Ao44 t411.length co44, .slice Ao46 t414.length co46] 28 (0, 0)) (kB BK418.out)) : gb427 ≠ gb418))
                 clear HO405 HO408 HO413 HO416 HO422 HO425 BK409 BK418 HB
                 have HO405 := n0_
                 have HO408 := n1_
                 have HO413 := n2_
                 have HO416 := n3_
                 have HO422 := n4_
                 have HO425 := n5_
                 have BK409 := n6_
                 have BK418 := n7_
                 have HB := n8_
                 have BK427 := n9_
                 have GW427 := n10_
                 have GE427 := n11_
                 have NB409_427 := n12_
                 have NB427_409 := n13_
                 have NB418_427 := n14_
                 have NB427_418 := n15_
                 clear n0_ n1_ n2_ n3_ n4_ n5_ n6_ n7_ n8_ n9_ n10_ n11_ n12_ n13_ n14_ n15_
                 clear hb hbox hg
                 refine hK.out _ _ ⟨(blk_cell BK409.out 0).trans rfl, (blk_cell BK409.out 1).trans rfl⟩ (fun hHeld => ?_)
                 clear hK K
                 refine norm_ (a' := ?_) ?_ ?_
                 rotate_left
                 ·show Act.put _ (some 7) _ = _
                  simp only [Act.put, List.setIfInBounds_toArray, List.set_cons_zero, List.set_cons_succ, i64_w, i32_w]
                  rfl
                 exact norm_ (by simp only [putAll, Act.put, List.setIfInBounds_toArray, List.set_cons_zero, List.set_cons_succ]) (hCont (v421, v424, gb427) _ ⟨hHeld, (by (with_reducible repeat (first | apply Kd.V_alloc | apply Kd.V_drewN | apply Kd.V_drew)); exact Kd.V_mono HO405.out (fun _ hk => ⟨hk.1.1.1.1, ⟨hk.1.1.1.2.1, ⟨hk.1.1.1.2.2.1, ⟨hk.1.1.2, ⟨hk.1.2, ⟨hk.1.1.1.2.2.2.1, ⟨hk.1.1.1.2.2.2.2, hk.2⟩⟩⟩⟩⟩⟩⟩)), (kR HO408.out), (by (with_reducible repeat (first | apply Kd.S_alloc | apply Kd.S_drewN | apply Kd.S_drew)); exact Kd.S_mono HO413.out (fun _ hk => ⟨hk.1.1.1, ⟨hk.1.1.2, ⟨hk.1.2, hk.2⟩⟩⟩)), (kR HO416.out), (by (with_reducible repeat (first | apply Kd.S_alloc | apply Kd.S_drewN | apply Kd.S_drew)); exact Kd.S_mono HO422.out (fun _ hk => ⟨hk.1.1.2, ⟨hk.1.2, ⟨hk.2, hk.1.1.1⟩⟩⟩)), (by (with_reducible repeat (first | apply Kd.R_alloc | apply Kd.R_drewN | apply Kd.R_drew)); exact Kd.R_mono HO425.out (fun _ hk => ⟨hk.1.2, hk.2⟩)), (kB BK409.out), (kB BK418.out), (kB BK427.out), GW427.out, GE427.out, NB409_427.out, NB427_409.out, NB418_427.out, NB427_418.out, (kW HB.out)⟩)
                ·skip
                 refine box_step ?hg (N := 7) ?hd (cs := #[.slice none 0 0, .slice none 0 0]) (t := 28) ?hr ?_; (case hd => rfl); (case hg => rfl); (case hr => first | (go_simp; done) | (go_simp; rfl))
                 intro gb427 hg w51 hbox hb
                 have n0_ := k0 (Kd.V_below (Kd.V_elderB (kV HO405.out) gb427 (Nat.le_of_eq hg.symm)) hb)
                 have n1_ := k0 (Kd.R_below (kR HO408.out) hb)
                 have n2_ := k0 (Kd.S_below (kS HO413.out) hb)
                 have n3_ := k0 (Kd.R_below (kR HO416.out) hb)
                 have n4_ := k0 (kb BK409.out hb)
                 have n5_ := k0 (kb BK418.out hb)
                 have n6_ := k0 (below_step (kW HB.out) hb)
                 have n7_ := k0 (hbox)
                 have n8_ := k0 (kY HB.out hg)
                 have n9_ := k0 (kY HB.out hg)
                 have n10_ := k0 ((by rw [hg]; exact Nat.ne_of_lt (blk_lt (g := gb409) (o := .cells #[.slice Ao35 t403.length co35, .slice Ao37 t406.length co37] 28 (0, 0)) (kB BK409.out)) : gb409 ≠ gb427))
                 have n11_ := k0 ((by rw [hg]; exact Nat.ne_of_gt (blk_lt (g := gb409) (o := .cells #[.slice Ao35 t403.length co35, .slice Ao37 t406.length co37] 28 (0, 0)) (kB BK409.out)) : gb427 ≠ gb409))
                 have n12_ := k0 ((by rw [hg]; exact Nat.ne_of_lt (blk_lt (g := gb418) (o := .cells #[.slice Ao44 t411.length co44, .slice Ao46 t414.length co46] 28 (0, 0)) (kB BK418.out)) : gb418 ≠ gb427))
                 have n13_ := k0 ((by rw [hg]; exact Nat.ne_of_gt (blk_lt (g := gb418) (o := .cells #[.slice Ao44 t411.length co44, .slice Ao46 t414.length co46] 28 (0, 0)) (kB BK418.out)) : gb427 ≠ gb418))
                 clear HO405 HO408 HO413 HO416 BK409 BK418 HB
                 have HO405 := n0_
                 have HO408 := n1_
                 have HO413 := n2_
                 have HO416 := n3_
                 have BK409 := n4_
                 have BK418 := n5_
                 have HB := n6_
                 have BK427 := n7_
                 have GW427 := n8_
                 have GE427 := n9_
                 have NB409_427 := n10_
                 have NB427_409 := n11_
                 have NB418_427 := n12_
                 have NB427_418 := n13_
                 clear n0_ n1_ n2_ n3_ n4_ n5_ n6_ n7_ n8_ n9_ n10_ n11_ n12_ n13_
                 clear hb hbox hg
                 refine hK.out _ _ ⟨(blk_cell BK409.out 0).trans rfl, (blk_cell BK409.out 1).trans rfl⟩ (fun hHeld => ?_)
                 clear hK K
                 refine norm_ (a' := ?_) ?_ ?_
                 rotate_left
                 ·show Act.put _ (some 7) _ = _
                  simp only [Act.put, List.setIfInBounds_toArray, List.set_cons_zero, List.set_cons_succ, i64_w, i32_w]
                  rfl
                 refine one_ (i := 4) (N := some 39) (bt 11 287) rfl rfl (one_of HT_.out (by kernel_rfl)) (by decide) (fun K hK => ?_)
                 refine goes_ Try.func29 (by kernel_rfl) rfl #[.agg #[.slice Ao35 t403.length co35, .slice Ao37 t406.length co37], .int .i64 t419, .int .i64 9] (by rfl) rfl rfl (by (try simp only [List.map_toArray, List.map_cons, List.map_nil]); first | done | rfl | (simp only [List.length_drop, List.length_take]; rfl)) ?_
                 with_reducible refine (impl_Mint.calls k _ _ t403 _ _ t406 t419 9 t420 t423 true _ ?side1 ?side2 ?side3 ?side4 A8.out).mono ?_
                 (case side1 => exact kC (Kd.V_reads' HO405.out).2.2)
                 (case side2 => exact (Kd.V_reads' HO405.out).2.1)
                 (case side3 => exact kC (Kd.R_reads' HO408.out).2.2)
                 (case side4 => exact (Kd.R_reads' HO408.out).2.1)
                 rintro e w52 ⟨v421, v424, rfl, ho0, ho1, hb⟩
                 refine ⟨_, rfl, ?_⟩
                 have n0_ := k0 (Kd.V_mono (Kd.V_told (Kd.V_told (Kd.V_old (kV HO405.out) hb) (Kd.S_base ho0)) (Kd.R_base ho1)) (fun _ h_ => h_.1))
                 have n1_ := k0 (Kd.R_elder' (kR HO408.out) (Kd.R_base ho1) hb)
                 have n2_ := k0 (Kd.S_mono (Kd.S_told (Kd.S_told (Kd.S_old (kS HO413.out) hb) (Kd.S_base ho0)) (Kd.R_base ho1)) (fun _ h_ => h_.1))
                 have n3_ := k0 (Kd.R_elder' (kR HO416.out) (Kd.R_base ho1) hb)
                 have n4_ := k0 (Kd.S_lower (Kd.S_new' (Kd.S_new' (Kd.S_new' ho0 (Kd.R_lt (kR HO408.out))) (Kd.S_lt (kS HO413.out))) (Kd.R_lt (kR HO416.out))) (below_size (kW HB.out)))
                 have n5_ := k0 (Kd.R_lower (Kd.R_new' (Kd.R_new' ho1 (Kd.R_lt (kR HO408.out))) (Kd.R_lt (kR HO416.out))) (below_size (kW HB.out)))
                 have n6_ := k0 (kb BK409.out hb)
                 have n7_ := k0 (kb BK418.out hb)
                 have n8_ := k0 (kb BK427.out hb)
                 have n9_ := k0 (below_step (kW HB.out) hb)
                 clear HO405 HO408 HO413 HO416 BK409 BK418 BK427 HB
                 have HO405 := n0_
                 have HO408 := n1_
                 have HO413 := n2_
                 have HO416 := n3_
                 have HO422 := n4_
                 have HO425 := n5_
                 have BK409 := n6_
                 have BK418 := n7_
                 have BK427 := n8_
                 have HB := n9_
                 clear n0_ n1_ n2_ n3_ n4_ n5_ n6_ n7_ n8_ n9_
                 (try clear hb)
                 (try clear hb2)
                 (try clear hk)
                 (try clear hi)
                 (try clear ho0)
                 (try clear ho1)
                 refine hK.out _ _ ⟨(blk_cell BK409.out 0).trans rfl, (blk_cell BK409.out 1).trans rfl⟩ (fun hHeld => ?_)
                 clear hK K
                 refine norm_ (a' := ?_) ?_ ?_
                 rotate_left
                 ·show Act.put _ (some 39) _ = _
                  simp only [Act.put, List.setIfInBounds_toArray, List.set_cons_zero, List.set_cons_succ, i64_w, i32_w]
                  rfl
                 refine kP 5 34 11 319 HT_.out ?_
                 refine kP 6 40 11 383 HT_.out ?_
                 refine kP 7 41 11 511 HT_.out ?_
                 exact norm_ (by simp only [putAll, Act.put, List.setIfInBounds_toArray, List.set_cons_zero, List.set_cons_succ]) (hCont (v421, v424, gb427) _ ⟨hHeld, (by (with_reducible repeat (first | apply Kd.V_alloc | apply Kd.V_drewN | apply Kd.V_drew)); exact Kd.V_mono HO405.out (fun _ hk => ⟨hk.1.1.1.1, ⟨hk.1.1.1.2.1, ⟨hk.1.1.1.2.2.1, ⟨hk.1.2, ⟨hk.2, ⟨hk.1.1.1.2.2.2.1, ⟨hk.1.1.1.2.2.2.2, hk.1.1.2⟩⟩⟩⟩⟩⟩⟩)), (kR HO408.out), (by (with_reducible repeat (first | apply Kd.S_alloc | apply Kd.S_drewN | apply Kd.S_drew)); exact Kd.S_mono HO413.out (fun _ hk => ⟨hk.1.1.1, ⟨hk.1.1.2, ⟨hk.1.2, hk.2⟩⟩⟩)), (kR HO416.out), (by (with_reducible repeat (first | apply Kd.S_alloc | apply Kd.S_drewN | apply Kd.S_drew)); exact Kd.S_mono HO422.out (fun _ hk => ⟨hk.1.1.2, ⟨hk.1.2, ⟨hk.2, hk.1.1.1⟩⟩⟩)), (by (with_reducible repeat (first | apply Kd.R_alloc | apply Kd.R_drewN | apply Kd.R_drew)); exact Kd.R_mono HO425.out (fun _ hk => ⟨hk.1.2, hk.2⟩)), (kB BK409.out), (kB BK418.out), (kB BK427.out), GW427.out, GE427.out, NB409_427.out, NB427_409.out, NB418_427.out, NB427_418.out, (kW HB.out)⟩)
               ·skip
                refine box_step ?hg (N := 7) ?hd (cs := #[.slice none 0 0, .slice none 0 0]) (t := 28) ?hr ?_; (case hd => rfl); (case hg => rfl); (case hr => first | (go_simp; done) | (go_simp; rfl))
                intro gb427 hg w50 hbox hb
                have n0_ := k0 (Kd.V_below (Kd.V_elderB (kV HO405.out) gb427 (Nat.le_of_eq hg.symm)) hb)
                have n1_ := k0 (Kd.R_below (kR HO408.out) hb)
                have n2_ := k0 (Kd.S_below (kS HO413.out) hb)
                have n3_ := k0 (Kd.R_below (kR HO416.out) hb)
                have n4_ := k0 (kb BK409.out hb)
                have n5_ := k0 (kb BK418.out hb)
                have n6_ := k0 (below_step (kW HB.out) hb)
                have n7_ := k0 (hbox)
                have n8_ := k0 (kY HB.out hg)
                have n9_ := k0 (kY HB.out hg)
                have n10_ := k0 ((by rw [hg]; exact Nat.ne_of_lt (blk_lt (g := gb409) (o := .cells #[.slice Ao35 t403.length co35, .slice Ao37 t406.length co37] 28 (0, 0)) (kB BK409.out)) : gb409 ≠ gb427))
                have n11_ := k0 ((by rw [hg]; exact Nat.ne_of_gt (blk_lt (g := gb409) (o := .cells #[.slice Ao35 t403.length co35, .slice Ao37 t406.length co37] 28 (0, 0)) (kB BK409.out)) : gb427 ≠ gb409))
                have n12_ := k0 ((by rw [hg]; exact Nat.ne_of_lt (blk_lt (g := gb418) (o := .cells #[.slice Ao44 t411.length co44, .slice Ao46 t414.length co46] 28 (0, 0)) (kB BK418.out)) : gb418 ≠ gb427))
                have n13_ := k0 ((by rw [hg]; exact Nat.ne_of_gt (blk_lt (g := gb418) (o := .cells #[.slice Ao44 t411.length co44, .slice Ao46 t414.length co46] 28 (0, 0)) (kB BK418.out)) : gb427 ≠ gb418))
                clear HO405 HO408 HO413 HO416 BK409 BK418 HB
                have HO405 := n0_
                have HO408 := n1_
                have HO413 := n2_
                have HO416 := n3_
                have BK409 := n4_
                have BK418 := n5_
                have HB := n6_
                have BK427 := n7_
                have GW427 := n8_
                have GE427 := n9_
                have NB409_427 := n10_
                have NB427_409 := n11_
                have NB418_427 := n12_
                have NB427_418 := n13_
                clear n0_ n1_ n2_ n3_ n4_ n5_ n6_ n7_ n8_ n9_ n10_ n11_ n12_ n13_
                clear hb hbox hg
                refine hK.out _ _ ⟨(blk_cell BK409.out 0).trans rfl, (blk_cell BK409.out 1).trans rfl⟩ (fun hHeld => ?_)
                clear hK K
                refine norm_ (a' := ?_) ?_ ?_
                rotate_left
                ·show Act.put _ (some 7) _ = _
                 simp only [Act.put, List.setIfInBounds_toArray, List.set_cons_zero, List.set_cons_succ, i64_w, i32_w]
                 rfl
                refine one_ (i := 3) (N := some 38) (bt 11 271) rfl rfl (one_of HT_.out (by kernel_rfl)) (by decide) (fun K hK => ?_)
                refine goes_ Try.func34 (by kernel_rfl) rfl #[.slice A0 l0.length c0, .int .i64 (wrap64 (1 + t402))] (by rfl) rfl rfl (by (try simp only [List.map_toArray, List.map_cons, List.map_nil]); first | done | rfl | (simp only [List.length_drop, List.length_take]; rfl)) ?_
                with_reducible refine (spec_MakeNum.calls k _ _ l0 (wrap64 (1 + t402)) t419 _ ?side1 ?side2 A7.out).mono ?_
                (case side1 => exact kC (Kd.C_below HR0.out HB.out))
                (case side2 => exact HC0.out)
                rintro e w51 ⟨rfl, hb⟩
                refine ⟨_, rfl, ?_⟩
                have n0_ := k0 (Kd.V_below (kV HO405.out) hb)
                have n1_ := k0 (Kd.R_below (kR HO408.out) hb)
                have n2_ := k0 (Kd.S_below (kS HO413.out) hb)
                have n3_ := k0 (Kd.R_below (kR HO416.out) hb)
                have n4_ := k0 (kb BK409.out hb)
                have n5_ := k0 (kb BK418.out hb)
                have n6_ := k0 (kb BK427.out hb)
                have n7_ := k0 (below_step (kW HB.out) hb)
                clear HO405 HO408 HO413 HO416 BK409 BK418 BK427 HB
                have HO405 := n0_
                have HO408 := n1_
                have HO413 := n2_
                have HO416 := n3_
                have BK409 := n4_
                have BK418 := n5_
                have BK427 := n6_
                have HB := n7_
                clear n0_ n1_ n2_ n3_ n4_ n5_ n6_ n7_
                (try clear hb)
                (try clear hb2)
                (try clear hk)
                (try clear hi)
                refine hK.out _ _ ⟨(blk_cell BK409.out 0).trans rfl, (blk_cell BK409.out 1).trans rfl⟩ (fun hHeld => ?_)
                clear hK K
                refine norm_ (a' := ?_) ?_ ?_
                rotate_left
                ·show Act.put _ (some 38) _ = _
                 simp only [Act.put, List.setIfInBounds_toArray, List.set_cons_zero, List.set_cons_succ, i64_w, i32_w]
                 rfl
                refine one_ (i := 4) (N := some 39) (bt 11 287) rfl rfl (one_of HT_.out (by kernel_rfl)) (by decide) (fun K hK => ?_)
                refine goes_ Try.func29 (by kernel_rfl) rfl #[.agg #[.slice Ao35 t403.length co35, .slice Ao37 t406.length co37], .int .i64 t419, .int .i64 9] (by rfl) rfl rfl (by (try simp only [List.map_toArray, List.map_cons, List.map_nil]); first | done | rfl | (simp only [List.length_drop, List.length_take]; rfl)) ?_
                with_reducible refine (impl_Mint.calls k _ _ t403 _ _ t406 t419 9 t420 t423 true _ ?side1 ?side2 ?side3 ?side4 A8.out).mono ?_
                (case side1 => exact kC (Kd.V_reads' HO405.out).2.2)
                (case side2 => exact (Kd.V_reads' HO405.out).2.1)
                (case side3 => exact kC (Kd.R_reads' HO408.out).2.2)
                (case side4 => exact (Kd.R_reads' HO408.out).2.1)
                rintro e w52 ⟨v421, v424, rfl, ho0, ho1, hb⟩
                refine ⟨_, rfl, ?_⟩
                have n0_ := k0 (Kd.V_mono (Kd.V_told (Kd.V_told (Kd.V_old (kV HO405.out) hb) (Kd.S_base ho0)) (Kd.R_base ho1)) (fun _ h_ => h_.1))
                have n1_ := k0 (Kd.R_elder' (kR HO408.out) (Kd.R_base ho1) hb)
                have n2_ := k0 (Kd.S_mono (Kd.S_told (Kd.S_told (Kd.S_old (kS HO413.out) hb) (Kd.S_base ho0)) (Kd.R_base ho1)) (fun _ h_ => h_.1))
                have n3_ := k0 (Kd.R_elder' (kR HO416.out) (Kd.R_base ho1) hb)
                have n4_ := k0 (Kd.S_lower (Kd.S_new' (Kd.S_new' (Kd.S_new' ho0 (Kd.R_lt (kR HO408.out))) (Kd.S_lt (kS HO413.out))) (Kd.R_lt (kR HO416.out))) (below_size (kW HB.out)))
                have n5_ := k0 (Kd.R_lower (Kd.R_new' (Kd.R_new' ho1 (Kd.R_lt (kR HO408.out))) (Kd.R_lt (kR HO416.out))) (below_size (kW HB.out)))
                have n6_ := k0 (kb BK409.out hb)
                have n7_ := k0 (kb BK418.out hb)
                have n8_ := k0 (kb BK427.out hb)
                have n9_ := k0 (below_step (kW HB.out) hb)
                clear HO405 HO408 HO413 HO416 BK409 BK418 BK427 HB
                have HO405 := n0_
                have HO408 := n1_
                have HO413 := n2_
                have HO416 := n3_
                have HO422 := n4_
                have HO425 := n5_
                have BK409 := n6_
                have BK418 := n7_
                have BK427 := n8_
                have HB := n9_
                clear n0_ n1_ n2_ n3_ n4_ n5_ n6_ n7_ n8_ n9_
                (try clear hb)
                (try clear hb2)
                (try clear hk)
                (try clear hi)
                (try clear ho0)
                (try clear ho1)
                refine hK.out _ _ ⟨(blk_cell BK409.out 0).trans rfl, (blk_cell BK409.out 1).trans rfl⟩ (fun hHeld => ?_)
                clear hK K
                refine norm_ (a' := ?_) ?_ ?_
                rotate_left
                ·show Act.put _ (some 39) _ = _
                 simp only [Act.put, List.setIfInBounds_toArray, List.set_cons_zero, List.set_cons_succ, i64_w, i32_w]
                 rfl
                refine kP 5 34 11 319 HT_.out ?_
                refine kP 6 40 11 383 HT_.out ?_
                refine kP 7 41 11 511 HT_.out ?_
                exact norm_ (by simp only [putAll, Act.put, List.setIfInBounds_toArray, List.set_cons_zero, List.set_cons_succ]) (hCont (v421, v424, gb427) _ ⟨hHeld, (by (with_reducible repeat (first | apply Kd.V_alloc | apply Kd.V_drewN | apply Kd.V_drew)); exact Kd.V_mono HO405.out (fun _ hk => ⟨hk.1.1.1.1, ⟨hk.1.1.1.2.1, ⟨hk.1.1.1.2.2.1, ⟨hk.1.2, ⟨hk.2, ⟨hk.1.1.1.2.2.2.1, ⟨hk.1.1.1.2.2.2.2, hk.1.1.2⟩⟩⟩⟩⟩⟩⟩)), (kR HO408.out), (by (with_reducible repeat (first | apply Kd.S_alloc | apply Kd.S_drewN | apply Kd.S_drew)); exact Kd.S_mono HO413.out (fun _ hk => ⟨hk.1.1.1, ⟨hk.1.1.2, ⟨hk.1.2, hk.2⟩⟩⟩)), (kR HO416.out), (by (with_reducible repeat (first | apply Kd.S_alloc | apply Kd.S_drewN | apply Kd.S_drew)); exact Kd.S_mono HO422.out (fun _ hk => ⟨hk.1.1.2, ⟨hk.1.2, ⟨hk.2, hk.1.1.1⟩⟩⟩)), (by (with_reducible repeat (first | apply Kd.R_alloc | apply Kd.R_drewN | apply Kd.R_drew)); exact Kd.R_mono HO425.out (fun _ hk => ⟨hk.1.2, hk.2⟩)), (kB BK409.out), (kB BK418.out), (kB BK427.out), GW427.out, GE427.out, NB409_427.out, NB427_409.out, NB418_427.out, NB427_418.out, (kW HB.out)⟩)
              rintro ⟨v421, v424, gb427⟩ w53 ⟨hS_, h0_, h1_, h2_, h3_, h4_, h5_, h6_, h7_, h8_, h9_, h10_, h11_, h12_, h13_, h14_, h15_⟩
              have n0_ : Aside0 (Kd.V (Kd.slice 3 (Kd.int .i64)) 23 w53 w.heap.size (fun k_ => some k_ ≠ (.slice Ao37 t406.length co37 : Value).ownBlock ∧ some k_ ≠ (.slice Ao44 t411.length co44 : Value).ownBlock ∧ some k_ ≠ (.slice Ao46 t414.length co46 : Value).ownBlock ∧ some k_ ≠ (v421 : Value).ownBlock ∧ some k_ ≠ (v424 : Value).ownBlock ∧ k_ ≠ gb409 ∧ k_ ≠ gb418 ∧ k_ ≠ gb427) (.slice Ao35 t403.length co35) t403) := ⟨h0_⟩
              have n1_ : Aside0 (Kd.R (Kd.int .i64) 3 w53 w.heap.size (fun k_ => some k_ ≠ (.slice Ao46 t414.length co46 : Value).ownBlock ∧ some k_ ≠ (v424 : Value).ownBlock) (.slice Ao37 t406.length co37) t406) := ⟨h1_⟩
              have n2_ : Aside0 (Kd.S (Kd.slice 3 (Kd.int .i64)) 23 w53 w.heap.size (fun k_ => some k_ ≠ (.slice Ao37 t406.length co37 : Value).ownBlock ∧ some k_ ≠ (.slice Ao46 t414.length co46 : Value).ownBlock ∧ some k_ ≠ (v421 : Value).ownBlock ∧ some k_ ≠ (v424 : Value).ownBlock) (.slice Ao44 t411.length co44) t411) := ⟨h2_⟩
              have n3_ : Aside0 (Kd.R (Kd.int .i64) 3 w53 w.heap.size (fun k_ => some k_ ≠ (.slice Ao37 t406.length co37 : Value).ownBlock ∧ some k_ ≠ (v424 : Value).ownBlock) (.slice Ao46 t414.length co46) t414) := ⟨h3_⟩
              have n4_ : Aside0 (Kd.S (Kd.slice 3 (Kd.int .i64)) 23 w53 w.heap.size (fun k_ => some k_ ≠ (.slice Ao37 t406.length co37 : Value).ownBlock ∧ some k_ ≠ (.slice Ao44 t411.length co44 : Value).ownBlock ∧ some k_ ≠ (.slice Ao46 t414.length co46 : Value).ownBlock ∧ some k_ ≠ (v424 : Value).ownBlock) v421 t420) := ⟨h4_⟩
              have n5_ : Aside0 (Kd.R (Kd.int .i64) 3 w53 w.heap.size (fun k_ => some k_ ≠ (.slice Ao37 t406.length co37 : Value).ownBlock ∧ some k_ ≠ (.slice Ao46 t414.length co46 : Value).ownBlock) v424 t423) := ⟨h5_⟩
              have n6_ : Aside0 (w53.heap[gb409]? = some (.cells #[.slice Ao35 t403.length co35, .slice Ao37 t406.length co37] 28 (0, 0))) := ⟨h6_⟩
              have n7_ : Aside0 (w53.heap[gb418]? = some (.cells #[.slice Ao44 t411.length co44, .slice Ao46 t414.length co46] 28 (0, 0))) := ⟨h7_⟩
              have n8_ : Aside0 (w53.heap[gb427]? = some (.cells #[.slice none 0 0, .slice none 0 0] 28 (0, 0))) := ⟨h8_⟩
              have n9_ : Aside0 (w.heap.size ≤ gb427) := ⟨h9_⟩
              have n10_ : Aside0 (w.heap.size ≤ gb427) := ⟨h10_⟩
              have n11_ : Aside0 (gb409 ≠ gb427) := ⟨h11_⟩
              have n12_ : Aside0 (gb427 ≠ gb409) := ⟨h12_⟩
              have n13_ : Aside0 (gb418 ≠ gb427) := ⟨h13_⟩
              have n14_ : Aside0 (gb427 ≠ gb418) := ⟨h14_⟩
              have n15_ : Aside0 (Below w.heap.size w w53) := ⟨h15_⟩
              clear HO405 HO408 HO413 HO416 BK409 BK418 HB
              clear h0_ h1_ h2_ h3_ h4_ h5_ h6_ h7_ h8_ h9_ h10_ h11_ h12_ h13_ h14_ h15_
              have HO405 := n0_
              have HO408 := n1_
              have HO413 := n2_
              have HO416 := n3_
              have HO422 := n4_
              have HO425 := n5_
              have BK409 := n6_
              have BK418 := n7_
              have BK427 := n8_
              have GW427 := n9_
              have GE427 := n10_
              have NB409_427 := n11_
              have NB427_409 := n12_
              have NB418_427 := n13_
              have NB427_418 := n14_
              have HB := n15_
              clear n0_ n1_ n2_ n3_ n4_ n5_ n6_ n7_ n8_ n9_ n10_ n11_ n12_ n13_ n14_ n15_
              have hHeld : w53.cell? ⟨gb409, 0, none⟩ = some (.slice Ao35 t403.length co35) ∧ w53.cell? ⟨gb409, 1, none⟩ = some (.slice Ao37 t406.length co37) := hS_
              obtain ⟨Ao54, co54, eo54⟩ := Kd.S_slice HO422.out
              (first | subst eo54 | (injection eo54 with f1_ f2_ f3_; have f4_ := f1_.symm; have f5_ := f3_.symm; clear f1_ f2_ f3_; subst f4_; subst f5_))
              obtain ⟨Ao56, co56, eo56⟩ := Kd.R_slice HO425.out
              (first | subst eo56 | (injection eo56 with f1_ f2_ f3_; have f4_ := f1_.symm; have f5_ := f3_.symm; clear f1_ f2_ f3_; subst f4_; subst f5_))
              refine norm_ (a' := ?_) ?_ ?_
              rotate_left
              ·simp only [putAll, Act.put, List.setIfInBounds_toArray, List.set_cons_zero, List.set_cons_succ]
               rfl
              refine one_ (i := 9) (N := none) (bt 11 1023) rfl rfl (one_of HT_.out (by kernel_rfl)) (by decide) (fun K hK => ?_)
              have hs55 : w53.cell? ⟨gb427, 0, none⟩ = some (.slice none 0 0) := (blk_cell BK427.out 0).trans rfl
              have hfs55 := blk_frozen BK427.out 0
              have hns55_0 := NB409_427.out
              have hns55_1 := NB418_427.out
              have hms55_0 := NB427_409.out
              have hms55_1 := NB427_418.out
              have hs57 : w53.cell? ⟨gb427, 1, none⟩ = some (.slice none 0 0) := (blk_cell BK427.out 1).trans rfl
              have hfs57 := blk_frozen BK427.out 1
              have hns57_0 := NB409_427.out
              have hns57_1 := NB418_427.out
              have hms57_0 := NB427_409.out
              have hms57_1 := NB427_418.out
              refine skip_ (w1 := ?_) (by rfl) rfl ?_ ?_
              rotate_left
              ·go_simp
               rfl
              refine hK.out _ _ ⟨((cell_far (p := ⟨gb427, _, none⟩) NB409_427.out _).trans (((cell_far (p := ⟨gb427, _, none⟩) NB409_427.out _).trans (hHeld.1)))), ((cell_far (p := ⟨gb427, _, none⟩) NB409_427.out _).trans (((cell_far (p := ⟨gb427, _, none⟩) NB409_427.out _).trans (hHeld.2))))⟩ (fun hHeld => ?_)
              clear hK K
              refine kP 10 8 11 2047 HT_.out ?_
              refine done_ (done_of HT_.out (by kernel_rfl)) ?_
              have hnb58 := NB418_409.out
              have hnc58 := NB409_418.out
              have hnb59 := NB418_427.out
              have hnc59 := NB427_418.out
              have hcz60_0 : w53.cell? ⟨gb418, 0, none⟩ = some (.slice Ao44 t411.length co44) := kx BK418.out
              have hcz60_1 : w53.cell? ⟨gb418, 1, none⟩ = some (.slice Ao46 t414.length co46) := kx BK418.out
              have hfz60_0 := blk_frozen BK418.out 0
              have hfz60_1 := blk_frozen BK418.out 1
              have hnb61 := NB427_409.out
              have hnc61 := NB409_427.out
              have hcz62_0 : w53.cell? ⟨gb427, 0, none⟩ = some (.slice none 0 0) := kx BK427.out
              have hcz62_1 : w53.cell? ⟨gb427, 1, none⟩ = some (.slice none 0 0) := kx BK427.out
              have hfz62_0 := blk_frozen BK427.out 0
              have hfz62_1 := blk_frozen BK427.out 1
              try go_wp2_with (first | ((with_reducible refine gate_callee (f := 25) rfl ?_); refine kG (some 45) Try.func25 #[.agg #[.slice Ao44 t411.length co44, .slice Ao46 t414.length co46], .agg #[.slice Ao54 t420.length co54, .slice Ao56 t423.length co56]] ?_; (with_reducible refine (impl_Meet.calls k _ _ t411 _ _ t414 _ _ t420 _ _ t423 t428 t431 true _ ?side1 ?side2 ?side3 ?side4 ?side5 ?side6 ?side7 ?side8 A9.out).mono ?_); (case side1 => refine (Kd.S_reads' (e := 23) (base := w.heap.size) (ok := fun k_ => (some k_ ≠ (.slice Ao37 t406.length co37 : Value).ownBlock ∧ (some k_ ≠ (.slice Ao46 t414.length co46 : Value).ownBlock ∧ (some k_ ≠ (.slice Ao54 t420.length co54 : Value).ownBlock ∧ some k_ ≠ (.slice Ao56 t423.length co56 : Value).ownBlock)))) (n := t411.length) (c := co44) ?_).2.2; exact (by (with_reducible repeat (first | apply Kd.S_alloc | apply Kd.S_drewN | apply Kd.S_drew)); exact (Kd.S_mono (Kd.S_far (p := ⟨gb427, 1, none⟩) (Kd.S_far (p := ⟨gb427, 0, none⟩) (Kd.S_types HO413.out BK427.out (by decide)) (fun _ hk => hk.2) (.slice Ao54 t420.length co54)) (fun _ hk => hk.2) (.slice Ao56 t423.length co56)) (fun _ h_ => h_.1)))); (case side2 => exact (Kd.S_reads' HO413.out).2.1); (case side3 => refine (Kd.R_reads' (e := 3) (base := w.heap.size) (ok := fun k_ => (some k_ ≠ (.slice Ao37 t406.length co37 : Value).ownBlock ∧ some k_ ≠ (.slice Ao56 t423.length co56 : Value).ownBlock)) (n := t414.length) (c := co46) ?_).2.2; exact (by (with_reducible repeat (first | apply Kd.R_alloc | apply Kd.R_drewN | apply Kd.R_drew)); exact (Kd.R_mono (Kd.R_far (p := ⟨gb427, 1, none⟩) (Kd.R_far (p := ⟨gb427, 0, none⟩) (Kd.R_types HO416.out BK427.out (by decide)) (fun _ hk => hk.2) (.slice Ao54 t420.length co54)) (fun _ hk => hk.2) (.slice Ao56 t423.length co56)) (fun _ h_ => h_.1)))); (case side4 => exact (Kd.R_reads' HO416.out).2.1); (case side5 => refine (Kd.S_reads' (e := 23) (base := w.heap.size) (ok := fun k_ => (some k_ ≠ (.slice Ao37 t406.length co37 : Value).ownBlock ∧ (some k_ ≠ (.slice Ao44 t411.length co44 : Value).ownBlock ∧ (some k_ ≠ (.slice Ao46 t414.length co46 : Value).ownBlock ∧ some k_ ≠ (.slice Ao56 t423.length co56 : Value).ownBlock)))) (n := t420.length) (c := co54) ?_).2.2; exact (by (with_reducible repeat (first | apply Kd.S_alloc | apply Kd.S_drewN | apply Kd.S_drew)); exact (Kd.S_mono (Kd.S_far (p := ⟨gb427, 1, none⟩) (Kd.S_far (p := ⟨gb427, 0, none⟩) (Kd.S_types HO422.out BK427.out (by decide)) (fun _ hk => hk.2) (.slice Ao54 t420.length co54)) (fun _ hk => hk.2) (.slice Ao56 t423.length co56)) (fun _ h_ => h_.1)))); (case side6 => exact (Kd.S_reads' HO422.out).2.1); (case side7 => refine (Kd.R_reads' (e := 3) (base := w.heap.size) (ok := fun k_ => (some k_ ≠ (.slice Ao37 t406.length co37 : Value).ownBlock ∧ some k_ ≠ (.slice Ao46 t414.length co46 : Value).ownBlock)) (n := t423.length) (c := co56) ?_).2.2; exact (by (with_reducible repeat (first | apply Kd.R_alloc | apply Kd.R_drewN | apply Kd.R_drew)); exact (Kd.R_mono (Kd.R_far (p := ⟨gb427, 1, none⟩) (Kd.R_far (p := ⟨gb427, 0, none⟩) (Kd.R_types HO425.out BK427.out (by decide)) (fun _ hk => hk.2) (.slice Ao54 t420.length co54)) (fun _ hk => hk.2) (.slice Ao56 t423.length co56)) (fun _ h_ => h_.1)))); (case side8 => exact (Kd.R_reads' HO425.out).2.1); rintro e w63 ⟨v429, v432, rfl, ho0, ho1, hb⟩; refine ⟨_, rfl, ?_⟩; have n0_ := k0 (Kd.V_mono (Kd.V_told (Kd.V_told (Kd.V_old (by (with_reducible repeat (first | apply Kd.V_alloc | apply Kd.V_drewN | apply Kd.V_drew)); exact (Kd.V_mono (Kd.V_far (p := ⟨gb427, 1, none⟩) (Kd.V_far (p := ⟨gb427, 0, none⟩) (Kd.V_mono HO405.out (fun k_ hk => (⟨hk, hk.2.2.2.2.2.2.2⟩ : _ ∧ k_ ≠ gb427))) (fun _ hk => hk.2) (.slice Ao54 t420.length co54)) (fun _ hk => hk.2) (.slice Ao56 t423.length co56)) (fun _ h_ => h_.1))) hb) (Kd.S_base ho0)) (Kd.R_base ho1)) (fun _ h_ => h_.1)); have n1_ := k0 (Kd.R_elder' (by (with_reducible repeat (first | apply Kd.R_alloc | apply Kd.R_drewN | apply Kd.R_drew)); exact (Kd.R_mono (Kd.R_far (p := ⟨gb427, 1, none⟩) (Kd.R_far (p := ⟨gb427, 0, none⟩) (Kd.R_types HO408.out BK427.out (by decide)) (fun _ hk => hk.2) (.slice Ao54 t420.length co54)) (fun _ hk => hk.2) (.slice Ao56 t423.length co56)) (fun _ h_ => h_.1))) (Kd.R_base ho1) hb); have n2_ := k0 (Kd.S_mono (Kd.S_told (Kd.S_told (Kd.S_old (by (with_reducible repeat (first | apply Kd.S_alloc | apply Kd.S_drewN | apply Kd.S_drew)); exact (Kd.S_mono (Kd.S_far (p := ⟨gb427, 1, none⟩) (Kd.S_far (p := ⟨gb427, 0, none⟩) (Kd.S_types HO413.out BK427.out (by decide)) (fun _ hk => hk.2) (.slice Ao54 t420.length co54)) (fun _ hk => hk.2) (.slice Ao56 t423.length co56)) (fun _ h_ => h_.1))) hb) (Kd.S_base ho0)) (Kd.R_base ho1)) (fun _ h_ => h_.1)); have n3_ := k0 (Kd.R_elder' (by (with_reducible repeat (first | apply Kd.R_alloc | apply Kd.R_drewN | apply Kd.R_drew)); exact (Kd.R_mono (Kd.R_far (p := ⟨gb427, 1, none⟩) (Kd.R_far (p := ⟨gb427, 0, none⟩) (Kd.R_types HO416.out BK427.out (by decide)) (fun _ hk => hk.2) (.slice Ao54 t420.length co54)) (fun _ hk => hk.2) (.slice Ao56 t423.length co56)) (fun _ h_ => h_.1))) (Kd.R_base ho1) hb); have n4_ := k0 (Kd.S_mono (Kd.S_told (Kd.S_told (Kd.S_old (by (with_reducible repeat (first | apply Kd.S_alloc | apply Kd.S_drewN | apply Kd.S_drew)); exact (Kd.S_mono (Kd.S_far (p := ⟨gb427, 1, none⟩) (Kd.S_far (p := ⟨gb427, 0, none⟩) (Kd.S_types HO422.out BK427.out (by decide)) (fun _ hk => hk.2) (.slice Ao54 t420.length co54)) (fun _ hk => hk.2) (.slice Ao56 t423.length co56)) (fun _ h_ => h_.1))) hb) (Kd.S_base ho0)) (Kd.R_base ho1)) (fun _ h_ => h_.1)); have n5_ := k0 (Kd.R_elder' (by (with_reducible repeat (first | apply Kd.R_alloc | apply Kd.R_drewN | apply Kd.R_drew)); exact (Kd.R_mono (Kd.R_far (p := ⟨gb427, 1, none⟩) (Kd.R_far (p := ⟨gb427, 0, none⟩) (Kd.R_types HO425.out BK427.out (by decide)) (fun _ hk => hk.2) (.slice Ao54 t420.length co54)) (fun _ hk => hk.2) (.slice Ao56 t423.length co56)) (fun _ h_ => h_.1))) (Kd.R_base ho1) hb); have n6_ := k0 (Kd.S_lower (Kd.S_new' (Kd.S_new' (Kd.S_new' (Kd.S_new' (Kd.S_new' ho0 (Kd.R_lt (by (with_reducible repeat (first | apply Kd.R_alloc | apply Kd.R_drewN | apply Kd.R_drew)); exact (Kd.R_mono (Kd.R_far (p := ⟨gb427, 1, none⟩) (Kd.R_far (p := ⟨gb427, 0, none⟩) (Kd.R_types HO408.out BK427.out (by decide)) (fun _ hk => hk.2) (.slice Ao54 t420.length co54)) (fun _ hk => hk.2) (.slice Ao56 t423.length co56)) (fun _ h_ => h_.1))))) (Kd.S_lt (by (with_reducible repeat (first | apply Kd.S_alloc | apply Kd.S_drewN | apply Kd.S_drew)); exact (Kd.S_mono (Kd.S_far (p := ⟨gb427, 1, none⟩) (Kd.S_far (p := ⟨gb427, 0, none⟩) (Kd.S_types HO413.out BK427.out (by decide)) (fun _ hk => hk.2) (.slice Ao54 t420.length co54)) (fun _ hk => hk.2) (.slice Ao56 t423.length co56)) (fun _ h_ => h_.1))))) (Kd.R_lt (by (with_reducible repeat (first | apply Kd.R_alloc | apply Kd.R_drewN | apply Kd.R_drew)); exact (Kd.R_mono (Kd.R_far (p := ⟨gb427, 1, none⟩) (Kd.R_far (p := ⟨gb427, 0, none⟩) (Kd.R_types HO416.out BK427.out (by decide)) (fun _ hk => hk.2) (.slice Ao54 t420.length co54)) (fun _ hk => hk.2) (.slice Ao56 t423.length co56)) (fun _ h_ => h_.1))))) (Kd.S_lt (by (with_reducible repeat (first | apply Kd.S_alloc | apply Kd.S_drewN | apply Kd.S_drew)); exact (Kd.S_mono (Kd.S_far (p := ⟨gb427, 1, none⟩) (Kd.S_far (p := ⟨gb427, 0, none⟩) (Kd.S_types HO422.out BK427.out (by decide)) (fun _ hk => hk.2) (.slice Ao54 t420.length co54)) (fun _ hk => hk.2) (.slice Ao56 t423.length co56)) (fun _ h_ => h_.1))))) (Kd.R_lt (by (with_reducible repeat (first | apply Kd.R_alloc | apply Kd.R_drewN | apply Kd.R_drew)); exact (Kd.R_mono (Kd.R_far (p := ⟨gb427, 1, none⟩) (Kd.R_far (p := ⟨gb427, 0, none⟩) (Kd.R_types HO425.out BK427.out (by decide)) (fun _ hk => hk.2) (.slice Ao54 t420.length co54)) (fun _ hk => hk.2) (.slice Ao56 t423.length co56)) (fun _ h_ => h_.1))))) (below_size (kW HB.out))); have n7_ := k0 (Kd.R_lower (Kd.R_new' (Kd.R_new' (Kd.R_new' ho1 (Kd.R_lt (by (with_reducible repeat (first | apply Kd.R_alloc | apply Kd.R_drewN | apply Kd.R_drew)); exact (Kd.R_mono (Kd.R_far (p := ⟨gb427, 1, none⟩) (Kd.R_far (p := ⟨gb427, 0, none⟩) (Kd.R_types HO408.out BK427.out (by decide)) (fun _ hk => hk.2) (.slice Ao54 t420.length co54)) (fun _ hk => hk.2) (.slice Ao56 t423.length co56)) (fun _ h_ => h_.1))))) (Kd.R_lt (by (with_reducible repeat (first | apply Kd.R_alloc | apply Kd.R_drewN | apply Kd.R_drew)); exact (Kd.R_mono (Kd.R_far (p := ⟨gb427, 1, none⟩) (Kd.R_far (p := ⟨gb427, 0, none⟩) (Kd.R_types HO416.out BK427.out (by decide)) (fun _ hk => hk.2) (.slice Ao54 t420.length co54)) (fun _ hk => hk.2) (.slice Ao56 t423.length co56)) (fun _ h_ => h_.1))))) (Kd.R_lt (by (with_reducible repeat (first | apply Kd.R_alloc | apply Kd.R_drewN | apply Kd.R_drew)); exact (Kd.R_mono (Kd.R_far (p := ⟨gb427, 1, none⟩) (Kd.R_far (p := ⟨gb427, 0, none⟩) (Kd.R_types HO425.out BK427.out (by decide)) (fun _ hk => hk.2) (.slice Ao54 t420.length co54)) (fun _ hk => hk.2) (.slice Ao56 t423.length co56)) (fun _ h_ => h_.1))))) (below_size (kW HB.out))); have n8_ := k0 (blk_below (g := gb409) (o := .cells #[.slice Ao35 t403.length co35, .slice Ao37 t406.length co37] 28 (0, 0)) (by (with_reducible repeat first | apply k1 | apply k2 | apply k3); refine blk_far ?_ NB409_427.out _; (with_reducible repeat first | apply k1 | apply k2 | apply k3); refine blk_far ?_ NB409_427.out _; (with_reducible repeat first | apply k1 | apply k2 | apply k3); exact BK409.out) hb); have n9_ := k0 (blk_below (g := gb418) (o := .cells #[.slice Ao44 t411.length co44, .slice Ao46 t414.length co46] 28 (0, 0)) (by (with_reducible repeat first | apply k1 | apply k2 | apply k3); refine blk_far ?_ NB418_427.out _; (with_reducible repeat first | apply k1 | apply k2 | apply k3); refine blk_far ?_ NB418_427.out _; (with_reducible repeat first | apply k1 | apply k2 | apply k3); exact BK418.out) hb); have n10_ := k0 (blk_below (g := gb427) (o := .cells #[.slice Ao54 t420.length co54, .slice Ao56 t423.length co56] 28 (0, 0)) (by (with_reducible repeat first | apply k1 | apply k2 | apply k3); refine blk_put (cs := #[.slice Ao54 t420.length co54, .slice none 0 0]) ?_ 1 _ rfl; (with_reducible repeat first | apply k1 | apply k2 | apply k3); refine blk_put (cs := #[.slice none 0 0, .slice none 0 0]) ?_ 0 _ rfl; (with_reducible repeat first | apply k1 | apply k2 | apply k3); exact BK427.out) hb); have n11_ := k0 (below_step (kW HB.out) hb); clear HO405; clear HO408; clear HO413; clear HO416; clear HO422; clear HO425; clear BK409; clear BK418; clear BK427; clear HB; have HO405 := n0_; have HO408 := n1_; have HO413 := n2_; have HO416 := n3_; have HO422 := n4_; have HO425 := n5_; have HO430 := n6_; have HO433 := n7_; have BK409 := n8_; have BK418 := n9_; have BK427 := n10_; have HB := n11_; clear n0_ n1_ n2_ n3_ n4_ n5_ n6_ n7_ n8_ n9_ n10_ n11_; (try clear hb); (try clear hb2); (try clear hk); (try clear hi); (try clear ho0); (try clear ho1)) | ((with_reducible refine gate_dst (N := 9) rfl ?_); refine kE (N := 9) (cs := #[.slice none 0 0, .slice none 0 0]) (t := 28) ?_; intro gb435 hg w64 hbox hb; have n0_ := k0 (Kd.V_below (Kd.V_elderB (kV HO405.out) gb435 (Nat.le_of_eq hg.symm)) hb); have n1_ := k0 (Kd.R_below (kR HO408.out) hb); have n2_ := k0 (Kd.S_below (kS HO413.out) hb); have n3_ := k0 (Kd.R_below (kR HO416.out) hb); have n4_ := k0 (Kd.S_below (kS HO422.out) hb); have n5_ := k0 (Kd.R_below (kR HO425.out) hb); have n6_ := k0 (Kd.S_below (kS HO430.out) hb); have n7_ := k0 (Kd.R_below (kR HO433.out) hb); have n8_ := k0 (kb BK409.out hb); have n9_ := k0 (kb BK418.out hb); have n10_ := k0 (kb BK427.out hb); have n11_ := k0 (below_step (kW HB.out) hb); have n12_ := k0 (hbox); have n13_ := k0 (kY HB.out hg); have n14_ := k0 (kY HB.out hg); have n15_ := k0 ((by rw [hg]; exact Nat.ne_of_lt (blk_lt (g := gb409) (o := .cells #[.slice Ao35 t403.length co35, .slice Ao37 t406.length co37] 28 (0, 0)) (kB BK409.out)) : gb409 ≠ gb435)); have n16_ := k0 ((by rw [hg]; exact Nat.ne_of_gt (blk_lt (g := gb409) (o := .cells #[.slice Ao35 t403.length co35, .slice Ao37 t406.length co37] 28 (0, 0)) (kB BK409.out)) : gb435 ≠ gb409)); have n17_ := k0 ((by rw [hg]; exact Nat.ne_of_lt (blk_lt (g := gb418) (o := .cells #[.slice Ao44 t411.length co44, .slice Ao46 t414.length co46] 28 (0, 0)) (kB BK418.out)) : gb418 ≠ gb435)); have n18_ := k0 ((by rw [hg]; exact Nat.ne_of_gt (blk_lt (g := gb418) (o := .cells #[.slice Ao44 t411.length co44, .slice Ao46 t414.length co46] 28 (0, 0)) (kB BK418.out)) : gb435 ≠ gb418)); have n19_ := k0 ((by rw [hg]; exact Nat.ne_of_lt (blk_lt (g := gb427) (o := .cells #[.slice Ao54 t420.length co54, .slice Ao56 t423.length co56] 28 (0, 0)) (kB BK427.out)) : gb427 ≠ gb435)); have n20_ := k0 ((by rw [hg]; exact Nat.ne_of_gt (blk_lt (g := gb427) (o := .cells #[.slice Ao54 t420.length co54, .slice Ao56 t423.length co56] 28 (0, 0)) (kB BK427.out)) : gb435 ≠ gb427)); clear HO405; clear HO408; clear HO413; clear HO416; clear HO422; clear HO425; clear HO430; clear HO433; clear BK409; clear BK418; clear BK427; clear HB; have HO405 := n0_; have HO408 := n1_; have HO413 := n2_; have HO416 := n3_; have HO422 := n4_; have HO425 := n5_; have HO430 := n6_; have HO433 := n7_; have BK409 := n8_; have BK418 := n9_; have BK427 := n10_; have HB := n11_; have BK435 := n12_; have GW435 := n13_; have GE435 := n14_; have NB409_435 := n15_; have NB435_409 := n16_; have NB418_435 := n17_; have NB435_418 := n18_; have NB427_435 := n19_; have NB435_427 := n20_; clear n0_ n1_ n2_ n3_ n4_ n5_ n6_ n7_ n8_ n9_ n10_ n11_ n12_ n13_ n14_ n15_ n16_ n17_ n18_ n19_ n20_; clear hb hbox hg; obtain ⟨Ao65, co65, eo65⟩ := Kd.S_slice HO430.out; subst eo65; have hnb66 := NB435_409.out; have hnc66 := NB409_435.out; have hnb67 := NB435_418.out; have hnc67 := NB418_435.out; have hnb68 := NB435_427.out; have hnc68 := NB427_435.out; have hcz69_0 : w64.cell? ⟨gb435, 0, none⟩ = some (.slice none 0 0) := kx BK435.out; have hcz69_1 : w64.cell? ⟨gb435, 1, none⟩ = some (.slice none 0 0) := kx BK435.out; have hfz69_0 := blk_frozen BK435.out 0; have hfz69_1 := blk_frozen BK435.out 1; obtain ⟨Ao70, co70, eo70⟩ := Kd.R_slice HO433.out; subst eo70; have hcz71_0 : w64.cell? ⟨gb427, 0, none⟩ = some (.slice Ao54 t420.length co54) := kx BK427.out; have hcz71_1 : w64.cell? ⟨gb427, 1, none⟩ = some (.slice Ao56 t423.length co56) := kx BK427.out; have hfz71_0 := blk_frozen BK427.out 0; have hfz71_1 := blk_frozen BK427.out 1; have hcz72_0 : w64.cell? ⟨gb418, 0, none⟩ = some (.slice Ao44 t411.length co44) := kx BK418.out; have hcz72_1 : w64.cell? ⟨gb418, 1, none⟩ = some (.slice Ao46 t414.length co46) := kx BK418.out; have hfz72_0 := blk_frozen BK418.out 0; have hfz72_1 := blk_frozen BK418.out 1) | ((with_reducible refine gate_callee (f := 25) rfl ?_); refine kG (some 51) Try.func25 #[.agg #[.slice Ao54 t420.length co54, .slice Ao56 t423.length co56], .agg #[.slice Ao44 t411.length co44, .slice Ao46 t414.length co46]] ?_; (with_reducible refine (impl_Meet.calls k _ _ t420 _ _ t423 _ _ t411 _ _ t414 t436 t439 true _ ?side1 ?side2 ?side3 ?side4 ?side5 ?side6 ?side7 ?side8 A10.out).mono ?_); (case side1 => refine (Kd.S_reads' (e := 23) (base := w.heap.size) (ok := fun k_ => (((some k_ ≠ (.slice Ao37 t406.length co37 : Value).ownBlock ∧ (some k_ ≠ (.slice Ao44 t411.length co44 : Value).ownBlock ∧ (some k_ ≠ (.slice Ao46 t414.length co46 : Value).ownBlock ∧ some k_ ≠ (.slice Ao56 t423.length co56 : Value).ownBlock))) ∧ some k_ ≠ (.slice Ao65 t428.length co65 : Value).ownBlock) ∧ some k_ ≠ (.slice Ao70 t431.length co70 : Value).ownBlock)) (n := t420.length) (c := co54) ?_).2.2; exact (by (with_reducible repeat (first | apply Kd.S_alloc | apply Kd.S_drewN | apply Kd.S_drew)); exact (Kd.S_mono (Kd.S_far (p := ⟨gb435, 1, none⟩) (Kd.S_far (p := ⟨gb435, 0, none⟩) (Kd.S_types HO422.out BK435.out (by decide)) (fun _ hk => hk.2) (.slice Ao65 t428.length co65)) (fun _ hk => hk.2) (.slice Ao70 t431.length co70)) (fun _ h_ => h_.1)))); (case side2 => exact (Kd.S_reads' HO422.out).2.1); (case side3 => refine (Kd.R_reads' (e := 3) (base := w.heap.size) (ok := fun k_ => ((some k_ ≠ (.slice Ao37 t406.length co37 : Value).ownBlock ∧ some k_ ≠ (.slice Ao46 t414.length co46 : Value).ownBlock) ∧ some k_ ≠ (.slice Ao70 t431.length co70 : Value).ownBlock)) (n := t423.length) (c := co56) ?_).2.2; exact (by (with_reducible repeat (first | apply Kd.R_alloc | apply Kd.R_drewN | apply Kd.R_drew)); exact (Kd.R_mono (Kd.R_far (p := ⟨gb435, 1, none⟩) (Kd.R_far (p := ⟨gb435, 0, none⟩) (Kd.R_types HO425.out BK435.out (by decide)) (fun _ hk => hk.2) (.slice Ao65 t428.length co65)) (fun _ hk => hk.2) (.slice Ao70 t431.length co70)) (fun _ h_ => h_.1)))); (case side4 => exact (Kd.R_reads' HO425.out).2.1); (case side5 => refine (Kd.S_reads' (e := 23) (base := w.heap.size) (ok := fun k_ => (((some k_ ≠ (.slice Ao37 t406.length co37 : Value).ownBlock ∧ (some k_ ≠ (.slice Ao46 t414.length co46 : Value).ownBlock ∧ (some k_ ≠ (.slice Ao54 t420.length co54 : Value).ownBlock ∧ some k_ ≠ (.slice Ao56 t423.length co56 : Value).ownBlock))) ∧ some k_ ≠ (.slice Ao65 t428.length co65 : Value).ownBlock) ∧ some k_ ≠ (.slice Ao70 t431.length co70 : Value).ownBlock)) (n := t411.length) (c := co44) ?_).2.2; exact (by (with_reducible repeat (first | apply Kd.S_alloc | apply Kd.S_drewN | apply Kd.S_drew)); exact (Kd.S_mono (Kd.S_far (p := ⟨gb435, 1, none⟩) (Kd.S_far (p := ⟨gb435, 0, none⟩) (Kd.S_types HO413.out BK435.out (by decide)) (fun _ hk => hk.2) (.slice Ao65 t428.length co65)) (fun _ hk => hk.2) (.slice Ao70 t431.length co70)) (fun _ h_ => h_.1)))); (case side6 => exact (Kd.S_reads' HO413.out).2.1); (case side7 => refine (Kd.R_reads' (e := 3) (base := w.heap.size) (ok := fun k_ => ((some k_ ≠ (.slice Ao37 t406.length co37 : Value).ownBlock ∧ some k_ ≠ (.slice Ao56 t423.length co56 : Value).ownBlock) ∧ some k_ ≠ (.slice Ao70 t431.length co70 : Value).ownBlock)) (n := t414.length) (c := co46) ?_).2.2; exact (by (with_reducible repeat (first | apply Kd.R_alloc | apply Kd.R_drewN | apply Kd.R_drew)); exact (Kd.R_mono (Kd.R_far (p := ⟨gb435, 1, none⟩) (Kd.R_far (p := ⟨gb435, 0, none⟩) (Kd.R_types HO416.out BK435.out (by decide)) (fun _ hk => hk.2) (.slice Ao65 t428.length co65)) (fun _ hk => hk.2) (.slice Ao70 t431.length co70)) (fun _ h_ => h_.1)))); (case side8 => exact (Kd.R_reads' HO416.out).2.1); rintro e w73 ⟨v437, v440, rfl, ho0, ho1, hb⟩; refine ⟨_, rfl, ?_⟩; have n0_ := k0 (Kd.V_mono (Kd.V_told (Kd.V_told (Kd.V_old (by (with_reducible repeat (first | apply Kd.V_alloc | apply Kd.V_drewN | apply Kd.V_drew)); exact (Kd.V_mono (Kd.V_far (p := ⟨gb435, 1, none⟩) (Kd.V_far (p := ⟨gb435, 0, none⟩) (Kd.V_mono HO405.out (fun k_ hk => (⟨hk, hk.2⟩ : _ ∧ k_ ≠ gb435))) (fun _ hk => hk.2) (.slice Ao65 t428.length co65)) (fun _ hk => hk.2) (.slice Ao70 t431.length co70)) (fun _ h_ => h_.1))) hb) (Kd.S_base ho0)) (Kd.R_base ho1)) (fun _ h_ => h_.1)); have n1_ := k0 (Kd.R_elder' (by (with_reducible repeat (first | apply Kd.R_alloc | apply Kd.R_drewN | apply Kd.R_drew)); exact (Kd.R_mono (Kd.R_far (p := ⟨gb435, 1, none⟩) (Kd.R_far (p := ⟨gb435, 0, none⟩) (Kd.R_types HO408.out BK435.out (by decide)) (fun _ hk => hk.2) (.slice Ao65 t428.length co65)) (fun _ hk => hk.2) (.slice Ao70 t431.length co70)) (fun _ h_ => h_.1))) (Kd.R_base ho1) hb); have n2_ := k0 (Kd.S_mono (Kd.S_told (Kd.S_told (Kd.S_old (by (with_reducible repeat (first | apply Kd.S_alloc | apply Kd.S_drewN | apply Kd.S_drew)); exact (Kd.S_mono (Kd.S_far (p := ⟨gb435, 1, none⟩) (Kd.S_far (p := ⟨gb435, 0, none⟩) (Kd.S_types HO413.out BK435.out (by decide)) (fun _ hk => hk.2) (.slice Ao65 t428.length co65)) (fun _ hk => hk.2) (.slice Ao70 t431.length co70)) (fun _ h_ => h_.1))) hb) (Kd.S_base ho0)) (Kd.R_base ho1)) (fun _ h_ => h_.1)); have n3_ := k0 (Kd.R_elder' (by (with_reducible repeat (first | apply Kd.R_alloc | apply Kd.R_drewN | apply Kd.R_drew)); exact (Kd.R_mono (Kd.R_far (p := ⟨gb435, 1, none⟩) (Kd.R_far (p := ⟨gb435, 0, none⟩) (Kd.R_types HO416.out BK435.out (by decide)) (fun _ hk => hk.2) (.slice Ao65 t428.length co65)) (fun _ hk => hk.2) (.slice Ao70 t431.length co70)) (fun _ h_ => h_.1))) (Kd.R_base ho1) hb); have n4_ := k0 (Kd.S_mono (Kd.S_told (Kd.S_told (Kd.S_old (by (with_reducible repeat (first | apply Kd.S_alloc | apply Kd.S_drewN | apply Kd.S_drew)); exact (Kd.S_mono (Kd.S_far (p := ⟨gb435, 1, none⟩) (Kd.S_far (p := ⟨gb435, 0, none⟩) (Kd.S_types HO422.out BK435.out (by decide)) (fun _ hk => hk.2) (.slice Ao65 t428.length co65)) (fun _ hk => hk.2) (.slice Ao70 t431.length co70)) (fun _ h_ => h_.1))) hb) (Kd.S_base ho0)) (Kd.R_base ho1)) (fun _ h_ => h_.1)); have n5_ := k0 (Kd.R_elder' (by (with_reducible repeat (first | apply Kd.R_alloc | apply Kd.R_drewN | apply Kd.R_drew)); exact (Kd.R_mono (Kd.R_far (p := ⟨gb435, 1, none⟩) (Kd.R_far (p := ⟨gb435, 0, none⟩) (Kd.R_types HO425.out BK435.out (by decide)) (fun _ hk => hk.2) (.slice Ao65 t428.length co65)) (fun _ hk => hk.2) (.slice Ao70 t431.length co70)) (fun _ h_ => h_.1))) (Kd.R_base ho1) hb); have n6_ := k0 (Kd.S_mono (Kd.S_told (Kd.S_told (Kd.S_old (by (with_reducible repeat (first | apply Kd.S_alloc | apply Kd.S_drewN | apply Kd.S_drew)); exact (Kd.S_mono (Kd.S_far (p := ⟨gb435, 1, none⟩) (Kd.S_far (p := ⟨gb435, 0, none⟩) (Kd.S_types HO430.out BK435.out (by decide)) (fun _ hk => hk.2) (.slice Ao65 t428.length co65)) (fun _ hk => hk.2) (.slice Ao70 t431.length co70)) (fun _ h_ => h_.1))) hb) (Kd.S_base ho0)) (Kd.R_base ho1)) (fun _ h_ => h_.1)); have n7_ := k0 (Kd.R_elder' (by (with_reducible repeat (first | apply Kd.R_alloc | apply Kd.R_drewN | apply Kd.R_drew)); exact (Kd.R_mono (Kd.R_far (p := ⟨gb435, 1, none⟩) (Kd.R_far (p := ⟨gb435, 0, none⟩) (Kd.R_types HO433.out BK435.out (by decide)) (fun _ hk => hk.2) (.slice Ao65 t428.length co65)) (fun _ hk => hk.2) (.slice Ao70 t431.length co70)) (fun _ h_ => h_.1))) (Kd.R_base ho1) hb); have n8_ := k0 (Kd.S_lower (Kd.S_new' (Kd.S_new' (Kd.S_new' (Kd.S_new' (Kd.S_new' (Kd.S_new' (Kd.S_new' ho0 (Kd.R_lt (by (with_reducible repeat (first | apply Kd.R_alloc | apply Kd.R_drewN | apply Kd.R_drew)); exact (Kd.R_mono (Kd.R_far (p := ⟨gb435, 1, none⟩) (Kd.R_far (p := ⟨gb435, 0, none⟩) (Kd.R_types HO408.out BK435.out (by decide)) (fun _ hk => hk.2) (.slice Ao65 t428.length co65)) (fun _ hk => hk.2) (.slice Ao70 t431.length co70)) (fun _ h_ => h_.1))))) (Kd.S_lt (by (with_reducible repeat (first | apply Kd.S_alloc | apply Kd.S_drewN | apply Kd.S_drew)); exact (Kd.S_mono (Kd.S_far (p := ⟨gb435, 1, none⟩) (Kd.S_far (p := ⟨gb435, 0, none⟩) (Kd.S_types HO413.out BK435.out (by decide)) (fun _ hk => hk.2) (.slice Ao65 t428.length co65)) (fun _ hk => hk.2) (.slice Ao70 t431.length co70)) (fun _ h_ => h_.1))))) (Kd.R_lt (by (with_reducible repeat (first | apply Kd.R_alloc | apply Kd.R_drewN | apply Kd.R_drew)); exact (Kd.R_mono (Kd.R_far (p := ⟨gb435, 1, none⟩) (Kd.R_far (p := ⟨gb435, 0, none⟩) (Kd.R_types HO416.out BK435.out (by decide)) (fun _ hk => hk.2) (.slice Ao65 t428.length co65)) (fun _ hk => hk.2) (.slice Ao70 t431.length co70)) (fun _ h_ => h_.1))))) (Kd.S_lt (by (with_reducible repeat (first | apply Kd.S_alloc | apply Kd.S_drewN | apply Kd.S_drew)); exact (Kd.S_mono (Kd.S_far (p := ⟨gb435, 1, none⟩) (Kd.S_far (p := ⟨gb435, 0, none⟩) (Kd.S_types HO422.out BK435.out (by decide)) (fun _ hk => hk.2) (.slice Ao65 t428.length co65)) (fun _ hk => hk.2) (.slice Ao70 t431.length co70)) (fun _ h_ => h_.1))))) (Kd.R_lt (by (with_reducible repeat (first | apply Kd.R_alloc | apply Kd.R_drewN | apply Kd.R_drew)); exact (Kd.R_mono (Kd.R_far (p := ⟨gb435, 1, none⟩) (Kd.R_far (p := ⟨gb435, 0, none⟩) (Kd.R_types HO425.out BK435.out (by decide)) (fun _ hk => hk.2) (.slice Ao65 t428.length co65)) (fun _ hk => hk.2) (.slice Ao70 t431.length co70)) (fun _ h_ => h_.1))))) (Kd.S_lt (by (with_reducible repeat (first | apply Kd.S_alloc | apply Kd.S_drewN | apply Kd.S_drew)); exact (Kd.S_mono (Kd.S_far (p := ⟨gb435, 1, none⟩) (Kd.S_far (p := ⟨gb435, 0, none⟩) (Kd.S_types HO430.out BK435.out (by decide)) (fun _ hk => hk.2) (.slice Ao65 t428.length co65)) (fun _ hk => hk.2) (.slice Ao70 t431.length co70)) (fun _ h_ => h_.1))))) (Kd.R_lt (by (with_reducible repeat (first | apply Kd.R_alloc | apply Kd.R_drewN | apply Kd.R_drew)); exact (Kd.R_mono (Kd.R_far (p := ⟨gb435, 1, none⟩) (Kd.R_far (p := ⟨gb435, 0, none⟩) (Kd.R_types HO433.out BK435.out (by decide)) (fun _ hk => hk.2) (.slice Ao65 t428.length co65)) (fun _ hk => hk.2) (.slice Ao70 t431.length co70)) (fun _ h_ => h_.1))))) (below_size (kW HB.out))); have n9_ := k0 (Kd.R_lower (Kd.R_new' (Kd.R_new' (Kd.R_new' (Kd.R_new' ho1 (Kd.R_lt (by (with_reducible repeat (first | apply Kd.R_alloc | apply Kd.R_drewN | apply Kd.R_drew)); exact (Kd.R_mono (Kd.R_far (p := ⟨gb435, 1, none⟩) (Kd.R_far (p := ⟨gb435, 0, none⟩) (Kd.R_types HO408.out BK435.out (by decide)) (fun _ hk => hk.2) (.slice Ao65 t428.length co65)) (fun _ hk => hk.2) (.slice Ao70 t431.length co70)) (fun _ h_ => h_.1))))) (Kd.R_lt (by (with_reducible repeat (first | apply Kd.R_alloc | apply Kd.R_drewN | apply Kd.R_drew)); exact (Kd.R_mono (Kd.R_far (p := ⟨gb435, 1, none⟩) (Kd.R_far (p := ⟨gb435, 0, none⟩) (Kd.R_types HO416.out BK435.out (by decide)) (fun _ hk => hk.2) (.slice Ao65 t428.length co65)) (fun _ hk => hk.2) (.slice Ao70 t431.length co70)) (fun _ h_ => h_.1))))) (Kd.R_lt (by (with_reducible repeat (first | apply Kd.R_alloc | apply Kd.R_drewN | apply Kd.R_drew)); exact (Kd.R_mono (Kd.R_far (p := ⟨gb435, 1, none⟩) (Kd.R_far (p := ⟨gb435, 0, none⟩) (Kd.R_types HO425.out BK435.out (by decide)) (fun _ hk => hk.2) (.slice Ao65 t428.length co65)) (fun _ hk => hk.2) (.slice Ao70 t431.length co70)) (fun _ h_ => h_.1))))) (Kd.R_lt (by (with_reducible repeat (first | apply Kd.R_alloc | apply Kd.R_drewN | apply Kd.R_drew)); exact (Kd.R_mono (Kd.R_far (p := ⟨gb435, 1, none⟩) (Kd.R_far (p := ⟨gb435, 0, none⟩) (Kd.R_types HO433.out BK435.out (by decide)) (fun _ hk => hk.2) (.slice Ao65 t428.length co65)) (fun _ hk => hk.2) (.slice Ao70 t431.length co70)) (fun _ h_ => h_.1))))) (below_size (kW HB.out))); have n10_ := k0 (blk_below (g := gb409) (o := .cells #[.slice Ao35 t403.length co35, .slice Ao37 t406.length co37] 28 (0, 0)) (by (with_reducible repeat first | apply k1 | apply k2 | apply k3); refine blk_far ?_ NB409_435.out _; (with_reducible repeat first | apply k1 | apply k2 | apply k3); refine blk_far ?_ NB409_435.out _; (with_reducible repeat first | apply k1 | apply k2 | apply k3); exact BK409.out) hb); have n11_ := k0 (blk_below (g := gb418) (o := .cells #[.slice Ao44 t411.length co44, .slice Ao46 t414.length co46] 28 (0, 0)) (by (with_reducible repeat first | apply k1 | apply k2 | apply k3); refine blk_far ?_ NB418_435.out _; (with_reducible repeat first | apply k1 | apply k2 | apply k3); refine blk_far ?_ NB418_435.out _; (with_reducible repeat first | apply k1 | apply k2 | apply k3); exact BK418.out) hb); have n12_ := k0 (blk_below (g := gb427) (o := .cells #[.slice Ao54 t420.length co54, .slice Ao56 t423.length co56] 28 (0, 0)) (by (with_reducible repeat first | apply k1 | apply k2 | apply k3); refine blk_far ?_ NB427_435.out _; (with_reducible repeat first | apply k1 | apply k2 | apply k3); refine blk_far ?_ NB427_435.out _; (with_reducible repeat first | apply k1 | apply k2 | apply k3); exact BK427.out) hb); have n13_ := k0 (blk_below (g := gb435) (o := .cells #[.slice Ao65 t428.length co65, .slice Ao70 t431.length co70] 28 (0, 0)) (by (with_reducible repeat first | apply k1 | apply k2 | apply k3); refine blk_put (cs := #[.slice Ao65 t428.length co65, .slice none 0 0]) ?_ 1 _ rfl; (with_reducible repeat first | apply k1 | apply k2 | apply k3); refine blk_put (cs := #[.slice none 0 0, .slice none 0 0]) ?_ 0 _ rfl; (with_reducible repeat first | apply k1 | apply k2 | apply k3); exact BK435.out) hb); have n14_ := k0 (below_step (kW HB.out) hb); clear HO405; clear HO408; clear HO413; clear HO416; clear HO422; clear HO425; clear HO430; clear HO433; clear BK409; clear BK418; clear BK427; clear BK435; clear HB; have HO405 := n0_; have HO408 := n1_; have HO413 := n2_; have HO416 := n3_; have HO422 := n4_; have HO425 := n5_; have HO430 := n6_; have HO433 := n7_; have HO438 := n8_; have HO441 := n9_; have BK409 := n10_; have BK418 := n11_; have BK427 := n12_; have BK435 := n13_; have HB := n14_; clear n0_ n1_ n2_ n3_ n4_ n5_ n6_ n7_ n8_ n9_ n10_ n11_ n12_ n13_ n14_; (try clear hb); (try clear hb2); (try clear hk); (try clear hi); (try clear ho0); (try clear ho1)) | ((with_reducible refine gate_dst (N := 11) rfl ?_); refine kE (N := 11) (cs := #[.slice none 0 0, .slice none 0 0]) (t := 28) ?_; intro gb443 hg w74 hbox hb; have n0_ := k0 (Kd.V_below (Kd.V_elderB (kV HO405.out) gb443 (Nat.le_of_eq hg.symm)) hb); have n1_ := k0 (Kd.R_below (kR HO408.out) hb); have n2_ := k0 (Kd.S_below (kS HO413.out) hb); have n3_ := k0 (Kd.R_below (kR HO416.out) hb); have n4_ := k0 (Kd.S_below (kS HO422.out) hb); have n5_ := k0 (Kd.R_below (kR HO425.out) hb); have n6_ := k0 (Kd.S_below (kS HO430.out) hb); have n7_ := k0 (Kd.R_below (kR HO433.out) hb); have n8_ := k0 (Kd.S_below (kS HO438.out) hb); have n9_ := k0 (Kd.R_below (kR HO441.out) hb); have n10_ := k0 (kb BK409.out hb); have n11_ := k0 (kb BK418.out hb); have n12_ := k0 (kb BK427.out hb); have n13_ := k0 (kb BK435.out hb); have n14_ := k0 (below_step (kW HB.out) hb); have n15_ := k0 (hbox); have n16_ := k0 (kY HB.out hg); have n17_ := k0 (kY HB.out hg); have n18_ := k0 ((by rw [hg]; exact Nat.ne_of_lt (blk_lt (g := gb409) (o := .cells #[.slice Ao35 t403.length co35, .slice Ao37 t406.length co37] 28 (0, 0)) (kB BK409.out)) : gb409 ≠ gb443)); have n19_ := k0 ((by rw [hg]; exact Nat.ne_of_gt (blk_lt (g := gb409) (o := .cells #[.slice Ao35 t403.length co35, .slice Ao37 t406.length co37] 28 (0, 0)) (kB BK409.out)) : gb443 ≠ gb409)); have n20_ := k0 ((by rw [hg]; exact Nat.ne_of_lt (blk_lt (g := gb418) (o := .cells #[.slice Ao44 t411.length co44, .slice Ao46 t414.length co46] 28 (0, 0)) (kB BK418.out)) : gb418 ≠ gb443)); have n21_ := k0 ((by rw [hg]; exact Nat.ne_of_gt (blk_lt (g := gb418) (o := .cells #[.slice Ao44 t411.length co44, .slice Ao46 t414.length co46] 28 (0, 0)) (kB BK418.out)) : gb443 ≠ gb418)); have n22_ := k0 ((by rw [hg]; exact Nat.ne_of_lt (blk_lt (g := gb427) (o := .cells #[.slice Ao54 t420.length co54, .slice Ao56 t423.length co56] 28 (0, 0)) (kB BK427.out)) : gb427 ≠ gb443)); have n23_ := k0 ((by rw [hg]; exact Nat.ne_of_gt (blk_lt (g := gb427) (o := .cells #[.slice Ao54 t420.length co54, .slice Ao56 t423.length co56] 28 (0, 0)) (kB BK427.out)) : gb443 ≠ gb427)); have n24_ := k0 ((by rw [hg]; exact Nat.ne_of_lt (blk_lt (g := gb435) (o := .cells #[.slice Ao65 t428.length co65, .slice Ao70 t431.length co70] 28 (0, 0)) (kB BK435.out)) : gb435 ≠ gb443)); have n25_ := k0 ((by rw [hg]; exact Nat.ne_of_gt (blk_lt (g := gb435) (o := .cells #[.slice Ao65 t428.length co65, .slice Ao70 t431.length co70] 28 (0, 0)) (kB BK435.out)) : gb443 ≠ gb435)); clear HO405; clear HO408; clear HO413; clear HO416; clear HO422; clear HO425; clear HO430; clear HO433; clear HO438; clear HO441; clear BK409; clear BK418; clear BK427; clear BK435; clear HB; have HO405 := n0_; have HO408 := n1_; have HO413 := n2_; have HO416 := n3_; have HO422 := n4_; have HO425 := n5_; have HO430 := n6_; have HO433 := n7_; have HO438 := n8_; have HO441 := n9_; have BK409 := n10_; have BK418 := n11_; have BK427 := n12_; have BK435 := n13_; have HB := n14_; have BK443 := n15_; have GW443 := n16_; have GE443 := n17_; have NB409_443 := n18_; have NB443_409 := n19_; have NB418_443 := n20_; have NB443_418 := n21_; have NB427_443 := n22_; have NB443_427 := n23_; have NB435_443 := n24_; have NB443_435 := n25_; clear n0_ n1_ n2_ n3_ n4_ n5_ n6_ n7_ n8_ n9_ n10_ n11_ n12_ n13_ n14_ n15_ n16_ n17_ n18_ n19_ n20_ n21_ n22_ n23_ n24_ n25_; clear hb hbox hg; obtain ⟨Ao75, co75, eo75⟩ := Kd.S_slice HO438.out; subst eo75; have hnb76 := NB443_409.out; have hnc76 := NB409_443.out; have hnb77 := NB443_418.out; have hnc77 := NB418_443.out; have hnb78 := NB443_427.out; have hnc78 := NB427_443.out; have hnb79 := NB443_435.out; have hnc79 := NB435_443.out; have hcz80_0 : w74.cell? ⟨gb443, 0, none⟩ = some (.slice none 0 0) := kx BK443.out; have hcz80_1 : w74.cell? ⟨gb443, 1, none⟩ = some (.slice none 0 0) := kx BK443.out; have hfz80_0 := blk_frozen BK443.out 0; have hfz80_1 := blk_frozen BK443.out 1; obtain ⟨Ao81, co81, eo81⟩ := Kd.R_slice HO441.out; subst eo81; have hcz82_0 : w74.cell? ⟨gb435, 0, none⟩ = some (.slice Ao65 t428.length co65) := kx BK435.out; have hcz82_1 : w74.cell? ⟨gb435, 1, none⟩ = some (.slice Ao70 t431.length co70) := kx BK435.out; have hfz82_0 := blk_frozen BK435.out 0; have hfz82_1 := blk_frozen BK435.out 1; have hcz83_0 : w74.cell? ⟨gb418, 0, none⟩ = some (.slice Ao44 t411.length co44) := kx BK418.out; have hcz83_1 : w74.cell? ⟨gb418, 1, none⟩ = some (.slice Ao46 t414.length co46) := kx BK418.out; have hfz83_0 := blk_frozen BK418.out 0; have hfz83_1 := blk_frozen BK418.out 1) | ((with_reducible refine gate_callee (f := 25) rfl ?_); refine kG (some 57) Try.func25 #[.agg #[.slice Ao65 t428.length co65, .slice Ao70 t431.length co70], .agg #[.slice Ao44 t411.length co44, .slice Ao46 t414.length co46]] ?_; (with_reducible refine (impl_Meet.calls k _ _ t428 _ _ t431 _ _ t411 _ _ t414 t444 t447 true _ ?side1 ?side2 ?side3 ?side4 ?side5 ?side6 ?side7 ?side8 A11.out).mono ?_); (case side1 => refine (Kd.S_reads' (e := 23) (base := w.heap.size) (ok := fun k_ => (((((((some k_ ≠ (.slice Ao70 t431.length co70 : Value).ownBlock ∧ some k_ ≠ (.slice Ao37 t406.length co37 : Value).ownBlock) ∧ some k_ ≠ (.slice Ao44 t411.length co44 : Value).ownBlock) ∧ some k_ ≠ (.slice Ao46 t414.length co46 : Value).ownBlock) ∧ some k_ ≠ (.slice Ao54 t420.length co54 : Value).ownBlock) ∧ some k_ ≠ (.slice Ao56 t423.length co56 : Value).ownBlock) ∧ some k_ ≠ (.slice Ao75 t436.length co75 : Value).ownBlock) ∧ some k_ ≠ (.slice Ao81 t439.length co81 : Value).ownBlock)) (n := t428.length) (c := co65) ?_).2.2; exact (by (with_reducible repeat (first | apply Kd.S_alloc | apply Kd.S_drewN | apply Kd.S_drew)); exact (Kd.S_mono (Kd.S_far (p := ⟨gb443, 1, none⟩) (Kd.S_far (p := ⟨gb443, 0, none⟩) (Kd.S_types HO430.out BK443.out (by decide)) (fun _ hk => hk.2) (.slice Ao75 t436.length co75)) (fun _ hk => hk.2) (.slice Ao81 t439.length co81)) (fun _ h_ => h_.1)))); (case side2 => exact (Kd.S_reads' HO430.out).2.1); (case side3 => refine (Kd.R_reads' (e := 3) (base := w.heap.size) (ok := fun k_ => ((((True ∧ some k_ ≠ (.slice Ao37 t406.length co37 : Value).ownBlock) ∧ some k_ ≠ (.slice Ao46 t414.length co46 : Value).ownBlock) ∧ some k_ ≠ (.slice Ao56 t423.length co56 : Value).ownBlock) ∧ some k_ ≠ (.slice Ao81 t439.length co81 : Value).ownBlock)) (n := t431.length) (c := co70) ?_).2.2; exact (by (with_reducible repeat (first | apply Kd.R_alloc | apply Kd.R_drewN | apply Kd.R_drew)); exact (Kd.R_mono (Kd.R_far (p := ⟨gb443, 1, none⟩) (Kd.R_far (p := ⟨gb443, 0, none⟩) (Kd.R_types HO433.out BK443.out (by decide)) (fun _ hk => hk.2) (.slice Ao75 t436.length co75)) (fun _ hk => hk.2) (.slice Ao81 t439.length co81)) (fun _ h_ => h_.1)))); (case side4 => exact (Kd.R_reads' HO433.out).2.1); (case side5 => refine (Kd.S_reads' (e := 23) (base := w.heap.size) (ok := fun k_ => (((((some k_ ≠ (.slice Ao37 t406.length co37 : Value).ownBlock ∧ (some k_ ≠ (.slice Ao46 t414.length co46 : Value).ownBlock ∧ (some k_ ≠ (.slice Ao54 t420.length co54 : Value).ownBlock ∧ some k_ ≠ (.slice Ao56 t423.length co56 : Value).ownBlock))) ∧ some k_ ≠ (.slice Ao65 t428.length co65 : Value).ownBlock) ∧ some k_ ≠ (.slice Ao70 t431.length co70 : Value).ownBlock) ∧ some k_ ≠ (.slice Ao75 t436.length co75 : Value).ownBlock) ∧ some k_ ≠ (.slice Ao81 t439.length co81 : Value).ownBlock)) (n := t411.length) (c := co44) ?_).2.2; exact (by (with_reducible repeat (first | apply Kd.S_alloc | apply Kd.S_drewN | apply Kd.S_drew)); exact (Kd.S_mono (Kd.S_far (p := ⟨gb443, 1, none⟩) (Kd.S_far (p := ⟨gb443, 0, none⟩) (Kd.S_types HO413.out BK443.out (by decide)) (fun _ hk => hk.2) (.slice Ao75 t436.length co75)) (fun _ hk => hk.2) (.slice Ao81 t439.length co81)) (fun _ h_ => h_.1)))); (case side6 => exact (Kd.S_reads' HO413.out).2.1); (case side7 => refine (Kd.R_reads' (e := 3) (base := w.heap.size) (ok := fun k_ => (((some k_ ≠ (.slice Ao37 t406.length co37 : Value).ownBlock ∧ some k_ ≠ (.slice Ao56 t423.length co56 : Value).ownBlock) ∧ some k_ ≠ (.slice Ao70 t431.length co70 : Value).ownBlock) ∧ some k_ ≠ (.slice Ao81 t439.length co81 : Value).ownBlock)) (n := t414.length) (c := co46) ?_).2.2; exact (by (with_reducible repeat (first | apply Kd.R_alloc | apply Kd.R_drewN | apply Kd.R_drew)); exact (Kd.R_mono (Kd.R_far (p := ⟨gb443, 1, none⟩) (Kd.R_far (p := ⟨gb443, 0, none⟩) (Kd.R_types HO416.out BK443.out (by decide)) (fun _ hk => hk.2) (.slice Ao75 t436.length co75)) (fun _ hk => hk.2) (.slice Ao81 t439.length co81)) (fun _ h_ => h_.1)))); (case side8 => exact (Kd.R_reads' HO416.out).2.1); rintro e w84 ⟨v445, v448, rfl, ho0, ho1, hb⟩; refine ⟨_, rfl, ?_⟩; have n0_ := k0 (Kd.V_mono (Kd.V_told (Kd.V_told (Kd.V_old (by (with_reducible repeat (first | apply Kd.V_alloc | apply Kd.V_drewN | apply Kd.V_drew)); exact (Kd.V_mono (Kd.V_far (p := ⟨gb443, 1, none⟩) (Kd.V_far (p := ⟨gb443, 0, none⟩) (Kd.V_mono HO405.out (fun k_ hk => (⟨hk, hk.2⟩ : _ ∧ k_ ≠ gb443))) (fun _ hk => hk.2) (.slice Ao75 t436.length co75)) (fun _ hk => hk.2) (.slice Ao81 t439.length co81)) (fun _ h_ => h_.1))) hb) (Kd.S_base ho0)) (Kd.R_base ho1)) (fun _ h_ => h_.1)); have n1_ := k0 (Kd.R_elder' (by (with_reducible repeat (first | apply Kd.R_alloc | apply Kd.R_drewN | apply Kd.R_drew)); exact (Kd.R_mono (Kd.R_far (p := ⟨gb443, 1, none⟩) (Kd.R_far (p := ⟨gb443, 0, none⟩) (Kd.R_types HO408.out BK443.out (by decide)) (fun _ hk => hk.2) (.slice Ao75 t436.length co75)) (fun _ hk => hk.2) (.slice Ao81 t439.length co81)) (fun _ h_ => h_.1))) (Kd.R_base ho1) hb); have n2_ := k0 (Kd.S_mono (Kd.S_told (Kd.S_told (Kd.S_old (by (with_reducible repeat (first | apply Kd.S_alloc | apply Kd.S_drewN | apply Kd.S_drew)); exact (Kd.S_mono (Kd.S_far (p := ⟨gb443, 1, none⟩) (Kd.S_far (p := ⟨gb443, 0, none⟩) (Kd.S_types HO413.out BK443.out (by decide)) (fun _ hk => hk.2) (.slice Ao75 t436.length co75)) (fun _ hk => hk.2) (.slice Ao81 t439.length co81)) (fun _ h_ => h_.1))) hb) (Kd.S_base ho0)) (Kd.R_base ho1)) (fun _ h_ => h_.1)); have n3_ := k0 (Kd.R_elder' (by (with_reducible repeat (first | apply Kd.R_alloc | apply Kd.R_drewN | apply Kd.R_drew)); exact (Kd.R_mono (Kd.R_far (p := ⟨gb443, 1, none⟩) (Kd.R_far (p := ⟨gb443, 0, none⟩) (Kd.R_types HO416.out BK443.out (by decide)) (fun _ hk => hk.2) (.slice Ao75 t436.length co75)) (fun _ hk => hk.2) (.slice Ao81 t439.length co81)) (fun _ h_ => h_.1))) (Kd.R_base ho1) hb); have n4_ := k0 (Kd.S_mono (Kd.S_told (Kd.S_told (Kd.S_old (by (with_reducible repeat (first | apply Kd.S_alloc | apply Kd.S_drewN | apply Kd.S_drew)); exact (Kd.S_mono (Kd.S_far (p := ⟨gb443, 1, none⟩) (Kd.S_far (p := ⟨gb443, 0, none⟩) (Kd.S_types HO422.out BK443.out (by decide)) (fun _ hk => hk.2) (.slice Ao75 t436.length co75)) (fun _ hk => hk.2) (.slice Ao81 t439.length co81)) (fun _ h_ => h_.1))) hb) (Kd.S_base ho0)) (Kd.R_base ho1)) (fun _ h_ => h_.1)); have n5_ := k0 (Kd.R_elder' (by (with_reducible repeat (first | apply Kd.R_alloc | apply Kd.R_drewN | apply Kd.R_drew)); exact (Kd.R_mono (Kd.R_far (p := ⟨gb443, 1, none⟩) (Kd.R_far (p := ⟨gb443, 0, none⟩) (Kd.R_types HO425.out BK443.out (by decide)) (fun _ hk => hk.2) (.slice Ao75 t436.length co75)) (fun _ hk => hk.2) (.slice Ao81 t439.length co81)) (fun _ h_ => h_.1))) (Kd.R_base ho1) hb); have n6_ := k0 (Kd.S_mono (Kd.S_told (Kd.S_told (Kd.S_old (by (with_reducible repeat (first | apply Kd.S_alloc | apply Kd.S_drewN | apply Kd.S_drew)); exact (Kd.S_mono (Kd.S_far (p := ⟨gb443, 1, none⟩) (Kd.S_far (p := ⟨gb443, 0, none⟩) (Kd.S_types HO430.out BK443.out (by decide)) (fun _ hk => hk.2) (.slice Ao75 t436.length co75)) (fun _ hk => hk.2) (.slice Ao81 t439.length co81)) (fun _ h_ => h_.1))) hb) (Kd.S_base ho0)) (Kd.R_base ho1)) (fun _ h_ => h_.1)); have n7_ := k0 (Kd.R_elder' (by (with_reducible repeat (first | apply Kd.R_alloc | apply Kd.R_drewN | apply Kd.R_drew)); exact (Kd.R_mono (Kd.R_far (p := ⟨gb443, 1, none⟩) (Kd.R_far (p := ⟨gb443, 0, none⟩) (Kd.R_types HO433.out BK443.out (by decide)) (fun _ hk => hk.2) (.slice Ao75 t436.length co75)) (fun _ hk => hk.2) (.slice Ao81 t439.length co81)) (fun _ h_ => h_.1))) (Kd.R_base ho1) hb); have n8_ := k0 (Kd.S_mono (Kd.S_told (Kd.S_told (Kd.S_old (by (with_reducible repeat (first | apply Kd.S_alloc | apply Kd.S_drewN | apply Kd.S_drew)); exact (Kd.S_mono (Kd.S_far (p := ⟨gb443, 1, none⟩) (Kd.S_far (p := ⟨gb443, 0, none⟩) (Kd.S_types HO438.out BK443.out (by decide)) (fun _ hk => hk.2) (.slice Ao75 t436.length co75)) (fun _ hk => hk.2) (.slice Ao81 t439.length co81)) (fun _ h_ => h_.1))) hb) (Kd.S_base ho0)) (Kd.R_base ho1)) (fun _ h_ => h_.1)); have n9_ := k0 (Kd.R_elder' (by (with_reducible repeat (first | apply Kd.R_alloc | apply Kd.R_drewN | apply Kd.R_drew)); exact (Kd.R_mono (Kd.R_far (p := ⟨gb443, 1, none⟩) (Kd.R_far (p := ⟨gb443, 0, none⟩) (Kd.R_types HO441.out BK443.out (by decide)) (fun _ hk => hk.2) (.slice Ao75 t436.length co75)) (fun _ hk => hk.2) (.slice Ao81 t439.length co81)) (fun _ h_ => h_.1))) (Kd.R_base ho1) hb); have n10_ := k0 (Kd.S_lower (Kd.S_new' (Kd.S_new' (Kd.S_new' (Kd.S_new' (Kd.S_new' (Kd.S_new' (Kd.S_new' (Kd.S_new' (Kd.S_new' ho0 (Kd.R_lt (by (with_reducible repeat (first | apply Kd.R_alloc | apply Kd.R_drewN | apply Kd.R_drew)); exact (Kd.R_mono (Kd.R_far (p := ⟨gb443, 1, none⟩) (Kd.R_far (p := ⟨gb443, 0, none⟩) (Kd.R_types HO408.out BK443.out (by decide)) (fun _ hk => hk.2) (.slice Ao75 t436.length co75)) (fun _ hk => hk.2) (.slice Ao81 t439.length co81)) (fun _ h_ => h_.1))))) (Kd.S_lt (by (with_reducible repeat (first | apply Kd.S_alloc | apply Kd.S_drewN | apply Kd.S_drew)); exact (Kd.S_mono (Kd.S_far (p := ⟨gb443, 1, none⟩) (Kd.S_far (p := ⟨gb443, 0, none⟩) (Kd.S_types HO413.out BK443.out (by decide)) (fun _ hk => hk.2) (.slice Ao75 t436.length co75)) (fun _ hk => hk.2) (.slice Ao81 t439.length co81)) (fun _ h_ => h_.1))))) (Kd.R_lt (by (with_reducible repeat (first | apply Kd.R_alloc | apply Kd.R_drewN | apply Kd.R_drew)); exact (Kd.R_mono (Kd.R_far (p := ⟨gb443, 1, none⟩) (Kd.R_far (p := ⟨gb443, 0, none⟩) (Kd.R_types HO416.out BK443.out (by decide)) (fun _ hk => hk.2) (.slice Ao75 t436.length co75)) (fun _ hk => hk.2) (.slice Ao81 t439.length co81)) (fun _ h_ => h_.1))))) (Kd.S_lt (by (with_reducible repeat (first | apply Kd.S_alloc | apply Kd.S_drewN | apply Kd.S_drew)); exact (Kd.S_mono (Kd.S_far (p := ⟨gb443, 1, none⟩) (Kd.S_far (p := ⟨gb443, 0, none⟩) (Kd.S_types HO422.out BK443.out (by decide)) (fun _ hk => hk.2) (.slice Ao75 t436.length co75)) (fun _ hk => hk.2) (.slice Ao81 t439.length co81)) (fun _ h_ => h_.1))))) (Kd.R_lt (by (with_reducible repeat (first | apply Kd.R_alloc | apply Kd.R_drewN | apply Kd.R_drew)); exact (Kd.R_mono (Kd.R_far (p := ⟨gb443, 1, none⟩) (Kd.R_far (p := ⟨gb443, 0, none⟩) (Kd.R_types HO425.out BK443.out (by decide)) (fun _ hk => hk.2) (.slice Ao75 t436.length co75)) (fun _ hk => hk.2) (.slice Ao81 t439.length co81)) (fun _ h_ => h_.1))))) (Kd.S_lt (by (with_reducible repeat (first | apply Kd.S_alloc | apply Kd.S_drewN | apply Kd.S_drew)); exact (Kd.S_mono (Kd.S_far (p := ⟨gb443, 1, none⟩) (Kd.S_far (p := ⟨gb443, 0, none⟩) (Kd.S_types HO430.out BK443.out (by decide)) (fun _ hk => hk.2) (.slice Ao75 t436.length co75)) (fun _ hk => hk.2) (.slice Ao81 t439.length co81)) (fun _ h_ => h_.1))))) (Kd.R_lt (by (with_reducible repeat (first | apply Kd.R_alloc | apply Kd.R_drewN | apply Kd.R_drew)); exact (Kd.R_mono (Kd.R_far (p := ⟨gb443, 1, none⟩) (Kd.R_far (p := ⟨gb443, 0, none⟩) (Kd.R_types HO433.out BK443.out (by decide)) (fun _ hk => hk.2) (.slice Ao75 t436.length co75)) (fun _ hk => hk.2) (.slice Ao81 t439.length co81)) (fun _ h_ => h_.1))))) (Kd.S_lt (by (with_reducible repeat (first | apply Kd.S_alloc | apply Kd.S_drewN | apply Kd.S_drew)); exact (Kd.S_mono (Kd.S_far (p := ⟨gb443, 1, none⟩) (Kd.S_far (p := ⟨gb443, 0, none⟩) (Kd.S_types HO438.out BK443.out (by decide)) (fun _ hk => hk.2) (.slice Ao75 t436.length co75)) (fun _ hk => hk.2) (.slice Ao81 t439.length co81)) (fun _ h_ => h_.1))))) (Kd.R_lt (by (with_reducible repeat (first | apply Kd.R_alloc | apply Kd.R_drewN | apply Kd.R_drew)); exact (Kd.R_mono (Kd.R_far (p := ⟨gb443, 1, none⟩) (Kd.R_far (p := ⟨gb443, 0, none⟩) (Kd.R_types HO441.out BK443.out (by decide)) (fun _ hk => hk.2) (.slice Ao75 t436.length co75)) (fun _ hk => hk.2) (.slice Ao81 t439.length co81)) (fun _ h_ => h_.1))))) (below_size (kW HB.out))); have n11_ := k0 (Kd.R_lower (Kd.R_new' (Kd.R_new' (Kd.R_new' (Kd.R_new' (Kd.R_new' ho1 (Kd.R_lt (by (with_reducible repeat (first | apply Kd.R_alloc | apply Kd.R_drewN | apply Kd.R_drew)); exact (Kd.R_mono (Kd.R_far (p := ⟨gb443, 1, none⟩) (Kd.R_far (p := ⟨gb443, 0, none⟩) (Kd.R_types HO408.out BK443.out (by decide)) (fun _ hk => hk.2) (.slice Ao75 t436.length co75)) (fun _ hk => hk.2) (.slice Ao81 t439.length co81)) (fun _ h_ => h_.1))))) (Kd.R_lt (by (with_reducible repeat (first | apply Kd.R_alloc | apply Kd.R_drewN | apply Kd.R_drew)); exact (Kd.R_mono (Kd.R_far (p := ⟨gb443, 1, none⟩) (Kd.R_far (p := ⟨gb443, 0, none⟩) (Kd.R_types HO416.out BK443.out (by decide)) (fun _ hk => hk.2) (.slice Ao75 t436.length co75)) (fun _ hk => hk.2) (.slice Ao81 t439.length co81)) (fun _ h_ => h_.1))))) (Kd.R_lt (by (with_reducible repeat (first | apply Kd.R_alloc | apply Kd.R_drewN | apply Kd.R_drew)); exact (Kd.R_mono (Kd.R_far (p := ⟨gb443, 1, none⟩) (Kd.R_far (p := ⟨gb443, 0, none⟩) (Kd.R_types HO425.out BK443.out (by decide)) (fun _ hk => hk.2) (.slice Ao75 t436.length co75)) (fun _ hk => hk.2) (.slice Ao81 t439.length co81)) (fun _ h_ => h_.1))))) (Kd.R_lt (by (with_reducible repeat (first | apply Kd.R_alloc | apply Kd.R_drewN | apply Kd.R_drew)); exact (Kd.R_mono (Kd.R_far (p := ⟨gb443, 1, none⟩) (Kd.R_far (p := ⟨gb443, 0, none⟩) (Kd.R_types HO433.out BK443.out (by decide)) (fun _ hk => hk.2) (.slice Ao75 t436.length co75)) (fun _ hk => hk.2) (.slice Ao81 t439.length co81)) (fun _ h_ => h_.1))))) (Kd.R_lt (by (with_reducible repeat (first | apply Kd.R_alloc | apply Kd.R_drewN | apply Kd.R_drew)); exact (Kd.R_mono (Kd.R_far (p := ⟨gb443, 1, none⟩) (Kd.R_far (p := ⟨gb443, 0, none⟩) (Kd.R_types HO441.out BK443.out (by decide)) (fun _ hk => hk.2) (.slice Ao75 t436.length co75)) (fun _ hk => hk.2) (.slice Ao81 t439.length co81)) (fun _ h_ => h_.1))))) (below_size (kW HB.out))); have n12_ := k0 (blk_below (g := gb409) (o := .cells #[.slice Ao35 t403.length co35, .slice Ao37 t406.length co37] 28 (0, 0)) (by (with_reducible repeat first | apply k1 | apply k2 | apply k3); refine blk_far ?_ NB409_443.out _; (with_reducible repeat first | apply k1 | apply k2 | apply k3); refine blk_far ?_ NB409_443.out _; (with_reducible repeat first | apply k1 | apply k2 | apply k3); exact BK409.out) hb); have n13_ := k0 (blk_below (g := gb418) (o := .cells #[.slice Ao44 t411.length co44, .slice Ao46 t414.length co46] 28 (0, 0)) (by (with_reducible repeat first | apply k1 | apply k2 | apply k3); refine blk_far ?_ NB418_443.out _; (with_reducible repeat first | apply k1 | apply k2 | apply k3); refine blk_far ?_ NB418_443.out _; (with_reducible repeat first | apply k1 | apply k2 | apply k3); exact BK418.out) hb); have n14_ := k0 (blk_below (g := gb427) (o := .cells #[.slice Ao54 t420.length co54, .slice Ao56 t423.length co56] 28 (0, 0)) (by (with_reducible repeat first | apply k1 | apply k2 | apply k3); refine blk_far ?_ NB427_443.out _; (with_reducible repeat first | apply k1 | apply k2 | apply k3); refine blk_far ?_ NB427_443.out _; (with_reducible repeat first | apply k1 | apply k2 | apply k3); exact BK427.out) hb); have n15_ := k0 (blk_below (g := gb435) (o := .cells #[.slice Ao65 t428.length co65, .slice Ao70 t431.length co70] 28 (0, 0)) (by (with_reducible repeat first | apply k1 | apply k2 | apply k3); refine blk_far ?_ NB435_443.out _; (with_reducible repeat first | apply k1 | apply k2 | apply k3); refine blk_far ?_ NB435_443.out _; (with_reducible repeat first | apply k1 | apply k2 | apply k3); exact BK435.out) hb); have n16_ := k0 (blk_below (g := gb443) (o := .cells #[.slice Ao75 t436.length co75, .slice Ao81 t439.length co81] 28 (0, 0)) (by (with_reducible repeat first | apply k1 | apply k2 | apply k3); refine blk_put (cs := #[.slice Ao75 t436.length co75, .slice none 0 0]) ?_ 1 _ rfl; (with_reducible repeat first | apply k1 | apply k2 | apply k3); refine blk_put (cs := #[.slice none 0 0, .slice none 0 0]) ?_ 0 _ rfl; (with_reducible repeat first | apply k1 | apply k2 | apply k3); exact BK443.out) hb); have n17_ := k0 (below_step (kW HB.out) hb); clear HO405; clear HO408; clear HO413; clear HO416; clear HO422; clear HO425; clear HO430; clear HO433; clear HO438; clear HO441; clear BK409; clear BK418; clear BK427; clear BK435; clear BK443; clear HB; have HO405 := n0_; have HO408 := n1_; have HO413 := n2_; have HO416 := n3_; have HO422 := n4_; have HO425 := n5_; have HO430 := n6_; have HO433 := n7_; have HO438 := n8_; have HO441 := n9_; have HO446 := n10_; have HO449 := n11_; have BK409 := n12_; have BK418 := n13_; have BK427 := n14_; have BK435 := n15_; have BK443 := n16_; have HB := n17_; clear n0_ n1_ n2_ n3_ n4_ n5_ n6_ n7_ n8_ n9_ n10_ n11_ n12_ n13_ n14_ n15_ n16_ n17_; (try clear hb); (try clear hb2); (try clear hk); (try clear hi); (try clear ho0); (try clear ho1)) | ((with_reducible refine gate_dst (N := 13) rfl ?_); refine kE (N := 13) (cs := #[.slice none 0 0, .slice none 0 0]) (t := 28) ?_; intro gb451 hg w85 hbox hb; have n0_ := k0 (Kd.V_below (Kd.V_elderB (kV HO405.out) gb451 (Nat.le_of_eq hg.symm)) hb); have n1_ := k0 (Kd.R_below (kR HO408.out) hb); have n2_ := k0 (Kd.S_below (kS HO413.out) hb); have n3_ := k0 (Kd.R_below (kR HO416.out) hb); have n4_ := k0 (Kd.S_below (kS HO422.out) hb); have n5_ := k0 (Kd.R_below (kR HO425.out) hb); have n6_ := k0 (Kd.S_below (kS HO430.out) hb); have n7_ := k0 (Kd.R_below (kR HO433.out) hb); have n8_ := k0 (Kd.S_below (kS HO438.out) hb); have n9_ := k0 (Kd.R_below (kR HO441.out) hb); have n10_ := k0 (Kd.S_below (kS HO446.out) hb); have n11_ := k0 (Kd.R_below (kR HO449.out) hb); have n12_ := k0 (kb BK409.out hb); have n13_ := k0 (kb BK418.out hb); have n14_ := k0 (kb BK427.out hb); have n15_ := k0 (kb BK435.out hb); have n16_ := k0 (kb BK443.out hb); have n17_ := k0 (below_step (kW HB.out) hb); have n18_ := k0 (hbox); have n19_ := k0 (kY HB.out hg); have n20_ := k0 (kY HB.out hg); have n21_ := k0 ((by rw [hg]; exact Nat.ne_of_lt (blk_lt (g := gb409) (o := .cells #[.slice Ao35 t403.length co35, .slice Ao37 t406.length co37] 28 (0, 0)) (kB BK409.out)) : gb409 ≠ gb451)); have n22_ := k0 ((by rw [hg]; exact Nat.ne_of_gt (blk_lt (g := gb409) (o := .cells #[.slice Ao35 t403.length co35, .slice Ao37 t406.length co37] 28 (0, 0)) (kB BK409.out)) : gb451 ≠ gb409)); have n23_ := k0 ((by rw [hg]; exact Nat.ne_of_lt (blk_lt (g := gb418) (o := .cells #[.slice Ao44 t411.length co44, .slice Ao46 t414.length co46] 28 (0, 0)) (kB BK418.out)) : gb418 ≠ gb451)); have n24_ := k0 ((by rw [hg]; exact Nat.ne_of_gt (blk_lt (g := gb418) (o := .cells #[.slice Ao44 t411.length co44, .slice Ao46 t414.length co46] 28 (0, 0)) (kB BK418.out)) : gb451 ≠ gb418)); have n25_ := k0 ((by rw [hg]; exact Nat.ne_of_lt (blk_lt (g := gb427) (o := .cells #[.slice Ao54 t420.length co54, .slice Ao56 t423.length co56] 28 (0, 0)) (kB BK427.out)) : gb427 ≠ gb451)); have n26_ := k0 ((by rw [hg]; exact Nat.ne_of_gt (blk_lt (g := gb427) (o := .cells #[.slice Ao54 t420.length co54, .slice Ao56 t423.length co56] 28 (0, 0)) (kB BK427.out)) : gb451 ≠ gb427)); have n27_ := k0 ((by rw [hg]; exact Nat.ne_of_lt (blk_lt (g := gb435) (o := .cells #[.slice Ao65 t428.length co65, .slice Ao70 t431.length co70] 28 (0, 0)) (kB BK435.out)) : gb435 ≠ gb451)); have n28_ := k0 ((by rw [hg]; exact Nat.ne_of_gt (blk_lt (g := gb435) (o := .cells #[.slice Ao65 t428.length co65, .slice Ao70 t431.length co70] 28 (0, 0)) (kB BK435.out)) : gb451 ≠ gb435)); have n29_ := k0 ((by rw [hg]; exact Nat.ne_of_lt (blk_lt (g := gb443) (o := .cells #[.slice Ao75 t436.length co75, .slice Ao81 t439.length co81] 28 (0, 0)) (kB BK443.out)) : gb443 ≠ gb451)); have n30_ := k0 ((by rw [hg]; exact Nat.ne_of_gt (blk_lt (g := gb443) (o := .cells #[.slice Ao75 t436.length co75, .slice Ao81 t439.length co81] 28 (0, 0)) (kB BK443.out)) : gb451 ≠ gb443)); clear HO405; clear HO408; clear HO413; clear HO416; clear HO422; clear HO425; clear HO430; clear HO433; clear HO438; clear HO441; clear HO446; clear HO449; clear BK409; clear BK418; clear BK427; clear BK435; clear BK443; clear HB; have HO405 := n0_; have HO408 := n1_; have HO413 := n2_; have HO416 := n3_; have HO422 := n4_; have HO425 := n5_; have HO430 := n6_; have HO433 := n7_; have HO438 := n8_; have HO441 := n9_; have HO446 := n10_; have HO449 := n11_; have BK409 := n12_; have BK418 := n13_; have BK427 := n14_; have BK435 := n15_; have BK443 := n16_; have HB := n17_; have BK451 := n18_; have GW451 := n19_; have GE451 := n20_; have NB409_451 := n21_; have NB451_409 := n22_; have NB418_451 := n23_; have NB451_418 := n24_; have NB427_451 := n25_; have NB451_427 := n26_; have NB435_451 := n27_; have NB451_435 := n28_; have NB443_451 := n29_; have NB451_443 := n30_; clear n0_ n1_ n2_ n3_ n4_ n5_ n6_ n7_ n8_ n9_ n10_ n11_ n12_ n13_ n14_ n15_ n16_ n17_ n18_ n19_ n20_ n21_ n22_ n23_ n24_ n25_ n26_ n27_ n28_ n29_ n30_; clear hb hbox hg; obtain ⟨Ao86, co86, eo86⟩ := Kd.S_slice HO446.out; subst eo86; have hnb87 := NB451_409.out; have hnc87 := NB409_451.out; have hnb88 := NB451_418.out; have hnc88 := NB418_451.out; have hnb89 := NB451_427.out; have hnc89 := NB427_451.out; have hnb90 := NB451_435.out; have hnc90 := NB435_451.out; have hnb91 := NB451_443.out; have hnc91 := NB443_451.out; have hcz92_0 : w85.cell? ⟨gb451, 0, none⟩ = some (.slice none 0 0) := kx BK451.out; have hcz92_1 : w85.cell? ⟨gb451, 1, none⟩ = some (.slice none 0 0) := kx BK451.out; have hfz92_0 := blk_frozen BK451.out 0; have hfz92_1 := blk_frozen BK451.out 1; obtain ⟨Ao93, co93, eo93⟩ := Kd.R_slice HO449.out; subst eo93; have hcz94_0 : w85.cell? ⟨gb409, 0, none⟩ = some (.slice Ao35 t403.length co35) := kx BK409.out; have hcz94_1 : w85.cell? ⟨gb409, 1, none⟩ = some (.slice Ao37 t406.length co37) := kx BK409.out; have hfz94_0 := blk_frozen BK409.out 0; have hfz94_1 := blk_frozen BK409.out 1) | ((with_reducible refine gate_callee (f := 25) rfl ?_); refine kG (some 63) Try.func25 #[.agg #[.slice Ao35 t403.length co35, .slice Ao37 t406.length co37], .agg #[.slice Ao35 t403.length co35, .slice Ao37 t406.length co37]] ?_; (with_reducible refine (impl_Meet.calls k _ _ t403 _ _ t406 _ _ t403 _ _ t406 t452 t455 true _ ?side1 ?side2 ?side3 ?side4 ?side5 ?side6 ?side7 ?side8 A12.out).mono ?_); (case side1 => refine (Kd.V_reads' (e := 23) (base := w.heap.size) (ok := fun k_ => ((((((((((some k_ ≠ (.slice Ao37 t406.length co37 : Value).ownBlock ∧ (some k_ ≠ (.slice Ao44 t411.length co44 : Value).ownBlock ∧ (some k_ ≠ (.slice Ao46 t414.length co46 : Value).ownBlock ∧ (some k_ ≠ (.slice Ao54 t420.length co54 : Value).ownBlock ∧ (some k_ ≠ (.slice Ao56 t423.length co56 : Value).ownBlock ∧ (k_ ≠ gb409 ∧ (k_ ≠ gb418 ∧ k_ ≠ gb427))))))) ∧ some k_ ≠ (.slice Ao65 t428.length co65 : Value).ownBlock) ∧ some k_ ≠ (.slice Ao70 t431.length co70 : Value).ownBlock) ∧ k_ ≠ gb435) ∧ some k_ ≠ (.slice Ao75 t436.length co75 : Value).ownBlock) ∧ some k_ ≠ (.slice Ao81 t439.length co81 : Value).ownBlock) ∧ k_ ≠ gb443) ∧ some k_ ≠ (.slice Ao86 t444.length co86 : Value).ownBlock) ∧ some k_ ≠ (.slice Ao93 t447.length co93 : Value).ownBlock) ∧ k_ ≠ gb451)) (n := t403.length) (c := co35) ?_).2.2; exact (by (with_reducible repeat (first | apply Kd.V_alloc | apply Kd.V_drewN | apply Kd.V_drew)); exact (Kd.V_mono (Kd.V_far (p := ⟨gb451, 1, none⟩) (Kd.V_far (p := ⟨gb451, 0, none⟩) (Kd.V_mono HO405.out (fun k_ hk => (⟨hk, hk.2⟩ : _ ∧ k_ ≠ gb451))) (fun _ hk => hk.2) (.slice Ao86 t444.length co86)) (fun _ hk => hk.2) (.slice Ao93 t447.length co93)) (fun _ h_ => h_.1)))); (case side2 => exact (Kd.V_reads' HO405.out).2.1); (case side3 => refine (Kd.R_reads' (e := 3) (base := w.heap.size) (ok := fun k_ => ((((some k_ ≠ (.slice Ao46 t414.length co46 : Value).ownBlock ∧ some k_ ≠ (.slice Ao56 t423.length co56 : Value).ownBlock) ∧ some k_ ≠ (.slice Ao70 t431.length co70 : Value).ownBlock) ∧ some k_ ≠ (.slice Ao81 t439.length co81 : Value).ownBlock) ∧ some k_ ≠ (.slice Ao93 t447.length co93 : Value).ownBlock)) (n := t406.length) (c := co37) ?_).2.2; exact (by (with_reducible repeat (first | apply Kd.R_alloc | apply Kd.R_drewN | apply Kd.R_drew)); exact (Kd.R_mono (Kd.R_far (p := ⟨gb451, 1, none⟩) (Kd.R_far (p := ⟨gb451, 0, none⟩) (Kd.R_types HO408.out BK451.out (by decide)) (fun _ hk => hk.2) (.slice Ao86 t444.length co86)) (fun _ hk => hk.2) (.slice Ao93 t447.length co93)) (fun _ h_ => h_.1)))); (case side4 => exact (Kd.R_reads' HO408.out).2.1); (case side5 => refine (Kd.V_reads' (e := 23) (base := w.heap.size) (ok := fun k_ => ((((((((((some k_ ≠ (.slice Ao37 t406.length co37 : Value).ownBlock ∧ (some k_ ≠ (.slice Ao44 t411.length co44 : Value).ownBlock ∧ (some k_ ≠ (.slice Ao46 t414.length co46 : Value).ownBlock ∧ (some k_ ≠ (.slice Ao54 t420.length co54 : Value).ownBlock ∧ (some k_ ≠ (.slice Ao56 t423.length co56 : Value).ownBlock ∧ (k_ ≠ gb409 ∧ (k_ ≠ gb418 ∧ k_ ≠ gb427))))))) ∧ some k_ ≠ (.slice Ao65 t428.length co65 : Value).ownBlock) ∧ some k_ ≠ (.slice Ao70 t431.length co70 : Value).ownBlock) ∧ k_ ≠ gb435) ∧ some k_ ≠ (.slice Ao75 t436.length co75 : Value).ownBlock) ∧ some k_ ≠ (.slice Ao81 t439.length co81 : Value).ownBlock) ∧ k_ ≠ gb443) ∧ some k_ ≠ (.slice Ao86 t444.length co86 : Value).ownBlock) ∧ some k_ ≠ (.slice Ao93 t447.length co93 : Value).ownBlock) ∧ k_ ≠ gb451)) (n := t403.length) (c := co35) ?_).2.2; exact (by (with_reducible repeat (first | apply Kd.V_alloc | apply Kd.V_drewN | apply Kd.V_drew)); exact (Kd.V_mono (Kd.V_far (p := ⟨gb451, 1, none⟩) (Kd.V_far (p := ⟨gb451, 0, none⟩) (Kd.V_mono HO405.out (fun k_ hk => (⟨hk, hk.2⟩ : _ ∧ k_ ≠ gb451))) (fun _ hk => hk.2) (.slice Ao86 t444.length co86)) (fun _ hk => hk.2) (.slice Ao93 t447.length co93)) (fun _ h_ => h_.1)))); (case side6 => exact (Kd.V_reads' HO405.out).2.1); (case side7 => refine (Kd.R_reads' (e := 3) (base := w.heap.size) (ok := fun k_ => ((((some k_ ≠ (.slice Ao46 t414.length co46 : Value).ownBlock ∧ some k_ ≠ (.slice Ao56 t423.length co56 : Value).ownBlock) ∧ some k_ ≠ (.slice Ao70 t431.length co70 : Value).ownBlock) ∧ some k_ ≠ (.slice Ao81 t439.length co81 : Value).ownBlock) ∧ some k_ ≠ (.slice Ao93 t447.length co93 : Value).ownBlock)) (n := t406.length) (c := co37) ?_).2.2; exact (by (with_reducible repeat (first | apply Kd.R_alloc | apply Kd.R_drewN | apply Kd.R_drew)); exact (Kd.R_mono (Kd.R_far (p := ⟨gb451, 1, none⟩) (Kd.R_far (p := ⟨gb451, 0, none⟩) (Kd.R_types HO408.out BK451.out (by decide)) (fun _ hk => hk.2) (.slice Ao86 t444.length co86)) (fun _ hk => hk.2) (.slice Ao93 t447.length co93)) (fun _ h_ => h_.1)))); (case side8 => exact (Kd.R_reads' HO408.out).2.1); rintro e w95 ⟨v453, v456, rfl, ho0, ho1, hb⟩; refine ⟨_, rfl, ?_⟩; have n0_ := k0 (Kd.V_mono (Kd.V_told (Kd.V_told (Kd.V_old (by (with_reducible repeat (first | apply Kd.V_alloc | apply Kd.V_drewN | apply Kd.V_drew)); exact (Kd.V_mono (Kd.V_far (p := ⟨gb451, 1, none⟩) (Kd.V_far (p := ⟨gb451, 0, none⟩) (Kd.V_mono HO405.out (fun k_ hk => (⟨hk, hk.2⟩ : _ ∧ k_ ≠ gb451))) (fun _ hk => hk.2) (.slice Ao86 t444.length co86)) (fun _ hk => hk.2) (.slice Ao93 t447.length co93)) (fun _ h_ => h_.1))) hb) (Kd.S_base ho0)) (Kd.R_base ho1)) (fun _ h_ => h_.1)); have n1_ := k0 (Kd.R_elder' (by (with_reducible repeat (first | apply Kd.R_alloc | apply Kd.R_drewN | apply Kd.R_drew)); exact (Kd.R_mono (Kd.R_far (p := ⟨gb451, 1, none⟩) (Kd.R_far (p := ⟨gb451, 0, none⟩) (Kd.R_types HO408.out BK451.out (by decide)) (fun _ hk => hk.2) (.slice Ao86 t444.length co86)) (fun _ hk => hk.2) (.slice Ao93 t447.length co93)) (fun _ h_ => h_.1))) (Kd.R_base ho1) hb); have n2_ := k0 (Kd.S_mono (Kd.S_told (Kd.S_told (Kd.S_old (by (with_reducible repeat (first | apply Kd.S_alloc | apply Kd.S_drewN | apply Kd.S_drew)); exact (Kd.S_mono (Kd.S_far (p := ⟨gb451, 1, none⟩) (Kd.S_far (p := ⟨gb451, 0, none⟩) (Kd.S_types HO413.out BK451.out (by decide)) (fun _ hk => hk.2) (.slice Ao86 t444.length co86)) (fun _ hk => hk.2) (.slice Ao93 t447.length co93)) (fun _ h_ => h_.1))) hb) (Kd.S_base ho0)) (Kd.R_base ho1)) (fun _ h_ => h_.1)); have n3_ := k0 (Kd.R_elder' (by (with_reducible repeat (first | apply Kd.R_alloc | apply Kd.R_drewN | apply Kd.R_drew)); exact (Kd.R_mono (Kd.R_far (p := ⟨gb451, 1, none⟩) (Kd.R_far (p := ⟨gb451, 0, none⟩) (Kd.R_types HO416.out BK451.out (by decide)) (fun _ hk => hk.2) (.slice Ao86 t444.length co86)) (fun _ hk => hk.2) (.slice Ao93 t447.length co93)) (fun _ h_ => h_.1))) (Kd.R_base ho1) hb); have n4_ := k0 (Kd.S_mono (Kd.S_told (Kd.S_told (Kd.S_old (by (with_reducible repeat (first | apply Kd.S_alloc | apply Kd.S_drewN | apply Kd.S_drew)); exact (Kd.S_mono (Kd.S_far (p := ⟨gb451, 1, none⟩) (Kd.S_far (p := ⟨gb451, 0, none⟩) (Kd.S_types HO422.out BK451.out (by decide)) (fun _ hk => hk.2) (.slice Ao86 t444.length co86)) (fun _ hk => hk.2) (.slice Ao93 t447.length co93)) (fun _ h_ => h_.1))) hb) (Kd.S_base ho0)) (Kd.R_base ho1)) (fun _ h_ => h_.1)); have n5_ := k0 (Kd.R_elder' (by (with_reducible repeat (first | apply Kd.R_alloc | apply Kd.R_drewN | apply Kd.R_drew)); exact (Kd.R_mono (Kd.R_far (p := ⟨gb451, 1, none⟩) (Kd.R_far (p := ⟨gb451, 0, none⟩) (Kd.R_types HO425.out BK451.out (by decide)) (fun _ hk => hk.2) (.slice Ao86 t444.length co86)) (fun _ hk => hk.2) (.slice Ao93 t447.length co93)) (fun _ h_ => h_.1))) (Kd.R_base ho1) hb); have n6_ := k0 (Kd.S_mono (Kd.S_told (Kd.S_told (Kd.S_old (by (with_reducible repeat (first | apply Kd.S_alloc | apply Kd.S_drewN | apply Kd.S_drew)); exact (Kd.S_mono (Kd.S_far (p := ⟨gb451, 1, none⟩) (Kd.S_far (p := ⟨gb451, 0, none⟩) (Kd.S_types HO430.out BK451.out (by decide)) (fun _ hk => hk.2) (.slice Ao86 t444.length co86)) (fun _ hk => hk.2) (.slice Ao93 t447.length co93)) (fun _ h_ => h_.1))) hb) (Kd.S_base ho0)) (Kd.R_base ho1)) (fun _ h_ => h_.1)); have n7_ := k0 (Kd.R_elder' (by (with_reducible repeat (first | apply Kd.R_alloc | apply Kd.R_drewN | apply Kd.R_drew)); exact (Kd.R_mono (Kd.R_far (p := ⟨gb451, 1, none⟩) (Kd.R_far (p := ⟨gb451, 0, none⟩) (Kd.R_types HO433.out BK451.out (by decide)) (fun _ hk => hk.2) (.slice Ao86 t444.length co86)) (fun _ hk => hk.2) (.slice Ao93 t447.length co93)) (fun _ h_ => h_.1))) (Kd.R_base ho1) hb); have n8_ := k0 (Kd.S_mono (Kd.S_told (Kd.S_told (Kd.S_old (by (with_reducible repeat (first | apply Kd.S_alloc | apply Kd.S_drewN | apply Kd.S_drew)); exact (Kd.S_mono (Kd.S_far (p := ⟨gb451, 1, none⟩) (Kd.S_far (p := ⟨gb451, 0, none⟩) (Kd.S_types HO438.out BK451.out (by decide)) (fun _ hk => hk.2) (.slice Ao86 t444.length co86)) (fun _ hk => hk.2) (.slice Ao93 t447.length co93)) (fun _ h_ => h_.1))) hb) (Kd.S_base ho0)) (Kd.R_base ho1)) (fun _ h_ => h_.1)); have n9_ := k0 (Kd.R_elder' (by (with_reducible repeat (first | apply Kd.R_alloc | apply Kd.R_drewN | apply Kd.R_drew)); exact (Kd.R_mono (Kd.R_far (p := ⟨gb451, 1, none⟩) (Kd.R_far (p := ⟨gb451, 0, none⟩) (Kd.R_types HO441.out BK451.out (by decide)) (fun _ hk => hk.2) (.slice Ao86 t444.length co86)) (fun _ hk => hk.2) (.slice Ao93 t447.length co93)) (fun _ h_ => h_.1))) (Kd.R_base ho1) hb); have n10_ := k0 (Kd.S_mono (Kd.S_told (Kd.S_told (Kd.S_old (by (with_reducible repeat (first | apply Kd.S_alloc | apply Kd.S_drewN | apply Kd.S_drew)); exact (Kd.S_mono (Kd.S_far (p := ⟨gb451, 1, none⟩) (Kd.S_far (p := ⟨gb451, 0, none⟩) (Kd.S_types HO446.out BK451.out (by decide)) (fun _ hk => hk.2) (.slice Ao86 t444.length co86)) (fun _ hk => hk.2) (.slice Ao93 t447.length co93)) (fun _ h_ => h_.1))) hb) (Kd.S_base ho0)) (Kd.R_base ho1)) (fun _ h_ => h_.1)); have n11_ := k0 (Kd.R_elder' (by (with_reducible repeat (first | apply Kd.R_alloc | apply Kd.R_drewN | apply Kd.R_drew)); exact (Kd.R_mono (Kd.R_far (p := ⟨gb451, 1, none⟩) (Kd.R_far (p := ⟨gb451, 0, none⟩) (Kd.R_types HO449.out BK451.out (by decide)) (fun _ hk => hk.2) (.slice Ao86 t444.length co86)) (fun _ hk => hk.2) (.slice Ao93 t447.length co93)) (fun _ h_ => h_.1))) (Kd.R_base ho1) hb); have n12_ := k0 (Kd.S_lower (Kd.S_new' (Kd.S_new' (Kd.S_new' (Kd.S_new' (Kd.S_new' (Kd.S_new' (Kd.S_new' (Kd.S_new' (Kd.S_new' (Kd.S_new' (Kd.S_new' ho0 (Kd.R_lt (by (with_reducible repeat (first | apply Kd.R_alloc | apply Kd.R_drewN | apply Kd.R_drew)); exact (Kd.R_mono (Kd.R_far (p := ⟨gb451, 1, none⟩) (Kd.R_far (p := ⟨gb451, 0, none⟩) (Kd.R_types HO408.out BK451.out (by decide)) (fun _ hk => hk.2) (.slice Ao86 t444.length co86)) (fun _ hk => hk.2) (.slice Ao93 t447.length co93)) (fun _ h_ => h_.1))))) (Kd.S_lt (by (with_reducible repeat (first | apply Kd.S_alloc | apply Kd.S_drewN | apply Kd.S_drew)); exact (Kd.S_mono (Kd.S_far (p := ⟨gb451, 1, none⟩) (Kd.S_far (p := ⟨gb451, 0, none⟩) (Kd.S_types HO413.out BK451.out (by decide)) (fun _ hk => hk.2) (.slice Ao86 t444.length co86)) (fun _ hk => hk.2) (.slice Ao93 t447.length co93)) (fun _ h_ => h_.1))))) (Kd.R_lt (by (with_reducible repeat (first | apply Kd.R_alloc | apply Kd.R_drewN | apply Kd.R_drew)); exact (Kd.R_mono (Kd.R_far (p := ⟨gb451, 1, none⟩) (Kd.R_far (p := ⟨gb451, 0, none⟩) (Kd.R_types HO416.out BK451.out (by decide)) (fun _ hk => hk.2) (.slice Ao86 t444.length co86)) (fun _ hk => hk.2) (.slice Ao93 t447.length co93)) (fun _ h_ => h_.1))))) (Kd.S_lt (by (with_reducible repeat (first | apply Kd.S_alloc | apply Kd.S_drewN | apply Kd.S_drew)); exact (Kd.S_mono (Kd.S_far (p := ⟨gb451, 1, none⟩) (Kd.S_far (p := ⟨gb451, 0, none⟩) (Kd.S_types HO422.out BK451.out (by decide)) (fun _ hk => hk.2) (.slice Ao86 t444.length co86)) (fun _ hk => hk.2) (.slice Ao93 t447.length co93)) (fun _ h_ => h_.1))))) (Kd.R_lt (by (with_reducible repeat (first | apply Kd.R_alloc | apply Kd.R_drewN | apply Kd.R_drew)); exact (Kd.R_mono (Kd.R_far (p := ⟨gb451, 1, none⟩) (Kd.R_far (p := ⟨gb451, 0, none⟩) (Kd.R_types HO425.out BK451.out (by decide)) (fun _ hk => hk.2) (.slice Ao86 t444.length co86)) (fun _ hk => hk.2) (.slice Ao93 t447.length co93)) (fun _ h_ => h_.1))))) (Kd.S_lt (by (with_reducible repeat (first | apply Kd.S_alloc | apply Kd.S_drewN | apply Kd.S_drew)); exact (Kd.S_mono (Kd.S_far (p := ⟨gb451, 1, none⟩) (Kd.S_far (p := ⟨gb451, 0, none⟩) (Kd.S_types HO430.out BK451.out (by decide)) (fun _ hk => hk.2) (.slice Ao86 t444.length co86)) (fun _ hk => hk.2) (.slice Ao93 t447.length co93)) (fun _ h_ => h_.1))))) (Kd.R_lt (by (with_reducible repeat (first | apply Kd.R_alloc | apply Kd.R_drewN | apply Kd.R_drew)); exact (Kd.R_mono (Kd.R_far (p := ⟨gb451, 1, none⟩) (Kd.R_far (p := ⟨gb451, 0, none⟩) (Kd.R_types HO433.out BK451.out (by decide)) (fun _ hk => hk.2) (.slice Ao86 t444.length co86)) (fun _ hk => hk.2) (.slice Ao93 t447.length co93)) (fun _ h_ => h_.1))))) (Kd.S_lt (by (with_reducible repeat (first | apply Kd.S_alloc | apply Kd.S_drewN | apply Kd.S_drew)); exact (Kd.S_mono (Kd.S_far (p := ⟨gb451, 1, none⟩) (Kd.S_far (p := ⟨gb451, 0, none⟩) (Kd.S_types HO438.out BK451.out (by decide)) (fun _ hk => hk.2) (.slice Ao86 t444.length co86)) (fun _ hk => hk.2) (.slice Ao93 t447.length co93)) (fun _ h_ => h_.1))))) (Kd.R_lt (by (with_reducible repeat (first | apply Kd.R_alloc | apply Kd.R_drewN | apply Kd.R_drew)); exact (Kd.R_mono (Kd.R_far (p := ⟨gb451, 1, none⟩) (Kd.R_far (p := ⟨gb451, 0, none⟩) (Kd.R_types HO441.out BK451.out (by decide)) (fun _ hk => hk.2) (.slice Ao86 t444.length co86)) (fun _ hk => hk.2) (.slice Ao93 t447.length co93)) (fun _ h_ => h_.1))))) (Kd.S_lt (by (with_reducible repeat (first | apply Kd.S_alloc | apply Kd.S_drewN | apply Kd.S_drew)); exact (Kd.S_mono (Kd.S_far (p := ⟨gb451, 1, none⟩) (Kd.S_far (p := ⟨gb451, 0, none⟩) (Kd.S_types HO446.out BK451.out (by decide)) (fun _ hk => hk.2) (.slice Ao86 t444.length co86)) (fun _ hk => hk.2) (.slice Ao93 t447.length co93)) (fun _ h_ => h_.1))))) (Kd.R_lt (by (with_reducible repeat (first | apply Kd.R_alloc | apply Kd.R_drewN | apply Kd.R_drew)); exact (Kd.R_mono (Kd.R_far (p := ⟨gb451, 1, none⟩) (Kd.R_far (p := ⟨gb451, 0, none⟩) (Kd.R_types HO449.out BK451.out (by decide)) (fun _ hk => hk.2) (.slice Ao86 t444.length co86)) (fun _ hk => hk.2) (.slice Ao93 t447.length co93)) (fun _ h_ => h_.1))))) (below_size (kW HB.out))); have n13_ := k0 (Kd.R_lower (Kd.R_new' (Kd.R_new' (Kd.R_new' (Kd.R_new' (Kd.R_new' (Kd.R_new' ho1 (Kd.R_lt (by (with_reducible repeat (first | apply Kd.R_alloc | apply Kd.R_drewN | apply Kd.R_drew)); exact (Kd.R_mono (Kd.R_far (p := ⟨gb451, 1, none⟩) (Kd.R_far (p := ⟨gb451, 0, none⟩) (Kd.R_types HO408.out BK451.out (by decide)) (fun _ hk => hk.2) (.slice Ao86 t444.length co86)) (fun _ hk => hk.2) (.slice Ao93 t447.length co93)) (fun _ h_ => h_.1))))) (Kd.R_lt (by (with_reducible repeat (first | apply Kd.R_alloc | apply Kd.R_drewN | apply Kd.R_drew)); exact (Kd.R_mono (Kd.R_far (p := ⟨gb451, 1, none⟩) (Kd.R_far (p := ⟨gb451, 0, none⟩) (Kd.R_types HO416.out BK451.out (by decide)) (fun _ hk => hk.2) (.slice Ao86 t444.length co86)) (fun _ hk => hk.2) (.slice Ao93 t447.length co93)) (fun _ h_ => h_.1))))) (Kd.R_lt (by (with_reducible repeat (first | apply Kd.R_alloc | apply Kd.R_drewN | apply Kd.R_drew)); exact (Kd.R_mono (Kd.R_far (p := ⟨gb451, 1, none⟩) (Kd.R_far (p := ⟨gb451, 0, none⟩) (Kd.R_types HO425.out BK451.out (by decide)) (fun _ hk => hk.2) (.slice Ao86 t444.length co86)) (fun _ hk => hk.2) (.slice Ao93 t447.length co93)) (fun _ h_ => h_.1))))) (Kd.R_lt (by (with_reducible repeat (first | apply Kd.R_alloc | apply Kd.R_drewN | apply Kd.R_drew)); exact (Kd.R_mono (Kd.R_far (p := ⟨gb451, 1, none⟩) (Kd.R_far (p := ⟨gb451, 0, none⟩) (Kd.R_types HO433.out BK451.out (by decide)) (fun _ hk => hk.2) (.slice Ao86 t444.length co86)) (fun _ hk => hk.2) (.slice Ao93 t447.length co93)) (fun _ h_ => h_.1))))) (Kd.R_lt (by (with_reducible repeat (first | apply Kd.R_alloc | apply Kd.R_drewN | apply Kd.R_drew)); exact (Kd.R_mono (Kd.R_far (p := ⟨gb451, 1, none⟩) (Kd.R_far (p := ⟨gb451, 0, none⟩) (Kd.R_types HO441.out BK451.out (by decide)) (fun _ hk => hk.2) (.slice Ao86 t444.length co86)) (fun _ hk => hk.2) (.slice Ao93 t447.length co93)) (fun _ h_ => h_.1))))) (Kd.R_lt (by (with_reducible repeat (first | apply Kd.R_alloc | apply Kd.R_drewN | apply Kd.R_drew)); exact (Kd.R_mono (Kd.R_far (p := ⟨gb451, 1, none⟩) (Kd.R_far (p := ⟨gb451, 0, none⟩) (Kd.R_types HO449.out BK451.out (by decide)) (fun _ hk => hk.2) (.slice Ao86 t444.length co86)) (fun _ hk => hk.2) (.slice Ao93 t447.length co93)) (fun _ h_ => h_.1))))) (below_size (kW HB.out))); have n14_ := k0 (blk_below (g := gb409) (o := .cells #[.slice Ao35 t403.length co35, .slice Ao37 t406.length co37] 28 (0, 0)) (by (with_reducible repeat first | apply k1 | apply k2 | apply k3); refine blk_far ?_ NB409_451.out _; (with_reducible repeat first | apply k1 | apply k2 | apply k3); refine blk_far ?_ NB409_451.out _; (with_reducible repeat first | apply k1 | apply k2 | apply k3); exact BK409.out) hb); have n15_ := k0 (blk_below (g := gb418) (o := .cells #[.slice Ao44 t411.length co44, .slice Ao46 t414.length co46] 28 (0, 0)) (by (with_reducible repeat first | apply k1 | apply k2 | apply k3); refine blk_far ?_ NB418_451.out _; (with_reducible repeat first | apply k1 | apply k2 | apply k3); refine blk_far ?_ NB418_451.out _; (with_reducible repeat first | apply k1 | apply k2 | apply k3); exact BK418.out) hb); have n16_ := k0 (blk_below (g := gb427) (o := .cells #[.slice Ao54 t420.length co54, .slice Ao56 t423.length co56] 28 (0, 0)) (by (with_reducible repeat first | apply k1 | apply k2 | apply k3); refine blk_far ?_ NB427_451.out _; (with_reducible repeat first | apply k1 | apply k2 | apply k3); refine blk_far ?_ NB427_451.out _; (with_reducible repeat first | apply k1 | apply k2 | apply k3); exact BK427.out) hb); have n17_ := k0 (blk_below (g := gb435) (o := .cells #[.slice Ao65 t428.length co65, .slice Ao70 t431.length co70] 28 (0, 0)) (by (with_reducible repeat first | apply k1 | apply k2 | apply k3); refine blk_far ?_ NB435_451.out _; (with_reducible repeat first | apply k1 | apply k2 | apply k3); refine blk_far ?_ NB435_451.out _; (with_reducible repeat first | apply k1 | apply k2 | apply k3); exact BK435.out) hb); have n18_ := k0 (blk_below (g := gb443) (o := .cells #[.slice Ao75 t436.length co75, .slice Ao81 t439.length co81] 28 (0, 0)) (by (with_reducible repeat first | apply k1 | apply k2 | apply k3); refine blk_far ?_ NB443_451.out _; (with_reducible repeat first | apply k1 | apply k2 | apply k3); refine blk_far ?_ NB443_451.out _; (with_reducible repeat first | apply k1 | apply k2 | apply k3); exact BK443.out) hb); have n19_ := k0 (blk_below (g := gb451) (o := .cells #[.slice Ao86 t444.length co86, .slice Ao93 t447.length co93] 28 (0, 0)) (by (with_reducible repeat first | apply k1 | apply k2 | apply k3); refine blk_put (cs := #[.slice Ao86 t444.length co86, .slice none 0 0]) ?_ 1 _ rfl; (with_reducible repeat first | apply k1 | apply k2 | apply k3); refine blk_put (cs := #[.slice none 0 0, .slice none 0 0]) ?_ 0 _ rfl; (with_reducible repeat first | apply k1 | apply k2 | apply k3); exact BK451.out) hb); have n20_ := k0 (below_step (kW HB.out) hb); clear HO405; clear HO408; clear HO413; clear HO416; clear HO422; clear HO425; clear HO430; clear HO433; clear HO438; clear HO441; clear HO446; clear HO449; clear BK409; clear BK418; clear BK427; clear BK435; clear BK443; clear BK451; clear HB; have HO405 := n0_; have HO408 := n1_; have HO413 := n2_; have HO416 := n3_; have HO422 := n4_; have HO425 := n5_; have HO430 := n6_; have HO433 := n7_; have HO438 := n8_; have HO441 := n9_; have HO446 := n10_; have HO449 := n11_; have HO454 := n12_; have HO457 := n13_; have BK409 := n14_; have BK418 := n15_; have BK427 := n16_; have BK435 := n17_; have BK443 := n18_; have BK451 := n19_; have HB := n20_; clear n0_ n1_ n2_ n3_ n4_ n5_ n6_ n7_ n8_ n9_ n10_ n11_ n12_ n13_ n14_ n15_ n16_ n17_ n18_ n19_ n20_; (try clear hb); (try clear hb2); (try clear hk); (try clear hi); (try clear ho0); (try clear ho1)) | ((with_reducible refine gate_dst (N := 15) rfl ?_); refine kE (N := 15) (cs := #[.slice none 0 0, .slice none 0 0]) (t := 28) ?_; intro gb459 hg w96 hbox hb; have n0_ := k0 (Kd.V_below (Kd.V_elderB (kV HO405.out) gb459 (Nat.le_of_eq hg.symm)) hb); have n1_ := k0 (Kd.R_below (kR HO408.out) hb); have n2_ := k0 (Kd.S_below (kS HO413.out) hb); have n3_ := k0 (Kd.R_below (kR HO416.out) hb); have n4_ := k0 (Kd.S_below (kS HO422.out) hb); have n5_ := k0 (Kd.R_below (kR HO425.out) hb); have n6_ := k0 (Kd.S_below (kS HO430.out) hb); have n7_ := k0 (Kd.R_below (kR HO433.out) hb); have n8_ := k0 (Kd.S_below (kS HO438.out) hb); have n9_ := k0 (Kd.R_below (kR HO441.out) hb); have n10_ := k0 (Kd.S_below (kS HO446.out) hb); have n11_ := k0 (Kd.R_below (kR HO449.out) hb); have n12_ := k0 (Kd.S_below (kS HO454.out) hb); have n13_ := k0 (Kd.R_below (kR HO457.out) hb); have n14_ := k0 (kb BK409.out hb); have n15_ := k0 (kb BK418.out hb); have n16_ := k0 (kb BK427.out hb); have n17_ := k0 (kb BK435.out hb); have n18_ := k0 (kb BK443.out hb); have n19_ := k0 (kb BK451.out hb); have n20_ := k0 (below_step (kW HB.out) hb); have n21_ := k0 (hbox); have n22_ := k0 (kY HB.out hg); have n23_ := k0 (kY HB.out hg); have n24_ := k0 ((by rw [hg]; exact Nat.ne_of_lt (blk_lt (g := gb409) (o := .cells #[.slice Ao35 t403.length co35, .slice Ao37 t406.length co37] 28 (0, 0)) (kB BK409.out)) : gb409 ≠ gb459)); have n25_ := k0 ((by rw [hg]; exact Nat.ne_of_gt (blk_lt (g := gb409) (o := .cells #[.slice Ao35 t403.length co35, .slice Ao37 t406.length co37] 28 (0, 0)) (kB BK409.out)) : gb459 ≠ gb409)); have n26_ := k0 ((by rw [hg]; exact Nat.ne_of_lt (blk_lt (g := gb418) (o := .cells #[.slice Ao44 t411.length co44, .slice Ao46 t414.length co46] 28 (0, 0)) (kB BK418.out)) : gb418 ≠ gb459)); have n27_ := k0 ((by rw [hg]; exact Nat.ne_of_gt (blk_lt (g := gb418) (o := .cells #[.slice Ao44 t411.length co44, .slice Ao46 t414.length co46] 28 (0, 0)) (kB BK418.out)) : gb459 ≠ gb418)); have n28_ := k0 ((by rw [hg]; exact Nat.ne_of_lt (blk_lt (g := gb427) (o := .cells #[.slice Ao54 t420.length co54, .slice Ao56 t423.length co56] 28 (0, 0)) (kB BK427.out)) : gb427 ≠ gb459)); have n29_ := k0 ((by rw [hg]; exact Nat.ne_of_gt (blk_lt (g := gb427) (o := .cells #[.slice Ao54 t420.length co54, .slice Ao56 t423.length co56] 28 (0, 0)) (kB BK427.out)) : gb459 ≠ gb427)); have n30_ := k0 ((by rw [hg]; exact Nat.ne_of_lt (blk_lt (g := gb435) (o := .cells #[.slice Ao65 t428.length co65, .slice Ao70 t431.length co70] 28 (0, 0)) (kB BK435.out)) : gb435 ≠ gb459)); have n31_ := k0 ((by rw [hg]; exact Nat.ne_of_gt (blk_lt (g := gb435) (o := .cells #[.slice Ao65 t428.length co65, .slice Ao70 t431.length co70] 28 (0, 0)) (kB BK435.out)) : gb459 ≠ gb435)); have n32_ := k0 ((by rw [hg]; exact Nat.ne_of_lt (blk_lt (g := gb443) (o := .cells #[.slice Ao75 t436.length co75, .slice Ao81 t439.length co81] 28 (0, 0)) (kB BK443.out)) : gb443 ≠ gb459)); have n33_ := k0 ((by rw [hg]; exact Nat.ne_of_gt (blk_lt (g := gb443) (o := .cells #[.slice Ao75 t436.length co75, .slice Ao81 t439.length co81] 28 (0, 0)) (kB BK443.out)) : gb459 ≠ gb443)); have n34_ := k0 ((by rw [hg]; exact Nat.ne_of_lt (blk_lt (g := gb451) (o := .cells #[.slice Ao86 t444.length co86, .slice Ao93 t447.length co93] 28 (0, 0)) (kB BK451.out)) : gb451 ≠ gb459)); have n35_ := k0 ((by rw [hg]; exact Nat.ne_of_gt (blk_lt (g := gb451) (o := .cells #[.slice Ao86 t444.length co86, .slice Ao93 t447.length co93] 28 (0, 0)) (kB BK451.out)) : gb459 ≠ gb451)); clear HO405; clear HO408; clear HO413; clear HO416; clear HO422; clear HO425; clear HO430; clear HO433; clear HO438; clear HO441; clear HO446; clear HO449; clear HO454; clear HO457; clear BK409; clear BK418; clear BK427; clear BK435; clear BK443; clear BK451; clear HB; have HO405 := n0_; have HO408 := n1_; have HO413 := n2_; have HO416 := n3_; have HO422 := n4_; have HO425 := n5_; have HO430 := n6_; have HO433 := n7_; have HO438 := n8_; have HO441 := n9_; have HO446 := n10_; have HO449 := n11_; have HO454 := n12_; have HO457 := n13_; have BK409 := n14_; have BK418 := n15_; have BK427 := n16_; have BK435 := n17_; have BK443 := n18_; have BK451 := n19_; have HB := n20_; have BK459 := n21_; have GW459 := n22_; have GE459 := n23_; have NB409_459 := n24_; have NB459_409 := n25_; have NB418_459 := n26_; have NB459_418 := n27_; have NB427_459 := n28_; have NB459_427 := n29_; have NB435_459 := n30_; have NB459_435 := n31_; have NB443_459 := n32_; have NB459_443 := n33_; have NB451_459 := n34_; have NB459_451 := n35_; clear n0_ n1_ n2_ n3_ n4_ n5_ n6_ n7_ n8_ n9_ n10_ n11_ n12_ n13_ n14_ n15_ n16_ n17_ n18_ n19_ n20_ n21_ n22_ n23_ n24_ n25_ n26_ n27_ n28_ n29_ n30_ n31_ n32_ n33_ n34_ n35_; clear hb hbox hg; obtain ⟨Ao97, co97, eo97⟩ := Kd.S_slice HO454.out; subst eo97; have hnb98 := NB459_409.out; have hnc98 := NB409_459.out; have hnb99 := NB459_418.out; have hnc99 := NB418_459.out; have hnb100 := NB459_427.out; have hnc100 := NB427_459.out; have hnb101 := NB459_435.out; have hnc101 := NB435_459.out; have hnb102 := NB459_443.out; have hnc102 := NB443_459.out; have hnb103 := NB459_451.out; have hnc103 := NB451_459.out; have hcz104_0 : w96.cell? ⟨gb459, 0, none⟩ = some (.slice none 0 0) := kx BK459.out; have hcz104_1 : w96.cell? ⟨gb459, 1, none⟩ = some (.slice none 0 0) := kx BK459.out; have hfz104_0 := blk_frozen BK459.out 0; have hfz104_1 := blk_frozen BK459.out 1; obtain ⟨Ao105, co105, eo105⟩ := Kd.R_slice HO457.out; subst eo105; have hcz106_0 : w96.cell? ⟨gb435, 0, none⟩ = some (.slice Ao65 t428.length co65) := kx BK435.out; have hcz106_1 : w96.cell? ⟨gb435, 1, none⟩ = some (.slice Ao70 t431.length co70) := kx BK435.out; have hfz106_0 := blk_frozen BK435.out 0; have hfz106_1 := blk_frozen BK435.out 1; have hcz107_0 : w96.cell? ⟨gb443, 0, none⟩ = some (.slice Ao75 t436.length co75) := kx BK443.out; have hcz107_1 : w96.cell? ⟨gb443, 1, none⟩ = some (.slice Ao81 t439.length co81) := kx BK443.out; have hfz107_0 := blk_frozen BK443.out 0; have hfz107_1 := blk_frozen BK443.out 1) | (go_at_call 36; (with_reducible refine (impl_RightsSame.calls k _ _ t428 _ _ t431 _ _ t436 _ _ t439 true _ ?side1 ?side2 ?side3 ?side4 ?side5 ?side6 ?side7 ?side8 A19.out).mono ?_); (case side1 => refine (Kd.S_reads' (e := 23) (base := w.heap.size) (ok := fun k_ => (((((((((((some k_ ≠ (.slice Ao70 t431.length co70 : Value).ownBlock ∧ some k_ ≠ (.slice Ao37 t406.length co37 : Value).ownBlock) ∧ some k_ ≠ (.slice Ao44 t411.length co44 : Value).ownBlock) ∧ some k_ ≠ (.slice Ao46 t414.length co46 : Value).ownBlock) ∧ some k_ ≠ (.slice Ao54 t420.length co54 : Value).ownBlock) ∧ some k_ ≠ (.slice Ao56 t423.length co56 : Value).ownBlock) ∧ some k_ ≠ (.slice Ao75 t436.length co75 : Value).ownBlock) ∧ some k_ ≠ (.slice Ao81 t439.length co81 : Value).ownBlock) ∧ some k_ ≠ (.slice Ao86 t444.length co86 : Value).ownBlock) ∧ some k_ ≠ (.slice Ao93 t447.length co93 : Value).ownBlock) ∧ some k_ ≠ (.slice Ao97 t452.length co97 : Value).ownBlock) ∧ some k_ ≠ (.slice Ao105 t455.length co105 : Value).ownBlock)) (n := t428.length) (c := co65) ?_).2.2; exact (by (with_reducible repeat (first | apply Kd.S_alloc | apply Kd.S_drewN | apply Kd.S_drew)); exact (Kd.S_mono (Kd.S_far (p := ⟨gb459, 1, none⟩) (Kd.S_far (p := ⟨gb459, 0, none⟩) (Kd.S_types HO430.out BK459.out (by decide)) (fun _ hk => hk.2) (.slice Ao97 t452.length co97)) (fun _ hk => hk.2) (.slice Ao105 t455.length co105)) (fun _ h_ => h_.1)))); (case side2 => exact (Kd.S_reads' HO430.out).2.1); (case side3 => refine (Kd.R_reads' (e := 3) (base := w.heap.size) (ok := fun k_ => ((((((True ∧ some k_ ≠ (.slice Ao37 t406.length co37 : Value).ownBlock) ∧ some k_ ≠ (.slice Ao46 t414.length co46 : Value).ownBlock) ∧ some k_ ≠ (.slice Ao56 t423.length co56 : Value).ownBlock) ∧ some k_ ≠ (.slice Ao81 t439.length co81 : Value).ownBlock) ∧ some k_ ≠ (.slice Ao93 t447.length co93 : Value).ownBlock) ∧ some k_ ≠ (.slice Ao105 t455.length co105 : Value).ownBlock)) (n := t431.length) (c := co70) ?_).2.2; exact (by (with_reducible repeat (first | apply Kd.R_alloc | apply Kd.R_drewN | apply Kd.R_drew)); exact (Kd.R_mono (Kd.R_far (p := ⟨gb459, 1, none⟩) (Kd.R_far (p := ⟨gb459, 0, none⟩) (Kd.R_types HO433.out BK459.out (by decide)) (fun _ hk => hk.2) (.slice Ao97 t452.length co97)) (fun _ hk => hk.2) (.slice Ao105 t455.length co105)) (fun _ h_ => h_.1)))); (case side4 => exact (Kd.R_reads' HO433.out).2.1); (case side5 => refine (Kd.S_reads' (e := 23) (base := w.heap.size) (ok := fun k_ => (((((((((((some k_ ≠ (.slice Ao81 t439.length co81 : Value).ownBlock ∧ some k_ ≠ (.slice Ao37 t406.length co37 : Value).ownBlock) ∧ some k_ ≠ (.slice Ao44 t411.length co44 : Value).ownBlock) ∧ some k_ ≠ (.slice Ao46 t414.length co46 : Value).ownBlock) ∧ some k_ ≠ (.slice Ao54 t420.length co54 : Value).ownBlock) ∧ some k_ ≠ (.slice Ao56 t423.length co56 : Value).ownBlock) ∧ some k_ ≠ (.slice Ao65 t428.length co65 : Value).ownBlock) ∧ some k_ ≠ (.slice Ao70 t431.length co70 : Value).ownBlock) ∧ some k_ ≠ (.slice Ao86 t444.length co86 : Value).ownBlock) ∧ some k_ ≠ (.slice Ao93 t447.length co93 : Value).ownBlock) ∧ some k_ ≠ (.slice Ao97 t452.length co97 : Value).ownBlock) ∧ some k_ ≠ (.slice Ao105 t455.length co105 : Value).ownBlock)) (n := t436.length) (c := co75) ?_).2.2; exact (by (with_reducible repeat (first | apply Kd.S_alloc | apply Kd.S_drewN | apply Kd.S_drew)); exact (Kd.S_mono (Kd.S_far (p := ⟨gb459, 1, none⟩) (Kd.S_far (p := ⟨gb459, 0, none⟩) (Kd.S_types HO438.out BK459.out (by decide)) (fun _ hk => hk.2) (.slice Ao97 t452.length co97)) (fun _ hk => hk.2) (.slice Ao105 t455.length co105)) (fun _ h_ => h_.1)))); (case side6 => exact (Kd.S_reads' HO438.out).2.1); (case side7 => refine (Kd.R_reads' (e := 3) (base := w.heap.size) (ok := fun k_ => ((((((True ∧ some k_ ≠ (.slice Ao37 t406.length co37 : Value).ownBlock) ∧ some k_ ≠ (.slice Ao46 t414.length co46 : Value).ownBlock) ∧ some k_ ≠ (.slice Ao56 t423.length co56 : Value).ownBlock) ∧ some k_ ≠ (.slice Ao70 t431.length co70 : Value).ownBlock) ∧ some k_ ≠ (.slice Ao93 t447.length co93 : Value).ownBlock) ∧ some k_ ≠ (.slice Ao105 t455.length co105 : Value).ownBlock)) (n := t439.length) (c := co81) ?_).2.2; exact (by (with_reducible repeat (first | apply Kd.R_alloc | apply Kd.R_drewN | apply Kd.R_drew)); exact (Kd.R_mono (Kd.R_far (p := ⟨gb459, 1, none⟩) (Kd.R_far (p := ⟨gb459, 0, none⟩) (Kd.R_types HO441.out BK459.out (by decide)) (fun _ hk => hk.2) (.slice Ao97 t452.length co97)) (fun _ hk => hk.2) (.slice Ao105 t455.length co105)) (fun _ h_ => h_.1)))); (case side8 => exact (Kd.R_reads' HO441.out).2.1); rintro e w108 ⟨rfl, hb⟩; have n0_ := k0 (Kd.V_below (by (with_reducible repeat (first | apply Kd.V_alloc | apply Kd.V_drewN | apply Kd.V_drew)); exact (Kd.V_mono (Kd.V_far (p := ⟨gb459, 1, none⟩) (Kd.V_far (p := ⟨gb459, 0, none⟩) (Kd.V_mono HO405.out (fun k_ hk => (⟨hk, hk.2⟩ : _ ∧ k_ ≠ gb459))) (fun _ hk => hk.2) (.slice Ao97 t452.length co97)) (fun _ hk => hk.2) (.slice Ao105 t455.length co105)) (fun _ h_ => h_.1))) hb); have n1_ := k0 (Kd.R_below (by (with_reducible repeat (first | apply Kd.R_alloc | apply Kd.R_drewN | apply Kd.R_drew)); exact (Kd.R_mono (Kd.R_far (p := ⟨gb459, 1, none⟩) (Kd.R_far (p := ⟨gb459, 0, none⟩) (Kd.R_types HO408.out BK459.out (by decide)) (fun _ hk => hk.2) (.slice Ao97 t452.length co97)) (fun _ hk => hk.2) (.slice Ao105 t455.length co105)) (fun _ h_ => h_.1))) hb); have n2_ := k0 (Kd.S_below (by (with_reducible repeat (first | apply Kd.S_alloc | apply Kd.S_drewN | apply Kd.S_drew)); exact (Kd.S_mono (Kd.S_far (p := ⟨gb459, 1, none⟩) (Kd.S_far (p := ⟨gb459, 0, none⟩) (Kd.S_types HO413.out BK459.out (by decide)) (fun _ hk => hk.2) (.slice Ao97 t452.length co97)) (fun _ hk => hk.2) (.slice Ao105 t455.length co105)) (fun _ h_ => h_.1))) hb); have n3_ := k0 (Kd.R_below (by (with_reducible repeat (first | apply Kd.R_alloc | apply Kd.R_drewN | apply Kd.R_drew)); exact (Kd.R_mono (Kd.R_far (p := ⟨gb459, 1, none⟩) (Kd.R_far (p := ⟨gb459, 0, none⟩) (Kd.R_types HO416.out BK459.out (by decide)) (fun _ hk => hk.2) (.slice Ao97 t452.length co97)) (fun _ hk => hk.2) (.slice Ao105 t455.length co105)) (fun _ h_ => h_.1))) hb); have n4_ := k0 (Kd.S_below (by (with_reducible repeat (first | apply Kd.S_alloc | apply Kd.S_drewN | apply Kd.S_drew)); exact (Kd.S_mono (Kd.S_far (p := ⟨gb459, 1, none⟩) (Kd.S_far (p := ⟨gb459, 0, none⟩) (Kd.S_types HO422.out BK459.out (by decide)) (fun _ hk => hk.2) (.slice Ao97 t452.length co97)) (fun _ hk => hk.2) (.slice Ao105 t455.length co105)) (fun _ h_ => h_.1))) hb); have n5_ := k0 (Kd.R_below (by (with_reducible repeat (first | apply Kd.R_alloc | apply Kd.R_drewN | apply Kd.R_drew)); exact (Kd.R_mono (Kd.R_far (p := ⟨gb459, 1, none⟩) (Kd.R_far (p := ⟨gb459, 0, none⟩) (Kd.R_types HO425.out BK459.out (by decide)) (fun _ hk => hk.2) (.slice Ao97 t452.length co97)) (fun _ hk => hk.2) (.slice Ao105 t455.length co105)) (fun _ h_ => h_.1))) hb); have n6_ := k0 (Kd.S_below (by (with_reducible repeat (first | apply Kd.S_alloc | apply Kd.S_drewN | apply Kd.S_drew)); exact (Kd.S_mono (Kd.S_far (p := ⟨gb459, 1, none⟩) (Kd.S_far (p := ⟨gb459, 0, none⟩) (Kd.S_types HO430.out BK459.out (by decide)) (fun _ hk => hk.2) (.slice Ao97 t452.length co97)) (fun _ hk => hk.2) (.slice Ao105 t455.length co105)) (fun _ h_ => h_.1))) hb); have n7_ := k0 (Kd.R_below (by (with_reducible repeat (first | apply Kd.R_alloc | apply Kd.R_drewN | apply Kd.R_drew)); exact (Kd.R_mono (Kd.R_far (p := ⟨gb459, 1, none⟩) (Kd.R_far (p := ⟨gb459, 0, none⟩) (Kd.R_types HO433.out BK459.out (by decide)) (fun _ hk => hk.2) (.slice Ao97 t452.length co97)) (fun _ hk => hk.2) (.slice Ao105 t455.length co105)) (fun _ h_ => h_.1))) hb); have n8_ := k0 (Kd.S_below (by (with_reducible repeat (first | apply Kd.S_alloc | apply Kd.S_drewN | apply Kd.S_drew)); exact (Kd.S_mono (Kd.S_far (p := ⟨gb459, 1, none⟩) (Kd.S_far (p := ⟨gb459, 0, none⟩) (Kd.S_types HO438.out BK459.out (by decide)) (fun _ hk => hk.2) (.slice Ao97 t452.length co97)) (fun _ hk => hk.2) (.slice Ao105 t455.length co105)) (fun _ h_ => h_.1))) hb); have n9_ := k0 (Kd.R_below (by (with_reducible repeat (first | apply Kd.R_alloc | apply Kd.R_drewN | apply Kd.R_drew)); exact (Kd.R_mono (Kd.R_far (p := ⟨gb459, 1, none⟩) (Kd.R_far (p := ⟨gb459, 0, none⟩) (Kd.R_types HO441.out BK459.out (by decide)) (fun _ hk => hk.2) (.slice Ao97 t452.length co97)) (fun _ hk => hk.2) (.slice Ao105 t455.length co105)) (fun _ h_ => h_.1))) hb); have n10_ := k0 (Kd.S_below (by (with_reducible repeat (first | apply Kd.S_alloc | apply Kd.S_drewN | apply Kd.S_drew)); exact (Kd.S_mono (Kd.S_far (p := ⟨gb459, 1, none⟩) (Kd.S_far (p := ⟨gb459, 0, none⟩) (Kd.S_types HO446.out BK459.out (by decide)) (fun _ hk => hk.2) (.slice Ao97 t452.length co97)) (fun _ hk => hk.2) (.slice Ao105 t455.length co105)) (fun _ h_ => h_.1))) hb); have n11_ := k0 (Kd.R_below (by (with_reducible repeat (first | apply Kd.R_alloc | apply Kd.R_drewN | apply Kd.R_drew)); exact (Kd.R_mono (Kd.R_far (p := ⟨gb459, 1, none⟩) (Kd.R_far (p := ⟨gb459, 0, none⟩) (Kd.R_types HO449.out BK459.out (by decide)) (fun _ hk => hk.2) (.slice Ao97 t452.length co97)) (fun _ hk => hk.2) (.slice Ao105 t455.length co105)) (fun _ h_ => h_.1))) hb); have n12_ := k0 (Kd.S_below (by (with_reducible repeat (first | apply Kd.S_alloc | apply Kd.S_drewN | apply Kd.S_drew)); exact (Kd.S_mono (Kd.S_far (p := ⟨gb459, 1, none⟩) (Kd.S_far (p := ⟨gb459, 0, none⟩) (Kd.S_types HO454.out BK459.out (by decide)) (fun _ hk => hk.2) (.slice Ao97 t452.length co97)) (fun _ hk => hk.2) (.slice Ao105 t455.length co105)) (fun _ h_ => h_.1))) hb); have n13_ := k0 (Kd.R_below (by (with_reducible repeat (first | apply Kd.R_alloc | apply Kd.R_drewN | apply Kd.R_drew)); exact (Kd.R_mono (Kd.R_far (p := ⟨gb459, 1, none⟩) (Kd.R_far (p := ⟨gb459, 0, none⟩) (Kd.R_types HO457.out BK459.out (by decide)) (fun _ hk => hk.2) (.slice Ao97 t452.length co97)) (fun _ hk => hk.2) (.slice Ao105 t455.length co105)) (fun _ h_ => h_.1))) hb); have n14_ := k0 (blk_below (g := gb409) (o := .cells #[.slice Ao35 t403.length co35, .slice Ao37 t406.length co37] 28 (0, 0)) (by (with_reducible repeat first | apply k1 | apply k2 | apply k3); refine blk_far ?_ NB409_459.out _; (with_reducible repeat first | apply k1 | apply k2 | apply k3); refine blk_far ?_ NB409_459.out _; (with_reducible repeat first | apply k1 | apply k2 | apply k3); exact BK409.out) hb); have n15_ := k0 (blk_below (g := gb418) (o := .cells #[.slice Ao44 t411.length co44, .slice Ao46 t414.length co46] 28 (0, 0)) (by (with_reducible repeat first | apply k1 | apply k2 | apply k3); refine blk_far ?_ NB418_459.out _; (with_reducible repeat first | apply k1 | apply k2 | apply k3); refine blk_far ?_ NB418_459.out _; (with_reducible repeat first | apply k1 | apply k2 | apply k3); exact BK418.out) hb); have n16_ := k0 (blk_below (g := gb427) (o := .cells #[.slice Ao54 t420.length co54, .slice Ao56 t423.length co56] 28 (0, 0)) (by (with_reducible repeat first | apply k1 | apply k2 | apply k3); refine blk_far ?_ NB427_459.out _; (with_reducible repeat first | apply k1 | apply k2 | apply k3); refine blk_far ?_ NB427_459.out _; (with_reducible repeat first | apply k1 | apply k2 | apply k3); exact BK427.out) hb); have n17_ := k0 (blk_below (g := gb435) (o := .cells #[.slice Ao65 t428.length co65, .slice Ao70 t431.length co70] 28 (0, 0)) (by (with_reducible repeat first | apply k1 | apply k2 | apply k3); refine blk_far ?_ NB435_459.out _; (with_reducible repeat first | apply k1 | apply k2 | apply k3); refine blk_far ?_ NB435_459.out _; (with_reducible repeat first | apply k1 | apply k2 | apply k3); exact BK435.out) hb); have n18_ := k0 (blk_below (g := gb443) (o := .cells #[.slice Ao75 t436.length co75, .slice Ao81 t439.length co81] 28 (0, 0)) (by (with_reducible repeat first | apply k1 | apply k2 | apply k3); refine blk_far ?_ NB443_459.out _; (with_reducible repeat first | apply k1 | apply k2 | apply k3); refine blk_far ?_ NB443_459.out _; (with_reducible repeat first | apply k1 | apply k2 | apply k3); exact BK443.out) hb); have n19_ := k0 (blk_below (g := gb451) (o := .cells #[.slice Ao86 t444.length co86, .slice Ao93 t447.length co93] 28 (0, 0)) (by (with_reducible repeat first | apply k1 | apply k2 | apply k3); refine blk_far ?_ NB451_459.out _; (with_reducible repeat first | apply k1 | apply k2 | apply k3); refine blk_far ?_ NB451_459.out _; (with_reducible repeat first | apply k1 | apply k2 | apply k3); exact BK451.out) hb); have n20_ := k0 (blk_below (g := gb459) (o := .cells #[.slice Ao97 t452.length co97, .slice Ao105 t455.length co105] 28 (0, 0)) (by (with_reducible repeat first | apply k1 | apply k2 | apply k3); refine blk_put (cs := #[.slice Ao97 t452.length co97, .slice none 0 0]) ?_ 1 _ rfl; (with_reducible repeat first | apply k1 | apply k2 | apply k3); refine blk_put (cs := #[.slice none 0 0, .slice none 0 0]) ?_ 0 _ rfl; (with_reducible repeat first | apply k1 | apply k2 | apply k3); exact BK459.out) hb); have n21_ := k0 (below_step (kW HB.out) hb); clear HO405; clear HO408; clear HO413; clear HO416; clear HO422; clear HO425; clear HO430; clear HO433; clear HO438; clear HO441; clear HO446; clear HO449; clear HO454; clear HO457; clear BK409; clear BK418; clear BK427; clear BK435; clear BK443; clear BK451; clear BK459; clear HB; have HO405 := n0_; have HO408 := n1_; have HO413 := n2_; have HO416 := n3_; have HO422 := n4_; have HO425 := n5_; have HO430 := n6_; have HO433 := n7_; have HO438 := n8_; have HO441 := n9_; have HO446 := n10_; have HO449 := n11_; have HO454 := n12_; have HO457 := n13_; have BK409 := n14_; have BK418 := n15_; have BK427 := n16_; have BK435 := n17_; have BK443 := n18_; have BK451 := n19_; have BK459 := n20_; have HB := n21_; clear n0_ n1_ n2_ n3_ n4_ n5_ n6_ n7_ n8_ n9_ n10_ n11_ n12_ n13_ n14_ n15_ n16_ n17_ n18_ n19_ n20_ n21_; (try clear hb); (try clear hb2); (try clear hk); (try clear hi); have hcz109_0 : w108.cell? ⟨gb451, 0, none⟩ = some (.slice Ao86 t444.length co86) := kx BK451.out; have hcz109_1 : w108.cell? ⟨gb451, 1, none⟩ = some (.slice Ao93 t447.length co93) := kx BK451.out; have hfz109_0 := blk_frozen BK451.out 0; have hfz109_1 := blk_frozen BK451.out 1; have hcz110_0 : w108.cell? ⟨gb435, 0, none⟩ = some (.slice Ao65 t428.length co65) := kx BK435.out; have hcz110_1 : w108.cell? ⟨gb435, 1, none⟩ = some (.slice Ao70 t431.length co70) := kx BK435.out; have hfz110_0 := blk_frozen BK435.out 0; have hfz110_1 := blk_frozen BK435.out 1) | (go_at_call 36; (with_reducible refine (impl_RightsSame.calls k _ _ t444 _ _ t447 _ _ t428 _ _ t431 true _ ?side1 ?side2 ?side3 ?side4 ?side5 ?side6 ?side7 ?side8 A21.out).mono ?_); (case side1 => exact kC (Kd.S_reads' HO446.out).2.2); (case side2 => exact (Kd.S_reads' HO446.out).2.1); (case side3 => exact kC (Kd.R_reads' HO449.out).2.2); (case side4 => exact (Kd.R_reads' HO449.out).2.1); (case side5 => exact kC (Kd.S_reads' HO430.out).2.2); (case side6 => exact (Kd.S_reads' HO430.out).2.1); (case side7 => exact kC (Kd.R_reads' HO433.out).2.2); (case side8 => exact (Kd.R_reads' HO433.out).2.1); rintro e w111 ⟨rfl, hb⟩; have n0_ := k0 (Kd.V_below (kV HO405.out) hb); have n1_ := k0 (Kd.R_below (kR HO408.out) hb); have n2_ := k0 (Kd.S_below (kS HO413.out) hb); have n3_ := k0 (Kd.R_below (kR HO416.out) hb); have n4_ := k0 (Kd.S_below (kS HO422.out) hb); have n5_ := k0 (Kd.R_below (kR HO425.out) hb); have n6_ := k0 (Kd.S_below (kS HO430.out) hb); have n7_ := k0 (Kd.R_below (kR HO433.out) hb); have n8_ := k0 (Kd.S_below (kS HO438.out) hb); have n9_ := k0 (Kd.R_below (kR HO441.out) hb); have n10_ := k0 (Kd.S_below (kS HO446.out) hb); have n11_ := k0 (Kd.R_below (kR HO449.out) hb); have n12_ := k0 (Kd.S_below (kS HO454.out) hb); have n13_ := k0 (Kd.R_below (kR HO457.out) hb); have n14_ := k0 (kb BK409.out hb); have n15_ := k0 (kb BK418.out hb); have n16_ := k0 (kb BK427.out hb); have n17_ := k0 (kb BK435.out hb); have n18_ := k0 (kb BK443.out hb); have n19_ := k0 (kb BK451.out hb); have n20_ := k0 (kb BK459.out hb); have n21_ := k0 (below_step (kW HB.out) hb); clear HO405; clear HO408; clear HO413; clear HO416; clear HO422; clear HO425; clear HO430; clear HO433; clear HO438; clear HO441; clear HO446; clear HO449; clear HO454; clear HO457; clear BK409; clear BK418; clear BK427; clear BK435; clear BK443; clear BK451; clear BK459; clear HB; have HO405 := n0_; have HO408 := n1_; have HO413 := n2_; have HO416 := n3_; have HO422 := n4_; have HO425 := n5_; have HO430 := n6_; have HO433 := n7_; have HO438 := n8_; have HO441 := n9_; have HO446 := n10_; have HO449 := n11_; have HO454 := n12_; have HO457 := n13_; have BK409 := n14_; have BK418 := n15_; have BK427 := n16_; have BK435 := n17_; have BK443 := n18_; have BK451 := n19_; have BK459 := n20_; have HB := n21_; clear n0_ n1_ n2_ n3_ n4_ n5_ n6_ n7_ n8_ n9_ n10_ n11_ n12_ n13_ n14_ n15_ n16_ n17_ n18_ n19_ n20_ n21_; (try clear hb); (try clear hb2); (try clear hk); (try clear hi); have hcz112_0 : w111.cell? ⟨gb459, 0, none⟩ = some (.slice Ao97 t452.length co97) := kx BK459.out; have hcz112_1 : w111.cell? ⟨gb459, 1, none⟩ = some (.slice Ao105 t455.length co105) := kx BK459.out; have hfz112_0 := blk_frozen BK459.out 0; have hfz112_1 := blk_frozen BK459.out 1; have hcz113_0 : w111.cell? ⟨gb409, 0, none⟩ = some (.slice Ao35 t403.length co35) := kx BK409.out; have hcz113_1 : w111.cell? ⟨gb409, 1, none⟩ = some (.slice Ao37 t406.length co37) := kx BK409.out; have hfz113_0 := blk_frozen BK409.out 0; have hfz113_1 := blk_frozen BK409.out 1) | (go_at_call 36; (with_reducible refine (impl_RightsSame.calls k _ _ t452 _ _ t455 _ _ t403 _ _ t406 true _ ?side1 ?side2 ?side3 ?side4 ?side5 ?side6 ?side7 ?side8 A23.out).mono ?_); (case side1 => exact kC (Kd.S_reads' HO454.out).2.2); (case side2 => exact (Kd.S_reads' HO454.out).2.1); (case side3 => exact kC (Kd.R_reads' HO457.out).2.2); (case side4 => exact (Kd.R_reads' HO457.out).2.1); (case side5 => exact kC (Kd.V_reads' HO405.out).2.2); (case side6 => exact (Kd.V_reads' HO405.out).2.1); (case side7 => exact kC (Kd.R_reads' HO408.out).2.2); (case side8 => exact (Kd.R_reads' HO408.out).2.1); rintro e w114 ⟨rfl, hb⟩; have n0_ := k0 (Kd.V_below (kV HO405.out) hb); have n1_ := k0 (Kd.R_below (kR HO408.out) hb); have n2_ := k0 (Kd.S_below (kS HO413.out) hb); have n3_ := k0 (Kd.R_below (kR HO416.out) hb); have n4_ := k0 (Kd.S_below (kS HO422.out) hb); have n5_ := k0 (Kd.R_below (kR HO425.out) hb); have n6_ := k0 (Kd.S_below (kS HO430.out) hb); have n7_ := k0 (Kd.R_below (kR HO433.out) hb); have n8_ := k0 (Kd.S_below (kS HO438.out) hb); have n9_ := k0 (Kd.R_below (kR HO441.out) hb); have n10_ := k0 (Kd.S_below (kS HO446.out) hb); have n11_ := k0 (Kd.R_below (kR HO449.out) hb); have n12_ := k0 (Kd.S_below (kS HO454.out) hb); have n13_ := k0 (Kd.R_below (kR HO457.out) hb); have n14_ := k0 (kb BK409.out hb); have n15_ := k0 (kb BK418.out hb); have n16_ := k0 (kb BK427.out hb); have n17_ := k0 (kb BK435.out hb); have n18_ := k0 (kb BK443.out hb); have n19_ := k0 (kb BK451.out hb); have n20_ := k0 (kb BK459.out hb); have n21_ := k0 (below_step (kW HB.out) hb); clear HO405; clear HO408; clear HO413; clear HO416; clear HO422; clear HO425; clear HO430; clear HO433; clear HO438; clear HO441; clear HO446; clear HO449; clear HO454; clear HO457; clear BK409; clear BK418; clear BK427; clear BK435; clear BK443; clear BK451; clear BK459; clear HB; have HO405 := n0_; have HO408 := n1_; have HO413 := n2_; have HO416 := n3_; have HO422 := n4_; have HO425 := n5_; have HO430 := n6_; have HO433 := n7_; have HO438 := n8_; have HO441 := n9_; have HO446 := n10_; have HO449 := n11_; have HO454 := n12_; have HO457 := n13_; have BK409 := n14_; have BK418 := n15_; have BK427 := n16_; have BK435 := n17_; have BK443 := n18_; have BK451 := n19_; have BK459 := n20_; have HB := n21_; clear n0_ n1_ n2_ n3_ n4_ n5_ n6_ n7_ n8_ n9_ n10_ n11_ n12_ n13_ n14_ n15_ n16_ n17_ n18_ n19_ n20_ n21_; (try clear hb); (try clear hb2); (try clear hk); (try clear hi); have hcz115_0 : w114.cell? ⟨gb409, 0, none⟩ = some (.slice Ao35 t403.length co35) := kx BK409.out; have hcz115_1 : w114.cell? ⟨gb409, 1, none⟩ = some (.slice Ao37 t406.length co37) := kx BK409.out; have hfz115_0 := blk_frozen BK409.out 0; have hfz115_1 := blk_frozen BK409.out 1; have hcz116_0 : w114.cell? ⟨gb418, 0, none⟩ = some (.slice Ao44 t411.length co44) := kx BK418.out; have hcz116_1 : w114.cell? ⟨gb418, 1, none⟩ = some (.slice Ao46 t414.length co46) := kx BK418.out; have hfz116_0 := blk_frozen BK418.out 0; have hfz116_1 := blk_frozen BK418.out 1) | (go_at_call 23; (with_reducible refine (impl_Later.calls k _ _ t403 _ _ t406 _ _ t411 _ _ t414 true _ ?side1 ?side2 ?side3 ?side4 ?side5 ?side6 ?side7 ?side8 A25.out).mono ?_); (case side1 => exact kC (Kd.V_reads' HO405.out).2.2); (case side2 => exact (Kd.V_reads' HO405.out).2.1); (case side3 => exact kC (Kd.R_reads' HO408.out).2.2); (case side4 => exact (Kd.R_reads' HO408.out).2.1); (case side5 => exact kC (Kd.S_reads' HO413.out).2.2); (case side6 => exact (Kd.S_reads' HO413.out).2.1); (case side7 => exact kC (Kd.R_reads' HO416.out).2.2); (case side8 => exact (Kd.R_reads' HO416.out).2.1); rintro e w117 ⟨rfl, hb⟩; have n0_ := k0 (Kd.V_below (kV HO405.out) hb); have n1_ := k0 (Kd.R_below (kR HO408.out) hb); have n2_ := k0 (Kd.S_below (kS HO413.out) hb); have n3_ := k0 (Kd.R_below (kR HO416.out) hb); have n4_ := k0 (Kd.S_below (kS HO422.out) hb); have n5_ := k0 (Kd.R_below (kR HO425.out) hb); have n6_ := k0 (Kd.S_below (kS HO430.out) hb); have n7_ := k0 (Kd.R_below (kR HO433.out) hb); have n8_ := k0 (Kd.S_below (kS HO438.out) hb); have n9_ := k0 (Kd.R_below (kR HO441.out) hb); have n10_ := k0 (Kd.S_below (kS HO446.out) hb); have n11_ := k0 (Kd.R_below (kR HO449.out) hb); have n12_ := k0 (Kd.S_below (kS HO454.out) hb); have n13_ := k0 (Kd.R_below (kR HO457.out) hb); have n14_ := k0 (kb BK409.out hb); have n15_ := k0 (kb BK418.out hb); have n16_ := k0 (kb BK427.out hb); have n17_ := k0 (kb BK435.out hb); have n18_ := k0 (kb BK443.out hb); have n19_ := k0 (kb BK451.out hb); have n20_ := k0 (kb BK459.out hb); have n21_ := k0 (below_step (kW HB.out) hb); clear HO405; clear HO408; clear HO413; clear HO416; clear HO422; clear HO425; clear HO430; clear HO433; clear HO438; clear HO441; clear HO446; clear HO449; clear HO454; clear HO457; clear BK409; clear BK418; clear BK427; clear BK435; clear BK443; clear BK451; clear BK459; clear HB; have HO405 := n0_; have HO408 := n1_; have HO413 := n2_; have HO416 := n3_; have HO422 := n4_; have HO425 := n5_; have HO430 := n6_; have HO433 := n7_; have HO438 := n8_; have HO441 := n9_; have HO446 := n10_; have HO449 := n11_; have HO454 := n12_; have HO457 := n13_; have BK409 := n14_; have BK418 := n15_; have BK427 := n16_; have BK435 := n17_; have BK443 := n18_; have BK451 := n19_; have BK459 := n20_; have HB := n21_; clear n0_ n1_ n2_ n3_ n4_ n5_ n6_ n7_ n8_ n9_ n10_ n11_ n12_ n13_ n14_ n15_ n16_ n17_ n18_ n19_ n20_ n21_; (try clear hb); (try clear hb2); (try clear hk); (try clear hi); have hcz118_0 : w117.cell? ⟨gb418, 0, none⟩ = some (.slice Ao44 t411.length co44) := kx BK418.out; have hcz118_1 : w117.cell? ⟨gb418, 1, none⟩ = some (.slice Ao46 t414.length co46) := kx BK418.out; have hfz118_0 := blk_frozen BK418.out 0; have hfz118_1 := blk_frozen BK418.out 1; have hcz119_0 : w117.cell? ⟨gb435, 0, none⟩ = some (.slice Ao65 t428.length co65) := kx BK435.out; have hcz119_1 : w117.cell? ⟨gb435, 1, none⟩ = some (.slice Ao70 t431.length co70) := kx BK435.out; have hfz119_0 := blk_frozen BK435.out 0; have hfz119_1 := blk_frozen BK435.out 1) | (go_at_call 23; (with_reducible refine (impl_Later.calls k _ _ t411 _ _ t414 _ _ t428 _ _ t431 true _ ?side1 ?side2 ?side3 ?side4 ?side5 ?side6 ?side7 ?side8 A27.out).mono ?_); (case side1 => exact kC (Kd.S_reads' HO413.out).2.2); (case side2 => exact (Kd.S_reads' HO413.out).2.1); (case side3 => exact kC (Kd.R_reads' HO416.out).2.2); (case side4 => exact (Kd.R_reads' HO416.out).2.1); (case side5 => exact kC (Kd.S_reads' HO430.out).2.2); (case side6 => exact (Kd.S_reads' HO430.out).2.1); (case side7 => exact kC (Kd.R_reads' HO433.out).2.2); (case side8 => exact (Kd.R_reads' HO433.out).2.1); rintro e w120 ⟨rfl, hb⟩; have n0_ := k0 (Kd.V_below (kV HO405.out) hb); have n1_ := k0 (Kd.R_below (kR HO408.out) hb); have n2_ := k0 (Kd.S_below (kS HO413.out) hb); have n3_ := k0 (Kd.R_below (kR HO416.out) hb); have n4_ := k0 (Kd.S_below (kS HO422.out) hb); have n5_ := k0 (Kd.R_below (kR HO425.out) hb); have n6_ := k0 (Kd.S_below (kS HO430.out) hb); have n7_ := k0 (Kd.R_below (kR HO433.out) hb); have n8_ := k0 (Kd.S_below (kS HO438.out) hb); have n9_ := k0 (Kd.R_below (kR HO441.out) hb); have n10_ := k0 (Kd.S_below (kS HO446.out) hb); have n11_ := k0 (Kd.R_below (kR HO449.out) hb); have n12_ := k0 (Kd.S_below (kS HO454.out) hb); have n13_ := k0 (Kd.R_below (kR HO457.out) hb); have n14_ := k0 (kb BK409.out hb); have n15_ := k0 (kb BK418.out hb); have n16_ := k0 (kb BK427.out hb); have n17_ := k0 (kb BK435.out hb); have n18_ := k0 (kb BK443.out hb); have n19_ := k0 (kb BK451.out hb); have n20_ := k0 (kb BK459.out hb); have n21_ := k0 (below_step (kW HB.out) hb); clear HO405; clear HO408; clear HO413; clear HO416; clear HO422; clear HO425; clear HO430; clear HO433; clear HO438; clear HO441; clear HO446; clear HO449; clear HO454; clear HO457; clear BK409; clear BK418; clear BK427; clear BK435; clear BK443; clear BK451; clear BK459; clear HB; have HO405 := n0_; have HO408 := n1_; have HO413 := n2_; have HO416 := n3_; have HO422 := n4_; have HO425 := n5_; have HO430 := n6_; have HO433 := n7_; have HO438 := n8_; have HO441 := n9_; have HO446 := n10_; have HO449 := n11_; have HO454 := n12_; have HO457 := n13_; have BK409 := n14_; have BK418 := n15_; have BK427 := n16_; have BK435 := n17_; have BK443 := n18_; have BK451 := n19_; have BK459 := n20_; have HB := n21_; clear n0_ n1_ n2_ n3_ n4_ n5_ n6_ n7_ n8_ n9_ n10_ n11_ n12_ n13_ n14_ n15_ n16_ n17_ n18_ n19_ n20_ n21_; (try clear hb); (try clear hb2); (try clear hk); (try clear hi); have hcz121_0 : w120.cell? ⟨gb427, 0, none⟩ = some (.slice Ao54 t420.length co54) := kx BK427.out; have hcz121_1 : w120.cell? ⟨gb427, 1, none⟩ = some (.slice Ao56 t423.length co56) := kx BK427.out; have hfz121_0 := blk_frozen BK427.out 0; have hfz121_1 := blk_frozen BK427.out 1; have hcz122_0 : w120.cell? ⟨gb435, 0, none⟩ = some (.slice Ao65 t428.length co65) := kx BK435.out; have hcz122_1 : w120.cell? ⟨gb435, 1, none⟩ = some (.slice Ao70 t431.length co70) := kx BK435.out; have hfz122_0 := blk_frozen BK435.out 0; have hfz122_1 := blk_frozen BK435.out 1) | (go_at_call 23; (with_reducible refine (impl_Later.calls k _ _ t420 _ _ t423 _ _ t428 _ _ t431 true _ ?side1 ?side2 ?side3 ?side4 ?side5 ?side6 ?side7 ?side8 A29.out).mono ?_); (case side1 => exact kC (Kd.S_reads' HO422.out).2.2); (case side2 => exact (Kd.S_reads' HO422.out).2.1); (case side3 => exact kC (Kd.R_reads' HO425.out).2.2); (case side4 => exact (Kd.R_reads' HO425.out).2.1); (case side5 => exact kC (Kd.S_reads' HO430.out).2.2); (case side6 => exact (Kd.S_reads' HO430.out).2.1); (case side7 => exact kC (Kd.R_reads' HO433.out).2.2); (case side8 => exact (Kd.R_reads' HO433.out).2.1); rintro e w123 ⟨rfl, hb⟩; have n0_ := k0 (Kd.V_below (kV HO405.out) hb); have n1_ := k0 (Kd.R_below (kR HO408.out) hb); have n2_ := k0 (Kd.S_below (kS HO413.out) hb); have n3_ := k0 (Kd.R_below (kR HO416.out) hb); have n4_ := k0 (Kd.S_below (kS HO422.out) hb); have n5_ := k0 (Kd.R_below (kR HO425.out) hb); have n6_ := k0 (Kd.S_below (kS HO430.out) hb); have n7_ := k0 (Kd.R_below (kR HO433.out) hb); have n8_ := k0 (Kd.S_below (kS HO438.out) hb); have n9_ := k0 (Kd.R_below (kR HO441.out) hb); have n10_ := k0 (Kd.S_below (kS HO446.out) hb); have n11_ := k0 (Kd.R_below (kR HO449.out) hb); have n12_ := k0 (Kd.S_below (kS HO454.out) hb); have n13_ := k0 (Kd.R_below (kR HO457.out) hb); have n14_ := k0 (kb BK409.out hb); have n15_ := k0 (kb BK418.out hb); have n16_ := k0 (kb BK427.out hb); have n17_ := k0 (kb BK435.out hb); have n18_ := k0 (kb BK443.out hb); have n19_ := k0 (kb BK451.out hb); have n20_ := k0 (kb BK459.out hb); have n21_ := k0 (below_step (kW HB.out) hb); clear HO405; clear HO408; clear HO413; clear HO416; clear HO422; clear HO425; clear HO430; clear HO433; clear HO438; clear HO441; clear HO446; clear HO449; clear HO454; clear HO457; clear BK409; clear BK418; clear BK427; clear BK435; clear BK443; clear BK451; clear BK459; clear HB; have HO405 := n0_; have HO408 := n1_; have HO413 := n2_; have HO416 := n3_; have HO422 := n4_; have HO425 := n5_; have HO430 := n6_; have HO433 := n7_; have HO438 := n8_; have HO441 := n9_; have HO446 := n10_; have HO449 := n11_; have HO454 := n12_; have HO457 := n13_; have BK409 := n14_; have BK418 := n15_; have BK427 := n16_; have BK435 := n17_; have BK443 := n18_; have BK451 := n19_; have BK459 := n20_; have HB := n21_; clear n0_ n1_ n2_ n3_ n4_ n5_ n6_ n7_ n8_ n9_ n10_ n11_ n12_ n13_ n14_ n15_ n16_ n17_ n18_ n19_ n20_ n21_; (try clear hb); (try clear hb2); (try clear hk); (try clear hi); have hcz124_0 : w123.cell? ⟨gb435, 0, none⟩ = some (.slice Ao65 t428.length co65) := kx BK435.out; have hcz124_1 : w123.cell? ⟨gb435, 1, none⟩ = some (.slice Ao70 t431.length co70) := kx BK435.out; have hfz124_0 := blk_frozen BK435.out 0; have hfz124_1 := blk_frozen BK435.out 1) | (go_at_call 16; (with_reducible refine (impl_RightsOk.calls k _ _ t428 _ _ t431 t466 _ ?side1 ?side2 ?side3 ?side4 A31.out).mono ?_); (case side1 => exact kC (Kd.S_reads' HO430.out).2.2); (case side2 => exact (Kd.S_reads' HO430.out).2.1); (case side3 => exact kC (Kd.R_reads' HO433.out).2.2); (case side4 => exact (Kd.R_reads' HO433.out).2.1); rintro e w125 ⟨rfl, hb⟩; have n0_ := k0 (Kd.V_below (kV HO405.out) hb); have n1_ := k0 (Kd.R_below (kR HO408.out) hb); have n2_ := k0 (Kd.S_below (kS HO413.out) hb); have n3_ := k0 (Kd.R_below (kR HO416.out) hb); have n4_ := k0 (Kd.S_below (kS HO422.out) hb); have n5_ := k0 (Kd.R_below (kR HO425.out) hb); have n6_ := k0 (Kd.S_below (kS HO430.out) hb); have n7_ := k0 (Kd.R_below (kR HO433.out) hb); have n8_ := k0 (Kd.S_below (kS HO438.out) hb); have n9_ := k0 (Kd.R_below (kR HO441.out) hb); have n10_ := k0 (Kd.S_below (kS HO446.out) hb); have n11_ := k0 (Kd.R_below (kR HO449.out) hb); have n12_ := k0 (Kd.S_below (kS HO454.out) hb); have n13_ := k0 (Kd.R_below (kR HO457.out) hb); have n14_ := k0 (kb BK409.out hb); have n15_ := k0 (kb BK418.out hb); have n16_ := k0 (kb BK427.out hb); have n17_ := k0 (kb BK435.out hb); have n18_ := k0 (kb BK443.out hb); have n19_ := k0 (kb BK451.out hb); have n20_ := k0 (kb BK459.out hb); have n21_ := k0 (below_step (kW HB.out) hb); clear HO405; clear HO408; clear HO413; clear HO416; clear HO422; clear HO425; clear HO430; clear HO433; clear HO438; clear HO441; clear HO446; clear HO449; clear HO454; clear HO457; clear BK409; clear BK418; clear BK427; clear BK435; clear BK443; clear BK451; clear BK459; clear HB; have HO405 := n0_; have HO408 := n1_; have HO413 := n2_; have HO416 := n3_; have HO422 := n4_; have HO425 := n5_; have HO430 := n6_; have HO433 := n7_; have HO438 := n8_; have HO441 := n9_; have HO446 := n10_; have HO449 := n11_; have HO454 := n12_; have HO457 := n13_; have BK409 := n14_; have BK418 := n15_; have BK427 := n16_; have BK435 := n17_; have BK443 := n18_; have BK451 := n19_; have BK459 := n20_; have HB := n21_; clear n0_ n1_ n2_ n3_ n4_ n5_ n6_ n7_ n8_ n9_ n10_ n11_ n12_ n13_ n14_ n15_ n16_ n17_ n18_ n19_ n20_ n21_; (try clear hb); (try clear hb2); (try clear hk); (try clear hi)))
              go_ret
              exact ⟨by first | rfl | (simp [errW_none, errW_some] <;> rfl) | (simp [*, errW_none, errW_some] <;> rfl), by repeat (first | (with_reducible first | exact HB.out | apply below_alloc | apply pw_below_drewN | apply below_drew1 | refine below_set ?_ GE409.out | refine below_set ?_ GE418.out | refine below_set ?_ GE427.out | refine below_set ?_ GE435.out | refine below_set ?_ GE443.out | refine below_set ?_ GE451.out | refine below_set ?_ GE459.out) | exact HB.out)⟩
             ·replace c30 := Bool.eq_false_iff.mpr c30
              subst c30
              have H1 : (some false) = some r := by rw [if_neg (show ¬ (false = true) by decide)] at H; exact H
              clear H
              have H := H1
              clear H1
              exact absurd ((Option.some.inj H).trans HR.out) (by decide)
            ·replace c28 := Bool.eq_false_iff.mpr c28
             subst c28
             have H1 : (some false) = some r := by rw [if_neg (show ¬ (false = true) by decide)] at H; exact H
             clear H
             have H := H1
             clear H1
             exact absurd ((Option.some.inj H).trans HR.out) (by decide)
           ·replace c26 := Bool.eq_false_iff.mpr c26
            subst c26
            have H1 : (some false) = some r := by rw [if_neg (show ¬ (false = true) by decide)] at H; exact H
            clear H
            have H := H1
            clear H1
            exact absurd ((Option.some.inj H).trans HR.out) (by decide)
          ·replace c24 := Bool.eq_false_iff.mpr c24
           subst c24
           have H1 : (some false) = some r := by rw [if_neg (show ¬ (false = true) by decide)] at H; exact H
           clear H
           have H := H1
           clear H1
           exact absurd ((Option.some.inj H).trans HR.out) (by decide)
         ·replace c22 := Bool.eq_false_iff.mpr c22
          subst c22
          have H1 : (some false) = some r := by rw [if_neg (show ¬ (false = true) by decide)] at H; exact H
          clear H
          have H := H1
          clear H1
          exact absurd ((Option.some.inj H).trans HR.out) (by decide)
        ·replace c20 := Bool.eq_false_iff.mpr c20
         subst c20
         have H1 : (some false) = some r := by rw [if_neg (show ¬ (false = true) by decide)] at H; exact H
         clear H
         have H := H1
         clear H1
         exact absurd ((Option.some.inj H).trans HR.out) (by decide)
       ·replace c18 := Bool.eq_false_iff.mpr c18
        subst c18
        have H1 : (some false) = some r := by rw [if_neg (show ¬ (false = true) by decide)] at H; exact H
        clear H
        have H := H1
        clear H1
        exact absurd ((Option.some.inj H).trans HR.out) (by decide)
      ·replace c17 := Bool.eq_false_iff.mpr c17
       subst c17
       have H1 : (some false) = some r := by rw [if_neg (show ¬ (false = true) by decide)] at H; exact H
       clear H
       have H := H1
       clear H1
       exact absurd ((Option.some.inj H).trans HR.out) (by decide)
     ·replace c16 := Bool.eq_false_iff.mpr c16
      subst c16
      have H1 : (some false) = some r := by rw [if_neg (show ¬ (false = true) by decide)] at H; exact H
      clear H
      have H := H1
      clear H1
      exact absurd ((Option.some.inj H).trans HR.out) (by decide)
    ·replace c15 := Bool.eq_false_iff.mpr c15
     subst c15
     have H1 : (some false) = some r := by rw [if_neg (show ¬ (false = true) by decide)] at H; exact H
     clear H
     have H := H1
     clear H1
     exact absurd ((Option.some.inj H).trans HR.out) (by decide)
   ·replace c14 := Bool.eq_false_iff.mpr c14
    subst c14
    have H1 : (some false) = some r := by rw [if_neg (show ¬ (false = true) by decide)] at H; exact H
    clear H
    have H := H1
    clear H1
    exact absurd ((Option.some.inj H).trans HR.out) (by decide)
  ·replace c13 := Bool.eq_false_iff.mpr c13
   subst c13
   have H1 : (some false) = some r := by rw [if_neg (show ¬ (false = true) by decide)] at H; exact H
   clear H
   have H := H1
   clear H1
   exact absurd ((Option.some.inj H).trans HR.out) (by decide)

/-- THE ONE PURE STATEMENT of laws_FnMeet: yours. -/
def laws_FnMeet.Pure : Prop := ∀ (l0 : List Int), l0.length ≤ maxLen → l0.length * 1 ≤ 140737488351232 → (∀ x ∈ l0, (Lit.int .u8 x).wf = true) → ∃ k, laws_FnMeet.f k l0 = some true
theorem laws_FnMeet.walk (P : laws_FnMeet.Pure) (a0 : Option Addr) (len0 cap0 : Nat) (z0 : List Int) (w : World) (w0 : (a0 = none ∧ len0 = 0 ∧ cap0 = 0 ∧ z0 = []) ∨ ∃ x, a0 = some x ∧ len0 ≤ cap0 ∧ cap0 ≤ maxLen ∧ z0.length = cap0 ∧ (∀ i, i < z0.length → w.cell? (x.add i) = some (.int .u8 (z0.getD i 0))) ∧ ∀ n ∈ z0, (Lit.int .u8 n).wf = true) (y0 : len0 * 1 ≤ 140737488351232) :
  Calls Try.prog 12 #[.slice a0 len0 cap0] w fun e w' => e = .returned (.bool true) ∧ Below w.heap.size w w' := by
 obtain ⟨l0, rfl, hr0, hm0, hw0, hc0⟩ := ReadsInt.ofRowC w0
 obtain ⟨k, h⟩ := P l0 hm0 y0 hw0
 refine (laws_FnMeet.calls k _ _ l0 true w (Kd.C_of_reads (d := (0 : Int)) (h1 := fun _ => rfl) hr0) hc0 (Aside0.mk rfl) h).mono ?_
 rintro e w' ⟨rfl, hd⟩
 exact ⟨rfl, hd⟩

end Go.Proofs.Ytcnanifokpcjaaa.PFnMeet
