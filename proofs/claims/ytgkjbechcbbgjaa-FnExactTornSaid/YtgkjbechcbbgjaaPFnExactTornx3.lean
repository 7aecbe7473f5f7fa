import Derived.Test.YtgkjbechcbbgjaaPFnExactTornx0
import Derived.Test.YtgkjbechcbbgjaaPFnExactTornx1
import Derived.Test.YtgkjbechcbbgjaaPFnExactTornx2
namespace Go.Proofs.Ytgkjbechcbbgjaa.PFnExactTorn
open Go.RowKit Go.Proofs.YtgkjbechcbbgjaaW.PrintWords Go.Proofs.YtgkjbechcbbgjaaW.PrintLast Go.Proofs.YtgkjbechcbbgjaaW.PrintMore
attribute [local go_sem] max2_int min2_int max_two min_two max_three min_three max_four min_four   -- for this text's walks alone
set_option linter.unusedVariables false
set_option linter.unusedSimpArgs false

/-! ### impl_FrameGet: function 22 -/
mutual
def impl_FrameGet.j0 : Nat → List Int → Int → Bool → Option (List Int × Int × Bool)
  | 0, _, _, _ => none
  | k + 1, x0, x1, x18 => if x18 = true then (some (([] : List Int), 0, false)) else (if 0 ≤ x1 then (if x1 < (x0.length : Int) then (if 0 ≤ (wrap64 (x1 + 1)) then (if (wrap64 (x1 + 1)) < (x0.length : Int) then (if 0 ≤ (wrap64 (x1 + 2)) then (if (wrap64 (x1 + 2)) < (x0.length : Int) then (if 0 ≤ (wrap64 (x1 + 3)) then (if (wrap64 (x1 + 3)) < (x0.length : Int) then (if 0 ≤ (wrap64 (x1 + 4)) then (if (wrap64 (x1 + 4)) < (x0.length : Int) then (if 0 ≤ (wrap64 (x1 + 5)) then (if (wrap64 (x1 + 5)) < (x0.length : Int) then ((impl_in.f (wrap64 ((wrap64 (rd x0 x1)) + (wrap64 ((wrap64 (rd x0 (wrap64 (x1 + 1)))) * 256)))) 1 2000).bind fun t152 => (if t152 = true then (impl_FrameGet.j1 k x0 x1 (wrap64 ((wrap64 (rd x0 x1)) + (wrap64 ((wrap64 (rd x0 (wrap64 (x1 + 1)))) * 256)))) (wrap64 ((wrap64 ((wrap64 ((wrap64 (rd x0 (wrap64 (x1 + 2)))) + (wrap64 ((wrap64 (rd x0 (wrap64 (x1 + 3)))) * 256)))) + (wrap64 ((wrap64 (rd x0 (wrap64 (x1 + 4)))) * 65536)))) + (wrap64 ((wrap64 (rd x0 (wrap64 (x1 + 5)))) * 16777216)))) (decide ((wrap64 ((wrap64 (rd x0 x1)) + (wrap64 ((wrap64 (rd x0 (wrap64 (x1 + 1)))) * 256)))) > (wrap64 ((wrap64 ((x0.length : Int) - x1)) - 6))))) else (impl_FrameGet.j1 k x0 x1 (wrap64 ((wrap64 (rd x0 x1)) + (wrap64 ((wrap64 (rd x0 (wrap64 (x1 + 1)))) * 256)))) (wrap64 ((wrap64 ((wrap64 ((wrap64 (rd x0 (wrap64 (x1 + 2)))) + (wrap64 ((wrap64 (rd x0 (wrap64 (x1 + 3)))) * 256)))) + (wrap64 ((wrap64 (rd x0 (wrap64 (x1 + 4)))) * 65536)))) + (wrap64 ((wrap64 (rd x0 (wrap64 (x1 + 5)))) * 16777216)))) true))) else (none)) else (none)) else (none)) else (none)) else (none)) else (none)) else (none)) else (none)) else (none)) else (none)) else (none)) else (none))
def impl_FrameGet.j1 : Nat → List Int → Int → Int → Int → Bool → Option (List Int × Int × Bool)
  | 0, _, _, _, _, _ => none
  | k + 1, x0, x1, x7, x8, x73 => if x73 = true then (some (([] : List Int), 0, false)) else (if 0 ≤ (wrap64 (x1 + 6)) then (if (wrap64 (x1 + 6)) ≤ (wrap64 ((wrap64 (x1 + 6)) + x7)) then (if (wrap64 ((wrap64 (x1 + 6)) + x7)) ≤ (x0.length : Int) then ((impl_copyBytes.f ((x0.take ((wrap64 ((wrap64 (x1 + 6)) + x7)) : Int).toNat).drop ((wrap64 (x1 + 6)) : Int).toNat)).bind fun t154 => ((impl_Crc.f k t154).bind fun t157 => (if t157 = x8 then (some (t154, wrap64 ((wrap64 (x1 + 6)) + x7), true)) else (some (([] : List Int), 0, false))))) else (none)) else (none)) else (none))
end
def impl_FrameGet.f (k : Nat) (l0 : List Int) (a1 : Int) : Option (List Int × Int × Bool) := if a1 < 0 then (impl_FrameGet.j0 k l0 a1 true) else (impl_FrameGet.j0 k l0 a1 (decide (a1 > (wrap64 ((l0.length : Int) - 6)))))
theorem impl_FrameGet.mono_l : ∀ k, (∀ y0 y1 y2, LeO (impl_FrameGet.j0 k y0 y1 y2) (impl_FrameGet.j0 (k + 1) y0 y1 y2)) ∧ (∀ y0 y1 y2 y3 y4, LeO (impl_FrameGet.j1 k y0 y1 y2 y3 y4) (impl_FrameGet.j1 (k + 1) y0 y1 y2 y3 y4))
  | 0 => ⟨fun _ _ _ r h => by simp [impl_FrameGet.j0] at h, fun _ _ _ _ _ r h => by simp [impl_FrameGet.j1] at h⟩
  | k + 1 => by
    obtain ⟨ih0, ih1⟩ := impl_FrameGet.mono_l k
    refine ⟨?_, ?_⟩
    · intro y0 y1 y2
      unfold impl_FrameGet.j0
      repeat' first
      | (with_reducible exact ih0 _ _ _)
      | (with_reducible exact ih1 _ _ _ _ _)
      | (with_reducible exact impl_Crc.mono _ _)
      | (with_reducible exact LeO.refl _)
      | (with_reducible exact LeO.none _)
      | (with_reducible refine LeO.ite ?_ ?_)
      | (with_reducible refine LeO.bind ?_ (fun _ => ?_))
      | exact ih0 _ _ _
      | exact ih1 _ _ _ _ _
      | exact impl_Crc.mono _ _
      | exact LeO.none _
      | refine LeO.ite ?_ ?_
      | refine LeO.bind ?_ (fun _ => ?_)
    · intro y0 y1 y2 y3 y4
      unfold impl_FrameGet.j1
      repeat' first
      | (with_reducible exact ih0 _ _ _)
      | (with_reducible exact ih1 _ _ _ _ _)
      | (with_reducible exact impl_Crc.mono _ _)
      | (with_reducible exact LeO.refl _)
      | (with_reducible exact LeO.none _)
      | (with_reducible refine LeO.ite ?_ ?_)
      | (with_reducible refine LeO.bind ?_ (fun _ => ?_))
      | exact ih0 _ _ _
      | exact ih1 _ _ _ _ _
      | exact impl_Crc.mono _ _
      | exact LeO.none _
      | refine LeO.ite ?_ ?_
      | refine LeO.bind ?_ (fun _ => ?_)
theorem impl_FrameGet.mono : ∀ a0 a1 k, LeO (impl_FrameGet.f k a0 a1) (impl_FrameGet.f (k + 1) a0 a1) := by
  intro a0 a1 k
  obtain ⟨ih0, ih1⟩ := impl_FrameGet.mono_l k
  unfold impl_FrameGet.f
  repeat' first
      | (with_reducible exact ih0 _ _ _)
      | (with_reducible exact ih1 _ _ _ _ _)
      | (with_reducible exact impl_Crc.mono _ _)
      | (with_reducible exact LeO.refl _)
      | (with_reducible exact LeO.none _)
      | (with_reducible refine LeO.ite ?_ ?_)
      | (with_reducible refine LeO.bind ?_ (fun _ => ?_))
      | exact ih0 _ _ _
      | exact ih1 _ _ _ _ _
      | exact impl_Crc.mono _ _
      | exact LeO.none _
      | refine LeO.ite ?_ ?_
      | refine LeO.bind ?_ (fun _ => ?_)
set_option maxHeartbeats 8000000 in
set_option maxRecDepth 100000 in
theorem impl_FrameGet.calls (k : Nat) (A0 : Option Addr) (c0 : Nat) (l0 : List Int) (a1 : Int) (r1 : List Int) (r2 : Int) (r3 : Bool) (w : World) (hr0 : Kd.C (Kd.int .u8) w A0 l0.length l0) (hc0 : l0.length ≤ c0) (h : impl_FrameGet.f k l0 a1 = some (r1, r2, r3)) :
    Calls Try.prog 22 #[.slice A0 l0.length c0, .int .i64 a1] w fun e w' => ∃ v0_ : Value, e = .returned (.tuple #[v0_, .int .i64 r2, .bool r3]) ∧ Kd.R (Kd.int .u8) 5 w' w.heap.size (fun _ => True) v0_ r1 ∧ Below w.heap.size w w' := by
  have HR0 := Aside0.mk hr0
  have HC0 := Aside0.mk hc0
  clear hr0 hc0
  have HB := Aside0.mk (Below.refl w.heap.size w)
  have H : (if a1 < 0 then (impl_FrameGet.j0 k l0 a1 true) else (impl_FrameGet.j0 k l0 a1 (decide (a1 > (wrap64 ((l0.length : Int) - 6)))))) = some (r1, r2, r3) := h
  clear h
  have HC3 := Aside0.mk H
  clear H
  go_enter Try.func22, Try.ntmps22
  go_upto_region 1 with (fail)
  repeat (go_quiet (fail); go_upto_region 1 with (fail))
  go_cut [18] (fun v18 wc => ∃ (kq : Nat) (x18_2 : Bool), v18 = .bool x18_2 ∧ Aside0 (impl_FrameGet.j0 kq l0 a1 x18_2 = some (r1, r2, r3)) ∧ Aside0 (kq ≤ k) ∧ Aside0 (Below w.heap.size w wc))
  case first =>
    have H := HC3.out
    clear HC3
    by_cases c4 : a1 < 0
    · rw [if_pos c4] at H
      have c4b0 : decide (a1 < 0) = true := decide_eq_true c4
      clear c4
      (first | rw [c4b0] | (simp only [i64_w, i32_w]; rw [c4b0]) | skip)
      have H' := Aside0.mk H
      clear H
      go_wp2
      repeat (go_quiet (fail); try go_wp2)
      go_meet
      case rel => exact ⟨_, (true), (by first | rfl | (simp; done) | (simp [*]; done)), H', ⟨by first | omega | exact Nat.le_refl _⟩, ⟨by repeat (first | (with_reducible first | exact HB.out | apply below_alloc | apply pw_below_drewN | apply below_drew1) | exact HB.out)⟩⟩
    · rw [if_neg c4] at H
      have c4b0 : decide (a1 < 0) = false := decide_eq_false c4
      clear c4
      (first | rw [c4b0] | (simp only [i64_w, i32_w]; rw [c4b0]) | skip)
      have H' := Aside0.mk H
      clear H
      go_wp2
      repeat (go_quiet (fail); try go_wp2)
      go_meet
      case rel => exact ⟨_, (decide (a1 > (wrap64 ((l0.length : Int) - 6)))), (by first | rfl | (simp; done) | (simp [*]; done)), H', ⟨by first | omega | exact Nat.le_refl _⟩, ⟨by repeat (first | (with_reducible first | exact HB.out | apply below_alloc | apply pw_below_drewN | apply below_drew1) | exact HB.out)⟩⟩
  case rest =>
    clear HC3
    try clear c2
    try clear p2
    try clear c4
    try clear c4b0
    obtain ⟨kq, x18_2, rfl, HA, HJ2, HB⟩ := hcut
    cases kq with
    | zero => exact absurd HA.out (by simp [impl_FrameGet.j0])
    | succ kj2 =>
      have H := HA.out
      clear HA
      simp only [impl_FrameGet.j0] at H
      by_cases c5 : x18_2 = true
      · subst c5
        have H1 : (some (([] : List Int), 0, false)) = some (r1, r2, r3) := by rw [if_pos rfl] at H; exact H
        clear H
        have H := H1
        clear H1
        simp only [Option.some.injEq, Prod.mk.injEq] at H
        obtain ⟨rfl, rfl, rfl⟩ := H
        go_wp2
        repeat (go_quiet (fail); try go_wp2)
        go_ret3
        exact ⟨_, by first | rfl | (simp [errW_none, errW_some] <;> rfl) | (simp [*, errW_none, errW_some] <;> rfl), by first | exact Kd.R_nil _ _ _ _ _ | exact Kd.N_nil _ _ _ _ _ | exact Kd.V_nil _ _ _ _ _ | exact Kd.Q_nil _ _ _ _ _ | exact Kd.S_nil _ _ _ _ _, by repeat (first | (with_reducible first | exact HB.out | apply below_alloc | apply pw_below_drewN | apply below_drew1) | exact HB.out)⟩
      · replace c5 := Bool.eq_false_iff.mpr c5
        subst c5
        have H1 : (if 0 ≤ a1 then (if a1 < (l0.length : Int) then (if 0 ≤ (wrap64 (a1 + 1)) then (if (wrap64 (a1 + 1)) < (l0.length : Int) then (if 0 ≤ (wrap64 (a1 + 2)) then (if (wrap64 (a1 + 2)) < (l0.length : Int) then (if 0 ≤ (wrap64 (a1 + 3)) then (if (wrap64 (a1 + 3)) < (l0.length : Int) then (if 0 ≤ (wrap64 (a1 + 4)) then (if (wrap64 (a1 + 4)) < (l0.length : Int) then (if 0 ≤ (wrap64 (a1 + 5)) then (if (wrap64 (a1 + 5)) < (l0.length : Int) then ((impl_in.f (wrap64 ((wrap64 (rd l0 a1)) + (wrap64 ((wrap64 (rd l0 (wrap64 (a1 + 1)))) * 256)))) 1 2000).bind fun t152 => (if t152 = true then (impl_FrameGet.j1 kj2 l0 a1 (wrap64 ((wrap64 (rd l0 a1)) + (wrap64 ((wrap64 (rd l0 (wrap64 (a1 + 1)))) * 256)))) (wrap64 ((wrap64 ((wrap64 ((wrap64 (rd l0 (wrap64 (a1 + 2)))) + (wrap64 ((wrap64 (rd l0 (wrap64 (a1 + 3)))) * 256)))) + (wrap64 ((wrap64 (rd l0 (wrap64 (a1 + 4)))) * 65536)))) + (wrap64 ((wrap64 (rd l0 (wrap64 (a1 + 5)))) * 16777216)))) (decide ((wrap64 ((wrap64 (rd l0 a1)) + (wrap64 ((wrap64 (rd l0 (wrap64 (a1 + 1)))) * 256)))) > (wrap64 ((wrap64 ((l0.length : Int) - a1)) - 6))))) else (impl_FrameGet.j1 kj2 l0 a1 (wrap64 ((wrap64 (rd l0 a1)) + (wrap64 ((wrap64 (rd l0 (wrap64 (a1 + 1)))) * 256)))) (wrap64 ((wrap64 ((wrap64 ((wrap64 (rd l0 (wrap64 (a1 + 2)))) + (wrap64 ((wrap64 (rd l0 (wrap64 (a1 + 3)))) * 256)))) + (wrap64 ((wrap64 (rd l0 (wrap64 (a1 + 4)))) * 65536)))) + (wrap64 ((wrap64 (rd l0 (wrap64 (a1 + 5)))) * 16777216)))) true))) else (none)) else (none)) else (none)) else (none)) else (none)) else (none)) else (none)) else (none)) else (none)) else (none)) else (none)) else (none)) = some (r1, r2, r3) := by rw [if_neg (show ¬ (false = true) by decide)] at H; exact H
        clear H
        have H := H1
        clear H1
        by_cases c6 : 0 ≤ a1
        · rw [if_pos c6] at H
          have c6b0 : decide (0 ≤ a1) = true := decide_eq_true c6
          clear c6
          by_cases c7 : a1 < (l0.length : Int)
          · rw [if_pos c7] at H
            have c7b0 : decide (a1 < (l0.length : Int)) = true := decide_eq_true c7
            clear c7
            obtain ⟨ji8, hji8⟩ : ∃ j_ : Int, (wrap64 (a1 + 1)) = j_ := ⟨_, rfl⟩
            replace H : (if 0 ≤ (ji8) then (if (ji8) < (l0.length : Int) then (if 0 ≤ (wrap64 (a1 + 2)) then (if (wrap64 (a1 + 2)) < (l0.length : Int) then (if 0 ≤ (wrap64 (a1 + 3)) then (if (wrap64 (a1 + 3)) < (l0.length : Int) then (if 0 ≤ (wrap64 (a1 + 4)) then (if (wrap64 (a1 + 4)) < (l0.length : Int) then (if 0 ≤ (wrap64 (a1 + 5)) then (if (wrap64 (a1 + 5)) < (l0.length : Int) then ((impl_in.f (wrap64 ((wrap64 (rd l0 a1)) + (wrap64 ((wrap64 (rd l0 (ji8))) * 256)))) 1 2000).bind fun t152 => (if t152 = true then (impl_FrameGet.j1 kj2 l0 a1 (wrap64 ((wrap64 (rd l0 a1)) + (wrap64 ((wrap64 (rd l0 (ji8))) * 256)))) (wrap64 ((wrap64 ((wrap64 ((wrap64 (rd l0 (wrap64 (a1 + 2)))) + (wrap64 ((wrap64 (rd l0 (wrap64 (a1 + 3)))) * 256)))) + (wrap64 ((wrap64 (rd l0 (wrap64 (a1 + 4)))) * 65536)))) + (wrap64 ((wrap64 (rd l0 (wrap64 (a1 + 5)))) * 16777216)))) (decide ((wrap64 ((wrap64 (rd l0 a1)) + (wrap64 ((wrap64 (rd l0 (ji8))) * 256)))) > (wrap64 ((wrap64 ((l0.length : Int) - a1)) - 6))))) else (impl_FrameGet.j1 kj2 l0 a1 (wrap64 ((wrap64 (rd l0 a1)) + (wrap64 ((wrap64 (rd l0 (ji8))) * 256)))) (wrap64 ((wrap64 ((wrap64 ((wrap64 (rd l0 (wrap64 (a1 + 2)))) + (wrap64 ((wrap64 (rd l0 (wrap64 (a1 + 3)))) * 256)))) + (wrap64 ((wrap64 (rd l0 (wrap64 (a1 + 4)))) * 65536)))) + (wrap64 ((wrap64 (rd l0 (wrap64 (a1 + 5)))) * 16777216)))) true))) else (none)) else (none)) else (none)) else (none)) else (none)) else (none)) else (none)) else (none)) else (none)) else (none)) = some (r1, r2, r3) := by first | (rw [hji8] at H; exact H) | (simp only [hji8] at H ⊢; exact H)
            have hji8w : (IntKind.i64.wrap (a1 + 1)) = ji8 := (i64_w _).trans hji8
            by_cases c9 : 0 ≤ (ji8)
            · rw [if_pos c9] at H
              have c9b0 : decide (0 ≤ (ji8)) = true := decide_eq_true c9
              clear c9
              by_cases c10 : (ji8) < (l0.length : Int)
              · rw [if_pos c10] at H
                have c10b0 : decide ((ji8) < (l0.length : Int)) = true := decide_eq_true c10
                clear c10
                obtain ⟨ji11, hji11⟩ : ∃ j_ : Int, (wrap64 (a1 + 2)) = j_ := ⟨_, rfl⟩
                replace H : (if 0 ≤ (ji11) then (if (ji11) < (l0.length : Int) then (if 0 ≤ (wrap64 (a1 + 3)) then (if (wrap64 (a1 + 3)) < (l0.length : Int) then (if 0 ≤ (wrap64 (a1 + 4)) then (if (wrap64 (a1 + 4)) < (l0.length : Int) then (if 0 ≤ (wrap64 (a1 + 5)) then (if (wrap64 (a1 + 5)) < (l0.length : Int) then ((impl_in.f (wrap64 ((wrap64 (rd l0 a1)) + (wrap64 ((wrap64 (rd l0 (ji8))) * 256)))) 1 2000).bind fun t152 => (if t152 = true then (impl_FrameGet.j1 kj2 l0 a1 (wrap64 ((wrap64 (rd l0 a1)) + (wrap64 ((wrap64 (rd l0 (ji8))) * 256)))) (wrap64 ((wrap64 ((wrap64 ((wrap64 (rd l0 (ji11))) + (wrap64 ((wrap64 (rd l0 (wrap64 (a1 + 3)))) * 256)))) + (wrap64 ((wrap64 (rd l0 (wrap64 (a1 + 4)))) * 65536)))) + (wrap64 ((wrap64 (rd l0 (wrap64 (a1 + 5)))) * 16777216)))) (decide ((wrap64 ((wrap64 (rd l0 a1)) + (wrap64 ((wrap64 (rd l0 (ji8))) * 256)))) > (wrap64 ((wrap64 ((l0.length : Int) - a1)) - 6))))) else (impl_FrameGet.j1 kj2 l0 a1 (wrap64 ((wrap64 (rd l0 a1)) + (wrap64 ((wrap64 (rd l0 (ji8))) * 256)))) (wrap64 ((wrap64 ((wrap64 ((wrap64 (rd l0 (ji11))) + (wrap64 ((wrap64 (rd l0 (wrap64 (a1 + 3)))) * 256)))) + (wrap64 ((wrap64 (rd l0 (wrap64 (a1 + 4)))) * 65536)))) + (wrap64 ((wrap64 (rd l0 (wrap64 (a1 + 5)))) * 16777216)))) true))) else (none)) else (none)) else (none)) else (none)) else (none)) else (none)) else (none)) else (none)) = some (r1, r2, r3) := by first | (rw [hji11] at H; exact H) | (simp only [hji11] at H ⊢; exact H)
                have hji11w : (IntKind.i64.wrap (a1 + 2)) = ji11 := (i64_w _).trans hji11
                by_cases c12 : 0 ≤ (ji11)
                · rw [if_pos c12] at H
                  have c12b0 : decide (0 ≤ (ji11)) = true := decide_eq_true c12
                  clear c12
                  by_cases c13 : (ji11) < (l0.length : Int)
                  · rw [if_pos c13] at H
                    have c13b0 : decide ((ji11) < (l0.length : Int)) = true := decide_eq_true c13
                    clear c13
                    obtain ⟨ji14, hji14⟩ : ∃ j_ : Int, (wrap64 (a1 + 3)) = j_ := ⟨_, rfl⟩
                    replace H : (if 0 ≤ (ji14) then (if (ji14) < (l0.length : Int) then (if 0 ≤ (wrap64 (a1 + 4)) then (if (wrap64 (a1 + 4)) < (l0.length : Int) then (if 0 ≤ (wrap64 (a1 + 5)) then (if (wrap64 (a1 + 5)) < (l0.length : Int) then ((impl_in.f (wrap64 ((wrap64 (rd l0 a1)) + (wrap64 ((wrap64 (rd l0 (ji8))) * 256)))) 1 2000).bind fun t152 => (if t152 = true then (impl_FrameGet.j1 kj2 l0 a1 (wrap64 ((wrap64 (rd l0 a1)) + (wrap64 ((wrap64 (rd l0 (ji8))) * 256)))) (wrap64 ((wrap64 ((wrap64 ((wrap64 (rd l0 (ji11))) + (wrap64 ((wrap64 (rd l0 (ji14))) * 256)))) + (wrap64 ((wrap64 (rd l0 (wrap64 (a1 + 4)))) * 65536)))) + (wrap64 ((wrap64 (rd l0 (wrap64 (a1 + 5)))) * 16777216)))) (decide ((wrap64 ((wrap64 (rd l0 a1)) + (wrap64 ((wrap64 (rd l0 (ji8))) * 256)))) > (wrap64 ((wrap64 ((l0.length : Int) - a1)) - 6))))) else (impl_FrameGet.j1 kj2 l0 a1 (wrap64 ((wrap64 (rd l0 a1)) + (wrap64 ((wrap64 (rd l0 (ji8))) * 256)))) (wrap64 ((wrap64 ((wrap64 ((wrap64 (rd l0 (ji11))) + (wrap64 ((wrap64 (rd l0 (ji14))) * 256)))) + (wrap64 ((wrap64 (rd l0 (wrap64 (a1 + 4)))) * 65536)))) + (wrap64 ((wrap64 (rd l0 (wrap64 (a1 + 5)))) * 16777216)))) true))) else (none)) else (none)) else (none)) else (none)) else (none)) else (none)) = some (r1, r2, r3) := by first | (rw [hji14] at H; exact H) | (simp only [hji14] at H ⊢; exact H)
                    have hji14w : (IntKind.i64.wrap (a1 + 3)) = ji14 := (i64_w _).trans hji14
                    by_cases c15 : 0 ≤ (ji14)
                    · rw [if_pos c15] at H
                      have c15b0 : decide (0 ≤ (ji14)) = true := decide_eq_true c15
                      clear c15
                      by_cases c16 : (ji14) < (l0.length : Int)
                      · rw [if_pos c16] at H
                        have c16b0 : decide ((ji14) < (l0.length : Int)) = true := decide_eq_true c16
                        clear c16
                        obtain ⟨ji17, hji17⟩ : ∃ j_ : Int, (wrap64 (a1 + 4)) = j_ := ⟨_, rfl⟩
                        replace H : (if 0 ≤ (ji17) then (if (ji17) < (l0.length : Int) then (if 0 ≤ (wrap64 (a1 + 5)) then (if (wrap64 (a1 + 5)) < (l0.length : Int) then ((impl_in.f (wrap64 ((wrap64 (rd l0 a1)) + (wrap64 ((wrap64 (rd l0 (ji8))) * 256)))) 1 2000).bind fun t152 => (if t152 = true then (impl_FrameGet.j1 kj2 l0 a1 (wrap64 ((wrap64 (rd l0 a1)) + (wrap64 ((wrap64 (rd l0 (ji8))) * 256)))) (wrap64 ((wrap64 ((wrap64 ((wrap64 (rd l0 (ji11))) + (wrap64 ((wrap64 (rd l0 (ji14))) * 256)))) + (wrap64 ((wrap64 (rd l0 (ji17))) * 65536)))) + (wrap64 ((wrap64 (rd l0 (wrap64 (a1 + 5)))) * 16777216)))) (decide ((wrap64 ((wrap64 (rd l0 a1)) + (wrap64 ((wrap64 (rd l0 (ji8))) * 256)))) > (wrap64 ((wrap64 ((l0.length : Int) - a1)) - 6))))) else (impl_FrameGet.j1 kj2 l0 a1 (wrap64 ((wrap64 (rd l0 a1)) + (wrap64 ((wrap64 (rd l0 (ji8))) * 256)))) (wrap64 ((wrap64 ((wrap64 ((wrap64 (rd l0 (ji11))) + (wrap64 ((wrap64 (rd l0 (ji14))) * 256)))) + (wrap64 ((wrap64 (rd l0 (ji17))) * 65536)))) + (wrap64 ((wrap64 (rd l0 (wrap64 (a1 + 5)))) * 16777216)))) true))) else (none)) else (none)) else (none)) else (none)) = some (r1, r2, r3) := by first | (rw [hji17] at H; exact H) | (simp only [hji17] at H ⊢; exact H)
                        have hji17w : (IntKind.i64.wrap (a1 + 4)) = ji17 := (i64_w _).trans hji17
                        by_cases c18 : 0 ≤ (ji17)
                        · rw [if_pos c18] at H
                          have c18b0 : decide (0 ≤ (ji17)) = true := decide_eq_true c18
                          clear c18
                          by_cases c19 : (ji17) < (l0.length : Int)
                          · rw [if_pos c19] at H
                            have c19b0 : decide ((ji17) < (l0.length : Int)) = true := decide_eq_true c19
                            clear c19
                            obtain ⟨ji20, hji20⟩ : ∃ j_ : Int, (wrap64 (a1 + 5)) = j_ := ⟨_, rfl⟩
                            replace H : (if 0 ≤ (ji20) then (if (ji20) < (l0.length : Int) then ((impl_in.f (wrap64 ((wrap64 (rd l0 a1)) + (wrap64 ((wrap64 (rd l0 (ji8))) * 256)))) 1 2000).bind fun t152 => (if t152 = true then (impl_FrameGet.j1 kj2 l0 a1 (wrap64 ((wrap64 (rd l0 a1)) + (wrap64 ((wrap64 (rd l0 (ji8))) * 256)))) (wrap64 ((wrap64 ((wrap64 ((wrap64 (rd l0 (ji11))) + (wrap64 ((wrap64 (rd l0 (ji14))) * 256)))) + (wrap64 ((wrap64 (rd l0 (ji17))) * 65536)))) + (wrap64 ((wrap64 (rd l0 (ji20))) * 16777216)))) (decide ((wrap64 ((wrap64 (rd l0 a1)) + (wrap64 ((wrap64 (rd l0 (ji8))) * 256)))) > (wrap64 ((wrap64 ((l0.length : Int) - a1)) - 6))))) else (impl_FrameGet.j1 kj2 l0 a1 (wrap64 ((wrap64 (rd l0 a1)) + (wrap64 ((wrap64 (rd l0 (ji8))) * 256)))) (wrap64 ((wrap64 ((wrap64 ((wrap64 (rd l0 (ji11))) + (wrap64 ((wrap64 (rd l0 (ji14))) * 256)))) + (wrap64 ((wrap64 (rd l0 (ji17))) * 65536)))) + (wrap64 ((wrap64 (rd l0 (ji20))) * 16777216)))) true))) else (none)) else (none)) = some (r1, r2, r3) := by first | (rw [hji20] at H; exact H) | (simp only [hji20] at H ⊢; exact H)
                            have hji20w : (IntKind.i64.wrap (a1 + 5)) = ji20 := (i64_w _).trans hji20
                            by_cases c21 : 0 ≤ (ji20)
                            · rw [if_pos c21] at H
                              have c21b0 : decide (0 ≤ (ji20)) = true := decide_eq_true c21
                              clear c21
                              by_cases c22 : (ji20) < (l0.length : Int)
                              · rw [if_pos c22] at H
                                have c22b0 : decide ((ji20) < (l0.length : Int)) = true := decide_eq_true c22
                                clear c22
                                have HC23 := Aside0.mk H
                                clear H
                                have p146 : 0 ≤ (a1 : Int) := of_decide_eq_true (by first | (with_reducible assumption) | assumption)
                                have q146 : a1 < (l0.length : Int) := of_decide_eq_true (by first | (with_reducible assumption) | assumption)
                                obtain ⟨ad146, e146, hx146_0⟩ := Kd.at_int HR0.out a1 p146 q146
                                cases e146
                                replace hx146_0 := (HB.out.cell (World.block_lt_of_cell? w _ hx146_0)).trans hx146_0
                                replace p146 := eq_true p146
                                replace q146 := eq_true q146
                                have p147 : 0 ≤ ((ji8) : Int) := of_decide_eq_true (by first | (with_reducible assumption) | assumption)
                                have q147 : (ji8) < (l0.length : Int) := of_decide_eq_true (by first | (with_reducible assumption) | assumption)
                                obtain ⟨ad147, e147, hx147_0⟩ := Kd.at_int HR0.out (ji8) p147 q147
                                obtain rfl : ad146 = ad147 := (by injection e147)
                                replace hx147_0 := (HB.out.cell (World.block_lt_of_cell? w _ hx147_0)).trans hx147_0
                                replace p147 := eq_true p147
                                replace q147 := eq_true q147
                                have p148 : 0 ≤ ((ji11) : Int) := of_decide_eq_true (by first | (with_reducible assumption) | assumption)
                                have q148 : (ji11) < (l0.length : Int) := of_decide_eq_true (by first | (with_reducible assumption) | assumption)
                                obtain ⟨ad148, e148, hx148_0⟩ := Kd.at_int HR0.out (ji11) p148 q148
                                obtain rfl : ad146 = ad148 := (by injection e148)
                                replace hx148_0 := (HB.out.cell (World.block_lt_of_cell? w _ hx148_0)).trans hx148_0
                                replace p148 := eq_true p148
                                replace q148 := eq_true q148
                                have p149 : 0 ≤ ((ji14) : Int) := of_decide_eq_true (by first | (with_reducible assumption) | assumption)
                                have q149 : (ji14) < (l0.length : Int) := of_decide_eq_true (by first | (with_reducible assumption) | assumption)
                                obtain ⟨ad149, e149, hx149_0⟩ := Kd.at_int HR0.out (ji14) p149 q149
                                obtain rfl : ad146 = ad149 := (by injection e149)
                                replace hx149_0 := (HB.out.cell (World.block_lt_of_cell? w _ hx149_0)).trans hx149_0
                                replace p149 := eq_true p149
                                replace q149 := eq_true q149
                                have p150 : 0 ≤ ((ji17) : Int) := of_decide_eq_true (by first | (with_reducible assumption) | assumption)
                                have q150 : (ji17) < (l0.length : Int) := of_decide_eq_true (by first | (with_reducible assumption) | assumption)
                                obtain ⟨ad150, e150, hx150_0⟩ := Kd.at_int HR0.out (ji17) p150 q150
                                obtain rfl : ad146 = ad150 := (by injection e150)
                                replace hx150_0 := (HB.out.cell (World.block_lt_of_cell? w _ hx150_0)).trans hx150_0
                                replace p150 := eq_true p150
                                replace q150 := eq_true q150
                                have p151 : 0 ≤ ((ji20) : Int) := of_decide_eq_true (by first | (with_reducible assumption) | assumption)
                                have q151 : (ji20) < (l0.length : Int) := of_decide_eq_true (by first | (with_reducible assumption) | assumption)
                                obtain ⟨ad151, e151, hx151_0⟩ := Kd.at_int HR0.out (ji20) p151 q151
                                obtain rfl : ad146 = ad151 := (by injection e151)
                                replace hx151_0 := (HB.out.cell (World.block_lt_of_cell? w _ hx151_0)).trans hx151_0
                                replace p151 := eq_true p151
                                replace q151 := eq_true q151
                                go_upto_region 5 with (fail)
                                repeat (go_quiet (fail); go_upto_region 5 with (fail))
                                go_cut [73] (fun v73 wc => ∃ (kq : Nat) (x73_22 : Bool), v73 = .bool x73_22 ∧ Aside0 (impl_FrameGet.j1 kq l0 a1 (wrap64 ((wrap64 (rd l0 a1)) + (wrap64 ((wrap64 (rd l0 (ji8))) * 256)))) (wrap64 ((wrap64 ((wrap64 ((wrap64 (rd l0 (ji11))) + (wrap64 ((wrap64 (rd l0 (ji14))) * 256)))) + (wrap64 ((wrap64 (rd l0 (ji17))) * 65536)))) + (wrap64 ((wrap64 (rd l0 (ji20))) * 16777216)))) x73_22 = some (r1, r2, r3)) ∧ Aside0 (kq ≤ kj2) ∧ Aside0 (Below w.heap.size w wc))
                                case first =>
                                  have H := HC23.out
                                  clear HC23
                                  replace H := Option.bind_eq_some_iff.mp H
                                  obtain ⟨t152, A240, H⟩ := H
                                  replace H : (if t152 = true then (impl_FrameGet.j1 kj2 l0 a1 (wrap64 ((wrap64 (rd l0 a1)) + (wrap64 ((wrap64 (rd l0 (ji8))) * 256)))) (wrap64 ((wrap64 ((wrap64 ((wrap64 (rd l0 (ji11))) + (wrap64 ((wrap64 (rd l0 (ji14))) * 256)))) + (wrap64 ((wrap64 (rd l0 (ji17))) * 65536)))) + (wrap64 ((wrap64 (rd l0 (ji20))) * 16777216)))) (decide ((wrap64 ((wrap64 (rd l0 a1)) + (wrap64 ((wrap64 (rd l0 (ji8))) * 256)))) > (wrap64 ((wrap64 ((l0.length : Int) - a1)) - 6))))) else (impl_FrameGet.j1 kj2 l0 a1 (wrap64 ((wrap64 (rd l0 a1)) + (wrap64 ((wrap64 (rd l0 (ji8))) * 256)))) (wrap64 ((wrap64 ((wrap64 ((wrap64 (rd l0 (ji11))) + (wrap64 ((wrap64 (rd l0 (ji14))) * 256)))) + (wrap64 ((wrap64 (rd l0 (ji17))) * 65536)))) + (wrap64 ((wrap64 (rd l0 (ji20))) * 16777216)))) true)) = some (r1, r2, r3) := H
                                  have A24 := Aside0.mk A240
                                  clear A240
                                  by_cases c25 : t152 = true
                                  · subst c25
                                    have H1 : (impl_FrameGet.j1 kj2 l0 a1 (wrap64 ((wrap64 (rd l0 a1)) + (wrap64 ((wrap64 (rd l0 (ji8))) * 256)))) (wrap64 ((wrap64 ((wrap64 ((wrap64 (rd l0 (ji11))) + (wrap64 ((wrap64 (rd l0 (ji14))) * 256)))) + (wrap64 ((wrap64 (rd l0 (ji17))) * 65536)))) + (wrap64 ((wrap64 (rd l0 (ji20))) * 16777216)))) (decide ((wrap64 ((wrap64 (rd l0 a1)) + (wrap64 ((wrap64 (rd l0 (ji8))) * 256)))) > (wrap64 ((wrap64 ((l0.length : Int) - a1)) - 6))))) = some (r1, r2, r3) := by rw [if_pos rfl] at H; exact H
                                    clear H
                                    have H := H1
                                    clear H1
                                    have H' := Aside0.mk H
                                    clear H
                                    go_wp2_with (first | (go_at_call 65; (with_reducible refine (impl_in.calls (wrap64 ((wrap64 (rd l0 a1)) + (wrap64 ((wrap64 (rd l0 (ji8))) * 256)))) 1 2000 true _ A24.out).mono ?_); rintro e w' ⟨rfl, ⟨nd, rfl⟩⟩; (try first | exact ⟨rfl, _, World.drewN_drewN _ _ _⟩ | exact ⟨rfl, _, Eq.trans (World.drewN_drewN _ _ _) (congrArg (World.drewN _) (Nat.add_assoc _ _ _))⟩)))
                                    repeat (go_quiet (first | (go_at_call 65; (with_reducible refine (impl_in.calls (wrap64 ((wrap64 (rd l0 a1)) + (wrap64 ((wrap64 (rd l0 (ji8))) * 256)))) 1 2000 true _ A24.out).mono ?_); rintro e w' ⟨rfl, ⟨nd, rfl⟩⟩; (try first | exact ⟨rfl, _, World.drewN_drewN _ _ _⟩ | exact ⟨rfl, _, Eq.trans (World.drewN_drewN _ _ _) (congrArg (World.drewN _) (Nat.add_assoc _ _ _))⟩))); try go_wp2_with (first | (go_at_call 65; (with_reducible refine (impl_in.calls (wrap64 ((wrap64 (rd l0 a1)) + (wrap64 ((wrap64 (rd l0 (ji8))) * 256)))) 1 2000 true _ A24.out).mono ?_); rintro e w' ⟨rfl, ⟨nd, rfl⟩⟩; (try first | exact ⟨rfl, _, World.drewN_drewN _ _ _⟩ | exact ⟨rfl, _, Eq.trans (World.drewN_drewN _ _ _) (congrArg (World.drewN _) (Nat.add_assoc _ _ _))⟩))))
                                    go_meet
                                    case rel => exact ⟨_, (decide ((wrap64 ((wrap64 (rd l0 a1)) + (wrap64 ((wrap64 (rd l0 (ji8))) * 256)))) > (wrap64 ((wrap64 ((l0.length : Int) - a1)) - 6)))), (by first | rfl | (simp; done) | (simp only [← hji8] <;> (first | rfl | simp)) | (simp [*]; done)), H', ⟨by have := HJ2.out; first | omega | exact Nat.le_refl _⟩, ⟨by repeat (first | (with_reducible first | exact HB.out | apply below_alloc | apply pw_below_drewN | apply below_drew1) | exact HB.out)⟩⟩
                                  · replace c25 := Bool.eq_false_iff.mpr c25
                                    subst c25
                                    have H1 : (impl_FrameGet.j1 kj2 l0 a1 (wrap64 ((wrap64 (rd l0 a1)) + (wrap64 ((wrap64 (rd l0 (ji8))) * 256)))) (wrap64 ((wrap64 ((wrap64 ((wrap64 (rd l0 (ji11))) + (wrap64 ((wrap64 (rd l0 (ji14))) * 256)))) + (wrap64 ((wrap64 (rd l0 (ji17))) * 65536)))) + (wrap64 ((wrap64 (rd l0 (ji20))) * 16777216)))) true) = some (r1, r2, r3) := by rw [if_neg (show ¬ (false = true) by decide)] at H; exact H
                                    clear H
                                    have H := H1
                                    clear H1
                                    have H' := Aside0.mk H
                                    clear H
                                    go_wp2_with (first | (go_at_call 65; (with_reducible refine (impl_in.calls (wrap64 ((wrap64 (rd l0 a1)) + (wrap64 ((wrap64 (rd l0 (ji8))) * 256)))) 1 2000 false _ A24.out).mono ?_); rintro e w' ⟨rfl, ⟨nd, rfl⟩⟩; (try first | exact ⟨rfl, _, World.drewN_drewN _ _ _⟩ | exact ⟨rfl, _, Eq.trans (World.drewN_drewN _ _ _) (congrArg (World.drewN _) (Nat.add_assoc _ _ _))⟩)))
                                    repeat (go_quiet (first | (go_at_call 65; (with_reducible refine (impl_in.calls (wrap64 ((wrap64 (rd l0 a1)) + (wrap64 ((wrap64 (rd l0 (ji8))) * 256)))) 1 2000 false _ A24.out).mono ?_); rintro e w' ⟨rfl, ⟨nd, rfl⟩⟩; (try first | exact ⟨rfl, _, World.drewN_drewN _ _ _⟩ | exact ⟨rfl, _, Eq.trans (World.drewN_drewN _ _ _) (congrArg (World.drewN _) (Nat.add_assoc _ _ _))⟩))); try go_wp2_with (first | (go_at_call 65; (with_reducible refine (impl_in.calls (wrap64 ((wrap64 (rd l0 a1)) + (wrap64 ((wrap64 (rd l0 (ji8))) * 256)))) 1 2000 false _ A24.out).mono ?_); rintro e w' ⟨rfl, ⟨nd, rfl⟩⟩; (try first | exact ⟨rfl, _, World.drewN_drewN _ _ _⟩ | exact ⟨rfl, _, Eq.trans (World.drewN_drewN _ _ _) (congrArg (World.drewN _) (Nat.add_assoc _ _ _))⟩))))
                                    go_meet
                                    case rel => exact ⟨_, (true), (by first | rfl | (simp; done) | (simp [*]; done)), H', ⟨by have := HJ2.out; first | omega | exact Nat.le_refl _⟩, ⟨by repeat (first | (with_reducible first | exact HB.out | apply below_alloc | apply pw_below_drewN | apply below_drew1) | exact HB.out)⟩⟩
                                case rest =>
                                  clear HC23
                                  try clear c1
                                  try clear p1
                                  try clear q1
                                  try clear hx1
                                  try clear c2
                                  try clear p2
                                  try clear c4
                                  try clear c4b0
                                  try clear c5
                                  try clear c6
                                  try clear c6b0
                                  try clear p6
                                  try clear c7
                                  try clear c7b0
                                  try clear c9
                                  try clear c9b0
                                  try clear c10
                                  try clear c10b0
                                  try clear c12
                                  try clear c12b0
                                  try clear c13
                                  try clear c13b0
                                  try clear p14
                                  try clear q14
                                  try clear hx14
                                  try clear c15
                                  try clear c15b0
                                  try clear p15
                                  try clear q15
                                  try clear hx15
                                  try clear c16
                                  try clear c16b0
                                  try clear c18
                                  try clear c18b0
                                  try clear c19
                                  try clear c19b0
                                  try clear c21
                                  try clear c21b0
                                  try clear c22
                                  try clear c22b0
                                  try clear c25
                                  try clear hx146_0
                                  try clear hx147_0
                                  try clear hx148_0
                                  try clear hx149_0
                                  try clear hx150_0
                                  try clear hx151_0
                                  try clear p146
                                  try clear p147
                                  try clear p148
                                  try clear p149
                                  try clear p150
                                  try clear p151
                                  try clear p2
                                  try clear q146
                                  try clear q147
                                  try clear q148
                                  try clear q149
                                  try clear q150
                                  try clear q151
                                  obtain ⟨kq, x73_22, rfl, HA, HJ22, HB⟩ := hcut
                                  cases kq with
                                  | zero => exact absurd HA.out (by simp [impl_FrameGet.j1])
                                  | succ kj22 =>
                                    have H := HA.out
                                    clear HA
                                    simp only [impl_FrameGet.j1] at H
                                    by_cases c26 : x73_22 = true
                                    · subst c26
                                      have H1 : (some (([] : List Int), 0, false)) = some (r1, r2, r3) := by rw [if_pos rfl] at H; exact H
                                      clear H
                                      have H := H1
                                      clear H1
                                      simp only [Option.some.injEq, Prod.mk.injEq] at H
                                      obtain ⟨rfl, rfl, rfl⟩ := H
                                      go_wp2
                                      repeat (go_quiet (fail); try go_wp2)
                                      go_ret3
                                      exact ⟨_, by first | rfl | (simp [errW_none, errW_some] <;> rfl) | (simp only [← hji8, ← hji11, ← hji14, ← hji17, ← hji20]; first | rfl | (simp [errW_none, errW_some] <;> rfl)) | (simp [*, errW_none, errW_some] <;> rfl), by first | exact Kd.R_nil _ _ _ _ _ | exact Kd.N_nil _ _ _ _ _ | exact Kd.V_nil _ _ _ _ _ | exact Kd.Q_nil _ _ _ _ _ | exact Kd.S_nil _ _ _ _ _, by repeat (first | (with_reducible first | exact HB.out | apply below_alloc | apply pw_below_drewN | apply below_drew1) | exact HB.out)⟩
                                    · replace c26 := Bool.eq_false_iff.mpr c26
                                      subst c26
                                      have H1 : (if 0 ≤ (wrap64 (a1 + 6)) then (if (wrap64 (a1 + 6)) ≤ (wrap64 ((wrap64 (a1 + 6)) + (wrap64 ((wrap64 (rd l0 a1)) + (wrap64 ((wrap64 (rd l0 (ji8))) * 256)))))) then (if (wrap64 ((wrap64 (a1 + 6)) + (wrap64 ((wrap64 (rd l0 a1)) + (wrap64 ((wrap64 (rd l0 (ji8))) * 256)))))) ≤ (l0.length : Int) then ((impl_copyBytes.f ((l0.take ((wrap64 ((wrap64 (a1 + 6)) + (wrap64 ((wrap64 (rd l0 a1)) + (wrap64 ((wrap64 (rd l0 (ji8))) * 256)))))) : Int).toNat).drop ((wrap64 (a1 + 6)) : Int).toNat)).bind fun t154 => ((impl_Crc.f kj22 t154).bind fun t157 => (if t157 = (wrap64 ((wrap64 ((wrap64 ((wrap64 (rd l0 (ji11))) + (wrap64 ((wrap64 (rd l0 (ji14))) * 256)))) + (wrap64 ((wrap64 (rd l0 (ji17))) * 65536)))) + (wrap64 ((wrap64 (rd l0 (ji20))) * 16777216)))) then (some (t154, wrap64 ((wrap64 (a1 + 6)) + (wrap64 ((wrap64 (rd l0 a1)) + (wrap64 ((wrap64 (rd l0 (ji8))) * 256))))), true)) else (some (([] : List Int), 0, false))))) else (none)) else (none)) else (none)) = some (r1, r2, r3) := by rw [if_neg (show ¬ (false = true) by decide)] at H; exact H
                                      clear H
                                      have H := H1
                                      clear H1
                                      obtain ⟨ji27, hji27⟩ : ∃ j_ : Int, (wrap64 (a1 + 6)) = j_ := ⟨_, rfl⟩
                                      replace H : (if 0 ≤ (ji27) then (if (ji27) ≤ (wrap64 ((ji27) + (wrap64 ((wrap64 (rd l0 a1)) + (wrap64 ((wrap64 (rd l0 (ji8))) * 256)))))) then (if (wrap64 ((ji27) + (wrap64 ((wrap64 (rd l0 a1)) + (wrap64 ((wrap64 (rd l0 (ji8))) * 256)))))) ≤ (l0.length : Int) then ((impl_copyBytes.f ((l0.take ((wrap64 ((ji27) + (wrap64 ((wrap64 (rd l0 a1)) + (wrap64 ((wrap64 (rd l0 (ji8))) * 256)))))) : Int).toNat).drop ((ji27) : Int).toNat)).bind fun t154 => ((impl_Crc.f kj22 t154).bind fun t157 => (if t157 = (wrap64 ((wrap64 ((wrap64 ((wrap64 (rd l0 (ji11))) + (wrap64 ((wrap64 (rd l0 (ji14))) * 256)))) + (wrap64 ((wrap64 (rd l0 (ji17))) * 65536)))) + (wrap64 ((wrap64 (rd l0 (ji20))) * 16777216)))) then (some (t154, wrap64 ((ji27) + (wrap64 ((wrap64 (rd l0 a1)) + (wrap64 ((wrap64 (rd l0 (ji8))) * 256))))), true)) else (some (([] : List Int), 0, false))))) else (none)) else (none)) else (none)) = some (r1, r2, r3) := by first | (rw [hji27] at H; exact H) | (simp only [hji27] at H ⊢; exact H)
                                      have hji27w : (IntKind.i64.wrap (a1 + 6)) = ji27 := (i64_w _).trans hji27
                                      by_cases c28 : 0 ≤ (ji27)
                                      · rw [if_pos c28] at H
                                        have c28b0 := eq_true c28
                                        have c28b1 : decide (0 ≤ (ji27)) = true := decide_eq_true c28
                                        clear c28
                                        by_cases c29 : (ji27) ≤ (wrap64 ((ji27) + (wrap64 ((wrap64 (rd l0 a1)) + (wrap64 ((wrap64 (rd l0 (ji8))) * 256))))))
                                        · rw [if_pos c29] at H
                                          have c29b0 := eq_true c29
                                          have c29b1 : decide ((ji27) ≤ (wrap64 ((ji27) + (wrap64 ((wrap64 (rd l0 a1)) + (wrap64 ((wrap64 (rd l0 (ji8))) * 256))))))) = true := decide_eq_true c29
                                          by_cases c30 : (wrap64 ((ji27) + (wrap64 ((wrap64 (rd l0 a1)) + (wrap64 ((wrap64 (rd l0 (ji8))) * 256)))))) ≤ (l0.length : Int)
                                          · rw [if_pos c30] at H
                                            have c30b0 := eq_true c30
                                            have c30b1 : decide ((wrap64 ((ji27) + (wrap64 ((wrap64 (rd l0 a1)) + (wrap64 ((wrap64 (rd l0 (ji8))) * 256)))))) ≤ (l0.length : Int)) = true := decide_eq_true c30
                                            replace H := Option.bind_eq_some_iff.mp H
                                            obtain ⟨t154, A310, H⟩ := H
                                            replace H : ((impl_Crc.f kj22 t154).bind fun t157 => (if t157 = (wrap64 ((wrap64 ((wrap64 ((wrap64 (rd l0 (ji11))) + (wrap64 ((wrap64 (rd l0 (ji14))) * 256)))) + (wrap64 ((wrap64 (rd l0 (ji17))) * 65536)))) + (wrap64 ((wrap64 (rd l0 (ji20))) * 16777216)))) then (some (t154, wrap64 ((ji27) + (wrap64 ((wrap64 (rd l0 a1)) + (wrap64 ((wrap64 (rd l0 (ji8))) * 256))))), true)) else (some (([] : List Int), 0, false)))) = some (r1, r2, r3) := H
                                            have A31 := Aside0.mk A310
                                            clear A310
                                            replace H := Option.bind_eq_some_iff.mp H
                                            obtain ⟨t157, A320, H⟩ := H
                                            replace H : (if t157 = (wrap64 ((wrap64 ((wrap64 ((wrap64 (rd l0 (ji11))) + (wrap64 ((wrap64 (rd l0 (ji14))) * 256)))) + (wrap64 ((wrap64 (rd l0 (ji17))) * 65536)))) + (wrap64 ((wrap64 (rd l0 (ji20))) * 16777216)))) then (some (t154, wrap64 ((ji27) + (wrap64 ((wrap64 (rd l0 a1)) + (wrap64 ((wrap64 (rd l0 (ji8))) * 256))))), true)) else (some (([] : List Int), 0, false))) = some (r1, r2, r3) := H
                                            have A32 := Aside0.mk A320
                                            clear A320
                                            by_cases c33 : t157 = (wrap64 ((wrap64 ((wrap64 ((wrap64 (rd l0 (ji11))) + (wrap64 ((wrap64 (rd l0 (ji14))) * 256)))) + (wrap64 ((wrap64 (rd l0 (ji17))) * 65536)))) + (wrap64 ((wrap64 (rd l0 (ji20))) * 16777216))))
                                            · rw [if_pos c33] at H
                                              have c33b0 : (t157 == (wrap64 ((wrap64 ((wrap64 ((wrap64 (rd l0 (ji11))) + (wrap64 ((wrap64 (rd l0 (ji14))) * 256)))) + (wrap64 ((wrap64 (rd l0 (ji17))) * 65536)))) + (wrap64 ((wrap64 (rd l0 (ji20))) * 16777216))))) = true := beq_iff_eq.mpr c33
                                              have c33b1 : (t157 != (wrap64 ((wrap64 ((wrap64 ((wrap64 (rd l0 (ji11))) + (wrap64 ((wrap64 (rd l0 (ji14))) * 256)))) + (wrap64 ((wrap64 (rd l0 (ji17))) * 65536)))) + (wrap64 ((wrap64 (rd l0 (ji20))) * 16777216))))) = false := bne_eq_false_iff_eq.mpr c33
                                              clear c33
                                              simp only [Option.some.injEq, Prod.mk.injEq] at H
                                              obtain ⟨rfl, rfl, rfl⟩ := H
                                              obtain ⟨i034, hi034, _, hsz34, _⟩ := info_parts info5
                                              obtain ⟨A34, hcut34, hA34, hC34⟩ := print_mid_of (P := Try.prog) (Value.int .u8) 0 22 5 .i64 .i64 Try.underlying22 hi034 hsz34 (some ad146) c0 l0 (ji27) (wrap64 ((ji27) + (wrap64 ((wrap64 (rd l0 a1)) + (wrap64 ((wrap64 (rd l0 (ji8))) * 256)))))) (of_decide_eq_true (by first | (with_reducible assumption) | assumption)) (by first | omega | exact of_decide_eq_true (by first | (with_reducible assumption) | assumption)) (of_decide_eq_true (by first | (with_reducible assumption) | assumption)) HC0.out
                                              have HR153 := Aside0.mk (Kd.C_of_reads (h1 := fun _ => rfl) (hA34 _ (Kd.reads_of_C HR0.out)))
                                              have HC153 := Aside0.mk hC34
                                              clear hA34 hC34 hi034 hsz34
                                              go_wp2_with (first | (go_at_call 64; refine calls_of_args (args' := #[.slice A34 ((l0.take ((wrap64 ((ji27) + (wrap64 ((wrap64 (rd l0 a1)) + (wrap64 ((wrap64 (rd l0 (ji8))) * 256)))))) : Int).toNat).drop ((ji27) : Int).toNat).length (c0 - (ji27).toNat)]) (by first | (rw [show ((l0.take ((wrap64 ((ji27) + (wrap64 ((wrap64 (rd l0 a1)) + (wrap64 ((wrap64 (rd l0 (ji8))) * 256)))))) : Int).toNat).drop ((ji27) : Int).toNat).length = ((wrap64 ((ji27) + (wrap64 ((wrap64 (rd l0 a1)) + (wrap64 ((wrap64 (rd l0 (ji8))) * 256)))))).toNat - (ji27).toNat) from (by rw [List.length_drop, List.length_take]; have h_ : ((wrap64 ((ji27) + (wrap64 ((wrap64 (rd l0 a1)) + (wrap64 ((wrap64 (rd l0 (ji8))) * 256)))))) : Int) ≤ (l0.length : Int) := of_decide_eq_true (by first | (with_reducible assumption) | assumption); omega)] <;> rfl) | rfl) ?_; (with_reducible refine (impl_copyBytes.calls _ _ ((l0.take ((wrap64 ((ji27) + (wrap64 ((wrap64 (rd l0 a1)) + (wrap64 ((wrap64 (rd l0 (ji8))) * 256)))))) : Int).toNat).drop ((ji27) : Int).toNat) t154 _ ?side1 ?side2 A31.out).mono ?_); (case side1 => repeat (first | exact (Kd.C_below HR153.out HB.out) | (with_reducible refine Kd.C_alloc ?_ _) | (with_reducible refine Kd.C_drewN ?_ _) | (with_reducible refine Kd.C_drew ?_))); (case side2 => exact HC153.out); rintro e w35 ⟨v155, rfl, ho0, hb⟩; have n0_ := Aside0.mk (Kd.R_lower ho0 (below_size (by repeat (first | (with_reducible first | exact HB.out | apply below_alloc | apply pw_below_drewN | apply below_drew1) | exact HB.out)))); have n1_ := Aside0.mk (below_step (by repeat (first | (with_reducible first | exact HB.out | apply below_alloc | apply pw_below_drewN | apply below_drew1) | exact HB.out)) hb); clear HB; have HO156 := n0_; have HB := n1_; clear n0_ n1_; (try clear hb); (try clear hb2); (try clear hk); (try clear hi); (try clear ho0); obtain ⟨Ao36, co36, eo36⟩ := Kd.R_slice HO156.out; subst eo36) | (go_at_call 66; (with_reducible refine (impl_Crc.calls kj22 _ _ t154 t157 _ ?side1 ?side2 A32.out).mono ?_); (case side1 => repeat (first | exact (Kd.R_reads' HO156.out).2.2 | (with_reducible refine Kd.C_alloc ?_ _) | (with_reducible refine Kd.C_drewN ?_ _) | (with_reducible refine Kd.C_drew ?_))); (case side2 => exact (Kd.R_reads' HO156.out).2.1); rintro e w' ⟨rfl, ⟨nd, rfl⟩⟩; (try first | exact ⟨rfl, _, World.drewN_drewN _ _ _⟩ | exact ⟨rfl, _, Eq.trans (World.drewN_drewN _ _ _) (congrArg (World.drewN _) (Nat.add_assoc _ _ _))⟩)))
                                              repeat (go_quiet (first | (go_at_call 64; refine calls_of_args (args' := #[.slice A34 ((l0.take ((wrap64 ((ji27) + (wrap64 ((wrap64 (rd l0 a1)) + (wrap64 ((wrap64 (rd l0 (ji8))) * 256)))))) : Int).toNat).drop ((ji27) : Int).toNat).length (c0 - (ji27).toNat)]) (by first | (rw [show ((l0.take ((wrap64 ((ji27) + (wrap64 ((wrap64 (rd l0 a1)) + (wrap64 ((wrap64 (rd l0 (ji8))) * 256)))))) : Int).toNat).drop ((ji27) : Int).toNat).length = ((wrap64 ((ji27) + (wrap64 ((wrap64 (rd l0 a1)) + (wrap64 ((wrap64 (rd l0 (ji8))) * 256)))))).toNat - (ji27).toNat) from (by rw [List.length_drop, List.length_take]; have h_ : ((wrap64 ((ji27) + (wrap64 ((wrap64 (rd l0 a1)) + (wrap64 ((wrap64 (rd l0 (ji8))) * 256)))))) : Int) ≤ (l0.length : Int) := of_decide_eq_true (by first | (with_reducible assumption) | assumption); omega)] <;> rfl) | rfl) ?_; (with_reducible refine (impl_copyBytes.calls _ _ ((l0.take ((wrap64 ((ji27) + (wrap64 ((wrap64 (rd l0 a1)) + (wrap64 ((wrap64 (rd l0 (ji8))) * 256)))))) : Int).toNat).drop ((ji27) : Int).toNat) t154 _ ?side1 ?side2 A31.out).mono ?_); (case side1 => repeat (first | exact (Kd.C_below HR153.out HB.out) | (with_reducible refine Kd.C_alloc ?_ _) | (with_reducible refine Kd.C_drewN ?_ _) | (with_reducible refine Kd.C_drew ?_))); (case side2 => exact HC153.out); rintro e w35 ⟨v155, rfl, ho0, hb⟩; have n0_ := Aside0.mk (Kd.R_lower ho0 (below_size (by repeat (first | (with_reducible first | exact HB.out | apply below_alloc | apply pw_below_drewN | apply below_drew1) | exact HB.out)))); have n1_ := Aside0.mk (below_step (by repeat (first | (with_reducible first | exact HB.out | apply below_alloc | apply pw_below_drewN | apply below_drew1) | exact HB.out)) hb); clear HB; have HO156 := n0_; have HB := n1_; clear n0_ n1_; (try clear hb); (try clear hb2); (try clear hk); (try clear hi); (try clear ho0); obtain ⟨Ao36, co36, eo36⟩ := Kd.R_slice HO156.out; subst eo36) | (go_at_call 66; (with_reducible refine (impl_Crc.calls kj22 _ _ t154 t157 _ ?side1 ?side2 A32.out).mono ?_); (case side1 => repeat (first | exact (Kd.R_reads' HO156.out).2.2 | (with_reducible refine Kd.C_alloc ?_ _) | (with_reducible refine Kd.C_drewN ?_ _) | (with_reducible refine Kd.C_drew ?_))); (case side2 => exact (Kd.R_reads' HO156.out).2.1); rintro e w' ⟨rfl, ⟨nd, rfl⟩⟩; (try first | exact ⟨rfl, _, World.drewN_drewN _ _ _⟩ | exact ⟨rfl, _, Eq.trans (World.drewN_drewN _ _ _) (congrArg (World.drewN _) (Nat.add_assoc _ _ _))⟩))); try go_wp2_with (first | (go_at_call 64; refine calls_of_args (args' := #[.slice A34 ((l0.take ((wrap64 ((ji27) + (wrap64 ((wrap64 (rd l0 a1)) + (wrap64 ((wrap64 (rd l0 (ji8))) * 256)))))) : Int).toNat).drop ((ji27) : Int).toNat).length (c0 - (ji27).toNat)]) (by first | (rw [show ((l0.take ((wrap64 ((ji27) + (wrap64 ((wrap64 (rd l0 a1)) + (wrap64 ((wrap64 (rd l0 (ji8))) * 256)))))) : Int).toNat).drop ((ji27) : Int).toNat).length = ((wrap64 ((ji27) + (wrap64 ((wrap64 (rd l0 a1)) + (wrap64 ((wrap64 (rd l0 (ji8))) * 256)))))).toNat - (ji27).toNat) from (by rw [List.length_drop, List.length_take]; have h_ : ((wrap64 ((ji27) + (wrap64 ((wrap64 (rd l0 a1)) + (wrap64 ((wrap64 (rd l0 (ji8))) * 256)))))) : Int) ≤ (l0.length : Int) := of_decide_eq_true (by first | (with_reducible assumption) | assumption); omega)] <;> rfl) | rfl) ?_; (with_reducible refine (impl_copyBytes.calls _ _ ((l0.take ((wrap64 ((ji27) + (wrap64 ((wrap64 (rd l0 a1)) + (wrap64 ((wrap64 (rd l0 (ji8))) * 256)))))) : Int).toNat).drop ((ji27) : Int).toNat) t154 _ ?side1 ?side2 A31.out).mono ?_); (case side1 => repeat (first | exact (Kd.C_below HR153.out HB.out) | (with_reducible refine Kd.C_alloc ?_ _) | (with_reducible refine Kd.C_drewN ?_ _) | (with_reducible refine Kd.C_drew ?_))); (case side2 => exact HC153.out); rintro e w35 ⟨v155, rfl, ho0, hb⟩; have n0_ := Aside0.mk (Kd.R_lower ho0 (below_size (by repeat (first | (with_reducible first | exact HB.out | apply below_alloc | apply pw_below_drewN | apply below_drew1) | exact HB.out)))); have n1_ := Aside0.mk (below_step (by repeat (first | (with_reducible first | exact HB.out | apply below_alloc | apply pw_below_drewN | apply below_drew1) | exact HB.out)) hb); clear HB; have HO156 := n0_; have HB := n1_; clear n0_ n1_; (try clear hb); (try clear hb2); (try clear hk); (try clear hi); (try clear ho0); obtain ⟨Ao36, co36, eo36⟩ := Kd.R_slice HO156.out; subst eo36) | (go_at_call 66; (with_reducible refine (impl_Crc.calls kj22 _ _ t154 t157 _ ?side1 ?side2 A32.out).mono ?_); (case side1 => repeat (first | exact (Kd.R_reads' HO156.out).2.2 | (with_reducible refine Kd.C_alloc ?_ _) | (with_reducible refine Kd.C_drewN ?_ _) | (with_reducible refine Kd.C_drew ?_))); (case side2 => exact (Kd.R_reads' HO156.out).2.1); rintro e w' ⟨rfl, ⟨nd, rfl⟩⟩; (try first | exact ⟨rfl, _, World.drewN_drewN _ _ _⟩ | exact ⟨rfl, _, Eq.trans (World.drewN_drewN _ _ _) (congrArg (World.drewN _) (Nat.add_assoc _ _ _))⟩))))
                                              go_ret3
                                              exact ⟨_, by first | rfl | (simp [errW_none, errW_some] <;> rfl) | (simp only [← hji8, ← hji11, ← hji14, ← hji17, ← hji20, ← hji27]; first | rfl | (simp [errW_none, errW_some] <;> rfl)) | (simp [*, errW_none, errW_some] <;> rfl), by (with_reducible repeat (first | apply Kd.R_alloc | apply Kd.R_drewN | apply Kd.R_drew)); exact HO156.out, by repeat (first | (with_reducible first | exact HB.out | apply below_alloc | apply pw_below_drewN | apply below_drew1) | exact HB.out)⟩
                                            · rw [if_neg c33] at H
                                              have c33b0 : (t157 == (wrap64 ((wrap64 ((wrap64 ((wrap64 (rd l0 (ji11))) + (wrap64 ((wrap64 (rd l0 (ji14))) * 256)))) + (wrap64 ((wrap64 (rd l0 (ji17))) * 65536)))) + (wrap64 ((wrap64 (rd l0 (ji20))) * 16777216))))) = false := beq_eq_false_iff_ne.mpr c33
                                              have c33b1 : (t157 != (wrap64 ((wrap64 ((wrap64 ((wrap64 (rd l0 (ji11))) + (wrap64 ((wrap64 (rd l0 (ji14))) * 256)))) + (wrap64 ((wrap64 (rd l0 (ji17))) * 65536)))) + (wrap64 ((wrap64 (rd l0 (ji20))) * 16777216))))) = true := bne_iff_ne.mpr c33
                                              simp only [Option.some.injEq, Prod.mk.injEq] at H
                                              obtain ⟨rfl, rfl, rfl⟩ := H
                                              obtain ⟨i037, hi037, _, hsz37, _⟩ := info_parts info5
                                              obtain ⟨A37, hcut37, hA37, hC37⟩ := print_mid_of (P := Try.prog) (Value.int .u8) 0 22 5 .i64 .i64 Try.underlying22 hi037 hsz37 (some ad146) c0 l0 (ji27) (wrap64 ((ji27) + (wrap64 ((wrap64 (rd l0 a1)) + (wrap64 ((wrap64 (rd l0 (ji8))) * 256)))))) (of_decide_eq_true (by first | (with_reducible assumption) | assumption)) (by first | omega | exact of_decide_eq_true (by first | (with_reducible assumption) | assumption)) (of_decide_eq_true (by first | (with_reducible assumption) | assumption)) HC0.out
                                              have HR153 := Aside0.mk (Kd.C_of_reads (h1 := fun _ => rfl) (hA37 _ (Kd.reads_of_C HR0.out)))
                                              have HC153 := Aside0.mk hC37
                                              clear hA37 hC37 hi037 hsz37
                                              go_wp2_with (first | (go_at_call 64; refine calls_of_args (args' := #[.slice A37 ((l0.take ((wrap64 ((ji27) + (wrap64 ((wrap64 (rd l0 a1)) + (wrap64 ((wrap64 (rd l0 (ji8))) * 256)))))) : Int).toNat).drop ((ji27) : Int).toNat).length (c0 - (ji27).toNat)]) (by first | (rw [show ((l0.take ((wrap64 ((ji27) + (wrap64 ((wrap64 (rd l0 a1)) + (wrap64 ((wrap64 (rd l0 (ji8))) * 256)))))) : Int).toNat).drop ((ji27) : Int).toNat).length = ((wrap64 ((ji27) + (wrap64 ((wrap64 (rd l0 a1)) + (wrap64 ((wrap64 (rd l0 (ji8))) * 256)))))).toNat - (ji27).toNat) from (by rw [List.length_drop, List.length_take]; have h_ : ((wrap64 ((ji27) + (wrap64 ((wrap64 (rd l0 a1)) + (wrap64 ((wrap64 (rd l0 (ji8))) * 256)))))) : Int) ≤ (l0.length : Int) := of_decide_eq_true (by first | (with_reducible assumption) | assumption); omega)] <;> rfl) | rfl) ?_; (with_reducible refine (impl_copyBytes.calls _ _ ((l0.take ((wrap64 ((ji27) + (wrap64 ((wrap64 (rd l0 a1)) + (wrap64 ((wrap64 (rd l0 (ji8))) * 256)))))) : Int).toNat).drop ((ji27) : Int).toNat) t154 _ ?side1 ?side2 A31.out).mono ?_); (case side1 => repeat (first | exact (Kd.C_below HR153.out HB.out) | (with_reducible refine Kd.C_alloc ?_ _) | (with_reducible refine Kd.C_drewN ?_ _) | (with_reducible refine Kd.C_drew ?_))); (case side2 => exact HC153.out); rintro e w38 ⟨v155, rfl, ho0, hb⟩; have n0_ := Aside0.mk (Kd.R_lower ho0 (below_size (by repeat (first | (with_reducible first | exact HB.out | apply below_alloc | apply pw_below_drewN | apply below_drew1) | exact HB.out)))); have n1_ := Aside0.mk (below_step (by repeat (first | (with_reducible first | exact HB.out | apply below_alloc | apply pw_below_drewN | apply below_drew1) | exact HB.out)) hb); clear HB; have HO156 := n0_; have HB := n1_; clear n0_ n1_; (try clear hb); (try clear hb2); (try clear hk); (try clear hi); (try clear ho0); obtain ⟨Ao39, co39, eo39⟩ := Kd.R_slice HO156.out; subst eo39) | (go_at_call 66; (with_reducible refine (impl_Crc.calls kj22 _ _ t154 t157 _ ?side1 ?side2 A32.out).mono ?_); (case side1 => repeat (first | exact (Kd.R_reads' HO156.out).2.2 | (with_reducible refine Kd.C_alloc ?_ _) | (with_reducible refine Kd.C_drewN ?_ _) | (with_reducible refine Kd.C_drew ?_))); (case side2 => exact (Kd.R_reads' HO156.out).2.1); rintro e w' ⟨rfl, ⟨nd, rfl⟩⟩; (try first | exact ⟨rfl, _, World.drewN_drewN _ _ _⟩ | exact ⟨rfl, _, Eq.trans (World.drewN_drewN _ _ _) (congrArg (World.drewN _) (Nat.add_assoc _ _ _))⟩)))
                                              repeat (go_quiet (first | (go_at_call 64; refine calls_of_args (args' := #[.slice A37 ((l0.take ((wrap64 ((ji27) + (wrap64 ((wrap64 (rd l0 a1)) + (wrap64 ((wrap64 (rd l0 (ji8))) * 256)))))) : Int).toNat).drop ((ji27) : Int).toNat).length (c0 - (ji27).toNat)]) (by first | (rw [show ((l0.take ((wrap64 ((ji27) + (wrap64 ((wrap64 (rd l0 a1)) + (wrap64 ((wrap64 (rd l0 (ji8))) * 256)))))) : Int).toNat).drop ((ji27) : Int).toNat).length = ((wrap64 ((ji27) + (wrap64 ((wrap64 (rd l0 a1)) + (wrap64 ((wrap64 (rd l0 (ji8))) * 256)))))).toNat - (ji27).toNat) from (by rw [List.length_drop, List.length_take]; have h_ : ((wrap64 ((ji27) + (wrap64 ((wrap64 (rd l0 a1)) + (wrap64 ((wrap64 (rd l0 (ji8))) * 256)))))) : Int) ≤ (l0.length : Int) := of_decide_eq_true (by first | (with_reducible assumption) | assumption); omega)] <;> rfl) | rfl) ?_; (with_reducible refine (impl_copyBytes.calls _ _ ((l0.take ((wrap64 ((ji27) + (wrap64 ((wrap64 (rd l0 a1)) + (wrap64 ((wrap64 (rd l0 (ji8))) * 256)))))) : Int).toNat).drop ((ji27) : Int).toNat) t154 _ ?side1 ?side2 A31.out).mono ?_); (case side1 => repeat (first | exact (Kd.C_below HR153.out HB.out) | (with_reducible refine Kd.C_alloc ?_ _) | (with_reducible refine Kd.C_drewN ?_ _) | (with_reducible refine Kd.C_drew ?_))); (case side2 => exact HC153.out); rintro e w38 ⟨v155, rfl, ho0, hb⟩; have n0_ := Aside0.mk (Kd.R_lower ho0 (below_size (by repeat (first | (with_reducible first | exact HB.out | apply below_alloc | apply pw_below_drewN | apply below_drew1) | exact HB.out)))); have n1_ := Aside0.mk (below_step (by repeat (first | (with_reducible first | exact HB.out | apply below_alloc | apply pw_below_drewN | apply below_drew1) | exact HB.out)) hb); clear HB; have HO156 := n0_; have HB := n1_; clear n0_ n1_; (try clear hb); (try clear hb2); (try clear hk); (try clear hi); (try clear ho0); obtain ⟨Ao39, co39, eo39⟩ := Kd.R_slice HO156.out; subst eo39) | (go_at_call 66; (with_reducible refine (impl_Crc.calls kj22 _ _ t154 t157 _ ?side1 ?side2 A32.out).mono ?_); (case side1 => repeat (first | exact (Kd.R_reads' HO156.out).2.2 | (with_reducible refine Kd.C_alloc ?_ _) | (with_reducible refine Kd.C_drewN ?_ _) | (with_reducible refine Kd.C_drew ?_))); (case side2 => exact (Kd.R_reads' HO156.out).2.1); rintro e w' ⟨rfl, ⟨nd, rfl⟩⟩; (try first | exact ⟨rfl, _, World.drewN_drewN _ _ _⟩ | exact ⟨rfl, _, Eq.trans (World.drewN_drewN _ _ _) (congrArg (World.drewN _) (Nat.add_assoc _ _ _))⟩))); try go_wp2_with (first | (go_at_call 64; refine calls_of_args (args' := #[.slice A37 ((l0.take ((wrap64 ((ji27) + (wrap64 ((wrap64 (rd l0 a1)) + (wrap64 ((wrap64 (rd l0 (ji8))) * 256)))))) : Int).toNat).drop ((ji27) : Int).toNat).length (c0 - (ji27).toNat)]) (by first | (rw [show ((l0.take ((wrap64 ((ji27) + (wrap64 ((wrap64 (rd l0 a1)) + (wrap64 ((wrap64 (rd l0 (ji8))) * 256)))))) : Int).toNat).drop ((ji27) : Int).toNat).length = ((wrap64 ((ji27) + (wrap64 ((wrap64 (rd l0 a1)) + (wrap64 ((wrap64 (rd l0 (ji8))) * 256)))))).toNat - (ji27).toNat) from (by rw [List.length_drop, List.length_take]; have h_ : ((wrap64 ((ji27) + (wrap64 ((wrap64 (rd l0 a1)) + (wrap64 ((wrap64 (rd l0 (ji8))) * 256)))))) : Int) ≤ (l0.length : Int) := of_decide_eq_true (by first | (with_reducible assumption) | assumption); omega)] <;> rfl) | rfl) ?_; (with_reducible refine (impl_copyBytes.calls _ _ ((l0.take ((wrap64 ((ji27) + (wrap64 ((wrap64 (rd l0 a1)) + (wrap64 ((wrap64 (rd l0 (ji8))) * 256)))))) : Int).toNat).drop ((ji27) : Int).toNat) t154 _ ?side1 ?side2 A31.out).mono ?_); (case side1 => repeat (first | exact (Kd.C_below HR153.out HB.out) | (with_reducible refine Kd.C_alloc ?_ _) | (with_reducible refine Kd.C_drewN ?_ _) | (with_reducible refine Kd.C_drew ?_))); (case side2 => exact HC153.out); rintro e w38 ⟨v155, rfl, ho0, hb⟩; have n0_ := Aside0.mk (Kd.R_lower ho0 (below_size (by repeat (first | (with_reducible first | exact HB.out | apply below_alloc | apply pw_below_drewN | apply below_drew1) | exact HB.out)))); have n1_ := Aside0.mk (below_step (by repeat (first | (with_reducible first | exact HB.out | apply below_alloc | apply pw_below_drewN | apply below_drew1) | exact HB.out)) hb); clear HB; have HO156 := n0_; have HB := n1_; clear n0_ n1_; (try clear hb); (try clear hb2); (try clear hk); (try clear hi); (try clear ho0); obtain ⟨Ao39, co39, eo39⟩ := Kd.R_slice HO156.out; subst eo39) | (go_at_call 66; (with_reducible refine (impl_Crc.calls kj22 _ _ t154 t157 _ ?side1 ?side2 A32.out).mono ?_); (case side1 => repeat (first | exact (Kd.R_reads' HO156.out).2.2 | (with_reducible refine Kd.C_alloc ?_ _) | (with_reducible refine Kd.C_drewN ?_ _) | (with_reducible refine Kd.C_drew ?_))); (case side2 => exact (Kd.R_reads' HO156.out).2.1); rintro e w' ⟨rfl, ⟨nd, rfl⟩⟩; (try first | exact ⟨rfl, _, World.drewN_drewN _ _ _⟩ | exact ⟨rfl, _, Eq.trans (World.drewN_drewN _ _ _) (congrArg (World.drewN _) (Nat.add_assoc _ _ _))⟩))))
                                              go_ret3
                                              exact ⟨_, by first | rfl | (simp [errW_none, errW_some] <;> rfl) | (simp only [← hji8, ← hji11, ← hji14, ← hji17, ← hji20, ← hji27]; first | rfl | (simp [errW_none, errW_some] <;> rfl)) | (simp [*, errW_none, errW_some] <;> rfl), by first | exact Kd.R_nil _ _ _ _ _ | exact Kd.N_nil _ _ _ _ _ | exact Kd.V_nil _ _ _ _ _ | exact Kd.Q_nil _ _ _ _ _ | exact Kd.S_nil _ _ _ _ _, by repeat (first | (with_reducible first | exact HB.out | apply below_alloc | apply pw_below_drewN | apply below_drew1) | exact HB.out)⟩
                                          · rw [if_neg c30] at H
                                            exact absurd H (by simp)
                                        · rw [if_neg c29] at H
                                          exact absurd H (by simp)
                                      · rw [if_neg c28] at H
                                        exact absurd H (by simp)
                              · rw [if_neg c22] at H
                                exact absurd H (by simp)
                            · rw [if_neg c21] at H
                              exact absurd H (by simp)
                          · rw [if_neg c19] at H
                            exact absurd H (by simp)
                        · rw [if_neg c18] at H
                          exact absurd H (by simp)
                      · rw [if_neg c16] at H
                        exact absurd H (by simp)
                    · rw [if_neg c15] at H
                      exact absurd H (by simp)
                  · rw [if_neg c13] at H
                    exact absurd H (by simp)
                · rw [if_neg c12] at H
                  exact absurd H (by simp)
              · rw [if_neg c10] at H
                exact absurd H (by simp)
            · rw [if_neg c9] at H
              exact absurd H (by simp)
          · rw [if_neg c7] at H
            exact absurd H (by simp)
        · rw [if_neg c6] at H
          exact absurd H (by simp)

/-! ### impl_Scan: function 26 -/
def impl_Scan.l0 : Nat → List Int → List (List Int) → Int → Option ((List (List Int)) × Int)
  | 0, _, _, _ => none
  | k + 1, x0, x4, x5 => (impl_FrameGet.f k x0 x5).bind fun bt158 => (if bt158.2.2 = true then (if x4.length < 5864062014805 then (impl_Scan.l0 k x0 (x4 ++ [bt158.1]) bt158.2.1) else (none)) else (some (x4, x5)))
def impl_Scan.f (k : Nat) (l0 : List Int) : Option ((List (List Int)) × Int) := impl_Scan.l0 k l0 ([] : List (List Int)) 0
theorem impl_Scan.mono_l : ∀ k, (∀ y0 y1 y2, LeO (impl_Scan.l0 k y0 y1 y2) (impl_Scan.l0 (k + 1) y0 y1 y2))
  | 0 => fun _ _ _ r h => by simp [impl_Scan.l0] at h
  | k + 1 => by
    have ih0 := impl_Scan.mono_l k
    · intro y0 y1 y2
      unfold impl_Scan.l0
      repeat' first
      | (with_reducible exact ih0 _ _ _)
      | (with_reducible exact impl_FrameGet.mono _ _ _)
      | (with_reducible exact LeO.refl _)
      | (with_reducible exact LeO.none _)
      | (with_reducible refine LeO.ite ?_ ?_)
      | (with_reducible refine LeO.bind ?_ (fun _ => ?_))
      | exact ih0 _ _ _
      | exact impl_FrameGet.mono _ _ _
      | exact LeO.none _
      | refine LeO.ite ?_ ?_
      | refine LeO.bind ?_ (fun _ => ?_)
theorem impl_Scan.mono : ∀ a0 k, LeO (impl_Scan.f k a0) (impl_Scan.f (k + 1) a0) := by
  intro a0 k
  have ih0 := impl_Scan.mono_l k
  unfold impl_Scan.f
  repeat' first
      | (with_reducible exact ih0 _ _ _)
      | (with_reducible exact impl_FrameGet.mono _ _ _)
      | (with_reducible exact LeO.refl _)
      | (with_reducible exact LeO.none _)
      | (with_reducible refine LeO.ite ?_ ?_)
      | (with_reducible refine LeO.bind ?_ (fun _ => ?_))
      | exact ih0 _ _ _
      | exact impl_FrameGet.mono _ _ _
      | exact LeO.none _
      | refine LeO.ite ?_ ?_
      | refine LeO.bind ?_ (fun _ => ?_)
set_option maxHeartbeats 8000000 in
set_option maxRecDepth 100000 in
theorem impl_Scan.calls (k : Nat) (A0 : Option Addr) (c0 : Nat) (l0 : List Int) (r1 : List (List Int)) (r2 : Int) (w : World) (hr0 : Kd.C (Kd.int .u8) w A0 l0.length l0) (hc0 : l0.length ≤ c0) (h : impl_Scan.f k l0 = some (r1, r2)) :
    Calls Try.prog 26 #[.slice A0 l0.length c0] w fun e w' => ∃ v0_ : Value, e = .returned (.tuple #[v0_, .int .i64 r2]) ∧ Kd.S (Kd.slice 5 (Kd.int .u8)) 22 w' w.heap.size (fun _ => True) v0_ r1 ∧ Below w.heap.size w w' := by
  have HR0 := Aside0.mk hr0
  have HC0 := Aside0.mk hc0
  clear hr0 hc0
  have HB := Aside0.mk (Below.refl w.heap.size w)
  have H : (impl_Scan.l0 k l0 ([] : List (List Int)) 0) = some (r1, r2) := h
  clear h
  have H' := Aside0.mk H
  clear H
  go_enter Try.func26, Try.ntmps26
  go_wp2
  go_loopg [4, 5] k (fun kq v4 v5 w' => ∃ (x4_1 : List (List Int)) (x5_1 : Int), v5 = .int .i64 x5_1 ∧ Aside0 (impl_Scan.l0 kq l0 x4_1 x5_1 = some (r1, r2)) ∧ Aside0 (kq ≤ k) ∧ Aside0 (Kd.S (Kd.slice 5 (Kd.int .u8)) 22 w' w.heap.size (fun _ => True) v4 x4_1) ∧ Aside0 (Below w.heap.size w w'))
  case atStart => exact ⟨(([] : List (List Int))), (0), (by first | rfl | (simp; done) | (simp [*]; done)), H', ⟨Nat.le_refl _⟩, ⟨by first | exact Kd.S_nil _ _ _ _ _ | exact Kd.N_nil _ _ _ _ _ | exact Kd.V_nil _ _ _ _ _ | exact Kd.Q_nil _ _ _ _ _ | exact Kd.R_nil _ _ _ _ _⟩, ⟨by repeat (first | (with_reducible first | exact HB.out | apply below_alloc | apply pw_below_drewN | apply below_drew1) | exact HB.out)⟩⟩
  case round =>
    clear H'
    obtain ⟨x4_1, x5_1, rfl, HA, HK1, HO_4, HB⟩ := hrel
    cases gk with
    | zero => exact absurd HA.out (by simp [impl_Scan.l0])
    | succ k1 =>
      have H := HA.out
      clear HA
      simp only [impl_Scan.l0] at H
      replace H := Option.bind_eq_some_iff.mp H
      obtain ⟨⟨t158, t159, t160⟩, A20, H⟩ := H
      replace H : (if t160 = true then (if x4_1.length < 5864062014805 then (impl_Scan.l0 k1 l0 (x4_1 ++ [t158]) t159) else (none)) else (some (x4_1, x5_1))) = some (r1, r2) := H
      have A2 := Aside0.mk A20
      clear A20
      by_cases c3 : t160 = true
      · subst c3
        have H1 : (if x4_1.length < 5864062014805 then (impl_Scan.l0 k1 l0 (x4_1 ++ [t158]) t159) else (none)) = some (r1, r2) := by rw [if_pos rfl] at H; exact H
        clear H
        have H := H1
        clear H1
        by_cases c4 : x4_1.length < 5864062014805
        · rw [if_pos c4] at H
          have LMc4 := Aside0.mk c4
          clear c4
          obtain ⟨y163, hy163⟩ : ∃ y_ : List (List Int), y_ = (x4_1 ++ [t158]) := ⟨_, rfl⟩
          replace H : (impl_Scan.l0 k1 l0 y163 t159) = some (r1, r2) := by first | (rw [hy163]; with_reducible exact H) | (have H2_ := (Option.bind_some _ _).symm.trans H; rw [hy163]; with_reducible exact H2_) | (have H2_ := (Option.bind_some _ _).symm.trans H; with_reducible exact H2_) | with_reducible exact H | (rw [hy163]; exact H) | exact H
          have Ny163 := Aside0.mk hy163
          clear hy163
          have H' := Aside0.mk H
          clear H
          go_wp2_with (first | ((with_reducible refine gate_callee (f := 22) rfl ?_); refine goesL_ (some 12) rfl rfl Try.func22 (by kernel_rfl) rfl #[.slice A0 l0.length c0, .int .i64 x5_1] rfl (by (try simp only [List.map_toArray, List.map_cons, List.map_nil]); first | done | rfl | (simp only [List.length_drop, List.length_take]; rfl)) ?_; (with_reducible refine (impl_FrameGet.calls k1 _ _ l0 x5_1 t158 t159 true _ ?side1 ?side2 A2.out).mono ?_); (case side1 => repeat (first | exact (Kd.C_below HR0.out HB.out) | (with_reducible refine Kd.C_alloc ?_ _) | (with_reducible refine Kd.C_drewN ?_ _) | (with_reducible refine Kd.C_drew ?_))); (case side2 => exact HC0.out); rintro e w5 ⟨v161, rfl, ho0, hb⟩; refine ⟨_, rfl, ?_⟩; have n0_ := Aside0.mk (Kd.S_elder' (by (with_reducible repeat (first | apply Kd.S_alloc | apply Kd.S_drewN | apply Kd.S_drew)); exact HO_4.out) (Kd.R_base ho0) hb); have n1_ := Aside0.mk (Kd.R_lower ho0 (below_size (by repeat (first | (with_reducible first | exact HB.out | apply below_alloc | apply pw_below_drewN | apply below_drew1) | exact HB.out)))); have n2_ := Aside0.mk (below_step (by repeat (first | (with_reducible first | exact HB.out | apply below_alloc | apply pw_below_drewN | apply below_drew1) | exact HB.out)) hb); clear HO_4; clear HB; have HO_4 := n0_; have HO162 := n1_; have HB := n2_; clear n0_ n1_ n2_; (try clear hb); (try clear hb2); (try clear hk); (try clear hi); (try clear ho0); obtain ⟨Ao7, co7, eo7⟩ := Kd.R_slice HO162.out; subst eo7) | ((with_reducible refine gate_builtin (b := .append) (xs := #[.tmp 20, .tmp 22]) rfl ?_); at_builtin; refine Kd.S_append (Kd.slice 5 (Kd.int .u8)) (w0 := w) w.heap.size rfl (.tmp 20) (.tmp 22) 32 22 (.slice none 0 0) 24 rfl Try.underlying32 info22 rfl (by decide) (by omega) u4 x4_1 t158 [.slice Ao7 t158.length co7] (fun _ => True) (fun k_ => some k_ = (.slice Ao7 t158.length co7 : Value).ownBlock) rfl rfl ?aP (fun k_ hk_ => ((Kd.R_mono (ok' := fun k_ => ((fun _ => True)) k_ ∧ some k_ ≠ (u4 : Value).ownBlock) (Kd.R_apart' (HO162.out) (Kd.S_typed HO_4.out) (by decide)) (fun k_ hk => ⟨trivial, hk.2⟩))).1 k_ hk_.symm) ?aF ?aO ?aB ?aS ?aL ?_; (case aP => exact Kd.M_row (Kd.R_mono (Kd.R_tight rfl (Kd.R_mono (ok' := fun k_ => ((fun _ => True)) k_ ∧ some k_ ≠ (u4 : Value).ownBlock) (Kd.R_apart' (HO162.out) (Kd.S_typed HO_4.out) (by decide)) (fun k_ hk => ⟨trivial, hk.2⟩))) (fun _ h_ => h_))); (case aB => exact (by repeat (first | (with_reducible first | exact HB.out | apply below_alloc | apply pw_below_drewN | apply below_drew1) | exact HB.out))); (case aF => exact (fun _ _ => trivial)); (case aO => exact (by (with_reducible repeat (first | apply Kd.S_alloc | apply Kd.S_drewN | apply Kd.S_drew)); exact Kd.S_mono HO_4.out (fun k_ hk => ⟨trivial, fun e_ => hk.2 e_⟩))); (case aS => exact (below_size (by repeat (first | (with_reducible first | exact HB.out | apply below_alloc | apply pw_below_drewN | apply below_drew1) | exact HB.out)))); (case aL => have := LMc4.out; omega); intro v164 w6 ho hb hg hat; rw [← Ny163.out] at ho; have n0_ := Aside0.mk (hb); have n1_ := Aside0.mk (ho); clear HB; clear HO_4; clear HO162; have HB := n0_; have HO165 := n1_; clear n0_ n1_; clear ho hb hg hat))
          go_roundg k1
          case measure => have := HK1.out; omega
          case rel => exact ⟨(y163), (t159), (by first | rfl | (simp; done) | (simp [*]; done)), H', ⟨by have := HK1.out; omega⟩, ⟨by (with_reducible repeat (first | apply Kd.S_alloc | apply Kd.S_drewN | apply Kd.S_drew)); exact HO165.out⟩, ⟨by repeat (first | (with_reducible first | exact HB.out | apply below_alloc | apply pw_below_drewN | apply below_drew1) | exact HB.out)⟩⟩
        · rw [if_neg c4] at H
          exact absurd H (by simp)
      · replace c3 := Bool.eq_false_iff.mpr c3
        subst c3
        have H1 : (some (x4_1, x5_1)) = some (r1, r2) := by rw [if_neg (show ¬ (false = true) by decide)] at H; exact H
        clear H
        have H := H1
        clear H1
        simp only [Option.some.injEq, Prod.mk.injEq] at H
        obtain ⟨rfl, rfl⟩ := H
        go_wp2_with (first | ((with_reducible refine gate_callee (f := 22) rfl ?_); refine goesL_ (some 12) rfl rfl Try.func22 (by kernel_rfl) rfl #[.slice A0 l0.length c0, .int .i64 x5_1] rfl (by (try simp only [List.map_toArray, List.map_cons, List.map_nil]); first | done | rfl | (simp only [List.length_drop, List.length_take]; rfl)) ?_; (with_reducible refine (impl_FrameGet.calls k1 _ _ l0 x5_1 t158 t159 false _ ?side1 ?side2 A2.out).mono ?_); (case side1 => repeat (first | exact (Kd.C_below HR0.out HB.out) | (with_reducible refine Kd.C_alloc ?_ _) | (with_reducible refine Kd.C_drewN ?_ _) | (with_reducible refine Kd.C_drew ?_))); (case side2 => exact HC0.out); rintro e w8 ⟨v161, rfl, ho0, hb⟩; refine ⟨_, rfl, ?_⟩; have n0_ := Aside0.mk (Kd.S_elder' (by (with_reducible repeat (first | apply Kd.S_alloc | apply Kd.S_drewN | apply Kd.S_drew)); exact HO_4.out) (Kd.R_base ho0) hb); have n1_ := Aside0.mk (Kd.R_lower ho0 (below_size (by repeat (first | (with_reducible first | exact HB.out | apply below_alloc | apply pw_below_drewN | apply below_drew1) | exact HB.out)))); have n2_ := Aside0.mk (below_step (by repeat (first | (with_reducible first | exact HB.out | apply below_alloc | apply pw_below_drewN | apply below_drew1) | exact HB.out)) hb); clear HO_4; clear HB; have HO_4 := n0_; have HO162 := n1_; have HB := n2_; clear n0_ n1_ n2_; (try clear hb); (try clear hb2); (try clear hk); (try clear hi); (try clear ho0)))
        go_ret2
        exact ⟨_, by first | rfl | (simp [errW_none, errW_some] <;> rfl) | (simp [*, errW_none, errW_some] <;> rfl), by (with_reducible repeat (first | apply Kd.S_alloc | apply Kd.S_drewN | apply Kd.S_drew)); exact Kd.S_mono HO_4.out (fun _ hk => trivial), by repeat (first | (with_reducible first | exact HB.out | apply below_alloc | apply pw_below_drewN | apply below_drew1) | exact HB.out)⟩

/-! ### impl_Torn: function 24 -/
def impl_Torn.f (k : Nat) (l0 : List Int) : Option (Bool) := (impl_Scan.f k l0).bind fun bt166 => (some (decide (bt166.2 < (l0.length : Int))))
theorem impl_Torn.mono : ∀ a0 k, LeO (impl_Torn.f k a0) (impl_Torn.f (k + 1) a0) := by
  intro a0 k
  unfold impl_Torn.f
  repeat' first
      | (with_reducible exact impl_Scan.mono _ _)
      | (with_reducible exact LeO.refl _)
      | (with_reducible exact LeO.none _)
      | (with_reducible refine LeO.ite ?_ ?_)
      | (with_reducible refine LeO.bind ?_ (fun _ => ?_))
      | exact impl_Scan.mono _ _
      | exact LeO.none _
      | refine LeO.ite ?_ ?_
      | refine LeO.bind ?_ (fun _ => ?_)
set_option maxHeartbeats 8000000 in
set_option maxRecDepth 100000 in
theorem impl_Torn.calls (k : Nat) (A0 : Option Addr) (c0 : Nat) (l0 : List Int) (r : Bool) (w : World) (hr0 : Kd.C (Kd.int .u8) w A0 l0.length l0) (hc0 : l0.length ≤ c0) (h : impl_Torn.f k l0 = some r) :
    Calls Try.prog 24 #[.slice A0 l0.length c0] w fun e w' => e = .returned (.bool r) ∧ Below w.heap.size w w' := by
  have HR0 := Aside0.mk hr0
  have HC0 := Aside0.mk hc0
  clear hr0 hc0
  have HB := Aside0.mk (Below.refl w.heap.size w)
  have H : ((impl_Scan.f k l0).bind fun bt166 => (some (decide (bt166.2 < (l0.length : Int))))) = some r := h
  clear h
  replace H := Option.bind_eq_some_iff.mp H
  obtain ⟨⟨t166, t167⟩, A20, H⟩ := H
  replace H : (some (decide (t167 < (l0.length : Int)))) = some r := H
  have A2 := Aside0.mk A20
  clear A20
  obtain rfl := Option.some.inj H
  go_enter Try.func24, Try.ntmps24
  go_wp2_with (first | ((with_reducible refine gate_callee (f := 26) rfl ?_); refine goesL_ (some 7) rfl rfl Try.func26 (by kernel_rfl) rfl #[.slice A0 l0.length c0] rfl (by (try simp only [List.map_toArray, List.map_cons, List.map_nil]); first | done | rfl | (simp only [List.length_drop, List.length_take]; rfl)) ?_; (with_reducible refine (impl_Scan.calls k _ _ l0 t166 t167 _ ?side1 ?side2 A2.out).mono ?_); (case side1 => repeat (first | exact HR0.out | (with_reducible refine Kd.C_alloc ?_ _) | (with_reducible refine Kd.C_drewN ?_ _) | (with_reducible refine Kd.C_drew ?_))); (case side2 => exact HC0.out); rintro e w3 ⟨v168, rfl, ho0, hb⟩; refine ⟨_, rfl, ?_⟩; have n0_ := Aside0.mk (Kd.S_lower ho0 (below_size (by repeat (first | (with_reducible first | exact HB.out | apply below_alloc | apply pw_below_drewN | apply below_drew1) | exact HB.out)))); have n1_ := Aside0.mk (below_step (by repeat (first | (with_reducible first | exact HB.out | apply below_alloc | apply pw_below_drewN | apply below_drew1) | exact HB.out)) hb); clear HB; have HO169 := n0_; have HB := n1_; clear n0_ n1_; (try clear hb); (try clear hb2); (try clear hk); (try clear hi); (try clear ho0)))
  go_ret
  exact ⟨by first | rfl | (simp [errW_none, errW_some] <;> rfl) | (simp [*, errW_none, errW_some] <;> rfl), by repeat (first | (with_reducible first | exact HB.out | apply below_alloc | apply pw_below_drewN | apply below_drew1) | exact HB.out)⟩

/-! ### laws_FnExactTorn: function 5 -/
def laws_FnExactTorn.f (k : Nat) (l0 : List Int) : Option (Bool) := if (l0.length : Int) > 1048576 then (some true) else ((laws_toByteS.f k l0).bind fun t170 => ((spec_Torn.f k t170).bind fun t173 => ((laws_toByteS.f k l0).bind fun t174 => ((impl_Torn.f k t174).bind fun t177 => (if (t177 != t173) = true then (some false) else ((laws_toByteS.f k l0).bind fun t178 => ((laws_eqByteS.f k t174 t178).bind fun t181 => (if t181 = true then (some true) else (some false)))))))))
theorem laws_FnExactTorn.mono : ∀ a0 k, LeO (laws_FnExactTorn.f k a0) (laws_FnExactTorn.f (k + 1) a0) := by
  intro a0 k
  unfold laws_FnExactTorn.f
  repeat' first
      | (with_reducible exact impl_Torn.mono _ _)
      | (with_reducible exact laws_eqByteS.mono _ _ _)
      | (with_reducible exact laws_toByteS.mono _ _)
      | (with_reducible exact spec_Torn.mono _ _)
      | (with_reducible exact LeO.refl _)
      | (with_reducible exact LeO.none _)
      | (with_reducible refine LeO.ite ?_ ?_)
      | (with_reducible refine LeO.bind ?_ (fun _ => ?_))
      | exact impl_Torn.mono _ _
      | exact laws_eqByteS.mono _ _ _
      | exact laws_toByteS.mono _ _
      | exact spec_Torn.mono _ _
      | exact LeO.none _
      | refine LeO.ite ?_ ?_
      | refine LeO.bind ?_ (fun _ => ?_)
set_option maxHeartbeats 8000000 in
set_option maxRecDepth 100000 in
theorem laws_FnExactTorn.calls (k : Nat) (A0 : Option Addr) (c0 : Nat) (l0 : List Int) (r : Bool) (w : World) (hr0 : Kd.C (Kd.int .u8) w A0 l0.length l0) (hc0 : l0.length ≤ c0) (HR : Aside0 (r = true)) (h : laws_FnExactTorn.f k l0 = some r) :
    Calls Try.prog 5 #[.slice A0 l0.length c0] w fun e w' => e = .returned (.bool r) ∧ Below w.heap.size w w' := by
  have HR0 := Aside0.mk hr0
  have HC0 := Aside0.mk hc0
  clear hr0 hc0
  have HB := Aside0.mk (Below.refl w.heap.size w)
  have H : (if (l0.length : Int) > 1048576 then (some true) else ((laws_toByteS.f k l0).bind fun t170 => ((spec_Torn.f k t170).bind fun t173 => ((laws_toByteS.f k l0).bind fun t174 => ((impl_Torn.f k t174).bind fun t177 => (if (t177 != t173) = true then (some false) else ((laws_toByteS.f k l0).bind fun t178 => ((laws_eqByteS.f k t174 t178).bind fun t181 => (if t181 = true then (some true) else (some false)))))))))) = some r := h
  clear h
  by_cases c2 : (l0.length : Int) > 1048576
  · rw [if_pos c2] at H
    have c2b0 : decide (1048576 < (l0.length : Int)) = true := decide_eq_true c2
    have c2b1 : decide (1048576 < l0.length) = true := decide_eq_true (by omega)
    clear c2
    obtain rfl := Option.some.inj H
    go_enter Try.func5, Try.ntmps5
    go_wp2
    go_ret
    exact ⟨by first | rfl | (simp [errW_none, errW_some] <;> rfl) | (simp [*, errW_none, errW_some] <;> rfl), by repeat (first | (with_reducible first | exact HB.out | apply below_alloc | apply pw_below_drewN | apply below_drew1) | exact HB.out)⟩
  · rw [if_neg c2] at H
    have c2b0 : decide (1048576 < (l0.length : Int)) = false := decide_eq_false c2
    have c2b1 : decide (1048576 < l0.length) = false := decide_eq_false (by omega)
    clear c2
    replace H := Option.bind_eq_some_iff.mp H
    obtain ⟨t170, A30, H⟩ := H
    replace H : ((spec_Torn.f k t170).bind fun t173 => ((laws_toByteS.f k l0).bind fun t174 => ((impl_Torn.f k t174).bind fun t177 => (if (t177 != t173) = true then (some false) else ((laws_toByteS.f k l0).bind fun t178 => ((laws_eqByteS.f k t174 t178).bind fun t181 => (if t181 = true then (some true) else (some false)))))))) = some r := H
    have A3 := Aside0.mk A30
    clear A30
    replace H := Option.bind_eq_some_iff.mp H
    obtain ⟨t173, A40, H⟩ := H
    replace H : ((laws_toByteS.f k l0).bind fun t174 => ((impl_Torn.f k t174).bind fun t177 => (if (t177 != t173) = true then (some false) else ((laws_toByteS.f k l0).bind fun t178 => ((laws_eqByteS.f k t174 t178).bind fun t181 => (if t181 = true then (some true) else (some false))))))) = some r := H
    have A4 := Aside0.mk A40
    clear A40
    replace H := Option.bind_eq_some_iff.mp H
    obtain ⟨t174, A50, H⟩ := H
    replace H : ((impl_Torn.f k t174).bind fun t177 => (if (t177 != t173) = true then (some false) else ((laws_toByteS.f k l0).bind fun t178 => ((laws_eqByteS.f k t174 t178).bind fun t181 => (if t181 = true then (some true) else (some false)))))) = some r := H
    have A5 := Aside0.mk A50
    clear A50
    replace H := Option.bind_eq_some_iff.mp H
    obtain ⟨t177, A60, H⟩ := H
    replace H : (if (t177 != t173) = true then (some false) else ((laws_toByteS.f k l0).bind fun t178 => ((laws_eqByteS.f k t174 t178).bind fun t181 => (if t181 = true then (some true) else (some false))))) = some r := H
    have A6 := Aside0.mk A60
    clear A60
    by_cases c7 : (t177 != t173) = true
    · rw [if_pos c7] at H
      have c7b0 : (t177 != t173) = true := c7
      (try (have c7b1 : decide (t177 = t173) = false := by simpa using c7))
      (try (have c7b2 : (t177 == t173) = false := by simpa using c7))
      (try (have c7b3 : ¬ (t177 = t173) := by simpa using c7))
      clear c7
      exact absurd ((Option.some.inj H).trans HR.out) (by decide)
    · rw [if_neg c7] at H
      have c7b0 : (t177 != t173) = false := by simpa using c7
      (try (have c7b1 : decide (t177 = t173) = true := by simpa using c7))
      (try (have c7b2 : (t177 == t173) = true := by simpa using c7))
      clear c7
      replace H := Option.bind_eq_some_iff.mp H
      obtain ⟨t178, A80, H⟩ := H
      replace H : ((laws_eqByteS.f k t174 t178).bind fun t181 => (if t181 = true then (some true) else (some false))) = some r := H
      have A8 := Aside0.mk A80
      clear A80
      replace H := Option.bind_eq_some_iff.mp H
      obtain ⟨t181, A90, H⟩ := H
      replace H : (if t181 = true then (some true) else (some false)) = some r := H
      have A9 := Aside0.mk A90
      clear A90
      by_cases c10 : t181 = true
      · subst c10
        have H1 : (some true) = some r := by rw [if_pos rfl] at H; exact H
        clear H
        have H := H1
        clear H1
        obtain rfl := Option.some.inj H
        go_enter Try.func5, Try.ntmps5
        go_wp2_with (first | ((with_reducible refine gate_callee (f := 16) rfl ?_); refine goesL_ (some 10) rfl rfl Try.func16 (by kernel_rfl) rfl #[.slice A0 l0.length c0] rfl (by (try simp only [List.map_toArray, List.map_cons, List.map_nil]); first | done | rfl | (simp only [List.length_drop, List.length_take]; rfl)) ?_; (with_reducible refine (laws_toByteS.calls k _ _ l0 t170 _ ?side1 ?side2 A3.out).mono ?_); (case side1 => repeat (first | exact HR0.out | (with_reducible refine Kd.C_alloc ?_ _) | (with_reducible refine Kd.C_drewN ?_ _) | (with_reducible refine Kd.C_drew ?_))); (case side2 => exact HC0.out); rintro e w11 ⟨v171, rfl, ho0, hb⟩; refine ⟨_, rfl, ?_⟩; have n0_ := Aside0.mk (Kd.R_lower ho0 (below_size (by repeat (first | (with_reducible first | exact HB.out | apply below_alloc | apply pw_below_drewN | apply below_drew1) | exact HB.out)))); have n1_ := Aside0.mk (below_step (by repeat (first | (with_reducible first | exact HB.out | apply below_alloc | apply pw_below_drewN | apply below_drew1) | exact HB.out)) hb); clear HB; have HO172 := n0_; have HB := n1_; clear n0_ n1_; (try clear hb); (try clear hb2); (try clear hk); (try clear hi); (try clear ho0); obtain ⟨Ao12, co12, eo12⟩ := Kd.R_slice HO172.out; subst eo12) | ((with_reducible refine gate_callee (f := 23) rfl ?_); refine goesL_ (some 11) rfl rfl Try.func23 (by kernel_rfl) rfl #[.slice Ao12 t170.length co12] rfl (by (try simp only [List.map_toArray, List.map_cons, List.map_nil]); first | done | rfl | (simp only [List.length_drop, List.length_take]; rfl)) ?_; (with_reducible refine (spec_Torn.calls k _ _ t170 t173 _ ?side1 ?side2 A4.out).mono ?_); (case side1 => repeat (first | exact (Kd.R_reads' HO172.out).2.2 | (with_reducible refine Kd.C_alloc ?_ _) | (with_reducible refine Kd.C_drewN ?_ _) | (with_reducible refine Kd.C_drew ?_))); (case side2 => exact (Kd.R_reads' HO172.out).2.1); rintro e w13 ⟨rfl, hb⟩; refine ⟨_, rfl, ?_⟩; have n0_ := Aside0.mk (Kd.R_below (by (with_reducible repeat (first | apply Kd.R_alloc | apply Kd.R_drewN | apply Kd.R_drew)); exact HO172.out) hb); have n1_ := Aside0.mk (below_step (by repeat (first | (with_reducible first | exact HB.out | apply below_alloc | apply pw_below_drewN | apply below_drew1) | exact HB.out)) hb); clear HO172; clear HB; have HO172 := n0_; have HB := n1_; clear n0_ n1_; (try clear hb); (try clear hb2); (try clear hk); (try clear hi)) | ((with_reducible refine gate_callee (f := 16) rfl ?_); refine goesL_ (some 13) rfl rfl Try.func16 (by kernel_rfl) rfl #[.slice A0 l0.length c0] rfl (by (try simp only [List.map_toArray, List.map_cons, List.map_nil]); first | done | rfl | (simp only [List.length_drop, List.length_take]; rfl)) ?_; (with_reducible refine (laws_toByteS.calls k _ _ l0 t174 _ ?side1 ?side2 A5.out).mono ?_); (case side1 => repeat (first | exact (Kd.C_below HR0.out HB.out) | (with_reducible refine Kd.C_alloc ?_ _) | (with_reducible refine Kd.C_drewN ?_ _) | (with_reducible refine Kd.C_drew ?_))); (case side2 => exact HC0.out); rintro e w14 ⟨v175, rfl, ho0, hb⟩; refine ⟨_, rfl, ?_⟩; have n0_ := Aside0.mk (Kd.R_elder' (by (with_reducible repeat (first | apply Kd.R_alloc | apply Kd.R_drewN | apply Kd.R_drew)); exact HO172.out) (Kd.R_base ho0) hb); have n1_ := Aside0.mk (Kd.R_lower (Kd.R_new' ho0 (Kd.R_lt (by (with_reducible repeat (first | apply Kd.R_alloc | apply Kd.R_drewN | apply Kd.R_drew)); exact HO172.out))) (below_size (by repeat (first | (with_reducible first | exact HB.out | apply below_alloc | apply pw_below_drewN | apply below_drew1) | exact HB.out)))); have n2_ := Aside0.mk (below_step (by repeat (first | (with_reducible first | exact HB.out | apply below_alloc | apply pw_below_drewN | apply below_drew1) | exact HB.out)) hb); clear HO172; clear HB; have HO172 := n0_; have HO176 := n1_; have HB := n2_; clear n0_ n1_ n2_; (try clear hb); (try clear hb2); (try clear hk); (try clear hi); (try clear ho0); obtain ⟨Ao15, co15, eo15⟩ := Kd.R_slice HO176.out; subst eo15) | ((with_reducible refine gate_callee (f := 24) rfl ?_); refine goesL_ (some 15) rfl rfl Try.func24 (by kernel_rfl) rfl #[.slice Ao15 t174.length co15] rfl (by (try simp only [List.map_toArray, List.map_cons, List.map_nil]); first | done | rfl | (simp only [List.length_drop, List.length_take]; rfl)) ?_; (with_reducible refine (impl_Torn.calls k _ _ t174 t177 _ ?side1 ?side2 A6.out).mono ?_); (case side1 => repeat (first | exact (Kd.R_reads' HO176.out).2.2 | (with_reducible refine Kd.C_alloc ?_ _) | (with_reducible refine Kd.C_drewN ?_ _) | (with_reducible refine Kd.C_drew ?_))); (case side2 => exact (Kd.R_reads' HO176.out).2.1); rintro e w16 ⟨rfl, hb⟩; refine ⟨_, rfl, ?_⟩; have n0_ := Aside0.mk (Kd.R_below (by (with_reducible repeat (first | apply Kd.R_alloc | apply Kd.R_drewN | apply Kd.R_drew)); exact HO172.out) hb); have n1_ := Aside0.mk (Kd.R_below (by (with_reducible repeat (first | apply Kd.R_alloc | apply Kd.R_drewN | apply Kd.R_drew)); exact HO176.out) hb); have n2_ := Aside0.mk (below_step (by repeat (first | (with_reducible first | exact HB.out | apply below_alloc | apply pw_below_drewN | apply below_drew1) | exact HB.out)) hb); clear HO172; clear HO176; clear HB; have HO172 := n0_; have HO176 := n1_; have HB := n2_; clear n0_ n1_ n2_; (try clear hb); (try clear hb2); (try clear hk); (try clear hi)) | ((with_reducible refine gate_callee (f := 16) rfl ?_); refine goesL_ (some 21) rfl rfl Try.func16 (by kernel_rfl) rfl #[.slice A0 l0.length c0] rfl (by (try simp only [List.map_toArray, List.map_cons, List.map_nil]); first | done | rfl | (simp only [List.length_drop, List.length_take]; rfl)) ?_; (with_reducible refine (laws_toByteS.calls k _ _ l0 t178 _ ?side1 ?side2 A8.out).mono ?_); (case side1 => repeat (first | exact (Kd.C_below HR0.out HB.out) | (with_reducible refine Kd.C_alloc ?_ _) | (with_reducible refine Kd.C_drewN ?_ _) | (with_reducible refine Kd.C_drew ?_))); (case side2 => exact HC0.out); rintro e w17 ⟨v179, rfl, ho0, hb⟩; refine ⟨_, rfl, ?_⟩; have n0_ := Aside0.mk (Kd.R_elder' (by (with_reducible repeat (first | apply Kd.R_alloc | apply Kd.R_drewN | apply Kd.R_drew)); exact HO172.out) (Kd.R_base ho0) hb); have n1_ := Aside0.mk (Kd.R_elder' (by (with_reducible repeat (first | apply Kd.R_alloc | apply Kd.R_drewN | apply Kd.R_drew)); exact HO176.out) (Kd.R_base ho0) hb); have n2_ := Aside0.mk (Kd.R_lower (Kd.R_new' (Kd.R_new' ho0 (Kd.R_lt (by (with_reducible repeat (first | apply Kd.R_alloc | apply Kd.R_drewN | apply Kd.R_drew)); exact HO172.out))) (Kd.R_lt (by (with_reducible repeat (first | apply Kd.R_alloc | apply Kd.R_drewN | apply Kd.R_drew)); exact HO176.out))) (below_size (by repeat (first | (with_reducible first | exact HB.out | apply below_alloc | apply pw_below_drewN | apply below_drew1) | exact HB.out)))); have n3_ := Aside0.mk (below_step (by repeat (first | (with_reducible first | exact HB.out | apply below_alloc | apply pw_below_drewN | apply below_drew1) | exact HB.out)) hb); clear HO172; clear HO176; clear HB; have HO172 := n0_; have HO176 := n1_; have HO180 := n2_; have HB := n3_; clear n0_ n1_ n2_ n3_; (try clear hb); (try clear hb2); (try clear hk); (try clear hi); (try clear ho0); obtain ⟨Ao18, co18, eo18⟩ := Kd.R_slice HO180.out; subst eo18) | ((with_reducible refine gate_callee (f := 18) rfl ?_); refine goesL_ (some 22) rfl rfl Try.func18 (by kernel_rfl) rfl #[.slice Ao15 t174.length co15, .slice Ao18 t178.length co18] rfl (by (try simp only [List.map_toArray, List.map_cons, List.map_nil]); first | done | rfl | (simp only [List.length_drop, List.length_take]; rfl)) ?_; (with_reducible refine (laws_eqByteS.calls k _ _ t174 _ _ t178 true _ ?side1 ?side2 ?side3 ?side4 A9.out).mono ?_); (case side1 => repeat (first | exact (Kd.R_reads' HO176.out).2.2 | (with_reducible refine Kd.C_alloc ?_ _) | (with_reducible refine Kd.C_drewN ?_ _) | (with_reducible refine Kd.C_drew ?_))); (case side2 => exact (Kd.R_reads' HO176.out).2.1); (case side3 => repeat (first | exact (Kd.R_reads' HO180.out).2.2 | (with_reducible refine Kd.C_alloc ?_ _) | (with_reducible refine Kd.C_drewN ?_ _) | (with_reducible refine Kd.C_drew ?_))); (case side4 => exact (Kd.R_reads' HO180.out).2.1); rintro e w' ⟨rfl, ⟨nd, rfl⟩⟩; refine ⟨_, rfl, ?_⟩))
        go_ret
        exact ⟨by first | rfl | (simp [errW_none, errW_some] <;> rfl) | (simp [*, errW_none, errW_some] <;> rfl), by repeat (first | (with_reducible first | exact HB.out | apply below_alloc | apply pw_below_drewN | apply below_drew1) | exact HB.out)⟩
      · replace c10 := Bool.eq_false_iff.mpr c10
        subst c10
        have H1 : (some false) = some r := by rw [if_neg (show ¬ (false = true) by decide)] at H; exact H
        clear H
        have H := H1
        clear H1
        exact absurd ((Option.some.inj H).trans HR.out) (by decide)

/-- THE ONE PURE STATEMENT of laws_FnExactTorn: yours. -/
def laws_FnExactTorn.Pure : Prop := ∀ (l0 : List Int), l0.length ≤ maxLen → l0.length * 1 ≤ 140737488351232 → (∀ x ∈ l0, (Lit.int .u8 x).wf = true) → ∃ k, laws_FnExactTorn.f k l0 = some true
theorem laws_FnExactTorn.walk (P : laws_FnExactTorn.Pure) (a0 : Option Addr) (len0 cap0 : Nat) (z0 : List Int) (w : World) (w0 : (a0 = none ∧ len0 = 0 ∧ cap0 = 0 ∧ z0 = []) ∨ ∃ x, a0 = some x ∧ len0 ≤ cap0 ∧ cap0 ≤ maxLen ∧ z0.length = cap0 ∧ (∀ i, i < z0.length → w.cell? (x.add i) = some (.int .u8 (z0.getD i 0))) ∧ ∀ n ∈ z0, (Lit.int .u8 n).wf = true) (y0 : len0 * 1 ≤ 140737488351232) :
    Calls Try.prog 5 #[.slice a0 len0 cap0] w fun e w' => e = .returned (.bool true) ∧ Below w.heap.size w w' := by
  obtain ⟨l0, rfl, hr0, hm0, hw0, hc0⟩ := ReadsInt.ofRowC w0
  obtain ⟨k, h⟩ := P l0 hm0 y0 hw0
  refine (laws_FnExactTorn.calls k _ _ l0 true w (Kd.C_of_reads (d := (0 : Int)) (h1 := fun _ => rfl) hr0) hc0 (Aside0.mk rfl) h).mono ?_
  rintro e w' ⟨rfl, hd⟩
  exact ⟨rfl, hd⟩

end Go.Proofs.Ytgkjbechcbbgjaa.PFnExactTorn
