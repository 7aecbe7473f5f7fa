import Derived.Test.YtgkjbechcbbgjaaPFnExactFrameGetx0
import Derived.Test.YtgkjbechcbbgjaaPFnExactFrameGetx2
namespace Go.Proofs.Ytgkjbechcbbgjaa.PFnExactFrameGet
open Go.RowKit Go.Proofs.YtgkjbechcbbgjaaW.PrintWords Go.Proofs.YtgkjbechcbbgjaaW.PrintLast Go.Proofs.YtgkjbechcbbgjaaW.PrintMore
attribute [local go_sem] max2_int min2_int max_two min_two max_three min_three max_four min_four   -- for this text's walks alone
set_option linter.unusedVariables false
set_option linter.unusedSimpArgs false

/-! ### impl_FrameGet: function 22 -/
mutual
def impl_FrameGet.j0 : Nat → List Int → Int → Bool → Option (List Int × Int × Bool)
  | 0, _, _, _ => none
  | k + 1, x0, x1, x18 => if x18 = true then (some (([] : List Int), 0, false)) else (if 0 ≤ x1 then (if x1 < (x0.length : Int) then (if 0 ≤ (wrap64 (x1 + 1)) then (if (wrap64 (x1 + 1)) < (x0.length : Int) then (if 0 ≤ (wrap64 (x1 + 2)) then (if (wrap64 (x1 + 2)) < (x0.length : Int) then (if 0 ≤ (wrap64 (x1 + 3)) then (if (wrap64 (x1 + 3)) < (x0.length : Int) then (if 0 ≤ (wrap64 (x1 + 4)) then (if (wrap64 (x1 + 4)) < (x0.length : Int) then (if 0 ≤ (wrap64 (x1 + 5)) then (if (wrap64 (x1 + 5)) < (x0.length : Int) then ((impl_in.f (wrap64 ((wrap64 (rd x0 x1)) + (wrap64 ((wrap64 (rd x0 (wrap64 (x1 + 1)))) * 256)))) 1 2000).bind fun t139 => (if t139 = true then (impl_FrameGet.j1 k x0 x1 (wrap64 ((wrap64 (rd x0 x1)) + (wrap64 ((wrap64 (rd x0 (wrap64 (x1 + 1)))) * 256)))) (wrap64 ((wrap64 ((wrap64 ((wrap64 (rd x0 (wrap64 (x1 + 2)))) + (wrap64 ((wrap64 (rd x0 (wrap64 (x1 + 3)))) * 256)))) + (wrap64 ((wrap64 (rd x0 (wrap64 (x1 + 4)))) * 65536)))) + (wrap64 ((wrap64 (rd x0 (wrap64 (x1 + 5)))) * 16777216)))) (decide ((wrap64 ((wrap64 (rd x0 x1)) + (wrap64 ((wrap64 (rd x0 (wrap64 (x1 + 1)))) * 256)))) > (wrap64 ((wrap64 ((x0.length : Int) - x1)) - 6))))) else (impl_FrameGet.j1 k x0 x1 (wrap64 ((wrap64 (rd x0 x1)) + (wrap64 ((wrap64 (rd x0 (wrap64 (x1 + 1)))) * 256)))) (wrap64 ((wrap64 ((wrap64 ((wrap64 (rd x0 (wrap64 (x1 + 2)))) + (wrap64 ((wrap64 (rd x0 (wrap64 (x1 + 3)))) * 256)))) + (wrap64 ((wrap64 (rd x0 (wrap64 (x1 + 4)))) * 65536)))) + (wrap64 ((wrap64 (rd x0 (wrap64 (x1 + 5)))) * 16777216)))) true))) else (none)) else (none)) else (none)) else (none)) else (none)) else (none)) else (none)) else (none)) else (none)) else (none)) else (none)) else (none))
def impl_FrameGet.j1 : Nat → List Int → Int → Int → Int → Bool → Option (List Int × Int × Bool)
  | 0, _, _, _, _, _ => none
  | k + 1, x0, x1, x7, x8, x73 => if x73 = true then (some (([] : List Int), 0, false)) else (if 0 ≤ (wrap64 (x1 + 6)) then (if (wrap64 (x1 + 6)) ≤ (wrap64 ((wrap64 (x1 + 6)) + x7)) then (if (wrap64 ((wrap64 (x1 + 6)) + x7)) ≤ (x0.length : Int) then ((impl_copyBytes.f ((x0.take ((wrap64 ((wrap64 (x1 + 6)) + x7)) : Int).toNat).drop ((wrap64 (x1 + 6)) : Int).toNat)).bind fun t141 => ((impl_Crc.f k t141).bind fun t144 => (if t144 = x8 then (some (t141, wrap64 ((wrap64 (x1 + 6)) + x7), true)) else (some (([] : List Int), 0, false))))) else (none)) else (none)) else (none))
end
def impl_FrameGet.f (k : Nat) (l0 : List Int) (a1 : Int) : Option (List Int × Int × Bool) := if a1 < 0 then (impl_FrameGet.j0 k l0 a1 true) else (impl_FrameGet.j0 k l0 a1 (decide (a1 > (wrap64 ((l0.length : Int) - 6)))))
theorem impl_FrameGet.mono_l : ∀ k, (∀ y0 y1 y2, LeO (impl_FrameGet.j0 k y0 y1 y2) (impl_FrameGet.j0 (k + 1) y0 y1 y2)) ∧ (∀ y0 y1 y2 y3 y4, LeO (impl_FrameGet.j1 k y0 y1 y2 y3 y4) (impl_FrameGet.j1 (k + 1) y0 y1 y2 y3 y4))
  | 0 => ⟨fun _ _ _ r h => by simp [impl_FrameGet.j0] at h, fun _ _ _ _ _ r h => by simp [impl_FrameGet.j1] at h⟩
  | k + 1 => by
    obtain ⟨ih0, ih1⟩ := impl_FrameGet.mono_l k
    refine ⟨?_, ?_⟩
    · intro y0 y1 y2
      unfold impl_FrameGet.j0
      repeat' first
      | (with_reducible exact ih0 _ _ _)
      | (with_reducible exact ih1 _ _ _ _ _)
      | (with_reducible exact impl_Crc.mono _ _)
      | (with_reducible exact LeO.refl _)
      | (with_reducible exact LeO.none _)
      | (with_reducible refine LeO.ite ?_ ?_)
      | (with_reducible refine LeO.bind ?_ (fun _ => ?_))
      | exact ih0 _ _ _
      | exact ih1 _ _ _ _ _
      | exact impl_Crc.mono _ _
      | exact LeO.none _
      | refine LeO.ite ?_ ?_
      | refine LeO.bind ?_ (fun _ => ?_)
    · intro y0 y1 y2 y3 y4
      unfold impl_FrameGet.j1
      repeat' first
      | (with_reducible exact ih0 _ _ _)
      | (with_reducible exact ih1 _ _ _ _ _)
      | (with_reducible exact impl_Crc.mono _ _)
      | (with_reducible exact LeO.refl _)
      | (with_reducible exact LeO.none _)
      | (with_reducible refine LeO.ite ?_ ?_)
      | (with_reducible refine LeO.bind ?_ (fun _ => ?_))
      | exact ih0 _ _ _
      | exact ih1 _ _ _ _ _
      | exact impl_Crc.mono _ _
      | exact LeO.none _
      | refine LeO.ite ?_ ?_
      | refine LeO.bind ?_ (fun _ => ?_)
theorem impl_FrameGet.mono : ∀ a0 a1 k, LeO (impl_FrameGet.f k a0 a1) (impl_FrameGet.f (k + 1) a0 a1) := by
  intro a0 a1 k
  obtain ⟨ih0, ih1⟩ := impl_FrameGet.mono_l k
  unfold impl_FrameGet.f
  repeat' first
      | (with_reducible exact ih0 _ _ _)
      | (with_reducible exact ih1 _ _ _ _ _)
      | (with_reducible exact impl_Crc.mono _ _)
      | (with_reducible exact LeO.refl _)
      | (with_reducible exact LeO.none _)
      | (with_reducible refine LeO.ite ?_ ?_)
      | (with_reducible refine LeO.bind ?_ (fun _ => ?_))
      | exact ih0 _ _ _
      | exact ih1 _ _ _ _ _
      | exact impl_Crc.mono _ _
      | exact LeO.none _
      | refine LeO.ite ?_ ?_
      | refine LeO.bind ?_ (fun _ => ?_)
set_option maxHeartbeats 8000000 in
set_option maxRecDepth 100000 in
theorem impl_FrameGet.calls (k : Nat) (A0 : Option Addr) (c0 : Nat) (l0 : List Int) (a1 : Int) (r1 : List Int) (r2 : Int) (r3 : Bool) (w : World) (hr0 : Kd.C (Kd.int .u8) w A0 l0.length l0) (hc0 : l0.length ≤ c0) (h : impl_FrameGet.f k l0 a1 = some (r1, r2, r3)) :
    Calls Try.prog 22 #[.slice A0 l0.length c0, .int .i64 a1] w fun e w' => ∃ v0_ : Value, e = .returned (.tuple #[v0_, .int .i64 r2, .bool r3]) ∧ Kd.R (Kd.int .u8) 5 w' w.heap.size (fun _ => True) v0_ r1 ∧ Below w.heap.size w w' := by
  have HR0 := Aside0.mk hr0
  have HC0 := Aside0.mk hc0
  clear hr0 hc0
  have HB := Aside0.mk (Below.refl w.heap.size w)
  have H : (if a1 < 0 then (impl_FrameGet.j0 k l0 a1 true) else (impl_FrameGet.j0 k l0 a1 (decide (a1 > (wrap64 ((l0.length : Int) - 6)))))) = some (r1, r2, r3) := h
  clear h
  have HC3 := Aside0.mk H
  clear H
  go_enter Try.func22, Try.ntmps22
  go_upto_region 1 with (fail)
  repeat (go_quiet (fail); go_upto_region 1 with (fail))
  go_cut [18] (fun v18 wc => ∃ (kq : Nat) (x18_2 : Bool), v18 = .bool x18_2 ∧ Aside0 (impl_FrameGet.j0 kq l0 a1 x18_2 = some (r1, r2, r3)) ∧ Aside0 (kq ≤ k) ∧ Aside0 (Below w.heap.size w wc))
  case first =>
    have H := HC3.out
    clear HC3
    by_cases c4 : a1 < 0
    · rw [if_pos c4] at H
      have c4b0 : decide (a1 < 0) = true := decide_eq_true c4
      clear c4
      (first | rw [c4b0] | (simp only [i64_w, i32_w]; rw [c4b0]) | skip)
      have H' := Aside0.mk H
      clear H
      go_wp2
      repeat (go_quiet (fail); try go_wp2)
      go_meet
      case rel => exact ⟨_, (true), (by first | rfl | (simp; done) | (simp [*]; done)), H', ⟨by first | omega | exact Nat.le_refl _⟩, ⟨by repeat (first | (with_reducible first | exact HB.out | apply below_alloc | apply pw_below_drewN | apply below_drew1) | exact HB.out)⟩⟩
    · rw [if_neg c4] at H
      have c4b0 : decide (a1 < 0) = false := decide_eq_false c4
      clear c4
      (first | rw [c4b0] | (simp only [i64_w, i32_w]; rw [c4b0]) | skip)
      have H' := Aside0.mk H
      clear H
      go_wp2
      repeat (go_quiet (fail); try go_wp2)
      go_meet
      case rel => exact ⟨_, (decide (a1 > (wrap64 ((l0.length : Int) - 6)))), (by first | rfl | (simp; done) | (simp [*]; done)), H', ⟨by first | omega | exact Nat.le_refl _⟩, ⟨by repeat (first | (with_reducible first | exact HB.out | apply below_alloc | apply pw_below_drewN | apply below_drew1) | exact HB.out)⟩⟩
  case rest =>
    clear HC3
    try clear c2
    try clear p2
    try clear c4
    try clear c4b0
    obtain ⟨kq, x18_2, rfl, HA, HJ2, HB⟩ := hcut
    cases kq with
    | zero => exact absurd HA.out (by simp [impl_FrameGet.j0])
    | succ kj2 =>
      have H := HA.out
      clear HA
      simp only [impl_FrameGet.j0] at H
      by_cases c5 : x18_2 = true
      · subst c5
        have H1 : (some (([] : List Int), 0, false)) = some (r1, r2, r3) := by rw [if_pos rfl] at H; exact H
        clear H
        have H := H1
        clear H1
        simp only [Option.some.injEq, Prod.mk.injEq] at H
        obtain ⟨rfl, rfl, rfl⟩ := H
        go_wp2
        repeat (go_quiet (fail); try go_wp2)
        go_ret3
        exact ⟨_, by first | rfl | (simp [errW_none, errW_some] <;> rfl) | (simp [*, errW_none, errW_some] <;> rfl), by first | exact Kd.R_nil _ _ _ _ _ | exact Kd.N_nil _ _ _ _ _ | exact Kd.V_nil _ _ _ _ _ | exact Kd.Q_nil _ _ _ _ _ | exact Kd.S_nil _ _ _ _ _, by repeat (first | (with_reducible first | exact HB.out | apply below_alloc | apply pw_below_drewN | apply below_drew1) | exact HB.out)⟩
      · replace c5 := Bool.eq_false_iff.mpr c5
        subst c5
        have H1 : (if 0 ≤ a1 then (if a1 < (l0.length : Int) then (if 0 ≤ (wrap64 (a1 + 1)) then (if (wrap64 (a1 + 1)) < (l0.length : Int) then (if 0 ≤ (wrap64 (a1 + 2)) then (if (wrap64 (a1 + 2)) < (l0.length : Int) then (if 0 ≤ (wrap64 (a1 + 3)) then (if (wrap64 (a1 + 3)) < (l0.length : Int) then (if 0 ≤ (wrap64 (a1 + 4)) then (if (wrap64 (a1 + 4)) < (l0.length : Int) then (if 0 ≤ (wrap64 (a1 + 5)) then (if (wrap64 (a1 + 5)) < (l0.length : Int) then ((impl_in.f (wrap64 ((wrap64 (rd l0 a1)) + (wrap64 ((wrap64 (rd l0 (wrap64 (a1 + 1)))) * 256)))) 1 2000).bind fun t139 => (if t139 = true then (impl_FrameGet.j1 kj2 l0 a1 (wrap64 ((wrap64 (rd l0 a1)) + (wrap64 ((wrap64 (rd l0 (wrap64 (a1 + 1)))) * 256)))) (wrap64 ((wrap64 ((wrap64 ((wrap64 (rd l0 (wrap64 (a1 + 2)))) + (wrap64 ((wrap64 (rd l0 (wrap64 (a1 + 3)))) * 256)))) + (wrap64 ((wrap64 (rd l0 (wrap64 (a1 + 4)))) * 65536)))) + (wrap64 ((wrap64 (rd l0 (wrap64 (a1 + 5)))) * 16777216)))) (decide ((wrap64 ((wrap64 (rd l0 a1)) + (wrap64 ((wrap64 (rd l0 (wrap64 (a1 + 1)))) * 256)))) > (wrap64 ((wrap64 ((l0.length : Int) - a1)) - 6))))) else (impl_FrameGet.j1 kj2 l0 a1 (wrap64 ((wrap64 (rd l0 a1)) + (wrap64 ((wrap64 (rd l0 (wrap64 (a1 + 1)))) * 256)))) (wrap64 ((wrap64 ((wrap64 ((wrap64 (rd l0 (wrap64 (a1 + 2)))) + (wrap64 ((wrap64 (rd l0 (wrap64 (a1 + 3)))) * 256)))) + (wrap64 ((wrap64 (rd l0 (wrap64 (a1 + 4)))) * 65536)))) + (wrap64 ((wrap64 (rd l0 (wrap64 (a1 + 5)))) * 16777216)))) true))) else (none)) else (none)) else (none)) else (none)) else (none)) else (none)) else (none)) else (none)) else (none)) else (none)) else (none)) else (none)) = some (r1, r2, r3) := by rw [if_neg (show ¬ (false = true) by decide)] at H; exact H
        clear H
        have H := H1
        clear H1
        by_cases c6 : 0 ≤ a1
        · rw [if_pos c6] at H
          have c6b0 : decide (0 ≤ a1) = true := decide_eq_true c6
          clear c6
          by_cases c7 : a1 < (l0.length : Int)
          · rw [if_pos c7] at H
            have c7b0 : decide (a1 < (l0.length : Int)) = true := decide_eq_true c7
            clear c7
            obtain ⟨ji8, hji8⟩ : ∃ j_ : Int, (wrap64 (a1 + 1)) = j_ := ⟨_, rfl⟩
            replace H : (if 0 ≤ (ji8) then (if (ji8) < (l0.length : Int) then (if 0 ≤ (wrap64 (a1 + 2)) then (if (wrap64 (a1 + 2)) < (l0.length : Int) then (if 0 ≤ (wrap64 (a1 + 3)) then (if (wrap64 (a1 + 3)) < (l0.length : Int) then (if 0 ≤ (wrap64 (a1 + 4)) then (if (wrap64 (a1 + 4)) < (l0.length : Int) then (if 0 ≤ (wrap64 (a1 + 5)) then (if (wrap64 (a1 + 5)) < (l0.length : Int) then ((impl_in.f (wrap64 ((wrap64 (rd l0 a1)) + (wrap64 ((wrap64 (rd l0 (ji8))) * 256)))) 1 2000).bind fun t139 => (if t139 = true then (impl_FrameGet.j1 kj2 l0 a1 (wrap64 ((wrap64 (rd l0 a1)) + (wrap64 ((wrap64 (rd l0 (ji8))) * 256)))) (wrap64 ((wrap64 ((wrap64 ((wrap64 (rd l0 (wrap64 (a1 + 2)))) + (wrap64 ((wrap64 (rd l0 (wrap64 (a1 + 3)))) * 256)))) + (wrap64 ((wrap64 (rd l0 (wrap64 (a1 + 4)))) * 65536)))) + (wrap64 ((wrap64 (rd l0 (wrap64 (a1 + 5)))) * 16777216)))) (decide ((wrap64 ((wrap64 (rd l0 a1)) + (wrap64 ((wrap64 (rd l0 (ji8))) * 256)))) > (wrap64 ((wrap64 ((l0.length : Int) - a1)) - 6))))) else (impl_FrameGet.j1 kj2 l0 a1 (wrap64 ((wrap64 (rd l0 a1)) + (wrap64 ((wrap64 (rd l0 (ji8))) * 256)))) (wrap64 ((wrap64 ((wrap64 ((wrap64 (rd l0 (wrap64 (a1 + 2)))) + (wrap64 ((wrap64 (rd l0 (wrap64 (a1 + 3)))) * 256)))) + (wrap64 ((wrap64 (rd l0 (wrap64 (a1 + 4)))) * 65536)))) + (wrap64 ((wrap64 (rd l0 (wrap64 (a1 + 5)))) * 16777216)))) true))) else (none)) else (none)) else (none)) else (none)) else (none)) else (none)) else (none)) else (none)) else (none)) else (none)) = some (r1, r2, r3) := by first | (rw [hji8] at H; exact H) | (simp only [hji8] at H ⊢; exact H)
            have hji8w : (IntKind.i64.wrap (a1 + 1)) = ji8 := (i64_w _).trans hji8
            by_cases c9 : 0 ≤ (ji8)
            · rw [if_pos c9] at H
              have c9b0 : decide (0 ≤ (ji8)) = true := decide_eq_true c9
              clear c9
              by_cases c10 : (ji8) < (l0.length : Int)
              · rw [if_pos c10] at H
                have c10b0 : decide ((ji8) < (l0.length : Int)) = true := decide_eq_true c10
                clear c10
                obtain ⟨ji11, hji11⟩ : ∃ j_ : Int, (wrap64 (a1 + 2)) = j_ := ⟨_, rfl⟩
                replace H : (if 0 ≤ (ji11) then (if (ji11) < (l0.length : Int) then (if 0 ≤ (wrap64 (a1 + 3)) then (if (wrap64 (a1 + 3)) < (l0.length : Int) then (if 0 ≤ (wrap64 (a1 + 4)) then (if (wrap64 (a1 + 4)) < (l0.length : Int) then (if 0 ≤ (wrap64 (a1 + 5)) then (if (wrap64 (a1 + 5)) < (l0.length : Int) then ((impl_in.f (wrap64 ((wrap64 (rd l0 a1)) + (wrap64 ((wrap64 (rd l0 (ji8))) * 256)))) 1 2000).bind fun t139 => (if t139 = true then (impl_FrameGet.j1 kj2 l0 a1 (wrap64 ((wrap64 (rd l0 a1)) + (wrap64 ((wrap64 (rd l0 (ji8))) * 256)))) (wrap64 ((wrap64 ((wrap64 ((wrap64 (rd l0 (ji11))) + (wrap64 ((wrap64 (rd l0 (wrap64 (a1 + 3)))) * 256)))) + (wrap64 ((wrap64 (rd l0 (wrap64 (a1 + 4)))) * 65536)))) + (wrap64 ((wrap64 (rd l0 (wrap64 (a1 + 5)))) * 16777216)))) (decide ((wrap64 ((wrap64 (rd l0 a1)) + (wrap64 ((wrap64 (rd l0 (ji8))) * 256)))) > (wrap64 ((wrap64 ((l0.length : Int) - a1)) - 6))))) else (impl_FrameGet.j1 kj2 l0 a1 (wrap64 ((wrap64 (rd l0 a1)) + (wrap64 ((wrap64 (rd l0 (ji8))) * 256)))) (wrap64 ((wrap64 ((wrap64 ((wrap64 (rd l0 (ji11))) + (wrap64 ((wrap64 (rd l0 (wrap64 (a1 + 3)))) * 256)))) + (wrap64 ((wrap64 (rd l0 (wrap64 (a1 + 4)))) * 65536)))) + (wrap64 ((wrap64 (rd l0 (wrap64 (a1 + 5)))) * 16777216)))) true))) else (none)) else (none)) else (none)) else (none)) else (none)) else (none)) else (none)) else (none)) = some (r1, r2, r3) := by first | (rw [hji11] at H; exact H) | (simp only [hji11] at H ⊢; exact H)
                have hji11w : (IntKind.i64.wrap (a1 + 2)) = ji11 := (i64_w _).trans hji11
                by_cases c12 : 0 ≤ (ji11)
                · rw [if_pos c12] at H
                  have c12b0 : decide (0 ≤ (ji11)) = true := decide_eq_true c12
                  clear c12
                  by_cases c13 : (ji11) < (l0.length : Int)
                  · rw [if_pos c13] at H
                    have c13b0 : decide ((ji11) < (l0.length : Int)) = true := decide_eq_true c13
                    clear c13
                    obtain ⟨ji14, hji14⟩ : ∃ j_ : Int, (wrap64 (a1 + 3)) = j_ := ⟨_, rfl⟩
                    replace H : (if 0 ≤ (ji14) then (if (ji14) < (l0.length : Int) then (if 0 ≤ (wrap64 (a1 + 4)) then (if (wrap64 (a1 + 4)) < (l0.length : Int) then (if 0 ≤ (wrap64 (a1 + 5)) then (if (wrap64 (a1 + 5)) < (l0.length : Int) then ((impl_in.f (wrap64 ((wrap64 (rd l0 a1)) + (wrap64 ((wrap64 (rd l0 (ji8))) * 256)))) 1 2000).bind fun t139 => (if t139 = true then (impl_FrameGet.j1 kj2 l0 a1 (wrap64 ((wrap64 (rd l0 a1)) + (wrap64 ((wrap64 (rd l0 (ji8))) * 256)))) (wrap64 ((wrap64 ((wrap64 ((wrap64 (rd l0 (ji11))) + (wrap64 ((wrap64 (rd l0 (ji14))) * 256)))) + (wrap64 ((wrap64 (rd l0 (wrap64 (a1 + 4)))) * 65536)))) + (wrap64 ((wrap64 (rd l0 (wrap64 (a1 + 5)))) * 16777216)))) (decide ((wrap64 ((wrap64 (rd l0 a1)) + (wrap64 ((wrap64 (rd l0 (ji8))) * 256)))) > (wrap64 ((wrap64 ((l0.length : Int) - a1)) - 6))))) else (impl_FrameGet.j1 kj2 l0 a1 (wrap64 ((wrap64 (rd l0 a1)) + (wrap64 ((wrap64 (rd l0 (ji8))) * 256)))) (wrap64 ((wrap64 ((wrap64 ((wrap64 (rd l0 (ji11))) + (wrap64 ((wrap64 (rd l0 (ji14))) * 256)))) + (wrap64 ((wrap64 (rd l0 (wrap64 (a1 + 4)))) * 65536)))) + (wrap64 ((wrap64 (rd l0 (wrap64 (a1 + 5)))) * 16777216)))) true))) else (none)) else (none)) else (none)) else (none)) else (none)) else (none)) = some (r1, r2, r3) := by first | (rw [hji14] at H; exact H) | (simp only [hji14] at H ⊢; exact H)
                    have hji14w : (IntKind.i64.wrap (a1 + 3)) = ji14 := (i64_w _).trans hji14
                    by_cases c15 : 0 ≤ (ji14)
                    · rw [if_pos c15] at H
                      have c15b0 : decide (0 ≤ (ji14)) = true := decide_eq_true c15
                      clear c15
                      by_cases c16 : (ji14) < (l0.length : Int)
                      · rw [if_pos c16] at H
                        have c16b0 : decide ((ji14) < (l0.length : Int)) = true := decide_eq_true c16
                        clear c16
                        obtain ⟨ji17, hji17⟩ : ∃ j_ : Int, (wrap64 (a1 + 4)) = j_ := ⟨_, rfl⟩
                        replace H : (if 0 ≤ (ji17) then (if (ji17) < (l0.length : Int) then (if 0 ≤ (wrap64 (a1 + 5)) then (if (wrap64 (a1 + 5)) < (l0.length : Int) then ((impl_in.f (wrap64 ((wrap64 (rd l0 a1)) + (wrap64 ((wrap64 (rd l0 (ji8))) * 256)))) 1 2000).bind fun t139 => (if t139 = true then (impl_FrameGet.j1 kj2 l0 a1 (wrap64 ((wrap64 (rd l0 a1)) + (wrap64 ((wrap64 (rd l0 (ji8))) * 256)))) (wrap64 ((wrap64 ((wrap64 ((wrap64 (rd l0 (ji11))) + (wrap64 ((wrap64 (rd l0 (ji14))) * 256)))) + (wrap64 ((wrap64 (rd l0 (ji17))) * 65536)))) + (wrap64 ((wrap64 (rd l0 (wrap64 (a1 + 5)))) * 16777216)))) (decide ((wrap64 ((wrap64 (rd l0 a1)) + (wrap64 ((wrap64 (rd l0 (ji8))) * 256)))) > (wrap64 ((wrap64 ((l0.length : Int) - a1)) - 6))))) else (impl_FrameGet.j1 kj2 l0 a1 (wrap64 ((wrap64 (rd l0 a1)) + (wrap64 ((wrap64 (rd l0 (ji8))) * 256)))) (wrap64 ((wrap64 ((wrap64 ((wrap64 (rd l0 (ji11))) + (wrap64 ((wrap64 (rd l0 (ji14))) * 256)))) + (wrap64 ((wrap64 (rd l0 (ji17))) * 65536)))) + (wrap64 ((wrap64 (rd l0 (wrap64 (a1 + 5)))) * 16777216)))) true))) else (none)) else (none)) else (none)) else (none)) = some (r1, r2, r3) := by first | (rw [hji17] at H; exact H) | (simp only [hji17] at H ⊢; exact H)
                        have hji17w : (IntKind.i64.wrap (a1 + 4)) = ji17 := (i64_w _).trans hji17
                        by_cases c18 : 0 ≤ (ji17)
                        · rw [if_pos c18] at H
                          have c18b0 : decide (0 ≤ (ji17)) = true := decide_eq_true c18
                          clear c18
                          by_cases c19 : (ji17) < (l0.length : Int)
                          · rw [if_pos c19] at H
                            have c19b0 : decide ((ji17) < (l0.length : Int)) = true := decide_eq_true c19
                            clear c19
                            obtain ⟨ji20, hji20⟩ : ∃ j_ : Int, (wrap64 (a1 + 5)) = j_ := ⟨_, rfl⟩
                            replace H : (if 0 ≤ (ji20) then (if (ji20) < (l0.length : Int) then ((impl_in.f (wrap64 ((wrap64 (rd l0 a1)) + (wrap64 ((wrap64 (rd l0 (ji8))) * 256)))) 1 2000).bind fun t139 => (if t139 = true then (impl_FrameGet.j1 kj2 l0 a1 (wrap64 ((wrap64 (rd l0 a1)) + (wrap64 ((wrap64 (rd l0 (ji8))) * 256)))) (wrap64 ((wrap64 ((wrap64 ((wrap64 (rd l0 (ji11))) + (wrap64 ((wrap64 (rd l0 (ji14))) * 256)))) + (wrap64 ((wrap64 (rd l0 (ji17))) * 65536)))) + (wrap64 ((wrap64 (rd l0 (ji20))) * 16777216)))) (decide ((wrap64 ((wrap64 (rd l0 a1)) + (wrap64 ((wrap64 (rd l0 (ji8))) * 256)))) > (wrap64 ((wrap64 ((l0.length : Int) - a1)) - 6))))) else (impl_FrameGet.j1 kj2 l0 a1 (wrap64 ((wrap64 (rd l0 a1)) + (wrap64 ((wrap64 (rd l0 (ji8))) * 256)))) (wrap64 ((wrap64 ((wrap64 ((wrap64 (rd l0 (ji11))) + (wrap64 ((wrap64 (rd l0 (ji14))) * 256)))) + (wrap64 ((wrap64 (rd l0 (ji17))) * 65536)))) + (wrap64 ((wrap64 (rd l0 (ji20))) * 16777216)))) true))) else (none)) else (none)) = some (r1, r2, r3) := by first | (rw [hji20] at H; exact H) | (simp only [hji20] at H ⊢; exact H)
                            have hji20w : (IntKind.i64.wrap (a1 + 5)) = ji20 := (i64_w _).trans hji20
                            by_cases c21 : 0 ≤ (ji20)
                            · rw [if_pos c21] at H
                              have c21b0 : decide (0 ≤ (ji20)) = true := decide_eq_true c21
                              clear c21
                              by_cases c22 : (ji20) < (l0.length : Int)
                              · rw [if_pos c22] at H
                                have c22b0 : decide ((ji20) < (l0.length : Int)) = true := decide_eq_true c22
                                clear c22
                                have HC23 := Aside0.mk H
                                clear H
                                have p133 : 0 ≤ (a1 : Int) := of_decide_eq_true (by first | (with_reducible assumption) | assumption)
                                have q133 : a1 < (l0.length : Int) := of_decide_eq_true (by first | (with_reducible assumption) | assumption)
                                obtain ⟨ad133, e133, hx133_0⟩ := Kd.at_int HR0.out a1 p133 q133
                                cases e133
                                replace hx133_0 := (HB.out.cell (World.block_lt_of_cell? w _ hx133_0)).trans hx133_0
                                replace p133 := eq_true p133
                                replace q133 := eq_true q133
                                have p134 : 0 ≤ ((ji8) : Int) := of_decide_eq_true (by first | (with_reducible assumption) | assumption)
                                have q134 : (ji8) < (l0.length : Int) := of_decide_eq_true (by first | (with_reducible assumption) | assumption)
                                obtain ⟨ad134, e134, hx134_0⟩ := Kd.at_int HR0.out (ji8) p134 q134
                                obtain rfl : ad133 = ad134 := (by injection e134)
                                replace hx134_0 := (HB.out.cell (World.block_lt_of_cell? w _ hx134_0)).trans hx134_0
                                replace p134 := eq_true p134
                                replace q134 := eq_true q134
                                have p135 : 0 ≤ ((ji11) : Int) := of_decide_eq_true (by first | (with_reducible assumption) | assumption)
                                have q135 : (ji11) < (l0.length : Int) := of_decide_eq_true (by first | (with_reducible assumption) | assumption)
                                obtain ⟨ad135, e135, hx135_0⟩ := Kd.at_int HR0.out (ji11) p135 q135
                                obtain rfl : ad133 = ad135 := (by injection e135)
                                replace hx135_0 := (HB.out.cell (World.block_lt_of_cell? w _ hx135_0)).trans hx135_0
                                replace p135 := eq_true p135
                                replace q135 := eq_true q135
                                have p136 : 0 ≤ ((ji14) : Int) := of_decide_eq_true (by first | (with_reducible assumption) | assumption)
                                have q136 : (ji14) < (l0.length : Int) := of_decide_eq_true (by first | (with_reducible assumption) | assumption)
                                obtain ⟨ad136, e136, hx136_0⟩ := Kd.at_int HR0.out (ji14) p136 q136
                                obtain rfl : ad133 = ad136 := (by injection e136)
                                replace hx136_0 := (HB.out.cell (World.block_lt_of_cell? w _ hx136_0)).trans hx136_0
                                replace p136 := eq_true p136
                                replace q136 := eq_true q136
                                have p137 : 0 ≤ ((ji17) : Int) := of_decide_eq_true (by first | (with_reducible assumption) | assumption)
                                have q137 : (ji17) < (l0.length : Int) := of_decide_eq_true (by first | (with_reducible assumption) | assumption)
                                obtain ⟨ad137, e137, hx137_0⟩ := Kd.at_int HR0.out (ji17) p137 q137
                                obtain rfl : ad133 = ad137 := (by injection e137)
                                replace hx137_0 := (HB.out.cell (World.block_lt_of_cell? w _ hx137_0)).trans hx137_0
                                replace p137 := eq_true p137
                                replace q137 := eq_true q137
                                have p138 : 0 ≤ ((ji20) : Int) := of_decide_eq_true (by first | (with_reducible assumption) | assumption)
                                have q138 : (ji20) < (l0.length : Int) := of_decide_eq_true (by first | (with_reducible assumption) | assumption)
                                obtain ⟨ad138, e138, hx138_0⟩ := Kd.at_int HR0.out (ji20) p138 q138
                                obtain rfl : ad133 = ad138 := (by injection e138)
                                replace hx138_0 := (HB.out.cell (World.block_lt_of_cell? w _ hx138_0)).trans hx138_0
                                replace p138 := eq_true p138
                                replace q138 := eq_true q138
                                go_upto_region 5 with (fail)
                                repeat (go_quiet (fail); go_upto_region 5 with (fail))
                                go_cut [73] (fun v73 wc => ∃ (kq : Nat) (x73_22 : Bool), v73 = .bool x73_22 ∧ Aside0 (impl_FrameGet.j1 kq l0 a1 (wrap64 ((wrap64 (rd l0 a1)) + (wrap64 ((wrap64 (rd l0 (ji8))) * 256)))) (wrap64 ((wrap64 ((wrap64 ((wrap64 (rd l0 (ji11))) + (wrap64 ((wrap64 (rd l0 (ji14))) * 256)))) + (wrap64 ((wrap64 (rd l0 (ji17))) * 65536)))) + (wrap64 ((wrap64 (rd l0 (ji20))) * 16777216)))) x73_22 = some (r1, r2, r3)) ∧ Aside0 (kq ≤ kj2) ∧ Aside0 (Below w.heap.size w wc))
                                case first =>
                                  have H := HC23.out
                                  clear HC23
                                  replace H := Option.bind_eq_some_iff.mp H
                                  obtain ⟨t139, A240, H⟩ := H
                                  replace H : (if t139 = true then (impl_FrameGet.j1 kj2 l0 a1 (wrap64 ((wrap64 (rd l0 a1)) + (wrap64 ((wrap64 (rd l0 (ji8))) * 256)))) (wrap64 ((wrap64 ((wrap64 ((wrap64 (rd l0 (ji11))) + (wrap64 ((wrap64 (rd l0 (ji14))) * 256)))) + (wrap64 ((wrap64 (rd l0 (ji17))) * 65536)))) + (wrap64 ((wrap64 (rd l0 (ji20))) * 16777216)))) (decide ((wrap64 ((wrap64 (rd l0 a1)) + (wrap64 ((wrap64 (rd l0 (ji8))) * 256)))) > (wrap64 ((wrap64 ((l0.length : Int) - a1)) - 6))))) else (impl_FrameGet.j1 kj2 l0 a1 (wrap64 ((wrap64 (rd l0 a1)) + (wrap64 ((wrap64 (rd l0 (ji8))) * 256)))) (wrap64 ((wrap64 ((wrap64 ((wrap64 (rd l0 (ji11))) + (wrap64 ((wrap64 (rd l0 (ji14))) * 256)))) + (wrap64 ((wrap64 (rd l0 (ji17))) * 65536)))) + (wrap64 ((wrap64 (rd l0 (ji20))) * 16777216)))) true)) = some (r1, r2, r3) := H
                                  have A24 := Aside0.mk A240
                                  clear A240
                                  by_cases c25 : t139 = true
                                  · subst c25
                                    have H1 : (impl_FrameGet.j1 kj2 l0 a1 (wrap64 ((wrap64 (rd l0 a1)) + (wrap64 ((wrap64 (rd l0 (ji8))) * 256)))) (wrap64 ((wrap64 ((wrap64 ((wrap64 (rd l0 (ji11))) + (wrap64 ((wrap64 (rd l0 (ji14))) * 256)))) + (wrap64 ((wrap64 (rd l0 (ji17))) * 65536)))) + (wrap64 ((wrap64 (rd l0 (ji20))) * 16777216)))) (decide ((wrap64 ((wrap64 (rd l0 a1)) + (wrap64 ((wrap64 (rd l0 (ji8))) * 256)))) > (wrap64 ((wrap64 ((l0.length : Int) - a1)) - 6))))) = some (r1, r2, r3) := by rw [if_pos rfl] at H; exact H
                                    clear H
                                    have H := H1
                                    clear H1
                                    have H' := Aside0.mk H
                                    clear H
                                    go_wp2_with (first | (go_at_call 65; (with_reducible refine (impl_in.calls (wrap64 ((wrap64 (rd l0 a1)) + (wrap64 ((wrap64 (rd l0 (ji8))) * 256)))) 1 2000 true _ A24.out).mono ?_); rintro e w' ⟨rfl, ⟨nd, rfl⟩⟩; (try first | exact ⟨rfl, _, World.drewN_drewN _ _ _⟩ | exact ⟨rfl, _, Eq.trans (World.drewN_drewN _ _ _) (congrArg (World.drewN _) (Nat.add_assoc _ _ _))⟩)))
                                    repeat (go_quiet (first | (go_at_call 65; (with_reducible refine (impl_in.calls (wrap64 ((wrap64 (rd l0 a1)) + (wrap64 ((wrap64 (rd l0 (ji8))) * 256)))) 1 2000 true _ A24.out).mono ?_); rintro e w' ⟨rfl, ⟨nd, rfl⟩⟩; (try first | exact ⟨rfl, _, World.drewN_drewN _ _ _⟩ | exact ⟨rfl, _, Eq.trans (World.drewN_drewN _ _ _) (congrArg (World.drewN _) (Nat.add_assoc _ _ _))⟩))); try go_wp2_with (first | (go_at_call 65; (with_reducible refine (impl_in.calls (wrap64 ((wrap64 (rd l0 a1)) + (wrap64 ((wrap64 (rd l0 (ji8))) * 256)))) 1 2000 true _ A24.out).mono ?_); rintro e w' ⟨rfl, ⟨nd, rfl⟩⟩; (try first | exact ⟨rfl, _, World.drewN_drewN _ _ _⟩ | exact ⟨rfl, _, Eq.trans (World.drewN_drewN _ _ _) (congrArg (World.drewN _) (Nat.add_assoc _ _ _))⟩))))
                                    go_meet
                                    case rel => exact ⟨_, (decide ((wrap64 ((wrap64 (rd l0 a1)) + (wrap64 ((wrap64 (rd l0 (ji8))) * 256)))) > (wrap64 ((wrap64 ((l0.length : Int) - a1)) - 6)))), (by first | rfl | (simp; done) | (simp only [← hji8] <;> (first | rfl | simp)) | (simp [*]; done)), H', ⟨by have := HJ2.out; first | omega | exact Nat.le_refl _⟩, ⟨by repeat (first | (with_reducible first | exact HB.out | apply below_alloc | apply pw_below_drewN | apply below_drew1) | exact HB.out)⟩⟩
                                  · replace c25 := Bool.eq_false_iff.mpr c25
                                    subst c25
                                    have H1 : (impl_FrameGet.j1 kj2 l0 a1 (wrap64 ((wrap64 (rd l0 a1)) + (wrap64 ((wrap64 (rd l0 (ji8))) * 256)))) (wrap64 ((wrap64 ((wrap64 ((wrap64 (rd l0 (ji11))) + (wrap64 ((wrap64 (rd l0 (ji14))) * 256)))) + (wrap64 ((wrap64 (rd l0 (ji17))) * 65536)))) + (wrap64 ((wrap64 (rd l0 (ji20))) * 16777216)))) true) = some (r1, r2, r3) := by rw [if_neg (show ¬ (false = true) by decide)] at H; exact H
                                    clear H
                                    have H := H1
                                    clear H1
                                    have H' := Aside0.mk H
                                    clear H
                                    go_wp2_with (first | (go_at_call 65; (with_reducible refine (impl_in.calls (wrap64 ((wrap64 (rd l0 a1)) + (wrap64 ((wrap64 (rd l0 (ji8))) * 256)))) 1 2000 false _ A24.out).mono ?_); rintro e w' ⟨rfl, ⟨nd, rfl⟩⟩; (try first | exact ⟨rfl, _, World.drewN_drewN _ _ _⟩ | exact ⟨rfl, _, Eq.trans (World.drewN_drewN _ _ _) (congrArg (World.drewN _) (Nat.add_assoc _ _ _))⟩)))
                                    repeat (go_quiet (first | (go_at_call 65; (with_reducible refine (impl_in.calls (wrap64 ((wrap64 (rd l0 a1)) + (wrap64 ((wrap64 (rd l0 (ji8))) * 256)))) 1 2000 false _ A24.out).mono ?_); rintro e w' ⟨rfl, ⟨nd, rfl⟩⟩; (try first | exact ⟨rfl, _, World.drewN_drewN _ _ _⟩ | exact ⟨rfl, _, Eq.trans (World.drewN_drewN _ _ _) (congrArg (World.drewN _) (Nat.add_assoc _ _ _))⟩))); try go_wp2_with (first | (go_at_call 65; (with_reducible refine (impl_in.calls (wrap64 ((wrap64 (rd l0 a1)) + (wrap64 ((wrap64 (rd l0 (ji8))) * 256)))) 1 2000 false _ A24.out).mono ?_); rintro e w' ⟨rfl, ⟨nd, rfl⟩⟩; (try first | exact ⟨rfl, _, World.drewN_drewN _ _ _⟩ | exact ⟨rfl, _, Eq.trans (World.drewN_drewN _ _ _) (congrArg (World.drewN _) (Nat.add_assoc _ _ _))⟩))))
                                    go_meet
                                    case rel => exact ⟨_, (true), (by first | rfl | (simp; done) | (simp [*]; done)), H', ⟨by have := HJ2.out; first | omega | exact Nat.le_refl _⟩, ⟨by repeat (first | (with_reducible first | exact HB.out | apply below_alloc | apply pw_below_drewN | apply below_drew1) | exact HB.out)⟩⟩
                                case rest =>
                                  clear HC23
                                  try clear c1
                                  try clear p1
                                  try clear q1
                                  try clear hx1
                                  try clear c2
                                  try clear p2
                                  try clear c4
                                  try clear c4b0
                                  try clear c5
                                  try clear c6
                                  try clear c6b0
                                  try clear p6
                                  try clear c7
                                  try clear c7b0
                                  try clear c9
                                  try clear c9b0
                                  try clear c10
                                  try clear c10b0
                                  try clear c12
                                  try clear c12b0
                                  try clear c13
                                  try clear c13b0
                                  try clear p13
                                  try clear q13
                                  try clear hx13
                                  try clear c15
                                  try clear c15b0
                                  try clear c16
                                  try clear c16b0
                                  try clear c18
                                  try clear c18b0
                                  try clear c19
                                  try clear c19b0
                                  try clear c21
                                  try clear c21b0
                                  try clear c22
                                  try clear c22b0
                                  try clear c25
                                  try clear hx133_0
                                  try clear hx134_0
                                  try clear hx135_0
                                  try clear hx136_0
                                  try clear hx137_0
                                  try clear hx138_0
                                  try clear p133
                                  try clear p134
                                  try clear p135
                                  try clear p136
                                  try clear p137
                                  try clear p138
                                  try clear p2
                                  try clear q133
                                  try clear q134
                                  try clear q135
                                  try clear q136
                                  try clear q137
                                  try clear q138
                                  obtain ⟨kq, x73_22, rfl, HA, HJ22, HB⟩ := hcut
                                  cases kq with
                                  | zero => exact absurd HA.out (by simp [impl_FrameGet.j1])
                                  | succ kj22 =>
                                    have H := HA.out
                                    clear HA
                                    simp only [impl_FrameGet.j1] at H
                                    by_cases c26 : x73_22 = true
                                    · subst c26
                                      have H1 : (some (([] : List Int), 0, false)) = some (r1, r2, r3) := by rw [if_pos rfl] at H; exact H
                                      clear H
                                      have H := H1
                                      clear H1
                                      simp only [Option.some.injEq, Prod.mk.injEq] at H
                                      obtain ⟨rfl, rfl, rfl⟩ := H
                                      go_wp2
                                      repeat (go_quiet (fail); try go_wp2)
                                      go_ret3
                                      exact ⟨_, by first | rfl | (simp [errW_none, errW_some] <;> rfl) | (simp only [← hji8, ← hji11, ← hji14, ← hji17, ← hji20]; first | rfl | (simp [errW_none, errW_some] <;> rfl)) | (simp [*, errW_none, errW_some] <;> rfl), by first | exact Kd.R_nil _ _ _ _ _ | exact Kd.N_nil _ _ _ _ _ | exact Kd.V_nil _ _ _ _ _ | exact Kd.Q_nil _ _ _ _ _ | exact Kd.S_nil _ _ _ _ _, by repeat (first | (with_reducible first | exact HB.out | apply below_alloc | apply pw_below_drewN | apply below_drew1) | exact HB.out)⟩
                                    · replace c26 := Bool.eq_false_iff.mpr c26
                                      subst c26
                                      have H1 : (if 0 ≤ (wrap64 (a1 + 6)) then (if (wrap64 (a1 + 6)) ≤ (wrap64 ((wrap64 (a1 + 6)) + (wrap64 ((wrap64 (rd l0 a1)) + (wrap64 ((wrap64 (rd l0 (ji8))) * 256)))))) then (if (wrap64 ((wrap64 (a1 + 6)) + (wrap64 ((wrap64 (rd l0 a1)) + (wrap64 ((wrap64 (rd l0 (ji8))) * 256)))))) ≤ (l0.length : Int) then ((impl_copyBytes.f ((l0.take ((wrap64 ((wrap64 (a1 + 6)) + (wrap64 ((wrap64 (rd l0 a1)) + (wrap64 ((wrap64 (rd l0 (ji8))) * 256)))))) : Int).toNat).drop ((wrap64 (a1 + 6)) : Int).toNat)).bind fun t141 => ((impl_Crc.f kj22 t141).bind fun t144 => (if t144 = (wrap64 ((wrap64 ((wrap64 ((wrap64 (rd l0 (ji11))) + (wrap64 ((wrap64 (rd l0 (ji14))) * 256)))) + (wrap64 ((wrap64 (rd l0 (ji17))) * 65536)))) + (wrap64 ((wrap64 (rd l0 (ji20))) * 16777216)))) then (some (t141, wrap64 ((wrap64 (a1 + 6)) + (wrap64 ((wrap64 (rd l0 a1)) + (wrap64 ((wrap64 (rd l0 (ji8))) * 256))))), true)) else (some (([] : List Int), 0, false))))) else (none)) else (none)) else (none)) = some (r1, r2, r3) := by rw [if_neg (show ¬ (false = true) by decide)] at H; exact H
                                      clear H
                                      have H := H1
                                      clear H1
                                      obtain ⟨ji27, hji27⟩ : ∃ j_ : Int, (wrap64 (a1 + 6)) = j_ := ⟨_, rfl⟩
                                      replace H : (if 0 ≤ (ji27) then (if (ji27) ≤ (wrap64 ((ji27) + (wrap64 ((wrap64 (rd l0 a1)) + (wrap64 ((wrap64 (rd l0 (ji8))) * 256)))))) then (if (wrap64 ((ji27) + (wrap64 ((wrap64 (rd l0 a1)) + (wrap64 ((wrap64 (rd l0 (ji8))) * 256)))))) ≤ (l0.length : Int) then ((impl_copyBytes.f ((l0.take ((wrap64 ((ji27) + (wrap64 ((wrap64 (rd l0 a1)) + (wrap64 ((wrap64 (rd l0 (ji8))) * 256)))))) : Int).toNat).drop ((ji27) : Int).toNat)).bind fun t141 => ((impl_Crc.f kj22 t141).bind fun t144 => (if t144 = (wrap64 ((wrap64 ((wrap64 ((wrap64 (rd l0 (ji11))) + (wrap64 ((wrap64 (rd l0 (ji14))) * 256)))) + (wrap64 ((wrap64 (rd l0 (ji17))) * 65536)))) + (wrap64 ((wrap64 (rd l0 (ji20))) * 16777216)))) then (some (t141, wrap64 ((ji27) + (wrap64 ((wrap64 (rd l0 a1)) + (wrap64 ((wrap64 (rd l0 (ji8))) * 256))))), true)) else (some (([] : List Int), 0, false))))) else (none)) else (none)) else (none)) = some (r1, r2, r3) := by first | (rw [hji27] at H; exact H) | (simp only [hji27] at H ⊢; exact H)
                                      have hji27w : (IntKind.i64.wrap (a1 + 6)) = ji27 := (i64_w _).trans hji27
                                      by_cases c28 : 0 ≤ (ji27)
                                      · rw [if_pos c28] at H
                                        have c28b0 := eq_true c28
                                        have c28b1 : decide (0 ≤ (ji27)) = true := decide_eq_true c28
                                        clear c28
                                        by_cases c29 : (ji27) ≤ (wrap64 ((ji27) + (wrap64 ((wrap64 (rd l0 a1)) + (wrap64 ((wrap64 (rd l0 (ji8))) * 256))))))
                                        · rw [if_pos c29] at H
                                          have c29b0 := eq_true c29
                                          have c29b1 : decide ((ji27) ≤ (wrap64 ((ji27) + (wrap64 ((wrap64 (rd l0 a1)) + (wrap64 ((wrap64 (rd l0 (ji8))) * 256))))))) = true := decide_eq_true c29
                                          by_cases c30 : (wrap64 ((ji27) + (wrap64 ((wrap64 (rd l0 a1)) + (wrap64 ((wrap64 (rd l0 (ji8))) * 256)))))) ≤ (l0.length : Int)
                                          · rw [if_pos c30] at H
                                            have c30b0 := eq_true c30
                                            have c30b1 : decide ((wrap64 ((ji27) + (wrap64 ((wrap64 (rd l0 a1)) + (wrap64 ((wrap64 (rd l0 (ji8))) * 256)))))) ≤ (l0.length : Int)) = true := decide_eq_true c30
                                            replace H := Option.bind_eq_some_iff.mp H
                                            obtain ⟨t141, A310, H⟩ := H
                                            replace H : ((impl_Crc.f kj22 t141).bind fun t144 => (if t144 = (wrap64 ((wrap64 ((wrap64 ((wrap64 (rd l0 (ji11))) + (wrap64 ((wrap64 (rd l0 (ji14))) * 256)))) + (wrap64 ((wrap64 (rd l0 (ji17))) * 65536)))) + (wrap64 ((wrap64 (rd l0 (ji20))) * 16777216)))) then (some (t141, wrap64 ((ji27) + (wrap64 ((wrap64 (rd l0 a1)) + (wrap64 ((wrap64 (rd l0 (ji8))) * 256))))), true)) else (some (([] : List Int), 0, false)))) = some (r1, r2, r3) := H
                                            have A31 := Aside0.mk A310
                                            clear A310
                                            replace H := Option.bind_eq_some_iff.mp H
                                            obtain ⟨t144, A320, H⟩ := H
                                            replace H : (if t144 = (wrap64 ((wrap64 ((wrap64 ((wrap64 (rd l0 (ji11))) + (wrap64 ((wrap64 (rd l0 (ji14))) * 256)))) + (wrap64 ((wrap64 (rd l0 (ji17))) * 65536)))) + (wrap64 ((wrap64 (rd l0 (ji20))) * 16777216)))) then (some (t141, wrap64 ((ji27) + (wrap64 ((wrap64 (rd l0 a1)) + (wrap64 ((wrap64 (rd l0 (ji8))) * 256))))), true)) else (some (([] : List Int), 0, false))) = some (r1, r2, r3) := H
                                            have A32 := Aside0.mk A320
                                            clear A320
                                            by_cases c33 : t144 = (wrap64 ((wrap64 ((wrap64 ((wrap64 (rd l0 (ji11))) + (wrap64 ((wrap64 (rd l0 (ji14))) * 256)))) + (wrap64 ((wrap64 (rd l0 (ji17))) * 65536)))) + (wrap64 ((wrap64 (rd l0 (ji20))) * 16777216))))
                                            · rw [if_pos c33] at H
                                              have c33b0 : (t144 == (wrap64 ((wrap64 ((wrap64 ((wrap64 (rd l0 (ji11))) + (wrap64 ((wrap64 (rd l0 (ji14))) * 256)))) + (wrap64 ((wrap64 (rd l0 (ji17))) * 65536)))) + (wrap64 ((wrap64 (rd l0 (ji20))) * 16777216))))) = true := beq_iff_eq.mpr c33
                                              have c33b1 : (t144 != (wrap64 ((wrap64 ((wrap64 ((wrap64 (rd l0 (ji11))) + (wrap64 ((wrap64 (rd l0 (ji14))) * 256)))) + (wrap64 ((wrap64 (rd l0 (ji17))) * 65536)))) + (wrap64 ((wrap64 (rd l0 (ji20))) * 16777216))))) = false := bne_eq_false_iff_eq.mpr c33
                                              clear c33
                                              simp only [Option.some.injEq, Prod.mk.injEq] at H
                                              obtain ⟨rfl, rfl, rfl⟩ := H
                                              obtain ⟨i034, hi034, _, hsz34, _⟩ := info_parts info5
                                              obtain ⟨A34, hcut34, hA34, hC34⟩ := print_mid_of (P := Try.prog) (Value.int .u8) 0 22 5 .i64 .i64 Try.underlying22 hi034 hsz34 (some ad133) c0 l0 (ji27) (wrap64 ((ji27) + (wrap64 ((wrap64 (rd l0 a1)) + (wrap64 ((wrap64 (rd l0 (ji8))) * 256)))))) (of_decide_eq_true (by first | (with_reducible assumption) | assumption)) (by first | omega | exact of_decide_eq_true (by first | (with_reducible assumption) | assumption)) (of_decide_eq_true (by first | (with_reducible assumption) | assumption)) HC0.out
                                              have HR140 := Aside0.mk (Kd.C_of_reads (h1 := fun _ => rfl) (hA34 _ (Kd.reads_of_C HR0.out)))
                                              have HC140 := Aside0.mk hC34
                                              clear hA34 hC34 hi034 hsz34
                                              go_wp2_with (first | (go_at_call 64; refine calls_of_args (args' := #[.slice A34 ((l0.take ((wrap64 ((ji27) + (wrap64 ((wrap64 (rd l0 a1)) + (wrap64 ((wrap64 (rd l0 (ji8))) * 256)))))) : Int).toNat).drop ((ji27) : Int).toNat).length (c0 - (ji27).toNat)]) (by first | (rw [show ((l0.take ((wrap64 ((ji27) + (wrap64 ((wrap64 (rd l0 a1)) + (wrap64 ((wrap64 (rd l0 (ji8))) * 256)))))) : Int).toNat).drop ((ji27) : Int).toNat).length = ((wrap64 ((ji27) + (wrap64 ((wrap64 (rd l0 a1)) + (wrap64 ((wrap64 (rd l0 (ji8))) * 256)))))).toNat - (ji27).toNat) from (by rw [List.length_drop, List.length_take]; have h_ : ((wrap64 ((ji27) + (wrap64 ((wrap64 (rd l0 a1)) + (wrap64 ((wrap64 (rd l0 (ji8))) * 256)))))) : Int) ≤ (l0.length : Int) := of_decide_eq_true (by first | (with_reducible assumption) | assumption); omega)] <;> rfl) | rfl) ?_; (with_reducible refine (impl_copyBytes.calls _ _ ((l0.take ((wrap64 ((ji27) + (wrap64 ((wrap64 (rd l0 a1)) + (wrap64 ((wrap64 (rd l0 (ji8))) * 256)))))) : Int).toNat).drop ((ji27) : Int).toNat) t141 _ ?side1 ?side2 A31.out).mono ?_); (case side1 => repeat (first | exact (Kd.C_below HR140.out HB.out) | (with_reducible refine Kd.C_alloc ?_ _) | (with_reducible refine Kd.C_drewN ?_ _) | (with_reducible refine Kd.C_drew ?_))); (case side2 => exact HC140.out); rintro e w35 ⟨v142, rfl, ho0, hb⟩; have n0_ := Aside0.mk (Kd.R_lower ho0 (below_size (by repeat (first | (with_reducible first | exact HB.out | apply below_alloc | apply pw_below_drewN | apply below_drew1) | exact HB.out)))); have n1_ := Aside0.mk (below_step (by repeat (first | (with_reducible first | exact HB.out | apply below_alloc | apply pw_below_drewN | apply below_drew1) | exact HB.out)) hb); clear HB; have HO143 := n0_; have HB := n1_; clear n0_ n1_; (try clear hb); (try clear hb2); (try clear hk); (try clear hi); (try clear ho0); obtain ⟨Ao36, co36, eo36⟩ := Kd.R_slice HO143.out; subst eo36) | (go_at_call 66; (with_reducible refine (impl_Crc.calls kj22 _ _ t141 t144 _ ?side1 ?side2 A32.out).mono ?_); (case side1 => repeat (first | exact (Kd.R_reads' HO143.out).2.2 | (with_reducible refine Kd.C_alloc ?_ _) | (with_reducible refine Kd.C_drewN ?_ _) | (with_reducible refine Kd.C_drew ?_))); (case side2 => exact (Kd.R_reads' HO143.out).2.1); rintro e w' ⟨rfl, ⟨nd, rfl⟩⟩; (try first | exact ⟨rfl, _, World.drewN_drewN _ _ _⟩ | exact ⟨rfl, _, Eq.trans (World.drewN_drewN _ _ _) (congrArg (World.drewN _) (Nat.add_assoc _ _ _))⟩)))
                                              repeat (go_quiet (first | (go_at_call 64; refine calls_of_args (args' := #[.slice A34 ((l0.take ((wrap64 ((ji27) + (wrap64 ((wrap64 (rd l0 a1)) + (wrap64 ((wrap64 (rd l0 (ji8))) * 256)))))) : Int).toNat).drop ((ji27) : Int).toNat).length (c0 - (ji27).toNat)]) (by first | (rw [show ((l0.take ((wrap64 ((ji27) + (wrap64 ((wrap64 (rd l0 a1)) + (wrap64 ((wrap64 (rd l0 (ji8))) * 256)))))) : Int).toNat).drop ((ji27) : Int).toNat).length = ((wrap64 ((ji27) + (wrap64 ((wrap64 (rd l0 a1)) + (wrap64 ((wrap64 (rd l0 (ji8))) * 256)))))).toNat - (ji27).toNat) from (by rw [List.length_drop, List.length_take]; have h_ : ((wrap64 ((ji27) + (wrap64 ((wrap64 (rd l0 a1)) + (wrap64 ((wrap64 (rd l0 (ji8))) * 256)))))) : Int) ≤ (l0.length : Int) := of_decide_eq_true (by first | (with_reducible assumption) | assumption); omega)] <;> rfl) | rfl) ?_; (with_reducible refine (impl_copyBytes.calls _ _ ((l0.take ((wrap64 ((ji27) + (wrap64 ((wrap64 (rd l0 a1)) + (wrap64 ((wrap64 (rd l0 (ji8))) * 256)))))) : Int).toNat).drop ((ji27) : Int).toNat) t141 _ ?side1 ?side2 A31.out).mono ?_); (case side1 => repeat (first | exact (Kd.C_below HR140.out HB.out) | (with_reducible refine Kd.C_alloc ?_ _) | (with_reducible refine Kd.C_drewN ?_ _) | (with_reducible refine Kd.C_drew ?_))); (case side2 => exact HC140.out); rintro e w35 ⟨v142, rfl, ho0, hb⟩; have n0_ := Aside0.mk (Kd.R_lower ho0 (below_size (by repeat (first | (with_reducible first | exact HB.out | apply below_alloc | apply pw_below_drewN | apply below_drew1) | exact HB.out)))); have n1_ := Aside0.mk (below_step (by repeat (first | (with_reducible first | exact HB.out | apply below_alloc | apply pw_below_drewN | apply below_drew1) | exact HB.out)) hb); clear HB; have HO143 := n0_; have HB := n1_; clear n0_ n1_; (try clear hb); (try clear hb2); (try clear hk); (try clear hi); (try clear ho0); obtain ⟨Ao36, co36, eo36⟩ := Kd.R_slice HO143.out; subst eo36) | (go_at_call 66; (with_reducible refine (impl_Crc.calls kj22 _ _ t141 t144 _ ?side1 ?side2 A32.out).mono ?_); (case side1 => repeat (first | exact (Kd.R_reads' HO143.out).2.2 | (with_reducible refine Kd.C_alloc ?_ _) | (with_reducible refine Kd.C_drewN ?_ _) | (with_reducible refine Kd.C_drew ?_))); (case side2 => exact (Kd.R_reads' HO143.out).2.1); rintro e w' ⟨rfl, ⟨nd, rfl⟩⟩; (try first | exact ⟨rfl, _, World.drewN_drewN _ _ _⟩ | exact ⟨rfl, _, Eq.trans (World.drewN_drewN _ _ _) (congrArg (World.drewN _) (Nat.add_assoc _ _ _))⟩))); try go_wp2_with (first | (go_at_call 64; refine calls_of_args (args' := #[.slice A34 ((l0.take ((wrap64 ((ji27) + (wrap64 ((wrap64 (rd l0 a1)) + (wrap64 ((wrap64 (rd l0 (ji8))) * 256)))))) : Int).toNat).drop ((ji27) : Int).toNat).length (c0 - (ji27).toNat)]) (by first | (rw [show ((l0.take ((wrap64 ((ji27) + (wrap64 ((wrap64 (rd l0 a1)) + (wrap64 ((wrap64 (rd l0 (ji8))) * 256)))))) : Int).toNat).drop ((ji27) : Int).toNat).length = ((wrap64 ((ji27) + (wrap64 ((wrap64 (rd l0 a1)) + (wrap64 ((wrap64 (rd l0 (ji8))) * 256)))))).toNat - (ji27).toNat) from (by rw [List.length_drop, List.length_take]; have h_ : ((wrap64 ((ji27) + (wrap64 ((wrap64 (rd l0 a1)) + (wrap64 ((wrap64 (rd l0 (ji8))) * 256)))))) : Int) ≤ (l0.length : Int) := of_decide_eq_true (by first | (with_reducible assumption) | assumption); omega)] <;> rfl) | rfl) ?_; (with_reducible refine (impl_copyBytes.calls _ _ ((l0.take ((wrap64 ((ji27) + (wrap64 ((wrap64 (rd l0 a1)) + (wrap64 ((wrap64 (rd l0 (ji8))) * 256)))))) : Int).toNat).drop ((ji27) : Int).toNat) t141 _ ?side1 ?side2 A31.out).mono ?_); (case side1 => repeat (first | exact (Kd.C_below HR140.out HB.out) | (with_reducible refine Kd.C_alloc ?_ _) | (with_reducible refine Kd.C_drewN ?_ _) | (with_reducible refine Kd.C_drew ?_))); (case side2 => exact HC140.out); rintro e w35 ⟨v142, rfl, ho0, hb⟩; have n0_ := Aside0.mk (Kd.R_lower ho0 (below_size (by repeat (first | (with_reducible first | exact HB.out | apply below_alloc | apply pw_below_drewN | apply below_drew1) | exact HB.out)))); have n1_ := Aside0.mk (below_step (by repeat (first | (with_reducible first | exact HB.out | apply below_alloc | apply pw_below_drewN | apply below_drew1) | exact HB.out)) hb); clear HB; have HO143 := n0_; have HB := n1_; clear n0_ n1_; (try clear hb); (try clear hb2); (try clear hk); (try clear hi); (try clear ho0); obtain ⟨Ao36, co36, eo36⟩ := Kd.R_slice HO143.out; subst eo36) | (go_at_call 66; (with_reducible refine (impl_Crc.calls kj22 _ _ t141 t144 _ ?side1 ?side2 A32.out).mono ?_); (case side1 => repeat (first | exact (Kd.R_reads' HO143.out).2.2 | (with_reducible refine Kd.C_alloc ?_ _) | (with_reducible refine Kd.C_drewN ?_ _) | (with_reducible refine Kd.C_drew ?_))); (case side2 => exact (Kd.R_reads' HO143.out).2.1); rintro e w' ⟨rfl, ⟨nd, rfl⟩⟩; (try first | exact ⟨rfl, _, World.drewN_drewN _ _ _⟩ | exact ⟨rfl, _, Eq.trans (World.drewN_drewN _ _ _) (congrArg (World.drewN _) (Nat.add_assoc _ _ _))⟩))))
                                              go_ret3
                                              exact ⟨_, by first | rfl | (simp [errW_none, errW_some] <;> rfl) | (simp only [← hji8, ← hji11, ← hji14, ← hji17, ← hji20, ← hji27]; first | rfl | (simp [errW_none, errW_some] <;> rfl)) | (simp [*, errW_none, errW_some] <;> rfl), by (with_reducible repeat (first | apply Kd.R_alloc | apply Kd.R_drewN | apply Kd.R_drew)); exact HO143.out, by repeat (first | (with_reducible first | exact HB.out | apply below_alloc | apply pw_below_drewN | apply below_drew1) | exact HB.out)⟩
                                            · rw [if_neg c33] at H
                                              have c33b0 : (t144 == (wrap64 ((wrap64 ((wrap64 ((wrap64 (rd l0 (ji11))) + (wrap64 ((wrap64 (rd l0 (ji14))) * 256)))) + (wrap64 ((wrap64 (rd l0 (ji17))) * 65536)))) + (wrap64 ((wrap64 (rd l0 (ji20))) * 16777216))))) = false := beq_eq_false_iff_ne.mpr c33
                                              have c33b1 : (t144 != (wrap64 ((wrap64 ((wrap64 ((wrap64 (rd l0 (ji11))) + (wrap64 ((wrap64 (rd l0 (ji14))) * 256)))) + (wrap64 ((wrap64 (rd l0 (ji17))) * 65536)))) + (wrap64 ((wrap64 (rd l0 (ji20))) * 16777216))))) = true := bne_iff_ne.mpr c33
                                              simp only [Option.some.injEq, Prod.mk.injEq] at H
                                              obtain ⟨rfl, rfl, rfl⟩ := H
                                              obtain ⟨i037, hi037, _, hsz37, _⟩ := info_parts info5
                                              obtain ⟨A37, hcut37, hA37, hC37⟩ := print_mid_of (P := Try.prog) (Value.int .u8) 0 22 5 .i64 .i64 Try.underlying22 hi037 hsz37 (some ad133) c0 l0 (ji27) (wrap64 ((ji27) + (wrap64 ((wrap64 (rd l0 a1)) + (wrap64 ((wrap64 (rd l0 (ji8))) * 256)))))) (of_decide_eq_true (by first | (with_reducible assumption) | assumption)) (by first | omega | exact of_decide_eq_true (by first | (with_reducible assumption) | assumption)) (of_decide_eq_true (by first | (with_reducible assumption) | assumption)) HC0.out
                                              have HR140 := Aside0.mk (Kd.C_of_reads (h1 := fun _ => rfl) (hA37 _ (Kd.reads_of_C HR0.out)))
                                              have HC140 := Aside0.mk hC37
                                              clear hA37 hC37 hi037 hsz37
                                              go_wp2_with (first | (go_at_call 64; refine calls_of_args (args' := #[.slice A37 ((l0.take ((wrap64 ((ji27) + (wrap64 ((wrap64 (rd l0 a1)) + (wrap64 ((wrap64 (rd l0 (ji8))) * 256)))))) : Int).toNat).drop ((ji27) : Int).toNat).length (c0 - (ji27).toNat)]) (by first | (rw [show ((l0.take ((wrap64 ((ji27) + (wrap64 ((wrap64 (rd l0 a1)) + (wrap64 ((wrap64 (rd l0 (ji8))) * 256)))))) : Int).toNat).drop ((ji27) : Int).toNat).length = ((wrap64 ((ji27) + (wrap64 ((wrap64 (rd l0 a1)) + (wrap64 ((wrap64 (rd l0 (ji8))) * 256)))))).toNat - (ji27).toNat) from (by rw [List.length_drop, List.length_take]; have h_ : ((wrap64 ((ji27) + (wrap64 ((wrap64 (rd l0 a1)) + (wrap64 ((wrap64 (rd l0 (ji8))) * 256)))))) : Int) ≤ (l0.length : Int) := of_decide_eq_true (by first | (with_reducible assumption) | assumption); omega)] <;> rfl) | rfl) ?_; (with_reducible refine (impl_copyBytes.calls _ _ ((l0.take ((wrap64 ((ji27) + (wrap64 ((wrap64 (rd l0 a1)) + (wrap64 ((wrap64 (rd l0 (ji8))) * 256)))))) : Int).toNat).drop ((ji27) : Int).toNat) t141 _ ?side1 ?side2 A31.out).mono ?_); (case side1 => repeat (first | exact (Kd.C_below HR140.out HB.out) | (with_reducible refine Kd.C_alloc ?_ _) | (with_reducible refine Kd.C_drewN ?_ _) | (with_reducible refine Kd.C_drew ?_))); (case side2 => exact HC140.out); rintro e w38 ⟨v142, rfl, ho0, hb⟩; have n0_ := Aside0.mk (Kd.R_lower ho0 (below_size (by repeat (first | (with_reducible first | exact HB.out | apply below_alloc | apply pw_below_drewN | apply below_drew1) | exact HB.out)))); have n1_ := Aside0.mk (below_step (by repeat (first | (with_reducible first | exact HB.out | apply below_alloc | apply pw_below_drewN | apply below_drew1) | exact HB.out)) hb); clear HB; have HO143 := n0_; have HB := n1_; clear n0_ n1_; (try clear hb); (try clear hb2); (try clear hk); (try clear hi); (try clear ho0); obtain ⟨Ao39, co39, eo39⟩ := Kd.R_slice HO143.out; subst eo39) | (go_at_call 66; (with_reducible refine (impl_Crc.calls kj22 _ _ t141 t144 _ ?side1 ?side2 A32.out).mono ?_); (case side1 => repeat (first | exact (Kd.R_reads' HO143.out).2.2 | (with_reducible refine Kd.C_alloc ?_ _) | (with_reducible refine Kd.C_drewN ?_ _) | (with_reducible refine Kd.C_drew ?_))); (case side2 => exact (Kd.R_reads' HO143.out).2.1); rintro e w' ⟨rfl, ⟨nd, rfl⟩⟩; (try first | exact ⟨rfl, _, World.drewN_drewN _ _ _⟩ | exact ⟨rfl, _, Eq.trans (World.drewN_drewN _ _ _) (congrArg (World.drewN _) (Nat.add_assoc _ _ _))⟩)))
                                              repeat (go_quiet (first | (go_at_call 64; refine calls_of_args (args' := #[.slice A37 ((l0.take ((wrap64 ((ji27) + (wrap64 ((wrap64 (rd l0 a1)) + (wrap64 ((wrap64 (rd l0 (ji8))) * 256)))))) : Int).toNat).drop ((ji27) : Int).toNat).length (c0 - (ji27).toNat)]) (by first | (rw [show ((l0.take ((wrap64 ((ji27) + (wrap64 ((wrap64 (rd l0 a1)) + (wrap64 ((wrap64 (rd l0 (ji8))) * 256)))))) : Int).toNat).drop ((ji27) : Int).toNat).length = ((wrap64 ((ji27) + (wrap64 ((wrap64 (rd l0 a1)) + (wrap64 ((wrap64 (rd l0 (ji8))) * 256)))))).toNat - (ji27).toNat) from (by rw [List.length_drop, List.length_take]; have h_ : ((wrap64 ((ji27) + (wrap64 ((wrap64 (rd l0 a1)) + (wrap64 ((wrap64 (rd l0 (ji8))) * 256)))))) : Int) ≤ (l0.length : Int) := of_decide_eq_true (by first | (with_reducible assumption) | assumption); omega)] <;> rfl) | rfl) ?_; (with_reducible refine (impl_copyBytes.calls _ _ ((l0.take ((wrap64 ((ji27) + (wrap64 ((wrap64 (rd l0 a1)) + (wrap64 ((wrap64 (rd l0 (ji8))) * 256)))))) : Int).toNat).drop ((ji27) : Int).toNat) t141 _ ?side1 ?side2 A31.out).mono ?_); (case side1 => repeat (first | exact (Kd.C_below HR140.out HB.out) | (with_reducible refine Kd.C_alloc ?_ _) | (with_reducible refine Kd.C_drewN ?_ _) | (with_reducible refine Kd.C_drew ?_))); (case side2 => exact HC140.out); rintro e w38 ⟨v142, rfl, ho0, hb⟩; have n0_ := Aside0.mk (Kd.R_lower ho0 (below_size (by repeat (first | (with_reducible first | exact HB.out | apply below_alloc | apply pw_below_drewN | apply below_drew1) | exact HB.out)))); have n1_ := Aside0.mk (below_step (by repeat (first | (with_reducible first | exact HB.out | apply below_alloc | apply pw_below_drewN | apply below_drew1) | exact HB.out)) hb); clear HB; have HO143 := n0_; have HB := n1_; clear n0_ n1_; (try clear hb); (try clear hb2); (try clear hk); (try clear hi); (try clear ho0); obtain ⟨Ao39, co39, eo39⟩ := Kd.R_slice HO143.out; subst eo39) | (go_at_call 66; (with_reducible refine (impl_Crc.calls kj22 _ _ t141 t144 _ ?side1 ?side2 A32.out).mono ?_); (case side1 => repeat (first | exact (Kd.R_reads' HO143.out).2.2 | (with_reducible refine Kd.C_alloc ?_ _) | (with_reducible refine Kd.C_drewN ?_ _) | (with_reducible refine Kd.C_drew ?_))); (case side2 => exact (Kd.R_reads' HO143.out).2.1); rintro e w' ⟨rfl, ⟨nd, rfl⟩⟩; (try first | exact ⟨rfl, _, World.drewN_drewN _ _ _⟩ | exact ⟨rfl, _, Eq.trans (World.drewN_drewN _ _ _) (congrArg (World.drewN _) (Nat.add_assoc _ _ _))⟩))); try go_wp2_with (first | (go_at_call 64; refine calls_of_args (args' := #[.slice A37 ((l0.take ((wrap64 ((ji27) + (wrap64 ((wrap64 (rd l0 a1)) + (wrap64 ((wrap64 (rd l0 (ji8))) * 256)))))) : Int).toNat).drop ((ji27) : Int).toNat).length (c0 - (ji27).toNat)]) (by first | (rw [show ((l0.take ((wrap64 ((ji27) + (wrap64 ((wrap64 (rd l0 a1)) + (wrap64 ((wrap64 (rd l0 (ji8))) * 256)))))) : Int).toNat).drop ((ji27) : Int).toNat).length = ((wrap64 ((ji27) + (wrap64 ((wrap64 (rd l0 a1)) + (wrap64 ((wrap64 (rd l0 (ji8))) * 256)))))).toNat - (ji27).toNat) from (by rw [List.length_drop, List.length_take]; have h_ : ((wrap64 ((ji27) + (wrap64 ((wrap64 (rd l0 a1)) + (wrap64 ((wrap64 (rd l0 (ji8))) * 256)))))) : Int) ≤ (l0.length : Int) := of_decide_eq_true (by first | (with_reducible assumption) | assumption); omega)] <;> rfl) | rfl) ?_; (with_reducible refine (impl_copyBytes.calls _ _ ((l0.take ((wrap64 ((ji27) + (wrap64 ((wrap64 (rd l0 a1)) + (wrap64 ((wrap64 (rd l0 (ji8))) * 256)))))) : Int).toNat).drop ((ji27) : Int).toNat) t141 _ ?side1 ?side2 A31.out).mono ?_); (case side1 => repeat (first | exact (Kd.C_below HR140.out HB.out) | (with_reducible refine Kd.C_alloc ?_ _) | (with_reducible refine Kd.C_drewN ?_ _) | (with_reducible refine Kd.C_drew ?_))); (case side2 => exact HC140.out); rintro e w38 ⟨v142, rfl, ho0, hb⟩; have n0_ := Aside0.mk (Kd.R_lower ho0 (below_size (by repeat (first | (with_reducible first | exact HB.out | apply below_alloc | apply pw_below_drewN | apply below_drew1) | exact HB.out)))); have n1_ := Aside0.mk (below_step (by repeat (first | (with_reducible first | exact HB.out | apply below_alloc | apply pw_below_drewN | apply below_drew1) | exact HB.out)) hb); clear HB; have HO143 := n0_; have HB := n1_; clear n0_ n1_; (try clear hb); (try clear hb2); (try clear hk); (try clear hi); (try clear ho0); obtain ⟨Ao39, co39, eo39⟩ := Kd.R_slice HO143.out; subst eo39) | (go_at_call 66; (with_reducible refine (impl_Crc.calls kj22 _ _ t141 t144 _ ?side1 ?side2 A32.out).mono ?_); (case side1 => repeat (first | exact (Kd.R_reads' HO143.out).2.2 | (with_reducible refine Kd.C_alloc ?_ _) | (with_reducible refine Kd.C_drewN ?_ _) | (with_reducible refine Kd.C_drew ?_))); (case side2 => exact (Kd.R_reads' HO143.out).2.1); rintro e w' ⟨rfl, ⟨nd, rfl⟩⟩; (try first | exact ⟨rfl, _, World.drewN_drewN _ _ _⟩ | exact ⟨rfl, _, Eq.trans (World.drewN_drewN _ _ _) (congrArg (World.drewN _) (Nat.add_assoc _ _ _))⟩))))
                                              go_ret3
                                              exact ⟨_, by first | rfl | (simp [errW_none, errW_some] <;> rfl) | (simp only [← hji8, ← hji11, ← hji14, ← hji17, ← hji20, ← hji27]; first | rfl | (simp [errW_none, errW_some] <;> rfl)) | (simp [*, errW_none, errW_some] <;> rfl), by first | exact Kd.R_nil _ _ _ _ _ | exact Kd.N_nil _ _ _ _ _ | exact Kd.V_nil _ _ _ _ _ | exact Kd.Q_nil _ _ _ _ _ | exact Kd.S_nil _ _ _ _ _, by repeat (first | (with_reducible first | exact HB.out | apply below_alloc | apply pw_below_drewN | apply below_drew1) | exact HB.out)⟩
                                          · rw [if_neg c30] at H
                                            exact absurd H (by simp)
                                        · rw [if_neg c29] at H
                                          exact absurd H (by simp)
                                      · rw [if_neg c28] at H
                                        exact absurd H (by simp)
                              · rw [if_neg c22] at H
                                exact absurd H (by simp)
                            · rw [if_neg c21] at H
                              exact absurd H (by simp)
                          · rw [if_neg c19] at H
                            exact absurd H (by simp)
                        · rw [if_neg c18] at H
                          exact absurd H (by simp)
                      · rw [if_neg c16] at H
                        exact absurd H (by simp)
                    · rw [if_neg c15] at H
                      exact absurd H (by simp)
                  · rw [if_neg c13] at H
                    exact absurd H (by simp)
                · rw [if_neg c12] at H
                  exact absurd H (by simp)
              · rw [if_neg c10] at H
                exact absurd H (by simp)
            · rw [if_neg c9] at H
              exact absurd H (by simp)
          · rw [if_neg c7] at H
            exact absurd H (by simp)
        · rw [if_neg c6] at H
          exact absurd H (by simp)

end Go.Proofs.Ytgkjbechcbbgjaa.PFnExactFrameGet
