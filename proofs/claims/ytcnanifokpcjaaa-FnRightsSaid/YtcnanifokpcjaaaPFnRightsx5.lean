import Derived.Test.YtcnanifokpcjaaaPFnRightsx0
import Derived.Test.YtcnanifokpcjaaaPFnRightsx1
import Derived.Test.YtcnanifokpcjaaaPFnRightsx2
import Derived.Test.YtcnanifokpcjaaaPFnRightsx4
namespace Go.Proofs.Ytcnanifokpcjaaa.PFnRights
open Go.RowKit Go.Proofs.YtcnanifokpcjaaaW.PrintWords Go.Proofs.YtcnanifokpcjaaaW.PrintLast Go.Proofs.YtcnanifokpcjaaaW.PrintMore
attribute [local go_sem] max2_int min2_int max_two min_two max_three min_three max_four min_four   -- for this text's walks alone
set_option linter.unusedVariables false
set_option linter.unusedSimpArgs false

/-! ### impl_Hand: function 33 -/
section
open Go.Proofs.Ytcnanifokpcjaaa.Chn
set_option maxHeartbeats 4000000 in
set_option maxRecDepth 100000 in
theorem impl_Hand_1.calls (g gi gj g0 g1 c0 c1 n m : Nat) (i j : Int) (v1 : Value) (w : World) (hg : w.heap[g]? = some (.cells #[.slice (some ⟨g0, 0, none⟩) n c0, v1] 28 (0, 0))) (hi : w.cell? ⟨gi, 0, none⟩ = some (.int .i64 i)) (hj : w.cell? ⟨gj, 0, none⟩ = some (.int .i64 j)) (hc : w.cell? ⟨g0, i.toNat, none⟩ = some (.slice (some ⟨g1, 0, none⟩) m c1)) (h0 : 0 ≤ i) (h1 : i < (n : Int)) (h2 : 0 ≤ j) (h3 : j < (m : Int)) :
  Calls Try.prog 62 #[.pointer (some ⟨g, 0, none⟩), .pointer (some ⟨gi, 0, none⟩), .pointer (some ⟨gj, 0, none⟩)] w fun e w' => e = .returned (.pointer (some ⟨g1, j.toNat, none⟩)) ∧ Drawn0 w w' := by
 have hz0 : w.cell? ⟨g, 0, none⟩ = some (.slice (some ⟨g0, 0, none⟩) n c0) := (blk_cell hg 0).trans rfl
 clear hg
 have b0 := decide_eq_true h0
 have b1 := decide_eq_true h1
 have b2 := decide_eq_true h2
 have b3 := decide_eq_true h3
 replace h0 := eq_true h0
 replace h1 := eq_true h1
 replace h2 := eq_true h2
 replace h3 := eq_true h3
 go_enter Try.func62, Try.ntmps62
 go_wp2
 repeat (go_quiet (fail); try go_wp2)
 go_ret
 exact ⟨by first | rfl | (simp; done) | (simp [*]; done), by repeat (first | exact Drawn0.refl _ | apply Drawn0.step)⟩
def impl_Hand.upd (x : List (List Int)) (y : List Int) (a1 a2 a3 : Int) : Option (List (List Int) × List Int) := if 0 ≤ a1 then (if a1 < (x.length : Int) then (if 0 ≤ a2 then (if a2 < ((x.getD a1.toNat []).length : Int) then some (x.set a1.toNat ((x.getD a1.toNat []).set a2.toNat (wrap64 ((rd (x.getD a1.toNat []) a2) + a3))), y) else none) else none) else none) else none
def impl_changed_Hand.f (k : Nat) (l0_0 : List (List Int)) (l0_1 : List Int) (a1 a2 a3 : Int) : Option (List (List Int) × List Int × Bool) := (impl_RightsOk.f k l0_0 l0_1).bind fun t1 => if t1 = true then ((impl_in.f a1 0 (wrap64 ((l0_1.length : Int) - 1))).bind fun t2 => if t2 = true then ((impl_in.f a2 0 (wrap64 ((l0_1.length : Int) - 1))).bind fun t3 => if t3 = true then ((impl_IsAmt.f a3).bind fun t4 => if t4 = true then ((impl_copyRights.f k l0_0 l0_1).bind fun c => (impl_Hand.upd c.1 c.2 a1 a2 a3).bind fun u => (impl_RightsOk.f k u.1 u.2).bind fun t5 => if t5 = true then some (u.1, u.2, true) else some (([] : List (List Int)), ([] : List Int), false)) else some (([] : List (List Int)), ([] : List Int), false)) else some (([] : List (List Int)), ([] : List Int), false)) else some (([] : List (List Int)), ([] : List Int), false)) else some (([] : List (List Int)), ([] : List Int), false)
theorem impl_changed_Hand.mono : ∀ x0 x1 a1 a2 a3 k, LeO (impl_changed_Hand.f k x0 x1 a1 a2 a3) (impl_changed_Hand.f (k + 1) x0 x1 a1 a2 a3) := by
 intro x0 x1 a1 a2 a3 k
 unfold impl_changed_Hand.f
 repeat' first
   | (with_reducible exact impl_RightsOk.mono _ _ _)
   | (with_reducible exact impl_copyRights.mono _ _ _)
   | (with_reducible exact LeO.refl _)
   | (with_reducible refine LeO.ite ?_ ?_)
   | (with_reducible refine LeO.bind ?_ (fun _ => ?_))
   | exact impl_RightsOk.mono _ _ _
   | exact impl_copyRights.mono _ _ _
   | refine LeO.ite ?_ ?_
   | refine LeO.bind ?_ (fun _ => ?_)
set_option maxHeartbeats 8000000 in
set_option maxRecDepth 100000 in
theorem impl_changed_Hand.calls (k : Nat) (A0_0 : Option Addr) (c0_0 : Nat) (l0_0 : List (List Int)) (A0_1 : Option Addr) (c0_1 : Nat) (l0_1 : List Int) (a1 a2 a3 : Int) (gi gj : Nat) (r1 : List (List Int)) (r2 : List Int) (r3 : Bool) (w : World) (hr0_0 : Kd.C (Kd.slice 3 (Kd.int .i64)) w A0_0 l0_0.length l0_0) (hc0_0 : l0_0.length ≤ c0_0) (hr0_1 : Kd.C (Kd.int .i64) w A0_1 l0_1.length l0_1) (hc0_1 : l0_1.length ≤ c0_1) (hi : w.cell? ⟨gi, 0, none⟩ = some (.int .i64 a1)) (hj : w.cell? ⟨gj, 0, none⟩ = some (.int .i64 a2)) (h : impl_changed_Hand.f k l0_0 l0_1 a1 a2 a3 = some (r1, r2, r3)) :
  Calls Try.prog 59 #[.agg #[.slice A0_0 l0_0.length c0_0, .slice A0_1 l0_1.length c0_1], .int .i64 a1, .int .i64 a2, .int .i64 a3, .func (.func 62) #[] #[.pointer (some ⟨gi, 0, none⟩), .pointer (some ⟨gj, 0, none⟩)]] w fun e w' => ∃ v0_ v1_ : Value, e = .returned (.tuple #[.agg #[v0_, v1_], .bool r3]) ∧ Kd.S (Kd.slice 3 (Kd.int .i64)) 23 w' w.heap.size (fun k_ => some k_ ≠ (v1_ : Value).ownBlock) v0_ r1 ∧ Kd.R (Kd.int .i64) 3 w' w.heap.size (fun _ => True) v1_ r2 ∧ Below w.heap.size w w' := by
 have hu28 := Try.underlying28
 have HR0_0 := Aside0.mk hr0_0
 have HC0_0 := Aside0.mk hc0_0
 have HR0_1 := Aside0.mk hr0_1
 have HC0_1 := Aside0.mk hc0_1
 have HI := Aside0.mk hi
 have HJ := Aside0.mk hj
 clear hr0_0 hc0_0 hr0_1 hc0_1 hi hj
 have HB := k0 (Below.refl w.heap.size w)
 have CH := k0 (Ch.nil w)
 unfold impl_changed_Hand.f at h
 replace h := Option.bind_eq_some_iff.mp h
 obtain ⟨t1, A10, h⟩ := h
 have A1 := Aside0.mk A10
 clear A10
 cases t1 with
 | false =>
  rw [if_neg (by decide)] at h
  simp only [Option.some.injEq, Prod.mk.injEq] at h
  obtain ⟨rfl, rfl, rfl⟩ := h
  go_enter Try.func59, Try.ntmps59
  go_wp2_with (first
   | ((with_reducible refine gate_dst (N := 5) rfl ?_); refine kE (N := 5) (cs := #[.slice A0_0 l0_0.length c0_0, .slice A0_1 l0_1.length c0_1]) (t := 28) ?_; intro gr hg w695 hbox hb; have n0_ := k0 (Ch.box (kH CH.out) hg hbox hb : Ch w695 [bk gr #[.slice A0_0 l0_0.length c0_0, .slice A0_1 l0_1.length c0_1] 28]); have n1_ := k0 (below_step (kW HB.out) hb : Below w.heap.size w w695); have m0_ := k0 (by rw [hg]; exact HB.out.size : w.heap.size ≤ gr); clear CH HB hb hbox hg; have CH := n0_; have HB := n1_; have GE_gr := m0_; clear n0_ n1_ m0_; obtain ⟨hz696, hz697, hz698, hz699⟩ := kz CH.out 0 rfl)
   | ((with_reducible refine gate_dst (N := 10) rfl ?_); refine kE (N := 10) (cs := #[.slice none 0 0, .slice none 0 0]) (t := 28) ?_; intro go hg w700 hbox hb; have n0_ := k0 (Ch.box (kH CH.out) hg hbox hb : Ch w700 [bk go #[.slice none 0 0, .slice none 0 0] 28, bk gr #[.slice A0_0 l0_0.length c0_0, .slice A0_1 l0_1.length c0_1] 28]); have n1_ := k0 (below_step (kW HB.out) hb : Below w.heap.size w w700); have m0_ := k0 (by rw [hg]; exact HB.out.size : w.heap.size ≤ go); clear CH HB hb hbox hg; have CH := n0_; have HB := n1_; have GE_go := m0_; clear n0_ n1_ m0_; clear hz696 hz697 hz698 hz699; obtain ⟨hz701, hz702, hz703, hz704⟩ := kz CH.out 0 rfl; obtain ⟨hz705, hz706, hz707, hz708⟩ := kz CH.out 1 rfl)
   | ((with_reducible refine gate_callee (f := 16) rfl ?_); refine kG (some 18) Try.func16 #[.agg #[.slice A0_0 l0_0.length c0_0, .slice A0_1 l0_1.length c0_1]] ?_; (with_reducible refine (impl_RightsOk.calls k _ _ l0_0 _ _ l0_1 false _ ?side1 ?side2 ?side3 ?side4 A1.out).mono ?_); (case side1 => repeat (first | exact (Kd.C_below HR0_0.out (kW HB.out)) | (with_reducible refine Kd.C_drewN ?_ _) | (with_reducible refine Kd.C_drew ?_))); (case side2 => exact HC0_0.out); (case side3 => repeat (first | exact (Kd.C_below HR0_1.out (kW HB.out)) | (with_reducible refine Kd.C_drewN ?_ _) | (with_reducible refine Kd.C_drew ?_))); (case side4 => exact HC0_1.out); rintro e w709 ⟨rfl, hb⟩; refine ⟨_, rfl, ?_⟩; have n0_ := k0 (Ch.below (kH CH.out) hb : Ch w709 [bk go #[.slice none 0 0, .slice none 0 0] 28, bk gr #[.slice A0_0 l0_0.length c0_0, .slice A0_1 l0_1.length c0_1] 28]); have n1_ := k0 (below_step (kW HB.out) hb : Below w.heap.size w w709); clear CH HB hb; have CH := n0_; have HB := n1_; clear n0_ n1_ ; clear hz701 hz702 hz703 hz704 hz705 hz706 hz707 hz708; obtain ⟨hz710, hz711, hz712, hz713⟩ := kz CH.out 0 rfl; obtain ⟨hz714, hz715, hz716, hz717⟩ := kz CH.out 1 rfl)
   | ((with_reducible refine gate_store (t := 28) (p := 10) rfl ?_); refine kT (t := 28) (p := 10) ?_; intro w718 hw; have n0_ := k0 (by rw [hw]; exact Ch.to (Ch.set1 (Ch.set1 (kH CH.out) 0 rfl 0 (.slice none 0 0) #[.slice none 0 0, .slice none 0 0] rfl) 0 rfl 1 (.slice none 0 0) #[.slice none 0 0, .slice none 0 0] rfl) rfl : Ch w718 [bk go #[.slice none 0 0, .slice none 0 0] 28, bk gr #[.slice A0_0 l0_0.length c0_0, .slice A0_1 l0_1.length c0_1] 28]); have n1_ := k0 (by rw [hw]; exact (below_set (below_set (kW HB.out) GE_go.out) GE_go.out) : Below w.heap.size w w718); clear CH HB hw; have CH := n0_; have HB := n1_; clear n0_ n1_ ; clear hz710 hz711 hz712 hz713 hz714 hz715 hz716 hz717; obtain ⟨hz719, hz720, hz721, hz722⟩ := kz CH.out 0 rfl; obtain ⟨hz723, hz724, hz725, hz726⟩ := kz CH.out 1 rfl))
  refine bodyPost_ret (results_ct rfl _ _ go 28 #[.slice none 0 0, .slice none 0 0] (0, 0) _ rfl (Ch.blk CH.out 0 rfl) Try.underlying28 rfl (by kernel_rfl)) rfl ?_
  exact ⟨_, _, rfl, Kd.S_nil _ _ _ _ _, Kd.R_nil _ _ _ _ _, HB.out⟩
 | true =>
  rw [if_pos rfl] at h
  replace h := Option.bind_eq_some_iff.mp h
  obtain ⟨t2, A20, h⟩ := h
  have A2 := Aside0.mk A20
  clear A20
  cases t2 with
  | false =>
   rw [if_neg (by decide)] at h
   simp only [Option.some.injEq, Prod.mk.injEq] at h
   obtain ⟨rfl, rfl, rfl⟩ := h
   go_enter Try.func59, Try.ntmps59
   go_wp2_with (first
    | ((with_reducible refine gate_dst (N := 5) rfl ?_); refine kE (N := 5) (cs := #[.slice A0_0 l0_0.length c0_0, .slice A0_1 l0_1.length c0_1]) (t := 28) ?_; intro gr hg w727 hbox hb; have n0_ := k0 (Ch.box (kH CH.out) hg hbox hb : Ch w727 [bk gr #[.slice A0_0 l0_0.length c0_0, .slice A0_1 l0_1.length c0_1] 28]); have n1_ := k0 (below_step (kW HB.out) hb : Below w.heap.size w w727); have m0_ := k0 (by rw [hg]; exact HB.out.size : w.heap.size ≤ gr); clear CH HB hb hbox hg; have CH := n0_; have HB := n1_; have GE_gr := m0_; clear n0_ n1_ m0_; obtain ⟨hz728, hz729, hz730, hz731⟩ := kz CH.out 0 rfl)
    | ((with_reducible refine gate_dst (N := 10) rfl ?_); refine kE (N := 10) (cs := #[.slice none 0 0, .slice none 0 0]) (t := 28) ?_; intro go hg w732 hbox hb; have n0_ := k0 (Ch.box (kH CH.out) hg hbox hb : Ch w732 [bk go #[.slice none 0 0, .slice none 0 0] 28, bk gr #[.slice A0_0 l0_0.length c0_0, .slice A0_1 l0_1.length c0_1] 28]); have n1_ := k0 (below_step (kW HB.out) hb : Below w.heap.size w w732); have m0_ := k0 (by rw [hg]; exact HB.out.size : w.heap.size ≤ go); clear CH HB hb hbox hg; have CH := n0_; have HB := n1_; have GE_go := m0_; clear n0_ n1_ m0_; clear hz728 hz729 hz730 hz731; obtain ⟨hz733, hz734, hz735, hz736⟩ := kz CH.out 0 rfl; obtain ⟨hz737, hz738, hz739, hz740⟩ := kz CH.out 1 rfl)
    | ((with_reducible refine gate_callee (f := 16) rfl ?_); refine kG (some 18) Try.func16 #[.agg #[.slice A0_0 l0_0.length c0_0, .slice A0_1 l0_1.length c0_1]] ?_; (with_reducible refine (impl_RightsOk.calls k _ _ l0_0 _ _ l0_1 true _ ?side1 ?side2 ?side3 ?side4 A1.out).mono ?_); (case side1 => repeat (first | exact (Kd.C_below HR0_0.out (kW HB.out)) | (with_reducible refine Kd.C_drewN ?_ _) | (with_reducible refine Kd.C_drew ?_))); (case side2 => exact HC0_0.out); (case side3 => repeat (first | exact (Kd.C_below HR0_1.out (kW HB.out)) | (with_reducible refine Kd.C_drewN ?_ _) | (with_reducible refine Kd.C_drew ?_))); (case side4 => exact HC0_1.out); rintro e w741 ⟨rfl, hb⟩; refine ⟨_, rfl, ?_⟩; have n0_ := k0 (Ch.below (kH CH.out) hb : Ch w741 [bk go #[.slice none 0 0, .slice none 0 0] 28, bk gr #[.slice A0_0 l0_0.length c0_0, .slice A0_1 l0_1.length c0_1] 28]); have n1_ := k0 (below_step (kW HB.out) hb : Below w.heap.size w w741); clear CH HB hb; have CH := n0_; have HB := n1_; clear n0_ n1_ ; clear hz733 hz734 hz735 hz736 hz737 hz738 hz739 hz740; obtain ⟨hz742, hz743, hz744, hz745⟩ := kz CH.out 0 rfl; obtain ⟨hz746, hz747, hz748, hz749⟩ := kz CH.out 1 rfl)
    | (go_at_call 44; (with_reducible refine (impl_in.calls a1 0 (wrap64 ((l0_1.length : Int) - 1)) false _ A2.out).mono ?_); rintro e w' ⟨rfl, ⟨nd750, rfl⟩⟩)
    | ((with_reducible refine gate_store (t := 28) (p := 10) rfl ?_); refine kT (t := 28) (p := 10) ?_; intro w751 hw; have n0_ := k0 (by rw [hw]; exact Ch.to (Ch.set1 (Ch.set1 (kH CH.out) 0 rfl 0 (.slice none 0 0) #[.slice none 0 0, .slice none 0 0] rfl) 0 rfl 1 (.slice none 0 0) #[.slice none 0 0, .slice none 0 0] rfl) rfl : Ch w751 [bk go #[.slice none 0 0, .slice none 0 0] 28, bk gr #[.slice A0_0 l0_0.length c0_0, .slice A0_1 l0_1.length c0_1] 28]); have n1_ := k0 (by rw [hw]; exact (below_set (below_set (kW HB.out) GE_go.out) GE_go.out) : Below w.heap.size w w751); clear CH HB hw; have CH := n0_; have HB := n1_; clear n0_ n1_ ; clear hz742 hz743 hz744 hz745 hz746 hz747 hz748 hz749; obtain ⟨hz752, hz753, hz754, hz755⟩ := kz CH.out 0 rfl; obtain ⟨hz756, hz757, hz758, hz759⟩ := kz CH.out 1 rfl))
   refine bodyPost_ret (results_ct rfl _ _ go 28 #[.slice none 0 0, .slice none 0 0] (0, 0) _ rfl (Ch.blk CH.out 0 rfl) Try.underlying28 rfl (by kernel_rfl)) rfl ?_
   exact ⟨_, _, rfl, Kd.S_nil _ _ _ _ _, Kd.R_nil _ _ _ _ _, HB.out⟩
  | true =>
   rw [if_pos rfl] at h
   replace h := Option.bind_eq_some_iff.mp h
   obtain ⟨t3, A30, h⟩ := h
   have A3 := Aside0.mk A30
   clear A30
   cases t3 with
   | false =>
    rw [if_neg (by decide)] at h
    simp only [Option.some.injEq, Prod.mk.injEq] at h
    obtain ⟨rfl, rfl, rfl⟩ := h
    go_enter Try.func59, Try.ntmps59
    go_wp2_with (first
     | ((with_reducible refine gate_dst (N := 5) rfl ?_); refine kE (N := 5) (cs := #[.slice A0_0 l0_0.length c0_0, .slice A0_1 l0_1.length c0_1]) (t := 28) ?_; intro gr hg w760 hbox hb; have n0_ := k0 (Ch.box (kH CH.out) hg hbox hb : Ch w760 [bk gr #[.slice A0_0 l0_0.length c0_0, .slice A0_1 l0_1.length c0_1] 28]); have n1_ := k0 (below_step (kW HB.out) hb : Below w.heap.size w w760); have m0_ := k0 (by rw [hg]; exact HB.out.size : w.heap.size ≤ gr); clear CH HB hb hbox hg; have CH := n0_; have HB := n1_; have GE_gr := m0_; clear n0_ n1_ m0_; obtain ⟨hz761, hz762, hz763, hz764⟩ := kz CH.out 0 rfl)
     | ((with_reducible refine gate_dst (N := 10) rfl ?_); refine kE (N := 10) (cs := #[.slice none 0 0, .slice none 0 0]) (t := 28) ?_; intro go hg w765 hbox hb; have n0_ := k0 (Ch.box (kH CH.out) hg hbox hb : Ch w765 [bk go #[.slice none 0 0, .slice none 0 0] 28, bk gr #[.slice A0_0 l0_0.length c0_0, .slice A0_1 l0_1.length c0_1] 28]); have n1_ := k0 (below_step (kW HB.out) hb : Below w.heap.size w w765); have m0_ := k0 (by rw [hg]; exact HB.out.size : w.heap.size ≤ go); clear CH HB hb hbox hg; have CH := n0_; have HB := n1_; have GE_go := m0_; clear n0_ n1_ m0_; clear hz761 hz762 hz763 hz764; obtain ⟨hz766, hz767, hz768, hz769⟩ := kz CH.out 0 rfl; obtain ⟨hz770, hz771, hz772, hz773⟩ := kz CH.out 1 rfl)
     | ((with_reducible refine gate_callee (f := 16) rfl ?_); refine kG (some 18) Try.func16 #[.agg #[.slice A0_0 l0_0.length c0_0, .slice A0_1 l0_1.length c0_1]] ?_; (with_reducible refine (impl_RightsOk.calls k _ _ l0_0 _ _ l0_1 true _ ?side1 ?side2 ?side3 ?side4 A1.out).mono ?_); (case side1 => repeat (first | exact (Kd.C_below HR0_0.out (kW HB.out)) | (with_reducible refine Kd.C_drewN ?_ _) | (with_reducible refine Kd.C_drew ?_))); (case side2 => exact HC0_0.out); (case side3 => repeat (first | exact (Kd.C_below HR0_1.out (kW HB.out)) | (with_reducible refine Kd.C_drewN ?_ _) | (with_reducible refine Kd.C_drew ?_))); (case side4 => exact HC0_1.out); rintro e w774 ⟨rfl, hb⟩; refine ⟨_, rfl, ?_⟩; have n0_ := k0 (Ch.below (kH CH.out) hb : Ch w774 [bk go #[.slice none 0 0, .slice none 0 0] 28, bk gr #[.slice A0_0 l0_0.length c0_0, .slice A0_1 l0_1.length c0_1] 28]); have n1_ := k0 (below_step (kW HB.out) hb : Below w.heap.size w w774); clear CH HB hb; have CH := n0_; have HB := n1_; clear n0_ n1_ ; clear hz766 hz767 hz768 hz769 hz770 hz771 hz772 hz773; obtain ⟨hz775, hz776, hz777, hz778⟩ := kz CH.out 0 rfl; obtain ⟨hz779, hz780, hz781, hz782⟩ := kz CH.out 1 rfl)
     | (go_at_call 44; (with_reducible refine (impl_in.calls a1 0 (wrap64 ((l0_1.length : Int) - 1)) true _ A2.out).mono ?_); rintro e w' ⟨rfl, ⟨nd783, rfl⟩⟩)
     | (go_at_call 44; (with_reducible refine (impl_in.calls a2 0 (wrap64 ((l0_1.length : Int) - 1)) false _ A3.out).mono ?_); rintro e w' ⟨rfl, ⟨nd784, rfl⟩⟩)
     | ((with_reducible refine gate_store (t := 28) (p := 10) rfl ?_); refine kT (t := 28) (p := 10) ?_; intro w785 hw; have n0_ := k0 (by rw [hw]; exact Ch.to (Ch.set1 (Ch.set1 (kH CH.out) 0 rfl 0 (.slice none 0 0) #[.slice none 0 0, .slice none 0 0] rfl) 0 rfl 1 (.slice none 0 0) #[.slice none 0 0, .slice none 0 0] rfl) rfl : Ch w785 [bk go #[.slice none 0 0, .slice none 0 0] 28, bk gr #[.slice A0_0 l0_0.length c0_0, .slice A0_1 l0_1.length c0_1] 28]); have n1_ := k0 (by rw [hw]; exact (below_set (below_set (kW HB.out) GE_go.out) GE_go.out) : Below w.heap.size w w785); clear CH HB hw; have CH := n0_; have HB := n1_; clear n0_ n1_ ; clear hz775 hz776 hz777 hz778 hz779 hz780 hz781 hz782; obtain ⟨hz786, hz787, hz788, hz789⟩ := kz CH.out 0 rfl; obtain ⟨hz790, hz791, hz792, hz793⟩ := kz CH.out 1 rfl))
    refine bodyPost_ret (results_ct rfl _ _ go 28 #[.slice none 0 0, .slice none 0 0] (0, 0) _ rfl (Ch.blk CH.out 0 rfl) Try.underlying28 rfl (by kernel_rfl)) rfl ?_
    exact ⟨_, _, rfl, Kd.S_nil _ _ _ _ _, Kd.R_nil _ _ _ _ _, HB.out⟩
   | true =>
    rw [if_pos rfl] at h
    replace h := Option.bind_eq_some_iff.mp h
    obtain ⟨t4, A40, h⟩ := h
    have A4 := Aside0.mk A40
    clear A40
    cases t4 with
    | false =>
     rw [if_neg (by decide)] at h
     simp only [Option.some.injEq, Prod.mk.injEq] at h
     obtain ⟨rfl, rfl, rfl⟩ := h
     go_enter Try.func59, Try.ntmps59
     go_wp2_with (first
      | ((with_reducible refine gate_dst (N := 5) rfl ?_); refine kE (N := 5) (cs := #[.slice A0_0 l0_0.length c0_0, .slice A0_1 l0_1.length c0_1]) (t := 28) ?_; intro gr hg w794 hbox hb; have n0_ := k0 (Ch.box (kH CH.out) hg hbox hb : Ch w794 [bk gr #[.slice A0_0 l0_0.length c0_0, .slice A0_1 l0_1.length c0_1] 28]); have n1_ := k0 (below_step (kW HB.out) hb : Below w.heap.size w w794); have m0_ := k0 (by rw [hg]; exact HB.out.size : w.heap.size ≤ gr); clear CH HB hb hbox hg; have CH := n0_; have HB := n1_; have GE_gr := m0_; clear n0_ n1_ m0_; obtain ⟨hz795, hz796, hz797, hz798⟩ := kz CH.out 0 rfl)
      | ((with_reducible refine gate_dst (N := 10) rfl ?_); refine kE (N := 10) (cs := #[.slice none 0 0, .slice none 0 0]) (t := 28) ?_; intro go hg w799 hbox hb; have n0_ := k0 (Ch.box (kH CH.out) hg hbox hb : Ch w799 [bk go #[.slice none 0 0, .slice none 0 0] 28, bk gr #[.slice A0_0 l0_0.length c0_0, .slice A0_1 l0_1.length c0_1] 28]); have n1_ := k0 (below_step (kW HB.out) hb : Below w.heap.size w w799); have m0_ := k0 (by rw [hg]; exact HB.out.size : w.heap.size ≤ go); clear CH HB hb hbox hg; have CH := n0_; have HB := n1_; have GE_go := m0_; clear n0_ n1_ m0_; clear hz795 hz796 hz797 hz798; obtain ⟨hz800, hz801, hz802, hz803⟩ := kz CH.out 0 rfl; obtain ⟨hz804, hz805, hz806, hz807⟩ := kz CH.out 1 rfl)
      | ((with_reducible refine gate_callee (f := 16) rfl ?_); refine kG (some 18) Try.func16 #[.agg #[.slice A0_0 l0_0.length c0_0, .slice A0_1 l0_1.length c0_1]] ?_; (with_reducible refine (impl_RightsOk.calls k _ _ l0_0 _ _ l0_1 true _ ?side1 ?side2 ?side3 ?side4 A1.out).mono ?_); (case side1 => repeat (first | exact (Kd.C_below HR0_0.out (kW HB.out)) | (with_reducible refine Kd.C_drewN ?_ _) | (with_reducible refine Kd.C_drew ?_))); (case side2 => exact HC0_0.out); (case side3 => repeat (first | exact (Kd.C_below HR0_1.out (kW HB.out)) | (with_reducible refine Kd.C_drewN ?_ _) | (with_reducible refine Kd.C_drew ?_))); (case side4 => exact HC0_1.out); rintro e w808 ⟨rfl, hb⟩; refine ⟨_, rfl, ?_⟩; have n0_ := k0 (Ch.below (kH CH.out) hb : Ch w808 [bk go #[.slice none 0 0, .slice none 0 0] 28, bk gr #[.slice A0_0 l0_0.length c0_0, .slice A0_1 l0_1.length c0_1] 28]); have n1_ := k0 (below_step (kW HB.out) hb : Below w.heap.size w w808); clear CH HB hb; have CH := n0_; have HB := n1_; clear n0_ n1_ ; clear hz800 hz801 hz802 hz803 hz804 hz805 hz806 hz807; obtain ⟨hz809, hz810, hz811, hz812⟩ := kz CH.out 0 rfl; obtain ⟨hz813, hz814, hz815, hz816⟩ := kz CH.out 1 rfl)
      | (go_at_call 44; (with_reducible refine (impl_in.calls a1 0 (wrap64 ((l0_1.length : Int) - 1)) true _ A2.out).mono ?_); rintro e w' ⟨rfl, ⟨nd817, rfl⟩⟩)
      | (go_at_call 44; (with_reducible refine (impl_in.calls a2 0 (wrap64 ((l0_1.length : Int) - 1)) true _ A3.out).mono ?_); rintro e w' ⟨rfl, ⟨nd818, rfl⟩⟩)
      | (go_at_call 69; (with_reducible refine (impl_IsAmt.calls a3 false _ A4.out).mono ?_); rintro e w' ⟨rfl, ⟨nd819, rfl⟩⟩)
      | ((with_reducible refine gate_store (t := 28) (p := 10) rfl ?_); refine kT (t := 28) (p := 10) ?_; intro w820 hw; have n0_ := k0 (by rw [hw]; exact Ch.to (Ch.set1 (Ch.set1 (kH CH.out) 0 rfl 0 (.slice none 0 0) #[.slice none 0 0, .slice none 0 0] rfl) 0 rfl 1 (.slice none 0 0) #[.slice none 0 0, .slice none 0 0] rfl) rfl : Ch w820 [bk go #[.slice none 0 0, .slice none 0 0] 28, bk gr #[.slice A0_0 l0_0.length c0_0, .slice A0_1 l0_1.length c0_1] 28]); have n1_ := k0 (by rw [hw]; exact (below_set (below_set (kW HB.out) GE_go.out) GE_go.out) : Below w.heap.size w w820); clear CH HB hw; have CH := n0_; have HB := n1_; clear n0_ n1_ ; clear hz809 hz810 hz811 hz812 hz813 hz814 hz815 hz816; obtain ⟨hz821, hz822, hz823, hz824⟩ := kz CH.out 0 rfl; obtain ⟨hz825, hz826, hz827, hz828⟩ := kz CH.out 1 rfl))
     refine bodyPost_ret (results_ct rfl _ _ go 28 #[.slice none 0 0, .slice none 0 0] (0, 0) _ rfl (Ch.blk CH.out 0 rfl) Try.underlying28 rfl (by kernel_rfl)) rfl ?_
     exact ⟨_, _, rfl, Kd.S_nil _ _ _ _ _, Kd.R_nil _ _ _ _ _, HB.out⟩
    | true =>
     rw [if_pos rfl] at h
     replace h := Option.bind_eq_some_iff.mp h
     obtain ⟨⟨x0, x1⟩, A50, h⟩ := h
     have A5 := Aside0.mk A50
     clear A50
     replace h := Option.bind_eq_some_iff.mp h
     obtain ⟨⟨u0, u1⟩, A60, h⟩ := h
     have A6 := Aside0.mk A60
     clear A60
     have hu := A6.out
     unfold impl_Hand.upd at hu
     dsimp only at hu
     by_cases q0 : 0 ≤ a1
     case neg => rw [if_neg q0] at hu; cases hu
     rw [if_pos q0] at hu
     by_cases q1 : a1 < (x0.length : Int)
     case neg => rw [if_neg q1] at hu; cases hu
     rw [if_pos q1] at hu
     by_cases q2 : 0 ≤ a2
     case neg => rw [if_neg q2] at hu; cases hu
     rw [if_pos q2] at hu
     by_cases q3 : a2 < ((x0.getD a1.toNat []).length : Int)
     case neg => rw [if_neg q3] at hu; cases hu
     rw [if_pos q3] at hu
     simp only [Option.some.injEq, Prod.mk.injEq] at hu
     obtain ⟨eu0, eu1⟩ := hu
     have Q0 := Aside0.mk q0
     have Q1 := Aside0.mk q1
     have Q2 := Aside0.mk q2
     have Q3 := Aside0.mk q3
     have E0 := Aside0.mk eu0.symm
     have E1 := Aside0.mk eu1.symm
     clear q0 q1 q2 q3 eu0 eu1
     replace h := Option.bind_eq_some_iff.mp h
     obtain ⟨t7, A70, h⟩ := h
     have A7 := Aside0.mk A70
     clear A70
     have ex : x1 = u1 := E1.out.symm
     subst ex
     cases t7 with
     | false =>
      rw [if_neg (by decide)] at h
      simp only [Option.some.injEq, Prod.mk.injEq] at h
      obtain ⟨rfl, rfl, rfl⟩ := h
      go_enter Try.func59, Try.ntmps59
      go_wp2_with (first
       | ((with_reducible refine gate_dst (N := 5) rfl ?_); refine kE (N := 5) (cs := #[.slice A0_0 l0_0.length c0_0, .slice A0_1 l0_1.length c0_1]) (t := 28) ?_; intro gr hg w829 hbox hb; have n0_ := k0 (Ch.box (kH CH.out) hg hbox hb : Ch w829 [bk gr #[.slice A0_0 l0_0.length c0_0, .slice A0_1 l0_1.length c0_1] 28]); have n1_ := k0 (below_step (kW HB.out) hb : Below w.heap.size w w829); have m0_ := k0 (by rw [hg]; exact HB.out.size : w.heap.size ≤ gr); clear CH HB hb hbox hg; have CH := n0_; have HB := n1_; have GE_gr := m0_; clear n0_ n1_ m0_; obtain ⟨hz830, hz831, hz832, hz833⟩ := kz CH.out 0 rfl)
       | ((with_reducible refine gate_dst (N := 10) rfl ?_); refine kE (N := 10) (cs := #[.slice none 0 0, .slice none 0 0]) (t := 28) ?_; intro go hg w834 hbox hb; have n0_ := k0 (Ch.box (kH CH.out) hg hbox hb : Ch w834 [bk go #[.slice none 0 0, .slice none 0 0] 28, bk gr #[.slice A0_0 l0_0.length c0_0, .slice A0_1 l0_1.length c0_1] 28]); have n1_ := k0 (below_step (kW HB.out) hb : Below w.heap.size w w834); have m0_ := k0 (by rw [hg]; exact HB.out.size : w.heap.size ≤ go); clear CH HB hb hbox hg; have CH := n0_; have HB := n1_; have GE_go := m0_; clear n0_ n1_ m0_; clear hz830 hz831 hz832 hz833; obtain ⟨hz835, hz836, hz837, hz838⟩ := kz CH.out 0 rfl; obtain ⟨hz839, hz840, hz841, hz842⟩ := kz CH.out 1 rfl)
       | ((with_reducible refine gate_callee (f := 16) rfl ?_); refine kG (some 18) Try.func16 #[.agg #[.slice A0_0 l0_0.length c0_0, .slice A0_1 l0_1.length c0_1]] ?_; (with_reducible refine (impl_RightsOk.calls k _ _ l0_0 _ _ l0_1 true _ ?side1 ?side2 ?side3 ?side4 A1.out).mono ?_); (case side1 => repeat (first | exact (Kd.C_below HR0_0.out (kW HB.out)) | (with_reducible refine Kd.C_drewN ?_ _) | (with_reducible refine Kd.C_drew ?_))); (case side2 => exact HC0_0.out); (case side3 => repeat (first | exact (Kd.C_below HR0_1.out (kW HB.out)) | (with_reducible refine Kd.C_drewN ?_ _) | (with_reducible refine Kd.C_drew ?_))); (case side4 => exact HC0_1.out); rintro e w843 ⟨rfl, hb⟩; refine ⟨_, rfl, ?_⟩; have n0_ := k0 (Ch.below (kH CH.out) hb : Ch w843 [bk go #[.slice none 0 0, .slice none 0 0] 28, bk gr #[.slice A0_0 l0_0.length c0_0, .slice A0_1 l0_1.length c0_1] 28]); have n1_ := k0 (below_step (kW HB.out) hb : Below w.heap.size w w843); clear CH HB hb; have CH := n0_; have HB := n1_; clear n0_ n1_ ; clear hz835 hz836 hz837 hz838 hz839 hz840 hz841 hz842; obtain ⟨hz844, hz845, hz846, hz847⟩ := kz CH.out 0 rfl; obtain ⟨hz848, hz849, hz850, hz851⟩ := kz CH.out 1 rfl)
       | (go_at_call 44; (with_reducible refine (impl_in.calls a1 0 (wrap64 ((l0_1.length : Int) - 1)) true _ A2.out).mono ?_); rintro e w' ⟨rfl, ⟨nd852, rfl⟩⟩)
       | (go_at_call 44; (with_reducible refine (impl_in.calls a2 0 (wrap64 ((l0_1.length : Int) - 1)) true _ A3.out).mono ?_); rintro e w' ⟨rfl, ⟨nd853, rfl⟩⟩)
       | (go_at_call 69; (with_reducible refine (impl_IsAmt.calls a3 true _ A4.out).mono ?_); rintro e w' ⟨rfl, ⟨nd854, rfl⟩⟩)
       | ((with_reducible refine gate_callee (f := 53) rfl ?_); refine kG (some 41) Try.func53 #[.agg #[.slice A0_0 l0_0.length c0_0, .slice A0_1 l0_1.length c0_1]] ?_; (with_reducible refine (impl_copyRights.calls k _ _ l0_0 _ _ l0_1 x0 x1 _ ?side1 ?side2 ?side3 ?side4 A5.out).mono ?_); (case side1 => repeat (first | exact (Kd.C_below HR0_0.out (kW HB.out)) | (with_reducible refine Kd.C_drewN ?_ _) | (with_reducible refine Kd.C_drew ?_))); (case side2 => exact HC0_0.out); (case side3 => repeat (first | exact (Kd.C_below HR0_1.out (kW HB.out)) | (with_reducible refine Kd.C_drewN ?_ _) | (with_reducible refine Kd.C_drew ?_))); (case side4 => exact HC0_1.out); rintro e w855 ⟨v0_, v1_, rfl, h0_, h1_, hb⟩; refine ⟨_, rfl, ?_⟩; obtain ⟨Aacp, cacp, e0_⟩ := Kd.S_slice h0_; subst e0_; obtain ⟨Abcp, cbcp, e1_⟩ := Kd.R_slice h1_; subst e1_; obtain ⟨lo_cp, hlo_⟩ : ∃ z_ : Nat, z_ = (w843).heap.size := ⟨_, rfl⟩; obtain ⟨hi_cp, hhi_⟩ : ∃ z_ : Nat, z_ = (w855).heap.size := ⟨_, rfl⟩; have n0_ := k0 (by rw [hlo_, hhi_]; exact Ch.to (Ch.madeT (kH CH.out) (by exact HB.out.size) h0_ (fun _ hk => hk) h1_ hb) rfl : Ch w855 [rt w.heap.size (Kd.slice 3 (Kd.int .i64)) 23 (Kd.int .i64) 3 lo_cp hi_cp (.slice Aacp x0.length cacp) (.slice Abcp x1.length cbcp) x0 x1, bk go #[.slice none 0 0, .slice none 0 0] 28, bk gr #[.slice A0_0 l0_0.length c0_0, .slice A0_1 l0_1.length c0_1] 28]); have n1_ := k0 (below_step (kW HB.out) hb : Below w.heap.size w w855); clear CH HB hb h0_ h1_ hlo_ hhi_; have CH := n0_; have HB := n1_; clear n0_ n1_ ; clear hz844 hz845 hz846 hz847 hz848 hz849 hz850 hz851; obtain ⟨hz856, hz857, hz858, hz859⟩ := kz CH.out 1 rfl; obtain ⟨hz860, hz861, hz862, hz863⟩ := kz CH.out 2 rfl)
       | ((with_reducible refine gate_dst (N := 13) rfl ?_); refine kE (N := 13) (cs := #[.slice none 0 0, .slice none 0 0]) (t := 28) ?_; intro gp hg w864 hbox hb; have n0_ := k0 (Ch.box (kH CH.out) hg hbox hb : Ch w864 [bk gp #[.slice none 0 0, .slice none 0 0] 28, rt w.heap.size (Kd.slice 3 (Kd.int .i64)) 23 (Kd.int .i64) 3 lo_cp hi_cp (.slice Aacp x0.length cacp) (.slice Abcp x1.length cbcp) x0 x1, bk go #[.slice none 0 0, .slice none 0 0] 28, bk gr #[.slice A0_0 l0_0.length c0_0, .slice A0_1 l0_1.length c0_1] 28]); have n1_ := k0 (below_step (kW HB.out) hb : Below w.heap.size w w864); have m0_ := k0 (by rw [hg]; exact HB.out.size : w.heap.size ≤ gp); clear CH HB hb hbox hg; have CH := n0_; have HB := n1_; have GE_gp := m0_; clear n0_ n1_ m0_; clear hz856 hz857 hz858 hz859 hz860 hz861 hz862 hz863; obtain ⟨hz865, hz866, hz867, hz868⟩ := kz CH.out 0 rfl; obtain ⟨hz869, hz870, hz871, hz872⟩ := kz CH.out 2 rfl; obtain ⟨hz873, hz874, hz875, hz876⟩ := kz CH.out 3 rfl)
       | ((with_reducible refine gate_store (t := 28) (p := 13) rfl ?_); refine kT (t := 28) (p := 13) ?_; intro w877 hw; have n0_ := k0 (by rw [hw]; exact Ch.to (Ch.set1 (Ch.set1 (kH CH.out) 0 rfl 0 (.slice Aacp x0.length cacp) #[.slice Aacp x0.length cacp, .slice none 0 0] rfl) 0 rfl 1 (.slice Abcp x1.length cbcp) #[.slice Aacp x0.length cacp, .slice Abcp x1.length cbcp] rfl) rfl : Ch w877 [bk gp #[.slice Aacp x0.length cacp, .slice Abcp x1.length cbcp] 28, rt w.heap.size (Kd.slice 3 (Kd.int .i64)) 23 (Kd.int .i64) 3 lo_cp hi_cp (.slice Aacp x0.length cacp) (.slice Abcp x1.length cbcp) x0 x1, bk go #[.slice none 0 0, .slice none 0 0] 28, bk gr #[.slice A0_0 l0_0.length c0_0, .slice A0_1 l0_1.length c0_1] 28]); have n1_ := k0 (by rw [hw]; exact (below_set (below_set (kW HB.out) GE_gp.out) GE_gp.out) : Below w.heap.size w w877); clear CH HB hw; have CH := n0_; have HB := n1_; clear n0_ n1_ ; clear hz865 hz866 hz867 hz868 hz869 hz870 hz871 hz872 hz873 hz874 hz875 hz876; obtain ⟨hz878, hz879, hz880, hz881⟩ := kz CH.out 0 rfl; obtain ⟨hz882, hz883, hz884, hz885⟩ := kz CH.out 2 rfl; obtain ⟨hz886, hz887, hz888, hz889⟩ := kz CH.out 3 rfl; obtain ⟨g0, g1, c1, eA_, hc, hb1, hv, hfz, hput⟩ := Ch.rt_elem CH.out 1 rfl a1 a2 Q0.out Q1.out Q2.out Q3.out; subst eA_; have HCc := Aside0.mk hc; clear hc; have HV := Aside0.mk hv; have HFZ := Aside0.mk hfz; have HP := Aside0.mk hput; have HB1 := Aside0.mk hb1; clear hv hfz hput hb1)
       | (go_at_call 62; (with_reducible refine (impl_Hand_1.calls gp gi gj g0 g1 cacp c1 x0.length (x0.getD a1.toNat []).length a1 a2 (.slice Abcp x1.length cbcp) _ ?side1 ?side2 ?side3 ?side4 ?side5 ?side6 ?side7 ?side8).mono ?_); (case side1 => exact Ch.blk CH.out 0 rfl); (case side2 => exact pw_cell_below HB.out HI.out); (case side3 => exact pw_cell_below HB.out HJ.out); (case side4 => exact HCc.out); (case side5 => exact Q0.out); (case side6 => exact Q1.out); (case side7 => exact Q2.out); (case side8 => exact Q3.out); rintro e w' ⟨rfl, ⟨nd890, rfl⟩⟩; have hv := HV.out; have hfz := HFZ.out)
       | ((with_reducible refine gate_store (t := 3) (p := 48) rfl ?_); refine kT (t := 3) (p := 48) ?_; intro w891 hw; have n0_ := k0 (by rw [hw, E0.out]; exact Ch.to (Ch.drewN (HP.out _) _) rfl : Ch w891 [bk gp #[.slice (some ⟨g0, 0, none⟩) x0.length cacp, .slice Abcp x1.length cbcp] 28, rt w.heap.size (Kd.slice 3 (Kd.int .i64)) 23 (Kd.int .i64) 3 lo_cp hi_cp (.slice (some ⟨g0, 0, none⟩) x0.length cacp) (.slice Abcp x1.length cbcp) u0 x1, bk go #[.slice none 0 0, .slice none 0 0] 28, bk gr #[.slice A0_0 l0_0.length c0_0, .slice A0_1 l0_1.length c0_1] 28]); have n1_ := k0 (by rw [hw]; exact below_set (kW HB.out) HB1.out : Below w.heap.size w w891); clear CH HB hw hv hfz HP HV HFZ; have CH := n0_; have HB := n1_; clear n0_ n1_ ; have HLN := k0 (by rw [E0.out, List.length_set] : u0.length = x0.length); clear hz878 hz879 hz880 hz881 hz882 hz883 hz884 hz885 hz886 hz887 hz888 hz889; obtain ⟨hz892, hz893, hz894, hz895⟩ := kz CH.out 0 rfl; obtain ⟨hz896, hz897, hz898, hz899⟩ := kz CH.out 2 rfl; obtain ⟨hz900, hz901, hz902, hz903⟩ := kz CH.out 3 rfl)
       | ((with_reducible refine gate_callee (f := 16) rfl ?_); refine goesL_ (some 50) rfl rfl Try.func16 (by kernel_rfl) rfl #[.agg #[.slice (some ⟨g0, 0, none⟩) u0.length cacp, .slice Abcp x1.length cbcp]] rfl (by (try simp only [List.map_toArray, List.map_cons, List.map_nil]); first | done | rfl | (rw [HLN.out] <;> rfl)) ?_; (with_reducible refine (impl_RightsOk.calls k _ _ u0 _ _ x1 false _ ?side1 ?side2 ?side3 ?side4 A7.out).mono ?_); (case side1 => repeat (first | exact Ch.rt_C0 CH.out 1 rfl | (with_reducible refine Kd.C_drewN ?_ _) | (with_reducible refine Kd.C_drew ?_))); (case side2 => exact Ch.rt_l0 CH.out 1 rfl); (case side3 => repeat (first | exact Ch.rt_C1 CH.out 1 rfl | (with_reducible refine Kd.C_drewN ?_ _) | (with_reducible refine Kd.C_drew ?_))); (case side4 => exact Ch.rt_l1 CH.out 1 rfl); rintro e w904 ⟨rfl, hb⟩; refine ⟨_, rfl, ?_⟩; have n0_ := k0 (Ch.below (kH CH.out) hb : Ch w904 [bk gp #[.slice (some ⟨g0, 0, none⟩) x0.length cacp, .slice Abcp x1.length cbcp] 28, rt w.heap.size (Kd.slice 3 (Kd.int .i64)) 23 (Kd.int .i64) 3 lo_cp hi_cp (.slice (some ⟨g0, 0, none⟩) x0.length cacp) (.slice Abcp x1.length cbcp) u0 x1, bk go #[.slice none 0 0, .slice none 0 0] 28, bk gr #[.slice A0_0 l0_0.length c0_0, .slice A0_1 l0_1.length c0_1] 28]); have n1_ := k0 (below_step (kW HB.out) hb : Below w.heap.size w w904); clear CH HB hb; have CH := n0_; have HB := n1_; clear n0_ n1_ ; clear hz892 hz893 hz894 hz895 hz896 hz897 hz898 hz899 hz900 hz901 hz902 hz903; obtain ⟨hz905, hz906, hz907, hz908⟩ := kz CH.out 0 rfl; obtain ⟨hz909, hz910, hz911, hz912⟩ := kz CH.out 2 rfl; obtain ⟨hz913, hz914, hz915, hz916⟩ := kz CH.out 3 rfl)
       | ((with_reducible refine gate_store (t := 28) (p := 10) rfl ?_); refine kT (t := 28) (p := 10) ?_; intro w917 hw; have n0_ := k0 (by rw [hw]; exact Ch.to (Ch.set1 (Ch.set1 (kH CH.out) 2 rfl 0 (.slice none 0 0) #[.slice none 0 0, .slice none 0 0] rfl) 2 rfl 1 (.slice none 0 0) #[.slice none 0 0, .slice none 0 0] rfl) rfl : Ch w917 [bk gp #[.slice (some ⟨g0, 0, none⟩) x0.length cacp, .slice Abcp x1.length cbcp] 28, rt w.heap.size (Kd.slice 3 (Kd.int .i64)) 23 (Kd.int .i64) 3 lo_cp hi_cp (.slice (some ⟨g0, 0, none⟩) x0.length cacp) (.slice Abcp x1.length cbcp) u0 x1, bk go #[.slice none 0 0, .slice none 0 0] 28, bk gr #[.slice A0_0 l0_0.length c0_0, .slice A0_1 l0_1.length c0_1] 28]); have n1_ := k0 (by rw [hw]; exact (below_set (below_set (kW HB.out) GE_go.out) GE_go.out) : Below w.heap.size w w917); clear CH HB hw; have CH := n0_; have HB := n1_; clear n0_ n1_ ; clear hz905 hz906 hz907 hz908 hz909 hz910 hz911 hz912 hz913 hz914 hz915 hz916; obtain ⟨hz918, hz919, hz920, hz921⟩ := kz CH.out 0 rfl; obtain ⟨hz922, hz923, hz924, hz925⟩ := kz CH.out 2 rfl; obtain ⟨hz926, hz927, hz928, hz929⟩ := kz CH.out 3 rfl))
      refine bodyPost_ret (results_ct rfl _ _ go 28 #[.slice none 0 0, .slice none 0 0] (0, 0) _ rfl (Ch.blk CH.out 2 rfl) Try.underlying28 rfl (by kernel_rfl)) rfl ?_
      exact ⟨_, _, rfl, Kd.S_nil _ _ _ _ _, Kd.R_nil _ _ _ _ _, HB.out⟩
     | true =>
      rw [if_pos rfl] at h
      simp only [Option.some.injEq, Prod.mk.injEq] at h
      obtain ⟨rfl, rfl, rfl⟩ := h
      go_enter Try.func59, Try.ntmps59
      go_wp2_with (first
       | ((with_reducible refine gate_dst (N := 5) rfl ?_); refine kE (N := 5) (cs := #[.slice A0_0 l0_0.length c0_0, .slice A0_1 l0_1.length c0_1]) (t := 28) ?_; intro gr hg w930 hbox hb; have n0_ := k0 (Ch.box (kH CH.out) hg hbox hb : Ch w930 [bk gr #[.slice A0_0 l0_0.length c0_0, .slice A0_1 l0_1.length c0_1] 28]); have n1_ := k0 (below_step (kW HB.out) hb : Below w.heap.size w w930); have m0_ := k0 (by rw [hg]; exact HB.out.size : w.heap.size ≤ gr); clear CH HB hb hbox hg; have CH := n0_; have HB := n1_; have GE_gr := m0_; clear n0_ n1_ m0_; obtain ⟨hz931, hz932, hz933, hz934⟩ := kz CH.out 0 rfl)
       | ((with_reducible refine gate_dst (N := 10) rfl ?_); refine kE (N := 10) (cs := #[.slice none 0 0, .slice none 0 0]) (t := 28) ?_; intro go hg w935 hbox hb; have n0_ := k0 (Ch.box (kH CH.out) hg hbox hb : Ch w935 [bk go #[.slice none 0 0, .slice none 0 0] 28, bk gr #[.slice A0_0 l0_0.length c0_0, .slice A0_1 l0_1.length c0_1] 28]); have n1_ := k0 (below_step (kW HB.out) hb : Below w.heap.size w w935); have m0_ := k0 (by rw [hg]; exact HB.out.size : w.heap.size ≤ go); clear CH HB hb hbox hg; have CH := n0_; have HB := n1_; have GE_go := m0_; clear n0_ n1_ m0_; clear hz931 hz932 hz933 hz934; obtain ⟨hz936, hz937, hz938, hz939⟩ := kz CH.out 0 rfl; obtain ⟨hz940, hz941, hz942, hz943⟩ := kz CH.out 1 rfl)
       | ((with_reducible refine gate_callee (f := 16) rfl ?_); refine kG (some 18) Try.func16 #[.agg #[.slice A0_0 l0_0.length c0_0, .slice A0_1 l0_1.length c0_1]] ?_; (with_reducible refine (impl_RightsOk.calls k _ _ l0_0 _ _ l0_1 true _ ?side1 ?side2 ?side3 ?side4 A1.out).mono ?_); (case side1 => repeat (first | exact (Kd.C_below HR0_0.out (kW HB.out)) | (with_reducible refine Kd.C_drewN ?_ _) | (with_reducible refine Kd.C_drew ?_))); (case side2 => exact HC0_0.out); (case side3 => repeat (first | exact (Kd.C_below HR0_1.out (kW HB.out)) | (with_reducible refine Kd.C_drewN ?_ _) | (with_reducible refine Kd.C_drew ?_))); (case side4 => exact HC0_1.out); rintro e w944 ⟨rfl, hb⟩; refine ⟨_, rfl, ?_⟩; have n0_ := k0 (Ch.below (kH CH.out) hb : Ch w944 [bk go #[.slice none 0 0, .slice none 0 0] 28, bk gr #[.slice A0_0 l0_0.length c0_0, .slice A0_1 l0_1.length c0_1] 28]); have n1_ := k0 (below_step (kW HB.out) hb : Below w.heap.size w w944); clear CH HB hb; have CH := n0_; have HB := n1_; clear n0_ n1_ ; clear hz936 hz937 hz938 hz939 hz940 hz941 hz942 hz943; obtain ⟨hz945, hz946, hz947, hz948⟩ := kz CH.out 0 rfl; obtain ⟨hz949, hz950, hz951, hz952⟩ := kz CH.out 1 rfl)
       | (go_at_call 44; (with_reducible refine (impl_in.calls a1 0 (wrap64 ((l0_1.length : Int) - 1)) true _ A2.out).mono ?_); rintro e w' ⟨rfl, ⟨nd953, rfl⟩⟩)
       | (go_at_call 44; (with_reducible refine (impl_in.calls a2 0 (wrap64 ((l0_1.length : Int) - 1)) true _ A3.out).mono ?_); rintro e w' ⟨rfl, ⟨nd954, rfl⟩⟩)
       | (go_at_call 69; (with_reducible refine (impl_IsAmt.calls a3 true _ A4.out).mono ?_); rintro e w' ⟨rfl, ⟨nd955, rfl⟩⟩)
       | ((with_reducible refine gate_callee (f := 53) rfl ?_); refine kG (some 41) Try.func53 #[.agg #[.slice A0_0 l0_0.length c0_0, .slice A0_1 l0_1.length c0_1]] ?_; (with_reducible refine (impl_copyRights.calls k _ _ l0_0 _ _ l0_1 x0 x1 _ ?side1 ?side2 ?side3 ?side4 A5.out).mono ?_); (case side1 => repeat (first | exact (Kd.C_below HR0_0.out (kW HB.out)) | (with_reducible refine Kd.C_drewN ?_ _) | (with_reducible refine Kd.C_drew ?_))); (case side2 => exact HC0_0.out); (case side3 => repeat (first | exact (Kd.C_below HR0_1.out (kW HB.out)) | (with_reducible refine Kd.C_drewN ?_ _) | (with_reducible refine Kd.C_drew ?_))); (case side4 => exact HC0_1.out); rintro e w956 ⟨v0_, v1_, rfl, h0_, h1_, hb⟩; refine ⟨_, rfl, ?_⟩; obtain ⟨Aacp, cacp, e0_⟩ := Kd.S_slice h0_; subst e0_; obtain ⟨Abcp, cbcp, e1_⟩ := Kd.R_slice h1_; subst e1_; obtain ⟨lo_cp, hlo_⟩ : ∃ z_ : Nat, z_ = (w944).heap.size := ⟨_, rfl⟩; obtain ⟨hi_cp, hhi_⟩ : ∃ z_ : Nat, z_ = (w956).heap.size := ⟨_, rfl⟩; have n0_ := k0 (by rw [hlo_, hhi_]; exact Ch.to (Ch.madeT (kH CH.out) (by exact HB.out.size) h0_ (fun _ hk => hk) h1_ hb) rfl : Ch w956 [rt w.heap.size (Kd.slice 3 (Kd.int .i64)) 23 (Kd.int .i64) 3 lo_cp hi_cp (.slice Aacp x0.length cacp) (.slice Abcp x1.length cbcp) x0 x1, bk go #[.slice none 0 0, .slice none 0 0] 28, bk gr #[.slice A0_0 l0_0.length c0_0, .slice A0_1 l0_1.length c0_1] 28]); have n1_ := k0 (below_step (kW HB.out) hb : Below w.heap.size w w956); clear CH HB hb h0_ h1_ hlo_ hhi_; have CH := n0_; have HB := n1_; clear n0_ n1_ ; clear hz945 hz946 hz947 hz948 hz949 hz950 hz951 hz952; obtain ⟨hz957, hz958, hz959, hz960⟩ := kz CH.out 1 rfl; obtain ⟨hz961, hz962, hz963, hz964⟩ := kz CH.out 2 rfl)
       | ((with_reducible refine gate_dst (N := 13) rfl ?_); refine kE (N := 13) (cs := #[.slice none 0 0, .slice none 0 0]) (t := 28) ?_; intro gp hg w965 hbox hb; have n0_ := k0 (Ch.box (kH CH.out) hg hbox hb : Ch w965 [bk gp #[.slice none 0 0, .slice none 0 0] 28, rt w.heap.size (Kd.slice 3 (Kd.int .i64)) 23 (Kd.int .i64) 3 lo_cp hi_cp (.slice Aacp x0.length cacp) (.slice Abcp x1.length cbcp) x0 x1, bk go #[.slice none 0 0, .slice none 0 0] 28, bk gr #[.slice A0_0 l0_0.length c0_0, .slice A0_1 l0_1.length c0_1] 28]); have n1_ := k0 (below_step (kW HB.out) hb : Below w.heap.size w w965); have m0_ := k0 (by rw [hg]; exact HB.out.size : w.heap.size ≤ gp); clear CH HB hb hbox hg; have CH := n0_; have HB := n1_; have GE_gp := m0_; clear n0_ n1_ m0_; clear hz957 hz958 hz959 hz960 hz961 hz962 hz963 hz964; obtain ⟨hz966, hz967, hz968, hz969⟩ := kz CH.out 0 rfl; obtain ⟨hz970, hz971, hz972, hz973⟩ := kz CH.out 2 rfl; obtain ⟨hz974, hz975, hz976, hz977⟩ := kz CH.out 3 rfl)
       | ((with_reducible refine gate_store (t := 28) (p := 13) rfl ?_); refine kT (t := 28) (p := 13) ?_; intro w978 hw; have n0_ := k0 (by rw [hw]; exact Ch.to (Ch.set1 (Ch.set1 (kH CH.out) 0 rfl 0 (.slice Aacp x0.length cacp) #[.slice Aacp x0.length cacp, .slice none 0 0] rfl) 0 rfl 1 (.slice Abcp x1.length cbcp) #[.slice Aacp x0.length cacp, .slice Abcp x1.length cbcp] rfl) rfl : Ch w978 [bk gp #[.slice Aacp x0.length cacp, .slice Abcp x1.length cbcp] 28, rt w.heap.size (Kd.slice 3 (Kd.int .i64)) 23 (Kd.int .i64) 3 lo_cp hi_cp (.slice Aacp x0.length cacp) (.slice Abcp x1.length cbcp) x0 x1, bk go #[.slice none 0 0, .slice none 0 0] 28, bk gr #[.slice A0_0 l0_0.length c0_0, .slice A0_1 l0_1.length c0_1] 28]); have n1_ := k0 (by rw [hw]; exact (below_set (below_set (kW HB.out) GE_gp.out) GE_gp.out) : Below w.heap.size w w978); clear CH HB hw; have CH := n0_; have HB := n1_; clear n0_ n1_ ; clear hz966 hz967 hz968 hz969 hz970 hz971 hz972 hz973 hz974 hz975 hz976 hz977; obtain ⟨hz979, hz980, hz981, hz982⟩ := kz CH.out 0 rfl; obtain ⟨hz983, hz984, hz985, hz986⟩ := kz CH.out 2 rfl; obtain ⟨hz987, hz988, hz989, hz990⟩ := kz CH.out 3 rfl; obtain ⟨g0, g1, c1, eA_, hc, hb1, hv, hfz, hput⟩ := Ch.rt_elem CH.out 1 rfl a1 a2 Q0.out Q1.out Q2.out Q3.out; subst eA_; have HCc := Aside0.mk hc; clear hc; have HV := Aside0.mk hv; have HFZ := Aside0.mk hfz; have HP := Aside0.mk hput; have HB1 := Aside0.mk hb1; clear hv hfz hput hb1)
       | (go_at_call 62; (with_reducible refine (impl_Hand_1.calls gp gi gj g0 g1 cacp c1 x0.length (x0.getD a1.toNat []).length a1 a2 (.slice Abcp x1.length cbcp) _ ?side1 ?side2 ?side3 ?side4 ?side5 ?side6 ?side7 ?side8).mono ?_); (case side1 => exact Ch.blk CH.out 0 rfl); (case side2 => exact pw_cell_below HB.out HI.out); (case side3 => exact pw_cell_below HB.out HJ.out); (case side4 => exact HCc.out); (case side5 => exact Q0.out); (case side6 => exact Q1.out); (case side7 => exact Q2.out); (case side8 => exact Q3.out); rintro e w' ⟨rfl, ⟨nd991, rfl⟩⟩; have hv := HV.out; have hfz := HFZ.out)
       | ((with_reducible refine gate_store (t := 3) (p := 48) rfl ?_); refine kT (t := 3) (p := 48) ?_; intro w992 hw; have n0_ := k0 (by rw [hw, E0.out]; exact Ch.to (Ch.drewN (HP.out _) _) rfl : Ch w992 [bk gp #[.slice (some ⟨g0, 0, none⟩) x0.length cacp, .slice Abcp x1.length cbcp] 28, rt w.heap.size (Kd.slice 3 (Kd.int .i64)) 23 (Kd.int .i64) 3 lo_cp hi_cp (.slice (some ⟨g0, 0, none⟩) x0.length cacp) (.slice Abcp x1.length cbcp) u0 x1, bk go #[.slice none 0 0, .slice none 0 0] 28, bk gr #[.slice A0_0 l0_0.length c0_0, .slice A0_1 l0_1.length c0_1] 28]); have n1_ := k0 (by rw [hw]; exact below_set (kW HB.out) HB1.out : Below w.heap.size w w992); clear CH HB hw hv hfz HP HV HFZ; have CH := n0_; have HB := n1_; clear n0_ n1_ ; have HLN := k0 (by rw [E0.out, List.length_set] : u0.length = x0.length); clear hz979 hz980 hz981 hz982 hz983 hz984 hz985 hz986 hz987 hz988 hz989 hz990; obtain ⟨hz993, hz994, hz995, hz996⟩ := kz CH.out 0 rfl; obtain ⟨hz997, hz998, hz999, hz1000⟩ := kz CH.out 2 rfl; obtain ⟨hz1001, hz1002, hz1003, hz1004⟩ := kz CH.out 3 rfl)
       | ((with_reducible refine gate_callee (f := 16) rfl ?_); refine goesL_ (some 50) rfl rfl Try.func16 (by kernel_rfl) rfl #[.agg #[.slice (some ⟨g0, 0, none⟩) u0.length cacp, .slice Abcp x1.length cbcp]] rfl (by (try simp only [List.map_toArray, List.map_cons, List.map_nil]); first | done | rfl | (rw [HLN.out] <;> rfl)) ?_; (with_reducible refine (impl_RightsOk.calls k _ _ u0 _ _ x1 true _ ?side1 ?side2 ?side3 ?side4 A7.out).mono ?_); (case side1 => repeat (first | exact Ch.rt_C0 CH.out 1 rfl | (with_reducible refine Kd.C_drewN ?_ _) | (with_reducible refine Kd.C_drew ?_))); (case side2 => exact Ch.rt_l0 CH.out 1 rfl); (case side3 => repeat (first | exact Ch.rt_C1 CH.out 1 rfl | (with_reducible refine Kd.C_drewN ?_ _) | (with_reducible refine Kd.C_drew ?_))); (case side4 => exact Ch.rt_l1 CH.out 1 rfl); rintro e w1005 ⟨rfl, hb⟩; refine ⟨_, rfl, ?_⟩; have n0_ := k0 (Ch.below (kH CH.out) hb : Ch w1005 [bk gp #[.slice (some ⟨g0, 0, none⟩) x0.length cacp, .slice Abcp x1.length cbcp] 28, rt w.heap.size (Kd.slice 3 (Kd.int .i64)) 23 (Kd.int .i64) 3 lo_cp hi_cp (.slice (some ⟨g0, 0, none⟩) x0.length cacp) (.slice Abcp x1.length cbcp) u0 x1, bk go #[.slice none 0 0, .slice none 0 0] 28, bk gr #[.slice A0_0 l0_0.length c0_0, .slice A0_1 l0_1.length c0_1] 28]); have n1_ := k0 (below_step (kW HB.out) hb : Below w.heap.size w w1005); clear CH HB hb; have CH := n0_; have HB := n1_; clear n0_ n1_ ; clear hz993 hz994 hz995 hz996 hz997 hz998 hz999 hz1000 hz1001 hz1002 hz1003 hz1004; obtain ⟨hz1006, hz1007, hz1008, hz1009⟩ := kz CH.out 0 rfl; obtain ⟨hz1010, hz1011, hz1012, hz1013⟩ := kz CH.out 2 rfl; obtain ⟨hz1014, hz1015, hz1016, hz1017⟩ := kz CH.out 3 rfl)
       | ((with_reducible refine gate_store (t := 28) (p := 10) rfl ?_); refine kT (t := 28) (p := 10) ?_; intro w1018 hw; have n0_ := k0 (by rw [hw]; exact Ch.to (Ch.set1 (Ch.set1 (kH CH.out) 2 rfl 0 (.slice (some ⟨g0, 0, none⟩) x0.length cacp) #[.slice (some ⟨g0, 0, none⟩) x0.length cacp, .slice none 0 0] rfl) 2 rfl 1 (.slice Abcp x1.length cbcp) #[.slice (some ⟨g0, 0, none⟩) x0.length cacp, .slice Abcp x1.length cbcp] rfl) rfl : Ch w1018 [bk gp #[.slice (some ⟨g0, 0, none⟩) x0.length cacp, .slice Abcp x1.length cbcp] 28, rt w.heap.size (Kd.slice 3 (Kd.int .i64)) 23 (Kd.int .i64) 3 lo_cp hi_cp (.slice (some ⟨g0, 0, none⟩) x0.length cacp) (.slice Abcp x1.length cbcp) u0 x1, bk go #[.slice (some ⟨g0, 0, none⟩) x0.length cacp, .slice Abcp x1.length cbcp] 28, bk gr #[.slice A0_0 l0_0.length c0_0, .slice A0_1 l0_1.length c0_1] 28]); have n1_ := k0 (by rw [hw]; exact (below_set (below_set (kW HB.out) GE_go.out) GE_go.out) : Below w.heap.size w w1018); clear CH HB hw; have CH := n0_; have HB := n1_; clear n0_ n1_ ; clear hz1006 hz1007 hz1008 hz1009 hz1010 hz1011 hz1012 hz1013 hz1014 hz1015 hz1016 hz1017; obtain ⟨hz1019, hz1020, hz1021, hz1022⟩ := kz CH.out 0 rfl; obtain ⟨hz1023, hz1024, hz1025, hz1026⟩ := kz CH.out 2 rfl; obtain ⟨hz1027, hz1028, hz1029, hz1030⟩ := kz CH.out 3 rfl))
      refine bodyPost_ret (results_ct rfl _ _ go 28 #[.slice (some ⟨g0, 0, none⟩) x0.length cacp, .slice Abcp x1.length cbcp] (0, 0) _ rfl (Ch.blk CH.out 2 rfl) Try.underlying28 rfl (by kernel_rfl)) rfl ?_
      have hF := Ch.get CH.out 1 rfl
      exact ⟨_, _, rfl, Kd.S_mono hF.1 (fun _ hk => hk.2), Kd.R_mono hF.2 (fun _ _ => trivial), HB.out⟩
def impl_Hand.f (k : Nat) (l0_0 : List (List Int)) (l0_1 : List Int) (a1 a2 a3 : Int) : Option (List (List Int) × List Int × Bool) := if a1 = a2 then some (([] : List (List Int)), ([] : List Int), false) else impl_changed_Hand.f k l0_0 l0_1 a1 a2 a3
theorem impl_Hand.mono : ∀ x0 x1 a1 a2 a3 k, LeO (impl_Hand.f k x0 x1 a1 a2 a3) (impl_Hand.f (k + 1) x0 x1 a1 a2 a3) := by
 intro x0 x1 a1 a2 a3 k
 unfold impl_Hand.f
 refine LeO.ite (LeO.refl _) ?_
 exact impl_changed_Hand.mono _ _ _ _ _ _
set_option maxHeartbeats 8000000 in
set_option maxRecDepth 100000 in
theorem impl_Hand.calls (k : Nat) (A0_0 : Option Addr) (c0_0 : Nat) (l0_0 : List (List Int)) (A0_1 : Option Addr) (c0_1 : Nat) (l0_1 : List Int) (a1 : Int) (a2 : Int) (a3 : Int) (r1 : List (List Int)) (r2 : List Int) (r3 : Bool) (w : World) (hr0_0 : Kd.C (Kd.slice 3 (Kd.int .i64)) w A0_0 l0_0.length l0_0) (hc0_0 : l0_0.length ≤ c0_0) (hr0_1 : Kd.C (Kd.int .i64) w A0_1 l0_1.length l0_1) (hc0_1 : l0_1.length ≤ c0_1) (h : impl_Hand.f k l0_0 l0_1 a1 a2 a3 = some (r1, r2, r3)) :
  Calls Try.prog 33 #[.agg #[.slice A0_0 l0_0.length c0_0, .slice A0_1 l0_1.length c0_1], .int .i64 a1, .int .i64 a2, .int .i64 a3] w fun e w' => ∃ v0_ v1_ : Value, e = .returned (.tuple #[.agg #[v0_, v1_], .bool r3]) ∧ Kd.S (Kd.slice 3 (Kd.int .i64)) 23 w' w.heap.size (fun k_ => some k_ ≠ (v1_ : Value).ownBlock) v0_ r1 ∧ Kd.R (Kd.int .i64) 3 w' w.heap.size (fun _ => True) v1_ r2 ∧ Below w.heap.size w w' := by
 have hu28 := Try.underlying28
 have hmf : ∀ (fn : Fn) (first cap : Array Value) (w : World), (Instr.makeFunc fn first cap).run Try.prog w = .ok (.func fn first cap) w := fun _ _ _ _ => rfl
 have HR0_0 := Aside0.mk hr0_0
 have HC0_0 := Aside0.mk hc0_0
 have HR0_1 := Aside0.mk hr0_1
 have HC0_1 := Aside0.mk hc0_1
 clear hr0_0 hc0_0 hr0_1 hc0_1
 have HB := k0 (Below.refl w.heap.size w)
 have CH := k0 (Ch.nil w)
 unfold impl_Hand.f at h
 by_cases e : a1 = a2
 ·rw [if_pos e] at h
  simp only [Option.some.injEq, Prod.mk.injEq] at h
  obtain ⟨rfl, rfl, rfl⟩ := h
  have b1 : (a1 == a2) = true := beq_iff_eq.mpr e
  have b2 : (a1 != a2) = false := bne_eq_false_iff_eq.mpr e
  clear e
  go_enter Try.func33, Try.ntmps33
  go_wp2_with (first
   | ((with_reducible refine gate_dst (N := 4) rfl ?_); refine kE (N := 4) (cs := #[.slice A0_0 l0_0.length c0_0, .slice A0_1 l0_1.length c0_1]) (t := 28) ?_; intro gr hg w1031 hbox hb; have n0_ := k0 (Ch.box (kH CH.out) hg hbox hb : Ch w1031 [bk gr #[.slice A0_0 l0_0.length c0_0, .slice A0_1 l0_1.length c0_1] 28]); have n1_ := k0 (below_step (kW HB.out) hb : Below w.heap.size w w1031); have m0_ := k0 (by rw [hg]; exact HB.out.size : w.heap.size ≤ gr); clear CH HB hb hbox hg; have CH := n0_; have HB := n1_; have GE_gr := m0_; clear n0_ n1_ m0_; obtain ⟨hz1032, hz1033, hz1034, hz1035⟩ := kz CH.out 0 rfl)
   | ((with_reducible refine gate_dst (N := 5) rfl ?_); refine kE (N := 5) (cs := #[.int .i64 a1]) (t := 3) ?_; intro gi hg w1036 hbox hb; have n0_ := k0 (Ch.box (kH CH.out) hg hbox hb : Ch w1036 [bk gi #[.int .i64 a1] 3, bk gr #[.slice A0_0 l0_0.length c0_0, .slice A0_1 l0_1.length c0_1] 28]); have n1_ := k0 (below_step (kW HB.out) hb : Below w.heap.size w w1036); have m0_ := k0 (by rw [hg]; exact HB.out.size : w.heap.size ≤ gi); clear CH HB hb hbox hg; have CH := n0_; have HB := n1_; have GE_gi := m0_; clear n0_ n1_ m0_; clear hz1032 hz1033 hz1034 hz1035; have hz1037 : w1036.cell? ⟨gi, 0, none⟩ = some (.int .i64 a1) := (blk_cell (Ch.blk CH.out 0 rfl) 0).trans rfl; have hz1038 := blk_frozen (Ch.blk CH.out 0 rfl) 0; obtain ⟨hz1039, hz1040, hz1041, hz1042⟩ := kz CH.out 1 rfl)
   | ((with_reducible refine gate_dst (N := 6) rfl ?_); refine kE (N := 6) (cs := #[.int .i64 a2]) (t := 3) ?_; intro gj hg w1043 hbox hb; have n0_ := k0 (Ch.box (kH CH.out) hg hbox hb : Ch w1043 [bk gj #[.int .i64 a2] 3, bk gi #[.int .i64 a1] 3, bk gr #[.slice A0_0 l0_0.length c0_0, .slice A0_1 l0_1.length c0_1] 28]); have n1_ := k0 (below_step (kW HB.out) hb : Below w.heap.size w w1043); have m0_ := k0 (by rw [hg]; exact HB.out.size : w.heap.size ≤ gj); clear CH HB hb hbox hg; have CH := n0_; have HB := n1_; have GE_gj := m0_; clear n0_ n1_ m0_; clear hz1037 hz1038 hz1039 hz1040 hz1041 hz1042; have hz1044 : w1043.cell? ⟨gj, 0, none⟩ = some (.int .i64 a2) := (blk_cell (Ch.blk CH.out 0 rfl) 0).trans rfl; have hz1045 := blk_frozen (Ch.blk CH.out 0 rfl) 0; have hz1046 : w1043.cell? ⟨gi, 0, none⟩ = some (.int .i64 a1) := (blk_cell (Ch.blk CH.out 1 rfl) 0).trans rfl; have hz1047 := blk_frozen (Ch.blk CH.out 1 rfl) 0; obtain ⟨hz1048, hz1049, hz1050, hz1051⟩ := kz CH.out 2 rfl)
   | ((with_reducible refine gate_dst (N := 8) rfl ?_); refine kE (N := 8) (cs := #[.slice none 0 0, .slice none 0 0]) (t := 28) ?_; intro go hg w1052 hbox hb; have n0_ := k0 (Ch.box (kH CH.out) hg hbox hb : Ch w1052 [bk go #[.slice none 0 0, .slice none 0 0] 28, bk gj #[.int .i64 a2] 3, bk gi #[.int .i64 a1] 3, bk gr #[.slice A0_0 l0_0.length c0_0, .slice A0_1 l0_1.length c0_1] 28]); have n1_ := k0 (below_step (kW HB.out) hb : Below w.heap.size w w1052); have m0_ := k0 (by rw [hg]; exact HB.out.size : w.heap.size ≤ go); clear CH HB hb hbox hg; have CH := n0_; have HB := n1_; have GE_go := m0_; clear n0_ n1_ m0_; clear hz1044 hz1045 hz1046 hz1047 hz1048 hz1049 hz1050 hz1051; obtain ⟨hz1053, hz1054, hz1055, hz1056⟩ := kz CH.out 0 rfl; have hz1057 : w1052.cell? ⟨gj, 0, none⟩ = some (.int .i64 a2) := (blk_cell (Ch.blk CH.out 1 rfl) 0).trans rfl; have hz1058 := blk_frozen (Ch.blk CH.out 1 rfl) 0; have hz1059 : w1052.cell? ⟨gi, 0, none⟩ = some (.int .i64 a1) := (blk_cell (Ch.blk CH.out 2 rfl) 0).trans rfl; have hz1060 := blk_frozen (Ch.blk CH.out 2 rfl) 0; obtain ⟨hz1061, hz1062, hz1063, hz1064⟩ := kz CH.out 3 rfl)
   | ((with_reducible refine gate_store (t := 28) (p := 8) rfl ?_); refine kT (t := 28) (p := 8) ?_; intro w1065 hw; have n0_ := k0 (by rw [hw]; exact Ch.to (Ch.set1 (Ch.set1 (kH CH.out) 0 rfl 0 (.slice none 0 0) #[.slice none 0 0, .slice none 0 0] rfl) 0 rfl 1 (.slice none 0 0) #[.slice none 0 0, .slice none 0 0] rfl) rfl : Ch w1065 [bk go #[.slice none 0 0, .slice none 0 0] 28, bk gj #[.int .i64 a2] 3, bk gi #[.int .i64 a1] 3, bk gr #[.slice A0_0 l0_0.length c0_0, .slice A0_1 l0_1.length c0_1] 28]); have n1_ := k0 (by rw [hw]; exact (below_set (below_set (kW HB.out) GE_go.out) GE_go.out) : Below w.heap.size w w1065); clear CH HB hw; have CH := n0_; have HB := n1_; clear n0_ n1_ ; clear hz1053 hz1054 hz1055 hz1056 hz1057 hz1058 hz1059 hz1060 hz1061 hz1062 hz1063 hz1064; obtain ⟨hz1066, hz1067, hz1068, hz1069⟩ := kz CH.out 0 rfl; have hz1070 : w1065.cell? ⟨gj, 0, none⟩ = some (.int .i64 a2) := (blk_cell (Ch.blk CH.out 1 rfl) 0).trans rfl; have hz1071 := blk_frozen (Ch.blk CH.out 1 rfl) 0; have hz1072 : w1065.cell? ⟨gi, 0, none⟩ = some (.int .i64 a1) := (blk_cell (Ch.blk CH.out 2 rfl) 0).trans rfl; have hz1073 := blk_frozen (Ch.blk CH.out 2 rfl) 0; obtain ⟨hz1074, hz1075, hz1076, hz1077⟩ := kz CH.out 3 rfl))
  refine bodyPost_ret (results_ct rfl _ _ go 28 #[.slice none 0 0, .slice none 0 0] (0, 0) _ rfl (Ch.blk CH.out 0 rfl) Try.underlying28 rfl (by kernel_rfl)) rfl ?_
  exact ⟨_, _, rfl, Kd.S_nil _ _ _ _ _, Kd.R_nil _ _ _ _ _, HB.out⟩
 ·rw [if_neg e] at h
  have b1 : (a1 == a2) = false := beq_eq_false_iff_ne.mpr e
  have b2 : (a1 != a2) = true := bne_iff_ne.mpr e
  have H := Aside0.mk h
  clear e h
  go_enter Try.func33, Try.ntmps33
  go_wp2_with (first
   | ((with_reducible refine gate_dst (N := 4) rfl ?_); refine kE (N := 4) (cs := #[.slice A0_0 l0_0.length c0_0, .slice A0_1 l0_1.length c0_1]) (t := 28) ?_; intro gr hg w1078 hbox hb; have n0_ := k0 (Ch.box (kH CH.out) hg hbox hb : Ch w1078 [bk gr #[.slice A0_0 l0_0.length c0_0, .slice A0_1 l0_1.length c0_1] 28]); have n1_ := k0 (below_step (kW HB.out) hb : Below w.heap.size w w1078); have m0_ := k0 (by rw [hg]; exact HB.out.size : w.heap.size ≤ gr); clear CH HB hb hbox hg; have CH := n0_; have HB := n1_; have GE_gr := m0_; clear n0_ n1_ m0_; obtain ⟨hz1079, hz1080, hz1081, hz1082⟩ := kz CH.out 0 rfl)
   | ((with_reducible refine gate_dst (N := 5) rfl ?_); refine kE (N := 5) (cs := #[.int .i64 a1]) (t := 3) ?_; intro gi hg w1083 hbox hb; have n0_ := k0 (Ch.box (kH CH.out) hg hbox hb : Ch w1083 [bk gi #[.int .i64 a1] 3, bk gr #[.slice A0_0 l0_0.length c0_0, .slice A0_1 l0_1.length c0_1] 28]); have n1_ := k0 (below_step (kW HB.out) hb : Below w.heap.size w w1083); have m0_ := k0 (by rw [hg]; exact HB.out.size : w.heap.size ≤ gi); clear CH HB hb hbox hg; have CH := n0_; have HB := n1_; have GE_gi := m0_; clear n0_ n1_ m0_; clear hz1079 hz1080 hz1081 hz1082; have hz1084 : w1083.cell? ⟨gi, 0, none⟩ = some (.int .i64 a1) := (blk_cell (Ch.blk CH.out 0 rfl) 0).trans rfl; have hz1085 := blk_frozen (Ch.blk CH.out 0 rfl) 0; obtain ⟨hz1086, hz1087, hz1088, hz1089⟩ := kz CH.out 1 rfl)
   | ((with_reducible refine gate_dst (N := 6) rfl ?_); refine kE (N := 6) (cs := #[.int .i64 a2]) (t := 3) ?_; intro gj hg w1090 hbox hb; have n0_ := k0 (Ch.box (kH CH.out) hg hbox hb : Ch w1090 [bk gj #[.int .i64 a2] 3, bk gi #[.int .i64 a1] 3, bk gr #[.slice A0_0 l0_0.length c0_0, .slice A0_1 l0_1.length c0_1] 28]); have n1_ := k0 (below_step (kW HB.out) hb : Below w.heap.size w w1090); have m0_ := k0 (by rw [hg]; exact HB.out.size : w.heap.size ≤ gj); clear CH HB hb hbox hg; have CH := n0_; have HB := n1_; have GE_gj := m0_; clear n0_ n1_ m0_; clear hz1084 hz1085 hz1086 hz1087 hz1088 hz1089; have hz1091 : w1090.cell? ⟨gj, 0, none⟩ = some (.int .i64 a2) := (blk_cell (Ch.blk CH.out 0 rfl) 0).trans rfl; have hz1092 := blk_frozen (Ch.blk CH.out 0 rfl) 0; have hz1093 : w1090.cell? ⟨gi, 0, none⟩ = some (.int .i64 a1) := (blk_cell (Ch.blk CH.out 1 rfl) 0).trans rfl; have hz1094 := blk_frozen (Ch.blk CH.out 1 rfl) 0; obtain ⟨hz1095, hz1096, hz1097, hz1098⟩ := kz CH.out 2 rfl)
   | ((with_reducible refine gate_dst (N := 8) rfl ?_); refine kE (N := 8) (cs := #[.slice none 0 0, .slice none 0 0]) (t := 28) ?_; intro go hg w1099 hbox hb; have n0_ := k0 (Ch.box (kH CH.out) hg hbox hb : Ch w1099 [bk go #[.slice none 0 0, .slice none 0 0] 28, bk gj #[.int .i64 a2] 3, bk gi #[.int .i64 a1] 3, bk gr #[.slice A0_0 l0_0.length c0_0, .slice A0_1 l0_1.length c0_1] 28]); have n1_ := k0 (below_step (kW HB.out) hb : Below w.heap.size w w1099); have m0_ := k0 (by rw [hg]; exact HB.out.size : w.heap.size ≤ go); clear CH HB hb hbox hg; have CH := n0_; have HB := n1_; have GE_go := m0_; clear n0_ n1_ m0_; clear hz1091 hz1092 hz1093 hz1094 hz1095 hz1096 hz1097 hz1098; obtain ⟨hz1100, hz1101, hz1102, hz1103⟩ := kz CH.out 0 rfl; have hz1104 : w1099.cell? ⟨gj, 0, none⟩ = some (.int .i64 a2) := (blk_cell (Ch.blk CH.out 1 rfl) 0).trans rfl; have hz1105 := blk_frozen (Ch.blk CH.out 1 rfl) 0; have hz1106 : w1099.cell? ⟨gi, 0, none⟩ = some (.int .i64 a1) := (blk_cell (Ch.blk CH.out 2 rfl) 0).trans rfl; have hz1107 := blk_frozen (Ch.blk CH.out 2 rfl) 0; obtain ⟨hz1108, hz1109, hz1110, hz1111⟩ := kz CH.out 3 rfl)
   | ((with_reducible refine gate_callee (f := 59) rfl ?_); refine kG (some 19) Try.func59 #[.agg #[.slice A0_0 l0_0.length c0_0, .slice A0_1 l0_1.length c0_1], .int .i64 a1, .int .i64 a2, .int .i64 a3, .func (.func 62) #[] #[.pointer (some ⟨gi, 0, none⟩), .pointer (some ⟨gj, 0, none⟩)]] ?_; (with_reducible refine (impl_changed_Hand.calls k _ _ l0_0 _ _ l0_1 a1 a2 a3 gi gj r1 r2 r3 _ ?side1 ?side2 ?side3 ?side4 ?side5 ?side6 H.out).mono ?_); (case side1 => repeat (first | exact (Kd.C_below HR0_0.out (kW HB.out)) | (with_reducible refine Kd.C_drewN ?_ _) | (with_reducible refine Kd.C_drew ?_))); (case side2 => exact HC0_0.out); (case side3 => repeat (first | exact (Kd.C_below HR0_1.out (kW HB.out)) | (with_reducible refine Kd.C_drewN ?_ _) | (with_reducible refine Kd.C_drew ?_))); (case side4 => exact HC0_1.out); (case side5 => exact (blk_cell (Ch.blk CH.out 2 rfl) 0).trans rfl); (case side6 => exact (blk_cell (Ch.blk CH.out 1 rfl) 0).trans rfl); rintro e w1112 ⟨v0_, v1_, rfl, h0_, h1_, hb⟩; refine ⟨_, rfl, ?_⟩; obtain ⟨Aacr, cacr, e0_⟩ := Kd.S_slice h0_; subst e0_; obtain ⟨Abcr, cbcr, e1_⟩ := Kd.R_slice h1_; subst e1_; obtain ⟨lo_cr, hlo_⟩ : ∃ z_ : Nat, z_ = (w1099).heap.size := ⟨_, rfl⟩; obtain ⟨hi_cr, hhi_⟩ : ∃ z_ : Nat, z_ = (w1112).heap.size := ⟨_, rfl⟩; have n0_ := k0 (by rw [hlo_, hhi_]; exact Ch.to (Ch.madeT (kH CH.out) (by exact HB.out.size) h0_ (fun _ hk => hk) h1_ hb) rfl : Ch w1112 [rt w.heap.size (Kd.slice 3 (Kd.int .i64)) 23 (Kd.int .i64) 3 lo_cr hi_cr (.slice Aacr r1.length cacr) (.slice Abcr r2.length cbcr) r1 r2, bk go #[.slice none 0 0, .slice none 0 0] 28, bk gj #[.int .i64 a2] 3, bk gi #[.int .i64 a1] 3, bk gr #[.slice A0_0 l0_0.length c0_0, .slice A0_1 l0_1.length c0_1] 28]); have n1_ := k0 (below_step (kW HB.out) hb : Below w.heap.size w w1112); clear CH HB hb h0_ h1_ hlo_ hhi_; have CH := n0_; have HB := n1_; clear n0_ n1_ ; clear hz1100 hz1101 hz1102 hz1103 hz1104 hz1105 hz1106 hz1107 hz1108 hz1109 hz1110 hz1111; obtain ⟨hz1113, hz1114, hz1115, hz1116⟩ := kz CH.out 1 rfl; have hz1117 : w1112.cell? ⟨gj, 0, none⟩ = some (.int .i64 a2) := (blk_cell (Ch.blk CH.out 2 rfl) 0).trans rfl; have hz1118 := blk_frozen (Ch.blk CH.out 2 rfl) 0; have hz1119 : w1112.cell? ⟨gi, 0, none⟩ = some (.int .i64 a1) := (blk_cell (Ch.blk CH.out 3 rfl) 0).trans rfl; have hz1120 := blk_frozen (Ch.blk CH.out 3 rfl) 0; obtain ⟨hz1121, hz1122, hz1123, hz1124⟩ := kz CH.out 4 rfl)
   | ((with_reducible refine gate_store (t := 28) (p := 8) rfl ?_); refine kT (t := 28) (p := 8) ?_; intro w1125 hw; have n0_ := k0 (by rw [hw]; exact Ch.to (Ch.set1 (Ch.set1 (kH CH.out) 1 rfl 0 (.slice Aacr r1.length cacr) #[.slice Aacr r1.length cacr, .slice none 0 0] rfl) 1 rfl 1 (.slice Abcr r2.length cbcr) #[.slice Aacr r1.length cacr, .slice Abcr r2.length cbcr] rfl) rfl : Ch w1125 [rt w.heap.size (Kd.slice 3 (Kd.int .i64)) 23 (Kd.int .i64) 3 lo_cr hi_cr (.slice Aacr r1.length cacr) (.slice Abcr r2.length cbcr) r1 r2, bk go #[.slice Aacr r1.length cacr, .slice Abcr r2.length cbcr] 28, bk gj #[.int .i64 a2] 3, bk gi #[.int .i64 a1] 3, bk gr #[.slice A0_0 l0_0.length c0_0, .slice A0_1 l0_1.length c0_1] 28]); have n1_ := k0 (by rw [hw]; exact (below_set (below_set (kW HB.out) GE_go.out) GE_go.out) : Below w.heap.size w w1125); clear CH HB hw; have CH := n0_; have HB := n1_; clear n0_ n1_ ; clear hz1113 hz1114 hz1115 hz1116 hz1117 hz1118 hz1119 hz1120 hz1121 hz1122 hz1123 hz1124; obtain ⟨hz1126, hz1127, hz1128, hz1129⟩ := kz CH.out 1 rfl; have hz1130 : w1125.cell? ⟨gj, 0, none⟩ = some (.int .i64 a2) := (blk_cell (Ch.blk CH.out 2 rfl) 0).trans rfl; have hz1131 := blk_frozen (Ch.blk CH.out 2 rfl) 0; have hz1132 : w1125.cell? ⟨gi, 0, none⟩ = some (.int .i64 a1) := (blk_cell (Ch.blk CH.out 3 rfl) 0).trans rfl; have hz1133 := blk_frozen (Ch.blk CH.out 3 rfl) 0; obtain ⟨hz1134, hz1135, hz1136, hz1137⟩ := kz CH.out 4 rfl))
  refine bodyPost_ret (results_ct rfl _ _ go 28 #[.slice Aacr r1.length cacr, .slice Abcr r2.length cbcr] (0, 0) _ rfl (Ch.blk CH.out 1 rfl) Try.underlying28 rfl (by kernel_rfl)) rfl ?_
  have hF := Ch.get CH.out 0 rfl
  exact ⟨_, _, rfl, Kd.S_mono hF.1 (fun _ hk => hk.2), Kd.R_mono hF.2 (fun _ _ => trivial), HB.out⟩

end

/-- A state of type 65 at block g of W; what its slices lead to came in by w0. -/
def IsS65 (w0 W : World) (g : Nat) (f0 : List Int) (f1 : Int) (f2 : Int) : Prop := ∃ A0 c0, W.heap[g]? = some (.cells #[.slice A0 f0.length c0, .int .i64 f1, .int .i64 f2] 65 (0, 0)) ∧ w0.heap.size ≤ g ∧ Kd.C (Kd.int .u8) w0 A0 f0.length f0 ∧ f0.length ≤ c0
theorem IsS65.grown {w0 W : World} {g : Nat} {f0 : List Int} {f1 : Int} {f2 : Int} {W1 : World} {row : Option Nat} (h : IsS65 w0 W g f0 f1 f2) (hw : W.grownBy W1 row) (hne : some g ≠ row) : IsS65 w0 W1 g f0 f1 f2 := by
 obtain ⟨A0, c0, hb, hg, hr0, hl0⟩ := h
 exact ⟨A0, c0, blk_grown hb hw hne, hg, hr0, hl0⟩
theorem IsS65.own_neN {w0 W : World} {g : Nat} {f0 : List Int} {f1 : Int} {f2 : Int} {α : Type} {d : Kd α} {e : Nat} {base : Nat} {ok : Nat → Prop} {v : Value} {xs : List α} (h : IsS65 w0 W g f0 f1 f2) (ho : Kd.N d e W base ok v xs) (ht : e ≠ 65) : some g ≠ v.ownBlock := by
 obtain ⟨A0, c0, hb, hg, hr0, hl0⟩ := h
 exact Kd.N_ne ho hb ht
theorem IsS65.fresh {w0 W : World} {g : Nat} {f0 : List Int} {f1 : Int} {f2 : Int} (h : IsS65 w0 W g f0 f1 f2) : ∀ k, W.heap.size ≤ k → k ≠ g := by
 obtain ⟨A0, c0, hb, hg, hr0, hl0⟩ := h
 exact Kd.freshB hb
theorem IsS65.kept {w0 W : World} {g : Nat} {f0 : List Int} {f1 : Int} {f2 : Int} {W1 : World} {S : Nat → Prop} (h : IsS65 w0 W g f0 f1 f2) (hk : Kept W W1 S) (hne : ¬ S g) : IsS65 w0 W1 g f0 f1 f2 := by
 obtain ⟨A0, c0, hb, hg, hr0, hl0⟩ := h
 exact ⟨A0, c0, blk_kept hb hk hne, hg, hr0, hl0⟩
theorem IsS65.below {w0 W : World} {g : Nat} {f0 : List Int} {f1 : Int} {f2 : Int} {W1 : World} (h : IsS65 w0 W g f0 f1 f2) (hw : Below W.heap.size W W1) : IsS65 w0 W1 g f0 f1 f2 := h.grown (grown_of_below hw none) (by simp)
theorem IsS65.alloc {w0 W : World} {g : Nat} {f0 : List Int} {f1 : Int} {f2 : Int} (h : IsS65 w0 W g f0 f1 f2) (o : Obj) : IsS65 w0 (W.alloc o) g f0 f1 f2 := h.below (below_alloc (Below.refl _ _) o)
theorem IsS65.drewN {w0 W : World} {g : Nat} {f0 : List Int} {f1 : Int} {f2 : Int} (h : IsS65 w0 W g f0 f1 f2) (m : Nat) : IsS65 w0 (W.drewN m) g f0 f1 f2 := h
theorem IsS65.drew {w0 W : World} {g : Nat} {f0 : List Int} {f1 : Int} {f2 : Int} (h : IsS65 w0 W g f0 f1 f2) : IsS65 w0 W.drew g f0 f1 f2 := h
theorem IsS65.at_ {w0 W : World} {g : Nat} {f0 : List Int} {f1 : Int} {f2 : Int} {w' : World} {m : Nat} (hq : W.drewN m = w') (h : IsS65 w0 W g f0 f1 f2) : IsS65 w0 w' g f0 f1 f2 := by subst hq; exact IsS65.drewN h m
theorem IsS65.apart {w0 W : World} {g : Nat} {f0 : List Int} {f1 : Int} {f2 : Int} {α : Type} {d : Kd α} {e : Nat} {base : Nat} {ok : Nat → Prop} {v : Value} {xs : List α} (h : IsS65 w0 W g f0 f1 f2) (ho : d.R e W base ok v xs) (ht : ∀ q, q ∈ e :: d.E → q ≠ 65) : d.R e W base (fun k => ok k ∧ k ≠ g) v xs := by
 obtain ⟨A0, c0, hb, hg, hr0, hl0⟩ := h
 exact Kd.R_types ho hb ht
theorem IsS65.own_ne {w0 W : World} {g : Nat} {f0 : List Int} {f1 : Int} {f2 : Int} {α : Type} {d : Kd α} {e : Nat} {base : Nat} {ok : Nat → Prop} {v : Value} {xs : List α} (h : IsS65 w0 W g f0 f1 f2) (ho : d.R e W base ok v xs) (ht : e ≠ 65) : some g ≠ v.ownBlock := by
 obtain ⟨A0, c0, hb, hg, hr0, hl0⟩ := h
 exact Kd.R_ne ho hb ht
theorem IsS65.apartQ {w0 W : World} {g : Nat} {f0 : List Int} {f1 : Int} {f2 : Int} {α : Type} {d : Kd α} {e : Nat} {base : Nat} {ok : Nat → Prop} {v : Value} {xs : List α} (h : IsS65 w0 W g f0 f1 f2) (ho : d.Q e W base ok v xs) (ht : ∀ q, q ∈ e :: d.E → q ≠ 65) : d.Q e W base (fun k => ok k ∧ k ≠ g) v xs := by
 obtain ⟨A0, c0, hb, hg, hr0, hl0⟩ := h
 exact Kd.Q_types ho hb ht
theorem IsS65.own_neQ {w0 W : World} {g : Nat} {f0 : List Int} {f1 : Int} {f2 : Int} {α : Type} {d : Kd α} {e : Nat} {base : Nat} {ok : Nat → Prop} {v : Value} {xs : List α} (h : IsS65 w0 W g f0 f1 f2) (ho : d.Q e W base ok v xs) (ht : e ≠ 65) : some g ≠ v.ownBlock := by
 obtain ⟨A0, c0, hb, hg, hr0, hl0⟩ := h
 exact Kd.Q_ne ho hb ht
theorem IsS65.apartS {w0 W : World} {g : Nat} {f0 : List Int} {f1 : Int} {f2 : Int} {α : Type} {d : Kd α} {e : Nat} {base : Nat} {ok : Nat → Prop} {v : Value} {xs : List α} (h : IsS65 w0 W g f0 f1 f2) (ho : d.S e W base ok v xs) (ht : ∀ q, q ∈ e :: d.E → q ≠ 65) : d.S e W base (fun k => ok k ∧ k ≠ g) v xs := by
 obtain ⟨A0, c0, hb, hg, hr0, hl0⟩ := h
 exact Kd.S_types ho hb ht
theorem IsS65.own_neS {w0 W : World} {g : Nat} {f0 : List Int} {f1 : Int} {f2 : Int} {α : Type} {d : Kd α} {e : Nat} {base : Nat} {ok : Nat → Prop} {v : Value} {xs : List α} (h : IsS65 w0 W g f0 f1 f2) (ho : d.S e W base ok v xs) (ht : e ≠ 65) : some g ≠ v.ownBlock := by
 obtain ⟨A0, c0, hb, hg, hr0, hl0⟩ := h
 exact Kd.S_ne ho hb ht
theorem IsS65.lt {w0 W : World} {g : Nat} {f0 : List Int} {f1 : Int} {f2 : Int} (h : IsS65 w0 W g f0 f1 f2) : g < W.heap.size := by
 obtain ⟨A0, c0, hb, hg, hr0, hl0⟩ := h
 exact blk_lt hb
theorem IsS65.ge {w0 W : World} {g : Nat} {f0 : List Int} {f1 : Int} {f2 : Int} (h : IsS65 w0 W g f0 f1 f2) : w0.heap.size ≤ g := by
 obtain ⟨A0, c0, hb, hg, hr0, hl0⟩ := h
 exact hg
theorem IsS65.ne_blk {w0 W : World} {g : Nat} {f0 : List Int} {f1 : Int} {f2 : Int} {a : Nat} {cs : Array Value} {t : TypeId} {fr : Nat × Nat} (h : IsS65 w0 W g f0 f1 f2) (hb2 : W.heap[a]? = some (.cells cs t fr)) (ht : t ≠ 65) : g ≠ a := by
 obtain ⟨A0, c0, hb, hg, hr0, hl0⟩ := h
 rintro rfl
 rw [hb] at hb2
 injection hb2 with hb2
 injection hb2 with _ ht2
 exact ht ht2.symm
theorem IsS65.far {w0 W : World} {g : Nat} {f0 : List Int} {f1 : Int} {f2 : Int} {p : Addr} (h : IsS65 w0 W g f0 f1 f2) (hne : g ≠ p.block) (u : Value) : IsS65 w0 (W.setCell p u) g f0 f1 f2 := by
 obtain ⟨A0, c0, hb, hg, hr0, hl0⟩ := h
 exact ⟨A0, c0, blk_far hb hne u, hg, hr0, hl0⟩
theorem IsS65.farB {w0 W : World} {g : Nat} {f0 : List Int} {f1 : Int} {f2 : Int} {a j : Nat} {u : Value} (hne : g ≠ a) (h : IsS65 w0 W g f0 f1 f2) : IsS65 w0 (W.setCell ⟨a, j, none⟩ u) g f0 f1 f2 := IsS65.far (p := ⟨a, j, none⟩) h hne u
theorem cellS65_0 {W : World} {g : Nat} {A0 : Option Addr} {c0 : Nat} {f0 : List Int} {f1 : Int} {f2 : Int} (h : W.heap[g]? = some (.cells #[.slice A0 f0.length c0, .int .i64 f1, .int .i64 f2] 65 (0, 0))) : W.cell? ⟨g, 0, none⟩ = some (.slice A0 f0.length c0) := (blk_cell h 0).trans rfl
theorem cellS65_1 {W : World} {g : Nat} {A0 : Option Addr} {c0 : Nat} {f0 : List Int} {f1 : Int} {f2 : Int} (h : W.heap[g]? = some (.cells #[.slice A0 f0.length c0, .int .i64 f1, .int .i64 f2] 65 (0, 0))) : W.cell? ⟨g, 1, none⟩ = some (.int .i64 f1) := (blk_cell h 1).trans rfl
theorem IsS65.set_1 {w0 W : World} {g : Nat} {f0 : List Int} {f1 : Int} {f2 : Int} (h : IsS65 w0 W g f0 f1 f2) (x : Int) : IsS65 w0 (W.setCell ⟨g, 1, none⟩ (.int .i64 x)) g f0 x f2 := by
 obtain ⟨A0, c0, hb, hg, hr0, hl0⟩ := h
 exact ⟨A0, c0, by simpa using blk_set hb 1 (.int .i64 x), hg, hr0, hl0⟩
theorem cellS65_2 {W : World} {g : Nat} {A0 : Option Addr} {c0 : Nat} {f0 : List Int} {f1 : Int} {f2 : Int} (h : W.heap[g]? = some (.cells #[.slice A0 f0.length c0, .int .i64 f1, .int .i64 f2] 65 (0, 0))) : W.cell? ⟨g, 2, none⟩ = some (.int .i64 f2) := (blk_cell h 2).trans rfl
theorem IsS65.set_2 {w0 W : World} {g : Nat} {f0 : List Int} {f1 : Int} {f2 : Int} (h : IsS65 w0 W g f0 f1 f2) (x : Int) : IsS65 w0 (W.setCell ⟨g, 2, none⟩ (.int .i64 x)) g f0 f1 x := by
 obtain ⟨A0, c0, hb, hg, hr0, hl0⟩ := h
 exact ⟨A0, c0, by simpa using blk_set hb 2 (.int .i64 x), hg, hr0, hl0⟩
theorem IsS65.new (w0 W : World) (A0 : Option Addr) (c0 : Nat) (f0 : List Int) (f1 : Int) (f2 : Int) (hB : Below w0.heap.size w0 W) (hr0 : Kd.C (Kd.int .u8) w0 A0 f0.length f0) (hl0 : f0.length ≤ c0) : IsS65 w0 (W.alloc (.cells #[.slice A0 f0.length c0, .int .i64 f1, .int .i64 f2] 65)) W.heap.size f0 f1 f2 := ⟨A0, c0, by simpa using heap_alloc_new W _, hB.size, hr0, hl0⟩

/-! ### spec_l01New: function 63 -/
def spec_l01New.l0 : Nat → List Int → Int → Int → Option (List Int × Int × Int)
 | 0, _, _, _ => none
 | k + 1, x0, x3, x4 => if x4 < (x0.length : Int) then (if x4 < 4000 then (if 0 ≤ x4 then (spec_l01New.l0 k x0 (Go.bits .and .i64 (wrap64 ((wrap64 ((wrap64 (x3 * 47)) + (wrap64 (rd x0 x4)))) + 7)) 1073741823) (wrap64 (x4 + 1))) else (none)) else (some (x0, 0, x3))) else (some (x0, 0, x3))
def spec_l01New.f (k : Nat) (l0 : List Int) : Option (List Int × Int × Int) := spec_l01New.l0 k l0 (wrap64 (1626 + (l0.length : Int))) 0
theorem spec_l01New.mono_l : ∀ k, (∀ y0 y1 y2, LeO (spec_l01New.l0 k y0 y1 y2) (spec_l01New.l0 (k + 1) y0 y1 y2))
 | 0 => fun _ _ _ r h => by simp [spec_l01New.l0] at h
 | k + 1 => by
  have ih0 := spec_l01New.mono_l k
  ·intro y0 y1 y2
   unfold spec_l01New.l0
   repeat' first
   | (with_reducible exact ih0 _ _ _)
   | (with_reducible exact LeO.refl _)
   | (with_reducible exact LeO.none _)
   | (with_reducible refine LeO.ite ?_ ?_)
   | (with_reducible refine LeO.bind ?_ (fun _ => ?_))
   | exact ih0 _ _ _
   | exact LeO.none _
   | refine LeO.ite ?_ ?_
   | refine LeO.bind ?_ (fun _ => ?_)
theorem spec_l01New.mono : ∀ a0 k, LeO (spec_l01New.f k a0) (spec_l01New.f (k + 1) a0) := by
 intro a0 k
 have ih0 := spec_l01New.mono_l k
 unfold spec_l01New.f
 repeat' first
   | (with_reducible exact ih0 _ _ _)
   | (with_reducible exact LeO.refl _)
   | (with_reducible exact LeO.none _)
   | (with_reducible refine LeO.ite ?_ ?_)
   | (with_reducible refine LeO.bind ?_ (fun _ => ?_))
   | exact ih0 _ _ _
   | exact LeO.none _
   | refine LeO.ite ?_ ?_
   | refine LeO.bind ?_ (fun _ => ?_)
set_option maxHeartbeats 8000000 in
set_option maxRecDepth 100000 in
theorem spec_l01New.calls (k : Nat) (A0 : Option Addr) (c0 : Nat) (l0 : List Int) (r1 : List Int) (r2 : Int) (r3 : Int) (w0 w : World) (hB : Below w0.heap.size w0 w) (hr0 : Kd.C (Kd.int .u8) w0 A0 l0.length l0) (hc0 : l0.length ≤ c0) (h : spec_l01New.f k l0 = some (r1, r2, r3)) :
  Calls Try.prog 63 #[.slice A0 l0.length c0] w fun e w' => ∃ g_ : Nat, e = .returned (.pointer (some ⟨g_, 0, none⟩)) ∧ IsS65 w0 w' g_ r1 r2 r3 ∧ Below w0.heap.size w0 w' ∧ Below w.heap.size w w' := by
 have hu65 := Try.underlying65
 have HR0 := Aside0.mk hr0
 have HC0 := Aside0.mk hc0
 clear hr0 hc0
 have HBW := k0 (Below.refl w.heap.size w)
 have HW0 := Aside0.mk hB.size
 have HB := Aside0.mk hB
 clear hB
 have H : (spec_l01New.l0 k l0 (wrap64 (1626 + (l0.length : Int))) 0) = some (r1, r2, r3) := h
 clear h
 have H' := Aside0.mk H
 clear H
 go_enter Try.func63, Try.ntmps63
 go_wp2
 go_loopg [3, 4] k (fun kq v3 v4 w' => ∃ (x3_1 : Int) (x4_1 : Int), v3 = .int .i64 x3_1 ∧ v4 = .int .i64 x4_1 ∧ Aside0 (spec_l01New.l0 kq l0 x3_1 x4_1 = some (r1, r2, r3)) ∧ Aside0 (kq ≤ k) ∧ Aside0 (Below w0.heap.size w0 w') ∧ Aside0 (Below w.heap.size w w'))
 case atStart => exact ⟨(wrap64 (1626 + (l0.length : Int))), (0), (by first | rfl | (simp; done) | (simp [*]; done)), (by first | rfl | (simp; done) | (simp [*]; done)), H', ⟨Nat.le_refl _⟩, ⟨by repeat (first | (with_reducible first | exact HB.out | apply below_alloc | apply pw_below_drewN | apply below_drew1) | exact HB.out)⟩, ⟨by repeat (first | (with_reducible first | exact HBW.out | apply below_alloc | apply pw_below_drewN | apply below_drew1) | exact HBW.out)⟩⟩
 case round =>
  clear H'
  obtain ⟨x3_1, x4_1, rfl, rfl, HA, HK1, HB, HBW⟩ := hrel
  cases gk with
  | zero => exact absurd HA.out (by simp [spec_l01New.l0])
  | succ k1 =>
   have H := HA.out
   clear HA
   simp only [spec_l01New.l0] at H
   by_cases c2 : x4_1 < (l0.length : Int)
   ·rw [if_pos c2] at H
    have c2b0 : decide (x4_1 < (l0.length : Int)) = true := decide_eq_true c2
    clear c2
    by_cases c3 : x4_1 < 4000
    ·rw [if_pos c3] at H
     have c3b0 : decide (x4_1 < 4000) = true := decide_eq_true c3
     clear c3
     by_cases c4 : 0 ≤ x4_1
     ·rw [if_pos c4] at H
      have c4b0 : decide (0 ≤ x4_1) = true := decide_eq_true c4
      clear c4
      have H' := Aside0.mk H
      clear H
      have p153 : 0 ≤ (x4_1 : Int) := kD
      have q153 : x4_1 < (l0.length : Int) := kD
      obtain ⟨ad153, e153, hx153_0⟩ := Kd.at_int HR0.out x4_1 p153 q153
      cases e153
      replace hx153_0 := pw_cell_below HB.out hx153_0
      replace p153 := eq_true p153
      replace q153 := eq_true q153
      go_wp2
      go_roundg k1
      case measure => have := HK1.out; omega
      case rel => exact ⟨(Go.bits .and .i64 (wrap64 ((wrap64 ((wrap64 (x3_1 * 47)) + (wrap64 (rd l0 x4_1)))) + 7)) 1073741823), (wrap64 (x4_1 + 1)), (by first | rfl | (simp; done) | (simp [*]; done)), (by first | rfl | (simp; done) | (simp [*]; done)), H', ⟨by have := HK1.out; omega⟩, ⟨by repeat (first | (with_reducible first | exact HB.out | apply below_alloc | apply pw_below_drewN | apply below_drew1) | exact HB.out)⟩, ⟨by repeat (first | (with_reducible first | exact HBW.out | apply below_alloc | apply pw_below_drewN | apply below_drew1) | exact HBW.out)⟩⟩
     ·rw [if_neg c4] at H
      exact absurd H (by simp)
    ·rw [if_neg c3] at H
     have c3b0 : decide (x4_1 < 4000) = false := decide_eq_false c3
     clear c3
     simp only [Option.some.injEq, Prod.mk.injEq] at H
     obtain ⟨rfl, rfl, rfl⟩ := H
     go_wp2_with (first | ((with_reducible refine gate_dst (N := 31) rfl ?_); refine kE (N := 31) (cs := #[.slice A0 l0.length c0, .int .i64 0, .int .i64 x3_1]) (t := 65) ?_; intro gb154 hg w5 hbox hb; have n0_ := k0 (below_step HBW.out hb); have n1_ := k0 (below_step (kW HB.out) hb); have n2_ := k0 (hbox); have n3_ := k0 ((by rw [hg]; exact (below_size (by repeat (first | (with_reducible first | exact HBW.out | apply below_alloc | apply pw_below_drewN | apply below_drew1) | exact HBW.out))) : w.heap.size ≤ gb154)); have n4_ := k0 ((Nat.le_trans HW0.out (by rw [hg]; exact (below_size (by repeat (first | (with_reducible first | exact HBW.out | apply below_alloc | apply pw_below_drewN | apply below_drew1) | exact HBW.out))) : w.heap.size ≤ gb154) : w0.heap.size ≤ gb154)); clear HBW; clear HB; have HBW := n0_; have HB := n1_; have BK154 := n2_; have GW154 := n3_; have GE154 := n4_; clear n0_ n1_ n2_ n3_ n4_; clear hb hbox hg))
     go_ret
     exact ⟨_, rfl, (show IsS65 w0 _ gb154 l0 0 x3_1 from ⟨_, _, by (with_reducible repeat first | apply k1 | apply k2 | apply k3); exact BK154.out, GE154.out, HR0.out, HC0.out⟩), by repeat (first | (with_reducible first | exact HB.out | apply below_alloc | apply pw_below_drewN | apply below_drew1 | refine below_set ?_ GE154.out) | exact HB.out), by repeat (first | (with_reducible first | exact HBW.out | apply below_alloc | apply pw_below_drewN | apply below_drew1 | refine below_set ?_ GW154.out) | exact HBW.out)⟩
   ·rw [if_neg c2] at H
    have c2b0 : decide (x4_1 < (l0.length : Int)) = false := decide_eq_false c2
    clear c2
    simp only [Option.some.injEq, Prod.mk.injEq] at H
    obtain ⟨rfl, rfl, rfl⟩ := H
    go_wp2_with (first | ((with_reducible refine gate_dst (N := 31) rfl ?_); refine kE (N := 31) (cs := #[.slice A0 l0.length c0, .int .i64 0, .int .i64 x3_1]) (t := 65) ?_; intro gb155 hg w6 hbox hb; have n0_ := k0 (below_step HBW.out hb); have n1_ := k0 (below_step (kW HB.out) hb); have n2_ := k0 (hbox); have n3_ := k0 ((by rw [hg]; exact (below_size (by repeat (first | (with_reducible first | exact HBW.out | apply below_alloc | apply pw_below_drewN | apply below_drew1) | exact HBW.out))) : w.heap.size ≤ gb155)); have n4_ := k0 ((Nat.le_trans HW0.out (by rw [hg]; exact (below_size (by repeat (first | (with_reducible first | exact HBW.out | apply below_alloc | apply pw_below_drewN | apply below_drew1) | exact HBW.out))) : w.heap.size ≤ gb155) : w0.heap.size ≤ gb155)); clear HBW; clear HB; have HBW := n0_; have HB := n1_; have BK155 := n2_; have GW155 := n3_; have GE155 := n4_; clear n0_ n1_ n2_ n3_ n4_; clear hb hbox hg))
    go_ret
    exact ⟨_, rfl, (show IsS65 w0 _ gb155 l0 0 x3_1 from ⟨_, _, by (with_reducible repeat first | apply k1 | apply k2 | apply k3); exact BK155.out, GE155.out, HR0.out, HC0.out⟩), by repeat (first | (with_reducible first | exact HB.out | apply below_alloc | apply pw_below_drewN | apply below_drew1 | refine below_set ?_ GE155.out) | exact HB.out), by repeat (first | (with_reducible first | exact HBW.out | apply below_alloc | apply pw_below_drewN | apply below_drew1 | refine below_set ?_ GW155.out) | exact HBW.out)⟩

/-! ### spec_l01Byte: function 70 -/
def spec_l01Byte.f (s0_0 : List Int) (s0_1 : Int) (s0_2 : Int) : Option (Int × Int × Int) := if s0_1 < (s0_0.length : Int) then (if 0 ≤ s0_1 then (some (Go.bits .and .i64 (wrap64 ((Go.bits .and .i64 (Go.bits .xor .i64 ((wrap64 ((wrap64 (s0_2 * 6364136223846793005)) + 1442695040888963407)) / 8589934592) ((wrap64 ((wrap64 (s0_2 * 6364136223846793005)) + 1442695040888963407)) / 35184372088832)) 255) + (wrap64 (rd s0_0 s0_1)))) 255, wrap64 (s0_1 + 1), wrap64 ((wrap64 (s0_2 * 6364136223846793005)) + 1442695040888963407))) else (none)) else (some (Go.bits .and .i64 (Go.bits .xor .i64 ((wrap64 ((wrap64 (s0_2 * 6364136223846793005)) + 1442695040888963407)) / 8589934592) ((wrap64 ((wrap64 (s0_2 * 6364136223846793005)) + 1442695040888963407)) / 35184372088832)) 255, s0_1, wrap64 ((wrap64 (s0_2 * 6364136223846793005)) + 1442695040888963407)))
set_option maxHeartbeats 8000000 in
set_option maxRecDepth 100000 in
theorem spec_l01Byte.calls (g : Nat) (s0_0 : List Int) (s0_1 : Int) (s0_2 : Int) (r1 : Int) (r2 : Int) (r3 : Int) (w0 w : World) (hI : IsS65 w0 w g s0_0 s0_1 s0_2) (hB : Below w0.heap.size w0 w) (h : spec_l01Byte.f s0_0 s0_1 s0_2 = some (r1, r2, r3)) :
  Calls Try.prog 70 #[.pointer (some ⟨g, 0, none⟩)] w fun e w' => e = .returned (.int .i64 r1) ∧ IsS65 w0 w' g s0_0 r2 r3 ∧ Below w0.heap.size w0 w' ∧ KeepBut w w' g none := by
 have HI0 := Aside0.mk hI
 have HK := k0 (KeepBut.refl w g none)
 have HL := Aside0.mk hB.size
 clear hI
 have HW0 := Aside0.mk hB.size
 have HB := Aside0.mk hB
 clear hB
 have H : (if s0_1 < (s0_0.length : Int) then (if 0 ≤ s0_1 then (some (Go.bits .and .i64 (wrap64 ((Go.bits .and .i64 (Go.bits .xor .i64 ((wrap64 ((wrap64 (s0_2 * 6364136223846793005)) + 1442695040888963407)) / 8589934592) ((wrap64 ((wrap64 (s0_2 * 6364136223846793005)) + 1442695040888963407)) / 35184372088832)) 255) + (wrap64 (rd s0_0 s0_1)))) 255, wrap64 (s0_1 + 1), wrap64 ((wrap64 (s0_2 * 6364136223846793005)) + 1442695040888963407))) else (none)) else (some (Go.bits .and .i64 (Go.bits .xor .i64 ((wrap64 ((wrap64 (s0_2 * 6364136223846793005)) + 1442695040888963407)) / 8589934592) ((wrap64 ((wrap64 (s0_2 * 6364136223846793005)) + 1442695040888963407)) / 35184372088832)) 255, s0_1, wrap64 ((wrap64 (s0_2 * 6364136223846793005)) + 1442695040888963407)))) = some (r1, r2, r3) := h
 clear h
 by_cases c2 : s0_1 < (s0_0.length : Int)
 ·rw [if_pos c2] at H
  have c2b0 : decide (s0_1 < (s0_0.length : Int)) = true := decide_eq_true c2
  clear c2
  by_cases c3 : 0 ≤ s0_1
  ·rw [if_pos c3] at H
   have c3b0 : decide (0 ≤ s0_1) = true := decide_eq_true c3
   clear c3
   simp only [Option.some.injEq, Prod.mk.injEq] at H
   obtain ⟨rfl, rfl, rfl⟩ := H
   obtain ⟨ASz4_0, cSz4_0, HGz4, hgz4, HSz4_0, HTz4_0⟩ := HI0.out
   have hcz4_0 := cellS65_0 HGz4
   have hcz4_1 := cellS65_1 HGz4
   have hcz4_2 := cellS65_2 HGz4
   have hfz4_1 := blk_frozen HGz4 1
   have hfz4_2 := blk_frozen HGz4 2
   clear HGz4 hgz4
   have p156 : 0 ≤ (s0_1 : Int) := kD
   have q156 : s0_1 < (s0_0.length : Int) := kD
   obtain ⟨ad156, e156, hx156_0⟩ := Kd.at_int HSz4_0 s0_1 p156 q156
   cases e156
   have hn156_0 : ad156.block ≠ g := Nat.ne_of_lt (Nat.lt_of_lt_of_le (by have := World.block_lt_of_cell? _ _ hx156_0; first | rwa [add_block] at this | exact this) (IsS65.ge HI0.out))
   replace hx156_0 := pw_cell_below HB.out hx156_0
   replace hx156_0 := (cell_far (p := ⟨g, 2, none⟩) (by first | (rw [add_block]; exact hn156_0) | (show (Addr.add _ _).block ≠ _; rw [add_block]; exact hn156_0) | exact hn156_0) (.int .i64 (wrap64 ((wrap64 (s0_2 * 6364136223846793005)) + 1442695040888963407)))).trans hx156_0
   (try have hy156_0 := fun (n_ : Nat) => (show (((w.drewN n_).setCell ⟨g, 2, none⟩ (.int .i64 (wrap64 ((wrap64 (s0_2 * 6364136223846793005)) + 1442695040888963407))))).cell? _ = some _ from hx156_0))
   clear hn156_0
   replace p156 := eq_true p156
   replace q156 := eq_true q156
   go_enter Try.func70, Try.ntmps70
   go_wp2
   repeat (go_quiet (fail); try go_wp2)
   go_ret
   exact ⟨by first | rfl | (simp [errW_none, errW_some] <;> rfl) | (simp [*, errW_none, errW_some] <;> rfl), by repeat (first | (with_reducible first | exact HI0.out | apply IsS65.alloc | apply IsS65.drewN | apply IsS65.drew | apply IsS65.set_1 | apply IsS65.set_2) | exact HI0.out), by repeat (first | (with_reducible first | exact HB.out | apply below_alloc | apply pw_below_drewN | apply below_drew1 | refine below_set ?_ (IsS65.ge HI0.out)) | exact HB.out), by repeat (first | (with_reducible first | exact HK.out | apply KeepBut.set_ | apply keep_drewN | apply keep_drew | apply keep_alloc) | exact HK.out)⟩
  ·rw [if_neg c3] at H
   exact absurd H (by simp)
 ·rw [if_neg c2] at H
  have c2b0 : decide (s0_1 < (s0_0.length : Int)) = false := decide_eq_false c2
  clear c2
  simp only [Option.some.injEq, Prod.mk.injEq] at H
  obtain ⟨rfl, rfl, rfl⟩ := H
  obtain ⟨ASz5_0, cSz5_0, HGz5, hgz5, HSz5_0, HTz5_0⟩ := HI0.out
  have hcz5_0 := cellS65_0 HGz5
  have hcz5_1 := cellS65_1 HGz5
  have hcz5_2 := cellS65_2 HGz5
  have hfz5_1 := blk_frozen HGz5 1
  have hfz5_2 := blk_frozen HGz5 2
  clear HGz5 hgz5
  go_enter Try.func70, Try.ntmps70
  go_wp2
  repeat (go_quiet (fail); try go_wp2)
  go_ret
  exact ⟨by first | rfl | (simp [errW_none, errW_some] <;> rfl) | (simp [*, errW_none, errW_some] <;> rfl), by repeat (first | (with_reducible first | exact HI0.out | apply IsS65.alloc | apply IsS65.drewN | apply IsS65.drew | apply IsS65.set_1 | apply IsS65.set_2) | exact HI0.out), by repeat (first | (with_reducible first | exact HB.out | apply below_alloc | apply pw_below_drewN | apply below_drew1 | refine below_set ?_ (IsS65.ge HI0.out)) | exact HB.out), by repeat (first | (with_reducible first | exact HK.out | apply KeepBut.set_ | apply keep_drewN | apply keep_drew | apply keep_alloc) | exact HK.out)⟩

/-! ### spec_l01Below: function 64 -/
def spec_l01Below.f (s0_0 : List Int) (s0_1 : Int) (s0_2 : Int) (a1 : Int) : Option (Int × Int × Int) := if a1 ≤ 0 then (some (0, s0_1, s0_2)) else (if a1 ≤ 256 then ((spec_l01Byte.f s0_0 s0_1 s0_2).bind fun bt157 => (if a1 = 0 then (none) else (some (Int.tmod bt157.1 a1, bt157.2.1, bt157.2.2)))) else ((spec_l01Byte.f s0_0 s0_1 s0_2).bind fun bt160 => ((spec_l01Byte.f s0_0 bt160.2.1 bt160.2.2).bind fun bt163 => ((spec_l01Byte.f s0_0 bt163.2.1 bt163.2.2).bind fun bt166 => ((spec_l01Byte.f s0_0 bt166.2.1 bt166.2.2).bind fun bt169 => (if a1 = 0 then (none) else (some (Int.tmod (wrap64 ((wrap64 ((wrap64 ((wrap64 (bt160.1 * 16777216)) + (wrap64 (bt163.1 * 65536)))) + (wrap64 (bt166.1 * 256)))) + bt169.1)) a1, bt169.2.1, bt169.2.2))))))))
set_option maxHeartbeats 8000000 in
set_option maxRecDepth 100000 in
theorem spec_l01Below.calls (g : Nat) (s0_0 : List Int) (s0_1 : Int) (s0_2 : Int) (a1 : Int) (r1 : Int) (r2 : Int) (r3 : Int) (w0 w : World) (hI : IsS65 w0 w g s0_0 s0_1 s0_2) (hB : Below w0.heap.size w0 w) (h : spec_l01Below.f s0_0 s0_1 s0_2 a1 = some (r1, r2, r3)) :
  Calls Try.prog 64 #[.pointer (some ⟨g, 0, none⟩), .int .i64 a1] w fun e w' => e = .returned (.int .i64 r1) ∧ IsS65 w0 w' g s0_0 r2 r3 ∧ Below w0.heap.size w0 w' ∧ KeepBut w w' g none := by
 have HI0 := Aside0.mk hI
 have HK := k0 (KeepBut.refl w g none)
 have HL := Aside0.mk hB.size
 clear hI
 have HW0 := Aside0.mk hB.size
 have HB := Aside0.mk hB
 clear hB
 have H : (if a1 ≤ 0 then (some (0, s0_1, s0_2)) else (if a1 ≤ 256 then ((spec_l01Byte.f s0_0 s0_1 s0_2).bind fun bt157 => (if a1 = 0 then (none) else (some (Int.tmod bt157.1 a1, bt157.2.1, bt157.2.2)))) else ((spec_l01Byte.f s0_0 s0_1 s0_2).bind fun bt160 => ((spec_l01Byte.f s0_0 bt160.2.1 bt160.2.2).bind fun bt163 => ((spec_l01Byte.f s0_0 bt163.2.1 bt163.2.2).bind fun bt166 => ((spec_l01Byte.f s0_0 bt166.2.1 bt166.2.2).bind fun bt169 => (if a1 = 0 then (none) else (some (Int.tmod (wrap64 ((wrap64 ((wrap64 ((wrap64 (bt160.1 * 16777216)) + (wrap64 (bt163.1 * 65536)))) + (wrap64 (bt166.1 * 256)))) + bt169.1)) a1, bt169.2.1, bt169.2.2))))))))) = some (r1, r2, r3) := h
 clear h
 by_cases c3 : a1 ≤ 0
 ·rw [if_pos c3] at H
  have c3b0 : decide (a1 ≤ 0) = true := decide_eq_true c3
  clear c3
  simp only [Option.some.injEq, Prod.mk.injEq] at H
  obtain ⟨rfl, rfl, rfl⟩ := H
  go_enter Try.func64, Try.ntmps64
  go_wp2
  go_ret
  exact ⟨by first | rfl | (simp [errW_none, errW_some] <;> rfl) | (simp [*, errW_none, errW_some] <;> rfl), by repeat (first | (with_reducible first | exact HI0.out | apply IsS65.alloc | apply IsS65.drewN | apply IsS65.drew | apply IsS65.set_1 | apply IsS65.set_2) | exact HI0.out), by repeat (first | (with_reducible first | exact HB.out | apply below_alloc | apply pw_below_drewN | apply below_drew1 | refine below_set ?_ (IsS65.ge HI0.out)) | exact HB.out), by repeat (first | (with_reducible first | exact HK.out | apply KeepBut.set_ | apply keep_drewN | apply keep_drew | apply keep_alloc) | exact HK.out)⟩
 ·rw [if_neg c3] at H
  have c3b0 : decide (a1 ≤ 0) = false := decide_eq_false c3
  clear c3
  by_cases c4 : a1 ≤ 256
  ·rw [if_pos c4] at H
   have c4b0 : decide (a1 ≤ 256) = true := decide_eq_true c4
   clear c4
   replace H := Option.bind_eq_some_iff.mp H
   obtain ⟨⟨t157, t158, t159⟩, A50, H⟩ := H
   replace H : (if a1 = 0 then (none) else (some (Int.tmod t157 a1, t158, t159))) = some (r1, r2, r3) := H
   have A5 := Aside0.mk A50
   clear A50
   by_cases c6 : a1 = 0
   ·rw [if_pos c6] at H
    exact absurd H (by simp)
   ·rw [if_neg c6] at H
    have c6b0 : (a1 == 0) = false := beq_eq_false_iff_ne.mpr c6
    have c6b1 : (a1 != 0) = true := bne_iff_ne.mpr c6
    simp only [Option.some.injEq, Prod.mk.injEq] at H
    obtain ⟨rfl, rfl, rfl⟩ := H
    go_enter Try.func64, Try.ntmps64
    go_wp2_with (first | ((with_reducible refine gate_callee (f := 70) rfl ?_); refine kG (some 14) Try.func70 #[.pointer (some ⟨g, 0, none⟩)] ?_; (with_reducible refine (spec_l01Byte.calls g s0_0 s0_1 s0_2 t157 t158 t159 w0 _ ?side1 ?side2 A5.out).mono ?_); (case side1 => repeat (first | (with_reducible first | exact HI0.out | apply IsS65.alloc | apply IsS65.drewN | apply IsS65.drew | apply IsS65.set_1 | apply IsS65.set_2) | exact HI0.out)); (case side2 => repeat (first | (with_reducible first | exact HB.out | apply below_alloc | apply pw_below_drewN | apply below_drew1 | refine below_set ?_ (IsS65.ge HI0.out)) | exact HB.out)); rintro e w7 ⟨rfl, hi, hb, hk⟩; refine ⟨_, rfl, ?_⟩; have n0_ := k0 (KeepBut.trans (by repeat (first | (with_reducible first | exact HK.out | apply KeepBut.set_ | apply keep_drewN | apply keep_drew | apply keep_alloc) | exact HK.out)) hk (.inl rfl)); have n1_ := k0 (hb); have n2_ := k0 (hi); clear HK; clear HB; clear HI0; have HK := n0_; have HB := n1_; have HI0 := n2_; clear n0_ n1_ n2_; (try clear hb); (try clear hb2); (try clear hk); (try clear hi)))
    go_ret
    exact ⟨by first | rfl | (simp [errW_none, errW_some] <;> rfl) | (simp [*, errW_none, errW_some] <;> rfl), by repeat (first | (with_reducible first | exact HI0.out | apply IsS65.alloc | apply IsS65.drewN | apply IsS65.drew | apply IsS65.set_1 | apply IsS65.set_2) | exact HI0.out), by repeat (first | (with_reducible first | exact HB.out | apply below_alloc | apply pw_below_drewN | apply below_drew1 | refine below_set ?_ (IsS65.ge HI0.out)) | exact HB.out), by repeat (first | (with_reducible first | exact HK.out | apply KeepBut.set_ | apply keep_drewN | apply keep_drew | apply keep_alloc) | exact HK.out)⟩
  ·rw [if_neg c4] at H
   have c4b0 : decide (a1 ≤ 256) = false := decide_eq_false c4
   clear c4
   replace H := Option.bind_eq_some_iff.mp H
   obtain ⟨⟨t160, t161, t162⟩, A80, H⟩ := H
   replace H : ((spec_l01Byte.f s0_0 t161 t162).bind fun bt163 => ((spec_l01Byte.f s0_0 bt163.2.1 bt163.2.2).bind fun bt166 => ((spec_l01Byte.f s0_0 bt166.2.1 bt166.2.2).bind fun bt169 => (if a1 = 0 then (none) else (some (Int.tmod (wrap64 ((wrap64 ((wrap64 ((wrap64 (t160 * 16777216)) + (wrap64 (bt163.1 * 65536)))) + (wrap64 (bt166.1 * 256)))) + bt169.1)) a1, bt169.2.1, bt169.2.2)))))) = some (r1, r2, r3) := H
   have A8 := Aside0.mk A80
   clear A80
   replace H := Option.bind_eq_some_iff.mp H
   obtain ⟨⟨t163, t164, t165⟩, A90, H⟩ := H
   replace H : ((spec_l01Byte.f s0_0 t164 t165).bind fun bt166 => ((spec_l01Byte.f s0_0 bt166.2.1 bt166.2.2).bind fun bt169 => (if a1 = 0 then (none) else (some (Int.tmod (wrap64 ((wrap64 ((wrap64 ((wrap64 (t160 * 16777216)) + (wrap64 (t163 * 65536)))) + (wrap64 (bt166.1 * 256)))) + bt169.1)) a1, bt169.2.1, bt169.2.2))))) = some (r1, r2, r3) := H
   have A9 := Aside0.mk A90
   clear A90
   replace H := Option.bind_eq_some_iff.mp H
   obtain ⟨⟨t166, t167, t168⟩, A100, H⟩ := H
   replace H : ((spec_l01Byte.f s0_0 t167 t168).bind fun bt169 => (if a1 = 0 then (none) else (some (Int.tmod (wrap64 ((wrap64 ((wrap64 ((wrap64 (t160 * 16777216)) + (wrap64 (t163 * 65536)))) + (wrap64 (t166 * 256)))) + bt169.1)) a1, bt169.2.1, bt169.2.2)))) = some (r1, r2, r3) := H
   have A10 := Aside0.mk A100
   clear A100
   replace H := Option.bind_eq_some_iff.mp H
   obtain ⟨⟨t169, t170, t171⟩, A110, H⟩ := H
   replace H : (if a1 = 0 then (none) else (some (Int.tmod (wrap64 ((wrap64 ((wrap64 ((wrap64 (t160 * 16777216)) + (wrap64 (t163 * 65536)))) + (wrap64 (t166 * 256)))) + t169)) a1, t170, t171))) = some (r1, r2, r3) := H
   have A11 := Aside0.mk A110
   clear A110
   by_cases c12 : a1 = 0
   ·rw [if_pos c12] at H
    exact absurd H (by simp)
   ·rw [if_neg c12] at H
    have c12b0 : (a1 == 0) = false := beq_eq_false_iff_ne.mpr c12
    have c12b1 : (a1 != 0) = true := bne_iff_ne.mpr c12
    simp only [Option.some.injEq, Prod.mk.injEq] at H
    obtain ⟨rfl, rfl, rfl⟩ := H
    go_enter Try.func64, Try.ntmps64
    go_wp2_with (first | ((with_reducible refine gate_callee (f := 70) rfl ?_); refine kG (some 18) Try.func70 #[.pointer (some ⟨g, 0, none⟩)] ?_; (with_reducible refine (spec_l01Byte.calls g s0_0 s0_1 s0_2 t160 t161 t162 w0 _ ?side1 ?side2 A8.out).mono ?_); (case side1 => repeat (first | (with_reducible first | exact HI0.out | apply IsS65.alloc | apply IsS65.drewN | apply IsS65.drew | apply IsS65.set_1 | apply IsS65.set_2) | exact HI0.out)); (case side2 => repeat (first | (with_reducible first | exact HB.out | apply below_alloc | apply pw_below_drewN | apply below_drew1 | refine below_set ?_ (IsS65.ge HI0.out)) | exact HB.out)); rintro e w13 ⟨rfl, hi, hb, hk⟩; refine ⟨_, rfl, ?_⟩; have n0_ := k0 (KeepBut.trans (by repeat (first | (with_reducible first | exact HK.out | apply KeepBut.set_ | apply keep_drewN | apply keep_drew | apply keep_alloc) | exact HK.out)) hk (.inl rfl)); have n1_ := k0 (hb); have n2_ := k0 (hi); clear HK; clear HB; clear HI0; have HK := n0_; have HB := n1_; have HI0 := n2_; clear n0_ n1_ n2_; (try clear hb); (try clear hb2); (try clear hk); (try clear hi)) | ((with_reducible refine gate_callee (f := 70) rfl ?_); refine kG (some 20) Try.func70 #[.pointer (some ⟨g, 0, none⟩)] ?_; (with_reducible refine (spec_l01Byte.calls g s0_0 t161 t162 t163 t164 t165 w0 _ ?side1 ?side2 A9.out).mono ?_); (case side1 => repeat (first | (with_reducible first | exact HI0.out | apply IsS65.alloc | apply IsS65.drewN | apply IsS65.drew | apply IsS65.set_1 | apply IsS65.set_2) | exact HI0.out)); (case side2 => repeat (first | (with_reducible first | exact HB.out | apply below_alloc | apply pw_below_drewN | apply below_drew1 | refine below_set ?_ (IsS65.ge HI0.out)) | exact HB.out)); rintro e w14 ⟨rfl, hi, hb, hk⟩; refine ⟨_, rfl, ?_⟩; have n0_ := k0 (KeepBut.trans (by repeat (first | (with_reducible first | exact HK.out | apply KeepBut.set_ | apply keep_drewN | apply keep_drew | apply keep_alloc) | exact HK.out)) hk (.inl rfl)); have n1_ := k0 (hb); have n2_ := k0 (hi); clear HK; clear HB; clear HI0; have HK := n0_; have HB := n1_; have HI0 := n2_; clear n0_ n1_ n2_; (try clear hb); (try clear hb2); (try clear hk); (try clear hi)) | ((with_reducible refine gate_callee (f := 70) rfl ?_); refine kG (some 22) Try.func70 #[.pointer (some ⟨g, 0, none⟩)] ?_; (with_reducible refine (spec_l01Byte.calls g s0_0 t164 t165 t166 t167 t168 w0 _ ?side1 ?side2 A10.out).mono ?_); (case side1 => repeat (first | (with_reducible first | exact HI0.out | apply IsS65.alloc | apply IsS65.drewN | apply IsS65.drew | apply IsS65.set_1 | apply IsS65.set_2) | exact HI0.out)); (case side2 => repeat (first | (with_reducible first | exact HB.out | apply below_alloc | apply pw_below_drewN | apply below_drew1 | refine below_set ?_ (IsS65.ge HI0.out)) | exact HB.out)); rintro e w15 ⟨rfl, hi, hb, hk⟩; refine ⟨_, rfl, ?_⟩; have n0_ := k0 (KeepBut.trans (by repeat (first | (with_reducible first | exact HK.out | apply KeepBut.set_ | apply keep_drewN | apply keep_drew | apply keep_alloc) | exact HK.out)) hk (.inl rfl)); have n1_ := k0 (hb); have n2_ := k0 (hi); clear HK; clear HB; clear HI0; have HK := n0_; have HB := n1_; have HI0 := n2_; clear n0_ n1_ n2_; (try clear hb); (try clear hb2); (try clear hk); (try clear hi)) | ((with_reducible refine gate_callee (f := 70) rfl ?_); refine kG (some 24) Try.func70 #[.pointer (some ⟨g, 0, none⟩)] ?_; (with_reducible refine (spec_l01Byte.calls g s0_0 t167 t168 t169 t170 t171 w0 _ ?side1 ?side2 A11.out).mono ?_); (case side1 => repeat (first | (with_reducible first | exact HI0.out | apply IsS65.alloc | apply IsS65.drewN | apply IsS65.drew | apply IsS65.set_1 | apply IsS65.set_2) | exact HI0.out)); (case side2 => repeat (first | (with_reducible first | exact HB.out | apply below_alloc | apply pw_below_drewN | apply below_drew1 | refine below_set ?_ (IsS65.ge HI0.out)) | exact HB.out)); rintro e w16 ⟨rfl, hi, hb, hk⟩; refine ⟨_, rfl, ?_⟩; have n0_ := k0 (KeepBut.trans (by repeat (first | (with_reducible first | exact HK.out | apply KeepBut.set_ | apply keep_drewN | apply keep_drew | apply keep_alloc) | exact HK.out)) hk (.inl rfl)); have n1_ := k0 (hb); have n2_ := k0 (hi); clear HK; clear HB; clear HI0; have HK := n0_; have HB := n1_; have HI0 := n2_; clear n0_ n1_ n2_; (try clear hb); (try clear hb2); (try clear hk); (try clear hi)))
    go_ret
    exact ⟨by first | rfl | (simp [errW_none, errW_some] <;> rfl) | (simp [*, errW_none, errW_some] <;> rfl), by repeat (first | (with_reducible first | exact HI0.out | apply IsS65.alloc | apply IsS65.drewN | apply IsS65.drew | apply IsS65.set_1 | apply IsS65.set_2) | exact HI0.out), by repeat (first | (with_reducible first | exact HB.out | apply below_alloc | apply pw_below_drewN | apply below_drew1 | refine below_set ?_ (IsS65.ge HI0.out)) | exact HB.out), by repeat (first | (with_reducible first | exact HK.out | apply KeepBut.set_ | apply keep_drewN | apply keep_drew | apply keep_alloc) | exact HK.out)⟩

/-! ### spec_MakeNum: function 34 -/
def spec_MakeNum.f (k : Nat) (l0 : List Int) (a1 : Int) : Option (Int) := (spec_l01New.f k l0).bind fun bt172 => ((spec_l01Below.f bt172.1 bt172.2.1 (wrap64 (bt172.2.2 + 777)) a1).bind fun bt176 => (some bt176.1))
theorem spec_MakeNum.mono : ∀ a0 a1 k, LeO (spec_MakeNum.f k a0 a1) (spec_MakeNum.f (k + 1) a0 a1) := by
 intro a0 a1 k
 unfold spec_MakeNum.f
 repeat' first
   | (with_reducible exact spec_l01New.mono _ _)
   | (with_reducible exact LeO.refl _)
   | (with_reducible exact LeO.none _)
   | (with_reducible refine LeO.ite ?_ ?_)
   | (with_reducible refine LeO.bind ?_ (fun _ => ?_))
   | exact spec_l01New.mono _ _
   | exact LeO.none _
   | refine LeO.ite ?_ ?_
   | refine LeO.bind ?_ (fun _ => ?_)
set_option maxHeartbeats 8000000 in
set_option maxRecDepth 100000 in
theorem spec_MakeNum.calls (k : Nat) (A0 : Option Addr) (c0 : Nat) (l0 : List Int) (a1 : Int) (r : Int) (w : World) (hr0 : Kd.C (Kd.int .u8) w A0 l0.length l0) (hc0 : l0.length ≤ c0) (h : spec_MakeNum.f k l0 a1 = some r) :
  Calls Try.prog 34 #[.slice A0 l0.length c0, .int .i64 a1] w fun e w' => e = .returned (.int .i64 r) ∧ Below w.heap.size w w' := by
 have HR0 := Aside0.mk hr0
 have HC0 := Aside0.mk hc0
 clear hr0 hc0
 have HB := k0 (Below.refl w.heap.size w)
 have H : ((spec_l01New.f k l0).bind fun bt172 => ((spec_l01Below.f bt172.1 bt172.2.1 (wrap64 (bt172.2.2 + 777)) a1).bind fun bt176 => (some bt176.1))) = some r := h
 clear h
 replace H := Option.bind_eq_some_iff.mp H
 obtain ⟨⟨t172, t173, t174⟩, A30, H⟩ := H
 replace H : ((spec_l01Below.f t172 t173 (wrap64 (t174 + 777)) a1).bind fun bt176 => (some bt176.1)) = some r := H
 have A3 := Aside0.mk A30
 clear A30
 replace H := Option.bind_eq_some_iff.mp H
 obtain ⟨⟨t176, t177, t178⟩, A40, H⟩ := H
 replace H : (some t176) = some r := H
 have A4 := Aside0.mk A40
 clear A40
 obtain rfl := Option.some.inj H
 go_enter Try.func34, Try.ntmps34
 go_wp2_with (first | ((with_reducible refine gate_callee (f := 63) rfl ?_); refine kG (some 7) Try.func63 #[.slice A0 l0.length c0] ?_; (with_reducible refine (spec_l01New.calls k _ _ l0 t172 t173 t174 w _ ?side1 ?side2 ?side3 A3.out).mono ?_); (case side1 => repeat (first | (with_reducible first | exact HB.out | apply below_alloc | apply pw_below_drewN | apply below_drew1) | exact HB.out)); (case side2 => exact HR0.out); (case side3 => exact HC0.out); rintro e w5 ⟨g175, rfl, hi, hb, hb2⟩; refine ⟨_, rfl, ?_⟩; have n0_ := k0 (hb); have n1_ := k0 (hi); clear HB; have HB := n0_; have HI175 := n1_; clear n0_ n1_; (try clear hb); (try clear hb2); (try clear hk); (try clear hi); obtain ⟨ASz6_0, cSz6_0, HGz6, hgz6, HSz6_0, HTz6_0⟩ := HI175.out; have hcz6_0 := cellS65_0 HGz6; have hcz6_1 := cellS65_1 HGz6; have hcz6_2 := cellS65_2 HGz6; have hfz6_1 := blk_frozen HGz6 1; have hfz6_2 := blk_frozen HGz6 2; clear HGz6 hgz6) | ((with_reducible refine gate_callee (f := 64) rfl ?_); refine kG (some 18) Try.func64 #[.pointer (some ⟨g175, 0, none⟩), .int .i64 a1] ?_; (with_reducible refine (spec_l01Below.calls g175 t172 t173 (wrap64 (t174 + 777)) a1 t176 t177 t178 w _ ?side1 ?side2 A4.out).mono ?_); (case side1 => repeat (first | (with_reducible first | exact HI175.out | apply IsS65.alloc | apply IsS65.drewN | apply IsS65.drew | apply IsS65.set_1 | apply IsS65.set_2) | exact HI175.out)); (case side2 => repeat (first | (with_reducible first | exact HB.out | apply below_alloc | apply pw_below_drewN | apply below_drew1 | refine below_set ?_ (IsS65.ge HI175.out)) | exact HB.out)); rintro e w7 ⟨rfl, hi, hb, hk⟩; refine ⟨_, rfl, ?_⟩; have n0_ := k0 (hb); have n1_ := k0 (hi); clear HB; clear HI175; have HB := n0_; have HI175 := n1_; clear n0_ n1_; (try clear hb); (try clear hb2); (try clear hk); (try clear hi)))
 go_ret
 exact ⟨by first | rfl | (simp [errW_none, errW_some] <;> rfl) | (simp [*, errW_none, errW_some] <;> rfl), by repeat (first | (with_reducible first | exact HB.out | apply below_alloc | apply pw_below_drewN | apply below_drew1 | refine below_set ?_ (IsS65.ge HI175.out)) | exact HB.out)⟩

end Go.Proofs.Ytcnanifokpcjaaa.PFnRights
