import Derived.Test.YtcnanifokpcjaaaPFnMeetx0
import Derived.Test.YtcnanifokpcjaaaPFnMeetx1
import Derived.Test.YtcnanifokpcjaaaPFnMeetx2
import Derived.Test.YtcnanifokpcjaaaPFnMeetx4
namespace Go.Proofs.Ytcnanifokpcjaaa.PFnMeet
open Go.RowKit Go.Proofs.YtcnanifokpcjaaaW.PrintWords Go.Proofs.YtcnanifokpcjaaaW.PrintLast Go.Proofs.YtcnanifokpcjaaaW.PrintMore
attribute [local go_sem] max2_int min2_int max_two min_two max_three min_three max_four min_four   -- for this text's walks alone
set_option linter.unusedVariables false
set_option linter.unusedSimpArgs false

/-! ### impl_IsAmt: function 69 -/
def impl_IsAmt.f (a0 : Int) : Option (Bool) := (impl_in.f a0 1 1000000000).bind fun t170 => (some t170)
set_option maxHeartbeats 8000000 in
set_option maxRecDepth 100000 in
theorem impl_IsAmt.calls (a0 : Int) (r : Bool) (w : World) (h : impl_IsAmt.f a0 = some r) :
  Calls Try.prog 69 #[.int .i64 a0] w fun e w' => e = .returned (.bool r) ∧ Drawn0 w w' := by
 have H : ((impl_in.f a0 1 1000000000).bind fun t170 => (some t170)) = some r := h
 clear h
 replace H := Option.bind_eq_some_iff.mp H
 obtain ⟨t170, A20, H⟩ := H
 replace H : (some t170) = some r := H
 have A2 := Aside0.mk A20
 clear A20
 obtain rfl := Option.some.inj H
 go_enter Try.func69, Try.ntmps69
 go_wp2_with (first | ((with_reducible refine gate_callee (f := 44) rfl ?_); refine kG (some 4) Try.func44 #[.int .i64 a0, .int .i64 1, .int .i64 1000000000] ?_; (with_reducible refine (impl_in.calls a0 1 1000000000 t170 _ A2.out).mono ?_); rintro e w' ⟨rfl, ⟨nd, rfl⟩⟩; refine ⟨_, rfl, ?_⟩))
 go_ret
 exact ⟨by first | rfl | (simp; done) | (simp [*]; done), by repeat (first | exact Drawn0.refl _ | apply Drawn0.step)⟩

-- NOT PRINTED: function 59 (impl_changed)

/-! ### impl_Mint: function 29 -/
section
open Go.Proofs.Ytcnanifokpcjaaa.Chn
set_option maxHeartbeats 4000000 in
set_option maxRecDepth 100000 in
theorem impl_Mint_1.calls (g gi g0 g1 c0 c1 n m : Nat) (i : Int) (v1 : Value) (w : World) (hg : w.heap[g]? = some (.cells #[.slice (some ⟨g0, 0, none⟩) n c0, v1] 28 (0, 0))) (hi : w.cell? ⟨gi, 0, none⟩ = some (.int .i64 i)) (hc : w.cell? ⟨g0, i.toNat, none⟩ = some (.slice (some ⟨g1, 0, none⟩) m c1)) (h0 : 0 ≤ i) (h1 : i < (n : Int)) (h3 : i < (m : Int)) :
  Calls Try.prog 60 #[.pointer (some ⟨g, 0, none⟩), .pointer (some ⟨gi, 0, none⟩)] w fun e w' => e = .returned (.pointer (some ⟨g1, i.toNat, none⟩)) ∧ Drawn0 w w' := by
 have hz0 : w.cell? ⟨g, 0, none⟩ = some (.slice (some ⟨g0, 0, none⟩) n c0) := (blk_cell hg 0).trans rfl
 clear hg
 have b0 := decide_eq_true h0
 have b1 := decide_eq_true h1
 skip
 have b3 := decide_eq_true h3
 replace h0 := eq_true h0
 replace h1 := eq_true h1
 skip
 replace h3 := eq_true h3
 go_enter Try.func60, Try.ntmps60
 go_wp2
 repeat (go_quiet (fail); try go_wp2)
 go_ret
 exact ⟨by first | rfl | (simp; done) | (simp [*]; done), by repeat (first | exact Drawn0.refl _ | apply Drawn0.step)⟩
def impl_Mint.upd (x : List (List Int)) (y : List Int) (a1 a3 : Int) : Option (List (List Int) × List Int) := if 0 ≤ a1 then (if a1 < (x.length : Int) then (if a1 < ((x.getD a1.toNat []).length : Int) then some (x.set a1.toNat ((x.getD a1.toNat []).set a1.toNat (wrap64 ((rd (x.getD a1.toNat []) a1) + a3))), y) else none) else none) else none
def impl_changed_Mint.f (k : Nat) (l0_0 : List (List Int)) (l0_1 : List Int) (a1 a3 : Int) : Option (List (List Int) × List Int × Bool) := (impl_RightsOk.f k l0_0 l0_1).bind fun t1 => if t1 = true then ((impl_in.f a1 0 (wrap64 ((l0_1.length : Int) - 1))).bind fun t2 => if t2 = true then ((impl_in.f a1 0 (wrap64 ((l0_1.length : Int) - 1))).bind fun t3 => if t3 = true then ((impl_IsAmt.f a3).bind fun t4 => if t4 = true then ((impl_copyRights.f k l0_0 l0_1).bind fun c => (impl_Mint.upd c.1 c.2 a1 a3).bind fun u => (impl_RightsOk.f k u.1 u.2).bind fun t5 => if t5 = true then some (u.1, u.2, true) else some (([] : List (List Int)), ([] : List Int), false)) else some (([] : List (List Int)), ([] : List Int), false)) else some (([] : List (List Int)), ([] : List Int), false)) else some (([] : List (List Int)), ([] : List Int), false)) else some (([] : List (List Int)), ([] : List Int), false)
theorem impl_changed_Mint.mono : ∀ x0 x1 a1 a3 k, LeO (impl_changed_Mint.f k x0 x1 a1 a3) (impl_changed_Mint.f (k + 1) x0 x1 a1 a3) := by
 intro x0 x1 a1 a3 k
 unfold impl_changed_Mint.f
 repeat' first
   | (with_reducible exact impl_RightsOk.mono _ _ _)
   | (with_reducible exact impl_copyRights.mono _ _ _)
   | (with_reducible exact LeO.refl _)
   | (with_reducible refine LeO.ite ?_ ?_)
   | (with_reducible refine LeO.bind ?_ (fun _ => ?_))
   | exact impl_RightsOk.mono _ _ _
   | exact impl_copyRights.mono _ _ _
   | refine LeO.ite ?_ ?_
   | refine LeO.bind ?_ (fun _ => ?_)
set_option maxHeartbeats 8000000 in
set_option maxRecDepth 100000 in
theorem impl_changed_Mint.calls (k : Nat) (A0_0 : Option Addr) (c0_0 : Nat) (l0_0 : List (List Int)) (A0_1 : Option Addr) (c0_1 : Nat) (l0_1 : List Int) (a1 a3 : Int) (gi : Nat) (r1 : List (List Int)) (r2 : List Int) (r3 : Bool) (w : World) (hr0_0 : Kd.C (Kd.slice 3 (Kd.int .i64)) w A0_0 l0_0.length l0_0) (hc0_0 : l0_0.length ≤ c0_0) (hr0_1 : Kd.C (Kd.int .i64) w A0_1 l0_1.length l0_1) (hc0_1 : l0_1.length ≤ c0_1) (hi : w.cell? ⟨gi, 0, none⟩ = some (.int .i64 a1)) (h : impl_changed_Mint.f k l0_0 l0_1 a1 a3 = some (r1, r2, r3)) :
  Calls Try.prog 59 #[.agg #[.slice A0_0 l0_0.length c0_0, .slice A0_1 l0_1.length c0_1], .int .i64 a1, .int .i64 a1, .int .i64 a3, .func (.func 60) #[] #[.pointer (some ⟨gi, 0, none⟩)]] w fun e w' => ∃ v0_ v1_ : Value, e = .returned (.tuple #[.agg #[v0_, v1_], .bool r3]) ∧ Kd.S (Kd.slice 3 (Kd.int .i64)) 23 w' w.heap.size (fun k_ => some k_ ≠ (v1_ : Value).ownBlock) v0_ r1 ∧ Kd.R (Kd.int .i64) 3 w' w.heap.size (fun _ => True) v1_ r2 ∧ Below w.heap.size w w' := by
 have hu28 := Try.underlying28
 have HR0_0 := Aside0.mk hr0_0
 have HC0_0 := Aside0.mk hc0_0
 have HR0_1 := Aside0.mk hr0_1
 have HC0_1 := Aside0.mk hc0_1
 have HI := Aside0.mk hi
 skip
 clear hr0_0 hc0_0 hr0_1 hc0_1 hi
 have HB := k0 (Below.refl w.heap.size w)
 have CH := k0 (Ch.nil w)
 unfold impl_changed_Mint.f at h
 replace h := Option.bind_eq_some_iff.mp h
 obtain ⟨t1, A10, h⟩ := h
 have A1 := Aside0.mk A10
 clear A10
 cases t1 with
 | false =>
  rw [if_neg (by decide)] at h
  simp only [Option.some.injEq, Prod.mk.injEq] at h
  obtain ⟨rfl, rfl, rfl⟩ := h
  go_enter Try.func59, Try.ntmps59
  go_wp2_with (first
   | ((with_reducible refine gate_dst (N := 5) rfl ?_); refine kE (N := 5) (cs := #[.slice A0_0 l0_0.length c0_0, .slice A0_1 l0_1.length c0_1]) (t := 28) ?_; intro gr hg w1 hbox hb; have n0_ := k0 (Ch.box (by repeat (first | exact CH.out | apply Ch.drewN | apply Ch.drew)) hg hbox hb : Ch w1 [bk gr #[.slice A0_0 l0_0.length c0_0, .slice A0_1 l0_1.length c0_1] 28]); have n1_ := k0 (below_step (by repeat (first | exact HB.out | apply pw_below_drewN | apply below_drew1)) hb : Below w.heap.size w w1); have m0_ := k0 (by rw [hg]; exact HB.out.size : w.heap.size ≤ gr); clear CH HB hb hbox hg; have CH := n0_; have HB := n1_; have GE_gr := m0_; clear n0_ n1_ m0_; have hz2 : w1.cell? ⟨gr, 0, none⟩ = some (.slice A0_0 l0_0.length c0_0) := (blk_cell (Ch.blk CH.out 0 rfl) 0).trans rfl; have hz3 := blk_frozen (Ch.blk CH.out 0 rfl) 0; have hz4 : w1.cell? ⟨gr, 1, none⟩ = some (.slice A0_1 l0_1.length c0_1) := (blk_cell (Ch.blk CH.out 0 rfl) 1).trans rfl; have hz5 := blk_frozen (Ch.blk CH.out 0 rfl) 1)
   | ((with_reducible refine gate_dst (N := 10) rfl ?_); refine kE (N := 10) (cs := #[.slice none 0 0, .slice none 0 0]) (t := 28) ?_; intro go hg w6 hbox hb; have n0_ := k0 (Ch.box (by repeat (first | exact CH.out | apply Ch.drewN | apply Ch.drew)) hg hbox hb : Ch w6 [bk go #[.slice none 0 0, .slice none 0 0] 28, bk gr #[.slice A0_0 l0_0.length c0_0, .slice A0_1 l0_1.length c0_1] 28]); have n1_ := k0 (below_step (by repeat (first | exact HB.out | apply pw_below_drewN | apply below_drew1)) hb : Below w.heap.size w w6); have m0_ := k0 (by rw [hg]; exact HB.out.size : w.heap.size ≤ go); clear CH HB hb hbox hg; have CH := n0_; have HB := n1_; have GE_go := m0_; clear n0_ n1_ m0_; clear hz2 hz3 hz4 hz5; have hz7 : w6.cell? ⟨go, 0, none⟩ = some (.slice none 0 0) := (blk_cell (Ch.blk CH.out 0 rfl) 0).trans rfl; have hz8 := blk_frozen (Ch.blk CH.out 0 rfl) 0; have hz9 : w6.cell? ⟨go, 1, none⟩ = some (.slice none 0 0) := (blk_cell (Ch.blk CH.out 0 rfl) 1).trans rfl; have hz10 := blk_frozen (Ch.blk CH.out 0 rfl) 1; have hz11 : w6.cell? ⟨gr, 0, none⟩ = some (.slice A0_0 l0_0.length c0_0) := (blk_cell (Ch.blk CH.out 1 rfl) 0).trans rfl; have hz12 := blk_frozen (Ch.blk CH.out 1 rfl) 0; have hz13 : w6.cell? ⟨gr, 1, none⟩ = some (.slice A0_1 l0_1.length c0_1) := (blk_cell (Ch.blk CH.out 1 rfl) 1).trans rfl; have hz14 := blk_frozen (Ch.blk CH.out 1 rfl) 1)
   | ((with_reducible refine gate_callee (f := 16) rfl ?_); refine goesL_ (some 18) rfl rfl Try.func16 (by kernel_rfl) rfl #[.agg #[.slice A0_0 l0_0.length c0_0, .slice A0_1 l0_1.length c0_1]] rfl (by (try simp only [List.map_toArray, List.map_cons, List.map_nil]); first | done | rfl) ?_; (with_reducible refine (impl_RightsOk.calls k _ _ l0_0 _ _ l0_1 false _ ?side1 ?side2 ?side3 ?side4 A1.out).mono ?_); (case side1 => repeat (first | exact (Kd.C_below HR0_0.out (by repeat (first | exact HB.out | apply pw_below_drewN | apply below_drew1))) | (with_reducible refine Kd.C_drewN ?_ _) | (with_reducible refine Kd.C_drew ?_))); (case side2 => exact HC0_0.out); (case side3 => repeat (first | exact (Kd.C_below HR0_1.out (by repeat (first | exact HB.out | apply pw_below_drewN | apply below_drew1))) | (with_reducible refine Kd.C_drewN ?_ _) | (with_reducible refine Kd.C_drew ?_))); (case side4 => exact HC0_1.out); rintro e w15 ⟨rfl, hb⟩; refine ⟨_, rfl, ?_⟩; have n0_ := k0 (Ch.below (by repeat (first | exact CH.out | apply Ch.drewN | apply Ch.drew)) hb : Ch w15 [bk go #[.slice none 0 0, .slice none 0 0] 28, bk gr #[.slice A0_0 l0_0.length c0_0, .slice A0_1 l0_1.length c0_1] 28]); have n1_ := k0 (below_step (by repeat (first | exact HB.out | apply pw_below_drewN | apply below_drew1)) hb : Below w.heap.size w w15); clear CH HB hb; have CH := n0_; have HB := n1_; clear n0_ n1_ ; clear hz7 hz8 hz9 hz10 hz11 hz12 hz13 hz14; have hz16 : w15.cell? ⟨go, 0, none⟩ = some (.slice none 0 0) := (blk_cell (Ch.blk CH.out 0 rfl) 0).trans rfl; have hz17 := blk_frozen (Ch.blk CH.out 0 rfl) 0; have hz18 : w15.cell? ⟨go, 1, none⟩ = some (.slice none 0 0) := (blk_cell (Ch.blk CH.out 0 rfl) 1).trans rfl; have hz19 := blk_frozen (Ch.blk CH.out 0 rfl) 1; have hz20 : w15.cell? ⟨gr, 0, none⟩ = some (.slice A0_0 l0_0.length c0_0) := (blk_cell (Ch.blk CH.out 1 rfl) 0).trans rfl; have hz21 := blk_frozen (Ch.blk CH.out 1 rfl) 0; have hz22 : w15.cell? ⟨gr, 1, none⟩ = some (.slice A0_1 l0_1.length c0_1) := (blk_cell (Ch.blk CH.out 1 rfl) 1).trans rfl; have hz23 := blk_frozen (Ch.blk CH.out 1 rfl) 1)
   | ((with_reducible refine gate_store (t := 28) (p := 10) rfl ?_); refine store_event (t := 28) (p := 10) (v := ?vo_w24) (w1 := ?ww_w24) ?hg ?ho ?hn ?hr ?_; (case ho => rfl); (case hg => rfl); (case hn => rfl); (case hr => first | (go_simp; done) | (go_simp; rfl)); intro w24 hw; have n0_ := k0 (by rw [hw]; exact Ch.to (Ch.set1 (Ch.set1 (by repeat (first | exact CH.out | apply Ch.drewN | apply Ch.drew)) 0 rfl 0 (.slice none 0 0) #[.slice none 0 0, .slice none 0 0] rfl) 0 rfl 1 (.slice none 0 0) #[.slice none 0 0, .slice none 0 0] rfl) rfl : Ch w24 [bk go #[.slice none 0 0, .slice none 0 0] 28, bk gr #[.slice A0_0 l0_0.length c0_0, .slice A0_1 l0_1.length c0_1] 28]); have n1_ := k0 (by rw [hw]; exact (below_set (below_set (by repeat (first | exact HB.out | apply pw_below_drewN | apply below_drew1)) GE_go.out) GE_go.out) : Below w.heap.size w w24); clear CH HB hw; have CH := n0_; have HB := n1_; clear n0_ n1_ ; clear hz16 hz17 hz18 hz19 hz20 hz21 hz22 hz23; have hz25 : w24.cell? ⟨go, 0, none⟩ = some (.slice none 0 0) := (blk_cell (Ch.blk CH.out 0 rfl) 0).trans rfl; have hz26 := blk_frozen (Ch.blk CH.out 0 rfl) 0; have hz27 : w24.cell? ⟨go, 1, none⟩ = some (.slice none 0 0) := (blk_cell (Ch.blk CH.out 0 rfl) 1).trans rfl; have hz28 := blk_frozen (Ch.blk CH.out 0 rfl) 1; have hz29 : w24.cell? ⟨gr, 0, none⟩ = some (.slice A0_0 l0_0.length c0_0) := (blk_cell (Ch.blk CH.out 1 rfl) 0).trans rfl; have hz30 := blk_frozen (Ch.blk CH.out 1 rfl) 0; have hz31 : w24.cell? ⟨gr, 1, none⟩ = some (.slice A0_1 l0_1.length c0_1) := (blk_cell (Ch.blk CH.out 1 rfl) 1).trans rfl; have hz32 := blk_frozen (Ch.blk CH.out 1 rfl) 1))
  refine bodyPost_ret (results_ct rfl _ _ go 28 #[.slice none 0 0, .slice none 0 0] (0, 0) _ rfl (Ch.blk CH.out 0 rfl) Try.underlying28 rfl (by kernel_rfl)) rfl ?_
  exact ⟨_, _, rfl, Kd.S_nil _ _ _ _ _, Kd.R_nil _ _ _ _ _, HB.out⟩
 | true =>
  rw [if_pos rfl] at h
  replace h := Option.bind_eq_some_iff.mp h
  obtain ⟨t2, A20, h⟩ := h
  have A2 := Aside0.mk A20
  clear A20
  cases t2 with
  | false =>
   rw [if_neg (by decide)] at h
   simp only [Option.some.injEq, Prod.mk.injEq] at h
   obtain ⟨rfl, rfl, rfl⟩ := h
   go_enter Try.func59, Try.ntmps59
   go_wp2_with (first
    | ((with_reducible refine gate_dst (N := 5) rfl ?_); refine kE (N := 5) (cs := #[.slice A0_0 l0_0.length c0_0, .slice A0_1 l0_1.length c0_1]) (t := 28) ?_; intro gr hg w33 hbox hb; have n0_ := k0 (Ch.box (by repeat (first | exact CH.out | apply Ch.drewN | apply Ch.drew)) hg hbox hb : Ch w33 [bk gr #[.slice A0_0 l0_0.length c0_0, .slice A0_1 l0_1.length c0_1] 28]); have n1_ := k0 (below_step (by repeat (first | exact HB.out | apply pw_below_drewN | apply below_drew1)) hb : Below w.heap.size w w33); have m0_ := k0 (by rw [hg]; exact HB.out.size : w.heap.size ≤ gr); clear CH HB hb hbox hg; have CH := n0_; have HB := n1_; have GE_gr := m0_; clear n0_ n1_ m0_; have hz34 : w33.cell? ⟨gr, 0, none⟩ = some (.slice A0_0 l0_0.length c0_0) := (blk_cell (Ch.blk CH.out 0 rfl) 0).trans rfl; have hz35 := blk_frozen (Ch.blk CH.out 0 rfl) 0; have hz36 : w33.cell? ⟨gr, 1, none⟩ = some (.slice A0_1 l0_1.length c0_1) := (blk_cell (Ch.blk CH.out 0 rfl) 1).trans rfl; have hz37 := blk_frozen (Ch.blk CH.out 0 rfl) 1)
    | ((with_reducible refine gate_dst (N := 10) rfl ?_); refine kE (N := 10) (cs := #[.slice none 0 0, .slice none 0 0]) (t := 28) ?_; intro go hg w38 hbox hb; have n0_ := k0 (Ch.box (by repeat (first | exact CH.out | apply Ch.drewN | apply Ch.drew)) hg hbox hb : Ch w38 [bk go #[.slice none 0 0, .slice none 0 0] 28, bk gr #[.slice A0_0 l0_0.length c0_0, .slice A0_1 l0_1.length c0_1] 28]); have n1_ := k0 (below_step (by repeat (first | exact HB.out | apply pw_below_drewN | apply below_drew1)) hb : Below w.heap.size w w38); have m0_ := k0 (by rw [hg]; exact HB.out.size : w.heap.size ≤ go); clear CH HB hb hbox hg; have CH := n0_; have HB := n1_; have GE_go := m0_; clear n0_ n1_ m0_; clear hz34 hz35 hz36 hz37; have hz39 : w38.cell? ⟨go, 0, none⟩ = some (.slice none 0 0) := (blk_cell (Ch.blk CH.out 0 rfl) 0).trans rfl; have hz40 := blk_frozen (Ch.blk CH.out 0 rfl) 0; have hz41 : w38.cell? ⟨go, 1, none⟩ = some (.slice none 0 0) := (blk_cell (Ch.blk CH.out 0 rfl) 1).trans rfl; have hz42 := blk_frozen (Ch.blk CH.out 0 rfl) 1; have hz43 : w38.cell? ⟨gr, 0, none⟩ = some (.slice A0_0 l0_0.length c0_0) := (blk_cell (Ch.blk CH.out 1 rfl) 0).trans rfl; have hz44 := blk_frozen (Ch.blk CH.out 1 rfl) 0; have hz45 : w38.cell? ⟨gr, 1, none⟩ = some (.slice A0_1 l0_1.length c0_1) := (blk_cell (Ch.blk CH.out 1 rfl) 1).trans rfl; have hz46 := blk_frozen (Ch.blk CH.out 1 rfl) 1)
    | ((with_reducible refine gate_callee (f := 16) rfl ?_); refine goesL_ (some 18) rfl rfl Try.func16 (by kernel_rfl) rfl #[.agg #[.slice A0_0 l0_0.length c0_0, .slice A0_1 l0_1.length c0_1]] rfl (by (try simp only [List.map_toArray, List.map_cons, List.map_nil]); first | done | rfl) ?_; (with_reducible refine (impl_RightsOk.calls k _ _ l0_0 _ _ l0_1 true _ ?side1 ?side2 ?side3 ?side4 A1.out).mono ?_); (case side1 => repeat (first | exact (Kd.C_below HR0_0.out (by repeat (first | exact HB.out | apply pw_below_drewN | apply below_drew1))) | (with_reducible refine Kd.C_drewN ?_ _) | (with_reducible refine Kd.C_drew ?_))); (case side2 => exact HC0_0.out); (case side3 => repeat (first | exact (Kd.C_below HR0_1.out (by repeat (first | exact HB.out | apply pw_below_drewN | apply below_drew1))) | (with_reducible refine Kd.C_drewN ?_ _) | (with_reducible refine Kd.C_drew ?_))); (case side4 => exact HC0_1.out); rintro e w47 ⟨rfl, hb⟩; refine ⟨_, rfl, ?_⟩; have n0_ := k0 (Ch.below (by repeat (first | exact CH.out | apply Ch.drewN | apply Ch.drew)) hb : Ch w47 [bk go #[.slice none 0 0, .slice none 0 0] 28, bk gr #[.slice A0_0 l0_0.length c0_0, .slice A0_1 l0_1.length c0_1] 28]); have n1_ := k0 (below_step (by repeat (first | exact HB.out | apply pw_below_drewN | apply below_drew1)) hb : Below w.heap.size w w47); clear CH HB hb; have CH := n0_; have HB := n1_; clear n0_ n1_ ; clear hz39 hz40 hz41 hz42 hz43 hz44 hz45 hz46; have hz48 : w47.cell? ⟨go, 0, none⟩ = some (.slice none 0 0) := (blk_cell (Ch.blk CH.out 0 rfl) 0).trans rfl; have hz49 := blk_frozen (Ch.blk CH.out 0 rfl) 0; have hz50 : w47.cell? ⟨go, 1, none⟩ = some (.slice none 0 0) := (blk_cell (Ch.blk CH.out 0 rfl) 1).trans rfl; have hz51 := blk_frozen (Ch.blk CH.out 0 rfl) 1; have hz52 : w47.cell? ⟨gr, 0, none⟩ = some (.slice A0_0 l0_0.length c0_0) := (blk_cell (Ch.blk CH.out 1 rfl) 0).trans rfl; have hz53 := blk_frozen (Ch.blk CH.out 1 rfl) 0; have hz54 : w47.cell? ⟨gr, 1, none⟩ = some (.slice A0_1 l0_1.length c0_1) := (blk_cell (Ch.blk CH.out 1 rfl) 1).trans rfl; have hz55 := blk_frozen (Ch.blk CH.out 1 rfl) 1)
    | (go_at_call 44; (with_reducible refine (impl_in.calls a1 0 (wrap64 ((l0_1.length : Int) - 1)) false _ A2.out).mono ?_); rintro e w' ⟨rfl, ⟨nd56, rfl⟩⟩)
    | ((with_reducible refine gate_store (t := 28) (p := 10) rfl ?_); refine store_event (t := 28) (p := 10) (v := ?vo_w57) (w1 := ?ww_w57) ?hg ?ho ?hn ?hr ?_; (case ho => rfl); (case hg => rfl); (case hn => rfl); (case hr => first | (go_simp; done) | (go_simp; rfl)); intro w57 hw; have n0_ := k0 (by rw [hw]; exact Ch.to (Ch.set1 (Ch.set1 (by repeat (first | exact CH.out | apply Ch.drewN | apply Ch.drew)) 0 rfl 0 (.slice none 0 0) #[.slice none 0 0, .slice none 0 0] rfl) 0 rfl 1 (.slice none 0 0) #[.slice none 0 0, .slice none 0 0] rfl) rfl : Ch w57 [bk go #[.slice none 0 0, .slice none 0 0] 28, bk gr #[.slice A0_0 l0_0.length c0_0, .slice A0_1 l0_1.length c0_1] 28]); have n1_ := k0 (by rw [hw]; exact (below_set (below_set (by repeat (first | exact HB.out | apply pw_below_drewN | apply below_drew1)) GE_go.out) GE_go.out) : Below w.heap.size w w57); clear CH HB hw; have CH := n0_; have HB := n1_; clear n0_ n1_ ; clear hz48 hz49 hz50 hz51 hz52 hz53 hz54 hz55; have hz58 : w57.cell? ⟨go, 0, none⟩ = some (.slice none 0 0) := (blk_cell (Ch.blk CH.out 0 rfl) 0).trans rfl; have hz59 := blk_frozen (Ch.blk CH.out 0 rfl) 0; have hz60 : w57.cell? ⟨go, 1, none⟩ = some (.slice none 0 0) := (blk_cell (Ch.blk CH.out 0 rfl) 1).trans rfl; have hz61 := blk_frozen (Ch.blk CH.out 0 rfl) 1; have hz62 : w57.cell? ⟨gr, 0, none⟩ = some (.slice A0_0 l0_0.length c0_0) := (blk_cell (Ch.blk CH.out 1 rfl) 0).trans rfl; have hz63 := blk_frozen (Ch.blk CH.out 1 rfl) 0; have hz64 : w57.cell? ⟨gr, 1, none⟩ = some (.slice A0_1 l0_1.length c0_1) := (blk_cell (Ch.blk CH.out 1 rfl) 1).trans rfl; have hz65 := blk_frozen (Ch.blk CH.out 1 rfl) 1))
   refine bodyPost_ret (results_ct rfl _ _ go 28 #[.slice none 0 0, .slice none 0 0] (0, 0) _ rfl (Ch.blk CH.out 0 rfl) Try.underlying28 rfl (by kernel_rfl)) rfl ?_
   exact ⟨_, _, rfl, Kd.S_nil _ _ _ _ _, Kd.R_nil _ _ _ _ _, HB.out⟩
  | true =>
   rw [if_pos rfl] at h
   replace h := Option.bind_eq_some_iff.mp h
   obtain ⟨t3, A30, h⟩ := h
   have A3 := Aside0.mk A30
   clear A30
   cases t3 with
   | false =>
    exact absurd (A2.out.symm.trans A3.out) (by simp)
   | true =>
    rw [if_pos rfl] at h
    replace h := Option.bind_eq_some_iff.mp h
    obtain ⟨t4, A40, h⟩ := h
    have A4 := Aside0.mk A40
    clear A40
    cases t4 with
    | false =>
     rw [if_neg (by decide)] at h
     simp only [Option.some.injEq, Prod.mk.injEq] at h
     obtain ⟨rfl, rfl, rfl⟩ := h
     go_enter Try.func59, Try.ntmps59
     go_wp2_with (first
      | ((with_reducible refine gate_dst (N := 5) rfl ?_); refine kE (N := 5) (cs := #[.slice A0_0 l0_0.length c0_0, .slice A0_1 l0_1.length c0_1]) (t := 28) ?_; intro gr hg w66 hbox hb; have n0_ := k0 (Ch.box (by repeat (first | exact CH.out | apply Ch.drewN | apply Ch.drew)) hg hbox hb : Ch w66 [bk gr #[.slice A0_0 l0_0.length c0_0, .slice A0_1 l0_1.length c0_1] 28]); have n1_ := k0 (below_step (by repeat (first | exact HB.out | apply pw_below_drewN | apply below_drew1)) hb : Below w.heap.size w w66); have m0_ := k0 (by rw [hg]; exact HB.out.size : w.heap.size ≤ gr); clear CH HB hb hbox hg; have CH := n0_; have HB := n1_; have GE_gr := m0_; clear n0_ n1_ m0_; have hz67 : w66.cell? ⟨gr, 0, none⟩ = some (.slice A0_0 l0_0.length c0_0) := (blk_cell (Ch.blk CH.out 0 rfl) 0).trans rfl; have hz68 := blk_frozen (Ch.blk CH.out 0 rfl) 0; have hz69 : w66.cell? ⟨gr, 1, none⟩ = some (.slice A0_1 l0_1.length c0_1) := (blk_cell (Ch.blk CH.out 0 rfl) 1).trans rfl; have hz70 := blk_frozen (Ch.blk CH.out 0 rfl) 1)
      | ((with_reducible refine gate_dst (N := 10) rfl ?_); refine kE (N := 10) (cs := #[.slice none 0 0, .slice none 0 0]) (t := 28) ?_; intro go hg w71 hbox hb; have n0_ := k0 (Ch.box (by repeat (first | exact CH.out | apply Ch.drewN | apply Ch.drew)) hg hbox hb : Ch w71 [bk go #[.slice none 0 0, .slice none 0 0] 28, bk gr #[.slice A0_0 l0_0.length c0_0, .slice A0_1 l0_1.length c0_1] 28]); have n1_ := k0 (below_step (by repeat (first | exact HB.out | apply pw_below_drewN | apply below_drew1)) hb : Below w.heap.size w w71); have m0_ := k0 (by rw [hg]; exact HB.out.size : w.heap.size ≤ go); clear CH HB hb hbox hg; have CH := n0_; have HB := n1_; have GE_go := m0_; clear n0_ n1_ m0_; clear hz67 hz68 hz69 hz70; have hz72 : w71.cell? ⟨go, 0, none⟩ = some (.slice none 0 0) := (blk_cell (Ch.blk CH.out 0 rfl) 0).trans rfl; have hz73 := blk_frozen (Ch.blk CH.out 0 rfl) 0; have hz74 : w71.cell? ⟨go, 1, none⟩ = some (.slice none 0 0) := (blk_cell (Ch.blk CH.out 0 rfl) 1).trans rfl; have hz75 := blk_frozen (Ch.blk CH.out 0 rfl) 1; have hz76 : w71.cell? ⟨gr, 0, none⟩ = some (.slice A0_0 l0_0.length c0_0) := (blk_cell (Ch.blk CH.out 1 rfl) 0).trans rfl; have hz77 := blk_frozen (Ch.blk CH.out 1 rfl) 0; have hz78 : w71.cell? ⟨gr, 1, none⟩ = some (.slice A0_1 l0_1.length c0_1) := (blk_cell (Ch.blk CH.out 1 rfl) 1).trans rfl; have hz79 := blk_frozen (Ch.blk CH.out 1 rfl) 1)
      | ((with_reducible refine gate_callee (f := 16) rfl ?_); refine goesL_ (some 18) rfl rfl Try.func16 (by kernel_rfl) rfl #[.agg #[.slice A0_0 l0_0.length c0_0, .slice A0_1 l0_1.length c0_1]] rfl (by (try simp only [List.map_toArray, List.map_cons, List.map_nil]); first | done | rfl) ?_; (with_reducible refine (impl_RightsOk.calls k _ _ l0_0 _ _ l0_1 true _ ?side1 ?side2 ?side3 ?side4 A1.out).mono ?_); (case side1 => repeat (first | exact (Kd.C_below HR0_0.out (by repeat (first | exact HB.out | apply pw_below_drewN | apply below_drew1))) | (with_reducible refine Kd.C_drewN ?_ _) | (with_reducible refine Kd.C_drew ?_))); (case side2 => exact HC0_0.out); (case side3 => repeat (first | exact (Kd.C_below HR0_1.out (by repeat (first | exact HB.out | apply pw_below_drewN | apply below_drew1))) | (with_reducible refine Kd.C_drewN ?_ _) | (with_reducible refine Kd.C_drew ?_))); (case side4 => exact HC0_1.out); rintro e w80 ⟨rfl, hb⟩; refine ⟨_, rfl, ?_⟩; have n0_ := k0 (Ch.below (by repeat (first | exact CH.out | apply Ch.drewN | apply Ch.drew)) hb : Ch w80 [bk go #[.slice none 0 0, .slice none 0 0] 28, bk gr #[.slice A0_0 l0_0.length c0_0, .slice A0_1 l0_1.length c0_1] 28]); have n1_ := k0 (below_step (by repeat (first | exact HB.out | apply pw_below_drewN | apply below_drew1)) hb : Below w.heap.size w w80); clear CH HB hb; have CH := n0_; have HB := n1_; clear n0_ n1_ ; clear hz72 hz73 hz74 hz75 hz76 hz77 hz78 hz79; have hz81 : w80.cell? ⟨go, 0, none⟩ = some (.slice none 0 0) := (blk_cell (Ch.blk CH.out 0 rfl) 0).trans rfl; have hz82 := blk_frozen (Ch.blk CH.out 0 rfl) 0; have hz83 : w80.cell? ⟨go, 1, none⟩ = some (.slice none 0 0) := (blk_cell (Ch.blk CH.out 0 rfl) 1).trans rfl; have hz84 := blk_frozen (Ch.blk CH.out 0 rfl) 1; have hz85 : w80.cell? ⟨gr, 0, none⟩ = some (.slice A0_0 l0_0.length c0_0) := (blk_cell (Ch.blk CH.out 1 rfl) 0).trans rfl; have hz86 := blk_frozen (Ch.blk CH.out 1 rfl) 0; have hz87 : w80.cell? ⟨gr, 1, none⟩ = some (.slice A0_1 l0_1.length c0_1) := (blk_cell (Ch.blk CH.out 1 rfl) 1).trans rfl; have hz88 := blk_frozen (Ch.blk CH.out 1 rfl) 1)
      | (go_at_call 44; (with_reducible refine (impl_in.calls a1 0 (wrap64 ((l0_1.length : Int) - 1)) true _ A2.out).mono ?_); rintro e w' ⟨rfl, ⟨nd89, rfl⟩⟩)
      | (go_at_call 44; (with_reducible refine (impl_in.calls a1 0 (wrap64 ((l0_1.length : Int) - 1)) true _ A3.out).mono ?_); rintro e w' ⟨rfl, ⟨nd90, rfl⟩⟩)
      | (go_at_call 69; (with_reducible refine (impl_IsAmt.calls a3 false _ A4.out).mono ?_); rintro e w' ⟨rfl, ⟨nd91, rfl⟩⟩)
      | ((with_reducible refine gate_store (t := 28) (p := 10) rfl ?_); refine store_event (t := 28) (p := 10) (v := ?vo_w92) (w1 := ?ww_w92) ?hg ?ho ?hn ?hr ?_; (case ho => rfl); (case hg => rfl); (case hn => rfl); (case hr => first | (go_simp; done) | (go_simp; rfl)); intro w92 hw; have n0_ := k0 (by rw [hw]; exact Ch.to (Ch.set1 (Ch.set1 (by repeat (first | exact CH.out | apply Ch.drewN | apply Ch.drew)) 0 rfl 0 (.slice none 0 0) #[.slice none 0 0, .slice none 0 0] rfl) 0 rfl 1 (.slice none 0 0) #[.slice none 0 0, .slice none 0 0] rfl) rfl : Ch w92 [bk go #[.slice none 0 0, .slice none 0 0] 28, bk gr #[.slice A0_0 l0_0.length c0_0, .slice A0_1 l0_1.length c0_1] 28]); have n1_ := k0 (by rw [hw]; exact (below_set (below_set (by repeat (first | exact HB.out | apply pw_below_drewN | apply below_drew1)) GE_go.out) GE_go.out) : Below w.heap.size w w92); clear CH HB hw; have CH := n0_; have HB := n1_; clear n0_ n1_ ; clear hz81 hz82 hz83 hz84 hz85 hz86 hz87 hz88; have hz93 : w92.cell? ⟨go, 0, none⟩ = some (.slice none 0 0) := (blk_cell (Ch.blk CH.out 0 rfl) 0).trans rfl; have hz94 := blk_frozen (Ch.blk CH.out 0 rfl) 0; have hz95 : w92.cell? ⟨go, 1, none⟩ = some (.slice none 0 0) := (blk_cell (Ch.blk CH.out 0 rfl) 1).trans rfl; have hz96 := blk_frozen (Ch.blk CH.out 0 rfl) 1; have hz97 : w92.cell? ⟨gr, 0, none⟩ = some (.slice A0_0 l0_0.length c0_0) := (blk_cell (Ch.blk CH.out 1 rfl) 0).trans rfl; have hz98 := blk_frozen (Ch.blk CH.out 1 rfl) 0; have hz99 : w92.cell? ⟨gr, 1, none⟩ = some (.slice A0_1 l0_1.length c0_1) := (blk_cell (Ch.blk CH.out 1 rfl) 1).trans rfl; have hz100 := blk_frozen (Ch.blk CH.out 1 rfl) 1))
     refine bodyPost_ret (results_ct rfl _ _ go 28 #[.slice none 0 0, .slice none 0 0] (0, 0) _ rfl (Ch.blk CH.out 0 rfl) Try.underlying28 rfl (by kernel_rfl)) rfl ?_
     exact ⟨_, _, rfl, Kd.S_nil _ _ _ _ _, Kd.R_nil _ _ _ _ _, HB.out⟩
    | true =>
     rw [if_pos rfl] at h
     replace h := Option.bind_eq_some_iff.mp h
     obtain ⟨⟨x0, x1⟩, A50, h⟩ := h
     have A5 := Aside0.mk A50
     clear A50
     replace h := Option.bind_eq_some_iff.mp h
     obtain ⟨⟨u0, u1⟩, A60, h⟩ := h
     have A6 := Aside0.mk A60
     clear A60
     have hu := A6.out
     unfold impl_Mint.upd at hu
     dsimp only at hu
     by_cases q0 : 0 ≤ a1
     case neg => rw [if_neg q0] at hu; cases hu
     rw [if_pos q0] at hu
     by_cases q1 : a1 < (x0.length : Int)
     case neg => rw [if_neg q1] at hu; cases hu
     rw [if_pos q1] at hu
     by_cases q3 : a1 < ((x0.getD a1.toNat []).length : Int)
     case neg => rw [if_neg q3] at hu; cases hu
     rw [if_pos q3] at hu
     simp only [Option.some.injEq, Prod.mk.injEq] at hu
     obtain ⟨eu0, eu1⟩ := hu
     have Q0 := Aside0.mk q0
     have Q1 := Aside0.mk q1
     have Q3 := Aside0.mk q3
     have E0 := Aside0.mk eu0.symm
     have E1 := Aside0.mk eu1.symm
     clear q0 q1 q3 eu0 eu1
     replace h := Option.bind_eq_some_iff.mp h
     obtain ⟨t7, A70, h⟩ := h
     have A7 := Aside0.mk A70
     clear A70
     have ex : x1 = u1 := E1.out.symm
     subst ex
     cases t7 with
     | false =>
      rw [if_neg (by decide)] at h
      simp only [Option.some.injEq, Prod.mk.injEq] at h
      obtain ⟨rfl, rfl, rfl⟩ := h
      go_enter Try.func59, Try.ntmps59
      go_wp2_with (first
       | ((with_reducible refine gate_dst (N := 5) rfl ?_); refine kE (N := 5) (cs := #[.slice A0_0 l0_0.length c0_0, .slice A0_1 l0_1.length c0_1]) (t := 28) ?_; intro gr hg w101 hbox hb; have n0_ := k0 (Ch.box (by repeat (first | exact CH.out | apply Ch.drewN | apply Ch.drew)) hg hbox hb : Ch w101 [bk gr #[.slice A0_0 l0_0.length c0_0, .slice A0_1 l0_1.length c0_1] 28]); have n1_ := k0 (below_step (by repeat (first | exact HB.out | apply pw_below_drewN | apply below_drew1)) hb : Below w.heap.size w w101); have m0_ := k0 (by rw [hg]; exact HB.out.size : w.heap.size ≤ gr); clear CH HB hb hbox hg; have CH := n0_; have HB := n1_; have GE_gr := m0_; clear n0_ n1_ m0_; have hz102 : w101.cell? ⟨gr, 0, none⟩ = some (.slice A0_0 l0_0.length c0_0) := (blk_cell (Ch.blk CH.out 0 rfl) 0).trans rfl; have hz103 := blk_frozen (Ch.blk CH.out 0 rfl) 0; have hz104 : w101.cell? ⟨gr, 1, none⟩ = some (.slice A0_1 l0_1.length c0_1) := (blk_cell (Ch.blk CH.out 0 rfl) 1).trans rfl; have hz105 := blk_frozen (Ch.blk CH.out 0 rfl) 1)
       | ((with_reducible refine gate_dst (N := 10) rfl ?_); refine kE (N := 10) (cs := #[.slice none 0 0, .slice none 0 0]) (t := 28) ?_; intro go hg w106 hbox hb; have n0_ := k0 (Ch.box (by repeat (first | exact CH.out | apply Ch.drewN | apply Ch.drew)) hg hbox hb : Ch w106 [bk go #[.slice none 0 0, .slice none 0 0] 28, bk gr #[.slice A0_0 l0_0.length c0_0, .slice A0_1 l0_1.length c0_1] 28]); have n1_ := k0 (below_step (by repeat (first | exact HB.out | apply pw_below_drewN | apply below_drew1)) hb : Below w.heap.size w w106); have m0_ := k0 (by rw [hg]; exact HB.out.size : w.heap.size ≤ go); clear CH HB hb hbox hg; have CH := n0_; have HB := n1_; have GE_go := m0_; clear n0_ n1_ m0_; clear hz102 hz103 hz104 hz105; have hz107 : w106.cell? ⟨go, 0, none⟩ = some (.slice none 0 0) := (blk_cell (Ch.blk CH.out 0 rfl) 0).trans rfl; have hz108 := blk_frozen (Ch.blk CH.out 0 rfl) 0; have hz109 : w106.cell? ⟨go, 1, none⟩ = some (.slice none 0 0) := (blk_cell (Ch.blk CH.out 0 rfl) 1).trans rfl; have hz110 := blk_frozen (Ch.blk CH.out 0 rfl) 1; have hz111 : w106.cell? ⟨gr, 0, none⟩ = some (.slice A0_0 l0_0.length c0_0) := (blk_cell (Ch.blk CH.out 1 rfl) 0).trans rfl; have hz112 := blk_frozen (Ch.blk CH.out 1 rfl) 0; have hz113 : w106.cell? ⟨gr, 1, none⟩ = some (.slice A0_1 l0_1.length c0_1) := (blk_cell (Ch.blk CH.out 1 rfl) 1).trans rfl; have hz114 := blk_frozen (Ch.blk CH.out 1 rfl) 1)
       | ((with_reducible refine gate_callee (f := 16) rfl ?_); refine goesL_ (some 18) rfl rfl Try.func16 (by kernel_rfl) rfl #[.agg #[.slice A0_0 l0_0.length c0_0, .slice A0_1 l0_1.length c0_1]] rfl (by (try simp only [List.map_toArray, List.map_cons, List.map_nil]); first | done | rfl) ?_; (with_reducible refine (impl_RightsOk.calls k _ _ l0_0 _ _ l0_1 true _ ?side1 ?side2 ?side3 ?side4 A1.out).mono ?_); (case side1 => repeat (first | exact (Kd.C_below HR0_0.out (by repeat (first | exact HB.out | apply pw_below_drewN | apply below_drew1))) | (with_reducible refine Kd.C_drewN ?_ _) | (with_reducible refine Kd.C_drew ?_))); (case side2 => exact HC0_0.out); (case side3 => repeat (first | exact (Kd.C_below HR0_1.out (by repeat (first | exact HB.out | apply pw_below_drewN | apply below_drew1))) | (with_reducible refine Kd.C_drewN ?_ _) | (with_reducible refine Kd.C_drew ?_))); (case side4 => exact HC0_1.out); rintro e w115 ⟨rfl, hb⟩; refine ⟨_, rfl, ?_⟩; have n0_ := k0 (Ch.below (by repeat (first | exact CH.out | apply Ch.drewN | apply Ch.drew)) hb : Ch w115 [bk go #[.slice none 0 0, .slice none 0 0] 28, bk gr #[.slice A0_0 l0_0.length c0_0, .slice A0_1 l0_1.length c0_1] 28]); have n1_ := k0 (below_step (by repeat (first | exact HB.out | apply pw_below_drewN | apply below_drew1)) hb : Below w.heap.size w w115); clear CH HB hb; have CH := n0_; have HB := n1_; clear n0_ n1_ ; clear hz107 hz108 hz109 hz110 hz111 hz112 hz113 hz114; have hz116 : w115.cell? ⟨go, 0, none⟩ = some (.slice none 0 0) := (blk_cell (Ch.blk CH.out 0 rfl) 0).trans rfl; have hz117 := blk_frozen (Ch.blk CH.out 0 rfl) 0; have hz118 : w115.cell? ⟨go, 1, none⟩ = some (.slice none 0 0) := (blk_cell (Ch.blk CH.out 0 rfl) 1).trans rfl; have hz119 := blk_frozen (Ch.blk CH.out 0 rfl) 1; have hz120 : w115.cell? ⟨gr, 0, none⟩ = some (.slice A0_0 l0_0.length c0_0) := (blk_cell (Ch.blk CH.out 1 rfl) 0).trans rfl; have hz121 := blk_frozen (Ch.blk CH.out 1 rfl) 0; have hz122 : w115.cell? ⟨gr, 1, none⟩ = some (.slice A0_1 l0_1.length c0_1) := (blk_cell (Ch.blk CH.out 1 rfl) 1).trans rfl; have hz123 := blk_frozen (Ch.blk CH.out 1 rfl) 1)
       | (go_at_call 44; (with_reducible refine (impl_in.calls a1 0 (wrap64 ((l0_1.length : Int) - 1)) true _ A2.out).mono ?_); rintro e w' ⟨rfl, ⟨nd124, rfl⟩⟩)
       | (go_at_call 44; (with_reducible refine (impl_in.calls a1 0 (wrap64 ((l0_1.length : Int) - 1)) true _ A3.out).mono ?_); rintro e w' ⟨rfl, ⟨nd125, rfl⟩⟩)
       | (go_at_call 69; (with_reducible refine (impl_IsAmt.calls a3 true _ A4.out).mono ?_); rintro e w' ⟨rfl, ⟨nd126, rfl⟩⟩)
       | ((with_reducible refine gate_callee (f := 53) rfl ?_); refine goesL_ (some 41) rfl rfl Try.func53 (by kernel_rfl) rfl #[.agg #[.slice A0_0 l0_0.length c0_0, .slice A0_1 l0_1.length c0_1]] rfl (by (try simp only [List.map_toArray, List.map_cons, List.map_nil]); first | done | rfl) ?_; (with_reducible refine (impl_copyRights.calls k _ _ l0_0 _ _ l0_1 x0 x1 _ ?side1 ?side2 ?side3 ?side4 A5.out).mono ?_); (case side1 => repeat (first | exact (Kd.C_below HR0_0.out (by repeat (first | exact HB.out | apply pw_below_drewN | apply below_drew1))) | (with_reducible refine Kd.C_drewN ?_ _) | (with_reducible refine Kd.C_drew ?_))); (case side2 => exact HC0_0.out); (case side3 => repeat (first | exact (Kd.C_below HR0_1.out (by repeat (first | exact HB.out | apply pw_below_drewN | apply below_drew1))) | (with_reducible refine Kd.C_drewN ?_ _) | (with_reducible refine Kd.C_drew ?_))); (case side4 => exact HC0_1.out); rintro e w127 ⟨v0_, v1_, rfl, h0_, h1_, hb⟩; refine ⟨_, rfl, ?_⟩; obtain ⟨Aacp, cacp, e0_⟩ := Kd.S_slice h0_; subst e0_; obtain ⟨Abcp, cbcp, e1_⟩ := Kd.R_slice h1_; subst e1_; obtain ⟨lo_cp, hlo_⟩ : ∃ z_ : Nat, z_ = (w115).heap.size := ⟨_, rfl⟩; obtain ⟨hi_cp, hhi_⟩ : ∃ z_ : Nat, z_ = (w127).heap.size := ⟨_, rfl⟩; have n0_ := k0 (by rw [hlo_, hhi_]; exact Ch.to (Ch.madeT (by repeat (first | exact CH.out | apply Ch.drewN | apply Ch.drew)) (by exact HB.out.size) h0_ (fun _ hk => hk) h1_ hb) rfl : Ch w127 [rt w.heap.size (Kd.slice 3 (Kd.int .i64)) 23 (Kd.int .i64) 3 lo_cp hi_cp (.slice Aacp x0.length cacp) (.slice Abcp x1.length cbcp) x0 x1, bk go #[.slice none 0 0, .slice none 0 0] 28, bk gr #[.slice A0_0 l0_0.length c0_0, .slice A0_1 l0_1.length c0_1] 28]); have n1_ := k0 (below_step (by repeat (first | exact HB.out | apply pw_below_drewN | apply below_drew1)) hb : Below w.heap.size w w127); clear CH HB hb h0_ h1_ hlo_ hhi_; have CH := n0_; have HB := n1_; clear n0_ n1_ ; clear hz116 hz117 hz118 hz119 hz120 hz121 hz122 hz123; have hz128 : w127.cell? ⟨go, 0, none⟩ = some (.slice none 0 0) := (blk_cell (Ch.blk CH.out 1 rfl) 0).trans rfl; have hz129 := blk_frozen (Ch.blk CH.out 1 rfl) 0; have hz130 : w127.cell? ⟨go, 1, none⟩ = some (.slice none 0 0) := (blk_cell (Ch.blk CH.out 1 rfl) 1).trans rfl; have hz131 := blk_frozen (Ch.blk CH.out 1 rfl) 1; have hz132 : w127.cell? ⟨gr, 0, none⟩ = some (.slice A0_0 l0_0.length c0_0) := (blk_cell (Ch.blk CH.out 2 rfl) 0).trans rfl; have hz133 := blk_frozen (Ch.blk CH.out 2 rfl) 0; have hz134 : w127.cell? ⟨gr, 1, none⟩ = some (.slice A0_1 l0_1.length c0_1) := (blk_cell (Ch.blk CH.out 2 rfl) 1).trans rfl; have hz135 := blk_frozen (Ch.blk CH.out 2 rfl) 1)
       | ((with_reducible refine gate_dst (N := 13) rfl ?_); refine kE (N := 13) (cs := #[.slice none 0 0, .slice none 0 0]) (t := 28) ?_; intro gp hg w136 hbox hb; have n0_ := k0 (Ch.box (by repeat (first | exact CH.out | apply Ch.drewN | apply Ch.drew)) hg hbox hb : Ch w136 [bk gp #[.slice none 0 0, .slice none 0 0] 28, rt w.heap.size (Kd.slice 3 (Kd.int .i64)) 23 (Kd.int .i64) 3 lo_cp hi_cp (.slice Aacp x0.length cacp) (.slice Abcp x1.length cbcp) x0 x1, bk go #[.slice none 0 0, .slice none 0 0] 28, bk gr #[.slice A0_0 l0_0.length c0_0, .slice A0_1 l0_1.length c0_1] 28]); have n1_ := k0 (below_step (by repeat (first | exact HB.out | apply pw_below_drewN | apply below_drew1)) hb : Below w.heap.size w w136); have m0_ := k0 (by rw [hg]; exact HB.out.size : w.heap.size ≤ gp); clear CH HB hb hbox hg; have CH := n0_; have HB := n1_; have GE_gp := m0_; clear n0_ n1_ m0_; clear hz128 hz129 hz130 hz131 hz132 hz133 hz134 hz135; have hz137 : w136.cell? ⟨gp, 0, none⟩ = some (.slice none 0 0) := (blk_cell (Ch.blk CH.out 0 rfl) 0).trans rfl; have hz138 := blk_frozen (Ch.blk CH.out 0 rfl) 0; have hz139 : w136.cell? ⟨gp, 1, none⟩ = some (.slice none 0 0) := (blk_cell (Ch.blk CH.out 0 rfl) 1).trans rfl; have hz140 := blk_frozen (Ch.blk CH.out 0 rfl) 1; have hz141 : w136.cell? ⟨go, 0, none⟩ = some (.slice none 0 0) := (blk_cell (Ch.blk CH.out 2 rfl) 0).trans rfl; have hz142 := blk_frozen (Ch.blk CH.out 2 rfl) 0; have hz143 : w136.cell? ⟨go, 1, none⟩ = some (.slice none 0 0) := (blk_cell (Ch.blk CH.out 2 rfl) 1).trans rfl; have hz144 := blk_frozen (Ch.blk CH.out 2 rfl) 1; have hz145 : w136.cell? ⟨gr, 0, none⟩ = some (.slice A0_0 l0_0.length c0_0) := (blk_cell (Ch.blk CH.out 3 rfl) 0).trans rfl; have hz146 := blk_frozen (Ch.blk CH.out 3 rfl) 0; have hz147 : w136.cell? ⟨gr, 1, none⟩ = some (.slice A0_1 l0_1.length c0_1) := (blk_cell (Ch.blk CH.out 3 rfl) 1).trans rfl; have hz148 := blk_frozen (Ch.blk CH.out 3 rfl) 1)
       | ((with_reducible refine gate_store (t := 28) (p := 13) rfl ?_); refine store_event (t := 28) (p := 13) (v := ?vo_w149) (w1 := ?ww_w149) ?hg ?ho ?hn ?hr ?_; (case ho => rfl); (case hg => rfl); (case hn => rfl); (case hr => first | (go_simp; done) | (go_simp; rfl)); intro w149 hw; have n0_ := k0 (by rw [hw]; exact Ch.to (Ch.set1 (Ch.set1 (by repeat (first | exact CH.out | apply Ch.drewN | apply Ch.drew)) 0 rfl 0 (.slice Aacp x0.length cacp) #[.slice Aacp x0.length cacp, .slice none 0 0] rfl) 0 rfl 1 (.slice Abcp x1.length cbcp) #[.slice Aacp x0.length cacp, .slice Abcp x1.length cbcp] rfl) rfl : Ch w149 [bk gp #[.slice Aacp x0.length cacp, .slice Abcp x1.length cbcp] 28, rt w.heap.size (Kd.slice 3 (Kd.int .i64)) 23 (Kd.int .i64) 3 lo_cp hi_cp (.slice Aacp x0.length cacp) (.slice Abcp x1.length cbcp) x0 x1, bk go #[.slice none 0 0, .slice none 0 0] 28, bk gr #[.slice A0_0 l0_0.length c0_0, .slice A0_1 l0_1.length c0_1] 28]); have n1_ := k0 (by rw [hw]; exact (below_set (below_set (by repeat (first | exact HB.out | apply pw_below_drewN | apply below_drew1)) GE_gp.out) GE_gp.out) : Below w.heap.size w w149); clear CH HB hw; have CH := n0_; have HB := n1_; clear n0_ n1_ ; clear hz137 hz138 hz139 hz140 hz141 hz142 hz143 hz144 hz145 hz146 hz147 hz148; have hz150 : w149.cell? ⟨gp, 0, none⟩ = some (.slice Aacp x0.length cacp) := (blk_cell (Ch.blk CH.out 0 rfl) 0).trans rfl; have hz151 := blk_frozen (Ch.blk CH.out 0 rfl) 0; have hz152 : w149.cell? ⟨gp, 1, none⟩ = some (.slice Abcp x1.length cbcp) := (blk_cell (Ch.blk CH.out 0 rfl) 1).trans rfl; have hz153 := blk_frozen (Ch.blk CH.out 0 rfl) 1; have hz154 : w149.cell? ⟨go, 0, none⟩ = some (.slice none 0 0) := (blk_cell (Ch.blk CH.out 2 rfl) 0).trans rfl; have hz155 := blk_frozen (Ch.blk CH.out 2 rfl) 0; have hz156 : w149.cell? ⟨go, 1, none⟩ = some (.slice none 0 0) := (blk_cell (Ch.blk CH.out 2 rfl) 1).trans rfl; have hz157 := blk_frozen (Ch.blk CH.out 2 rfl) 1; have hz158 : w149.cell? ⟨gr, 0, none⟩ = some (.slice A0_0 l0_0.length c0_0) := (blk_cell (Ch.blk CH.out 3 rfl) 0).trans rfl; have hz159 := blk_frozen (Ch.blk CH.out 3 rfl) 0; have hz160 : w149.cell? ⟨gr, 1, none⟩ = some (.slice A0_1 l0_1.length c0_1) := (blk_cell (Ch.blk CH.out 3 rfl) 1).trans rfl; have hz161 := blk_frozen (Ch.blk CH.out 3 rfl) 1; obtain ⟨g0, g1, c1, eA_, hc, hb1, hv, hfz, hput⟩ := Ch.rt_elem CH.out 1 rfl a1 a1 Q0.out Q1.out Q0.out Q3.out; subst eA_; have HCc := Aside0.mk hc; clear hc; have HV := Aside0.mk hv; have HFZ := Aside0.mk hfz; have HP := Aside0.mk hput; have HB1 := Aside0.mk hb1; clear hv hfz hput hb1)
       | (go_at_call 60; (with_reducible refine (impl_Mint_1.calls gp gi g0 g1 cacp c1 x0.length (x0.getD a1.toNat []).length a1 (.slice Abcp x1.length cbcp) _ ?side1 ?side2 ?side3 ?side4 ?side5 ?side6).mono ?_); (case side1 => exact Ch.blk CH.out 0 rfl); (case side2 => exact pw_cell_below HB.out HI.out); (case side3 => exact HCc.out); (case side4 => exact Q0.out); (case side5 => exact Q1.out); (case side6 => exact Q3.out); rintro e w' ⟨rfl, ⟨nd162, rfl⟩⟩; have hv := HV.out; have hfz := HFZ.out)
       | ((with_reducible refine gate_store (t := 3) (p := 48) rfl ?_); refine store_event (t := 3) (p := 48) (v := ?vo_w163) (w1 := ?ww_w163) ?hg ?ho ?hn ?hr ?_; (case ho => rfl); (case hg => rfl); (case hn => rfl); (case hr => first | (go_simp; done) | (go_simp; rfl)); intro w163 hw; have n0_ := k0 (by rw [hw, E0.out]; exact Ch.to (Ch.drewN (HP.out _) _) rfl : Ch w163 [bk gp #[.slice (some ⟨g0, 0, none⟩) x0.length cacp, .slice Abcp x1.length cbcp] 28, rt w.heap.size (Kd.slice 3 (Kd.int .i64)) 23 (Kd.int .i64) 3 lo_cp hi_cp (.slice (some ⟨g0, 0, none⟩) x0.length cacp) (.slice Abcp x1.length cbcp) u0 x1, bk go #[.slice none 0 0, .slice none 0 0] 28, bk gr #[.slice A0_0 l0_0.length c0_0, .slice A0_1 l0_1.length c0_1] 28]); have n1_ := k0 (by rw [hw]; exact below_set (by repeat (first | exact HB.out | apply pw_below_drewN | apply below_drew1)) HB1.out : Below w.heap.size w w163); clear CH HB hw hv hfz HP HV HFZ; have CH := n0_; have HB := n1_; clear n0_ n1_ ; have HLN := k0 (by rw [E0.out, List.length_set] : u0.length = x0.length); clear hz150 hz151 hz152 hz153 hz154 hz155 hz156 hz157 hz158 hz159 hz160 hz161; have hz164 : w163.cell? ⟨gp, 0, none⟩ = some (.slice (some ⟨g0, 0, none⟩) x0.length cacp) := (blk_cell (Ch.blk CH.out 0 rfl) 0).trans rfl; have hz165 := blk_frozen (Ch.blk CH.out 0 rfl) 0; have hz166 : w163.cell? ⟨gp, 1, none⟩ = some (.slice Abcp x1.length cbcp) := (blk_cell (Ch.blk CH.out 0 rfl) 1).trans rfl; have hz167 := blk_frozen (Ch.blk CH.out 0 rfl) 1; have hz168 : w163.cell? ⟨go, 0, none⟩ = some (.slice none 0 0) := (blk_cell (Ch.blk CH.out 2 rfl) 0).trans rfl; have hz169 := blk_frozen (Ch.blk CH.out 2 rfl) 0; have hz170 : w163.cell? ⟨go, 1, none⟩ = some (.slice none 0 0) := (blk_cell (Ch.blk CH.out 2 rfl) 1).trans rfl; have hz171 := blk_frozen (Ch.blk CH.out 2 rfl) 1; have hz172 : w163.cell? ⟨gr, 0, none⟩ = some (.slice A0_0 l0_0.length c0_0) := (blk_cell (Ch.blk CH.out 3 rfl) 0).trans rfl; have hz173 := blk_frozen (Ch.blk CH.out 3 rfl) 0; have hz174 : w163.cell? ⟨gr, 1, none⟩ = some (.slice A0_1 l0_1.length c0_1) := (blk_cell (Ch.blk CH.out 3 rfl) 1).trans rfl; have hz175 := blk_frozen (Ch.blk CH.out 3 rfl) 1)
       | ((with_reducible refine gate_callee (f := 16) rfl ?_); refine goesL_ (some 50) rfl rfl Try.func16 (by kernel_rfl) rfl #[.agg #[.slice (some ⟨g0, 0, none⟩) u0.length cacp, .slice Abcp x1.length cbcp]] rfl (by (try simp only [List.map_toArray, List.map_cons, List.map_nil]); first | done | rfl | (rw [HLN.out] <;> rfl)) ?_; (with_reducible refine (impl_RightsOk.calls k _ _ u0 _ _ x1 false _ ?side1 ?side2 ?side3 ?side4 A7.out).mono ?_); (case side1 => repeat (first | exact Ch.rt_C0 CH.out 1 rfl | (with_reducible refine Kd.C_drewN ?_ _) | (with_reducible refine Kd.C_drew ?_))); (case side2 => exact Ch.rt_l0 CH.out 1 rfl); (case side3 => repeat (first | exact Ch.rt_C1 CH.out 1 rfl | (with_reducible refine Kd.C_drewN ?_ _) | (with_reducible refine Kd.C_drew ?_))); (case side4 => exact Ch.rt_l1 CH.out 1 rfl); rintro e w176 ⟨rfl, hb⟩; refine ⟨_, rfl, ?_⟩; have n0_ := k0 (Ch.below (by repeat (first | exact CH.out | apply Ch.drewN | apply Ch.drew)) hb : Ch w176 [bk gp #[.slice (some ⟨g0, 0, none⟩) x0.length cacp, .slice Abcp x1.length cbcp] 28, rt w.heap.size (Kd.slice 3 (Kd.int .i64)) 23 (Kd.int .i64) 3 lo_cp hi_cp (.slice (some ⟨g0, 0, none⟩) x0.length cacp) (.slice Abcp x1.length cbcp) u0 x1, bk go #[.slice none 0 0, .slice none 0 0] 28, bk gr #[.slice A0_0 l0_0.length c0_0, .slice A0_1 l0_1.length c0_1] 28]); have n1_ := k0 (below_step (by repeat (first | exact HB.out | apply pw_below_drewN | apply below_drew1)) hb : Below w.heap.size w w176); clear CH HB hb; have CH := n0_; have HB := n1_; clear n0_ n1_ ; clear hz164 hz165 hz166 hz167 hz168 hz169 hz170 hz171 hz172 hz173 hz174 hz175; have hz177 : w176.cell? ⟨gp, 0, none⟩ = some (.slice (some ⟨g0, 0, none⟩) x0.length cacp) := (blk_cell (Ch.blk CH.out 0 rfl) 0).trans rfl; have hz178 := blk_frozen (Ch.blk CH.out 0 rfl) 0; have hz179 : w176.cell? ⟨gp, 1, none⟩ = some (.slice Abcp x1.length cbcp) := (blk_cell (Ch.blk CH.out 0 rfl) 1).trans rfl; have hz180 := blk_frozen (Ch.blk CH.out 0 rfl) 1; have hz181 : w176.cell? ⟨go, 0, none⟩ = some (.slice none 0 0) := (blk_cell (Ch.blk CH.out 2 rfl) 0).trans rfl; have hz182 := blk_frozen (Ch.blk CH.out 2 rfl) 0; have hz183 : w176.cell? ⟨go, 1, none⟩ = some (.slice none 0 0) := (blk_cell (Ch.blk CH.out 2 rfl) 1).trans rfl; have hz184 := blk_frozen (Ch.blk CH.out 2 rfl) 1; have hz185 : w176.cell? ⟨gr, 0, none⟩ = some (.slice A0_0 l0_0.length c0_0) := (blk_cell (Ch.blk CH.out 3 rfl) 0).trans rfl; have hz186 := blk_frozen (Ch.blk CH.out 3 rfl) 0; have hz187 : w176.cell? ⟨gr, 1, none⟩ = some (.slice A0_1 l0_1.length c0_1) := (blk_cell (Ch.blk CH.out 3 rfl) 1).trans rfl; have hz188 := blk_frozen (Ch.blk CH.out 3 rfl) 1)
       | ((with_reducible refine gate_store (t := 28) (p := 10) rfl ?_); refine store_event (t := 28) (p := 10) (v := ?vo_w189) (w1 := ?ww_w189) ?hg ?ho ?hn ?hr ?_; (case ho => rfl); (case hg => rfl); (case hn => rfl); (case hr => first | (go_simp; done) | (go_simp; rfl)); intro w189 hw; have n0_ := k0 (by rw [hw]; exact Ch.to (Ch.set1 (Ch.set1 (by repeat (first | exact CH.out | apply Ch.drewN | apply Ch.drew)) 2 rfl 0 (.slice none 0 0) #[.slice none 0 0, .slice none 0 0] rfl) 2 rfl 1 (.slice none 0 0) #[.slice none 0 0, .slice none 0 0] rfl) rfl : Ch w189 [bk gp #[.slice (some ⟨g0, 0, none⟩) x0.length cacp, .slice Abcp x1.length cbcp] 28, rt w.heap.size (Kd.slice 3 (Kd.int .i64)) 23 (Kd.int .i64) 3 lo_cp hi_cp (.slice (some ⟨g0, 0, none⟩) x0.length cacp) (.slice Abcp x1.length cbcp) u0 x1, bk go #[.slice none 0 0, .slice none 0 0] 28, bk gr #[.slice A0_0 l0_0.length c0_0, .slice A0_1 l0_1.length c0_1] 28]); have n1_ := k0 (by rw [hw]; exact (below_set (below_set (by repeat (first | exact HB.out | apply pw_below_drewN | apply below_drew1)) GE_go.out) GE_go.out) : Below w.heap.size w w189); clear CH HB hw; have CH := n0_; have HB := n1_; clear n0_ n1_ ; clear hz177 hz178 hz179 hz180 hz181 hz182 hz183 hz184 hz185 hz186 hz187 hz188; have hz190 : w189.cell? ⟨gp, 0, none⟩ = some (.slice (some ⟨g0, 0, none⟩) x0.length cacp) := (blk_cell (Ch.blk CH.out 0 rfl) 0).trans rfl; have hz191 := blk_frozen (Ch.blk CH.out 0 rfl) 0; have hz192 : w189.cell? ⟨gp, 1, none⟩ = some (.slice Abcp x1.length cbcp) := (blk_cell (Ch.blk CH.out 0 rfl) 1).trans rfl; have hz193 := blk_frozen (Ch.blk CH.out 0 rfl) 1; have hz194 : w189.cell? ⟨go, 0, none⟩ = some (.slice none 0 0) := (blk_cell (Ch.blk CH.out 2 rfl) 0).trans rfl; have hz195 := blk_frozen (Ch.blk CH.out 2 rfl) 0; have hz196 : w189.cell? ⟨go, 1, none⟩ = some (.slice none 0 0) := (blk_cell (Ch.blk CH.out 2 rfl) 1).trans rfl; have hz197 := blk_frozen (Ch.blk CH.out 2 rfl) 1; have hz198 : w189.cell? ⟨gr, 0, none⟩ = some (.slice A0_0 l0_0.length c0_0) := (blk_cell (Ch.blk CH.out 3 rfl) 0).trans rfl; have hz199 := blk_frozen (Ch.blk CH.out 3 rfl) 0; have hz200 : w189.cell? ⟨gr, 1, none⟩ = some (.slice A0_1 l0_1.length c0_1) := (blk_cell (Ch.blk CH.out 3 rfl) 1).trans rfl; have hz201 := blk_frozen (Ch.blk CH.out 3 rfl) 1))
      refine bodyPost_ret (results_ct rfl _ _ go 28 #[.slice none 0 0, .slice none 0 0] (0, 0) _ rfl (Ch.blk CH.out 2 rfl) Try.underlying28 rfl (by kernel_rfl)) rfl ?_
      exact ⟨_, _, rfl, Kd.S_nil _ _ _ _ _, Kd.R_nil _ _ _ _ _, HB.out⟩
     | true =>
      rw [if_pos rfl] at h
      simp only [Option.some.injEq, Prod.mk.injEq] at h
      obtain ⟨rfl, rfl, rfl⟩ := h
      go_enter Try.func59, Try.ntmps59
      go_wp2_with (first
       | ((with_reducible refine gate_dst (N := 5) rfl ?_); refine kE (N := 5) (cs := #[.slice A0_0 l0_0.length c0_0, .slice A0_1 l0_1.length c0_1]) (t := 28) ?_; intro gr hg w202 hbox hb; have n0_ := k0 (Ch.box (by repeat (first | exact CH.out | apply Ch.drewN | apply Ch.drew)) hg hbox hb : Ch w202 [bk gr #[.slice A0_0 l0_0.length c0_0, .slice A0_1 l0_1.length c0_1] 28]); have n1_ := k0 (below_step (by repeat (first | exact HB.out | apply pw_below_drewN | apply below_drew1)) hb : Below w.heap.size w w202); have m0_ := k0 (by rw [hg]; exact HB.out.size : w.heap.size ≤ gr); clear CH HB hb hbox hg; have CH := n0_; have HB := n1_; have GE_gr := m0_; clear n0_ n1_ m0_; have hz203 : w202.cell? ⟨gr, 0, none⟩ = some (.slice A0_0 l0_0.length c0_0) := (blk_cell (Ch.blk CH.out 0 rfl) 0).trans rfl; have hz204 := blk_frozen (Ch.blk CH.out 0 rfl) 0; have hz205 : w202.cell? ⟨gr, 1, none⟩ = some (.slice A0_1 l0_1.length c0_1) := (blk_cell (Ch.blk CH.out 0 rfl) 1).trans rfl; have hz206 := blk_frozen (Ch.blk CH.out 0 rfl) 1)
       | ((with_reducible refine gate_dst (N := 10) rfl ?_); refine kE (N := 10) (cs := #[.slice none 0 0, .slice none 0 0]) (t := 28) ?_; intro go hg w207 hbox hb; have n0_ := k0 (Ch.box (by repeat (first | exact CH.out | apply Ch.drewN | apply Ch.drew)) hg hbox hb : Ch w207 [bk go #[.slice none 0 0, .slice none 0 0] 28, bk gr #[.slice A0_0 l0_0.length c0_0, .slice A0_1 l0_1.length c0_1] 28]); have n1_ := k0 (below_step (by repeat (first | exact HB.out | apply pw_below_drewN | apply below_drew1)) hb : Below w.heap.size w w207); have m0_ := k0 (by rw [hg]; exact HB.out.size : w.heap.size ≤ go); clear CH HB hb hbox hg; have CH := n0_; have HB := n1_; have GE_go := m0_; clear n0_ n1_ m0_; clear hz203 hz204 hz205 hz206; have hz208 : w207.cell? ⟨go, 0, none⟩ = some (.slice none 0 0) := (blk_cell (Ch.blk CH.out 0 rfl) 0).trans rfl; have hz209 := blk_frozen (Ch.blk CH.out 0 rfl) 0; have hz210 : w207.cell? ⟨go, 1, none⟩ = some (.slice none 0 0) := (blk_cell (Ch.blk CH.out 0 rfl) 1).trans rfl; have hz211 := blk_frozen (Ch.blk CH.out 0 rfl) 1; have hz212 : w207.cell? ⟨gr, 0, none⟩ = some (.slice A0_0 l0_0.length c0_0) := (blk_cell (Ch.blk CH.out 1 rfl) 0).trans rfl; have hz213 := blk_frozen (Ch.blk CH.out 1 rfl) 0; have hz214 : w207.cell? ⟨gr, 1, none⟩ = some (.slice A0_1 l0_1.length c0_1) := (blk_cell (Ch.blk CH.out 1 rfl) 1).trans rfl; have hz215 := blk_frozen (Ch.blk CH.out 1 rfl) 1)
       | ((with_reducible refine gate_callee (f := 16) rfl ?_); refine goesL_ (some 18) rfl rfl Try.func16 (by kernel_rfl) rfl #[.agg #[.slice A0_0 l0_0.length c0_0, .slice A0_1 l0_1.length c0_1]] rfl (by (try simp only [List.map_toArray, List.map_cons, List.map_nil]); first | done | rfl) ?_; (with_reducible refine (impl_RightsOk.calls k _ _ l0_0 _ _ l0_1 true _ ?side1 ?side2 ?side3 ?side4 A1.out).mono ?_); (case side1 => repeat (first | exact (Kd.C_below HR0_0.out (by repeat (first | exact HB.out | apply pw_below_drewN | apply below_drew1))) | (with_reducible refine Kd.C_drewN ?_ _) | (with_reducible refine Kd.C_drew ?_))); (case side2 => exact HC0_0.out); (case side3 => repeat (first | exact (Kd.C_below HR0_1.out (by repeat (first | exact HB.out | apply pw_below_drewN | apply below_drew1))) | (with_reducible refine Kd.C_drewN ?_ _) | (with_reducible refine Kd.C_drew ?_))); (case side4 => exact HC0_1.out); rintro e w216 ⟨rfl, hb⟩; refine ⟨_, rfl, ?_⟩; have n0_ := k0 (Ch.below (by repeat (first | exact CH.out | apply Ch.drewN | apply Ch.drew)) hb : Ch w216 [bk go #[.slice none 0 0, .slice none 0 0] 28, bk gr #[.slice A0_0 l0_0.length c0_0, .slice A0_1 l0_1.length c0_1] 28]); have n1_ := k0 (below_step (by repeat (first | exact HB.out | apply pw_below_drewN | apply below_drew1)) hb : Below w.heap.size w w216); clear CH HB hb; have CH := n0_; have HB := n1_; clear n0_ n1_ ; clear hz208 hz209 hz210 hz211 hz212 hz213 hz214 hz215; have hz217 : w216.cell? ⟨go, 0, none⟩ = some (.slice none 0 0) := (blk_cell (Ch.blk CH.out 0 rfl) 0).trans rfl; have hz218 := blk_frozen (Ch.blk CH.out 0 rfl) 0; have hz219 : w216.cell? ⟨go, 1, none⟩ = some (.slice none 0 0) := (blk_cell (Ch.blk CH.out 0 rfl) 1).trans rfl; have hz220 := blk_frozen (Ch.blk CH.out 0 rfl) 1; have hz221 : w216.cell? ⟨gr, 0, none⟩ = some (.slice A0_0 l0_0.length c0_0) := (blk_cell (Ch.blk CH.out 1 rfl) 0).trans rfl; have hz222 := blk_frozen (Ch.blk CH.out 1 rfl) 0; have hz223 : w216.cell? ⟨gr, 1, none⟩ = some (.slice A0_1 l0_1.length c0_1) := (blk_cell (Ch.blk CH.out 1 rfl) 1).trans rfl; have hz224 := blk_frozen (Ch.blk CH.out 1 rfl) 1)
       | (go_at_call 44; (with_reducible refine (impl_in.calls a1 0 (wrap64 ((l0_1.length : Int) - 1)) true _ A2.out).mono ?_); rintro e w' ⟨rfl, ⟨nd225, rfl⟩⟩)
       | (go_at_call 44; (with_reducible refine (impl_in.calls a1 0 (wrap64 ((l0_1.length : Int) - 1)) true _ A3.out).mono ?_); rintro e w' ⟨rfl, ⟨nd226, rfl⟩⟩)
       | (go_at_call 69; (with_reducible refine (impl_IsAmt.calls a3 true _ A4.out).mono ?_); rintro e w' ⟨rfl, ⟨nd227, rfl⟩⟩)
       | ((with_reducible refine gate_callee (f := 53) rfl ?_); refine goesL_ (some 41) rfl rfl Try.func53 (by kernel_rfl) rfl #[.agg #[.slice A0_0 l0_0.length c0_0, .slice A0_1 l0_1.length c0_1]] rfl (by (try simp only [List.map_toArray, List.map_cons, List.map_nil]); first | done | rfl) ?_; (with_reducible refine (impl_copyRights.calls k _ _ l0_0 _ _ l0_1 x0 x1 _ ?side1 ?side2 ?side3 ?side4 A5.out).mono ?_); (case side1 => repeat (first | exact (Kd.C_below HR0_0.out (by repeat (first | exact HB.out | apply pw_below_drewN | apply below_drew1))) | (with_reducible refine Kd.C_drewN ?_ _) | (with_reducible refine Kd.C_drew ?_))); (case side2 => exact HC0_0.out); (case side3 => repeat (first | exact (Kd.C_below HR0_1.out (by repeat (first | exact HB.out | apply pw_below_drewN | apply below_drew1))) | (with_reducible refine Kd.C_drewN ?_ _) | (with_reducible refine Kd.C_drew ?_))); (case side4 => exact HC0_1.out); rintro e w228 ⟨v0_, v1_, rfl, h0_, h1_, hb⟩; refine ⟨_, rfl, ?_⟩; obtain ⟨Aacp, cacp, e0_⟩ := Kd.S_slice h0_; subst e0_; obtain ⟨Abcp, cbcp, e1_⟩ := Kd.R_slice h1_; subst e1_; obtain ⟨lo_cp, hlo_⟩ : ∃ z_ : Nat, z_ = (w216).heap.size := ⟨_, rfl⟩; obtain ⟨hi_cp, hhi_⟩ : ∃ z_ : Nat, z_ = (w228).heap.size := ⟨_, rfl⟩; have n0_ := k0 (by rw [hlo_, hhi_]; exact Ch.to (Ch.madeT (by repeat (first | exact CH.out | apply Ch.drewN | apply Ch.drew)) (by exact HB.out.size) h0_ (fun _ hk => hk) h1_ hb) rfl : Ch w228 [rt w.heap.size (Kd.slice 3 (Kd.int .i64)) 23 (Kd.int .i64) 3 lo_cp hi_cp (.slice Aacp x0.length cacp) (.slice Abcp x1.length cbcp) x0 x1, bk go #[.slice none 0 0, .slice none 0 0] 28, bk gr #[.slice A0_0 l0_0.length c0_0, .slice A0_1 l0_1.length c0_1] 28]); have n1_ := k0 (below_step (by repeat (first | exact HB.out | apply pw_below_drewN | apply below_drew1)) hb : Below w.heap.size w w228); clear CH HB hb h0_ h1_ hlo_ hhi_; have CH := n0_; have HB := n1_; clear n0_ n1_ ; clear hz217 hz218 hz219 hz220 hz221 hz222 hz223 hz224; have hz229 : w228.cell? ⟨go, 0, none⟩ = some (.slice none 0 0) := (blk_cell (Ch.blk CH.out 1 rfl) 0).trans rfl; have hz230 := blk_frozen (Ch.blk CH.out 1 rfl) 0; have hz231 : w228.cell? ⟨go, 1, none⟩ = some (.slice none 0 0) := (blk_cell (Ch.blk CH.out 1 rfl) 1).trans rfl; have hz232 := blk_frozen (Ch.blk CH.out 1 rfl) 1; have hz233 : w228.cell? ⟨gr, 0, none⟩ = some (.slice A0_0 l0_0.length c0_0) := (blk_cell (Ch.blk CH.out 2 rfl) 0).trans rfl; have hz234 := blk_frozen (Ch.blk CH.out 2 rfl) 0; have hz235 : w228.cell? ⟨gr, 1, none⟩ = some (.slice A0_1 l0_1.length c0_1) := (blk_cell (Ch.blk CH.out 2 rfl) 1).trans rfl; have hz236 := blk_frozen (Ch.blk CH.out 2 rfl) 1)
       | ((with_reducible refine gate_dst (N := 13) rfl ?_); refine kE (N := 13) (cs := #[.slice none 0 0, .slice none 0 0]) (t := 28) ?_; intro gp hg w237 hbox hb; have n0_ := k0 (Ch.box (by repeat (first | exact CH.out | apply Ch.drewN | apply Ch.drew)) hg hbox hb : Ch w237 [bk gp #[.slice none 0 0, .slice none 0 0] 28, rt w.heap.size (Kd.slice 3 (Kd.int .i64)) 23 (Kd.int .i64) 3 lo_cp hi_cp (.slice Aacp x0.length cacp) (.slice Abcp x1.length cbcp) x0 x1, bk go #[.slice none 0 0, .slice none 0 0] 28, bk gr #[.slice A0_0 l0_0.length c0_0, .slice A0_1 l0_1.length c0_1] 28]); have n1_ := k0 (below_step (by repeat (first | exact HB.out | apply pw_below_drewN | apply below_drew1)) hb : Below w.heap.size w w237); have m0_ := k0 (by rw [hg]; exact HB.out.size : w.heap.size ≤ gp); clear CH HB hb hbox hg; have CH := n0_; have HB := n1_; have GE_gp := m0_; clear n0_ n1_ m0_; clear hz229 hz230 hz231 hz232 hz233 hz234 hz235 hz236; have hz238 : w237.cell? ⟨gp, 0, none⟩ = some (.slice none 0 0) := (blk_cell (Ch.blk CH.out 0 rfl) 0).trans rfl; have hz239 := blk_frozen (Ch.blk CH.out 0 rfl) 0; have hz240 : w237.cell? ⟨gp, 1, none⟩ = some (.slice none 0 0) := (blk_cell (Ch.blk CH.out 0 rfl) 1).trans rfl; have hz241 := blk_frozen (Ch.blk CH.out 0 rfl) 1; have hz242 : w237.cell? ⟨go, 0, none⟩ = some (.slice none 0 0) := (blk_cell (Ch.blk CH.out 2 rfl) 0).trans rfl; have hz243 := blk_frozen (Ch.blk CH.out 2 rfl) 0; have hz244 : w237.cell? ⟨go, 1, none⟩ = some (.slice none 0 0) := (blk_cell (Ch.blk CH.out 2 rfl) 1).trans rfl; have hz245 := blk_frozen (Ch.blk CH.out 2 rfl) 1; have hz246 : w237.cell? ⟨gr, 0, none⟩ = some (.slice A0_0 l0_0.length c0_0) := (blk_cell (Ch.blk CH.out 3 rfl) 0).trans rfl; have hz247 := blk_frozen (Ch.blk CH.out 3 rfl) 0; have hz248 : w237.cell? ⟨gr, 1, none⟩ = some (.slice A0_1 l0_1.length c0_1) := (blk_cell (Ch.blk CH.out 3 rfl) 1).trans rfl; have hz249 := blk_frozen (Ch.blk CH.out 3 rfl) 1)
       | ((with_reducible refine gate_store (t := 28) (p := 13) rfl ?_); refine store_event (t := 28) (p := 13) (v := ?vo_w250) (w1 := ?ww_w250) ?hg ?ho ?hn ?hr ?_; (case ho => rfl); (case hg => rfl); (case hn => rfl); (case hr => first | (go_simp; done) | (go_simp; rfl)); intro w250 hw; have n0_ := k0 (by rw [hw]; exact Ch.to (Ch.set1 (Ch.set1 (by repeat (first | exact CH.out | apply Ch.drewN | apply Ch.drew)) 0 rfl 0 (.slice Aacp x0.length cacp) #[.slice Aacp x0.length cacp, .slice none 0 0] rfl) 0 rfl 1 (.slice Abcp x1.length cbcp) #[.slice Aacp x0.length cacp, .slice Abcp x1.length cbcp] rfl) rfl : Ch w250 [bk gp #[.slice Aacp x0.length cacp, .slice Abcp x1.length cbcp] 28, rt w.heap.size (Kd.slice 3 (Kd.int .i64)) 23 (Kd.int .i64) 3 lo_cp hi_cp (.slice Aacp x0.length cacp) (.slice Abcp x1.length cbcp) x0 x1, bk go #[.slice none 0 0, .slice none 0 0] 28, bk gr #[.slice A0_0 l0_0.length c0_0, .slice A0_1 l0_1.length c0_1] 28]); have n1_ := k0 (by rw [hw]; exact (below_set (below_set (by repeat (first | exact HB.out | apply pw_below_drewN | apply below_drew1)) GE_gp.out) GE_gp.out) : Below w.heap.size w w250); clear CH HB hw; have CH := n0_; have HB := n1_; clear n0_ n1_ ; clear hz238 hz239 hz240 hz241 hz242 hz243 hz244 hz245 hz246 hz247 hz248 hz249; have hz251 : w250.cell? ⟨gp, 0, none⟩ = some (.slice Aacp x0.length cacp) := (blk_cell (Ch.blk CH.out 0 rfl) 0).trans rfl; have hz252 := blk_frozen (Ch.blk CH.out 0 rfl) 0; have hz253 : w250.cell? ⟨gp, 1, none⟩ = some (.slice Abcp x1.length cbcp) := (blk_cell (Ch.blk CH.out 0 rfl) 1).trans rfl; have hz254 := blk_frozen (Ch.blk CH.out 0 rfl) 1; have hz255 : w250.cell? ⟨go, 0, none⟩ = some (.slice none 0 0) := (blk_cell (Ch.blk CH.out 2 rfl) 0).trans rfl; have hz256 := blk_frozen (Ch.blk CH.out 2 rfl) 0; have hz257 : w250.cell? ⟨go, 1, none⟩ = some (.slice none 0 0) := (blk_cell (Ch.blk CH.out 2 rfl) 1).trans rfl; have hz258 := blk_frozen (Ch.blk CH.out 2 rfl) 1; have hz259 : w250.cell? ⟨gr, 0, none⟩ = some (.slice A0_0 l0_0.length c0_0) := (blk_cell (Ch.blk CH.out 3 rfl) 0).trans rfl; have hz260 := blk_frozen (Ch.blk CH.out 3 rfl) 0; have hz261 : w250.cell? ⟨gr, 1, none⟩ = some (.slice A0_1 l0_1.length c0_1) := (blk_cell (Ch.blk CH.out 3 rfl) 1).trans rfl; have hz262 := blk_frozen (Ch.blk CH.out 3 rfl) 1; obtain ⟨g0, g1, c1, eA_, hc, hb1, hv, hfz, hput⟩ := Ch.rt_elem CH.out 1 rfl a1 a1 Q0.out Q1.out Q0.out Q3.out; subst eA_; have HCc := Aside0.mk hc; clear hc; have HV := Aside0.mk hv; have HFZ := Aside0.mk hfz; have HP := Aside0.mk hput; have HB1 := Aside0.mk hb1; clear hv hfz hput hb1)
       | (go_at_call 60; (with_reducible refine (impl_Mint_1.calls gp gi g0 g1 cacp c1 x0.length (x0.getD a1.toNat []).length a1 (.slice Abcp x1.length cbcp) _ ?side1 ?side2 ?side3 ?side4 ?side5 ?side6).mono ?_); (case side1 => exact Ch.blk CH.out 0 rfl); (case side2 => exact pw_cell_below HB.out HI.out); (case side3 => exact HCc.out); (case side4 => exact Q0.out); (case side5 => exact Q1.out); (case side6 => exact Q3.out); rintro e w' ⟨rfl, ⟨nd263, rfl⟩⟩; have hv := HV.out; have hfz := HFZ.out)
       | ((with_reducible refine gate_store (t := 3) (p := 48) rfl ?_); refine store_event (t := 3) (p := 48) (v := ?vo_w264) (w1 := ?ww_w264) ?hg ?ho ?hn ?hr ?_; (case ho => rfl); (case hg => rfl); (case hn => rfl); (case hr => first | (go_simp; done) | (go_simp; rfl)); intro w264 hw; have n0_ := k0 (by rw [hw, E0.out]; exact Ch.to (Ch.drewN (HP.out _) _) rfl : Ch w264 [bk gp #[.slice (some ⟨g0, 0, none⟩) x0.length cacp, .slice Abcp x1.length cbcp] 28, rt w.heap.size (Kd.slice 3 (Kd.int .i64)) 23 (Kd.int .i64) 3 lo_cp hi_cp (.slice (some ⟨g0, 0, none⟩) x0.length cacp) (.slice Abcp x1.length cbcp) u0 x1, bk go #[.slice none 0 0, .slice none 0 0] 28, bk gr #[.slice A0_0 l0_0.length c0_0, .slice A0_1 l0_1.length c0_1] 28]); have n1_ := k0 (by rw [hw]; exact below_set (by repeat (first | exact HB.out | apply pw_below_drewN | apply below_drew1)) HB1.out : Below w.heap.size w w264); clear CH HB hw hv hfz HP HV HFZ; have CH := n0_; have HB := n1_; clear n0_ n1_ ; have HLN := k0 (by rw [E0.out, List.length_set] : u0.length = x0.length); clear hz251 hz252 hz253 hz254 hz255 hz256 hz257 hz258 hz259 hz260 hz261 hz262; have hz265 : w264.cell? ⟨gp, 0, none⟩ = some (.slice (some ⟨g0, 0, none⟩) x0.length cacp) := (blk_cell (Ch.blk CH.out 0 rfl) 0).trans rfl; have hz266 := blk_frozen (Ch.blk CH.out 0 rfl) 0; have hz267 : w264.cell? ⟨gp, 1, none⟩ = some (.slice Abcp x1.length cbcp) := (blk_cell (Ch.blk CH.out 0 rfl) 1).trans rfl; have hz268 := blk_frozen (Ch.blk CH.out 0 rfl) 1; have hz269 : w264.cell? ⟨go, 0, none⟩ = some (.slice none 0 0) := (blk_cell (Ch.blk CH.out 2 rfl) 0).trans rfl; have hz270 := blk_frozen (Ch.blk CH.out 2 rfl) 0; have hz271 : w264.cell? ⟨go, 1, none⟩ = some (.slice none 0 0) := (blk_cell (Ch.blk CH.out 2 rfl) 1).trans rfl; have hz272 := blk_frozen (Ch.blk CH.out 2 rfl) 1; have hz273 : w264.cell? ⟨gr, 0, none⟩ = some (.slice A0_0 l0_0.length c0_0) := (blk_cell (Ch.blk CH.out 3 rfl) 0).trans rfl; have hz274 := blk_frozen (Ch.blk CH.out 3 rfl) 0; have hz275 : w264.cell? ⟨gr, 1, none⟩ = some (.slice A0_1 l0_1.length c0_1) := (blk_cell (Ch.blk CH.out 3 rfl) 1).trans rfl; have hz276 := blk_frozen (Ch.blk CH.out 3 rfl) 1)
       | ((with_reducible refine gate_callee (f := 16) rfl ?_); refine goesL_ (some 50) rfl rfl Try.func16 (by kernel_rfl) rfl #[.agg #[.slice (some ⟨g0, 0, none⟩) u0.length cacp, .slice Abcp x1.length cbcp]] rfl (by (try simp only [List.map_toArray, List.map_cons, List.map_nil]); first | done | rfl | (rw [HLN.out] <;> rfl)) ?_; (with_reducible refine (impl_RightsOk.calls k _ _ u0 _ _ x1 true _ ?side1 ?side2 ?side3 ?side4 A7.out).mono ?_); (case side1 => repeat (first | exact Ch.rt_C0 CH.out 1 rfl | (with_reducible refine Kd.C_drewN ?_ _) | (with_reducible refine Kd.C_drew ?_))); (case side2 => exact Ch.rt_l0 CH.out 1 rfl); (case side3 => repeat (first | exact Ch.rt_C1 CH.out 1 rfl | (with_reducible refine Kd.C_drewN ?_ _) | (with_reducible refine Kd.C_drew ?_))); (case side4 => exact Ch.rt_l1 CH.out 1 rfl); rintro e w277 ⟨rfl, hb⟩; refine ⟨_, rfl, ?_⟩; have n0_ := k0 (Ch.below (by repeat (first | exact CH.out | apply Ch.drewN | apply Ch.drew)) hb : Ch w277 [bk gp #[.slice (some ⟨g0, 0, none⟩) x0.length cacp, .slice Abcp x1.length cbcp] 28, rt w.heap.size (Kd.slice 3 (Kd.int .i64)) 23 (Kd.int .i64) 3 lo_cp hi_cp (.slice (some ⟨g0, 0, none⟩) x0.length cacp) (.slice Abcp x1.length cbcp) u0 x1, bk go #[.slice none 0 0, .slice none 0 0] 28, bk gr #[.slice A0_0 l0_0.length c0_0, .slice A0_1 l0_1.length c0_1] 28]); have n1_ := k0 (below_step (by repeat (first | exact HB.out | apply pw_below_drewN | apply below_drew1)) hb : Below w.heap.size w w277); clear CH HB hb; have CH := n0_; have HB := n1_; clear n0_ n1_ ; clear hz265 hz266 hz267 hz268 hz269 hz270 hz271 hz272 hz273 hz274 hz275 hz276; have hz278 : w277.cell? ⟨gp, 0, none⟩ = some (.slice (some ⟨g0, 0, none⟩) x0.length cacp) := (blk_cell (Ch.blk CH.out 0 rfl) 0).trans rfl; have hz279 := blk_frozen (Ch.blk CH.out 0 rfl) 0; have hz280 : w277.cell? ⟨gp, 1, none⟩ = some (.slice Abcp x1.length cbcp) := (blk_cell (Ch.blk CH.out 0 rfl) 1).trans rfl; have hz281 := blk_frozen (Ch.blk CH.out 0 rfl) 1; have hz282 : w277.cell? ⟨go, 0, none⟩ = some (.slice none 0 0) := (blk_cell (Ch.blk CH.out 2 rfl) 0).trans rfl; have hz283 := blk_frozen (Ch.blk CH.out 2 rfl) 0; have hz284 : w277.cell? ⟨go, 1, none⟩ = some (.slice none 0 0) := (blk_cell (Ch.blk CH.out 2 rfl) 1).trans rfl; have hz285 := blk_frozen (Ch.blk CH.out 2 rfl) 1; have hz286 : w277.cell? ⟨gr, 0, none⟩ = some (.slice A0_0 l0_0.length c0_0) := (blk_cell (Ch.blk CH.out 3 rfl) 0).trans rfl; have hz287 := blk_frozen (Ch.blk CH.out 3 rfl) 0; have hz288 : w277.cell? ⟨gr, 1, none⟩ = some (.slice A0_1 l0_1.length c0_1) := (blk_cell (Ch.blk CH.out 3 rfl) 1).trans rfl; have hz289 := blk_frozen (Ch.blk CH.out 3 rfl) 1)
       | ((with_reducible refine gate_store (t := 28) (p := 10) rfl ?_); refine store_event (t := 28) (p := 10) (v := ?vo_w290) (w1 := ?ww_w290) ?hg ?ho ?hn ?hr ?_; (case ho => rfl); (case hg => rfl); (case hn => rfl); (case hr => first | (go_simp; done) | (go_simp; rfl)); intro w290 hw; have n0_ := k0 (by rw [hw]; exact Ch.to (Ch.set1 (Ch.set1 (by repeat (first | exact CH.out | apply Ch.drewN | apply Ch.drew)) 2 rfl 0 (.slice (some ⟨g0, 0, none⟩) x0.length cacp) #[.slice (some ⟨g0, 0, none⟩) x0.length cacp, .slice none 0 0] rfl) 2 rfl 1 (.slice Abcp x1.length cbcp) #[.slice (some ⟨g0, 0, none⟩) x0.length cacp, .slice Abcp x1.length cbcp] rfl) rfl : Ch w290 [bk gp #[.slice (some ⟨g0, 0, none⟩) x0.length cacp, .slice Abcp x1.length cbcp] 28, rt w.heap.size (Kd.slice 3 (Kd.int .i64)) 23 (Kd.int .i64) 3 lo_cp hi_cp (.slice (some ⟨g0, 0, none⟩) x0.length cacp) (.slice Abcp x1.length cbcp) u0 x1, bk go #[.slice (some ⟨g0, 0, none⟩) x0.length cacp, .slice Abcp x1.length cbcp] 28, bk gr #[.slice A0_0 l0_0.length c0_0, .slice A0_1 l0_1.length c0_1] 28]); have n1_ := k0 (by rw [hw]; exact (below_set (below_set (by repeat (first | exact HB.out | apply pw_below_drewN | apply below_drew1)) GE_go.out) GE_go.out) : Below w.heap.size w w290); clear CH HB hw; have CH := n0_; have HB := n1_; clear n0_ n1_ ; clear hz278 hz279 hz280 hz281 hz282 hz283 hz284 hz285 hz286 hz287 hz288 hz289; have hz291 : w290.cell? ⟨gp, 0, none⟩ = some (.slice (some ⟨g0, 0, none⟩) x0.length cacp) := (blk_cell (Ch.blk CH.out 0 rfl) 0).trans rfl; have hz292 := blk_frozen (Ch.blk CH.out 0 rfl) 0; have hz293 : w290.cell? ⟨gp, 1, none⟩ = some (.slice Abcp x1.length cbcp) := (blk_cell (Ch.blk CH.out 0 rfl) 1).trans rfl; have hz294 := blk_frozen (Ch.blk CH.out 0 rfl) 1; have hz295 : w290.cell? ⟨go, 0, none⟩ = some (.slice (some ⟨g0, 0, none⟩) x0.length cacp) := (blk_cell (Ch.blk CH.out 2 rfl) 0).trans rfl; have hz296 := blk_frozen (Ch.blk CH.out 2 rfl) 0; have hz297 : w290.cell? ⟨go, 1, none⟩ = some (.slice Abcp x1.length cbcp) := (blk_cell (Ch.blk CH.out 2 rfl) 1).trans rfl; have hz298 := blk_frozen (Ch.blk CH.out 2 rfl) 1; have hz299 : w290.cell? ⟨gr, 0, none⟩ = some (.slice A0_0 l0_0.length c0_0) := (blk_cell (Ch.blk CH.out 3 rfl) 0).trans rfl; have hz300 := blk_frozen (Ch.blk CH.out 3 rfl) 0; have hz301 : w290.cell? ⟨gr, 1, none⟩ = some (.slice A0_1 l0_1.length c0_1) := (blk_cell (Ch.blk CH.out 3 rfl) 1).trans rfl; have hz302 := blk_frozen (Ch.blk CH.out 3 rfl) 1))
      refine bodyPost_ret (results_ct rfl _ _ go 28 #[.slice (some ⟨g0, 0, none⟩) x0.length cacp, .slice Abcp x1.length cbcp] (0, 0) _ rfl (Ch.blk CH.out 2 rfl) Try.underlying28 rfl (by kernel_rfl)) rfl ?_
      have hF := Ch.get CH.out 1 rfl
      exact ⟨_, _, rfl, Kd.S_mono hF.1 (fun _ hk => hk.2), Kd.R_mono hF.2 (fun _ _ => trivial), HB.out⟩
def impl_Mint.f (k : Nat) (l0_0 : List (List Int)) (l0_1 : List Int) (a1 a2 : Int) : Option (List (List Int) × List Int × Bool) := impl_changed_Mint.f k l0_0 l0_1 a1 a2
theorem impl_Mint.mono : ∀ x0 x1 a1 a2 k, LeO (impl_Mint.f k x0 x1 a1 a2) (impl_Mint.f (k + 1) x0 x1 a1 a2) := by
 intro x0 x1 a1 a2 k
 unfold impl_Mint.f
 exact impl_changed_Mint.mono _ _ _ _ _
set_option maxHeartbeats 8000000 in
set_option maxRecDepth 100000 in
theorem impl_Mint.calls (k : Nat) (A0_0 : Option Addr) (c0_0 : Nat) (l0_0 : List (List Int)) (A0_1 : Option Addr) (c0_1 : Nat) (l0_1 : List Int) (a1 : Int) (a2 : Int) (r1 : List (List Int)) (r2 : List Int) (r3 : Bool) (w : World) (hr0_0 : Kd.C (Kd.slice 3 (Kd.int .i64)) w A0_0 l0_0.length l0_0) (hc0_0 : l0_0.length ≤ c0_0) (hr0_1 : Kd.C (Kd.int .i64) w A0_1 l0_1.length l0_1) (hc0_1 : l0_1.length ≤ c0_1) (h : impl_Mint.f k l0_0 l0_1 a1 a2 = some (r1, r2, r3)) :
  Calls Try.prog 29 #[.agg #[.slice A0_0 l0_0.length c0_0, .slice A0_1 l0_1.length c0_1], .int .i64 a1, .int .i64 a2] w fun e w' => ∃ v0_ v1_ : Value, e = .returned (.tuple #[.agg #[v0_, v1_], .bool r3]) ∧ Kd.S (Kd.slice 3 (Kd.int .i64)) 23 w' w.heap.size (fun k_ => some k_ ≠ (v1_ : Value).ownBlock) v0_ r1 ∧ Kd.R (Kd.int .i64) 3 w' w.heap.size (fun _ => True) v1_ r2 ∧ Below w.heap.size w w' := by
 have hu28 := Try.underlying28
 have hmf : ∀ (fn : Fn) (first cap : Array Value) (w : World), (Instr.makeFunc fn first cap).run Try.prog w = .ok (.func fn first cap) w := fun _ _ _ _ => rfl
 have HR0_0 := Aside0.mk hr0_0
 have HC0_0 := Aside0.mk hc0_0
 have HR0_1 := Aside0.mk hr0_1
 have HC0_1 := Aside0.mk hc0_1
 clear hr0_0 hc0_0 hr0_1 hc0_1
 have HB := k0 (Below.refl w.heap.size w)
 have CH := k0 (Ch.nil w)
 have H := k0 (show impl_changed_Mint.f k l0_0 l0_1 a1 a2 = some (r1, r2, r3) from h)
 clear h
 go_enter Try.func29, Try.ntmps29
 go_wp2_with (first
  | ((with_reducible refine gate_dst (N := 3) rfl ?_); refine kE (N := 3) (cs := #[.slice A0_0 l0_0.length c0_0, .slice A0_1 l0_1.length c0_1]) (t := 28) ?_; intro gr hg w303 hbox hb; have n0_ := k0 (Ch.box (by repeat (first | exact CH.out | apply Ch.drewN | apply Ch.drew)) hg hbox hb : Ch w303 [bk gr #[.slice A0_0 l0_0.length c0_0, .slice A0_1 l0_1.length c0_1] 28]); have n1_ := k0 (below_step (by repeat (first | exact HB.out | apply pw_below_drewN | apply below_drew1)) hb : Below w.heap.size w w303); have m0_ := k0 (by rw [hg]; exact HB.out.size : w.heap.size ≤ gr); clear CH HB hb hbox hg; have CH := n0_; have HB := n1_; have GE_gr := m0_; clear n0_ n1_ m0_; have hz304 : w303.cell? ⟨gr, 0, none⟩ = some (.slice A0_0 l0_0.length c0_0) := (blk_cell (Ch.blk CH.out 0 rfl) 0).trans rfl; have hz305 := blk_frozen (Ch.blk CH.out 0 rfl) 0; have hz306 : w303.cell? ⟨gr, 1, none⟩ = some (.slice A0_1 l0_1.length c0_1) := (blk_cell (Ch.blk CH.out 0 rfl) 1).trans rfl; have hz307 := blk_frozen (Ch.blk CH.out 0 rfl) 1)
  | ((with_reducible refine gate_dst (N := 4) rfl ?_); refine kE (N := 4) (cs := #[.int .i64 a1]) (t := 3) ?_; intro gi hg w308 hbox hb; have n0_ := k0 (Ch.box (by repeat (first | exact CH.out | apply Ch.drewN | apply Ch.drew)) hg hbox hb : Ch w308 [bk gi #[.int .i64 a1] 3, bk gr #[.slice A0_0 l0_0.length c0_0, .slice A0_1 l0_1.length c0_1] 28]); have n1_ := k0 (below_step (by repeat (first | exact HB.out | apply pw_below_drewN | apply below_drew1)) hb : Below w.heap.size w w308); have m0_ := k0 (by rw [hg]; exact HB.out.size : w.heap.size ≤ gi); clear CH HB hb hbox hg; have CH := n0_; have HB := n1_; have GE_gi := m0_; clear n0_ n1_ m0_; clear hz304 hz305 hz306 hz307; have hz309 : w308.cell? ⟨gi, 0, none⟩ = some (.int .i64 a1) := (blk_cell (Ch.blk CH.out 0 rfl) 0).trans rfl; have hz310 := blk_frozen (Ch.blk CH.out 0 rfl) 0; have hz311 : w308.cell? ⟨gr, 0, none⟩ = some (.slice A0_0 l0_0.length c0_0) := (blk_cell (Ch.blk CH.out 1 rfl) 0).trans rfl; have hz312 := blk_frozen (Ch.blk CH.out 1 rfl) 0; have hz313 : w308.cell? ⟨gr, 1, none⟩ = some (.slice A0_1 l0_1.length c0_1) := (blk_cell (Ch.blk CH.out 1 rfl) 1).trans rfl; have hz314 := blk_frozen (Ch.blk CH.out 1 rfl) 1)
  | ((with_reducible refine gate_dst (N := 6) rfl ?_); refine kE (N := 6) (cs := #[.slice none 0 0, .slice none 0 0]) (t := 28) ?_; intro go hg w315 hbox hb; have n0_ := k0 (Ch.box (by repeat (first | exact CH.out | apply Ch.drewN | apply Ch.drew)) hg hbox hb : Ch w315 [bk go #[.slice none 0 0, .slice none 0 0] 28, bk gi #[.int .i64 a1] 3, bk gr #[.slice A0_0 l0_0.length c0_0, .slice A0_1 l0_1.length c0_1] 28]); have n1_ := k0 (below_step (by repeat (first | exact HB.out | apply pw_below_drewN | apply below_drew1)) hb : Below w.heap.size w w315); have m0_ := k0 (by rw [hg]; exact HB.out.size : w.heap.size ≤ go); clear CH HB hb hbox hg; have CH := n0_; have HB := n1_; have GE_go := m0_; clear n0_ n1_ m0_; clear hz309 hz310 hz311 hz312 hz313 hz314; have hz316 : w315.cell? ⟨go, 0, none⟩ = some (.slice none 0 0) := (blk_cell (Ch.blk CH.out 0 rfl) 0).trans rfl; have hz317 := blk_frozen (Ch.blk CH.out 0 rfl) 0; have hz318 : w315.cell? ⟨go, 1, none⟩ = some (.slice none 0 0) := (blk_cell (Ch.blk CH.out 0 rfl) 1).trans rfl; have hz319 := blk_frozen (Ch.blk CH.out 0 rfl) 1; have hz320 : w315.cell? ⟨gi, 0, none⟩ = some (.int .i64 a1) := (blk_cell (Ch.blk CH.out 1 rfl) 0).trans rfl; have hz321 := blk_frozen (Ch.blk CH.out 1 rfl) 0; have hz322 : w315.cell? ⟨gr, 0, none⟩ = some (.slice A0_0 l0_0.length c0_0) := (blk_cell (Ch.blk CH.out 2 rfl) 0).trans rfl; have hz323 := blk_frozen (Ch.blk CH.out 2 rfl) 0; have hz324 : w315.cell? ⟨gr, 1, none⟩ = some (.slice A0_1 l0_1.length c0_1) := (blk_cell (Ch.blk CH.out 2 rfl) 1).trans rfl; have hz325 := blk_frozen (Ch.blk CH.out 2 rfl) 1)
  | ((with_reducible refine gate_callee (f := 59) rfl ?_); refine goesL_ (some 13) rfl rfl Try.func59 (by kernel_rfl) rfl #[.agg #[.slice A0_0 l0_0.length c0_0, .slice A0_1 l0_1.length c0_1], .int .i64 a1, .int .i64 a1, .int .i64 a2, .func (.func 60) #[] #[.pointer (some ⟨gi, 0, none⟩)]] rfl (by (try simp only [List.map_toArray, List.map_cons, List.map_nil]); first | done | rfl) ?_; (with_reducible refine (impl_changed_Mint.calls k _ _ l0_0 _ _ l0_1 a1 a2 gi r1 r2 r3 _ ?side1 ?side2 ?side3 ?side4 ?side5 H.out).mono ?_); (case side1 => repeat (first | exact (Kd.C_below HR0_0.out (by repeat (first | exact HB.out | apply pw_below_drewN | apply below_drew1))) | (with_reducible refine Kd.C_drewN ?_ _) | (with_reducible refine Kd.C_drew ?_))); (case side2 => exact HC0_0.out); (case side3 => repeat (first | exact (Kd.C_below HR0_1.out (by repeat (first | exact HB.out | apply pw_below_drewN | apply below_drew1))) | (with_reducible refine Kd.C_drewN ?_ _) | (with_reducible refine Kd.C_drew ?_))); (case side4 => exact HC0_1.out); (case side5 => exact (blk_cell (Ch.blk CH.out 1 rfl) 0).trans rfl); rintro e w326 ⟨v0_, v1_, rfl, h0_, h1_, hb⟩; refine ⟨_, rfl, ?_⟩; obtain ⟨Aacr, cacr, e0_⟩ := Kd.S_slice h0_; subst e0_; obtain ⟨Abcr, cbcr, e1_⟩ := Kd.R_slice h1_; subst e1_; obtain ⟨lo_cr, hlo_⟩ : ∃ z_ : Nat, z_ = (w315).heap.size := ⟨_, rfl⟩; obtain ⟨hi_cr, hhi_⟩ : ∃ z_ : Nat, z_ = (w326).heap.size := ⟨_, rfl⟩; have n0_ := k0 (by rw [hlo_, hhi_]; exact Ch.to (Ch.madeT (by repeat (first | exact CH.out | apply Ch.drewN | apply Ch.drew)) (by exact HB.out.size) h0_ (fun _ hk => hk) h1_ hb) rfl : Ch w326 [rt w.heap.size (Kd.slice 3 (Kd.int .i64)) 23 (Kd.int .i64) 3 lo_cr hi_cr (.slice Aacr r1.length cacr) (.slice Abcr r2.length cbcr) r1 r2, bk go #[.slice none 0 0, .slice none 0 0] 28, bk gi #[.int .i64 a1] 3, bk gr #[.slice A0_0 l0_0.length c0_0, .slice A0_1 l0_1.length c0_1] 28]); have n1_ := k0 (below_step (by repeat (first | exact HB.out | apply pw_below_drewN | apply below_drew1)) hb : Below w.heap.size w w326); clear CH HB hb h0_ h1_ hlo_ hhi_; have CH := n0_; have HB := n1_; clear n0_ n1_ ; clear hz316 hz317 hz318 hz319 hz320 hz321 hz322 hz323 hz324 hz325; have hz327 : w326.cell? ⟨go, 0, none⟩ = some (.slice none 0 0) := (blk_cell (Ch.blk CH.out 1 rfl) 0).trans rfl; have hz328 := blk_frozen (Ch.blk CH.out 1 rfl) 0; have hz329 : w326.cell? ⟨go, 1, none⟩ = some (.slice none 0 0) := (blk_cell (Ch.blk CH.out 1 rfl) 1).trans rfl; have hz330 := blk_frozen (Ch.blk CH.out 1 rfl) 1; have hz331 : w326.cell? ⟨gi, 0, none⟩ = some (.int .i64 a1) := (blk_cell (Ch.blk CH.out 2 rfl) 0).trans rfl; have hz332 := blk_frozen (Ch.blk CH.out 2 rfl) 0; have hz333 : w326.cell? ⟨gr, 0, none⟩ = some (.slice A0_0 l0_0.length c0_0) := (blk_cell (Ch.blk CH.out 3 rfl) 0).trans rfl; have hz334 := blk_frozen (Ch.blk CH.out 3 rfl) 0; have hz335 : w326.cell? ⟨gr, 1, none⟩ = some (.slice A0_1 l0_1.length c0_1) := (blk_cell (Ch.blk CH.out 3 rfl) 1).trans rfl; have hz336 := blk_frozen (Ch.blk CH.out 3 rfl) 1)
  | ((with_reducible refine gate_store (t := 28) (p := 6) rfl ?_); refine store_event (t := 28) (p := 6) (v := ?vo_w337) (w1 := ?ww_w337) ?hg ?ho ?hn ?hr ?_; (case ho => rfl); (case hg => rfl); (case hn => rfl); (case hr => first | (go_simp; done) | (go_simp; rfl)); intro w337 hw; have n0_ := k0 (by rw [hw]; exact Ch.to (Ch.set1 (Ch.set1 (by repeat (first | exact CH.out | apply Ch.drewN | apply Ch.drew)) 1 rfl 0 (.slice Aacr r1.length cacr) #[.slice Aacr r1.length cacr, .slice none 0 0] rfl) 1 rfl 1 (.slice Abcr r2.length cbcr) #[.slice Aacr r1.length cacr, .slice Abcr r2.length cbcr] rfl) rfl : Ch w337 [rt w.heap.size (Kd.slice 3 (Kd.int .i64)) 23 (Kd.int .i64) 3 lo_cr hi_cr (.slice Aacr r1.length cacr) (.slice Abcr r2.length cbcr) r1 r2, bk go #[.slice Aacr r1.length cacr, .slice Abcr r2.length cbcr] 28, bk gi #[.int .i64 a1] 3, bk gr #[.slice A0_0 l0_0.length c0_0, .slice A0_1 l0_1.length c0_1] 28]); have n1_ := k0 (by rw [hw]; exact (below_set (below_set (by repeat (first | exact HB.out | apply pw_below_drewN | apply below_drew1)) GE_go.out) GE_go.out) : Below w.heap.size w w337); clear CH HB hw; have CH := n0_; have HB := n1_; clear n0_ n1_ ; clear hz327 hz328 hz329 hz330 hz331 hz332 hz333 hz334 hz335 hz336; have hz338 : w337.cell? ⟨go, 0, none⟩ = some (.slice Aacr r1.length cacr) := (blk_cell (Ch.blk CH.out 1 rfl) 0).trans rfl; have hz339 := blk_frozen (Ch.blk CH.out 1 rfl) 0; have hz340 : w337.cell? ⟨go, 1, none⟩ = some (.slice Abcr r2.length cbcr) := (blk_cell (Ch.blk CH.out 1 rfl) 1).trans rfl; have hz341 := blk_frozen (Ch.blk CH.out 1 rfl) 1; have hz342 : w337.cell? ⟨gi, 0, none⟩ = some (.int .i64 a1) := (blk_cell (Ch.blk CH.out 2 rfl) 0).trans rfl; have hz343 := blk_frozen (Ch.blk CH.out 2 rfl) 0; have hz344 : w337.cell? ⟨gr, 0, none⟩ = some (.slice A0_0 l0_0.length c0_0) := (blk_cell (Ch.blk CH.out 3 rfl) 0).trans rfl; have hz345 := blk_frozen (Ch.blk CH.out 3 rfl) 0; have hz346 : w337.cell? ⟨gr, 1, none⟩ = some (.slice A0_1 l0_1.length c0_1) := (blk_cell (Ch.blk CH.out 3 rfl) 1).trans rfl; have hz347 := blk_frozen (Ch.blk CH.out 3 rfl) 1))
 refine bodyPost_ret (results_ct rfl _ _ go 28 #[.slice Aacr r1.length cacr, .slice Abcr r2.length cbcr] (0, 0) _ rfl (Ch.blk CH.out 1 rfl) Try.underlying28 rfl (by kernel_rfl)) rfl ?_
 have hF := Ch.get CH.out 0 rfl
 exact ⟨_, _, rfl, Kd.S_mono hF.1 (fun _ hk => hk.2), Kd.R_mono hF.2 (fun _ _ => trivial), HB.out⟩

end

/-- A state of type 65 at block g of W; what its slices lead to came in by w0. -/
def IsS65 (w0 W : World) (g : Nat) (f0 : List Int) (f1 : Int) (f2 : Int) : Prop := ∃ A0 c0, W.heap[g]? = some (.cells #[.slice A0 f0.length c0, .int .i64 f1, .int .i64 f2] 65 (0, 0)) ∧ w0.heap.size ≤ g ∧ Kd.C (Kd.int .u8) w0 A0 f0.length f0 ∧ f0.length ≤ c0
theorem IsS65.grown {w0 W : World} {g : Nat} {f0 : List Int} {f1 : Int} {f2 : Int} {W1 : World} {row : Option Nat} (h : IsS65 w0 W g f0 f1 f2) (hw : W.grownBy W1 row) (hne : some g ≠ row) : IsS65 w0 W1 g f0 f1 f2 := by
 obtain ⟨A0, c0, hb, hg, hr0, hl0⟩ := h
 exact ⟨A0, c0, blk_grown hb hw hne, hg, hr0, hl0⟩
theorem IsS65.own_neN {w0 W : World} {g : Nat} {f0 : List Int} {f1 : Int} {f2 : Int} {α : Type} {d : Kd α} {e : Nat} {base : Nat} {ok : Nat → Prop} {v : Value} {xs : List α} (h : IsS65 w0 W g f0 f1 f2) (ho : Kd.N d e W base ok v xs) (ht : e ≠ 65) : some g ≠ v.ownBlock := by
 obtain ⟨A0, c0, hb, hg, hr0, hl0⟩ := h
 exact Kd.N_ne ho hb ht
theorem IsS65.fresh {w0 W : World} {g : Nat} {f0 : List Int} {f1 : Int} {f2 : Int} (h : IsS65 w0 W g f0 f1 f2) : ∀ k, W.heap.size ≤ k → k ≠ g := by
 obtain ⟨A0, c0, hb, hg, hr0, hl0⟩ := h
 exact Kd.freshB hb
theorem IsS65.kept {w0 W : World} {g : Nat} {f0 : List Int} {f1 : Int} {f2 : Int} {W1 : World} {S : Nat → Prop} (h : IsS65 w0 W g f0 f1 f2) (hk : Kept W W1 S) (hne : ¬ S g) : IsS65 w0 W1 g f0 f1 f2 := by
 obtain ⟨A0, c0, hb, hg, hr0, hl0⟩ := h
 exact ⟨A0, c0, blk_kept hb hk hne, hg, hr0, hl0⟩
theorem IsS65.below {w0 W : World} {g : Nat} {f0 : List Int} {f1 : Int} {f2 : Int} {W1 : World} (h : IsS65 w0 W g f0 f1 f2) (hw : Below W.heap.size W W1) : IsS65 w0 W1 g f0 f1 f2 := h.grown (grown_of_below hw none) (by simp)
theorem IsS65.alloc {w0 W : World} {g : Nat} {f0 : List Int} {f1 : Int} {f2 : Int} (h : IsS65 w0 W g f0 f1 f2) (o : Obj) : IsS65 w0 (W.alloc o) g f0 f1 f2 := h.below (below_alloc (Below.refl _ _) o)
theorem IsS65.drewN {w0 W : World} {g : Nat} {f0 : List Int} {f1 : Int} {f2 : Int} (h : IsS65 w0 W g f0 f1 f2) (m : Nat) : IsS65 w0 (W.drewN m) g f0 f1 f2 := h
theorem IsS65.drew {w0 W : World} {g : Nat} {f0 : List Int} {f1 : Int} {f2 : Int} (h : IsS65 w0 W g f0 f1 f2) : IsS65 w0 W.drew g f0 f1 f2 := h
theorem IsS65.at_ {w0 W : World} {g : Nat} {f0 : List Int} {f1 : Int} {f2 : Int} {w' : World} {m : Nat} (hq : W.drewN m = w') (h : IsS65 w0 W g f0 f1 f2) : IsS65 w0 w' g f0 f1 f2 := by subst hq; exact IsS65.drewN h m
theorem IsS65.apart {w0 W : World} {g : Nat} {f0 : List Int} {f1 : Int} {f2 : Int} {α : Type} {d : Kd α} {e : Nat} {base : Nat} {ok : Nat → Prop} {v : Value} {xs : List α} (h : IsS65 w0 W g f0 f1 f2) (ho : d.R e W base ok v xs) (ht : ∀ q, q ∈ e :: d.E → q ≠ 65) : d.R e W base (fun k => ok k ∧ k ≠ g) v xs := by
 obtain ⟨A0, c0, hb, hg, hr0, hl0⟩ := h
 exact Kd.R_types ho hb ht
theorem IsS65.own_ne {w0 W : World} {g : Nat} {f0 : List Int} {f1 : Int} {f2 : Int} {α : Type} {d : Kd α} {e : Nat} {base : Nat} {ok : Nat → Prop} {v : Value} {xs : List α} (h : IsS65 w0 W g f0 f1 f2) (ho : d.R e W base ok v xs) (ht : e ≠ 65) : some g ≠ v.ownBlock := by
 obtain ⟨A0, c0, hb, hg, hr0, hl0⟩ := h
 exact Kd.R_ne ho hb ht
theorem IsS65.apartQ {w0 W : World} {g : Nat} {f0 : List Int} {f1 : Int} {f2 : Int} {α : Type} {d : Kd α} {e : Nat} {base : Nat} {ok : Nat → Prop} {v : Value} {xs : List α} (h : IsS65 w0 W g f0 f1 f2) (ho : d.Q e W base ok v xs) (ht : ∀ q, q ∈ e :: d.E → q ≠ 65) : d.Q e W base (fun k => ok k ∧ k ≠ g) v xs := by
 obtain ⟨A0, c0, hb, hg, hr0, hl0⟩ := h
 exact Kd.Q_types ho hb ht
theorem IsS65.own_neQ {w0 W : World} {g : Nat} {f0 : List Int} {f1 : Int} {f2 : Int} {α : Type} {d : Kd α} {e : Nat} {base : Nat} {ok : Nat → Prop} {v : Value} {xs : List α} (h : IsS65 w0 W g f0 f1 f2) (ho : d.Q e W base ok v xs) (ht : e ≠ 65) : some g ≠ v.ownBlock := by
 obtain ⟨A0, c0, hb, hg, hr0, hl0⟩ := h
 exact Kd.Q_ne ho hb ht
theorem IsS65.apartS {w0 W : World} {g : Nat} {f0 : List Int} {f1 : Int} {f2 : Int} {α : Type} {d : Kd α} {e : Nat} {base : Nat} {ok : Nat → Prop} {v : Value} {xs : List α} (h : IsS65 w0 W g f0 f1 f2) (ho : d.S e W base ok v xs) (ht : ∀ q, q ∈ e :: d.E → q ≠ 65) : d.S e W base (fun k => ok k ∧ k ≠ g) v xs := by
 obtain ⟨A0, c0, hb, hg, hr0, hl0⟩ := h
 exact Kd.S_types ho hb ht
theorem IsS65.own_neS {w0 W : World} {g : Nat} {f0 : List Int} {f1 : Int} {f2 : Int} {α : Type} {d : Kd α} {e : Nat} {base : Nat} {ok : Nat → Prop} {v : Value} {xs : List α} (h : IsS65 w0 W g f0 f1 f2) (ho : d.S e W base ok v xs) (ht : e ≠ 65) : some g ≠ v.ownBlock := by
 obtain ⟨A0, c0, hb, hg, hr0, hl0⟩ := h
 exact Kd.S_ne ho hb ht
theorem IsS65.lt {w0 W : World} {g : Nat} {f0 : List Int} {f1 : Int} {f2 : Int} (h : IsS65 w0 W g f0 f1 f2) : g < W.heap.size := by
 obtain ⟨A0, c0, hb, hg, hr0, hl0⟩ := h
 exact blk_lt hb
theorem IsS65.ge {w0 W : World} {g : Nat} {f0 : List Int} {f1 : Int} {f2 : Int} (h : IsS65 w0 W g f0 f1 f2) : w0.heap.size ≤ g := by
 obtain ⟨A0, c0, hb, hg, hr0, hl0⟩ := h
 exact hg
theorem IsS65.ne_blk {w0 W : World} {g : Nat} {f0 : List Int} {f1 : Int} {f2 : Int} {a : Nat} {cs : Array Value} {t : TypeId} {fr : Nat × Nat} (h : IsS65 w0 W g f0 f1 f2) (hb2 : W.heap[a]? = some (.cells cs t fr)) (ht : t ≠ 65) : g ≠ a := by
 obtain ⟨A0, c0, hb, hg, hr0, hl0⟩ := h
 rintro rfl
 rw [hb] at hb2
 injection hb2 with hb2
 injection hb2 with _ ht2
 exact ht ht2.symm
theorem IsS65.far {w0 W : World} {g : Nat} {f0 : List Int} {f1 : Int} {f2 : Int} {p : Addr} (h : IsS65 w0 W g f0 f1 f2) (hne : g ≠ p.block) (u : Value) : IsS65 w0 (W.setCell p u) g f0 f1 f2 := by
 obtain ⟨A0, c0, hb, hg, hr0, hl0⟩ := h
 exact ⟨A0, c0, blk_far hb hne u, hg, hr0, hl0⟩
theorem IsS65.farB {w0 W : World} {g : Nat} {f0 : List Int} {f1 : Int} {f2 : Int} {a j : Nat} {u : Value} (hne : g ≠ a) (h : IsS65 w0 W g f0 f1 f2) : IsS65 w0 (W.setCell ⟨a, j, none⟩ u) g f0 f1 f2 := IsS65.far (p := ⟨a, j, none⟩) h hne u
theorem cellS65_0 {W : World} {g : Nat} {A0 : Option Addr} {c0 : Nat} {f0 : List Int} {f1 : Int} {f2 : Int} (h : W.heap[g]? = some (.cells #[.slice A0 f0.length c0, .int .i64 f1, .int .i64 f2] 65 (0, 0))) : W.cell? ⟨g, 0, none⟩ = some (.slice A0 f0.length c0) := (blk_cell h 0).trans rfl
theorem cellS65_1 {W : World} {g : Nat} {A0 : Option Addr} {c0 : Nat} {f0 : List Int} {f1 : Int} {f2 : Int} (h : W.heap[g]? = some (.cells #[.slice A0 f0.length c0, .int .i64 f1, .int .i64 f2] 65 (0, 0))) : W.cell? ⟨g, 1, none⟩ = some (.int .i64 f1) := (blk_cell h 1).trans rfl
theorem IsS65.set_1 {w0 W : World} {g : Nat} {f0 : List Int} {f1 : Int} {f2 : Int} (h : IsS65 w0 W g f0 f1 f2) (x : Int) : IsS65 w0 (W.setCell ⟨g, 1, none⟩ (.int .i64 x)) g f0 x f2 := by
 obtain ⟨A0, c0, hb, hg, hr0, hl0⟩ := h
 exact ⟨A0, c0, by simpa using blk_set hb 1 (.int .i64 x), hg, hr0, hl0⟩
theorem cellS65_2 {W : World} {g : Nat} {A0 : Option Addr} {c0 : Nat} {f0 : List Int} {f1 : Int} {f2 : Int} (h : W.heap[g]? = some (.cells #[.slice A0 f0.length c0, .int .i64 f1, .int .i64 f2] 65 (0, 0))) : W.cell? ⟨g, 2, none⟩ = some (.int .i64 f2) := (blk_cell h 2).trans rfl
theorem IsS65.set_2 {w0 W : World} {g : Nat} {f0 : List Int} {f1 : Int} {f2 : Int} (h : IsS65 w0 W g f0 f1 f2) (x : Int) : IsS65 w0 (W.setCell ⟨g, 2, none⟩ (.int .i64 x)) g f0 f1 x := by
 obtain ⟨A0, c0, hb, hg, hr0, hl0⟩ := h
 exact ⟨A0, c0, by simpa using blk_set hb 2 (.int .i64 x), hg, hr0, hl0⟩
theorem IsS65.new (w0 W : World) (A0 : Option Addr) (c0 : Nat) (f0 : List Int) (f1 : Int) (f2 : Int) (hB : Below w0.heap.size w0 W) (hr0 : Kd.C (Kd.int .u8) w0 A0 f0.length f0) (hl0 : f0.length ≤ c0) : IsS65 w0 (W.alloc (.cells #[.slice A0 f0.length c0, .int .i64 f1, .int .i64 f2] 65)) W.heap.size f0 f1 f2 := ⟨A0, c0, by simpa using heap_alloc_new W _, hB.size, hr0, hl0⟩

/-! ### spec_l01New: function 63 -/
def spec_l01New.l0 : Nat → List Int → Int → Int → Option (List Int × Int × Int)
 | 0, _, _, _ => none
 | k + 1, x0, x3, x4 => if x4 < (x0.length : Int) then (if x4 < 4000 then (if 0 ≤ x4 then (spec_l01New.l0 k x0 (Go.bits .and .i64 (wrap64 ((wrap64 ((wrap64 (x3 * 47)) + (wrap64 (rd x0 x4)))) + 7)) 1073741823) (wrap64 (x4 + 1))) else (none)) else (some (x0, 0, x3))) else (some (x0, 0, x3))
def spec_l01New.f (k : Nat) (l0 : List Int) : Option (List Int × Int × Int) := spec_l01New.l0 k l0 (wrap64 (1626 + (l0.length : Int))) 0
theorem spec_l01New.mono_l : ∀ k, (∀ y0 y1 y2, LeO (spec_l01New.l0 k y0 y1 y2) (spec_l01New.l0 (k + 1) y0 y1 y2))
 | 0 => fun _ _ _ r h => by simp [spec_l01New.l0] at h
 | k + 1 => by
  have ih0 := spec_l01New.mono_l k
  ·intro y0 y1 y2
   unfold spec_l01New.l0
   repeat' first
   | (with_reducible exact ih0 _ _ _)
   | (with_reducible exact LeO.refl _)
   | (with_reducible exact LeO.none _)
   | (with_reducible refine LeO.ite ?_ ?_)
   | (with_reducible refine LeO.bind ?_ (fun _ => ?_))
   | exact ih0 _ _ _
   | exact LeO.none _
   | refine LeO.ite ?_ ?_
   | refine LeO.bind ?_ (fun _ => ?_)
theorem spec_l01New.mono : ∀ a0 k, LeO (spec_l01New.f k a0) (spec_l01New.f (k + 1) a0) := by
 intro a0 k
 have ih0 := spec_l01New.mono_l k
 unfold spec_l01New.f
 repeat' first
   | (with_reducible exact ih0 _ _ _)
   | (with_reducible exact LeO.refl _)
   | (with_reducible exact LeO.none _)
   | (with_reducible refine LeO.ite ?_ ?_)
   | (with_reducible refine LeO.bind ?_ (fun _ => ?_))
   | exact ih0 _ _ _
   | exact LeO.none _
   | refine LeO.ite ?_ ?_
   | refine LeO.bind ?_ (fun _ => ?_)
set_option maxHeartbeats 8000000 in
set_option maxRecDepth 100000 in
theorem spec_l01New.calls (k : Nat) (A0 : Option Addr) (c0 : Nat) (l0 : List Int) (r1 : List Int) (r2 : Int) (r3 : Int) (w0 w : World) (hB : Below w0.heap.size w0 w) (hr0 : Kd.C (Kd.int .u8) w0 A0 l0.length l0) (hc0 : l0.length ≤ c0) (h : spec_l01New.f k l0 = some (r1, r2, r3)) :
  Calls Try.prog 63 #[.slice A0 l0.length c0] w fun e w' => ∃ g_ : Nat, e = .returned (.pointer (some ⟨g_, 0, none⟩)) ∧ IsS65 w0 w' g_ r1 r2 r3 ∧ Below w0.heap.size w0 w' ∧ Below w.heap.size w w' := by
 have hu65 := Try.underlying65
 have HR0 := Aside0.mk hr0
 have HC0 := Aside0.mk hc0
 clear hr0 hc0
 have HBW := k0 (Below.refl w.heap.size w)
 have HW0 := Aside0.mk hB.size
 have HB := Aside0.mk hB
 clear hB
 have H : (spec_l01New.l0 k l0 (wrap64 (1626 + (l0.length : Int))) 0) = some (r1, r2, r3) := h
 clear h
 have H' := Aside0.mk H
 clear H
 go_enter Try.func63, Try.ntmps63
 go_wp2
 go_loopg [3, 4] k (fun kq v3 v4 w' => ∃ (x3_1 : Int) (x4_1 : Int), v3 = .int .i64 x3_1 ∧ v4 = .int .i64 x4_1 ∧ Aside0 (spec_l01New.l0 kq l0 x3_1 x4_1 = some (r1, r2, r3)) ∧ Aside0 (kq ≤ k) ∧ Aside0 (Below w0.heap.size w0 w') ∧ Aside0 (Below w.heap.size w w'))
 case atStart => exact ⟨(wrap64 (1626 + (l0.length : Int))), (0), (by first | rfl | (simp; done) | (simp [*]; done)), (by first | rfl | (simp; done) | (simp [*]; done)), H', ⟨Nat.le_refl _⟩, ⟨by repeat (first | (with_reducible first | exact HB.out | apply below_alloc | apply pw_below_drewN | apply below_drew1) | exact HB.out)⟩, ⟨by repeat (first | (with_reducible first | exact HBW.out | apply below_alloc | apply pw_below_drewN | apply below_drew1) | exact HBW.out)⟩⟩
 case round =>
  clear H'
  obtain ⟨x3_1, x4_1, rfl, rfl, HA, HK1, HB, HBW⟩ := hrel
  cases gk with
  | zero => exact absurd HA.out (by simp [spec_l01New.l0])
  | succ k1 =>
   have H := HA.out
   clear HA
   simp only [spec_l01New.l0] at H
   by_cases c2 : x4_1 < (l0.length : Int)
   ·rw [if_pos c2] at H
    have c2b0 : decide (x4_1 < (l0.length : Int)) = true := decide_eq_true c2
    clear c2
    by_cases c3 : x4_1 < 4000
    ·rw [if_pos c3] at H
     have c3b0 : decide (x4_1 < 4000) = true := decide_eq_true c3
     clear c3
     by_cases c4 : 0 ≤ x4_1
     ·rw [if_pos c4] at H
      have c4b0 : decide (0 ≤ x4_1) = true := decide_eq_true c4
      clear c4
      have H' := Aside0.mk H
      clear H
      have p171 : 0 ≤ (x4_1 : Int) := kD
      have q171 : x4_1 < (l0.length : Int) := kD
      obtain ⟨ad171, e171, hx171_0⟩ := Kd.at_int HR0.out x4_1 p171 q171
      cases e171
      replace hx171_0 := pw_cell_below HB.out hx171_0
      replace p171 := eq_true p171
      replace q171 := eq_true q171
      go_wp2
      go_roundg k1
      case measure => have := HK1.out; omega
      case rel => exact ⟨(Go.bits .and .i64 (wrap64 ((wrap64 ((wrap64 (x3_1 * 47)) + (wrap64 (rd l0 x4_1)))) + 7)) 1073741823), (wrap64 (x4_1 + 1)), (by first | rfl | (simp; done) | (simp [*]; done)), (by first | rfl | (simp; done) | (simp [*]; done)), H', ⟨by have := HK1.out; omega⟩, ⟨by repeat (first | (with_reducible first | exact HB.out | apply below_alloc | apply pw_below_drewN | apply below_drew1) | exact HB.out)⟩, ⟨by repeat (first | (with_reducible first | exact HBW.out | apply below_alloc | apply pw_below_drewN | apply below_drew1) | exact HBW.out)⟩⟩
     ·rw [if_neg c4] at H
      exact absurd H (by simp)
    ·rw [if_neg c3] at H
     have c3b0 : decide (x4_1 < 4000) = false := decide_eq_false c3
     clear c3
     simp only [Option.some.injEq, Prod.mk.injEq] at H
     obtain ⟨rfl, rfl, rfl⟩ := H
     go_wp2_with (first | ((with_reducible refine gate_dst (N := 31) rfl ?_); refine kE (N := 31) (cs := #[.slice A0 l0.length c0, .int .i64 0, .int .i64 x3_1]) (t := 65) ?_; intro gb172 hg w5 hbox hb; have n0_ := k0 (below_step HBW.out hb); have n1_ := k0 (below_step (kW HB.out) hb); have n2_ := k0 (hbox); have n3_ := k0 ((by rw [hg]; exact (below_size (by repeat (first | (with_reducible first | exact HBW.out | apply below_alloc | apply pw_below_drewN | apply below_drew1) | exact HBW.out))) : w.heap.size ≤ gb172)); have n4_ := k0 ((Nat.le_trans HW0.out (by rw [hg]; exact (below_size (by repeat (first | (with_reducible first | exact HBW.out | apply below_alloc | apply pw_below_drewN | apply below_drew1) | exact HBW.out))) : w.heap.size ≤ gb172) : w0.heap.size ≤ gb172)); clear HBW; clear HB; have HBW := n0_; have HB := n1_; have BK172 := n2_; have GW172 := n3_; have GE172 := n4_; clear n0_ n1_ n2_ n3_ n4_; clear hb hbox hg))
     go_ret
     exact ⟨_, rfl, (show IsS65 w0 _ gb172 l0 0 x3_1 from ⟨_, _, by (with_reducible repeat first | apply k1 | apply k2 | apply k3); exact BK172.out, GE172.out, HR0.out, HC0.out⟩), by repeat (first | (with_reducible first | exact HB.out | apply below_alloc | apply pw_below_drewN | apply below_drew1 | refine below_set ?_ GE172.out) | exact HB.out), by repeat (first | (with_reducible first | exact HBW.out | apply below_alloc | apply pw_below_drewN | apply below_drew1 | refine below_set ?_ GW172.out) | exact HBW.out)⟩
   ·rw [if_neg c2] at H
    have c2b0 : decide (x4_1 < (l0.length : Int)) = false := decide_eq_false c2
    clear c2
    simp only [Option.some.injEq, Prod.mk.injEq] at H
    obtain ⟨rfl, rfl, rfl⟩ := H
    go_wp2_with (first | ((with_reducible refine gate_dst (N := 31) rfl ?_); refine kE (N := 31) (cs := #[.slice A0 l0.length c0, .int .i64 0, .int .i64 x3_1]) (t := 65) ?_; intro gb173 hg w6 hbox hb; have n0_ := k0 (below_step HBW.out hb); have n1_ := k0 (below_step (kW HB.out) hb); have n2_ := k0 (hbox); have n3_ := k0 ((by rw [hg]; exact (below_size (by repeat (first | (with_reducible first | exact HBW.out | apply below_alloc | apply pw_below_drewN | apply below_drew1) | exact HBW.out))) : w.heap.size ≤ gb173)); have n4_ := k0 ((Nat.le_trans HW0.out (by rw [hg]; exact (below_size (by repeat (first | (with_reducible first | exact HBW.out | apply below_alloc | apply pw_below_drewN | apply below_drew1) | exact HBW.out))) : w.heap.size ≤ gb173) : w0.heap.size ≤ gb173)); clear HBW; clear HB; have HBW := n0_; have HB := n1_; have BK173 := n2_; have GW173 := n3_; have GE173 := n4_; clear n0_ n1_ n2_ n3_ n4_; clear hb hbox hg))
    go_ret
    exact ⟨_, rfl, (show IsS65 w0 _ gb173 l0 0 x3_1 from ⟨_, _, by (with_reducible repeat first | apply k1 | apply k2 | apply k3); exact BK173.out, GE173.out, HR0.out, HC0.out⟩), by repeat (first | (with_reducible first | exact HB.out | apply below_alloc | apply pw_below_drewN | apply below_drew1 | refine below_set ?_ GE173.out) | exact HB.out), by repeat (first | (with_reducible first | exact HBW.out | apply below_alloc | apply pw_below_drewN | apply below_drew1 | refine below_set ?_ GW173.out) | exact HBW.out)⟩

/-! ### spec_l01Byte: function 70 -/
def spec_l01Byte.f (s0_0 : List Int) (s0_1 : Int) (s0_2 : Int) : Option (Int × Int × Int) := if s0_1 < (s0_0.length : Int) then (if 0 ≤ s0_1 then (some (Go.bits .and .i64 (wrap64 ((Go.bits .and .i64 (Go.bits .xor .i64 ((wrap64 ((wrap64 (s0_2 * 6364136223846793005)) + 1442695040888963407)) / 8589934592) ((wrap64 ((wrap64 (s0_2 * 6364136223846793005)) + 1442695040888963407)) / 35184372088832)) 255) + (wrap64 (rd s0_0 s0_1)))) 255, wrap64 (s0_1 + 1), wrap64 ((wrap64 (s0_2 * 6364136223846793005)) + 1442695040888963407))) else (none)) else (some (Go.bits .and .i64 (Go.bits .xor .i64 ((wrap64 ((wrap64 (s0_2 * 6364136223846793005)) + 1442695040888963407)) / 8589934592) ((wrap64 ((wrap64 (s0_2 * 6364136223846793005)) + 1442695040888963407)) / 35184372088832)) 255, s0_1, wrap64 ((wrap64 (s0_2 * 6364136223846793005)) + 1442695040888963407)))
set_option maxHeartbeats 8000000 in
set_option maxRecDepth 100000 in
theorem spec_l01Byte.calls (g : Nat) (s0_0 : List Int) (s0_1 : Int) (s0_2 : Int) (r1 : Int) (r2 : Int) (r3 : Int) (w0 w : World) (hI : IsS65 w0 w g s0_0 s0_1 s0_2) (hB : Below w0.heap.size w0 w) (h : spec_l01Byte.f s0_0 s0_1 s0_2 = some (r1, r2, r3)) :
  Calls Try.prog 70 #[.pointer (some ⟨g, 0, none⟩)] w fun e w' => e = .returned (.int .i64 r1) ∧ IsS65 w0 w' g s0_0 r2 r3 ∧ Below w0.heap.size w0 w' ∧ KeepBut w w' g none := by
 have HI0 := Aside0.mk hI
 have HK := k0 (KeepBut.refl w g none)
 have HL := Aside0.mk hB.size
 clear hI
 have HW0 := Aside0.mk hB.size
 have HB := Aside0.mk hB
 clear hB
 have H : (if s0_1 < (s0_0.length : Int) then (if 0 ≤ s0_1 then (some (Go.bits .and .i64 (wrap64 ((Go.bits .and .i64 (Go.bits .xor .i64 ((wrap64 ((wrap64 (s0_2 * 6364136223846793005)) + 1442695040888963407)) / 8589934592) ((wrap64 ((wrap64 (s0_2 * 6364136223846793005)) + 1442695040888963407)) / 35184372088832)) 255) + (wrap64 (rd s0_0 s0_1)))) 255, wrap64 (s0_1 + 1), wrap64 ((wrap64 (s0_2 * 6364136223846793005)) + 1442695040888963407))) else (none)) else (some (Go.bits .and .i64 (Go.bits .xor .i64 ((wrap64 ((wrap64 (s0_2 * 6364136223846793005)) + 1442695040888963407)) / 8589934592) ((wrap64 ((wrap64 (s0_2 * 6364136223846793005)) + 1442695040888963407)) / 35184372088832)) 255, s0_1, wrap64 ((wrap64 (s0_2 * 6364136223846793005)) + 1442695040888963407)))) = some (r1, r2, r3) := h
 clear h
 by_cases c2 : s0_1 < (s0_0.length : Int)
 ·rw [if_pos c2] at H
  have c2b0 : decide (s0_1 < (s0_0.length : Int)) = true := decide_eq_true c2
  clear c2
  by_cases c3 : 0 ≤ s0_1
  ·rw [if_pos c3] at H
   have c3b0 : decide (0 ≤ s0_1) = true := decide_eq_true c3
   clear c3
   simp only [Option.some.injEq, Prod.mk.injEq] at H
   obtain ⟨rfl, rfl, rfl⟩ := H
   obtain ⟨ASz4_0, cSz4_0, HGz4, hgz4, HSz4_0, HTz4_0⟩ := HI0.out
   have hcz4_0 := cellS65_0 HGz4
   have hcz4_1 := cellS65_1 HGz4
   have hcz4_2 := cellS65_2 HGz4
   have hfz4_1 := blk_frozen HGz4 1
   have hfz4_2 := blk_frozen HGz4 2
   clear HGz4 hgz4
   have p174 : 0 ≤ (s0_1 : Int) := kD
   have q174 : s0_1 < (s0_0.length : Int) := kD
   obtain ⟨ad174, e174, hx174_0⟩ := Kd.at_int HSz4_0 s0_1 p174 q174
   cases e174
   have hn174_0 : ad174.block ≠ g := Nat.ne_of_lt (Nat.lt_of_lt_of_le (by have := World.block_lt_of_cell? _ _ hx174_0; first | rwa [add_block] at this | exact this) (IsS65.ge HI0.out))
   replace hx174_0 := pw_cell_below HB.out hx174_0
   replace hx174_0 := (cell_far (p := ⟨g, 2, none⟩) (by first | (rw [add_block]; exact hn174_0) | (show (Addr.add _ _).block ≠ _; rw [add_block]; exact hn174_0) | exact hn174_0) (.int .i64 (wrap64 ((wrap64 (s0_2 * 6364136223846793005)) + 1442695040888963407)))).trans hx174_0
   (try have hy174_0 := fun (n_ : Nat) => (show (((w.drewN n_).setCell ⟨g, 2, none⟩ (.int .i64 (wrap64 ((wrap64 (s0_2 * 6364136223846793005)) + 1442695040888963407))))).cell? _ = some _ from hx174_0))
   clear hn174_0
   replace p174 := eq_true p174
   replace q174 := eq_true q174
   go_enter Try.func70, Try.ntmps70
   go_wp2
   repeat (go_quiet (fail); try go_wp2)
   go_ret
   exact ⟨by first | rfl | (simp [errW_none, errW_some] <;> rfl) | (simp [*, errW_none, errW_some] <;> rfl), by repeat (first | (with_reducible first | exact HI0.out | apply IsS65.alloc | apply IsS65.drewN | apply IsS65.drew | apply IsS65.set_1 | apply IsS65.set_2) | exact HI0.out), by repeat (first | (with_reducible first | exact HB.out | apply below_alloc | apply pw_below_drewN | apply below_drew1 | refine below_set ?_ (IsS65.ge HI0.out)) | exact HB.out), by repeat (first | (with_reducible first | exact HK.out | apply KeepBut.set_ | apply keep_drewN | apply keep_drew | apply keep_alloc) | exact HK.out)⟩
  ·rw [if_neg c3] at H
   exact absurd H (by simp)
 ·rw [if_neg c2] at H
  have c2b0 : decide (s0_1 < (s0_0.length : Int)) = false := decide_eq_false c2
  clear c2
  simp only [Option.some.injEq, Prod.mk.injEq] at H
  obtain ⟨rfl, rfl, rfl⟩ := H
  obtain ⟨ASz5_0, cSz5_0, HGz5, hgz5, HSz5_0, HTz5_0⟩ := HI0.out
  have hcz5_0 := cellS65_0 HGz5
  have hcz5_1 := cellS65_1 HGz5
  have hcz5_2 := cellS65_2 HGz5
  have hfz5_1 := blk_frozen HGz5 1
  have hfz5_2 := blk_frozen HGz5 2
  clear HGz5 hgz5
  go_enter Try.func70, Try.ntmps70
  go_wp2
  repeat (go_quiet (fail); try go_wp2)
  go_ret
  exact ⟨by first | rfl | (simp [errW_none, errW_some] <;> rfl) | (simp [*, errW_none, errW_some] <;> rfl), by repeat (first | (with_reducible first | exact HI0.out | apply IsS65.alloc | apply IsS65.drewN | apply IsS65.drew | apply IsS65.set_1 | apply IsS65.set_2) | exact HI0.out), by repeat (first | (with_reducible first | exact HB.out | apply below_alloc | apply pw_below_drewN | apply below_drew1 | refine below_set ?_ (IsS65.ge HI0.out)) | exact HB.out), by repeat (first | (with_reducible first | exact HK.out | apply KeepBut.set_ | apply keep_drewN | apply keep_drew | apply keep_alloc) | exact HK.out)⟩

/-! ### spec_l01Below: function 64 -/
def spec_l01Below.f (s0_0 : List Int) (s0_1 : Int) (s0_2 : Int) (a1 : Int) : Option (Int × Int × Int) := if a1 ≤ 0 then (some (0, s0_1, s0_2)) else (if a1 ≤ 256 then ((spec_l01Byte.f s0_0 s0_1 s0_2).bind fun bt175 => (if a1 = 0 then (none) else (some (Int.tmod bt175.1 a1, bt175.2.1, bt175.2.2)))) else ((spec_l01Byte.f s0_0 s0_1 s0_2).bind fun bt178 => ((spec_l01Byte.f s0_0 bt178.2.1 bt178.2.2).bind fun bt181 => ((spec_l01Byte.f s0_0 bt181.2.1 bt181.2.2).bind fun bt184 => ((spec_l01Byte.f s0_0 bt184.2.1 bt184.2.2).bind fun bt187 => (if a1 = 0 then (none) else (some (Int.tmod (wrap64 ((wrap64 ((wrap64 ((wrap64 (bt178.1 * 16777216)) + (wrap64 (bt181.1 * 65536)))) + (wrap64 (bt184.1 * 256)))) + bt187.1)) a1, bt187.2.1, bt187.2.2))))))))
set_option maxHeartbeats 8000000 in
set_option maxRecDepth 100000 in
theorem spec_l01Below.calls (g : Nat) (s0_0 : List Int) (s0_1 : Int) (s0_2 : Int) (a1 : Int) (r1 : Int) (r2 : Int) (r3 : Int) (w0 w : World) (hI : IsS65 w0 w g s0_0 s0_1 s0_2) (hB : Below w0.heap.size w0 w) (h : spec_l01Below.f s0_0 s0_1 s0_2 a1 = some (r1, r2, r3)) :
  Calls Try.prog 64 #[.pointer (some ⟨g, 0, none⟩), .int .i64 a1] w fun e w' => e = .returned (.int .i64 r1) ∧ IsS65 w0 w' g s0_0 r2 r3 ∧ Below w0.heap.size w0 w' ∧ KeepBut w w' g none := by
 have HI0 := Aside0.mk hI
 have HK := k0 (KeepBut.refl w g none)
 have HL := Aside0.mk hB.size
 clear hI
 have HW0 := Aside0.mk hB.size
 have HB := Aside0.mk hB
 clear hB
 have H : (if a1 ≤ 0 then (some (0, s0_1, s0_2)) else (if a1 ≤ 256 then ((spec_l01Byte.f s0_0 s0_1 s0_2).bind fun bt175 => (if a1 = 0 then (none) else (some (Int.tmod bt175.1 a1, bt175.2.1, bt175.2.2)))) else ((spec_l01Byte.f s0_0 s0_1 s0_2).bind fun bt178 => ((spec_l01Byte.f s0_0 bt178.2.1 bt178.2.2).bind fun bt181 => ((spec_l01Byte.f s0_0 bt181.2.1 bt181.2.2).bind fun bt184 => ((spec_l01Byte.f s0_0 bt184.2.1 bt184.2.2).bind fun bt187 => (if a1 = 0 then (none) else (some (Int.tmod (wrap64 ((wrap64 ((wrap64 ((wrap64 (bt178.1 * 16777216)) + (wrap64 (bt181.1 * 65536)))) + (wrap64 (bt184.1 * 256)))) + bt187.1)) a1, bt187.2.1, bt187.2.2))))))))) = some (r1, r2, r3) := h
 clear h
 by_cases c3 : a1 ≤ 0
 ·rw [if_pos c3] at H
  have c3b0 : decide (a1 ≤ 0) = true := decide_eq_true c3
  clear c3
  simp only [Option.some.injEq, Prod.mk.injEq] at H
  obtain ⟨rfl, rfl, rfl⟩ := H
  go_enter Try.func64, Try.ntmps64
  go_wp2
  go_ret
  exact ⟨by first | rfl | (simp [errW_none, errW_some] <;> rfl) | (simp [*, errW_none, errW_some] <;> rfl), by repeat (first | (with_reducible first | exact HI0.out | apply IsS65.alloc | apply IsS65.drewN | apply IsS65.drew | apply IsS65.set_1 | apply IsS65.set_2) | exact HI0.out), by repeat (first | (with_reducible first | exact HB.out | apply below_alloc | apply pw_below_drewN | apply below_drew1 | refine below_set ?_ (IsS65.ge HI0.out)) | exact HB.out), by repeat (first | (with_reducible first | exact HK.out | apply KeepBut.set_ | apply keep_drewN | apply keep_drew | apply keep_alloc) | exact HK.out)⟩
 ·rw [if_neg c3] at H
  have c3b0 : decide (a1 ≤ 0) = false := decide_eq_false c3
  clear c3
  by_cases c4 : a1 ≤ 256
  ·rw [if_pos c4] at H
   have c4b0 : decide (a1 ≤ 256) = true := decide_eq_true c4
   clear c4
   replace H := Option.bind_eq_some_iff.mp H
   obtain ⟨⟨t175, t176, t177⟩, A50, H⟩ := H
   replace H : (if a1 = 0 then (none) else (some (Int.tmod t175 a1, t176, t177))) = some (r1, r2, r3) := H
   have A5 := Aside0.mk A50
   clear A50
   by_cases c6 : a1 = 0
   ·rw [if_pos c6] at H
    exact absurd H (by simp)
   ·rw [if_neg c6] at H
    have c6b0 : (a1 == 0) = false := beq_eq_false_iff_ne.mpr c6
    have c6b1 : (a1 != 0) = true := bne_iff_ne.mpr c6
    simp only [Option.some.injEq, Prod.mk.injEq] at H
    obtain ⟨rfl, rfl, rfl⟩ := H
    go_enter Try.func64, Try.ntmps64
    go_wp2_with (first | ((with_reducible refine gate_callee (f := 70) rfl ?_); refine kG (some 14) Try.func70 #[.pointer (some ⟨g, 0, none⟩)] ?_; (with_reducible refine (spec_l01Byte.calls g s0_0 s0_1 s0_2 t175 t176 t177 w0 _ ?side1 ?side2 A5.out).mono ?_); (case side1 => repeat (first | (with_reducible first | exact HI0.out | apply IsS65.alloc | apply IsS65.drewN | apply IsS65.drew | apply IsS65.set_1 | apply IsS65.set_2) | exact HI0.out)); (case side2 => repeat (first | (with_reducible first | exact HB.out | apply below_alloc | apply pw_below_drewN | apply below_drew1 | refine below_set ?_ (IsS65.ge HI0.out)) | exact HB.out)); rintro e w7 ⟨rfl, hi, hb, hk⟩; refine ⟨_, rfl, ?_⟩; have n0_ := k0 (KeepBut.trans (by repeat (first | (with_reducible first | exact HK.out | apply KeepBut.set_ | apply keep_drewN | apply keep_drew | apply keep_alloc) | exact HK.out)) hk (.inl rfl)); have n1_ := k0 (hb); have n2_ := k0 (hi); clear HK; clear HB; clear HI0; have HK := n0_; have HB := n1_; have HI0 := n2_; clear n0_ n1_ n2_; (try clear hb); (try clear hb2); (try clear hk); (try clear hi)))
    go_ret
    exact ⟨by first | rfl | (simp [errW_none, errW_some] <;> rfl) | (simp [*, errW_none, errW_some] <;> rfl), by repeat (first | (with_reducible first | exact HI0.out | apply IsS65.alloc | apply IsS65.drewN | apply IsS65.drew | apply IsS65.set_1 | apply IsS65.set_2) | exact HI0.out), by repeat (first | (with_reducible first | exact HB.out | apply below_alloc | apply pw_below_drewN | apply below_drew1 | refine below_set ?_ (IsS65.ge HI0.out)) | exact HB.out), by repeat (first | (with_reducible first | exact HK.out | apply KeepBut.set_ | apply keep_drewN | apply keep_drew | apply keep_alloc) | exact HK.out)⟩
  ·rw [if_neg c4] at H
   have c4b0 : decide (a1 ≤ 256) = false := decide_eq_false c4
   clear c4
   replace H := Option.bind_eq_some_iff.mp H
   obtain ⟨⟨t178, t179, t180⟩, A80, H⟩ := H
   replace H : ((spec_l01Byte.f s0_0 t179 t180).bind fun bt181 => ((spec_l01Byte.f s0_0 bt181.2.1 bt181.2.2).bind fun bt184 => ((spec_l01Byte.f s0_0 bt184.2.1 bt184.2.2).bind fun bt187 => (if a1 = 0 then (none) else (some (Int.tmod (wrap64 ((wrap64 ((wrap64 ((wrap64 (t178 * 16777216)) + (wrap64 (bt181.1 * 65536)))) + (wrap64 (bt184.1 * 256)))) + bt187.1)) a1, bt187.2.1, bt187.2.2)))))) = some (r1, r2, r3) := H
   have A8 := Aside0.mk A80
   clear A80
   replace H := Option.bind_eq_some_iff.mp H
   obtain ⟨⟨t181, t182, t183⟩, A90, H⟩ := H
   replace H : ((spec_l01Byte.f s0_0 t182 t183).bind fun bt184 => ((spec_l01Byte.f s0_0 bt184.2.1 bt184.2.2).bind fun bt187 => (if a1 = 0 then (none) else (some (Int.tmod (wrap64 ((wrap64 ((wrap64 ((wrap64 (t178 * 16777216)) + (wrap64 (t181 * 65536)))) + (wrap64 (bt184.1 * 256)))) + bt187.1)) a1, bt187.2.1, bt187.2.2))))) = some (r1, r2, r3) := H
   have A9 := Aside0.mk A90
   clear A90
   replace H := Option.bind_eq_some_iff.mp H
   obtain ⟨⟨t184, t185, t186⟩, A100, H⟩ := H
   replace H : ((spec_l01Byte.f s0_0 t185 t186).bind fun bt187 => (if a1 = 0 then (none) else (some (Int.tmod (wrap64 ((wrap64 ((wrap64 ((wrap64 (t178 * 16777216)) + (wrap64 (t181 * 65536)))) + (wrap64 (t184 * 256)))) + bt187.1)) a1, bt187.2.1, bt187.2.2)))) = some (r1, r2, r3) := H
   have A10 := Aside0.mk A100
   clear A100
   replace H := Option.bind_eq_some_iff.mp H
   obtain ⟨⟨t187, t188, t189⟩, A110, H⟩ := H
   replace H : (if a1 = 0 then (none) else (some (Int.tmod (wrap64 ((wrap64 ((wrap64 ((wrap64 (t178 * 16777216)) + (wrap64 (t181 * 65536)))) + (wrap64 (t184 * 256)))) + t187)) a1, t188, t189))) = some (r1, r2, r3) := H
   have A11 := Aside0.mk A110
   clear A110
   by_cases c12 : a1 = 0
   ·rw [if_pos c12] at H
    exact absurd H (by simp)
   ·rw [if_neg c12] at H
    have c12b0 : (a1 == 0) = false := beq_eq_false_iff_ne.mpr c12
    have c12b1 : (a1 != 0) = true := bne_iff_ne.mpr c12
    simp only [Option.some.injEq, Prod.mk.injEq] at H
    obtain ⟨rfl, rfl, rfl⟩ := H
    go_enter Try.func64, Try.ntmps64
    go_wp2_with (first | ((with_reducible refine gate_callee (f := 70) rfl ?_); refine kG (some 18) Try.func70 #[.pointer (some ⟨g, 0, none⟩)] ?_; (with_reducible refine (spec_l01Byte.calls g s0_0 s0_1 s0_2 t178 t179 t180 w0 _ ?side1 ?side2 A8.out).mono ?_); (case side1 => repeat (first | (with_reducible first | exact HI0.out | apply IsS65.alloc | apply IsS65.drewN | apply IsS65.drew | apply IsS65.set_1 | apply IsS65.set_2) | exact HI0.out)); (case side2 => repeat (first | (with_reducible first | exact HB.out | apply below_alloc | apply pw_below_drewN | apply below_drew1 | refine below_set ?_ (IsS65.ge HI0.out)) | exact HB.out)); rintro e w13 ⟨rfl, hi, hb, hk⟩; refine ⟨_, rfl, ?_⟩; have n0_ := k0 (KeepBut.trans (by repeat (first | (with_reducible first | exact HK.out | apply KeepBut.set_ | apply keep_drewN | apply keep_drew | apply keep_alloc) | exact HK.out)) hk (.inl rfl)); have n1_ := k0 (hb); have n2_ := k0 (hi); clear HK; clear HB; clear HI0; have HK := n0_; have HB := n1_; have HI0 := n2_; clear n0_ n1_ n2_; (try clear hb); (try clear hb2); (try clear hk); (try clear hi)) | ((with_reducible refine gate_callee (f := 70) rfl ?_); refine kG (some 20) Try.func70 #[.pointer (some ⟨g, 0, none⟩)] ?_; (with_reducible refine (spec_l01Byte.calls g s0_0 t179 t180 t181 t182 t183 w0 _ ?side1 ?side2 A9.out).mono ?_); (case side1 => repeat (first | (with_reducible first | exact HI0.out | apply IsS65.alloc | apply IsS65.drewN | apply IsS65.drew | apply IsS65.set_1 | apply IsS65.set_2) | exact HI0.out)); (case side2 => repeat (first | (with_reducible first | exact HB.out | apply below_alloc | apply pw_below_drewN | apply below_drew1 | refine below_set ?_ (IsS65.ge HI0.out)) | exact HB.out)); rintro e w14 ⟨rfl, hi, hb, hk⟩; refine ⟨_, rfl, ?_⟩; have n0_ := k0 (KeepBut.trans (by repeat (first | (with_reducible first | exact HK.out | apply KeepBut.set_ | apply keep_drewN | apply keep_drew | apply keep_alloc) | exact HK.out)) hk (.inl rfl)); have n1_ := k0 (hb); have n2_ := k0 (hi); clear HK; clear HB; clear HI0; have HK := n0_; have HB := n1_; have HI0 := n2_; clear n0_ n1_ n2_; (try clear hb); (try clear hb2); (try clear hk); (try clear hi)) | ((with_reducible refine gate_callee (f := 70) rfl ?_); refine kG (some 22) Try.func70 #[.pointer (some ⟨g, 0, none⟩)] ?_; (with_reducible refine (spec_l01Byte.calls g s0_0 t182 t183 t184 t185 t186 w0 _ ?side1 ?side2 A10.out).mono ?_); (case side1 => repeat (first | (with_reducible first | exact HI0.out | apply IsS65.alloc | apply IsS65.drewN | apply IsS65.drew | apply IsS65.set_1 | apply IsS65.set_2) | exact HI0.out)); (case side2 => repeat (first | (with_reducible first | exact HB.out | apply below_alloc | apply pw_below_drewN | apply below_drew1 | refine below_set ?_ (IsS65.ge HI0.out)) | exact HB.out)); rintro e w15 ⟨rfl, hi, hb, hk⟩; refine ⟨_, rfl, ?_⟩; have n0_ := k0 (KeepBut.trans (by repeat (first | (with_reducible first | exact HK.out | apply KeepBut.set_ | apply keep_drewN | apply keep_drew | apply keep_alloc) | exact HK.out)) hk (.inl rfl)); have n1_ := k0 (hb); have n2_ := k0 (hi); clear HK; clear HB; clear HI0; have HK := n0_; have HB := n1_; have HI0 := n2_; clear n0_ n1_ n2_; (try clear hb); (try clear hb2); (try clear hk); (try clear hi)) | ((with_reducible refine gate_callee (f := 70) rfl ?_); refine kG (some 24) Try.func70 #[.pointer (some ⟨g, 0, none⟩)] ?_; (with_reducible refine (spec_l01Byte.calls g s0_0 t185 t186 t187 t188 t189 w0 _ ?side1 ?side2 A11.out).mono ?_); (case side1 => repeat (first | (with_reducible first | exact HI0.out | apply IsS65.alloc | apply IsS65.drewN | apply IsS65.drew | apply IsS65.set_1 | apply IsS65.set_2) | exact HI0.out)); (case side2 => repeat (first | (with_reducible first | exact HB.out | apply below_alloc | apply pw_below_drewN | apply below_drew1 | refine below_set ?_ (IsS65.ge HI0.out)) | exact HB.out)); rintro e w16 ⟨rfl, hi, hb, hk⟩; refine ⟨_, rfl, ?_⟩; have n0_ := k0 (KeepBut.trans (by repeat (first | (with_reducible first | exact HK.out | apply KeepBut.set_ | apply keep_drewN | apply keep_drew | apply keep_alloc) | exact HK.out)) hk (.inl rfl)); have n1_ := k0 (hb); have n2_ := k0 (hi); clear HK; clear HB; clear HI0; have HK := n0_; have HB := n1_; have HI0 := n2_; clear n0_ n1_ n2_; (try clear hb); (try clear hb2); (try clear hk); (try clear hi)))
    go_ret
    exact ⟨by first | rfl | (simp [errW_none, errW_some] <;> rfl) | (simp [*, errW_none, errW_some] <;> rfl), by repeat (first | (with_reducible first | exact HI0.out | apply IsS65.alloc | apply IsS65.drewN | apply IsS65.drew | apply IsS65.set_1 | apply IsS65.set_2) | exact HI0.out), by repeat (first | (with_reducible first | exact HB.out | apply below_alloc | apply pw_below_drewN | apply below_drew1 | refine below_set ?_ (IsS65.ge HI0.out)) | exact HB.out), by repeat (first | (with_reducible first | exact HK.out | apply KeepBut.set_ | apply keep_drewN | apply keep_drew | apply keep_alloc) | exact HK.out)⟩

/-! ### spec_MakeNum: function 34 -/
def spec_MakeNum.f (k : Nat) (l0 : List Int) (a1 : Int) : Option (Int) := (spec_l01New.f k l0).bind fun bt190 => ((spec_l01Below.f bt190.1 bt190.2.1 (wrap64 (bt190.2.2 + 777)) a1).bind fun bt194 => (some bt194.1))
theorem spec_MakeNum.mono : ∀ a0 a1 k, LeO (spec_MakeNum.f k a0 a1) (spec_MakeNum.f (k + 1) a0 a1) := by
 intro a0 a1 k
 unfold spec_MakeNum.f
 repeat' first
   | (with_reducible exact spec_l01New.mono _ _)
   | (with_reducible exact LeO.refl _)
   | (with_reducible exact LeO.none _)
   | (with_reducible refine LeO.ite ?_ ?_)
   | (with_reducible refine LeO.bind ?_ (fun _ => ?_))
   | exact spec_l01New.mono _ _
   | exact LeO.none _
   | refine LeO.ite ?_ ?_
   | refine LeO.bind ?_ (fun _ => ?_)
set_option maxHeartbeats 8000000 in
set_option maxRecDepth 100000 in
theorem spec_MakeNum.calls (k : Nat) (A0 : Option Addr) (c0 : Nat) (l0 : List Int) (a1 : Int) (r : Int) (w : World) (hr0 : Kd.C (Kd.int .u8) w A0 l0.length l0) (hc0 : l0.length ≤ c0) (h : spec_MakeNum.f k l0 a1 = some r) :
  Calls Try.prog 34 #[.slice A0 l0.length c0, .int .i64 a1] w fun e w' => e = .returned (.int .i64 r) ∧ Below w.heap.size w w' := by
 have HR0 := Aside0.mk hr0
 have HC0 := Aside0.mk hc0
 clear hr0 hc0
 have HB := k0 (Below.refl w.heap.size w)
 have H : ((spec_l01New.f k l0).bind fun bt190 => ((spec_l01Below.f bt190.1 bt190.2.1 (wrap64 (bt190.2.2 + 777)) a1).bind fun bt194 => (some bt194.1))) = some r := h
 clear h
 replace H := Option.bind_eq_some_iff.mp H
 obtain ⟨⟨t190, t191, t192⟩, A30, H⟩ := H
 replace H : ((spec_l01Below.f t190 t191 (wrap64 (t192 + 777)) a1).bind fun bt194 => (some bt194.1)) = some r := H
 have A3 := Aside0.mk A30
 clear A30
 replace H := Option.bind_eq_some_iff.mp H
 obtain ⟨⟨t194, t195, t196⟩, A40, H⟩ := H
 replace H : (some t194) = some r := H
 have A4 := Aside0.mk A40
 clear A40
 obtain rfl := Option.some.inj H
 go_enter Try.func34, Try.ntmps34
 go_wp2_with (first | ((with_reducible refine gate_callee (f := 63) rfl ?_); refine kG (some 7) Try.func63 #[.slice A0 l0.length c0] ?_; (with_reducible refine (spec_l01New.calls k _ _ l0 t190 t191 t192 w _ ?side1 ?side2 ?side3 A3.out).mono ?_); (case side1 => repeat (first | (with_reducible first | exact HB.out | apply below_alloc | apply pw_below_drewN | apply below_drew1) | exact HB.out)); (case side2 => exact HR0.out); (case side3 => exact HC0.out); rintro e w5 ⟨g193, rfl, hi, hb, hb2⟩; refine ⟨_, rfl, ?_⟩; have n0_ := k0 (hb); have n1_ := k0 (hi); clear HB; have HB := n0_; have HI193 := n1_; clear n0_ n1_; (try clear hb); (try clear hb2); (try clear hk); (try clear hi); obtain ⟨ASz6_0, cSz6_0, HGz6, hgz6, HSz6_0, HTz6_0⟩ := HI193.out; have hcz6_0 := cellS65_0 HGz6; have hcz6_1 := cellS65_1 HGz6; have hcz6_2 := cellS65_2 HGz6; have hfz6_1 := blk_frozen HGz6 1; have hfz6_2 := blk_frozen HGz6 2; clear HGz6 hgz6) | ((with_reducible refine gate_callee (f := 64) rfl ?_); refine kG (some 18) Try.func64 #[.pointer (some ⟨g193, 0, none⟩), .int .i64 a1] ?_; (with_reducible refine (spec_l01Below.calls g193 t190 t191 (wrap64 (t192 + 777)) a1 t194 t195 t196 w _ ?side1 ?side2 A4.out).mono ?_); (case side1 => repeat (first | (with_reducible first | exact HI193.out | apply IsS65.alloc | apply IsS65.drewN | apply IsS65.drew | apply IsS65.set_1 | apply IsS65.set_2) | exact HI193.out)); (case side2 => repeat (first | (with_reducible first | exact HB.out | apply below_alloc | apply pw_below_drewN | apply below_drew1 | refine below_set ?_ (IsS65.ge HI193.out)) | exact HB.out)); rintro e w7 ⟨rfl, hi, hb, hk⟩; refine ⟨_, rfl, ?_⟩; have n0_ := k0 (hb); have n1_ := k0 (hi); clear HB; clear HI193; have HB := n0_; have HI193 := n1_; clear n0_ n1_; (try clear hb); (try clear hb2); (try clear hk); (try clear hi)))
 go_ret
 exact ⟨by first | rfl | (simp [errW_none, errW_some] <;> rfl) | (simp [*, errW_none, errW_some] <;> rfl), by repeat (first | (with_reducible first | exact HB.out | apply below_alloc | apply pw_below_drewN | apply below_drew1 | refine below_set ?_ (IsS65.ge HI193.out)) | exact HB.out)⟩

end Go.Proofs.Ytcnanifokpcjaaa.PFnMeet
