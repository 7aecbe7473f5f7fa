import Derived.Test.YtcnanifokpcjaaaPFnRightsx0
import Derived.Test.YtcnanifokpcjaaaPFnRightsx5
import Derived.Test.YtcnanifokpcjaaaPFnRightsx8
import Derived.Test.YtcnanifokpcjaaaPFnRightsx9
import Derived.Test.YtcnanifokpcjaaaPFnRightsx10
namespace Go.Proofs.Ytcnanifokpcjaaa.PFnRights
open Go.RowKit Go.Proofs.YtcnanifokpcjaaaW.PrintWords Go.Proofs.YtcnanifokpcjaaaW.PrintLast Go.Proofs.YtcnanifokpcjaaaW.PrintMore
attribute [local go_sem] max2_int min2_int max_two min_two max_three min_three max_four min_four   -- for this text's walks alone
set_option linter.unusedVariables false
set_option linter.unusedSimpArgs false

/-! ### spec_l06Draw: function 65 -/
def spec_l06Draw.l0 : Nat → Int → Int → List Int → Int → Int → List (List Int) → List Int → Option ((List (List Int)) × List Int × Int × Int)
 | 0, _, _, _, _, _, _, _ => none
 | k + 1, x1, x6, x1000, x1001, x1002, x314000, x314001 => if x6 > 0 then ((spec_l01Below.f x1000 x1001 x1002 3).bind fun bt318 => (if bt318.1 = 0 then ((spec_l01Below.f x1000 bt318.2.1 bt318.2.2 x1).bind fun bt321 => ((spec_l01Below.f x1000 bt321.2.1 bt321.2.2 50).bind fun bt324 => ((spec_Mint.f k x314000 x314001 bt321.1 (wrap64 (1 + bt324.1))).bind fun bt327 => (if bt327.2.2 = true then (spec_l06Draw.l0 k x1 (wrap64 (x6 - 1)) x1000 bt324.2.1 bt324.2.2 bt327.1 bt327.2.1) else (spec_l06Draw.l0 k x1 (wrap64 (x6 - 1)) x1000 bt324.2.1 bt324.2.2 x314000 x314001))))) else (if bt318.1 = 1 then ((spec_l01Below.f x1000 bt318.2.1 bt318.2.2 x1).bind fun bt334 => ((spec_l01Below.f x1000 bt334.2.1 bt334.2.2 20).bind fun bt337 => ((spec_Spend.f k x314000 x314001 bt334.1 (wrap64 (1 + bt337.1))).bind fun bt340 => (if bt340.2.2 = true then (spec_l06Draw.l0 k x1 (wrap64 (x6 - 1)) x1000 bt337.2.1 bt337.2.2 bt340.1 bt340.2.1) else (spec_l06Draw.l0 k x1 (wrap64 (x6 - 1)) x1000 bt337.2.1 bt337.2.2 x314000 x314001))))) else ((spec_l01Below.f x1000 bt318.2.1 bt318.2.2 x1).bind fun bt347 => ((spec_l01Below.f x1000 bt347.2.1 bt347.2.2 x1).bind fun bt350 => ((spec_l01Below.f x1000 bt350.2.1 bt350.2.2 20).bind fun bt353 => ((spec_Hand.f k x314000 x314001 bt347.1 bt350.1 (wrap64 (1 + bt353.1))).bind fun bt356 => (if bt356.2.2 = true then (spec_l06Draw.l0 k x1 (wrap64 (x6 - 1)) x1000 bt353.2.1 bt353.2.2 bt356.1 bt356.2.1) else (spec_l06Draw.l0 k x1 (wrap64 (x6 - 1)) x1000 bt353.2.1 bt353.2.2 x314000 x314001))))))))) else (some (x314000, x314001, x1001, x1002))
def spec_l06Draw.f (k : Nat) (s0_0 : List Int) (s0_1 : Int) (s0_2 : Int) (a1 : Int) : Option ((List (List Int)) × List Int × Int × Int) := (spec_RightsNew.f k a1).bind fun bt307 => ((spec_l01Below.f s0_0 s0_1 s0_2 9).bind fun bt314 => (spec_l06Draw.l0 k a1 bt314.1 s0_0 bt314.2.1 bt314.2.2 bt307.1 bt307.2))
theorem spec_l06Draw.mono_l : ∀ k, (∀ y0 y1 y2 y3 y4 y5 y6, LeO (spec_l06Draw.l0 k y0 y1 y2 y3 y4 y5 y6) (spec_l06Draw.l0 (k + 1) y0 y1 y2 y3 y4 y5 y6))
 | 0 => fun _ _ _ _ _ _ _ r h => by simp [spec_l06Draw.l0] at h
 | k + 1 => by
  have ih0 := spec_l06Draw.mono_l k
  ·intro y0 y1 y2 y3 y4 y5 y6
   unfold spec_l06Draw.l0
   repeat' first
   | (with_reducible exact ih0 _ _ _ _ _ _ _)
   | (with_reducible exact spec_Hand.mono _ _ _ _ _ _)
   | (with_reducible exact spec_Mint.mono _ _ _ _ _)
   | (with_reducible exact spec_RightsNew.mono _ _)
   | (with_reducible exact spec_Spend.mono _ _ _ _ _)
   | (with_reducible exact LeO.refl _)
   | (with_reducible exact LeO.none _)
   | (with_reducible refine LeO.ite ?_ ?_)
   | (with_reducible refine LeO.bind ?_ (fun _ => ?_))
   | exact ih0 _ _ _ _ _ _ _
   | exact spec_Hand.mono _ _ _ _ _ _
   | exact spec_Mint.mono _ _ _ _ _
   | exact spec_RightsNew.mono _ _
   | exact spec_Spend.mono _ _ _ _ _
   | exact LeO.none _
   | refine LeO.ite ?_ ?_
   | refine LeO.bind ?_ (fun _ => ?_)
theorem spec_l06Draw.mono : ∀ a0 a1 a2 a3 k, LeO (spec_l06Draw.f k a0 a1 a2 a3) (spec_l06Draw.f (k + 1) a0 a1 a2 a3) := by
 intro a0 a1 a2 a3 k
 have ih0 := spec_l06Draw.mono_l k
 unfold spec_l06Draw.f
 repeat' first
   | (with_reducible exact ih0 _ _ _ _ _ _ _)
   | (with_reducible exact spec_Hand.mono _ _ _ _ _ _)
   | (with_reducible exact spec_Mint.mono _ _ _ _ _)
   | (with_reducible exact spec_RightsNew.mono _ _)
   | (with_reducible exact spec_Spend.mono _ _ _ _ _)
   | (with_reducible exact LeO.refl _)
   | (with_reducible exact LeO.none _)
   | (with_reducible refine LeO.ite ?_ ?_)
   | (with_reducible refine LeO.bind ?_ (fun _ => ?_))
   | exact ih0 _ _ _ _ _ _ _
   | exact spec_Hand.mono _ _ _ _ _ _
   | exact spec_Mint.mono _ _ _ _ _
   | exact spec_RightsNew.mono _ _
   | exact spec_Spend.mono _ _ _ _ _
   | exact LeO.none _
   | refine LeO.ite ?_ ?_
   | refine LeO.bind ?_ (fun _ => ?_)
def spec_l06Draw.T8 : Bool × List (List Nat × List Nat) := (true, [([], []), ([], []), ([], []), ([1, 2], [1, 2]), ([], []), ([], []), ([4, 5, 3], [4, 5]), ([], []), ([7, 6], [7]), ([8], [8]), ([0, 3, 6, 9, 8], [0, 3, 6, 9]), ([10], [10]), ([11], [11]), ([11], [11]), ([12, 10, 0, 1, 2, 3, 4, 5, 6, 7, 8, 9, 10, 11, 12], [12]), ([13, 14, 0, 1, 2, 3, 4, 5, 6, 7, 8, 9, 10, 11, 12, 13, 14], [13])])
def spec_l06Draw.B8 : List Nat := [0, 0, 0, 6, 0, 0, 62, 0, 254, 510, 1023, 2047, 4095, 4095, 8191, 32767]
theorem spec_l06Draw.tab8 : rtab .any (opsOf Try.f65 8) = spec_l06Draw.T8 := by kernel_rfl
theorem spec_l06Draw.bits8 : waitsOk spec_l06Draw.T8.2 spec_l06Draw.B8 = true := by kernel_rfl
def spec_l06Draw.T10 : Bool × List (List Nat × List Nat) := (true, [([], []), ([], []), ([], []), ([1, 2], [1, 2]), ([], []), ([4, 3], [4]), ([5], [5]), ([0, 3, 6, 5], [0, 3, 6]), ([7], [7]), ([8], [8]), ([8], [8]), ([9, 7, 0, 1, 2, 3, 4, 5, 6, 7, 8, 9], [9]), ([10, 11, 0, 1, 2, 3, 4, 5, 6, 7, 8, 9, 10, 11], [10])])
def spec_l06Draw.B10 : List Nat := [0, 0, 0, 6, 0, 30, 62, 127, 255, 511, 511, 1023, 4095]
theorem spec_l06Draw.tab10 : rtab .any (opsOf Try.f65 10) = spec_l06Draw.T10 := by kernel_rfl
theorem spec_l06Draw.bits10 : waitsOk spec_l06Draw.T10.2 spec_l06Draw.B10 = true := by kernel_rfl
def spec_l06Draw.T12 : Bool × List (List Nat × List Nat) := (true, [([], []), ([], []), ([], []), ([1, 2], [1, 2]), ([], []), ([4, 3], [4]), ([5], [5]), ([0, 3, 6, 5], [0, 3, 6]), ([7], [7]), ([8], [8]), ([8], [8]), ([9, 7, 0, 1, 2, 3, 4, 5, 6, 7, 8, 9], [9]), ([10, 11, 0, 1, 2, 3, 4, 5, 6, 7, 8, 9, 10, 11], [10])])
def spec_l06Draw.B12 : List Nat := [0, 0, 0, 6, 0, 30, 62, 127, 255, 511, 511, 1023, 4095]
theorem spec_l06Draw.tab12 : rtab .any (opsOf Try.f65 12) = spec_l06Draw.T12 := by kernel_rfl
theorem spec_l06Draw.bits12 : waitsOk spec_l06Draw.T12.2 spec_l06Draw.B12 = true := by kernel_rfl
set_option maxHeartbeats 8000000 in
set_option maxRecDepth 100000 in
theorem spec_l06Draw.calls (k : Nat) (g : Nat) (s0_0 : List Int) (s0_1 : Int) (s0_2 : Int) (a1 : Int) (r1 : List (List Int)) (r2 : List Int) (r3 : Int) (r4 : Int) (w0 w : World) (hI : IsS65 w0 w g s0_0 s0_1 s0_2) (hB : Below w0.heap.size w0 w) (h : spec_l06Draw.f k s0_0 s0_1 s0_2 a1 = some (r1, r2, r3, r4)) :
  Calls Try.prog 65 #[.pointer (some ⟨g, 0, none⟩), .int .i64 a1] w fun e w' => ∃ v0_ v1_ : Value, e = .returned (.agg #[v0_, v1_]) ∧ Kd.V (Kd.slice 3 (Kd.int .i64)) 23 w' w.heap.size (fun k_ => (w.heap.size ≤ k_) ∧ some k_ ≠ (v1_ : Value).ownBlock) v0_ r1 ∧ Kd.R (Kd.int .i64) 3 w' w.heap.size (fun k_ => (w.heap.size ≤ k_)) v1_ r2 ∧ IsS65 w0 w' g s0_0 r3 r4 ∧ Below w0.heap.size w0 w' ∧ KeepBut w w' g none := by
 have hu28 := Try.underlying28
 have HI0 := Aside0.mk hI
 have HK := k0 (KeepBut.refl w g none)
 have HL := Aside0.mk hB.size
 clear hI
 have HW0 := Aside0.mk hB.size
 have HB := Aside0.mk hB
 clear hB
 have H : ((spec_RightsNew.f k a1).bind fun bt307 => ((spec_l01Below.f s0_0 s0_1 s0_2 9).bind fun bt314 => (spec_l06Draw.l0 k a1 bt314.1 s0_0 bt314.2.1 bt314.2.2 bt307.1 bt307.2))) = some (r1, r2, r3, r4) := h
 clear h
 replace H := Option.bind_eq_some_iff.mp H
 obtain ⟨⟨t307, t310⟩, A30, H⟩ := H
 replace H : ((spec_l01Below.f s0_0 s0_1 s0_2 9).bind fun bt314 => (spec_l06Draw.l0 k a1 bt314.1 s0_0 bt314.2.1 bt314.2.2 t307 t310)) = some (r1, r2, r3, r4) := H
 have A3 := Aside0.mk A30
 clear A30
 replace H := Option.bind_eq_some_iff.mp H
 obtain ⟨⟨t314, t315, t316⟩, A40, H⟩ := H
 replace H : (spec_l06Draw.l0 k a1 t314 s0_0 t315 t316 t307 t310) = some (r1, r2, r3, r4) := H
 have A4 := Aside0.mk A40
 clear A40
 have H' := Aside0.mk H
 clear H
 go_enter Try.func65, Try.ntmps65
 go_wp2_with (first | ((with_reducible refine gate_dst (N := 4) rfl ?_); refine kE (N := 4) (cs := #[.slice none 0 0, .slice none 0 0]) (t := 28) ?_; intro gb306 hg w5 hbox hb; have n0_ := k0 (IsS65.below (by repeat (first | (with_reducible first | exact HI0.out | apply IsS65.alloc | apply IsS65.drewN | apply IsS65.drew | apply IsS65.set_1 | apply IsS65.set_2) | exact HI0.out)) hb); have n1_ := k0 (KeepBut.trans (by repeat (first | (with_reducible first | exact HK.out | apply KeepBut.set_ | apply keep_drewN | apply keep_drew | apply keep_alloc) | exact HK.out)) (KeepBut.of_below hb g none) (.inl rfl)); have n2_ := k0 (below_step (by repeat (first | (with_reducible first | exact HB.out | apply below_alloc | apply pw_below_drewN | apply below_drew1 | refine below_set ?_ (IsS65.ge HI0.out)) | exact HB.out)) hb); have n3_ := k0 (hbox); have n4_ := k0 ((by rw [hg]; exact (keep_size (w := w) (g := g) (row := none) (by repeat (first | (with_reducible first | exact HK.out | apply KeepBut.set_ | apply keep_drewN | apply keep_drew | apply keep_alloc) | exact HK.out))) : w.heap.size ≤ gb306)); have n5_ := k0 ((Nat.le_trans HW0.out (by rw [hg]; exact (keep_size (w := w) (g := g) (row := none) (by repeat (first | (with_reducible first | exact HK.out | apply KeepBut.set_ | apply keep_drewN | apply keep_drew | apply keep_alloc) | exact HK.out))) : w.heap.size ≤ gb306) : w0.heap.size ≤ gb306)); have n6_ := k0 ((by rw [hg]; exact Nat.ne_of_lt (IsS65.lt (show IsS65 w0 _ g s0_0 s0_1 s0_2 from by repeat (first | (with_reducible first | exact HI0.out | apply IsS65.alloc | apply IsS65.drewN | apply IsS65.drew | apply IsS65.set_1 | apply IsS65.set_2) | exact HI0.out))) : g ≠ gb306)); have n7_ := k0 ((by rw [hg]; exact Nat.ne_of_gt (IsS65.lt (show IsS65 w0 _ g s0_0 s0_1 s0_2 from by repeat (first | (with_reducible first | exact HI0.out | apply IsS65.alloc | apply IsS65.drewN | apply IsS65.drew | apply IsS65.set_1 | apply IsS65.set_2) | exact HI0.out))) : gb306 ≠ g)); clear HI0; clear HK; clear HB; have HI0 := n0_; have HK := n1_; have HB := n2_; have BK306 := n3_; have GW306 := n4_; have GE306 := n5_; have NB0_306 := n6_; have NB306_0 := n7_; clear n0_ n1_ n2_ n3_ n4_ n5_ n6_ n7_; clear hb hbox hg) | ((with_reducible refine gate_callee (f := 71) rfl ?_); refine kG (some 10) Try.func71 #[.int .i64 a1] ?_; (with_reducible refine (spec_RightsNew.calls k a1 t307 t310 _ A3.out).mono ?_); rintro e w6 ⟨v308, v311, rfl, ho0, ho1, hb⟩; refine ⟨_, rfl, ?_⟩; have n0_ := k0 (Kd.S_lower (Kd.S_newM (M := fun k_ => (w.heap.size ≤ k_)) ho0 (keep_size (w := w) (g := g) (row := none) (by repeat (first | (with_reducible first | exact HK.out | apply KeepBut.set_ | apply keep_drewN | apply keep_drew | apply keep_alloc | refine keep_far ?_ GW306.out _) | exact HK.out))) (fun k_ h_ => h_)) (keep_size (w := w) (g := g) (row := none) (by repeat (first | (with_reducible first | exact HK.out | apply KeepBut.set_ | apply keep_drewN | apply keep_drew | apply keep_alloc | refine keep_far ?_ GW306.out _) | exact HK.out)))); have n1_ := k0 (Kd.R_lower (Kd.R_newM (M := fun k_ => (w.heap.size ≤ k_)) ho1 (keep_size (w := w) (g := g) (row := none) (by repeat (first | (with_reducible first | exact HK.out | apply KeepBut.set_ | apply keep_drewN | apply keep_drew | apply keep_alloc | refine keep_far ?_ GW306.out _) | exact HK.out))) (fun k_ h_ => h_)) (keep_size (w := w) (g := g) (row := none) (by repeat (first | (with_reducible first | exact HK.out | apply KeepBut.set_ | apply keep_drewN | apply keep_drew | apply keep_alloc | refine keep_far ?_ GW306.out _) | exact HK.out)))); have n2_ := k0 (IsS65.below (by repeat (first | (with_reducible first | exact HI0.out | apply IsS65.alloc | apply IsS65.drewN | apply IsS65.drew | apply IsS65.set_1 | apply IsS65.set_2 | apply IsS65.farB NB0_306.out) | exact HI0.out)) hb); have n3_ := k0 (kb BK306.out hb); have n4_ := k0 (KeepBut.trans (by repeat (first | (with_reducible first | exact HK.out | apply KeepBut.set_ | apply keep_drewN | apply keep_drew | apply keep_alloc | refine keep_far ?_ GW306.out _) | exact HK.out)) (KeepBut.of_below hb g none) (.inl rfl)); have n5_ := k0 (below_step (by repeat (first | (with_reducible first | exact HB.out | apply below_alloc | apply pw_below_drewN | apply below_drew1 | refine below_set ?_ (IsS65.ge HI0.out) | refine below_set ?_ GE306.out) | exact HB.out)) hb); clear HI0; clear BK306; clear HK; clear HB; have HO309 := n0_; have HO312 := n1_; have HI0 := n2_; have BK306 := n3_; have HK := n4_; have HB := n5_; clear n0_ n1_ n2_ n3_ n4_ n5_; (try clear hb); (try clear hb2); (try clear hk); (try clear hi); (try clear ho0); (try clear ho1)) | ((with_reducible refine gate_dst (N := 5) rfl ?_); refine kE (N := 5) (cs := #[.slice none 0 0, .slice none 0 0]) (t := 28) ?_; intro gb313 hg w7 hbox hb; have n0_ := k0 (Kd.S_below (kS HO309.out) hb); have n1_ := k0 (Kd.R_below (kR HO312.out) hb); have n2_ := k0 (IsS65.below (by repeat (first | (with_reducible first | exact HI0.out | apply IsS65.alloc | apply IsS65.drewN | apply IsS65.drew | apply IsS65.set_1 | apply IsS65.set_2 | apply IsS65.farB NB0_306.out) | exact HI0.out)) hb); have n3_ := k0 (kb BK306.out hb); have n4_ := k0 (KeepBut.trans (by repeat (first | (with_reducible first | exact HK.out | apply KeepBut.set_ | apply keep_drewN | apply keep_drew | apply keep_alloc | refine keep_far ?_ GW306.out _) | exact HK.out)) (KeepBut.of_below hb g none) (.inl rfl)); have n5_ := k0 (below_step (by repeat (first | (with_reducible first | exact HB.out | apply below_alloc | apply pw_below_drewN | apply below_drew1 | refine below_set ?_ (IsS65.ge HI0.out) | refine below_set ?_ GE306.out) | exact HB.out)) hb); have n6_ := k0 (hbox); have n7_ := k0 ((by rw [hg]; exact (keep_size (w := w) (g := g) (row := none) (by repeat (first | (with_reducible first | exact HK.out | apply KeepBut.set_ | apply keep_drewN | apply keep_drew | apply keep_alloc | refine keep_far ?_ GW306.out _) | exact HK.out))) : w.heap.size ≤ gb313)); have n8_ := k0 ((Nat.le_trans HW0.out (by rw [hg]; exact (keep_size (w := w) (g := g) (row := none) (by repeat (first | (with_reducible first | exact HK.out | apply KeepBut.set_ | apply keep_drewN | apply keep_drew | apply keep_alloc | refine keep_far ?_ GW306.out _) | exact HK.out))) : w.heap.size ≤ gb313) : w0.heap.size ≤ gb313)); have n9_ := k0 ((by rw [hg]; exact Nat.ne_of_lt (blk_lt (g := gb306) (o := .cells #[.slice none 0 0, .slice none 0 0] 28 (0, 0)) (kB BK306.out)) : gb306 ≠ gb313)); have n10_ := k0 ((by rw [hg]; exact Nat.ne_of_gt (blk_lt (g := gb306) (o := .cells #[.slice none 0 0, .slice none 0 0] 28 (0, 0)) (kB BK306.out)) : gb313 ≠ gb306)); have n11_ := k0 ((by rw [hg]; exact Nat.ne_of_lt (IsS65.lt (show IsS65 w0 _ g s0_0 s0_1 s0_2 from by repeat (first | (with_reducible first | exact HI0.out | apply IsS65.alloc | apply IsS65.drewN | apply IsS65.drew | apply IsS65.set_1 | apply IsS65.set_2 | apply IsS65.farB NB0_306.out) | exact HI0.out))) : g ≠ gb313)); have n12_ := k0 ((by rw [hg]; exact Nat.ne_of_gt (IsS65.lt (show IsS65 w0 _ g s0_0 s0_1 s0_2 from by repeat (first | (with_reducible first | exact HI0.out | apply IsS65.alloc | apply IsS65.drewN | apply IsS65.drew | apply IsS65.set_1 | apply IsS65.set_2 | apply IsS65.farB NB0_306.out) | exact HI0.out))) : gb313 ≠ g)); clear HO309; clear HO312; clear HI0; clear BK306; clear HK; clear HB; have HO309 := n0_; have HO312 := n1_; have HI0 := n2_; have BK306 := n3_; have HK := n4_; have HB := n5_; have BK313 := n6_; have GW313 := n7_; have GE313 := n8_; have NB306_313 := n9_; have NB313_306 := n10_; have NB0_313 := n11_; have NB313_0 := n12_; clear n0_ n1_ n2_ n3_ n4_ n5_ n6_ n7_ n8_ n9_ n10_ n11_ n12_; clear hb hbox hg; obtain ⟨Ao8, co8, eo8⟩ := Kd.S_slice HO309.out; subst eo8; have hnb9 := NB313_306.out; have hnc9 := NB306_313.out; have hnb10 := NB313_0.out; have hnc10 := NB0_313.out; have hcz11_0 : w7.cell? ⟨gb313, 0, none⟩ = some (.slice none 0 0) := kx BK313.out; have hcz11_1 : w7.cell? ⟨gb313, 1, none⟩ = some (.slice none 0 0) := kx BK313.out; have hfz11_0 := blk_frozen BK313.out 0; have hfz11_1 := blk_frozen BK313.out 1; obtain ⟨Ao12, co12, eo12⟩ := Kd.R_slice HO312.out; subst eo12) | ((with_reducible refine gate_callee (f := 64) rfl ?_); refine kG (some 12) Try.func64 #[.pointer (some ⟨g, 0, none⟩), .int .i64 9] ?_; (with_reducible refine (spec_l01Below.calls g s0_0 s0_1 s0_2 9 t314 t315 t316 w0 _ ?side1 ?side2 A4.out).mono ?_); (case side1 => repeat (first | (with_reducible first | exact HI0.out | apply IsS65.alloc | apply IsS65.drewN | apply IsS65.drew | apply IsS65.set_1 | apply IsS65.set_2 | apply IsS65.farB NB0_306.out | apply IsS65.farB NB0_313.out) | exact HI0.out)); (case side2 => repeat (first | (with_reducible first | exact HB.out | apply below_alloc | apply pw_below_drewN | apply below_drew1 | refine below_set ?_ (IsS65.ge HI0.out) | refine below_set ?_ GE306.out | refine below_set ?_ GE313.out) | exact HB.out)); rintro e w13 ⟨rfl, hi, hb, hk⟩; refine ⟨_, rfl, ?_⟩; have n0_ := k0 (KeepBut.blk hk (g' := gb306) (o := .cells #[.slice none 0 0, .slice none 0 0] 28 (0, 0)) (by (with_reducible repeat first | apply k1 | apply k2 | apply k3); refine blk_far ?_ NB306_313.out _; (with_reducible repeat first | apply k1 | apply k2 | apply k3); refine blk_far ?_ NB306_313.out _; (with_reducible repeat first | apply k1 | apply k2 | apply k3); exact BK306.out) NB306_0.out (by simp)); have n1_ := k0 (Kd.S_mono (Kd.S_keep (IsS65.apartS (show IsS65 w0 _ g s0_0 s0_1 s0_2 from by repeat (first | (with_reducible first | exact HI0.out | apply IsS65.alloc | apply IsS65.drewN | apply IsS65.drew | apply IsS65.set_1 | apply IsS65.set_2 | apply IsS65.farB NB0_306.out | apply IsS65.farB NB0_313.out) | exact HI0.out)) (by (with_reducible repeat (first | apply Kd.S_alloc | apply Kd.S_drewN | apply Kd.S_drew)); exact (Kd.S_mono (Kd.S_far (p := ⟨gb313, 1, none⟩) (Kd.S_far (p := ⟨gb313, 0, none⟩) (Kd.S_types HO309.out BK313.out (by decide)) (fun _ hk => hk.2) (.slice Ao8 t307.length co8)) (fun _ hk => hk.2) (.slice Ao12 t310.length co12)) (fun _ h_ => h_.1))) (by decide)) hk (fun _ h => h.2)) (fun _ h => h.1)); have n2_ := k0 (Kd.R_mono (Kd.R_keep (IsS65.apart (show IsS65 w0 _ g s0_0 s0_1 s0_2 from by repeat (first | (with_reducible first | exact HI0.out | apply IsS65.alloc | apply IsS65.drewN | apply IsS65.drew | apply IsS65.set_1 | apply IsS65.set_2 | apply IsS65.farB NB0_306.out | apply IsS65.farB NB0_313.out) | exact HI0.out)) (by (with_reducible repeat (first | apply Kd.R_alloc | apply Kd.R_drewN | apply Kd.R_drew)); exact (Kd.R_mono (Kd.R_far (p := ⟨gb313, 1, none⟩) (Kd.R_far (p := ⟨gb313, 0, none⟩) (Kd.R_types HO312.out BK313.out (by decide)) (fun _ hk => hk.2) (.slice Ao8 t307.length co8)) (fun _ hk => hk.2) (.slice Ao12 t310.length co12)) (fun _ h_ => h_.1))) (by decide)) hk (fun _ h => h.2)) (fun _ h => h.1)); have n3_ := k0 (KeepBut.blk hk (g' := gb313) (o := .cells #[.slice Ao8 t307.length co8, .slice Ao12 t310.length co12] 28 (0, 0)) (by (with_reducible repeat first | apply k1 | apply k2 | apply k3); refine blk_put (cs := #[.slice Ao8 t307.length co8, .slice none 0 0]) ?_ 1 _ rfl; (with_reducible repeat first | apply k1 | apply k2 | apply k3); refine blk_put (cs := #[.slice none 0 0, .slice none 0 0]) ?_ 0 _ rfl; (with_reducible repeat first | apply k1 | apply k2 | apply k3); exact BK313.out) NB313_0.out (by simp)); have n4_ := k0 (KeepBut.trans (by repeat (first | (with_reducible first | exact HK.out | apply KeepBut.set_ | apply keep_drewN | apply keep_drew | apply keep_alloc | refine keep_far ?_ GW306.out _ | refine keep_far ?_ GW313.out _) | exact HK.out)) hk (.inl rfl)); have n5_ := k0 (hb); have n6_ := k0 (hi); clear BK306; clear HO309; clear HO312; clear BK313; clear HK; clear HB; clear HI0; have BK306 := n0_; have HO309 := n1_; have HO312 := n2_; have BK313 := n3_; have HK := n4_; have HB := n5_; have HI0 := n6_; clear n0_ n1_ n2_ n3_ n4_ n5_ n6_; (try clear hb); (try clear hb2); (try clear hk); (try clear hi)))
 go_loopg [6] k (fun kq v6 w' => ∃ (x6_1 : Int) (x1001_1 : Int) (x1002_1 : Int) (x314000_1 : List (List Int)) (x314001_1 : List Int) (u314000 : Value) (u314001 : Value), v6 = .int .i64 x6_1 ∧ Aside0 (spec_l06Draw.l0 kq a1 x6_1 s0_0 x1001_1 x1002_1 x314000_1 x314001_1 = some (r1, r2, r3, r4)) ∧ Aside0 (kq ≤ k) ∧ Aside0 (Kd.V (Kd.slice 3 (Kd.int .i64)) 23 w' w.heap.size (fun k_ => (w.heap.size ≤ k_) ∧ some k_ ≠ (u314001 : Value).ownBlock ∧ k_ ≠ gb306 ∧ k_ ≠ gb313 ∧ k_ ≠ g) u314000 x314000_1) ∧ Aside0 (Kd.R (Kd.int .i64) 3 w' w.heap.size (fun k_ => (w.heap.size ≤ k_)) u314001 x314001_1) ∧ Aside0 (w'.heap[gb306]? = some (.cells #[(.slice none 0 0), (.slice none 0 0)] 28 (0, 0))) ∧ Aside0 (w'.heap[gb313]? = some (.cells #[u314000, u314001] 28 (0, 0))) ∧ Aside0 (IsS65 w0 w' g s0_0 x1001_1 x1002_1) ∧ Aside0 (KeepBut w w' g none) ∧ Aside0 (Below w0.heap.size w0 w'))
 case atStart => exact ⟨(t314), (t315), (t316), (t307), (t310), (.slice Ao8 t307.length co8), (.slice Ao12 t310.length co12), (by first | rfl | (simp; done) | (simp [*]; done)), H', ⟨Nat.le_refl _⟩, ⟨Kd.S_V (by (with_reducible repeat (first | apply Kd.S_alloc | apply Kd.S_drewN | apply Kd.S_drew)); exact Kd.S_mono (IsS65.apartS HI0.out (Kd.S_types (Kd.S_types HO309.out BK306.out (by decide)) BK313.out (by decide)) (by decide)) (fun _ hk => ⟨hk.1.1.1.1, ⟨hk.1.1.1.2, ⟨hk.1.1.2, ⟨hk.1.2, hk.2⟩⟩⟩⟩))⟩, ⟨by (with_reducible repeat (first | apply Kd.R_alloc | apply Kd.R_drewN | apply Kd.R_drew)); exact Kd.R_mono HO312.out (fun _ hk => hk.1)⟩, ⟨kB BK306.out⟩, ⟨kB BK313.out⟩, ⟨by repeat (first | (with_reducible first | exact HI0.out | apply IsS65.alloc | apply IsS65.drewN | apply IsS65.drew | apply IsS65.set_1 | apply IsS65.set_2 | apply IsS65.farB NB0_306.out | apply IsS65.farB NB0_313.out) | exact HI0.out)⟩, ⟨by repeat (first | (with_reducible first | exact HK.out | apply KeepBut.set_ | apply keep_drewN | apply keep_drew | apply keep_alloc | refine keep_far ?_ GW306.out _ | refine keep_far ?_ GW313.out _) | exact HK.out)⟩, ⟨by repeat (first | (with_reducible first | exact HB.out | apply below_alloc | apply pw_below_drewN | apply below_drew1 | refine below_set ?_ (IsS65.ge HI0.out) | refine below_set ?_ GE306.out | refine below_set ?_ GE313.out) | exact HB.out)⟩⟩
 case round =>
  clear H'
  try clear c1
  try clear p2
  try clear c6
  try clear c7
  try clear c9
  try clear c10
  try clear hcz11_0
  try clear hcz11_1
  try clear hfz11_0
  try clear hfz11_1
  obtain ⟨x6_1, x1001_1, x1002_1, x314000_1, x314001_1, u314000, u314001, rfl, HA, HK1, HO_314000, HO_314001, BK306, BK313, HI0, HK, HB⟩ := hrel
  cases gk with
  | zero => exact absurd HA.out (by simp [spec_l06Draw.l0])
  | succ k1 =>
   have H := HA.out
   clear HA
   simp only [spec_l06Draw.l0] at H
   by_cases c14 : x6_1 > 0
   ·rw [if_pos c14] at H
    have c14b0 : decide (0 < x6_1) = true := decide_eq_true c14
    clear c14
    replace H := Option.bind_eq_some_iff.mp H
    obtain ⟨⟨t318, t319, t320⟩, A150, H⟩ := H
    replace H : (if t318 = 0 then ((spec_l01Below.f s0_0 t319 t320 a1).bind fun bt321 => ((spec_l01Below.f s0_0 bt321.2.1 bt321.2.2 50).bind fun bt324 => ((spec_Mint.f k1 x314000_1 x314001_1 bt321.1 (wrap64 (1 + bt324.1))).bind fun bt327 => (if bt327.2.2 = true then (spec_l06Draw.l0 k1 a1 (wrap64 (x6_1 - 1)) s0_0 bt324.2.1 bt324.2.2 bt327.1 bt327.2.1) else (spec_l06Draw.l0 k1 a1 (wrap64 (x6_1 - 1)) s0_0 bt324.2.1 bt324.2.2 x314000_1 x314001_1))))) else (if t318 = 1 then ((spec_l01Below.f s0_0 t319 t320 a1).bind fun bt334 => ((spec_l01Below.f s0_0 bt334.2.1 bt334.2.2 20).bind fun bt337 => ((spec_Spend.f k1 x314000_1 x314001_1 bt334.1 (wrap64 (1 + bt337.1))).bind fun bt340 => (if bt340.2.2 = true then (spec_l06Draw.l0 k1 a1 (wrap64 (x6_1 - 1)) s0_0 bt337.2.1 bt337.2.2 bt340.1 bt340.2.1) else (spec_l06Draw.l0 k1 a1 (wrap64 (x6_1 - 1)) s0_0 bt337.2.1 bt337.2.2 x314000_1 x314001_1))))) else ((spec_l01Below.f s0_0 t319 t320 a1).bind fun bt347 => ((spec_l01Below.f s0_0 bt347.2.1 bt347.2.2 a1).bind fun bt350 => ((spec_l01Below.f s0_0 bt350.2.1 bt350.2.2 20).bind fun bt353 => ((spec_Hand.f k1 x314000_1 x314001_1 bt347.1 bt350.1 (wrap64 (1 + bt353.1))).bind fun bt356 => (if bt356.2.2 = true then (spec_l06Draw.l0 k1 a1 (wrap64 (x6_1 - 1)) s0_0 bt353.2.1 bt353.2.2 bt356.1 bt356.2.1) else (spec_l06Draw.l0 k1 a1 (wrap64 (x6_1 - 1)) s0_0 bt353.2.1 bt353.2.2 x314000_1 x314001_1)))))))) = some (r1, r2, r3, r4) := H
    have A15 := Aside0.mk A150
    clear A150
    by_cases c16 : t318 = 0
    ·rw [if_pos c16] at H
     have c16b0 : (t318 == 0) = true := beq_iff_eq.mpr c16
     have c16b1 : (t318 != 0) = false := bne_eq_false_iff_eq.mpr c16
     clear c16
     replace H := Option.bind_eq_some_iff.mp H
     obtain ⟨⟨t321, t322, t323⟩, A170, H⟩ := H
     replace H : ((spec_l01Below.f s0_0 t322 t323 50).bind fun bt324 => ((spec_Mint.f k1 x314000_1 x314001_1 t321 (wrap64 (1 + bt324.1))).bind fun bt327 => (if bt327.2.2 = true then (spec_l06Draw.l0 k1 a1 (wrap64 (x6_1 - 1)) s0_0 bt324.2.1 bt324.2.2 bt327.1 bt327.2.1) else (spec_l06Draw.l0 k1 a1 (wrap64 (x6_1 - 1)) s0_0 bt324.2.1 bt324.2.2 x314000_1 x314001_1)))) = some (r1, r2, r3, r4) := H
     have A17 := Aside0.mk A170
     clear A170
     replace H := Option.bind_eq_some_iff.mp H
     obtain ⟨⟨t324, t325, t326⟩, A180, H⟩ := H
     replace H : ((spec_Mint.f k1 x314000_1 x314001_1 t321 (wrap64 (1 + t324))).bind fun bt327 => (if bt327.2.2 = true then (spec_l06Draw.l0 k1 a1 (wrap64 (x6_1 - 1)) s0_0 t325 t326 bt327.1 bt327.2.1) else (spec_l06Draw.l0 k1 a1 (wrap64 (x6_1 - 1)) s0_0 t325 t326 x314000_1 x314001_1))) = some (r1, r2, r3, r4) := H
     have A18 := Aside0.mk A180
     clear A180
     replace H := Option.bind_eq_some_iff.mp H
     obtain ⟨⟨t327, t330, t333⟩, A190, H⟩ := H
     replace H : (if t333 = true then (spec_l06Draw.l0 k1 a1 (wrap64 (x6_1 - 1)) s0_0 t325 t326 t327 t330) else (spec_l06Draw.l0 k1 a1 (wrap64 (x6_1 - 1)) s0_0 t325 t326 x314000_1 x314001_1)) = some (r1, r2, r3, r4) := H
     have A19 := Aside0.mk A190
     clear A190
     by_cases c20 : t333 = true
     ·subst c20
      have H1 : (spec_l06Draw.l0 k1 a1 (wrap64 (x6_1 - 1)) s0_0 t325 t326 t327 t330) = some (r1, r2, r3, r4) := by rw [if_pos rfl] at H; exact H
      clear H
      have H := H1
      clear H1
      have H' := Aside0.mk H
      clear H
      have hnb21 := NB313_306.out
      have hnc21 := NB306_313.out
      have hnb22 := NB313_0.out
      have hnc22 := NB0_313.out
      have hcz23_0 : wr.cell? ⟨gb313, 0, none⟩ = some (u314000) := kx BK313.out
      have hcz23_1 : wr.cell? ⟨gb313, 1, none⟩ = some (u314001) := kx BK313.out
      have hfz23_0 := blk_frozen BK313.out 0
      have hfz23_1 := blk_frozen BK313.out 1
      try go_wp2_with (first | ((with_reducible refine gate_dst (N := 7) rfl ?_); refine kE (N := 7) (cs := #[.slice none 0 0, .slice none 0 0]) (t := 28) ?_; intro gb317 hg w24 hbox hb; have n0_ := k0 (Kd.V_below (Kd.V_elderB (kV HO_314000.out) gb317 (Nat.le_of_eq hg.symm)) hb); have n1_ := k0 (Kd.R_below (kR HO_314001.out) hb); have n2_ := k0 (kb BK306.out hb); have n3_ := k0 (kb BK313.out hb); have n4_ := k0 (IsS65.below (by repeat (first | (with_reducible first | exact HI0.out | apply IsS65.alloc | apply IsS65.drewN | apply IsS65.drew | apply IsS65.set_1 | apply IsS65.set_2 | apply IsS65.farB NB0_306.out | apply IsS65.farB NB0_313.out) | exact HI0.out)) hb); have n5_ := k0 (KeepBut.trans (by repeat (first | (with_reducible first | exact HK.out | apply KeepBut.set_ | apply keep_drewN | apply keep_drew | apply keep_alloc | refine keep_far ?_ GW306.out _ | refine keep_far ?_ GW313.out _) | exact HK.out)) (KeepBut.of_below hb g none) (.inl rfl)); have n6_ := k0 (below_step (by repeat (first | (with_reducible first | exact HB.out | apply below_alloc | apply pw_below_drewN | apply below_drew1 | refine below_set ?_ (IsS65.ge HI0.out) | refine below_set ?_ GE306.out | refine below_set ?_ GE313.out) | exact HB.out)) hb); have n7_ := k0 (hbox); have n8_ := k0 ((by rw [hg]; exact (keep_size (w := w) (g := g) (row := none) (by repeat (first | (with_reducible first | exact HK.out | apply KeepBut.set_ | apply keep_drewN | apply keep_drew | apply keep_alloc | refine keep_far ?_ GW306.out _ | refine keep_far ?_ GW313.out _) | exact HK.out))) : w.heap.size ≤ gb317)); have n9_ := k0 ((Nat.le_trans HW0.out (by rw [hg]; exact (keep_size (w := w) (g := g) (row := none) (by repeat (first | (with_reducible first | exact HK.out | apply KeepBut.set_ | apply keep_drewN | apply keep_drew | apply keep_alloc | refine keep_far ?_ GW306.out _ | refine keep_far ?_ GW313.out _) | exact HK.out))) : w.heap.size ≤ gb317) : w0.heap.size ≤ gb317)); have n10_ := k0 ((by rw [hg]; exact Nat.ne_of_lt (blk_lt (g := gb306) (o := .cells #[.slice none 0 0, .slice none 0 0] 28 (0, 0)) (kB BK306.out)) : gb306 ≠ gb317)); have n11_ := k0 ((by rw [hg]; exact Nat.ne_of_gt (blk_lt (g := gb306) (o := .cells #[.slice none 0 0, .slice none 0 0] 28 (0, 0)) (kB BK306.out)) : gb317 ≠ gb306)); have n12_ := k0 ((by rw [hg]; exact Nat.ne_of_lt (blk_lt (g := gb313) (o := .cells #[u314000, u314001] 28 (0, 0)) (kB BK313.out)) : gb313 ≠ gb317)); have n13_ := k0 ((by rw [hg]; exact Nat.ne_of_gt (blk_lt (g := gb313) (o := .cells #[u314000, u314001] 28 (0, 0)) (kB BK313.out)) : gb317 ≠ gb313)); have n14_ := k0 ((by rw [hg]; exact Nat.ne_of_lt (IsS65.lt (show IsS65 w0 _ g s0_0 x1001_1 x1002_1 from by repeat (first | (with_reducible first | exact HI0.out | apply IsS65.alloc | apply IsS65.drewN | apply IsS65.drew | apply IsS65.set_1 | apply IsS65.set_2 | apply IsS65.farB NB0_306.out | apply IsS65.farB NB0_313.out) | exact HI0.out))) : g ≠ gb317)); have n15_ := k0 ((by rw [hg]; exact Nat.ne_of_gt (IsS65.lt (show IsS65 w0 _ g s0_0 x1001_1 x1002_1 from by repeat (first | (with_reducible first | exact HI0.out | apply IsS65.alloc | apply IsS65.drewN | apply IsS65.drew | apply IsS65.set_1 | apply IsS65.set_2 | apply IsS65.farB NB0_306.out | apply IsS65.farB NB0_313.out) | exact HI0.out))) : gb317 ≠ g)); clear HO_314000; clear HO_314001; clear BK306; clear BK313; clear HI0; clear HK; clear HB; have HO_314000 := n0_; have HO_314001 := n1_; have BK306 := n2_; have BK313 := n3_; have HI0 := n4_; have HK := n5_; have HB := n6_; have BK317 := n7_; have GW317 := n8_; have GE317 := n9_; have NB306_317 := n10_; have NB317_306 := n11_; have NB313_317 := n12_; have NB317_313 := n13_; have NB0_317 := n14_; have NB317_0 := n15_; clear n0_ n1_ n2_ n3_ n4_ n5_ n6_ n7_ n8_ n9_ n10_ n11_ n12_ n13_ n14_ n15_; clear hb hbox hg; obtain ⟨Ao25, co25, eo25⟩ := Kd.V_slice HO_314000.out; subst eo25; have hnb26 := NB317_306.out; have hnc26 := NB306_317.out; have hnb27 := NB317_313.out; have hnc27 := NB313_317.out; have hnb28 := NB317_0.out; have hnc28 := NB0_317.out; have hcz29_0 : w24.cell? ⟨gb317, 0, none⟩ = some (.slice none 0 0) := kx BK317.out; have hcz29_1 : w24.cell? ⟨gb317, 1, none⟩ = some (.slice none 0 0) := kx BK317.out; have hfz29_0 := blk_frozen BK317.out 0; have hfz29_1 := blk_frozen BK317.out 1; obtain ⟨Ao30, co30, eo30⟩ := Kd.R_slice HO_314001.out; subst eo30) | ((with_reducible refine gate_callee (f := 64) rfl ?_); refine kG (some 19) Try.func64 #[.pointer (some ⟨g, 0, none⟩), .int .i64 3] ?_; (with_reducible refine (spec_l01Below.calls g s0_0 x1001_1 x1002_1 3 t318 t319 t320 w0 _ ?side1 ?side2 A15.out).mono ?_); (case side1 => repeat (first | (with_reducible first | exact HI0.out | apply IsS65.alloc | apply IsS65.drewN | apply IsS65.drew | apply IsS65.set_1 | apply IsS65.set_2 | apply IsS65.farB NB0_306.out | apply IsS65.farB NB0_313.out | apply IsS65.farB NB0_317.out) | exact HI0.out)); (case side2 => repeat (first | (with_reducible first | exact HB.out | apply below_alloc | apply pw_below_drewN | apply below_drew1 | refine below_set ?_ (IsS65.ge HI0.out) | refine below_set ?_ GE306.out | refine below_set ?_ GE313.out | refine below_set ?_ GE317.out) | exact HB.out)); rintro e w31 ⟨rfl, hi, hb, hk⟩; refine ⟨_, rfl, ?_⟩; have n0_ := k0 (Kd.V_mono (Kd.V_keep (Kd.V_mono (ok := fun k_ => ((((w.heap.size ≤ k_)) ∧ (some k_ ≠ (.slice Ao30 x314001_1.length co30 : Value).ownBlock ∧ (k_ ≠ gb306 ∧ (k_ ≠ gb313 ∧ k_ ≠ g)))) ∧ k_ ≠ gb317)) (by (with_reducible repeat (first | apply Kd.V_alloc | apply Kd.V_drewN | apply Kd.V_drew)); exact (Kd.V_mono (Kd.V_far (p := ⟨gb317, 1, none⟩) (Kd.V_far (p := ⟨gb317, 0, none⟩) (Kd.V_mono HO_314000.out (fun k_ hk => (⟨hk, hk.2⟩ : _ ∧ k_ ≠ gb317))) (fun _ hk => hk.2) (.slice Ao25 x314000_1.length co25)) (fun _ hk => hk.2) (.slice Ao30 x314001_1.length co30)) (fun _ h_ => h_.1))) (fun k_ hk_ => (⟨hk_, hk_.1.2.2.2.2⟩ : _ ∧ k_ ≠ g))) hk (fun _ h => h.2)) (fun _ h => h.1)); have n1_ := k0 (Kd.R_mono (Kd.R_keep (IsS65.apart (show IsS65 w0 _ g s0_0 x1001_1 x1002_1 from by repeat (first | (with_reducible first | exact HI0.out | apply IsS65.alloc | apply IsS65.drewN | apply IsS65.drew | apply IsS65.set_1 | apply IsS65.set_2 | apply IsS65.farB NB0_306.out | apply IsS65.farB NB0_313.out | apply IsS65.farB NB0_317.out) | exact HI0.out)) (by (with_reducible repeat (first | apply Kd.R_alloc | apply Kd.R_drewN | apply Kd.R_drew)); exact (Kd.R_mono (Kd.R_far (p := ⟨gb317, 1, none⟩) (Kd.R_far (p := ⟨gb317, 0, none⟩) (Kd.R_types HO_314001.out BK317.out (by decide)) (fun _ hk => hk.2) (.slice Ao25 x314000_1.length co25)) (fun _ hk => hk.2) (.slice Ao30 x314001_1.length co30)) (fun _ h_ => h_.1))) (by decide)) hk (fun _ h => h.2)) (fun _ h => h.1)); have n2_ := k0 (KeepBut.blk hk (g' := gb306) (o := .cells #[.slice none 0 0, .slice none 0 0] 28 (0, 0)) (by (with_reducible repeat first | apply k1 | apply k2 | apply k3); refine blk_far ?_ NB306_317.out _; (with_reducible repeat first | apply k1 | apply k2 | apply k3); refine blk_far ?_ NB306_317.out _; (with_reducible repeat first | apply k1 | apply k2 | apply k3); exact BK306.out) NB306_0.out (by simp)); have n3_ := k0 (KeepBut.blk hk (g' := gb313) (o := .cells #[.slice Ao25 x314000_1.length co25, .slice Ao30 x314001_1.length co30] 28 (0, 0)) (by (with_reducible repeat first | apply k1 | apply k2 | apply k3); refine blk_far ?_ NB313_317.out _; (with_reducible repeat first | apply k1 | apply k2 | apply k3); refine blk_far ?_ NB313_317.out _; (with_reducible repeat first | apply k1 | apply k2 | apply k3); exact BK313.out) NB313_0.out (by simp)); have n4_ := k0 (KeepBut.blk hk (g' := gb317) (o := .cells #[.slice Ao25 x314000_1.length co25, .slice Ao30 x314001_1.length co30] 28 (0, 0)) (by (with_reducible repeat first | apply k1 | apply k2 | apply k3); refine blk_put (cs := #[.slice Ao25 x314000_1.length co25, .slice none 0 0]) ?_ 1 _ rfl; (with_reducible repeat first | apply k1 | apply k2 | apply k3); refine blk_put (cs := #[.slice none 0 0, .slice none 0 0]) ?_ 0 _ rfl; (with_reducible repeat first | apply k1 | apply k2 | apply k3); exact BK317.out) NB317_0.out (by simp)); have n5_ := k0 (KeepBut.trans (by repeat (first | (with_reducible first | exact HK.out | apply KeepBut.set_ | apply keep_drewN | apply keep_drew | apply keep_alloc | refine keep_far ?_ GW306.out _ | refine keep_far ?_ GW313.out _ | refine keep_far ?_ GW317.out _) | exact HK.out)) hk (.inl rfl)); have n6_ := k0 (hb); have n7_ := k0 (hi); clear HO_314000; clear HO_314001; clear BK306; clear BK313; clear BK317; clear HK; clear HB; clear HI0; have HO_314000 := n0_; have HO_314001 := n1_; have BK306 := n2_; have BK313 := n3_; have BK317 := n4_; have HK := n5_; have HB := n6_; have HI0 := n7_; clear n0_ n1_ n2_ n3_ n4_ n5_ n6_ n7_; (try clear hb); (try clear hb2); (try clear hk); (try clear hi)))
      have n0_ := k0 (Kd.V_drew HO_314000.out)
      have n1_ := k0 (Kd.R_drew HO_314001.out)
      have n2_ := k0 (blk_drew BK306.out)
      have n3_ := k0 (blk_drew BK313.out)
      have n4_ := k0 (blk_drew BK317.out)
      have n5_ := k0 (IsS65.drew HI0.out)
      have n6_ := k0 (keep_drew HK.out)
      have n7_ := k0 (below_drew1 HB.out)
      clear HO_314000 HO_314001 BK306 BK313 BK317 HI0 HK HB
      have HO_314000 := n0_
      have HO_314001 := n1_
      have BK306 := n2_
      have BK313 := n3_
      have BK317 := n4_
      have HI0 := n5_
      have HK := n6_
      have HB := n7_
      clear n0_ n1_ n2_ n3_ n4_ n5_ n6_ n7_
      refine start_ (n := 13) (S := fun w' => w'.cell? ⟨gb313, 0, none⟩ = some (.slice Ao25 x314000_1.length co25) ∧ w'.cell? ⟨gb313, 1, none⟩ = some (.slice Ao30 x314001_1.length co30)) (ds := []) #[false, false, false, false, false, false, false, false, false, false, false, false, false] (by kernel_rfl) rfl rfl ⟨(blk_cell BK313.out 0).trans rfl, (blk_cell BK313.out 1).trans rfl⟩ (fun hHeld => ?_); refine with_tabW spec_l06Draw.tab10 spec_l06Draw.bits10 (fun HT_ HW_ => ?_)
      generalize w31.drew = w32 at HO_314000 HO_314001 BK306 BK313 BK317 HI0 HK HB hHeld ⊢
      refine kP 1 38 13 2 HT_.out ?_
      refine kP 2 39 13 6 HT_.out ?_
      refine kP 4 41 13 22 HT_.out ?_
      refine take_ (i := 0) (N := some 37) (v := ?_) (a' := ?_) (bt 13 23) rfl rfl (take_ofW HT_.out HW_.out (by kernel_rfl)) (fun _ _ _ h => h) (Or.inl ⟨by rfl, ?_⟩) hHeld ?_ ?_
      rotate_left
      ·rintro w' ⟨s0, s1⟩
       go_simp
       with_reducible rfl
      rotate_left
      ·simp only [Act.put, List.setIfInBounds_toArray, List.set_cons_zero, List.set_cons_succ, i64_w, i32_w]
       rfl
      refine one_ (i := 3) (N := some 40) (bt 13 31) rfl rfl (one_of HT_.out (by kernel_rfl)) (by decide) (fun K hK => ?_)
      refine goes_ Try.func64 (by kernel_rfl) rfl #[.pointer (some ⟨g, 0, none⟩), .int .i64 a1] (by rfl) rfl rfl (by (try simp only [List.map_toArray, List.map_cons, List.map_nil]); first | done | rfl | (simp only [List.length_drop, List.length_take]; rfl)) ?_
      with_reducible refine (spec_l01Below.calls g s0_0 t319 t320 a1 t321 t322 t323 w0 _ ?side1 ?side2 A17.out).mono ?_
      (case side1 => repeat (first | (with_reducible first | exact HI0.out | apply IsS65.alloc | apply IsS65.drewN | apply IsS65.drew | apply IsS65.set_1 | apply IsS65.set_2 | apply IsS65.farB NB0_306.out | apply IsS65.farB NB0_313.out | apply IsS65.farB NB0_317.out) | exact HI0.out))
      (case side2 => repeat (first | (with_reducible first | exact HB.out | apply below_alloc | apply pw_below_drewN | apply below_drew1 | refine below_set ?_ (IsS65.ge HI0.out) | refine below_set ?_ GE306.out | refine below_set ?_ GE313.out | refine below_set ?_ GE317.out) | exact HB.out))
      rintro e w33 ⟨rfl, hi, hb, hk⟩
      refine ⟨_, rfl, ?_⟩
      have n0_ := k0 (Kd.V_mono (Kd.V_keep (Kd.V_mono (ok := fun k_ => ((((w.heap.size ≤ k_)) ∧ (some k_ ≠ (.slice Ao30 x314001_1.length co30 : Value).ownBlock ∧ (k_ ≠ gb306 ∧ (k_ ≠ gb313 ∧ k_ ≠ g)))) ∧ k_ ≠ gb317)) (kV HO_314000.out) (fun k_ hk_ => (⟨hk_, hk_.1.2.2.2.2⟩ : _ ∧ k_ ≠ g))) hk (fun _ h => h.2)) (fun _ h => h.1))
      have n1_ := k0 (Kd.R_mono (Kd.R_keep (IsS65.apart (show IsS65 w0 _ g s0_0 t319 t320 from by repeat (first | (with_reducible first | exact HI0.out | apply IsS65.alloc | apply IsS65.drewN | apply IsS65.drew | apply IsS65.set_1 | apply IsS65.set_2 | apply IsS65.farB NB0_306.out | apply IsS65.farB NB0_313.out | apply IsS65.farB NB0_317.out) | exact HI0.out)) (kR HO_314001.out) (by decide)) hk (fun _ h => h.2)) (fun _ h => h.1))
      have n2_ := k0 (KeepBut.blk hk (g' := gb306) (o := .cells #[.slice none 0 0, .slice none 0 0] 28 (0, 0)) (kB BK306.out) NB306_0.out (by simp))
      have n3_ := k0 (KeepBut.blk hk (g' := gb313) (o := .cells #[.slice Ao25 x314000_1.length co25, .slice Ao30 x314001_1.length co30] 28 (0, 0)) (kB BK313.out) NB313_0.out (by simp))
      have n4_ := k0 (KeepBut.blk hk (g' := gb317) (o := .cells #[.slice Ao25 x314000_1.length co25, .slice Ao30 x314001_1.length co30] 28 (0, 0)) (kB BK317.out) NB317_0.out (by simp))
      have n5_ := k0 (KeepBut.trans (by repeat (first | (with_reducible first | exact HK.out | apply KeepBut.set_ | apply keep_drewN | apply keep_drew | apply keep_alloc | refine keep_far ?_ GW306.out _ | refine keep_far ?_ GW313.out _ | refine keep_far ?_ GW317.out _) | exact HK.out)) hk (.inl rfl))
      have n6_ := k0 (hb)
      have n7_ := k0 (hi)
      clear HO_314000 HO_314001 BK306 BK313 BK317 HK HB HI0
      have HO_314000 := n0_
      have HO_314001 := n1_
      have BK306 := n2_
      have BK313 := n3_
      have BK317 := n4_
      have HK := n5_
      have HB := n6_
      have HI0 := n7_
      clear n0_ n1_ n2_ n3_ n4_ n5_ n6_ n7_
      (try clear hb)
      (try clear hb2)
      (try clear hk)
      (try clear hi)
      refine hK.out _ _ ⟨(blk_cell BK313.out 0).trans rfl, (blk_cell BK313.out 1).trans rfl⟩ (fun hHeld => ?_)
      clear hK K
      refine norm_ (a' := ?_) ?_ ?_
      rotate_left
      ·show Act.put _ (some 40) _ = _
       simp only [Act.put, List.setIfInBounds_toArray, List.set_cons_zero, List.set_cons_succ, i64_w, i32_w]
       rfl
      refine one_ (i := 5) (N := some 42) (bt 13 63) rfl rfl (one_of HT_.out (by kernel_rfl)) (by decide) (fun K hK => ?_)
      refine goes_ Try.func64 (by kernel_rfl) rfl #[.pointer (some ⟨g, 0, none⟩), .int .i64 50] (by rfl) rfl rfl (by (try simp only [List.map_toArray, List.map_cons, List.map_nil]); first | done | rfl | (simp only [List.length_drop, List.length_take]; rfl)) ?_
      with_reducible refine (spec_l01Below.calls g s0_0 t322 t323 50 t324 t325 t326 w0 _ ?side1 ?side2 A18.out).mono ?_
      (case side1 => repeat (first | (with_reducible first | exact HI0.out | apply IsS65.alloc | apply IsS65.drewN | apply IsS65.drew | apply IsS65.set_1 | apply IsS65.set_2 | apply IsS65.farB NB0_306.out | apply IsS65.farB NB0_313.out | apply IsS65.farB NB0_317.out) | exact HI0.out))
      (case side2 => repeat (first | (with_reducible first | exact HB.out | apply below_alloc | apply pw_below_drewN | apply below_drew1 | refine below_set ?_ (IsS65.ge HI0.out) | refine below_set ?_ GE306.out | refine below_set ?_ GE313.out | refine below_set ?_ GE317.out) | exact HB.out))
      rintro e w34 ⟨rfl, hi, hb, hk⟩
      refine ⟨_, rfl, ?_⟩
      have n0_ := k0 (Kd.V_mono (Kd.V_keep (Kd.V_mono (ok := fun k_ => ((((w.heap.size ≤ k_)) ∧ (some k_ ≠ (.slice Ao30 x314001_1.length co30 : Value).ownBlock ∧ (k_ ≠ gb306 ∧ (k_ ≠ gb313 ∧ k_ ≠ g)))) ∧ k_ ≠ gb317)) (kV HO_314000.out) (fun k_ hk_ => (⟨hk_, hk_.1.2.2.2.2⟩ : _ ∧ k_ ≠ g))) hk (fun _ h => h.2)) (fun _ h => h.1))
      have n1_ := k0 (Kd.R_mono (Kd.R_keep (IsS65.apart (show IsS65 w0 _ g s0_0 t322 t323 from by repeat (first | (with_reducible first | exact HI0.out | apply IsS65.alloc | apply IsS65.drewN | apply IsS65.drew | apply IsS65.set_1 | apply IsS65.set_2 | apply IsS65.farB NB0_306.out | apply IsS65.farB NB0_313.out | apply IsS65.farB NB0_317.out) | exact HI0.out)) (kR HO_314001.out) (by decide)) hk (fun _ h => h.2)) (fun _ h => h.1))
      have n2_ := k0 (KeepBut.blk hk (g' := gb306) (o := .cells #[.slice none 0 0, .slice none 0 0] 28 (0, 0)) (kB BK306.out) NB306_0.out (by simp))
      have n3_ := k0 (KeepBut.blk hk (g' := gb313) (o := .cells #[.slice Ao25 x314000_1.length co25, .slice Ao30 x314001_1.length co30] 28 (0, 0)) (kB BK313.out) NB313_0.out (by simp))
      have n4_ := k0 (KeepBut.blk hk (g' := gb317) (o := .cells #[.slice Ao25 x314000_1.length co25, .slice Ao30 x314001_1.length co30] 28 (0, 0)) (kB BK317.out) NB317_0.out (by simp))
      have n5_ := k0 (KeepBut.trans (by repeat (first | (with_reducible first | exact HK.out | apply KeepBut.set_ | apply keep_drewN | apply keep_drew | apply keep_alloc | refine keep_far ?_ GW306.out _ | refine keep_far ?_ GW313.out _ | refine keep_far ?_ GW317.out _) | exact HK.out)) hk (.inl rfl))
      have n6_ := k0 (hb)
      have n7_ := k0 (hi)
      clear HO_314000 HO_314001 BK306 BK313 BK317 HK HB HI0
      have HO_314000 := n0_
      have HO_314001 := n1_
      have BK306 := n2_
      have BK313 := n3_
      have BK317 := n4_
      have HK := n5_
      have HB := n6_
      have HI0 := n7_
      clear n0_ n1_ n2_ n3_ n4_ n5_ n6_ n7_
      (try clear hb)
      (try clear hb2)
      (try clear hk)
      (try clear hi)
      refine hK.out _ _ ⟨(blk_cell BK313.out 0).trans rfl, (blk_cell BK313.out 1).trans rfl⟩ (fun hHeld => ?_)
      clear hK K
      refine norm_ (a' := ?_) ?_ ?_
      rotate_left
      ·show Act.put _ (some 42) _ = _
       simp only [Act.put, List.setIfInBounds_toArray, List.set_cons_zero, List.set_cons_succ, i64_w, i32_w]
       rfl
      refine kP 6 43 13 127 HT_.out ?_
      refine one_ (i := 7) (N := some 44) (bt 13 255) rfl rfl (one_of HT_.out (by kernel_rfl)) (by decide) (fun K hK => ?_)
      refine goes_ Try.func28 (by kernel_rfl) rfl #[.agg #[.slice Ao25 x314000_1.length co25, .slice Ao30 x314001_1.length co30], .int .i64 t321, .int .i64 (wrap64 (1 + t324))] (by rfl) rfl rfl (by (try simp only [List.map_toArray, List.map_cons, List.map_nil]); first | done | rfl | (simp only [List.length_drop, List.length_take]; rfl)) ?_
      with_reducible refine (spec_Mint.calls k1 _ _ x314000_1 _ _ x314001_1 t321 (wrap64 (1 + t324)) t327 t330 true _ ?side1 ?side2 ?side3 ?side4 A19.out).mono ?_
      (case side1 => exact kC (Kd.V_reads' HO_314000.out).2.2)
      (case side2 => exact (Kd.V_reads' HO_314000.out).2.1)
      (case side3 => exact kC (Kd.R_reads' HO_314001.out).2.2)
      (case side4 => exact (Kd.R_reads' HO_314001.out).2.1)
      rintro e w35 ⟨v328, v331, rfl, ho0, ho1, hb⟩
      refine ⟨_, rfl, ?_⟩
      have n0_ := k0 (Kd.V_elder' (kV HO_314000.out) (Kd.R_base ho1) hb)
      have n1_ := k0 (Kd.R_elder' (kR HO_314001.out) (Kd.R_base ho1) hb)
      have n2_ := k0 (Kd.V_lower (Kd.V_mono (ok' := fun k_ => (w.heap.size ≤ k_) ∧ some k_ ≠ (v331 : Value).ownBlock ∧ some k_ ≠ (.slice Ao30 x314001_1.length co30 : Value).ownBlock ∧ k_ ≠ gb306 ∧ k_ ≠ gb313 ∧ k_ ≠ gb317 ∧ k_ ≠ g) ho0 (fun k_ hk_ => ⟨(Nat.le_trans (keep_size (w := w) (g := g) (row := none) (by repeat (first | (with_reducible first | exact HK.out | apply KeepBut.set_ | apply keep_drewN | apply keep_drew | apply keep_alloc | refine keep_far ?_ GW306.out _ | refine keep_far ?_ GW313.out _ | refine keep_far ?_ GW317.out _) | exact HK.out))) hk_.1), hk_.2, (Kd.fresh' (Kd.R_lt (kR HO_314001.out)) k_ hk_.1), (Kd.freshB (g := gb306) (o := .cells #[.slice none 0 0, .slice none 0 0] 28 (0, 0)) (kB BK306.out) k_ hk_.1), (Kd.freshB (g := gb313) (o := .cells #[.slice Ao25 x314000_1.length co25, .slice Ao30 x314001_1.length co30] 28 (0, 0)) (kB BK313.out) k_ hk_.1), (Kd.freshB (g := gb317) (o := .cells #[.slice Ao25 x314000_1.length co25, .slice Ao30 x314001_1.length co30] 28 (0, 0)) (kB BK317.out) k_ hk_.1), (IsS65.fresh (by repeat (first | (with_reducible first | exact HI0.out | apply IsS65.alloc | apply IsS65.drewN | apply IsS65.drew | apply IsS65.set_1 | apply IsS65.set_2 | apply IsS65.farB NB0_306.out | apply IsS65.farB NB0_313.out | apply IsS65.farB NB0_317.out) | exact HI0.out)) k_ hk_.1)⟩)) (keep_size (w := w) (g := g) (row := none) (by repeat (first | (with_reducible first | exact HK.out | apply KeepBut.set_ | apply keep_drewN | apply keep_drew | apply keep_alloc | refine keep_far ?_ GW306.out _ | refine keep_far ?_ GW313.out _ | refine keep_far ?_ GW317.out _) | exact HK.out))))
      have n3_ := k0 (Kd.R_lower (Kd.R_new' (Kd.R_newM (M := fun k_ => (w.heap.size ≤ k_)) (Kd.R_mono (ok' := fun k_ => True) ho1 (fun _ hk_ => trivial)) (keep_size (w := w) (g := g) (row := none) (by repeat (first | (with_reducible first | exact HK.out | apply KeepBut.set_ | apply keep_drewN | apply keep_drew | apply keep_alloc | refine keep_far ?_ GW306.out _ | refine keep_far ?_ GW313.out _ | refine keep_far ?_ GW317.out _) | exact HK.out))) (fun k_ h_ => h_)) (Kd.R_lt (kR HO_314001.out))) (keep_size (w := w) (g := g) (row := none) (by repeat (first | (with_reducible first | exact HK.out | apply KeepBut.set_ | apply keep_drewN | apply keep_drew | apply keep_alloc | refine keep_far ?_ GW306.out _ | refine keep_far ?_ GW313.out _ | refine keep_far ?_ GW317.out _) | exact HK.out))))
      have n4_ := k0 (kb BK306.out hb)
      have n5_ := k0 (kb BK313.out hb)
      have n6_ := k0 (IsS65.below (by repeat (first | (with_reducible first | exact HI0.out | apply IsS65.alloc | apply IsS65.drewN | apply IsS65.drew | apply IsS65.set_1 | apply IsS65.set_2 | apply IsS65.farB NB0_306.out | apply IsS65.farB NB0_313.out | apply IsS65.farB NB0_317.out) | exact HI0.out)) hb)
      have n7_ := k0 (kb BK317.out hb)
      have n8_ := k0 (KeepBut.trans (by repeat (first | (with_reducible first | exact HK.out | apply KeepBut.set_ | apply keep_drewN | apply keep_drew | apply keep_alloc | refine keep_far ?_ GW306.out _ | refine keep_far ?_ GW313.out _ | refine keep_far ?_ GW317.out _) | exact HK.out)) (KeepBut.of_below hb g none) (.inl rfl))
      have n9_ := k0 (below_step (by repeat (first | (with_reducible first | exact HB.out | apply below_alloc | apply pw_below_drewN | apply below_drew1 | refine below_set ?_ (IsS65.ge HI0.out) | refine below_set ?_ GE306.out | refine below_set ?_ GE313.out | refine below_set ?_ GE317.out) | exact HB.out)) hb)
      clear HO_314000 HO_314001 BK306 BK313 HI0 BK317 HK HB
      have HO_314000 := n0_
      have HO_314001 := n1_
      have HO329 := n2_
      have HO332 := n3_
      have BK306 := n4_
      have BK313 := n5_
      have HI0 := n6_
      have BK317 := n7_
      have HK := n8_
      have HB := n9_
      clear n0_ n1_ n2_ n3_ n4_ n5_ n6_ n7_ n8_ n9_
      (try clear hb)
      (try clear hb2)
      (try clear hk)
      (try clear hi)
      (try clear ho0)
      (try clear ho1)
      obtain ⟨Ao36, co36, eo36⟩ := Kd.V_slice HO329.out
      (first | subst eo36 | (injection eo36 with f1_ f2_ f3_; have f4_ := f1_.symm; have f5_ := f3_.symm; clear f1_ f2_ f3_; subst f4_; subst f5_))
      obtain ⟨Ao38, co38, eo38⟩ := Kd.R_slice HO332.out
      (first | subst eo38 | (injection eo38 with f1_ f2_ f3_; have f4_ := f1_.symm; have f5_ := f3_.symm; clear f1_ f2_ f3_; subst f4_; subst f5_))
      refine hK.out _ _ ⟨(blk_cell BK313.out 0).trans rfl, (blk_cell BK313.out 1).trans rfl⟩ (fun hHeld => ?_)
      clear hK K
      refine norm_ (a' := ?_) ?_ ?_
      rotate_left
      ·show Act.put _ (some 44) _ = _
       simp only [Act.put, List.setIfInBounds_toArray, List.set_cons_zero, List.set_cons_succ, i64_w, i32_w]
       rfl
      refine kP 8 36 13 511 HT_.out ?_
      refine kP 9 45 13 1023 HT_.out ?_
      refine kP 10 46 13 2047 HT_.out ?_
      refine one_ (i := 11) (N := none) (bt 13 4095) rfl rfl (one_of HT_.out (by kernel_rfl)) (by decide) (fun K hK => ?_)
      have hs37 : w35.cell? ⟨gb317, 0, none⟩ = some (.slice Ao25 x314000_1.length co25) := (blk_cell BK317.out 0).trans rfl
      have hfs37 := blk_frozen BK317.out 0
      have hns37_0 := NB306_317.out
      have hns37_1 := NB313_317.out
      have hms37_0 := NB317_306.out
      have hms37_1 := NB317_313.out
      have hs39 : w35.cell? ⟨gb317, 1, none⟩ = some (.slice Ao30 x314001_1.length co30) := (blk_cell BK317.out 1).trans rfl
      have hfs39 := blk_frozen BK317.out 1
      have hns39_0 := NB306_317.out
      have hns39_1 := NB313_317.out
      have hms39_0 := NB317_306.out
      have hms39_1 := NB317_313.out
      refine skip_ (w1 := ?_) (by rfl) rfl ?_ ?_
      rotate_left
      ·go_simp
       rfl
      refine hK.out _ _ ⟨((cell_far (p := ⟨gb317, _, none⟩) NB313_317.out _).trans (((cell_far (p := ⟨gb317, _, none⟩) NB313_317.out _).trans (hHeld.1)))), ((cell_far (p := ⟨gb317, _, none⟩) NB313_317.out _).trans (((cell_far (p := ⟨gb317, _, none⟩) NB313_317.out _).trans (hHeld.2))))⟩ (fun hHeld => ?_)
      clear hK K
      refine kP 12 8 13 8191 HT_.out ?_
      refine done_ (done_of HT_.out (by kernel_rfl)) ?_
      have hcz40_0 : w35.cell? ⟨gb317, 0, none⟩ = some (.slice Ao25 x314000_1.length co25) := kx BK317.out
      have hcz40_1 : w35.cell? ⟨gb317, 1, none⟩ = some (.slice Ao30 x314001_1.length co30) := kx BK317.out
      have hfz40_0 := blk_frozen BK317.out 0
      have hfz40_1 := blk_frozen BK317.out 1
      have hcz41_0 : w35.cell? ⟨gb313, 0, none⟩ = some (.slice Ao25 x314000_1.length co25) := kx BK313.out
      have hcz41_1 : w35.cell? ⟨gb313, 1, none⟩ = some (.slice Ao30 x314001_1.length co30) := kx BK313.out
      have hfz41_0 := blk_frozen BK313.out 0
      have hfz41_1 := blk_frozen BK313.out 1
      try go_wp2
      go_roundg k1
      case measure => have := HK1.out; omega
      case rel => exact ⟨(wrap64 (x6_1 - 1)), (t325), (t326), (t327), (t330), (.slice Ao36 t327.length co36), (.slice Ao38 t330.length co38), (by first | rfl | (simp; done) | (simp [*]; done)), H', ⟨by have := HK1.out; omega⟩, ⟨by (with_reducible repeat (first | apply Kd.V_alloc | apply Kd.V_drewN | apply Kd.V_drew)); exact Kd.V_mono (Kd.V_far (p := ⟨gb313, 1, none⟩) (Kd.V_far (p := ⟨gb313, 0, none⟩) (Kd.V_far (p := ⟨gb317, 1, none⟩) (Kd.V_far (p := ⟨gb317, 0, none⟩) (Kd.V_mono (Kd.V_mono HO329.out (fun k_ hk => (⟨hk, hk.2.2.2.2.2.1⟩ : _ ∧ k_ ≠ gb317))) (fun k_ hk => (⟨hk, hk.1.2.2.2.2.1⟩ : _ ∧ k_ ≠ gb313))) (fun _ hk => hk.1.2) (.slice Ao36 t327.length co36)) (fun _ hk => hk.1.2) (.slice Ao38 t330.length co38)) (fun _ hk => hk.2) (.slice Ao36 t327.length co36)) (fun _ hk => hk.2) (.slice Ao38 t330.length co38)) (fun _ hk => ⟨hk.1.1.1, ⟨hk.1.1.2.1, ⟨hk.1.1.2.2.2.1, ⟨hk.1.1.2.2.2.2.1, hk.1.1.2.2.2.2.2.2⟩⟩⟩⟩)⟩, ⟨by (with_reducible repeat (first | apply Kd.R_alloc | apply Kd.R_drewN | apply Kd.R_drew)); exact Kd.R_mono (Kd.R_far (p := ⟨gb313, 1, none⟩) (Kd.R_far (p := ⟨gb313, 0, none⟩) (Kd.R_far (p := ⟨gb317, 1, none⟩) (Kd.R_far (p := ⟨gb317, 0, none⟩) (Kd.R_types (Kd.R_types HO332.out BK317.out (by decide)) BK313.out (by decide)) (fun _ hk => hk.1.2) (.slice Ao36 t327.length co36)) (fun _ hk => hk.1.2) (.slice Ao38 t330.length co38)) (fun _ hk => hk.2) (.slice Ao36 t327.length co36)) (fun _ hk => hk.2) (.slice Ao38 t330.length co38)) (fun _ hk => hk.1.1.1.1)⟩, ⟨by (with_reducible repeat first | apply k1 | apply k2 | apply k3); refine blk_far ?_ NB306_313.out _; (with_reducible repeat first | apply k1 | apply k2 | apply k3); refine blk_far ?_ NB306_313.out _; (with_reducible repeat first | apply k1 | apply k2 | apply k3); refine blk_far ?_ NB306_317.out _; (with_reducible repeat first | apply k1 | apply k2 | apply k3); refine blk_far ?_ NB306_317.out _; (with_reducible repeat first | apply k1 | apply k2 | apply k3); exact BK306.out⟩, ⟨by (with_reducible repeat first | apply k1 | apply k2 | apply k3); refine blk_put (cs := #[.slice Ao36 t327.length co36, .slice Ao30 x314001_1.length co30]) ?_ 1 _ rfl; (with_reducible repeat first | apply k1 | apply k2 | apply k3); refine blk_put (cs := #[.slice Ao25 x314000_1.length co25, .slice Ao30 x314001_1.length co30]) ?_ 0 _ rfl; (with_reducible repeat first | apply k1 | apply k2 | apply k3); refine blk_far ?_ NB313_317.out _; (with_reducible repeat first | apply k1 | apply k2 | apply k3); refine blk_far ?_ NB313_317.out _; (with_reducible repeat first | apply k1 | apply k2 | apply k3); exact BK313.out⟩, ⟨by repeat (first | (with_reducible first | exact HI0.out | apply IsS65.alloc | apply IsS65.drewN | apply IsS65.drew | apply IsS65.set_1 | apply IsS65.set_2 | apply IsS65.farB NB0_306.out | apply IsS65.farB NB0_313.out | apply IsS65.farB NB0_317.out) | exact HI0.out)⟩, ⟨by repeat (first | (with_reducible first | exact HK.out | apply KeepBut.set_ | apply keep_drewN | apply keep_drew | apply keep_alloc | refine keep_far ?_ GW306.out _ | refine keep_far ?_ GW313.out _ | refine keep_far ?_ GW317.out _) | exact HK.out)⟩, ⟨by repeat (first | (with_reducible first | exact HB.out | apply below_alloc | apply pw_below_drewN | apply below_drew1 | refine below_set ?_ (IsS65.ge HI0.out) | refine below_set ?_ GE306.out | refine below_set ?_ GE313.out | refine below_set ?_ GE317.out) | exact HB.out)⟩⟩
     ·replace c20 := Bool.eq_false_iff.mpr c20
      subst c20
      have H1 : (spec_l06Draw.l0 k1 a1 (wrap64 (x6_1 - 1)) s0_0 t325 t326 x314000_1 x314001_1) = some (r1, r2, r3, r4) := by rw [if_neg (show ¬ (false = true) by decide)] at H; exact H
      clear H
      have H := H1
      clear H1
      have H' := Aside0.mk H
      clear H
      have hnb42 := NB313_306.out
      have hnc42 := NB306_313.out
      have hnb43 := NB313_0.out
      have hnc43 := NB0_313.out
      have hcz44_0 : wr.cell? ⟨gb313, 0, none⟩ = some (u314000) := kx BK313.out
      have hcz44_1 : wr.cell? ⟨gb313, 1, none⟩ = some (u314001) := kx BK313.out
      have hfz44_0 := blk_frozen BK313.out 0
      have hfz44_1 := blk_frozen BK313.out 1
      try go_wp2_with (first | ((with_reducible refine gate_dst (N := 7) rfl ?_); refine kE (N := 7) (cs := #[.slice none 0 0, .slice none 0 0]) (t := 28) ?_; intro gb317 hg w45 hbox hb; have n0_ := k0 (Kd.V_below (Kd.V_elderB (kV HO_314000.out) gb317 (Nat.le_of_eq hg.symm)) hb); have n1_ := k0 (Kd.R_below (kR HO_314001.out) hb); have n2_ := k0 (kb BK306.out hb); have n3_ := k0 (kb BK313.out hb); have n4_ := k0 (IsS65.below (by repeat (first | (with_reducible first | exact HI0.out | apply IsS65.alloc | apply IsS65.drewN | apply IsS65.drew | apply IsS65.set_1 | apply IsS65.set_2 | apply IsS65.farB NB0_306.out | apply IsS65.farB NB0_313.out) | exact HI0.out)) hb); have n5_ := k0 (KeepBut.trans (by repeat (first | (with_reducible first | exact HK.out | apply KeepBut.set_ | apply keep_drewN | apply keep_drew | apply keep_alloc | refine keep_far ?_ GW306.out _ | refine keep_far ?_ GW313.out _) | exact HK.out)) (KeepBut.of_below hb g none) (.inl rfl)); have n6_ := k0 (below_step (by repeat (first | (with_reducible first | exact HB.out | apply below_alloc | apply pw_below_drewN | apply below_drew1 | refine below_set ?_ (IsS65.ge HI0.out) | refine below_set ?_ GE306.out | refine below_set ?_ GE313.out) | exact HB.out)) hb); have n7_ := k0 (hbox); have n8_ := k0 ((by rw [hg]; exact (keep_size (w := w) (g := g) (row := none) (by repeat (first | (with_reducible first | exact HK.out | apply KeepBut.set_ | apply keep_drewN | apply keep_drew | apply keep_alloc | refine keep_far ?_ GW306.out _ | refine keep_far ?_ GW313.out _) | exact HK.out))) : w.heap.size ≤ gb317)); have n9_ := k0 ((Nat.le_trans HW0.out (by rw [hg]; exact (keep_size (w := w) (g := g) (row := none) (by repeat (first | (with_reducible first | exact HK.out | apply KeepBut.set_ | apply keep_drewN | apply keep_drew | apply keep_alloc | refine keep_far ?_ GW306.out _ | refine keep_far ?_ GW313.out _) | exact HK.out))) : w.heap.size ≤ gb317) : w0.heap.size ≤ gb317)); have n10_ := k0 ((by rw [hg]; exact Nat.ne_of_lt (blk_lt (g := gb306) (o := .cells #[.slice none 0 0, .slice none 0 0] 28 (0, 0)) (kB BK306.out)) : gb306 ≠ gb317)); have n11_ := k0 ((by rw [hg]; exact Nat.ne_of_gt (blk_lt (g := gb306) (o := .cells #[.slice none 0 0, .slice none 0 0] 28 (0, 0)) (kB BK306.out)) : gb317 ≠ gb306)); have n12_ := k0 ((by rw [hg]; exact Nat.ne_of_lt (blk_lt (g := gb313) (o := .cells #[u314000, u314001] 28 (0, 0)) (kB BK313.out)) : gb313 ≠ gb317)); have n13_ := k0 ((by rw [hg]; exact Nat.ne_of_gt (blk_lt (g := gb313) (o := .cells #[u314000, u314001] 28 (0, 0)) (kB BK313.out)) : gb317 ≠ gb313)); have n14_ := k0 ((by rw [hg]; exact Nat.ne_of_lt (IsS65.lt (show IsS65 w0 _ g s0_0 x1001_1 x1002_1 from by repeat (first | (with_reducible first | exact HI0.out | apply IsS65.alloc | apply IsS65.drewN | apply IsS65.drew | apply IsS65.set_1 | apply IsS65.set_2 | apply IsS65.farB NB0_306.out | apply IsS65.farB NB0_313.out) | exact HI0.out))) : g ≠ gb317)); have n15_ := k0 ((by rw [hg]; exact Nat.ne_of_gt (IsS65.lt (show IsS65 w0 _ g s0_0 x1001_1 x1002_1 from by repeat (first | (with_reducible first | exact HI0.out | apply IsS65.alloc | apply IsS65.drewN | apply IsS65.drew | apply IsS65.set_1 | apply IsS65.set_2 | apply IsS65.farB NB0_306.out | apply IsS65.farB NB0_313.out) | exact HI0.out))) : gb317 ≠ g)); clear HO_314000; clear HO_314001; clear BK306; clear BK313; clear HI0; clear HK; clear HB; have HO_314000 := n0_; have HO_314001 := n1_; have BK306 := n2_; have BK313 := n3_; have HI0 := n4_; have HK := n5_; have HB := n6_; have BK317 := n7_; have GW317 := n8_; have GE317 := n9_; have NB306_317 := n10_; have NB317_306 := n11_; have NB313_317 := n12_; have NB317_313 := n13_; have NB0_317 := n14_; have NB317_0 := n15_; clear n0_ n1_ n2_ n3_ n4_ n5_ n6_ n7_ n8_ n9_ n10_ n11_ n12_ n13_ n14_ n15_; clear hb hbox hg; obtain ⟨Ao46, co46, eo46⟩ := Kd.V_slice HO_314000.out; subst eo46; have hnb47 := NB317_306.out; have hnc47 := NB306_317.out; have hnb48 := NB317_313.out; have hnc48 := NB313_317.out; have hnb49 := NB317_0.out; have hnc49 := NB0_317.out; have hcz50_0 : w45.cell? ⟨gb317, 0, none⟩ = some (.slice none 0 0) := kx BK317.out; have hcz50_1 : w45.cell? ⟨gb317, 1, none⟩ = some (.slice none 0 0) := kx BK317.out; have hfz50_0 := blk_frozen BK317.out 0; have hfz50_1 := blk_frozen BK317.out 1; obtain ⟨Ao51, co51, eo51⟩ := Kd.R_slice HO_314001.out; subst eo51) | ((with_reducible refine gate_callee (f := 64) rfl ?_); refine kG (some 19) Try.func64 #[.pointer (some ⟨g, 0, none⟩), .int .i64 3] ?_; (with_reducible refine (spec_l01Below.calls g s0_0 x1001_1 x1002_1 3 t318 t319 t320 w0 _ ?side1 ?side2 A15.out).mono ?_); (case side1 => repeat (first | (with_reducible first | exact HI0.out | apply IsS65.alloc | apply IsS65.drewN | apply IsS65.drew | apply IsS65.set_1 | apply IsS65.set_2 | apply IsS65.farB NB0_306.out | apply IsS65.farB NB0_313.out | apply IsS65.farB NB0_317.out) | exact HI0.out)); (case side2 => repeat (first | (with_reducible first | exact HB.out | apply below_alloc | apply pw_below_drewN | apply below_drew1 | refine below_set ?_ (IsS65.ge HI0.out) | refine below_set ?_ GE306.out | refine below_set ?_ GE313.out | refine below_set ?_ GE317.out) | exact HB.out)); rintro e w52 ⟨rfl, hi, hb, hk⟩; refine ⟨_, rfl, ?_⟩; have n0_ := k0 (Kd.V_mono (Kd.V_keep (Kd.V_mono (ok := fun k_ => ((((w.heap.size ≤ k_)) ∧ (some k_ ≠ (.slice Ao51 x314001_1.length co51 : Value).ownBlock ∧ (k_ ≠ gb306 ∧ (k_ ≠ gb313 ∧ k_ ≠ g)))) ∧ k_ ≠ gb317)) (by (with_reducible repeat (first | apply Kd.V_alloc | apply Kd.V_drewN | apply Kd.V_drew)); exact (Kd.V_mono (Kd.V_far (p := ⟨gb317, 1, none⟩) (Kd.V_far (p := ⟨gb317, 0, none⟩) (Kd.V_mono HO_314000.out (fun k_ hk => (⟨hk, hk.2⟩ : _ ∧ k_ ≠ gb317))) (fun _ hk => hk.2) (.slice Ao46 x314000_1.length co46)) (fun _ hk => hk.2) (.slice Ao51 x314001_1.length co51)) (fun _ h_ => h_.1))) (fun k_ hk_ => (⟨hk_, hk_.1.2.2.2.2⟩ : _ ∧ k_ ≠ g))) hk (fun _ h => h.2)) (fun _ h => h.1)); have n1_ := k0 (Kd.R_mono (Kd.R_keep (IsS65.apart (show IsS65 w0 _ g s0_0 x1001_1 x1002_1 from by repeat (first | (with_reducible first | exact HI0.out | apply IsS65.alloc | apply IsS65.drewN | apply IsS65.drew | apply IsS65.set_1 | apply IsS65.set_2 | apply IsS65.farB NB0_306.out | apply IsS65.farB NB0_313.out | apply IsS65.farB NB0_317.out) | exact HI0.out)) (by (with_reducible repeat (first | apply Kd.R_alloc | apply Kd.R_drewN | apply Kd.R_drew)); exact (Kd.R_mono (Kd.R_far (p := ⟨gb317, 1, none⟩) (Kd.R_far (p := ⟨gb317, 0, none⟩) (Kd.R_types HO_314001.out BK317.out (by decide)) (fun _ hk => hk.2) (.slice Ao46 x314000_1.length co46)) (fun _ hk => hk.2) (.slice Ao51 x314001_1.length co51)) (fun _ h_ => h_.1))) (by decide)) hk (fun _ h => h.2)) (fun _ h => h.1)); have n2_ := k0 (KeepBut.blk hk (g' := gb306) (o := .cells #[.slice none 0 0, .slice none 0 0] 28 (0, 0)) (by (with_reducible repeat first | apply k1 | apply k2 | apply k3); refine blk_far ?_ NB306_317.out _; (with_reducible repeat first | apply k1 | apply k2 | apply k3); refine blk_far ?_ NB306_317.out _; (with_reducible repeat first | apply k1 | apply k2 | apply k3); exact BK306.out) NB306_0.out (by simp)); have n3_ := k0 (KeepBut.blk hk (g' := gb313) (o := .cells #[.slice Ao46 x314000_1.length co46, .slice Ao51 x314001_1.length co51] 28 (0, 0)) (by (with_reducible repeat first | apply k1 | apply k2 | apply k3); refine blk_far ?_ NB313_317.out _; (with_reducible repeat first | apply k1 | apply k2 | apply k3); refine blk_far ?_ NB313_317.out _; (with_reducible repeat first | apply k1 | apply k2 | apply k3); exact BK313.out) NB313_0.out (by simp)); have n4_ := k0 (KeepBut.blk hk (g' := gb317) (o := .cells #[.slice Ao46 x314000_1.length co46, .slice Ao51 x314001_1.length co51] 28 (0, 0)) (by (with_reducible repeat first | apply k1 | apply k2 | apply k3); refine blk_put (cs := #[.slice Ao46 x314000_1.length co46, .slice none 0 0]) ?_ 1 _ rfl; (with_reducible repeat first | apply k1 | apply k2 | apply k3); refine blk_put (cs := #[.slice none 0 0, .slice none 0 0]) ?_ 0 _ rfl; (with_reducible repeat first | apply k1 | apply k2 | apply k3); exact BK317.out) NB317_0.out (by simp)); have n5_ := k0 (KeepBut.trans (by repeat (first | (with_reducible first | exact HK.out | apply KeepBut.set_ | apply keep_drewN | apply keep_drew | apply keep_alloc | refine keep_far ?_ GW306.out _ | refine keep_far ?_ GW313.out _ | refine keep_far ?_ GW317.out _) | exact HK.out)) hk (.inl rfl)); have n6_ := k0 (hb); have n7_ := k0 (hi); clear HO_314000; clear HO_314001; clear BK306; clear BK313; clear BK317; clear HK; clear HB; clear HI0; have HO_314000 := n0_; have HO_314001 := n1_; have BK306 := n2_; have BK313 := n3_; have BK317 := n4_; have HK := n5_; have HB := n6_; have HI0 := n7_; clear n0_ n1_ n2_ n3_ n4_ n5_ n6_ n7_; (try clear hb); (try clear hb2); (try clear hk); (try clear hi)))
      have n0_ := k0 (Kd.V_drew HO_314000.out)
      have n1_ := k0 (Kd.R_drew HO_314001.out)
      have n2_ := k0 (blk_drew BK306.out)
      have n3_ := k0 (blk_drew BK313.out)
      have n4_ := k0 (blk_drew BK317.out)
      have n5_ := k0 (IsS65.drew HI0.out)
      have n6_ := k0 (keep_drew HK.out)
      have n7_ := k0 (below_drew1 HB.out)
      clear HO_314000 HO_314001 BK306 BK313 BK317 HI0 HK HB
      have HO_314000 := n0_
      have HO_314001 := n1_
      have BK306 := n2_
      have BK313 := n3_
      have BK317 := n4_
      have HI0 := n5_
      have HK := n6_
      have HB := n7_
      clear n0_ n1_ n2_ n3_ n4_ n5_ n6_ n7_
      refine start_ (n := 13) (S := fun w' => w'.cell? ⟨gb313, 0, none⟩ = some (.slice Ao46 x314000_1.length co46) ∧ w'.cell? ⟨gb313, 1, none⟩ = some (.slice Ao51 x314001_1.length co51)) (ds := []) #[false, false, false, false, false, false, false, false, false, false, false, false, false] (by kernel_rfl) rfl rfl ⟨(blk_cell BK313.out 0).trans rfl, (blk_cell BK313.out 1).trans rfl⟩ (fun hHeld => ?_); refine with_tabW spec_l06Draw.tab10 spec_l06Draw.bits10 (fun HT_ HW_ => ?_)
      generalize w52.drew = w53 at HO_314000 HO_314001 BK306 BK313 BK317 HI0 HK HB hHeld ⊢
      refine kP 1 38 13 2 HT_.out ?_
      refine kP 2 39 13 6 HT_.out ?_
      refine kP 4 41 13 22 HT_.out ?_
      refine take_ (i := 0) (N := some 37) (v := ?_) (a' := ?_) (bt 13 23) rfl rfl (take_ofW HT_.out HW_.out (by kernel_rfl)) (fun _ _ _ h => h) (Or.inl ⟨by rfl, ?_⟩) hHeld ?_ ?_
      rotate_left
      ·rintro w' ⟨s0, s1⟩
       go_simp
       with_reducible rfl
      rotate_left
      ·simp only [Act.put, List.setIfInBounds_toArray, List.set_cons_zero, List.set_cons_succ, i64_w, i32_w]
       rfl
      refine one_ (i := 3) (N := some 40) (bt 13 31) rfl rfl (one_of HT_.out (by kernel_rfl)) (by decide) (fun K hK => ?_)
      refine goes_ Try.func64 (by kernel_rfl) rfl #[.pointer (some ⟨g, 0, none⟩), .int .i64 a1] (by rfl) rfl rfl (by (try simp only [List.map_toArray, List.map_cons, List.map_nil]); first | done | rfl | (simp only [List.length_drop, List.length_take]; rfl)) ?_
      with_reducible refine (spec_l01Below.calls g s0_0 t319 t320 a1 t321 t322 t323 w0 _ ?side1 ?side2 A17.out).mono ?_
      (case side1 => repeat (first | (with_reducible first | exact HI0.out | apply IsS65.alloc | apply IsS65.drewN | apply IsS65.drew | apply IsS65.set_1 | apply IsS65.set_2 | apply IsS65.farB NB0_306.out | apply IsS65.farB NB0_313.out | apply IsS65.farB NB0_317.out) | exact HI0.out))
      (case side2 => repeat (first | (with_reducible first | exact HB.out | apply below_alloc | apply pw_below_drewN | apply below_drew1 | refine below_set ?_ (IsS65.ge HI0.out) | refine below_set ?_ GE306.out | refine below_set ?_ GE313.out | refine below_set ?_ GE317.out) | exact HB.out))
      rintro e w54 ⟨rfl, hi, hb, hk⟩
      refine ⟨_, rfl, ?_⟩
      have n0_ := k0 (Kd.V_mono (Kd.V_keep (Kd.V_mono (ok := fun k_ => ((((w.heap.size ≤ k_)) ∧ (some k_ ≠ (.slice Ao51 x314001_1.length co51 : Value).ownBlock ∧ (k_ ≠ gb306 ∧ (k_ ≠ gb313 ∧ k_ ≠ g)))) ∧ k_ ≠ gb317)) (kV HO_314000.out) (fun k_ hk_ => (⟨hk_, hk_.1.2.2.2.2⟩ : _ ∧ k_ ≠ g))) hk (fun _ h => h.2)) (fun _ h => h.1))
      have n1_ := k0 (Kd.R_mono (Kd.R_keep (IsS65.apart (show IsS65 w0 _ g s0_0 t319 t320 from by repeat (first | (with_reducible first | exact HI0.out | apply IsS65.alloc | apply IsS65.drewN | apply IsS65.drew | apply IsS65.set_1 | apply IsS65.set_2 | apply IsS65.farB NB0_306.out | apply IsS65.farB NB0_313.out | apply IsS65.farB NB0_317.out) | exact HI0.out)) (kR HO_314001.out) (by decide)) hk (fun _ h => h.2)) (fun _ h => h.1))
      have n2_ := k0 (KeepBut.blk hk (g' := gb306) (o := .cells #[.slice none 0 0, .slice none 0 0] 28 (0, 0)) (kB BK306.out) NB306_0.out (by simp))
      have n3_ := k0 (KeepBut.blk hk (g' := gb313) (o := .cells #[.slice Ao46 x314000_1.length co46, .slice Ao51 x314001_1.length co51] 28 (0, 0)) (kB BK313.out) NB313_0.out (by simp))
      have n4_ := k0 (KeepBut.blk hk (g' := gb317) (o := .cells #[.slice Ao46 x314000_1.length co46, .slice Ao51 x314001_1.length co51] 28 (0, 0)) (kB BK317.out) NB317_0.out (by simp))
      have n5_ := k0 (KeepBut.trans (by repeat (first | (with_reducible first | exact HK.out | apply KeepBut.set_ | apply keep_drewN | apply keep_drew | apply keep_alloc | refine keep_far ?_ GW306.out _ | refine keep_far ?_ GW313.out _ | refine keep_far ?_ GW317.out _) | exact HK.out)) hk (.inl rfl))
      have n6_ := k0 (hb)
      have n7_ := k0 (hi)
      clear HO_314000 HO_314001 BK306 BK313 BK317 HK HB HI0
      have HO_314000 := n0_
      have HO_314001 := n1_
      have BK306 := n2_
      have BK313 := n3_
      have BK317 := n4_
      have HK := n5_
      have HB := n6_
      have HI0 := n7_
      clear n0_ n1_ n2_ n3_ n4_ n5_ n6_ n7_
      (try clear hb)
      (try clear hb2)
      (try clear hk)
      (try clear hi)
      refine hK.out _ _ ⟨(blk_cell BK313.out 0).trans rfl, (blk_cell BK313.out 1).trans rfl⟩ (fun hHeld => ?_)
      clear hK K
      refine norm_ (a' := ?_) ?_ ?_
      rotate_left
      ·show Act.put _ (some 40) _ = _
       simp only [Act.put, List.setIfInBounds_toArray, List.set_cons_zero, List.set_cons_succ, i64_w, i32_w]
       rfl
      refine one_ (i := 5) (N := some 42) (bt 13 63) rfl rfl (one_of HT_.out (by kernel_rfl)) (by decide) (fun K hK => ?_)
      refine goes_ Try.func64 (by kernel_rfl) rfl #[.pointer (some ⟨g, 0, none⟩), .int .i64 50] (by rfl) rfl rfl (by (try simp only [List.map_toArray, List.map_cons, List.map_nil]); first | done | rfl | (simp only [List.length_drop, List.length_take]; rfl)) ?_
      with_reducible refine (spec_l01Below.calls g s0_0 t322 t323 50 t324 t325 t326 w0 _ ?side1 ?side2 A18.out).mono ?_
      (case side1 => repeat (first | (with_reducible first | exact HI0.out | apply IsS65.alloc | apply IsS65.drewN | apply IsS65.drew | apply IsS65.set_1 | apply IsS65.set_2 | apply IsS65.farB NB0_306.out | apply IsS65.farB NB0_313.out | apply IsS65.farB NB0_317.out) | exact HI0.out))
      (case side2 => repeat (first | (with_reducible first | exact HB.out | apply below_alloc | apply pw_below_drewN | apply below_drew1 | refine below_set ?_ (IsS65.ge HI0.out) | refine below_set ?_ GE306.out | refine below_set ?_ GE313.out | refine below_set ?_ GE317.out) | exact HB.out))
      rintro e w55 ⟨rfl, hi, hb, hk⟩
      refine ⟨_, rfl, ?_⟩
      have n0_ := k0 (Kd.V_mono (Kd.V_keep (Kd.V_mono (ok := fun k_ => ((((w.heap.size ≤ k_)) ∧ (some k_ ≠ (.slice Ao51 x314001_1.length co51 : Value).ownBlock ∧ (k_ ≠ gb306 ∧ (k_ ≠ gb313 ∧ k_ ≠ g)))) ∧ k_ ≠ gb317)) (kV HO_314000.out) (fun k_ hk_ => (⟨hk_, hk_.1.2.2.2.2⟩ : _ ∧ k_ ≠ g))) hk (fun _ h => h.2)) (fun _ h => h.1))
      have n1_ := k0 (Kd.R_mono (Kd.R_keep (IsS65.apart (show IsS65 w0 _ g s0_0 t322 t323 from by repeat (first | (with_reducible first | exact HI0.out | apply IsS65.alloc | apply IsS65.drewN | apply IsS65.drew | apply IsS65.set_1 | apply IsS65.set_2 | apply IsS65.farB NB0_306.out | apply IsS65.farB NB0_313.out | apply IsS65.farB NB0_317.out) | exact HI0.out)) (kR HO_314001.out) (by decide)) hk (fun _ h => h.2)) (fun _ h => h.1))
      have n2_ := k0 (KeepBut.blk hk (g' := gb306) (o := .cells #[.slice none 0 0, .slice none 0 0] 28 (0, 0)) (kB BK306.out) NB306_0.out (by simp))
      have n3_ := k0 (KeepBut.blk hk (g' := gb313) (o := .cells #[.slice Ao46 x314000_1.length co46, .slice Ao51 x314001_1.length co51] 28 (0, 0)) (kB BK313.out) NB313_0.out (by simp))
      have n4_ := k0 (KeepBut.blk hk (g' := gb317) (o := .cells #[.slice Ao46 x314000_1.length co46, .slice Ao51 x314001_1.length co51] 28 (0, 0)) (kB BK317.out) NB317_0.out (by simp))
      have n5_ := k0 (KeepBut.trans (by repeat (first | (with_reducible first | exact HK.out | apply KeepBut.set_ | apply keep_drewN | apply keep_drew | apply keep_alloc | refine keep_far ?_ GW306.out _ | refine keep_far ?_ GW313.out _ | refine keep_far ?_ GW317.out _) | exact HK.out)) hk (.inl rfl))
      have n6_ := k0 (hb)
      have n7_ := k0 (hi)
      clear HO_314000 HO_314001 BK306 BK313 BK317 HK HB HI0
      have HO_314000 := n0_
      have HO_314001 := n1_
      have BK306 := n2_
      have BK313 := n3_
      have BK317 := n4_
      have HK := n5_
      have HB := n6_
      have HI0 := n7_
      clear n0_ n1_ n2_ n3_ n4_ n5_ n6_ n7_
      (try clear hb)
      (try clear hb2)
      (try clear hk)
      (try clear hi)
      refine hK.out _ _ ⟨(blk_cell BK313.out 0).trans rfl, (blk_cell BK313.out 1).trans rfl⟩ (fun hHeld => ?_)
      clear hK K
      refine norm_ (a' := ?_) ?_ ?_
      rotate_left
      ·show Act.put _ (some 42) _ = _
       simp only [Act.put, List.setIfInBounds_toArray, List.set_cons_zero, List.set_cons_succ, i64_w, i32_w]
       rfl
      refine kP 6 43 13 127 HT_.out ?_
      refine one_ (i := 7) (N := some 44) (bt 13 255) rfl rfl (one_of HT_.out (by kernel_rfl)) (by decide) (fun K hK => ?_)
      refine goes_ Try.func28 (by kernel_rfl) rfl #[.agg #[.slice Ao46 x314000_1.length co46, .slice Ao51 x314001_1.length co51], .int .i64 t321, .int .i64 (wrap64 (1 + t324))] (by rfl) rfl rfl (by (try simp only [List.map_toArray, List.map_cons, List.map_nil]); first | done | rfl | (simp only [List.length_drop, List.length_take]; rfl)) ?_
      with_reducible refine (spec_Mint.calls k1 _ _ x314000_1 _ _ x314001_1 t321 (wrap64 (1 + t324)) t327 t330 false _ ?side1 ?side2 ?side3 ?side4 A19.out).mono ?_
      (case side1 => exact kC (Kd.V_reads' HO_314000.out).2.2)
      (case side2 => exact (Kd.V_reads' HO_314000.out).2.1)
      (case side3 => exact kC (Kd.R_reads' HO_314001.out).2.2)
      (case side4 => exact (Kd.R_reads' HO_314001.out).2.1)
      rintro e w56 ⟨v328, v331, rfl, ho0, ho1, hb⟩
      refine ⟨_, rfl, ?_⟩
      have n0_ := k0 (Kd.V_elder' (kV HO_314000.out) (Kd.R_base ho1) hb)
      have n1_ := k0 (Kd.R_elder' (kR HO_314001.out) (Kd.R_base ho1) hb)
      have n2_ := k0 (Kd.V_lower (Kd.V_mono (ok' := fun k_ => (w.heap.size ≤ k_) ∧ some k_ ≠ (v331 : Value).ownBlock ∧ some k_ ≠ (.slice Ao51 x314001_1.length co51 : Value).ownBlock ∧ k_ ≠ gb306 ∧ k_ ≠ gb313 ∧ k_ ≠ gb317 ∧ k_ ≠ g) ho0 (fun k_ hk_ => ⟨(Nat.le_trans (keep_size (w := w) (g := g) (row := none) (by repeat (first | (with_reducible first | exact HK.out | apply KeepBut.set_ | apply keep_drewN | apply keep_drew | apply keep_alloc | refine keep_far ?_ GW306.out _ | refine keep_far ?_ GW313.out _ | refine keep_far ?_ GW317.out _) | exact HK.out))) hk_.1), hk_.2, (Kd.fresh' (Kd.R_lt (kR HO_314001.out)) k_ hk_.1), (Kd.freshB (g := gb306) (o := .cells #[.slice none 0 0, .slice none 0 0] 28 (0, 0)) (kB BK306.out) k_ hk_.1), (Kd.freshB (g := gb313) (o := .cells #[.slice Ao46 x314000_1.length co46, .slice Ao51 x314001_1.length co51] 28 (0, 0)) (kB BK313.out) k_ hk_.1), (Kd.freshB (g := gb317) (o := .cells #[.slice Ao46 x314000_1.length co46, .slice Ao51 x314001_1.length co51] 28 (0, 0)) (kB BK317.out) k_ hk_.1), (IsS65.fresh (by repeat (first | (with_reducible first | exact HI0.out | apply IsS65.alloc | apply IsS65.drewN | apply IsS65.drew | apply IsS65.set_1 | apply IsS65.set_2 | apply IsS65.farB NB0_306.out | apply IsS65.farB NB0_313.out | apply IsS65.farB NB0_317.out) | exact HI0.out)) k_ hk_.1)⟩)) (keep_size (w := w) (g := g) (row := none) (by repeat (first | (with_reducible first | exact HK.out | apply KeepBut.set_ | apply keep_drewN | apply keep_drew | apply keep_alloc | refine keep_far ?_ GW306.out _ | refine keep_far ?_ GW313.out _ | refine keep_far ?_ GW317.out _) | exact HK.out))))
      have n3_ := k0 (Kd.R_lower (Kd.R_new' (Kd.R_newM (M := fun k_ => (w.heap.size ≤ k_)) (Kd.R_mono (ok' := fun k_ => True) ho1 (fun _ hk_ => trivial)) (keep_size (w := w) (g := g) (row := none) (by repeat (first | (with_reducible first | exact HK.out | apply KeepBut.set_ | apply keep_drewN | apply keep_drew | apply keep_alloc | refine keep_far ?_ GW306.out _ | refine keep_far ?_ GW313.out _ | refine keep_far ?_ GW317.out _) | exact HK.out))) (fun k_ h_ => h_)) (Kd.R_lt (kR HO_314001.out))) (keep_size (w := w) (g := g) (row := none) (by repeat (first | (with_reducible first | exact HK.out | apply KeepBut.set_ | apply keep_drewN | apply keep_drew | apply keep_alloc | refine keep_far ?_ GW306.out _ | refine keep_far ?_ GW313.out _ | refine keep_far ?_ GW317.out _) | exact HK.out))))
      have n4_ := k0 (kb BK306.out hb)
      have n5_ := k0 (kb BK313.out hb)
      have n6_ := k0 (IsS65.below (by repeat (first | (with_reducible first | exact HI0.out | apply IsS65.alloc | apply IsS65.drewN | apply IsS65.drew | apply IsS65.set_1 | apply IsS65.set_2 | apply IsS65.farB NB0_306.out | apply IsS65.farB NB0_313.out | apply IsS65.farB NB0_317.out) | exact HI0.out)) hb)
      have n7_ := k0 (kb BK317.out hb)
      have n8_ := k0 (KeepBut.trans (by repeat (first | (with_reducible first | exact HK.out | apply KeepBut.set_ | apply keep_drewN | apply keep_drew | apply keep_alloc | refine keep_far ?_ GW306.out _ | refine keep_far ?_ GW313.out _ | refine keep_far ?_ GW317.out _) | exact HK.out)) (KeepBut.of_below hb g none) (.inl rfl))
      have n9_ := k0 (below_step (by repeat (first | (with_reducible first | exact HB.out | apply below_alloc | apply pw_below_drewN | apply below_drew1 | refine below_set ?_ (IsS65.ge HI0.out) | refine below_set ?_ GE306.out | refine below_set ?_ GE313.out | refine below_set ?_ GE317.out) | exact HB.out)) hb)
      clear HO_314000 HO_314001 BK306 BK313 HI0 BK317 HK HB
      have HO_314000 := n0_
      have HO_314001 := n1_
      have HO329 := n2_
      have HO332 := n3_
      have BK306 := n4_
      have BK313 := n5_
      have HI0 := n6_
      have BK317 := n7_
      have HK := n8_
      have HB := n9_
      clear n0_ n1_ n2_ n3_ n4_ n5_ n6_ n7_ n8_ n9_
      (try clear hb)
      (try clear hb2)
      (try clear hk)
      (try clear hi)
      (try clear ho0)
      (try clear ho1)
      obtain ⟨Ao57, co57, eo57⟩ := Kd.V_slice HO329.out
      (first | subst eo57 | (injection eo57 with f1_ f2_ f3_; have f4_ := f1_.symm; have f5_ := f3_.symm; clear f1_ f2_ f3_; subst f4_; subst f5_))
      obtain ⟨Ao59, co59, eo59⟩ := Kd.R_slice HO332.out
      (first | subst eo59 | (injection eo59 with f1_ f2_ f3_; have f4_ := f1_.symm; have f5_ := f3_.symm; clear f1_ f2_ f3_; subst f4_; subst f5_))
      refine hK.out _ _ ⟨(blk_cell BK313.out 0).trans rfl, (blk_cell BK313.out 1).trans rfl⟩ (fun hHeld => ?_)
      clear hK K
      refine norm_ (a' := ?_) ?_ ?_
      rotate_left
      ·show Act.put _ (some 44) _ = _
       simp only [Act.put, List.setIfInBounds_toArray, List.set_cons_zero, List.set_cons_succ, i64_w, i32_w]
       rfl
      refine kP 8 36 13 511 HT_.out ?_
      refine kP 9 45 13 1023 HT_.out ?_
      refine kP 10 46 13 2047 HT_.out ?_
      refine one_ (i := 11) (N := none) (bt 13 4095) rfl rfl (one_of HT_.out (by kernel_rfl)) (by decide) (fun K hK => ?_)
      have hs58 : w56.cell? ⟨gb317, 0, none⟩ = some (.slice Ao46 x314000_1.length co46) := (blk_cell BK317.out 0).trans rfl
      have hfs58 := blk_frozen BK317.out 0
      have hns58_0 := NB306_317.out
      have hns58_1 := NB313_317.out
      have hms58_0 := NB317_306.out
      have hms58_1 := NB317_313.out
      have hs60 : w56.cell? ⟨gb317, 1, none⟩ = some (.slice Ao51 x314001_1.length co51) := (blk_cell BK317.out 1).trans rfl
      have hfs60 := blk_frozen BK317.out 1
      have hns60_0 := NB306_317.out
      have hns60_1 := NB313_317.out
      have hms60_0 := NB317_306.out
      have hms60_1 := NB317_313.out
      refine skip_ (w1 := ?_) (by rfl) rfl ?_ ?_
      rotate_left
      ·go_simp
       rfl
      refine hK.out _ _ ⟨((cell_far (p := ⟨gb317, _, none⟩) NB313_317.out _).trans (((cell_far (p := ⟨gb317, _, none⟩) NB313_317.out _).trans (hHeld.1)))), ((cell_far (p := ⟨gb317, _, none⟩) NB313_317.out _).trans (((cell_far (p := ⟨gb317, _, none⟩) NB313_317.out _).trans (hHeld.2))))⟩ (fun hHeld => ?_)
      clear hK K
      refine kP 12 8 13 8191 HT_.out ?_
      refine done_ (done_of HT_.out (by kernel_rfl)) ?_
      try go_wp2
      go_roundg k1
      case measure => have := HK1.out; omega
      case rel => exact ⟨(wrap64 (x6_1 - 1)), (t325), (t326), (x314000_1), (x314001_1), (.slice Ao46 x314000_1.length co46), (.slice Ao51 x314001_1.length co51), (by first | rfl | (simp; done) | (simp [*]; done)), H', ⟨by have := HK1.out; omega⟩, ⟨by (with_reducible repeat (first | apply Kd.V_alloc | apply Kd.V_drewN | apply Kd.V_drew)); exact Kd.V_mono (Kd.V_far (p := ⟨gb317, 1, none⟩) (Kd.V_far (p := ⟨gb317, 0, none⟩) (Kd.V_mono HO_314000.out (fun k_ hk => (⟨hk, hk.1.2⟩ : _ ∧ k_ ≠ gb317))) (fun _ hk => hk.2) (.slice Ao57 t327.length co57)) (fun _ hk => hk.2) (.slice Ao59 t330.length co59)) (fun _ hk => ⟨hk.1.1.1.1, ⟨hk.1.1.1.2.1, ⟨hk.1.1.1.2.2.1, ⟨hk.1.1.1.2.2.2.1, hk.1.1.1.2.2.2.2⟩⟩⟩⟩)⟩, ⟨by (with_reducible repeat (first | apply Kd.R_alloc | apply Kd.R_drewN | apply Kd.R_drew)); exact Kd.R_mono (Kd.R_far (p := ⟨gb317, 1, none⟩) (Kd.R_far (p := ⟨gb317, 0, none⟩) (Kd.R_types HO_314001.out BK317.out (by decide)) (fun _ hk => hk.2) (.slice Ao57 t327.length co57)) (fun _ hk => hk.2) (.slice Ao59 t330.length co59)) (fun _ hk => hk.1.1)⟩, ⟨by (with_reducible repeat first | apply k1 | apply k2 | apply k3); refine blk_far ?_ NB306_317.out _; (with_reducible repeat first | apply k1 | apply k2 | apply k3); refine blk_far ?_ NB306_317.out _; (with_reducible repeat first | apply k1 | apply k2 | apply k3); exact BK306.out⟩, ⟨by (with_reducible repeat first | apply k1 | apply k2 | apply k3); refine blk_far ?_ NB313_317.out _; (with_reducible repeat first | apply k1 | apply k2 | apply k3); refine blk_far ?_ NB313_317.out _; (with_reducible repeat first | apply k1 | apply k2 | apply k3); exact BK313.out⟩, ⟨by repeat (first | (with_reducible first | exact HI0.out | apply IsS65.alloc | apply IsS65.drewN | apply IsS65.drew | apply IsS65.set_1 | apply IsS65.set_2 | apply IsS65.farB NB0_306.out | apply IsS65.farB NB0_313.out | apply IsS65.farB NB0_317.out) | exact HI0.out)⟩, ⟨by repeat (first | (with_reducible first | exact HK.out | apply KeepBut.set_ | apply keep_drewN | apply keep_drew | apply keep_alloc | refine keep_far ?_ GW306.out _ | refine keep_far ?_ GW313.out _ | refine keep_far ?_ GW317.out _) | exact HK.out)⟩, ⟨by repeat (first | (with_reducible first | exact HB.out | apply below_alloc | apply pw_below_drewN | apply below_drew1 | refine below_set ?_ (IsS65.ge HI0.out) | refine below_set ?_ GE306.out | refine below_set ?_ GE313.out | refine below_set ?_ GE317.out) | exact HB.out)⟩⟩
    ·rw [if_neg c16] at H
     have c16b0 : (t318 == 0) = false := beq_eq_false_iff_ne.mpr c16
     have c16b1 : (t318 != 0) = true := bne_iff_ne.mpr c16
     by_cases c61 : t318 = 1
     ·rw [if_pos c61] at H
      have c61b0 : (t318 == 1) = true := beq_iff_eq.mpr c61
      have c61b1 : (t318 != 1) = false := bne_eq_false_iff_eq.mpr c61
      clear c61
      replace H := Option.bind_eq_some_iff.mp H
      obtain ⟨⟨t334, t335, t336⟩, A620, H⟩ := H
      replace H : ((spec_l01Below.f s0_0 t335 t336 20).bind fun bt337 => ((spec_Spend.f k1 x314000_1 x314001_1 t334 (wrap64 (1 + bt337.1))).bind fun bt340 => (if bt340.2.2 = true then (spec_l06Draw.l0 k1 a1 (wrap64 (x6_1 - 1)) s0_0 bt337.2.1 bt337.2.2 bt340.1 bt340.2.1) else (spec_l06Draw.l0 k1 a1 (wrap64 (x6_1 - 1)) s0_0 bt337.2.1 bt337.2.2 x314000_1 x314001_1)))) = some (r1, r2, r3, r4) := H
      have A62 := Aside0.mk A620
      clear A620
      replace H := Option.bind_eq_some_iff.mp H
      obtain ⟨⟨t337, t338, t339⟩, A630, H⟩ := H
      replace H : ((spec_Spend.f k1 x314000_1 x314001_1 t334 (wrap64 (1 + t337))).bind fun bt340 => (if bt340.2.2 = true then (spec_l06Draw.l0 k1 a1 (wrap64 (x6_1 - 1)) s0_0 t338 t339 bt340.1 bt340.2.1) else (spec_l06Draw.l0 k1 a1 (wrap64 (x6_1 - 1)) s0_0 t338 t339 x314000_1 x314001_1))) = some (r1, r2, r3, r4) := H
      have A63 := Aside0.mk A630
      clear A630
      replace H := Option.bind_eq_some_iff.mp H
      obtain ⟨⟨t340, t343, t346⟩, A640, H⟩ := H
      replace H : (if t346 = true then (spec_l06Draw.l0 k1 a1 (wrap64 (x6_1 - 1)) s0_0 t338 t339 t340 t343) else (spec_l06Draw.l0 k1 a1 (wrap64 (x6_1 - 1)) s0_0 t338 t339 x314000_1 x314001_1)) = some (r1, r2, r3, r4) := H
      have A64 := Aside0.mk A640
      clear A640
      by_cases c65 : t346 = true
      ·subst c65
       have H1 : (spec_l06Draw.l0 k1 a1 (wrap64 (x6_1 - 1)) s0_0 t338 t339 t340 t343) = some (r1, r2, r3, r4) := by rw [if_pos rfl] at H; exact H
       clear H
       have H := H1
       clear H1
       have H' := Aside0.mk H
       clear H
       have hnb66 := NB313_306.out
       have hnc66 := NB306_313.out
       have hnb67 := NB313_0.out
       have hnc67 := NB0_313.out
       have hcz68_0 : wr.cell? ⟨gb313, 0, none⟩ = some (u314000) := kx BK313.out
       have hcz68_1 : wr.cell? ⟨gb313, 1, none⟩ = some (u314001) := kx BK313.out
       have hfz68_0 := blk_frozen BK313.out 0
       have hfz68_1 := blk_frozen BK313.out 1
       try go_wp2_with (first | ((with_reducible refine gate_dst (N := 7) rfl ?_); refine kE (N := 7) (cs := #[.slice none 0 0, .slice none 0 0]) (t := 28) ?_; intro gb317 hg w69 hbox hb; have n0_ := k0 (Kd.V_below (Kd.V_elderB (kV HO_314000.out) gb317 (Nat.le_of_eq hg.symm)) hb); have n1_ := k0 (Kd.R_below (kR HO_314001.out) hb); have n2_ := k0 (kb BK306.out hb); have n3_ := k0 (kb BK313.out hb); have n4_ := k0 (IsS65.below (by repeat (first | (with_reducible first | exact HI0.out | apply IsS65.alloc | apply IsS65.drewN | apply IsS65.drew | apply IsS65.set_1 | apply IsS65.set_2 | apply IsS65.farB NB0_306.out | apply IsS65.farB NB0_313.out) | exact HI0.out)) hb); have n5_ := k0 (KeepBut.trans (by repeat (first | (with_reducible first | exact HK.out | apply KeepBut.set_ | apply keep_drewN | apply keep_drew | apply keep_alloc | refine keep_far ?_ GW306.out _ | refine keep_far ?_ GW313.out _) | exact HK.out)) (KeepBut.of_below hb g none) (.inl rfl)); have n6_ := k0 (below_step (by repeat (first | (with_reducible first | exact HB.out | apply below_alloc | apply pw_below_drewN | apply below_drew1 | refine below_set ?_ (IsS65.ge HI0.out) | refine below_set ?_ GE306.out | refine below_set ?_ GE313.out) | exact HB.out)) hb); have n7_ := k0 (hbox); have n8_ := k0 ((by rw [hg]; exact (keep_size (w := w) (g := g) (row := none) (by repeat (first | (with_reducible first | exact HK.out | apply KeepBut.set_ | apply keep_drewN | apply keep_drew | apply keep_alloc | refine keep_far ?_ GW306.out _ | refine keep_far ?_ GW313.out _) | exact HK.out))) : w.heap.size ≤ gb317)); have n9_ := k0 ((Nat.le_trans HW0.out (by rw [hg]; exact (keep_size (w := w) (g := g) (row := none) (by repeat (first | (with_reducible first | exact HK.out | apply KeepBut.set_ | apply keep_drewN | apply keep_drew | apply keep_alloc | refine keep_far ?_ GW306.out _ | refine keep_far ?_ GW313.out _) | exact HK.out))) : w.heap.size ≤ gb317) : w0.heap.size ≤ gb317)); have n10_ := k0 ((by rw [hg]; exact Nat.ne_of_lt (blk_lt (g := gb306) (o := .cells #[.slice none 0 0, .slice none 0 0] 28 (0, 0)) (kB BK306.out)) : gb306 ≠ gb317)); have n11_ := k0 ((by rw [hg]; exact Nat.ne_of_gt (blk_lt (g := gb306) (o := .cells #[.slice none 0 0, .slice none 0 0] 28 (0, 0)) (kB BK306.out)) : gb317 ≠ gb306)); have n12_ := k0 ((by rw [hg]; exact Nat.ne_of_lt (blk_lt (g := gb313) (o := .cells #[u314000, u314001] 28 (0, 0)) (kB BK313.out)) : gb313 ≠ gb317)); have n13_ := k0 ((by rw [hg]; exact Nat.ne_of_gt (blk_lt (g := gb313) (o := .cells #[u314000, u314001] 28 (0, 0)) (kB BK313.out)) : gb317 ≠ gb313)); have n14_ := k0 ((by rw [hg]; exact Nat.ne_of_lt (IsS65.lt (show IsS65 w0 _ g s0_0 x1001_1 x1002_1 from by repeat (first | (with_reducible first | exact HI0.out | apply IsS65.alloc | apply IsS65.drewN | apply IsS65.drew | apply IsS65.set_1 | apply IsS65.set_2 | apply IsS65.farB NB0_306.out | apply IsS65.farB NB0_313.out) | exact HI0.out))) : g ≠ gb317)); have n15_ := k0 ((by rw [hg]; exact Nat.ne_of_gt (IsS65.lt (show IsS65 w0 _ g s0_0 x1001_1 x1002_1 from by repeat (first | (with_reducible first | exact HI0.out | apply IsS65.alloc | apply IsS65.drewN | apply IsS65.drew | apply IsS65.set_1 | apply IsS65.set_2 | apply IsS65.farB NB0_306.out | apply IsS65.farB NB0_313.out) | exact HI0.out))) : gb317 ≠ g)); clear HO_314000; clear HO_314001; clear BK306; clear BK313; clear HI0; clear HK; clear HB; have HO_314000 := n0_; have HO_314001 := n1_; have BK306 := n2_; have BK313 := n3_; have HI0 := n4_; have HK := n5_; have HB := n6_; have BK317 := n7_; have GW317 := n8_; have GE317 := n9_; have NB306_317 := n10_; have NB317_306 := n11_; have NB313_317 := n12_; have NB317_313 := n13_; have NB0_317 := n14_; have NB317_0 := n15_; clear n0_ n1_ n2_ n3_ n4_ n5_ n6_ n7_ n8_ n9_ n10_ n11_ n12_ n13_ n14_ n15_; clear hb hbox hg; obtain ⟨Ao70, co70, eo70⟩ := Kd.V_slice HO_314000.out; subst eo70; have hnb71 := NB317_306.out; have hnc71 := NB306_317.out; have hnb72 := NB317_313.out; have hnc72 := NB313_317.out; have hnb73 := NB317_0.out; have hnc73 := NB0_317.out; have hcz74_0 : w69.cell? ⟨gb317, 0, none⟩ = some (.slice none 0 0) := kx BK317.out; have hcz74_1 : w69.cell? ⟨gb317, 1, none⟩ = some (.slice none 0 0) := kx BK317.out; have hfz74_0 := blk_frozen BK317.out 0; have hfz74_1 := blk_frozen BK317.out 1; obtain ⟨Ao75, co75, eo75⟩ := Kd.R_slice HO_314001.out; subst eo75) | ((with_reducible refine gate_callee (f := 64) rfl ?_); refine kG (some 19) Try.func64 #[.pointer (some ⟨g, 0, none⟩), .int .i64 3] ?_; (with_reducible refine (spec_l01Below.calls g s0_0 x1001_1 x1002_1 3 t318 t319 t320 w0 _ ?side1 ?side2 A15.out).mono ?_); (case side1 => repeat (first | (with_reducible first | exact HI0.out | apply IsS65.alloc | apply IsS65.drewN | apply IsS65.drew | apply IsS65.set_1 | apply IsS65.set_2 | apply IsS65.farB NB0_306.out | apply IsS65.farB NB0_313.out | apply IsS65.farB NB0_317.out) | exact HI0.out)); (case side2 => repeat (first | (with_reducible first | exact HB.out | apply below_alloc | apply pw_below_drewN | apply below_drew1 | refine below_set ?_ (IsS65.ge HI0.out) | refine below_set ?_ GE306.out | refine below_set ?_ GE313.out | refine below_set ?_ GE317.out) | exact HB.out)); rintro e w76 ⟨rfl, hi, hb, hk⟩; refine ⟨_, rfl, ?_⟩; have n0_ := k0 (Kd.V_mono (Kd.V_keep (Kd.V_mono (ok := fun k_ => ((((w.heap.size ≤ k_)) ∧ (some k_ ≠ (.slice Ao75 x314001_1.length co75 : Value).ownBlock ∧ (k_ ≠ gb306 ∧ (k_ ≠ gb313 ∧ k_ ≠ g)))) ∧ k_ ≠ gb317)) (by (with_reducible repeat (first | apply Kd.V_alloc | apply Kd.V_drewN | apply Kd.V_drew)); exact (Kd.V_mono (Kd.V_far (p := ⟨gb317, 1, none⟩) (Kd.V_far (p := ⟨gb317, 0, none⟩) (Kd.V_mono HO_314000.out (fun k_ hk => (⟨hk, hk.2⟩ : _ ∧ k_ ≠ gb317))) (fun _ hk => hk.2) (.slice Ao70 x314000_1.length co70)) (fun _ hk => hk.2) (.slice Ao75 x314001_1.length co75)) (fun _ h_ => h_.1))) (fun k_ hk_ => (⟨hk_, hk_.1.2.2.2.2⟩ : _ ∧ k_ ≠ g))) hk (fun _ h => h.2)) (fun _ h => h.1)); have n1_ := k0 (Kd.R_mono (Kd.R_keep (IsS65.apart (show IsS65 w0 _ g s0_0 x1001_1 x1002_1 from by repeat (first | (with_reducible first | exact HI0.out | apply IsS65.alloc | apply IsS65.drewN | apply IsS65.drew | apply IsS65.set_1 | apply IsS65.set_2 | apply IsS65.farB NB0_306.out | apply IsS65.farB NB0_313.out | apply IsS65.farB NB0_317.out) | exact HI0.out)) (by (with_reducible repeat (first | apply Kd.R_alloc | apply Kd.R_drewN | apply Kd.R_drew)); exact (Kd.R_mono (Kd.R_far (p := ⟨gb317, 1, none⟩) (Kd.R_far (p := ⟨gb317, 0, none⟩) (Kd.R_types HO_314001.out BK317.out (by decide)) (fun _ hk => hk.2) (.slice Ao70 x314000_1.length co70)) (fun _ hk => hk.2) (.slice Ao75 x314001_1.length co75)) (fun _ h_ => h_.1))) (by decide)) hk (fun _ h => h.2)) (fun _ h => h.1)); have n2_ := k0 (KeepBut.blk hk (g' := gb306) (o := .cells #[.slice none 0 0, .slice none 0 0] 28 (0, 0)) (by (with_reducible repeat first | apply k1 | apply k2 | apply k3); refine blk_far ?_ NB306_317.out _; (with_reducible repeat first | apply k1 | apply k2 | apply k3); refine blk_far ?_ NB306_317.out _; (with_reducible repeat first | apply k1 | apply k2 | apply k3); exact BK306.out) NB306_0.out (by simp)); have n3_ := k0 (KeepBut.blk hk (g' := gb313) (o := .cells #[.slice Ao70 x314000_1.length co70, .slice Ao75 x314001_1.length co75] 28 (0, 0)) (by (with_reducible repeat first | apply k1 | apply k2 | apply k3); refine blk_far ?_ NB313_317.out _; (with_reducible repeat first | apply k1 | apply k2 | apply k3); refine blk_far ?_ NB313_317.out _; (with_reducible repeat first | apply k1 | apply k2 | apply k3); exact BK313.out) NB313_0.out (by simp)); have n4_ := k0 (KeepBut.blk hk (g' := gb317) (o := .cells #[.slice Ao70 x314000_1.length co70, .slice Ao75 x314001_1.length co75] 28 (0, 0)) (by (with_reducible repeat first | apply k1 | apply k2 | apply k3); refine blk_put (cs := #[.slice Ao70 x314000_1.length co70, .slice none 0 0]) ?_ 1 _ rfl; (with_reducible repeat first | apply k1 | apply k2 | apply k3); refine blk_put (cs := #[.slice none 0 0, .slice none 0 0]) ?_ 0 _ rfl; (with_reducible repeat first | apply k1 | apply k2 | apply k3); exact BK317.out) NB317_0.out (by simp)); have n5_ := k0 (KeepBut.trans (by repeat (first | (with_reducible first | exact HK.out | apply KeepBut.set_ | apply keep_drewN | apply keep_drew | apply keep_alloc | refine keep_far ?_ GW306.out _ | refine keep_far ?_ GW313.out _ | refine keep_far ?_ GW317.out _) | exact HK.out)) hk (.inl rfl)); have n6_ := k0 (hb); have n7_ := k0 (hi); clear HO_314000; clear HO_314001; clear BK306; clear BK313; clear BK317; clear HK; clear HB; clear HI0; have HO_314000 := n0_; have HO_314001 := n1_; have BK306 := n2_; have BK313 := n3_; have BK317 := n4_; have HK := n5_; have HB := n6_; have HI0 := n7_; clear n0_ n1_ n2_ n3_ n4_ n5_ n6_ n7_; (try clear hb); (try clear hb2); (try clear hk); (try clear hi)))
       have n0_ := k0 (Kd.V_drew HO_314000.out)
       have n1_ := k0 (Kd.R_drew HO_314001.out)
       have n2_ := k0 (blk_drew BK306.out)
       have n3_ := k0 (blk_drew BK313.out)
       have n4_ := k0 (blk_drew BK317.out)
       have n5_ := k0 (IsS65.drew HI0.out)
       have n6_ := k0 (keep_drew HK.out)
       have n7_ := k0 (below_drew1 HB.out)
       clear HO_314000 HO_314001 BK306 BK313 BK317 HI0 HK HB
       have HO_314000 := n0_
       have HO_314001 := n1_
       have BK306 := n2_
       have BK313 := n3_
       have BK317 := n4_
       have HI0 := n5_
       have HK := n6_
       have HB := n7_
       clear n0_ n1_ n2_ n3_ n4_ n5_ n6_ n7_
       refine start_ (n := 13) (S := fun w' => w'.cell? ⟨gb313, 0, none⟩ = some (.slice Ao70 x314000_1.length co70) ∧ w'.cell? ⟨gb313, 1, none⟩ = some (.slice Ao75 x314001_1.length co75)) (ds := []) #[false, false, false, false, false, false, false, false, false, false, false, false, false] (by kernel_rfl) rfl rfl ⟨(blk_cell BK313.out 0).trans rfl, (blk_cell BK313.out 1).trans rfl⟩ (fun hHeld => ?_); refine with_tabW spec_l06Draw.tab12 spec_l06Draw.bits12 (fun HT_ HW_ => ?_)
       generalize w76.drew = w77 at HO_314000 HO_314001 BK306 BK313 BK317 HI0 HK HB hHeld ⊢
       refine kP 1 51 13 2 HT_.out ?_
       refine kP 2 52 13 6 HT_.out ?_
       refine kP 4 54 13 22 HT_.out ?_
       refine take_ (i := 0) (N := some 50) (v := ?_) (a' := ?_) (bt 13 23) rfl rfl (take_ofW HT_.out HW_.out (by kernel_rfl)) (fun _ _ _ h => h) (Or.inl ⟨by rfl, ?_⟩) hHeld ?_ ?_
       rotate_left
       ·rintro w' ⟨s0, s1⟩
        go_simp
        with_reducible rfl
       rotate_left
       ·simp only [Act.put, List.setIfInBounds_toArray, List.set_cons_zero, List.set_cons_succ, i64_w, i32_w]
        rfl
       refine one_ (i := 3) (N := some 53) (bt 13 31) rfl rfl (one_of HT_.out (by kernel_rfl)) (by decide) (fun K hK => ?_)
       refine goes_ Try.func64 (by kernel_rfl) rfl #[.pointer (some ⟨g, 0, none⟩), .int .i64 a1] (by rfl) rfl rfl (by (try simp only [List.map_toArray, List.map_cons, List.map_nil]); first | done | rfl | (simp only [List.length_drop, List.length_take]; rfl)) ?_
       with_reducible refine (spec_l01Below.calls g s0_0 t319 t320 a1 t334 t335 t336 w0 _ ?side1 ?side2 A62.out).mono ?_
       (case side1 => repeat (first | (with_reducible first | exact HI0.out | apply IsS65.alloc | apply IsS65.drewN | apply IsS65.drew | apply IsS65.set_1 | apply IsS65.set_2 | apply IsS65.farB NB0_306.out | apply IsS65.farB NB0_313.out | apply IsS65.farB NB0_317.out) | exact HI0.out))
       (case side2 => repeat (first | (with_reducible first | exact HB.out | apply below_alloc | apply pw_below_drewN | apply below_drew1 | refine below_set ?_ (IsS65.ge HI0.out) | refine below_set ?_ GE306.out | refine below_set ?_ GE313.out | refine below_set ?_ GE317.out) | exact HB.out))
       rintro e w78 ⟨rfl, hi, hb, hk⟩
       refine ⟨_, rfl, ?_⟩
       have n0_ := k0 (Kd.V_mono (Kd.V_keep (Kd.V_mono (ok := fun k_ => ((((w.heap.size ≤ k_)) ∧ (some k_ ≠ (.slice Ao75 x314001_1.length co75 : Value).ownBlock ∧ (k_ ≠ gb306 ∧ (k_ ≠ gb313 ∧ k_ ≠ g)))) ∧ k_ ≠ gb317)) (kV HO_314000.out) (fun k_ hk_ => (⟨hk_, hk_.1.2.2.2.2⟩ : _ ∧ k_ ≠ g))) hk (fun _ h => h.2)) (fun _ h => h.1))
       have n1_ := k0 (Kd.R_mono (Kd.R_keep (IsS65.apart (show IsS65 w0 _ g s0_0 t319 t320 from by repeat (first | (with_reducible first | exact HI0.out | apply IsS65.alloc | apply IsS65.drewN | apply IsS65.drew | apply IsS65.set_1 | apply IsS65.set_2 | apply IsS65.farB NB0_306.out | apply IsS65.farB NB0_313.out | apply IsS65.farB NB0_317.out) | exact HI0.out)) (kR HO_314001.out) (by decide)) hk (fun _ h => h.2)) (fun _ h => h.1))
       have n2_ := k0 (KeepBut.blk hk (g' := gb306) (o := .cells #[.slice none 0 0, .slice none 0 0] 28 (0, 0)) (kB BK306.out) NB306_0.out (by simp))
       have n3_ := k0 (KeepBut.blk hk (g' := gb313) (o := .cells #[.slice Ao70 x314000_1.length co70, .slice Ao75 x314001_1.length co75] 28 (0, 0)) (kB BK313.out) NB313_0.out (by simp))
       have n4_ := k0 (KeepBut.blk hk (g' := gb317) (o := .cells #[.slice Ao70 x314000_1.length co70, .slice Ao75 x314001_1.length co75] 28 (0, 0)) (kB BK317.out) NB317_0.out (by simp))
       have n5_ := k0 (KeepBut.trans (by repeat (first | (with_reducible first | exact HK.out | apply KeepBut.set_ | apply keep_drewN | apply keep_drew | apply keep_alloc | refine keep_far ?_ GW306.out _ | refine keep_far ?_ GW313.out _ | refine keep_far ?_ GW317.out _) | exact HK.out)) hk (.inl rfl))
       have n6_ := k0 (hb)
       have n7_ := k0 (hi)
       clear HO_314000 HO_314001 BK306 BK313 BK317 HK HB HI0
       have HO_314000 := n0_
       have HO_314001 := n1_
       have BK306 := n2_
       have BK313 := n3_
       have BK317 := n4_
       have HK := n5_
       have HB := n6_
       have HI0 := n7_
       clear n0_ n1_ n2_ n3_ n4_ n5_ n6_ n7_
       (try clear hb)
       (try clear hb2)
       (try clear hk)
       (try clear hi)
       refine hK.out _ _ ⟨(blk_cell BK313.out 0).trans rfl, (blk_cell BK313.out 1).trans rfl⟩ (fun hHeld => ?_)
       clear hK K
       refine norm_ (a' := ?_) ?_ ?_
       rotate_left
       ·show Act.put _ (some 53) _ = _
        simp only [Act.put, List.setIfInBounds_toArray, List.set_cons_zero, List.set_cons_succ, i64_w, i32_w]
        rfl
       refine one_ (i := 5) (N := some 55) (bt 13 63) rfl rfl (one_of HT_.out (by kernel_rfl)) (by decide) (fun K hK => ?_)
       refine goes_ Try.func64 (by kernel_rfl) rfl #[.pointer (some ⟨g, 0, none⟩), .int .i64 20] (by rfl) rfl rfl (by (try simp only [List.map_toArray, List.map_cons, List.map_nil]); first | done | rfl | (simp only [List.length_drop, List.length_take]; rfl)) ?_
       with_reducible refine (spec_l01Below.calls g s0_0 t335 t336 20 t337 t338 t339 w0 _ ?side1 ?side2 A63.out).mono ?_
       (case side1 => repeat (first | (with_reducible first | exact HI0.out | apply IsS65.alloc | apply IsS65.drewN | apply IsS65.drew | apply IsS65.set_1 | apply IsS65.set_2 | apply IsS65.farB NB0_306.out | apply IsS65.farB NB0_313.out | apply IsS65.farB NB0_317.out) | exact HI0.out))
       (case side2 => repeat (first | (with_reducible first | exact HB.out | apply below_alloc | apply pw_below_drewN | apply below_drew1 | refine below_set ?_ (IsS65.ge HI0.out) | refine below_set ?_ GE306.out | refine below_set ?_ GE313.out | refine below_set ?_ GE317.out) | exact HB.out))
       rintro e w79 ⟨rfl, hi, hb, hk⟩
       refine ⟨_, rfl, ?_⟩
       have n0_ := k0 (Kd.V_mono (Kd.V_keep (Kd.V_mono (ok := fun k_ => ((((w.heap.size ≤ k_)) ∧ (some k_ ≠ (.slice Ao75 x314001_1.length co75 : Value).ownBlock ∧ (k_ ≠ gb306 ∧ (k_ ≠ gb313 ∧ k_ ≠ g)))) ∧ k_ ≠ gb317)) (kV HO_314000.out) (fun k_ hk_ => (⟨hk_, hk_.1.2.2.2.2⟩ : _ ∧ k_ ≠ g))) hk (fun _ h => h.2)) (fun _ h => h.1))
       have n1_ := k0 (Kd.R_mono (Kd.R_keep (IsS65.apart (show IsS65 w0 _ g s0_0 t335 t336 from by repeat (first | (with_reducible first | exact HI0.out | apply IsS65.alloc | apply IsS65.drewN | apply IsS65.drew | apply IsS65.set_1 | apply IsS65.set_2 | apply IsS65.farB NB0_306.out | apply IsS65.farB NB0_313.out | apply IsS65.farB NB0_317.out) | exact HI0.out)) (kR HO_314001.out) (by decide)) hk (fun _ h => h.2)) (fun _ h => h.1))
       have n2_ := k0 (KeepBut.blk hk (g' := gb306) (o := .cells #[.slice none 0 0, .slice none 0 0] 28 (0, 0)) (kB BK306.out) NB306_0.out (by simp))
       have n3_ := k0 (KeepBut.blk hk (g' := gb313) (o := .cells #[.slice Ao70 x314000_1.length co70, .slice Ao75 x314001_1.length co75] 28 (0, 0)) (kB BK313.out) NB313_0.out (by simp))
       have n4_ := k0 (KeepBut.blk hk (g' := gb317) (o := .cells #[.slice Ao70 x314000_1.length co70, .slice Ao75 x314001_1.length co75] 28 (0, 0)) (kB BK317.out) NB317_0.out (by simp))
       have n5_ := k0 (KeepBut.trans (by repeat (first | (with_reducible first | exact HK.out | apply KeepBut.set_ | apply keep_drewN | apply keep_drew | apply keep_alloc | refine keep_far ?_ GW306.out _ | refine keep_far ?_ GW313.out _ | refine keep_far ?_ GW317.out _) | exact HK.out)) hk (.inl rfl))
       have n6_ := k0 (hb)
       have n7_ := k0 (hi)
       clear HO_314000 HO_314001 BK306 BK313 BK317 HK HB HI0
       have HO_314000 := n0_
       have HO_314001 := n1_
       have BK306 := n2_
       have BK313 := n3_
       have BK317 := n4_
       have HK := n5_
       have HB := n6_
       have HI0 := n7_
       clear n0_ n1_ n2_ n3_ n4_ n5_ n6_ n7_
       (try clear hb)
       (try clear hb2)
       (try clear hk)
       (try clear hi)
       refine hK.out _ _ ⟨(blk_cell BK313.out 0).trans rfl, (blk_cell BK313.out 1).trans rfl⟩ (fun hHeld => ?_)
       clear hK K
       refine norm_ (a' := ?_) ?_ ?_
       rotate_left
       ·show Act.put _ (some 55) _ = _
        simp only [Act.put, List.setIfInBounds_toArray, List.set_cons_zero, List.set_cons_succ, i64_w, i32_w]
        rfl
       refine kP 6 56 13 127 HT_.out ?_
       refine one_ (i := 7) (N := some 57) (bt 13 255) rfl rfl (one_of HT_.out (by kernel_rfl)) (by decide) (fun K hK => ?_)
       refine goes_ Try.func30 (by kernel_rfl) rfl #[.agg #[.slice Ao70 x314000_1.length co70, .slice Ao75 x314001_1.length co75], .int .i64 t334, .int .i64 (wrap64 (1 + t337))] (by rfl) rfl rfl (by (try simp only [List.map_toArray, List.map_cons, List.map_nil]); first | done | rfl | (simp only [List.length_drop, List.length_take]; rfl)) ?_
       with_reducible refine (spec_Spend.calls k1 _ _ x314000_1 _ _ x314001_1 t334 (wrap64 (1 + t337)) t340 t343 true _ ?side1 ?side2 ?side3 ?side4 A64.out).mono ?_
       (case side1 => exact kC (Kd.V_reads' HO_314000.out).2.2)
       (case side2 => exact (Kd.V_reads' HO_314000.out).2.1)
       (case side3 => exact kC (Kd.R_reads' HO_314001.out).2.2)
       (case side4 => exact (Kd.R_reads' HO_314001.out).2.1)
       rintro e w80 ⟨v341, v344, rfl, ho0, ho1, hb⟩
       refine ⟨_, rfl, ?_⟩
       have n0_ := k0 (Kd.V_elder' (kV HO_314000.out) (Kd.R_base ho1) hb)
       have n1_ := k0 (Kd.R_elder' (kR HO_314001.out) (Kd.R_base ho1) hb)
       have n2_ := k0 (Kd.V_lower (Kd.V_mono (ok' := fun k_ => (w.heap.size ≤ k_) ∧ some k_ ≠ (v344 : Value).ownBlock ∧ some k_ ≠ (.slice Ao75 x314001_1.length co75 : Value).ownBlock ∧ k_ ≠ gb306 ∧ k_ ≠ gb313 ∧ k_ ≠ gb317 ∧ k_ ≠ g) ho0 (fun k_ hk_ => ⟨(Nat.le_trans (keep_size (w := w) (g := g) (row := none) (by repeat (first | (with_reducible first | exact HK.out | apply KeepBut.set_ | apply keep_drewN | apply keep_drew | apply keep_alloc | refine keep_far ?_ GW306.out _ | refine keep_far ?_ GW313.out _ | refine keep_far ?_ GW317.out _) | exact HK.out))) hk_.1), hk_.2, (Kd.fresh' (Kd.R_lt (kR HO_314001.out)) k_ hk_.1), (Kd.freshB (g := gb306) (o := .cells #[.slice none 0 0, .slice none 0 0] 28 (0, 0)) (kB BK306.out) k_ hk_.1), (Kd.freshB (g := gb313) (o := .cells #[.slice Ao70 x314000_1.length co70, .slice Ao75 x314001_1.length co75] 28 (0, 0)) (kB BK313.out) k_ hk_.1), (Kd.freshB (g := gb317) (o := .cells #[.slice Ao70 x314000_1.length co70, .slice Ao75 x314001_1.length co75] 28 (0, 0)) (kB BK317.out) k_ hk_.1), (IsS65.fresh (by repeat (first | (with_reducible first | exact HI0.out | apply IsS65.alloc | apply IsS65.drewN | apply IsS65.drew | apply IsS65.set_1 | apply IsS65.set_2 | apply IsS65.farB NB0_306.out | apply IsS65.farB NB0_313.out | apply IsS65.farB NB0_317.out) | exact HI0.out)) k_ hk_.1)⟩)) (keep_size (w := w) (g := g) (row := none) (by repeat (first | (with_reducible first | exact HK.out | apply KeepBut.set_ | apply keep_drewN | apply keep_drew | apply keep_alloc | refine keep_far ?_ GW306.out _ | refine keep_far ?_ GW313.out _ | refine keep_far ?_ GW317.out _) | exact HK.out))))
       have n3_ := k0 (Kd.R_lower (Kd.R_new' (Kd.R_newM (M := fun k_ => (w.heap.size ≤ k_)) (Kd.R_mono (ok' := fun k_ => True) ho1 (fun _ hk_ => trivial)) (keep_size (w := w) (g := g) (row := none) (by repeat (first | (with_reducible first | exact HK.out | apply KeepBut.set_ | apply keep_drewN | apply keep_drew | apply keep_alloc | refine keep_far ?_ GW306.out _ | refine keep_far ?_ GW313.out _ | refine keep_far ?_ GW317.out _) | exact HK.out))) (fun k_ h_ => h_)) (Kd.R_lt (kR HO_314001.out))) (keep_size (w := w) (g := g) (row := none) (by repeat (first | (with_reducible first | exact HK.out | apply KeepBut.set_ | apply keep_drewN | apply keep_drew | apply keep_alloc | refine keep_far ?_ GW306.out _ | refine keep_far ?_ GW313.out _ | refine keep_far ?_ GW317.out _) | exact HK.out))))
       have n4_ := k0 (kb BK306.out hb)
       have n5_ := k0 (kb BK313.out hb)
       have n6_ := k0 (IsS65.below (by repeat (first | (with_reducible first | exact HI0.out | apply IsS65.alloc | apply IsS65.drewN | apply IsS65.drew | apply IsS65.set_1 | apply IsS65.set_2 | apply IsS65.farB NB0_306.out | apply IsS65.farB NB0_313.out | apply IsS65.farB NB0_317.out) | exact HI0.out)) hb)
       have n7_ := k0 (kb BK317.out hb)
       have n8_ := k0 (KeepBut.trans (by repeat (first | (with_reducible first | exact HK.out | apply KeepBut.set_ | apply keep_drewN | apply keep_drew | apply keep_alloc | refine keep_far ?_ GW306.out _ | refine keep_far ?_ GW313.out _ | refine keep_far ?_ GW317.out _) | exact HK.out)) (KeepBut.of_below hb g none) (.inl rfl))
       have n9_ := k0 (below_step (by repeat (first | (with_reducible first | exact HB.out | apply below_alloc | apply pw_below_drewN | apply below_drew1 | refine below_set ?_ (IsS65.ge HI0.out) | refine below_set ?_ GE306.out | refine below_set ?_ GE313.out | refine below_set ?_ GE317.out) | exact HB.out)) hb)
       clear HO_314000 HO_314001 BK306 BK313 HI0 BK317 HK HB
       have HO_314000 := n0_
       have HO_314001 := n1_
       have HO342 := n2_
       have HO345 := n3_
       have BK306 := n4_
       have BK313 := n5_
       have HI0 := n6_
       have BK317 := n7_
       have HK := n8_
       have HB := n9_
       clear n0_ n1_ n2_ n3_ n4_ n5_ n6_ n7_ n8_ n9_
       (try clear hb)
       (try clear hb2)
       (try clear hk)
       (try clear hi)
       (try clear ho0)
       (try clear ho1)
       obtain ⟨Ao81, co81, eo81⟩ := Kd.V_slice HO342.out
       (first | subst eo81 | (injection eo81 with f1_ f2_ f3_; have f4_ := f1_.symm; have f5_ := f3_.symm; clear f1_ f2_ f3_; subst f4_; subst f5_))
       obtain ⟨Ao83, co83, eo83⟩ := Kd.R_slice HO345.out
       (first | subst eo83 | (injection eo83 with f1_ f2_ f3_; have f4_ := f1_.symm; have f5_ := f3_.symm; clear f1_ f2_ f3_; subst f4_; subst f5_))
       refine hK.out _ _ ⟨(blk_cell BK313.out 0).trans rfl, (blk_cell BK313.out 1).trans rfl⟩ (fun hHeld => ?_)
       clear hK K
       refine norm_ (a' := ?_) ?_ ?_
       rotate_left
       ·show Act.put _ (some 57) _ = _
        simp only [Act.put, List.setIfInBounds_toArray, List.set_cons_zero, List.set_cons_succ, i64_w, i32_w]
        rfl
       refine kP 8 49 13 511 HT_.out ?_
       refine kP 9 58 13 1023 HT_.out ?_
       refine kP 10 59 13 2047 HT_.out ?_
       refine one_ (i := 11) (N := none) (bt 13 4095) rfl rfl (one_of HT_.out (by kernel_rfl)) (by decide) (fun K hK => ?_)
       have hs82 : w80.cell? ⟨gb317, 0, none⟩ = some (.slice Ao70 x314000_1.length co70) := (blk_cell BK317.out 0).trans rfl
       have hfs82 := blk_frozen BK317.out 0
       have hns82_0 := NB306_317.out
       have hns82_1 := NB313_317.out
       have hms82_0 := NB317_306.out
       have hms82_1 := NB317_313.out
       have hs84 : w80.cell? ⟨gb317, 1, none⟩ = some (.slice Ao75 x314001_1.length co75) := (blk_cell BK317.out 1).trans rfl
       have hfs84 := blk_frozen BK317.out 1
       have hns84_0 := NB306_317.out
       have hns84_1 := NB313_317.out
       have hms84_0 := NB317_306.out
       have hms84_1 := NB317_313.out
       refine skip_ (w1 := ?_) (by rfl) rfl ?_ ?_
       rotate_left
       ·go_simp
        rfl
       refine hK.out _ _ ⟨((cell_far (p := ⟨gb317, _, none⟩) NB313_317.out _).trans (((cell_far (p := ⟨gb317, _, none⟩) NB313_317.out _).trans (hHeld.1)))), ((cell_far (p := ⟨gb317, _, none⟩) NB313_317.out _).trans (((cell_far (p := ⟨gb317, _, none⟩) NB313_317.out _).trans (hHeld.2))))⟩ (fun hHeld => ?_)
       clear hK K
       refine kP 12 8 13 8191 HT_.out ?_
       refine done_ (done_of HT_.out (by kernel_rfl)) ?_
       have hcz85_0 : w80.cell? ⟨gb317, 0, none⟩ = some (.slice Ao70 x314000_1.length co70) := kx BK317.out
       have hcz85_1 : w80.cell? ⟨gb317, 1, none⟩ = some (.slice Ao75 x314001_1.length co75) := kx BK317.out
       have hfz85_0 := blk_frozen BK317.out 0
       have hfz85_1 := blk_frozen BK317.out 1
       have hcz86_0 : w80.cell? ⟨gb313, 0, none⟩ = some (.slice Ao70 x314000_1.length co70) := kx BK313.out
       have hcz86_1 : w80.cell? ⟨gb313, 1, none⟩ = some (.slice Ao75 x314001_1.length co75) := kx BK313.out
       have hfz86_0 := blk_frozen BK313.out 0
       have hfz86_1 := blk_frozen BK313.out 1
       try go_wp2
       go_roundg k1
       case measure => have := HK1.out; omega
       case rel => exact ⟨(wrap64 (x6_1 - 1)), (t338), (t339), (t340), (t343), (.slice Ao81 t340.length co81), (.slice Ao83 t343.length co83), (by first | rfl | (simp; done) | (simp [*]; done)), H', ⟨by have := HK1.out; omega⟩, ⟨by (with_reducible repeat (first | apply Kd.V_alloc | apply Kd.V_drewN | apply Kd.V_drew)); exact Kd.V_mono (Kd.V_far (p := ⟨gb313, 1, none⟩) (Kd.V_far (p := ⟨gb313, 0, none⟩) (Kd.V_far (p := ⟨gb317, 1, none⟩) (Kd.V_far (p := ⟨gb317, 0, none⟩) (Kd.V_mono (Kd.V_mono HO342.out (fun k_ hk => (⟨hk, hk.2.2.2.2.2.1⟩ : _ ∧ k_ ≠ gb317))) (fun k_ hk => (⟨hk, hk.1.2.2.2.2.1⟩ : _ ∧ k_ ≠ gb313))) (fun _ hk => hk.1.2) (.slice Ao81 t340.length co81)) (fun _ hk => hk.1.2) (.slice Ao83 t343.length co83)) (fun _ hk => hk.2) (.slice Ao81 t340.length co81)) (fun _ hk => hk.2) (.slice Ao83 t343.length co83)) (fun _ hk => ⟨hk.1.1.1, ⟨hk.1.1.2.1, ⟨hk.1.1.2.2.2.1, ⟨hk.1.1.2.2.2.2.1, hk.1.1.2.2.2.2.2.2⟩⟩⟩⟩)⟩, ⟨by (with_reducible repeat (first | apply Kd.R_alloc | apply Kd.R_drewN | apply Kd.R_drew)); exact Kd.R_mono (Kd.R_far (p := ⟨gb313, 1, none⟩) (Kd.R_far (p := ⟨gb313, 0, none⟩) (Kd.R_far (p := ⟨gb317, 1, none⟩) (Kd.R_far (p := ⟨gb317, 0, none⟩) (Kd.R_types (Kd.R_types HO345.out BK317.out (by decide)) BK313.out (by decide)) (fun _ hk => hk.1.2) (.slice Ao81 t340.length co81)) (fun _ hk => hk.1.2) (.slice Ao83 t343.length co83)) (fun _ hk => hk.2) (.slice Ao81 t340.length co81)) (fun _ hk => hk.2) (.slice Ao83 t343.length co83)) (fun _ hk => hk.1.1.1.1)⟩, ⟨by (with_reducible repeat first | apply k1 | apply k2 | apply k3); refine blk_far ?_ NB306_313.out _; (with_reducible repeat first | apply k1 | apply k2 | apply k3); refine blk_far ?_ NB306_313.out _; (with_reducible repeat first | apply k1 | apply k2 | apply k3); refine blk_far ?_ NB306_317.out _; (with_reducible repeat first | apply k1 | apply k2 | apply k3); refine blk_far ?_ NB306_317.out _; (with_reducible repeat first | apply k1 | apply k2 | apply k3); exact BK306.out⟩, ⟨by (with_reducible repeat first | apply k1 | apply k2 | apply k3); refine blk_put (cs := #[.slice Ao81 t340.length co81, .slice Ao75 x314001_1.length co75]) ?_ 1 _ rfl; (with_reducible repeat first | apply k1 | apply k2 | apply k3); refine blk_put (cs := #[.slice Ao70 x314000_1.length co70, .slice Ao75 x314001_1.length co75]) ?_ 0 _ rfl; (with_reducible repeat first | apply k1 | apply k2 | apply k3); refine blk_far ?_ NB313_317.out _; (with_reducible repeat first | apply k1 | apply k2 | apply k3); refine blk_far ?_ NB313_317.out _; (with_reducible repeat first | apply k1 | apply k2 | apply k3); exact BK313.out⟩, ⟨by repeat (first | (with_reducible first | exact HI0.out | apply IsS65.alloc | apply IsS65.drewN | apply IsS65.drew | apply IsS65.set_1 | apply IsS65.set_2 | apply IsS65.farB NB0_306.out | apply IsS65.farB NB0_313.out | apply IsS65.farB NB0_317.out) | exact HI0.out)⟩, ⟨by repeat (first | (with_reducible first | exact HK.out | apply KeepBut.set_ | apply keep_drewN | apply keep_drew | apply keep_alloc | refine keep_far ?_ GW306.out _ | refine keep_far ?_ GW313.out _ | refine keep_far ?_ GW317.out _) | exact HK.out)⟩, ⟨by repeat (first | (with_reducible first | exact HB.out | apply below_alloc | apply pw_below_drewN | apply below_drew1 | refine below_set ?_ (IsS65.ge HI0.out) | refine below_set ?_ GE306.out | refine below_set ?_ GE313.out | refine below_set ?_ GE317.out) | exact HB.out)⟩⟩
      ·replace c65 := Bool.eq_false_iff.mpr c65
       subst c65
       have H1 : (spec_l06Draw.l0 k1 a1 (wrap64 (x6_1 - 1)) s0_0 t338 t339 x314000_1 x314001_1) = some (r1, r2, r3, r4) := by rw [if_neg (show ¬ (false = true) by decide)] at H; exact H
       clear H
       have H := H1
       clear H1
       have H' := Aside0.mk H
       clear H
       have hnb87 := NB313_306.out
       have hnc87 := NB306_313.out
       have hnb88 := NB313_0.out
       have hnc88 := NB0_313.out
       have hcz89_0 : wr.cell? ⟨gb313, 0, none⟩ = some (u314000) := kx BK313.out
       have hcz89_1 : wr.cell? ⟨gb313, 1, none⟩ = some (u314001) := kx BK313.out
       have hfz89_0 := blk_frozen BK313.out 0
       have hfz89_1 := blk_frozen BK313.out 1
       try go_wp2_with (first | ((with_reducible refine gate_dst (N := 7) rfl ?_); refine kE (N := 7) (cs := #[.slice none 0 0, .slice none 0 0]) (t := 28) ?_; intro gb317 hg w90 hbox hb; have n0_ := k0 (Kd.V_below (Kd.V_elderB (kV HO_314000.out) gb317 (Nat.le_of_eq hg.symm)) hb); have n1_ := k0 (Kd.R_below (kR HO_314001.out) hb); have n2_ := k0 (kb BK306.out hb); have n3_ := k0 (kb BK313.out hb); have n4_ := k0 (IsS65.below (by repeat (first | (with_reducible first | exact HI0.out | apply IsS65.alloc | apply IsS65.drewN | apply IsS65.drew | apply IsS65.set_1 | apply IsS65.set_2 | apply IsS65.farB NB0_306.out | apply IsS65.farB NB0_313.out) | exact HI0.out)) hb); have n5_ := k0 (KeepBut.trans (by repeat (first | (with_reducible first | exact HK.out | apply KeepBut.set_ | apply keep_drewN | apply keep_drew | apply keep_alloc | refine keep_far ?_ GW306.out _ | refine keep_far ?_ GW313.out _) | exact HK.out)) (KeepBut.of_below hb g none) (.inl rfl)); have n6_ := k0 (below_step (by repeat (first | (with_reducible first | exact HB.out | apply below_alloc | apply pw_below_drewN | apply below_drew1 | refine below_set ?_ (IsS65.ge HI0.out) | refine below_set ?_ GE306.out | refine below_set ?_ GE313.out) | exact HB.out)) hb); have n7_ := k0 (hbox); have n8_ := k0 ((by rw [hg]; exact (keep_size (w := w) (g := g) (row := none) (by repeat (first | (with_reducible first | exact HK.out | apply KeepBut.set_ | apply keep_drewN | apply keep_drew | apply keep_alloc | refine keep_far ?_ GW306.out _ | refine keep_far ?_ GW313.out _) | exact HK.out))) : w.heap.size ≤ gb317)); have n9_ := k0 ((Nat.le_trans HW0.out (by rw [hg]; exact (keep_size (w := w) (g := g) (row := none) (by repeat (first | (with_reducible first | exact HK.out | apply KeepBut.set_ | apply keep_drewN | apply keep_drew | apply keep_alloc | refine keep_far ?_ GW306.out _ | refine keep_far ?_ GW313.out _) | exact HK.out))) : w.heap.size ≤ gb317) : w0.heap.size ≤ gb317)); have n10_ := k0 ((by rw [hg]; exact Nat.ne_of_lt (blk_lt (g := gb306) (o := .cells #[.slice none 0 0, .slice none 0 0] 28 (0, 0)) (kB BK306.out)) : gb306 ≠ gb317)); have n11_ := k0 ((by rw [hg]; exact Nat.ne_of_gt (blk_lt (g := gb306) (o := .cells #[.slice none 0 0, .slice none 0 0] 28 (0, 0)) (kB BK306.out)) : gb317 ≠ gb306)); have n12_ := k0 ((by rw [hg]; exact Nat.ne_of_lt (blk_lt (g := gb313) (o := .cells #[u314000, u314001] 28 (0, 0)) (kB BK313.out)) : gb313 ≠ gb317)); have n13_ := k0 ((by rw [hg]; exact Nat.ne_of_gt (blk_lt (g := gb313) (o := .cells #[u314000, u314001] 28 (0, 0)) (kB BK313.out)) : gb317 ≠ gb313)); have n14_ := k0 ((by rw [hg]; exact Nat.ne_of_lt (IsS65.lt (show IsS65 w0 _ g s0_0 x1001_1 x1002_1 from by repeat (first | (with_reducible first | exact HI0.out | apply IsS65.alloc | apply IsS65.drewN | apply IsS65.drew | apply IsS65.set_1 | apply IsS65.set_2 | apply IsS65.farB NB0_306.out | apply IsS65.farB NB0_313.out) | exact HI0.out))) : g ≠ gb317)); have n15_ := k0 ((by rw [hg]; exact Nat.ne_of_gt (IsS65.lt (show IsS65 w0 _ g s0_0 x1001_1 x1002_1 from by repeat (first | (with_reducible first | exact HI0.out | apply IsS65.alloc | apply IsS65.drewN | apply IsS65.drew | apply IsS65.set_1 | apply IsS65.set_2 | apply IsS65.farB NB0_306.out | apply IsS65.farB NB0_313.out) | exact HI0.out))) : gb317 ≠ g)); clear HO_314000; clear HO_314001; clear BK306; clear BK313; clear HI0; clear HK; clear HB; have HO_314000 := n0_; have HO_314001 := n1_; have BK306 := n2_; have BK313 := n3_; have HI0 := n4_; have HK := n5_; have HB := n6_; have BK317 := n7_; have GW317 := n8_; have GE317 := n9_; have NB306_317 := n10_; have NB317_306 := n11_; have NB313_317 := n12_; have NB317_313 := n13_; have NB0_317 := n14_; have NB317_0 := n15_; clear n0_ n1_ n2_ n3_ n4_ n5_ n6_ n7_ n8_ n9_ n10_ n11_ n12_ n13_ n14_ n15_; clear hb hbox hg; obtain ⟨Ao91, co91, eo91⟩ := Kd.V_slice HO_314000.out; subst eo91; have hnb92 := NB317_306.out; have hnc92 := NB306_317.out; have hnb93 := NB317_313.out; have hnc93 := NB313_317.out; have hnb94 := NB317_0.out; have hnc94 := NB0_317.out; have hcz95_0 : w90.cell? ⟨gb317, 0, none⟩ = some (.slice none 0 0) := kx BK317.out; have hcz95_1 : w90.cell? ⟨gb317, 1, none⟩ = some (.slice none 0 0) := kx BK317.out; have hfz95_0 := blk_frozen BK317.out 0; have hfz95_1 := blk_frozen BK317.out 1; obtain ⟨Ao96, co96, eo96⟩ := Kd.R_slice HO_314001.out; subst eo96) | ((with_reducible refine gate_callee (f := 64) rfl ?_); refine kG (some 19) Try.func64 #[.pointer (some ⟨g, 0, none⟩), .int .i64 3] ?_; (with_reducible refine (spec_l01Below.calls g s0_0 x1001_1 x1002_1 3 t318 t319 t320 w0 _ ?side1 ?side2 A15.out).mono ?_); (case side1 => repeat (first | (with_reducible first | exact HI0.out | apply IsS65.alloc | apply IsS65.drewN | apply IsS65.drew | apply IsS65.set_1 | apply IsS65.set_2 | apply IsS65.farB NB0_306.out | apply IsS65.farB NB0_313.out | apply IsS65.farB NB0_317.out) | exact HI0.out)); (case side2 => repeat (first | (with_reducible first | exact HB.out | apply below_alloc | apply pw_below_drewN | apply below_drew1 | refine below_set ?_ (IsS65.ge HI0.out) | refine below_set ?_ GE306.out | refine below_set ?_ GE313.out | refine below_set ?_ GE317.out) | exact HB.out)); rintro e w97 ⟨rfl, hi, hb, hk⟩; refine ⟨_, rfl, ?_⟩; have n0_ := k0 (Kd.V_mono (Kd.V_keep (Kd.V_mono (ok := fun k_ => ((((w.heap.size ≤ k_)) ∧ (some k_ ≠ (.slice Ao96 x314001_1.length co96 : Value).ownBlock ∧ (k_ ≠ gb306 ∧ (k_ ≠ gb313 ∧ k_ ≠ g)))) ∧ k_ ≠ gb317)) (by (with_reducible repeat (first | apply Kd.V_alloc | apply Kd.V_drewN | apply Kd.V_drew)); exact (Kd.V_mono (Kd.V_far (p := ⟨gb317, 1, none⟩) (Kd.V_far (p := ⟨gb317, 0, none⟩) (Kd.V_mono HO_314000.out (fun k_ hk => (⟨hk, hk.2⟩ : _ ∧ k_ ≠ gb317))) (fun _ hk => hk.2) (.slice Ao91 x314000_1.length co91)) (fun _ hk => hk.2) (.slice Ao96 x314001_1.length co96)) (fun _ h_ => h_.1))) (fun k_ hk_ => (⟨hk_, hk_.1.2.2.2.2⟩ : _ ∧ k_ ≠ g))) hk (fun _ h => h.2)) (fun _ h => h.1)); have n1_ := k0 (Kd.R_mono (Kd.R_keep (IsS65.apart (show IsS65 w0 _ g s0_0 x1001_1 x1002_1 from by repeat (first | (with_reducible first | exact HI0.out | apply IsS65.alloc | apply IsS65.drewN | apply IsS65.drew | apply IsS65.set_1 | apply IsS65.set_2 | apply IsS65.farB NB0_306.out | apply IsS65.farB NB0_313.out | apply IsS65.farB NB0_317.out) | exact HI0.out)) (by (with_reducible repeat (first | apply Kd.R_alloc | apply Kd.R_drewN | apply Kd.R_drew)); exact (Kd.R_mono (Kd.R_far (p := ⟨gb317, 1, none⟩) (Kd.R_far (p := ⟨gb317, 0, none⟩) (Kd.R_types HO_314001.out BK317.out (by decide)) (fun _ hk => hk.2) (.slice Ao91 x314000_1.length co91)) (fun _ hk => hk.2) (.slice Ao96 x314001_1.length co96)) (fun _ h_ => h_.1))) (by decide)) hk (fun _ h => h.2)) (fun _ h => h.1)); have n2_ := k0 (KeepBut.blk hk (g' := gb306) (o := .cells #[.slice none 0 0, .slice none 0 0] 28 (0, 0)) (by (with_reducible repeat first | apply k1 | apply k2 | apply k3); refine blk_far ?_ NB306_317.out _; (with_reducible repeat first | apply k1 | apply k2 | apply k3); refine blk_far ?_ NB306_317.out _; (with_reducible repeat first | apply k1 | apply k2 | apply k3); exact BK306.out) NB306_0.out (by simp)); have n3_ := k0 (KeepBut.blk hk (g' := gb313) (o := .cells #[.slice Ao91 x314000_1.length co91, .slice Ao96 x314001_1.length co96] 28 (0, 0)) (by (with_reducible repeat first | apply k1 | apply k2 | apply k3); refine blk_far ?_ NB313_317.out _; (with_reducible repeat first | apply k1 | apply k2 | apply k3); refine blk_far ?_ NB313_317.out _; (with_reducible repeat first | apply k1 | apply k2 | apply k3); exact BK313.out) NB313_0.out (by simp)); have n4_ := k0 (KeepBut.blk hk (g' := gb317) (o := .cells #[.slice Ao91 x314000_1.length co91, .slice Ao96 x314001_1.length co96] 28 (0, 0)) (by (with_reducible repeat first | apply k1 | apply k2 | apply k3); refine blk_put (cs := #[.slice Ao91 x314000_1.length co91, .slice none 0 0]) ?_ 1 _ rfl; (with_reducible repeat first | apply k1 | apply k2 | apply k3); refine blk_put (cs := #[.slice none 0 0, .slice none 0 0]) ?_ 0 _ rfl; (with_reducible repeat first | apply k1 | apply k2 | apply k3); exact BK317.out) NB317_0.out (by simp)); have n5_ := k0 (KeepBut.trans (by repeat (first | (with_reducible first | exact HK.out | apply KeepBut.set_ | apply keep_drewN | apply keep_drew | apply keep_alloc | refine keep_far ?_ GW306.out _ | refine keep_far ?_ GW313.out _ | refine keep_far ?_ GW317.out _) | exact HK.out)) hk (.inl rfl)); have n6_ := k0 (hb); have n7_ := k0 (hi); clear HO_314000; clear HO_314001; clear BK306; clear BK313; clear BK317; clear HK; clear HB; clear HI0; have HO_314000 := n0_; have HO_314001 := n1_; have BK306 := n2_; have BK313 := n3_; have BK317 := n4_; have HK := n5_; have HB := n6_; have HI0 := n7_; clear n0_ n1_ n2_ n3_ n4_ n5_ n6_ n7_; (try clear hb); (try clear hb2); (try clear hk); (try clear hi)))
       have n0_ := k0 (Kd.V_drew HO_314000.out)
       have n1_ := k0 (Kd.R_drew HO_314001.out)
       have n2_ := k0 (blk_drew BK306.out)
       have n3_ := k0 (blk_drew BK313.out)
       have n4_ := k0 (blk_drew BK317.out)
       have n5_ := k0 (IsS65.drew HI0.out)
       have n6_ := k0 (keep_drew HK.out)
       have n7_ := k0 (below_drew1 HB.out)
       clear HO_314000 HO_314001 BK306 BK313 BK317 HI0 HK HB
       have HO_314000 := n0_
       have HO_314001 := n1_
       have BK306 := n2_
       have BK313 := n3_
       have BK317 := n4_
       have HI0 := n5_
       have HK := n6_
       have HB := n7_
       clear n0_ n1_ n2_ n3_ n4_ n5_ n6_ n7_
       refine start_ (n := 13) (S := fun w' => w'.cell? ⟨gb313, 0, none⟩ = some (.slice Ao91 x314000_1.length co91) ∧ w'.cell? ⟨gb313, 1, none⟩ = some (.slice Ao96 x314001_1.length co96)) (ds := []) #[false, false, false, false, false, false, false, false, false, false, false, false, false] (by kernel_rfl) rfl rfl ⟨(blk_cell BK313.out 0).trans rfl, (blk_cell BK313.out 1).trans rfl⟩ (fun hHeld => ?_); refine with_tabW spec_l06Draw.tab12 spec_l06Draw.bits12 (fun HT_ HW_ => ?_)
       generalize w97.drew = w98 at HO_314000 HO_314001 BK306 BK313 BK317 HI0 HK HB hHeld ⊢
       refine kP 1 51 13 2 HT_.out ?_
       refine kP 2 52 13 6 HT_.out ?_
       refine kP 4 54 13 22 HT_.out ?_
       refine take_ (i := 0) (N := some 50) (v := ?_) (a' := ?_) (bt 13 23) rfl rfl (take_ofW HT_.out HW_.out (by kernel_rfl)) (fun _ _ _ h => h) (Or.inl ⟨by rfl, ?_⟩) hHeld ?_ ?_
       rotate_left
       ·rintro w' ⟨s0, s1⟩
        go_simp
        with_reducible rfl
       rotate_left
       ·simp only [Act.put, List.setIfInBounds_toArray, List.set_cons_zero, List.set_cons_succ, i64_w, i32_w]
        rfl
       refine one_ (i := 3) (N := some 53) (bt 13 31) rfl rfl (one_of HT_.out (by kernel_rfl)) (by decide) (fun K hK => ?_)
       refine goes_ Try.func64 (by kernel_rfl) rfl #[.pointer (some ⟨g, 0, none⟩), .int .i64 a1] (by rfl) rfl rfl (by (try simp only [List.map_toArray, List.map_cons, List.map_nil]); first | done | rfl | (simp only [List.length_drop, List.length_take]; rfl)) ?_
       with_reducible refine (spec_l01Below.calls g s0_0 t319 t320 a1 t334 t335 t336 w0 _ ?side1 ?side2 A62.out).mono ?_
       (case side1 => repeat (first | (with_reducible first | exact HI0.out | apply IsS65.alloc | apply IsS65.drewN | apply IsS65.drew | apply IsS65.set_1 | apply IsS65.set_2 | apply IsS65.farB NB0_306.out | apply IsS65.farB NB0_313.out | apply IsS65.farB NB0_317.out) | exact HI0.out))
       (case side2 => repeat (first | (with_reducible first | exact HB.out | apply below_alloc | apply pw_below_drewN | apply below_drew1 | refine below_set ?_ (IsS65.ge HI0.out) | refine below_set ?_ GE306.out | refine below_set ?_ GE313.out | refine below_set ?_ GE317.out) | exact HB.out))
       rintro e w99 ⟨rfl, hi, hb, hk⟩
       refine ⟨_, rfl, ?_⟩
       have n0_ := k0 (Kd.V_mono (Kd.V_keep (Kd.V_mono (ok := fun k_ => ((((w.heap.size ≤ k_)) ∧ (some k_ ≠ (.slice Ao96 x314001_1.length co96 : Value).ownBlock ∧ (k_ ≠ gb306 ∧ (k_ ≠ gb313 ∧ k_ ≠ g)))) ∧ k_ ≠ gb317)) (kV HO_314000.out) (fun k_ hk_ => (⟨hk_, hk_.1.2.2.2.2⟩ : _ ∧ k_ ≠ g))) hk (fun _ h => h.2)) (fun _ h => h.1))
       have n1_ := k0 (Kd.R_mono (Kd.R_keep (IsS65.apart (show IsS65 w0 _ g s0_0 t319 t320 from by repeat (first | (with_reducible first | exact HI0.out | apply IsS65.alloc | apply IsS65.drewN | apply IsS65.drew | apply IsS65.set_1 | apply IsS65.set_2 | apply IsS65.farB NB0_306.out | apply IsS65.farB NB0_313.out | apply IsS65.farB NB0_317.out) | exact HI0.out)) (kR HO_314001.out) (by decide)) hk (fun _ h => h.2)) (fun _ h => h.1))
       have n2_ := k0 (KeepBut.blk hk (g' := gb306) (o := .cells #[.slice none 0 0, .slice none 0 0] 28 (0, 0)) (kB BK306.out) NB306_0.out (by simp))
       have n3_ := k0 (KeepBut.blk hk (g' := gb313) (o := .cells #[.slice Ao91 x314000_1.length co91, .slice Ao96 x314001_1.length co96] 28 (0, 0)) (kB BK313.out) NB313_0.out (by simp))
       have n4_ := k0 (KeepBut.blk hk (g' := gb317) (o := .cells #[.slice Ao91 x314000_1.length co91, .slice Ao96 x314001_1.length co96] 28 (0, 0)) (kB BK317.out) NB317_0.out (by simp))
       have n5_ := k0 (KeepBut.trans (by repeat (first | (with_reducible first | exact HK.out | apply KeepBut.set_ | apply keep_drewN | apply keep_drew | apply keep_alloc | refine keep_far ?_ GW306.out _ | refine keep_far ?_ GW313.out _ | refine keep_far ?_ GW317.out _) | exact HK.out)) hk (.inl rfl))
       have n6_ := k0 (hb)
       have n7_ := k0 (hi)
       clear HO_314000 HO_314001 BK306 BK313 BK317 HK HB HI0
       have HO_314000 := n0_
       have HO_314001 := n1_
       have BK306 := n2_
       have BK313 := n3_
       have BK317 := n4_
       have HK := n5_
       have HB := n6_
       have HI0 := n7_
       clear n0_ n1_ n2_ n3_ n4_ n5_ n6_ n7_
       (try clear hb)
       (try clear hb2)
       (try clear hk)
       (try clear hi)
       refine hK.out _ _ ⟨(blk_cell BK313.out 0).trans rfl, (blk_cell BK313.out 1).trans rfl⟩ (fun hHeld => ?_)
       clear hK K
       refine norm_ (a' := ?_) ?_ ?_
       rotate_left
       ·show Act.put _ (some 53) _ = _
        simp only [Act.put, List.setIfInBounds_toArray, List.set_cons_zero, List.set_cons_succ, i64_w, i32_w]
        rfl
       refine one_ (i := 5) (N := some 55) (bt 13 63) rfl rfl (one_of HT_.out (by kernel_rfl)) (by decide) (fun K hK => ?_)
       refine goes_ Try.func64 (by kernel_rfl) rfl #[.pointer (some ⟨g, 0, none⟩), .int .i64 20] (by rfl) rfl rfl (by (try simp only [List.map_toArray, List.map_cons, List.map_nil]); first | done | rfl | (simp only [List.length_drop, List.length_take]; rfl)) ?_
       with_reducible refine (spec_l01Below.calls g s0_0 t335 t336 20 t337 t338 t339 w0 _ ?side1 ?side2 A63.out).mono ?_
       (case side1 => repeat (first | (with_reducible first | exact HI0.out | apply IsS65.alloc | apply IsS65.drewN | apply IsS65.drew | apply IsS65.set_1 | apply IsS65.set_2 | apply IsS65.farB NB0_306.out | apply IsS65.farB NB0_313.out | apply IsS65.farB NB0_317.out) | exact HI0.out))
       (case side2 => repeat (first | (with_reducible first | exact HB.out | apply below_alloc | apply pw_below_drewN | apply below_drew1 | refine below_set ?_ (IsS65.ge HI0.out) | refine below_set ?_ GE306.out | refine below_set ?_ GE313.out | refine below_set ?_ GE317.out) | exact HB.out))
       rintro e w100 ⟨rfl, hi, hb, hk⟩
       refine ⟨_, rfl, ?_⟩
       have n0_ := k0 (Kd.V_mono (Kd.V_keep (Kd.V_mono (ok := fun k_ => ((((w.heap.size ≤ k_)) ∧ (some k_ ≠ (.slice Ao96 x314001_1.length co96 : Value).ownBlock ∧ (k_ ≠ gb306 ∧ (k_ ≠ gb313 ∧ k_ ≠ g)))) ∧ k_ ≠ gb317)) (kV HO_314000.out) (fun k_ hk_ => (⟨hk_, hk_.1.2.2.2.2⟩ : _ ∧ k_ ≠ g))) hk (fun _ h => h.2)) (fun _ h => h.1))
       have n1_ := k0 (Kd.R_mono (Kd.R_keep (IsS65.apart (show IsS65 w0 _ g s0_0 t335 t336 from by repeat (first | (with_reducible first | exact HI0.out | apply IsS65.alloc | apply IsS65.drewN | apply IsS65.drew | apply IsS65.set_1 | apply IsS65.set_2 | apply IsS65.farB NB0_306.out | apply IsS65.farB NB0_313.out | apply IsS65.farB NB0_317.out) | exact HI0.out)) (kR HO_314001.out) (by decide)) hk (fun _ h => h.2)) (fun _ h => h.1))
       have n2_ := k0 (KeepBut.blk hk (g' := gb306) (o := .cells #[.slice none 0 0, .slice none 0 0] 28 (0, 0)) (kB BK306.out) NB306_0.out (by simp))
       have n3_ := k0 (KeepBut.blk hk (g' := gb313) (o := .cells #[.slice Ao91 x314000_1.length co91, .slice Ao96 x314001_1.length co96] 28 (0, 0)) (kB BK313.out) NB313_0.out (by simp))
       have n4_ := k0 (KeepBut.blk hk (g' := gb317) (o := .cells #[.slice Ao91 x314000_1.length co91, .slice Ao96 x314001_1.length co96] 28 (0, 0)) (kB BK317.out) NB317_0.out (by simp))
       have n5_ := k0 (KeepBut.trans (by repeat (first | (with_reducible first | exact HK.out | apply KeepBut.set_ | apply keep_drewN | apply keep_drew | apply keep_alloc | refine keep_far ?_ GW306.out _ | refine keep_far ?_ GW313.out _ | refine keep_far ?_ GW317.out _) | exact HK.out)) hk (.inl rfl))
       have n6_ := k0 (hb)
       have n7_ := k0 (hi)
       clear HO_314000 HO_314001 BK306 BK313 BK317 HK HB HI0
       have HO_314000 := n0_
       have HO_314001 := n1_
       have BK306 := n2_
       have BK313 := n3_
       have BK317 := n4_
       have HK := n5_
       have HB := n6_
       have HI0 := n7_
       clear n0_ n1_ n2_ n3_ n4_ n5_ n6_ n7_
       (try clear hb)
       (try clear hb2)
       (try clear hk)
       (try clear hi)
       refine hK.out _ _ ⟨(blk_cell BK313.out 0).trans rfl, (blk_cell BK313.out 1).trans rfl⟩ (fun hHeld => ?_)
       clear hK K
       refine norm_ (a' := ?_) ?_ ?_
       rotate_left
       ·show Act.put _ (some 55) _ = _
        simp only [Act.put, List.setIfInBounds_toArray, List.set_cons_zero, List.set_cons_succ, i64_w, i32_w]
        rfl
       refine kP 6 56 13 127 HT_.out ?_
       refine one_ (i := 7) (N := some 57) (bt 13 255) rfl rfl (one_of HT_.out (by kernel_rfl)) (by decide) (fun K hK => ?_)
       refine goes_ Try.func30 (by kernel_rfl) rfl #[.agg #[.slice Ao91 x314000_1.length co91, .slice Ao96 x314001_1.length co96], .int .i64 t334, .int .i64 (wrap64 (1 + t337))] (by rfl) rfl rfl (by (try simp only [List.map_toArray, List.map_cons, List.map_nil]); first | done | rfl | (simp only [List.length_drop, List.length_take]; rfl)) ?_
       with_reducible refine (spec_Spend.calls k1 _ _ x314000_1 _ _ x314001_1 t334 (wrap64 (1 + t337)) t340 t343 false _ ?side1 ?side2 ?side3 ?side4 A64.out).mono ?_
       (case side1 => exact kC (Kd.V_reads' HO_314000.out).2.2)
       (case side2 => exact (Kd.V_reads' HO_314000.out).2.1)
       (case side3 => exact kC (Kd.R_reads' HO_314001.out).2.2)
       (case side4 => exact (Kd.R_reads' HO_314001.out).2.1)
       rintro e w101 ⟨v341, v344, rfl, ho0, ho1, hb⟩
       refine ⟨_, rfl, ?_⟩
       have n0_ := k0 (Kd.V_elder' (kV HO_314000.out) (Kd.R_base ho1) hb)
       have n1_ := k0 (Kd.R_elder' (kR HO_314001.out) (Kd.R_base ho1) hb)
       have n2_ := k0 (Kd.V_lower (Kd.V_mono (ok' := fun k_ => (w.heap.size ≤ k_) ∧ some k_ ≠ (v344 : Value).ownBlock ∧ some k_ ≠ (.slice Ao96 x314001_1.length co96 : Value).ownBlock ∧ k_ ≠ gb306 ∧ k_ ≠ gb313 ∧ k_ ≠ gb317 ∧ k_ ≠ g) ho0 (fun k_ hk_ => ⟨(Nat.le_trans (keep_size (w := w) (g := g) (row := none) (by repeat (first | (with_reducible first | exact HK.out | apply KeepBut.set_ | apply keep_drewN | apply keep_drew | apply keep_alloc | refine keep_far ?_ GW306.out _ | refine keep_far ?_ GW313.out _ | refine keep_far ?_ GW317.out _) | exact HK.out))) hk_.1), hk_.2, (Kd.fresh' (Kd.R_lt (kR HO_314001.out)) k_ hk_.1), (Kd.freshB (g := gb306) (o := .cells #[.slice none 0 0, .slice none 0 0] 28 (0, 0)) (kB BK306.out) k_ hk_.1), (Kd.freshB (g := gb313) (o := .cells #[.slice Ao91 x314000_1.length co91, .slice Ao96 x314001_1.length co96] 28 (0, 0)) (kB BK313.out) k_ hk_.1), (Kd.freshB (g := gb317) (o := .cells #[.slice Ao91 x314000_1.length co91, .slice Ao96 x314001_1.length co96] 28 (0, 0)) (kB BK317.out) k_ hk_.1), (IsS65.fresh (by repeat (first | (with_reducible first | exact HI0.out | apply IsS65.alloc | apply IsS65.drewN | apply IsS65.drew | apply IsS65.set_1 | apply IsS65.set_2 | apply IsS65.farB NB0_306.out | apply IsS65.farB NB0_313.out | apply IsS65.farB NB0_317.out) | exact HI0.out)) k_ hk_.1)⟩)) (keep_size (w := w) (g := g) (row := none) (by repeat (first | (with_reducible first | exact HK.out | apply KeepBut.set_ | apply keep_drewN | apply keep_drew | apply keep_alloc | refine keep_far ?_ GW306.out _ | refine keep_far ?_ GW313.out _ | refine keep_far ?_ GW317.out _) | exact HK.out))))
       have n3_ := k0 (Kd.R_lower (Kd.R_new' (Kd.R_newM (M := fun k_ => (w.heap.size ≤ k_)) (Kd.R_mono (ok' := fun k_ => True) ho1 (fun _ hk_ => trivial)) (keep_size (w := w) (g := g) (row := none) (by repeat (first | (with_reducible first | exact HK.out | apply KeepBut.set_ | apply keep_drewN | apply keep_drew | apply keep_alloc | refine keep_far ?_ GW306.out _ | refine keep_far ?_ GW313.out _ | refine keep_far ?_ GW317.out _) | exact HK.out))) (fun k_ h_ => h_)) (Kd.R_lt (kR HO_314001.out))) (keep_size (w := w) (g := g) (row := none) (by repeat (first | (with_reducible first | exact HK.out | apply KeepBut.set_ | apply keep_drewN | apply keep_drew | apply keep_alloc | refine keep_far ?_ GW306.out _ | refine keep_far ?_ GW313.out _ | refine keep_far ?_ GW317.out _) | exact HK.out))))
       have n4_ := k0 (kb BK306.out hb)
       have n5_ := k0 (kb BK313.out hb)
       have n6_ := k0 (IsS65.below (by repeat (first | (with_reducible first | exact HI0.out | apply IsS65.alloc | apply IsS65.drewN | apply IsS65.drew | apply IsS65.set_1 | apply IsS65.set_2 | apply IsS65.farB NB0_306.out | apply IsS65.farB NB0_313.out | apply IsS65.farB NB0_317.out) | exact HI0.out)) hb)
       have n7_ := k0 (kb BK317.out hb)
       have n8_ := k0 (KeepBut.trans (by repeat (first | (with_reducible first | exact HK.out | apply KeepBut.set_ | apply keep_drewN | apply keep_drew | apply keep_alloc | refine keep_far ?_ GW306.out _ | refine keep_far ?_ GW313.out _ | refine keep_far ?_ GW317.out _) | exact HK.out)) (KeepBut.of_below hb g none) (.inl rfl))
       have n9_ := k0 (below_step (by repeat (first | (with_reducible first | exact HB.out | apply below_alloc | apply pw_below_drewN | apply below_drew1 | refine below_set ?_ (IsS65.ge HI0.out) | refine below_set ?_ GE306.out | refine below_set ?_ GE313.out | refine below_set ?_ GE317.out) | exact HB.out)) hb)
       clear HO_314000 HO_314001 BK306 BK313 HI0 BK317 HK HB
       have HO_314000 := n0_
       have HO_314001 := n1_
       have HO342 := n2_
       have HO345 := n3_
       have BK306 := n4_
       have BK313 := n5_
       have HI0 := n6_
       have BK317 := n7_
       have HK := n8_
       have HB := n9_
       clear n0_ n1_ n2_ n3_ n4_ n5_ n6_ n7_ n8_ n9_
       (try clear hb)
       (try clear hb2)
       (try clear hk)
       (try clear hi)
       (try clear ho0)
       (try clear ho1)
       obtain ⟨Ao102, co102, eo102⟩ := Kd.V_slice HO342.out
       (first | subst eo102 | (injection eo102 with f1_ f2_ f3_; have f4_ := f1_.symm; have f5_ := f3_.symm; clear f1_ f2_ f3_; subst f4_; subst f5_))
       obtain ⟨Ao104, co104, eo104⟩ := Kd.R_slice HO345.out
       (first | subst eo104 | (injection eo104 with f1_ f2_ f3_; have f4_ := f1_.symm; have f5_ := f3_.symm; clear f1_ f2_ f3_; subst f4_; subst f5_))
       refine hK.out _ _ ⟨(blk_cell BK313.out 0).trans rfl, (blk_cell BK313.out 1).trans rfl⟩ (fun hHeld => ?_)
       clear hK K
       refine norm_ (a' := ?_) ?_ ?_
       rotate_left
       ·show Act.put _ (some 57) _ = _
        simp only [Act.put, List.setIfInBounds_toArray, List.set_cons_zero, List.set_cons_succ, i64_w, i32_w]
        rfl
       refine kP 8 49 13 511 HT_.out ?_
       refine kP 9 58 13 1023 HT_.out ?_
       refine kP 10 59 13 2047 HT_.out ?_
       refine one_ (i := 11) (N := none) (bt 13 4095) rfl rfl (one_of HT_.out (by kernel_rfl)) (by decide) (fun K hK => ?_)
       have hs103 : w101.cell? ⟨gb317, 0, none⟩ = some (.slice Ao91 x314000_1.length co91) := (blk_cell BK317.out 0).trans rfl
       have hfs103 := blk_frozen BK317.out 0
       have hns103_0 := NB306_317.out
       have hns103_1 := NB313_317.out
       have hms103_0 := NB317_306.out
       have hms103_1 := NB317_313.out
       have hs105 : w101.cell? ⟨gb317, 1, none⟩ = some (.slice Ao96 x314001_1.length co96) := (blk_cell BK317.out 1).trans rfl
       have hfs105 := blk_frozen BK317.out 1
       have hns105_0 := NB306_317.out
       have hns105_1 := NB313_317.out
       have hms105_0 := NB317_306.out
       have hms105_1 := NB317_313.out
       refine skip_ (w1 := ?_) (by rfl) rfl ?_ ?_
       rotate_left
       ·go_simp
        rfl
       refine hK.out _ _ ⟨((cell_far (p := ⟨gb317, _, none⟩) NB313_317.out _).trans (((cell_far (p := ⟨gb317, _, none⟩) NB313_317.out _).trans (hHeld.1)))), ((cell_far (p := ⟨gb317, _, none⟩) NB313_317.out _).trans (((cell_far (p := ⟨gb317, _, none⟩) NB313_317.out _).trans (hHeld.2))))⟩ (fun hHeld => ?_)
       clear hK K
       refine kP 12 8 13 8191 HT_.out ?_
       refine done_ (done_of HT_.out (by kernel_rfl)) ?_
       try go_wp2
       go_roundg k1
       case measure => have := HK1.out; omega
       case rel => exact ⟨(wrap64 (x6_1 - 1)), (t338), (t339), (x314000_1), (x314001_1), (.slice Ao91 x314000_1.length co91), (.slice Ao96 x314001_1.length co96), (by first | rfl | (simp; done) | (simp [*]; done)), H', ⟨by have := HK1.out; omega⟩, ⟨by (with_reducible repeat (first | apply Kd.V_alloc | apply Kd.V_drewN | apply Kd.V_drew)); exact Kd.V_mono (Kd.V_far (p := ⟨gb317, 1, none⟩) (Kd.V_far (p := ⟨gb317, 0, none⟩) (Kd.V_mono HO_314000.out (fun k_ hk => (⟨hk, hk.1.2⟩ : _ ∧ k_ ≠ gb317))) (fun _ hk => hk.2) (.slice Ao102 t340.length co102)) (fun _ hk => hk.2) (.slice Ao104 t343.length co104)) (fun _ hk => ⟨hk.1.1.1.1, ⟨hk.1.1.1.2.1, ⟨hk.1.1.1.2.2.1, ⟨hk.1.1.1.2.2.2.1, hk.1.1.1.2.2.2.2⟩⟩⟩⟩)⟩, ⟨by (with_reducible repeat (first | apply Kd.R_alloc | apply Kd.R_drewN | apply Kd.R_drew)); exact Kd.R_mono (Kd.R_far (p := ⟨gb317, 1, none⟩) (Kd.R_far (p := ⟨gb317, 0, none⟩) (Kd.R_types HO_314001.out BK317.out (by decide)) (fun _ hk => hk.2) (.slice Ao102 t340.length co102)) (fun _ hk => hk.2) (.slice Ao104 t343.length co104)) (fun _ hk => hk.1.1)⟩, ⟨by (with_reducible repeat first | apply k1 | apply k2 | apply k3); refine blk_far ?_ NB306_317.out _; (with_reducible repeat first | apply k1 | apply k2 | apply k3); refine blk_far ?_ NB306_317.out _; (with_reducible repeat first | apply k1 | apply k2 | apply k3); exact BK306.out⟩, ⟨by (with_reducible repeat first | apply k1 | apply k2 | apply k3); refine blk_far ?_ NB313_317.out _; (with_reducible repeat first | apply k1 | apply k2 | apply k3); refine blk_far ?_ NB313_317.out _; (with_reducible repeat first | apply k1 | apply k2 | apply k3); exact BK313.out⟩, ⟨by repeat (first | (with_reducible first | exact HI0.out | apply IsS65.alloc | apply IsS65.drewN | apply IsS65.drew | apply IsS65.set_1 | apply IsS65.set_2 | apply IsS65.farB NB0_306.out | apply IsS65.farB NB0_313.out | apply IsS65.farB NB0_317.out) | exact HI0.out)⟩, ⟨by repeat (first | (with_reducible first | exact HK.out | apply KeepBut.set_ | apply keep_drewN | apply keep_drew | apply keep_alloc | refine keep_far ?_ GW306.out _ | refine keep_far ?_ GW313.out _ | refine keep_far ?_ GW317.out _) | exact HK.out)⟩, ⟨by repeat (first | (with_reducible first | exact HB.out | apply below_alloc | apply pw_below_drewN | apply below_drew1 | refine below_set ?_ (IsS65.ge HI0.out) | refine below_set ?_ GE306.out | refine below_set ?_ GE313.out | refine below_set ?_ GE317.out) | exact HB.out)⟩⟩
     ·rw [if_neg c61] at H
      have c61b0 : (t318 == 1) = false := beq_eq_false_iff_ne.mpr c61
      have c61b1 : (t318 != 1) = true := bne_iff_ne.mpr c61
      replace H := Option.bind_eq_some_iff.mp H
      obtain ⟨⟨t347, t348, t349⟩, A1060, H⟩ := H
      replace H : ((spec_l01Below.f s0_0 t348 t349 a1).bind fun bt350 => ((spec_l01Below.f s0_0 bt350.2.1 bt350.2.2 20).bind fun bt353 => ((spec_Hand.f k1 x314000_1 x314001_1 t347 bt350.1 (wrap64 (1 + bt353.1))).bind fun bt356 => (if bt356.2.2 = true then (spec_l06Draw.l0 k1 a1 (wrap64 (x6_1 - 1)) s0_0 bt353.2.1 bt353.2.2 bt356.1 bt356.2.1) else (spec_l06Draw.l0 k1 a1 (wrap64 (x6_1 - 1)) s0_0 bt353.2.1 bt353.2.2 x314000_1 x314001_1))))) = some (r1, r2, r3, r4) := H
      have A106 := Aside0.mk A1060
      clear A1060
      replace H := Option.bind_eq_some_iff.mp H
      obtain ⟨⟨t350, t351, t352⟩, A1070, H⟩ := H
      replace H : ((spec_l01Below.f s0_0 t351 t352 20).bind fun bt353 => ((spec_Hand.f k1 x314000_1 x314001_1 t347 t350 (wrap64 (1 + bt353.1))).bind fun bt356 => (if bt356.2.2 = true then (spec_l06Draw.l0 k1 a1 (wrap64 (x6_1 - 1)) s0_0 bt353.2.1 bt353.2.2 bt356.1 bt356.2.1) else (spec_l06Draw.l0 k1 a1 (wrap64 (x6_1 - 1)) s0_0 bt353.2.1 bt353.2.2 x314000_1 x314001_1)))) = some (r1, r2, r3, r4) := H
      have A107 := Aside0.mk A1070
      clear A1070
      replace H := Option.bind_eq_some_iff.mp H
      obtain ⟨⟨t353, t354, t355⟩, A1080, H⟩ := H
      replace H : ((spec_Hand.f k1 x314000_1 x314001_1 t347 t350 (wrap64 (1 + t353))).bind fun bt356 => (if bt356.2.2 = true then (spec_l06Draw.l0 k1 a1 (wrap64 (x6_1 - 1)) s0_0 t354 t355 bt356.1 bt356.2.1) else (spec_l06Draw.l0 k1 a1 (wrap64 (x6_1 - 1)) s0_0 t354 t355 x314000_1 x314001_1))) = some (r1, r2, r3, r4) := H
      have A108 := Aside0.mk A1080
      clear A1080
      replace H := Option.bind_eq_some_iff.mp H
      obtain ⟨⟨t356, t359, t362⟩, A1090, H⟩ := H
      replace H : (if t362 = true then (spec_l06Draw.l0 k1 a1 (wrap64 (x6_1 - 1)) s0_0 t354 t355 t356 t359) else (spec_l06Draw.l0 k1 a1 (wrap64 (x6_1 - 1)) s0_0 t354 t355 x314000_1 x314001_1)) = some (r1, r2, r3, r4) := H
      have A109 := Aside0.mk A1090
      clear A1090
      by_cases c110 : t362 = true
      ·subst c110
       have H1 : (spec_l06Draw.l0 k1 a1 (wrap64 (x6_1 - 1)) s0_0 t354 t355 t356 t359) = some (r1, r2, r3, r4) := by rw [if_pos rfl] at H; exact H
       clear H
       have H := H1
       clear H1
       have H' := Aside0.mk H
       clear H
       have hnb111 := NB313_306.out
       have hnc111 := NB306_313.out
       have hnb112 := NB313_0.out
       have hnc112 := NB0_313.out
       have hcz113_0 : wr.cell? ⟨gb313, 0, none⟩ = some (u314000) := kx BK313.out
       have hcz113_1 : wr.cell? ⟨gb313, 1, none⟩ = some (u314001) := kx BK313.out
       have hfz113_0 := blk_frozen BK313.out 0
       have hfz113_1 := blk_frozen BK313.out 1
       try go_wp2_with (first | ((with_reducible refine gate_dst (N := 7) rfl ?_); refine kE (N := 7) (cs := #[.slice none 0 0, .slice none 0 0]) (t := 28) ?_; intro gb317 hg w114 hbox hb; have n0_ := k0 (Kd.V_below (Kd.V_elderB (kV HO_314000.out) gb317 (Nat.le_of_eq hg.symm)) hb); have n1_ := k0 (Kd.R_below (kR HO_314001.out) hb); have n2_ := k0 (kb BK306.out hb); have n3_ := k0 (kb BK313.out hb); have n4_ := k0 (IsS65.below (by repeat (first | (with_reducible first | exact HI0.out | apply IsS65.alloc | apply IsS65.drewN | apply IsS65.drew | apply IsS65.set_1 | apply IsS65.set_2 | apply IsS65.farB NB0_306.out | apply IsS65.farB NB0_313.out) | exact HI0.out)) hb); have n5_ := k0 (KeepBut.trans (by repeat (first | (with_reducible first | exact HK.out | apply KeepBut.set_ | apply keep_drewN | apply keep_drew | apply keep_alloc | refine keep_far ?_ GW306.out _ | refine keep_far ?_ GW313.out _) | exact HK.out)) (KeepBut.of_below hb g none) (.inl rfl)); have n6_ := k0 (below_step (by repeat (first | (with_reducible first | exact HB.out | apply below_alloc | apply pw_below_drewN | apply below_drew1 | refine below_set ?_ (IsS65.ge HI0.out) | refine below_set ?_ GE306.out | refine below_set ?_ GE313.out) | exact HB.out)) hb); have n7_ := k0 (hbox); have n8_ := k0 ((by rw [hg]; exact (keep_size (w := w) (g := g) (row := none) (by repeat (first | (with_reducible first | exact HK.out | apply KeepBut.set_ | apply keep_drewN | apply keep_drew | apply keep_alloc | refine keep_far ?_ GW306.out _ | refine keep_far ?_ GW313.out _) | exact HK.out))) : w.heap.size ≤ gb317)); have n9_ := k0 ((Nat.le_trans HW0.out (by rw [hg]; exact (keep_size (w := w) (g := g) (row := none) (by repeat (first | (with_reducible first | exact HK.out | apply KeepBut.set_ | apply keep_drewN | apply keep_drew | apply keep_alloc | refine keep_far ?_ GW306.out _ | refine keep_far ?_ GW313.out _) | exact HK.out))) : w.heap.size ≤ gb317) : w0.heap.size ≤ gb317)); have n10_ := k0 ((by rw [hg]; exact Nat.ne_of_lt (blk_lt (g := gb306) (o := .cells #[.slice none 0 0, .slice none 0 0] 28 (0, 0)) (kB BK306.out)) : gb306 ≠ gb317)); have n11_ := k0 ((by rw [hg]; exact Nat.ne_of_gt (blk_lt (g := gb306) (o := .cells #[.slice none 0 0, .slice none 0 0] 28 (0, 0)) (kB BK306.out)) : gb317 ≠ gb306)); have n12_ := k0 ((by rw [hg]; exact Nat.ne_of_lt (blk_lt (g := gb313) (o := .cells #[u314000, u314001] 28 (0, 0)) (kB BK313.out)) : gb313 ≠ gb317)); have n13_ := k0 ((by rw [hg]; exact Nat.ne_of_gt (blk_lt (g := gb313) (o := .cells #[u314000, u314001] 28 (0, 0)) (kB BK313.out)) : gb317 ≠ gb313)); have n14_ := k0 ((by rw [hg]; exact Nat.ne_of_lt (IsS65.lt (show IsS65 w0 _ g s0_0 x1001_1 x1002_1 from by repeat (first | (with_reducible first | exact HI0.out | apply IsS65.alloc | apply IsS65.drewN | apply IsS65.drew | apply IsS65.set_1 | apply IsS65.set_2 | apply IsS65.farB NB0_306.out | apply IsS65.farB NB0_313.out) | exact HI0.out))) : g ≠ gb317)); have n15_ := k0 ((by rw [hg]; exact Nat.ne_of_gt (IsS65.lt (show IsS65 w0 _ g s0_0 x1001_1 x1002_1 from by repeat (first | (with_reducible first | exact HI0.out | apply IsS65.alloc | apply IsS65.drewN | apply IsS65.drew | apply IsS65.set_1 | apply IsS65.set_2 | apply IsS65.farB NB0_306.out | apply IsS65.farB NB0_313.out) | exact HI0.out))) : gb317 ≠ g)); clear HO_314000; clear HO_314001; clear BK306; clear BK313; clear HI0; clear HK; clear HB; have HO_314000 := n0_; have HO_314001 := n1_; have BK306 := n2_; have BK313 := n3_; have HI0 := n4_; have HK := n5_; have HB := n6_; have BK317 := n7_; have GW317 := n8_; have GE317 := n9_; have NB306_317 := n10_; have NB317_306 := n11_; have NB313_317 := n12_; have NB317_313 := n13_; have NB0_317 := n14_; have NB317_0 := n15_; clear n0_ n1_ n2_ n3_ n4_ n5_ n6_ n7_ n8_ n9_ n10_ n11_ n12_ n13_ n14_ n15_; clear hb hbox hg; obtain ⟨Ao115, co115, eo115⟩ := Kd.V_slice HO_314000.out; subst eo115; have hnb116 := NB317_306.out; have hnc116 := NB306_317.out; have hnb117 := NB317_313.out; have hnc117 := NB313_317.out; have hnb118 := NB317_0.out; have hnc118 := NB0_317.out; have hcz119_0 : w114.cell? ⟨gb317, 0, none⟩ = some (.slice none 0 0) := kx BK317.out; have hcz119_1 : w114.cell? ⟨gb317, 1, none⟩ = some (.slice none 0 0) := kx BK317.out; have hfz119_0 := blk_frozen BK317.out 0; have hfz119_1 := blk_frozen BK317.out 1; obtain ⟨Ao120, co120, eo120⟩ := Kd.R_slice HO_314001.out; subst eo120) | ((with_reducible refine gate_callee (f := 64) rfl ?_); refine kG (some 19) Try.func64 #[.pointer (some ⟨g, 0, none⟩), .int .i64 3] ?_; (with_reducible refine (spec_l01Below.calls g s0_0 x1001_1 x1002_1 3 t318 t319 t320 w0 _ ?side1 ?side2 A15.out).mono ?_); (case side1 => repeat (first | (with_reducible first | exact HI0.out | apply IsS65.alloc | apply IsS65.drewN | apply IsS65.drew | apply IsS65.set_1 | apply IsS65.set_2 | apply IsS65.farB NB0_306.out | apply IsS65.farB NB0_313.out | apply IsS65.farB NB0_317.out) | exact HI0.out)); (case side2 => repeat (first | (with_reducible first | exact HB.out | apply below_alloc | apply pw_below_drewN | apply below_drew1 | refine below_set ?_ (IsS65.ge HI0.out) | refine below_set ?_ GE306.out | refine below_set ?_ GE313.out | refine below_set ?_ GE317.out) | exact HB.out)); rintro e w121 ⟨rfl, hi, hb, hk⟩; refine ⟨_, rfl, ?_⟩; have n0_ := k0 (Kd.V_mono (Kd.V_keep (Kd.V_mono (ok := fun k_ => ((((w.heap.size ≤ k_)) ∧ (some k_ ≠ (.slice Ao120 x314001_1.length co120 : Value).ownBlock ∧ (k_ ≠ gb306 ∧ (k_ ≠ gb313 ∧ k_ ≠ g)))) ∧ k_ ≠ gb317)) (by (with_reducible repeat (first | apply Kd.V_alloc | apply Kd.V_drewN | apply Kd.V_drew)); exact (Kd.V_mono (Kd.V_far (p := ⟨gb317, 1, none⟩) (Kd.V_far (p := ⟨gb317, 0, none⟩) (Kd.V_mono HO_314000.out (fun k_ hk => (⟨hk, hk.2⟩ : _ ∧ k_ ≠ gb317))) (fun _ hk => hk.2) (.slice Ao115 x314000_1.length co115)) (fun _ hk => hk.2) (.slice Ao120 x314001_1.length co120)) (fun _ h_ => h_.1))) (fun k_ hk_ => (⟨hk_, hk_.1.2.2.2.2⟩ : _ ∧ k_ ≠ g))) hk (fun _ h => h.2)) (fun _ h => h.1)); have n1_ := k0 (Kd.R_mono (Kd.R_keep (IsS65.apart (show IsS65 w0 _ g s0_0 x1001_1 x1002_1 from by repeat (first | (with_reducible first | exact HI0.out | apply IsS65.alloc | apply IsS65.drewN | apply IsS65.drew | apply IsS65.set_1 | apply IsS65.set_2 | apply IsS65.farB NB0_306.out | apply IsS65.farB NB0_313.out | apply IsS65.farB NB0_317.out) | exact HI0.out)) (by (with_reducible repeat (first | apply Kd.R_alloc | apply Kd.R_drewN | apply Kd.R_drew)); exact (Kd.R_mono (Kd.R_far (p := ⟨gb317, 1, none⟩) (Kd.R_far (p := ⟨gb317, 0, none⟩) (Kd.R_types HO_314001.out BK317.out (by decide)) (fun _ hk => hk.2) (.slice Ao115 x314000_1.length co115)) (fun _ hk => hk.2) (.slice Ao120 x314001_1.length co120)) (fun _ h_ => h_.1))) (by decide)) hk (fun _ h => h.2)) (fun _ h => h.1)); have n2_ := k0 (KeepBut.blk hk (g' := gb306) (o := .cells #[.slice none 0 0, .slice none 0 0] 28 (0, 0)) (by (with_reducible repeat first | apply k1 | apply k2 | apply k3); refine blk_far ?_ NB306_317.out _; (with_reducible repeat first | apply k1 | apply k2 | apply k3); refine blk_far ?_ NB306_317.out _; (with_reducible repeat first | apply k1 | apply k2 | apply k3); exact BK306.out) NB306_0.out (by simp)); have n3_ := k0 (KeepBut.blk hk (g' := gb313) (o := .cells #[.slice Ao115 x314000_1.length co115, .slice Ao120 x314001_1.length co120] 28 (0, 0)) (by (with_reducible repeat first | apply k1 | apply k2 | apply k3); refine blk_far ?_ NB313_317.out _; (with_reducible repeat first | apply k1 | apply k2 | apply k3); refine blk_far ?_ NB313_317.out _; (with_reducible repeat first | apply k1 | apply k2 | apply k3); exact BK313.out) NB313_0.out (by simp)); have n4_ := k0 (KeepBut.blk hk (g' := gb317) (o := .cells #[.slice Ao115 x314000_1.length co115, .slice Ao120 x314001_1.length co120] 28 (0, 0)) (by (with_reducible repeat first | apply k1 | apply k2 | apply k3); refine blk_put (cs := #[.slice Ao115 x314000_1.length co115, .slice none 0 0]) ?_ 1 _ rfl; (with_reducible repeat first | apply k1 | apply k2 | apply k3); refine blk_put (cs := #[.slice none 0 0, .slice none 0 0]) ?_ 0 _ rfl; (with_reducible repeat first | apply k1 | apply k2 | apply k3); exact BK317.out) NB317_0.out (by simp)); have n5_ := k0 (KeepBut.trans (by repeat (first | (with_reducible first | exact HK.out | apply KeepBut.set_ | apply keep_drewN | apply keep_drew | apply keep_alloc | refine keep_far ?_ GW306.out _ | refine keep_far ?_ GW313.out _ | refine keep_far ?_ GW317.out _) | exact HK.out)) hk (.inl rfl)); have n6_ := k0 (hb); have n7_ := k0 (hi); clear HO_314000; clear HO_314001; clear BK306; clear BK313; clear BK317; clear HK; clear HB; clear HI0; have HO_314000 := n0_; have HO_314001 := n1_; have BK306 := n2_; have BK313 := n3_; have BK317 := n4_; have HK := n5_; have HB := n6_; have HI0 := n7_; clear n0_ n1_ n2_ n3_ n4_ n5_ n6_ n7_; (try clear hb); (try clear hb2); (try clear hk); (try clear hi)))
       have n0_ := k0 (Kd.V_drew HO_314000.out)
       have n1_ := k0 (Kd.R_drew HO_314001.out)
       have n2_ := k0 (blk_drew BK306.out)
       have n3_ := k0 (blk_drew BK313.out)
       have n4_ := k0 (blk_drew BK317.out)
       have n5_ := k0 (IsS65.drew HI0.out)
       have n6_ := k0 (keep_drew HK.out)
       have n7_ := k0 (below_drew1 HB.out)
       clear HO_314000 HO_314001 BK306 BK313 BK317 HI0 HK HB
       have HO_314000 := n0_
       have HO_314001 := n1_
       have BK306 := n2_
       have BK313 := n3_
       have BK317 := n4_
       have HI0 := n5_
       have HK := n6_
       have HB := n7_
       clear n0_ n1_ n2_ n3_ n4_ n5_ n6_ n7_
       refine start_ (n := 16) (S := fun w' => w'.cell? ⟨gb313, 0, none⟩ = some (.slice Ao115 x314000_1.length co115) ∧ w'.cell? ⟨gb313, 1, none⟩ = some (.slice Ao120 x314001_1.length co120)) (ds := []) #[false, false, false, false, false, false, false, false, false, false, false, false, false, false, false, false] (by kernel_rfl) rfl rfl ⟨(blk_cell BK313.out 0).trans rfl, (blk_cell BK313.out 1).trans rfl⟩ (fun hHeld => ?_); refine with_tabW spec_l06Draw.tab8 spec_l06Draw.bits8 (fun HT_ HW_ => ?_)
       generalize w121.drew = w122 at HO_314000 HO_314001 BK306 BK313 BK317 HI0 HK HB hHeld ⊢
       refine kP 1 22 16 2 HT_.out ?_
       refine kP 2 23 16 6 HT_.out ?_
       refine kP 4 25 16 22 HT_.out ?_
       refine kP 5 26 16 54 HT_.out ?_
       refine kP 7 28 16 182 HT_.out ?_
       refine take_ (i := 0) (N := some 21) (v := ?_) (a' := ?_) (bt 16 183) rfl rfl (take_ofW HT_.out HW_.out (by kernel_rfl)) (fun _ _ _ h => h) (Or.inl ⟨by rfl, ?_⟩) hHeld ?_ ?_
       rotate_left
       ·rintro w' ⟨s0, s1⟩
        go_simp
        with_reducible rfl
       rotate_left
       ·simp only [Act.put, List.setIfInBounds_toArray, List.set_cons_zero, List.set_cons_succ, i64_w, i32_w]
        rfl
       refine one_ (i := 3) (N := some 24) (bt 16 191) rfl rfl (one_of HT_.out (by kernel_rfl)) (by decide) (fun K hK => ?_)
       refine goes_ Try.func64 (by kernel_rfl) rfl #[.pointer (some ⟨g, 0, none⟩), .int .i64 a1] (by rfl) rfl rfl (by (try simp only [List.map_toArray, List.map_cons, List.map_nil]); first | done | rfl | (simp only [List.length_drop, List.length_take]; rfl)) ?_
       with_reducible refine (spec_l01Below.calls g s0_0 t319 t320 a1 t347 t348 t349 w0 _ ?side1 ?side2 A106.out).mono ?_
       (case side1 => repeat (first | (with_reducible first | exact HI0.out | apply IsS65.alloc | apply IsS65.drewN | apply IsS65.drew | apply IsS65.set_1 | apply IsS65.set_2 | apply IsS65.farB NB0_306.out | apply IsS65.farB NB0_313.out | apply IsS65.farB NB0_317.out) | exact HI0.out))
       (case side2 => repeat (first | (with_reducible first | exact HB.out | apply below_alloc | apply pw_below_drewN | apply below_drew1 | refine below_set ?_ (IsS65.ge HI0.out) | refine below_set ?_ GE306.out | refine below_set ?_ GE313.out | refine below_set ?_ GE317.out) | exact HB.out))
       rintro e w123 ⟨rfl, hi, hb, hk⟩
       refine ⟨_, rfl, ?_⟩
       have n0_ := k0 (Kd.V_mono (Kd.V_keep (Kd.V_mono (ok := fun k_ => ((((w.heap.size ≤ k_)) ∧ (some k_ ≠ (.slice Ao120 x314001_1.length co120 : Value).ownBlock ∧ (k_ ≠ gb306 ∧ (k_ ≠ gb313 ∧ k_ ≠ g)))) ∧ k_ ≠ gb317)) (kV HO_314000.out) (fun k_ hk_ => (⟨hk_, hk_.1.2.2.2.2⟩ : _ ∧ k_ ≠ g))) hk (fun _ h => h.2)) (fun _ h => h.1))
       have n1_ := k0 (Kd.R_mono (Kd.R_keep (IsS65.apart (show IsS65 w0 _ g s0_0 t319 t320 from by repeat (first | (with_reducible first | exact HI0.out | apply IsS65.alloc | apply IsS65.drewN | apply IsS65.drew | apply IsS65.set_1 | apply IsS65.set_2 | apply IsS65.farB NB0_306.out | apply IsS65.farB NB0_313.out | apply IsS65.farB NB0_317.out) | exact HI0.out)) (kR HO_314001.out) (by decide)) hk (fun _ h => h.2)) (fun _ h => h.1))
       have n2_ := k0 (KeepBut.blk hk (g' := gb306) (o := .cells #[.slice none 0 0, .slice none 0 0] 28 (0, 0)) (kB BK306.out) NB306_0.out (by simp))
       have n3_ := k0 (KeepBut.blk hk (g' := gb313) (o := .cells #[.slice Ao115 x314000_1.length co115, .slice Ao120 x314001_1.length co120] 28 (0, 0)) (kB BK313.out) NB313_0.out (by simp))
       have n4_ := k0 (KeepBut.blk hk (g' := gb317) (o := .cells #[.slice Ao115 x314000_1.length co115, .slice Ao120 x314001_1.length co120] 28 (0, 0)) (kB BK317.out) NB317_0.out (by simp))
       have n5_ := k0 (KeepBut.trans (by repeat (first | (with_reducible first | exact HK.out | apply KeepBut.set_ | apply keep_drewN | apply keep_drew | apply keep_alloc | refine keep_far ?_ GW306.out _ | refine keep_far ?_ GW313.out _ | refine keep_far ?_ GW317.out _) | exact HK.out)) hk (.inl rfl))
       have n6_ := k0 (hb)
       have n7_ := k0 (hi)
       clear HO_314000 HO_314001 BK306 BK313 BK317 HK HB HI0
       have HO_314000 := n0_
       have HO_314001 := n1_
       have BK306 := n2_
       have BK313 := n3_
       have BK317 := n4_
       have HK := n5_
       have HB := n6_
       have HI0 := n7_
       clear n0_ n1_ n2_ n3_ n4_ n5_ n6_ n7_
       (try clear hb)
       (try clear hb2)
       (try clear hk)
       (try clear hi)
       refine hK.out _ _ ⟨(blk_cell BK313.out 0).trans rfl, (blk_cell BK313.out 1).trans rfl⟩ (fun hHeld => ?_)
       clear hK K
       refine norm_ (a' := ?_) ?_ ?_
       rotate_left
       ·show Act.put _ (some 24) _ = _
        simp only [Act.put, List.setIfInBounds_toArray, List.set_cons_zero, List.set_cons_succ, i64_w, i32_w]
        rfl
       refine one_ (i := 6) (N := some 27) (bt 16 255) rfl rfl (one_of HT_.out (by kernel_rfl)) (by decide) (fun K hK => ?_)
       refine goes_ Try.func64 (by kernel_rfl) rfl #[.pointer (some ⟨g, 0, none⟩), .int .i64 a1] (by rfl) rfl rfl (by (try simp only [List.map_toArray, List.map_cons, List.map_nil]); first | done | rfl | (simp only [List.length_drop, List.length_take]; rfl)) ?_
       with_reducible refine (spec_l01Below.calls g s0_0 t348 t349 a1 t350 t351 t352 w0 _ ?side1 ?side2 A107.out).mono ?_
       (case side1 => repeat (first | (with_reducible first | exact HI0.out | apply IsS65.alloc | apply IsS65.drewN | apply IsS65.drew | apply IsS65.set_1 | apply IsS65.set_2 | apply IsS65.farB NB0_306.out | apply IsS65.farB NB0_313.out | apply IsS65.farB NB0_317.out) | exact HI0.out))
       (case side2 => repeat (first | (with_reducible first | exact HB.out | apply below_alloc | apply pw_below_drewN | apply below_drew1 | refine below_set ?_ (IsS65.ge HI0.out) | refine below_set ?_ GE306.out | refine below_set ?_ GE313.out | refine below_set ?_ GE317.out) | exact HB.out))
       rintro e w124 ⟨rfl, hi, hb, hk⟩
       refine ⟨_, rfl, ?_⟩
       have n0_ := k0 (Kd.V_mono (Kd.V_keep (Kd.V_mono (ok := fun k_ => ((((w.heap.size ≤ k_)) ∧ (some k_ ≠ (.slice Ao120 x314001_1.length co120 : Value).ownBlock ∧ (k_ ≠ gb306 ∧ (k_ ≠ gb313 ∧ k_ ≠ g)))) ∧ k_ ≠ gb317)) (kV HO_314000.out) (fun k_ hk_ => (⟨hk_, hk_.1.2.2.2.2⟩ : _ ∧ k_ ≠ g))) hk (fun _ h => h.2)) (fun _ h => h.1))
       have n1_ := k0 (Kd.R_mono (Kd.R_keep (IsS65.apart (show IsS65 w0 _ g s0_0 t348 t349 from by repeat (first | (with_reducible first | exact HI0.out | apply IsS65.alloc | apply IsS65.drewN | apply IsS65.drew | apply IsS65.set_1 | apply IsS65.set_2 | apply IsS65.farB NB0_306.out | apply IsS65.farB NB0_313.out | apply IsS65.farB NB0_317.out) | exact HI0.out)) (kR HO_314001.out) (by decide)) hk (fun _ h => h.2)) (fun _ h => h.1))
       have n2_ := k0 (KeepBut.blk hk (g' := gb306) (o := .cells #[.slice none 0 0, .slice none 0 0] 28 (0, 0)) (kB BK306.out) NB306_0.out (by simp))
       have n3_ := k0 (KeepBut.blk hk (g' := gb313) (o := .cells #[.slice Ao115 x314000_1.length co115, .slice Ao120 x314001_1.length co120] 28 (0, 0)) (kB BK313.out) NB313_0.out (by simp))
       have n4_ := k0 (KeepBut.blk hk (g' := gb317) (o := .cells #[.slice Ao115 x314000_1.length co115, .slice Ao120 x314001_1.length co120] 28 (0, 0)) (kB BK317.out) NB317_0.out (by simp))
       have n5_ := k0 (KeepBut.trans (by repeat (first | (with_reducible first | exact HK.out | apply KeepBut.set_ | apply keep_drewN | apply keep_drew | apply keep_alloc | refine keep_far ?_ GW306.out _ | refine keep_far ?_ GW313.out _ | refine keep_far ?_ GW317.out _) | exact HK.out)) hk (.inl rfl))
       have n6_ := k0 (hb)
       have n7_ := k0 (hi)
       clear HO_314000 HO_314001 BK306 BK313 BK317 HK HB HI0
       have HO_314000 := n0_
       have HO_314001 := n1_
       have BK306 := n2_
       have BK313 := n3_
       have BK317 := n4_
       have HK := n5_
       have HB := n6_
       have HI0 := n7_
       clear n0_ n1_ n2_ n3_ n4_ n5_ n6_ n7_
       (try clear hb)
       (try clear hb2)
       (try clear hk)
       (try clear hi)
       refine hK.out _ _ ⟨(blk_cell BK313.out 0).trans rfl, (blk_cell BK313.out 1).trans rfl⟩ (fun hHeld => ?_)
       clear hK K
       refine norm_ (a' := ?_) ?_ ?_
       rotate_left
       ·show Act.put _ (some 27) _ = _
        simp only [Act.put, List.setIfInBounds_toArray, List.set_cons_zero, List.set_cons_succ, i64_w, i32_w]
        rfl
       refine one_ (i := 8) (N := some 29) (bt 16 511) rfl rfl (one_of HT_.out (by kernel_rfl)) (by decide) (fun K hK => ?_)
       refine goes_ Try.func64 (by kernel_rfl) rfl #[.pointer (some ⟨g, 0, none⟩), .int .i64 20] (by rfl) rfl rfl (by (try simp only [List.map_toArray, List.map_cons, List.map_nil]); first | done | rfl | (simp only [List.length_drop, List.length_take]; rfl)) ?_
       with_reducible refine (spec_l01Below.calls g s0_0 t351 t352 20 t353 t354 t355 w0 _ ?side1 ?side2 A108.out).mono ?_
       (case side1 => repeat (first | (with_reducible first | exact HI0.out | apply IsS65.alloc | apply IsS65.drewN | apply IsS65.drew | apply IsS65.set_1 | apply IsS65.set_2 | apply IsS65.farB NB0_306.out | apply IsS65.farB NB0_313.out | apply IsS65.farB NB0_317.out) | exact HI0.out))
       (case side2 => repeat (first | (with_reducible first | exact HB.out | apply below_alloc | apply pw_below_drewN | apply below_drew1 | refine below_set ?_ (IsS65.ge HI0.out) | refine below_set ?_ GE306.out | refine below_set ?_ GE313.out | refine below_set ?_ GE317.out) | exact HB.out))
       rintro e w125 ⟨rfl, hi, hb, hk⟩
       refine ⟨_, rfl, ?_⟩
       have n0_ := k0 (Kd.V_mono (Kd.V_keep (Kd.V_mono (ok := fun k_ => ((((w.heap.size ≤ k_)) ∧ (some k_ ≠ (.slice Ao120 x314001_1.length co120 : Value).ownBlock ∧ (k_ ≠ gb306 ∧ (k_ ≠ gb313 ∧ k_ ≠ g)))) ∧ k_ ≠ gb317)) (kV HO_314000.out) (fun k_ hk_ => (⟨hk_, hk_.1.2.2.2.2⟩ : _ ∧ k_ ≠ g))) hk (fun _ h => h.2)) (fun _ h => h.1))
       have n1_ := k0 (Kd.R_mono (Kd.R_keep (IsS65.apart (show IsS65 w0 _ g s0_0 t351 t352 from by repeat (first | (with_reducible first | exact HI0.out | apply IsS65.alloc | apply IsS65.drewN | apply IsS65.drew | apply IsS65.set_1 | apply IsS65.set_2 | apply IsS65.farB NB0_306.out | apply IsS65.farB NB0_313.out | apply IsS65.farB NB0_317.out) | exact HI0.out)) (kR HO_314001.out) (by decide)) hk (fun _ h => h.2)) (fun _ h => h.1))
       have n2_ := k0 (KeepBut.blk hk (g' := gb306) (o := .cells #[.slice none 0 0, .slice none 0 0] 28 (0, 0)) (kB BK306.out) NB306_0.out (by simp))
       have n3_ := k0 (KeepBut.blk hk (g' := gb313) (o := .cells #[.slice Ao115 x314000_1.length co115, .slice Ao120 x314001_1.length co120] 28 (0, 0)) (kB BK313.out) NB313_0.out (by simp))
       have n4_ := k0 (KeepBut.blk hk (g' := gb317) (o := .cells #[.slice Ao115 x314000_1.length co115, .slice Ao120 x314001_1.length co120] 28 (0, 0)) (kB BK317.out) NB317_0.out (by simp))
       have n5_ := k0 (KeepBut.trans (by repeat (first | (with_reducible first | exact HK.out | apply KeepBut.set_ | apply keep_drewN | apply keep_drew | apply keep_alloc | refine keep_far ?_ GW306.out _ | refine keep_far ?_ GW313.out _ | refine keep_far ?_ GW317.out _) | exact HK.out)) hk (.inl rfl))
       have n6_ := k0 (hb)
       have n7_ := k0 (hi)
       clear HO_314000 HO_314001 BK306 BK313 BK317 HK HB HI0
       have HO_314000 := n0_
       have HO_314001 := n1_
       have BK306 := n2_
       have BK313 := n3_
       have BK317 := n4_
       have HK := n5_
       have HB := n6_
       have HI0 := n7_
       clear n0_ n1_ n2_ n3_ n4_ n5_ n6_ n7_
       (try clear hb)
       (try clear hb2)
       (try clear hk)
       (try clear hi)
       refine hK.out _ _ ⟨(blk_cell BK313.out 0).trans rfl, (blk_cell BK313.out 1).trans rfl⟩ (fun hHeld => ?_)
       clear hK K
       refine norm_ (a' := ?_) ?_ ?_
       rotate_left
       ·show Act.put _ (some 29) _ = _
        simp only [Act.put, List.setIfInBounds_toArray, List.set_cons_zero, List.set_cons_succ, i64_w, i32_w]
        rfl
       refine kP 9 30 16 1023 HT_.out ?_
       refine one_ (i := 10) (N := some 31) (bt 16 2047) rfl rfl (one_of HT_.out (by kernel_rfl)) (by decide) (fun K hK => ?_)
       refine goes_ Try.func32 (by kernel_rfl) rfl #[.agg #[.slice Ao115 x314000_1.length co115, .slice Ao120 x314001_1.length co120], .int .i64 t347, .int .i64 t350, .int .i64 (wrap64 (1 + t353))] (by rfl) rfl rfl (by (try simp only [List.map_toArray, List.map_cons, List.map_nil]); first | done | rfl | (simp only [List.length_drop, List.length_take]; rfl)) ?_
       with_reducible refine (spec_Hand.calls k1 _ _ x314000_1 _ _ x314001_1 t347 t350 (wrap64 (1 + t353)) t356 t359 true _ ?side1 ?side2 ?side3 ?side4 A109.out).mono ?_
       (case side1 => exact kC (Kd.V_reads' HO_314000.out).2.2)
       (case side2 => exact (Kd.V_reads' HO_314000.out).2.1)
       (case side3 => exact kC (Kd.R_reads' HO_314001.out).2.2)
       (case side4 => exact (Kd.R_reads' HO_314001.out).2.1)
       rintro e w126 ⟨v357, v360, rfl, ho0, ho1, hb⟩
       refine ⟨_, rfl, ?_⟩
       have n0_ := k0 (Kd.V_elder' (kV HO_314000.out) (Kd.R_base ho1) hb)
       have n1_ := k0 (Kd.R_elder' (kR HO_314001.out) (Kd.R_base ho1) hb)
       have n2_ := k0 (Kd.V_lower (Kd.V_mono (ok' := fun k_ => (w.heap.size ≤ k_) ∧ some k_ ≠ (v360 : Value).ownBlock ∧ some k_ ≠ (.slice Ao120 x314001_1.length co120 : Value).ownBlock ∧ k_ ≠ gb306 ∧ k_ ≠ gb313 ∧ k_ ≠ gb317 ∧ k_ ≠ g) ho0 (fun k_ hk_ => ⟨(Nat.le_trans (keep_size (w := w) (g := g) (row := none) (by repeat (first | (with_reducible first | exact HK.out | apply KeepBut.set_ | apply keep_drewN | apply keep_drew | apply keep_alloc | refine keep_far ?_ GW306.out _ | refine keep_far ?_ GW313.out _ | refine keep_far ?_ GW317.out _) | exact HK.out))) hk_.1), hk_.2, (Kd.fresh' (Kd.R_lt (kR HO_314001.out)) k_ hk_.1), (Kd.freshB (g := gb306) (o := .cells #[.slice none 0 0, .slice none 0 0] 28 (0, 0)) (kB BK306.out) k_ hk_.1), (Kd.freshB (g := gb313) (o := .cells #[.slice Ao115 x314000_1.length co115, .slice Ao120 x314001_1.length co120] 28 (0, 0)) (kB BK313.out) k_ hk_.1), (Kd.freshB (g := gb317) (o := .cells #[.slice Ao115 x314000_1.length co115, .slice Ao120 x314001_1.length co120] 28 (0, 0)) (kB BK317.out) k_ hk_.1), (IsS65.fresh (by repeat (first | (with_reducible first | exact HI0.out | apply IsS65.alloc | apply IsS65.drewN | apply IsS65.drew | apply IsS65.set_1 | apply IsS65.set_2 | apply IsS65.farB NB0_306.out | apply IsS65.farB NB0_313.out | apply IsS65.farB NB0_317.out) | exact HI0.out)) k_ hk_.1)⟩)) (keep_size (w := w) (g := g) (row := none) (by repeat (first | (with_reducible first | exact HK.out | apply KeepBut.set_ | apply keep_drewN | apply keep_drew | apply keep_alloc | refine keep_far ?_ GW306.out _ | refine keep_far ?_ GW313.out _ | refine keep_far ?_ GW317.out _) | exact HK.out))))
       have n3_ := k0 (Kd.R_lower (Kd.R_new' (Kd.R_newM (M := fun k_ => (w.heap.size ≤ k_)) (Kd.R_mono (ok' := fun k_ => True) ho1 (fun _ hk_ => trivial)) (keep_size (w := w) (g := g) (row := none) (by repeat (first | (with_reducible first | exact HK.out | apply KeepBut.set_ | apply keep_drewN | apply keep_drew | apply keep_alloc | refine keep_far ?_ GW306.out _ | refine keep_far ?_ GW313.out _ | refine keep_far ?_ GW317.out _) | exact HK.out))) (fun k_ h_ => h_)) (Kd.R_lt (kR HO_314001.out))) (keep_size (w := w) (g := g) (row := none) (by repeat (first | (with_reducible first | exact HK.out | apply KeepBut.set_ | apply keep_drewN | apply keep_drew | apply keep_alloc | refine keep_far ?_ GW306.out _ | refine keep_far ?_ GW313.out _ | refine keep_far ?_ GW317.out _) | exact HK.out))))
       have n4_ := k0 (kb BK306.out hb)
       have n5_ := k0 (kb BK313.out hb)
       have n6_ := k0 (IsS65.below (by repeat (first | (with_reducible first | exact HI0.out | apply IsS65.alloc | apply IsS65.drewN | apply IsS65.drew | apply IsS65.set_1 | apply IsS65.set_2 | apply IsS65.farB NB0_306.out | apply IsS65.farB NB0_313.out | apply IsS65.farB NB0_317.out) | exact HI0.out)) hb)
       have n7_ := k0 (kb BK317.out hb)
       have n8_ := k0 (KeepBut.trans (by repeat (first | (with_reducible first | exact HK.out | apply KeepBut.set_ | apply keep_drewN | apply keep_drew | apply keep_alloc | refine keep_far ?_ GW306.out _ | refine keep_far ?_ GW313.out _ | refine keep_far ?_ GW317.out _) | exact HK.out)) (KeepBut.of_below hb g none) (.inl rfl))
       have n9_ := k0 (below_step (by repeat (first | (with_reducible first | exact HB.out | apply below_alloc | apply pw_below_drewN | apply below_drew1 | refine below_set ?_ (IsS65.ge HI0.out) | refine below_set ?_ GE306.out | refine below_set ?_ GE313.out | refine below_set ?_ GE317.out) | exact HB.out)) hb)
       clear HO_314000 HO_314001 BK306 BK313 HI0 BK317 HK HB
       have HO_314000 := n0_
       have HO_314001 := n1_
       have HO358 := n2_
       have HO361 := n3_
       have BK306 := n4_
       have BK313 := n5_
       have HI0 := n6_
       have BK317 := n7_
       have HK := n8_
       have HB := n9_
       clear n0_ n1_ n2_ n3_ n4_ n5_ n6_ n7_ n8_ n9_
       (try clear hb)
       (try clear hb2)
       (try clear hk)
       (try clear hi)
       (try clear ho0)
       (try clear ho1)
       obtain ⟨Ao127, co127, eo127⟩ := Kd.V_slice HO358.out
       (first | subst eo127 | (injection eo127 with f1_ f2_ f3_; have f4_ := f1_.symm; have f5_ := f3_.symm; clear f1_ f2_ f3_; subst f4_; subst f5_))
       obtain ⟨Ao129, co129, eo129⟩ := Kd.R_slice HO361.out
       (first | subst eo129 | (injection eo129 with f1_ f2_ f3_; have f4_ := f1_.symm; have f5_ := f3_.symm; clear f1_ f2_ f3_; subst f4_; subst f5_))
       refine hK.out _ _ ⟨(blk_cell BK313.out 0).trans rfl, (blk_cell BK313.out 1).trans rfl⟩ (fun hHeld => ?_)
       clear hK K
       refine norm_ (a' := ?_) ?_ ?_
       rotate_left
       ·show Act.put _ (some 31) _ = _
        simp only [Act.put, List.setIfInBounds_toArray, List.set_cons_zero, List.set_cons_succ, i64_w, i32_w]
        rfl
       refine kP 11 20 16 4095 HT_.out ?_
       refine kP 12 32 16 8191 HT_.out ?_
       refine kP 13 33 16 16383 HT_.out ?_
       refine one_ (i := 14) (N := none) (bt 16 32767) rfl rfl (one_of HT_.out (by kernel_rfl)) (by decide) (fun K hK => ?_)
       have hs128 : w126.cell? ⟨gb317, 0, none⟩ = some (.slice Ao115 x314000_1.length co115) := (blk_cell BK317.out 0).trans rfl
       have hfs128 := blk_frozen BK317.out 0
       have hns128_0 := NB306_317.out
       have hns128_1 := NB313_317.out
       have hms128_0 := NB317_306.out
       have hms128_1 := NB317_313.out
       have hs130 : w126.cell? ⟨gb317, 1, none⟩ = some (.slice Ao120 x314001_1.length co120) := (blk_cell BK317.out 1).trans rfl
       have hfs130 := blk_frozen BK317.out 1
       have hns130_0 := NB306_317.out
       have hns130_1 := NB313_317.out
       have hms130_0 := NB317_306.out
       have hms130_1 := NB317_313.out
       refine skip_ (w1 := ?_) (by rfl) rfl ?_ ?_
       rotate_left
       ·go_simp
        rfl
       refine hK.out _ _ ⟨((cell_far (p := ⟨gb317, _, none⟩) NB313_317.out _).trans (((cell_far (p := ⟨gb317, _, none⟩) NB313_317.out _).trans (hHeld.1)))), ((cell_far (p := ⟨gb317, _, none⟩) NB313_317.out _).trans (((cell_far (p := ⟨gb317, _, none⟩) NB313_317.out _).trans (hHeld.2))))⟩ (fun hHeld => ?_)
       clear hK K
       refine kP 15 8 16 65535 HT_.out ?_
       refine done_ (done_of HT_.out (by kernel_rfl)) ?_
       have hcz131_0 : w126.cell? ⟨gb317, 0, none⟩ = some (.slice Ao115 x314000_1.length co115) := kx BK317.out
       have hcz131_1 : w126.cell? ⟨gb317, 1, none⟩ = some (.slice Ao120 x314001_1.length co120) := kx BK317.out
       have hfz131_0 := blk_frozen BK317.out 0
       have hfz131_1 := blk_frozen BK317.out 1
       have hcz132_0 : w126.cell? ⟨gb313, 0, none⟩ = some (.slice Ao115 x314000_1.length co115) := kx BK313.out
       have hcz132_1 : w126.cell? ⟨gb313, 1, none⟩ = some (.slice Ao120 x314001_1.length co120) := kx BK313.out
       have hfz132_0 := blk_frozen BK313.out 0
       have hfz132_1 := blk_frozen BK313.out 1
       try go_wp2
       go_roundg k1
       case measure => have := HK1.out; omega
       case rel => exact ⟨(wrap64 (x6_1 - 1)), (t354), (t355), (t356), (t359), (.slice Ao127 t356.length co127), (.slice Ao129 t359.length co129), (by first | rfl | (simp; done) | (simp [*]; done)), H', ⟨by have := HK1.out; omega⟩, ⟨by (with_reducible repeat (first | apply Kd.V_alloc | apply Kd.V_drewN | apply Kd.V_drew)); exact Kd.V_mono (Kd.V_far (p := ⟨gb313, 1, none⟩) (Kd.V_far (p := ⟨gb313, 0, none⟩) (Kd.V_far (p := ⟨gb317, 1, none⟩) (Kd.V_far (p := ⟨gb317, 0, none⟩) (Kd.V_mono (Kd.V_mono HO358.out (fun k_ hk => (⟨hk, hk.2.2.2.2.2.1⟩ : _ ∧ k_ ≠ gb317))) (fun k_ hk => (⟨hk, hk.1.2.2.2.2.1⟩ : _ ∧ k_ ≠ gb313))) (fun _ hk => hk.1.2) (.slice Ao127 t356.length co127)) (fun _ hk => hk.1.2) (.slice Ao129 t359.length co129)) (fun _ hk => hk.2) (.slice Ao127 t356.length co127)) (fun _ hk => hk.2) (.slice Ao129 t359.length co129)) (fun _ hk => ⟨hk.1.1.1, ⟨hk.1.1.2.1, ⟨hk.1.1.2.2.2.1, ⟨hk.1.1.2.2.2.2.1, hk.1.1.2.2.2.2.2.2⟩⟩⟩⟩)⟩, ⟨by (with_reducible repeat (first | apply Kd.R_alloc | apply Kd.R_drewN | apply Kd.R_drew)); exact Kd.R_mono (Kd.R_far (p := ⟨gb313, 1, none⟩) (Kd.R_far (p := ⟨gb313, 0, none⟩) (Kd.R_far (p := ⟨gb317, 1, none⟩) (Kd.R_far (p := ⟨gb317, 0, none⟩) (Kd.R_types (Kd.R_types HO361.out BK317.out (by decide)) BK313.out (by decide)) (fun _ hk => hk.1.2) (.slice Ao127 t356.length co127)) (fun _ hk => hk.1.2) (.slice Ao129 t359.length co129)) (fun _ hk => hk.2) (.slice Ao127 t356.length co127)) (fun _ hk => hk.2) (.slice Ao129 t359.length co129)) (fun _ hk => hk.1.1.1.1)⟩, ⟨by (with_reducible repeat first | apply k1 | apply k2 | apply k3); refine blk_far ?_ NB306_313.out _; (with_reducible repeat first | apply k1 | apply k2 | apply k3); refine blk_far ?_ NB306_313.out _; (with_reducible repeat first | apply k1 | apply k2 | apply k3); refine blk_far ?_ NB306_317.out _; (with_reducible repeat first | apply k1 | apply k2 | apply k3); refine blk_far ?_ NB306_317.out _; (with_reducible repeat first | apply k1 | apply k2 | apply k3); exact BK306.out⟩, ⟨by (with_reducible repeat first | apply k1 | apply k2 | apply k3); refine blk_put (cs := #[.slice Ao127 t356.length co127, .slice Ao120 x314001_1.length co120]) ?_ 1 _ rfl; (with_reducible repeat first | apply k1 | apply k2 | apply k3); refine blk_put (cs := #[.slice Ao115 x314000_1.length co115, .slice Ao120 x314001_1.length co120]) ?_ 0 _ rfl; (with_reducible repeat first | apply k1 | apply k2 | apply k3); refine blk_far ?_ NB313_317.out _; (with_reducible repeat first | apply k1 | apply k2 | apply k3); refine blk_far ?_ NB313_317.out _; (with_reducible repeat first | apply k1 | apply k2 | apply k3); exact BK313.out⟩, ⟨by repeat (first | (with_reducible first | exact HI0.out | apply IsS65.alloc | apply IsS65.drewN | apply IsS65.drew | apply IsS65.set_1 | apply IsS65.set_2 | apply IsS65.farB NB0_306.out | apply IsS65.farB NB0_313.out | apply IsS65.farB NB0_317.out) | exact HI0.out)⟩, ⟨by repeat (first | (with_reducible first | exact HK.out | apply KeepBut.set_ | apply keep_drewN | apply keep_drew | apply keep_alloc | refine keep_far ?_ GW306.out _ | refine keep_far ?_ GW313.out _ | refine keep_far ?_ GW317.out _) | exact HK.out)⟩, ⟨by repeat (first | (with_reducible first | exact HB.out | apply below_alloc | apply pw_below_drewN | apply below_drew1 | refine below_set ?_ (IsS65.ge HI0.out) | refine below_set ?_ GE306.out | refine below_set ?_ GE313.out | refine below_set ?_ GE317.out) | exact HB.out)⟩⟩
      ·replace c110 := Bool.eq_false_iff.mpr c110
       subst c110
       have H1 : (spec_l06Draw.l0 k1 a1 (wrap64 (x6_1 - 1)) s0_0 t354 t355 x314000_1 x314001_1) = some (r1, r2, r3, r4) := by rw [if_neg (show ¬ (false = true) by decide)] at H; exact H
       clear H
       have H := H1
       clear H1
       have H' := Aside0.mk H
       clear H
       have hnb133 := NB313_306.out
       have hnc133 := NB306_313.out
       have hnb134 := NB313_0.out
       have hnc134 := NB0_313.out
       have hcz135_0 : wr.cell? ⟨gb313, 0, none⟩ = some (u314000) := kx BK313.out
       have hcz135_1 : wr.cell? ⟨gb313, 1, none⟩ = some (u314001) := kx BK313.out
       have hfz135_0 := blk_frozen BK313.out 0
       have hfz135_1 := blk_frozen BK313.out 1
       try go_wp2_with (first | ((with_reducible refine gate_dst (N := 7) rfl ?_); refine kE (N := 7) (cs := #[.slice none 0 0, .slice none 0 0]) (t := 28) ?_; intro gb317 hg w136 hbox hb; have n0_ := k0 (Kd.V_below (Kd.V_elderB (kV HO_314000.out) gb317 (Nat.le_of_eq hg.symm)) hb); have n1_ := k0 (Kd.R_below (kR HO_314001.out) hb); have n2_ := k0 (kb BK306.out hb); have n3_ := k0 (kb BK313.out hb); have n4_ := k0 (IsS65.below (by repeat (first | (with_reducible first | exact HI0.out | apply IsS65.alloc | apply IsS65.drewN | apply IsS65.drew | apply IsS65.set_1 | apply IsS65.set_2 | apply IsS65.farB NB0_306.out | apply IsS65.farB NB0_313.out) | exact HI0.out)) hb); have n5_ := k0 (KeepBut.trans (by repeat (first | (with_reducible first | exact HK.out | apply KeepBut.set_ | apply keep_drewN | apply keep_drew | apply keep_alloc | refine keep_far ?_ GW306.out _ | refine keep_far ?_ GW313.out _) | exact HK.out)) (KeepBut.of_below hb g none) (.inl rfl)); have n6_ := k0 (below_step (by repeat (first | (with_reducible first | exact HB.out | apply below_alloc | apply pw_below_drewN | apply below_drew1 | refine below_set ?_ (IsS65.ge HI0.out) | refine below_set ?_ GE306.out | refine below_set ?_ GE313.out) | exact HB.out)) hb); have n7_ := k0 (hbox); have n8_ := k0 ((by rw [hg]; exact (keep_size (w := w) (g := g) (row := none) (by repeat (first | (with_reducible first | exact HK.out | apply KeepBut.set_ | apply keep_drewN | apply keep_drew | apply keep_alloc | refine keep_far ?_ GW306.out _ | refine keep_far ?_ GW313.out _) | exact HK.out))) : w.heap.size ≤ gb317)); have n9_ := k0 ((Nat.le_trans HW0.out (by rw [hg]; exact (keep_size (w := w) (g := g) (row := none) (by repeat (first | (with_reducible first | exact HK.out | apply KeepBut.set_ | apply keep_drewN | apply keep_drew | apply keep_alloc | refine keep_far ?_ GW306.out _ | refine keep_far ?_ GW313.out _) | exact HK.out))) : w.heap.size ≤ gb317) : w0.heap.size ≤ gb317)); have n10_ := k0 ((by rw [hg]; exact Nat.ne_of_lt (blk_lt (g := gb306) (o := .cells #[.slice none 0 0, .slice none 0 0] 28 (0, 0)) (kB BK306.out)) : gb306 ≠ gb317)); have n11_ := k0 ((by rw [hg]; exact Nat.ne_of_gt (blk_lt (g := gb306) (o := .cells #[.slice none 0 0, .slice none 0 0] 28 (0, 0)) (kB BK306.out)) : gb317 ≠ gb306)); have n12_ := k0 ((by rw [hg]; exact Nat.ne_of_lt (blk_lt (g := gb313) (o := .cells #[u314000, u314001] 28 (0, 0)) (kB BK313.out)) : gb313 ≠ gb317)); have n13_ := k0 ((by rw [hg]; exact Nat.ne_of_gt (blk_lt (g := gb313) (o := .cells #[u314000, u314001] 28 (0, 0)) (kB BK313.out)) : gb317 ≠ gb313)); have n14_ := k0 ((by rw [hg]; exact Nat.ne_of_lt (IsS65.lt (show IsS65 w0 _ g s0_0 x1001_1 x1002_1 from by repeat (first | (with_reducible first | exact HI0.out | apply IsS65.alloc | apply IsS65.drewN | apply IsS65.drew | apply IsS65.set_1 | apply IsS65.set_2 | apply IsS65.farB NB0_306.out | apply IsS65.farB NB0_313.out) | exact HI0.out))) : g ≠ gb317)); have n15_ := k0 ((by rw [hg]; exact Nat.ne_of_gt (IsS65.lt (show IsS65 w0 _ g s0_0 x1001_1 x1002_1 from by repeat (first | (with_reducible first | exact HI0.out | apply IsS65.alloc | apply IsS65.drewN | apply IsS65.drew | apply IsS65.set_1 | apply IsS65.set_2 | apply IsS65.farB NB0_306.out | apply IsS65.farB NB0_313.out) | exact HI0.out))) : gb317 ≠ g)); clear HO_314000; clear HO_314001; clear BK306; clear BK313; clear HI0; clear HK; clear HB; have HO_314000 := n0_; have HO_314001 := n1_; have BK306 := n2_; have BK313 := n3_; have HI0 := n4_; have HK := n5_; have HB := n6_; have BK317 := n7_; have GW317 := n8_; have GE317 := n9_; have NB306_317 := n10_; have NB317_306 := n11_; have NB313_317 := n12_; have NB317_313 := n13_; have NB0_317 := n14_; have NB317_0 := n15_; clear n0_ n1_ n2_ n3_ n4_ n5_ n6_ n7_ n8_ n9_ n10_ n11_ n12_ n13_ n14_ n15_; clear hb hbox hg; obtain ⟨Ao137, co137, eo137⟩ := Kd.V_slice HO_314000.out; subst eo137; have hnb138 := NB317_306.out; have hnc138 := NB306_317.out; have hnb139 := NB317_313.out; have hnc139 := NB313_317.out; have hnb140 := NB317_0.out; have hnc140 := NB0_317.out; have hcz141_0 : w136.cell? ⟨gb317, 0, none⟩ = some (.slice none 0 0) := kx BK317.out; have hcz141_1 : w136.cell? ⟨gb317, 1, none⟩ = some (.slice none 0 0) := kx BK317.out; have hfz141_0 := blk_frozen BK317.out 0; have hfz141_1 := blk_frozen BK317.out 1; obtain ⟨Ao142, co142, eo142⟩ := Kd.R_slice HO_314001.out; subst eo142) | ((with_reducible refine gate_callee (f := 64) rfl ?_); refine kG (some 19) Try.func64 #[.pointer (some ⟨g, 0, none⟩), .int .i64 3] ?_; (with_reducible refine (spec_l01Below.calls g s0_0 x1001_1 x1002_1 3 t318 t319 t320 w0 _ ?side1 ?side2 A15.out).mono ?_); (case side1 => repeat (first | (with_reducible first | exact HI0.out | apply IsS65.alloc | apply IsS65.drewN | apply IsS65.drew | apply IsS65.set_1 | apply IsS65.set_2 | apply IsS65.farB NB0_306.out | apply IsS65.farB NB0_313.out | apply IsS65.farB NB0_317.out) | exact HI0.out)); (case side2 => repeat (first | (with_reducible first | exact HB.out | apply below_alloc | apply pw_below_drewN | apply below_drew1 | refine below_set ?_ (IsS65.ge HI0.out) | refine below_set ?_ GE306.out | refine below_set ?_ GE313.out | refine below_set ?_ GE317.out) | exact HB.out)); rintro e w143 ⟨rfl, hi, hb, hk⟩; refine ⟨_, rfl, ?_⟩; have n0_ := k0 (Kd.V_mono (Kd.V_keep (Kd.V_mono (ok := fun k_ => ((((w.heap.size ≤ k_)) ∧ (some k_ ≠ (.slice Ao142 x314001_1.length co142 : Value).ownBlock ∧ (k_ ≠ gb306 ∧ (k_ ≠ gb313 ∧ k_ ≠ g)))) ∧ k_ ≠ gb317)) (by (with_reducible repeat (first | apply Kd.V_alloc | apply Kd.V_drewN | apply Kd.V_drew)); exact (Kd.V_mono (Kd.V_far (p := ⟨gb317, 1, none⟩) (Kd.V_far (p := ⟨gb317, 0, none⟩) (Kd.V_mono HO_314000.out (fun k_ hk => (⟨hk, hk.2⟩ : _ ∧ k_ ≠ gb317))) (fun _ hk => hk.2) (.slice Ao137 x314000_1.length co137)) (fun _ hk => hk.2) (.slice Ao142 x314001_1.length co142)) (fun _ h_ => h_.1))) (fun k_ hk_ => (⟨hk_, hk_.1.2.2.2.2⟩ : _ ∧ k_ ≠ g))) hk (fun _ h => h.2)) (fun _ h => h.1)); have n1_ := k0 (Kd.R_mono (Kd.R_keep (IsS65.apart (show IsS65 w0 _ g s0_0 x1001_1 x1002_1 from by repeat (first | (with_reducible first | exact HI0.out | apply IsS65.alloc | apply IsS65.drewN | apply IsS65.drew | apply IsS65.set_1 | apply IsS65.set_2 | apply IsS65.farB NB0_306.out | apply IsS65.farB NB0_313.out | apply IsS65.farB NB0_317.out) | exact HI0.out)) (by (with_reducible repeat (first | apply Kd.R_alloc | apply Kd.R_drewN | apply Kd.R_drew)); exact (Kd.R_mono (Kd.R_far (p := ⟨gb317, 1, none⟩) (Kd.R_far (p := ⟨gb317, 0, none⟩) (Kd.R_types HO_314001.out BK317.out (by decide)) (fun _ hk => hk.2) (.slice Ao137 x314000_1.length co137)) (fun _ hk => hk.2) (.slice Ao142 x314001_1.length co142)) (fun _ h_ => h_.1))) (by decide)) hk (fun _ h => h.2)) (fun _ h => h.1)); have n2_ := k0 (KeepBut.blk hk (g' := gb306) (o := .cells #[.slice none 0 0, .slice none 0 0] 28 (0, 0)) (by (with_reducible repeat first | apply k1 | apply k2 | apply k3); refine blk_far ?_ NB306_317.out _; (with_reducible repeat first | apply k1 | apply k2 | apply k3); refine blk_far ?_ NB306_317.out _; (with_reducible repeat first | apply k1 | apply k2 | apply k3); exact BK306.out) NB306_0.out (by simp)); have n3_ := k0 (KeepBut.blk hk (g' := gb313) (o := .cells #[.slice Ao137 x314000_1.length co137, .slice Ao142 x314001_1.length co142] 28 (0, 0)) (by (with_reducible repeat first | apply k1 | apply k2 | apply k3); refine blk_far ?_ NB313_317.out _; (with_reducible repeat first | apply k1 | apply k2 | apply k3); refine blk_far ?_ NB313_317.out _; (with_reducible repeat first | apply k1 | apply k2 | apply k3); exact BK313.out) NB313_0.out (by simp)); have n4_ := k0 (KeepBut.blk hk (g' := gb317) (o := .cells #[.slice Ao137 x314000_1.length co137, .slice Ao142 x314001_1.length co142] 28 (0, 0)) (by (with_reducible repeat first | apply k1 | apply k2 | apply k3); refine blk_put (cs := #[.slice Ao137 x314000_1.length co137, .slice none 0 0]) ?_ 1 _ rfl; (with_reducible repeat first | apply k1 | apply k2 | apply k3); refine blk_put (cs := #[.slice none 0 0, .slice none 0 0]) ?_ 0 _ rfl; (with_reducible repeat first | apply k1 | apply k2 | apply k3); exact BK317.out) NB317_0.out (by simp)); have n5_ := k0 (KeepBut.trans (by repeat (first | (with_reducible first | exact HK.out | apply KeepBut.set_ | apply keep_drewN | apply keep_drew | apply keep_alloc | refine keep_far ?_ GW306.out _ | refine keep_far ?_ GW313.out _ | refine keep_far ?_ GW317.out _) | exact HK.out)) hk (.inl rfl)); have n6_ := k0 (hb); have n7_ := k0 (hi); clear HO_314000; clear HO_314001; clear BK306; clear BK313; clear BK317; clear HK; clear HB; clear HI0; have HO_314000 := n0_; have HO_314001 := n1_; have BK306 := n2_; have BK313 := n3_; have BK317 := n4_; have HK := n5_; have HB := n6_; have HI0 := n7_; clear n0_ n1_ n2_ n3_ n4_ n5_ n6_ n7_; (try clear hb); (try clear hb2); (try clear hk); (try clear hi)))
       have n0_ := k0 (Kd.V_drew HO_314000.out)
       have n1_ := k0 (Kd.R_drew HO_314001.out)
       have n2_ := k0 (blk_drew BK306.out)
       have n3_ := k0 (blk_drew BK313.out)
       have n4_ := k0 (blk_drew BK317.out)
       have n5_ := k0 (IsS65.drew HI0.out)
       have n6_ := k0 (keep_drew HK.out)
       have n7_ := k0 (below_drew1 HB.out)
       clear HO_314000 HO_314001 BK306 BK313 BK317 HI0 HK HB
       have HO_314000 := n0_
       have HO_314001 := n1_
       have BK306 := n2_
       have BK313 := n3_
       have BK317 := n4_
       have HI0 := n5_
       have HK := n6_
       have HB := n7_
       clear n0_ n1_ n2_ n3_ n4_ n5_ n6_ n7_
       refine start_ (n := 16) (S := fun w' => w'.cell? ⟨gb313, 0, none⟩ = some (.slice Ao137 x314000_1.length co137) ∧ w'.cell? ⟨gb313, 1, none⟩ = some (.slice Ao142 x314001_1.length co142)) (ds := []) #[false, false, false, false, false, false, false, false, false, false, false, false, false, false, false, false] (by kernel_rfl) rfl rfl ⟨(blk_cell BK313.out 0).trans rfl, (blk_cell BK313.out 1).trans rfl⟩ (fun hHeld => ?_); refine with_tabW spec_l06Draw.tab8 spec_l06Draw.bits8 (fun HT_ HW_ => ?_)
       generalize w143.drew = w144 at HO_314000 HO_314001 BK306 BK313 BK317 HI0 HK HB hHeld ⊢
       refine kP 1 22 16 2 HT_.out ?_
       refine kP 2 23 16 6 HT_.out ?_
       refine kP 4 25 16 22 HT_.out ?_
       refine kP 5 26 16 54 HT_.out ?_
       refine kP 7 28 16 182 HT_.out ?_
       refine take_ (i := 0) (N := some 21) (v := ?_) (a' := ?_) (bt 16 183) rfl rfl (take_ofW HT_.out HW_.out (by kernel_rfl)) (fun _ _ _ h => h) (Or.inl ⟨by rfl, ?_⟩) hHeld ?_ ?_
       rotate_left
       ·rintro w' ⟨s0, s1⟩
        go_simp
        with_reducible rfl
       rotate_left
       ·simp only [Act.put, List.setIfInBounds_toArray, List.set_cons_zero, List.set_cons_succ, i64_w, i32_w]
        rfl
       refine one_ (i := 3) (N := some 24) (bt 16 191) rfl rfl (one_of HT_.out (by kernel_rfl)) (by decide) (fun K hK => ?_)
       refine goes_ Try.func64 (by kernel_rfl) rfl #[.pointer (some ⟨g, 0, none⟩), .int .i64 a1] (by rfl) rfl rfl (by (try simp only [List.map_toArray, List.map_cons, List.map_nil]); first | done | rfl | (simp only [List.length_drop, List.length_take]; rfl)) ?_
       with_reducible refine (spec_l01Below.calls g s0_0 t319 t320 a1 t347 t348 t349 w0 _ ?side1 ?side2 A106.out).mono ?_
       (case side1 => repeat (first | (with_reducible first | exact HI0.out | apply IsS65.alloc | apply IsS65.drewN | apply IsS65.drew | apply IsS65.set_1 | apply IsS65.set_2 | apply IsS65.farB NB0_306.out | apply IsS65.farB NB0_313.out | apply IsS65.farB NB0_317.out) | exact HI0.out))
       (case side2 => repeat (first | (with_reducible first | exact HB.out | apply below_alloc | apply pw_below_drewN | apply below_drew1 | refine below_set ?_ (IsS65.ge HI0.out) | refine below_set ?_ GE306.out | refine below_set ?_ GE313.out | refine below_set ?_ GE317.out) | exact HB.out))
       rintro e w145 ⟨rfl, hi, hb, hk⟩
       refine ⟨_, rfl, ?_⟩
       have n0_ := k0 (Kd.V_mono (Kd.V_keep (Kd.V_mono (ok := fun k_ => ((((w.heap.size ≤ k_)) ∧ (some k_ ≠ (.slice Ao142 x314001_1.length co142 : Value).ownBlock ∧ (k_ ≠ gb306 ∧ (k_ ≠ gb313 ∧ k_ ≠ g)))) ∧ k_ ≠ gb317)) (kV HO_314000.out) (fun k_ hk_ => (⟨hk_, hk_.1.2.2.2.2⟩ : _ ∧ k_ ≠ g))) hk (fun _ h => h.2)) (fun _ h => h.1))
       have n1_ := k0 (Kd.R_mono (Kd.R_keep (IsS65.apart (show IsS65 w0 _ g s0_0 t319 t320 from by repeat (first | (with_reducible first | exact HI0.out | apply IsS65.alloc | apply IsS65.drewN | apply IsS65.drew | apply IsS65.set_1 | apply IsS65.set_2 | apply IsS65.farB NB0_306.out | apply IsS65.farB NB0_313.out | apply IsS65.farB NB0_317.out) | exact HI0.out)) (kR HO_314001.out) (by decide)) hk (fun _ h => h.2)) (fun _ h => h.1))
       have n2_ := k0 (KeepBut.blk hk (g' := gb306) (o := .cells #[.slice none 0 0, .slice none 0 0] 28 (0, 0)) (kB BK306.out) NB306_0.out (by simp))
       have n3_ := k0 (KeepBut.blk hk (g' := gb313) (o := .cells #[.slice Ao137 x314000_1.length co137, .slice Ao142 x314001_1.length co142] 28 (0, 0)) (kB BK313.out) NB313_0.out (by simp))
       have n4_ := k0 (KeepBut.blk hk (g' := gb317) (o := .cells #[.slice Ao137 x314000_1.length co137, .slice Ao142 x314001_1.length co142] 28 (0, 0)) (kB BK317.out) NB317_0.out (by simp))
       have n5_ := k0 (KeepBut.trans (by repeat (first | (with_reducible first | exact HK.out | apply KeepBut.set_ | apply keep_drewN | apply keep_drew | apply keep_alloc | refine keep_far ?_ GW306.out _ | refine keep_far ?_ GW313.out _ | refine keep_far ?_ GW317.out _) | exact HK.out)) hk (.inl rfl))
       have n6_ := k0 (hb)
       have n7_ := k0 (hi)
       clear HO_314000 HO_314001 BK306 BK313 BK317 HK HB HI0
       have HO_314000 := n0_
       have HO_314001 := n1_
       have BK306 := n2_
       have BK313 := n3_
       have BK317 := n4_
       have HK := n5_
       have HB := n6_
       have HI0 := n7_
       clear n0_ n1_ n2_ n3_ n4_ n5_ n6_ n7_
       (try clear hb)
       (try clear hb2)
       (try clear hk)
       (try clear hi)
       refine hK.out _ _ ⟨(blk_cell BK313.out 0).trans rfl, (blk_cell BK313.out 1).trans rfl⟩ (fun hHeld => ?_)
       clear hK K
       refine norm_ (a' := ?_) ?_ ?_
       rotate_left
       ·show Act.put _ (some 24) _ = _
        simp only [Act.put, List.setIfInBounds_toArray, List.set_cons_zero, List.set_cons_succ, i64_w, i32_w]
        rfl
       refine one_ (i := 6) (N := some 27) (bt 16 255) rfl rfl (one_of HT_.out (by kernel_rfl)) (by decide) (fun K hK => ?_)
       refine goes_ Try.func64 (by kernel_rfl) rfl #[.pointer (some ⟨g, 0, none⟩), .int .i64 a1] (by rfl) rfl rfl (by (try simp only [List.map_toArray, List.map_cons, List.map_nil]); first | done | rfl | (simp only [List.length_drop, List.length_take]; rfl)) ?_
       with_reducible refine (spec_l01Below.calls g s0_0 t348 t349 a1 t350 t351 t352 w0 _ ?side1 ?side2 A107.out).mono ?_
       (case side1 => repeat (first | (with_reducible first | exact HI0.out | apply IsS65.alloc | apply IsS65.drewN | apply IsS65.drew | apply IsS65.set_1 | apply IsS65.set_2 | apply IsS65.farB NB0_306.out | apply IsS65.farB NB0_313.out | apply IsS65.farB NB0_317.out) | exact HI0.out))
       (case side2 => repeat (first | (with_reducible first | exact HB.out | apply below_alloc | apply pw_below_drewN | apply below_drew1 | refine below_set ?_ (IsS65.ge HI0.out) | refine below_set ?_ GE306.out | refine below_set ?_ GE313.out | refine below_set ?_ GE317.out) | exact HB.out))
       rintro e w146 ⟨rfl, hi, hb, hk⟩
       refine ⟨_, rfl, ?_⟩
       have n0_ := k0 (Kd.V_mono (Kd.V_keep (Kd.V_mono (ok := fun k_ => ((((w.heap.size ≤ k_)) ∧ (some k_ ≠ (.slice Ao142 x314001_1.length co142 : Value).ownBlock ∧ (k_ ≠ gb306 ∧ (k_ ≠ gb313 ∧ k_ ≠ g)))) ∧ k_ ≠ gb317)) (kV HO_314000.out) (fun k_ hk_ => (⟨hk_, hk_.1.2.2.2.2⟩ : _ ∧ k_ ≠ g))) hk (fun _ h => h.2)) (fun _ h => h.1))
       have n1_ := k0 (Kd.R_mono (Kd.R_keep (IsS65.apart (show IsS65 w0 _ g s0_0 t348 t349 from by repeat (first | (with_reducible first | exact HI0.out | apply IsS65.alloc | apply IsS65.drewN | apply IsS65.drew | apply IsS65.set_1 | apply IsS65.set_2 | apply IsS65.farB NB0_306.out | apply IsS65.farB NB0_313.out | apply IsS65.farB NB0_317.out) | exact HI0.out)) (kR HO_314001.out) (by decide)) hk (fun _ h => h.2)) (fun _ h => h.1))
       have n2_ := k0 (KeepBut.blk hk (g' := gb306) (o := .cells #[.slice none 0 0, .slice none 0 0] 28 (0, 0)) (kB BK306.out) NB306_0.out (by simp))
       have n3_ := k0 (KeepBut.blk hk (g' := gb313) (o := .cells #[.slice Ao137 x314000_1.length co137, .slice Ao142 x314001_1.length co142] 28 (0, 0)) (kB BK313.out) NB313_0.out (by simp))
       have n4_ := k0 (KeepBut.blk hk (g' := gb317) (o := .cells #[.slice Ao137 x314000_1.length co137, .slice Ao142 x314001_1.length co142] 28 (0, 0)) (kB BK317.out) NB317_0.out (by simp))
       have n5_ := k0 (KeepBut.trans (by repeat (first | (with_reducible first | exact HK.out | apply KeepBut.set_ | apply keep_drewN | apply keep_drew | apply keep_alloc | refine keep_far ?_ GW306.out _ | refine keep_far ?_ GW313.out _ | refine keep_far ?_ GW317.out _) | exact HK.out)) hk (.inl rfl))
       have n6_ := k0 (hb)
       have n7_ := k0 (hi)
       clear HO_314000 HO_314001 BK306 BK313 BK317 HK HB HI0
       have HO_314000 := n0_
       have HO_314001 := n1_
       have BK306 := n2_
       have BK313 := n3_
       have BK317 := n4_
       have HK := n5_
       have HB := n6_
       have HI0 := n7_
       clear n0_ n1_ n2_ n3_ n4_ n5_ n6_ n7_
       (try clear hb)
       (try clear hb2)
       (try clear hk)
       (try clear hi)
       refine hK.out _ _ ⟨(blk_cell BK313.out 0).trans rfl, (blk_cell BK313.out 1).trans rfl⟩ (fun hHeld => ?_)
       clear hK K
       refine norm_ (a' := ?_) ?_ ?_
       rotate_left
       ·show Act.put _ (some 27) _ = _
        simp only [Act.put, List.setIfInBounds_toArray, List.set_cons_zero, List.set_cons_succ, i64_w, i32_w]
        rfl
       refine one_ (i := 8) (N := some 29) (bt 16 511) rfl rfl (one_of HT_.out (by kernel_rfl)) (by decide) (fun K hK => ?_)
       refine goes_ Try.func64 (by kernel_rfl) rfl #[.pointer (some ⟨g, 0, none⟩), .int .i64 20] (by rfl) rfl rfl (by (try simp only [List.map_toArray, List.map_cons, List.map_nil]); first | done | rfl | (simp only [List.length_drop, List.length_take]; rfl)) ?_
       with_reducible refine (spec_l01Below.calls g s0_0 t351 t352 20 t353 t354 t355 w0 _ ?side1 ?side2 A108.out).mono ?_
       (case side1 => repeat (first | (with_reducible first | exact HI0.out | apply IsS65.alloc | apply IsS65.drewN | apply IsS65.drew | apply IsS65.set_1 | apply IsS65.set_2 | apply IsS65.farB NB0_306.out | apply IsS65.farB NB0_313.out | apply IsS65.farB NB0_317.out) | exact HI0.out))
       (case side2 => repeat (first | (with_reducible first | exact HB.out | apply below_alloc | apply pw_below_drewN | apply below_drew1 | refine below_set ?_ (IsS65.ge HI0.out) | refine below_set ?_ GE306.out | refine below_set ?_ GE313.out | refine below_set ?_ GE317.out) | exact HB.out))
       rintro e w147 ⟨rfl, hi, hb, hk⟩
       refine ⟨_, rfl, ?_⟩
       have n0_ := k0 (Kd.V_mono (Kd.V_keep (Kd.V_mono (ok := fun k_ => ((((w.heap.size ≤ k_)) ∧ (some k_ ≠ (.slice Ao142 x314001_1.length co142 : Value).ownBlock ∧ (k_ ≠ gb306 ∧ (k_ ≠ gb313 ∧ k_ ≠ g)))) ∧ k_ ≠ gb317)) (kV HO_314000.out) (fun k_ hk_ => (⟨hk_, hk_.1.2.2.2.2⟩ : _ ∧ k_ ≠ g))) hk (fun _ h => h.2)) (fun _ h => h.1))
       have n1_ := k0 (Kd.R_mono (Kd.R_keep (IsS65.apart (show IsS65 w0 _ g s0_0 t351 t352 from by repeat (first | (with_reducible first | exact HI0.out | apply IsS65.alloc | apply IsS65.drewN | apply IsS65.drew | apply IsS65.set_1 | apply IsS65.set_2 | apply IsS65.farB NB0_306.out | apply IsS65.farB NB0_313.out | apply IsS65.farB NB0_317.out) | exact HI0.out)) (kR HO_314001.out) (by decide)) hk (fun _ h => h.2)) (fun _ h => h.1))
       have n2_ := k0 (KeepBut.blk hk (g' := gb306) (o := .cells #[.slice none 0 0, .slice none 0 0] 28 (0, 0)) (kB BK306.out) NB306_0.out (by simp))
       have n3_ := k0 (KeepBut.blk hk (g' := gb313) (o := .cells #[.slice Ao137 x314000_1.length co137, .slice Ao142 x314001_1.length co142] 28 (0, 0)) (kB BK313.out) NB313_0.out (by simp))
       have n4_ := k0 (KeepBut.blk hk (g' := gb317) (o := .cells #[.slice Ao137 x314000_1.length co137, .slice Ao142 x314001_1.length co142] 28 (0, 0)) (kB BK317.out) NB317_0.out (by simp))
       have n5_ := k0 (KeepBut.trans (by repeat (first | (with_reducible first | exact HK.out | apply KeepBut.set_ | apply keep_drewN | apply keep_drew | apply keep_alloc | refine keep_far ?_ GW306.out _ | refine keep_far ?_ GW313.out _ | refine keep_far ?_ GW317.out _) | exact HK.out)) hk (.inl rfl))
       have n6_ := k0 (hb)
       have n7_ := k0 (hi)
       clear HO_314000 HO_314001 BK306 BK313 BK317 HK HB HI0
       have HO_314000 := n0_
       have HO_314001 := n1_
       have BK306 := n2_
       have BK313 := n3_
       have BK317 := n4_
       have HK := n5_
       have HB := n6_
       have HI0 := n7_
       clear n0_ n1_ n2_ n3_ n4_ n5_ n6_ n7_
       (try clear hb)
       (try clear hb2)
       (try clear hk)
       (try clear hi)
       refine hK.out _ _ ⟨(blk_cell BK313.out 0).trans rfl, (blk_cell BK313.out 1).trans rfl⟩ (fun hHeld => ?_)
       clear hK K
       refine norm_ (a' := ?_) ?_ ?_
       rotate_left
       ·show Act.put _ (some 29) _ = _
        simp only [Act.put, List.setIfInBounds_toArray, List.set_cons_zero, List.set_cons_succ, i64_w, i32_w]
        rfl
       refine kP 9 30 16 1023 HT_.out ?_
       refine one_ (i := 10) (N := some 31) (bt 16 2047) rfl rfl (one_of HT_.out (by kernel_rfl)) (by decide) (fun K hK => ?_)
       refine goes_ Try.func32 (by kernel_rfl) rfl #[.agg #[.slice Ao137 x314000_1.length co137, .slice Ao142 x314001_1.length co142], .int .i64 t347, .int .i64 t350, .int .i64 (wrap64 (1 + t353))] (by rfl) rfl rfl (by (try simp only [List.map_toArray, List.map_cons, List.map_nil]); first | done | rfl | (simp only [List.length_drop, List.length_take]; rfl)) ?_
       with_reducible refine (spec_Hand.calls k1 _ _ x314000_1 _ _ x314001_1 t347 t350 (wrap64 (1 + t353)) t356 t359 false _ ?side1 ?side2 ?side3 ?side4 A109.out).mono ?_
       (case side1 => exact kC (Kd.V_reads' HO_314000.out).2.2)
       (case side2 => exact (Kd.V_reads' HO_314000.out).2.1)
       (case side3 => exact kC (Kd.R_reads' HO_314001.out).2.2)
       (case side4 => exact (Kd.R_reads' HO_314001.out).2.1)
       rintro e w148 ⟨v357, v360, rfl, ho0, ho1, hb⟩
       refine ⟨_, rfl, ?_⟩
       have n0_ := k0 (Kd.V_elder' (kV HO_314000.out) (Kd.R_base ho1) hb)
       have n1_ := k0 (Kd.R_elder' (kR HO_314001.out) (Kd.R_base ho1) hb)
       have n2_ := k0 (Kd.V_lower (Kd.V_mono (ok' := fun k_ => (w.heap.size ≤ k_) ∧ some k_ ≠ (v360 : Value).ownBlock ∧ some k_ ≠ (.slice Ao142 x314001_1.length co142 : Value).ownBlock ∧ k_ ≠ gb306 ∧ k_ ≠ gb313 ∧ k_ ≠ gb317 ∧ k_ ≠ g) ho0 (fun k_ hk_ => ⟨(Nat.le_trans (keep_size (w := w) (g := g) (row := none) (by repeat (first | (with_reducible first | exact HK.out | apply KeepBut.set_ | apply keep_drewN | apply keep_drew | apply keep_alloc | refine keep_far ?_ GW306.out _ | refine keep_far ?_ GW313.out _ | refine keep_far ?_ GW317.out _) | exact HK.out))) hk_.1), hk_.2, (Kd.fresh' (Kd.R_lt (kR HO_314001.out)) k_ hk_.1), (Kd.freshB (g := gb306) (o := .cells #[.slice none 0 0, .slice none 0 0] 28 (0, 0)) (kB BK306.out) k_ hk_.1), (Kd.freshB (g := gb313) (o := .cells #[.slice Ao137 x314000_1.length co137, .slice Ao142 x314001_1.length co142] 28 (0, 0)) (kB BK313.out) k_ hk_.1), (Kd.freshB (g := gb317) (o := .cells #[.slice Ao137 x314000_1.length co137, .slice Ao142 x314001_1.length co142] 28 (0, 0)) (kB BK317.out) k_ hk_.1), (IsS65.fresh (by repeat (first | (with_reducible first | exact HI0.out | apply IsS65.alloc | apply IsS65.drewN | apply IsS65.drew | apply IsS65.set_1 | apply IsS65.set_2 | apply IsS65.farB NB0_306.out | apply IsS65.farB NB0_313.out | apply IsS65.farB NB0_317.out) | exact HI0.out)) k_ hk_.1)⟩)) (keep_size (w := w) (g := g) (row := none) (by repeat (first | (with_reducible first | exact HK.out | apply KeepBut.set_ | apply keep_drewN | apply keep_drew | apply keep_alloc | refine keep_far ?_ GW306.out _ | refine keep_far ?_ GW313.out _ | refine keep_far ?_ GW317.out _) | exact HK.out))))
       have n3_ := k0 (Kd.R_lower (Kd.R_new' (Kd.R_newM (M := fun k_ => (w.heap.size ≤ k_)) (Kd.R_mono (ok' := fun k_ => True) ho1 (fun _ hk_ => trivial)) (keep_size (w := w) (g := g) (row := none) (by repeat (first | (with_reducible first | exact HK.out | apply KeepBut.set_ | apply keep_drewN | apply keep_drew | apply keep_alloc | refine keep_far ?_ GW306.out _ | refine keep_far ?_ GW313.out _ | refine keep_far ?_ GW317.out _) | exact HK.out))) (fun k_ h_ => h_)) (Kd.R_lt (kR HO_314001.out))) (keep_size (w := w) (g := g) (row := none) (by repeat (first | (with_reducible first | exact HK.out | apply KeepBut.set_ | apply keep_drewN | apply keep_drew | apply keep_alloc | refine keep_far ?_ GW306.out _ | refine keep_far ?_ GW313.out _ | refine keep_far ?_ GW317.out _) | exact HK.out))))
       have n4_ := k0 (kb BK306.out hb)
       have n5_ := k0 (kb BK313.out hb)
       have n6_ := k0 (IsS65.below (by repeat (first | (with_reducible first | exact HI0.out | apply IsS65.alloc | apply IsS65.drewN | apply IsS65.drew | apply IsS65.set_1 | apply IsS65.set_2 | apply IsS65.farB NB0_306.out | apply IsS65.farB NB0_313.out | apply IsS65.farB NB0_317.out) | exact HI0.out)) hb)
       have n7_ := k0 (kb BK317.out hb)
       have n8_ := k0 (KeepBut.trans (by repeat (first | (with_reducible first | exact HK.out | apply KeepBut.set_ | apply keep_drewN | apply keep_drew | apply keep_alloc | refine keep_far ?_ GW306.out _ | refine keep_far ?_ GW313.out _ | refine keep_far ?_ GW317.out _) | exact HK.out)) (KeepBut.of_below hb g none) (.inl rfl))
       have n9_ := k0 (below_step (by repeat (first | (with_reducible first | exact HB.out | apply below_alloc | apply pw_below_drewN | apply below_drew1 | refine below_set ?_ (IsS65.ge HI0.out) | refine below_set ?_ GE306.out | refine below_set ?_ GE313.out | refine below_set ?_ GE317.out) | exact HB.out)) hb)
       clear HO_314000 HO_314001 BK306 BK313 HI0 BK317 HK HB
       have HO_314000 := n0_
       have HO_314001 := n1_
       have HO358 := n2_
       have HO361 := n3_
       have BK306 := n4_
       have BK313 := n5_
       have HI0 := n6_
       have BK317 := n7_
       have HK := n8_
       have HB := n9_
       clear n0_ n1_ n2_ n3_ n4_ n5_ n6_ n7_ n8_ n9_
       (try clear hb)
       (try clear hb2)
       (try clear hk)
       (try clear hi)
       (try clear ho0)
       (try clear ho1)
       obtain ⟨Ao149, co149, eo149⟩ := Kd.V_slice HO358.out
       (first | subst eo149 | (injection eo149 with f1_ f2_ f3_; have f4_ := f1_.symm; have f5_ := f3_.symm; clear f1_ f2_ f3_; subst f4_; subst f5_))
       obtain ⟨Ao151, co151, eo151⟩ := Kd.R_slice HO361.out
       (first | subst eo151 | (injection eo151 with f1_ f2_ f3_; have f4_ := f1_.symm; have f5_ := f3_.symm; clear f1_ f2_ f3_; subst f4_; subst f5_))
       refine hK.out _ _ ⟨(blk_cell BK313.out 0).trans rfl, (blk_cell BK313.out 1).trans rfl⟩ (fun hHeld => ?_)
       clear hK K
       refine norm_ (a' := ?_) ?_ ?_
       rotate_left
       ·show Act.put _ (some 31) _ = _
        simp only [Act.put, List.setIfInBounds_toArray, List.set_cons_zero, List.set_cons_succ, i64_w, i32_w]
        rfl
       refine kP 11 20 16 4095 HT_.out ?_
       refine kP 12 32 16 8191 HT_.out ?_
       refine kP 13 33 16 16383 HT_.out ?_
       refine one_ (i := 14) (N := none) (bt 16 32767) rfl rfl (one_of HT_.out (by kernel_rfl)) (by decide) (fun K hK => ?_)
       have hs150 : w148.cell? ⟨gb317, 0, none⟩ = some (.slice Ao137 x314000_1.length co137) := (blk_cell BK317.out 0).trans rfl
       have hfs150 := blk_frozen BK317.out 0
       have hns150_0 := NB306_317.out
       have hns150_1 := NB313_317.out
       have hms150_0 := NB317_306.out
       have hms150_1 := NB317_313.out
       have hs152 : w148.cell? ⟨gb317, 1, none⟩ = some (.slice Ao142 x314001_1.length co142) := (blk_cell BK317.out 1).trans rfl
       have hfs152 := blk_frozen BK317.out 1
       have hns152_0 := NB306_317.out
       have hns152_1 := NB313_317.out
       have hms152_0 := NB317_306.out
       have hms152_1 := NB317_313.out
       refine skip_ (w1 := ?_) (by rfl) rfl ?_ ?_
       rotate_left
       ·go_simp
        rfl
       refine hK.out _ _ ⟨((cell_far (p := ⟨gb317, _, none⟩) NB313_317.out _).trans (((cell_far (p := ⟨gb317, _, none⟩) NB313_317.out _).trans (hHeld.1)))), ((cell_far (p := ⟨gb317, _, none⟩) NB313_317.out _).trans (((cell_far (p := ⟨gb317, _, none⟩) NB313_317.out _).trans (hHeld.2))))⟩ (fun hHeld => ?_)
       clear hK K
       refine kP 15 8 16 65535 HT_.out ?_
       refine done_ (done_of HT_.out (by kernel_rfl)) ?_
       try go_wp2
       go_roundg k1
       case measure => have := HK1.out; omega
       case rel => exact ⟨(wrap64 (x6_1 - 1)), (t354), (t355), (x314000_1), (x314001_1), (.slice Ao137 x314000_1.length co137), (.slice Ao142 x314001_1.length co142), (by first | rfl | (simp; done) | (simp [*]; done)), H', ⟨by have := HK1.out; omega⟩, ⟨by (with_reducible repeat (first | apply Kd.V_alloc | apply Kd.V_drewN | apply Kd.V_drew)); exact Kd.V_mono (Kd.V_far (p := ⟨gb317, 1, none⟩) (Kd.V_far (p := ⟨gb317, 0, none⟩) (Kd.V_mono HO_314000.out (fun k_ hk => (⟨hk, hk.1.2⟩ : _ ∧ k_ ≠ gb317))) (fun _ hk => hk.2) (.slice Ao149 t356.length co149)) (fun _ hk => hk.2) (.slice Ao151 t359.length co151)) (fun _ hk => ⟨hk.1.1.1.1, ⟨hk.1.1.1.2.1, ⟨hk.1.1.1.2.2.1, ⟨hk.1.1.1.2.2.2.1, hk.1.1.1.2.2.2.2⟩⟩⟩⟩)⟩, ⟨by (with_reducible repeat (first | apply Kd.R_alloc | apply Kd.R_drewN | apply Kd.R_drew)); exact Kd.R_mono (Kd.R_far (p := ⟨gb317, 1, none⟩) (Kd.R_far (p := ⟨gb317, 0, none⟩) (Kd.R_types HO_314001.out BK317.out (by decide)) (fun _ hk => hk.2) (.slice Ao149 t356.length co149)) (fun _ hk => hk.2) (.slice Ao151 t359.length co151)) (fun _ hk => hk.1.1)⟩, ⟨by (with_reducible repeat first | apply k1 | apply k2 | apply k3); refine blk_far ?_ NB306_317.out _; (with_reducible repeat first | apply k1 | apply k2 | apply k3); refine blk_far ?_ NB306_317.out _; (with_reducible repeat first | apply k1 | apply k2 | apply k3); exact BK306.out⟩, ⟨by (with_reducible repeat first | apply k1 | apply k2 | apply k3); refine blk_far ?_ NB313_317.out _; (with_reducible repeat first | apply k1 | apply k2 | apply k3); refine blk_far ?_ NB313_317.out _; (with_reducible repeat first | apply k1 | apply k2 | apply k3); exact BK313.out⟩, ⟨by repeat (first | (with_reducible first | exact HI0.out | apply IsS65.alloc | apply IsS65.drewN | apply IsS65.drew | apply IsS65.set_1 | apply IsS65.set_2 | apply IsS65.farB NB0_306.out | apply IsS65.farB NB0_313.out | apply IsS65.farB NB0_317.out) | exact HI0.out)⟩, ⟨by repeat (first | (with_reducible first | exact HK.out | apply KeepBut.set_ | apply keep_drewN | apply keep_drew | apply keep_alloc | refine keep_far ?_ GW306.out _ | refine keep_far ?_ GW313.out _ | refine keep_far ?_ GW317.out _) | exact HK.out)⟩, ⟨by repeat (first | (with_reducible first | exact HB.out | apply below_alloc | apply pw_below_drewN | apply below_drew1 | refine below_set ?_ (IsS65.ge HI0.out) | refine below_set ?_ GE306.out | refine below_set ?_ GE313.out | refine below_set ?_ GE317.out) | exact HB.out)⟩⟩
   ·rw [if_neg c14] at H
    have c14b0 : decide (0 < x6_1) = false := decide_eq_false c14
    clear c14
    simp only [Option.some.injEq, Prod.mk.injEq] at H
    obtain ⟨rfl, rfl, rfl, rfl⟩ := H
    have hnb153 := NB313_306.out
    have hnc153 := NB306_313.out
    have hnb154 := NB313_0.out
    have hnc154 := NB0_313.out
    have hcz155_0 : wr.cell? ⟨gb313, 0, none⟩ = some (u314000) := kx BK313.out
    have hcz155_1 : wr.cell? ⟨gb313, 1, none⟩ = some (u314001) := kx BK313.out
    have hfz155_0 := blk_frozen BK313.out 0
    have hfz155_1 := blk_frozen BK313.out 1
    obtain ⟨Ao156, co156, eo156⟩ := Kd.V_slice HO_314000.out
    subst eo156
    have hnb157 := NB306_0.out
    have hnc157 := NB0_306.out
    have hcz158_0 : wr.cell? ⟨gb306, 0, none⟩ = some (.slice none 0 0) := kx BK306.out
    have hcz158_1 : wr.cell? ⟨gb306, 1, none⟩ = some (.slice none 0 0) := kx BK306.out
    have hfz158_0 := blk_frozen BK306.out 0
    have hfz158_1 := blk_frozen BK306.out 1
    obtain ⟨Ao159, co159, eo159⟩ := Kd.R_slice HO_314001.out
    subst eo159
    go_wp2
    refine bodyPost_ret (results_cell_row rfl _ _ gb306 28 #[.slice Ao156 x314000_1.length co156, .slice Ao159 x314001_1.length co159] (0, 0) _ rfl (by (with_reducible repeat first | apply k1 | apply k2 | apply k3); refine blk_put (cs := #[.slice Ao156 x314000_1.length co156, .slice none 0 0]) ?_ 1 _ rfl; (with_reducible repeat first | apply k1 | apply k2 | apply k3); refine blk_put (cs := #[.slice none 0 0, .slice none 0 0]) ?_ 0 _ rfl; (with_reducible repeat first | apply k1 | apply k2 | apply k3); exact BK306.out) Try.underlying28 rfl (by kernel_rfl)) rfl ?_
    exact ⟨_, _, by first | rfl | (simp [errW_none, errW_some] <;> rfl) | (simp [*, errW_none, errW_some] <;> rfl), by (with_reducible repeat (first | apply Kd.V_alloc | apply Kd.V_drewN | apply Kd.V_drew)); exact Kd.V_mono (Kd.V_far (p := ⟨gb306, 1, none⟩) (Kd.V_far (p := ⟨gb306, 0, none⟩) (Kd.V_mono HO_314000.out (fun k_ hk => (⟨hk, hk.2.2.1⟩ : _ ∧ k_ ≠ gb306))) (fun _ hk => hk.2) (.slice Ao156 x314000_1.length co156)) (fun _ hk => hk.2) (.slice Ao159 x314001_1.length co159)) (fun _ hk => ⟨hk.1.1, hk.1.2.1⟩), by (with_reducible repeat (first | apply Kd.R_alloc | apply Kd.R_drewN | apply Kd.R_drew)); exact Kd.R_mono (Kd.R_far (p := ⟨gb306, 1, none⟩) (Kd.R_far (p := ⟨gb306, 0, none⟩) (Kd.R_types HO_314001.out BK306.out (by decide)) (fun _ hk => hk.2) (.slice Ao156 x314000_1.length co156)) (fun _ hk => hk.2) (.slice Ao159 x314001_1.length co159)) (fun _ hk => hk.1), by repeat (first | (with_reducible first | exact HI0.out | apply IsS65.alloc | apply IsS65.drewN | apply IsS65.drew | apply IsS65.set_1 | apply IsS65.set_2 | apply IsS65.farB NB0_306.out | apply IsS65.farB NB0_313.out) | exact HI0.out), by repeat (first | (with_reducible first | exact HB.out | apply below_alloc | apply pw_below_drewN | apply below_drew1 | refine below_set ?_ (IsS65.ge HI0.out) | refine below_set ?_ GE306.out | refine below_set ?_ GE313.out) | exact HB.out), by repeat (first | (with_reducible first | exact HK.out | apply KeepBut.set_ | apply keep_drewN | apply keep_drew | apply keep_alloc | refine keep_far ?_ GW306.out _ | refine keep_far ?_ GW313.out _) | exact HK.out)⟩

end Go.Proofs.Ytcnanifokpcjaaa.PFnRights
