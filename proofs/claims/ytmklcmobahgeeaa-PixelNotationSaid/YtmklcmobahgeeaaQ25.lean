-- Written for this claim by a program of this session (handprint.py) that drives the kit's print. Not trusted: Lean checks it.
import Derived.Test.YtmklcmobahgeeaaQ0
import Derived.Test.YtmklcmobahgeeaaQ2
import Derived.Test.YtmklcmobahgeeaaQ3
import Derived.Test.YtmklcmobahgeeaaQ8
import Derived.Test.YtmklcmobahgeeaaQ9
import Derived.Test.YtmklcmobahgeeaaQ10
import Derived.Test.YtmklcmobahgeeaaQ11
import Derived.Test.YtmklcmobahgeeaaQ21
namespace Go.Proofs.Ytmklcmobahgeeaa.Q
open Go.RowKit Go.Proofs.YtmklcmobahgeeaaW.PrintWords Go.Proofs.YtmklcmobahgeeaaW.PrintLast
attribute [local go_sem] max2_int min2_int max_two min_two max_three min_three max_four min_four
set_option linter.unusedVariables false
set_option linter.unusedSimpArgs false

/-! ### imageeditorlaw06_PixelNotation: function 10 -/
def imageeditorlaw06_PixelNotation.j0 : Nat → Bool → Int → Int → Int → Int → Int → Int → Int → Int → Option (Bool)
  | 0, _, _, _, _, _, _, _, _, _ => none
  | k + 1, x36, x558000, x558001, x558002, x558003, x565000, x565001, x565002, x565003 => if x36 = true then (some false) else ((imageeditorref06_Limit.f x558000 x558001 x558002 x558003).bind fun bt568 => ((imageeditorlaw06_near.f bt568.1 x565000 128).bind fun t572 => (if t572 = true then ((imageeditorlaw06_near.f bt568.2.1 x565001 128).bind fun t573 => (if t573 = true then ((imageeditorlaw06_near.f bt568.2.2.1 x565002 128).bind fun t574 => (if t574 = true then ((imageeditorlaw06_near.f bt568.2.2.2 x565003 128).bind fun t575 => (if t575 = true then ((pixel_Valid.f x565000 x565001 x565002 x565003).bind fun t576 => (if t576 = true then ((imageeditorlaw06_awake.f k).bind fun t577 => (some t577)) else (some false))) else (some false))) else (some false))) else (some false))) else (some false))))
def imageeditorlaw06_PixelNotation.f (k : Nat) (a0_0 : Int) (a0_1 : Int) (a0_2 : Int) (a0_3 : Int) (a1 : Int) : Option (Bool) := (pixel_Print.f k a0_0 a0_1 a0_2 a0_3).bind fun t558 => ((pixel_Parse.f k t558).bind fun bt559 => (if (t558.size : Int) = 9 then (if bt559.2.2.2.2 = 0 then ((pixel_Print.f k bt559.1 bt559.2.1 bt559.2.2.1 bt559.2.2.2.1).bind fun t565 => (if t565.toList = t558.toList then ((pixel_From8.f (wrap64 (a1))).bind fun t566 => ((pixel_To8.f k t566).bind fun t567 => (imageeditorlaw06_PixelNotation.j0 k (t567 != (wrap64 (a1))) a0_0 a0_1 a0_2 a0_3 bt559.1 bt559.2.1 bt559.2.2.1 bt559.2.2.2.1))) else (imageeditorlaw06_PixelNotation.j0 k true a0_0 a0_1 a0_2 a0_3 bt559.1 bt559.2.1 bt559.2.2.1 bt559.2.2.2.1))) else (imageeditorlaw06_PixelNotation.j0 k true a0_0 a0_1 a0_2 a0_3 bt559.1 bt559.2.1 bt559.2.2.1 bt559.2.2.2.1)) else (imageeditorlaw06_PixelNotation.j0 k true a0_0 a0_1 a0_2 a0_3 bt559.1 bt559.2.1 bt559.2.2.1 bt559.2.2.2.1)))
theorem imageeditorlaw06_PixelNotation.mono_l : ∀ k, (∀ y0 y1 y2 y3 y4 y5 y6 y7 y8, LeO (imageeditorlaw06_PixelNotation.j0 k y0 y1 y2 y3 y4 y5 y6 y7 y8) (imageeditorlaw06_PixelNotation.j0 (k + 1) y0 y1 y2 y3 y4 y5 y6 y7 y8))
  | 0 => fun _ _ _ _ _ _ _ _ _ r h => by simp [imageeditorlaw06_PixelNotation.j0] at h
  | k + 1 => by
    have ih0 := imageeditorlaw06_PixelNotation.mono_l k
    · intro y0 y1 y2 y3 y4 y5 y6 y7 y8
      unfold imageeditorlaw06_PixelNotation.j0
      repeat' first
      | (with_reducible exact ih0 _ _ _ _ _ _ _ _ _)
      | (with_reducible exact imageeditorlaw06_awake.mono _)
      | (with_reducible exact pixel_Parse.mono _ _)
      | (with_reducible exact pixel_Print.mono _ _ _ _ _)
      | (with_reducible exact pixel_To8.mono _ _)
      | (with_reducible exact LeO.refl _)
      | (with_reducible exact LeO.none _)
      | (with_reducible refine LeO.ite ?_ ?_)
      | (with_reducible refine LeO.bind ?_ (fun _ => ?_))
      | exact ih0 _ _ _ _ _ _ _ _ _
      | exact imageeditorlaw06_awake.mono _
      | exact pixel_Parse.mono _ _
      | exact pixel_Print.mono _ _ _ _ _
      | exact pixel_To8.mono _ _
      | exact LeO.none _
      | refine LeO.ite ?_ ?_
      | refine LeO.bind ?_ (fun _ => ?_)
theorem imageeditorlaw06_PixelNotation.mono : ∀ a0 a1 a2 a3 a4 k, LeO (imageeditorlaw06_PixelNotation.f k a0 a1 a2 a3 a4) (imageeditorlaw06_PixelNotation.f (k + 1) a0 a1 a2 a3 a4) := by
  intro a0 a1 a2 a3 a4 k
  have ih0 := imageeditorlaw06_PixelNotation.mono_l k
  unfold imageeditorlaw06_PixelNotation.f
  repeat' first
      | (with_reducible exact ih0 _ _ _ _ _ _ _ _ _)
      | (with_reducible exact imageeditorlaw06_awake.mono _)
      | (with_reducible exact pixel_Parse.mono _ _)
      | (with_reducible exact pixel_Print.mono _ _ _ _ _)
      | (with_reducible exact pixel_To8.mono _ _)
      | (with_reducible exact LeO.refl _)
      | (with_reducible exact LeO.none _)
      | (with_reducible refine LeO.ite ?_ ?_)
      | (with_reducible refine LeO.bind ?_ (fun _ => ?_))
      | exact ih0 _ _ _ _ _ _ _ _ _
      | exact imageeditorlaw06_awake.mono _
      | exact pixel_Parse.mono _ _
      | exact pixel_Print.mono _ _ _ _ _
      | exact pixel_To8.mono _ _
      | exact LeO.none _
      | refine LeO.ite ?_ ?_
      | refine LeO.bind ?_ (fun _ => ?_)
set_option maxHeartbeats 8000000 in
set_option maxRecDepth 100000 in
theorem imageeditorlaw06_PixelNotation.calls (k : Nat) (a0_0 : Int) (a0_1 : Int) (a0_2 : Int) (a0_3 : Int) (a1 : Int) (r : Bool) (w : World) (h : imageeditorlaw06_PixelNotation.f k a0_0 a0_1 a0_2 a0_3 a1 = some r) :
    Calls Try.prog 10 #[.agg #[.int .i64 a0_0, .int .i64 a0_1, .int .i64 a0_2, .int .i64 a0_3], .int .u8 a1] w fun e w' => e = .returned (.bool r) ∧ Below w.heap.size w w' := by
  have hu23 := Try.underlying23
  have HB := Aside0.mk (Below.refl w.heap.size w)
  have H : ((pixel_Print.f k a0_0 a0_1 a0_2 a0_3).bind fun t558 => ((pixel_Parse.f k t558).bind fun bt559 => (if (t558.size : Int) = 9 then (if bt559.2.2.2.2 = 0 then ((pixel_Print.f k bt559.1 bt559.2.1 bt559.2.2.1 bt559.2.2.2.1).bind fun t565 => (if t565.toList = t558.toList then ((pixel_From8.f (wrap64 (a1))).bind fun t566 => ((pixel_To8.f k t566).bind fun t567 => (imageeditorlaw06_PixelNotation.j0 k (t567 != (wrap64 (a1))) a0_0 a0_1 a0_2 a0_3 bt559.1 bt559.2.1 bt559.2.2.1 bt559.2.2.2.1))) else (imageeditorlaw06_PixelNotation.j0 k true a0_0 a0_1 a0_2 a0_3 bt559.1 bt559.2.1 bt559.2.2.1 bt559.2.2.2.1))) else (imageeditorlaw06_PixelNotation.j0 k true a0_0 a0_1 a0_2 a0_3 bt559.1 bt559.2.1 bt559.2.2.1 bt559.2.2.2.1)) else (imageeditorlaw06_PixelNotation.j0 k true a0_0 a0_1 a0_2 a0_3 bt559.1 bt559.2.1 bt559.2.2.1 bt559.2.2.2.1)))) = some r := h
  clear h
  replace H := Option.bind_eq_some_iff.mp H
  obtain ⟨t558, A30, H⟩ := H
  replace H : ((pixel_Parse.f k t558).bind fun bt559 => (if (t558.size : Int) = 9 then (if bt559.2.2.2.2 = 0 then ((pixel_Print.f k bt559.1 bt559.2.1 bt559.2.2.1 bt559.2.2.2.1).bind fun t565 => (if t565.toList = t558.toList then ((pixel_From8.f (wrap64 (a1))).bind fun t566 => ((pixel_To8.f k t566).bind fun t567 => (imageeditorlaw06_PixelNotation.j0 k (t567 != (wrap64 (a1))) a0_0 a0_1 a0_2 a0_3 bt559.1 bt559.2.1 bt559.2.2.1 bt559.2.2.2.1))) else (imageeditorlaw06_PixelNotation.j0 k true a0_0 a0_1 a0_2 a0_3 bt559.1 bt559.2.1 bt559.2.2.1 bt559.2.2.2.1))) else (imageeditorlaw06_PixelNotation.j0 k true a0_0 a0_1 a0_2 a0_3 bt559.1 bt559.2.1 bt559.2.2.1 bt559.2.2.2.1)) else (imageeditorlaw06_PixelNotation.j0 k true a0_0 a0_1 a0_2 a0_3 bt559.1 bt559.2.1 bt559.2.2.1 bt559.2.2.2.1))) = some r := H
  have A3 := Aside0.mk A30
  clear A30
  replace H := Option.bind_eq_some_iff.mp H
  obtain ⟨⟨t559, t560, t561, t562, t563⟩, A40, H⟩ := H
  replace H : (if (t558.size : Int) = 9 then (if t563 = 0 then ((pixel_Print.f k t559 t560 t561 t562).bind fun t565 => (if t565.toList = t558.toList then ((pixel_From8.f (wrap64 (a1))).bind fun t566 => ((pixel_To8.f k t566).bind fun t567 => (imageeditorlaw06_PixelNotation.j0 k (t567 != (wrap64 (a1))) a0_0 a0_1 a0_2 a0_3 t559 t560 t561 t562))) else (imageeditorlaw06_PixelNotation.j0 k true a0_0 a0_1 a0_2 a0_3 t559 t560 t561 t562))) else (imageeditorlaw06_PixelNotation.j0 k true a0_0 a0_1 a0_2 a0_3 t559 t560 t561 t562)) else (imageeditorlaw06_PixelNotation.j0 k true a0_0 a0_1 a0_2 a0_3 t559 t560 t561 t562)) = some r := H
  have A4 := Aside0.mk A40
  clear A40
  have HC5 := Aside0.mk H
  clear H
  go_enter Try.func10, Try.ntmps10
  go_upto_region 3 with (first | ((with_reducible refine gate_dst (N := 2) rfl ?_); refine box_event ?hg (N := 2) ?hd (cs := #[.int .i64 a0_0, .int .i64 a0_1, .int .i64 a0_2, .int .i64 a0_3]) (t := 23) ?hr ?_; (case hd => rfl); (case hg => rfl); (case hr => first | (go_simp; done) | (go_simp; rfl)); intro gb557 hg w6 hbox hb; have n0_ := Aside0.mk (below_step (by repeat (first | (with_reducible first | exact HB.out | apply below_alloc | apply pw_below_drewN | apply below_drew1) | exact HB.out)) hb); have n1_ := Aside0.mk (hbox); have n2_ := Aside0.mk ((by rw [hg]; exact (below_size (by repeat (first | (with_reducible first | exact HB.out | apply below_alloc | apply pw_below_drewN | apply below_drew1) | exact HB.out))) : w.heap.size ≤ gb557)); have n3_ := Aside0.mk ((by rw [hg]; exact (below_size (by repeat (first | (with_reducible first | exact HB.out | apply below_alloc | apply pw_below_drewN | apply below_drew1) | exact HB.out))) : w.heap.size ≤ gb557)); clear HB; have HB := n0_; have BK557 := n1_; have GW557 := n2_; have GE557 := n3_; clear n0_ n1_ n2_ n3_; clear hb hbox hg; have hcz7_0 : w6.cell? ⟨gb557, 0, none⟩ = some (.int .i64 a0_0) := (blk_cell BK557.out 0).trans rfl; have hcz7_1 : w6.cell? ⟨gb557, 1, none⟩ = some (.int .i64 a0_1) := (blk_cell BK557.out 1).trans rfl; have hcz7_2 : w6.cell? ⟨gb557, 2, none⟩ = some (.int .i64 a0_2) := (blk_cell BK557.out 2).trans rfl; have hcz7_3 : w6.cell? ⟨gb557, 3, none⟩ = some (.int .i64 a0_3) := (blk_cell BK557.out 3).trans rfl; have hfz7_0 := blk_frozen BK557.out 0; have hfz7_1 := blk_frozen BK557.out 1; have hfz7_2 := blk_frozen BK557.out 2; have hfz7_3 := blk_frozen BK557.out 3) | ((with_reducible refine gate_callee (f := 34) rfl ?_); refine goesL_ (some 9) rfl rfl Try.func34 (by kernel_rfl) rfl #[.agg #[.int .i64 a0_0, .int .i64 a0_1, .int .i64 a0_2, .int .i64 a0_3]] rfl (by (try simp only [List.map_toArray, List.map_cons, List.map_nil]); first | done | rfl | (simp only [List.length_drop, List.length_take]; rfl)) ?_; (with_reducible refine (pixel_Print.calls k a0_0 a0_1 a0_2 a0_3 t558 _ A3.out).mono ?_); rintro e w8 ⟨rfl, hb⟩; refine ⟨_, rfl, ?_⟩; have n0_ := Aside0.mk (blk_below (g := gb557) (o := .cells #[.int .i64 a0_0, .int .i64 a0_1, .int .i64 a0_2, .int .i64 a0_3] 23 (0, 0)) (by (with_reducible repeat (first | refine blk_drewN ?_ _ | refine blk_drew ?_ | refine blk_alloc ?_ _)); exact BK557.out) hb); have n1_ := Aside0.mk (below_step (by repeat (first | (with_reducible first | exact HB.out | apply below_alloc | apply pw_below_drewN | apply below_drew1 | refine below_set ?_ GE557.out) | exact HB.out)) hb); clear BK557; clear HB; have BK557 := n0_; have HB := n1_; clear n0_ n1_; (try clear hb); (try clear hb2); (try clear hk); (try clear hi)) | ((with_reducible refine gate_callee (f := 32) rfl ?_); refine goesL_ (some 12) rfl rfl Try.func32 (by kernel_rfl) rfl #[.string t558] rfl (by (try simp only [List.map_toArray, List.map_cons, List.map_nil]); first | done | rfl | (simp only [List.length_drop, List.length_take]; rfl)) ?_; (with_reducible refine (pixel_Parse.calls k t558 t559 t560 t561 t562 t563 _ A4.out).mono ?_); rintro e w9 ⟨rfl, hb⟩; refine ⟨_, rfl, ?_⟩; have n0_ := Aside0.mk (blk_below (g := gb557) (o := .cells #[.int .i64 a0_0, .int .i64 a0_1, .int .i64 a0_2, .int .i64 a0_3] 23 (0, 0)) (by (with_reducible repeat (first | refine blk_drewN ?_ _ | refine blk_drew ?_ | refine blk_alloc ?_ _)); exact BK557.out) hb); have n1_ := Aside0.mk (below_step (by repeat (first | (with_reducible first | exact HB.out | apply below_alloc | apply pw_below_drewN | apply below_drew1 | refine below_set ?_ GE557.out) | exact HB.out)) hb); clear BK557; clear HB; have BK557 := n0_; have HB := n1_; clear n0_ n1_; (try clear hb); (try clear hb2); (try clear hk); (try clear hi)) | ((with_reducible refine gate_dst (N := 6) rfl ?_); refine box_event ?hg (N := 6) ?hd (cs := #[.int .i64 0, .int .i64 0, .int .i64 0, .int .i64 0]) (t := 23) ?hr ?_; (case hd => rfl); (case hg => rfl); (case hr => first | (go_simp; done) | (go_simp; rfl)); intro gb564 hg w10 hbox hb; have n0_ := Aside0.mk (blk_below (g := gb557) (o := .cells #[.int .i64 a0_0, .int .i64 a0_1, .int .i64 a0_2, .int .i64 a0_3] 23 (0, 0)) (by (with_reducible repeat (first | refine blk_drewN ?_ _ | refine blk_drew ?_ | refine blk_alloc ?_ _)); exact BK557.out) hb); have n1_ := Aside0.mk (below_step (by repeat (first | (with_reducible first | exact HB.out | apply below_alloc | apply pw_below_drewN | apply below_drew1 | refine below_set ?_ GE557.out) | exact HB.out)) hb); have n2_ := Aside0.mk (hbox); have n3_ := Aside0.mk ((by rw [hg]; exact (below_size (by repeat (first | (with_reducible first | exact HB.out | apply below_alloc | apply pw_below_drewN | apply below_drew1 | refine below_set ?_ GE557.out) | exact HB.out))) : w.heap.size ≤ gb564)); have n4_ := Aside0.mk ((by rw [hg]; exact (below_size (by repeat (first | (with_reducible first | exact HB.out | apply below_alloc | apply pw_below_drewN | apply below_drew1 | refine below_set ?_ GE557.out) | exact HB.out))) : w.heap.size ≤ gb564)); have n5_ := Aside0.mk ((by rw [hg]; exact Nat.ne_of_lt (blk_lt (g := gb557) (o := .cells #[.int .i64 a0_0, .int .i64 a0_1, .int .i64 a0_2, .int .i64 a0_3] 23 (0, 0)) (by (with_reducible repeat (first | refine blk_drewN ?_ _ | refine blk_drew ?_ | refine blk_alloc ?_ _)); exact BK557.out)) : gb557 ≠ gb564)); have n6_ := Aside0.mk ((by rw [hg]; exact Nat.ne_of_gt (blk_lt (g := gb557) (o := .cells #[.int .i64 a0_0, .int .i64 a0_1, .int .i64 a0_2, .int .i64 a0_3] 23 (0, 0)) (by (with_reducible repeat (first | refine blk_drewN ?_ _ | refine blk_drew ?_ | refine blk_alloc ?_ _)); exact BK557.out)) : gb564 ≠ gb557)); clear BK557; clear HB; have BK557 := n0_; have HB := n1_; have BK564 := n2_; have GW564 := n3_; have GE564 := n4_; have NB557_564 := n5_; have NB564_557 := n6_; clear n0_ n1_ n2_ n3_ n4_ n5_ n6_; clear hb hbox hg; have hnb11 := NB564_557.out; have hnc11 := NB557_564.out; have hcz12_0 : w10.cell? ⟨gb564, 0, none⟩ = some (.int .i64 0) := (blk_cell BK564.out 0).trans rfl; have hcz12_1 : w10.cell? ⟨gb564, 1, none⟩ = some (.int .i64 0) := (blk_cell BK564.out 1).trans rfl; have hcz12_2 : w10.cell? ⟨gb564, 2, none⟩ = some (.int .i64 0) := (blk_cell BK564.out 2).trans rfl; have hcz12_3 : w10.cell? ⟨gb564, 3, none⟩ = some (.int .i64 0) := (blk_cell BK564.out 3).trans rfl; have hfz12_0 := blk_frozen BK564.out 0; have hfz12_1 := blk_frozen BK564.out 1; have hfz12_2 := blk_frozen BK564.out 2; have hfz12_3 := blk_frozen BK564.out 3))
  (try simp only [Act.put, List.setIfInBounds_toArray, List.set_cons_zero, List.set_cons_succ])
  go_cut [36] (fun v36 wc => ∃ (kq : Nat) (x36_4 : Bool), v36 = .bool x36_4 ∧ Aside0 (imageeditorlaw06_PixelNotation.j0 kq x36_4 a0_0 a0_1 a0_2 a0_3 t559 t560 t561 t562 = some r) ∧ Aside0 (kq ≤ k) ∧ Aside0 (wc.heap[gb557]? = some (.cells #[.int .i64 a0_0, .int .i64 a0_1, .int .i64 a0_2, .int .i64 a0_3] 23 (0, 0))) ∧ Aside0 (wc.heap[gb564]? = some (.cells #[.int .i64 t559, .int .i64 t560, .int .i64 t561, .int .i64 t562] 23 (0, 0))) ∧ Aside0 (Below w.heap.size w wc))
  case first =>
    have H := HC5.out
    clear HC5
    by_cases c13 : (t558.size : Int) = 9
    · rw [if_pos c13] at H
      have c13b0 : ((t558.size : Int) == 9) = true := beq_iff_eq.mpr c13
      have c13b1 : ((t558.size : Int) != 9) = false := bne_eq_false_iff_eq.mpr c13
      clear c13
      (first | rw [c13b0] | (simp only [i64_w, i32_w]; rw [c13b0]) | skip)
      by_cases c14 : t563 = 0
      · rw [if_pos c14] at H
        have c14b0 : (t563 == 0) = true := beq_iff_eq.mpr c14
        have c14b1 : (t563 != 0) = false := bne_eq_false_iff_eq.mpr c14
        clear c14
        replace H := Option.bind_eq_some_iff.mp H
        obtain ⟨t565, A150, H⟩ := H
        replace H : (if t565.toList = t558.toList then ((pixel_From8.f (wrap64 (a1))).bind fun t566 => ((pixel_To8.f k t566).bind fun t567 => (imageeditorlaw06_PixelNotation.j0 k (t567 != (wrap64 (a1))) a0_0 a0_1 a0_2 a0_3 t559 t560 t561 t562))) else (imageeditorlaw06_PixelNotation.j0 k true a0_0 a0_1 a0_2 a0_3 t559 t560 t561 t562)) = some r := H
        have A15 := Aside0.mk A150
        clear A150
        by_cases c16 : t565.toList = t558.toList
        · rw [if_pos c16] at H
          have c16b0 : (t565.toList == t558.toList) = true := beq_iff_eq.mpr c16
          have c16b1 : (t565.toList != t558.toList) = false := bne_eq_false_iff_eq.mpr c16
          clear c16
          replace H := Option.bind_eq_some_iff.mp H
          obtain ⟨t566, A170, H⟩ := H
          replace H : ((pixel_To8.f k t566).bind fun t567 => (imageeditorlaw06_PixelNotation.j0 k (t567 != (wrap64 (a1))) a0_0 a0_1 a0_2 a0_3 t559 t560 t561 t562)) = some r := H
          have A17 := Aside0.mk A170
          clear A170
          replace H := Option.bind_eq_some_iff.mp H
          obtain ⟨t567, A180, H⟩ := H
          replace H : (imageeditorlaw06_PixelNotation.j0 k (t567 != (wrap64 (a1))) a0_0 a0_1 a0_2 a0_3 t559 t560 t561 t562) = some r := H
          have A18 := Aside0.mk A180
          clear A180
          have H' := Aside0.mk H
          clear H
          have hnb19 := NB564_557.out
          have hnc19 := NB557_564.out
          have hcz20_0 : w10.cell? ⟨gb564, 0, none⟩ = some (.int .i64 0) := (blk_cell BK564.out 0).trans rfl
          have hcz20_1 : w10.cell? ⟨gb564, 1, none⟩ = some (.int .i64 0) := (blk_cell BK564.out 1).trans rfl
          have hcz20_2 : w10.cell? ⟨gb564, 2, none⟩ = some (.int .i64 0) := (blk_cell BK564.out 2).trans rfl
          have hcz20_3 : w10.cell? ⟨gb564, 3, none⟩ = some (.int .i64 0) := (blk_cell BK564.out 3).trans rfl
          have hfz20_0 := blk_frozen BK564.out 0
          have hfz20_1 := blk_frozen BK564.out 1
          have hfz20_2 := blk_frozen BK564.out 2
          have hfz20_3 := blk_frozen BK564.out 3
          go_wp2_with (first | (go_at_call 34; (with_reducible refine (pixel_Print.calls k t559 t560 t561 t562 t565 _ A15.out).mono ?_); rintro e w21 ⟨rfl, hb⟩; have n0_ := Aside0.mk (blk_below (g := gb557) (o := .cells #[.int .i64 a0_0, .int .i64 a0_1, .int .i64 a0_2, .int .i64 a0_3] 23 (0, 0)) (by (with_reducible repeat (first | refine blk_drewN ?_ _ | refine blk_drew ?_ | refine blk_alloc ?_ _)); refine blk_far ?_ NB557_564.out _; (with_reducible repeat (first | refine blk_drewN ?_ _ | refine blk_drew ?_ | refine blk_alloc ?_ _)); refine blk_far ?_ NB557_564.out _; (with_reducible repeat (first | refine blk_drewN ?_ _ | refine blk_drew ?_ | refine blk_alloc ?_ _)); refine blk_far ?_ NB557_564.out _; (with_reducible repeat (first | refine blk_drewN ?_ _ | refine blk_drew ?_ | refine blk_alloc ?_ _)); refine blk_far ?_ NB557_564.out _; (with_reducible repeat (first | refine blk_drewN ?_ _ | refine blk_drew ?_ | refine blk_alloc ?_ _)); exact BK557.out) hb); have n1_ := Aside0.mk (blk_below (g := gb564) (o := .cells #[.int .i64 t559, .int .i64 t560, .int .i64 t561, .int .i64 t562] 23 (0, 0)) (by (with_reducible repeat (first | refine blk_drewN ?_ _ | refine blk_drew ?_ | refine blk_alloc ?_ _)); refine blk_put (cs := #[.int .i64 t559, .int .i64 t560, .int .i64 t561, .int .i64 0]) ?_ 3 _ rfl; (with_reducible repeat (first | refine blk_drewN ?_ _ | refine blk_drew ?_ | refine blk_alloc ?_ _)); refine blk_put (cs := #[.int .i64 t559, .int .i64 t560, .int .i64 0, .int .i64 0]) ?_ 2 _ rfl; (with_reducible repeat (first | refine blk_drewN ?_ _ | refine blk_drew ?_ | refine blk_alloc ?_ _)); refine blk_put (cs := #[.int .i64 t559, .int .i64 0, .int .i64 0, .int .i64 0]) ?_ 1 _ rfl; (with_reducible repeat (first | refine blk_drewN ?_ _ | refine blk_drew ?_ | refine blk_alloc ?_ _)); refine blk_put (cs := #[.int .i64 0, .int .i64 0, .int .i64 0, .int .i64 0]) ?_ 0 _ rfl; (with_reducible repeat (first | refine blk_drewN ?_ _ | refine blk_drew ?_ | refine blk_alloc ?_ _)); exact BK564.out) hb); have n2_ := Aside0.mk (below_step (by repeat (first | (with_reducible first | exact HB.out | apply below_alloc | apply pw_below_drewN | apply below_drew1 | refine below_set ?_ GE557.out | refine below_set ?_ GE564.out) | exact HB.out)) hb); clear BK557; clear BK564; clear HB; have BK557 := n0_; have BK564 := n1_; have HB := n2_; clear n0_ n1_ n2_; (try clear hb); (try clear hb2); (try clear hk); (try clear hi)) | (go_at_call 28; (with_reducible refine (pixel_From8.calls (wrap64 (a1)) t566 _ A17.out).mono ?_); rintro e w22 ⟨rfl, hb⟩; have n0_ := Aside0.mk (blk_below (g := gb557) (o := .cells #[.int .i64 a0_0, .int .i64 a0_1, .int .i64 a0_2, .int .i64 a0_3] 23 (0, 0)) (by (with_reducible repeat (first | refine blk_drewN ?_ _ | refine blk_drew ?_ | refine blk_alloc ?_ _)); exact BK557.out) hb); have n1_ := Aside0.mk (blk_below (g := gb564) (o := .cells #[.int .i64 t559, .int .i64 t560, .int .i64 t561, .int .i64 t562] 23 (0, 0)) (by (with_reducible repeat (first | refine blk_drewN ?_ _ | refine blk_drew ?_ | refine blk_alloc ?_ _)); exact BK564.out) hb); have n2_ := Aside0.mk (below_step (by repeat (first | (with_reducible first | exact HB.out | apply below_alloc | apply pw_below_drewN | apply below_drew1 | refine below_set ?_ GE557.out | refine below_set ?_ GE564.out) | exact HB.out)) hb); clear BK557; clear BK564; clear HB; have BK557 := n0_; have BK564 := n1_; have HB := n2_; clear n0_ n1_ n2_; (try clear hb); (try clear hb2); (try clear hk); (try clear hi)) | (go_at_call 30; (with_reducible refine (pixel_To8.calls k t566 t567 _ A18.out).mono ?_); rintro e w23 ⟨rfl, hb⟩; have n0_ := Aside0.mk (blk_below (g := gb557) (o := .cells #[.int .i64 a0_0, .int .i64 a0_1, .int .i64 a0_2, .int .i64 a0_3] 23 (0, 0)) (by (with_reducible repeat (first | refine blk_drewN ?_ _ | refine blk_drew ?_ | refine blk_alloc ?_ _)); exact BK557.out) hb); have n1_ := Aside0.mk (blk_below (g := gb564) (o := .cells #[.int .i64 t559, .int .i64 t560, .int .i64 t561, .int .i64 t562] 23 (0, 0)) (by (with_reducible repeat (first | refine blk_drewN ?_ _ | refine blk_drew ?_ | refine blk_alloc ?_ _)); exact BK564.out) hb); have n2_ := Aside0.mk (below_step (by repeat (first | (with_reducible first | exact HB.out | apply below_alloc | apply pw_below_drewN | apply below_drew1 | refine below_set ?_ GE557.out | refine below_set ?_ GE564.out) | exact HB.out)) hb); clear BK557; clear BK564; clear HB; have BK557 := n0_; have BK564 := n1_; have HB := n2_; clear n0_ n1_ n2_; (try clear hb); (try clear hb2); (try clear hk); (try clear hi)))
          go_meet
          case rel => exact ⟨_, ((t567 != (wrap64 (a1)))), (by first | rfl | (simp; done) | (simp [*]; done)), H', ⟨by first | omega | exact Nat.le_refl _⟩, ⟨by (with_reducible repeat (first | refine blk_drewN ?_ _ | refine blk_drew ?_ | refine blk_alloc ?_ _)); exact BK557.out⟩, ⟨by (with_reducible repeat (first | refine blk_drewN ?_ _ | refine blk_drew ?_ | refine blk_alloc ?_ _)); exact BK564.out⟩, ⟨by repeat (first | (with_reducible first | exact HB.out | apply below_alloc | apply pw_below_drewN | apply below_drew1 | refine below_set ?_ GE557.out | refine below_set ?_ GE564.out) | exact HB.out)⟩⟩
        · rw [if_neg c16] at H
          have c16b0 : (t565.toList == t558.toList) = false := beq_eq_false_iff_ne.mpr c16
          have c16b1 : (t565.toList != t558.toList) = true := bne_iff_ne.mpr c16
          have H' := Aside0.mk H
          clear H
          have hnb24 := NB564_557.out
          have hnc24 := NB557_564.out
          have hcz25_0 : w10.cell? ⟨gb564, 0, none⟩ = some (.int .i64 0) := (blk_cell BK564.out 0).trans rfl
          have hcz25_1 : w10.cell? ⟨gb564, 1, none⟩ = some (.int .i64 0) := (blk_cell BK564.out 1).trans rfl
          have hcz25_2 : w10.cell? ⟨gb564, 2, none⟩ = some (.int .i64 0) := (blk_cell BK564.out 2).trans rfl
          have hcz25_3 : w10.cell? ⟨gb564, 3, none⟩ = some (.int .i64 0) := (blk_cell BK564.out 3).trans rfl
          have hfz25_0 := blk_frozen BK564.out 0
          have hfz25_1 := blk_frozen BK564.out 1
          have hfz25_2 := blk_frozen BK564.out 2
          have hfz25_3 := blk_frozen BK564.out 3
          go_wp2_with (first | (go_at_call 34; (with_reducible refine (pixel_Print.calls k t559 t560 t561 t562 t565 _ A15.out).mono ?_); rintro e w26 ⟨rfl, hb⟩; have n0_ := Aside0.mk (blk_below (g := gb557) (o := .cells #[.int .i64 a0_0, .int .i64 a0_1, .int .i64 a0_2, .int .i64 a0_3] 23 (0, 0)) (by (with_reducible repeat (first | refine blk_drewN ?_ _ | refine blk_drew ?_ | refine blk_alloc ?_ _)); refine blk_far ?_ NB557_564.out _; (with_reducible repeat (first | refine blk_drewN ?_ _ | refine blk_drew ?_ | refine blk_alloc ?_ _)); refine blk_far ?_ NB557_564.out _; (with_reducible repeat (first | refine blk_drewN ?_ _ | refine blk_drew ?_ | refine blk_alloc ?_ _)); refine blk_far ?_ NB557_564.out _; (with_reducible repeat (first | refine blk_drewN ?_ _ | refine blk_drew ?_ | refine blk_alloc ?_ _)); refine blk_far ?_ NB557_564.out _; (with_reducible repeat (first | refine blk_drewN ?_ _ | refine blk_drew ?_ | refine blk_alloc ?_ _)); exact BK557.out) hb); have n1_ := Aside0.mk (blk_below (g := gb564) (o := .cells #[.int .i64 t559, .int .i64 t560, .int .i64 t561, .int .i64 t562] 23 (0, 0)) (by (with_reducible repeat (first | refine blk_drewN ?_ _ | refine blk_drew ?_ | refine blk_alloc ?_ _)); refine blk_put (cs := #[.int .i64 t559, .int .i64 t560, .int .i64 t561, .int .i64 0]) ?_ 3 _ rfl; (with_reducible repeat (first | refine blk_drewN ?_ _ | refine blk_drew ?_ | refine blk_alloc ?_ _)); refine blk_put (cs := #[.int .i64 t559, .int .i64 t560, .int .i64 0, .int .i64 0]) ?_ 2 _ rfl; (with_reducible repeat (first | refine blk_drewN ?_ _ | refine blk_drew ?_ | refine blk_alloc ?_ _)); refine blk_put (cs := #[.int .i64 t559, .int .i64 0, .int .i64 0, .int .i64 0]) ?_ 1 _ rfl; (with_reducible repeat (first | refine blk_drewN ?_ _ | refine blk_drew ?_ | refine blk_alloc ?_ _)); refine blk_put (cs := #[.int .i64 0, .int .i64 0, .int .i64 0, .int .i64 0]) ?_ 0 _ rfl; (with_reducible repeat (first | refine blk_drewN ?_ _ | refine blk_drew ?_ | refine blk_alloc ?_ _)); exact BK564.out) hb); have n2_ := Aside0.mk (below_step (by repeat (first | (with_reducible first | exact HB.out | apply below_alloc | apply pw_below_drewN | apply below_drew1 | refine below_set ?_ GE557.out | refine below_set ?_ GE564.out) | exact HB.out)) hb); clear BK557; clear BK564; clear HB; have BK557 := n0_; have BK564 := n1_; have HB := n2_; clear n0_ n1_ n2_; (try clear hb); (try clear hb2); (try clear hk); (try clear hi)))
          go_meet
          case rel => exact ⟨_, (true), (by first | rfl | (simp; done) | (simp [*]; done)), H', ⟨by first | omega | exact Nat.le_refl _⟩, ⟨by (with_reducible repeat (first | refine blk_drewN ?_ _ | refine blk_drew ?_ | refine blk_alloc ?_ _)); exact BK557.out⟩, ⟨by (with_reducible repeat (first | refine blk_drewN ?_ _ | refine blk_drew ?_ | refine blk_alloc ?_ _)); exact BK564.out⟩, ⟨by repeat (first | (with_reducible first | exact HB.out | apply below_alloc | apply pw_below_drewN | apply below_drew1 | refine below_set ?_ GE557.out | refine below_set ?_ GE564.out) | exact HB.out)⟩⟩
      · rw [if_neg c14] at H
        have c14b0 : (t563 == 0) = false := beq_eq_false_iff_ne.mpr c14
        have c14b1 : (t563 != 0) = true := bne_iff_ne.mpr c14
        have H' := Aside0.mk H
        clear H
        go_wp2
        go_meet
        case rel => exact ⟨_, (true), (by first | rfl | (simp; done) | (simp [*]; done)), H', ⟨by first | omega | exact Nat.le_refl _⟩, ⟨by (with_reducible repeat (first | refine blk_drewN ?_ _ | refine blk_drew ?_ | refine blk_alloc ?_ _)); refine blk_far ?_ NB557_564.out _; (with_reducible repeat (first | refine blk_drewN ?_ _ | refine blk_drew ?_ | refine blk_alloc ?_ _)); refine blk_far ?_ NB557_564.out _; (with_reducible repeat (first | refine blk_drewN ?_ _ | refine blk_drew ?_ | refine blk_alloc ?_ _)); refine blk_far ?_ NB557_564.out _; (with_reducible repeat (first | refine blk_drewN ?_ _ | refine blk_drew ?_ | refine blk_alloc ?_ _)); refine blk_far ?_ NB557_564.out _; (with_reducible repeat (first | refine blk_drewN ?_ _ | refine blk_drew ?_ | refine blk_alloc ?_ _)); exact BK557.out⟩, ⟨by (with_reducible repeat (first | refine blk_drewN ?_ _ | refine blk_drew ?_ | refine blk_alloc ?_ _)); refine blk_put (cs := #[.int .i64 t559, .int .i64 t560, .int .i64 t561, .int .i64 0]) ?_ 3 _ rfl; (with_reducible repeat (first | refine blk_drewN ?_ _ | refine blk_drew ?_ | refine blk_alloc ?_ _)); refine blk_put (cs := #[.int .i64 t559, .int .i64 t560, .int .i64 0, .int .i64 0]) ?_ 2 _ rfl; (with_reducible repeat (first | refine blk_drewN ?_ _ | refine blk_drew ?_ | refine blk_alloc ?_ _)); refine blk_put (cs := #[.int .i64 t559, .int .i64 0, .int .i64 0, .int .i64 0]) ?_ 1 _ rfl; (with_reducible repeat (first | refine blk_drewN ?_ _ | refine blk_drew ?_ | refine blk_alloc ?_ _)); refine blk_put (cs := #[.int .i64 0, .int .i64 0, .int .i64 0, .int .i64 0]) ?_ 0 _ rfl; (with_reducible repeat (first | refine blk_drewN ?_ _ | refine blk_drew ?_ | refine blk_alloc ?_ _)); exact BK564.out⟩, ⟨by repeat (first | (with_reducible first | exact HB.out | apply below_alloc | apply pw_below_drewN | apply below_drew1 | refine below_set ?_ GE557.out | refine below_set ?_ GE564.out) | exact HB.out)⟩⟩
    · rw [if_neg c13] at H
      have c13b0 : ((t558.size : Int) == 9) = false := beq_eq_false_iff_ne.mpr c13
      have c13b1 : ((t558.size : Int) != 9) = true := bne_iff_ne.mpr c13
      (first | rw [c13b0] | (simp only [i64_w, i32_w]; rw [c13b0]) | skip)
      have H' := Aside0.mk H
      clear H
      go_wp2
      go_meet
      case rel => exact ⟨_, (true), (by first | rfl | (simp; done) | (simp [*]; done)), H', ⟨by first | omega | exact Nat.le_refl _⟩, ⟨by (with_reducible repeat (first | refine blk_drewN ?_ _ | refine blk_drew ?_ | refine blk_alloc ?_ _)); refine blk_far ?_ NB557_564.out _; (with_reducible repeat (first | refine blk_drewN ?_ _ | refine blk_drew ?_ | refine blk_alloc ?_ _)); refine blk_far ?_ NB557_564.out _; (with_reducible repeat (first | refine blk_drewN ?_ _ | refine blk_drew ?_ | refine blk_alloc ?_ _)); refine blk_far ?_ NB557_564.out _; (with_reducible repeat (first | refine blk_drewN ?_ _ | refine blk_drew ?_ | refine blk_alloc ?_ _)); refine blk_far ?_ NB557_564.out _; (with_reducible repeat (first | refine blk_drewN ?_ _ | refine blk_drew ?_ | refine blk_alloc ?_ _)); exact BK557.out⟩, ⟨by (with_reducible repeat (first | refine blk_drewN ?_ _ | refine blk_drew ?_ | refine blk_alloc ?_ _)); refine blk_put (cs := #[.int .i64 t559, .int .i64 t560, .int .i64 t561, .int .i64 0]) ?_ 3 _ rfl; (with_reducible repeat (first | refine blk_drewN ?_ _ | refine blk_drew ?_ | refine blk_alloc ?_ _)); refine blk_put (cs := #[.int .i64 t559, .int .i64 t560, .int .i64 0, .int .i64 0]) ?_ 2 _ rfl; (with_reducible repeat (first | refine blk_drewN ?_ _ | refine blk_drew ?_ | refine blk_alloc ?_ _)); refine blk_put (cs := #[.int .i64 t559, .int .i64 0, .int .i64 0, .int .i64 0]) ?_ 1 _ rfl; (with_reducible repeat (first | refine blk_drewN ?_ _ | refine blk_drew ?_ | refine blk_alloc ?_ _)); refine blk_put (cs := #[.int .i64 0, .int .i64 0, .int .i64 0, .int .i64 0]) ?_ 0 _ rfl; (with_reducible repeat (first | refine blk_drewN ?_ _ | refine blk_drew ?_ | refine blk_alloc ?_ _)); exact BK564.out⟩, ⟨by repeat (first | (with_reducible first | exact HB.out | apply below_alloc | apply pw_below_drewN | apply below_drew1 | refine below_set ?_ GE557.out | refine below_set ?_ GE564.out) | exact HB.out)⟩⟩
  case rest =>
    clear HC5
    try clear c1
    try clear c2
    try clear p2
    try clear c3
    try clear p6
    try clear c10
    try clear c11
    try clear c13
    try clear c13b0
    try clear c13b1
    try clear c14
    try clear c14b0
    try clear c14b1
    try clear c16
    try clear c16b0
    try clear c16b1
    try clear c19
    try clear c24
    try clear hcz12_0
    try clear hcz12_1
    try clear hcz12_2
    try clear hcz12_3
    try clear hcz20_0
    try clear hcz20_1
    try clear hcz20_2
    try clear hcz20_3
    try clear hcz25_0
    try clear hcz25_1
    try clear hcz25_2
    try clear hcz25_3
    try clear hcz7_0
    try clear hcz7_1
    try clear hcz7_2
    try clear hcz7_3
    try clear hfz12_0
    try clear hfz12_1
    try clear hfz12_2
    try clear hfz12_3
    try clear hfz20_0
    try clear hfz20_1
    try clear hfz20_2
    try clear hfz20_3
    try clear hfz25_0
    try clear hfz25_1
    try clear hfz25_2
    try clear hfz25_3
    try clear hfz7_0
    try clear hfz7_1
    try clear hfz7_2
    try clear hfz7_3
    obtain ⟨kq, x36_4, rfl, HA, HJ4, BK557, BK564, HB⟩ := hcut
    cases kq with
    | zero => exact absurd HA.out (by simp [imageeditorlaw06_PixelNotation.j0])
    | succ kj4 =>
      have H := HA.out
      clear HA
      simp only [imageeditorlaw06_PixelNotation.j0] at H
      by_cases c27 : x36_4 = true
      · subst c27
        have H1 : (some false) = some r := by rw [if_pos rfl] at H; exact H
        clear H
        have H := H1
        clear H1
        obtain rfl := Option.some.inj H
        go_wp2
        go_ret
        exact ⟨by first | rfl | (simp [errW_none, errW_some] <;> rfl) | (simp [*, errW_none, errW_some] <;> rfl), by repeat (first | (with_reducible first | exact HB.out | apply below_alloc | apply pw_below_drewN | apply below_drew1 | refine below_set ?_ GE557.out | refine below_set ?_ GE564.out) | exact HB.out)⟩
      · replace c27 := Bool.eq_false_iff.mpr c27
        subst c27
        have H1 : ((imageeditorref06_Limit.f a0_0 a0_1 a0_2 a0_3).bind fun bt568 => ((imageeditorlaw06_near.f bt568.1 t559 128).bind fun t572 => (if t572 = true then ((imageeditorlaw06_near.f bt568.2.1 t560 128).bind fun t573 => (if t573 = true then ((imageeditorlaw06_near.f bt568.2.2.1 t561 128).bind fun t574 => (if t574 = true then ((imageeditorlaw06_near.f bt568.2.2.2 t562 128).bind fun t575 => (if t575 = true then ((pixel_Valid.f t559 t560 t561 t562).bind fun t576 => (if t576 = true then ((imageeditorlaw06_awake.f kj4).bind fun t577 => (some t577)) else (some false))) else (some false))) else (some false))) else (some false))) else (some false)))) = some r := by rw [if_neg (show ¬ (false = true) by decide)] at H; exact H
        clear H
        have H := H1
        clear H1
        replace H := Option.bind_eq_some_iff.mp H
        obtain ⟨⟨t568, t569, t570, t571⟩, A280, H⟩ := H
        replace H : ((imageeditorlaw06_near.f t568 t559 128).bind fun t572 => (if t572 = true then ((imageeditorlaw06_near.f t569 t560 128).bind fun t573 => (if t573 = true then ((imageeditorlaw06_near.f t570 t561 128).bind fun t574 => (if t574 = true then ((imageeditorlaw06_near.f t571 t562 128).bind fun t575 => (if t575 = true then ((pixel_Valid.f t559 t560 t561 t562).bind fun t576 => (if t576 = true then ((imageeditorlaw06_awake.f kj4).bind fun t577 => (some t577)) else (some false))) else (some false))) else (some false))) else (some false))) else (some false))) = some r := H
        have A28 := Aside0.mk A280
        clear A280
        replace H := Option.bind_eq_some_iff.mp H
        obtain ⟨t572, A290, H⟩ := H
        replace H : (if t572 = true then ((imageeditorlaw06_near.f t569 t560 128).bind fun t573 => (if t573 = true then ((imageeditorlaw06_near.f t570 t561 128).bind fun t574 => (if t574 = true then ((imageeditorlaw06_near.f t571 t562 128).bind fun t575 => (if t575 = true then ((pixel_Valid.f t559 t560 t561 t562).bind fun t576 => (if t576 = true then ((imageeditorlaw06_awake.f kj4).bind fun t577 => (some t577)) else (some false))) else (some false))) else (some false))) else (some false))) else (some false)) = some r := H
        have A29 := Aside0.mk A290
        clear A290
        by_cases c30 : t572 = true
        · subst c30
          have H1 : ((imageeditorlaw06_near.f t569 t560 128).bind fun t573 => (if t573 = true then ((imageeditorlaw06_near.f t570 t561 128).bind fun t574 => (if t574 = true then ((imageeditorlaw06_near.f t571 t562 128).bind fun t575 => (if t575 = true then ((pixel_Valid.f t559 t560 t561 t562).bind fun t576 => (if t576 = true then ((imageeditorlaw06_awake.f kj4).bind fun t577 => (some t577)) else (some false))) else (some false))) else (some false))) else (some false))) = some r := by rw [if_pos rfl] at H; exact H
          clear H
          have H := H1
          clear H1
          replace H := Option.bind_eq_some_iff.mp H
          obtain ⟨t573, A310, H⟩ := H
          replace H : (if t573 = true then ((imageeditorlaw06_near.f t570 t561 128).bind fun t574 => (if t574 = true then ((imageeditorlaw06_near.f t571 t562 128).bind fun t575 => (if t575 = true then ((pixel_Valid.f t559 t560 t561 t562).bind fun t576 => (if t576 = true then ((imageeditorlaw06_awake.f kj4).bind fun t577 => (some t577)) else (some false))) else (some false))) else (some false))) else (some false)) = some r := H
          have A31 := Aside0.mk A310
          clear A310
          by_cases c32 : t573 = true
          · subst c32
            have H1 : ((imageeditorlaw06_near.f t570 t561 128).bind fun t574 => (if t574 = true then ((imageeditorlaw06_near.f t571 t562 128).bind fun t575 => (if t575 = true then ((pixel_Valid.f t559 t560 t561 t562).bind fun t576 => (if t576 = true then ((imageeditorlaw06_awake.f kj4).bind fun t577 => (some t577)) else (some false))) else (some false))) else (some false))) = some r := by rw [if_pos rfl] at H; exact H
            clear H
            have H := H1
            clear H1
            replace H := Option.bind_eq_some_iff.mp H
            obtain ⟨t574, A330, H⟩ := H
            replace H : (if t574 = true then ((imageeditorlaw06_near.f t571 t562 128).bind fun t575 => (if t575 = true then ((pixel_Valid.f t559 t560 t561 t562).bind fun t576 => (if t576 = true then ((imageeditorlaw06_awake.f kj4).bind fun t577 => (some t577)) else (some false))) else (some false))) else (some false)) = some r := H
            have A33 := Aside0.mk A330
            clear A330
            by_cases c34 : t574 = true
            · subst c34
              have H1 : ((imageeditorlaw06_near.f t571 t562 128).bind fun t575 => (if t575 = true then ((pixel_Valid.f t559 t560 t561 t562).bind fun t576 => (if t576 = true then ((imageeditorlaw06_awake.f kj4).bind fun t577 => (some t577)) else (some false))) else (some false))) = some r := by rw [if_pos rfl] at H; exact H
              clear H
              have H := H1
              clear H1
              replace H := Option.bind_eq_some_iff.mp H
              obtain ⟨t575, A350, H⟩ := H
              replace H : (if t575 = true then ((pixel_Valid.f t559 t560 t561 t562).bind fun t576 => (if t576 = true then ((imageeditorlaw06_awake.f kj4).bind fun t577 => (some t577)) else (some false))) else (some false)) = some r := H
              have A35 := Aside0.mk A350
              clear A350
              by_cases c36 : t575 = true
              · subst c36
                have H1 : ((pixel_Valid.f t559 t560 t561 t562).bind fun t576 => (if t576 = true then ((imageeditorlaw06_awake.f kj4).bind fun t577 => (some t577)) else (some false))) = some r := by rw [if_pos rfl] at H; exact H
                clear H
                have H := H1
                clear H1
                replace H := Option.bind_eq_some_iff.mp H
                obtain ⟨t576, A370, H⟩ := H
                replace H : (if t576 = true then ((imageeditorlaw06_awake.f kj4).bind fun t577 => (some t577)) else (some false)) = some r := H
                have A37 := Aside0.mk A370
                clear A370
                by_cases c38 : t576 = true
                · subst c38
                  have H1 : ((imageeditorlaw06_awake.f kj4).bind fun t577 => (some t577)) = some r := by rw [if_pos rfl] at H; exact H
                  clear H
                  have H := H1
                  clear H1
                  replace H := Option.bind_eq_some_iff.mp H
                  obtain ⟨t577, A390, H⟩ := H
                  replace H : (some t577) = some r := H
                  have A39 := Aside0.mk A390
                  clear A390
                  obtain rfl := Option.some.inj H
                  have hnb40 := NB557_564.out
                  have hnc40 := NB564_557.out
                  have hcz41_0 : wc.cell? ⟨gb557, 0, none⟩ = some (.int .i64 a0_0) := (blk_cell BK557.out 0).trans rfl
                  have hcz41_1 : wc.cell? ⟨gb557, 1, none⟩ = some (.int .i64 a0_1) := (blk_cell BK557.out 1).trans rfl
                  have hcz41_2 : wc.cell? ⟨gb557, 2, none⟩ = some (.int .i64 a0_2) := (blk_cell BK557.out 2).trans rfl
                  have hcz41_3 : wc.cell? ⟨gb557, 3, none⟩ = some (.int .i64 a0_3) := (blk_cell BK557.out 3).trans rfl
                  have hfz41_0 := blk_frozen BK557.out 0
                  have hfz41_1 := blk_frozen BK557.out 1
                  have hfz41_2 := blk_frozen BK557.out 2
                  have hfz41_3 := blk_frozen BK557.out 3
                  go_wp2_with (first | ((with_reducible refine gate_callee (f := 14) rfl ?_); refine goesL_ (some 38) rfl rfl Try.func14 (by kernel_rfl) rfl #[.agg #[.int .i64 a0_0, .int .i64 a0_1, .int .i64 a0_2, .int .i64 a0_3]] rfl (by (try simp only [List.map_toArray, List.map_cons, List.map_nil]); first | done | rfl | (simp only [List.length_drop, List.length_take]; rfl)) ?_; (with_reducible refine (imageeditorref06_Limit.calls a0_0 a0_1 a0_2 a0_3 t568 t569 t570 t571 _ A28.out).mono ?_); rintro e w42 ⟨rfl, hb⟩; refine ⟨_, rfl, ?_⟩; have n0_ := Aside0.mk (blk_below (g := gb557) (o := .cells #[.int .i64 a0_0, .int .i64 a0_1, .int .i64 a0_2, .int .i64 a0_3] 23 (0, 0)) (by (with_reducible repeat (first | refine blk_drewN ?_ _ | refine blk_drew ?_ | refine blk_alloc ?_ _)); exact BK557.out) hb); have n1_ := Aside0.mk (blk_below (g := gb564) (o := .cells #[.int .i64 t559, .int .i64 t560, .int .i64 t561, .int .i64 t562] 23 (0, 0)) (by (with_reducible repeat (first | refine blk_drewN ?_ _ | refine blk_drew ?_ | refine blk_alloc ?_ _)); exact BK564.out) hb); have n2_ := Aside0.mk (below_step (by repeat (first | (with_reducible first | exact HB.out | apply below_alloc | apply pw_below_drewN | apply below_drew1 | refine below_set ?_ GE557.out | refine below_set ?_ GE564.out) | exact HB.out)) hb); clear BK557; clear BK564; clear HB; have BK557 := n0_; have BK564 := n1_; have HB := n2_; clear n0_ n1_ n2_; (try clear hb); (try clear hb2); (try clear hk); (try clear hi); have hcz43_0 : w42.cell? ⟨gb557, 0, none⟩ = some (.int .i64 a0_0) := (blk_cell BK557.out 0).trans rfl; have hcz43_1 : w42.cell? ⟨gb557, 1, none⟩ = some (.int .i64 a0_1) := (blk_cell BK557.out 1).trans rfl; have hcz43_2 : w42.cell? ⟨gb557, 2, none⟩ = some (.int .i64 a0_2) := (blk_cell BK557.out 2).trans rfl; have hcz43_3 : w42.cell? ⟨gb557, 3, none⟩ = some (.int .i64 a0_3) := (blk_cell BK557.out 3).trans rfl; have hfz43_0 := blk_frozen BK557.out 0; have hfz43_1 := blk_frozen BK557.out 1; have hfz43_2 := blk_frozen BK557.out 2; have hfz43_3 := blk_frozen BK557.out 3; have hcz44_0 : w42.cell? ⟨gb564, 0, none⟩ = some (.int .i64 t559) := (blk_cell BK564.out 0).trans rfl; have hcz44_1 : w42.cell? ⟨gb564, 1, none⟩ = some (.int .i64 t560) := (blk_cell BK564.out 1).trans rfl; have hcz44_2 : w42.cell? ⟨gb564, 2, none⟩ = some (.int .i64 t561) := (blk_cell BK564.out 2).trans rfl; have hcz44_3 : w42.cell? ⟨gb564, 3, none⟩ = some (.int .i64 t562) := (blk_cell BK564.out 3).trans rfl; have hfz44_0 := blk_frozen BK564.out 0; have hfz44_1 := blk_frozen BK564.out 1; have hfz44_2 := blk_frozen BK564.out 2; have hfz44_3 := blk_frozen BK564.out 3) | ((with_reducible refine gate_callee (f := 36) rfl ?_); refine goesL_ (some 43) rfl rfl Try.func36 (by kernel_rfl) rfl #[.int .i64 t568, .int .i64 t559, .int .i64 128] rfl (by (try simp only [List.map_toArray, List.map_cons, List.map_nil]); first | done | rfl | (simp only [List.length_drop, List.length_take]; rfl)) ?_; (with_reducible refine (imageeditorlaw06_near.calls t568 t559 128 true _ A29.out).mono ?_); rintro e w' ⟨rfl, ⟨nd, rfl⟩⟩; refine ⟨_, rfl, ?_⟩) | (go_at_call 36; (with_reducible refine (imageeditorlaw06_near.calls t569 t560 128 true _ A31.out).mono ?_); rintro e w' ⟨rfl, ⟨nd, rfl⟩⟩) | (go_at_call 36; (with_reducible refine (imageeditorlaw06_near.calls t570 t561 128 true _ A33.out).mono ?_); rintro e w' ⟨rfl, ⟨nd, rfl⟩⟩) | (go_at_call 36; (with_reducible refine (imageeditorlaw06_near.calls t571 t562 128 true _ A35.out).mono ?_); rintro e w' ⟨rfl, ⟨nd, rfl⟩⟩) | (go_at_call 11; (with_reducible refine (pixel_Valid.calls t559 t560 t561 t562 true _ A37.out).mono ?_); rintro e w45 ⟨rfl, hb⟩; have n0_ := Aside0.mk (blk_below (g := gb557) (o := .cells #[.int .i64 t568, .int .i64 t569, .int .i64 t570, .int .i64 t571] 23 (0, 0)) (by (with_reducible repeat (first | refine blk_drewN ?_ _ | refine blk_drew ?_ | refine blk_alloc ?_ _)); refine blk_put (cs := #[.int .i64 t568, .int .i64 t569, .int .i64 t570, .int .i64 a0_3]) ?_ 3 _ rfl; (with_reducible repeat (first | refine blk_drewN ?_ _ | refine blk_drew ?_ | refine blk_alloc ?_ _)); refine blk_put (cs := #[.int .i64 t568, .int .i64 t569, .int .i64 a0_2, .int .i64 a0_3]) ?_ 2 _ rfl; (with_reducible repeat (first | refine blk_drewN ?_ _ | refine blk_drew ?_ | refine blk_alloc ?_ _)); refine blk_put (cs := #[.int .i64 t568, .int .i64 a0_1, .int .i64 a0_2, .int .i64 a0_3]) ?_ 1 _ rfl; (with_reducible repeat (first | refine blk_drewN ?_ _ | refine blk_drew ?_ | refine blk_alloc ?_ _)); refine blk_put (cs := #[.int .i64 a0_0, .int .i64 a0_1, .int .i64 a0_2, .int .i64 a0_3]) ?_ 0 _ rfl; (with_reducible repeat (first | refine blk_drewN ?_ _ | refine blk_drew ?_ | refine blk_alloc ?_ _)); exact BK557.out) hb); have n1_ := Aside0.mk (blk_below (g := gb564) (o := .cells #[.int .i64 t559, .int .i64 t560, .int .i64 t561, .int .i64 t562] 23 (0, 0)) (by (with_reducible repeat (first | refine blk_drewN ?_ _ | refine blk_drew ?_ | refine blk_alloc ?_ _)); refine blk_far ?_ NB564_557.out _; (with_reducible repeat (first | refine blk_drewN ?_ _ | refine blk_drew ?_ | refine blk_alloc ?_ _)); refine blk_far ?_ NB564_557.out _; (with_reducible repeat (first | refine blk_drewN ?_ _ | refine blk_drew ?_ | refine blk_alloc ?_ _)); refine blk_far ?_ NB564_557.out _; (with_reducible repeat (first | refine blk_drewN ?_ _ | refine blk_drew ?_ | refine blk_alloc ?_ _)); refine blk_far ?_ NB564_557.out _; (with_reducible repeat (first | refine blk_drewN ?_ _ | refine blk_drew ?_ | refine blk_alloc ?_ _)); exact BK564.out) hb); have n2_ := Aside0.mk (below_step (by repeat (first | (with_reducible first | exact HB.out | apply below_alloc | apply pw_below_drewN | apply below_drew1 | refine below_set ?_ GE557.out | refine below_set ?_ GE564.out) | exact HB.out)) hb); clear BK557; clear BK564; clear HB; have BK557 := n0_; have BK564 := n1_; have HB := n2_; clear n0_ n1_ n2_; (try clear hb); (try clear hb2); (try clear hk); (try clear hi)) | (go_at_call 21; (with_reducible refine (imageeditorlaw06_awake.calls kj4  t577 _ A39.out).mono ?_); rintro e w46 ⟨rfl, hb⟩; have n0_ := Aside0.mk (blk_below (g := gb557) (o := .cells #[.int .i64 t568, .int .i64 t569, .int .i64 t570, .int .i64 t571] 23 (0, 0)) (by (with_reducible repeat (first | refine blk_drewN ?_ _ | refine blk_drew ?_ | refine blk_alloc ?_ _)); exact BK557.out) hb); have n1_ := Aside0.mk (blk_below (g := gb564) (o := .cells #[.int .i64 t559, .int .i64 t560, .int .i64 t561, .int .i64 t562] 23 (0, 0)) (by (with_reducible repeat (first | refine blk_drewN ?_ _ | refine blk_drew ?_ | refine blk_alloc ?_ _)); exact BK564.out) hb); have n2_ := Aside0.mk (below_step (by repeat (first | (with_reducible first | exact HB.out | apply below_alloc | apply pw_below_drewN | apply below_drew1 | refine below_set ?_ GE557.out | refine below_set ?_ GE564.out) | exact HB.out)) hb); clear BK557; clear BK564; clear HB; have BK557 := n0_; have BK564 := n1_; have HB := n2_; clear n0_ n1_ n2_; (try clear hb); (try clear hb2); (try clear hk); (try clear hi)))
                  go_ret
                  exact ⟨by first | rfl | (simp [errW_none, errW_some] <;> rfl) | (simp [*, errW_none, errW_some] <;> rfl), by repeat (first | (with_reducible first | exact HB.out | apply below_alloc | apply pw_below_drewN | apply below_drew1 | refine below_set ?_ GE557.out | refine below_set ?_ GE564.out) | exact HB.out)⟩
                · replace c38 := Bool.eq_false_iff.mpr c38
                  subst c38
                  have H1 : (some false) = some r := by rw [if_neg (show ¬ (false = true) by decide)] at H; exact H
                  clear H
                  have H := H1
                  clear H1
                  obtain rfl := Option.some.inj H
                  have hnb47 := NB557_564.out
                  have hnc47 := NB564_557.out
                  have hcz48_0 : wc.cell? ⟨gb557, 0, none⟩ = some (.int .i64 a0_0) := (blk_cell BK557.out 0).trans rfl
                  have hcz48_1 : wc.cell? ⟨gb557, 1, none⟩ = some (.int .i64 a0_1) := (blk_cell BK557.out 1).trans rfl
                  have hcz48_2 : wc.cell? ⟨gb557, 2, none⟩ = some (.int .i64 a0_2) := (blk_cell BK557.out 2).trans rfl
                  have hcz48_3 : wc.cell? ⟨gb557, 3, none⟩ = some (.int .i64 a0_3) := (blk_cell BK557.out 3).trans rfl
                  have hfz48_0 := blk_frozen BK557.out 0
                  have hfz48_1 := blk_frozen BK557.out 1
                  have hfz48_2 := blk_frozen BK557.out 2
                  have hfz48_3 := blk_frozen BK557.out 3
                  go_wp2_with (first | ((with_reducible refine gate_callee (f := 14) rfl ?_); refine goesL_ (some 38) rfl rfl Try.func14 (by kernel_rfl) rfl #[.agg #[.int .i64 a0_0, .int .i64 a0_1, .int .i64 a0_2, .int .i64 a0_3]] rfl (by (try simp only [List.map_toArray, List.map_cons, List.map_nil]); first | done | rfl | (simp only [List.length_drop, List.length_take]; rfl)) ?_; (with_reducible refine (imageeditorref06_Limit.calls a0_0 a0_1 a0_2 a0_3 t568 t569 t570 t571 _ A28.out).mono ?_); rintro e w49 ⟨rfl, hb⟩; refine ⟨_, rfl, ?_⟩; have n0_ := Aside0.mk (blk_below (g := gb557) (o := .cells #[.int .i64 a0_0, .int .i64 a0_1, .int .i64 a0_2, .int .i64 a0_3] 23 (0, 0)) (by (with_reducible repeat (first | refine blk_drewN ?_ _ | refine blk_drew ?_ | refine blk_alloc ?_ _)); exact BK557.out) hb); have n1_ := Aside0.mk (blk_below (g := gb564) (o := .cells #[.int .i64 t559, .int .i64 t560, .int .i64 t561, .int .i64 t562] 23 (0, 0)) (by (with_reducible repeat (first | refine blk_drewN ?_ _ | refine blk_drew ?_ | refine blk_alloc ?_ _)); exact BK564.out) hb); have n2_ := Aside0.mk (below_step (by repeat (first | (with_reducible first | exact HB.out | apply below_alloc | apply pw_below_drewN | apply below_drew1 | refine below_set ?_ GE557.out | refine below_set ?_ GE564.out) | exact HB.out)) hb); clear BK557; clear BK564; clear HB; have BK557 := n0_; have BK564 := n1_; have HB := n2_; clear n0_ n1_ n2_; (try clear hb); (try clear hb2); (try clear hk); (try clear hi); have hcz50_0 : w49.cell? ⟨gb557, 0, none⟩ = some (.int .i64 a0_0) := (blk_cell BK557.out 0).trans rfl; have hcz50_1 : w49.cell? ⟨gb557, 1, none⟩ = some (.int .i64 a0_1) := (blk_cell BK557.out 1).trans rfl; have hcz50_2 : w49.cell? ⟨gb557, 2, none⟩ = some (.int .i64 a0_2) := (blk_cell BK557.out 2).trans rfl; have hcz50_3 : w49.cell? ⟨gb557, 3, none⟩ = some (.int .i64 a0_3) := (blk_cell BK557.out 3).trans rfl; have hfz50_0 := blk_frozen BK557.out 0; have hfz50_1 := blk_frozen BK557.out 1; have hfz50_2 := blk_frozen BK557.out 2; have hfz50_3 := blk_frozen BK557.out 3; have hcz51_0 : w49.cell? ⟨gb564, 0, none⟩ = some (.int .i64 t559) := (blk_cell BK564.out 0).trans rfl; have hcz51_1 : w49.cell? ⟨gb564, 1, none⟩ = some (.int .i64 t560) := (blk_cell BK564.out 1).trans rfl; have hcz51_2 : w49.cell? ⟨gb564, 2, none⟩ = some (.int .i64 t561) := (blk_cell BK564.out 2).trans rfl; have hcz51_3 : w49.cell? ⟨gb564, 3, none⟩ = some (.int .i64 t562) := (blk_cell BK564.out 3).trans rfl; have hfz51_0 := blk_frozen BK564.out 0; have hfz51_1 := blk_frozen BK564.out 1; have hfz51_2 := blk_frozen BK564.out 2; have hfz51_3 := blk_frozen BK564.out 3) | ((with_reducible refine gate_callee (f := 36) rfl ?_); refine goesL_ (some 43) rfl rfl Try.func36 (by kernel_rfl) rfl #[.int .i64 t568, .int .i64 t559, .int .i64 128] rfl (by (try simp only [List.map_toArray, List.map_cons, List.map_nil]); first | done | rfl | (simp only [List.length_drop, List.length_take]; rfl)) ?_; (with_reducible refine (imageeditorlaw06_near.calls t568 t559 128 true _ A29.out).mono ?_); rintro e w' ⟨rfl, ⟨nd, rfl⟩⟩; refine ⟨_, rfl, ?_⟩) | (go_at_call 36; (with_reducible refine (imageeditorlaw06_near.calls t569 t560 128 true _ A31.out).mono ?_); rintro e w' ⟨rfl, ⟨nd, rfl⟩⟩) | (go_at_call 36; (with_reducible refine (imageeditorlaw06_near.calls t570 t561 128 true _ A33.out).mono ?_); rintro e w' ⟨rfl, ⟨nd, rfl⟩⟩) | (go_at_call 36; (with_reducible refine (imageeditorlaw06_near.calls t571 t562 128 true _ A35.out).mono ?_); rintro e w' ⟨rfl, ⟨nd, rfl⟩⟩) | (go_at_call 11; (with_reducible refine (pixel_Valid.calls t559 t560 t561 t562 false _ A37.out).mono ?_); rintro e w52 ⟨rfl, hb⟩; have n0_ := Aside0.mk (blk_below (g := gb557) (o := .cells #[.int .i64 t568, .int .i64 t569, .int .i64 t570, .int .i64 t571] 23 (0, 0)) (by (with_reducible repeat (first | refine blk_drewN ?_ _ | refine blk_drew ?_ | refine blk_alloc ?_ _)); refine blk_put (cs := #[.int .i64 t568, .int .i64 t569, .int .i64 t570, .int .i64 a0_3]) ?_ 3 _ rfl; (with_reducible repeat (first | refine blk_drewN ?_ _ | refine blk_drew ?_ | refine blk_alloc ?_ _)); refine blk_put (cs := #[.int .i64 t568, .int .i64 t569, .int .i64 a0_2, .int .i64 a0_3]) ?_ 2 _ rfl; (with_reducible repeat (first | refine blk_drewN ?_ _ | refine blk_drew ?_ | refine blk_alloc ?_ _)); refine blk_put (cs := #[.int .i64 t568, .int .i64 a0_1, .int .i64 a0_2, .int .i64 a0_3]) ?_ 1 _ rfl; (with_reducible repeat (first | refine blk_drewN ?_ _ | refine blk_drew ?_ | refine blk_alloc ?_ _)); refine blk_put (cs := #[.int .i64 a0_0, .int .i64 a0_1, .int .i64 a0_2, .int .i64 a0_3]) ?_ 0 _ rfl; (with_reducible repeat (first | refine blk_drewN ?_ _ | refine blk_drew ?_ | refine blk_alloc ?_ _)); exact BK557.out) hb); have n1_ := Aside0.mk (blk_below (g := gb564) (o := .cells #[.int .i64 t559, .int .i64 t560, .int .i64 t561, .int .i64 t562] 23 (0, 0)) (by (with_reducible repeat (first | refine blk_drewN ?_ _ | refine blk_drew ?_ | refine blk_alloc ?_ _)); refine blk_far ?_ NB564_557.out _; (with_reducible repeat (first | refine blk_drewN ?_ _ | refine blk_drew ?_ | refine blk_alloc ?_ _)); refine blk_far ?_ NB564_557.out _; (with_reducible repeat (first | refine blk_drewN ?_ _ | refine blk_drew ?_ | refine blk_alloc ?_ _)); refine blk_far ?_ NB564_557.out _; (with_reducible repeat (first | refine blk_drewN ?_ _ | refine blk_drew ?_ | refine blk_alloc ?_ _)); refine blk_far ?_ NB564_557.out _; (with_reducible repeat (first | refine blk_drewN ?_ _ | refine blk_drew ?_ | refine blk_alloc ?_ _)); exact BK564.out) hb); have n2_ := Aside0.mk (below_step (by repeat (first | (with_reducible first | exact HB.out | apply below_alloc | apply pw_below_drewN | apply below_drew1 | refine below_set ?_ GE557.out | refine below_set ?_ GE564.out) | exact HB.out)) hb); clear BK557; clear BK564; clear HB; have BK557 := n0_; have BK564 := n1_; have HB := n2_; clear n0_ n1_ n2_; (try clear hb); (try clear hb2); (try clear hk); (try clear hi)))
                  go_ret
                  exact ⟨by first | rfl | (simp [errW_none, errW_some] <;> rfl) | (simp [*, errW_none, errW_some] <;> rfl), by repeat (first | (with_reducible first | exact HB.out | apply below_alloc | apply pw_below_drewN | apply below_drew1 | refine below_set ?_ GE557.out | refine below_set ?_ GE564.out) | exact HB.out)⟩
              · replace c36 := Bool.eq_false_iff.mpr c36
                subst c36
                have H1 : (some false) = some r := by rw [if_neg (show ¬ (false = true) by decide)] at H; exact H
                clear H
                have H := H1
                clear H1
                obtain rfl := Option.some.inj H
                have hnb53 := NB557_564.out
                have hnc53 := NB564_557.out
                have hcz54_0 : wc.cell? ⟨gb557, 0, none⟩ = some (.int .i64 a0_0) := (blk_cell BK557.out 0).trans rfl
                have hcz54_1 : wc.cell? ⟨gb557, 1, none⟩ = some (.int .i64 a0_1) := (blk_cell BK557.out 1).trans rfl
                have hcz54_2 : wc.cell? ⟨gb557, 2, none⟩ = some (.int .i64 a0_2) := (blk_cell BK557.out 2).trans rfl
                have hcz54_3 : wc.cell? ⟨gb557, 3, none⟩ = some (.int .i64 a0_3) := (blk_cell BK557.out 3).trans rfl
                have hfz54_0 := blk_frozen BK557.out 0
                have hfz54_1 := blk_frozen BK557.out 1
                have hfz54_2 := blk_frozen BK557.out 2
                have hfz54_3 := blk_frozen BK557.out 3
                go_wp2_with (first | ((with_reducible refine gate_callee (f := 14) rfl ?_); refine goesL_ (some 38) rfl rfl Try.func14 (by kernel_rfl) rfl #[.agg #[.int .i64 a0_0, .int .i64 a0_1, .int .i64 a0_2, .int .i64 a0_3]] rfl (by (try simp only [List.map_toArray, List.map_cons, List.map_nil]); first | done | rfl | (simp only [List.length_drop, List.length_take]; rfl)) ?_; (with_reducible refine (imageeditorref06_Limit.calls a0_0 a0_1 a0_2 a0_3 t568 t569 t570 t571 _ A28.out).mono ?_); rintro e w55 ⟨rfl, hb⟩; refine ⟨_, rfl, ?_⟩; have n0_ := Aside0.mk (blk_below (g := gb557) (o := .cells #[.int .i64 a0_0, .int .i64 a0_1, .int .i64 a0_2, .int .i64 a0_3] 23 (0, 0)) (by (with_reducible repeat (first | refine blk_drewN ?_ _ | refine blk_drew ?_ | refine blk_alloc ?_ _)); exact BK557.out) hb); have n1_ := Aside0.mk (blk_below (g := gb564) (o := .cells #[.int .i64 t559, .int .i64 t560, .int .i64 t561, .int .i64 t562] 23 (0, 0)) (by (with_reducible repeat (first | refine blk_drewN ?_ _ | refine blk_drew ?_ | refine blk_alloc ?_ _)); exact BK564.out) hb); have n2_ := Aside0.mk (below_step (by repeat (first | (with_reducible first | exact HB.out | apply below_alloc | apply pw_below_drewN | apply below_drew1 | refine below_set ?_ GE557.out | refine below_set ?_ GE564.out) | exact HB.out)) hb); clear BK557; clear BK564; clear HB; have BK557 := n0_; have BK564 := n1_; have HB := n2_; clear n0_ n1_ n2_; (try clear hb); (try clear hb2); (try clear hk); (try clear hi); have hcz56_0 : w55.cell? ⟨gb557, 0, none⟩ = some (.int .i64 a0_0) := (blk_cell BK557.out 0).trans rfl; have hcz56_1 : w55.cell? ⟨gb557, 1, none⟩ = some (.int .i64 a0_1) := (blk_cell BK557.out 1).trans rfl; have hcz56_2 : w55.cell? ⟨gb557, 2, none⟩ = some (.int .i64 a0_2) := (blk_cell BK557.out 2).trans rfl; have hcz56_3 : w55.cell? ⟨gb557, 3, none⟩ = some (.int .i64 a0_3) := (blk_cell BK557.out 3).trans rfl; have hfz56_0 := blk_frozen BK557.out 0; have hfz56_1 := blk_frozen BK557.out 1; have hfz56_2 := blk_frozen BK557.out 2; have hfz56_3 := blk_frozen BK557.out 3; have hcz57_0 : w55.cell? ⟨gb564, 0, none⟩ = some (.int .i64 t559) := (blk_cell BK564.out 0).trans rfl; have hcz57_1 : w55.cell? ⟨gb564, 1, none⟩ = some (.int .i64 t560) := (blk_cell BK564.out 1).trans rfl; have hcz57_2 : w55.cell? ⟨gb564, 2, none⟩ = some (.int .i64 t561) := (blk_cell BK564.out 2).trans rfl; have hcz57_3 : w55.cell? ⟨gb564, 3, none⟩ = some (.int .i64 t562) := (blk_cell BK564.out 3).trans rfl; have hfz57_0 := blk_frozen BK564.out 0; have hfz57_1 := blk_frozen BK564.out 1; have hfz57_2 := blk_frozen BK564.out 2; have hfz57_3 := blk_frozen BK564.out 3) | ((with_reducible refine gate_callee (f := 36) rfl ?_); refine goesL_ (some 43) rfl rfl Try.func36 (by kernel_rfl) rfl #[.int .i64 t568, .int .i64 t559, .int .i64 128] rfl (by (try simp only [List.map_toArray, List.map_cons, List.map_nil]); first | done | rfl | (simp only [List.length_drop, List.length_take]; rfl)) ?_; (with_reducible refine (imageeditorlaw06_near.calls t568 t559 128 true _ A29.out).mono ?_); rintro e w' ⟨rfl, ⟨nd, rfl⟩⟩; refine ⟨_, rfl, ?_⟩) | (go_at_call 36; (with_reducible refine (imageeditorlaw06_near.calls t569 t560 128 true _ A31.out).mono ?_); rintro e w' ⟨rfl, ⟨nd, rfl⟩⟩) | (go_at_call 36; (with_reducible refine (imageeditorlaw06_near.calls t570 t561 128 true _ A33.out).mono ?_); rintro e w' ⟨rfl, ⟨nd, rfl⟩⟩) | (go_at_call 36; (with_reducible refine (imageeditorlaw06_near.calls t571 t562 128 false _ A35.out).mono ?_); rintro e w' ⟨rfl, ⟨nd, rfl⟩⟩))
                go_ret
                exact ⟨by first | rfl | (simp [errW_none, errW_some] <;> rfl) | (simp [*, errW_none, errW_some] <;> rfl), by repeat (first | (with_reducible first | exact HB.out | apply below_alloc | apply pw_below_drewN | apply below_drew1 | refine below_set ?_ GE557.out | refine below_set ?_ GE564.out) | exact HB.out)⟩
            · replace c34 := Bool.eq_false_iff.mpr c34
              subst c34
              have H1 : (some false) = some r := by rw [if_neg (show ¬ (false = true) by decide)] at H; exact H
              clear H
              have H := H1
              clear H1
              obtain rfl := Option.some.inj H
              have hnb58 := NB557_564.out
              have hnc58 := NB564_557.out
              have hcz59_0 : wc.cell? ⟨gb557, 0, none⟩ = some (.int .i64 a0_0) := (blk_cell BK557.out 0).trans rfl
              have hcz59_1 : wc.cell? ⟨gb557, 1, none⟩ = some (.int .i64 a0_1) := (blk_cell BK557.out 1).trans rfl
              have hcz59_2 : wc.cell? ⟨gb557, 2, none⟩ = some (.int .i64 a0_2) := (blk_cell BK557.out 2).trans rfl
              have hcz59_3 : wc.cell? ⟨gb557, 3, none⟩ = some (.int .i64 a0_3) := (blk_cell BK557.out 3).trans rfl
              have hfz59_0 := blk_frozen BK557.out 0
              have hfz59_1 := blk_frozen BK557.out 1
              have hfz59_2 := blk_frozen BK557.out 2
              have hfz59_3 := blk_frozen BK557.out 3
              go_wp2_with (first | ((with_reducible refine gate_callee (f := 14) rfl ?_); refine goesL_ (some 38) rfl rfl Try.func14 (by kernel_rfl) rfl #[.agg #[.int .i64 a0_0, .int .i64 a0_1, .int .i64 a0_2, .int .i64 a0_3]] rfl (by (try simp only [List.map_toArray, List.map_cons, List.map_nil]); first | done | rfl | (simp only [List.length_drop, List.length_take]; rfl)) ?_; (with_reducible refine (imageeditorref06_Limit.calls a0_0 a0_1 a0_2 a0_3 t568 t569 t570 t571 _ A28.out).mono ?_); rintro e w60 ⟨rfl, hb⟩; refine ⟨_, rfl, ?_⟩; have n0_ := Aside0.mk (blk_below (g := gb557) (o := .cells #[.int .i64 a0_0, .int .i64 a0_1, .int .i64 a0_2, .int .i64 a0_3] 23 (0, 0)) (by (with_reducible repeat (first | refine blk_drewN ?_ _ | refine blk_drew ?_ | refine blk_alloc ?_ _)); exact BK557.out) hb); have n1_ := Aside0.mk (blk_below (g := gb564) (o := .cells #[.int .i64 t559, .int .i64 t560, .int .i64 t561, .int .i64 t562] 23 (0, 0)) (by (with_reducible repeat (first | refine blk_drewN ?_ _ | refine blk_drew ?_ | refine blk_alloc ?_ _)); exact BK564.out) hb); have n2_ := Aside0.mk (below_step (by repeat (first | (with_reducible first | exact HB.out | apply below_alloc | apply pw_below_drewN | apply below_drew1 | refine below_set ?_ GE557.out | refine below_set ?_ GE564.out) | exact HB.out)) hb); clear BK557; clear BK564; clear HB; have BK557 := n0_; have BK564 := n1_; have HB := n2_; clear n0_ n1_ n2_; (try clear hb); (try clear hb2); (try clear hk); (try clear hi); have hcz61_0 : w60.cell? ⟨gb557, 0, none⟩ = some (.int .i64 a0_0) := (blk_cell BK557.out 0).trans rfl; have hcz61_1 : w60.cell? ⟨gb557, 1, none⟩ = some (.int .i64 a0_1) := (blk_cell BK557.out 1).trans rfl; have hcz61_2 : w60.cell? ⟨gb557, 2, none⟩ = some (.int .i64 a0_2) := (blk_cell BK557.out 2).trans rfl; have hcz61_3 : w60.cell? ⟨gb557, 3, none⟩ = some (.int .i64 a0_3) := (blk_cell BK557.out 3).trans rfl; have hfz61_0 := blk_frozen BK557.out 0; have hfz61_1 := blk_frozen BK557.out 1; have hfz61_2 := blk_frozen BK557.out 2; have hfz61_3 := blk_frozen BK557.out 3; have hcz62_0 : w60.cell? ⟨gb564, 0, none⟩ = some (.int .i64 t559) := (blk_cell BK564.out 0).trans rfl; have hcz62_1 : w60.cell? ⟨gb564, 1, none⟩ = some (.int .i64 t560) := (blk_cell BK564.out 1).trans rfl; have hcz62_2 : w60.cell? ⟨gb564, 2, none⟩ = some (.int .i64 t561) := (blk_cell BK564.out 2).trans rfl; have hcz62_3 : w60.cell? ⟨gb564, 3, none⟩ = some (.int .i64 t562) := (blk_cell BK564.out 3).trans rfl; have hfz62_0 := blk_frozen BK564.out 0; have hfz62_1 := blk_frozen BK564.out 1; have hfz62_2 := blk_frozen BK564.out 2; have hfz62_3 := blk_frozen BK564.out 3) | ((with_reducible refine gate_callee (f := 36) rfl ?_); refine goesL_ (some 43) rfl rfl Try.func36 (by kernel_rfl) rfl #[.int .i64 t568, .int .i64 t559, .int .i64 128] rfl (by (try simp only [List.map_toArray, List.map_cons, List.map_nil]); first | done | rfl | (simp only [List.length_drop, List.length_take]; rfl)) ?_; (with_reducible refine (imageeditorlaw06_near.calls t568 t559 128 true _ A29.out).mono ?_); rintro e w' ⟨rfl, ⟨nd, rfl⟩⟩; refine ⟨_, rfl, ?_⟩) | (go_at_call 36; (with_reducible refine (imageeditorlaw06_near.calls t569 t560 128 true _ A31.out).mono ?_); rintro e w' ⟨rfl, ⟨nd, rfl⟩⟩) | (go_at_call 36; (with_reducible refine (imageeditorlaw06_near.calls t570 t561 128 false _ A33.out).mono ?_); rintro e w' ⟨rfl, ⟨nd, rfl⟩⟩))
              go_ret
              exact ⟨by first | rfl | (simp [errW_none, errW_some] <;> rfl) | (simp [*, errW_none, errW_some] <;> rfl), by repeat (first | (with_reducible first | exact HB.out | apply below_alloc | apply pw_below_drewN | apply below_drew1 | refine below_set ?_ GE557.out | refine below_set ?_ GE564.out) | exact HB.out)⟩
          · replace c32 := Bool.eq_false_iff.mpr c32
            subst c32
            have H1 : (some false) = some r := by rw [if_neg (show ¬ (false = true) by decide)] at H; exact H
            clear H
            have H := H1
            clear H1
            obtain rfl := Option.some.inj H
            have hnb63 := NB557_564.out
            have hnc63 := NB564_557.out
            have hcz64_0 : wc.cell? ⟨gb557, 0, none⟩ = some (.int .i64 a0_0) := (blk_cell BK557.out 0).trans rfl
            have hcz64_1 : wc.cell? ⟨gb557, 1, none⟩ = some (.int .i64 a0_1) := (blk_cell BK557.out 1).trans rfl
            have hcz64_2 : wc.cell? ⟨gb557, 2, none⟩ = some (.int .i64 a0_2) := (blk_cell BK557.out 2).trans rfl
            have hcz64_3 : wc.cell? ⟨gb557, 3, none⟩ = some (.int .i64 a0_3) := (blk_cell BK557.out 3).trans rfl
            have hfz64_0 := blk_frozen BK557.out 0
            have hfz64_1 := blk_frozen BK557.out 1
            have hfz64_2 := blk_frozen BK557.out 2
            have hfz64_3 := blk_frozen BK557.out 3
            go_wp2_with (first | ((with_reducible refine gate_callee (f := 14) rfl ?_); refine goesL_ (some 38) rfl rfl Try.func14 (by kernel_rfl) rfl #[.agg #[.int .i64 a0_0, .int .i64 a0_1, .int .i64 a0_2, .int .i64 a0_3]] rfl (by (try simp only [List.map_toArray, List.map_cons, List.map_nil]); first | done | rfl | (simp only [List.length_drop, List.length_take]; rfl)) ?_; (with_reducible refine (imageeditorref06_Limit.calls a0_0 a0_1 a0_2 a0_3 t568 t569 t570 t571 _ A28.out).mono ?_); rintro e w65 ⟨rfl, hb⟩; refine ⟨_, rfl, ?_⟩; have n0_ := Aside0.mk (blk_below (g := gb557) (o := .cells #[.int .i64 a0_0, .int .i64 a0_1, .int .i64 a0_2, .int .i64 a0_3] 23 (0, 0)) (by (with_reducible repeat (first | refine blk_drewN ?_ _ | refine blk_drew ?_ | refine blk_alloc ?_ _)); exact BK557.out) hb); have n1_ := Aside0.mk (blk_below (g := gb564) (o := .cells #[.int .i64 t559, .int .i64 t560, .int .i64 t561, .int .i64 t562] 23 (0, 0)) (by (with_reducible repeat (first | refine blk_drewN ?_ _ | refine blk_drew ?_ | refine blk_alloc ?_ _)); exact BK564.out) hb); have n2_ := Aside0.mk (below_step (by repeat (first | (with_reducible first | exact HB.out | apply below_alloc | apply pw_below_drewN | apply below_drew1 | refine below_set ?_ GE557.out | refine below_set ?_ GE564.out) | exact HB.out)) hb); clear BK557; clear BK564; clear HB; have BK557 := n0_; have BK564 := n1_; have HB := n2_; clear n0_ n1_ n2_; (try clear hb); (try clear hb2); (try clear hk); (try clear hi); have hcz66_0 : w65.cell? ⟨gb557, 0, none⟩ = some (.int .i64 a0_0) := (blk_cell BK557.out 0).trans rfl; have hcz66_1 : w65.cell? ⟨gb557, 1, none⟩ = some (.int .i64 a0_1) := (blk_cell BK557.out 1).trans rfl; have hcz66_2 : w65.cell? ⟨gb557, 2, none⟩ = some (.int .i64 a0_2) := (blk_cell BK557.out 2).trans rfl; have hcz66_3 : w65.cell? ⟨gb557, 3, none⟩ = some (.int .i64 a0_3) := (blk_cell BK557.out 3).trans rfl; have hfz66_0 := blk_frozen BK557.out 0; have hfz66_1 := blk_frozen BK557.out 1; have hfz66_2 := blk_frozen BK557.out 2; have hfz66_3 := blk_frozen BK557.out 3; have hcz67_0 : w65.cell? ⟨gb564, 0, none⟩ = some (.int .i64 t559) := (blk_cell BK564.out 0).trans rfl; have hcz67_1 : w65.cell? ⟨gb564, 1, none⟩ = some (.int .i64 t560) := (blk_cell BK564.out 1).trans rfl; have hcz67_2 : w65.cell? ⟨gb564, 2, none⟩ = some (.int .i64 t561) := (blk_cell BK564.out 2).trans rfl; have hcz67_3 : w65.cell? ⟨gb564, 3, none⟩ = some (.int .i64 t562) := (blk_cell BK564.out 3).trans rfl; have hfz67_0 := blk_frozen BK564.out 0; have hfz67_1 := blk_frozen BK564.out 1; have hfz67_2 := blk_frozen BK564.out 2; have hfz67_3 := blk_frozen BK564.out 3) | ((with_reducible refine gate_callee (f := 36) rfl ?_); refine goesL_ (some 43) rfl rfl Try.func36 (by kernel_rfl) rfl #[.int .i64 t568, .int .i64 t559, .int .i64 128] rfl (by (try simp only [List.map_toArray, List.map_cons, List.map_nil]); first | done | rfl | (simp only [List.length_drop, List.length_take]; rfl)) ?_; (with_reducible refine (imageeditorlaw06_near.calls t568 t559 128 true _ A29.out).mono ?_); rintro e w' ⟨rfl, ⟨nd, rfl⟩⟩; refine ⟨_, rfl, ?_⟩) | (go_at_call 36; (with_reducible refine (imageeditorlaw06_near.calls t569 t560 128 false _ A31.out).mono ?_); rintro e w' ⟨rfl, ⟨nd, rfl⟩⟩))
            go_ret
            exact ⟨by first | rfl | (simp [errW_none, errW_some] <;> rfl) | (simp [*, errW_none, errW_some] <;> rfl), by repeat (first | (with_reducible first | exact HB.out | apply below_alloc | apply pw_below_drewN | apply below_drew1 | refine below_set ?_ GE557.out | refine below_set ?_ GE564.out) | exact HB.out)⟩
        · replace c30 := Bool.eq_false_iff.mpr c30
          subst c30
          have H1 : (some false) = some r := by rw [if_neg (show ¬ (false = true) by decide)] at H; exact H
          clear H
          have H := H1
          clear H1
          obtain rfl := Option.some.inj H
          have hnb68 := NB557_564.out
          have hnc68 := NB564_557.out
          have hcz69_0 : wc.cell? ⟨gb557, 0, none⟩ = some (.int .i64 a0_0) := (blk_cell BK557.out 0).trans rfl
          have hcz69_1 : wc.cell? ⟨gb557, 1, none⟩ = some (.int .i64 a0_1) := (blk_cell BK557.out 1).trans rfl
          have hcz69_2 : wc.cell? ⟨gb557, 2, none⟩ = some (.int .i64 a0_2) := (blk_cell BK557.out 2).trans rfl
          have hcz69_3 : wc.cell? ⟨gb557, 3, none⟩ = some (.int .i64 a0_3) := (blk_cell BK557.out 3).trans rfl
          have hfz69_0 := blk_frozen BK557.out 0
          have hfz69_1 := blk_frozen BK557.out 1
          have hfz69_2 := blk_frozen BK557.out 2
          have hfz69_3 := blk_frozen BK557.out 3
          go_wp2_with (first | ((with_reducible refine gate_callee (f := 14) rfl ?_); refine goesL_ (some 38) rfl rfl Try.func14 (by kernel_rfl) rfl #[.agg #[.int .i64 a0_0, .int .i64 a0_1, .int .i64 a0_2, .int .i64 a0_3]] rfl (by (try simp only [List.map_toArray, List.map_cons, List.map_nil]); first | done | rfl | (simp only [List.length_drop, List.length_take]; rfl)) ?_; (with_reducible refine (imageeditorref06_Limit.calls a0_0 a0_1 a0_2 a0_3 t568 t569 t570 t571 _ A28.out).mono ?_); rintro e w70 ⟨rfl, hb⟩; refine ⟨_, rfl, ?_⟩; have n0_ := Aside0.mk (blk_below (g := gb557) (o := .cells #[.int .i64 a0_0, .int .i64 a0_1, .int .i64 a0_2, .int .i64 a0_3] 23 (0, 0)) (by (with_reducible repeat (first | refine blk_drewN ?_ _ | refine blk_drew ?_ | refine blk_alloc ?_ _)); exact BK557.out) hb); have n1_ := Aside0.mk (blk_below (g := gb564) (o := .cells #[.int .i64 t559, .int .i64 t560, .int .i64 t561, .int .i64 t562] 23 (0, 0)) (by (with_reducible repeat (first | refine blk_drewN ?_ _ | refine blk_drew ?_ | refine blk_alloc ?_ _)); exact BK564.out) hb); have n2_ := Aside0.mk (below_step (by repeat (first | (with_reducible first | exact HB.out | apply below_alloc | apply pw_below_drewN | apply below_drew1 | refine below_set ?_ GE557.out | refine below_set ?_ GE564.out) | exact HB.out)) hb); clear BK557; clear BK564; clear HB; have BK557 := n0_; have BK564 := n1_; have HB := n2_; clear n0_ n1_ n2_; (try clear hb); (try clear hb2); (try clear hk); (try clear hi); have hcz71_0 : w70.cell? ⟨gb557, 0, none⟩ = some (.int .i64 a0_0) := (blk_cell BK557.out 0).trans rfl; have hcz71_1 : w70.cell? ⟨gb557, 1, none⟩ = some (.int .i64 a0_1) := (blk_cell BK557.out 1).trans rfl; have hcz71_2 : w70.cell? ⟨gb557, 2, none⟩ = some (.int .i64 a0_2) := (blk_cell BK557.out 2).trans rfl; have hcz71_3 : w70.cell? ⟨gb557, 3, none⟩ = some (.int .i64 a0_3) := (blk_cell BK557.out 3).trans rfl; have hfz71_0 := blk_frozen BK557.out 0; have hfz71_1 := blk_frozen BK557.out 1; have hfz71_2 := blk_frozen BK557.out 2; have hfz71_3 := blk_frozen BK557.out 3; have hcz72_0 : w70.cell? ⟨gb564, 0, none⟩ = some (.int .i64 t559) := (blk_cell BK564.out 0).trans rfl; have hcz72_1 : w70.cell? ⟨gb564, 1, none⟩ = some (.int .i64 t560) := (blk_cell BK564.out 1).trans rfl; have hcz72_2 : w70.cell? ⟨gb564, 2, none⟩ = some (.int .i64 t561) := (blk_cell BK564.out 2).trans rfl; have hcz72_3 : w70.cell? ⟨gb564, 3, none⟩ = some (.int .i64 t562) := (blk_cell BK564.out 3).trans rfl; have hfz72_0 := blk_frozen BK564.out 0; have hfz72_1 := blk_frozen BK564.out 1; have hfz72_2 := blk_frozen BK564.out 2; have hfz72_3 := blk_frozen BK564.out 3) | ((with_reducible refine gate_callee (f := 36) rfl ?_); refine goesL_ (some 43) rfl rfl Try.func36 (by kernel_rfl) rfl #[.int .i64 t568, .int .i64 t559, .int .i64 128] rfl (by (try simp only [List.map_toArray, List.map_cons, List.map_nil]); first | done | rfl | (simp only [List.length_drop, List.length_take]; rfl)) ?_; (with_reducible refine (imageeditorlaw06_near.calls t568 t559 128 false _ A29.out).mono ?_); rintro e w' ⟨rfl, ⟨nd, rfl⟩⟩; refine ⟨_, rfl, ?_⟩))
          go_ret
          exact ⟨by first | rfl | (simp [errW_none, errW_some] <;> rfl) | (simp [*, errW_none, errW_some] <;> rfl), by repeat (first | (with_reducible first | exact HB.out | apply below_alloc | apply pw_below_drewN | apply below_drew1 | refine below_set ?_ GE557.out | refine below_set ?_ GE564.out) | exact HB.out)⟩

end Go.Proofs.Ytmklcmobahgeeaa.Q
