-- Written for this claim by a program of this session (handprint.py) that drives the kit's print. Not trusted: Lean checks it.
import Derived.Test.YtmklcmobahgeeaaQ0
import Derived.Test.YtmklcmobahgeeaaQ1
import Derived.Test.YtmklcmobahgeeaaQ2
import Derived.Test.YtmklcmobahgeeaaQ4
import Derived.Test.YtmklcmobahgeeaaQ11
import Derived.Test.YtmklcmobahgeeaaQ21
namespace Go.Proofs.Ytmklcmobahgeeaa.Q
open Go.RowKit Go.Proofs.YtmklcmobahgeeaaW.PrintWords Go.Proofs.YtmklcmobahgeeaaW.PrintLast
attribute [local go_sem] max2_int min2_int max_two min_two max_three min_three max_four min_four
set_option linter.unusedVariables false
set_option linter.unusedSimpArgs false

attribute [local go_sem high] eqA23
/-! ### imageeditorlaw06_PixelStraightens: function 7 -/
mutual
def imageeditorlaw06_PixelStraightens.j0 : Nat → Bool → Int → Int → Int → Int → Option (Bool)
  | 0, _, _, _, _, _ => none
  | k + 1, x42, x465000, x465001, x465002, x465003 => if x42 = true then ((imageeditorlaw06_awake.f k).bind fun t465 => (some t465)) else ((pixel_Pre.f x465000 x465001 x465002 x465003).bind fun bt466 => ((pixel_Straight.f bt466.1 bt466.2.1 bt466.2.2.1 bt466.2.2.2).bind fun bt470 => ((pixel_Valid.f bt470.1 bt470.2.1 bt470.2.2.1 bt470.2.2.2).bind fun t475 => (if t475 = true then (if bt470.2.2.2 = x465003 then (if x465003 = 65535 then (imageeditorlaw06_PixelStraightens.j1 k (!(bt470.1 == x465000) || (!(bt470.2.1 == x465001) || (!(bt470.2.2.1 == x465002) || (!(bt470.2.2.2 == x465003))))) x465000 x465001 x465002 x465003 bt470.1 bt470.2.1 bt470.2.2.1 bt470.2.2.2) else (imageeditorlaw06_PixelStraightens.j1 k false x465000 x465001 x465002 x465003 bt470.1 bt470.2.1 bt470.2.2.1 bt470.2.2.2)) else (imageeditorlaw06_PixelStraightens.j1 k true x465000 x465001 x465002 x465003 bt470.1 bt470.2.1 bt470.2.2.1 bt470.2.2.2)) else (imageeditorlaw06_PixelStraightens.j1 k true x465000 x465001 x465002 x465003 bt470.1 bt470.2.1 bt470.2.2.1 bt470.2.2.2)))))
def imageeditorlaw06_PixelStraightens.j1 : Nat → Bool → Int → Int → Int → Int → Int → Int → Int → Int → Option (Bool)
  | 0, _, _, _, _, _, _, _, _, _ => none
  | k + 1, x66, x465000, x465001, x465002, x465003, x475000, x475001, x475002, x475003 => if x66 = true then (some false) else (if (wrap64 (2 * x465003)) = 0 then (none) else ((imageeditorlaw06_near.f x465000 x475000 (wrap64 (Int.tdiv (wrap64 (65535 + x465003)) (wrap64 (2 * x465003))))).bind fun t476 => (if t476 = true then ((imageeditorlaw06_near.f x465001 x475001 (wrap64 (Int.tdiv (wrap64 (65535 + x465003)) (wrap64 (2 * x465003))))).bind fun t477 => (if t477 = true then ((imageeditorlaw06_near.f x465002 x475002 (wrap64 (Int.tdiv (wrap64 (65535 + x465003)) (wrap64 (2 * x465003))))).bind fun t478 => (if t478 = true then ((imageeditorlaw06_awake.f k).bind fun t479 => (some t479)) else (some false))) else (some false))) else (some false))))
end
def imageeditorlaw06_PixelStraightens.f (k : Nat) (a0_0 : Int) (a0_1 : Int) (a0_2 : Int) (a0_3 : Int) : Option (Bool) := if a0_0 < 0 then (imageeditorlaw06_PixelStraightens.j0 k true a0_0 a0_1 a0_2 a0_3) else (if a0_0 > 65535 then (imageeditorlaw06_PixelStraightens.j0 k true a0_0 a0_1 a0_2 a0_3) else (if a0_1 < 0 then (imageeditorlaw06_PixelStraightens.j0 k true a0_0 a0_1 a0_2 a0_3) else (if a0_1 > 65535 then (imageeditorlaw06_PixelStraightens.j0 k true a0_0 a0_1 a0_2 a0_3) else (if a0_2 < 0 then (imageeditorlaw06_PixelStraightens.j0 k true a0_0 a0_1 a0_2 a0_3) else (if a0_2 > 65535 then (imageeditorlaw06_PixelStraightens.j0 k true a0_0 a0_1 a0_2 a0_3) else (if a0_3 < 1 then (imageeditorlaw06_PixelStraightens.j0 k true a0_0 a0_1 a0_2 a0_3) else (imageeditorlaw06_PixelStraightens.j0 k (decide (a0_3 > 65535)) a0_0 a0_1 a0_2 a0_3)))))))
theorem imageeditorlaw06_PixelStraightens.mono_l : ∀ k, (∀ y0 y1 y2 y3 y4, LeO (imageeditorlaw06_PixelStraightens.j0 k y0 y1 y2 y3 y4) (imageeditorlaw06_PixelStraightens.j0 (k + 1) y0 y1 y2 y3 y4)) ∧ (∀ y0 y1 y2 y3 y4 y5 y6 y7 y8, LeO (imageeditorlaw06_PixelStraightens.j1 k y0 y1 y2 y3 y4 y5 y6 y7 y8) (imageeditorlaw06_PixelStraightens.j1 (k + 1) y0 y1 y2 y3 y4 y5 y6 y7 y8))
  | 0 => ⟨fun _ _ _ _ _ r h => by simp [imageeditorlaw06_PixelStraightens.j0] at h, fun _ _ _ _ _ _ _ _ _ r h => by simp [imageeditorlaw06_PixelStraightens.j1] at h⟩
  | k + 1 => by
    obtain ⟨ih0, ih1⟩ := imageeditorlaw06_PixelStraightens.mono_l k
    refine ⟨?_, ?_⟩
    · intro y0 y1 y2 y3 y4
      unfold imageeditorlaw06_PixelStraightens.j0
      repeat' first
      | (with_reducible exact ih0 _ _ _ _ _)
      | (with_reducible exact ih1 _ _ _ _ _ _ _ _ _)
      | (with_reducible exact imageeditorlaw06_awake.mono _)
      | (with_reducible exact LeO.refl _)
      | (with_reducible exact LeO.none _)
      | (with_reducible refine LeO.ite ?_ ?_)
      | (with_reducible refine LeO.bind ?_ (fun _ => ?_))
      | exact ih0 _ _ _ _ _
      | exact ih1 _ _ _ _ _ _ _ _ _
      | exact imageeditorlaw06_awake.mono _
      | exact LeO.none _
      | refine LeO.ite ?_ ?_
      | refine LeO.bind ?_ (fun _ => ?_)
    · intro y0 y1 y2 y3 y4 y5 y6 y7 y8
      unfold imageeditorlaw06_PixelStraightens.j1
      repeat' first
      | (with_reducible exact ih0 _ _ _ _ _)
      | (with_reducible exact ih1 _ _ _ _ _ _ _ _ _)
      | (with_reducible exact imageeditorlaw06_awake.mono _)
      | (with_reducible exact LeO.refl _)
      | (with_reducible exact LeO.none _)
      | (with_reducible refine LeO.ite ?_ ?_)
      | (with_reducible refine LeO.bind ?_ (fun _ => ?_))
      | exact ih0 _ _ _ _ _
      | exact ih1 _ _ _ _ _ _ _ _ _
      | exact imageeditorlaw06_awake.mono _
      | exact LeO.none _
      | refine LeO.ite ?_ ?_
      | refine LeO.bind ?_ (fun _ => ?_)
theorem imageeditorlaw06_PixelStraightens.mono : ∀ a0 a1 a2 a3 k, LeO (imageeditorlaw06_PixelStraightens.f k a0 a1 a2 a3) (imageeditorlaw06_PixelStraightens.f (k + 1) a0 a1 a2 a3) := by
  intro a0 a1 a2 a3 k
  obtain ⟨ih0, ih1⟩ := imageeditorlaw06_PixelStraightens.mono_l k
  unfold imageeditorlaw06_PixelStraightens.f
  repeat' first
      | (with_reducible exact ih0 _ _ _ _ _)
      | (with_reducible exact ih1 _ _ _ _ _ _ _ _ _)
      | (with_reducible exact imageeditorlaw06_awake.mono _)
      | (with_reducible exact LeO.refl _)
      | (with_reducible exact LeO.none _)
      | (with_reducible refine LeO.ite ?_ ?_)
      | (with_reducible refine LeO.bind ?_ (fun _ => ?_))
      | exact ih0 _ _ _ _ _
      | exact ih1 _ _ _ _ _ _ _ _ _
      | exact imageeditorlaw06_awake.mono _
      | exact LeO.none _
      | refine LeO.ite ?_ ?_
      | refine LeO.bind ?_ (fun _ => ?_)
set_option maxHeartbeats 8000000 in
set_option maxRecDepth 100000 in
theorem imageeditorlaw06_PixelStraightens.calls (k : Nat) (a0_0 : Int) (a0_1 : Int) (a0_2 : Int) (a0_3 : Int) (r : Bool) (w : World) (h : imageeditorlaw06_PixelStraightens.f k a0_0 a0_1 a0_2 a0_3 = some r) :
    Calls Try.prog 7 #[.agg #[.int .i64 a0_0, .int .i64 a0_1, .int .i64 a0_2, .int .i64 a0_3]] w fun e w' => e = .returned (.bool r) ∧ Below w.heap.size w w' := by
  have hu23 := Try.underlying23
  have HB := Aside0.mk (Below.refl w.heap.size w)
  have H : (if a0_0 < 0 then (imageeditorlaw06_PixelStraightens.j0 k true a0_0 a0_1 a0_2 a0_3) else (if a0_0 > 65535 then (imageeditorlaw06_PixelStraightens.j0 k true a0_0 a0_1 a0_2 a0_3) else (if a0_1 < 0 then (imageeditorlaw06_PixelStraightens.j0 k true a0_0 a0_1 a0_2 a0_3) else (if a0_1 > 65535 then (imageeditorlaw06_PixelStraightens.j0 k true a0_0 a0_1 a0_2 a0_3) else (if a0_2 < 0 then (imageeditorlaw06_PixelStraightens.j0 k true a0_0 a0_1 a0_2 a0_3) else (if a0_2 > 65535 then (imageeditorlaw06_PixelStraightens.j0 k true a0_0 a0_1 a0_2 a0_3) else (if a0_3 < 1 then (imageeditorlaw06_PixelStraightens.j0 k true a0_0 a0_1 a0_2 a0_3) else (imageeditorlaw06_PixelStraightens.j0 k (decide (a0_3 > 65535)) a0_0 a0_1 a0_2 a0_3)))))))) = some r := h
  clear h
  have HC2 := Aside0.mk H
  clear H
  go_enter Try.func7, Try.ntmps7
  go_upto_region 1 with (first | ((with_reducible refine gate_dst (N := 1) rfl ?_); refine box_event ?hg (N := 1) ?hd (cs := #[.int .i64 a0_0, .int .i64 a0_1, .int .i64 a0_2, .int .i64 a0_3]) (t := 23) ?hr ?_; (case hd => rfl); (case hg => rfl); (case hr => first | (go_simp; done) | (go_simp; rfl)); intro gb464 hg w3 hbox hb; have n0_ := Aside0.mk (below_step (by repeat (first | (with_reducible first | exact HB.out | apply below_alloc | apply pw_below_drewN | apply below_drew1) | exact HB.out)) hb); have n1_ := Aside0.mk (hbox); have n2_ := Aside0.mk ((by rw [hg]; exact (below_size (by repeat (first | (with_reducible first | exact HB.out | apply below_alloc | apply pw_below_drewN | apply below_drew1) | exact HB.out))) : w.heap.size ≤ gb464)); have n3_ := Aside0.mk ((by rw [hg]; exact (below_size (by repeat (first | (with_reducible first | exact HB.out | apply below_alloc | apply pw_below_drewN | apply below_drew1) | exact HB.out))) : w.heap.size ≤ gb464)); clear HB; have HB := n0_; have BK464 := n1_; have GW464 := n2_; have GE464 := n3_; clear n0_ n1_ n2_ n3_; clear hb hbox hg))
  (try simp only [Act.put, List.setIfInBounds_toArray, List.set_cons_zero, List.set_cons_succ])
  go_cut [42] (fun v42 wc => ∃ (kq : Nat) (x42_1 : Bool), v42 = .bool x42_1 ∧ Aside0 (imageeditorlaw06_PixelStraightens.j0 kq x42_1 a0_0 a0_1 a0_2 a0_3 = some r) ∧ Aside0 (kq ≤ k) ∧ Aside0 (wc.heap[gb464]? = some (.cells #[.int .i64 a0_0, .int .i64 a0_1, .int .i64 a0_2, .int .i64 a0_3] 23 (0, 0))) ∧ Aside0 (Below w.heap.size w wc))
  case first =>
    have H := HC2.out
    clear HC2
    by_cases c4 : a0_0 < 0
    · rw [if_pos c4] at H
      have c4b0 : decide (a0_0 < 0) = true := decide_eq_true c4
      clear c4
      (first | rw [c4b0] | (simp only [i64_w, i32_w]; rw [c4b0]) | skip)
      have H' := Aside0.mk H
      clear H
      have hcz5_0 : w3.cell? ⟨gb464, 0, none⟩ = some (.int .i64 a0_0) := (blk_cell BK464.out 0).trans rfl
      have hcz5_1 : w3.cell? ⟨gb464, 1, none⟩ = some (.int .i64 a0_1) := (blk_cell BK464.out 1).trans rfl
      have hcz5_2 : w3.cell? ⟨gb464, 2, none⟩ = some (.int .i64 a0_2) := (blk_cell BK464.out 2).trans rfl
      have hcz5_3 : w3.cell? ⟨gb464, 3, none⟩ = some (.int .i64 a0_3) := (blk_cell BK464.out 3).trans rfl
      have hfz5_0 := blk_frozen BK464.out 0
      have hfz5_1 := blk_frozen BK464.out 1
      have hfz5_2 := blk_frozen BK464.out 2
      have hfz5_3 := blk_frozen BK464.out 3
      go_wp2
      go_meet
      case rel => exact ⟨_, (true), (by first | rfl | (simp; done) | (simp [*]; done)), H', ⟨by first | omega | exact Nat.le_refl _⟩, ⟨by (with_reducible repeat (first | refine blk_drewN ?_ _ | refine blk_drew ?_ | refine blk_alloc ?_ _)); exact BK464.out⟩, ⟨by repeat (first | (with_reducible first | exact HB.out | apply below_alloc | apply pw_below_drewN | apply below_drew1 | refine below_set ?_ GE464.out) | exact HB.out)⟩⟩
    · rw [if_neg c4] at H
      have c4b0 : decide (a0_0 < 0) = false := decide_eq_false c4
      clear c4
      (first | rw [c4b0] | (simp only [i64_w, i32_w]; rw [c4b0]) | skip)
      by_cases c6 : a0_0 > 65535
      · rw [if_pos c6] at H
        have c6b0 : decide (65535 < a0_0) = true := decide_eq_true c6
        clear c6
        have H' := Aside0.mk H
        clear H
        have hcz7_0 : w3.cell? ⟨gb464, 0, none⟩ = some (.int .i64 a0_0) := (blk_cell BK464.out 0).trans rfl
        have hcz7_1 : w3.cell? ⟨gb464, 1, none⟩ = some (.int .i64 a0_1) := (blk_cell BK464.out 1).trans rfl
        have hcz7_2 : w3.cell? ⟨gb464, 2, none⟩ = some (.int .i64 a0_2) := (blk_cell BK464.out 2).trans rfl
        have hcz7_3 : w3.cell? ⟨gb464, 3, none⟩ = some (.int .i64 a0_3) := (blk_cell BK464.out 3).trans rfl
        have hfz7_0 := blk_frozen BK464.out 0
        have hfz7_1 := blk_frozen BK464.out 1
        have hfz7_2 := blk_frozen BK464.out 2
        have hfz7_3 := blk_frozen BK464.out 3
        go_wp2
        go_meet
        case rel => exact ⟨_, (true), (by first | rfl | (simp; done) | (simp [*]; done)), H', ⟨by first | omega | exact Nat.le_refl _⟩, ⟨by (with_reducible repeat (first | refine blk_drewN ?_ _ | refine blk_drew ?_ | refine blk_alloc ?_ _)); exact BK464.out⟩, ⟨by repeat (first | (with_reducible first | exact HB.out | apply below_alloc | apply pw_below_drewN | apply below_drew1 | refine below_set ?_ GE464.out) | exact HB.out)⟩⟩
      · rw [if_neg c6] at H
        have c6b0 : decide (65535 < a0_0) = false := decide_eq_false c6
        clear c6
        by_cases c8 : a0_1 < 0
        · rw [if_pos c8] at H
          have c8b0 : decide (a0_1 < 0) = true := decide_eq_true c8
          clear c8
          have H' := Aside0.mk H
          clear H
          have hcz9_0 : w3.cell? ⟨gb464, 0, none⟩ = some (.int .i64 a0_0) := (blk_cell BK464.out 0).trans rfl
          have hcz9_1 : w3.cell? ⟨gb464, 1, none⟩ = some (.int .i64 a0_1) := (blk_cell BK464.out 1).trans rfl
          have hcz9_2 : w3.cell? ⟨gb464, 2, none⟩ = some (.int .i64 a0_2) := (blk_cell BK464.out 2).trans rfl
          have hcz9_3 : w3.cell? ⟨gb464, 3, none⟩ = some (.int .i64 a0_3) := (blk_cell BK464.out 3).trans rfl
          have hfz9_0 := blk_frozen BK464.out 0
          have hfz9_1 := blk_frozen BK464.out 1
          have hfz9_2 := blk_frozen BK464.out 2
          have hfz9_3 := blk_frozen BK464.out 3
          go_wp2
          go_meet
          case rel => exact ⟨_, (true), (by first | rfl | (simp; done) | (simp [*]; done)), H', ⟨by first | omega | exact Nat.le_refl _⟩, ⟨by (with_reducible repeat (first | refine blk_drewN ?_ _ | refine blk_drew ?_ | refine blk_alloc ?_ _)); exact BK464.out⟩, ⟨by repeat (first | (with_reducible first | exact HB.out | apply below_alloc | apply pw_below_drewN | apply below_drew1 | refine below_set ?_ GE464.out) | exact HB.out)⟩⟩
        · rw [if_neg c8] at H
          have c8b0 : decide (a0_1 < 0) = false := decide_eq_false c8
          clear c8
          by_cases c10 : a0_1 > 65535
          · rw [if_pos c10] at H
            have c10b0 : decide (65535 < a0_1) = true := decide_eq_true c10
            clear c10
            have H' := Aside0.mk H
            clear H
            have hcz11_0 : w3.cell? ⟨gb464, 0, none⟩ = some (.int .i64 a0_0) := (blk_cell BK464.out 0).trans rfl
            have hcz11_1 : w3.cell? ⟨gb464, 1, none⟩ = some (.int .i64 a0_1) := (blk_cell BK464.out 1).trans rfl
            have hcz11_2 : w3.cell? ⟨gb464, 2, none⟩ = some (.int .i64 a0_2) := (blk_cell BK464.out 2).trans rfl
            have hcz11_3 : w3.cell? ⟨gb464, 3, none⟩ = some (.int .i64 a0_3) := (blk_cell BK464.out 3).trans rfl
            have hfz11_0 := blk_frozen BK464.out 0
            have hfz11_1 := blk_frozen BK464.out 1
            have hfz11_2 := blk_frozen BK464.out 2
            have hfz11_3 := blk_frozen BK464.out 3
            go_wp2
            go_meet
            case rel => exact ⟨_, (true), (by first | rfl | (simp; done) | (simp [*]; done)), H', ⟨by first | omega | exact Nat.le_refl _⟩, ⟨by (with_reducible repeat (first | refine blk_drewN ?_ _ | refine blk_drew ?_ | refine blk_alloc ?_ _)); exact BK464.out⟩, ⟨by repeat (first | (with_reducible first | exact HB.out | apply below_alloc | apply pw_below_drewN | apply below_drew1 | refine below_set ?_ GE464.out) | exact HB.out)⟩⟩
          · rw [if_neg c10] at H
            have c10b0 : decide (65535 < a0_1) = false := decide_eq_false c10
            clear c10
            by_cases c12 : a0_2 < 0
            · rw [if_pos c12] at H
              have c12b0 : decide (a0_2 < 0) = true := decide_eq_true c12
              clear c12
              have H' := Aside0.mk H
              clear H
              have hcz13_0 : w3.cell? ⟨gb464, 0, none⟩ = some (.int .i64 a0_0) := (blk_cell BK464.out 0).trans rfl
              have hcz13_1 : w3.cell? ⟨gb464, 1, none⟩ = some (.int .i64 a0_1) := (blk_cell BK464.out 1).trans rfl
              have hcz13_2 : w3.cell? ⟨gb464, 2, none⟩ = some (.int .i64 a0_2) := (blk_cell BK464.out 2).trans rfl
              have hcz13_3 : w3.cell? ⟨gb464, 3, none⟩ = some (.int .i64 a0_3) := (blk_cell BK464.out 3).trans rfl
              have hfz13_0 := blk_frozen BK464.out 0
              have hfz13_1 := blk_frozen BK464.out 1
              have hfz13_2 := blk_frozen BK464.out 2
              have hfz13_3 := blk_frozen BK464.out 3
              go_wp2
              go_meet
              case rel => exact ⟨_, (true), (by first | rfl | (simp; done) | (simp [*]; done)), H', ⟨by first | omega | exact Nat.le_refl _⟩, ⟨by (with_reducible repeat (first | refine blk_drewN ?_ _ | refine blk_drew ?_ | refine blk_alloc ?_ _)); exact BK464.out⟩, ⟨by repeat (first | (with_reducible first | exact HB.out | apply below_alloc | apply pw_below_drewN | apply below_drew1 | refine below_set ?_ GE464.out) | exact HB.out)⟩⟩
            · rw [if_neg c12] at H
              have c12b0 : decide (a0_2 < 0) = false := decide_eq_false c12
              clear c12
              by_cases c14 : a0_2 > 65535
              · rw [if_pos c14] at H
                have c14b0 : decide (65535 < a0_2) = true := decide_eq_true c14
                clear c14
                have H' := Aside0.mk H
                clear H
                have hcz15_0 : w3.cell? ⟨gb464, 0, none⟩ = some (.int .i64 a0_0) := (blk_cell BK464.out 0).trans rfl
                have hcz15_1 : w3.cell? ⟨gb464, 1, none⟩ = some (.int .i64 a0_1) := (blk_cell BK464.out 1).trans rfl
                have hcz15_2 : w3.cell? ⟨gb464, 2, none⟩ = some (.int .i64 a0_2) := (blk_cell BK464.out 2).trans rfl
                have hcz15_3 : w3.cell? ⟨gb464, 3, none⟩ = some (.int .i64 a0_3) := (blk_cell BK464.out 3).trans rfl
                have hfz15_0 := blk_frozen BK464.out 0
                have hfz15_1 := blk_frozen BK464.out 1
                have hfz15_2 := blk_frozen BK464.out 2
                have hfz15_3 := blk_frozen BK464.out 3
                go_wp2
                go_meet
                case rel => exact ⟨_, (true), (by first | rfl | (simp; done) | (simp [*]; done)), H', ⟨by first | omega | exact Nat.le_refl _⟩, ⟨by (with_reducible repeat (first | refine blk_drewN ?_ _ | refine blk_drew ?_ | refine blk_alloc ?_ _)); exact BK464.out⟩, ⟨by repeat (first | (with_reducible first | exact HB.out | apply below_alloc | apply pw_below_drewN | apply below_drew1 | refine below_set ?_ GE464.out) | exact HB.out)⟩⟩
              · rw [if_neg c14] at H
                have c14b0 : decide (65535 < a0_2) = false := decide_eq_false c14
                clear c14
                by_cases c16 : a0_3 < 1
                · rw [if_pos c16] at H
                  have c16b0 : decide (a0_3 < 1) = true := decide_eq_true c16
                  clear c16
                  have H' := Aside0.mk H
                  clear H
                  have hcz17_0 : w3.cell? ⟨gb464, 0, none⟩ = some (.int .i64 a0_0) := (blk_cell BK464.out 0).trans rfl
                  have hcz17_1 : w3.cell? ⟨gb464, 1, none⟩ = some (.int .i64 a0_1) := (blk_cell BK464.out 1).trans rfl
                  have hcz17_2 : w3.cell? ⟨gb464, 2, none⟩ = some (.int .i64 a0_2) := (blk_cell BK464.out 2).trans rfl
                  have hcz17_3 : w3.cell? ⟨gb464, 3, none⟩ = some (.int .i64 a0_3) := (blk_cell BK464.out 3).trans rfl
                  have hfz17_0 := blk_frozen BK464.out 0
                  have hfz17_1 := blk_frozen BK464.out 1
                  have hfz17_2 := blk_frozen BK464.out 2
                  have hfz17_3 := blk_frozen BK464.out 3
                  go_wp2
                  go_meet
                  case rel => exact ⟨_, (true), (by first | rfl | (simp; done) | (simp [*]; done)), H', ⟨by first | omega | exact Nat.le_refl _⟩, ⟨by (with_reducible repeat (first | refine blk_drewN ?_ _ | refine blk_drew ?_ | refine blk_alloc ?_ _)); exact BK464.out⟩, ⟨by repeat (first | (with_reducible first | exact HB.out | apply below_alloc | apply pw_below_drewN | apply below_drew1 | refine below_set ?_ GE464.out) | exact HB.out)⟩⟩
                · rw [if_neg c16] at H
                  have c16b0 : decide (a0_3 < 1) = false := decide_eq_false c16
                  clear c16
                  have H' := Aside0.mk H
                  clear H
                  have hcz18_0 : w3.cell? ⟨gb464, 0, none⟩ = some (.int .i64 a0_0) := (blk_cell BK464.out 0).trans rfl
                  have hcz18_1 : w3.cell? ⟨gb464, 1, none⟩ = some (.int .i64 a0_1) := (blk_cell BK464.out 1).trans rfl
                  have hcz18_2 : w3.cell? ⟨gb464, 2, none⟩ = some (.int .i64 a0_2) := (blk_cell BK464.out 2).trans rfl
                  have hcz18_3 : w3.cell? ⟨gb464, 3, none⟩ = some (.int .i64 a0_3) := (blk_cell BK464.out 3).trans rfl
                  have hfz18_0 := blk_frozen BK464.out 0
                  have hfz18_1 := blk_frozen BK464.out 1
                  have hfz18_2 := blk_frozen BK464.out 2
                  have hfz18_3 := blk_frozen BK464.out 3
                  go_wp2
                  go_meet
                  case rel => exact ⟨_, (decide (a0_3 > 65535)), (by first | rfl | (simp; done) | (simp [*]; done)), H', ⟨by first | omega | exact Nat.le_refl _⟩, ⟨by (with_reducible repeat (first | refine blk_drewN ?_ _ | refine blk_drew ?_ | refine blk_alloc ?_ _)); exact BK464.out⟩, ⟨by repeat (first | (with_reducible first | exact HB.out | apply below_alloc | apply pw_below_drewN | apply below_drew1 | refine below_set ?_ GE464.out) | exact HB.out)⟩⟩
  case rest =>
    clear HC2
    try clear c1
    try clear p2
    try clear c4
    try clear c4b0
    try clear c6
    try clear c6b0
    try clear c7
    try clear c8
    try clear c8b0
    try clear c10
    try clear c10b0
    try clear c12
    try clear c12b0
    try clear c14
    try clear c14b0
    try clear c16
    try clear c16b0
    try clear hcz11_0
    try clear hcz11_1
    try clear hcz11_2
    try clear hcz11_3
    try clear hcz13_0
    try clear hcz13_1
    try clear hcz13_2
    try clear hcz13_3
    try clear hcz15_0
    try clear hcz15_1
    try clear hcz15_2
    try clear hcz15_3
    try clear hcz17_0
    try clear hcz17_1
    try clear hcz17_2
    try clear hcz17_3
    try clear hcz18_0
    try clear hcz18_1
    try clear hcz18_2
    try clear hcz18_3
    try clear hcz5_0
    try clear hcz5_1
    try clear hcz5_2
    try clear hcz5_3
    try clear hcz7_0
    try clear hcz7_1
    try clear hcz7_2
    try clear hcz7_3
    try clear hcz9_0
    try clear hcz9_1
    try clear hcz9_2
    try clear hcz9_3
    try clear hfz11_0
    try clear hfz11_1
    try clear hfz11_2
    try clear hfz11_3
    try clear hfz13_0
    try clear hfz13_1
    try clear hfz13_2
    try clear hfz13_3
    try clear hfz15_0
    try clear hfz15_1
    try clear hfz15_2
    try clear hfz15_3
    try clear hfz17_0
    try clear hfz17_1
    try clear hfz17_2
    try clear hfz17_3
    try clear hfz18_0
    try clear hfz18_1
    try clear hfz18_2
    try clear hfz18_3
    try clear hfz5_0
    try clear hfz5_1
    try clear hfz5_2
    try clear hfz5_3
    try clear hfz7_0
    try clear hfz7_1
    try clear hfz7_2
    try clear hfz7_3
    try clear hfz9_0
    try clear hfz9_1
    try clear hfz9_2
    try clear hfz9_3
    obtain ⟨kq, x42_1, rfl, HA, HJ1, BK464, HB⟩ := hcut
    cases kq with
    | zero => exact absurd HA.out (by simp [imageeditorlaw06_PixelStraightens.j0])
    | succ kj1 =>
      have H := HA.out
      clear HA
      simp only [imageeditorlaw06_PixelStraightens.j0] at H
      by_cases c19 : x42_1 = true
      · subst c19
        have H1 : ((imageeditorlaw06_awake.f kj1).bind fun t465 => (some t465)) = some r := by rw [if_pos rfl] at H; exact H
        clear H
        have H := H1
        clear H1
        replace H := Option.bind_eq_some_iff.mp H
        obtain ⟨t465, A200, H⟩ := H
        replace H : (some t465) = some r := H
        have A20 := Aside0.mk A200
        clear A200
        obtain rfl := Option.some.inj H
        go_wp2_with (first | ((with_reducible refine gate_callee (f := 21) rfl ?_); refine goesL_ (some 43) rfl rfl Try.func21 (by kernel_rfl) rfl #[] rfl (by (try simp only [List.map_toArray, List.map_cons, List.map_nil]); first | done | rfl | (simp only [List.length_drop, List.length_take]; rfl)) ?_; (with_reducible refine (imageeditorlaw06_awake.calls kj1  t465 _ A20.out).mono ?_); rintro e w21 ⟨rfl, hb⟩; refine ⟨_, rfl, ?_⟩; have n0_ := Aside0.mk (blk_below (g := gb464) (o := .cells #[.int .i64 a0_0, .int .i64 a0_1, .int .i64 a0_2, .int .i64 a0_3] 23 (0, 0)) (by (with_reducible repeat (first | refine blk_drewN ?_ _ | refine blk_drew ?_ | refine blk_alloc ?_ _)); exact BK464.out) hb); have n1_ := Aside0.mk (below_step (by repeat (first | (with_reducible first | exact HB.out | apply below_alloc | apply pw_below_drewN | apply below_drew1 | refine below_set ?_ GE464.out) | exact HB.out)) hb); clear BK464; clear HB; have BK464 := n0_; have HB := n1_; clear n0_ n1_; (try clear hb); (try clear hb2); (try clear hk); (try clear hi)))
        go_ret
        exact ⟨by first | rfl | (simp [errW_none, errW_some] <;> rfl) | (simp [*, errW_none, errW_some] <;> rfl), by repeat (first | (with_reducible first | exact HB.out | apply below_alloc | apply pw_below_drewN | apply below_drew1 | refine below_set ?_ GE464.out) | exact HB.out)⟩
      · replace c19 := Bool.eq_false_iff.mpr c19
        subst c19
        have H1 : ((pixel_Pre.f a0_0 a0_1 a0_2 a0_3).bind fun bt466 => ((pixel_Straight.f bt466.1 bt466.2.1 bt466.2.2.1 bt466.2.2.2).bind fun bt470 => ((pixel_Valid.f bt470.1 bt470.2.1 bt470.2.2.1 bt470.2.2.2).bind fun t475 => (if t475 = true then (if bt470.2.2.2 = a0_3 then (if a0_3 = 65535 then (imageeditorlaw06_PixelStraightens.j1 kj1 (!(bt470.1 == a0_0) || (!(bt470.2.1 == a0_1) || (!(bt470.2.2.1 == a0_2) || (!(bt470.2.2.2 == a0_3))))) a0_0 a0_1 a0_2 a0_3 bt470.1 bt470.2.1 bt470.2.2.1 bt470.2.2.2) else (imageeditorlaw06_PixelStraightens.j1 kj1 false a0_0 a0_1 a0_2 a0_3 bt470.1 bt470.2.1 bt470.2.2.1 bt470.2.2.2)) else (imageeditorlaw06_PixelStraightens.j1 kj1 true a0_0 a0_1 a0_2 a0_3 bt470.1 bt470.2.1 bt470.2.2.1 bt470.2.2.2)) else (imageeditorlaw06_PixelStraightens.j1 kj1 true a0_0 a0_1 a0_2 a0_3 bt470.1 bt470.2.1 bt470.2.2.1 bt470.2.2.2))))) = some r := by rw [if_neg (show ¬ (false = true) by decide)] at H; exact H
        clear H
        have H := H1
        clear H1
        replace H := Option.bind_eq_some_iff.mp H
        obtain ⟨⟨t466, t467, t468, t469⟩, A220, H⟩ := H
        replace H : ((pixel_Straight.f t466 t467 t468 t469).bind fun bt470 => ((pixel_Valid.f bt470.1 bt470.2.1 bt470.2.2.1 bt470.2.2.2).bind fun t475 => (if t475 = true then (if bt470.2.2.2 = a0_3 then (if a0_3 = 65535 then (imageeditorlaw06_PixelStraightens.j1 kj1 (!(bt470.1 == a0_0) || (!(bt470.2.1 == a0_1) || (!(bt470.2.2.1 == a0_2) || (!(bt470.2.2.2 == a0_3))))) a0_0 a0_1 a0_2 a0_3 bt470.1 bt470.2.1 bt470.2.2.1 bt470.2.2.2) else (imageeditorlaw06_PixelStraightens.j1 kj1 false a0_0 a0_1 a0_2 a0_3 bt470.1 bt470.2.1 bt470.2.2.1 bt470.2.2.2)) else (imageeditorlaw06_PixelStraightens.j1 kj1 true a0_0 a0_1 a0_2 a0_3 bt470.1 bt470.2.1 bt470.2.2.1 bt470.2.2.2)) else (imageeditorlaw06_PixelStraightens.j1 kj1 true a0_0 a0_1 a0_2 a0_3 bt470.1 bt470.2.1 bt470.2.2.1 bt470.2.2.2)))) = some r := H
        have A22 := Aside0.mk A220
        clear A220
        replace H := Option.bind_eq_some_iff.mp H
        obtain ⟨⟨t470, t471, t472, t473⟩, A230, H⟩ := H
        replace H : ((pixel_Valid.f t470 t471 t472 t473).bind fun t475 => (if t475 = true then (if t473 = a0_3 then (if a0_3 = 65535 then (imageeditorlaw06_PixelStraightens.j1 kj1 (!(t470 == a0_0) || (!(t471 == a0_1) || (!(t472 == a0_2) || (!(t473 == a0_3))))) a0_0 a0_1 a0_2 a0_3 t470 t471 t472 t473) else (imageeditorlaw06_PixelStraightens.j1 kj1 false a0_0 a0_1 a0_2 a0_3 t470 t471 t472 t473)) else (imageeditorlaw06_PixelStraightens.j1 kj1 true a0_0 a0_1 a0_2 a0_3 t470 t471 t472 t473)) else (imageeditorlaw06_PixelStraightens.j1 kj1 true a0_0 a0_1 a0_2 a0_3 t470 t471 t472 t473))) = some r := H
        have A23 := Aside0.mk A230
        clear A230
        have HC24 := Aside0.mk H
        clear H
        have hcz25_0 : wc.cell? ⟨gb464, 0, none⟩ = some (.int .i64 a0_0) := (blk_cell BK464.out 0).trans rfl
        have hcz25_1 : wc.cell? ⟨gb464, 1, none⟩ = some (.int .i64 a0_1) := (blk_cell BK464.out 1).trans rfl
        have hcz25_2 : wc.cell? ⟨gb464, 2, none⟩ = some (.int .i64 a0_2) := (blk_cell BK464.out 2).trans rfl
        have hcz25_3 : wc.cell? ⟨gb464, 3, none⟩ = some (.int .i64 a0_3) := (blk_cell BK464.out 3).trans rfl
        have hfz25_0 := blk_frozen BK464.out 0
        have hfz25_1 := blk_frozen BK464.out 1
        have hfz25_2 := blk_frozen BK464.out 2
        have hfz25_3 := blk_frozen BK464.out 3
        go_upto_region 4 with (first | ((with_reducible refine gate_callee (f := 15) rfl ?_); refine goesL_ (some 45) rfl rfl Try.func15 (by kernel_rfl) rfl #[.agg #[.int .i64 a0_0, .int .i64 a0_1, .int .i64 a0_2, .int .i64 a0_3]] rfl (by (try simp only [List.map_toArray, List.map_cons, List.map_nil]); first | done | rfl | (simp only [List.length_drop, List.length_take]; rfl)) ?_; (with_reducible refine (pixel_Pre.calls a0_0 a0_1 a0_2 a0_3 t466 t467 t468 t469 _ A22.out).mono ?_); rintro e w26 ⟨rfl, hb⟩; refine ⟨_, rfl, ?_⟩; have n0_ := Aside0.mk (blk_below (g := gb464) (o := .cells #[.int .i64 a0_0, .int .i64 a0_1, .int .i64 a0_2, .int .i64 a0_3] 23 (0, 0)) (by (with_reducible repeat (first | refine blk_drewN ?_ _ | refine blk_drew ?_ | refine blk_alloc ?_ _)); exact BK464.out) hb); have n1_ := Aside0.mk (below_step (by repeat (first | (with_reducible first | exact HB.out | apply below_alloc | apply pw_below_drewN | apply below_drew1 | refine below_set ?_ GE464.out) | exact HB.out)) hb); clear BK464; clear HB; have BK464 := n0_; have HB := n1_; clear n0_ n1_; (try clear hb); (try clear hb2); (try clear hk); (try clear hi)) | ((with_reducible refine gate_callee (f := 17) rfl ?_); refine goesL_ (some 46) rfl rfl Try.func17 (by kernel_rfl) rfl #[.agg #[.int .i64 t466, .int .i64 t467, .int .i64 t468, .int .i64 t469]] rfl (by (try simp only [List.map_toArray, List.map_cons, List.map_nil]); first | done | rfl | (simp only [List.length_drop, List.length_take]; rfl)) ?_; (with_reducible refine (pixel_Straight.calls t466 t467 t468 t469 t470 t471 t472 t473 _ A23.out).mono ?_); rintro e w27 ⟨rfl, hb⟩; refine ⟨_, rfl, ?_⟩; have n0_ := Aside0.mk (blk_below (g := gb464) (o := .cells #[.int .i64 a0_0, .int .i64 a0_1, .int .i64 a0_2, .int .i64 a0_3] 23 (0, 0)) (by (with_reducible repeat (first | refine blk_drewN ?_ _ | refine blk_drew ?_ | refine blk_alloc ?_ _)); exact BK464.out) hb); have n1_ := Aside0.mk (below_step (by repeat (first | (with_reducible first | exact HB.out | apply below_alloc | apply pw_below_drewN | apply below_drew1 | refine below_set ?_ GE464.out) | exact HB.out)) hb); clear BK464; clear HB; have BK464 := n0_; have HB := n1_; clear n0_ n1_; (try clear hb); (try clear hb2); (try clear hk); (try clear hi)) | ((with_reducible refine gate_dst (N := 3) rfl ?_); refine box_event ?hg (N := 3) ?hd (cs := #[.int .i64 0, .int .i64 0, .int .i64 0, .int .i64 0]) (t := 23) ?hr ?_; (case hd => rfl); (case hg => rfl); (case hr => first | (go_simp; done) | (go_simp; rfl)); intro gb474 hg w28 hbox hb; have n0_ := Aside0.mk (blk_below (g := gb464) (o := .cells #[.int .i64 a0_0, .int .i64 a0_1, .int .i64 a0_2, .int .i64 a0_3] 23 (0, 0)) (by (with_reducible repeat (first | refine blk_drewN ?_ _ | refine blk_drew ?_ | refine blk_alloc ?_ _)); exact BK464.out) hb); have n1_ := Aside0.mk (below_step (by repeat (first | (with_reducible first | exact HB.out | apply below_alloc | apply pw_below_drewN | apply below_drew1 | refine below_set ?_ GE464.out) | exact HB.out)) hb); have n2_ := Aside0.mk (hbox); have n3_ := Aside0.mk ((by rw [hg]; exact (below_size (by repeat (first | (with_reducible first | exact HB.out | apply below_alloc | apply pw_below_drewN | apply below_drew1 | refine below_set ?_ GE464.out) | exact HB.out))) : w.heap.size ≤ gb474)); have n4_ := Aside0.mk ((by rw [hg]; exact (below_size (by repeat (first | (with_reducible first | exact HB.out | apply below_alloc | apply pw_below_drewN | apply below_drew1 | refine below_set ?_ GE464.out) | exact HB.out))) : w.heap.size ≤ gb474)); have n5_ := Aside0.mk ((by rw [hg]; exact Nat.ne_of_lt (blk_lt (g := gb464) (o := .cells #[.int .i64 a0_0, .int .i64 a0_1, .int .i64 a0_2, .int .i64 a0_3] 23 (0, 0)) (by (with_reducible repeat (first | refine blk_drewN ?_ _ | refine blk_drew ?_ | refine blk_alloc ?_ _)); exact BK464.out)) : gb464 ≠ gb474)); have n6_ := Aside0.mk ((by rw [hg]; exact Nat.ne_of_gt (blk_lt (g := gb464) (o := .cells #[.int .i64 a0_0, .int .i64 a0_1, .int .i64 a0_2, .int .i64 a0_3] 23 (0, 0)) (by (with_reducible repeat (first | refine blk_drewN ?_ _ | refine blk_drew ?_ | refine blk_alloc ?_ _)); exact BK464.out)) : gb474 ≠ gb464)); clear BK464; clear HB; have BK464 := n0_; have HB := n1_; have BK474 := n2_; have GW474 := n3_; have GE474 := n4_; have NB464_474 := n5_; have NB474_464 := n6_; clear n0_ n1_ n2_ n3_ n4_ n5_ n6_; clear hb hbox hg; have hnb29 := NB474_464.out; have hnc29 := NB464_474.out; have hcz30_0 : w28.cell? ⟨gb474, 0, none⟩ = some (.int .i64 0) := (blk_cell BK474.out 0).trans rfl; have hcz30_1 : w28.cell? ⟨gb474, 1, none⟩ = some (.int .i64 0) := (blk_cell BK474.out 1).trans rfl; have hcz30_2 : w28.cell? ⟨gb474, 2, none⟩ = some (.int .i64 0) := (blk_cell BK474.out 2).trans rfl; have hcz30_3 : w28.cell? ⟨gb474, 3, none⟩ = some (.int .i64 0) := (blk_cell BK474.out 3).trans rfl; have hfz30_0 := blk_frozen BK474.out 0; have hfz30_1 := blk_frozen BK474.out 1; have hfz30_2 := blk_frozen BK474.out 2; have hfz30_3 := blk_frozen BK474.out 3))
        (try simp only [Act.put, List.setIfInBounds_toArray, List.set_cons_zero, List.set_cons_succ])
        go_cut [66] (fun v66 wc => ∃ (kq : Nat) (x66_23 : Bool), v66 = .bool x66_23 ∧ Aside0 (imageeditorlaw06_PixelStraightens.j1 kq x66_23 a0_0 a0_1 a0_2 a0_3 t470 t471 t472 t473 = some r) ∧ Aside0 (kq ≤ kj1) ∧ Aside0 (wc.heap[gb464]? = some (.cells #[.int .i64 a0_0, .int .i64 a0_1, .int .i64 a0_2, .int .i64 a0_3] 23 (0, 0))) ∧ Aside0 (wc.heap[gb474]? = some (.cells #[.int .i64 t470, .int .i64 t471, .int .i64 t472, .int .i64 t473] 23 (0, 0))) ∧ Aside0 (Below w.heap.size w wc))
        case first =>
          have H := HC24.out
          clear HC24
          replace H := Option.bind_eq_some_iff.mp H
          obtain ⟨t475, A310, H⟩ := H
          replace H : (if t475 = true then (if t473 = a0_3 then (if a0_3 = 65535 then (imageeditorlaw06_PixelStraightens.j1 kj1 (!(t470 == a0_0) || (!(t471 == a0_1) || (!(t472 == a0_2) || (!(t473 == a0_3))))) a0_0 a0_1 a0_2 a0_3 t470 t471 t472 t473) else (imageeditorlaw06_PixelStraightens.j1 kj1 false a0_0 a0_1 a0_2 a0_3 t470 t471 t472 t473)) else (imageeditorlaw06_PixelStraightens.j1 kj1 true a0_0 a0_1 a0_2 a0_3 t470 t471 t472 t473)) else (imageeditorlaw06_PixelStraightens.j1 kj1 true a0_0 a0_1 a0_2 a0_3 t470 t471 t472 t473)) = some r := H
          have A31 := Aside0.mk A310
          clear A310
          by_cases c32 : t475 = true
          · subst c32
            have H1 : (if t473 = a0_3 then (if a0_3 = 65535 then (imageeditorlaw06_PixelStraightens.j1 kj1 (!(t470 == a0_0) || (!(t471 == a0_1) || (!(t472 == a0_2) || (!(t473 == a0_3))))) a0_0 a0_1 a0_2 a0_3 t470 t471 t472 t473) else (imageeditorlaw06_PixelStraightens.j1 kj1 false a0_0 a0_1 a0_2 a0_3 t470 t471 t472 t473)) else (imageeditorlaw06_PixelStraightens.j1 kj1 true a0_0 a0_1 a0_2 a0_3 t470 t471 t472 t473)) = some r := by rw [if_pos rfl] at H; exact H
            clear H
            have H := H1
            clear H1
            by_cases c33 : t473 = a0_3
            · rw [if_pos c33] at H
              have c33b0 : (t473 == a0_3) = true := beq_iff_eq.mpr c33
              have c33b1 : (t473 != a0_3) = false := bne_eq_false_iff_eq.mpr c33
              clear c33
              (first | rw [c33b0] | (simp only [i64_w, i32_w]; rw [c33b0]) | skip)
              by_cases c34 : a0_3 = 65535
              · rw [if_pos c34] at H
                have c34b0 : (a0_3 == 65535) = true := beq_iff_eq.mpr c34
                have c34b1 : (a0_3 != 65535) = false := bne_eq_false_iff_eq.mpr c34
                clear c34
                have H' := Aside0.mk H
                clear H
                have hnb35 := NB474_464.out
                have hnc35 := NB464_474.out
                have hcz36_0 : w28.cell? ⟨gb474, 0, none⟩ = some (.int .i64 0) := (blk_cell BK474.out 0).trans rfl
                have hcz36_1 : w28.cell? ⟨gb474, 1, none⟩ = some (.int .i64 0) := (blk_cell BK474.out 1).trans rfl
                have hcz36_2 : w28.cell? ⟨gb474, 2, none⟩ = some (.int .i64 0) := (blk_cell BK474.out 2).trans rfl
                have hcz36_3 : w28.cell? ⟨gb474, 3, none⟩ = some (.int .i64 0) := (blk_cell BK474.out 3).trans rfl
                have hfz36_0 := blk_frozen BK474.out 0
                have hfz36_1 := blk_frozen BK474.out 1
                have hfz36_2 := blk_frozen BK474.out 2
                have hfz36_3 := blk_frozen BK474.out 3
                go_wp2_with (first | ((with_reducible refine gate_callee (f := 11) rfl ?_); refine goesL_ (some 48) rfl rfl Try.func11 (by kernel_rfl) rfl #[.agg #[.int .i64 t470, .int .i64 t471, .int .i64 t472, .int .i64 t473]] rfl (by (try simp only [List.map_toArray, List.map_cons, List.map_nil]); first | done | rfl | (simp only [List.length_drop, List.length_take]; rfl)) ?_; (with_reducible refine (pixel_Valid.calls t470 t471 t472 t473 true _ A31.out).mono ?_); rintro e w37 ⟨rfl, hb⟩; refine ⟨_, rfl, ?_⟩; have n0_ := Aside0.mk (blk_below (g := gb464) (o := .cells #[.int .i64 a0_0, .int .i64 a0_1, .int .i64 a0_2, .int .i64 a0_3] 23 (0, 0)) (by (with_reducible repeat (first | refine blk_drewN ?_ _ | refine blk_drew ?_ | refine blk_alloc ?_ _)); refine blk_far ?_ NB464_474.out _; (with_reducible repeat (first | refine blk_drewN ?_ _ | refine blk_drew ?_ | refine blk_alloc ?_ _)); refine blk_far ?_ NB464_474.out _; (with_reducible repeat (first | refine blk_drewN ?_ _ | refine blk_drew ?_ | refine blk_alloc ?_ _)); refine blk_far ?_ NB464_474.out _; (with_reducible repeat (first | refine blk_drewN ?_ _ | refine blk_drew ?_ | refine blk_alloc ?_ _)); refine blk_far ?_ NB464_474.out _; (with_reducible repeat (first | refine blk_drewN ?_ _ | refine blk_drew ?_ | refine blk_alloc ?_ _)); exact BK464.out) hb); have n1_ := Aside0.mk (blk_below (g := gb474) (o := .cells #[.int .i64 t470, .int .i64 t471, .int .i64 t472, .int .i64 t473] 23 (0, 0)) (by (with_reducible repeat (first | refine blk_drewN ?_ _ | refine blk_drew ?_ | refine blk_alloc ?_ _)); refine blk_put (cs := #[.int .i64 t470, .int .i64 t471, .int .i64 t472, .int .i64 0]) ?_ 3 _ rfl; (with_reducible repeat (first | refine blk_drewN ?_ _ | refine blk_drew ?_ | refine blk_alloc ?_ _)); refine blk_put (cs := #[.int .i64 t470, .int .i64 t471, .int .i64 0, .int .i64 0]) ?_ 2 _ rfl; (with_reducible repeat (first | refine blk_drewN ?_ _ | refine blk_drew ?_ | refine blk_alloc ?_ _)); refine blk_put (cs := #[.int .i64 t470, .int .i64 0, .int .i64 0, .int .i64 0]) ?_ 1 _ rfl; (with_reducible repeat (first | refine blk_drewN ?_ _ | refine blk_drew ?_ | refine blk_alloc ?_ _)); refine blk_put (cs := #[.int .i64 0, .int .i64 0, .int .i64 0, .int .i64 0]) ?_ 0 _ rfl; (with_reducible repeat (first | refine blk_drewN ?_ _ | refine blk_drew ?_ | refine blk_alloc ?_ _)); exact BK474.out) hb); have n2_ := Aside0.mk (below_step (by repeat (first | (with_reducible first | exact HB.out | apply below_alloc | apply pw_below_drewN | apply below_drew1 | refine below_set ?_ GE464.out | refine below_set ?_ GE474.out) | exact HB.out)) hb); clear BK464; clear BK474; clear HB; have BK464 := n0_; have BK474 := n1_; have HB := n2_; clear n0_ n1_ n2_; (try clear hb); (try clear hb2); (try clear hk); (try clear hi); have hcz38_0 : w37.cell? ⟨gb474, 0, none⟩ = some (.int .i64 t470) := (blk_cell BK474.out 0).trans rfl; have hcz38_1 : w37.cell? ⟨gb474, 1, none⟩ = some (.int .i64 t471) := (blk_cell BK474.out 1).trans rfl; have hcz38_2 : w37.cell? ⟨gb474, 2, none⟩ = some (.int .i64 t472) := (blk_cell BK474.out 2).trans rfl; have hcz38_3 : w37.cell? ⟨gb474, 3, none⟩ = some (.int .i64 t473) := (blk_cell BK474.out 3).trans rfl; have hfz38_0 := blk_frozen BK474.out 0; have hfz38_1 := blk_frozen BK474.out 1; have hfz38_2 := blk_frozen BK474.out 2; have hfz38_3 := blk_frozen BK474.out 3; have hcz39_0 : w37.cell? ⟨gb464, 0, none⟩ = some (.int .i64 a0_0) := (blk_cell BK464.out 0).trans rfl; have hcz39_1 : w37.cell? ⟨gb464, 1, none⟩ = some (.int .i64 a0_1) := (blk_cell BK464.out 1).trans rfl; have hcz39_2 : w37.cell? ⟨gb464, 2, none⟩ = some (.int .i64 a0_2) := (blk_cell BK464.out 2).trans rfl; have hcz39_3 : w37.cell? ⟨gb464, 3, none⟩ = some (.int .i64 a0_3) := (blk_cell BK464.out 3).trans rfl; have hfz39_0 := blk_frozen BK464.out 0; have hfz39_1 := blk_frozen BK464.out 1; have hfz39_2 := blk_frozen BK464.out 2; have hfz39_3 := blk_frozen BK464.out 3))
                go_meet
                case rel => exact ⟨_, ((!(t470 == a0_0) || (!(t471 == a0_1) || (!(t472 == a0_2) || (!(t473 == a0_3)))))), (by first | rfl | (simp; done) | (simp [*]; done)), H', ⟨by have := HJ1.out; first | omega | exact Nat.le_refl _⟩, ⟨by (with_reducible repeat (first | refine blk_drewN ?_ _ | refine blk_drew ?_ | refine blk_alloc ?_ _)); exact BK464.out⟩, ⟨by (with_reducible repeat (first | refine blk_drewN ?_ _ | refine blk_drew ?_ | refine blk_alloc ?_ _)); exact BK474.out⟩, ⟨by repeat (first | (with_reducible first | exact HB.out | apply below_alloc | apply pw_below_drewN | apply below_drew1 | refine below_set ?_ GE464.out | refine below_set ?_ GE474.out) | exact HB.out)⟩⟩
              · rw [if_neg c34] at H
                have c34b0 : (a0_3 == 65535) = false := beq_eq_false_iff_ne.mpr c34
                have c34b1 : (a0_3 != 65535) = true := bne_iff_ne.mpr c34
                have H' := Aside0.mk H
                clear H
                have hnb40 := NB474_464.out
                have hnc40 := NB464_474.out
                have hcz41_0 : w28.cell? ⟨gb474, 0, none⟩ = some (.int .i64 0) := (blk_cell BK474.out 0).trans rfl
                have hcz41_1 : w28.cell? ⟨gb474, 1, none⟩ = some (.int .i64 0) := (blk_cell BK474.out 1).trans rfl
                have hcz41_2 : w28.cell? ⟨gb474, 2, none⟩ = some (.int .i64 0) := (blk_cell BK474.out 2).trans rfl
                have hcz41_3 : w28.cell? ⟨gb474, 3, none⟩ = some (.int .i64 0) := (blk_cell BK474.out 3).trans rfl
                have hfz41_0 := blk_frozen BK474.out 0
                have hfz41_1 := blk_frozen BK474.out 1
                have hfz41_2 := blk_frozen BK474.out 2
                have hfz41_3 := blk_frozen BK474.out 3
                go_wp2_with (first | ((with_reducible refine gate_callee (f := 11) rfl ?_); refine goesL_ (some 48) rfl rfl Try.func11 (by kernel_rfl) rfl #[.agg #[.int .i64 t470, .int .i64 t471, .int .i64 t472, .int .i64 t473]] rfl (by (try simp only [List.map_toArray, List.map_cons, List.map_nil]); first | done | rfl | (simp only [List.length_drop, List.length_take]; rfl)) ?_; (with_reducible refine (pixel_Valid.calls t470 t471 t472 t473 true _ A31.out).mono ?_); rintro e w42 ⟨rfl, hb⟩; refine ⟨_, rfl, ?_⟩; have n0_ := Aside0.mk (blk_below (g := gb464) (o := .cells #[.int .i64 a0_0, .int .i64 a0_1, .int .i64 a0_2, .int .i64 a0_3] 23 (0, 0)) (by (with_reducible repeat (first | refine blk_drewN ?_ _ | refine blk_drew ?_ | refine blk_alloc ?_ _)); refine blk_far ?_ NB464_474.out _; (with_reducible repeat (first | refine blk_drewN ?_ _ | refine blk_drew ?_ | refine blk_alloc ?_ _)); refine blk_far ?_ NB464_474.out _; (with_reducible repeat (first | refine blk_drewN ?_ _ | refine blk_drew ?_ | refine blk_alloc ?_ _)); refine blk_far ?_ NB464_474.out _; (with_reducible repeat (first | refine blk_drewN ?_ _ | refine blk_drew ?_ | refine blk_alloc ?_ _)); refine blk_far ?_ NB464_474.out _; (with_reducible repeat (first | refine blk_drewN ?_ _ | refine blk_drew ?_ | refine blk_alloc ?_ _)); exact BK464.out) hb); have n1_ := Aside0.mk (blk_below (g := gb474) (o := .cells #[.int .i64 t470, .int .i64 t471, .int .i64 t472, .int .i64 t473] 23 (0, 0)) (by (with_reducible repeat (first | refine blk_drewN ?_ _ | refine blk_drew ?_ | refine blk_alloc ?_ _)); refine blk_put (cs := #[.int .i64 t470, .int .i64 t471, .int .i64 t472, .int .i64 0]) ?_ 3 _ rfl; (with_reducible repeat (first | refine blk_drewN ?_ _ | refine blk_drew ?_ | refine blk_alloc ?_ _)); refine blk_put (cs := #[.int .i64 t470, .int .i64 t471, .int .i64 0, .int .i64 0]) ?_ 2 _ rfl; (with_reducible repeat (first | refine blk_drewN ?_ _ | refine blk_drew ?_ | refine blk_alloc ?_ _)); refine blk_put (cs := #[.int .i64 t470, .int .i64 0, .int .i64 0, .int .i64 0]) ?_ 1 _ rfl; (with_reducible repeat (first | refine blk_drewN ?_ _ | refine blk_drew ?_ | refine blk_alloc ?_ _)); refine blk_put (cs := #[.int .i64 0, .int .i64 0, .int .i64 0, .int .i64 0]) ?_ 0 _ rfl; (with_reducible repeat (first | refine blk_drewN ?_ _ | refine blk_drew ?_ | refine blk_alloc ?_ _)); exact BK474.out) hb); have n2_ := Aside0.mk (below_step (by repeat (first | (with_reducible first | exact HB.out | apply below_alloc | apply pw_below_drewN | apply below_drew1 | refine below_set ?_ GE464.out | refine below_set ?_ GE474.out) | exact HB.out)) hb); clear BK464; clear BK474; clear HB; have BK464 := n0_; have BK474 := n1_; have HB := n2_; clear n0_ n1_ n2_; (try clear hb); (try clear hb2); (try clear hk); (try clear hi); have hcz43_0 : w42.cell? ⟨gb474, 0, none⟩ = some (.int .i64 t470) := (blk_cell BK474.out 0).trans rfl; have hcz43_1 : w42.cell? ⟨gb474, 1, none⟩ = some (.int .i64 t471) := (blk_cell BK474.out 1).trans rfl; have hcz43_2 : w42.cell? ⟨gb474, 2, none⟩ = some (.int .i64 t472) := (blk_cell BK474.out 2).trans rfl; have hcz43_3 : w42.cell? ⟨gb474, 3, none⟩ = some (.int .i64 t473) := (blk_cell BK474.out 3).trans rfl; have hfz43_0 := blk_frozen BK474.out 0; have hfz43_1 := blk_frozen BK474.out 1; have hfz43_2 := blk_frozen BK474.out 2; have hfz43_3 := blk_frozen BK474.out 3; have hcz44_0 : w42.cell? ⟨gb464, 0, none⟩ = some (.int .i64 a0_0) := (blk_cell BK464.out 0).trans rfl; have hcz44_1 : w42.cell? ⟨gb464, 1, none⟩ = some (.int .i64 a0_1) := (blk_cell BK464.out 1).trans rfl; have hcz44_2 : w42.cell? ⟨gb464, 2, none⟩ = some (.int .i64 a0_2) := (blk_cell BK464.out 2).trans rfl; have hcz44_3 : w42.cell? ⟨gb464, 3, none⟩ = some (.int .i64 a0_3) := (blk_cell BK464.out 3).trans rfl; have hfz44_0 := blk_frozen BK464.out 0; have hfz44_1 := blk_frozen BK464.out 1; have hfz44_2 := blk_frozen BK464.out 2; have hfz44_3 := blk_frozen BK464.out 3))
                go_meet
                case rel => exact ⟨_, (false), (by first | rfl | (simp; done) | (simp [*]; done)), H', ⟨by have := HJ1.out; first | omega | exact Nat.le_refl _⟩, ⟨by (with_reducible repeat (first | refine blk_drewN ?_ _ | refine blk_drew ?_ | refine blk_alloc ?_ _)); exact BK464.out⟩, ⟨by (with_reducible repeat (first | refine blk_drewN ?_ _ | refine blk_drew ?_ | refine blk_alloc ?_ _)); exact BK474.out⟩, ⟨by repeat (first | (with_reducible first | exact HB.out | apply below_alloc | apply pw_below_drewN | apply below_drew1 | refine below_set ?_ GE464.out | refine below_set ?_ GE474.out) | exact HB.out)⟩⟩
            · rw [if_neg c33] at H
              have c33b0 : (t473 == a0_3) = false := beq_eq_false_iff_ne.mpr c33
              have c33b1 : (t473 != a0_3) = true := bne_iff_ne.mpr c33
              (first | rw [c33b0] | (simp only [i64_w, i32_w]; rw [c33b0]) | skip)
              have H' := Aside0.mk H
              clear H
              have hnb45 := NB474_464.out
              have hnc45 := NB464_474.out
              have hcz46_0 : w28.cell? ⟨gb474, 0, none⟩ = some (.int .i64 0) := (blk_cell BK474.out 0).trans rfl
              have hcz46_1 : w28.cell? ⟨gb474, 1, none⟩ = some (.int .i64 0) := (blk_cell BK474.out 1).trans rfl
              have hcz46_2 : w28.cell? ⟨gb474, 2, none⟩ = some (.int .i64 0) := (blk_cell BK474.out 2).trans rfl
              have hcz46_3 : w28.cell? ⟨gb474, 3, none⟩ = some (.int .i64 0) := (blk_cell BK474.out 3).trans rfl
              have hfz46_0 := blk_frozen BK474.out 0
              have hfz46_1 := blk_frozen BK474.out 1
              have hfz46_2 := blk_frozen BK474.out 2
              have hfz46_3 := blk_frozen BK474.out 3
              go_wp2_with (first | ((with_reducible refine gate_callee (f := 11) rfl ?_); refine goesL_ (some 48) rfl rfl Try.func11 (by kernel_rfl) rfl #[.agg #[.int .i64 t470, .int .i64 t471, .int .i64 t472, .int .i64 t473]] rfl (by (try simp only [List.map_toArray, List.map_cons, List.map_nil]); first | done | rfl | (simp only [List.length_drop, List.length_take]; rfl)) ?_; (with_reducible refine (pixel_Valid.calls t470 t471 t472 t473 true _ A31.out).mono ?_); rintro e w47 ⟨rfl, hb⟩; refine ⟨_, rfl, ?_⟩; have n0_ := Aside0.mk (blk_below (g := gb464) (o := .cells #[.int .i64 a0_0, .int .i64 a0_1, .int .i64 a0_2, .int .i64 a0_3] 23 (0, 0)) (by (with_reducible repeat (first | refine blk_drewN ?_ _ | refine blk_drew ?_ | refine blk_alloc ?_ _)); refine blk_far ?_ NB464_474.out _; (with_reducible repeat (first | refine blk_drewN ?_ _ | refine blk_drew ?_ | refine blk_alloc ?_ _)); refine blk_far ?_ NB464_474.out _; (with_reducible repeat (first | refine blk_drewN ?_ _ | refine blk_drew ?_ | refine blk_alloc ?_ _)); refine blk_far ?_ NB464_474.out _; (with_reducible repeat (first | refine blk_drewN ?_ _ | refine blk_drew ?_ | refine blk_alloc ?_ _)); refine blk_far ?_ NB464_474.out _; (with_reducible repeat (first | refine blk_drewN ?_ _ | refine blk_drew ?_ | refine blk_alloc ?_ _)); exact BK464.out) hb); have n1_ := Aside0.mk (blk_below (g := gb474) (o := .cells #[.int .i64 t470, .int .i64 t471, .int .i64 t472, .int .i64 t473] 23 (0, 0)) (by (with_reducible repeat (first | refine blk_drewN ?_ _ | refine blk_drew ?_ | refine blk_alloc ?_ _)); refine blk_put (cs := #[.int .i64 t470, .int .i64 t471, .int .i64 t472, .int .i64 0]) ?_ 3 _ rfl; (with_reducible repeat (first | refine blk_drewN ?_ _ | refine blk_drew ?_ | refine blk_alloc ?_ _)); refine blk_put (cs := #[.int .i64 t470, .int .i64 t471, .int .i64 0, .int .i64 0]) ?_ 2 _ rfl; (with_reducible repeat (first | refine blk_drewN ?_ _ | refine blk_drew ?_ | refine blk_alloc ?_ _)); refine blk_put (cs := #[.int .i64 t470, .int .i64 0, .int .i64 0, .int .i64 0]) ?_ 1 _ rfl; (with_reducible repeat (first | refine blk_drewN ?_ _ | refine blk_drew ?_ | refine blk_alloc ?_ _)); refine blk_put (cs := #[.int .i64 0, .int .i64 0, .int .i64 0, .int .i64 0]) ?_ 0 _ rfl; (with_reducible repeat (first | refine blk_drewN ?_ _ | refine blk_drew ?_ | refine blk_alloc ?_ _)); exact BK474.out) hb); have n2_ := Aside0.mk (below_step (by repeat (first | (with_reducible first | exact HB.out | apply below_alloc | apply pw_below_drewN | apply below_drew1 | refine below_set ?_ GE464.out | refine below_set ?_ GE474.out) | exact HB.out)) hb); clear BK464; clear BK474; clear HB; have BK464 := n0_; have BK474 := n1_; have HB := n2_; clear n0_ n1_ n2_; (try clear hb); (try clear hb2); (try clear hk); (try clear hi); have hcz48_0 : w47.cell? ⟨gb474, 0, none⟩ = some (.int .i64 t470) := (blk_cell BK474.out 0).trans rfl; have hcz48_1 : w47.cell? ⟨gb474, 1, none⟩ = some (.int .i64 t471) := (blk_cell BK474.out 1).trans rfl; have hcz48_2 : w47.cell? ⟨gb474, 2, none⟩ = some (.int .i64 t472) := (blk_cell BK474.out 2).trans rfl; have hcz48_3 : w47.cell? ⟨gb474, 3, none⟩ = some (.int .i64 t473) := (blk_cell BK474.out 3).trans rfl; have hfz48_0 := blk_frozen BK474.out 0; have hfz48_1 := blk_frozen BK474.out 1; have hfz48_2 := blk_frozen BK474.out 2; have hfz48_3 := blk_frozen BK474.out 3; have hcz49_0 : w47.cell? ⟨gb464, 0, none⟩ = some (.int .i64 a0_0) := (blk_cell BK464.out 0).trans rfl; have hcz49_1 : w47.cell? ⟨gb464, 1, none⟩ = some (.int .i64 a0_1) := (blk_cell BK464.out 1).trans rfl; have hcz49_2 : w47.cell? ⟨gb464, 2, none⟩ = some (.int .i64 a0_2) := (blk_cell BK464.out 2).trans rfl; have hcz49_3 : w47.cell? ⟨gb464, 3, none⟩ = some (.int .i64 a0_3) := (blk_cell BK464.out 3).trans rfl; have hfz49_0 := blk_frozen BK464.out 0; have hfz49_1 := blk_frozen BK464.out 1; have hfz49_2 := blk_frozen BK464.out 2; have hfz49_3 := blk_frozen BK464.out 3))
              go_meet
              case rel => exact ⟨_, (true), (by first | rfl | (simp; done) | (simp [*]; done)), H', ⟨by have := HJ1.out; first | omega | exact Nat.le_refl _⟩, ⟨by (with_reducible repeat (first | refine blk_drewN ?_ _ | refine blk_drew ?_ | refine blk_alloc ?_ _)); exact BK464.out⟩, ⟨by (with_reducible repeat (first | refine blk_drewN ?_ _ | refine blk_drew ?_ | refine blk_alloc ?_ _)); exact BK474.out⟩, ⟨by repeat (first | (with_reducible first | exact HB.out | apply below_alloc | apply pw_below_drewN | apply below_drew1 | refine below_set ?_ GE464.out | refine below_set ?_ GE474.out) | exact HB.out)⟩⟩
          · replace c32 := Bool.eq_false_iff.mpr c32
            subst c32
            have H1 : (imageeditorlaw06_PixelStraightens.j1 kj1 true a0_0 a0_1 a0_2 a0_3 t470 t471 t472 t473) = some r := by rw [if_neg (show ¬ (false = true) by decide)] at H; exact H
            clear H
            have H := H1
            clear H1
            have H' := Aside0.mk H
            clear H
            have hnb50 := NB474_464.out
            have hnc50 := NB464_474.out
            have hcz51_0 : w28.cell? ⟨gb474, 0, none⟩ = some (.int .i64 0) := (blk_cell BK474.out 0).trans rfl
            have hcz51_1 : w28.cell? ⟨gb474, 1, none⟩ = some (.int .i64 0) := (blk_cell BK474.out 1).trans rfl
            have hcz51_2 : w28.cell? ⟨gb474, 2, none⟩ = some (.int .i64 0) := (blk_cell BK474.out 2).trans rfl
            have hcz51_3 : w28.cell? ⟨gb474, 3, none⟩ = some (.int .i64 0) := (blk_cell BK474.out 3).trans rfl
            have hfz51_0 := blk_frozen BK474.out 0
            have hfz51_1 := blk_frozen BK474.out 1
            have hfz51_2 := blk_frozen BK474.out 2
            have hfz51_3 := blk_frozen BK474.out 3
            go_wp2_with (first | ((with_reducible refine gate_callee (f := 11) rfl ?_); refine goesL_ (some 48) rfl rfl Try.func11 (by kernel_rfl) rfl #[.agg #[.int .i64 t470, .int .i64 t471, .int .i64 t472, .int .i64 t473]] rfl (by (try simp only [List.map_toArray, List.map_cons, List.map_nil]); first | done | rfl | (simp only [List.length_drop, List.length_take]; rfl)) ?_; (with_reducible refine (pixel_Valid.calls t470 t471 t472 t473 false _ A31.out).mono ?_); rintro e w52 ⟨rfl, hb⟩; refine ⟨_, rfl, ?_⟩; have n0_ := Aside0.mk (blk_below (g := gb464) (o := .cells #[.int .i64 a0_0, .int .i64 a0_1, .int .i64 a0_2, .int .i64 a0_3] 23 (0, 0)) (by (with_reducible repeat (first | refine blk_drewN ?_ _ | refine blk_drew ?_ | refine blk_alloc ?_ _)); refine blk_far ?_ NB464_474.out _; (with_reducible repeat (first | refine blk_drewN ?_ _ | refine blk_drew ?_ | refine blk_alloc ?_ _)); refine blk_far ?_ NB464_474.out _; (with_reducible repeat (first | refine blk_drewN ?_ _ | refine blk_drew ?_ | refine blk_alloc ?_ _)); refine blk_far ?_ NB464_474.out _; (with_reducible repeat (first | refine blk_drewN ?_ _ | refine blk_drew ?_ | refine blk_alloc ?_ _)); refine blk_far ?_ NB464_474.out _; (with_reducible repeat (first | refine blk_drewN ?_ _ | refine blk_drew ?_ | refine blk_alloc ?_ _)); exact BK464.out) hb); have n1_ := Aside0.mk (blk_below (g := gb474) (o := .cells #[.int .i64 t470, .int .i64 t471, .int .i64 t472, .int .i64 t473] 23 (0, 0)) (by (with_reducible repeat (first | refine blk_drewN ?_ _ | refine blk_drew ?_ | refine blk_alloc ?_ _)); refine blk_put (cs := #[.int .i64 t470, .int .i64 t471, .int .i64 t472, .int .i64 0]) ?_ 3 _ rfl; (with_reducible repeat (first | refine blk_drewN ?_ _ | refine blk_drew ?_ | refine blk_alloc ?_ _)); refine blk_put (cs := #[.int .i64 t470, .int .i64 t471, .int .i64 0, .int .i64 0]) ?_ 2 _ rfl; (with_reducible repeat (first | refine blk_drewN ?_ _ | refine blk_drew ?_ | refine blk_alloc ?_ _)); refine blk_put (cs := #[.int .i64 t470, .int .i64 0, .int .i64 0, .int .i64 0]) ?_ 1 _ rfl; (with_reducible repeat (first | refine blk_drewN ?_ _ | refine blk_drew ?_ | refine blk_alloc ?_ _)); refine blk_put (cs := #[.int .i64 0, .int .i64 0, .int .i64 0, .int .i64 0]) ?_ 0 _ rfl; (with_reducible repeat (first | refine blk_drewN ?_ _ | refine blk_drew ?_ | refine blk_alloc ?_ _)); exact BK474.out) hb); have n2_ := Aside0.mk (below_step (by repeat (first | (with_reducible first | exact HB.out | apply below_alloc | apply pw_below_drewN | apply below_drew1 | refine below_set ?_ GE464.out | refine below_set ?_ GE474.out) | exact HB.out)) hb); clear BK464; clear BK474; clear HB; have BK464 := n0_; have BK474 := n1_; have HB := n2_; clear n0_ n1_ n2_; (try clear hb); (try clear hb2); (try clear hk); (try clear hi)))
            go_meet
            case rel => exact ⟨_, (true), (by first | rfl | (simp; done) | (simp [*]; done)), H', ⟨by have := HJ1.out; first | omega | exact Nat.le_refl _⟩, ⟨by (with_reducible repeat (first | refine blk_drewN ?_ _ | refine blk_drew ?_ | refine blk_alloc ?_ _)); exact BK464.out⟩, ⟨by (with_reducible repeat (first | refine blk_drewN ?_ _ | refine blk_drew ?_ | refine blk_alloc ?_ _)); exact BK474.out⟩, ⟨by repeat (first | (with_reducible first | exact HB.out | apply below_alloc | apply pw_below_drewN | apply below_drew1 | refine below_set ?_ GE464.out | refine below_set ?_ GE474.out) | exact HB.out)⟩⟩
        case rest =>
          clear HC24
          try clear c1
          try clear c2
          try clear p2
          try clear c3
          try clear c4
          try clear c4b0
          try clear c5
          try clear c6
          try clear c6b0
          try clear c7
          try clear c8
          try clear c8b0
          try clear c10
          try clear c10b0
          try clear c11
          try clear c12
          try clear c12b0
          try clear c14
          try clear c14b0
          try clear c15
          try clear c16
          try clear c16b0
          try clear c17
          try clear c19
          try clear c21
          try clear c29
          try clear c32
          try clear c33
          try clear c33b0
          try clear c33b1
          try clear c34
          try clear c34b0
          try clear c34b1
          try clear c35
          try clear c40
          try clear c45
          try clear c50
          try clear hcz11_0
          try clear hcz11_1
          try clear hcz11_2
          try clear hcz11_3
          try clear hcz13_0
          try clear hcz13_1
          try clear hcz13_2
          try clear hcz13_3
          try clear hcz15_0
          try clear hcz15_1
          try clear hcz15_2
          try clear hcz15_3
          try clear hcz17_0
          try clear hcz17_1
          try clear hcz17_2
          try clear hcz17_3
          try clear hcz18_0
          try clear hcz18_1
          try clear hcz18_2
          try clear hcz18_3
          try clear hcz25_0
          try clear hcz25_1
          try clear hcz25_2
          try clear hcz25_3
          try clear hcz30_0
          try clear hcz30_1
          try clear hcz30_2
          try clear hcz30_3
          try clear hcz36_0
          try clear hcz36_1
          try clear hcz36_2
          try clear hcz36_3
          try clear hcz38_0
          try clear hcz38_1
          try clear hcz38_2
          try clear hcz38_3
          try clear hcz39_0
          try clear hcz39_1
          try clear hcz39_2
          try clear hcz39_3
          try clear hcz41_0
          try clear hcz41_1
          try clear hcz41_2
          try clear hcz41_3
          try clear hcz43_0
          try clear hcz43_1
          try clear hcz43_2
          try clear hcz43_3
          try clear hcz44_0
          try clear hcz44_1
          try clear hcz44_2
          try clear hcz44_3
          try clear hcz46_0
          try clear hcz46_1
          try clear hcz46_2
          try clear hcz46_3
          try clear hcz48_0
          try clear hcz48_1
          try clear hcz48_2
          try clear hcz48_3
          try clear hcz49_0
          try clear hcz49_1
          try clear hcz49_2
          try clear hcz49_3
          try clear hcz51_0
          try clear hcz51_1
          try clear hcz51_2
          try clear hcz51_3
          try clear hcz5_0
          try clear hcz5_1
          try clear hcz5_2
          try clear hcz5_3
          try clear hcz7_0
          try clear hcz7_1
          try clear hcz7_2
          try clear hcz7_3
          try clear hcz9_0
          try clear hcz9_1
          try clear hcz9_2
          try clear hcz9_3
          try clear hfz11_0
          try clear hfz11_1
          try clear hfz11_2
          try clear hfz11_3
          try clear hfz13_0
          try clear hfz13_1
          try clear hfz13_2
          try clear hfz13_3
          try clear hfz15_0
          try clear hfz15_1
          try clear hfz15_2
          try clear hfz15_3
          try clear hfz17_0
          try clear hfz17_1
          try clear hfz17_2
          try clear hfz17_3
          try clear hfz18_0
          try clear hfz18_1
          try clear hfz18_2
          try clear hfz18_3
          try clear hfz25_0
          try clear hfz25_1
          try clear hfz25_2
          try clear hfz25_3
          try clear hfz30_0
          try clear hfz30_1
          try clear hfz30_2
          try clear hfz30_3
          try clear hfz36_0
          try clear hfz36_1
          try clear hfz36_2
          try clear hfz36_3
          try clear hfz38_0
          try clear hfz38_1
          try clear hfz38_2
          try clear hfz38_3
          try clear hfz39_0
          try clear hfz39_1
          try clear hfz39_2
          try clear hfz39_3
          try clear hfz41_0
          try clear hfz41_1
          try clear hfz41_2
          try clear hfz41_3
          try clear hfz43_0
          try clear hfz43_1
          try clear hfz43_2
          try clear hfz43_3
          try clear hfz44_0
          try clear hfz44_1
          try clear hfz44_2
          try clear hfz44_3
          try clear hfz46_0
          try clear hfz46_1
          try clear hfz46_2
          try clear hfz46_3
          try clear hfz48_0
          try clear hfz48_1
          try clear hfz48_2
          try clear hfz48_3
          try clear hfz49_0
          try clear hfz49_1
          try clear hfz49_2
          try clear hfz49_3
          try clear hfz51_0
          try clear hfz51_1
          try clear hfz51_2
          try clear hfz51_3
          try clear hfz5_0
          try clear hfz5_1
          try clear hfz5_2
          try clear hfz5_3
          try clear hfz7_0
          try clear hfz7_1
          try clear hfz7_2
          try clear hfz7_3
          try clear hfz9_0
          try clear hfz9_1
          try clear hfz9_2
          try clear hfz9_3
          try clear p2
          obtain ⟨kq, x66_23, rfl, HA, HJ23, BK464, BK474, HB⟩ := hcut
          cases kq with
          | zero => exact absurd HA.out (by simp [imageeditorlaw06_PixelStraightens.j1])
          | succ kj23 =>
            have H := HA.out
            clear HA
            simp only [imageeditorlaw06_PixelStraightens.j1] at H
            by_cases c53 : x66_23 = true
            · subst c53
              have H1 : (some false) = some r := by rw [if_pos rfl] at H; exact H
              clear H
              have H := H1
              clear H1
              obtain rfl := Option.some.inj H
              go_wp2
              go_ret
              exact ⟨by first | rfl | (simp [errW_none, errW_some] <;> rfl) | (simp [*, errW_none, errW_some] <;> rfl), by repeat (first | (with_reducible first | exact HB.out | apply below_alloc | apply pw_below_drewN | apply below_drew1 | refine below_set ?_ GE464.out | refine below_set ?_ GE474.out) | exact HB.out)⟩
            · replace c53 := Bool.eq_false_iff.mpr c53
              subst c53
              have H1 : (if (wrap64 (2 * a0_3)) = 0 then (none) else ((imageeditorlaw06_near.f a0_0 t470 (wrap64 (Int.tdiv (wrap64 (65535 + a0_3)) (wrap64 (2 * a0_3))))).bind fun t476 => (if t476 = true then ((imageeditorlaw06_near.f a0_1 t471 (wrap64 (Int.tdiv (wrap64 (65535 + a0_3)) (wrap64 (2 * a0_3))))).bind fun t477 => (if t477 = true then ((imageeditorlaw06_near.f a0_2 t472 (wrap64 (Int.tdiv (wrap64 (65535 + a0_3)) (wrap64 (2 * a0_3))))).bind fun t478 => (if t478 = true then ((imageeditorlaw06_awake.f kj23).bind fun t479 => (some t479)) else (some false))) else (some false))) else (some false)))) = some r := by rw [if_neg (show ¬ (false = true) by decide)] at H; exact H
              clear H
              have H := H1
              clear H1
              by_cases c54 : (wrap64 (2 * a0_3)) = 0
              · rw [if_pos c54] at H
                exact absurd H (by simp)
              · rw [if_neg c54] at H
                have c54b0 : ((wrap64 (2 * a0_3)) == 0) = false := beq_eq_false_iff_ne.mpr c54
                have c54b1 : ((wrap64 (2 * a0_3)) != 0) = true := bne_iff_ne.mpr c54
                replace H := Option.bind_eq_some_iff.mp H
                obtain ⟨t476, A550, H⟩ := H
                replace H : (if t476 = true then ((imageeditorlaw06_near.f a0_1 t471 (wrap64 (Int.tdiv (wrap64 (65535 + a0_3)) (wrap64 (2 * a0_3))))).bind fun t477 => (if t477 = true then ((imageeditorlaw06_near.f a0_2 t472 (wrap64 (Int.tdiv (wrap64 (65535 + a0_3)) (wrap64 (2 * a0_3))))).bind fun t478 => (if t478 = true then ((imageeditorlaw06_awake.f kj23).bind fun t479 => (some t479)) else (some false))) else (some false))) else (some false)) = some r := H
                have A55 := Aside0.mk A550
                clear A550
                by_cases c56 : t476 = true
                · subst c56
                  have H1 : ((imageeditorlaw06_near.f a0_1 t471 (wrap64 (Int.tdiv (wrap64 (65535 + a0_3)) (wrap64 (2 * a0_3))))).bind fun t477 => (if t477 = true then ((imageeditorlaw06_near.f a0_2 t472 (wrap64 (Int.tdiv (wrap64 (65535 + a0_3)) (wrap64 (2 * a0_3))))).bind fun t478 => (if t478 = true then ((imageeditorlaw06_awake.f kj23).bind fun t479 => (some t479)) else (some false))) else (some false))) = some r := by rw [if_pos rfl] at H; exact H
                  clear H
                  have H := H1
                  clear H1
                  replace H := Option.bind_eq_some_iff.mp H
                  obtain ⟨t477, A570, H⟩ := H
                  replace H : (if t477 = true then ((imageeditorlaw06_near.f a0_2 t472 (wrap64 (Int.tdiv (wrap64 (65535 + a0_3)) (wrap64 (2 * a0_3))))).bind fun t478 => (if t478 = true then ((imageeditorlaw06_awake.f kj23).bind fun t479 => (some t479)) else (some false))) else (some false)) = some r := H
                  have A57 := Aside0.mk A570
                  clear A570
                  by_cases c58 : t477 = true
                  · subst c58
                    have H1 : ((imageeditorlaw06_near.f a0_2 t472 (wrap64 (Int.tdiv (wrap64 (65535 + a0_3)) (wrap64 (2 * a0_3))))).bind fun t478 => (if t478 = true then ((imageeditorlaw06_awake.f kj23).bind fun t479 => (some t479)) else (some false))) = some r := by rw [if_pos rfl] at H; exact H
                    clear H
                    have H := H1
                    clear H1
                    replace H := Option.bind_eq_some_iff.mp H
                    obtain ⟨t478, A590, H⟩ := H
                    replace H : (if t478 = true then ((imageeditorlaw06_awake.f kj23).bind fun t479 => (some t479)) else (some false)) = some r := H
                    have A59 := Aside0.mk A590
                    clear A590
                    by_cases c60 : t478 = true
                    · subst c60
                      have H1 : ((imageeditorlaw06_awake.f kj23).bind fun t479 => (some t479)) = some r := by rw [if_pos rfl] at H; exact H
                      clear H
                      have H := H1
                      clear H1
                      replace H := Option.bind_eq_some_iff.mp H
                      obtain ⟨t479, A610, H⟩ := H
                      replace H : (some t479) = some r := H
                      have A61 := Aside0.mk A610
                      clear A610
                      obtain rfl := Option.some.inj H
                      have hnb62 := NB464_474.out
                      have hnc62 := NB474_464.out
                      have hcz63_0 : wc.cell? ⟨gb464, 0, none⟩ = some (.int .i64 a0_0) := (blk_cell BK464.out 0).trans rfl
                      have hcz63_1 : wc.cell? ⟨gb464, 1, none⟩ = some (.int .i64 a0_1) := (blk_cell BK464.out 1).trans rfl
                      have hcz63_2 : wc.cell? ⟨gb464, 2, none⟩ = some (.int .i64 a0_2) := (blk_cell BK464.out 2).trans rfl
                      have hcz63_3 : wc.cell? ⟨gb464, 3, none⟩ = some (.int .i64 a0_3) := (blk_cell BK464.out 3).trans rfl
                      have hfz63_0 := blk_frozen BK464.out 0
                      have hfz63_1 := blk_frozen BK464.out 1
                      have hfz63_2 := blk_frozen BK464.out 2
                      have hfz63_3 := blk_frozen BK464.out 3
                      have hcz64_0 : wc.cell? ⟨gb474, 0, none⟩ = some (.int .i64 t470) := (blk_cell BK474.out 0).trans rfl
                      have hcz64_1 : wc.cell? ⟨gb474, 1, none⟩ = some (.int .i64 t471) := (blk_cell BK474.out 1).trans rfl
                      have hcz64_2 : wc.cell? ⟨gb474, 2, none⟩ = some (.int .i64 t472) := (blk_cell BK474.out 2).trans rfl
                      have hcz64_3 : wc.cell? ⟨gb474, 3, none⟩ = some (.int .i64 t473) := (blk_cell BK474.out 3).trans rfl
                      have hfz64_0 := blk_frozen BK474.out 0
                      have hfz64_1 := blk_frozen BK474.out 1
                      have hfz64_2 := blk_frozen BK474.out 2
                      have hfz64_3 := blk_frozen BK474.out 3
                      go_wp2_with (first | ((with_reducible refine gate_callee (f := 36) rfl ?_); refine goesL_ (some 79) rfl rfl Try.func36 (by kernel_rfl) rfl #[.int .i64 a0_0, .int .i64 t470, .int .i64 (wrap64 (Int.tdiv (wrap64 (65535 + a0_3)) (wrap64 (2 * a0_3))))] rfl (by (try simp only [List.map_toArray, List.map_cons, List.map_nil]); first | done | rfl | (simp only [List.length_drop, List.length_take]; rfl)) ?_; (with_reducible refine (imageeditorlaw06_near.calls a0_0 t470 (wrap64 (Int.tdiv (wrap64 (65535 + a0_3)) (wrap64 (2 * a0_3)))) true _ A55.out).mono ?_); rintro e w' ⟨rfl, ⟨nd, rfl⟩⟩; refine ⟨_, rfl, ?_⟩) | (go_at_call 36; (with_reducible refine (imageeditorlaw06_near.calls a0_1 t471 (wrap64 (Int.tdiv (wrap64 (65535 + a0_3)) (wrap64 (2 * a0_3)))) true _ A57.out).mono ?_); rintro e w' ⟨rfl, ⟨nd, rfl⟩⟩) | (go_at_call 36; (with_reducible refine (imageeditorlaw06_near.calls a0_2 t472 (wrap64 (Int.tdiv (wrap64 (65535 + a0_3)) (wrap64 (2 * a0_3)))) true _ A59.out).mono ?_); rintro e w' ⟨rfl, ⟨nd, rfl⟩⟩) | (go_at_call 21; (with_reducible refine (imageeditorlaw06_awake.calls kj23  t479 _ A61.out).mono ?_); rintro e w65 ⟨rfl, hb⟩; have n0_ := Aside0.mk (blk_below (g := gb464) (o := .cells #[.int .i64 a0_0, .int .i64 a0_1, .int .i64 a0_2, .int .i64 a0_3] 23 (0, 0)) (by (with_reducible repeat (first | refine blk_drewN ?_ _ | refine blk_drew ?_ | refine blk_alloc ?_ _)); exact BK464.out) hb); have n1_ := Aside0.mk (blk_below (g := gb474) (o := .cells #[.int .i64 t470, .int .i64 t471, .int .i64 t472, .int .i64 t473] 23 (0, 0)) (by (with_reducible repeat (first | refine blk_drewN ?_ _ | refine blk_drew ?_ | refine blk_alloc ?_ _)); exact BK474.out) hb); have n2_ := Aside0.mk (below_step (by repeat (first | (with_reducible first | exact HB.out | apply below_alloc | apply pw_below_drewN | apply below_drew1 | refine below_set ?_ GE464.out | refine below_set ?_ GE474.out) | exact HB.out)) hb); clear BK464; clear BK474; clear HB; have BK464 := n0_; have BK474 := n1_; have HB := n2_; clear n0_ n1_ n2_; (try clear hb); (try clear hb2); (try clear hk); (try clear hi)))
                      go_ret
                      exact ⟨by first | rfl | (simp [errW_none, errW_some] <;> rfl) | (simp [*, errW_none, errW_some] <;> rfl), by repeat (first | (with_reducible first | exact HB.out | apply below_alloc | apply pw_below_drewN | apply below_drew1 | refine below_set ?_ GE464.out | refine below_set ?_ GE474.out) | exact HB.out)⟩
                    · replace c60 := Bool.eq_false_iff.mpr c60
                      subst c60
                      have H1 : (some false) = some r := by rw [if_neg (show ¬ (false = true) by decide)] at H; exact H
                      clear H
                      have H := H1
                      clear H1
                      obtain rfl := Option.some.inj H
                      have hnb66 := NB464_474.out
                      have hnc66 := NB474_464.out
                      have hcz67_0 : wc.cell? ⟨gb464, 0, none⟩ = some (.int .i64 a0_0) := (blk_cell BK464.out 0).trans rfl
                      have hcz67_1 : wc.cell? ⟨gb464, 1, none⟩ = some (.int .i64 a0_1) := (blk_cell BK464.out 1).trans rfl
                      have hcz67_2 : wc.cell? ⟨gb464, 2, none⟩ = some (.int .i64 a0_2) := (blk_cell BK464.out 2).trans rfl
                      have hcz67_3 : wc.cell? ⟨gb464, 3, none⟩ = some (.int .i64 a0_3) := (blk_cell BK464.out 3).trans rfl
                      have hfz67_0 := blk_frozen BK464.out 0
                      have hfz67_1 := blk_frozen BK464.out 1
                      have hfz67_2 := blk_frozen BK464.out 2
                      have hfz67_3 := blk_frozen BK464.out 3
                      have hcz68_0 : wc.cell? ⟨gb474, 0, none⟩ = some (.int .i64 t470) := (blk_cell BK474.out 0).trans rfl
                      have hcz68_1 : wc.cell? ⟨gb474, 1, none⟩ = some (.int .i64 t471) := (blk_cell BK474.out 1).trans rfl
                      have hcz68_2 : wc.cell? ⟨gb474, 2, none⟩ = some (.int .i64 t472) := (blk_cell BK474.out 2).trans rfl
                      have hcz68_3 : wc.cell? ⟨gb474, 3, none⟩ = some (.int .i64 t473) := (blk_cell BK474.out 3).trans rfl
                      have hfz68_0 := blk_frozen BK474.out 0
                      have hfz68_1 := blk_frozen BK474.out 1
                      have hfz68_2 := blk_frozen BK474.out 2
                      have hfz68_3 := blk_frozen BK474.out 3
                      go_wp2_with (first | ((with_reducible refine gate_callee (f := 36) rfl ?_); refine goesL_ (some 79) rfl rfl Try.func36 (by kernel_rfl) rfl #[.int .i64 a0_0, .int .i64 t470, .int .i64 (wrap64 (Int.tdiv (wrap64 (65535 + a0_3)) (wrap64 (2 * a0_3))))] rfl (by (try simp only [List.map_toArray, List.map_cons, List.map_nil]); first | done | rfl | (simp only [List.length_drop, List.length_take]; rfl)) ?_; (with_reducible refine (imageeditorlaw06_near.calls a0_0 t470 (wrap64 (Int.tdiv (wrap64 (65535 + a0_3)) (wrap64 (2 * a0_3)))) true _ A55.out).mono ?_); rintro e w' ⟨rfl, ⟨nd, rfl⟩⟩; refine ⟨_, rfl, ?_⟩) | (go_at_call 36; (with_reducible refine (imageeditorlaw06_near.calls a0_1 t471 (wrap64 (Int.tdiv (wrap64 (65535 + a0_3)) (wrap64 (2 * a0_3)))) true _ A57.out).mono ?_); rintro e w' ⟨rfl, ⟨nd, rfl⟩⟩) | (go_at_call 36; (with_reducible refine (imageeditorlaw06_near.calls a0_2 t472 (wrap64 (Int.tdiv (wrap64 (65535 + a0_3)) (wrap64 (2 * a0_3)))) false _ A59.out).mono ?_); rintro e w' ⟨rfl, ⟨nd, rfl⟩⟩))
                      go_ret
                      exact ⟨by first | rfl | (simp [errW_none, errW_some] <;> rfl) | (simp [*, errW_none, errW_some] <;> rfl), by repeat (first | (with_reducible first | exact HB.out | apply below_alloc | apply pw_below_drewN | apply below_drew1 | refine below_set ?_ GE464.out | refine below_set ?_ GE474.out) | exact HB.out)⟩
                  · replace c58 := Bool.eq_false_iff.mpr c58
                    subst c58
                    have H1 : (some false) = some r := by rw [if_neg (show ¬ (false = true) by decide)] at H; exact H
                    clear H
                    have H := H1
                    clear H1
                    obtain rfl := Option.some.inj H
                    have hnb69 := NB464_474.out
                    have hnc69 := NB474_464.out
                    have hcz70_0 : wc.cell? ⟨gb464, 0, none⟩ = some (.int .i64 a0_0) := (blk_cell BK464.out 0).trans rfl
                    have hcz70_1 : wc.cell? ⟨gb464, 1, none⟩ = some (.int .i64 a0_1) := (blk_cell BK464.out 1).trans rfl
                    have hcz70_2 : wc.cell? ⟨gb464, 2, none⟩ = some (.int .i64 a0_2) := (blk_cell BK464.out 2).trans rfl
                    have hcz70_3 : wc.cell? ⟨gb464, 3, none⟩ = some (.int .i64 a0_3) := (blk_cell BK464.out 3).trans rfl
                    have hfz70_0 := blk_frozen BK464.out 0
                    have hfz70_1 := blk_frozen BK464.out 1
                    have hfz70_2 := blk_frozen BK464.out 2
                    have hfz70_3 := blk_frozen BK464.out 3
                    have hcz71_0 : wc.cell? ⟨gb474, 0, none⟩ = some (.int .i64 t470) := (blk_cell BK474.out 0).trans rfl
                    have hcz71_1 : wc.cell? ⟨gb474, 1, none⟩ = some (.int .i64 t471) := (blk_cell BK474.out 1).trans rfl
                    have hcz71_2 : wc.cell? ⟨gb474, 2, none⟩ = some (.int .i64 t472) := (blk_cell BK474.out 2).trans rfl
                    have hcz71_3 : wc.cell? ⟨gb474, 3, none⟩ = some (.int .i64 t473) := (blk_cell BK474.out 3).trans rfl
                    have hfz71_0 := blk_frozen BK474.out 0
                    have hfz71_1 := blk_frozen BK474.out 1
                    have hfz71_2 := blk_frozen BK474.out 2
                    have hfz71_3 := blk_frozen BK474.out 3
                    go_wp2_with (first | ((with_reducible refine gate_callee (f := 36) rfl ?_); refine goesL_ (some 79) rfl rfl Try.func36 (by kernel_rfl) rfl #[.int .i64 a0_0, .int .i64 t470, .int .i64 (wrap64 (Int.tdiv (wrap64 (65535 + a0_3)) (wrap64 (2 * a0_3))))] rfl (by (try simp only [List.map_toArray, List.map_cons, List.map_nil]); first | done | rfl | (simp only [List.length_drop, List.length_take]; rfl)) ?_; (with_reducible refine (imageeditorlaw06_near.calls a0_0 t470 (wrap64 (Int.tdiv (wrap64 (65535 + a0_3)) (wrap64 (2 * a0_3)))) true _ A55.out).mono ?_); rintro e w' ⟨rfl, ⟨nd, rfl⟩⟩; refine ⟨_, rfl, ?_⟩) | (go_at_call 36; (with_reducible refine (imageeditorlaw06_near.calls a0_1 t471 (wrap64 (Int.tdiv (wrap64 (65535 + a0_3)) (wrap64 (2 * a0_3)))) false _ A57.out).mono ?_); rintro e w' ⟨rfl, ⟨nd, rfl⟩⟩))
                    go_ret
                    exact ⟨by first | rfl | (simp [errW_none, errW_some] <;> rfl) | (simp [*, errW_none, errW_some] <;> rfl), by repeat (first | (with_reducible first | exact HB.out | apply below_alloc | apply pw_below_drewN | apply below_drew1 | refine below_set ?_ GE464.out | refine below_set ?_ GE474.out) | exact HB.out)⟩
                · replace c56 := Bool.eq_false_iff.mpr c56
                  subst c56
                  have H1 : (some false) = some r := by rw [if_neg (show ¬ (false = true) by decide)] at H; exact H
                  clear H
                  have H := H1
                  clear H1
                  obtain rfl := Option.some.inj H
                  have hnb72 := NB464_474.out
                  have hnc72 := NB474_464.out
                  have hcz73_0 : wc.cell? ⟨gb464, 0, none⟩ = some (.int .i64 a0_0) := (blk_cell BK464.out 0).trans rfl
                  have hcz73_1 : wc.cell? ⟨gb464, 1, none⟩ = some (.int .i64 a0_1) := (blk_cell BK464.out 1).trans rfl
                  have hcz73_2 : wc.cell? ⟨gb464, 2, none⟩ = some (.int .i64 a0_2) := (blk_cell BK464.out 2).trans rfl
                  have hcz73_3 : wc.cell? ⟨gb464, 3, none⟩ = some (.int .i64 a0_3) := (blk_cell BK464.out 3).trans rfl
                  have hfz73_0 := blk_frozen BK464.out 0
                  have hfz73_1 := blk_frozen BK464.out 1
                  have hfz73_2 := blk_frozen BK464.out 2
                  have hfz73_3 := blk_frozen BK464.out 3
                  have hcz74_0 : wc.cell? ⟨gb474, 0, none⟩ = some (.int .i64 t470) := (blk_cell BK474.out 0).trans rfl
                  have hcz74_1 : wc.cell? ⟨gb474, 1, none⟩ = some (.int .i64 t471) := (blk_cell BK474.out 1).trans rfl
                  have hcz74_2 : wc.cell? ⟨gb474, 2, none⟩ = some (.int .i64 t472) := (blk_cell BK474.out 2).trans rfl
                  have hcz74_3 : wc.cell? ⟨gb474, 3, none⟩ = some (.int .i64 t473) := (blk_cell BK474.out 3).trans rfl
                  have hfz74_0 := blk_frozen BK474.out 0
                  have hfz74_1 := blk_frozen BK474.out 1
                  have hfz74_2 := blk_frozen BK474.out 2
                  have hfz74_3 := blk_frozen BK474.out 3
                  go_wp2_with (first | ((with_reducible refine gate_callee (f := 36) rfl ?_); refine goesL_ (some 79) rfl rfl Try.func36 (by kernel_rfl) rfl #[.int .i64 a0_0, .int .i64 t470, .int .i64 (wrap64 (Int.tdiv (wrap64 (65535 + a0_3)) (wrap64 (2 * a0_3))))] rfl (by (try simp only [List.map_toArray, List.map_cons, List.map_nil]); first | done | rfl | (simp only [List.length_drop, List.length_take]; rfl)) ?_; (with_reducible refine (imageeditorlaw06_near.calls a0_0 t470 (wrap64 (Int.tdiv (wrap64 (65535 + a0_3)) (wrap64 (2 * a0_3)))) false _ A55.out).mono ?_); rintro e w' ⟨rfl, ⟨nd, rfl⟩⟩; refine ⟨_, rfl, ?_⟩))
                  go_ret
                  exact ⟨by first | rfl | (simp [errW_none, errW_some] <;> rfl) | (simp [*, errW_none, errW_some] <;> rfl), by repeat (first | (with_reducible first | exact HB.out | apply below_alloc | apply pw_below_drewN | apply below_drew1 | refine below_set ?_ GE464.out | refine below_set ?_ GE474.out) | exact HB.out)⟩

end Go.Proofs.Ytmklcmobahgeeaa.Q
