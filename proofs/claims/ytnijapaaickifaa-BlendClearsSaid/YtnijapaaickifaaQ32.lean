-- Written for this claim by a program of this session (handprint.py) that drives the kit's print. Not trusted: Lean checks it.
import Derived.Test.YtnijapaaickifaaQ0
import Derived.Test.YtnijapaaickifaaQ1
import Derived.Test.YtnijapaaickifaaQ11
import Derived.Test.YtnijapaaickifaaQ15
namespace Go.Proofs.Ytnijapaaickifaa.Q
open Go.RowKit Go.Proofs.YtnijapaaickifaaW.PrintWords Go.Proofs.YtnijapaaickifaaW.PrintLast
attribute [local go_sem] max2_int min2_int max_two min_two max_three min_three max_four min_four
set_option linter.unusedVariables false
set_option linter.unusedSimpArgs false

attribute [local go_sem high] eqA32
/-! ### imageeditorlaw10_BlendClears: function 10 -/
mutual
def imageeditorlaw10_BlendClears.j0 : Nat → Int → Bool → Int → Int → Int → Int → Int → Int → Int → Int → Int → Int → Int → Int → Option (Bool)
  | 0, _, _, _, _, _, _, _, _, _, _, _, _, _, _ => none
  | k + 1, x0, x32, x563000, x563001, x563002, x563003, x564000, x564001, x564002, x564003, x574000, x574001, x574002, x574003 => if x32 = true then (some false) else (if x564003 > 0 then ((blend_Over.f k x0 x563000 0 0 0 x564000 x564001 x564002 x564003).bind fun bt582 => (imageeditorlaw10_BlendClears.j1 k (!(bt582.1 == x564000) || (!(bt582.2.1 == x564001) || (!(bt582.2.2.1 == x564002) || (!(bt582.2.2.2 == x564003))))) x563000 x563001 x563002 x563003 x574000 x574001 x574002 x574003)) else (imageeditorlaw10_BlendClears.j1 k false x563000 x563001 x563002 x563003 x574000 x574001 x574002 x574003))
def imageeditorlaw10_BlendClears.j1 : Nat → Bool → Int → Int → Int → Int → Int → Int → Int → Int → Option (Bool)
  | 0, _, _, _, _, _, _, _, _, _ => none
  | k + 1, x45, x563000, x563001, x563002, x563003, x574000, x574001, x574002, x574003 => if x45 = true then (some false) else ((blend_Over.f k 0 x563000 x563001 x563002 x563003 x574000 x574001 x574002 x574003).bind fun bt586 => (if (bt586.1 == x574000 && (bt586.2.1 == x574001 && (bt586.2.2.1 == x574002 && (bt586.2.2.2 == x574003)))) = true then ((imageeditorlaw10_example.f k).bind fun t590 => (some t590)) else (some false)))
end
def imageeditorlaw10_BlendClears.f (k : Nat) (a0 : Int) (a1_0 : Int) (a1_1 : Int) (a1_2 : Int) (a1_3 : Int) (a2_0 : Int) (a2_1 : Int) (a2_2 : Int) (a2_3 : Int) : Option (Bool) := (imageeditorref06_Limit.f a1_0 a1_1 a1_2 a1_3).bind fun bt564 => ((imageeditorref06_Limit.f a2_0 a2_1 a2_2 a2_3).bind fun bt568 => (if bt564.2.2.2 > 0 then ((blend_Over.f k a0 bt564.1 bt564.2.1 bt564.2.2.1 bt564.2.2.2 bt568.1 bt568.2.1 bt568.2.2.1 0).bind fun bt574 => (imageeditorlaw10_BlendClears.j0 k a0 (!(bt574.1 == bt564.1) || (!(bt574.2.1 == bt564.2.1) || (!(bt574.2.2.1 == bt564.2.2.1) || (!(bt574.2.2.2 == bt564.2.2.2))))) bt564.1 bt564.2.1 bt564.2.2.1 bt564.2.2.2 bt568.1 bt568.2.1 bt568.2.2.1 bt568.2.2.2 bt568.1 bt568.2.1 bt568.2.2.1 65535)) else (if (bt564.1 == 0 && (bt564.2.1 == 0 && (bt564.2.2.1 == 0 && (bt564.2.2.2 == 0)))) = true then ((blend_Over.f k a0 bt564.1 bt564.2.1 bt564.2.2.1 bt564.2.2.2 bt568.1 bt568.2.1 bt568.2.2.1 0).bind fun bt578 => (imageeditorlaw10_BlendClears.j0 k a0 (!(bt578.1 == bt564.1) || (!(bt578.2.1 == bt564.2.1) || (!(bt578.2.2.1 == bt564.2.2.1) || (!(bt578.2.2.2 == bt564.2.2.2))))) bt564.1 bt564.2.1 bt564.2.2.1 bt564.2.2.2 bt568.1 bt568.2.1 bt568.2.2.1 bt568.2.2.2 bt568.1 bt568.2.1 bt568.2.2.1 65535)) else (imageeditorlaw10_BlendClears.j0 k a0 false bt564.1 bt564.2.1 bt564.2.2.1 bt564.2.2.2 bt568.1 bt568.2.1 bt568.2.2.1 bt568.2.2.2 bt568.1 bt568.2.1 bt568.2.2.1 65535))))
theorem imageeditorlaw10_BlendClears.mono_l : ∀ k, (∀ y0 y1 y2 y3 y4 y5 y6 y7 y8 y9 y10 y11 y12 y13, LeO (imageeditorlaw10_BlendClears.j0 k y0 y1 y2 y3 y4 y5 y6 y7 y8 y9 y10 y11 y12 y13) (imageeditorlaw10_BlendClears.j0 (k + 1) y0 y1 y2 y3 y4 y5 y6 y7 y8 y9 y10 y11 y12 y13)) ∧ (∀ y0 y1 y2 y3 y4 y5 y6 y7 y8, LeO (imageeditorlaw10_BlendClears.j1 k y0 y1 y2 y3 y4 y5 y6 y7 y8) (imageeditorlaw10_BlendClears.j1 (k + 1) y0 y1 y2 y3 y4 y5 y6 y7 y8))
  | 0 => ⟨fun _ _ _ _ _ _ _ _ _ _ _ _ _ _ r h => by simp [imageeditorlaw10_BlendClears.j0] at h, fun _ _ _ _ _ _ _ _ _ r h => by simp [imageeditorlaw10_BlendClears.j1] at h⟩
  | k + 1 => by
    obtain ⟨ih0, ih1⟩ := imageeditorlaw10_BlendClears.mono_l k
    refine ⟨?_, ?_⟩
    · intro y0 y1 y2 y3 y4 y5 y6 y7 y8 y9 y10 y11 y12 y13
      unfold imageeditorlaw10_BlendClears.j0
      repeat' first
      | (with_reducible exact ih0 _ _ _ _ _ _ _ _ _ _ _ _ _ _)
      | (with_reducible exact ih1 _ _ _ _ _ _ _ _ _)
      | (with_reducible exact blend_Over.mono _ _ _ _ _ _ _ _ _ _)
      | (with_reducible exact imageeditorlaw10_example.mono _)
      | (with_reducible exact LeO.refl _)
      | (with_reducible exact LeO.none _)
      | (with_reducible refine LeO.ite ?_ ?_)
      | (with_reducible refine LeO.bind ?_ (fun _ => ?_))
      | exact ih0 _ _ _ _ _ _ _ _ _ _ _ _ _ _
      | exact ih1 _ _ _ _ _ _ _ _ _
      | exact blend_Over.mono _ _ _ _ _ _ _ _ _ _
      | exact imageeditorlaw10_example.mono _
      | exact LeO.none _
      | refine LeO.ite ?_ ?_
      | refine LeO.bind ?_ (fun _ => ?_)
    · intro y0 y1 y2 y3 y4 y5 y6 y7 y8
      unfold imageeditorlaw10_BlendClears.j1
      repeat' first
      | (with_reducible exact ih0 _ _ _ _ _ _ _ _ _ _ _ _ _ _)
      | (with_reducible exact ih1 _ _ _ _ _ _ _ _ _)
      | (with_reducible exact blend_Over.mono _ _ _ _ _ _ _ _ _ _)
      | (with_reducible exact imageeditorlaw10_example.mono _)
      | (with_reducible exact LeO.refl _)
      | (with_reducible exact LeO.none _)
      | (with_reducible refine LeO.ite ?_ ?_)
      | (with_reducible refine LeO.bind ?_ (fun _ => ?_))
      | exact ih0 _ _ _ _ _ _ _ _ _ _ _ _ _ _
      | exact ih1 _ _ _ _ _ _ _ _ _
      | exact blend_Over.mono _ _ _ _ _ _ _ _ _ _
      | exact imageeditorlaw10_example.mono _
      | exact LeO.none _
      | refine LeO.ite ?_ ?_
      | refine LeO.bind ?_ (fun _ => ?_)
theorem imageeditorlaw10_BlendClears.mono : ∀ a0 a1 a2 a3 a4 a5 a6 a7 a8 k, LeO (imageeditorlaw10_BlendClears.f k a0 a1 a2 a3 a4 a5 a6 a7 a8) (imageeditorlaw10_BlendClears.f (k + 1) a0 a1 a2 a3 a4 a5 a6 a7 a8) := by
  intro a0 a1 a2 a3 a4 a5 a6 a7 a8 k
  obtain ⟨ih0, ih1⟩ := imageeditorlaw10_BlendClears.mono_l k
  unfold imageeditorlaw10_BlendClears.f
  repeat' first
      | (with_reducible exact ih0 _ _ _ _ _ _ _ _ _ _ _ _ _ _)
      | (with_reducible exact ih1 _ _ _ _ _ _ _ _ _)
      | (with_reducible exact blend_Over.mono _ _ _ _ _ _ _ _ _ _)
      | (with_reducible exact imageeditorlaw10_example.mono _)
      | (with_reducible exact LeO.refl _)
      | (with_reducible exact LeO.none _)
      | (with_reducible refine LeO.ite ?_ ?_)
      | (with_reducible refine LeO.bind ?_ (fun _ => ?_))
      | exact ih0 _ _ _ _ _ _ _ _ _ _ _ _ _ _
      | exact ih1 _ _ _ _ _ _ _ _ _
      | exact blend_Over.mono _ _ _ _ _ _ _ _ _ _
      | exact imageeditorlaw10_example.mono _
      | exact LeO.none _
      | refine LeO.ite ?_ ?_
      | refine LeO.bind ?_ (fun _ => ?_)
def imageeditorlaw10_BlendClears.T4 : Bool × List (List Nat × List Nat) := (true, [([], []), ([0], [0]), ([1], [1]), ([2], [2]), ([3], [3]), ([3], [3]), ([4, 5, 3], [3, 4, 5]), ([3, 6], [3, 6]), ([7, 3], [7]), ([8], [8]), ([8], [8]), ([8], [8]), ([9, 10, 11, 8, 8], [8, 9, 10, 11]), ([8], [8]), ([12, 13, 8], [8, 12, 13]), ([8, 14], [8, 14])])
def imageeditorlaw10_BlendClears.B4 : List Nat := [0, 1, 3, 7, 15, 15, 63, 127, 255, 511, 511, 511, 4095, 511, 16383, 32767]
theorem imageeditorlaw10_BlendClears.tab4 : rtab .any (opsOf Try.f10 4) = imageeditorlaw10_BlendClears.T4 := by kernel_rfl
theorem imageeditorlaw10_BlendClears.bits4 : waitsOk imageeditorlaw10_BlendClears.T4.2 imageeditorlaw10_BlendClears.B4 = true := by kernel_rfl
def imageeditorlaw10_BlendClears.T6 : Bool × List (List Nat × List Nat) := (true, [([], []), ([0], [0]), ([1], [1]), ([2], [2]), ([3], [3]), ([3], [3]), ([5, 3], [3, 5]), ([6, 3], [3, 6]), ([3], [3]), ([4, 7, 8, 3, 3], [3, 4, 7, 8]), ([3], [3]), ([9, 10, 3], [3, 9, 10]), ([3, 11], [3, 11])])
def imageeditorlaw10_BlendClears.B6 : List Nat := [0, 1, 3, 7, 15, 15, 47, 111, 15, 511, 15, 2047, 4095]
theorem imageeditorlaw10_BlendClears.tab6 : rtab .any (opsOf Try.f10 6) = imageeditorlaw10_BlendClears.T6 := by kernel_rfl
theorem imageeditorlaw10_BlendClears.bits6 : waitsOk imageeditorlaw10_BlendClears.T6.2 imageeditorlaw10_BlendClears.B6 = true := by kernel_rfl
def imageeditorlaw10_BlendClears.T8 : Bool × List (List Nat × List Nat) := (true, [([], []), ([], []), ([0, 1], [0, 1]), ([], []), ([2, 3], [2, 3]), ([4, 2], [4]), ([5, 5], [5]), ([5, 6], [5, 6]), ([7, 6, 0, 1, 2, 3, 4, 5, 6, 7], [7])])
def imageeditorlaw10_BlendClears.B8 : List Nat := [0, 0, 3, 0, 15, 31, 63, 127, 255]
theorem imageeditorlaw10_BlendClears.tab8 : rtab .any (opsOf Try.f10 8) = imageeditorlaw10_BlendClears.T8 := by kernel_rfl
theorem imageeditorlaw10_BlendClears.bits8 : waitsOk imageeditorlaw10_BlendClears.T8.2 imageeditorlaw10_BlendClears.B8 = true := by kernel_rfl
set_option maxHeartbeats 8000000 in
set_option maxRecDepth 100000 in
theorem imageeditorlaw10_BlendClears.calls (k : Nat) (a0 : Int) (a1_0 : Int) (a1_1 : Int) (a1_2 : Int) (a1_3 : Int) (a2_0 : Int) (a2_1 : Int) (a2_2 : Int) (a2_3 : Int) (r : Bool) (w : World) (h : imageeditorlaw10_BlendClears.f k a0 a1_0 a1_1 a1_2 a1_3 a2_0 a2_1 a2_2 a2_3 = some r) :
    Calls Try.prog 10 #[.int .i64 a0, .agg #[.int .i64 a1_0, .int .i64 a1_1, .int .i64 a1_2, .int .i64 a1_3], .agg #[.int .i64 a2_0, .int .i64 a2_1, .int .i64 a2_2, .int .i64 a2_3]] w fun e w' => e = .returned (.bool r) ∧ Below w.heap.size w w' := by
 have hu32 := Try.underlying32
 have HB := Aside0.mk (Below.refl w.heap.size w)
 have H : ((imageeditorref06_Limit.f a1_0 a1_1 a1_2 a1_3).bind fun bt564 => ((imageeditorref06_Limit.f a2_0 a2_1 a2_2 a2_3).bind fun bt568 => (if bt564.2.2.2 > 0 then ((blend_Over.f k a0 bt564.1 bt564.2.1 bt564.2.2.1 bt564.2.2.2 bt568.1 bt568.2.1 bt568.2.2.1 0).bind fun bt574 => (imageeditorlaw10_BlendClears.j0 k a0 (!(bt574.1 == bt564.1) || (!(bt574.2.1 == bt564.2.1) || (!(bt574.2.2.1 == bt564.2.2.1) || (!(bt574.2.2.2 == bt564.2.2.2))))) bt564.1 bt564.2.1 bt564.2.2.1 bt564.2.2.2 bt568.1 bt568.2.1 bt568.2.2.1 bt568.2.2.2 bt568.1 bt568.2.1 bt568.2.2.1 65535)) else (if (bt564.1 == 0 && (bt564.2.1 == 0 && (bt564.2.2.1 == 0 && (bt564.2.2.2 == 0)))) = true then ((blend_Over.f k a0 bt564.1 bt564.2.1 bt564.2.2.1 bt564.2.2.2 bt568.1 bt568.2.1 bt568.2.2.1 0).bind fun bt578 => (imageeditorlaw10_BlendClears.j0 k a0 (!(bt578.1 == bt564.1) || (!(bt578.2.1 == bt564.2.1) || (!(bt578.2.2.1 == bt564.2.2.1) || (!(bt578.2.2.2 == bt564.2.2.2))))) bt564.1 bt564.2.1 bt564.2.2.1 bt564.2.2.2 bt568.1 bt568.2.1 bt568.2.2.1 bt568.2.2.2 bt568.1 bt568.2.1 bt568.2.2.1 65535)) else (imageeditorlaw10_BlendClears.j0 k a0 false bt564.1 bt564.2.1 bt564.2.2.1 bt564.2.2.2 bt568.1 bt568.2.1 bt568.2.2.1 bt568.2.2.2 bt568.1 bt568.2.1 bt568.2.2.1 65535))))) = some r := h
 clear h
 replace H := Option.bind_eq_some_iff.mp H
 obtain ⟨⟨t564, t565, t566, t567⟩, A40, H⟩ := H
 replace H : ((imageeditorref06_Limit.f a2_0 a2_1 a2_2 a2_3).bind fun bt568 => (if t567 > 0 then ((blend_Over.f k a0 t564 t565 t566 t567 bt568.1 bt568.2.1 bt568.2.2.1 0).bind fun bt574 => (imageeditorlaw10_BlendClears.j0 k a0 (!(bt574.1 == t564) || (!(bt574.2.1 == t565) || (!(bt574.2.2.1 == t566) || (!(bt574.2.2.2 == t567))))) t564 t565 t566 t567 bt568.1 bt568.2.1 bt568.2.2.1 bt568.2.2.2 bt568.1 bt568.2.1 bt568.2.2.1 65535)) else (if (t564 == 0 && (t565 == 0 && (t566 == 0 && (t567 == 0)))) = true then ((blend_Over.f k a0 t564 t565 t566 t567 bt568.1 bt568.2.1 bt568.2.2.1 0).bind fun bt578 => (imageeditorlaw10_BlendClears.j0 k a0 (!(bt578.1 == t564) || (!(bt578.2.1 == t565) || (!(bt578.2.2.1 == t566) || (!(bt578.2.2.2 == t567))))) t564 t565 t566 t567 bt568.1 bt568.2.1 bt568.2.2.1 bt568.2.2.2 bt568.1 bt568.2.1 bt568.2.2.1 65535)) else (imageeditorlaw10_BlendClears.j0 k a0 false t564 t565 t566 t567 bt568.1 bt568.2.1 bt568.2.2.1 bt568.2.2.2 bt568.1 bt568.2.1 bt568.2.2.1 65535)))) = some r := H
 have A4 := Aside0.mk A40
 clear A40
 replace H := Option.bind_eq_some_iff.mp H
 obtain ⟨⟨t568, t569, t570, t571⟩, A50, H⟩ := H
 replace H : (if t567 > 0 then ((blend_Over.f k a0 t564 t565 t566 t567 t568 t569 t570 0).bind fun bt574 => (imageeditorlaw10_BlendClears.j0 k a0 (!(bt574.1 == t564) || (!(bt574.2.1 == t565) || (!(bt574.2.2.1 == t566) || (!(bt574.2.2.2 == t567))))) t564 t565 t566 t567 t568 t569 t570 t571 t568 t569 t570 65535)) else (if (t564 == 0 && (t565 == 0 && (t566 == 0 && (t567 == 0)))) = true then ((blend_Over.f k a0 t564 t565 t566 t567 t568 t569 t570 0).bind fun bt578 => (imageeditorlaw10_BlendClears.j0 k a0 (!(bt578.1 == t564) || (!(bt578.2.1 == t565) || (!(bt578.2.2.1 == t566) || (!(bt578.2.2.2 == t567))))) t564 t565 t566 t567 t568 t569 t570 t571 t568 t569 t570 65535)) else (imageeditorlaw10_BlendClears.j0 k a0 false t564 t565 t566 t567 t568 t569 t570 t571 t568 t569 t570 65535))) = some r := H
 have A5 := Aside0.mk A50
 clear A50
 have HC6 := Aside0.mk H
 clear H
 go_enter Try.func10, Try.ntmps10
 try go_wp2_with (first | ((with_reducible refine gate_dst (N := 4) rfl ?_); refine box_event ?hg (N := 4) ?hd (cs := #[.int .i64 a1_0, .int .i64 a1_1, .int .i64 a1_2, .int .i64 a1_3]) (t := 32) ?hr ?_; (case hd => rfl); (case hg => rfl); (case hr => first | (go_simp; done) | (go_simp; rfl)); intro gA hg w7 hbox hb; have n0_ := Aside0.mk (below_step (by repeat (first | (with_reducible first | exact HB.out | apply below_alloc | apply pw_below_drewN | apply below_drew1) | exact HB.out)) hb); have n1_ := Aside0.mk (hbox); have n2_ := Aside0.mk ((by rw [hg]; exact (below_size (by repeat (first | (with_reducible first | exact HB.out | apply below_alloc | apply pw_below_drewN | apply below_drew1) | exact HB.out))) : w.heap.size ≤ gA)); have n3_ := Aside0.mk ((by rw [hg]; exact (below_size (by repeat (first | (with_reducible first | exact HB.out | apply below_alloc | apply pw_below_drewN | apply below_drew1) | exact HB.out))) : w.heap.size ≤ gA)); clear HB; have HB := n0_; have KA := n1_; have GWA := n2_; have GEA := n3_; clear n0_ n1_ n2_ n3_; clear hb hbox hg) | ((with_reducible refine gate_dst (N := 5) rfl ?_); refine box_event ?hg (N := 5) ?hd (cs := #[.int .i64 a2_0, .int .i64 a2_1, .int .i64 a2_2, .int .i64 a2_3]) (t := 32) ?hr ?_; (case hd => rfl); (case hg => rfl); (case hr => first | (go_simp; done) | (go_simp; rfl)); intro gB hg w8 hbox hb; have n0_ := Aside0.mk (blk_below (g := gA) (o := .cells #[.int .i64 a1_0, .int .i64 a1_1, .int .i64 a1_2, .int .i64 a1_3] 32 (0, 0)) (by (with_reducible repeat (first | refine blk_drewN ?_ _ | refine blk_drew ?_ | refine blk_alloc ?_ _)); exact KA.out) hb); have n1_ := Aside0.mk (below_step (by repeat (first | (with_reducible first | exact HB.out | apply below_alloc | apply pw_below_drewN | apply below_drew1 | refine below_set ?_ GEA.out) | exact HB.out)) hb); have n2_ := Aside0.mk (hbox); have n3_ := Aside0.mk ((by rw [hg]; exact (below_size (by repeat (first | (with_reducible first | exact HB.out | apply below_alloc | apply pw_below_drewN | apply below_drew1 | refine below_set ?_ GEA.out) | exact HB.out))) : w.heap.size ≤ gB)); have n4_ := Aside0.mk ((by rw [hg]; exact (below_size (by repeat (first | (with_reducible first | exact HB.out | apply below_alloc | apply pw_below_drewN | apply below_drew1 | refine below_set ?_ GEA.out) | exact HB.out))) : w.heap.size ≤ gB)); have n5_ := Aside0.mk ((by rw [hg]; exact Nat.ne_of_lt (blk_lt (g := gA) (o := .cells #[.int .i64 a1_0, .int .i64 a1_1, .int .i64 a1_2, .int .i64 a1_3] 32 (0, 0)) (by (with_reducible repeat (first | refine blk_drewN ?_ _ | refine blk_drew ?_ | refine blk_alloc ?_ _)); exact KA.out)) : gA ≠ gB)); have n6_ := Aside0.mk ((by rw [hg]; exact Nat.ne_of_gt (blk_lt (g := gA) (o := .cells #[.int .i64 a1_0, .int .i64 a1_1, .int .i64 a1_2, .int .i64 a1_3] 32 (0, 0)) (by (with_reducible repeat (first | refine blk_drewN ?_ _ | refine blk_drew ?_ | refine blk_alloc ?_ _)); exact KA.out)) : gB ≠ gA)); clear KA; clear HB; have KA := n0_; have HB := n1_; have KB := n2_; have GWB := n3_; have GEB := n4_; have NAB := n5_; have NBA := n6_; clear n0_ n1_ n2_ n3_ n4_ n5_ n6_; clear hb hbox hg))
 replace KA := Aside0.mk (blk_drew KA.out)
 replace KB := Aside0.mk (blk_drew KB.out)
 replace HB := Aside0.mk (below_drew1 HB.out)
 refine start_ (n := 6) (S := fun w' => w'.cell? ⟨gA, 0, none⟩ = some (.int .i64 a1_0) ∧ w'.cell? ⟨gA, 1, none⟩ = some (.int .i64 a1_1) ∧ w'.cell? ⟨gA, 2, none⟩ = some (.int .i64 a1_2) ∧ w'.cell? ⟨gA, 3, none⟩ = some (.int .i64 a1_3) ∧ w'.cell? ⟨gB, 0, none⟩ = some (.int .i64 a2_0) ∧ w'.cell? ⟨gB, 1, none⟩ = some (.int .i64 a2_1) ∧ w'.cell? ⟨gB, 2, none⟩ = some (.int .i64 a2_2) ∧ w'.cell? ⟨gB, 3, none⟩ = some (.int .i64 a2_3)) (ds := [4, 5]) #[false, false, false, false, false, false] (by kernel_rfl) rfl rfl ⟨(blk_cell KA.out 0).trans rfl, (blk_cell KA.out 1).trans rfl, (blk_cell KA.out 2).trans rfl, (blk_cell KA.out 3).trans rfl, (blk_cell KB.out 0).trans rfl, (blk_cell KB.out 1).trans rfl, (blk_cell KB.out 2).trans rfl, (blk_cell KB.out 3).trans rfl⟩ (fun hHeld => ?_)
 generalize w8.drew = w9 at KA KB HB hHeld ⊢
 refine take_ (i := 0) (N := some 9) (v := ?_) (a' := ?_) #[true, false, false, false, false, false] rfl rfl (by kernel_rfl) (fun _ _ _ h => h) (Or.inl ⟨by rfl, ?_⟩) hHeld ?_ ?_
 rotate_left
 ·rintro w' ⟨s0, s1, s2, s3, s4, s5, s6, s7⟩
  go_simp
  with_reducible rfl
 rotate_left
 ·simp only [Act.put, List.setIfInBounds_toArray, List.set_cons_zero, List.set_cons_succ, i64_w, i32_w]
  rfl
 refine take_ (i := 2) (N := some 11) (v := ?_) (a' := ?_) #[true, false, true, false, false, false] rfl rfl (by kernel_rfl) (fun _ _ _ h => h) (Or.inl ⟨by rfl, ?_⟩) hHeld ?_ ?_
 rotate_left
 ·rintro w' ⟨s0, s1, s2, s3, s4, s5, s6, s7⟩
  go_simp
  with_reducible rfl
 rotate_left
 ·simp only [Act.put, List.setIfInBounds_toArray, List.set_cons_zero, List.set_cons_succ, i64_w, i32_w]
  rfl
 refine one_ (i := 1) (N := some 10) #[true, true, true, false, false, false] rfl rfl (by kernel_rfl) (by decide) (fun K hK => ?_)
 refine goes_ Try.func30 (by kernel_rfl) rfl #[.agg #[.int .i64 a1_0, .int .i64 a1_1, .int .i64 a1_2, .int .i64 a1_3]] (by rfl) rfl rfl (by (try simp only [List.map_toArray, List.map_cons, List.map_nil]); first | done | rfl | (simp only [List.length_drop, List.length_take]; rfl)) ?_
 with_reducible refine (imageeditorref06_Limit.calls a1_0 a1_1 a1_2 a1_3 t564 t565 t566 t567 _ A4.out).mono ?_
 rintro e w10 ⟨rfl, hb⟩
 refine ⟨_, rfl, ?_⟩
 replace KA := bb_ KA hb
 replace KB := bb_ KB hb
 replace HB := Aside0.mk (below_step HB.out hb)
 try clear hb
 refine hK.out _ _ ⟨(blk_cell KA.out 0).trans rfl, (blk_cell KA.out 1).trans rfl, (blk_cell KA.out 2).trans rfl, (blk_cell KA.out 3).trans rfl, (blk_cell KB.out 0).trans rfl, (blk_cell KB.out 1).trans rfl, (blk_cell KB.out 2).trans rfl, (blk_cell KB.out 3).trans rfl⟩ (fun hHeld => ?_)
 clear hK K
 refine norm_ (a' := ?_) ?_ ?_
 rotate_left
 ·show Act.put _ (some 10) _ = _
  simp only [Act.put, List.setIfInBounds_toArray, List.set_cons_zero, List.set_cons_succ, i64_w, i32_w]
  rfl
 refine one_ (i := 3) (N := some 12) #[true, true, true, true, false, false] rfl rfl (by kernel_rfl) (by decide) (fun K hK => ?_)
 refine goes_ Try.func30 (by kernel_rfl) rfl #[.agg #[.int .i64 a2_0, .int .i64 a2_1, .int .i64 a2_2, .int .i64 a2_3]] (by rfl) rfl rfl (by (try simp only [List.map_toArray, List.map_cons, List.map_nil]); first | done | rfl | (simp only [List.length_drop, List.length_take]; rfl)) ?_
 with_reducible refine (imageeditorref06_Limit.calls a2_0 a2_1 a2_2 a2_3 t568 t569 t570 t571 _ A5.out).mono ?_
 rintro e w11 ⟨rfl, hb⟩
 refine ⟨_, rfl, ?_⟩
 replace KA := bb_ KA hb
 replace KB := bb_ KB hb
 replace HB := Aside0.mk (below_step HB.out hb)
 try clear hb
 refine hK.out _ _ ⟨(blk_cell KA.out 0).trans rfl, (blk_cell KA.out 1).trans rfl, (blk_cell KA.out 2).trans rfl, (blk_cell KA.out 3).trans rfl, (blk_cell KB.out 0).trans rfl, (blk_cell KB.out 1).trans rfl, (blk_cell KB.out 2).trans rfl, (blk_cell KB.out 3).trans rfl⟩ (fun hHeld => ?_)
 clear hK K
 refine norm_ (a' := ?_) ?_ ?_
 rotate_left
 ·show Act.put _ (some 12) _ = _
  simp only [Act.put, List.setIfInBounds_toArray, List.set_cons_zero, List.set_cons_succ, i64_w, i32_w]
  rfl
 refine last_ (i := 4) (N := none) #[true, true, true, true, true, false] rfl rfl (by kernel_rfl) (by decide) (fun K hK => ?_)
 have hs12 : w11.cell? ⟨gA, 0, none⟩ = some (.int .i64 a1_0) := (blk_cell KA.out 0).trans rfl
 have hfs12 := blk_frozen KA.out 0
 have hns12_1 := NBA.out
 have hms12_1 := NAB.out
 have hs13 : w11.cell? ⟨gA, 1, none⟩ = some (.int .i64 a1_1) := (blk_cell KA.out 1).trans rfl
 have hfs13 := blk_frozen KA.out 1
 have hns13_1 := NBA.out
 have hms13_1 := NAB.out
 have hs14 : w11.cell? ⟨gA, 2, none⟩ = some (.int .i64 a1_2) := (blk_cell KA.out 2).trans rfl
 have hfs14 := blk_frozen KA.out 2
 have hns14_1 := NBA.out
 have hms14_1 := NAB.out
 have hs15 : w11.cell? ⟨gA, 3, none⟩ = some (.int .i64 a1_3) := (blk_cell KA.out 3).trans rfl
 have hfs15 := blk_frozen KA.out 3
 have hns15_1 := NBA.out
 have hms15_1 := NAB.out
 refine skip_ (w1 := ?_) (by rfl) rfl ?_ ?_
 rotate_left
 ·go_simp
  rfl
 refine hK.out _ _ ?_
 clear hK K
 refine last_ (i := 5) (N := none) #[true, true, true, true, true, true] rfl rfl (by kernel_rfl) (by decide) (fun K hK => ?_)
 have hs16 : w11.cell? ⟨gB, 0, none⟩ = some (.int .i64 a2_0) := (blk_cell KB.out 0).trans rfl
 have hfs16 := blk_frozen KB.out 0
 have hns16_0 := NAB.out
 have hms16_0 := NBA.out
 have hs17 : w11.cell? ⟨gB, 1, none⟩ = some (.int .i64 a2_1) := (blk_cell KB.out 1).trans rfl
 have hfs17 := blk_frozen KB.out 1
 have hns17_0 := NAB.out
 have hms17_0 := NBA.out
 have hs18 : w11.cell? ⟨gB, 2, none⟩ = some (.int .i64 a2_2) := (blk_cell KB.out 2).trans rfl
 have hfs18 := blk_frozen KB.out 2
 have hns18_0 := NAB.out
 have hms18_0 := NBA.out
 have hs19 : w11.cell? ⟨gB, 3, none⟩ = some (.int .i64 a2_3) := (blk_cell KB.out 3).trans rfl
 have hfs19 := blk_frozen KB.out 3
 have hns19_0 := NAB.out
 have hms19_0 := NBA.out
 refine skip_ (w1 := ?_) (by rfl) rfl ?_ ?_
 rotate_left
 ·go_simp
  rfl
 refine hK.out _ _ ?_
 clear hK K
 refine done_ (by kernel_rfl) ?_
 try go_wp2
 have n0_ : Aside0 (((((((((w11.setCell ⟨gA, 0, none⟩ (.int .i64 t564)).setCell ⟨gA, 1, none⟩ (.int .i64 t565)).setCell ⟨gA, 2, none⟩ (.int .i64 t566)).setCell ⟨gA, 3, none⟩ (.int .i64 t567)).setCell ⟨gB, 0, none⟩ (.int .i64 t568)).setCell ⟨gB, 1, none⟩ (.int .i64 t569)).setCell ⟨gB, 2, none⟩ (.int .i64 t570)).setCell ⟨gB, 3, none⟩ (.int .i64 t571)).heap[gA]? = some (.cells #[.int .i64 t564, .int .i64 t565, .int .i64 t566, .int .i64 t567] 32 (0, 0))) := ⟨by (with_reducible repeat (first | refine blk_drewN ?_ _ | refine blk_drew ?_ | refine blk_alloc ?_ _)); refine blk_far ?_ NAB.out _; (with_reducible repeat (first | refine blk_drewN ?_ _ | refine blk_drew ?_ | refine blk_alloc ?_ _)); refine blk_far ?_ NAB.out _; (with_reducible repeat (first | refine blk_drewN ?_ _ | refine blk_drew ?_ | refine blk_alloc ?_ _)); refine blk_far ?_ NAB.out _; (with_reducible repeat (first | refine blk_drewN ?_ _ | refine blk_drew ?_ | refine blk_alloc ?_ _)); refine blk_far ?_ NAB.out _; (with_reducible repeat (first | refine blk_drewN ?_ _ | refine blk_drew ?_ | refine blk_alloc ?_ _)); refine blk_put (cs := #[.int .i64 t564, .int .i64 t565, .int .i64 t566, .int .i64 a1_3]) ?_ 3 _ rfl; (with_reducible repeat (first | refine blk_drewN ?_ _ | refine blk_drew ?_ | refine blk_alloc ?_ _)); refine blk_put (cs := #[.int .i64 t564, .int .i64 t565, .int .i64 a1_2, .int .i64 a1_3]) ?_ 2 _ rfl; (with_reducible repeat (first | refine blk_drewN ?_ _ | refine blk_drew ?_ | refine blk_alloc ?_ _)); refine blk_put (cs := #[.int .i64 t564, .int .i64 a1_1, .int .i64 a1_2, .int .i64 a1_3]) ?_ 1 _ rfl; (with_reducible repeat (first | refine blk_drewN ?_ _ | refine blk_drew ?_ | refine blk_alloc ?_ _)); refine blk_put (cs := #[.int .i64 a1_0, .int .i64 a1_1, .int .i64 a1_2, .int .i64 a1_3]) ?_ 0 _ rfl; (with_reducible repeat (first | refine blk_drewN ?_ _ | refine blk_drew ?_ | refine blk_alloc ?_ _)); exact KA.out⟩
 have n1_ : Aside0 (((((((((w11.setCell ⟨gA, 0, none⟩ (.int .i64 t564)).setCell ⟨gA, 1, none⟩ (.int .i64 t565)).setCell ⟨gA, 2, none⟩ (.int .i64 t566)).setCell ⟨gA, 3, none⟩ (.int .i64 t567)).setCell ⟨gB, 0, none⟩ (.int .i64 t568)).setCell ⟨gB, 1, none⟩ (.int .i64 t569)).setCell ⟨gB, 2, none⟩ (.int .i64 t570)).setCell ⟨gB, 3, none⟩ (.int .i64 t571)).heap[gB]? = some (.cells #[.int .i64 t568, .int .i64 t569, .int .i64 t570, .int .i64 t571] 32 (0, 0))) := ⟨by (with_reducible repeat (first | refine blk_drewN ?_ _ | refine blk_drew ?_ | refine blk_alloc ?_ _)); refine blk_put (cs := #[.int .i64 t568, .int .i64 t569, .int .i64 t570, .int .i64 a2_3]) ?_ 3 _ rfl; (with_reducible repeat (first | refine blk_drewN ?_ _ | refine blk_drew ?_ | refine blk_alloc ?_ _)); refine blk_put (cs := #[.int .i64 t568, .int .i64 t569, .int .i64 a2_2, .int .i64 a2_3]) ?_ 2 _ rfl; (with_reducible repeat (first | refine blk_drewN ?_ _ | refine blk_drew ?_ | refine blk_alloc ?_ _)); refine blk_put (cs := #[.int .i64 t568, .int .i64 a2_1, .int .i64 a2_2, .int .i64 a2_3]) ?_ 1 _ rfl; (with_reducible repeat (first | refine blk_drewN ?_ _ | refine blk_drew ?_ | refine blk_alloc ?_ _)); refine blk_put (cs := #[.int .i64 a2_0, .int .i64 a2_1, .int .i64 a2_2, .int .i64 a2_3]) ?_ 0 _ rfl; (with_reducible repeat (first | refine blk_drewN ?_ _ | refine blk_drew ?_ | refine blk_alloc ?_ _)); refine blk_far ?_ NBA.out _; (with_reducible repeat (first | refine blk_drewN ?_ _ | refine blk_drew ?_ | refine blk_alloc ?_ _)); refine blk_far ?_ NBA.out _; (with_reducible repeat (first | refine blk_drewN ?_ _ | refine blk_drew ?_ | refine blk_alloc ?_ _)); refine blk_far ?_ NBA.out _; (with_reducible repeat (first | refine blk_drewN ?_ _ | refine blk_drew ?_ | refine blk_alloc ?_ _)); refine blk_far ?_ NBA.out _; (with_reducible repeat (first | refine blk_drewN ?_ _ | refine blk_drew ?_ | refine blk_alloc ?_ _)); exact KB.out⟩
 have n2_ : Aside0 (Below w.heap.size w ((((((((w11.setCell ⟨gA, 0, none⟩ (.int .i64 t564)).setCell ⟨gA, 1, none⟩ (.int .i64 t565)).setCell ⟨gA, 2, none⟩ (.int .i64 t566)).setCell ⟨gA, 3, none⟩ (.int .i64 t567)).setCell ⟨gB, 0, none⟩ (.int .i64 t568)).setCell ⟨gB, 1, none⟩ (.int .i64 t569)).setCell ⟨gB, 2, none⟩ (.int .i64 t570)).setCell ⟨gB, 3, none⟩ (.int .i64 t571))) := ⟨by repeat (first | (with_reducible first | exact HB.out | apply below_alloc | apply pw_below_drewN | apply below_drew1 | refine below_set ?_ GEA.out | refine below_set ?_ GEB.out) | exact HB.out)⟩
 (try clear KA)
 (try clear KB)
 (try clear HB)
 generalize ((((((((w11.setCell ⟨gA, 0, none⟩ (.int .i64 t564)).setCell ⟨gA, 1, none⟩ (.int .i64 t565)).setCell ⟨gA, 2, none⟩ (.int .i64 t566)).setCell ⟨gA, 3, none⟩ (.int .i64 t567)).setCell ⟨gB, 0, none⟩ (.int .i64 t568)).setCell ⟨gB, 1, none⟩ (.int .i64 t569)).setCell ⟨gB, 2, none⟩ (.int .i64 t570)).setCell ⟨gB, 3, none⟩ (.int .i64 t571)) = w20 at n0_ n1_ n2_ ⊢
 have KA := n0_
 have KB := n1_
 have HB := n2_
 clear n0_ n1_ n2_
 replace KA := Aside0.mk (blk_drew KA.out)
 replace KB := Aside0.mk (blk_drew KB.out)
 replace HB := Aside0.mk (below_drew1 HB.out)
 refine start_ (n := 6) (S := fun w' => w'.cell? ⟨gB, 0, none⟩ = some (.int .i64 t568) ∧ w'.cell? ⟨gB, 1, none⟩ = some (.int .i64 t569) ∧ w'.cell? ⟨gB, 2, none⟩ = some (.int .i64 t570) ∧ w'.cell? ⟨gB, 3, none⟩ = some (.int .i64 t571)) (ds := []) #[false, false, false, false, false, false] (by kernel_rfl) rfl rfl ⟨(blk_cell KB.out 0).trans rfl, (blk_cell KB.out 1).trans rfl, (blk_cell KB.out 2).trans rfl, (blk_cell KB.out 3).trans rfl⟩ (fun hHeld => ?_)
 generalize w20.drew = w21 at KA KB HB hHeld ⊢
 refine take_ (i := 0) (N := some 13) (v := ?_) (a' := ?_) #[true, false, false, false, false, false] rfl rfl (by kernel_rfl) (fun _ _ _ h => h) (Or.inl ⟨by rfl, ?_⟩) hHeld ?_ ?_
 rotate_left
 ·rintro w' ⟨s0, s1, s2, s3⟩
  go_simp
  with_reducible rfl
 rotate_left
 ·simp only [Act.put, List.setIfInBounds_toArray, List.set_cons_zero, List.set_cons_succ, i64_w, i32_w]
  rfl
 refine take_ (i := 1) (N := some 14) (v := ?_) (a' := ?_) #[true, true, false, false, false, false] rfl rfl (by kernel_rfl) (fun _ _ _ h => h) (Or.inl ⟨by rfl, ?_⟩) hHeld ?_ ?_
 rotate_left
 ·rintro w' ⟨s0, s1, s2, s3⟩
  go_simp
  with_reducible rfl
 rotate_left
 ·simp only [Act.put, List.setIfInBounds_toArray, List.set_cons_zero, List.set_cons_succ, i64_w, i32_w]
  rfl
 refine join_ (σ := Nat × Nat) 2 #[true, true, true, true, false, false] (fun s_ => [(7, .pointer (some ⟨s_.1, 0, none⟩)), (8, .pointer (some ⟨s_.2, 0, none⟩))]) (fun s_ w' => (w'.cell? ⟨gB, 0, none⟩ = some (.int .i64 t568) ∧ w'.cell? ⟨gB, 1, none⟩ = some (.int .i64 t569) ∧ w'.cell? ⟨gB, 2, none⟩ = some (.int .i64 t570) ∧ w'.cell? ⟨gB, 3, none⟩ = some (.int .i64 t571)) ∧ (w'.heap[gA]? = some (.cells #[.int .i64 t564, .int .i64 t565, .int .i64 t566, .int .i64 t567] 32 (0, 0))) ∧ (w'.heap[gB]? = some (.cells #[.int .i64 t568, .int .i64 t569, .int .i64 t570, .int .i64 t571] 32 (0, 0))) ∧ (w'.heap[s_.1]? = some (.cells #[.int .i64 0, .int .i64 0, .int .i64 0, .int .i64 0] 32 (0, 0))) ∧ (w'.heap[s_.2]? = some (.cells #[.int .i64 0, .int .i64 0, .int .i64 0, .int .i64 0] 32 (0, 0))) ∧ (w.heap.size ≤ s_.1) ∧ (w.heap.size ≤ s_.1) ∧ (gA ≠ s_.1) ∧ (s_.1 ≠ gA) ∧ (gB ≠ s_.1) ∧ (s_.1 ≠ gB) ∧ (s_.2 ≠ s_.1) ∧ (s_.1 ≠ s_.2) ∧ (w.heap.size ≤ s_.2) ∧ (w.heap.size ≤ s_.2) ∧ (gA ≠ s_.2) ∧ (s_.2 ≠ gA) ∧ (gB ≠ s_.2) ∧ (s_.2 ≠ gB) ∧ (Below w.heap.size w w')) ?_ ?_
 rotate_left
 ·intro hCont
  refine two_ (i := 2) (j := 3) (Ni := some 7) (Nj := some 8) #[true, true, true, false, false, false] #[true, true, false, true, false, false] rfl rfl rfl rfl (by kernel_rfl) (by decide) (by decide) (fun K hK => ?_) (fun K hK => ?_)
  ·skip
   refine box_step ?hg (N := 7) ?hd (cs := #[.int .i64 0, .int .i64 0, .int .i64 0, .int .i64 0]) (t := 32) ?hr ?_; (case hd => rfl); (case hg => rfl); (case hr => first | (go_simp; done) | (go_simp; rfl))
   intro gC hg w22 hbox hb
   have KC := Aside0.mk (hbox)
   have GWC := Aside0.mk ((by rw [hg]; exact (below_size HB.out) : w.heap.size ≤ gC))
   have GEC := Aside0.mk ((by rw [hg]; exact (below_size HB.out) : w.heap.size ≤ gC))
   have NAC := Aside0.mk ((by rw [hg]; exact Nat.ne_of_lt (blk_lt KA.out) : gA ≠ gC))
   have NCA := Aside0.mk ((by rw [hg]; exact Nat.ne_of_gt (blk_lt KA.out) : gC ≠ gA))
   have NBC := Aside0.mk ((by rw [hg]; exact Nat.ne_of_lt (blk_lt KB.out) : gB ≠ gC))
   have NCB := Aside0.mk ((by rw [hg]; exact Nat.ne_of_gt (blk_lt KB.out) : gC ≠ gB))
   replace KA := bb_ KA hb
   replace KB := bb_ KB hb
   replace HB := Aside0.mk (below_step HB.out hb)
   clear hb hbox hg
   refine hK.out _ _ ⟨(blk_cell KB.out 0).trans rfl, (blk_cell KB.out 1).trans rfl, (blk_cell KB.out 2).trans rfl, (blk_cell KB.out 3).trans rfl⟩ (fun hHeld => ?_)
   clear hK K
   refine norm_ (a' := ?_) ?_ ?_
   rotate_left
   ·show Act.put _ (some 7) _ = _
    simp only [Act.put, List.setIfInBounds_toArray, List.set_cons_zero, List.set_cons_succ, i64_w, i32_w]
    rfl
   refine one_ (i := 3) (N := some 8) #[true, true, true, true, false, false] rfl rfl (by kernel_rfl) (by decide) (fun K hK => ?_)
   refine box_step ?hg (N := 8) ?hd (cs := #[.int .i64 0, .int .i64 0, .int .i64 0, .int .i64 0]) (t := 32) ?hr ?_; (case hd => rfl); (case hg => rfl); (case hr => first | (go_simp; done) | (go_simp; rfl))
   intro gD hg w23 hbox hb
   have KD := Aside0.mk (hbox)
   have GWD := Aside0.mk ((by rw [hg]; exact (below_size HB.out) : w.heap.size ≤ gD))
   have GED := Aside0.mk ((by rw [hg]; exact (below_size HB.out) : w.heap.size ≤ gD))
   have NAD := Aside0.mk ((by rw [hg]; exact Nat.ne_of_lt (blk_lt KA.out) : gA ≠ gD))
   have NDA := Aside0.mk ((by rw [hg]; exact Nat.ne_of_gt (blk_lt KA.out) : gD ≠ gA))
   have NBD := Aside0.mk ((by rw [hg]; exact Nat.ne_of_lt (blk_lt KB.out) : gB ≠ gD))
   have NDB := Aside0.mk ((by rw [hg]; exact Nat.ne_of_gt (blk_lt KB.out) : gD ≠ gB))
   have NCD := Aside0.mk ((by rw [hg]; exact Nat.ne_of_lt (blk_lt KC.out) : gC ≠ gD))
   have NDC := Aside0.mk ((by rw [hg]; exact Nat.ne_of_gt (blk_lt KC.out) : gD ≠ gC))
   replace KA := bb_ KA hb
   replace KB := bb_ KB hb
   replace KC := bb_ KC hb
   replace HB := Aside0.mk (below_step HB.out hb)
   clear hb hbox hg
   refine hK.out _ _ ⟨(blk_cell KB.out 0).trans rfl, (blk_cell KB.out 1).trans rfl, (blk_cell KB.out 2).trans rfl, (blk_cell KB.out 3).trans rfl⟩ (fun hHeld => ?_)
   clear hK K
   refine norm_ (a' := ?_) ?_ ?_
   rotate_left
   ·show Act.put _ (some 8) _ = _
    simp only [Act.put, List.setIfInBounds_toArray, List.set_cons_zero, List.set_cons_succ, i64_w, i32_w]
    rfl
   exact norm_ (by simp only [putAll, Act.put, List.setIfInBounds_toArray, List.set_cons_zero, List.set_cons_succ]) (hCont (gC, gD) _ ⟨hHeld, (by (with_reducible repeat (first | refine blk_drewN ?_ _ | refine blk_drew ?_ | refine blk_alloc ?_ _)); exact KA.out), (by (with_reducible repeat (first | refine blk_drewN ?_ _ | refine blk_drew ?_ | refine blk_alloc ?_ _)); exact KB.out), (by (with_reducible repeat (first | refine blk_drewN ?_ _ | refine blk_drew ?_ | refine blk_alloc ?_ _)); exact KC.out), (by (with_reducible repeat (first | refine blk_drewN ?_ _ | refine blk_drew ?_ | refine blk_alloc ?_ _)); exact KD.out), GWC.out, GEC.out, NAC.out, NCA.out, NBC.out, NCB.out, NDC.out, NCD.out, GWD.out, GED.out, NAD.out, NDA.out, NBD.out, NDB.out, (by repeat (first | (with_reducible first | exact HB.out | apply below_alloc | apply pw_below_drewN | apply below_drew1 | refine below_set ?_ GEA.out | refine below_set ?_ GEB.out | refine below_set ?_ GEC.out | refine below_set ?_ GED.out) | exact HB.out))⟩)
  ·skip
   refine box_step ?hg (N := 8) ?hd (cs := #[.int .i64 0, .int .i64 0, .int .i64 0, .int .i64 0]) (t := 32) ?hr ?_; (case hd => rfl); (case hg => rfl); (case hr => first | (go_simp; done) | (go_simp; rfl))
   intro gD hg w22 hbox hb
   have KD := Aside0.mk (hbox)
   have GWD := Aside0.mk ((by rw [hg]; exact (below_size HB.out) : w.heap.size ≤ gD))
   have GED := Aside0.mk ((by rw [hg]; exact (below_size HB.out) : w.heap.size ≤ gD))
   have NAD := Aside0.mk ((by rw [hg]; exact Nat.ne_of_lt (blk_lt KA.out) : gA ≠ gD))
   have NDA := Aside0.mk ((by rw [hg]; exact Nat.ne_of_gt (blk_lt KA.out) : gD ≠ gA))
   have NBD := Aside0.mk ((by rw [hg]; exact Nat.ne_of_lt (blk_lt KB.out) : gB ≠ gD))
   have NDB := Aside0.mk ((by rw [hg]; exact Nat.ne_of_gt (blk_lt KB.out) : gD ≠ gB))
   replace KA := bb_ KA hb
   replace KB := bb_ KB hb
   replace HB := Aside0.mk (below_step HB.out hb)
   clear hb hbox hg
   refine hK.out _ _ ⟨(blk_cell KB.out 0).trans rfl, (blk_cell KB.out 1).trans rfl, (blk_cell KB.out 2).trans rfl, (blk_cell KB.out 3).trans rfl⟩ (fun hHeld => ?_)
   clear hK K
   refine norm_ (a' := ?_) ?_ ?_
   rotate_left
   ·show Act.put _ (some 8) _ = _
    simp only [Act.put, List.setIfInBounds_toArray, List.set_cons_zero, List.set_cons_succ, i64_w, i32_w]
    rfl
   refine one_ (i := 2) (N := some 7) #[true, true, true, true, false, false] rfl rfl (by kernel_rfl) (by decide) (fun K hK => ?_)
   refine box_step ?hg (N := 7) ?hd (cs := #[.int .i64 0, .int .i64 0, .int .i64 0, .int .i64 0]) (t := 32) ?hr ?_; (case hd => rfl); (case hg => rfl); (case hr => first | (go_simp; done) | (go_simp; rfl))
   intro gC hg w23 hbox hb
   have KC := Aside0.mk (hbox)
   have GWC := Aside0.mk ((by rw [hg]; exact (below_size HB.out) : w.heap.size ≤ gC))
   have GEC := Aside0.mk ((by rw [hg]; exact (below_size HB.out) : w.heap.size ≤ gC))
   have NAC := Aside0.mk ((by rw [hg]; exact Nat.ne_of_lt (blk_lt KA.out) : gA ≠ gC))
   have NCA := Aside0.mk ((by rw [hg]; exact Nat.ne_of_gt (blk_lt KA.out) : gC ≠ gA))
   have NBC := Aside0.mk ((by rw [hg]; exact Nat.ne_of_lt (blk_lt KB.out) : gB ≠ gC))
   have NCB := Aside0.mk ((by rw [hg]; exact Nat.ne_of_gt (blk_lt KB.out) : gC ≠ gB))
   have NDC := Aside0.mk ((by rw [hg]; exact Nat.ne_of_lt (blk_lt KD.out) : gD ≠ gC))
   have NCD := Aside0.mk ((by rw [hg]; exact Nat.ne_of_gt (blk_lt KD.out) : gC ≠ gD))
   replace KA := bb_ KA hb
   replace KB := bb_ KB hb
   replace KD := bb_ KD hb
   replace HB := Aside0.mk (below_step HB.out hb)
   clear hb hbox hg
   refine hK.out _ _ ⟨(blk_cell KB.out 0).trans rfl, (blk_cell KB.out 1).trans rfl, (blk_cell KB.out 2).trans rfl, (blk_cell KB.out 3).trans rfl⟩ (fun hHeld => ?_)
   clear hK K
   refine norm_ (a' := ?_) ?_ ?_
   rotate_left
   ·show Act.put _ (some 7) _ = _
    simp only [Act.put, List.setIfInBounds_toArray, List.set_cons_zero, List.set_cons_succ, i64_w, i32_w]
    rfl
   exact norm_ (by simp only [putAll, Act.put, List.setIfInBounds_toArray, List.set_cons_zero, List.set_cons_succ]) (hCont (gC, gD) _ ⟨hHeld, (by (with_reducible repeat (first | refine blk_drewN ?_ _ | refine blk_drew ?_ | refine blk_alloc ?_ _)); exact KA.out), (by (with_reducible repeat (first | refine blk_drewN ?_ _ | refine blk_drew ?_ | refine blk_alloc ?_ _)); exact KB.out), (by (with_reducible repeat (first | refine blk_drewN ?_ _ | refine blk_drew ?_ | refine blk_alloc ?_ _)); exact KC.out), (by (with_reducible repeat (first | refine blk_drewN ?_ _ | refine blk_drew ?_ | refine blk_alloc ?_ _)); exact KD.out), GWC.out, GEC.out, NAC.out, NCA.out, NBC.out, NCB.out, NDC.out, NCD.out, GWD.out, GED.out, NAD.out, NDA.out, NBD.out, NDB.out, (by repeat (first | (with_reducible first | exact HB.out | apply below_alloc | apply pw_below_drewN | apply below_drew1 | refine below_set ?_ GEA.out | refine below_set ?_ GEB.out | refine below_set ?_ GED.out | refine below_set ?_ GEC.out) | exact HB.out))⟩)
 rintro ⟨gC, gD⟩ w24 ⟨hS_, h0_, h1_, h2_, h3_, h4_, h5_, h6_, h7_, h8_, h9_, h10_, h11_, h12_, h13_, h14_, h15_, h16_, h17_, h18_⟩
 have n0_ : Aside0 (w24.heap[gA]? = some (.cells #[.int .i64 t564, .int .i64 t565, .int .i64 t566, .int .i64 t567] 32 (0, 0))) := ⟨h0_⟩
 have n1_ : Aside0 (w24.heap[gB]? = some (.cells #[.int .i64 t568, .int .i64 t569, .int .i64 t570, .int .i64 t571] 32 (0, 0))) := ⟨h1_⟩
 have n2_ : Aside0 (w24.heap[gC]? = some (.cells #[.int .i64 0, .int .i64 0, .int .i64 0, .int .i64 0] 32 (0, 0))) := ⟨h2_⟩
 have n3_ : Aside0 (w24.heap[gD]? = some (.cells #[.int .i64 0, .int .i64 0, .int .i64 0, .int .i64 0] 32 (0, 0))) := ⟨h3_⟩
 have n4_ : Aside0 (w.heap.size ≤ gC) := ⟨h4_⟩
 have n5_ : Aside0 (w.heap.size ≤ gC) := ⟨h5_⟩
 have n6_ : Aside0 (gA ≠ gC) := ⟨h6_⟩
 have n7_ : Aside0 (gC ≠ gA) := ⟨h7_⟩
 have n8_ : Aside0 (gB ≠ gC) := ⟨h8_⟩
 have n9_ : Aside0 (gC ≠ gB) := ⟨h9_⟩
 have n10_ : Aside0 (gD ≠ gC) := ⟨h10_⟩
 have n11_ : Aside0 (gC ≠ gD) := ⟨h11_⟩
 have n12_ : Aside0 (w.heap.size ≤ gD) := ⟨h12_⟩
 have n13_ : Aside0 (w.heap.size ≤ gD) := ⟨h13_⟩
 have n14_ : Aside0 (gA ≠ gD) := ⟨h14_⟩
 have n15_ : Aside0 (gD ≠ gA) := ⟨h15_⟩
 have n16_ : Aside0 (gB ≠ gD) := ⟨h16_⟩
 have n17_ : Aside0 (gD ≠ gB) := ⟨h17_⟩
 have n18_ : Aside0 (Below w.heap.size w w24) := ⟨h18_⟩
 clear KA
 clear KB
 clear HB
 clear h0_ h1_ h2_ h3_ h4_ h5_ h6_ h7_ h8_ h9_ h10_ h11_ h12_ h13_ h14_ h15_ h16_ h17_ h18_
 have KA := n0_
 have KB := n1_
 have KC := n2_
 have KD := n3_
 have GWC := n4_
 have GEC := n5_
 have NAC := n6_
 have NCA := n7_
 have NBC := n8_
 have NCB := n9_
 have NDC := n10_
 have NCD := n11_
 have GWD := n12_
 have GED := n13_
 have NAD := n14_
 have NDA := n15_
 have NBD := n16_
 have NDB := n17_
 have HB := n18_
 clear n0_ n1_ n2_ n3_ n4_ n5_ n6_ n7_ n8_ n9_ n10_ n11_ n12_ n13_ n14_ n15_ n16_ n17_ n18_
 have hHeld : w24.cell? ⟨gB, 0, none⟩ = some (.int .i64 t568) ∧ w24.cell? ⟨gB, 1, none⟩ = some (.int .i64 t569) ∧ w24.cell? ⟨gB, 2, none⟩ = some (.int .i64 t570) ∧ w24.cell? ⟨gB, 3, none⟩ = some (.int .i64 t571) := hS_
 refine norm_ (a' := ?_) ?_ ?_
 rotate_left
 ·simp only [putAll, Act.put, List.setIfInBounds_toArray, List.set_cons_zero, List.set_cons_succ]
  rfl
 refine one_ (i := 4) (N := none) #[true, true, true, true, true, false] rfl rfl (by kernel_rfl) (by decide) (fun K hK => ?_)
 have hs25 : w24.cell? ⟨gC, 0, none⟩ = some (.int .i64 0) := (blk_cell KC.out 0).trans rfl
 have hfs25 := blk_frozen KC.out 0
 have hns25_0 := NAC.out
 have hns25_1 := NBC.out
 have hns25_3 := NDC.out
 have hms25_0 := NCA.out
 have hms25_1 := NCB.out
 have hms25_3 := NCD.out
 have hs26 : w24.cell? ⟨gC, 1, none⟩ = some (.int .i64 0) := (blk_cell KC.out 1).trans rfl
 have hfs26 := blk_frozen KC.out 1
 have hns26_0 := NAC.out
 have hns26_1 := NBC.out
 have hns26_3 := NDC.out
 have hms26_0 := NCA.out
 have hms26_1 := NCB.out
 have hms26_3 := NCD.out
 have hs27 : w24.cell? ⟨gC, 2, none⟩ = some (.int .i64 0) := (blk_cell KC.out 2).trans rfl
 have hfs27 := blk_frozen KC.out 2
 have hns27_0 := NAC.out
 have hns27_1 := NBC.out
 have hns27_3 := NDC.out
 have hms27_0 := NCA.out
 have hms27_1 := NCB.out
 have hms27_3 := NCD.out
 have hs28 : w24.cell? ⟨gC, 3, none⟩ = some (.int .i64 0) := (blk_cell KC.out 3).trans rfl
 have hfs28 := blk_frozen KC.out 3
 have hns28_0 := NAC.out
 have hns28_1 := NBC.out
 have hns28_3 := NDC.out
 have hms28_0 := NCA.out
 have hms28_1 := NCB.out
 have hms28_3 := NCD.out
 refine skip_ (w1 := ?_) (by rfl) rfl ?_ ?_
 rotate_left
 ·go_simp
  rfl
 refine hK.out _ _ ⟨((cell_far (p := ⟨gC, _, none⟩) NBC.out _).trans (((cell_far (p := ⟨gC, _, none⟩) NBC.out _).trans (((cell_far (p := ⟨gC, _, none⟩) NBC.out _).trans (((cell_far (p := ⟨gC, _, none⟩) NBC.out _).trans (hHeld.1)))))))), ((cell_far (p := ⟨gC, _, none⟩) NBC.out _).trans (((cell_far (p := ⟨gC, _, none⟩) NBC.out _).trans (((cell_far (p := ⟨gC, _, none⟩) NBC.out _).trans (((cell_far (p := ⟨gC, _, none⟩) NBC.out _).trans (hHeld.2.1)))))))), ((cell_far (p := ⟨gC, _, none⟩) NBC.out _).trans (((cell_far (p := ⟨gC, _, none⟩) NBC.out _).trans (((cell_far (p := ⟨gC, _, none⟩) NBC.out _).trans (((cell_far (p := ⟨gC, _, none⟩) NBC.out _).trans (hHeld.2.2.1)))))))), ((cell_far (p := ⟨gC, _, none⟩) NBC.out _).trans (((cell_far (p := ⟨gC, _, none⟩) NBC.out _).trans (((cell_far (p := ⟨gC, _, none⟩) NBC.out _).trans (((cell_far (p := ⟨gC, _, none⟩) NBC.out _).trans (hHeld.2.2.2))))))))⟩ (fun hHeld => ?_)
 clear hK K
 refine one_ (i := 5) (N := none) #[true, true, true, true, true, true] rfl rfl (by kernel_rfl) (by decide) (fun K hK => ?_)
 have hs29 : w24.cell? ⟨gD, 0, none⟩ = some (.int .i64 0) := (blk_cell KD.out 0).trans rfl
 have hfs29 := blk_frozen KD.out 0
 have hns29_0 := NAD.out
 have hns29_1 := NBD.out
 have hns29_2 := NCD.out
 have hms29_0 := NDA.out
 have hms29_1 := NDB.out
 have hms29_2 := NDC.out
 have hs30 : w24.cell? ⟨gD, 1, none⟩ = some (.int .i64 0) := (blk_cell KD.out 1).trans rfl
 have hfs30 := blk_frozen KD.out 1
 have hns30_0 := NAD.out
 have hns30_1 := NBD.out
 have hns30_2 := NCD.out
 have hms30_0 := NDA.out
 have hms30_1 := NDB.out
 have hms30_2 := NDC.out
 have hs31 : w24.cell? ⟨gD, 2, none⟩ = some (.int .i64 0) := (blk_cell KD.out 2).trans rfl
 have hfs31 := blk_frozen KD.out 2
 have hns31_0 := NAD.out
 have hns31_1 := NBD.out
 have hns31_2 := NCD.out
 have hms31_0 := NDA.out
 have hms31_1 := NDB.out
 have hms31_2 := NDC.out
 have hs32 : w24.cell? ⟨gD, 3, none⟩ = some (.int .i64 0) := (blk_cell KD.out 3).trans rfl
 have hfs32 := blk_frozen KD.out 3
 have hns32_0 := NAD.out
 have hns32_1 := NBD.out
 have hns32_2 := NCD.out
 have hms32_0 := NDA.out
 have hms32_1 := NDB.out
 have hms32_2 := NDC.out
 refine skip_ (w1 := ?_) (by rfl) rfl ?_ ?_
 rotate_left
 ·go_simp
  rfl
 refine hK.out _ _ ⟨((cell_far (p := ⟨gD, _, none⟩) NBD.out _).trans (((cell_far (p := ⟨gD, _, none⟩) NBD.out _).trans (((cell_far (p := ⟨gD, _, none⟩) NBD.out _).trans (((cell_far (p := ⟨gD, _, none⟩) NBD.out _).trans (hHeld.1)))))))), ((cell_far (p := ⟨gD, _, none⟩) NBD.out _).trans (((cell_far (p := ⟨gD, _, none⟩) NBD.out _).trans (((cell_far (p := ⟨gD, _, none⟩) NBD.out _).trans (((cell_far (p := ⟨gD, _, none⟩) NBD.out _).trans (hHeld.2.1)))))))), ((cell_far (p := ⟨gD, _, none⟩) NBD.out _).trans (((cell_far (p := ⟨gD, _, none⟩) NBD.out _).trans (((cell_far (p := ⟨gD, _, none⟩) NBD.out _).trans (((cell_far (p := ⟨gD, _, none⟩) NBD.out _).trans (hHeld.2.2.1)))))))), ((cell_far (p := ⟨gD, _, none⟩) NBD.out _).trans (((cell_far (p := ⟨gD, _, none⟩) NBD.out _).trans (((cell_far (p := ⟨gD, _, none⟩) NBD.out _).trans (((cell_far (p := ⟨gD, _, none⟩) NBD.out _).trans (hHeld.2.2.2))))))))⟩ (fun hHeld => ?_)
 clear hK K
 refine done_ (by kernel_rfl) ?_
 have hnb33 := NCA.out
 have hnc33 := NAC.out
 have hnb34 := NCB.out
 have hnc34 := NBC.out
 have hnb35 := NCD.out
 have hnc35 := NDC.out
 have hcz36_0 : w24.cell? ⟨gC, 0, none⟩ = some (.int .i64 0) := (blk_cell KC.out 0).trans rfl
 have hcz36_1 : w24.cell? ⟨gC, 1, none⟩ = some (.int .i64 0) := (blk_cell KC.out 1).trans rfl
 have hcz36_2 : w24.cell? ⟨gC, 2, none⟩ = some (.int .i64 0) := (blk_cell KC.out 2).trans rfl
 have hcz36_3 : w24.cell? ⟨gC, 3, none⟩ = some (.int .i64 0) := (blk_cell KC.out 3).trans rfl
 have hfz36_0 := blk_frozen KC.out 0
 have hfz36_1 := blk_frozen KC.out 1
 have hfz36_2 := blk_frozen KC.out 2
 have hfz36_3 := blk_frozen KC.out 3
 have hnb37 := NDA.out
 have hnc37 := NAD.out
 have hnb38 := NDB.out
 have hnc38 := NBD.out
 have hcz39_0 : w24.cell? ⟨gD, 0, none⟩ = some (.int .i64 0) := (blk_cell KD.out 0).trans rfl
 have hcz39_1 : w24.cell? ⟨gD, 1, none⟩ = some (.int .i64 0) := (blk_cell KD.out 1).trans rfl
 have hcz39_2 : w24.cell? ⟨gD, 2, none⟩ = some (.int .i64 0) := (blk_cell KD.out 2).trans rfl
 have hcz39_3 : w24.cell? ⟨gD, 3, none⟩ = some (.int .i64 0) := (blk_cell KD.out 3).trans rfl
 have hfz39_0 := blk_frozen KD.out 0
 have hfz39_1 := blk_frozen KD.out 1
 have hfz39_2 := blk_frozen KD.out 2
 have hfz39_3 := blk_frozen KD.out 3
 go_upto_region 4 with (fail)
 go_cut [32] (fun v32 wc => ∃ (kq : Nat) (x32_5 : Bool), v32 = .bool x32_5 ∧ Aside0 (imageeditorlaw10_BlendClears.j0 kq a0 x32_5 t564 t565 t566 t567 t568 t569 t570 t571 t568 t569 t570 65535 = some r) ∧ Aside0 (kq ≤ k) ∧ Aside0 (wc.heap[gA]? = some (.cells #[.int .i64 t564, .int .i64 t565, .int .i64 t566, .int .i64 t567] 32 (0, 0))) ∧ Aside0 (wc.heap[gB]? = some (.cells #[.int .i64 t568, .int .i64 t569, .int .i64 t570, .int .i64 t571] 32 (0, 0))) ∧ Aside0 (wc.heap[gC]? = some (.cells #[.int .i64 t568, .int .i64 t569, .int .i64 t570, .int .i64 0] 32 (0, 0))) ∧ Aside0 (wc.heap[gD]? = some (.cells #[.int .i64 t568, .int .i64 t569, .int .i64 t570, .int .i64 65535] 32 (0, 0))) ∧ Aside0 (Below w.heap.size w wc))
 case first =>
  have H := HC6.out
  clear HC6
  by_cases c40 : t567 > 0
  ·rw [if_pos c40] at H
   have c40b0 : decide (0 < t567) = true := decide_eq_true c40
   clear c40
   (first | rw [c40b0] | (simp only [i64_w, i32_w]; rw [c40b0]) | skip)
   replace H := Option.bind_eq_some_iff.mp H
   obtain ⟨⟨t574, t575, t576, t577⟩, A410, H⟩ := H
   replace H : (imageeditorlaw10_BlendClears.j0 k a0 (!(t574 == t564) || (!(t575 == t565) || (!(t576 == t566) || (!(t577 == t567))))) t564 t565 t566 t567 t568 t569 t570 t571 t568 t569 t570 65535) = some r := H
   have A41 := Aside0.mk A410
   clear A410
   have H' := Aside0.mk H
   clear H
   try go_wp2
   have n0_ : Aside0 (((((((((((w24.setCell ⟨gC, 0, none⟩ (.int .i64 t568)).setCell ⟨gC, 1, none⟩ (.int .i64 t569)).setCell ⟨gC, 2, none⟩ (.int .i64 t570)).setCell ⟨gC, 3, none⟩ (.int .i64 t571)).setCell ⟨gD, 0, none⟩ (.int .i64 t568)).setCell ⟨gD, 1, none⟩ (.int .i64 t569)).setCell ⟨gD, 2, none⟩ (.int .i64 t570)).setCell ⟨gD, 3, none⟩ (.int .i64 t571)).setCell ⟨gC, 3, none⟩ (.int .i64 0)).setCell ⟨gD, 3, none⟩ (.int .i64 65535)).heap[gA]? = some (.cells #[.int .i64 t564, .int .i64 t565, .int .i64 t566, .int .i64 t567] 32 (0, 0))) := ⟨by (with_reducible repeat (first | refine blk_drewN ?_ _ | refine blk_drew ?_ | refine blk_alloc ?_ _)); refine blk_far ?_ NAD.out _; (with_reducible repeat (first | refine blk_drewN ?_ _ | refine blk_drew ?_ | refine blk_alloc ?_ _)); refine blk_far ?_ NAC.out _; (with_reducible repeat (first | refine blk_drewN ?_ _ | refine blk_drew ?_ | refine blk_alloc ?_ _)); refine blk_far ?_ NAD.out _; (with_reducible repeat (first | refine blk_drewN ?_ _ | refine blk_drew ?_ | refine blk_alloc ?_ _)); refine blk_far ?_ NAD.out _; (with_reducible repeat (first | refine blk_drewN ?_ _ | refine blk_drew ?_ | refine blk_alloc ?_ _)); refine blk_far ?_ NAD.out _; (with_reducible repeat (first | refine blk_drewN ?_ _ | refine blk_drew ?_ | refine blk_alloc ?_ _)); refine blk_far ?_ NAD.out _; (with_reducible repeat (first | refine blk_drewN ?_ _ | refine blk_drew ?_ | refine blk_alloc ?_ _)); refine blk_far ?_ NAC.out _; (with_reducible repeat (first | refine blk_drewN ?_ _ | refine blk_drew ?_ | refine blk_alloc ?_ _)); refine blk_far ?_ NAC.out _; (with_reducible repeat (first | refine blk_drewN ?_ _ | refine blk_drew ?_ | refine blk_alloc ?_ _)); refine blk_far ?_ NAC.out _; (with_reducible repeat (first | refine blk_drewN ?_ _ | refine blk_drew ?_ | refine blk_alloc ?_ _)); refine blk_far ?_ NAC.out _; (with_reducible repeat (first | refine blk_drewN ?_ _ | refine blk_drew ?_ | refine blk_alloc ?_ _)); exact KA.out⟩
   have n1_ : Aside0 (((((((((((w24.setCell ⟨gC, 0, none⟩ (.int .i64 t568)).setCell ⟨gC, 1, none⟩ (.int .i64 t569)).setCell ⟨gC, 2, none⟩ (.int .i64 t570)).setCell ⟨gC, 3, none⟩ (.int .i64 t571)).setCell ⟨gD, 0, none⟩ (.int .i64 t568)).setCell ⟨gD, 1, none⟩ (.int .i64 t569)).setCell ⟨gD, 2, none⟩ (.int .i64 t570)).setCell ⟨gD, 3, none⟩ (.int .i64 t571)).setCell ⟨gC, 3, none⟩ (.int .i64 0)).setCell ⟨gD, 3, none⟩ (.int .i64 65535)).heap[gB]? = some (.cells #[.int .i64 t568, .int .i64 t569, .int .i64 t570, .int .i64 t571] 32 (0, 0))) := ⟨by (with_reducible repeat (first | refine blk_drewN ?_ _ | refine blk_drew ?_ | refine blk_alloc ?_ _)); refine blk_far ?_ NBD.out _; (with_reducible repeat (first | refine blk_drewN ?_ _ | refine blk_drew ?_ | refine blk_alloc ?_ _)); refine blk_far ?_ NBC.out _; (with_reducible repeat (first | refine blk_drewN ?_ _ | refine blk_drew ?_ | refine blk_alloc ?_ _)); refine blk_far ?_ NBD.out _; (with_reducible repeat (first | refine blk_drewN ?_ _ | refine blk_drew ?_ | refine blk_alloc ?_ _)); refine blk_far ?_ NBD.out _; (with_reducible repeat (first | refine blk_drewN ?_ _ | refine blk_drew ?_ | refine blk_alloc ?_ _)); refine blk_far ?_ NBD.out _; (with_reducible repeat (first | refine blk_drewN ?_ _ | refine blk_drew ?_ | refine blk_alloc ?_ _)); refine blk_far ?_ NBD.out _; (with_reducible repeat (first | refine blk_drewN ?_ _ | refine blk_drew ?_ | refine blk_alloc ?_ _)); refine blk_far ?_ NBC.out _; (with_reducible repeat (first | refine blk_drewN ?_ _ | refine blk_drew ?_ | refine blk_alloc ?_ _)); refine blk_far ?_ NBC.out _; (with_reducible repeat (first | refine blk_drewN ?_ _ | refine blk_drew ?_ | refine blk_alloc ?_ _)); refine blk_far ?_ NBC.out _; (with_reducible repeat (first | refine blk_drewN ?_ _ | refine blk_drew ?_ | refine blk_alloc ?_ _)); refine blk_far ?_ NBC.out _; (with_reducible repeat (first | refine blk_drewN ?_ _ | refine blk_drew ?_ | refine blk_alloc ?_ _)); exact KB.out⟩
   have n2_ : Aside0 (((((((((((w24.setCell ⟨gC, 0, none⟩ (.int .i64 t568)).setCell ⟨gC, 1, none⟩ (.int .i64 t569)).setCell ⟨gC, 2, none⟩ (.int .i64 t570)).setCell ⟨gC, 3, none⟩ (.int .i64 t571)).setCell ⟨gD, 0, none⟩ (.int .i64 t568)).setCell ⟨gD, 1, none⟩ (.int .i64 t569)).setCell ⟨gD, 2, none⟩ (.int .i64 t570)).setCell ⟨gD, 3, none⟩ (.int .i64 t571)).setCell ⟨gC, 3, none⟩ (.int .i64 0)).setCell ⟨gD, 3, none⟩ (.int .i64 65535)).heap[gC]? = some (.cells #[.int .i64 t568, .int .i64 t569, .int .i64 t570, .int .i64 0] 32 (0, 0))) := ⟨by (with_reducible repeat (first | refine blk_drewN ?_ _ | refine blk_drew ?_ | refine blk_alloc ?_ _)); refine blk_far ?_ NCD.out _; (with_reducible repeat (first | refine blk_drewN ?_ _ | refine blk_drew ?_ | refine blk_alloc ?_ _)); refine blk_put (cs := #[.int .i64 t568, .int .i64 t569, .int .i64 t570, .int .i64 t571]) ?_ 3 _ rfl; (with_reducible repeat (first | refine blk_drewN ?_ _ | refine blk_drew ?_ | refine blk_alloc ?_ _)); refine blk_far ?_ NCD.out _; (with_reducible repeat (first | refine blk_drewN ?_ _ | refine blk_drew ?_ | refine blk_alloc ?_ _)); refine blk_far ?_ NCD.out _; (with_reducible repeat (first | refine blk_drewN ?_ _ | refine blk_drew ?_ | refine blk_alloc ?_ _)); refine blk_far ?_ NCD.out _; (with_reducible repeat (first | refine blk_drewN ?_ _ | refine blk_drew ?_ | refine blk_alloc ?_ _)); refine blk_far ?_ NCD.out _; (with_reducible repeat (first | refine blk_drewN ?_ _ | refine blk_drew ?_ | refine blk_alloc ?_ _)); refine blk_put (cs := #[.int .i64 t568, .int .i64 t569, .int .i64 t570, .int .i64 0]) ?_ 3 _ rfl; (with_reducible repeat (first | refine blk_drewN ?_ _ | refine blk_drew ?_ | refine blk_alloc ?_ _)); refine blk_put (cs := #[.int .i64 t568, .int .i64 t569, .int .i64 0, .int .i64 0]) ?_ 2 _ rfl; (with_reducible repeat (first | refine blk_drewN ?_ _ | refine blk_drew ?_ | refine blk_alloc ?_ _)); refine blk_put (cs := #[.int .i64 t568, .int .i64 0, .int .i64 0, .int .i64 0]) ?_ 1 _ rfl; (with_reducible repeat (first | refine blk_drewN ?_ _ | refine blk_drew ?_ | refine blk_alloc ?_ _)); refine blk_put (cs := #[.int .i64 0, .int .i64 0, .int .i64 0, .int .i64 0]) ?_ 0 _ rfl; (with_reducible repeat (first | refine blk_drewN ?_ _ | refine blk_drew ?_ | refine blk_alloc ?_ _)); exact KC.out⟩
   have n3_ : Aside0 (((((((((((w24.setCell ⟨gC, 0, none⟩ (.int .i64 t568)).setCell ⟨gC, 1, none⟩ (.int .i64 t569)).setCell ⟨gC, 2, none⟩ (.int .i64 t570)).setCell ⟨gC, 3, none⟩ (.int .i64 t571)).setCell ⟨gD, 0, none⟩ (.int .i64 t568)).setCell ⟨gD, 1, none⟩ (.int .i64 t569)).setCell ⟨gD, 2, none⟩ (.int .i64 t570)).setCell ⟨gD, 3, none⟩ (.int .i64 t571)).setCell ⟨gC, 3, none⟩ (.int .i64 0)).setCell ⟨gD, 3, none⟩ (.int .i64 65535)).heap[gD]? = some (.cells #[.int .i64 t568, .int .i64 t569, .int .i64 t570, .int .i64 65535] 32 (0, 0))) := ⟨by (with_reducible repeat (first | refine blk_drewN ?_ _ | refine blk_drew ?_ | refine blk_alloc ?_ _)); refine blk_put (cs := #[.int .i64 t568, .int .i64 t569, .int .i64 t570, .int .i64 t571]) ?_ 3 _ rfl; (with_reducible repeat (first | refine blk_drewN ?_ _ | refine blk_drew ?_ | refine blk_alloc ?_ _)); refine blk_far ?_ NDC.out _; (with_reducible repeat (first | refine blk_drewN ?_ _ | refine blk_drew ?_ | refine blk_alloc ?_ _)); refine blk_put (cs := #[.int .i64 t568, .int .i64 t569, .int .i64 t570, .int .i64 0]) ?_ 3 _ rfl; (with_reducible repeat (first | refine blk_drewN ?_ _ | refine blk_drew ?_ | refine blk_alloc ?_ _)); refine blk_put (cs := #[.int .i64 t568, .int .i64 t569, .int .i64 0, .int .i64 0]) ?_ 2 _ rfl; (with_reducible repeat (first | refine blk_drewN ?_ _ | refine blk_drew ?_ | refine blk_alloc ?_ _)); refine blk_put (cs := #[.int .i64 t568, .int .i64 0, .int .i64 0, .int .i64 0]) ?_ 1 _ rfl; (with_reducible repeat (first | refine blk_drewN ?_ _ | refine blk_drew ?_ | refine blk_alloc ?_ _)); refine blk_put (cs := #[.int .i64 0, .int .i64 0, .int .i64 0, .int .i64 0]) ?_ 0 _ rfl; (with_reducible repeat (first | refine blk_drewN ?_ _ | refine blk_drew ?_ | refine blk_alloc ?_ _)); refine blk_far ?_ NDC.out _; (with_reducible repeat (first | refine blk_drewN ?_ _ | refine blk_drew ?_ | refine blk_alloc ?_ _)); refine blk_far ?_ NDC.out _; (with_reducible repeat (first | refine blk_drewN ?_ _ | refine blk_drew ?_ | refine blk_alloc ?_ _)); refine blk_far ?_ NDC.out _; (with_reducible repeat (first | refine blk_drewN ?_ _ | refine blk_drew ?_ | refine blk_alloc ?_ _)); refine blk_far ?_ NDC.out _; (with_reducible repeat (first | refine blk_drewN ?_ _ | refine blk_drew ?_ | refine blk_alloc ?_ _)); exact KD.out⟩
   have n4_ : Aside0 (Below w.heap.size w ((((((((((w24.setCell ⟨gC, 0, none⟩ (.int .i64 t568)).setCell ⟨gC, 1, none⟩ (.int .i64 t569)).setCell ⟨gC, 2, none⟩ (.int .i64 t570)).setCell ⟨gC, 3, none⟩ (.int .i64 t571)).setCell ⟨gD, 0, none⟩ (.int .i64 t568)).setCell ⟨gD, 1, none⟩ (.int .i64 t569)).setCell ⟨gD, 2, none⟩ (.int .i64 t570)).setCell ⟨gD, 3, none⟩ (.int .i64 t571)).setCell ⟨gC, 3, none⟩ (.int .i64 0)).setCell ⟨gD, 3, none⟩ (.int .i64 65535))) := ⟨by repeat (first | (with_reducible first | exact HB.out | apply below_alloc | apply pw_below_drewN | apply below_drew1 | refine below_set ?_ GEA.out | refine below_set ?_ GEB.out | refine below_set ?_ GEC.out | refine below_set ?_ GED.out) | exact HB.out)⟩
   (try clear KA)
   (try clear KB)
   (try clear KC)
   (try clear KD)
   (try clear HB)
   generalize ((((((((((w24.setCell ⟨gC, 0, none⟩ (.int .i64 t568)).setCell ⟨gC, 1, none⟩ (.int .i64 t569)).setCell ⟨gC, 2, none⟩ (.int .i64 t570)).setCell ⟨gC, 3, none⟩ (.int .i64 t571)).setCell ⟨gD, 0, none⟩ (.int .i64 t568)).setCell ⟨gD, 1, none⟩ (.int .i64 t569)).setCell ⟨gD, 2, none⟩ (.int .i64 t570)).setCell ⟨gD, 3, none⟩ (.int .i64 t571)).setCell ⟨gC, 3, none⟩ (.int .i64 0)).setCell ⟨gD, 3, none⟩ (.int .i64 65535)) = w42 at n0_ n1_ n2_ n3_ n4_ ⊢
   have KA := n0_
   have KB := n1_
   have KC := n2_
   have KD := n3_
   have HB := n4_
   clear n0_ n1_ n2_ n3_ n4_
   replace KA := Aside0.mk (blk_drew KA.out)
   replace KB := Aside0.mk (blk_drew KB.out)
   replace KC := Aside0.mk (blk_drew KC.out)
   replace KD := Aside0.mk (blk_drew KD.out)
   replace HB := Aside0.mk (below_drew1 HB.out)
   refine start_ (n := 16) (S := fun w' => w'.cell? ⟨gA, 0, none⟩ = some (.int .i64 t564) ∧ w'.cell? ⟨gA, 1, none⟩ = some (.int .i64 t565) ∧ w'.cell? ⟨gA, 2, none⟩ = some (.int .i64 t566) ∧ w'.cell? ⟨gA, 3, none⟩ = some (.int .i64 t567) ∧ w'.cell? ⟨gC, 0, none⟩ = some (.int .i64 t568) ∧ w'.cell? ⟨gC, 1, none⟩ = some (.int .i64 t569) ∧ w'.cell? ⟨gC, 2, none⟩ = some (.int .i64 t570) ∧ w'.cell? ⟨gC, 3, none⟩ = some (.int .i64 0)) (ds := []) #[false, false, false, false, false, false, false, false, false, false, false, false, false, false, false, false] (by kernel_rfl) rfl rfl ⟨(blk_cell KA.out 0).trans rfl, (blk_cell KA.out 1).trans rfl, (blk_cell KA.out 2).trans rfl, (blk_cell KA.out 3).trans rfl, (blk_cell KC.out 0).trans rfl, (blk_cell KC.out 1).trans rfl, (blk_cell KC.out 2).trans rfl, (blk_cell KC.out 3).trans rfl⟩ (fun hHeld => ?_); refine with_tabW imageeditorlaw10_BlendClears.tab4 imageeditorlaw10_BlendClears.bits4 (fun HT_ HW_ => ?_)
   generalize w42.drew = w43 at KA KB KC KD HB hHeld ⊢
   refine pure_ (i := 0) (N := some 17) (v := ?_) (a' := ?_) #[true, false, false, false, false, false, false, false, false, false, false, false, false, false, false, false] rfl rfl (any_of HT_.out (by kernel_rfl)) (fun _ _ _ h => h) (Or.inl ⟨by rfl, ?_⟩) ?_ ?_
   rotate_left
   ·intro w'
    go_simp
    with_reducible rfl
   rotate_left
   ·simp only [Act.put, List.setIfInBounds_toArray, List.set_cons_zero, List.set_cons_succ, i64_w, i32_w]
    rfl
   refine take_ (i := 1) (N := some 18) (v := ?_) (a' := ?_) #[true, true, false, false, false, false, false, false, false, false, false, false, false, false, false, false] rfl rfl (take_ofW HT_.out HW_.out (by kernel_rfl)) (fun _ _ _ h => h) (Or.inl ⟨by rfl, ?_⟩) hHeld ?_ ?_
   rotate_left
   ·rintro w' ⟨s0, s1, s2, s3, s4, s5, s6, s7⟩
    go_simp
    with_reducible rfl
   rotate_left
   ·simp only [Act.put, List.setIfInBounds_toArray, List.set_cons_zero, List.set_cons_succ, i64_w, i32_w]
    rfl
   refine pure_ (i := 2) (N := some 19) (v := ?_) (a' := ?_) #[true, true, true, false, false, false, false, false, false, false, false, false, false, false, false, false] rfl rfl (any_of HT_.out (by kernel_rfl)) (fun _ _ _ h => h) (Or.inl ⟨by rfl, ?_⟩) ?_ ?_
   rotate_left
   ·intro w'
    go_simp
    with_reducible rfl
   rotate_left
   ·simp only [Act.put, List.setIfInBounds_toArray, List.set_cons_zero, List.set_cons_succ, i64_w, i32_w]
    rfl
   refine pure_ (i := 3) (N := some 20) (v := ?_) (a' := ?_) #[true, true, true, true, false, false, false, false, false, false, false, false, false, false, false, false] rfl rfl (any_of HT_.out (by kernel_rfl)) (fun _ _ _ h => h) (Or.inl ⟨by rfl, ?_⟩) ?_ ?_
   rotate_left
   ·intro w'
    go_simp
    with_reducible rfl
   rotate_left
   ·simp only [Act.put, List.setIfInBounds_toArray, List.set_cons_zero, List.set_cons_succ, i64_w, i32_w]
    rfl
   refine pure_ (i := 4) (N := some 21) (v := undef) (a' := ?_) #[true, true, true, true, true, false, false, false, false, false, false, false, false, false, false, false] rfl rfl (any_of HT_.out (by kernel_rfl)) (fun _ _ _ h => h) (Or.inr ⟨by rfl, rfl⟩) ?_ ?_
   rotate_left
   ·simp only [Act.put, List.setIfInBounds_toArray, List.set_cons_zero, List.set_cons_succ, i64_w, i32_w]
    rfl
   refine pure_ (i := 5) (N := some 22) (v := undef) (a' := ?_) #[true, true, true, true, true, true, false, false, false, false, false, false, false, false, false, false] rfl rfl (any_of HT_.out (by kernel_rfl)) (fun _ _ _ h => h) (Or.inr ⟨by rfl, rfl⟩) ?_ ?_
   rotate_left
   ·simp only [Act.put, List.setIfInBounds_toArray, List.set_cons_zero, List.set_cons_succ, i64_w, i32_w]
    rfl
   refine pure_ (i := 6) (N := some 23) (v := undef) (a' := ?_) #[true, true, true, true, true, true, true, false, false, false, false, false, false, false, false, false] rfl rfl (any_of HT_.out (by kernel_rfl)) (fun _ _ _ h => h) (Or.inr ⟨by rfl, rfl⟩) ?_ ?_
   rotate_left
   ·simp only [Act.put, List.setIfInBounds_toArray, List.set_cons_zero, List.set_cons_succ, i64_w, i32_w]
    rfl
   refine pure_ (i := 7) (N := some 24) (v := ?_) (a' := ?_) #[true, true, true, true, true, true, true, true, false, false, false, false, false, false, false, false] rfl rfl (any_of HT_.out (by kernel_rfl)) (fun _ _ _ h => h) (Or.inl ⟨by rfl, ?_⟩) ?_ ?_
   rotate_left
   ·intro w'
    go_simp
    with_reducible rfl
   rotate_left
   ·simp only [Act.put, List.setIfInBounds_toArray, List.set_cons_zero, List.set_cons_succ, i64_w, i32_w]
    rfl
   refine pure_ (i := 8) (N := some 25) (v := ?_) (a' := ?_) #[true, true, true, true, true, true, true, true, true, false, false, false, false, false, false, false] rfl rfl (any_of HT_.out (by kernel_rfl)) (fun _ _ _ h => h) (Or.inl ⟨by rfl, ?_⟩) ?_ ?_
   rotate_left
   ·intro w'
    go_simp
    with_reducible rfl
   rotate_left
   ·simp only [Act.put, List.setIfInBounds_toArray, List.set_cons_zero, List.set_cons_succ, i64_w, i32_w]
    rfl
   refine pure_ (i := 9) (N := some 26) (v := ?_) (a' := ?_) #[true, true, true, true, true, true, true, true, true, true, false, false, false, false, false, false] rfl rfl (any_of HT_.out (by kernel_rfl)) (fun _ _ _ h => h) (Or.inl ⟨by rfl, ?_⟩) ?_ ?_
   rotate_left
   ·intro w'
    go_simp
    with_reducible rfl
   rotate_left
   ·simp only [Act.put, List.setIfInBounds_toArray, List.set_cons_zero, List.set_cons_succ, i64_w, i32_w]
    rfl
   refine take_ (i := 10) (N := some 27) (v := ?_) (a' := ?_) #[true, true, true, true, true, true, true, true, true, true, true, false, false, false, false, false] rfl rfl (take_ofW HT_.out HW_.out (by kernel_rfl)) (fun _ _ _ h => h) (Or.inl ⟨by rfl, ?_⟩) hHeld ?_ ?_
   rotate_left
   ·rintro w' ⟨s0, s1, s2, s3, s4, s5, s6, s7⟩
    go_simp
    with_reducible rfl
   rotate_left
   ·simp only [Act.put, List.setIfInBounds_toArray, List.set_cons_zero, List.set_cons_succ, i64_w, i32_w]
    rfl
   refine take_ (i := 11) (N := some 28) (v := ?_) (a' := ?_) #[true, true, true, true, true, true, true, true, true, true, true, true, false, false, false, false] rfl rfl (take_ofW HT_.out HW_.out (by kernel_rfl)) (fun _ _ _ h => h) (Or.inl ⟨by rfl, ?_⟩) hHeld ?_ ?_
   rotate_left
   ·rintro w' ⟨s0, s1, s2, s3, s4, s5, s6, s7⟩
    go_simp
    with_reducible rfl
   rotate_left
   ·simp only [Act.put, List.setIfInBounds_toArray, List.set_cons_zero, List.set_cons_succ, i64_w, i32_w]
    rfl
   refine take_ (i := 13) (N := some 30) (v := ?_) (a' := ?_) #[true, true, true, true, true, true, true, true, true, true, true, true, false, true, false, false] rfl rfl (take_ofW HT_.out HW_.out (by kernel_rfl)) (fun _ _ _ h => h) (Or.inl ⟨by rfl, ?_⟩) hHeld ?_ ?_
   rotate_left
   ·rintro w' ⟨s0, s1, s2, s3, s4, s5, s6, s7⟩
    go_simp
    with_reducible rfl
   rotate_left
   ·simp only [Act.put, List.setIfInBounds_toArray, List.set_cons_zero, List.set_cons_succ, i64_w, i32_w]
    rfl
   refine one_ (i := 12) (N := some 29) #[true, true, true, true, true, true, true, true, true, true, true, true, true, true, false, false] rfl rfl (one_of HT_.out (by kernel_rfl)) (by decide) (fun K hK => ?_)
   refine goes_ Try.func14 (by kernel_rfl) rfl #[.int .i64 a0, .agg #[.int .i64 t564, .int .i64 t565, .int .i64 t566, .int .i64 t567], .agg #[.int .i64 t568, .int .i64 t569, .int .i64 t570, .int .i64 0]] (by rfl) rfl rfl (by (try simp only [List.map_toArray, List.map_cons, List.map_nil]); first | done | rfl | (simp only [List.length_drop, List.length_take]; rfl)) ?_
   with_reducible refine (blend_Over.calls k a0 t564 t565 t566 t567 t568 t569 t570 0 t574 t575 t576 t577 _ A41.out).mono ?_
   rintro e w44 ⟨rfl, hb⟩
   refine ⟨_, rfl, ?_⟩
   replace KA := bb_ KA hb
   replace KB := bb_ KB hb
   replace KC := bb_ KC hb
   replace KD := bb_ KD hb
   replace HB := Aside0.mk (below_step HB.out hb)
   try clear hb
   refine hK.out _ _ ⟨(blk_cell KA.out 0).trans rfl, (blk_cell KA.out 1).trans rfl, (blk_cell KA.out 2).trans rfl, (blk_cell KA.out 3).trans rfl, (blk_cell KC.out 0).trans rfl, (blk_cell KC.out 1).trans rfl, (blk_cell KC.out 2).trans rfl, (blk_cell KC.out 3).trans rfl⟩ (fun hHeld => ?_)
   clear hK K
   refine norm_ (a' := ?_) ?_ ?_
   rotate_left
   ·show Act.put _ (some 29) _ = _
    simp only [Act.put, List.setIfInBounds_toArray, List.set_cons_zero, List.set_cons_succ, i64_w, i32_w]
    rfl
   refine pure_ (i := 14) (N := some 31) (v := ?_) (a' := ?_) #[true, true, true, true, true, true, true, true, true, true, true, true, true, true, true, false] rfl rfl (any_of HT_.out (by kernel_rfl)) (fun _ _ _ h => h) (Or.inl ⟨by rfl, ?_⟩) ?_ ?_
   rotate_left
   ·intro w'
    go_simp
    with_reducible rfl
   rotate_left
   ·simp only [Act.put, List.setIfInBounds_toArray, List.set_cons_zero, List.set_cons_succ, i64_w, i32_w]
    rfl
   refine pure_ (i := 15) (N := some 32) (v := ?_) (a' := ?_) #[true, true, true, true, true, true, true, true, true, true, true, true, true, true, true, true] rfl rfl (any_of HT_.out (by kernel_rfl)) (fun _ _ _ h => h) (Or.inl ⟨by rfl, ?_⟩) ?_ ?_
   rotate_left
   ·intro w'
    go_simp
    with_reducible rfl
   rotate_left
   ·simp only [Act.put, List.setIfInBounds_toArray, List.set_cons_zero, List.set_cons_succ, i64_w, i32_w]
    rfl
   refine done_ (done_of HT_.out (by kernel_rfl)) ?_
   try go_wp2
   go_meet
   case rel => exact ⟨_, ((!(t574 == t564) || (!(t575 == t565) || (!(t576 == t566) || (!(t577 == t567)))))), (by first | rfl | (simp; done) | (simp [*]; done)), H', ⟨by first | omega | exact Nat.le_refl _⟩, ⟨by (with_reducible repeat (first | refine blk_drewN ?_ _ | refine blk_drew ?_ | refine blk_alloc ?_ _)); exact KA.out⟩, ⟨by (with_reducible repeat (first | refine blk_drewN ?_ _ | refine blk_drew ?_ | refine blk_alloc ?_ _)); exact KB.out⟩, ⟨by (with_reducible repeat (first | refine blk_drewN ?_ _ | refine blk_drew ?_ | refine blk_alloc ?_ _)); exact KC.out⟩, ⟨by (with_reducible repeat (first | refine blk_drewN ?_ _ | refine blk_drew ?_ | refine blk_alloc ?_ _)); exact KD.out⟩, ⟨by repeat (first | (with_reducible first | exact HB.out | apply below_alloc | apply pw_below_drewN | apply below_drew1 | refine below_set ?_ GEA.out | refine below_set ?_ GEB.out | refine below_set ?_ GEC.out | refine below_set ?_ GED.out) | exact HB.out)⟩⟩
  ·rw [if_neg c40] at H
   have c40b0 : decide (0 < t567) = false := decide_eq_false c40
   clear c40
   (first | rw [c40b0] | (simp only [i64_w, i32_w]; rw [c40b0]) | skip)
   by_cases c45 : (t564 == 0 && (t565 == 0 && (t566 == 0 && (t567 == 0)))) = true
   ·rw [if_pos c45] at H
    have c45b0 : (t564 == 0 && (t565 == 0 && (t566 == 0 && (t567 == 0)))) = true := c45
    (try (have c45b1 : decide (t564 = 0 && (t565 == 0 && (t566 == 0 && (t567 == 0)))) = true := by simpa using c45))
    (try (have c45b2 : (t564 == 0 && (t565 == 0 && (t566 == 0 && (t567 == 0)))) = true := by simpa using c45))
    clear c45
    replace H := Option.bind_eq_some_iff.mp H
    obtain ⟨⟨t578, t579, t580, t581⟩, A460, H⟩ := H
    replace H : (imageeditorlaw10_BlendClears.j0 k a0 (!(t578 == t564) || (!(t579 == t565) || (!(t580 == t566) || (!(t581 == t567))))) t564 t565 t566 t567 t568 t569 t570 t571 t568 t569 t570 65535) = some r := H
    have A46 := Aside0.mk A460
    clear A460
    have H' := Aside0.mk H
    clear H
    try go_wp2
    have n0_ : Aside0 (((((((((((w24.setCell ⟨gC, 0, none⟩ (.int .i64 t568)).setCell ⟨gC, 1, none⟩ (.int .i64 t569)).setCell ⟨gC, 2, none⟩ (.int .i64 t570)).setCell ⟨gC, 3, none⟩ (.int .i64 t571)).setCell ⟨gD, 0, none⟩ (.int .i64 t568)).setCell ⟨gD, 1, none⟩ (.int .i64 t569)).setCell ⟨gD, 2, none⟩ (.int .i64 t570)).setCell ⟨gD, 3, none⟩ (.int .i64 t571)).setCell ⟨gC, 3, none⟩ (.int .i64 0)).setCell ⟨gD, 3, none⟩ (.int .i64 65535)).heap[gA]? = some (.cells #[.int .i64 t564, .int .i64 t565, .int .i64 t566, .int .i64 t567] 32 (0, 0))) := ⟨by (with_reducible repeat (first | refine blk_drewN ?_ _ | refine blk_drew ?_ | refine blk_alloc ?_ _)); refine blk_far ?_ NAD.out _; (with_reducible repeat (first | refine blk_drewN ?_ _ | refine blk_drew ?_ | refine blk_alloc ?_ _)); refine blk_far ?_ NAC.out _; (with_reducible repeat (first | refine blk_drewN ?_ _ | refine blk_drew ?_ | refine blk_alloc ?_ _)); refine blk_far ?_ NAD.out _; (with_reducible repeat (first | refine blk_drewN ?_ _ | refine blk_drew ?_ | refine blk_alloc ?_ _)); refine blk_far ?_ NAD.out _; (with_reducible repeat (first | refine blk_drewN ?_ _ | refine blk_drew ?_ | refine blk_alloc ?_ _)); refine blk_far ?_ NAD.out _; (with_reducible repeat (first | refine blk_drewN ?_ _ | refine blk_drew ?_ | refine blk_alloc ?_ _)); refine blk_far ?_ NAD.out _; (with_reducible repeat (first | refine blk_drewN ?_ _ | refine blk_drew ?_ | refine blk_alloc ?_ _)); refine blk_far ?_ NAC.out _; (with_reducible repeat (first | refine blk_drewN ?_ _ | refine blk_drew ?_ | refine blk_alloc ?_ _)); refine blk_far ?_ NAC.out _; (with_reducible repeat (first | refine blk_drewN ?_ _ | refine blk_drew ?_ | refine blk_alloc ?_ _)); refine blk_far ?_ NAC.out _; (with_reducible repeat (first | refine blk_drewN ?_ _ | refine blk_drew ?_ | refine blk_alloc ?_ _)); refine blk_far ?_ NAC.out _; (with_reducible repeat (first | refine blk_drewN ?_ _ | refine blk_drew ?_ | refine blk_alloc ?_ _)); exact KA.out⟩
    have n1_ : Aside0 (((((((((((w24.setCell ⟨gC, 0, none⟩ (.int .i64 t568)).setCell ⟨gC, 1, none⟩ (.int .i64 t569)).setCell ⟨gC, 2, none⟩ (.int .i64 t570)).setCell ⟨gC, 3, none⟩ (.int .i64 t571)).setCell ⟨gD, 0, none⟩ (.int .i64 t568)).setCell ⟨gD, 1, none⟩ (.int .i64 t569)).setCell ⟨gD, 2, none⟩ (.int .i64 t570)).setCell ⟨gD, 3, none⟩ (.int .i64 t571)).setCell ⟨gC, 3, none⟩ (.int .i64 0)).setCell ⟨gD, 3, none⟩ (.int .i64 65535)).heap[gB]? = some (.cells #[.int .i64 t568, .int .i64 t569, .int .i64 t570, .int .i64 t571] 32 (0, 0))) := ⟨by (with_reducible repeat (first | refine blk_drewN ?_ _ | refine blk_drew ?_ | refine blk_alloc ?_ _)); refine blk_far ?_ NBD.out _; (with_reducible repeat (first | refine blk_drewN ?_ _ | refine blk_drew ?_ | refine blk_alloc ?_ _)); refine blk_far ?_ NBC.out _; (with_reducible repeat (first | refine blk_drewN ?_ _ | refine blk_drew ?_ | refine blk_alloc ?_ _)); refine blk_far ?_ NBD.out _; (with_reducible repeat (first | refine blk_drewN ?_ _ | refine blk_drew ?_ | refine blk_alloc ?_ _)); refine blk_far ?_ NBD.out _; (with_reducible repeat (first | refine blk_drewN ?_ _ | refine blk_drew ?_ | refine blk_alloc ?_ _)); refine blk_far ?_ NBD.out _; (with_reducible repeat (first | refine blk_drewN ?_ _ | refine blk_drew ?_ | refine blk_alloc ?_ _)); refine blk_far ?_ NBD.out _; (with_reducible repeat (first | refine blk_drewN ?_ _ | refine blk_drew ?_ | refine blk_alloc ?_ _)); refine blk_far ?_ NBC.out _; (with_reducible repeat (first | refine blk_drewN ?_ _ | refine blk_drew ?_ | refine blk_alloc ?_ _)); refine blk_far ?_ NBC.out _; (with_reducible repeat (first | refine blk_drewN ?_ _ | refine blk_drew ?_ | refine blk_alloc ?_ _)); refine blk_far ?_ NBC.out _; (with_reducible repeat (first | refine blk_drewN ?_ _ | refine blk_drew ?_ | refine blk_alloc ?_ _)); refine blk_far ?_ NBC.out _; (with_reducible repeat (first | refine blk_drewN ?_ _ | refine blk_drew ?_ | refine blk_alloc ?_ _)); exact KB.out⟩
    have n2_ : Aside0 (((((((((((w24.setCell ⟨gC, 0, none⟩ (.int .i64 t568)).setCell ⟨gC, 1, none⟩ (.int .i64 t569)).setCell ⟨gC, 2, none⟩ (.int .i64 t570)).setCell ⟨gC, 3, none⟩ (.int .i64 t571)).setCell ⟨gD, 0, none⟩ (.int .i64 t568)).setCell ⟨gD, 1, none⟩ (.int .i64 t569)).setCell ⟨gD, 2, none⟩ (.int .i64 t570)).setCell ⟨gD, 3, none⟩ (.int .i64 t571)).setCell ⟨gC, 3, none⟩ (.int .i64 0)).setCell ⟨gD, 3, none⟩ (.int .i64 65535)).heap[gC]? = some (.cells #[.int .i64 t568, .int .i64 t569, .int .i64 t570, .int .i64 0] 32 (0, 0))) := ⟨by (with_reducible repeat (first | refine blk_drewN ?_ _ | refine blk_drew ?_ | refine blk_alloc ?_ _)); refine blk_far ?_ NCD.out _; (with_reducible repeat (first | refine blk_drewN ?_ _ | refine blk_drew ?_ | refine blk_alloc ?_ _)); refine blk_put (cs := #[.int .i64 t568, .int .i64 t569, .int .i64 t570, .int .i64 t571]) ?_ 3 _ rfl; (with_reducible repeat (first | refine blk_drewN ?_ _ | refine blk_drew ?_ | refine blk_alloc ?_ _)); refine blk_far ?_ NCD.out _; (with_reducible repeat (first | refine blk_drewN ?_ _ | refine blk_drew ?_ | refine blk_alloc ?_ _)); refine blk_far ?_ NCD.out _; (with_reducible repeat (first | refine blk_drewN ?_ _ | refine blk_drew ?_ | refine blk_alloc ?_ _)); refine blk_far ?_ NCD.out _; (with_reducible repeat (first | refine blk_drewN ?_ _ | refine blk_drew ?_ | refine blk_alloc ?_ _)); refine blk_far ?_ NCD.out _; (with_reducible repeat (first | refine blk_drewN ?_ _ | refine blk_drew ?_ | refine blk_alloc ?_ _)); refine blk_put (cs := #[.int .i64 t568, .int .i64 t569, .int .i64 t570, .int .i64 0]) ?_ 3 _ rfl; (with_reducible repeat (first | refine blk_drewN ?_ _ | refine blk_drew ?_ | refine blk_alloc ?_ _)); refine blk_put (cs := #[.int .i64 t568, .int .i64 t569, .int .i64 0, .int .i64 0]) ?_ 2 _ rfl; (with_reducible repeat (first | refine blk_drewN ?_ _ | refine blk_drew ?_ | refine blk_alloc ?_ _)); refine blk_put (cs := #[.int .i64 t568, .int .i64 0, .int .i64 0, .int .i64 0]) ?_ 1 _ rfl; (with_reducible repeat (first | refine blk_drewN ?_ _ | refine blk_drew ?_ | refine blk_alloc ?_ _)); refine blk_put (cs := #[.int .i64 0, .int .i64 0, .int .i64 0, .int .i64 0]) ?_ 0 _ rfl; (with_reducible repeat (first | refine blk_drewN ?_ _ | refine blk_drew ?_ | refine blk_alloc ?_ _)); exact KC.out⟩
    have n3_ : Aside0 (((((((((((w24.setCell ⟨gC, 0, none⟩ (.int .i64 t568)).setCell ⟨gC, 1, none⟩ (.int .i64 t569)).setCell ⟨gC, 2, none⟩ (.int .i64 t570)).setCell ⟨gC, 3, none⟩ (.int .i64 t571)).setCell ⟨gD, 0, none⟩ (.int .i64 t568)).setCell ⟨gD, 1, none⟩ (.int .i64 t569)).setCell ⟨gD, 2, none⟩ (.int .i64 t570)).setCell ⟨gD, 3, none⟩ (.int .i64 t571)).setCell ⟨gC, 3, none⟩ (.int .i64 0)).setCell ⟨gD, 3, none⟩ (.int .i64 65535)).heap[gD]? = some (.cells #[.int .i64 t568, .int .i64 t569, .int .i64 t570, .int .i64 65535] 32 (0, 0))) := ⟨by (with_reducible repeat (first | refine blk_drewN ?_ _ | refine blk_drew ?_ | refine blk_alloc ?_ _)); refine blk_put (cs := #[.int .i64 t568, .int .i64 t569, .int .i64 t570, .int .i64 t571]) ?_ 3 _ rfl; (with_reducible repeat (first | refine blk_drewN ?_ _ | refine blk_drew ?_ | refine blk_alloc ?_ _)); refine blk_far ?_ NDC.out _; (with_reducible repeat (first | refine blk_drewN ?_ _ | refine blk_drew ?_ | refine blk_alloc ?_ _)); refine blk_put (cs := #[.int .i64 t568, .int .i64 t569, .int .i64 t570, .int .i64 0]) ?_ 3 _ rfl; (with_reducible repeat (first | refine blk_drewN ?_ _ | refine blk_drew ?_ | refine blk_alloc ?_ _)); refine blk_put (cs := #[.int .i64 t568, .int .i64 t569, .int .i64 0, .int .i64 0]) ?_ 2 _ rfl; (with_reducible repeat (first | refine blk_drewN ?_ _ | refine blk_drew ?_ | refine blk_alloc ?_ _)); refine blk_put (cs := #[.int .i64 t568, .int .i64 0, .int .i64 0, .int .i64 0]) ?_ 1 _ rfl; (with_reducible repeat (first | refine blk_drewN ?_ _ | refine blk_drew ?_ | refine blk_alloc ?_ _)); refine blk_put (cs := #[.int .i64 0, .int .i64 0, .int .i64 0, .int .i64 0]) ?_ 0 _ rfl; (with_reducible repeat (first | refine blk_drewN ?_ _ | refine blk_drew ?_ | refine blk_alloc ?_ _)); refine blk_far ?_ NDC.out _; (with_reducible repeat (first | refine blk_drewN ?_ _ | refine blk_drew ?_ | refine blk_alloc ?_ _)); refine blk_far ?_ NDC.out _; (with_reducible repeat (first | refine blk_drewN ?_ _ | refine blk_drew ?_ | refine blk_alloc ?_ _)); refine blk_far ?_ NDC.out _; (with_reducible repeat (first | refine blk_drewN ?_ _ | refine blk_drew ?_ | refine blk_alloc ?_ _)); refine blk_far ?_ NDC.out _; (with_reducible repeat (first | refine blk_drewN ?_ _ | refine blk_drew ?_ | refine blk_alloc ?_ _)); exact KD.out⟩
    have n4_ : Aside0 (Below w.heap.size w ((((((((((w24.setCell ⟨gC, 0, none⟩ (.int .i64 t568)).setCell ⟨gC, 1, none⟩ (.int .i64 t569)).setCell ⟨gC, 2, none⟩ (.int .i64 t570)).setCell ⟨gC, 3, none⟩ (.int .i64 t571)).setCell ⟨gD, 0, none⟩ (.int .i64 t568)).setCell ⟨gD, 1, none⟩ (.int .i64 t569)).setCell ⟨gD, 2, none⟩ (.int .i64 t570)).setCell ⟨gD, 3, none⟩ (.int .i64 t571)).setCell ⟨gC, 3, none⟩ (.int .i64 0)).setCell ⟨gD, 3, none⟩ (.int .i64 65535))) := ⟨by repeat (first | (with_reducible first | exact HB.out | apply below_alloc | apply pw_below_drewN | apply below_drew1 | refine below_set ?_ GEA.out | refine below_set ?_ GEB.out | refine below_set ?_ GEC.out | refine below_set ?_ GED.out) | exact HB.out)⟩
    (try clear KA)
    (try clear KB)
    (try clear KC)
    (try clear KD)
    (try clear HB)
    generalize ((((((((((w24.setCell ⟨gC, 0, none⟩ (.int .i64 t568)).setCell ⟨gC, 1, none⟩ (.int .i64 t569)).setCell ⟨gC, 2, none⟩ (.int .i64 t570)).setCell ⟨gC, 3, none⟩ (.int .i64 t571)).setCell ⟨gD, 0, none⟩ (.int .i64 t568)).setCell ⟨gD, 1, none⟩ (.int .i64 t569)).setCell ⟨gD, 2, none⟩ (.int .i64 t570)).setCell ⟨gD, 3, none⟩ (.int .i64 t571)).setCell ⟨gC, 3, none⟩ (.int .i64 0)).setCell ⟨gD, 3, none⟩ (.int .i64 65535)) = w47 at n0_ n1_ n2_ n3_ n4_ ⊢
    have KA := n0_
    have KB := n1_
    have KC := n2_
    have KD := n3_
    have HB := n4_
    clear n0_ n1_ n2_ n3_ n4_
    replace KA := Aside0.mk (blk_drew KA.out)
    replace KB := Aside0.mk (blk_drew KB.out)
    replace KC := Aside0.mk (blk_drew KC.out)
    replace KD := Aside0.mk (blk_drew KD.out)
    replace HB := Aside0.mk (below_drew1 HB.out)
    refine start_ (n := 16) (S := fun w' => w'.cell? ⟨gA, 0, none⟩ = some (.int .i64 t564) ∧ w'.cell? ⟨gA, 1, none⟩ = some (.int .i64 t565) ∧ w'.cell? ⟨gA, 2, none⟩ = some (.int .i64 t566) ∧ w'.cell? ⟨gA, 3, none⟩ = some (.int .i64 t567) ∧ w'.cell? ⟨gC, 0, none⟩ = some (.int .i64 t568) ∧ w'.cell? ⟨gC, 1, none⟩ = some (.int .i64 t569) ∧ w'.cell? ⟨gC, 2, none⟩ = some (.int .i64 t570) ∧ w'.cell? ⟨gC, 3, none⟩ = some (.int .i64 0)) (ds := []) #[false, false, false, false, false, false, false, false, false, false, false, false, false, false, false, false] (by kernel_rfl) rfl rfl ⟨(blk_cell KA.out 0).trans rfl, (blk_cell KA.out 1).trans rfl, (blk_cell KA.out 2).trans rfl, (blk_cell KA.out 3).trans rfl, (blk_cell KC.out 0).trans rfl, (blk_cell KC.out 1).trans rfl, (blk_cell KC.out 2).trans rfl, (blk_cell KC.out 3).trans rfl⟩ (fun hHeld => ?_); refine with_tabW imageeditorlaw10_BlendClears.tab4 imageeditorlaw10_BlendClears.bits4 (fun HT_ HW_ => ?_)
    generalize w47.drew = w48 at KA KB KC KD HB hHeld ⊢
    refine pure_ (i := 0) (N := some 17) (v := ?_) (a' := ?_) #[true, false, false, false, false, false, false, false, false, false, false, false, false, false, false, false] rfl rfl (any_of HT_.out (by kernel_rfl)) (fun _ _ _ h => h) (Or.inl ⟨by rfl, ?_⟩) ?_ ?_
    rotate_left
    ·intro w'
     go_simp
     with_reducible rfl
    rotate_left
    ·simp only [Act.put, List.setIfInBounds_toArray, List.set_cons_zero, List.set_cons_succ, i64_w, i32_w]
     rfl
    refine take_ (i := 1) (N := some 18) (v := ?_) (a' := ?_) #[true, true, false, false, false, false, false, false, false, false, false, false, false, false, false, false] rfl rfl (take_ofW HT_.out HW_.out (by kernel_rfl)) (fun _ _ _ h => h) (Or.inl ⟨by rfl, ?_⟩) hHeld ?_ ?_
    rotate_left
    ·rintro w' ⟨s0, s1, s2, s3, s4, s5, s6, s7⟩
     go_simp
     with_reducible rfl
    rotate_left
    ·simp only [Act.put, List.setIfInBounds_toArray, List.set_cons_zero, List.set_cons_succ, i64_w, i32_w]
     rfl
    refine pure_ (i := 2) (N := some 19) (v := ?_) (a' := ?_) #[true, true, true, false, false, false, false, false, false, false, false, false, false, false, false, false] rfl rfl (any_of HT_.out (by kernel_rfl)) (fun _ _ _ h => h) (Or.inl ⟨by rfl, ?_⟩) ?_ ?_
    rotate_left
    ·intro w'
     go_simp
     with_reducible rfl
    rotate_left
    ·simp only [Act.put, List.setIfInBounds_toArray, List.set_cons_zero, List.set_cons_succ, i64_w, i32_w]
     rfl
    refine pure_ (i := 3) (N := some 20) (v := ?_) (a' := ?_) #[true, true, true, true, false, false, false, false, false, false, false, false, false, false, false, false] rfl rfl (any_of HT_.out (by kernel_rfl)) (fun _ _ _ h => h) (Or.inl ⟨by rfl, ?_⟩) ?_ ?_
    rotate_left
    ·intro w'
     go_simp
     with_reducible rfl
    rotate_left
    ·simp only [Act.put, List.setIfInBounds_toArray, List.set_cons_zero, List.set_cons_succ, i64_w, i32_w]
     rfl
    refine pure_ (i := 5) (N := some 22) (v := ?_) (a' := ?_) #[true, true, true, true, false, true, false, false, false, false, false, false, false, false, false, false] rfl rfl (any_of HT_.out (by kernel_rfl)) (fun _ _ _ h => h) (Or.inl ⟨by rfl, ?_⟩) ?_ ?_
    rotate_left
    ·intro w'
     go_simp
     with_reducible rfl
    rotate_left
    ·simp only [Act.put, List.setIfInBounds_toArray, List.set_cons_zero, List.set_cons_succ, i64_w, i32_w]
     rfl
    refine take_ (i := 4) (N := some 21) (v := ?_) (a' := ?_) #[true, true, true, true, true, true, false, false, false, false, false, false, false, false, false, false] rfl rfl (take_ofW HT_.out HW_.out (by kernel_rfl)) (fun _ _ _ h => h) (Or.inl ⟨by rfl, ?_⟩) hHeld ?_ ?_
    rotate_left
    ·rintro w' ⟨s0, s1, s2, s3, s4, s5, s6, s7⟩
     go_simp
     with_reducible rfl
    rotate_left
    ·simp only [Act.put, List.setIfInBounds_toArray, List.set_cons_zero, List.set_cons_succ, i64_w, i32_w]
     rfl
    refine pure_ (i := 6) (N := some 23) (v := ?_) (a' := ?_) #[true, true, true, true, true, true, true, false, false, false, false, false, false, false, false, false] rfl rfl (any_of HT_.out (by kernel_rfl)) (fun _ _ _ h => h) (Or.inl ⟨by rfl, ?_⟩) ?_ ?_
    rotate_left
    ·intro w'
     go_simp
     with_reducible rfl
    rotate_left
    ·simp only [Act.put, List.setIfInBounds_toArray, List.set_cons_zero, List.set_cons_succ, i64_w, i32_w]
     rfl
    refine pure_ (i := 7) (N := some 24) (v := ?_) (a' := ?_) #[true, true, true, true, true, true, true, true, false, false, false, false, false, false, false, false] rfl rfl (any_of HT_.out (by kernel_rfl)) (fun _ _ _ h => h) (Or.inl ⟨by rfl, ?_⟩) ?_ ?_
    rotate_left
    ·intro w'
     go_simp
     with_reducible rfl
    rotate_left
    ·simp only [Act.put, List.setIfInBounds_toArray, List.set_cons_zero, List.set_cons_succ, i64_w, i32_w]
     rfl
    refine pure_ (i := 8) (N := some 25) (v := ?_) (a' := ?_) #[true, true, true, true, true, true, true, true, true, false, false, false, false, false, false, false] rfl rfl (any_of HT_.out (by kernel_rfl)) (fun _ _ _ h => h) (Or.inl ⟨by rfl, ?_⟩) ?_ ?_
    rotate_left
    ·intro w'
     go_simp
     with_reducible rfl
    rotate_left
    ·simp only [Act.put, List.setIfInBounds_toArray, List.set_cons_zero, List.set_cons_succ, i64_w, i32_w]
     rfl
    refine pure_ (i := 9) (N := some 26) (v := ?_) (a' := ?_) #[true, true, true, true, true, true, true, true, true, true, false, false, false, false, false, false] rfl rfl (any_of HT_.out (by kernel_rfl)) (fun _ _ _ h => h) (Or.inl ⟨by rfl, ?_⟩) ?_ ?_
    rotate_left
    ·intro w'
     go_simp
     with_reducible rfl
    rotate_left
    ·simp only [Act.put, List.setIfInBounds_toArray, List.set_cons_zero, List.set_cons_succ, i64_w, i32_w]
     rfl
    refine take_ (i := 10) (N := some 27) (v := ?_) (a' := ?_) #[true, true, true, true, true, true, true, true, true, true, true, false, false, false, false, false] rfl rfl (take_ofW HT_.out HW_.out (by kernel_rfl)) (fun _ _ _ h => h) (Or.inl ⟨by rfl, ?_⟩) hHeld ?_ ?_
    rotate_left
    ·rintro w' ⟨s0, s1, s2, s3, s4, s5, s6, s7⟩
     go_simp
     with_reducible rfl
    rotate_left
    ·simp only [Act.put, List.setIfInBounds_toArray, List.set_cons_zero, List.set_cons_succ, i64_w, i32_w]
     rfl
    refine take_ (i := 11) (N := some 28) (v := ?_) (a' := ?_) #[true, true, true, true, true, true, true, true, true, true, true, true, false, false, false, false] rfl rfl (take_ofW HT_.out HW_.out (by kernel_rfl)) (fun _ _ _ h => h) (Or.inl ⟨by rfl, ?_⟩) hHeld ?_ ?_
    rotate_left
    ·rintro w' ⟨s0, s1, s2, s3, s4, s5, s6, s7⟩
     go_simp
     with_reducible rfl
    rotate_left
    ·simp only [Act.put, List.setIfInBounds_toArray, List.set_cons_zero, List.set_cons_succ, i64_w, i32_w]
     rfl
    refine take_ (i := 13) (N := some 30) (v := ?_) (a' := ?_) #[true, true, true, true, true, true, true, true, true, true, true, true, false, true, false, false] rfl rfl (take_ofW HT_.out HW_.out (by kernel_rfl)) (fun _ _ _ h => h) (Or.inl ⟨by rfl, ?_⟩) hHeld ?_ ?_
    rotate_left
    ·rintro w' ⟨s0, s1, s2, s3, s4, s5, s6, s7⟩
     go_simp
     with_reducible rfl
    rotate_left
    ·simp only [Act.put, List.setIfInBounds_toArray, List.set_cons_zero, List.set_cons_succ, i64_w, i32_w]
     rfl
    refine one_ (i := 12) (N := some 29) #[true, true, true, true, true, true, true, true, true, true, true, true, true, true, false, false] rfl rfl (one_of HT_.out (by kernel_rfl)) (by decide) (fun K hK => ?_)
    refine goes_ Try.func14 (by kernel_rfl) rfl #[.int .i64 a0, .agg #[.int .i64 t564, .int .i64 t565, .int .i64 t566, .int .i64 t567], .agg #[.int .i64 t568, .int .i64 t569, .int .i64 t570, .int .i64 0]] (by rfl) rfl rfl (by (try simp only [List.map_toArray, List.map_cons, List.map_nil]); first | done | rfl | (simp only [List.length_drop, List.length_take]; rfl)) ?_
    with_reducible refine (blend_Over.calls k a0 t564 t565 t566 t567 t568 t569 t570 0 t578 t579 t580 t581 _ A46.out).mono ?_
    rintro e w49 ⟨rfl, hb⟩
    refine ⟨_, rfl, ?_⟩
    replace KA := bb_ KA hb
    replace KB := bb_ KB hb
    replace KC := bb_ KC hb
    replace KD := bb_ KD hb
    replace HB := Aside0.mk (below_step HB.out hb)
    try clear hb
    refine hK.out _ _ ⟨(blk_cell KA.out 0).trans rfl, (blk_cell KA.out 1).trans rfl, (blk_cell KA.out 2).trans rfl, (blk_cell KA.out 3).trans rfl, (blk_cell KC.out 0).trans rfl, (blk_cell KC.out 1).trans rfl, (blk_cell KC.out 2).trans rfl, (blk_cell KC.out 3).trans rfl⟩ (fun hHeld => ?_)
    clear hK K
    refine norm_ (a' := ?_) ?_ ?_
    rotate_left
    ·show Act.put _ (some 29) _ = _
     simp only [Act.put, List.setIfInBounds_toArray, List.set_cons_zero, List.set_cons_succ, i64_w, i32_w]
     rfl
    refine pure_ (i := 14) (N := some 31) (v := ?_) (a' := ?_) #[true, true, true, true, true, true, true, true, true, true, true, true, true, true, true, false] rfl rfl (any_of HT_.out (by kernel_rfl)) (fun _ _ _ h => h) (Or.inl ⟨by rfl, ?_⟩) ?_ ?_
    rotate_left
    ·intro w'
     go_simp
     with_reducible rfl
    rotate_left
    ·simp only [Act.put, List.setIfInBounds_toArray, List.set_cons_zero, List.set_cons_succ, i64_w, i32_w]
     rfl
    refine pure_ (i := 15) (N := some 32) (v := ?_) (a' := ?_) #[true, true, true, true, true, true, true, true, true, true, true, true, true, true, true, true] rfl rfl (any_of HT_.out (by kernel_rfl)) (fun _ _ _ h => h) (Or.inl ⟨by rfl, ?_⟩) ?_ ?_
    rotate_left
    ·intro w'
     go_simp
     with_reducible rfl
    rotate_left
    ·simp only [Act.put, List.setIfInBounds_toArray, List.set_cons_zero, List.set_cons_succ, i64_w, i32_w]
     rfl
    refine done_ (done_of HT_.out (by kernel_rfl)) ?_
    try go_wp2
    go_meet
    case rel => exact ⟨_, ((!(t578 == t564) || (!(t579 == t565) || (!(t580 == t566) || (!(t581 == t567)))))), (by first | rfl | (simp; done) | (simp [*]; done)), H', ⟨by first | omega | exact Nat.le_refl _⟩, ⟨by (with_reducible repeat (first | refine blk_drewN ?_ _ | refine blk_drew ?_ | refine blk_alloc ?_ _)); exact KA.out⟩, ⟨by (with_reducible repeat (first | refine blk_drewN ?_ _ | refine blk_drew ?_ | refine blk_alloc ?_ _)); exact KB.out⟩, ⟨by (with_reducible repeat (first | refine blk_drewN ?_ _ | refine blk_drew ?_ | refine blk_alloc ?_ _)); exact KC.out⟩, ⟨by (with_reducible repeat (first | refine blk_drewN ?_ _ | refine blk_drew ?_ | refine blk_alloc ?_ _)); exact KD.out⟩, ⟨by repeat (first | (with_reducible first | exact HB.out | apply below_alloc | apply pw_below_drewN | apply below_drew1 | refine below_set ?_ GEA.out | refine below_set ?_ GEB.out | refine below_set ?_ GEC.out | refine below_set ?_ GED.out) | exact HB.out)⟩⟩
   ·rw [if_neg c45] at H
    have c45b0 : (t564 == 0 && (t565 == 0 && (t566 == 0 && (t567 == 0)))) = false := by simpa using c45
    (try (have c45b1 : decide (t564 = 0 && (t565 == 0 && (t566 == 0 && (t567 == 0)))) = false := by simpa using c45))
    (try (have c45b2 : (t564 == 0 && (t565 == 0 && (t566 == 0 && (t567 == 0)))) = false := by simpa using c45))
    (try (have c45b3 : ¬ (t564 = 0 && (t565 == 0 && (t566 == 0 && (t567 == 0)))) := by simpa using c45))
    clear c45
    have H' := Aside0.mk H
    clear H
    try go_wp2
    have n0_ : Aside0 (((((((((((w24.setCell ⟨gC, 0, none⟩ (.int .i64 t568)).setCell ⟨gC, 1, none⟩ (.int .i64 t569)).setCell ⟨gC, 2, none⟩ (.int .i64 t570)).setCell ⟨gC, 3, none⟩ (.int .i64 t571)).setCell ⟨gD, 0, none⟩ (.int .i64 t568)).setCell ⟨gD, 1, none⟩ (.int .i64 t569)).setCell ⟨gD, 2, none⟩ (.int .i64 t570)).setCell ⟨gD, 3, none⟩ (.int .i64 t571)).setCell ⟨gC, 3, none⟩ (.int .i64 0)).setCell ⟨gD, 3, none⟩ (.int .i64 65535)).heap[gA]? = some (.cells #[.int .i64 t564, .int .i64 t565, .int .i64 t566, .int .i64 t567] 32 (0, 0))) := ⟨by (with_reducible repeat (first | refine blk_drewN ?_ _ | refine blk_drew ?_ | refine blk_alloc ?_ _)); refine blk_far ?_ NAD.out _; (with_reducible repeat (first | refine blk_drewN ?_ _ | refine blk_drew ?_ | refine blk_alloc ?_ _)); refine blk_far ?_ NAC.out _; (with_reducible repeat (first | refine blk_drewN ?_ _ | refine blk_drew ?_ | refine blk_alloc ?_ _)); refine blk_far ?_ NAD.out _; (with_reducible repeat (first | refine blk_drewN ?_ _ | refine blk_drew ?_ | refine blk_alloc ?_ _)); refine blk_far ?_ NAD.out _; (with_reducible repeat (first | refine blk_drewN ?_ _ | refine blk_drew ?_ | refine blk_alloc ?_ _)); refine blk_far ?_ NAD.out _; (with_reducible repeat (first | refine blk_drewN ?_ _ | refine blk_drew ?_ | refine blk_alloc ?_ _)); refine blk_far ?_ NAD.out _; (with_reducible repeat (first | refine blk_drewN ?_ _ | refine blk_drew ?_ | refine blk_alloc ?_ _)); refine blk_far ?_ NAC.out _; (with_reducible repeat (first | refine blk_drewN ?_ _ | refine blk_drew ?_ | refine blk_alloc ?_ _)); refine blk_far ?_ NAC.out _; (with_reducible repeat (first | refine blk_drewN ?_ _ | refine blk_drew ?_ | refine blk_alloc ?_ _)); refine blk_far ?_ NAC.out _; (with_reducible repeat (first | refine blk_drewN ?_ _ | refine blk_drew ?_ | refine blk_alloc ?_ _)); refine blk_far ?_ NAC.out _; (with_reducible repeat (first | refine blk_drewN ?_ _ | refine blk_drew ?_ | refine blk_alloc ?_ _)); exact KA.out⟩
    have n1_ : Aside0 (((((((((((w24.setCell ⟨gC, 0, none⟩ (.int .i64 t568)).setCell ⟨gC, 1, none⟩ (.int .i64 t569)).setCell ⟨gC, 2, none⟩ (.int .i64 t570)).setCell ⟨gC, 3, none⟩ (.int .i64 t571)).setCell ⟨gD, 0, none⟩ (.int .i64 t568)).setCell ⟨gD, 1, none⟩ (.int .i64 t569)).setCell ⟨gD, 2, none⟩ (.int .i64 t570)).setCell ⟨gD, 3, none⟩ (.int .i64 t571)).setCell ⟨gC, 3, none⟩ (.int .i64 0)).setCell ⟨gD, 3, none⟩ (.int .i64 65535)).heap[gB]? = some (.cells #[.int .i64 t568, .int .i64 t569, .int .i64 t570, .int .i64 t571] 32 (0, 0))) := ⟨by (with_reducible repeat (first | refine blk_drewN ?_ _ | refine blk_drew ?_ | refine blk_alloc ?_ _)); refine blk_far ?_ NBD.out _; (with_reducible repeat (first | refine blk_drewN ?_ _ | refine blk_drew ?_ | refine blk_alloc ?_ _)); refine blk_far ?_ NBC.out _; (with_reducible repeat (first | refine blk_drewN ?_ _ | refine blk_drew ?_ | refine blk_alloc ?_ _)); refine blk_far ?_ NBD.out _; (with_reducible repeat (first | refine blk_drewN ?_ _ | refine blk_drew ?_ | refine blk_alloc ?_ _)); refine blk_far ?_ NBD.out _; (with_reducible repeat (first | refine blk_drewN ?_ _ | refine blk_drew ?_ | refine blk_alloc ?_ _)); refine blk_far ?_ NBD.out _; (with_reducible repeat (first | refine blk_drewN ?_ _ | refine blk_drew ?_ | refine blk_alloc ?_ _)); refine blk_far ?_ NBD.out _; (with_reducible repeat (first | refine blk_drewN ?_ _ | refine blk_drew ?_ | refine blk_alloc ?_ _)); refine blk_far ?_ NBC.out _; (with_reducible repeat (first | refine blk_drewN ?_ _ | refine blk_drew ?_ | refine blk_alloc ?_ _)); refine blk_far ?_ NBC.out _; (with_reducible repeat (first | refine blk_drewN ?_ _ | refine blk_drew ?_ | refine blk_alloc ?_ _)); refine blk_far ?_ NBC.out _; (with_reducible repeat (first | refine blk_drewN ?_ _ | refine blk_drew ?_ | refine blk_alloc ?_ _)); refine blk_far ?_ NBC.out _; (with_reducible repeat (first | refine blk_drewN ?_ _ | refine blk_drew ?_ | refine blk_alloc ?_ _)); exact KB.out⟩
    have n2_ : Aside0 (((((((((((w24.setCell ⟨gC, 0, none⟩ (.int .i64 t568)).setCell ⟨gC, 1, none⟩ (.int .i64 t569)).setCell ⟨gC, 2, none⟩ (.int .i64 t570)).setCell ⟨gC, 3, none⟩ (.int .i64 t571)).setCell ⟨gD, 0, none⟩ (.int .i64 t568)).setCell ⟨gD, 1, none⟩ (.int .i64 t569)).setCell ⟨gD, 2, none⟩ (.int .i64 t570)).setCell ⟨gD, 3, none⟩ (.int .i64 t571)).setCell ⟨gC, 3, none⟩ (.int .i64 0)).setCell ⟨gD, 3, none⟩ (.int .i64 65535)).heap[gC]? = some (.cells #[.int .i64 t568, .int .i64 t569, .int .i64 t570, .int .i64 0] 32 (0, 0))) := ⟨by (with_reducible repeat (first | refine blk_drewN ?_ _ | refine blk_drew ?_ | refine blk_alloc ?_ _)); refine blk_far ?_ NCD.out _; (with_reducible repeat (first | refine blk_drewN ?_ _ | refine blk_drew ?_ | refine blk_alloc ?_ _)); refine blk_put (cs := #[.int .i64 t568, .int .i64 t569, .int .i64 t570, .int .i64 t571]) ?_ 3 _ rfl; (with_reducible repeat (first | refine blk_drewN ?_ _ | refine blk_drew ?_ | refine blk_alloc ?_ _)); refine blk_far ?_ NCD.out _; (with_reducible repeat (first | refine blk_drewN ?_ _ | refine blk_drew ?_ | refine blk_alloc ?_ _)); refine blk_far ?_ NCD.out _; (with_reducible repeat (first | refine blk_drewN ?_ _ | refine blk_drew ?_ | refine blk_alloc ?_ _)); refine blk_far ?_ NCD.out _; (with_reducible repeat (first | refine blk_drewN ?_ _ | refine blk_drew ?_ | refine blk_alloc ?_ _)); refine blk_far ?_ NCD.out _; (with_reducible repeat (first | refine blk_drewN ?_ _ | refine blk_drew ?_ | refine blk_alloc ?_ _)); refine blk_put (cs := #[.int .i64 t568, .int .i64 t569, .int .i64 t570, .int .i64 0]) ?_ 3 _ rfl; (with_reducible repeat (first | refine blk_drewN ?_ _ | refine blk_drew ?_ | refine blk_alloc ?_ _)); refine blk_put (cs := #[.int .i64 t568, .int .i64 t569, .int .i64 0, .int .i64 0]) ?_ 2 _ rfl; (with_reducible repeat (first | refine blk_drewN ?_ _ | refine blk_drew ?_ | refine blk_alloc ?_ _)); refine blk_put (cs := #[.int .i64 t568, .int .i64 0, .int .i64 0, .int .i64 0]) ?_ 1 _ rfl; (with_reducible repeat (first | refine blk_drewN ?_ _ | refine blk_drew ?_ | refine blk_alloc ?_ _)); refine blk_put (cs := #[.int .i64 0, .int .i64 0, .int .i64 0, .int .i64 0]) ?_ 0 _ rfl; (with_reducible repeat (first | refine blk_drewN ?_ _ | refine blk_drew ?_ | refine blk_alloc ?_ _)); exact KC.out⟩
    have n3_ : Aside0 (((((((((((w24.setCell ⟨gC, 0, none⟩ (.int .i64 t568)).setCell ⟨gC, 1, none⟩ (.int .i64 t569)).setCell ⟨gC, 2, none⟩ (.int .i64 t570)).setCell ⟨gC, 3, none⟩ (.int .i64 t571)).setCell ⟨gD, 0, none⟩ (.int .i64 t568)).setCell ⟨gD, 1, none⟩ (.int .i64 t569)).setCell ⟨gD, 2, none⟩ (.int .i64 t570)).setCell ⟨gD, 3, none⟩ (.int .i64 t571)).setCell ⟨gC, 3, none⟩ (.int .i64 0)).setCell ⟨gD, 3, none⟩ (.int .i64 65535)).heap[gD]? = some (.cells #[.int .i64 t568, .int .i64 t569, .int .i64 t570, .int .i64 65535] 32 (0, 0))) := ⟨by (with_reducible repeat (first | refine blk_drewN ?_ _ | refine blk_drew ?_ | refine blk_alloc ?_ _)); refine blk_put (cs := #[.int .i64 t568, .int .i64 t569, .int .i64 t570, .int .i64 t571]) ?_ 3 _ rfl; (with_reducible repeat (first | refine blk_drewN ?_ _ | refine blk_drew ?_ | refine blk_alloc ?_ _)); refine blk_far ?_ NDC.out _; (with_reducible repeat (first | refine blk_drewN ?_ _ | refine blk_drew ?_ | refine blk_alloc ?_ _)); refine blk_put (cs := #[.int .i64 t568, .int .i64 t569, .int .i64 t570, .int .i64 0]) ?_ 3 _ rfl; (with_reducible repeat (first | refine blk_drewN ?_ _ | refine blk_drew ?_ | refine blk_alloc ?_ _)); refine blk_put (cs := #[.int .i64 t568, .int .i64 t569, .int .i64 0, .int .i64 0]) ?_ 2 _ rfl; (with_reducible repeat (first | refine blk_drewN ?_ _ | refine blk_drew ?_ | refine blk_alloc ?_ _)); refine blk_put (cs := #[.int .i64 t568, .int .i64 0, .int .i64 0, .int .i64 0]) ?_ 1 _ rfl; (with_reducible repeat (first | refine blk_drewN ?_ _ | refine blk_drew ?_ | refine blk_alloc ?_ _)); refine blk_put (cs := #[.int .i64 0, .int .i64 0, .int .i64 0, .int .i64 0]) ?_ 0 _ rfl; (with_reducible repeat (first | refine blk_drewN ?_ _ | refine blk_drew ?_ | refine blk_alloc ?_ _)); refine blk_far ?_ NDC.out _; (with_reducible repeat (first | refine blk_drewN ?_ _ | refine blk_drew ?_ | refine blk_alloc ?_ _)); refine blk_far ?_ NDC.out _; (with_reducible repeat (first | refine blk_drewN ?_ _ | refine blk_drew ?_ | refine blk_alloc ?_ _)); refine blk_far ?_ NDC.out _; (with_reducible repeat (first | refine blk_drewN ?_ _ | refine blk_drew ?_ | refine blk_alloc ?_ _)); refine blk_far ?_ NDC.out _; (with_reducible repeat (first | refine blk_drewN ?_ _ | refine blk_drew ?_ | refine blk_alloc ?_ _)); exact KD.out⟩
    have n4_ : Aside0 (Below w.heap.size w ((((((((((w24.setCell ⟨gC, 0, none⟩ (.int .i64 t568)).setCell ⟨gC, 1, none⟩ (.int .i64 t569)).setCell ⟨gC, 2, none⟩ (.int .i64 t570)).setCell ⟨gC, 3, none⟩ (.int .i64 t571)).setCell ⟨gD, 0, none⟩ (.int .i64 t568)).setCell ⟨gD, 1, none⟩ (.int .i64 t569)).setCell ⟨gD, 2, none⟩ (.int .i64 t570)).setCell ⟨gD, 3, none⟩ (.int .i64 t571)).setCell ⟨gC, 3, none⟩ (.int .i64 0)).setCell ⟨gD, 3, none⟩ (.int .i64 65535))) := ⟨by repeat (first | (with_reducible first | exact HB.out | apply below_alloc | apply pw_below_drewN | apply below_drew1 | refine below_set ?_ GEA.out | refine below_set ?_ GEB.out | refine below_set ?_ GEC.out | refine below_set ?_ GED.out) | exact HB.out)⟩
    (try clear KA)
    (try clear KB)
    (try clear KC)
    (try clear KD)
    (try clear HB)
    generalize ((((((((((w24.setCell ⟨gC, 0, none⟩ (.int .i64 t568)).setCell ⟨gC, 1, none⟩ (.int .i64 t569)).setCell ⟨gC, 2, none⟩ (.int .i64 t570)).setCell ⟨gC, 3, none⟩ (.int .i64 t571)).setCell ⟨gD, 0, none⟩ (.int .i64 t568)).setCell ⟨gD, 1, none⟩ (.int .i64 t569)).setCell ⟨gD, 2, none⟩ (.int .i64 t570)).setCell ⟨gD, 3, none⟩ (.int .i64 t571)).setCell ⟨gC, 3, none⟩ (.int .i64 0)).setCell ⟨gD, 3, none⟩ (.int .i64 65535)) = w50 at n0_ n1_ n2_ n3_ n4_ ⊢
    have KA := n0_
    have KB := n1_
    have KC := n2_
    have KD := n3_
    have HB := n4_
    clear n0_ n1_ n2_ n3_ n4_
    replace KA := Aside0.mk (blk_drew KA.out)
    replace KB := Aside0.mk (blk_drew KB.out)
    replace KC := Aside0.mk (blk_drew KC.out)
    replace KD := Aside0.mk (blk_drew KD.out)
    replace HB := Aside0.mk (below_drew1 HB.out)
    refine start_ (n := 16) (S := fun w' => w'.cell? ⟨gA, 0, none⟩ = some (.int .i64 t564) ∧ w'.cell? ⟨gA, 1, none⟩ = some (.int .i64 t565) ∧ w'.cell? ⟨gA, 2, none⟩ = some (.int .i64 t566) ∧ w'.cell? ⟨gA, 3, none⟩ = some (.int .i64 t567)) (ds := []) #[false, false, false, false, false, false, false, false, false, false, false, false, false, false, false, false] (by kernel_rfl) rfl rfl ⟨(blk_cell KA.out 0).trans rfl, (blk_cell KA.out 1).trans rfl, (blk_cell KA.out 2).trans rfl, (blk_cell KA.out 3).trans rfl⟩ (fun hHeld => ?_); refine with_tabW imageeditorlaw10_BlendClears.tab4 imageeditorlaw10_BlendClears.bits4 (fun HT_ HW_ => ?_)
    generalize w50.drew = w51 at KA KB KC KD HB hHeld ⊢
    refine pure_ (i := 0) (N := some 17) (v := ?_) (a' := ?_) #[true, false, false, false, false, false, false, false, false, false, false, false, false, false, false, false] rfl rfl (any_of HT_.out (by kernel_rfl)) (fun _ _ _ h => h) (Or.inl ⟨by rfl, ?_⟩) ?_ ?_
    rotate_left
    ·intro w'
     go_simp
     with_reducible rfl
    rotate_left
    ·simp only [Act.put, List.setIfInBounds_toArray, List.set_cons_zero, List.set_cons_succ, i64_w, i32_w]
     rfl
    refine take_ (i := 1) (N := some 18) (v := ?_) (a' := ?_) #[true, true, false, false, false, false, false, false, false, false, false, false, false, false, false, false] rfl rfl (take_ofW HT_.out HW_.out (by kernel_rfl)) (fun _ _ _ h => h) (Or.inl ⟨by rfl, ?_⟩) hHeld ?_ ?_
    rotate_left
    ·rintro w' ⟨s0, s1, s2, s3⟩
     go_simp
     with_reducible rfl
    rotate_left
    ·simp only [Act.put, List.setIfInBounds_toArray, List.set_cons_zero, List.set_cons_succ, i64_w, i32_w]
     rfl
    refine pure_ (i := 2) (N := some 19) (v := ?_) (a' := ?_) #[true, true, true, false, false, false, false, false, false, false, false, false, false, false, false, false] rfl rfl (any_of HT_.out (by kernel_rfl)) (fun _ _ _ h => h) (Or.inl ⟨by rfl, ?_⟩) ?_ ?_
    rotate_left
    ·intro w'
     go_simp
     with_reducible rfl
    rotate_left
    ·simp only [Act.put, List.setIfInBounds_toArray, List.set_cons_zero, List.set_cons_succ, i64_w, i32_w]
     rfl
    refine pure_ (i := 3) (N := some 20) (v := ?_) (a' := ?_) #[true, true, true, true, false, false, false, false, false, false, false, false, false, false, false, false] rfl rfl (any_of HT_.out (by kernel_rfl)) (fun _ _ _ h => h) (Or.inl ⟨by rfl, ?_⟩) ?_ ?_
    rotate_left
    ·intro w'
     go_simp
     with_reducible rfl
    rotate_left
    ·simp only [Act.put, List.setIfInBounds_toArray, List.set_cons_zero, List.set_cons_succ, i64_w, i32_w]
     rfl
    refine pure_ (i := 5) (N := some 22) (v := ?_) (a' := ?_) #[true, true, true, true, false, true, false, false, false, false, false, false, false, false, false, false] rfl rfl (any_of HT_.out (by kernel_rfl)) (fun _ _ _ h => h) (Or.inl ⟨by rfl, ?_⟩) ?_ ?_
    rotate_left
    ·intro w'
     go_simp
     with_reducible rfl
    rotate_left
    ·simp only [Act.put, List.setIfInBounds_toArray, List.set_cons_zero, List.set_cons_succ, i64_w, i32_w]
     rfl
    refine take_ (i := 4) (N := some 21) (v := ?_) (a' := ?_) #[true, true, true, true, true, true, false, false, false, false, false, false, false, false, false, false] rfl rfl (take_ofW HT_.out HW_.out (by kernel_rfl)) (fun _ _ _ h => h) (Or.inl ⟨by rfl, ?_⟩) hHeld ?_ ?_
    rotate_left
    ·rintro w' ⟨s0, s1, s2, s3⟩
     go_simp
     with_reducible rfl
    rotate_left
    ·simp only [Act.put, List.setIfInBounds_toArray, List.set_cons_zero, List.set_cons_succ, i64_w, i32_w]
     rfl
    refine pure_ (i := 6) (N := some 23) (v := ?_) (a' := ?_) #[true, true, true, true, true, true, true, false, false, false, false, false, false, false, false, false] rfl rfl (any_of HT_.out (by kernel_rfl)) (fun _ _ _ h => h) (Or.inl ⟨by rfl, ?_⟩) ?_ ?_
    rotate_left
    ·intro w'
     go_simp
     with_reducible rfl
    rotate_left
    ·simp only [Act.put, List.setIfInBounds_toArray, List.set_cons_zero, List.set_cons_succ, i64_w, i32_w]
     rfl
    refine pure_ (i := 7) (N := some 24) (v := ?_) (a' := ?_) #[true, true, true, true, true, true, true, true, false, false, false, false, false, false, false, false] rfl rfl (any_of HT_.out (by kernel_rfl)) (fun _ _ _ h => h) (Or.inl ⟨by rfl, ?_⟩) ?_ ?_
    rotate_left
    ·intro w'
     go_simp
     with_reducible rfl
    rotate_left
    ·simp only [Act.put, List.setIfInBounds_toArray, List.set_cons_zero, List.set_cons_succ, i64_w, i32_w]
     rfl
    refine pure_ (i := 8) (N := some 25) (v := ?_) (a' := ?_) #[true, true, true, true, true, true, true, true, true, false, false, false, false, false, false, false] rfl rfl (any_of HT_.out (by kernel_rfl)) (fun _ _ _ h => h) (Or.inl ⟨by rfl, ?_⟩) ?_ ?_
    rotate_left
    ·intro w'
     go_simp
     with_reducible rfl
    rotate_left
    ·simp only [Act.put, List.setIfInBounds_toArray, List.set_cons_zero, List.set_cons_succ, i64_w, i32_w]
     rfl
    refine pure_ (i := 9) (N := some 26) (v := undef) (a' := ?_) #[true, true, true, true, true, true, true, true, true, true, false, false, false, false, false, false] rfl rfl (any_of HT_.out (by kernel_rfl)) (fun _ _ _ h => h) (Or.inr ⟨by rfl, rfl⟩) ?_ ?_
    rotate_left
    ·simp only [Act.put, List.setIfInBounds_toArray, List.set_cons_zero, List.set_cons_succ, i64_w, i32_w]
     rfl
    refine pure_ (i := 10) (N := some 27) (v := undef) (a' := ?_) #[true, true, true, true, true, true, true, true, true, true, true, false, false, false, false, false] rfl rfl (any_of HT_.out (by kernel_rfl)) (fun _ _ _ h => h) (Or.inr ⟨by rfl, rfl⟩) ?_ ?_
    rotate_left
    ·simp only [Act.put, List.setIfInBounds_toArray, List.set_cons_zero, List.set_cons_succ, i64_w, i32_w]
     rfl
    refine pure_ (i := 11) (N := some 28) (v := undef) (a' := ?_) #[true, true, true, true, true, true, true, true, true, true, true, true, false, false, false, false] rfl rfl (any_of HT_.out (by kernel_rfl)) (fun _ _ _ h => h) (Or.inr ⟨by rfl, rfl⟩) ?_ ?_
    rotate_left
    ·simp only [Act.put, List.setIfInBounds_toArray, List.set_cons_zero, List.set_cons_succ, i64_w, i32_w]
     rfl
    refine pure_ (i := 12) (N := some 29) (v := undef) (a' := ?_) #[true, true, true, true, true, true, true, true, true, true, true, true, true, false, false, false] rfl rfl (any_of HT_.out (by kernel_rfl)) (fun _ _ _ h => h) (Or.inr ⟨by rfl, rfl⟩) ?_ ?_
    rotate_left
    ·simp only [Act.put, List.setIfInBounds_toArray, List.set_cons_zero, List.set_cons_succ, i64_w, i32_w]
     rfl
    refine pure_ (i := 13) (N := some 30) (v := undef) (a' := ?_) #[true, true, true, true, true, true, true, true, true, true, true, true, true, true, false, false] rfl rfl (any_of HT_.out (by kernel_rfl)) (fun _ _ _ h => h) (Or.inr ⟨by rfl, rfl⟩) ?_ ?_
    rotate_left
    ·simp only [Act.put, List.setIfInBounds_toArray, List.set_cons_zero, List.set_cons_succ, i64_w, i32_w]
     rfl
    refine pure_ (i := 14) (N := some 31) (v := undef) (a' := ?_) #[true, true, true, true, true, true, true, true, true, true, true, true, true, true, true, false] rfl rfl (any_of HT_.out (by kernel_rfl)) (fun _ _ _ h => h) (Or.inr ⟨by rfl, rfl⟩) ?_ ?_
    rotate_left
    ·simp only [Act.put, List.setIfInBounds_toArray, List.set_cons_zero, List.set_cons_succ, i64_w, i32_w]
     rfl
    refine pure_ (i := 15) (N := some 32) (v := ?_) (a' := ?_) #[true, true, true, true, true, true, true, true, true, true, true, true, true, true, true, true] rfl rfl (any_of HT_.out (by kernel_rfl)) (fun _ _ _ h => h) (Or.inl ⟨by rfl, ?_⟩) ?_ ?_
    rotate_left
    ·intro w'
     go_simp
     with_reducible rfl
    rotate_left
    ·simp only [Act.put, List.setIfInBounds_toArray, List.set_cons_zero, List.set_cons_succ, i64_w, i32_w]
     rfl
    refine done_ (done_of HT_.out (by kernel_rfl)) ?_
    try go_wp2
    go_meet
    case rel => exact ⟨_, (false), (by first | rfl | (simp; done) | (simp [*]; done)), H', ⟨by first | omega | exact Nat.le_refl _⟩, ⟨by (with_reducible repeat (first | refine blk_drewN ?_ _ | refine blk_drew ?_ | refine blk_alloc ?_ _)); exact KA.out⟩, ⟨by (with_reducible repeat (first | refine blk_drewN ?_ _ | refine blk_drew ?_ | refine blk_alloc ?_ _)); exact KB.out⟩, ⟨by (with_reducible repeat (first | refine blk_drewN ?_ _ | refine blk_drew ?_ | refine blk_alloc ?_ _)); exact KC.out⟩, ⟨by (with_reducible repeat (first | refine blk_drewN ?_ _ | refine blk_drew ?_ | refine blk_alloc ?_ _)); exact KD.out⟩, ⟨by repeat (first | (with_reducible first | exact HB.out | apply below_alloc | apply pw_below_drewN | apply below_drew1 | refine below_set ?_ GEA.out | refine below_set ?_ GEB.out | refine below_set ?_ GEC.out | refine below_set ?_ GED.out) | exact HB.out)⟩⟩
 case rest =>
  clear HC6
  try clear c1
  try clear p2
  try clear c3
  try clear c4
  try clear c14
  try clear c33
  try clear c34
  try clear c35
  try clear c37
  try clear c38
  try clear c40
  try clear c40b0
  try clear c45
  try clear c45b0
  try clear c45b1
  try clear c45b2
  try clear hcz36_0
  try clear hcz36_1
  try clear hcz36_2
  try clear hcz36_3
  try clear hcz39_0
  try clear hcz39_1
  try clear hcz39_2
  try clear hcz39_3
  try clear hfz36_0
  try clear hfz36_1
  try clear hfz36_2
  try clear hfz36_3
  try clear hfz39_0
  try clear hfz39_1
  try clear hfz39_2
  try clear hfz39_3
  obtain ⟨kq, x32_5, rfl, HA, HJ5, KA, KB, KC, KD, HB⟩ := hcut
  cases kq with
  | zero => exact absurd HA.out (by simp [imageeditorlaw10_BlendClears.j0])
  | succ kj5 =>
   have H := HA.out
   clear HA
   simp only [imageeditorlaw10_BlendClears.j0] at H
   by_cases c52 : x32_5 = true
   ·subst c52
    have H1 : (some false) = some r := by rw [if_pos rfl] at H; exact H
    clear H
    have H := H1
    clear H1
    obtain rfl := Option.some.inj H
    go_wp2
    go_ret
    exact ⟨by first | rfl | (simp [errW_none, errW_some] <;> rfl) | (simp [*, errW_none, errW_some] <;> rfl), by repeat (first | (with_reducible first | exact HB.out | apply below_alloc | apply pw_below_drewN | apply below_drew1 | refine below_set ?_ GEA.out | refine below_set ?_ GEB.out | refine below_set ?_ GEC.out | refine below_set ?_ GED.out) | exact HB.out)⟩
   ·replace c52 := Bool.eq_false_iff.mpr c52
    subst c52
    have H1 : (if t571 > 0 then ((blend_Over.f kj5 a0 t564 0 0 0 t568 t569 t570 t571).bind fun bt582 => (imageeditorlaw10_BlendClears.j1 kj5 (!(bt582.1 == t568) || (!(bt582.2.1 == t569) || (!(bt582.2.2.1 == t570) || (!(bt582.2.2.2 == t571))))) t564 t565 t566 t567 t568 t569 t570 65535)) else (imageeditorlaw10_BlendClears.j1 kj5 false t564 t565 t566 t567 t568 t569 t570 65535)) = some r := by rw [if_neg (show ¬ (false = true) by decide)] at H; exact H
    clear H
    have H := H1
    clear H1
    have HC53 := Aside0.mk H
    clear H
    go_upto_region 6 with (fail)
    go_cut [45] (fun v45 wc => ∃ (kq : Nat) (x45_52 : Bool), v45 = .bool x45_52 ∧ Aside0 (imageeditorlaw10_BlendClears.j1 kq x45_52 t564 t565 t566 t567 t568 t569 t570 65535 = some r) ∧ Aside0 (kq ≤ kj5) ∧ Aside0 (wc.heap[gA]? = some (.cells #[.int .i64 t564, .int .i64 t565, .int .i64 t566, .int .i64 t567] 32 (0, 0))) ∧ Aside0 (wc.heap[gB]? = some (.cells #[.int .i64 t568, .int .i64 t569, .int .i64 t570, .int .i64 t571] 32 (0, 0))) ∧ Aside0 (wc.heap[gC]? = some (.cells #[.int .i64 t568, .int .i64 t569, .int .i64 t570, .int .i64 0] 32 (0, 0))) ∧ Aside0 (wc.heap[gD]? = some (.cells #[.int .i64 t568, .int .i64 t569, .int .i64 t570, .int .i64 65535] 32 (0, 0))) ∧ Aside0 (Below w.heap.size w wc))
    case first =>
     have H := HC53.out
     clear HC53
     by_cases c54 : t571 > 0
     ·rw [if_pos c54] at H
      have c54b0 : decide (0 < t571) = true := decide_eq_true c54
      clear c54
      (first | rw [c54b0] | (simp only [i64_w, i32_w]; rw [c54b0]) | skip)
      replace H := Option.bind_eq_some_iff.mp H
      obtain ⟨⟨t582, t583, t584, t585⟩, A550, H⟩ := H
      replace H : (imageeditorlaw10_BlendClears.j1 kj5 (!(t582 == t568) || (!(t583 == t569) || (!(t584 == t570) || (!(t585 == t571))))) t564 t565 t566 t567 t568 t569 t570 65535) = some r := H
      have A55 := Aside0.mk A550
      clear A550
      have H' := Aside0.mk H
      clear H
      try go_wp2
      replace KA := Aside0.mk (blk_drew KA.out)
      replace KB := Aside0.mk (blk_drew KB.out)
      replace KC := Aside0.mk (blk_drew KC.out)
      replace KD := Aside0.mk (blk_drew KD.out)
      replace HB := Aside0.mk (below_drew1 HB.out)
      refine start_ (n := 13) (S := fun w' => w'.cell? ⟨gB, 0, none⟩ = some (.int .i64 t568) ∧ w'.cell? ⟨gB, 1, none⟩ = some (.int .i64 t569) ∧ w'.cell? ⟨gB, 2, none⟩ = some (.int .i64 t570) ∧ w'.cell? ⟨gB, 3, none⟩ = some (.int .i64 t571) ∧ w'.cell? ⟨gA, 0, none⟩ = some (.int .i64 t564) ∧ w'.cell? ⟨gA, 1, none⟩ = some (.int .i64 t565) ∧ w'.cell? ⟨gA, 2, none⟩ = some (.int .i64 t566) ∧ w'.cell? ⟨gA, 3, none⟩ = some (.int .i64 t567)) (ds := []) #[false, false, false, false, false, false, false, false, false, false, false, false, false] (by kernel_rfl) rfl rfl ⟨(blk_cell KB.out 0).trans rfl, (blk_cell KB.out 1).trans rfl, (blk_cell KB.out 2).trans rfl, (blk_cell KB.out 3).trans rfl, (blk_cell KA.out 0).trans rfl, (blk_cell KA.out 1).trans rfl, (blk_cell KA.out 2).trans rfl, (blk_cell KA.out 3).trans rfl⟩ (fun hHeld => ?_); refine with_tabW imageeditorlaw10_BlendClears.tab6 imageeditorlaw10_BlendClears.bits6 (fun HT_ HW_ => ?_)
      generalize wc.drew = w56 at KA KB KC KD HB hHeld ⊢
      refine pure_ (i := 0) (N := some 33) (v := ?_) (a' := ?_) #[true, false, false, false, false, false, false, false, false, false, false, false, false] rfl rfl (any_of HT_.out (by kernel_rfl)) (fun _ _ _ h => h) (Or.inl ⟨by rfl, ?_⟩) ?_ ?_
      rotate_left
      ·intro w'
       go_simp
       with_reducible rfl
      rotate_left
      ·simp only [Act.put, List.setIfInBounds_toArray, List.set_cons_zero, List.set_cons_succ, i64_w, i32_w]
       rfl
      refine take_ (i := 1) (N := some 34) (v := ?_) (a' := ?_) #[true, true, false, false, false, false, false, false, false, false, false, false, false] rfl rfl (take_ofW HT_.out HW_.out (by kernel_rfl)) (fun _ _ _ h => h) (Or.inl ⟨by rfl, ?_⟩) hHeld ?_ ?_
      rotate_left
      ·rintro w' ⟨s0, s1, s2, s3, s4, s5, s6, s7⟩
       go_simp
       with_reducible rfl
      rotate_left
      ·simp only [Act.put, List.setIfInBounds_toArray, List.set_cons_zero, List.set_cons_succ, i64_w, i32_w]
       rfl
      refine pure_ (i := 2) (N := some 35) (v := ?_) (a' := ?_) #[true, true, true, false, false, false, false, false, false, false, false, false, false] rfl rfl (any_of HT_.out (by kernel_rfl)) (fun _ _ _ h => h) (Or.inl ⟨by rfl, ?_⟩) ?_ ?_
      rotate_left
      ·intro w'
       go_simp
       with_reducible rfl
      rotate_left
      ·simp only [Act.put, List.setIfInBounds_toArray, List.set_cons_zero, List.set_cons_succ, i64_w, i32_w]
       rfl
      refine pure_ (i := 3) (N := some 36) (v := ?_) (a' := ?_) #[true, true, true, true, false, false, false, false, false, false, false, false, false] rfl rfl (any_of HT_.out (by kernel_rfl)) (fun _ _ _ h => h) (Or.inl ⟨by rfl, ?_⟩) ?_ ?_
      rotate_left
      ·intro w'
       go_simp
       with_reducible rfl
      rotate_left
      ·simp only [Act.put, List.setIfInBounds_toArray, List.set_cons_zero, List.set_cons_succ, i64_w, i32_w]
       rfl
      refine pure_ (i := 4) (N := some 37) (v := ?_) (a' := ?_) #[true, true, true, true, true, false, false, false, false, false, false, false, false] rfl rfl (any_of HT_.out (by kernel_rfl)) (fun _ _ _ h => h) (Or.inl ⟨by rfl, ?_⟩) ?_ ?_
      rotate_left
      ·intro w'
       go_simp
       with_reducible rfl
      rotate_left
      ·simp only [Act.put, List.setIfInBounds_toArray, List.set_cons_zero, List.set_cons_succ, i64_w, i32_w]
       rfl
      refine pure_ (i := 5) (N := some 38) (v := ?_) (a' := ?_) #[true, true, true, true, true, true, false, false, false, false, false, false, false] rfl rfl (any_of HT_.out (by kernel_rfl)) (fun _ _ _ h => h) (Or.inl ⟨by rfl, ?_⟩) ?_ ?_
      rotate_left
      ·intro w'
       go_simp
       with_reducible rfl
      rotate_left
      ·simp only [Act.put, List.setIfInBounds_toArray, List.set_cons_zero, List.set_cons_succ, i64_w, i32_w]
       rfl
      refine take_ (i := 6) (N := some 39) (v := ?_) (a' := ?_) #[true, true, true, true, true, true, true, false, false, false, false, false, false] rfl rfl (take_ofW HT_.out HW_.out (by kernel_rfl)) (fun _ _ _ h => h) (Or.inl ⟨by rfl, ?_⟩) hHeld ?_ ?_
      rotate_left
      ·rintro w' ⟨s0, s1, s2, s3, s4, s5, s6, s7⟩
       go_simp
       with_reducible rfl
      rotate_left
      ·simp only [Act.put, List.setIfInBounds_toArray, List.set_cons_zero, List.set_cons_succ, i64_w, i32_w]
       rfl
      refine pure_ (i := 7) (N := some 40) (v := ?_) (a' := ?_) #[true, true, true, true, true, true, true, true, false, false, false, false, false] rfl rfl (any_of HT_.out (by kernel_rfl)) (fun _ _ _ h => h) (Or.inl ⟨by rfl, ?_⟩) ?_ ?_
      rotate_left
      ·intro w'
       go_simp
       with_reducible rfl
      rotate_left
      ·simp only [Act.put, List.setIfInBounds_toArray, List.set_cons_zero, List.set_cons_succ, i64_w, i32_w]
       rfl
      refine take_ (i := 8) (N := some 41) (v := ?_) (a' := ?_) #[true, true, true, true, true, true, true, true, true, false, false, false, false] rfl rfl (take_ofW HT_.out HW_.out (by kernel_rfl)) (fun _ _ _ h => h) (Or.inl ⟨by rfl, ?_⟩) hHeld ?_ ?_
      rotate_left
      ·rintro w' ⟨s0, s1, s2, s3, s4, s5, s6, s7⟩
       go_simp
       with_reducible rfl
      rotate_left
      ·simp only [Act.put, List.setIfInBounds_toArray, List.set_cons_zero, List.set_cons_succ, i64_w, i32_w]
       rfl
      refine take_ (i := 10) (N := some 43) (v := ?_) (a' := ?_) #[true, true, true, true, true, true, true, true, true, false, true, false, false] rfl rfl (take_ofW HT_.out HW_.out (by kernel_rfl)) (fun _ _ _ h => h) (Or.inl ⟨by rfl, ?_⟩) hHeld ?_ ?_
      rotate_left
      ·rintro w' ⟨s0, s1, s2, s3, s4, s5, s6, s7⟩
       go_simp
       with_reducible rfl
      rotate_left
      ·simp only [Act.put, List.setIfInBounds_toArray, List.set_cons_zero, List.set_cons_succ, i64_w, i32_w]
       rfl
      refine one_ (i := 9) (N := some 42) #[true, true, true, true, true, true, true, true, true, true, true, false, false] rfl rfl (one_of HT_.out (by kernel_rfl)) (by decide) (fun K hK => ?_)
      refine goes_ Try.func14 (by kernel_rfl) rfl #[.int .i64 a0, .agg #[.int .i64 t564, .int .i64 0, .int .i64 0, .int .i64 0], .agg #[.int .i64 t568, .int .i64 t569, .int .i64 t570, .int .i64 t571]] (by rfl) rfl rfl (by (try simp only [List.map_toArray, List.map_cons, List.map_nil]); first | done | rfl | (simp only [List.length_drop, List.length_take]; rfl)) ?_
      with_reducible refine (blend_Over.calls kj5 a0 t564 0 0 0 t568 t569 t570 t571 t582 t583 t584 t585 _ A55.out).mono ?_
      rintro e w57 ⟨rfl, hb⟩
      refine ⟨_, rfl, ?_⟩
      replace KA := bb_ KA hb
      replace KB := bb_ KB hb
      replace KC := bb_ KC hb
      replace KD := bb_ KD hb
      replace HB := Aside0.mk (below_step HB.out hb)
      try clear hb
      refine hK.out _ _ ⟨(blk_cell KB.out 0).trans rfl, (blk_cell KB.out 1).trans rfl, (blk_cell KB.out 2).trans rfl, (blk_cell KB.out 3).trans rfl, (blk_cell KA.out 0).trans rfl, (blk_cell KA.out 1).trans rfl, (blk_cell KA.out 2).trans rfl, (blk_cell KA.out 3).trans rfl⟩ (fun hHeld => ?_)
      clear hK K
      refine norm_ (a' := ?_) ?_ ?_
      rotate_left
      ·show Act.put _ (some 42) _ = _
       simp only [Act.put, List.setIfInBounds_toArray, List.set_cons_zero, List.set_cons_succ, i64_w, i32_w]
       rfl
      refine pure_ (i := 11) (N := some 44) (v := ?_) (a' := ?_) #[true, true, true, true, true, true, true, true, true, true, true, true, false] rfl rfl (any_of HT_.out (by kernel_rfl)) (fun _ _ _ h => h) (Or.inl ⟨by rfl, ?_⟩) ?_ ?_
      rotate_left
      ·intro w'
       go_simp
       with_reducible rfl
      rotate_left
      ·simp only [Act.put, List.setIfInBounds_toArray, List.set_cons_zero, List.set_cons_succ, i64_w, i32_w]
       rfl
      refine pure_ (i := 12) (N := some 45) (v := ?_) (a' := ?_) #[true, true, true, true, true, true, true, true, true, true, true, true, true] rfl rfl (any_of HT_.out (by kernel_rfl)) (fun _ _ _ h => h) (Or.inl ⟨by rfl, ?_⟩) ?_ ?_
      rotate_left
      ·intro w'
       go_simp
       with_reducible rfl
      rotate_left
      ·simp only [Act.put, List.setIfInBounds_toArray, List.set_cons_zero, List.set_cons_succ, i64_w, i32_w]
       rfl
      refine done_ (done_of HT_.out (by kernel_rfl)) ?_
      try go_wp2
      go_meet
      case rel => exact ⟨_, ((!(t582 == t568) || (!(t583 == t569) || (!(t584 == t570) || (!(t585 == t571)))))), (by first | rfl | (simp; done) | (simp [*]; done)), H', ⟨by have := HJ5.out; first | omega | exact Nat.le_refl _⟩, ⟨by (with_reducible repeat (first | refine blk_drewN ?_ _ | refine blk_drew ?_ | refine blk_alloc ?_ _)); exact KA.out⟩, ⟨by (with_reducible repeat (first | refine blk_drewN ?_ _ | refine blk_drew ?_ | refine blk_alloc ?_ _)); exact KB.out⟩, ⟨by (with_reducible repeat (first | refine blk_drewN ?_ _ | refine blk_drew ?_ | refine blk_alloc ?_ _)); exact KC.out⟩, ⟨by (with_reducible repeat (first | refine blk_drewN ?_ _ | refine blk_drew ?_ | refine blk_alloc ?_ _)); exact KD.out⟩, ⟨by repeat (first | (with_reducible first | exact HB.out | apply below_alloc | apply pw_below_drewN | apply below_drew1 | refine below_set ?_ GEA.out | refine below_set ?_ GEB.out | refine below_set ?_ GEC.out | refine below_set ?_ GED.out) | exact HB.out)⟩⟩
     ·rw [if_neg c54] at H
      have c54b0 : decide (0 < t571) = false := decide_eq_false c54
      clear c54
      (first | rw [c54b0] | (simp only [i64_w, i32_w]; rw [c54b0]) | skip)
      have H' := Aside0.mk H
      clear H
      try go_wp2
      replace KA := Aside0.mk (blk_drew KA.out)
      replace KB := Aside0.mk (blk_drew KB.out)
      replace KC := Aside0.mk (blk_drew KC.out)
      replace KD := Aside0.mk (blk_drew KD.out)
      replace HB := Aside0.mk (below_drew1 HB.out)
      refine start_ (n := 13) (S := fun w' => w'.cell? ⟨gB, 0, none⟩ = some (.int .i64 t568) ∧ w'.cell? ⟨gB, 1, none⟩ = some (.int .i64 t569) ∧ w'.cell? ⟨gB, 2, none⟩ = some (.int .i64 t570) ∧ w'.cell? ⟨gB, 3, none⟩ = some (.int .i64 t571)) (ds := []) #[false, false, false, false, false, false, false, false, false, false, false, false, false] (by kernel_rfl) rfl rfl ⟨(blk_cell KB.out 0).trans rfl, (blk_cell KB.out 1).trans rfl, (blk_cell KB.out 2).trans rfl, (blk_cell KB.out 3).trans rfl⟩ (fun hHeld => ?_); refine with_tabW imageeditorlaw10_BlendClears.tab6 imageeditorlaw10_BlendClears.bits6 (fun HT_ HW_ => ?_)
      generalize wc.drew = w58 at KA KB KC KD HB hHeld ⊢
      refine pure_ (i := 0) (N := some 33) (v := ?_) (a' := ?_) #[true, false, false, false, false, false, false, false, false, false, false, false, false] rfl rfl (any_of HT_.out (by kernel_rfl)) (fun _ _ _ h => h) (Or.inl ⟨by rfl, ?_⟩) ?_ ?_
      rotate_left
      ·intro w'
       go_simp
       with_reducible rfl
      rotate_left
      ·simp only [Act.put, List.setIfInBounds_toArray, List.set_cons_zero, List.set_cons_succ, i64_w, i32_w]
       rfl
      refine take_ (i := 1) (N := some 34) (v := ?_) (a' := ?_) #[true, true, false, false, false, false, false, false, false, false, false, false, false] rfl rfl (take_ofW HT_.out HW_.out (by kernel_rfl)) (fun _ _ _ h => h) (Or.inl ⟨by rfl, ?_⟩) hHeld ?_ ?_
      rotate_left
      ·rintro w' ⟨s0, s1, s2, s3⟩
       go_simp
       with_reducible rfl
      rotate_left
      ·simp only [Act.put, List.setIfInBounds_toArray, List.set_cons_zero, List.set_cons_succ, i64_w, i32_w]
       rfl
      refine pure_ (i := 2) (N := some 35) (v := ?_) (a' := ?_) #[true, true, true, false, false, false, false, false, false, false, false, false, false] rfl rfl (any_of HT_.out (by kernel_rfl)) (fun _ _ _ h => h) (Or.inl ⟨by rfl, ?_⟩) ?_ ?_
      rotate_left
      ·intro w'
       go_simp
       with_reducible rfl
      rotate_left
      ·simp only [Act.put, List.setIfInBounds_toArray, List.set_cons_zero, List.set_cons_succ, i64_w, i32_w]
       rfl
      refine pure_ (i := 3) (N := some 36) (v := ?_) (a' := ?_) #[true, true, true, true, false, false, false, false, false, false, false, false, false] rfl rfl (any_of HT_.out (by kernel_rfl)) (fun _ _ _ h => h) (Or.inl ⟨by rfl, ?_⟩) ?_ ?_
      rotate_left
      ·intro w'
       go_simp
       with_reducible rfl
      rotate_left
      ·simp only [Act.put, List.setIfInBounds_toArray, List.set_cons_zero, List.set_cons_succ, i64_w, i32_w]
       rfl
      refine pure_ (i := 4) (N := some 37) (v := undef) (a' := ?_) #[true, true, true, true, true, false, false, false, false, false, false, false, false] rfl rfl (any_of HT_.out (by kernel_rfl)) (fun _ _ _ h => h) (Or.inr ⟨by rfl, rfl⟩) ?_ ?_
      rotate_left
      ·simp only [Act.put, List.setIfInBounds_toArray, List.set_cons_zero, List.set_cons_succ, i64_w, i32_w]
       rfl
      refine pure_ (i := 5) (N := some 38) (v := undef) (a' := ?_) #[true, true, true, true, true, true, false, false, false, false, false, false, false] rfl rfl (any_of HT_.out (by kernel_rfl)) (fun _ _ _ h => h) (Or.inr ⟨by rfl, rfl⟩) ?_ ?_
      rotate_left
      ·simp only [Act.put, List.setIfInBounds_toArray, List.set_cons_zero, List.set_cons_succ, i64_w, i32_w]
       rfl
      refine pure_ (i := 6) (N := some 39) (v := undef) (a' := ?_) #[true, true, true, true, true, true, true, false, false, false, false, false, false] rfl rfl (any_of HT_.out (by kernel_rfl)) (fun _ _ _ h => h) (Or.inr ⟨by rfl, rfl⟩) ?_ ?_
      rotate_left
      ·simp only [Act.put, List.setIfInBounds_toArray, List.set_cons_zero, List.set_cons_succ, i64_w, i32_w]
       rfl
      refine pure_ (i := 7) (N := some 40) (v := undef) (a' := ?_) #[true, true, true, true, true, true, true, true, false, false, false, false, false] rfl rfl (any_of HT_.out (by kernel_rfl)) (fun _ _ _ h => h) (Or.inr ⟨by rfl, rfl⟩) ?_ ?_
      rotate_left
      ·simp only [Act.put, List.setIfInBounds_toArray, List.set_cons_zero, List.set_cons_succ, i64_w, i32_w]
       rfl
      refine pure_ (i := 8) (N := some 41) (v := undef) (a' := ?_) #[true, true, true, true, true, true, true, true, true, false, false, false, false] rfl rfl (any_of HT_.out (by kernel_rfl)) (fun _ _ _ h => h) (Or.inr ⟨by rfl, rfl⟩) ?_ ?_
      rotate_left
      ·simp only [Act.put, List.setIfInBounds_toArray, List.set_cons_zero, List.set_cons_succ, i64_w, i32_w]
       rfl
      refine pure_ (i := 9) (N := some 42) (v := undef) (a' := ?_) #[true, true, true, true, true, true, true, true, true, true, false, false, false] rfl rfl (any_of HT_.out (by kernel_rfl)) (fun _ _ _ h => h) (Or.inr ⟨by rfl, rfl⟩) ?_ ?_
      rotate_left
      ·simp only [Act.put, List.setIfInBounds_toArray, List.set_cons_zero, List.set_cons_succ, i64_w, i32_w]
       rfl
      refine pure_ (i := 10) (N := some 43) (v := undef) (a' := ?_) #[true, true, true, true, true, true, true, true, true, true, true, false, false] rfl rfl (any_of HT_.out (by kernel_rfl)) (fun _ _ _ h => h) (Or.inr ⟨by rfl, rfl⟩) ?_ ?_
      rotate_left
      ·simp only [Act.put, List.setIfInBounds_toArray, List.set_cons_zero, List.set_cons_succ, i64_w, i32_w]
       rfl
      refine pure_ (i := 11) (N := some 44) (v := undef) (a' := ?_) #[true, true, true, true, true, true, true, true, true, true, true, true, false] rfl rfl (any_of HT_.out (by kernel_rfl)) (fun _ _ _ h => h) (Or.inr ⟨by rfl, rfl⟩) ?_ ?_
      rotate_left
      ·simp only [Act.put, List.setIfInBounds_toArray, List.set_cons_zero, List.set_cons_succ, i64_w, i32_w]
       rfl
      refine pure_ (i := 12) (N := some 45) (v := ?_) (a' := ?_) #[true, true, true, true, true, true, true, true, true, true, true, true, true] rfl rfl (any_of HT_.out (by kernel_rfl)) (fun _ _ _ h => h) (Or.inl ⟨by rfl, ?_⟩) ?_ ?_
      rotate_left
      ·intro w'
       go_simp
       with_reducible rfl
      rotate_left
      ·simp only [Act.put, List.setIfInBounds_toArray, List.set_cons_zero, List.set_cons_succ, i64_w, i32_w]
       rfl
      refine done_ (done_of HT_.out (by kernel_rfl)) ?_
      try go_wp2
      go_meet
      case rel => exact ⟨_, (false), (by first | rfl | (simp; done) | (simp [*]; done)), H', ⟨by have := HJ5.out; first | omega | exact Nat.le_refl _⟩, ⟨by (with_reducible repeat (first | refine blk_drewN ?_ _ | refine blk_drew ?_ | refine blk_alloc ?_ _)); exact KA.out⟩, ⟨by (with_reducible repeat (first | refine blk_drewN ?_ _ | refine blk_drew ?_ | refine blk_alloc ?_ _)); exact KB.out⟩, ⟨by (with_reducible repeat (first | refine blk_drewN ?_ _ | refine blk_drew ?_ | refine blk_alloc ?_ _)); exact KC.out⟩, ⟨by (with_reducible repeat (first | refine blk_drewN ?_ _ | refine blk_drew ?_ | refine blk_alloc ?_ _)); exact KD.out⟩, ⟨by repeat (first | (with_reducible first | exact HB.out | apply below_alloc | apply pw_below_drewN | apply below_drew1 | refine below_set ?_ GEA.out | refine below_set ?_ GEB.out | refine below_set ?_ GEC.out | refine below_set ?_ GED.out) | exact HB.out)⟩⟩
    case rest =>
     clear HC53
     try clear c1
     try clear p2
     try clear c3
     try clear c4
     try clear c5
     try clear c14
     try clear c33
     try clear c34
     try clear c35
     try clear c37
     try clear c38
     try clear c40
     try clear c40b0
     try clear c45
     try clear c45b0
     try clear c45b1
     try clear c45b2
     try clear c52
     try clear c54
     try clear c54b0
     try clear hcz36_0
     try clear hcz36_1
     try clear hcz36_2
     try clear hcz36_3
     try clear hcz39_0
     try clear hcz39_1
     try clear hcz39_2
     try clear hcz39_3
     try clear hfz36_0
     try clear hfz36_1
     try clear hfz36_2
     try clear hfz36_3
     try clear hfz39_0
     try clear hfz39_1
     try clear hfz39_2
     try clear hfz39_3
     try clear p2
     obtain ⟨kq, x45_52, rfl, HA, HJ52, KA, KB, KC, KD, HB⟩ := hcut
     cases kq with
     | zero => exact absurd HA.out (by simp [imageeditorlaw10_BlendClears.j1])
     | succ kj52 =>
      have H := HA.out
      clear HA
      simp only [imageeditorlaw10_BlendClears.j1] at H
      by_cases c59 : x45_52 = true
      ·subst c59
       have H1 : (some false) = some r := by rw [if_pos rfl] at H; exact H
       clear H
       have H := H1
       clear H1
       obtain rfl := Option.some.inj H
       go_wp2
       go_ret
       exact ⟨by first | rfl | (simp [errW_none, errW_some] <;> rfl) | (simp [*, errW_none, errW_some] <;> rfl), by repeat (first | (with_reducible first | exact HB.out | apply below_alloc | apply pw_below_drewN | apply below_drew1 | refine below_set ?_ GEA.out | refine below_set ?_ GEB.out | refine below_set ?_ GEC.out | refine below_set ?_ GED.out) | exact HB.out)⟩
      ·replace c59 := Bool.eq_false_iff.mpr c59
       subst c59
       have H1 : ((blend_Over.f kj52 0 t564 t565 t566 t567 t568 t569 t570 65535).bind fun bt586 => (if (bt586.1 == t568 && (bt586.2.1 == t569 && (bt586.2.2.1 == t570 && (bt586.2.2.2 == 65535)))) = true then ((imageeditorlaw10_example.f kj52).bind fun t590 => (some t590)) else (some false))) = some r := by rw [if_neg (show ¬ (false = true) by decide)] at H; exact H
       clear H
       have H := H1
       clear H1
       replace H := Option.bind_eq_some_iff.mp H
       obtain ⟨⟨t586, t587, t588, t589⟩, A600, H⟩ := H
       replace H : (if (t586 == t568 && (t587 == t569 && (t588 == t570 && (t589 == 65535)))) = true then ((imageeditorlaw10_example.f kj52).bind fun t590 => (some t590)) else (some false)) = some r := H
       have A60 := Aside0.mk A600
       clear A600
       by_cases c61 : (t586 == t568 && (t587 == t569 && (t588 == t570 && (t589 == 65535)))) = true
       ·rw [if_pos c61] at H
        have c61b0 : (t586 == t568 && (t587 == t569 && (t588 == t570 && (t589 == 65535)))) = true := c61
        (try (have c61b1 : decide (t586 = t568 && (t587 == t569 && (t588 == t570 && (t589 == 65535)))) = true := by simpa using c61))
        (try (have c61b2 : (t586 == t568 && (t587 == t569 && (t588 == t570 && (t589 == 65535)))) = true := by simpa using c61))
        clear c61
        replace H := Option.bind_eq_some_iff.mp H
        obtain ⟨t590, A620, H⟩ := H
        replace H : (some t590) = some r := H
        have A62 := Aside0.mk A620
        clear A620
        obtain rfl := Option.some.inj H
        try go_wp2
        replace KA := Aside0.mk (blk_drew KA.out)
        replace KB := Aside0.mk (blk_drew KB.out)
        replace KC := Aside0.mk (blk_drew KC.out)
        replace KD := Aside0.mk (blk_drew KD.out)
        replace HB := Aside0.mk (below_drew1 HB.out)
        refine start_ (n := 9) (S := fun w' => w'.cell? ⟨gA, 0, none⟩ = some (.int .i64 t564) ∧ w'.cell? ⟨gA, 1, none⟩ = some (.int .i64 t565) ∧ w'.cell? ⟨gA, 2, none⟩ = some (.int .i64 t566) ∧ w'.cell? ⟨gA, 3, none⟩ = some (.int .i64 t567) ∧ w'.cell? ⟨gD, 0, none⟩ = some (.int .i64 t568) ∧ w'.cell? ⟨gD, 1, none⟩ = some (.int .i64 t569) ∧ w'.cell? ⟨gD, 2, none⟩ = some (.int .i64 t570) ∧ w'.cell? ⟨gD, 3, none⟩ = some (.int .i64 65535)) (ds := []) #[false, false, false, false, false, false, false, false, false] (by kernel_rfl) rfl rfl ⟨(blk_cell KA.out 0).trans rfl, (blk_cell KA.out 1).trans rfl, (blk_cell KA.out 2).trans rfl, (blk_cell KA.out 3).trans rfl, (blk_cell KD.out 0).trans rfl, (blk_cell KD.out 1).trans rfl, (blk_cell KD.out 2).trans rfl, (blk_cell KD.out 3).trans rfl⟩ (fun hHeld => ?_); refine with_tabW imageeditorlaw10_BlendClears.tab8 imageeditorlaw10_BlendClears.bits8 (fun HT_ HW_ => ?_)
        generalize wc.drew = w63 at KA KB KC KD HB hHeld ⊢
        refine take_ (i := 0) (N := some 46) (v := ?_) (a' := ?_) #[true, false, false, false, false, false, false, false, false] rfl rfl (take_ofW HT_.out HW_.out (by kernel_rfl)) (fun _ _ _ h => h) (Or.inl ⟨by rfl, ?_⟩) hHeld ?_ ?_
        rotate_left
        ·rintro w' ⟨s0, s1, s2, s3, s4, s5, s6, s7⟩
         go_simp
         with_reducible rfl
        rotate_left
        ·simp only [Act.put, List.setIfInBounds_toArray, List.set_cons_zero, List.set_cons_succ, i64_w, i32_w]
         rfl
        refine take_ (i := 1) (N := some 47) (v := ?_) (a' := ?_) #[true, true, false, false, false, false, false, false, false] rfl rfl (take_ofW HT_.out HW_.out (by kernel_rfl)) (fun _ _ _ h => h) (Or.inl ⟨by rfl, ?_⟩) hHeld ?_ ?_
        rotate_left
        ·rintro w' ⟨s0, s1, s2, s3, s4, s5, s6, s7⟩
         go_simp
         with_reducible rfl
        rotate_left
        ·simp only [Act.put, List.setIfInBounds_toArray, List.set_cons_zero, List.set_cons_succ, i64_w, i32_w]
         rfl
        refine take_ (i := 3) (N := some 49) (v := ?_) (a' := ?_) #[true, true, false, true, false, false, false, false, false] rfl rfl (take_ofW HT_.out HW_.out (by kernel_rfl)) (fun _ _ _ h => h) (Or.inl ⟨by rfl, ?_⟩) hHeld ?_ ?_
        rotate_left
        ·rintro w' ⟨s0, s1, s2, s3, s4, s5, s6, s7⟩
         go_simp
         with_reducible rfl
        rotate_left
        ·simp only [Act.put, List.setIfInBounds_toArray, List.set_cons_zero, List.set_cons_succ, i64_w, i32_w]
         rfl
        refine one_ (i := 2) (N := some 48) #[true, true, true, true, false, false, false, false, false] rfl rfl (one_of HT_.out (by kernel_rfl)) (by decide) (fun K hK => ?_)
        refine goes_ Try.func14 (by kernel_rfl) rfl #[.int .i64 0, .agg #[.int .i64 t564, .int .i64 t565, .int .i64 t566, .int .i64 t567], .agg #[.int .i64 t568, .int .i64 t569, .int .i64 t570, .int .i64 65535]] (by rfl) rfl rfl (by (try simp only [List.map_toArray, List.map_cons, List.map_nil]); first | done | rfl | (simp only [List.length_drop, List.length_take]; rfl)) ?_
        with_reducible refine (blend_Over.calls kj52 0 t564 t565 t566 t567 t568 t569 t570 65535 t586 t587 t588 t589 _ A60.out).mono ?_
        rintro e w64 ⟨rfl, hb⟩
        refine ⟨_, rfl, ?_⟩
        replace KA := bb_ KA hb
        replace KB := bb_ KB hb
        replace KC := bb_ KC hb
        replace KD := bb_ KD hb
        replace HB := Aside0.mk (below_step HB.out hb)
        try clear hb
        refine hK.out _ _ ⟨(blk_cell KA.out 0).trans rfl, (blk_cell KA.out 1).trans rfl, (blk_cell KA.out 2).trans rfl, (blk_cell KA.out 3).trans rfl, (blk_cell KD.out 0).trans rfl, (blk_cell KD.out 1).trans rfl, (blk_cell KD.out 2).trans rfl, (blk_cell KD.out 3).trans rfl⟩ (fun hHeld => ?_)
        clear hK K
        refine norm_ (a' := ?_) ?_ ?_
        rotate_left
        ·show Act.put _ (some 48) _ = _
         simp only [Act.put, List.setIfInBounds_toArray, List.set_cons_zero, List.set_cons_succ, i64_w, i32_w]
         rfl
        refine pure_ (i := 4) (N := some 50) (v := ?_) (a' := ?_) #[true, true, true, true, true, false, false, false, false] rfl rfl (any_of HT_.out (by kernel_rfl)) (fun _ _ _ h => h) (Or.inl ⟨by rfl, ?_⟩) ?_ ?_
        rotate_left
        ·intro w'
         go_simp
         with_reducible rfl
        rotate_left
        ·simp only [Act.put, List.setIfInBounds_toArray, List.set_cons_zero, List.set_cons_succ, i64_w, i32_w]
         rfl
        refine pure_ (i := 5) (N := some 51) (v := ?_) (a' := ?_) #[true, true, true, true, true, true, false, false, false] rfl rfl (any_of HT_.out (by kernel_rfl)) (fun _ _ _ h => h) (Or.inl ⟨by rfl, ?_⟩) ?_ ?_
        rotate_left
        ·intro w'
         go_simp
         with_reducible rfl
        rotate_left
        ·simp only [Act.put, List.setIfInBounds_toArray, List.set_cons_zero, List.set_cons_succ, i64_w, i32_w]
         rfl
        refine one_ (i := 6) (N := some 52) #[true, true, true, true, true, true, true, false, false] rfl rfl (one_of HT_.out (by kernel_rfl)) (by decide) (fun K hK => ?_)
        refine goes_ Try.func13 (by kernel_rfl) rfl #[] (by rfl) rfl rfl (by (try simp only [List.map_toArray, List.map_cons, List.map_nil]); first | done | rfl | (simp only [List.length_drop, List.length_take]; rfl)) ?_
        with_reducible refine (imageeditorlaw10_example.calls kj52  t590 _ A62.out).mono ?_
        rintro e w65 ⟨rfl, hb⟩
        refine ⟨_, rfl, ?_⟩
        replace KA := bb_ KA hb
        replace KB := bb_ KB hb
        replace KC := bb_ KC hb
        replace KD := bb_ KD hb
        replace HB := Aside0.mk (below_step HB.out hb)
        try clear hb
        refine hK.out _ _ ⟨(blk_cell KA.out 0).trans rfl, (blk_cell KA.out 1).trans rfl, (blk_cell KA.out 2).trans rfl, (blk_cell KA.out 3).trans rfl, (blk_cell KD.out 0).trans rfl, (blk_cell KD.out 1).trans rfl, (blk_cell KD.out 2).trans rfl, (blk_cell KD.out 3).trans rfl⟩ (fun hHeld => ?_)
        clear hK K
        refine norm_ (a' := ?_) ?_ ?_
        rotate_left
        ·show Act.put _ (some 52) _ = _
         simp only [Act.put, List.setIfInBounds_toArray, List.set_cons_zero, List.set_cons_succ, i64_w, i32_w]
         rfl
        refine pure_ (i := 7) (N := some 53) (v := ?_) (a' := ?_) #[true, true, true, true, true, true, true, true, false] rfl rfl (any_of HT_.out (by kernel_rfl)) (fun _ _ _ h => h) (Or.inl ⟨by rfl, ?_⟩) ?_ ?_
        rotate_left
        ·intro w'
         go_simp
         with_reducible rfl
        rotate_left
        ·simp only [Act.put, List.setIfInBounds_toArray, List.set_cons_zero, List.set_cons_succ, i64_w, i32_w]
         rfl
        refine pure_ (i := 8) (N := some 6) (v := ?_) (a' := ?_) #[true, true, true, true, true, true, true, true, true] rfl rfl (any_of HT_.out (by kernel_rfl)) (fun _ _ _ h => h) (Or.inl ⟨by rfl, ?_⟩) ?_ ?_
        rotate_left
        ·intro w'
         go_simp
         with_reducible rfl
        rotate_left
        ·simp only [Act.put, List.setIfInBounds_toArray, List.set_cons_zero, List.set_cons_succ, i64_w, i32_w]
         rfl
        refine done_ (done_of HT_.out (by kernel_rfl)) ?_
        try go_wp2
        go_ret
        exact ⟨by first | rfl | (simp [errW_none, errW_some] <;> rfl) | (simp [*, errW_none, errW_some] <;> rfl), by repeat (first | (with_reducible first | exact HB.out | apply below_alloc | apply pw_below_drewN | apply below_drew1 | refine below_set ?_ GEA.out | refine below_set ?_ GEB.out | refine below_set ?_ GEC.out | refine below_set ?_ GED.out) | exact HB.out)⟩
       ·rw [if_neg c61] at H
        have c61b0 : (t586 == t568 && (t587 == t569 && (t588 == t570 && (t589 == 65535)))) = false := by simpa using c61
        (try (have c61b1 : decide (t586 = t568 && (t587 == t569 && (t588 == t570 && (t589 == 65535)))) = false := by simpa using c61))
        (try (have c61b2 : (t586 == t568 && (t587 == t569 && (t588 == t570 && (t589 == 65535)))) = false := by simpa using c61))
        (try (have c61b3 : ¬ (t586 = t568 && (t587 == t569 && (t588 == t570 && (t589 == 65535)))) := by simpa using c61))
        clear c61
        obtain rfl := Option.some.inj H
        try go_wp2
        replace KA := Aside0.mk (blk_drew KA.out)
        replace KB := Aside0.mk (blk_drew KB.out)
        replace KC := Aside0.mk (blk_drew KC.out)
        replace KD := Aside0.mk (blk_drew KD.out)
        replace HB := Aside0.mk (below_drew1 HB.out)
        refine start_ (n := 9) (S := fun w' => w'.cell? ⟨gA, 0, none⟩ = some (.int .i64 t564) ∧ w'.cell? ⟨gA, 1, none⟩ = some (.int .i64 t565) ∧ w'.cell? ⟨gA, 2, none⟩ = some (.int .i64 t566) ∧ w'.cell? ⟨gA, 3, none⟩ = some (.int .i64 t567) ∧ w'.cell? ⟨gD, 0, none⟩ = some (.int .i64 t568) ∧ w'.cell? ⟨gD, 1, none⟩ = some (.int .i64 t569) ∧ w'.cell? ⟨gD, 2, none⟩ = some (.int .i64 t570) ∧ w'.cell? ⟨gD, 3, none⟩ = some (.int .i64 65535)) (ds := []) #[false, false, false, false, false, false, false, false, false] (by kernel_rfl) rfl rfl ⟨(blk_cell KA.out 0).trans rfl, (blk_cell KA.out 1).trans rfl, (blk_cell KA.out 2).trans rfl, (blk_cell KA.out 3).trans rfl, (blk_cell KD.out 0).trans rfl, (blk_cell KD.out 1).trans rfl, (blk_cell KD.out 2).trans rfl, (blk_cell KD.out 3).trans rfl⟩ (fun hHeld => ?_); refine with_tabW imageeditorlaw10_BlendClears.tab8 imageeditorlaw10_BlendClears.bits8 (fun HT_ HW_ => ?_)
        generalize wc.drew = w66 at KA KB KC KD HB hHeld ⊢
        refine take_ (i := 0) (N := some 46) (v := ?_) (a' := ?_) #[true, false, false, false, false, false, false, false, false] rfl rfl (take_ofW HT_.out HW_.out (by kernel_rfl)) (fun _ _ _ h => h) (Or.inl ⟨by rfl, ?_⟩) hHeld ?_ ?_
        rotate_left
        ·rintro w' ⟨s0, s1, s2, s3, s4, s5, s6, s7⟩
         go_simp
         with_reducible rfl
        rotate_left
        ·simp only [Act.put, List.setIfInBounds_toArray, List.set_cons_zero, List.set_cons_succ, i64_w, i32_w]
         rfl
        refine take_ (i := 1) (N := some 47) (v := ?_) (a' := ?_) #[true, true, false, false, false, false, false, false, false] rfl rfl (take_ofW HT_.out HW_.out (by kernel_rfl)) (fun _ _ _ h => h) (Or.inl ⟨by rfl, ?_⟩) hHeld ?_ ?_
        rotate_left
        ·rintro w' ⟨s0, s1, s2, s3, s4, s5, s6, s7⟩
         go_simp
         with_reducible rfl
        rotate_left
        ·simp only [Act.put, List.setIfInBounds_toArray, List.set_cons_zero, List.set_cons_succ, i64_w, i32_w]
         rfl
        refine take_ (i := 3) (N := some 49) (v := ?_) (a' := ?_) #[true, true, false, true, false, false, false, false, false] rfl rfl (take_ofW HT_.out HW_.out (by kernel_rfl)) (fun _ _ _ h => h) (Or.inl ⟨by rfl, ?_⟩) hHeld ?_ ?_
        rotate_left
        ·rintro w' ⟨s0, s1, s2, s3, s4, s5, s6, s7⟩
         go_simp
         with_reducible rfl
        rotate_left
        ·simp only [Act.put, List.setIfInBounds_toArray, List.set_cons_zero, List.set_cons_succ, i64_w, i32_w]
         rfl
        refine one_ (i := 2) (N := some 48) #[true, true, true, true, false, false, false, false, false] rfl rfl (one_of HT_.out (by kernel_rfl)) (by decide) (fun K hK => ?_)
        refine goes_ Try.func14 (by kernel_rfl) rfl #[.int .i64 0, .agg #[.int .i64 t564, .int .i64 t565, .int .i64 t566, .int .i64 t567], .agg #[.int .i64 t568, .int .i64 t569, .int .i64 t570, .int .i64 65535]] (by rfl) rfl rfl (by (try simp only [List.map_toArray, List.map_cons, List.map_nil]); first | done | rfl | (simp only [List.length_drop, List.length_take]; rfl)) ?_
        with_reducible refine (blend_Over.calls kj52 0 t564 t565 t566 t567 t568 t569 t570 65535 t586 t587 t588 t589 _ A60.out).mono ?_
        rintro e w67 ⟨rfl, hb⟩
        refine ⟨_, rfl, ?_⟩
        replace KA := bb_ KA hb
        replace KB := bb_ KB hb
        replace KC := bb_ KC hb
        replace KD := bb_ KD hb
        replace HB := Aside0.mk (below_step HB.out hb)
        try clear hb
        refine hK.out _ _ ⟨(blk_cell KA.out 0).trans rfl, (blk_cell KA.out 1).trans rfl, (blk_cell KA.out 2).trans rfl, (blk_cell KA.out 3).trans rfl, (blk_cell KD.out 0).trans rfl, (blk_cell KD.out 1).trans rfl, (blk_cell KD.out 2).trans rfl, (blk_cell KD.out 3).trans rfl⟩ (fun hHeld => ?_)
        clear hK K
        refine norm_ (a' := ?_) ?_ ?_
        rotate_left
        ·show Act.put _ (some 48) _ = _
         simp only [Act.put, List.setIfInBounds_toArray, List.set_cons_zero, List.set_cons_succ, i64_w, i32_w]
         rfl
        refine pure_ (i := 4) (N := some 50) (v := ?_) (a' := ?_) #[true, true, true, true, true, false, false, false, false] rfl rfl (any_of HT_.out (by kernel_rfl)) (fun _ _ _ h => h) (Or.inl ⟨by rfl, ?_⟩) ?_ ?_
        rotate_left
        ·intro w'
         go_simp
         with_reducible rfl
        rotate_left
        ·simp only [Act.put, List.setIfInBounds_toArray, List.set_cons_zero, List.set_cons_succ, i64_w, i32_w]
         rfl
        refine pure_ (i := 5) (N := some 51) (v := ?_) (a' := ?_) #[true, true, true, true, true, true, false, false, false] rfl rfl (any_of HT_.out (by kernel_rfl)) (fun _ _ _ h => h) (Or.inl ⟨by rfl, ?_⟩) ?_ ?_
        rotate_left
        ·intro w'
         go_simp
         with_reducible rfl
        rotate_left
        ·simp only [Act.put, List.setIfInBounds_toArray, List.set_cons_zero, List.set_cons_succ, i64_w, i32_w]
         rfl
        refine pure_ (i := 6) (N := some 52) (v := undef) (a' := ?_) #[true, true, true, true, true, true, true, false, false] rfl rfl (any_of HT_.out (by kernel_rfl)) (fun _ _ _ h => h) (Or.inr ⟨by rfl, rfl⟩) ?_ ?_
        rotate_left
        ·simp only [Act.put, List.setIfInBounds_toArray, List.set_cons_zero, List.set_cons_succ, i64_w, i32_w]
         rfl
        refine pure_ (i := 7) (N := some 53) (v := ?_) (a' := ?_) #[true, true, true, true, true, true, true, true, false] rfl rfl (any_of HT_.out (by kernel_rfl)) (fun _ _ _ h => h) (Or.inl ⟨by rfl, ?_⟩) ?_ ?_
        rotate_left
        ·intro w'
         go_simp
         with_reducible rfl
        rotate_left
        ·simp only [Act.put, List.setIfInBounds_toArray, List.set_cons_zero, List.set_cons_succ, i64_w, i32_w]
         rfl
        refine pure_ (i := 8) (N := some 6) (v := ?_) (a' := ?_) #[true, true, true, true, true, true, true, true, true] rfl rfl (any_of HT_.out (by kernel_rfl)) (fun _ _ _ h => h) (Or.inl ⟨by rfl, ?_⟩) ?_ ?_
        rotate_left
        ·intro w'
         go_simp
         with_reducible rfl
        rotate_left
        ·simp only [Act.put, List.setIfInBounds_toArray, List.set_cons_zero, List.set_cons_succ, i64_w, i32_w]
         rfl
        refine done_ (done_of HT_.out (by kernel_rfl)) ?_
        try go_wp2
        go_ret
        exact ⟨by first | rfl | (simp [errW_none, errW_some] <;> rfl) | (simp [*, errW_none, errW_some] <;> rfl), by repeat (first | (with_reducible first | exact HB.out | apply below_alloc | apply pw_below_drewN | apply below_drew1 | refine below_set ?_ GEA.out | refine below_set ?_ GEB.out | refine below_set ?_ GEC.out | refine below_set ?_ GED.out) | exact HB.out)⟩

end Go.Proofs.Ytnijapaaickifaa.Q
