-- Written for this claim by a program of this session (handprint.py) that drives the kit's print. Not trusted: Lean checks it.
import Derived.Test.YtnijapaaickifaaI0
import Derived.Test.YtnijapaaickifaaI1
namespace Go.Proofs.Ytnijapaaickifaa.I
open Go.RowKit Go.Proofs.YtnijapaaickifaaW.PrintWords Go.Proofs.YtnijapaaickifaaW.PrintLast
attribute [local go_sem] max2_int min2_int max_two min_two max_three min_three max_four min_four
set_option linter.unusedVariables false
set_option linter.unusedSimpArgs false

attribute [local go_sem high] eqA32
/-! ### imageeditorlaw10_same: function 28 -/
mutual
def imageeditorlaw10_same.j0 : Nat → Bool → Int → Int → List (S32) → Int → Int → List (S32) → Option (Bool)
  | 0, _, _, _, _, _, _, _ => none
  | k + 1, x26, x493000, x493001, x493002, x494000, x494001, x494002 => if x26 = true then (some false) else (imageeditorlaw10_same.l0 k 0 x493000 x493001 x493002 x494000 x494001 x494002)
def imageeditorlaw10_same.l0 : Nat → Int → Int → Int → List (S32) → Int → Int → List (S32) → Option (Bool)
  | 0, _, _, _, _, _, _, _ => none
  | k + 1, x5, x493000, x493001, x493002, x494000, x494001, x494002 => if x5 < (x493002.length : Int) then (if 0 ≤ x5 then (if x5 < (x494002.length : Int) then (if (!(((rd_T32 x493002 x5).f0) == ((rd_T32 x494002 x5).f0)) || (!(((rd_T32 x493002 x5).f1) == ((rd_T32 x494002 x5).f1)) || (!(((rd_T32 x493002 x5).f2) == ((rd_T32 x494002 x5).f2)) || (!(((rd_T32 x493002 x5).f3) == ((rd_T32 x494002 x5).f3)))))) = true then (some false) else (imageeditorlaw10_same.l0 k (wrap64 (x5 + 1)) x493000 x493001 x493002 x494000 x494001 x494002)) else (none)) else (none)) else (some true)
end
def imageeditorlaw10_same.f (k : Nat) (a0_0 : Int) (a0_1 : Int) (l0_2 : List (S32)) (a1_0 : Int) (a1_1 : Int) (l1_2 : List (S32)) : Option (Bool) := if a0_0 = a1_0 then (if a0_1 = a1_1 then (imageeditorlaw10_same.j0 k ((l0_2.length : Int) != (l1_2.length : Int)) a0_0 a0_1 l0_2 a1_0 a1_1 l1_2) else (imageeditorlaw10_same.j0 k true a0_0 a0_1 l0_2 a1_0 a1_1 l1_2)) else (imageeditorlaw10_same.j0 k true a0_0 a0_1 l0_2 a1_0 a1_1 l1_2)
theorem imageeditorlaw10_same.mono_l : ∀ k, (∀ y0 y1 y2 y3 y4 y5 y6, LeO (imageeditorlaw10_same.j0 k y0 y1 y2 y3 y4 y5 y6) (imageeditorlaw10_same.j0 (k + 1) y0 y1 y2 y3 y4 y5 y6)) ∧ (∀ y0 y1 y2 y3 y4 y5 y6, LeO (imageeditorlaw10_same.l0 k y0 y1 y2 y3 y4 y5 y6) (imageeditorlaw10_same.l0 (k + 1) y0 y1 y2 y3 y4 y5 y6))
  | 0 => ⟨fun _ _ _ _ _ _ _ r h => by simp [imageeditorlaw10_same.j0] at h, fun _ _ _ _ _ _ _ r h => by simp [imageeditorlaw10_same.l0] at h⟩
  | k + 1 => by
    obtain ⟨ih0, ih1⟩ := imageeditorlaw10_same.mono_l k
    refine ⟨?_, ?_⟩
    · intro y0 y1 y2 y3 y4 y5 y6
      unfold imageeditorlaw10_same.j0
      repeat' first
      | (with_reducible exact ih0 _ _ _ _ _ _ _)
      | (with_reducible exact ih1 _ _ _ _ _ _ _)
      | (with_reducible exact LeO.refl _)
      | (with_reducible exact LeO.none _)
      | (with_reducible refine LeO.ite ?_ ?_)
      | (with_reducible refine LeO.bind ?_ (fun _ => ?_))
      | exact ih0 _ _ _ _ _ _ _
      | exact ih1 _ _ _ _ _ _ _
      | exact LeO.none _
      | refine LeO.ite ?_ ?_
      | refine LeO.bind ?_ (fun _ => ?_)
    · intro y0 y1 y2 y3 y4 y5 y6
      unfold imageeditorlaw10_same.l0
      repeat' first
      | (with_reducible exact ih0 _ _ _ _ _ _ _)
      | (with_reducible exact ih1 _ _ _ _ _ _ _)
      | (with_reducible exact LeO.refl _)
      | (with_reducible exact LeO.none _)
      | (with_reducible refine LeO.ite ?_ ?_)
      | (with_reducible refine LeO.bind ?_ (fun _ => ?_))
      | exact ih0 _ _ _ _ _ _ _
      | exact ih1 _ _ _ _ _ _ _
      | exact LeO.none _
      | refine LeO.ite ?_ ?_
      | refine LeO.bind ?_ (fun _ => ?_)
theorem imageeditorlaw10_same.mono : ∀ a0 a1 a2 a3 a4 a5 k, LeO (imageeditorlaw10_same.f k a0 a1 a2 a3 a4 a5) (imageeditorlaw10_same.f (k + 1) a0 a1 a2 a3 a4 a5) := by
  intro a0 a1 a2 a3 a4 a5 k
  obtain ⟨ih0, ih1⟩ := imageeditorlaw10_same.mono_l k
  unfold imageeditorlaw10_same.f
  repeat' first
      | (with_reducible exact ih0 _ _ _ _ _ _ _)
      | (with_reducible exact ih1 _ _ _ _ _ _ _)
      | (with_reducible exact LeO.refl _)
      | (with_reducible exact LeO.none _)
      | (with_reducible refine LeO.ite ?_ ?_)
      | (with_reducible refine LeO.bind ?_ (fun _ => ?_))
      | exact ih0 _ _ _ _ _ _ _
      | exact ih1 _ _ _ _ _ _ _
      | exact LeO.none _
      | refine LeO.ite ?_ ?_
      | refine LeO.bind ?_ (fun _ => ?_)
set_option maxHeartbeats 8000000 in
set_option maxRecDepth 100000 in
theorem imageeditorlaw10_same.calls (k : Nat) (a0_0 : Int) (a0_1 : Int) (A0_2 : Option Addr) (c0_2 : Nat) (l0_2 : List (S32)) (a1_0 : Int) (a1_1 : Int) (A1_2 : Option Addr) (c1_2 : Nat) (l1_2 : List (S32)) (r : Bool) (w : World) (hr0_2 : Kd.C k32 w A0_2 l0_2.length l0_2) (hc0_2 : l0_2.length ≤ c0_2) (hr1_2 : Kd.C k32 w A1_2 l1_2.length l1_2) (hc1_2 : l1_2.length ≤ c1_2) (h : imageeditorlaw10_same.f k a0_0 a0_1 l0_2 a1_0 a1_1 l1_2 = some r) :
    Calls Try.prog 28 #[.agg #[.int .i64 a0_0, .int .i64 a0_1, .slice A0_2 l0_2.length c0_2], .agg #[.int .i64 a1_0, .int .i64 a1_1, .slice A1_2 l1_2.length c1_2]] w fun e w' => e = .returned (.bool r) ∧ Below w.heap.size w w' := by
 have hu24 := Try.underlying24
 have hu32 := Try.underlying32
 have HR0_2 := Aside0.mk hr0_2
 have HC0_2 := Aside0.mk hc0_2
 clear hr0_2 hc0_2
 have HR1_2 := Aside0.mk hr1_2
 have HC1_2 := Aside0.mk hc1_2
 clear hr1_2 hc1_2
 have HB := Aside0.mk (Below.refl w.heap.size w)
 have H : (if a0_0 = a1_0 then (if a0_1 = a1_1 then (imageeditorlaw10_same.j0 k ((l0_2.length : Int) != (l1_2.length : Int)) a0_0 a0_1 l0_2 a1_0 a1_1 l1_2) else (imageeditorlaw10_same.j0 k true a0_0 a0_1 l0_2 a1_0 a1_1 l1_2)) else (imageeditorlaw10_same.j0 k true a0_0 a0_1 l0_2 a1_0 a1_1 l1_2)) = some r := h
 clear h
 have HC3 := Aside0.mk H
 clear H
 go_enter Try.func28, Try.ntmps28
 go_upto_region 1 with (first | ((with_reducible refine gate_dst (N := 2) rfl ?_); refine box_event ?hg (N := 2) ?hd (cs := #[.int .i64 a0_0, .int .i64 a0_1, .slice A0_2 l0_2.length c0_2]) (t := 24) ?hr ?_; (case hd => rfl); (case hg => rfl); (case hr => first | (go_simp; done) | (go_simp; rfl)); intro gA hg w4 hbox hb; have KA := Aside0.mk hbox; have GWA := ge_ hg (pb HB.out); have GEA := ge_ hg (pb HB.out); replace HB := Aside0.mk (below_step (pb HB.out) hb); clear hb hbox hg) | ((with_reducible refine gate_dst (N := 3) rfl ?_); refine box_event ?hg (N := 3) ?hd (cs := #[.int .i64 a1_0, .int .i64 a1_1, .slice A1_2 l1_2.length c1_2]) (t := 24) ?hr ?_; (case hd => rfl); (case hg => rfl); (case hr => first | (go_simp; done) | (go_simp; rfl)); intro gB hg w5 hbox hb; have c0_ := cp_ hb KA; have KB := Aside0.mk hbox; have GWB := ge_ hg (pb1 HB.out GEA.out); have GEB := ge_ hg (pb1 HB.out GEA.out); have NAB := nl_ hg c0_; have NBA := ng_ hg c0_; replace KA := bb_ c0_ hb; replace HB := Aside0.mk (below_step (pb1 HB.out GEA.out) hb); clear c0_; clear hb hbox hg))
 repeat (go_quiet (first | ((with_reducible refine gate_dst (N := 2) rfl ?_); refine box_event ?hg (N := 2) ?hd (cs := #[.int .i64 a0_0, .int .i64 a0_1, .slice A0_2 l0_2.length c0_2]) (t := 24) ?hr ?_; (case hd => rfl); (case hg => rfl); (case hr => first | (go_simp; done) | (go_simp; rfl)); intro gA hg w4 hbox hb; have KA := Aside0.mk hbox; have GWA := ge_ hg (pb HB.out); have GEA := ge_ hg (pb HB.out); replace HB := Aside0.mk (below_step (pb HB.out) hb); clear hb hbox hg) | ((with_reducible refine gate_dst (N := 3) rfl ?_); refine box_event ?hg (N := 3) ?hd (cs := #[.int .i64 a1_0, .int .i64 a1_1, .slice A1_2 l1_2.length c1_2]) (t := 24) ?hr ?_; (case hd => rfl); (case hg => rfl); (case hr => first | (go_simp; done) | (go_simp; rfl)); intro gB hg w5 hbox hb; have c0_ := cp_ hb KA; have KB := Aside0.mk hbox; have GWB := ge_ hg (pb1 HB.out GEA.out); have GEB := ge_ hg (pb1 HB.out GEA.out); have NAB := nl_ hg c0_; have NBA := ng_ hg c0_; replace KA := bb_ c0_ hb; replace HB := Aside0.mk (below_step (pb1 HB.out GEA.out) hb); clear c0_; clear hb hbox hg)); go_upto_region 1 with (first | ((with_reducible refine gate_dst (N := 2) rfl ?_); refine box_event ?hg (N := 2) ?hd (cs := #[.int .i64 a0_0, .int .i64 a0_1, .slice A0_2 l0_2.length c0_2]) (t := 24) ?hr ?_; (case hd => rfl); (case hg => rfl); (case hr => first | (go_simp; done) | (go_simp; rfl)); intro gA hg w4 hbox hb; have KA := Aside0.mk hbox; have GWA := ge_ hg (pb HB.out); have GEA := ge_ hg (pb HB.out); replace HB := Aside0.mk (below_step (pb HB.out) hb); clear hb hbox hg) | ((with_reducible refine gate_dst (N := 3) rfl ?_); refine box_event ?hg (N := 3) ?hd (cs := #[.int .i64 a1_0, .int .i64 a1_1, .slice A1_2 l1_2.length c1_2]) (t := 24) ?hr ?_; (case hd => rfl); (case hg => rfl); (case hr => first | (go_simp; done) | (go_simp; rfl)); intro gB hg w5 hbox hb; have c0_ := cp_ hb KA; have KB := Aside0.mk hbox; have GWB := ge_ hg (pb1 HB.out GEA.out); have GEB := ge_ hg (pb1 HB.out GEA.out); have NAB := nl_ hg c0_; have NBA := ng_ hg c0_; replace KA := bb_ c0_ hb; replace HB := Aside0.mk (below_step (pb1 HB.out GEA.out) hb); clear c0_; clear hb hbox hg)))
 (try simp only [Act.put, List.setIfInBounds_toArray, List.set_cons_zero, List.set_cons_succ])
 go_cut [26] (fun v26 wc => ∃ (kq : Nat) (x26_2 : Bool), v26 = .bool x26_2 ∧ Aside0 (imageeditorlaw10_same.j0 kq x26_2 a0_0 a0_1 l0_2 a1_0 a1_1 l1_2 = some r) ∧ Aside0 (kq ≤ k) ∧ Aside0 (wc.heap[gA]? = some (.cells #[.int .i64 a0_0, .int .i64 a0_1, (.slice A0_2 l0_2.length c0_2)] 24 (0, 0))) ∧ Aside0 (wc.heap[gB]? = some (.cells #[.int .i64 a1_0, .int .i64 a1_1, (.slice A1_2 l1_2.length c1_2)] 24 (0, 0))) ∧ Aside0 (Below w.heap.size w wc))
 case first =>
  have H := HC3.out
  clear HC3
  by_cases c6 : a0_0 = a1_0
  ·rw [if_pos c6] at H
   have c6b0 : (a0_0 == a1_0) = true := beq_iff_eq.mpr c6
   have c6b1 : (a0_0 != a1_0) = false := bne_eq_false_iff_eq.mpr c6
   clear c6
   (first | rw [c6b0] | (simp only [i64_w, i32_w]; rw [c6b0]) | skip)
   by_cases c7 : a0_1 = a1_1
   ·rw [if_pos c7] at H
    have c7b0 : (a0_1 == a1_1) = true := beq_iff_eq.mpr c7
    have c7b1 : (a0_1 != a1_1) = false := bne_eq_false_iff_eq.mpr c7
    clear c7
    have H' := Aside0.mk H
    clear H
    have hnb8 := NAB.out
    have hnc8 := NBA.out
    have hcz9_0 := ci_ KA 0 (.int .i64 a0_0)
    have hcz9_1 := ci_ KA 1 (.int .i64 a0_1)
    have hcz9_2 := ci_ KA 2 (.slice A0_2 l0_2.length c0_2)
    have hfz9_0 := blk_frozen KA.out 0
    have hfz9_1 := blk_frozen KA.out 1
    have hfz9_2 := blk_frozen KA.out 2
    have hcz10_0 := ci_ KB 0 (.int .i64 a1_0)
    have hcz10_1 := ci_ KB 1 (.int .i64 a1_1)
    have hcz10_2 := ci_ KB 2 (.slice A1_2 l1_2.length c1_2)
    have hfz10_0 := blk_frozen KB.out 0
    have hfz10_1 := blk_frozen KB.out 1
    have hfz10_2 := blk_frozen KB.out 2
    go_wp2
    repeat (go_quiet (fail); try go_wp2)
    go_meet
    case rel => exact ⟨_, (((l0_2.length : Int) != (l1_2.length : Int))), (by first | rfl | (simp; done) | (simp [*]; done)), H', ⟨by first | omega | exact Nat.le_refl _⟩, ⟨pl KA.out⟩, ⟨pl KB.out⟩, ⟨pb2 HB.out GEA.out GEB.out⟩⟩
   ·rw [if_neg c7] at H
    have c7b0 : (a0_1 == a1_1) = false := beq_eq_false_iff_ne.mpr c7
    have c7b1 : (a0_1 != a1_1) = true := bne_iff_ne.mpr c7
    have H' := Aside0.mk H
    clear H
    have hnb11 := NAB.out
    have hnc11 := NBA.out
    have hcz12_0 := ci_ KA 0 (.int .i64 a0_0)
    have hcz12_1 := ci_ KA 1 (.int .i64 a0_1)
    have hcz12_2 := ci_ KA 2 (.slice A0_2 l0_2.length c0_2)
    have hfz12_0 := blk_frozen KA.out 0
    have hfz12_1 := blk_frozen KA.out 1
    have hfz12_2 := blk_frozen KA.out 2
    have hcz13_0 := ci_ KB 0 (.int .i64 a1_0)
    have hcz13_1 := ci_ KB 1 (.int .i64 a1_1)
    have hcz13_2 := ci_ KB 2 (.slice A1_2 l1_2.length c1_2)
    have hfz13_0 := blk_frozen KB.out 0
    have hfz13_1 := blk_frozen KB.out 1
    have hfz13_2 := blk_frozen KB.out 2
    go_wp2
    repeat (go_quiet (fail); try go_wp2)
    go_meet
    case rel => exact ⟨_, (true), (by first | rfl | (simp; done) | (simp [*]; done)), H', ⟨by first | omega | exact Nat.le_refl _⟩, ⟨pl KA.out⟩, ⟨pl KB.out⟩, ⟨pb2 HB.out GEA.out GEB.out⟩⟩
  ·rw [if_neg c6] at H
   have c6b0 : (a0_0 == a1_0) = false := beq_eq_false_iff_ne.mpr c6
   have c6b1 : (a0_0 != a1_0) = true := bne_iff_ne.mpr c6
   (first | rw [c6b0] | (simp only [i64_w, i32_w]; rw [c6b0]) | skip)
   have H' := Aside0.mk H
   clear H
   have hnb14 := NAB.out
   have hnc14 := NBA.out
   have hcz15_0 := ci_ KA 0 (.int .i64 a0_0)
   have hcz15_1 := ci_ KA 1 (.int .i64 a0_1)
   have hcz15_2 := ci_ KA 2 (.slice A0_2 l0_2.length c0_2)
   have hfz15_0 := blk_frozen KA.out 0
   have hfz15_1 := blk_frozen KA.out 1
   have hfz15_2 := blk_frozen KA.out 2
   have hcz16_0 := ci_ KB 0 (.int .i64 a1_0)
   have hcz16_1 := ci_ KB 1 (.int .i64 a1_1)
   have hcz16_2 := ci_ KB 2 (.slice A1_2 l1_2.length c1_2)
   have hfz16_0 := blk_frozen KB.out 0
   have hfz16_1 := blk_frozen KB.out 1
   have hfz16_2 := blk_frozen KB.out 2
   go_wp2
   repeat (go_quiet (fail); try go_wp2)
   go_meet
   case rel => exact ⟨_, (true), (by first | rfl | (simp; done) | (simp [*]; done)), H', ⟨by first | omega | exact Nat.le_refl _⟩, ⟨pl KA.out⟩, ⟨pl KB.out⟩, ⟨pb2 HB.out GEA.out GEB.out⟩⟩
 case rest =>
  clear HC3
  try clear c1
  try clear c2
  try clear p2
  try clear c6
  try clear c6b0
  try clear c6b1
  try clear c7
  try clear c7b0
  try clear c7b1
  try clear c8
  try clear c11
  try clear c14
  try clear hcz10_0
  try clear hcz10_1
  try clear hcz10_2
  try clear hcz12_0
  try clear hcz12_1
  try clear hcz12_2
  try clear hcz13_0
  try clear hcz13_1
  try clear hcz13_2
  try clear hcz15_0
  try clear hcz15_1
  try clear hcz15_2
  try clear hcz16_0
  try clear hcz16_1
  try clear hcz16_2
  try clear hcz9_0
  try clear hcz9_1
  try clear hcz9_2
  try clear hfz10_0
  try clear hfz10_1
  try clear hfz10_2
  try clear hfz12_0
  try clear hfz12_1
  try clear hfz12_2
  try clear hfz13_0
  try clear hfz13_1
  try clear hfz13_2
  try clear hfz15_0
  try clear hfz15_1
  try clear hfz15_2
  try clear hfz16_0
  try clear hfz16_1
  try clear hfz16_2
  try clear hfz9_0
  try clear hfz9_1
  try clear hfz9_2
  obtain ⟨kq, x26_2, rfl, HA, HJ2, KA, KB, HB⟩ := hcut
  cases kq with
  | zero => exact absurd HA.out (by simp [imageeditorlaw10_same.j0])
  | succ kj2 =>
   have H := HA.out
   clear HA
   simp only [imageeditorlaw10_same.j0] at H
   by_cases c17 : x26_2 = true
   ·subst c17
    have H1 : (some false) = some r := by rw [if_pos rfl] at H; exact H
    clear H
    have H := H1
    clear H1
    obtain rfl := Option.some.inj H
    go_wp2
    repeat (go_quiet (fail); try go_wp2)
    go_ret
    exact ⟨by first | rfl | (simp [errW_none, errW_some] <;> rfl) | (simp [*, errW_none, errW_some] <;> rfl), pb2 HB.out GEA.out GEB.out⟩
   ·replace c17 := Bool.eq_false_iff.mpr c17
    subst c17
    have H1 : (imageeditorlaw10_same.l0 kj2 0 a0_0 a0_1 l0_2 a1_0 a1_1 l1_2) = some r := by rw [if_neg (show ¬ (false = true) by decide)] at H; exact H
    clear H
    have H := H1
    clear H1
    have H' := Aside0.mk H
    clear H
    go_wp2
    repeat (go_quiet (fail); try go_wp2)
    go_loopg [5] kj2 (fun kq v5 w' => ∃ (x5_2 : Int), v5 = .int .i64 x5_2 ∧ Aside0 (imageeditorlaw10_same.l0 kq x5_2 a0_0 a0_1 l0_2 a1_0 a1_1 l1_2 = some r) ∧ Aside0 (kq ≤ kj2) ∧ Aside0 (w'.heap[gA]? = some (.cells #[.int .i64 a0_0, .int .i64 a0_1, (.slice A0_2 l0_2.length c0_2)] 24 (0, 0))) ∧ Aside0 (w'.heap[gB]? = some (.cells #[.int .i64 a1_0, .int .i64 a1_1, (.slice A1_2 l1_2.length c1_2)] 24 (0, 0))) ∧ Aside0 (Below w.heap.size w w'))
    case atStart => exact ⟨(0), (by first | rfl | (simp; done) | (simp [*]; done)), H', ⟨Nat.le_refl _⟩, ⟨pl KA.out⟩, ⟨pl KB.out⟩, ⟨pb2 HB.out GEA.out GEB.out⟩⟩
    case round =>
     clear H'
     try clear c1
     try clear c2
     try clear p2
     try clear c6
     try clear c6b0
     try clear c6b1
     try clear c7
     try clear c7b0
     try clear c7b1
     try clear c8
     try clear c11
     try clear c14
     try clear c17
     try clear hcz10_0
     try clear hcz10_1
     try clear hcz10_2
     try clear hcz12_0
     try clear hcz12_1
     try clear hcz12_2
     try clear hcz13_0
     try clear hcz13_1
     try clear hcz13_2
     try clear hcz15_0
     try clear hcz15_1
     try clear hcz15_2
     try clear hcz16_0
     try clear hcz16_1
     try clear hcz16_2
     try clear hcz9_0
     try clear hcz9_1
     try clear hcz9_2
     try clear hfz10_0
     try clear hfz10_1
     try clear hfz10_2
     try clear hfz12_0
     try clear hfz12_1
     try clear hfz12_2
     try clear hfz13_0
     try clear hfz13_1
     try clear hfz13_2
     try clear hfz15_0
     try clear hfz15_1
     try clear hfz15_2
     try clear hfz16_0
     try clear hfz16_1
     try clear hfz16_2
     try clear hfz9_0
     try clear hfz9_1
     try clear hfz9_2
     try clear p2
     obtain ⟨x5_2, rfl, HA, HK2, KA, KB, HB⟩ := hrel
     cases gk with
     | zero => exact absurd HA.out (by simp [imageeditorlaw10_same.l0])
     | succ k2 =>
      have H := HA.out
      clear HA
      simp only [imageeditorlaw10_same.l0] at H
      by_cases c18 : x5_2 < (l0_2.length : Int)
      ·rw [if_pos c18] at H
       have c18b0 : decide (x5_2 < (l0_2.length : Int)) = true := decide_eq_true c18
       clear c18
       by_cases c19 : 0 ≤ x5_2
       rotate_left
       ·rw [if_neg c19] at H
        exact absurd H (by simp)
       rw [if_pos c19] at H
       have c19b0 : decide (0 ≤ x5_2) = true := decide_eq_true c19
       clear c19
       by_cases c20 : x5_2 < (l1_2.length : Int)
       rotate_left
       ·rw [if_neg c20] at H
        exact absurd H (by simp)
       rw [if_pos c20] at H
       have c20b0 : decide (x5_2 < (l1_2.length : Int)) = true := decide_eq_true c20
       clear c20
       by_cases c21 : (!(((rd_T32 l0_2 x5_2).f0) == ((rd_T32 l1_2 x5_2).f0)) || (!(((rd_T32 l0_2 x5_2).f1) == ((rd_T32 l1_2 x5_2).f1)) || (!(((rd_T32 l0_2 x5_2).f2) == ((rd_T32 l1_2 x5_2).f2)) || (!(((rd_T32 l0_2 x5_2).f3) == ((rd_T32 l1_2 x5_2).f3)))))) = true
       ·rw [if_pos c21] at H
        have c21b0 : (!(((rd_T32 l0_2 x5_2).f0) == ((rd_T32 l1_2 x5_2).f0)) || (!(((rd_T32 l0_2 x5_2).f1) == ((rd_T32 l1_2 x5_2).f1)) || (!(((rd_T32 l0_2 x5_2).f2) == ((rd_T32 l1_2 x5_2).f2)) || (!(((rd_T32 l0_2 x5_2).f3) == ((rd_T32 l1_2 x5_2).f3)))))) = true := c21
        clear c21
        obtain rfl := Option.some.inj H
        have hnb22 := NAB.out
        have hnc22 := NBA.out
        have hcz23_0 := ci_ KA 0 (.int .i64 a0_0)
        have hcz23_1 := ci_ KA 1 (.int .i64 a0_1)
        have hcz23_2 := ci_ KA 2 (.slice A0_2 l0_2.length c0_2)
        have hfz23_0 := blk_frozen KA.out 0
        have hfz23_1 := blk_frozen KA.out 1
        have hfz23_2 := blk_frozen KA.out 2
        have p494 : 0 ≤ (x5_2 : Int) := of_decide_eq_true (by first | (with_reducible assumption) | assumption)
        have q494 : x5_2 < (l0_2.length : Int) := of_decide_eq_true (by first | (with_reducible assumption) | assumption)
        obtain ⟨ad494, e494, hx494_0, hx494_1, hx494_2, hx494_3⟩ := at_T32 HR0_2.out x5_2 p494 q494
        cases e494
        replace hx494_0 := (HB.out.cell (World.block_lt_of_cell? w _ hx494_0)).trans hx494_0
        replace hx494_1 := (HB.out.cell (World.block_lt_of_cell? w _ hx494_1)).trans hx494_1
        replace hx494_2 := (HB.out.cell (World.block_lt_of_cell? w _ hx494_2)).trans hx494_2
        replace hx494_3 := (HB.out.cell (World.block_lt_of_cell? w _ hx494_3)).trans hx494_3
        replace p494 := eq_true p494
        replace q494 := eq_true q494
        have hcz24_0 := ci_ KB 0 (.int .i64 a1_0)
        have hcz24_1 := ci_ KB 1 (.int .i64 a1_1)
        have hcz24_2 := ci_ KB 2 (.slice A1_2 l1_2.length c1_2)
        have hfz24_0 := blk_frozen KB.out 0
        have hfz24_1 := blk_frozen KB.out 1
        have hfz24_2 := blk_frozen KB.out 2
        have p495 : 0 ≤ (x5_2 : Int) := of_decide_eq_true (by first | (with_reducible assumption) | assumption)
        have q495 : x5_2 < (l1_2.length : Int) := of_decide_eq_true (by first | (with_reducible assumption) | assumption)
        obtain ⟨ad495, e495, hx495_0, hx495_1, hx495_2, hx495_3⟩ := at_T32 HR1_2.out x5_2 p495 q495
        cases e495
        replace hx495_0 := (HB.out.cell (World.block_lt_of_cell? w _ hx495_0)).trans hx495_0
        replace hx495_1 := (HB.out.cell (World.block_lt_of_cell? w _ hx495_1)).trans hx495_1
        replace hx495_2 := (HB.out.cell (World.block_lt_of_cell? w _ hx495_2)).trans hx495_2
        replace hx495_3 := (HB.out.cell (World.block_lt_of_cell? w _ hx495_3)).trans hx495_3
        replace p495 := eq_true p495
        replace q495 := eq_true q495
        go_wp2
        repeat (go_quiet (fail); try go_wp2)
        go_ret
        exact ⟨by first | rfl | (simp [errW_none, errW_some] <;> rfl) | (simp [*, errW_none, errW_some] <;> rfl), pb2 HB.out GEA.out GEB.out⟩
       ·rw [if_neg c21] at H
        have c21b0 : (!(((rd_T32 l0_2 x5_2).f0) == ((rd_T32 l1_2 x5_2).f0)) || (!(((rd_T32 l0_2 x5_2).f1) == ((rd_T32 l1_2 x5_2).f1)) || (!(((rd_T32 l0_2 x5_2).f2) == ((rd_T32 l1_2 x5_2).f2)) || (!(((rd_T32 l0_2 x5_2).f3) == ((rd_T32 l1_2 x5_2).f3)))))) = false := by simpa using c21
        clear c21
        have H' := Aside0.mk H
        clear H
        have hnb25 := NAB.out
        have hnc25 := NBA.out
        have hcz26_0 := ci_ KA 0 (.int .i64 a0_0)
        have hcz26_1 := ci_ KA 1 (.int .i64 a0_1)
        have hcz26_2 := ci_ KA 2 (.slice A0_2 l0_2.length c0_2)
        have hfz26_0 := blk_frozen KA.out 0
        have hfz26_1 := blk_frozen KA.out 1
        have hfz26_2 := blk_frozen KA.out 2
        have p494 : 0 ≤ (x5_2 : Int) := of_decide_eq_true (by first | (with_reducible assumption) | assumption)
        have q494 : x5_2 < (l0_2.length : Int) := of_decide_eq_true (by first | (with_reducible assumption) | assumption)
        obtain ⟨ad494, e494, hx494_0, hx494_1, hx494_2, hx494_3⟩ := at_T32 HR0_2.out x5_2 p494 q494
        cases e494
        replace hx494_0 := (HB.out.cell (World.block_lt_of_cell? w _ hx494_0)).trans hx494_0
        replace hx494_1 := (HB.out.cell (World.block_lt_of_cell? w _ hx494_1)).trans hx494_1
        replace hx494_2 := (HB.out.cell (World.block_lt_of_cell? w _ hx494_2)).trans hx494_2
        replace hx494_3 := (HB.out.cell (World.block_lt_of_cell? w _ hx494_3)).trans hx494_3
        replace p494 := eq_true p494
        replace q494 := eq_true q494
        have hcz27_0 := ci_ KB 0 (.int .i64 a1_0)
        have hcz27_1 := ci_ KB 1 (.int .i64 a1_1)
        have hcz27_2 := ci_ KB 2 (.slice A1_2 l1_2.length c1_2)
        have hfz27_0 := blk_frozen KB.out 0
        have hfz27_1 := blk_frozen KB.out 1
        have hfz27_2 := blk_frozen KB.out 2
        have p495 : 0 ≤ (x5_2 : Int) := of_decide_eq_true (by first | (with_reducible assumption) | assumption)
        have q495 : x5_2 < (l1_2.length : Int) := of_decide_eq_true (by first | (with_reducible assumption) | assumption)
        obtain ⟨ad495, e495, hx495_0, hx495_1, hx495_2, hx495_3⟩ := at_T32 HR1_2.out x5_2 p495 q495
        cases e495
        replace hx495_0 := (HB.out.cell (World.block_lt_of_cell? w _ hx495_0)).trans hx495_0
        replace hx495_1 := (HB.out.cell (World.block_lt_of_cell? w _ hx495_1)).trans hx495_1
        replace hx495_2 := (HB.out.cell (World.block_lt_of_cell? w _ hx495_2)).trans hx495_2
        replace hx495_3 := (HB.out.cell (World.block_lt_of_cell? w _ hx495_3)).trans hx495_3
        replace p495 := eq_true p495
        replace q495 := eq_true q495
        go_wp2
        repeat (go_quiet (fail); try go_wp2)
        go_roundg k2
        case measure => have := HJ2.out; have := HK2.out; omega
        case rel => exact ⟨(wrap64 (x5_2 + 1)), (by first | rfl | (simp; done) | (simp [*]; done)), H', ⟨by have := HJ2.out; have := HK2.out; omega⟩, ⟨pl KA.out⟩, ⟨pl KB.out⟩, ⟨pb2 HB.out GEA.out GEB.out⟩⟩
      ·rw [if_neg c18] at H
       have c18b0 : decide (x5_2 < (l0_2.length : Int)) = false := decide_eq_false c18
       clear c18
       obtain rfl := Option.some.inj H
       have hnb28 := NAB.out
       have hnc28 := NBA.out
       have hcz29_0 := ci_ KA 0 (.int .i64 a0_0)
       have hcz29_1 := ci_ KA 1 (.int .i64 a0_1)
       have hcz29_2 := ci_ KA 2 (.slice A0_2 l0_2.length c0_2)
       have hfz29_0 := blk_frozen KA.out 0
       have hfz29_1 := blk_frozen KA.out 1
       have hfz29_2 := blk_frozen KA.out 2
       go_wp2
       repeat (go_quiet (fail); try go_wp2)
       go_ret
       exact ⟨by first | rfl | (simp [errW_none, errW_some] <;> rfl) | (simp [*, errW_none, errW_some] <;> rfl), pb2 HB.out GEA.out GEB.out⟩

end Go.Proofs.Ytnijapaaickifaa.I
