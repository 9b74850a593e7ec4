-- Written for this claim by a program of this session (handprint.py) that drives the kit's print. Not trusted: Lean checks it.
import Derived.Test.YtnijapaaickifaaI0
import Derived.Test.YtnijapaaickifaaI17
import Derived.Test.YtnijapaaickifaaI19
import Derived.Test.YtnijapaaickifaaI22
import Derived.Test.YtnijapaaickifaaI23
namespace Go.Proofs.Ytnijapaaickifaa.I
open Go.RowKit Go.Proofs.YtnijapaaickifaaW.PrintWords Go.Proofs.YtnijapaaickifaaW.PrintLast
attribute [local go_sem] max2_int min2_int max_two min_two max_three min_three max_four min_four
set_option linter.unusedVariables false
set_option linter.unusedSimpArgs false

/-! ### imageeditorref10_Image: function 27 -/
mutual
def imageeditorref10_Image.j0 : Nat → Int → Int → Bool → Int → Int → List (S32) → Int → Int → List (S32) → Option (Int × Int × (List (S32)) × Int)
  | 0, _, _, _, _, _, _, _, _, _ => none
  | k + 1, x0, x1, x23, x473000, x473001, x473002, x474000, x474001, x474002 => if x23 = true then (some (0, 0, ([] : List (S32)), 2)) else ((imageeditorref10_Valued.f k x473000 x473001 x473002).bind fun t476 => (if t476 = 0 then ((imageeditorref10_Valued.f k x474000 x474001 x474002).bind fun t477 => (if t477 = 0 then (if x473000 = x474000 then (imageeditorref10_Image.j1 k x0 x1 (x473001 != x474001) x473000 x473001 x473002 x474000 x474001 x474002) else (imageeditorref10_Image.j1 k x0 x1 true x473000 x473001 x473002 x474000 x474001 x474002)) else (some (0, 0, ([] : List (S32)), t477)))) else (some (0, 0, ([] : List (S32)), t476))))
def imageeditorref10_Image.j1 : Nat → Int → Int → Bool → Int → Int → List (S32) → Int → Int → List (S32) → Option (Int × Int × (List (S32)) × Int)
  | 0, _, _, _, _, _, _, _, _, _ => none
  | k + 1, x0, x1, x48, x473000, x473001, x473002, x474000, x474001, x474002 => if x48 = true then (some (0, 0, ([] : List (S32)), 15)) else (imageeditorref10_Image.l0 k x0 x1 0 x473000 x473001 x473002 x474000 x474001 x474002 x473000 x473001 ([] : List (S32)))
def imageeditorref10_Image.l0 : Nat → Int → Int → Int → Int → Int → List (S32) → Int → Int → List (S32) → Int → Int → List (S32) → Option (Int × Int × (List (S32)) × Int)
  | 0, _, _, _, _, _, _, _, _, _, _, _, _ => none
  | k + 1, x0, x1, x13, x473000, x473001, x473002, x474000, x474001, x474002, x479000, x479001, x479002 => if x13 < (x473002.length : Int) then (if 0 ≤ x13 then (if x13 < (x474002.length : Int) then ((imageeditorref06_Fade.f k ((rd_T32 x474002 x13).f0) ((rd_T32 x474002 x13).f1) ((rd_T32 x474002 x13).f2) ((rd_T32 x474002 x13).f3) x1).bind fun bt481 => ((imageeditorref10_Over.f k x0 ((rd_T32 x473002 x13).f0) ((rd_T32 x473002 x13).f1) ((rd_T32 x473002 x13).f2) ((rd_T32 x473002 x13).f3) bt481.1 bt481.2.1 bt481.2.2.1 bt481.2.2.2).bind fun bt485 => (if x479002.length < 4398046511104 then (imageeditorref10_Image.l0 k x0 x1 (wrap64 (x13 + 1)) x473000 x473001 x473002 x474000 x474001 x474002 x479000 x479001 (x479002 ++ [(⟨bt485.1, bt485.2.1, bt485.2.2.1, bt485.2.2.2⟩ : S32)])) else (none)))) else (none)) else (none)) else (some (x479000, x479001, x479002, 0))
end
def imageeditorref10_Image.f (k : Nat) (a0 : Int) (a1 : Int) (a2_0 : Int) (a2_1 : Int) (l2_2 : List (S32)) (a3_0 : Int) (a3_1 : Int) (l3_2 : List (S32)) : Option (Int × Int × (List (S32)) × Int) := (imageeditorref10_Valid.f a0).bind fun t475 => (if t475 = true then (if a1 < 0 then (imageeditorref10_Image.j0 k a0 a1 true a2_0 a2_1 l2_2 a3_0 a3_1 l3_2) else (imageeditorref10_Image.j0 k a0 a1 (decide (a1 > 65535)) a2_0 a2_1 l2_2 a3_0 a3_1 l3_2)) else (some (0, 0, ([] : List (S32)), 8)))
theorem imageeditorref10_Image.mono_l : ∀ k, (∀ y0 y1 y2 y3 y4 y5 y6 y7 y8, LeO (imageeditorref10_Image.j0 k y0 y1 y2 y3 y4 y5 y6 y7 y8) (imageeditorref10_Image.j0 (k + 1) y0 y1 y2 y3 y4 y5 y6 y7 y8)) ∧ (∀ y0 y1 y2 y3 y4 y5 y6 y7 y8, LeO (imageeditorref10_Image.j1 k y0 y1 y2 y3 y4 y5 y6 y7 y8) (imageeditorref10_Image.j1 (k + 1) y0 y1 y2 y3 y4 y5 y6 y7 y8)) ∧ (∀ y0 y1 y2 y3 y4 y5 y6 y7 y8 y9 y10 y11, LeO (imageeditorref10_Image.l0 k y0 y1 y2 y3 y4 y5 y6 y7 y8 y9 y10 y11) (imageeditorref10_Image.l0 (k + 1) y0 y1 y2 y3 y4 y5 y6 y7 y8 y9 y10 y11))
  | 0 => ⟨fun _ _ _ _ _ _ _ _ _ r h => by simp [imageeditorref10_Image.j0] at h, fun _ _ _ _ _ _ _ _ _ r h => by simp [imageeditorref10_Image.j1] at h, fun _ _ _ _ _ _ _ _ _ _ _ _ r h => by simp [imageeditorref10_Image.l0] at h⟩
  | k + 1 => by
    obtain ⟨ih0, ih1, ih2⟩ := imageeditorref10_Image.mono_l k
    refine ⟨?_, ?_, ?_⟩
    · intro y0 y1 y2 y3 y4 y5 y6 y7 y8
      unfold imageeditorref10_Image.j0
      repeat' first
      | (with_reducible exact ih0 _ _ _ _ _ _ _ _ _)
      | (with_reducible exact ih1 _ _ _ _ _ _ _ _ _)
      | (with_reducible exact ih2 _ _ _ _ _ _ _ _ _ _ _ _)
      | (with_reducible exact imageeditorref06_Fade.mono _ _ _ _ _ _)
      | (with_reducible exact imageeditorref10_Over.mono _ _ _ _ _ _ _ _ _ _)
      | (with_reducible exact imageeditorref10_Valued.mono _ _ _ _)
      | (with_reducible exact LeO.refl _)
      | (with_reducible exact LeO.none _)
      | (with_reducible refine LeO.ite ?_ ?_)
      | (with_reducible refine LeO.bind ?_ (fun _ => ?_))
      | exact ih0 _ _ _ _ _ _ _ _ _
      | exact ih1 _ _ _ _ _ _ _ _ _
      | exact ih2 _ _ _ _ _ _ _ _ _ _ _ _
      | exact imageeditorref06_Fade.mono _ _ _ _ _ _
      | exact imageeditorref10_Over.mono _ _ _ _ _ _ _ _ _ _
      | exact imageeditorref10_Valued.mono _ _ _ _
      | exact LeO.none _
      | refine LeO.ite ?_ ?_
      | refine LeO.bind ?_ (fun _ => ?_)
    · intro y0 y1 y2 y3 y4 y5 y6 y7 y8
      unfold imageeditorref10_Image.j1
      repeat' first
      | (with_reducible exact ih0 _ _ _ _ _ _ _ _ _)
      | (with_reducible exact ih1 _ _ _ _ _ _ _ _ _)
      | (with_reducible exact ih2 _ _ _ _ _ _ _ _ _ _ _ _)
      | (with_reducible exact imageeditorref06_Fade.mono _ _ _ _ _ _)
      | (with_reducible exact imageeditorref10_Over.mono _ _ _ _ _ _ _ _ _ _)
      | (with_reducible exact imageeditorref10_Valued.mono _ _ _ _)
      | (with_reducible exact LeO.refl _)
      | (with_reducible exact LeO.none _)
      | (with_reducible refine LeO.ite ?_ ?_)
      | (with_reducible refine LeO.bind ?_ (fun _ => ?_))
      | exact ih0 _ _ _ _ _ _ _ _ _
      | exact ih1 _ _ _ _ _ _ _ _ _
      | exact ih2 _ _ _ _ _ _ _ _ _ _ _ _
      | exact imageeditorref06_Fade.mono _ _ _ _ _ _
      | exact imageeditorref10_Over.mono _ _ _ _ _ _ _ _ _ _
      | exact imageeditorref10_Valued.mono _ _ _ _
      | exact LeO.none _
      | refine LeO.ite ?_ ?_
      | refine LeO.bind ?_ (fun _ => ?_)
    · intro y0 y1 y2 y3 y4 y5 y6 y7 y8 y9 y10 y11
      unfold imageeditorref10_Image.l0
      repeat' first
      | (with_reducible exact ih0 _ _ _ _ _ _ _ _ _)
      | (with_reducible exact ih1 _ _ _ _ _ _ _ _ _)
      | (with_reducible exact ih2 _ _ _ _ _ _ _ _ _ _ _ _)
      | (with_reducible exact imageeditorref06_Fade.mono _ _ _ _ _ _)
      | (with_reducible exact imageeditorref10_Over.mono _ _ _ _ _ _ _ _ _ _)
      | (with_reducible exact imageeditorref10_Valued.mono _ _ _ _)
      | (with_reducible exact LeO.refl _)
      | (with_reducible exact LeO.none _)
      | (with_reducible refine LeO.ite ?_ ?_)
      | (with_reducible refine LeO.bind ?_ (fun _ => ?_))
      | exact ih0 _ _ _ _ _ _ _ _ _
      | exact ih1 _ _ _ _ _ _ _ _ _
      | exact ih2 _ _ _ _ _ _ _ _ _ _ _ _
      | exact imageeditorref06_Fade.mono _ _ _ _ _ _
      | exact imageeditorref10_Over.mono _ _ _ _ _ _ _ _ _ _
      | exact imageeditorref10_Valued.mono _ _ _ _
      | exact LeO.none _
      | refine LeO.ite ?_ ?_
      | refine LeO.bind ?_ (fun _ => ?_)
theorem imageeditorref10_Image.mono : ∀ a0 a1 a2 a3 a4 a5 a6 a7 k, LeO (imageeditorref10_Image.f k a0 a1 a2 a3 a4 a5 a6 a7) (imageeditorref10_Image.f (k + 1) a0 a1 a2 a3 a4 a5 a6 a7) := by
  intro a0 a1 a2 a3 a4 a5 a6 a7 k
  obtain ⟨ih0, ih1, ih2⟩ := imageeditorref10_Image.mono_l k
  unfold imageeditorref10_Image.f
  repeat' first
      | (with_reducible exact ih0 _ _ _ _ _ _ _ _ _)
      | (with_reducible exact ih1 _ _ _ _ _ _ _ _ _)
      | (with_reducible exact ih2 _ _ _ _ _ _ _ _ _ _ _ _)
      | (with_reducible exact imageeditorref06_Fade.mono _ _ _ _ _ _)
      | (with_reducible exact imageeditorref10_Over.mono _ _ _ _ _ _ _ _ _ _)
      | (with_reducible exact imageeditorref10_Valued.mono _ _ _ _)
      | (with_reducible exact LeO.refl _)
      | (with_reducible exact LeO.none _)
      | (with_reducible refine LeO.ite ?_ ?_)
      | (with_reducible refine LeO.bind ?_ (fun _ => ?_))
      | exact ih0 _ _ _ _ _ _ _ _ _
      | exact ih1 _ _ _ _ _ _ _ _ _
      | exact ih2 _ _ _ _ _ _ _ _ _ _ _ _
      | exact imageeditorref06_Fade.mono _ _ _ _ _ _
      | exact imageeditorref10_Over.mono _ _ _ _ _ _ _ _ _ _
      | exact imageeditorref10_Valued.mono _ _ _ _
      | exact LeO.none _
      | refine LeO.ite ?_ ?_
      | refine LeO.bind ?_ (fun _ => ?_)
def imageeditorref10_Image.T17 : Bool × List (List Nat × List Nat) := (true, [([], []), ([0], [0]), ([], []), ([], []), ([3], [3]), ([], []), ([4, 5], [4, 5]), ([6], [6]), ([], []), ([8], [8]), ([], []), ([9, 10], [9, 10]), ([11], [11]), ([], []), ([12, 13], [12, 13]), ([2, 7, 14, 14], [2, 7, 14]), ([15], [15]), ([1, 16, 15], [1, 16]), ([0, 1, 2, 3, 4, 5, 6, 7, 8, 9, 10, 11, 12, 13, 14, 15, 16, 17], []), ([18, 17, 17, 0, 1, 2, 3, 4, 5, 6, 7, 8, 9, 10, 11, 12, 13, 14, 15, 16, 17], [17, 18])])
def imageeditorref10_Image.B17 : List Nat := [0, 1, 0, 0, 8, 0, 56, 120, 0, 256, 0, 1792, 3840, 0, 16128, 32764, 65532, 131071, 262143, 524287]
theorem imageeditorref10_Image.tab17 : rtab .any (opsOf Try.f27 17) = imageeditorref10_Image.T17 := by kernel_rfl
theorem imageeditorref10_Image.bits17 : waitsOk imageeditorref10_Image.T17.2 imageeditorref10_Image.B17 = true := by kernel_rfl
set_option maxHeartbeats 8000000 in
set_option maxRecDepth 100000 in
theorem imageeditorref10_Image.calls (k : Nat) (a0 : Int) (a1 : Int) (a2_0 : Int) (a2_1 : Int) (A2_2 : Option Addr) (c2_2 : Nat) (l2_2 : List (S32)) (a3_0 : Int) (a3_1 : Int) (A3_2 : Option Addr) (c3_2 : Nat) (l3_2 : List (S32)) (r1 : Int) (r2 : Int) (r3 : List (S32)) (r4 : Int) (w : World) (hr2_2 : Kd.C k32 w A2_2 l2_2.length l2_2) (hc2_2 : l2_2.length ≤ c2_2) (hr3_2 : Kd.C k32 w A3_2 l3_2.length l3_2) (hc3_2 : l3_2.length ≤ c3_2) (h : imageeditorref10_Image.f k a0 a1 a2_0 a2_1 l2_2 a3_0 a3_1 l3_2 = some (r1, r2, r3, r4)) :
    Calls Try.prog 27 #[.int .i64 a0, .int .i64 a1, .agg #[.int .i64 a2_0, .int .i64 a2_1, .slice A2_2 l2_2.length c2_2], .agg #[.int .i64 a3_0, .int .i64 a3_1, .slice A3_2 l3_2.length c3_2]] w fun e w' => ∃ v2_ : Value, e = .returned (.tuple #[.agg #[.int .i64 r1, .int .i64 r2, v2_], .int .i64 r4]) ∧ Kd.R k32 32 w' w.heap.size (fun _ => True) v2_ r3 ∧ Below w.heap.size w w' := by
 have hu24 := Try.underlying24
 have hu32 := Try.underlying32
 have HR2_2 := Aside0.mk hr2_2
 have HC2_2 := Aside0.mk hc2_2
 clear hr2_2 hc2_2
 have HR3_2 := Aside0.mk hr3_2
 have HC3_2 := Aside0.mk hc3_2
 clear hr3_2 hc3_2
 have HB := Aside0.mk (Below.refl w.heap.size w)
 have H : ((imageeditorref10_Valid.f a0).bind fun t475 => (if t475 = true then (if a1 < 0 then (imageeditorref10_Image.j0 k a0 a1 true a2_0 a2_1 l2_2 a3_0 a3_1 l3_2) else (imageeditorref10_Image.j0 k a0 a1 (decide (a1 > 65535)) a2_0 a2_1 l2_2 a3_0 a3_1 l3_2)) else (some (0, 0, ([] : List (S32)), 8)))) = some (r1, r2, r3, r4) := h
 clear h
 replace H := Option.bind_eq_some_iff.mp H
 obtain ⟨t475, A50, H⟩ := H
 replace H : (if t475 = true then (if a1 < 0 then (imageeditorref10_Image.j0 k a0 a1 true a2_0 a2_1 l2_2 a3_0 a3_1 l3_2) else (imageeditorref10_Image.j0 k a0 a1 (decide (a1 > 65535)) a2_0 a2_1 l2_2 a3_0 a3_1 l3_2)) else (some (0, 0, ([] : List (S32)), 8))) = some (r1, r2, r3, r4) := H
 have A5 := Aside0.mk A50
 clear A50
 by_cases c6 : t475 = true
 ·subst c6
  have H1 : (if a1 < 0 then (imageeditorref10_Image.j0 k a0 a1 true a2_0 a2_1 l2_2 a3_0 a3_1 l3_2) else (imageeditorref10_Image.j0 k a0 a1 (decide (a1 > 65535)) a2_0 a2_1 l2_2 a3_0 a3_1 l3_2)) = some (r1, r2, r3, r4) := by rw [if_pos rfl] at H; exact H
  clear H
  have H := H1
  clear H1
  have HC7 := Aside0.mk H
  clear H
  go_enter Try.func27, Try.ntmps27
  go_upto_region 3 with (first | ((with_reducible refine gate_dst (N := 6) rfl ?_); refine box_event ?hg (N := 6) ?hd (cs := #[.int .i64 a2_0, .int .i64 a2_1, .slice A2_2 l2_2.length c2_2]) (t := 24) ?hr ?_; (case hd => rfl); (case hg => rfl); (case hr => first | (go_simp; done) | (go_simp; rfl)); intro gA hg w8 hbox hb; have KA := Aside0.mk hbox; have GWA := ge_ hg (pb HB.out); have GEA := ge_ hg (pb HB.out); replace HB := Aside0.mk (below_step (pb HB.out) hb); clear hb hbox hg) | ((with_reducible refine gate_dst (N := 7) rfl ?_); refine box_event ?hg (N := 7) ?hd (cs := #[.int .i64 a3_0, .int .i64 a3_1, .slice A3_2 l3_2.length c3_2]) (t := 24) ?hr ?_; (case hd => rfl); (case hg => rfl); (case hr => first | (go_simp; done) | (go_simp; rfl)); intro gB hg w9 hbox hb; have c0_ := cp_ hb KA; have KB := Aside0.mk hbox; have GWB := ge_ hg (pb1 HB.out GEA.out); have GEB := ge_ hg (pb1 HB.out GEA.out); have NAB := nl_ hg c0_; have NBA := ng_ hg c0_; replace KA := bb_ c0_ hb; replace HB := Aside0.mk (below_step (pb1 HB.out GEA.out) hb); clear c0_; clear hb hbox hg) | ((with_reducible refine gate_dst (N := 8) rfl ?_); refine box_event ?hg (N := 8) ?hd (cs := #[.int .i64 0, .int .i64 0, .slice none 0 0]) (t := 24) ?hr ?_; (case hd => rfl); (case hg => rfl); (case hr => first | (go_simp; done) | (go_simp; rfl)); intro gC hg w10 hbox hb; have c0_ := cp_ hb KA; have c1_ := cp_ hb KB; have KC := Aside0.mk hbox; have GWC := ge_ hg (pb2 HB.out GEA.out GEB.out); have GEC := ge_ hg (pb2 HB.out GEA.out GEB.out); have NAC := nl_ hg c0_; have NCA := ng_ hg c0_; have NBC := nl_ hg c1_; have NCB := ng_ hg c1_; replace KA := bb_ c0_ hb; replace KB := bb_ c1_ hb; replace HB := Aside0.mk (below_step (pb2 HB.out GEA.out GEB.out) hb); clear c0_ c1_; clear hb hbox hg) | ((with_reducible refine gate_callee (f := 19) rfl ?_); refine goesL_ (some 15) rfl rfl Try.func19 (by kernel_rfl) rfl #[.int .i64 a0] rfl pm ?_; (with_reducible refine (imageeditorref10_Valid.calls a0 true _ A5.out).mono ?_); rintro e w' ⟨rfl, ⟨nd, rfl⟩⟩; refine ⟨_, rfl, ?_⟩))
  (try simp only [Act.put, List.setIfInBounds_toArray, List.set_cons_zero, List.set_cons_succ])
  go_cut [23] (fun v23 wc => ∃ (kq : Nat) (x23_6 : Bool), v23 = .bool x23_6 ∧ Aside0 (imageeditorref10_Image.j0 kq a0 a1 x23_6 a2_0 a2_1 l2_2 a3_0 a3_1 l3_2 = some (r1, r2, r3, r4)) ∧ Aside0 (kq ≤ k) ∧ Aside0 (wc.heap[gA]? = some (.cells #[.int .i64 a2_0, .int .i64 a2_1, (.slice A2_2 l2_2.length c2_2)] 24 (0, 0))) ∧ Aside0 (wc.heap[gB]? = some (.cells #[.int .i64 a3_0, .int .i64 a3_1, (.slice A3_2 l3_2.length c3_2)] 24 (0, 0))) ∧ Aside0 (wc.heap[gC]? = some (.cells #[.int .i64 0, .int .i64 0, (.slice none 0 0)] 24 (0, 0))) ∧ Aside0 (Below w.heap.size w wc))
  case first =>
   have H := HC7.out
   clear HC7
   by_cases c11 : a1 < 0
   ·rw [if_pos c11] at H
    have c11b0 : decide (a1 < 0) = true := decide_eq_true c11
    clear c11
    (first | rw [c11b0] | (simp only [i64_w, i32_w]; rw [c11b0]) | skip)
    have H' := Aside0.mk H
    clear H
    go_wp2
    go_meet
    case rel => exact ⟨_, (true), (by first | rfl | (simp; done) | (simp [*]; done)), H', ⟨by first | omega | exact Nat.le_refl _⟩, ⟨pl KA.out⟩, ⟨pl KB.out⟩, ⟨pl KC.out⟩, ⟨pb3 HB.out GEA.out GEB.out GEC.out⟩⟩
   ·rw [if_neg c11] at H
    have c11b0 : decide (a1 < 0) = false := decide_eq_false c11
    clear c11
    (first | rw [c11b0] | (simp only [i64_w, i32_w]; rw [c11b0]) | skip)
    have H' := Aside0.mk H
    clear H
    go_wp2
    go_meet
    case rel => exact ⟨_, (decide (a1 > 65535)), (by first | rfl | (simp; done) | (simp [*]; done)), H', ⟨by first | omega | exact Nat.le_refl _⟩, ⟨pl KA.out⟩, ⟨pl KB.out⟩, ⟨pl KC.out⟩, ⟨pb3 HB.out GEA.out GEB.out GEC.out⟩⟩
  case rest =>
   clear HC7
   try clear c1
   try clear c2
   try clear p2
   try clear c3
   try clear c6
   try clear c11
   try clear c11b0
   obtain ⟨kq, x23_6, rfl, HA, HJ6, KA, KB, KC, HB⟩ := hcut
   cases kq with
   | zero => exact absurd HA.out (by simp [imageeditorref10_Image.j0])
   | succ kj6 =>
    have H := HA.out
    clear HA
    simp only [imageeditorref10_Image.j0] at H
    by_cases c12 : x23_6 = true
    ·subst c12
     have H1 : (some (0, 0, ([] : List (S32)), 2)) = some (r1, r2, r3, r4) := by rw [if_pos rfl] at H; exact H
     clear H
     have H := H1
     clear H1
     simp only [Option.some.injEq, Prod.mk.injEq] at H
     obtain ⟨rfl, rfl, rfl, rfl⟩ := H
     have hnb13 := NCA.out
     have hnc13 := NAC.out
     have hnb14 := NCB.out
     have hnc14 := NBC.out
     have hcz15_0 := ci_ KC 0 (.int .i64 0)
     have hcz15_1 := ci_ KC 1 (.int .i64 0)
     have hcz15_2 := ci_ KC 2 (.slice none 0 0)
     have hfz15_0 := blk_frozen KC.out 0
     have hfz15_1 := blk_frozen KC.out 1
     have hfz15_2 := blk_frozen KC.out 2
     go_wp2
     refine bodyPost_ret (results_ct rfl _ _ gC 24 #[.int .i64 0, .int .i64 0, .slice none 0 0] (0, 0) _ rfl (by refine pl ?_; refine blk_put (cs := #[.int .i64 0, .int .i64 0, .slice none 0 0]) ?_ 2 _ rfl; refine pl ?_; refine blk_put (cs := #[.int .i64 0, .int .i64 0, .slice none 0 0]) ?_ 1 _ rfl; refine pl ?_; refine blk_put (cs := #[.int .i64 0, .int .i64 0, .slice none 0 0]) ?_ 0 _ rfl; refine pl ?_; exact KC.out) Try.underlying24 rfl (by kernel_rfl)) rfl ?_
     exact ⟨_, by first | rfl | (simp [errW_none, errW_some] <;> rfl) | (simp [*, errW_none, errW_some] <;> rfl), by first | exact Kd.R_nil _ _ _ _ _ | exact Kd.N_nil _ _ _ _ _ | exact Kd.V_nil _ _ _ _ _ | exact Kd.Q_nil _ _ _ _ _ | exact Kd.S_nil _ _ _ _ _, pb3 HB.out GEA.out GEB.out GEC.out⟩
    ·replace c12 := Bool.eq_false_iff.mpr c12
     subst c12
     have H1 : ((imageeditorref10_Valued.f kj6 a2_0 a2_1 l2_2).bind fun t476 => (if t476 = 0 then ((imageeditorref10_Valued.f kj6 a3_0 a3_1 l3_2).bind fun t477 => (if t477 = 0 then (if a2_0 = a3_0 then (imageeditorref10_Image.j1 kj6 a0 a1 (a2_1 != a3_1) a2_0 a2_1 l2_2 a3_0 a3_1 l3_2) else (imageeditorref10_Image.j1 kj6 a0 a1 true a2_0 a2_1 l2_2 a3_0 a3_1 l3_2)) else (some (0, 0, ([] : List (S32)), t477)))) else (some (0, 0, ([] : List (S32)), t476)))) = some (r1, r2, r3, r4) := by rw [if_neg (show ¬ (false = true) by decide)] at H; exact H
     clear H
     have H := H1
     clear H1
     replace H := Option.bind_eq_some_iff.mp H
     obtain ⟨t476, A160, H⟩ := H
     replace H : (if t476 = 0 then ((imageeditorref10_Valued.f kj6 a3_0 a3_1 l3_2).bind fun t477 => (if t477 = 0 then (if a2_0 = a3_0 then (imageeditorref10_Image.j1 kj6 a0 a1 (a2_1 != a3_1) a2_0 a2_1 l2_2 a3_0 a3_1 l3_2) else (imageeditorref10_Image.j1 kj6 a0 a1 true a2_0 a2_1 l2_2 a3_0 a3_1 l3_2)) else (some (0, 0, ([] : List (S32)), t477)))) else (some (0, 0, ([] : List (S32)), t476))) = some (r1, r2, r3, r4) := H
     have A16 := Aside0.mk A160
     clear A160
     by_cases c17 : t476 = 0
     ·rw [if_pos c17] at H
      have c17b0 : (t476 == 0) = true := beq_iff_eq.mpr c17
      have c17b1 : (t476 != 0) = false := bne_eq_false_iff_eq.mpr c17
      clear c17
      replace H := Option.bind_eq_some_iff.mp H
      obtain ⟨t477, A180, H⟩ := H
      replace H : (if t477 = 0 then (if a2_0 = a3_0 then (imageeditorref10_Image.j1 kj6 a0 a1 (a2_1 != a3_1) a2_0 a2_1 l2_2 a3_0 a3_1 l3_2) else (imageeditorref10_Image.j1 kj6 a0 a1 true a2_0 a2_1 l2_2 a3_0 a3_1 l3_2)) else (some (0, 0, ([] : List (S32)), t477))) = some (r1, r2, r3, r4) := H
      have A18 := Aside0.mk A180
      clear A180
      by_cases c19 : t477 = 0
      ·rw [if_pos c19] at H
       have c19b0 : (t477 == 0) = true := beq_iff_eq.mpr c19
       have c19b1 : (t477 != 0) = false := bne_eq_false_iff_eq.mpr c19
       clear c19
       have HC20 := Aside0.mk H
       clear H
       have hnb21 := NAB.out
       have hnc21 := NBA.out
       have hnb22 := NAC.out
       have hnc22 := NCA.out
       have hcz23_0 := ci_ KA 0 (.int .i64 a2_0)
       have hcz23_1 := ci_ KA 1 (.int .i64 a2_1)
       have hcz23_2 := ci_ KA 2 (.slice A2_2 l2_2.length c2_2)
       have hfz23_0 := blk_frozen KA.out 0
       have hfz23_1 := blk_frozen KA.out 1
       have hfz23_2 := blk_frozen KA.out 2
       go_upto_region 11 with (first | ((with_reducible refine gate_callee (f := 59) rfl ?_); refine goesL_ (some 26) rfl rfl Try.func59 (by kernel_rfl) rfl #[.agg #[.int .i64 a2_0, .int .i64 a2_1, .slice A2_2 l2_2.length c2_2]] rfl pm ?_; (with_reducible refine (imageeditorref10_Valued.calls kj6 a2_0 a2_1 _ _ l2_2 t476 _ ?side1 ?side2 A16.out).mono ?_); (case side1 => repeat (first | exact (Kd.C_below HR2_2.out HB.out) | (with_reducible refine Kd.C_alloc ?_ _) | (with_reducible refine Kd.C_drewN ?_ _) | (with_reducible refine Kd.C_drew ?_))); (case side2 => exact HC2_2.out); rintro e w24 ⟨rfl, hb⟩; refine ⟨_, rfl, ?_⟩; replace KA := bp_ KA hb; replace KB := bp_ KB hb; replace KC := bp_ KC hb; replace HB := Aside0.mk (below_step (pb3 HB.out GEA.out GEB.out GEC.out) hb); (try clear hb); (try clear hb2); (try clear hk); (try clear hi); have hnb25 := NBC.out; have hnc25 := NCB.out; have hcz26_0 := ci_ KB 0 (.int .i64 a3_0); have hcz26_1 := ci_ KB 1 (.int .i64 a3_1); have hcz26_2 := ci_ KB 2 (.slice A3_2 l3_2.length c3_2); have hfz26_0 := blk_frozen KB.out 0; have hfz26_1 := blk_frozen KB.out 1; have hfz26_2 := blk_frozen KB.out 2) | ((with_reducible refine gate_callee (f := 59) rfl ?_); refine goesL_ (some 32) rfl rfl Try.func59 (by kernel_rfl) rfl #[.agg #[.int .i64 a3_0, .int .i64 a3_1, .slice A3_2 l3_2.length c3_2]] rfl pm ?_; (with_reducible refine (imageeditorref10_Valued.calls kj6 a3_0 a3_1 _ _ l3_2 t477 _ ?side1 ?side2 A18.out).mono ?_); (case side1 => repeat (first | exact (Kd.C_below HR3_2.out HB.out) | (with_reducible refine Kd.C_alloc ?_ _) | (with_reducible refine Kd.C_drewN ?_ _) | (with_reducible refine Kd.C_drew ?_))); (case side2 => exact HC3_2.out); rintro e w27 ⟨rfl, hb⟩; refine ⟨_, rfl, ?_⟩; replace KA := bp_ KA hb; replace KB := bp_ KB hb; replace KC := bp_ KC hb; replace HB := Aside0.mk (below_step (pb3 HB.out GEA.out GEB.out GEC.out) hb); (try clear hb); (try clear hb2); (try clear hk); (try clear hi)))
       (try simp only [Act.put, List.setIfInBounds_toArray, List.set_cons_zero, List.set_cons_succ])
       go_cut [48] (fun v48 wc => ∃ (kq : Nat) (x48_19 : Bool), v48 = .bool x48_19 ∧ Aside0 (imageeditorref10_Image.j1 kq a0 a1 x48_19 a2_0 a2_1 l2_2 a3_0 a3_1 l3_2 = some (r1, r2, r3, r4)) ∧ Aside0 (kq ≤ kj6) ∧ Aside0 (wc.heap[gA]? = some (.cells #[.int .i64 a2_0, .int .i64 a2_1, (.slice A2_2 l2_2.length c2_2)] 24 (0, 0))) ∧ Aside0 (wc.heap[gB]? = some (.cells #[.int .i64 a3_0, .int .i64 a3_1, (.slice A3_2 l3_2.length c3_2)] 24 (0, 0))) ∧ Aside0 (wc.heap[gC]? = some (.cells #[.int .i64 0, .int .i64 0, (.slice none 0 0)] 24 (0, 0))) ∧ Aside0 (Below w.heap.size w wc))
       case first =>
        have H := HC20.out
        clear HC20
        by_cases c28 : a2_0 = a3_0
        ·rw [if_pos c28] at H
         have c28b0 : (a2_0 == a3_0) = true := beq_iff_eq.mpr c28
         have c28b1 : (a2_0 != a3_0) = false := bne_eq_false_iff_eq.mpr c28
         clear c28
         (first | rw [c28b0] | (simp only [i64_w, i32_w]; rw [c28b0]) | skip)
         have H' := Aside0.mk H
         clear H
         have hnb29 := NAB.out
         have hnc29 := NBA.out
         have hnb30 := NAC.out
         have hnc30 := NCA.out
         have hcz31_0 := ci_ KA 0 (.int .i64 a2_0)
         have hcz31_1 := ci_ KA 1 (.int .i64 a2_1)
         have hcz31_2 := ci_ KA 2 (.slice A2_2 l2_2.length c2_2)
         have hfz31_0 := blk_frozen KA.out 0
         have hfz31_1 := blk_frozen KA.out 1
         have hfz31_2 := blk_frozen KA.out 2
         have hnb32 := NBC.out
         have hnc32 := NCB.out
         have hcz33_0 := ci_ KB 0 (.int .i64 a3_0)
         have hcz33_1 := ci_ KB 1 (.int .i64 a3_1)
         have hcz33_2 := ci_ KB 2 (.slice A3_2 l3_2.length c3_2)
         have hfz33_0 := blk_frozen KB.out 0
         have hfz33_1 := blk_frozen KB.out 1
         have hfz33_2 := blk_frozen KB.out 2
         go_wp2
         go_meet
         case rel => exact ⟨_, ((a2_1 != a3_1)), (by first | rfl | (simp; done) | (simp [*]; done)), H', ⟨by have := HJ6.out; first | omega | exact Nat.le_refl _⟩, ⟨pl KA.out⟩, ⟨pl KB.out⟩, ⟨pl KC.out⟩, ⟨pb3 HB.out GEA.out GEB.out GEC.out⟩⟩
        ·rw [if_neg c28] at H
         have c28b0 : (a2_0 == a3_0) = false := beq_eq_false_iff_ne.mpr c28
         have c28b1 : (a2_0 != a3_0) = true := bne_iff_ne.mpr c28
         (first | rw [c28b0] | (simp only [i64_w, i32_w]; rw [c28b0]) | skip)
         have H' := Aside0.mk H
         clear H
         have hnb34 := NAB.out
         have hnc34 := NBA.out
         have hnb35 := NAC.out
         have hnc35 := NCA.out
         have hcz36_0 := ci_ KA 0 (.int .i64 a2_0)
         have hcz36_1 := ci_ KA 1 (.int .i64 a2_1)
         have hcz36_2 := ci_ KA 2 (.slice A2_2 l2_2.length c2_2)
         have hfz36_0 := blk_frozen KA.out 0
         have hfz36_1 := blk_frozen KA.out 1
         have hfz36_2 := blk_frozen KA.out 2
         have hnb37 := NBC.out
         have hnc37 := NCB.out
         have hcz38_0 := ci_ KB 0 (.int .i64 a3_0)
         have hcz38_1 := ci_ KB 1 (.int .i64 a3_1)
         have hcz38_2 := ci_ KB 2 (.slice A3_2 l3_2.length c3_2)
         have hfz38_0 := blk_frozen KB.out 0
         have hfz38_1 := blk_frozen KB.out 1
         have hfz38_2 := blk_frozen KB.out 2
         go_wp2
         go_meet
         case rel => exact ⟨_, (true), (by first | rfl | (simp; done) | (simp [*]; done)), H', ⟨by have := HJ6.out; first | omega | exact Nat.le_refl _⟩, ⟨pl KA.out⟩, ⟨pl KB.out⟩, ⟨pl KC.out⟩, ⟨pb3 HB.out GEA.out GEB.out GEC.out⟩⟩
       case rest =>
        clear HC20
        try clear c1
        try clear c2
        try clear p2
        try clear c3
        try clear c5
        try clear c6
        try clear c11
        try clear c11b0
        try clear c12
        try clear c13
        try clear c14
        try clear c17
        try clear c17b0
        try clear c17b1
        try clear c19
        try clear c19b0
        try clear c19b1
        try clear c21
        try clear c22
        try clear c25
        try clear c27
        try clear c28
        try clear c28b0
        try clear c28b1
        try clear c29
        try clear c30
        try clear c32
        try clear c34
        try clear c35
        try clear c37
        try clear hcz15_0
        try clear hcz15_1
        try clear hcz15_2
        try clear hcz23_0
        try clear hcz23_1
        try clear hcz23_2
        try clear hcz26_0
        try clear hcz26_1
        try clear hcz26_2
        try clear hcz31_0
        try clear hcz31_1
        try clear hcz31_2
        try clear hcz33_0
        try clear hcz33_1
        try clear hcz33_2
        try clear hcz36_0
        try clear hcz36_1
        try clear hcz36_2
        try clear hcz38_0
        try clear hcz38_1
        try clear hcz38_2
        try clear hfz15_0
        try clear hfz15_1
        try clear hfz15_2
        try clear hfz23_0
        try clear hfz23_1
        try clear hfz23_2
        try clear hfz26_0
        try clear hfz26_1
        try clear hfz26_2
        try clear hfz31_0
        try clear hfz31_1
        try clear hfz31_2
        try clear hfz33_0
        try clear hfz33_1
        try clear hfz33_2
        try clear hfz36_0
        try clear hfz36_1
        try clear hfz36_2
        try clear hfz38_0
        try clear hfz38_1
        try clear hfz38_2
        try clear p2
        obtain ⟨kq, x48_19, rfl, HA, HJ19, KA, KB, KC, HB⟩ := hcut
        cases kq with
        | zero => exact absurd HA.out (by simp [imageeditorref10_Image.j1])
        | succ kj19 =>
         have H := HA.out
         clear HA
         simp only [imageeditorref10_Image.j1] at H
         by_cases c39 : x48_19 = true
         ·subst c39
          have H1 : (some (0, 0, ([] : List (S32)), 15)) = some (r1, r2, r3, r4) := by rw [if_pos rfl] at H; exact H
          clear H
          have H := H1
          clear H1
          simp only [Option.some.injEq, Prod.mk.injEq] at H
          obtain ⟨rfl, rfl, rfl, rfl⟩ := H
          have hnb40 := NCA.out
          have hnc40 := NAC.out
          have hnb41 := NCB.out
          have hnc41 := NBC.out
          have hcz42_0 := ci_ KC 0 (.int .i64 0)
          have hcz42_1 := ci_ KC 1 (.int .i64 0)
          have hcz42_2 := ci_ KC 2 (.slice none 0 0)
          have hfz42_0 := blk_frozen KC.out 0
          have hfz42_1 := blk_frozen KC.out 1
          have hfz42_2 := blk_frozen KC.out 2
          go_wp2
          refine bodyPost_ret (results_ct rfl _ _ gC 24 #[.int .i64 0, .int .i64 0, .slice none 0 0] (0, 0) _ rfl (by refine pl ?_; refine blk_put (cs := #[.int .i64 0, .int .i64 0, .slice none 0 0]) ?_ 2 _ rfl; refine pl ?_; refine blk_put (cs := #[.int .i64 0, .int .i64 0, .slice none 0 0]) ?_ 1 _ rfl; refine pl ?_; refine blk_put (cs := #[.int .i64 0, .int .i64 0, .slice none 0 0]) ?_ 0 _ rfl; refine pl ?_; exact KC.out) Try.underlying24 rfl (by kernel_rfl)) rfl ?_
          exact ⟨_, by first | rfl | (simp [errW_none, errW_some] <;> rfl) | (simp [*, errW_none, errW_some] <;> rfl), by first | exact Kd.R_nil _ _ _ _ _ | exact Kd.N_nil _ _ _ _ _ | exact Kd.V_nil _ _ _ _ _ | exact Kd.Q_nil _ _ _ _ _ | exact Kd.S_nil _ _ _ _ _, pb3 HB.out GEA.out GEB.out GEC.out⟩
         ·replace c39 := Bool.eq_false_iff.mpr c39
          subst c39
          have H1 : (imageeditorref10_Image.l0 kj19 a0 a1 0 a2_0 a2_1 l2_2 a3_0 a3_1 l3_2 a2_0 a2_1 ([] : List (S32))) = some (r1, r2, r3, r4) := by rw [if_neg (show ¬ (false = true) by decide)] at H; exact H
          clear H
          have H := H1
          clear H1
          have H' := Aside0.mk H
          clear H
          have hnb43 := NAB.out
          have hnc43 := NBA.out
          have hnb44 := NAC.out
          have hnc44 := NCA.out
          have hcz45_0 := ci_ KA 0 (.int .i64 a2_0)
          have hcz45_1 := ci_ KA 1 (.int .i64 a2_1)
          have hcz45_2 := ci_ KA 2 (.slice A2_2 l2_2.length c2_2)
          have hfz45_0 := blk_frozen KA.out 0
          have hfz45_1 := blk_frozen KA.out 1
          have hfz45_2 := blk_frozen KA.out 2
          go_wp2_with (first | ((with_reducible refine gate_dst (N := 12) rfl ?_); refine box_event ?hg (N := 12) ?hd (cs := #[.int .i64 0, .int .i64 0, .slice none 0 0]) (t := 24) ?hr ?_; (case hd => rfl); (case hg => rfl); (case hr => first | (go_simp; done) | (go_simp; rfl)); intro gD hg w46 hbox hb; have c0_ := cp_ hb KA; have c1_ := cp_ hb KB; have c2_ := cp_ hb KC; have KD := Aside0.mk hbox; have GWD := ge_ hg (pb3 HB.out GEA.out GEB.out GEC.out); have GED := ge_ hg (pb3 HB.out GEA.out GEB.out GEC.out); have NAD := nl_ hg c0_; have NDA := ng_ hg c0_; have NBD := nl_ hg c1_; have NDB := ng_ hg c1_; have NCD := nl_ hg c2_; have NDC := ng_ hg c2_; replace KA := bb_ c0_ hb; replace KB := bb_ c1_ hb; replace KC := bb_ c2_ hb; replace HB := Aside0.mk (below_step (pb3 HB.out GEA.out GEB.out GEC.out) hb); clear c0_ c1_ c2_; clear hb hbox hg; have hnb47 := NDA.out; have hnc47 := NAD.out; have hnb48 := NDB.out; have hnc48 := NBD.out; have hnb49 := NDC.out; have hnc49 := NCD.out; have hcz50_0 := ci_ KD 0 (.int .i64 0); have hcz50_1 := ci_ KD 1 (.int .i64 0); have hcz50_2 := ci_ KD 2 (.slice none 0 0); have hfz50_0 := blk_frozen KD.out 0; have hfz50_1 := blk_frozen KD.out 1; have hfz50_2 := blk_frozen KD.out 2))
          go_loopg [13] kj19 (fun kq v13 w' => ∃ (x13_3 : Int) (x479002_3 : List (S32)) (u479002 : Value), v13 = .int .i64 x13_3 ∧ Aside0 (imageeditorref10_Image.l0 kq a0 a1 x13_3 a2_0 a2_1 l2_2 a3_0 a3_1 l3_2 a2_0 a2_1 x479002_3 = some (r1, r2, r3, r4)) ∧ Aside0 (kq ≤ kj19) ∧ Aside0 (Kd.R k32 32 w' w.heap.size (fun _ => True) u479002 x479002_3) ∧ Aside0 (w'.heap[gA]? = some (.cells #[.int .i64 a2_0, .int .i64 a2_1, (.slice A2_2 l2_2.length c2_2)] 24 (0, 0))) ∧ Aside0 (w'.heap[gB]? = some (.cells #[.int .i64 a3_0, .int .i64 a3_1, (.slice A3_2 l3_2.length c3_2)] 24 (0, 0))) ∧ Aside0 (w'.heap[gC]? = some (.cells #[.int .i64 0, .int .i64 0, (.slice none 0 0)] 24 (0, 0))) ∧ Aside0 (w'.heap[gD]? = some (.cells #[.int .i64 a2_0, .int .i64 a2_1, u479002] 24 (0, 0))) ∧ Aside0 (Below w.heap.size w w'))
          case atStart => exact ⟨(0), (([] : List (S32))), (.slice none 0 0), (by first | rfl | (simp; done) | (simp [*]; done)), H', ⟨Nat.le_refl _⟩, ⟨by first | exact Kd.R_nil _ _ _ _ _ | exact Kd.N_nil _ _ _ _ _ | exact Kd.V_nil _ _ _ _ _ | exact Kd.Q_nil _ _ _ _ _ | exact Kd.S_nil _ _ _ _ _⟩, ⟨by refine pl ?_; refine blk_far ?_ NAD.out _; refine pl ?_; refine blk_far ?_ NAD.out _; refine pl ?_; refine blk_far ?_ NAD.out _; refine pl ?_; exact KA.out⟩, ⟨by refine pl ?_; refine blk_far ?_ NBD.out _; refine pl ?_; refine blk_far ?_ NBD.out _; refine pl ?_; refine blk_far ?_ NBD.out _; refine pl ?_; exact KB.out⟩, ⟨by refine pl ?_; refine blk_far ?_ NCD.out _; refine pl ?_; refine blk_far ?_ NCD.out _; refine pl ?_; refine blk_far ?_ NCD.out _; refine pl ?_; exact KC.out⟩, ⟨by refine pl ?_; refine blk_put (cs := #[.int .i64 a2_0, .int .i64 a2_1, .slice none 0 0]) ?_ 2 _ rfl; refine pl ?_; refine blk_put (cs := #[.int .i64 a2_0, .int .i64 0, .slice none 0 0]) ?_ 1 _ rfl; refine pl ?_; refine blk_put (cs := #[.int .i64 0, .int .i64 0, .slice none 0 0]) ?_ 0 _ rfl; refine pl ?_; exact KD.out⟩, ⟨by repeat (first | (with_reducible first | exact HB.out | apply below_alloc | apply pw_below_drewN | apply below_drew1 | refine below_set ?_ GEA.out | refine below_set ?_ GEB.out | refine below_set ?_ GEC.out | refine below_set ?_ GED.out) | exact HB.out)⟩⟩
          case round =>
           clear H'
           try clear c1
           try clear c2
           try clear p2
           try clear c3
           try clear c4
           try clear c5
           try clear c6
           try clear c11
           try clear c11b0
           try clear c12
           try clear c13
           try clear c14
           try clear c17
           try clear c17b0
           try clear c17b1
           try clear c19
           try clear c19b0
           try clear c19b1
           try clear c21
           try clear c22
           try clear c25
           try clear c27
           try clear c28
           try clear c28b0
           try clear c28b1
           try clear c29
           try clear c30
           try clear c32
           try clear c34
           try clear c35
           try clear c37
           try clear c39
           try clear c40
           try clear c41
           try clear c43
           try clear c44
           try clear c47
           try clear c48
           try clear c49
           try clear hcz15_0
           try clear hcz15_1
           try clear hcz15_2
           try clear hcz23_0
           try clear hcz23_1
           try clear hcz23_2
           try clear hcz26_0
           try clear hcz26_1
           try clear hcz26_2
           try clear hcz31_0
           try clear hcz31_1
           try clear hcz31_2
           try clear hcz33_0
           try clear hcz33_1
           try clear hcz33_2
           try clear hcz36_0
           try clear hcz36_1
           try clear hcz36_2
           try clear hcz38_0
           try clear hcz38_1
           try clear hcz38_2
           try clear hcz42_0
           try clear hcz42_1
           try clear hcz42_2
           try clear hcz45_0
           try clear hcz45_1
           try clear hcz45_2
           try clear hcz50_0
           try clear hcz50_1
           try clear hcz50_2
           try clear hfz15_0
           try clear hfz15_1
           try clear hfz15_2
           try clear hfz23_0
           try clear hfz23_1
           try clear hfz23_2
           try clear hfz26_0
           try clear hfz26_1
           try clear hfz26_2
           try clear hfz31_0
           try clear hfz31_1
           try clear hfz31_2
           try clear hfz33_0
           try clear hfz33_1
           try clear hfz33_2
           try clear hfz36_0
           try clear hfz36_1
           try clear hfz36_2
           try clear hfz38_0
           try clear hfz38_1
           try clear hfz38_2
           try clear hfz42_0
           try clear hfz42_1
           try clear hfz42_2
           try clear hfz45_0
           try clear hfz45_1
           try clear hfz45_2
           try clear hfz50_0
           try clear hfz50_1
           try clear hfz50_2
           try clear p2
           obtain ⟨x13_3, x479002_3, u479002, rfl, HA, HK3, HO_479002, KA, KB, KC, KD, HB⟩ := hrel
           cases gk with
           | zero => exact absurd HA.out (by simp [imageeditorref10_Image.l0])
           | succ k3 =>
            have H := HA.out
            clear HA
            simp only [imageeditorref10_Image.l0] at H
            by_cases c51 : x13_3 < (l2_2.length : Int)
            ·rw [if_pos c51] at H
             have c51b0 : decide (x13_3 < (l2_2.length : Int)) = true := decide_eq_true c51
             clear c51
             by_cases c52 : 0 ≤ x13_3
             rotate_left
             ·rw [if_neg c52] at H
              exact absurd H (by simp)
             rw [if_pos c52] at H
             have c52b0 : decide (0 ≤ x13_3) = true := decide_eq_true c52
             clear c52
             by_cases c53 : x13_3 < (l3_2.length : Int)
             rotate_left
             ·rw [if_neg c53] at H
              exact absurd H (by simp)
             rw [if_pos c53] at H
             have c53b0 : decide (x13_3 < (l3_2.length : Int)) = true := decide_eq_true c53
             clear c53
             replace H := Option.bind_eq_some_iff.mp H
             obtain ⟨⟨t481, t482, t483, t484⟩, A540, H⟩ := H
             replace H : ((imageeditorref10_Over.f k3 a0 ((rd_T32 l2_2 x13_3).f0) ((rd_T32 l2_2 x13_3).f1) ((rd_T32 l2_2 x13_3).f2) ((rd_T32 l2_2 x13_3).f3) t481 t482 t483 t484).bind fun bt485 => (if x479002_3.length < 4398046511104 then (imageeditorref10_Image.l0 k3 a0 a1 (wrap64 (x13_3 + 1)) a2_0 a2_1 l2_2 a3_0 a3_1 l3_2 a2_0 a2_1 (x479002_3 ++ [(⟨bt485.1, bt485.2.1, bt485.2.2.1, bt485.2.2.2⟩ : S32)])) else (none))) = some (r1, r2, r3, r4) := H
             have A54 := Aside0.mk A540
             clear A540
             replace H := Option.bind_eq_some_iff.mp H
             obtain ⟨⟨t485, t486, t487, t488⟩, A550, H⟩ := H
             replace H : (if x479002_3.length < 4398046511104 then (imageeditorref10_Image.l0 k3 a0 a1 (wrap64 (x13_3 + 1)) a2_0 a2_1 l2_2 a3_0 a3_1 l3_2 a2_0 a2_1 (x479002_3 ++ [(⟨t485, t486, t487, t488⟩ : S32)])) else (none)) = some (r1, r2, r3, r4) := H
             have A55 := Aside0.mk A550
             clear A550
             by_cases c56 : x479002_3.length < 4398046511104
             rotate_left
             ·rw [if_neg c56] at H
              exact absurd H (by simp)
             rw [if_pos c56] at H
             have LMc56 := Aside0.mk c56
             clear c56
             obtain ⟨y489, hy489⟩ : ∃ y_ : List (S32), y_ = (x479002_3 ++ [(⟨t485, t486, t487, t488⟩ : S32)]) := ⟨_, rfl⟩
             replace H : (imageeditorref10_Image.l0 k3 a0 a1 (wrap64 (x13_3 + 1)) a2_0 a2_1 l2_2 a3_0 a3_1 l3_2 a2_0 a2_1 y489) = some (r1, r2, r3, r4) := by first | (rw [hy489]; with_reducible exact H) | (have H2_ := (Option.bind_some _ _).symm.trans H; rw [hy489]; with_reducible exact H2_) | (have H2_ := (Option.bind_some _ _).symm.trans H; with_reducible exact H2_) | with_reducible exact H | (rw [hy489]; exact H) | exact H
             have Ny489 := Aside0.mk hy489
             clear hy489
             have H' := Aside0.mk H
             clear H
             have hnb57 := NAB.out
             have hnc57 := NBA.out
             have hnb58 := NAC.out
             have hnc58 := NCA.out
             have hnb59 := NAD.out
             have hnc59 := NDA.out
             have hcz60_0 := ci_ KA 0 (.int .i64 a2_0)
             have hcz60_1 := ci_ KA 1 (.int .i64 a2_1)
             have hcz60_2 := ci_ KA 2 (.slice A2_2 l2_2.length c2_2)
             have hfz60_0 := blk_frozen KA.out 0
             have hfz60_1 := blk_frozen KA.out 1
             have hfz60_2 := blk_frozen KA.out 2
             try go_wp2
             replace HO_479002 := Aside0.mk (Kd.R_drew HO_479002.out)
             replace KA := Aside0.mk (blk_drew KA.out)
             replace KB := Aside0.mk (blk_drew KB.out)
             replace KC := Aside0.mk (blk_drew KC.out)
             replace KD := Aside0.mk (blk_drew KD.out)
             replace HB := Aside0.mk (below_drew1 HB.out)
             have p479 : 0 ≤ (x13_3 : Int) := of_decide_eq_true (by first | (with_reducible assumption) | assumption)
             have q479 : x13_3 < (l2_2.length : Int) := of_decide_eq_true (by first | (with_reducible assumption) | assumption)
             obtain ⟨ad479, e479, hx479_0, hx479_1, hx479_2, hx479_3⟩ := at_T32 HR2_2.out x13_3 p479 q479
             have hw479_3 := hx479_3
             have hw479_2 := hx479_2
             have hw479_1 := hx479_1
             have hw479_0 := hx479_0
             cases e479
             replace hx479_0 := (HB.out.cell (World.block_lt_of_cell? w _ hx479_0)).trans hx479_0
             replace hx479_1 := (HB.out.cell (World.block_lt_of_cell? w _ hx479_1)).trans hx479_1
             replace hx479_2 := (HB.out.cell (World.block_lt_of_cell? w _ hx479_2)).trans hx479_2
             replace hx479_3 := (HB.out.cell (World.block_lt_of_cell? w _ hx479_3)).trans hx479_3
             replace p479 := eq_true p479
             replace q479 := eq_true q479
             have p480 : 0 ≤ (x13_3 : Int) := of_decide_eq_true (by first | (with_reducible assumption) | assumption)
             have q480 : x13_3 < (l3_2.length : Int) := of_decide_eq_true (by first | (with_reducible assumption) | assumption)
             obtain ⟨ad480, e480, hx480_0, hx480_1, hx480_2, hx480_3⟩ := at_T32 HR3_2.out x13_3 p480 q480
             have hw480_3 := hx480_3
             have hw480_2 := hx480_2
             have hw480_1 := hx480_1
             have hw480_0 := hx480_0
             cases e480
             replace hx480_0 := (HB.out.cell (World.block_lt_of_cell? w _ hx480_0)).trans hx480_0
             replace hx480_1 := (HB.out.cell (World.block_lt_of_cell? w _ hx480_1)).trans hx480_1
             replace hx480_2 := (HB.out.cell (World.block_lt_of_cell? w _ hx480_2)).trans hx480_2
             replace hx480_3 := (HB.out.cell (World.block_lt_of_cell? w _ hx480_3)).trans hx480_3
             replace p480 := eq_true p480
             replace q480 := eq_true q480
             refine start_ (n := 20) (S := fun w' => w'.cell? ⟨gD, 0, none⟩ = some (.int .i64 a2_0) ∧ w'.cell? ⟨gD, 1, none⟩ = some (.int .i64 a2_1) ∧ w'.cell? ⟨gD, 2, none⟩ = some (u479002) ∧ w'.cell? ⟨gA, 0, none⟩ = some (.int .i64 a2_0) ∧ w'.cell? ⟨gA, 1, none⟩ = some (.int .i64 a2_1) ∧ w'.cell? ⟨gA, 2, none⟩ = some (.slice (some ad479) l2_2.length c2_2) ∧ w'.cell? ⟨gB, 0, none⟩ = some (.int .i64 a3_0) ∧ w'.cell? ⟨gB, 1, none⟩ = some (.int .i64 a3_1) ∧ w'.cell? ⟨gB, 2, none⟩ = some (.slice (some ad480) l3_2.length c3_2) ∧ w'.cell? (ad479.add ((x13_3).toNat * 4)) = some (.int .i64 ((rd_T32 l2_2 x13_3).f0)) ∧ w'.cell? ⟨(ad479.add ((x13_3).toNat * 4)).block, (ad479.add ((x13_3).toNat * 4)).off + 1, none⟩ = some (.int .i64 ((rd_T32 l2_2 x13_3).f1)) ∧ w'.cell? ⟨(ad479.add ((x13_3).toNat * 4)).block, (ad479.add ((x13_3).toNat * 4)).off + 2, none⟩ = some (.int .i64 ((rd_T32 l2_2 x13_3).f2)) ∧ w'.cell? ⟨(ad479.add ((x13_3).toNat * 4)).block, (ad479.add ((x13_3).toNat * 4)).off + 3, none⟩ = some (.int .i64 ((rd_T32 l2_2 x13_3).f3)) ∧ w'.cell? (ad480.add ((x13_3).toNat * 4)) = some (.int .i64 ((rd_T32 l3_2 x13_3).f0)) ∧ w'.cell? ⟨(ad480.add ((x13_3).toNat * 4)).block, (ad480.add ((x13_3).toNat * 4)).off + 1, none⟩ = some (.int .i64 ((rd_T32 l3_2 x13_3).f1)) ∧ w'.cell? ⟨(ad480.add ((x13_3).toNat * 4)).block, (ad480.add ((x13_3).toNat * 4)).off + 2, none⟩ = some (.int .i64 ((rd_T32 l3_2 x13_3).f2)) ∧ w'.cell? ⟨(ad480.add ((x13_3).toNat * 4)).block, (ad480.add ((x13_3).toNat * 4)).off + 3, none⟩ = some (.int .i64 ((rd_T32 l3_2 x13_3).f3))) (ds := [19]) #[false, false, false, false, false, false, false, false, false, false, false, false, false, false, false, false, false, false, false, false] (by kernel_rfl) rfl rfl ⟨(blk_cell KD.out 0).trans rfl, (blk_cell KD.out 1).trans rfl, (blk_cell KD.out 2).trans rfl, (blk_cell KA.out 0).trans rfl, (blk_cell KA.out 1).trans rfl, (blk_cell KA.out 2).trans rfl, (blk_cell KB.out 0).trans rfl, (blk_cell KB.out 1).trans rfl, (blk_cell KB.out 2).trans rfl, ((HB.out.cell (World.block_lt_of_cell? w _ hw479_0)).trans hw479_0), ((HB.out.cell (World.block_lt_of_cell? w _ hw479_1)).trans hw479_1), ((HB.out.cell (World.block_lt_of_cell? w _ hw479_2)).trans hw479_2), ((HB.out.cell (World.block_lt_of_cell? w _ hw479_3)).trans hw479_3), ((HB.out.cell (World.block_lt_of_cell? w _ hw480_0)).trans hw480_0), ((HB.out.cell (World.block_lt_of_cell? w _ hw480_1)).trans hw480_1), ((HB.out.cell (World.block_lt_of_cell? w _ hw480_2)).trans hw480_2), ((HB.out.cell (World.block_lt_of_cell? w _ hw480_3)).trans hw480_3)⟩ (fun hHeld => ?_); refine with_tabW imageeditorref10_Image.tab17 imageeditorref10_Image.bits17 (fun HT_ HW_ => ?_)
             generalize wr.drew = w61 at HO_479002 KA KB KC KD HB hx479_0 hx479_1 hx479_2 hx479_3 hx480_0 hx480_1 hx480_2 hx480_3 hHeld ⊢
             refine pure_ (i := 0) (N := some 62) (v := ?_) (a' := ?_) #[true, false, false, false, false, false, false, false, false, false, false, false, false, false, false, false, false, false, false, false] rfl rfl (any_of HT_.out (by kernel_rfl)) (fun _ _ _ h => h) (Or.inl ⟨by rfl, ?_⟩) ?_ ?_
             rotate_left
             ·intro w'
              go_simp
              with_reducible rfl
             rotate_left
             ·refine ps ?_
              rfl
             refine pure_ (i := 2) (N := some 64) (v := ?_) (a' := ?_) #[true, false, true, false, false, false, false, false, false, false, false, false, false, false, false, false, false, false, false, false] rfl rfl (any_of HT_.out (by kernel_rfl)) (fun _ _ _ h => h) (Or.inl ⟨by rfl, ?_⟩) ?_ ?_
             rotate_left
             ·intro w'
              go_simp
              with_reducible rfl
             rotate_left
             ·refine ps ?_
              rfl
             refine pure_ (i := 3) (N := some 65) (v := ?_) (a' := ?_) #[true, false, true, true, false, false, false, false, false, false, false, false, false, false, false, false, false, false, false, false] rfl rfl (any_of HT_.out (by kernel_rfl)) (fun _ _ _ h => h) (Or.inl ⟨by rfl, ?_⟩) ?_ ?_
             rotate_left
             ·intro w'
              go_simp
              with_reducible rfl
             rotate_left
             ·refine ps ?_
              rfl
             refine pure_ (i := 5) (N := some 67) (v := ?_) (a' := ?_) #[true, false, true, true, false, true, false, false, false, false, false, false, false, false, false, false, false, false, false, false] rfl rfl (any_of HT_.out (by kernel_rfl)) (fun _ _ _ h => h) (Or.inl ⟨by rfl, ?_⟩) ?_ ?_
             rotate_left
             ·intro w'
              go_simp
              with_reducible rfl
             rotate_left
             ·refine ps ?_
              rfl
             refine pure_ (i := 8) (N := some 70) (v := ?_) (a' := ?_) #[true, false, true, true, false, true, false, false, true, false, false, false, false, false, false, false, false, false, false, false] rfl rfl (any_of HT_.out (by kernel_rfl)) (fun _ _ _ h => h) (Or.inl ⟨by rfl, ?_⟩) ?_ ?_
             rotate_left
             ·intro w'
              go_simp
              with_reducible rfl
             rotate_left
             ·refine ps ?_
              rfl
             refine pure_ (i := 10) (N := some 72) (v := ?_) (a' := ?_) #[true, false, true, true, false, true, false, false, true, false, true, false, false, false, false, false, false, false, false, false] rfl rfl (any_of HT_.out (by kernel_rfl)) (fun _ _ _ h => h) (Or.inl ⟨by rfl, ?_⟩) ?_ ?_
             rotate_left
             ·intro w'
              go_simp
              with_reducible rfl
             rotate_left
             ·refine ps ?_
              rfl
             refine pure_ (i := 13) (N := some 75) (v := ?_) (a' := ?_) #[true, false, true, true, false, true, false, false, true, false, true, false, false, true, false, false, false, false, false, false] rfl rfl (any_of HT_.out (by kernel_rfl)) (fun _ _ _ h => h) (Or.inl ⟨by rfl, ?_⟩) ?_ ?_
             rotate_left
             ·intro w'
              go_simp
              with_reducible rfl
             rotate_left
             ·refine ps ?_
              rfl
             refine take_ (i := 1) (N := some 63) (v := ?_) (a' := ?_) #[true, true, true, true, false, true, false, false, true, false, true, false, false, true, false, false, false, false, false, false] rfl rfl (take_ofW HT_.out HW_.out (by kernel_rfl)) (fun _ _ _ h => h) (Or.inl ⟨by rfl, ?_⟩) hHeld ?_ ?_
             rotate_left
             ·rintro w' ⟨s0, s1, s2, s3, s4, s5, s6, s7, s8, s9, s10, s11, s12, s13, s14, s15, s16⟩
              go_simp
              with_reducible rfl
             rotate_left
             ·refine ps ?_
              rfl
             refine take_ (i := 4) (N := some 66) (v := ?_) (a' := ?_) #[true, true, true, true, true, true, false, false, true, false, true, false, false, true, false, false, false, false, false, false] rfl rfl (take_ofW HT_.out HW_.out (by kernel_rfl)) (fun _ _ _ h => h) (Or.inl ⟨by rfl, ?_⟩) hHeld ?_ ?_
             rotate_left
             ·rintro w' ⟨s0, s1, s2, s3, s4, s5, s6, s7, s8, s9, s10, s11, s12, s13, s14, s15, s16⟩
              go_simp
              with_reducible rfl
             rotate_left
             ·refine ps ?_
              rfl
             refine pure_ (i := 6) (N := some 68) (v := ?_) (a' := ?_) #[true, true, true, true, true, true, true, false, true, false, true, false, false, true, false, false, false, false, false, false] rfl rfl (any_of HT_.out (by kernel_rfl)) (fun _ _ _ h => h) (Or.inl ⟨by rfl, ?_⟩) ?_ ?_
             rotate_left
             ·intro w'
              go_simp
              with_reducible rfl
             rotate_left
             ·refine ps ?_
              rfl
             refine take_ (i := 7) (N := some 69) (v := ?_) (a' := ?_) #[true, true, true, true, true, true, true, true, true, false, true, false, false, true, false, false, false, false, false, false] rfl rfl (take_ofW HT_.out HW_.out (by kernel_rfl)) (fun _ _ _ h => h) (Or.inl ⟨by rfl, ?_⟩) hHeld ?_ ?_
             rotate_left
             ·rintro w' ⟨s0, s1, s2, s3, s4, s5, s6, s7, s8, s9, s10, s11, s12, s13, s14, s15, s16⟩
              go_simp
              with_reducible rfl
             rotate_left
             ·refine ps ?_
              rfl
             refine take_ (i := 9) (N := some 71) (v := ?_) (a' := ?_) #[true, true, true, true, true, true, true, true, true, true, true, false, false, true, false, false, false, false, false, false] rfl rfl (take_ofW HT_.out HW_.out (by kernel_rfl)) (fun _ _ _ h => h) (Or.inl ⟨by rfl, ?_⟩) hHeld ?_ ?_
             rotate_left
             ·rintro w' ⟨s0, s1, s2, s3, s4, s5, s6, s7, s8, s9, s10, s11, s12, s13, s14, s15, s16⟩
              go_simp
              with_reducible rfl
             rotate_left
             ·refine ps ?_
              rfl
             refine pure_ (i := 11) (N := some 73) (v := ?_) (a' := ?_) #[true, true, true, true, true, true, true, true, true, true, true, true, false, true, false, false, false, false, false, false] rfl rfl (any_of HT_.out (by kernel_rfl)) (fun _ _ _ h => h) (Or.inl ⟨by rfl, ?_⟩) ?_ ?_
             rotate_left
             ·intro w'
              go_simp
              with_reducible rfl
             rotate_left
             ·refine ps ?_
              rfl
             refine take_ (i := 12) (N := some 74) (v := ?_) (a' := ?_) #[true, true, true, true, true, true, true, true, true, true, true, true, true, true, false, false, false, false, false, false] rfl rfl (take_ofW HT_.out HW_.out (by kernel_rfl)) (fun _ _ _ h => h) (Or.inl ⟨by rfl, ?_⟩) hHeld ?_ ?_
             rotate_left
             ·rintro w' ⟨s0, s1, s2, s3, s4, s5, s6, s7, s8, s9, s10, s11, s12, s13, s14, s15, s16⟩
              go_simp
              with_reducible rfl
             rotate_left
             ·refine ps ?_
              rfl
             refine one_ (i := 14) (N := some 76) #[true, true, true, true, true, true, true, true, true, true, true, true, true, true, true, false, false, false, false, false] rfl rfl (one_of HT_.out (by kernel_rfl)) (by decide) (fun K hK => ?_)
             refine goes_ Try.func15 (by kernel_rfl) rfl #[.agg #[.int .i64 ((rd_T32 l3_2 x13_3).f0), .int .i64 ((rd_T32 l3_2 x13_3).f1), .int .i64 ((rd_T32 l3_2 x13_3).f2), .int .i64 ((rd_T32 l3_2 x13_3).f3)], .int .i64 a1] (by rfl) rfl rfl pm ?_
             with_reducible refine (imageeditorref06_Fade.calls k3 ((rd_T32 l3_2 x13_3).f0) ((rd_T32 l3_2 x13_3).f1) ((rd_T32 l3_2 x13_3).f2) ((rd_T32 l3_2 x13_3).f3) a1 t481 t482 t483 t484 _ A54.out).mono ?_
             rintro e w62 ⟨rfl, hb⟩
             refine ⟨_, rfl, ?_⟩
             replace HO_479002 := Aside0.mk (Kd.R_below (by (with_reducible repeat (first | apply Kd.R_alloc | apply Kd.R_drewN | apply Kd.R_drew)); exact HO_479002.out) hb)
             replace KA := bb_ KA hb
             replace KB := bb_ KB hb
             replace KC := bb_ KC hb
             replace KD := bb_ KD hb
             replace HB := Aside0.mk (below_step HB.out hb)
             try clear hb
             refine hK.out _ _ ⟨(blk_cell KD.out 0).trans rfl, (blk_cell KD.out 1).trans rfl, (blk_cell KD.out 2).trans rfl, (blk_cell KA.out 0).trans rfl, (blk_cell KA.out 1).trans rfl, (blk_cell KA.out 2).trans rfl, (blk_cell KB.out 0).trans rfl, (blk_cell KB.out 1).trans rfl, (blk_cell KB.out 2).trans rfl, ((HB.out.cell (World.block_lt_of_cell? w _ hw479_0)).trans hw479_0), ((HB.out.cell (World.block_lt_of_cell? w _ hw479_1)).trans hw479_1), ((HB.out.cell (World.block_lt_of_cell? w _ hw479_2)).trans hw479_2), ((HB.out.cell (World.block_lt_of_cell? w _ hw479_3)).trans hw479_3), ((HB.out.cell (World.block_lt_of_cell? w _ hw480_0)).trans hw480_0), ((HB.out.cell (World.block_lt_of_cell? w _ hw480_1)).trans hw480_1), ((HB.out.cell (World.block_lt_of_cell? w _ hw480_2)).trans hw480_2), ((HB.out.cell (World.block_lt_of_cell? w _ hw480_3)).trans hw480_3)⟩ (fun hHeld => ?_)
             clear hK K
             refine norm_ (a' := ?_) ?_ ?_
             rotate_left
             ·show Act.put _ (some 76) _ = _
              refine ps ?_
              rfl
             refine one_ (i := 15) (N := some 77) #[true, true, true, true, true, true, true, true, true, true, true, true, true, true, true, true, false, false, false, false] rfl rfl (one_of HT_.out (by kernel_rfl)) (by decide) (fun K hK => ?_)
             refine goes_ Try.func26 (by kernel_rfl) rfl #[.int .i64 a0, .agg #[.int .i64 ((rd_T32 l2_2 x13_3).f0), .int .i64 ((rd_T32 l2_2 x13_3).f1), .int .i64 ((rd_T32 l2_2 x13_3).f2), .int .i64 ((rd_T32 l2_2 x13_3).f3)], .agg #[.int .i64 t481, .int .i64 t482, .int .i64 t483, .int .i64 t484]] (by rfl) rfl rfl pm ?_
             with_reducible refine (imageeditorref10_Over.calls k3 a0 ((rd_T32 l2_2 x13_3).f0) ((rd_T32 l2_2 x13_3).f1) ((rd_T32 l2_2 x13_3).f2) ((rd_T32 l2_2 x13_3).f3) t481 t482 t483 t484 t485 t486 t487 t488 _ A55.out).mono ?_
             rintro e w63 ⟨rfl, hb⟩
             refine ⟨_, rfl, ?_⟩
             replace HO_479002 := Aside0.mk (Kd.R_below (by (with_reducible repeat (first | apply Kd.R_alloc | apply Kd.R_drewN | apply Kd.R_drew)); exact HO_479002.out) hb)
             replace KA := bb_ KA hb
             replace KB := bb_ KB hb
             replace KC := bb_ KC hb
             replace KD := bb_ KD hb
             replace HB := Aside0.mk (below_step HB.out hb)
             try clear hb
             refine hK.out _ _ ⟨(blk_cell KD.out 0).trans rfl, (blk_cell KD.out 1).trans rfl, (blk_cell KD.out 2).trans rfl, (blk_cell KA.out 0).trans rfl, (blk_cell KA.out 1).trans rfl, (blk_cell KA.out 2).trans rfl, (blk_cell KB.out 0).trans rfl, (blk_cell KB.out 1).trans rfl, (blk_cell KB.out 2).trans rfl, ((HB.out.cell (World.block_lt_of_cell? w _ hw479_0)).trans hw479_0), ((HB.out.cell (World.block_lt_of_cell? w _ hw479_1)).trans hw479_1), ((HB.out.cell (World.block_lt_of_cell? w _ hw479_2)).trans hw479_2), ((HB.out.cell (World.block_lt_of_cell? w _ hw479_3)).trans hw479_3), ((HB.out.cell (World.block_lt_of_cell? w _ hw480_0)).trans hw480_0), ((HB.out.cell (World.block_lt_of_cell? w _ hw480_1)).trans hw480_1), ((HB.out.cell (World.block_lt_of_cell? w _ hw480_2)).trans hw480_2), ((HB.out.cell (World.block_lt_of_cell? w _ hw480_3)).trans hw480_3)⟩ (fun hHeld => ?_)
             clear hK K
             refine norm_ (a' := ?_) ?_ ?_
             rotate_left
             ·show Act.put _ (some 77) _ = _
              refine ps ?_
              rfl
             refine one_ (i := 16) (N := some 78) #[true, true, true, true, true, true, true, true, true, true, true, true, true, true, true, true, true, false, false, false] rfl rfl (one_of HT_.out (by kernel_rfl)) (by decide) (fun K hK => ?_)
             refine value_ (w1 := ?_) (v := ?_) (by rfl) rfl ?_ ?_
             rotate_left 2
             ·go_simp
              constructor
              ·rfl
              ·rfl
             refine hK.out _ _ ⟨(blk_cell (blk_alloc KD.out _) 0).trans rfl, (blk_cell (blk_alloc KD.out _) 1).trans rfl, (blk_cell (blk_alloc KD.out _) 2).trans rfl, (blk_cell (blk_alloc KA.out _) 0).trans rfl, (blk_cell (blk_alloc KA.out _) 1).trans rfl, (blk_cell (blk_alloc KA.out _) 2).trans rfl, (blk_cell (blk_alloc KB.out _) 0).trans rfl, (blk_cell (blk_alloc KB.out _) 1).trans rfl, (blk_cell (blk_alloc KB.out _) 2).trans rfl, (World.cell?_alloc_lt _ _ _ (World.block_lt_of_cell? _ _ (((HB.out.cell (World.block_lt_of_cell? w _ hw479_0)).trans hw479_0)))).trans (((HB.out.cell (World.block_lt_of_cell? w _ hw479_0)).trans hw479_0)), (World.cell?_alloc_lt _ _ _ (World.block_lt_of_cell? _ _ (((HB.out.cell (World.block_lt_of_cell? w _ hw479_1)).trans hw479_1)))).trans (((HB.out.cell (World.block_lt_of_cell? w _ hw479_1)).trans hw479_1)), (World.cell?_alloc_lt _ _ _ (World.block_lt_of_cell? _ _ (((HB.out.cell (World.block_lt_of_cell? w _ hw479_2)).trans hw479_2)))).trans (((HB.out.cell (World.block_lt_of_cell? w _ hw479_2)).trans hw479_2)), (World.cell?_alloc_lt _ _ _ (World.block_lt_of_cell? _ _ (((HB.out.cell (World.block_lt_of_cell? w _ hw479_3)).trans hw479_3)))).trans (((HB.out.cell (World.block_lt_of_cell? w _ hw479_3)).trans hw479_3)), (World.cell?_alloc_lt _ _ _ (World.block_lt_of_cell? _ _ (((HB.out.cell (World.block_lt_of_cell? w _ hw480_0)).trans hw480_0)))).trans (((HB.out.cell (World.block_lt_of_cell? w _ hw480_0)).trans hw480_0)), (World.cell?_alloc_lt _ _ _ (World.block_lt_of_cell? _ _ (((HB.out.cell (World.block_lt_of_cell? w _ hw480_1)).trans hw480_1)))).trans (((HB.out.cell (World.block_lt_of_cell? w _ hw480_1)).trans hw480_1)), (World.cell?_alloc_lt _ _ _ (World.block_lt_of_cell? _ _ (((HB.out.cell (World.block_lt_of_cell? w _ hw480_2)).trans hw480_2)))).trans (((HB.out.cell (World.block_lt_of_cell? w _ hw480_2)).trans hw480_2)), (World.cell?_alloc_lt _ _ _ (World.block_lt_of_cell? _ _ (((HB.out.cell (World.block_lt_of_cell? w _ hw480_3)).trans hw480_3)))).trans (((HB.out.cell (World.block_lt_of_cell? w _ hw480_3)).trans hw480_3))⟩ (fun hHeld => ?_)
             clear hK K
             refine norm_ (a' := ?_) ?_ ?_
             rotate_left
             ·show Act.put _ (some 78) _ = _
              refine ps ?_
              rfl
             refine one_ (i := 17) (N := some 79) #[true, true, true, true, true, true, true, true, true, true, true, true, true, true, true, true, true, true, false, false] rfl rfl (one_of HT_.out (by kernel_rfl)) (by decide) (fun K hK => ?_)
             refine Kd.R_append_step k32 (w0 := w) w.heap.size (by rfl) (.tmp 63) (.tmp 78) 22 32 (.agg #[(.int .i64 0), (.int .i64 0), (.int .i64 0), (.int .i64 0)]) 32 rfl Try.underlying22 info32 rfl (by decide) (by omega) u479002 x479002_3 (⟨t485, t486, t487, t488⟩ : S32) [.int .i64 t485, .int .i64 t486, .int .i64 t487, .int .i64 t488] (fun _ => True) (fun _ => False) rfl rfl ?aP (fun _ hk => hk.elim) ?aF ?aO ?aB ?aS ?aL ?_
             (case aP => exact k32_mkM _ _ _ (⟨t485, t486, t487, t488⟩ : S32))
             (case aB => exact (by repeat (first | (with_reducible first | exact HB.out | apply below_alloc | apply pw_below_drewN | apply below_drew1 | refine below_set ?_ GEA.out | refine below_set ?_ GEB.out | refine below_set ?_ GEC.out | refine below_set ?_ GED.out) | exact HB.out)))
             (case aF => exact (fun _ _ => trivial))
             (case aO => exact (by (with_reducible repeat (first | apply Kd.R_alloc | apply Kd.R_drewN | apply Kd.R_drew)); exact HO_479002.out))
             (case aS => exact (below_size (by repeat (first | (with_reducible first | exact HB.out | apply below_alloc | apply pw_below_drewN | apply below_drew1 | refine below_set ?_ GEA.out | refine below_set ?_ GEB.out | refine below_set ?_ GEC.out | refine below_set ?_ GED.out) | exact HB.out))))
             (case aL => have := LMc56.out; omega)
             intro v490 w64 ho hb hg hat
             rw [← Ny489.out] at ho
             have HO491 := Aside0.mk (ho)
             replace KA := Aside0.mk (blk_grown (g := gA) (o := .cells #[.int .i64 a2_0, .int .i64 a2_1, .slice (some ad479) l2_2.length c2_2] 24 (0, 0)) KA.out hg (Kd.R_ne HO_479002.out KA.out (by decide)))
             replace KB := Aside0.mk (blk_grown (g := gB) (o := .cells #[.int .i64 a3_0, .int .i64 a3_1, .slice (some ad480) l3_2.length c3_2] 24 (0, 0)) KB.out hg (Kd.R_ne HO_479002.out KB.out (by decide)))
             replace KC := Aside0.mk (blk_grown (g := gC) (o := .cells #[.int .i64 0, .int .i64 0, .slice none 0 0] 24 (0, 0)) KC.out hg (Kd.R_ne HO_479002.out KC.out (by decide)))
             replace KD := Aside0.mk (blk_grown (g := gD) (o := .cells #[.int .i64 a2_0, .int .i64 a2_1, u479002] 24 (0, 0)) KD.out hg (Kd.R_ne HO_479002.out KD.out (by decide)))
             replace HB := Aside0.mk (hb)
             clear ho hb hg hat
             obtain ⟨Ao65, co65, eo65⟩ := Kd.R_slice HO491.out
             (first | subst eo65 | (injection eo65 with f1_ f2_ f3_; have f4_ := f1_.symm; have f5_ := f3_.symm; clear f1_ f2_ f3_; subst f4_; subst f5_))
             refine hK.out _ _ ⟨(blk_cell KD.out 0).trans rfl, (blk_cell KD.out 1).trans rfl, (blk_cell KD.out 2).trans rfl, (blk_cell KA.out 0).trans rfl, (blk_cell KA.out 1).trans rfl, (blk_cell KA.out 2).trans rfl, (blk_cell KB.out 0).trans rfl, (blk_cell KB.out 1).trans rfl, (blk_cell KB.out 2).trans rfl, ((HB.out.cell (World.block_lt_of_cell? w _ hw479_0)).trans hw479_0), ((HB.out.cell (World.block_lt_of_cell? w _ hw479_1)).trans hw479_1), ((HB.out.cell (World.block_lt_of_cell? w _ hw479_2)).trans hw479_2), ((HB.out.cell (World.block_lt_of_cell? w _ hw479_3)).trans hw479_3), ((HB.out.cell (World.block_lt_of_cell? w _ hw480_0)).trans hw480_0), ((HB.out.cell (World.block_lt_of_cell? w _ hw480_1)).trans hw480_1), ((HB.out.cell (World.block_lt_of_cell? w _ hw480_2)).trans hw480_2), ((HB.out.cell (World.block_lt_of_cell? w _ hw480_3)).trans hw480_3)⟩ (fun hHeld => ?_)
             clear hK K
             refine norm_ (a' := ?_) ?_ ?_
             rotate_left
             ·show Act.put _ (some 79) _ = _
              refine ps ?_
              rfl
             refine pure_ (i := 18) (N := some 80) (v := ?_) (a' := ?_) #[true, true, true, true, true, true, true, true, true, true, true, true, true, true, true, true, true, true, true, false] rfl rfl (any_of HT_.out (by kernel_rfl)) (fun _ _ _ h => h) (Or.inl ⟨by rfl, ?_⟩) ?_ ?_
             rotate_left
             ·intro w'
              go_simp
              with_reducible rfl
             rotate_left
             ·refine ps ?_
              rfl
             refine last_ (i := 19) (N := none) #[true, true, true, true, true, true, true, true, true, true, true, true, true, true, true, true, true, true, true, true] rfl rfl (one_of HT_.out (by kernel_rfl)) (by decide) (fun K hK => ?_)
             have hs66 := ci_ KD 2 (u479002)
             have hfs66 := blk_frozen KD.out 2
             have hns66_0 := NAD.out
             have hns66_1 := NBD.out
             have hns66_2 := NCD.out
             have hms66_0 := NDA.out
             have hms66_1 := NDB.out
             have hms66_2 := NDC.out
             refine skip_ (w1 := ?_) (by rfl) rfl ?_ ?_
             rotate_left
             ·go_simp
              rfl
             refine hK.out _ _ ?_
             clear hK K
             refine done_ (done_of HT_.out (by kernel_rfl)) ?_
             try go_wp2
             go_roundg k3
             case measure => have := HJ6.out; have := HJ19.out; have := HK3.out; omega
             case rel => exact ⟨(wrap64 (x13_3 + 1)), (y489), (.slice Ao65 y489.length co65), (by first | rfl | (simp; done) | (simp [*]; done)), H', ⟨by have := HJ6.out; have := HJ19.out; have := HK3.out; omega⟩, ⟨by (with_reducible repeat (first | apply Kd.R_alloc | apply Kd.R_drewN | apply Kd.R_drew)); exact Kd.R_mono (Kd.R_far (p := ⟨gD, 2, none⟩) (Kd.R_types HO491.out KD.out (by decide)) (fun _ hk => hk.2) (.slice Ao65 y489.length co65)) (fun _ hk => trivial)⟩, ⟨by refine pl ?_; refine blk_far ?_ NAD.out _; refine pl ?_; exact KA.out⟩, ⟨by refine pl ?_; refine blk_far ?_ NBD.out _; refine pl ?_; exact KB.out⟩, ⟨by refine pl ?_; refine blk_far ?_ NCD.out _; refine pl ?_; exact KC.out⟩, ⟨by refine pl ?_; refine blk_put (cs := #[.int .i64 a2_0, .int .i64 a2_1, u479002]) ?_ 2 _ rfl; refine pl ?_; exact KD.out⟩, ⟨by repeat (first | (with_reducible first | exact HB.out | apply below_alloc | apply pw_below_drewN | apply below_drew1 | refine below_set ?_ GEA.out | refine below_set ?_ GEB.out | refine below_set ?_ GEC.out | refine below_set ?_ GED.out) | exact HB.out)⟩⟩
            ·rw [if_neg c51] at H
             have c51b0 : decide (x13_3 < (l2_2.length : Int)) = false := decide_eq_false c51
             clear c51
             simp only [Option.some.injEq, Prod.mk.injEq] at H
             obtain ⟨rfl, rfl, rfl, rfl⟩ := H
             have hnb67 := NAB.out
             have hnc67 := NBA.out
             have hnb68 := NAC.out
             have hnc68 := NCA.out
             have hnb69 := NAD.out
             have hnc69 := NDA.out
             have hcz70_0 := ci_ KA 0 (.int .i64 a2_0)
             have hcz70_1 := ci_ KA 1 (.int .i64 a2_1)
             have hcz70_2 := ci_ KA 2 (.slice A2_2 l2_2.length c2_2)
             have hfz70_0 := blk_frozen KA.out 0
             have hfz70_1 := blk_frozen KA.out 1
             have hfz70_2 := blk_frozen KA.out 2
             have hnb71 := NDB.out
             have hnc71 := NBD.out
             have hnb72 := NDC.out
             have hnc72 := NCD.out
             have hcz73_0 := ci_ KD 0 (.int .i64 a2_0)
             have hcz73_1 := ci_ KD 1 (.int .i64 a2_1)
             have hcz73_2 := ci_ KD 2 (u479002)
             have hfz73_0 := blk_frozen KD.out 0
             have hfz73_1 := blk_frozen KD.out 1
             have hfz73_2 := blk_frozen KD.out 2
             have hnb74 := NCB.out
             have hnc74 := NBC.out
             have hcz75_0 := ci_ KC 0 (.int .i64 0)
             have hcz75_1 := ci_ KC 1 (.int .i64 0)
             have hcz75_2 := ci_ KC 2 (.slice none 0 0)
             have hfz75_0 := blk_frozen KC.out 0
             have hfz75_1 := blk_frozen KC.out 1
             have hfz75_2 := blk_frozen KC.out 2
             obtain ⟨Ao76, co76, eo76⟩ := Kd.R_slice HO_479002.out
             subst eo76
             go_wp2
             refine bodyPost_ret (results_ct rfl _ _ gC 24 #[.int .i64 a2_0, .int .i64 a2_1, .slice Ao76 x479002_3.length co76] (0, 0) _ rfl (by refine pl ?_; refine blk_put (cs := #[.int .i64 a2_0, .int .i64 a2_1, .slice none 0 0]) ?_ 2 _ rfl; refine pl ?_; refine blk_put (cs := #[.int .i64 a2_0, .int .i64 0, .slice none 0 0]) ?_ 1 _ rfl; refine pl ?_; refine blk_put (cs := #[.int .i64 0, .int .i64 0, .slice none 0 0]) ?_ 0 _ rfl; refine pl ?_; exact KC.out) Try.underlying24 rfl (by kernel_rfl)) rfl ?_
             exact ⟨_, by first | rfl | (simp [errW_none, errW_some] <;> rfl) | (simp [*, errW_none, errW_some] <;> rfl), by (with_reducible repeat (first | apply Kd.R_alloc | apply Kd.R_drewN | apply Kd.R_drew)); exact Kd.R_mono (Kd.R_far (p := ⟨gC, 2, none⟩) (Kd.R_far (p := ⟨gC, 1, none⟩) (Kd.R_far (p := ⟨gC, 0, none⟩) (Kd.R_types HO_479002.out KC.out (by decide)) (fun _ hk => hk.2) (.int .i64 a2_0)) (fun _ hk => hk.2) (.int .i64 a2_1)) (fun _ hk => hk.2) (.slice Ao76 x479002_3.length co76)) (fun _ hk => trivial), by repeat (first | (with_reducible first | exact HB.out | apply below_alloc | apply pw_below_drewN | apply below_drew1 | refine below_set ?_ GEA.out | refine below_set ?_ GEB.out | refine below_set ?_ GEC.out | refine below_set ?_ GED.out) | exact HB.out)⟩
      ·rw [if_neg c19] at H
       have c19b0 : (t477 == 0) = false := beq_eq_false_iff_ne.mpr c19
       have c19b1 : (t477 != 0) = true := bne_iff_ne.mpr c19
       simp only [Option.some.injEq, Prod.mk.injEq] at H
       obtain ⟨rfl, rfl, rfl, rfl⟩ := H
       have hnb77 := NAB.out
       have hnc77 := NBA.out
       have hnb78 := NAC.out
       have hnc78 := NCA.out
       have hcz79_0 := ci_ KA 0 (.int .i64 a2_0)
       have hcz79_1 := ci_ KA 1 (.int .i64 a2_1)
       have hcz79_2 := ci_ KA 2 (.slice A2_2 l2_2.length c2_2)
       have hfz79_0 := blk_frozen KA.out 0
       have hfz79_1 := blk_frozen KA.out 1
       have hfz79_2 := blk_frozen KA.out 2
       go_wp2_with (first | ((with_reducible refine gate_callee (f := 59) rfl ?_); refine goesL_ (some 26) rfl rfl Try.func59 (by kernel_rfl) rfl #[.agg #[.int .i64 a2_0, .int .i64 a2_1, .slice A2_2 l2_2.length c2_2]] rfl pm ?_; (with_reducible refine (imageeditorref10_Valued.calls kj6 a2_0 a2_1 _ _ l2_2 t476 _ ?side1 ?side2 A16.out).mono ?_); (case side1 => repeat (first | exact (Kd.C_below HR2_2.out HB.out) | (with_reducible refine Kd.C_alloc ?_ _) | (with_reducible refine Kd.C_drewN ?_ _) | (with_reducible refine Kd.C_drew ?_))); (case side2 => exact HC2_2.out); rintro e w80 ⟨rfl, hb⟩; refine ⟨_, rfl, ?_⟩; replace KA := bp_ KA hb; replace KB := bp_ KB hb; replace KC := bp_ KC hb; replace HB := Aside0.mk (below_step (pb3 HB.out GEA.out GEB.out GEC.out) hb); (try clear hb); (try clear hb2); (try clear hk); (try clear hi); have hnb81 := NBC.out; have hnc81 := NCB.out; have hcz82_0 := ci_ KB 0 (.int .i64 a3_0); have hcz82_1 := ci_ KB 1 (.int .i64 a3_1); have hcz82_2 := ci_ KB 2 (.slice A3_2 l3_2.length c3_2); have hfz82_0 := blk_frozen KB.out 0; have hfz82_1 := blk_frozen KB.out 1; have hfz82_2 := blk_frozen KB.out 2) | ((with_reducible refine gate_callee (f := 59) rfl ?_); refine goesL_ (some 32) rfl rfl Try.func59 (by kernel_rfl) rfl #[.agg #[.int .i64 a3_0, .int .i64 a3_1, .slice A3_2 l3_2.length c3_2]] rfl pm ?_; (with_reducible refine (imageeditorref10_Valued.calls kj6 a3_0 a3_1 _ _ l3_2 t477 _ ?side1 ?side2 A18.out).mono ?_); (case side1 => repeat (first | exact (Kd.C_below HR3_2.out HB.out) | (with_reducible refine Kd.C_alloc ?_ _) | (with_reducible refine Kd.C_drewN ?_ _) | (with_reducible refine Kd.C_drew ?_))); (case side2 => exact HC3_2.out); rintro e w83 ⟨rfl, hb⟩; refine ⟨_, rfl, ?_⟩; replace KA := bp_ KA hb; replace KB := bp_ KB hb; replace KC := bp_ KC hb; replace HB := Aside0.mk (below_step (pb3 HB.out GEA.out GEB.out GEC.out) hb); (try clear hb); (try clear hb2); (try clear hk); (try clear hi); have hcz84_0 := ci_ KC 0 (.int .i64 0); have hcz84_1 := ci_ KC 1 (.int .i64 0); have hcz84_2 := ci_ KC 2 (.slice none 0 0); have hfz84_0 := blk_frozen KC.out 0; have hfz84_1 := blk_frozen KC.out 1; have hfz84_2 := blk_frozen KC.out 2))
       refine bodyPost_ret (results_ct rfl _ _ gC 24 #[.int .i64 0, .int .i64 0, .slice none 0 0] (0, 0) _ rfl (by refine pl ?_; refine blk_put (cs := #[.int .i64 0, .int .i64 0, .slice none 0 0]) ?_ 2 _ rfl; refine pl ?_; refine blk_put (cs := #[.int .i64 0, .int .i64 0, .slice none 0 0]) ?_ 1 _ rfl; refine pl ?_; refine blk_put (cs := #[.int .i64 0, .int .i64 0, .slice none 0 0]) ?_ 0 _ rfl; refine pl ?_; exact KC.out) Try.underlying24 rfl (by kernel_rfl)) rfl ?_
       exact ⟨_, by first | rfl | (simp [errW_none, errW_some] <;> rfl) | (simp [*, errW_none, errW_some] <;> rfl), by first | exact Kd.R_nil _ _ _ _ _ | exact Kd.N_nil _ _ _ _ _ | exact Kd.V_nil _ _ _ _ _ | exact Kd.Q_nil _ _ _ _ _ | exact Kd.S_nil _ _ _ _ _, pb3 HB.out GEA.out GEB.out GEC.out⟩
     ·rw [if_neg c17] at H
      have c17b0 : (t476 == 0) = false := beq_eq_false_iff_ne.mpr c17
      have c17b1 : (t476 != 0) = true := bne_iff_ne.mpr c17
      simp only [Option.some.injEq, Prod.mk.injEq] at H
      obtain ⟨rfl, rfl, rfl, rfl⟩ := H
      have hnb85 := NAB.out
      have hnc85 := NBA.out
      have hnb86 := NAC.out
      have hnc86 := NCA.out
      have hcz87_0 := ci_ KA 0 (.int .i64 a2_0)
      have hcz87_1 := ci_ KA 1 (.int .i64 a2_1)
      have hcz87_2 := ci_ KA 2 (.slice A2_2 l2_2.length c2_2)
      have hfz87_0 := blk_frozen KA.out 0
      have hfz87_1 := blk_frozen KA.out 1
      have hfz87_2 := blk_frozen KA.out 2
      go_wp2_with (first | ((with_reducible refine gate_callee (f := 59) rfl ?_); refine goesL_ (some 26) rfl rfl Try.func59 (by kernel_rfl) rfl #[.agg #[.int .i64 a2_0, .int .i64 a2_1, .slice A2_2 l2_2.length c2_2]] rfl pm ?_; (with_reducible refine (imageeditorref10_Valued.calls kj6 a2_0 a2_1 _ _ l2_2 t476 _ ?side1 ?side2 A16.out).mono ?_); (case side1 => repeat (first | exact (Kd.C_below HR2_2.out HB.out) | (with_reducible refine Kd.C_alloc ?_ _) | (with_reducible refine Kd.C_drewN ?_ _) | (with_reducible refine Kd.C_drew ?_))); (case side2 => exact HC2_2.out); rintro e w88 ⟨rfl, hb⟩; refine ⟨_, rfl, ?_⟩; replace KA := bp_ KA hb; replace KB := bp_ KB hb; replace KC := bp_ KC hb; replace HB := Aside0.mk (below_step (pb3 HB.out GEA.out GEB.out GEC.out) hb); (try clear hb); (try clear hb2); (try clear hk); (try clear hi); have hnb89 := NCB.out; have hnc89 := NBC.out; have hcz90_0 := ci_ KC 0 (.int .i64 0); have hcz90_1 := ci_ KC 1 (.int .i64 0); have hcz90_2 := ci_ KC 2 (.slice none 0 0); have hfz90_0 := blk_frozen KC.out 0; have hfz90_1 := blk_frozen KC.out 1; have hfz90_2 := blk_frozen KC.out 2))
      refine bodyPost_ret (results_ct rfl _ _ gC 24 #[.int .i64 0, .int .i64 0, .slice none 0 0] (0, 0) _ rfl (by refine pl ?_; refine blk_put (cs := #[.int .i64 0, .int .i64 0, .slice none 0 0]) ?_ 2 _ rfl; refine pl ?_; refine blk_put (cs := #[.int .i64 0, .int .i64 0, .slice none 0 0]) ?_ 1 _ rfl; refine pl ?_; refine blk_put (cs := #[.int .i64 0, .int .i64 0, .slice none 0 0]) ?_ 0 _ rfl; refine pl ?_; exact KC.out) Try.underlying24 rfl (by kernel_rfl)) rfl ?_
      exact ⟨_, by first | rfl | (simp [errW_none, errW_some] <;> rfl) | (simp [*, errW_none, errW_some] <;> rfl), by first | exact Kd.R_nil _ _ _ _ _ | exact Kd.N_nil _ _ _ _ _ | exact Kd.V_nil _ _ _ _ _ | exact Kd.Q_nil _ _ _ _ _ | exact Kd.S_nil _ _ _ _ _, pb3 HB.out GEA.out GEB.out GEC.out⟩
 ·replace c6 := Bool.eq_false_iff.mpr c6
  subst c6
  have H1 : (some (0, 0, ([] : List (S32)), 8)) = some (r1, r2, r3, r4) := by rw [if_neg (show ¬ (false = true) by decide)] at H; exact H
  clear H
  have H := H1
  clear H1
  simp only [Option.some.injEq, Prod.mk.injEq] at H
  obtain ⟨rfl, rfl, rfl, rfl⟩ := H
  go_enter Try.func27, Try.ntmps27
  go_wp2_with (first | ((with_reducible refine gate_dst (N := 6) rfl ?_); refine box_event ?hg (N := 6) ?hd (cs := #[.int .i64 a2_0, .int .i64 a2_1, .slice A2_2 l2_2.length c2_2]) (t := 24) ?hr ?_; (case hd => rfl); (case hg => rfl); (case hr => first | (go_simp; done) | (go_simp; rfl)); intro gA hg w91 hbox hb; have KA := Aside0.mk hbox; have GWA := ge_ hg (pb HB.out); have GEA := ge_ hg (pb HB.out); replace HB := Aside0.mk (below_step (pb HB.out) hb); clear hb hbox hg) | ((with_reducible refine gate_dst (N := 7) rfl ?_); refine box_event ?hg (N := 7) ?hd (cs := #[.int .i64 a3_0, .int .i64 a3_1, .slice A3_2 l3_2.length c3_2]) (t := 24) ?hr ?_; (case hd => rfl); (case hg => rfl); (case hr => first | (go_simp; done) | (go_simp; rfl)); intro gB hg w92 hbox hb; have c0_ := cp_ hb KA; have KB := Aside0.mk hbox; have GWB := ge_ hg (pb1 HB.out GEA.out); have GEB := ge_ hg (pb1 HB.out GEA.out); have NAB := nl_ hg c0_; have NBA := ng_ hg c0_; replace KA := bb_ c0_ hb; replace HB := Aside0.mk (below_step (pb1 HB.out GEA.out) hb); clear c0_; clear hb hbox hg) | ((with_reducible refine gate_dst (N := 8) rfl ?_); refine box_event ?hg (N := 8) ?hd (cs := #[.int .i64 0, .int .i64 0, .slice none 0 0]) (t := 24) ?hr ?_; (case hd => rfl); (case hg => rfl); (case hr => first | (go_simp; done) | (go_simp; rfl)); intro gC hg w93 hbox hb; have c0_ := cp_ hb KA; have c1_ := cp_ hb KB; have KC := Aside0.mk hbox; have GWC := ge_ hg (pb2 HB.out GEA.out GEB.out); have GEC := ge_ hg (pb2 HB.out GEA.out GEB.out); have NAC := nl_ hg c0_; have NCA := ng_ hg c0_; have NBC := nl_ hg c1_; have NCB := ng_ hg c1_; replace KA := bb_ c0_ hb; replace KB := bb_ c1_ hb; replace HB := Aside0.mk (below_step (pb2 HB.out GEA.out GEB.out) hb); clear c0_ c1_; clear hb hbox hg) | ((with_reducible refine gate_callee (f := 19) rfl ?_); refine goesL_ (some 15) rfl rfl Try.func19 (by kernel_rfl) rfl #[.int .i64 a0] rfl pm ?_; (with_reducible refine (imageeditorref10_Valid.calls a0 false _ A5.out).mono ?_); rintro e w' ⟨rfl, ⟨nd, rfl⟩⟩; refine ⟨_, rfl, ?_⟩; (try (rw [drewN_self w93]; generalize hq_ : World.drewN w93 _ = w93; have n0_ : Aside0 (w93.heap[gA]? = some (.cells #[.int .i64 a2_0, .int .i64 a2_1, .slice A2_2 l2_2.length c2_2] 24 (0, 0))) := ⟨by rw [← hq_]; exact (pl KA.out)⟩; have n1_ : Aside0 (w93.heap[gB]? = some (.cells #[.int .i64 a3_0, .int .i64 a3_1, .slice A3_2 l3_2.length c3_2] 24 (0, 0))) := ⟨by rw [← hq_]; exact (pl KB.out)⟩; have n2_ : Aside0 (w93.heap[gC]? = some (.cells #[.int .i64 0, .int .i64 0, .slice none 0 0] 24 (0, 0))) := ⟨by rw [← hq_]; exact (pl KC.out)⟩; have n3_ : Aside0 (Below w.heap.size w w93) := ⟨by rw [← hq_]; exact (pb3 HB.out GEA.out GEB.out GEC.out)⟩; clear KA KB KC HB hq_; have KA := n0_; have KB := n1_; have KC := n2_; have HB := n3_; clear n0_ n1_ n2_ n3_)); have hnb94 := NCA.out; have hnc94 := NAC.out; have hnb95 := NCB.out; have hnc95 := NBC.out; have hcz96_0 := ci_ KC 0 (.int .i64 0); have hcz96_1 := ci_ KC 1 (.int .i64 0); have hcz96_2 := ci_ KC 2 (.slice none 0 0); have hfz96_0 := blk_frozen KC.out 0; have hfz96_1 := blk_frozen KC.out 1; have hfz96_2 := blk_frozen KC.out 2))
  refine bodyPost_ret (results_ct rfl _ _ gC 24 #[.int .i64 0, .int .i64 0, .slice none 0 0] (0, 0) _ rfl (by refine pl ?_; refine blk_put (cs := #[.int .i64 0, .int .i64 0, .slice none 0 0]) ?_ 2 _ rfl; refine pl ?_; refine blk_put (cs := #[.int .i64 0, .int .i64 0, .slice none 0 0]) ?_ 1 _ rfl; refine pl ?_; refine blk_put (cs := #[.int .i64 0, .int .i64 0, .slice none 0 0]) ?_ 0 _ rfl; refine pl ?_; exact KC.out) Try.underlying24 rfl (by kernel_rfl)) rfl ?_
  exact ⟨_, by first | rfl | (simp [errW_none, errW_some] <;> rfl) | (simp [*, errW_none, errW_some] <;> rfl), by first | exact Kd.R_nil _ _ _ _ _ | exact Kd.N_nil _ _ _ _ _ | exact Kd.V_nil _ _ _ _ _ | exact Kd.Q_nil _ _ _ _ _ | exact Kd.S_nil _ _ _ _ _, pb3 HB.out GEA.out GEB.out GEC.out⟩

end Go.Proofs.Ytnijapaaickifaa.I
