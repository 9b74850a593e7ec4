-- Written for this claim by a program of this session (handprint.py) that drives the kit's print. Not trusted: Lean checks it.
import Derived.Test.YtnijapaaickifaaI0
import Derived.Test.YtnijapaaickifaaI22
namespace Go.Proofs.Ytnijapaaickifaa.I
open Go.RowKit Go.Proofs.YtnijapaaickifaaW.PrintWords Go.Proofs.YtnijapaaickifaaW.PrintLast
attribute [local go_sem] max2_int min2_int max_two min_two max_three min_three max_four min_four
set_option linter.unusedVariables false
set_option linter.unusedSimpArgs false

/-! ### imageeditorref10_Valued: function 59 -/
mutual
def imageeditorref10_Valued.j0 : Nat → Bool → Int → Int → List (S32) → Option (Int)
  | 0, _, _, _, _ => none
  | k + 1, x41, x470000, x470001, x470002 => if x41 = true then (some 15) else (imageeditorref10_Valued.l0 k 0 x470000 x470001 x470002)
def imageeditorref10_Valued.l0 : Nat → Int → Int → Int → List (S32) → Option (Int)
  | 0, _, _, _, _ => none
  | k + 1, x3, x470000, x470001, x470002 => if x3 < (x470002.length : Int) then (if 0 ≤ x3 then ((imageeditorref06_Valid.f ((rd_T32 x470002 x3).f0) ((rd_T32 x470002 x3).f1) ((rd_T32 x470002 x3).f2) ((rd_T32 x470002 x3).f3)).bind fun t471 => (if t471 = true then (imageeditorref10_Valued.l0 k (wrap64 (x3 + 1)) x470000 x470001 x470002) else (some 2))) else (none)) else (some 0)
end
def imageeditorref10_Valued.f (k : Nat) (a0_0 : Int) (a0_1 : Int) (l0_2 : List (S32)) : Option (Int) := if a0_0 < 0 then (imageeditorref10_Valued.j0 k true a0_0 a0_1 l0_2) else (if a0_1 < 0 then (imageeditorref10_Valued.j0 k true a0_0 a0_1 l0_2) else (if a0_0 > 256 then (imageeditorref10_Valued.j0 k true a0_0 a0_1 l0_2) else (if a0_1 > 256 then (imageeditorref10_Valued.j0 k true a0_0 a0_1 l0_2) else (if ((a0_0 == 0) != (a0_1 == 0)) = true then (imageeditorref10_Valued.j0 k true a0_0 a0_1 l0_2) else (imageeditorref10_Valued.j0 k ((l0_2.length : Int) != (wrap64 (a0_0 * a0_1))) a0_0 a0_1 l0_2)))))
theorem imageeditorref10_Valued.mono_l : ∀ k, (∀ y0 y1 y2 y3, LeO (imageeditorref10_Valued.j0 k y0 y1 y2 y3) (imageeditorref10_Valued.j0 (k + 1) y0 y1 y2 y3)) ∧ (∀ y0 y1 y2 y3, LeO (imageeditorref10_Valued.l0 k y0 y1 y2 y3) (imageeditorref10_Valued.l0 (k + 1) y0 y1 y2 y3))
  | 0 => ⟨fun _ _ _ _ r h => by simp [imageeditorref10_Valued.j0] at h, fun _ _ _ _ r h => by simp [imageeditorref10_Valued.l0] at h⟩
  | k + 1 => by
    obtain ⟨ih0, ih1⟩ := imageeditorref10_Valued.mono_l k
    refine ⟨?_, ?_⟩
    · intro y0 y1 y2 y3
      unfold imageeditorref10_Valued.j0
      repeat' first
      | (with_reducible exact ih0 _ _ _ _)
      | (with_reducible exact ih1 _ _ _ _)
      | (with_reducible exact LeO.refl _)
      | (with_reducible exact LeO.none _)
      | (with_reducible refine LeO.ite ?_ ?_)
      | (with_reducible refine LeO.bind ?_ (fun _ => ?_))
      | exact ih0 _ _ _ _
      | exact ih1 _ _ _ _
      | exact LeO.none _
      | refine LeO.ite ?_ ?_
      | refine LeO.bind ?_ (fun _ => ?_)
    · intro y0 y1 y2 y3
      unfold imageeditorref10_Valued.l0
      repeat' first
      | (with_reducible exact ih0 _ _ _ _)
      | (with_reducible exact ih1 _ _ _ _)
      | (with_reducible exact LeO.refl _)
      | (with_reducible exact LeO.none _)
      | (with_reducible refine LeO.ite ?_ ?_)
      | (with_reducible refine LeO.bind ?_ (fun _ => ?_))
      | exact ih0 _ _ _ _
      | exact ih1 _ _ _ _
      | exact LeO.none _
      | refine LeO.ite ?_ ?_
      | refine LeO.bind ?_ (fun _ => ?_)
theorem imageeditorref10_Valued.mono : ∀ a0 a1 a2 k, LeO (imageeditorref10_Valued.f k a0 a1 a2) (imageeditorref10_Valued.f (k + 1) a0 a1 a2) := by
  intro a0 a1 a2 k
  obtain ⟨ih0, ih1⟩ := imageeditorref10_Valued.mono_l k
  unfold imageeditorref10_Valued.f
  repeat' first
      | (with_reducible exact ih0 _ _ _ _)
      | (with_reducible exact ih1 _ _ _ _)
      | (with_reducible exact LeO.refl _)
      | (with_reducible exact LeO.none _)
      | (with_reducible refine LeO.ite ?_ ?_)
      | (with_reducible refine LeO.bind ?_ (fun _ => ?_))
      | exact ih0 _ _ _ _
      | exact ih1 _ _ _ _
      | exact LeO.none _
      | refine LeO.ite ?_ ?_
      | refine LeO.bind ?_ (fun _ => ?_)
set_option maxHeartbeats 8000000 in
set_option maxRecDepth 100000 in
theorem imageeditorref10_Valued.calls (k : Nat) (a0_0 : Int) (a0_1 : Int) (A0_2 : Option Addr) (c0_2 : Nat) (l0_2 : List (S32)) (r : Int) (w : World) (hr0_2 : Kd.C k32 w A0_2 l0_2.length l0_2) (hc0_2 : l0_2.length ≤ c0_2) (h : imageeditorref10_Valued.f k a0_0 a0_1 l0_2 = some r) :
    Calls Try.prog 59 #[.agg #[.int .i64 a0_0, .int .i64 a0_1, .slice A0_2 l0_2.length c0_2]] w fun e w' => e = .returned (.int .i64 r) ∧ Below w.heap.size w w' := by
 have hu24 := Try.underlying24
 have hu32 := Try.underlying32
 have HR0_2 := Aside0.mk hr0_2
 have HC0_2 := Aside0.mk hc0_2
 clear hr0_2 hc0_2
 have HB := Aside0.mk (Below.refl w.heap.size w)
 have H : (if a0_0 < 0 then (imageeditorref10_Valued.j0 k true a0_0 a0_1 l0_2) else (if a0_1 < 0 then (imageeditorref10_Valued.j0 k true a0_0 a0_1 l0_2) else (if a0_0 > 256 then (imageeditorref10_Valued.j0 k true a0_0 a0_1 l0_2) else (if a0_1 > 256 then (imageeditorref10_Valued.j0 k true a0_0 a0_1 l0_2) else (if ((a0_0 == 0) != (a0_1 == 0)) = true then (imageeditorref10_Valued.j0 k true a0_0 a0_1 l0_2) else (imageeditorref10_Valued.j0 k ((l0_2.length : Int) != (wrap64 (a0_0 * a0_1))) a0_0 a0_1 l0_2)))))) = some r := h
 clear h
 have HC2 := Aside0.mk H
 clear H
 go_enter Try.func59, Try.ntmps59
 go_upto_region 1 with (first | ((with_reducible refine gate_dst (N := 1) rfl ?_); refine box_event ?hg (N := 1) ?hd (cs := #[.int .i64 a0_0, .int .i64 a0_1, .slice A0_2 l0_2.length c0_2]) (t := 24) ?hr ?_; (case hd => rfl); (case hg => rfl); (case hr => first | (go_simp; done) | (go_simp; rfl)); intro gA hg w3 hbox hb; have KA := Aside0.mk hbox; have GWA := ge_ hg (pb HB.out); have GEA := ge_ hg (pb HB.out); replace HB := Aside0.mk (below_step (pb HB.out) hb); clear hb hbox hg))
 (try simp only [Act.put, List.setIfInBounds_toArray, List.set_cons_zero, List.set_cons_succ])
 go_cut [41] (fun v41 wc => ∃ (kq : Nat) (x41_1 : Bool), v41 = .bool x41_1 ∧ Aside0 (imageeditorref10_Valued.j0 kq x41_1 a0_0 a0_1 l0_2 = some r) ∧ Aside0 (kq ≤ k) ∧ Aside0 (wc.heap[gA]? = some (.cells #[.int .i64 a0_0, .int .i64 a0_1, (.slice A0_2 l0_2.length c0_2)] 24 (0, 0))) ∧ Aside0 (Below w.heap.size w wc))
 case first =>
  have H := HC2.out
  clear HC2
  by_cases c4 : a0_0 < 0
  ·rw [if_pos c4] at H
   have c4b0 : decide (a0_0 < 0) = true := decide_eq_true c4
   clear c4
   (first | rw [c4b0] | (simp only [i64_w, i32_w]; rw [c4b0]) | skip)
   have H' := Aside0.mk H
   clear H
   have hcz5_0 := ci_ KA 0 (.int .i64 a0_0)
   have hcz5_1 := ci_ KA 1 (.int .i64 a0_1)
   have hcz5_2 := ci_ KA 2 (.slice A0_2 l0_2.length c0_2)
   have hfz5_0 := blk_frozen KA.out 0
   have hfz5_1 := blk_frozen KA.out 1
   have hfz5_2 := blk_frozen KA.out 2
   go_wp2
   go_meet
   case rel => exact ⟨_, (true), (by first | rfl | (simp; done) | (simp [*]; done)), H', ⟨by first | omega | exact Nat.le_refl _⟩, ⟨pl KA.out⟩, ⟨pb1 HB.out GEA.out⟩⟩
  ·rw [if_neg c4] at H
   have c4b0 : decide (a0_0 < 0) = false := decide_eq_false c4
   clear c4
   (first | rw [c4b0] | (simp only [i64_w, i32_w]; rw [c4b0]) | skip)
   by_cases c6 : a0_1 < 0
   ·rw [if_pos c6] at H
    have c6b0 : decide (a0_1 < 0) = true := decide_eq_true c6
    clear c6
    have H' := Aside0.mk H
    clear H
    have hcz7_0 := ci_ KA 0 (.int .i64 a0_0)
    have hcz7_1 := ci_ KA 1 (.int .i64 a0_1)
    have hcz7_2 := ci_ KA 2 (.slice A0_2 l0_2.length c0_2)
    have hfz7_0 := blk_frozen KA.out 0
    have hfz7_1 := blk_frozen KA.out 1
    have hfz7_2 := blk_frozen KA.out 2
    go_wp2
    go_meet
    case rel => exact ⟨_, (true), (by first | rfl | (simp; done) | (simp [*]; done)), H', ⟨by first | omega | exact Nat.le_refl _⟩, ⟨pl KA.out⟩, ⟨pb1 HB.out GEA.out⟩⟩
   ·rw [if_neg c6] at H
    have c6b0 : decide (a0_1 < 0) = false := decide_eq_false c6
    clear c6
    by_cases c8 : a0_0 > 256
    ·rw [if_pos c8] at H
     have c8b0 : decide (256 < a0_0) = true := decide_eq_true c8
     clear c8
     have H' := Aside0.mk H
     clear H
     have hcz9_0 := ci_ KA 0 (.int .i64 a0_0)
     have hcz9_1 := ci_ KA 1 (.int .i64 a0_1)
     have hcz9_2 := ci_ KA 2 (.slice A0_2 l0_2.length c0_2)
     have hfz9_0 := blk_frozen KA.out 0
     have hfz9_1 := blk_frozen KA.out 1
     have hfz9_2 := blk_frozen KA.out 2
     go_wp2
     go_meet
     case rel => exact ⟨_, (true), (by first | rfl | (simp; done) | (simp [*]; done)), H', ⟨by first | omega | exact Nat.le_refl _⟩, ⟨pl KA.out⟩, ⟨pb1 HB.out GEA.out⟩⟩
    ·rw [if_neg c8] at H
     have c8b0 : decide (256 < a0_0) = false := decide_eq_false c8
     clear c8
     by_cases c10 : a0_1 > 256
     ·rw [if_pos c10] at H
      have c10b0 : decide (256 < a0_1) = true := decide_eq_true c10
      clear c10
      have H' := Aside0.mk H
      clear H
      have hcz11_0 := ci_ KA 0 (.int .i64 a0_0)
      have hcz11_1 := ci_ KA 1 (.int .i64 a0_1)
      have hcz11_2 := ci_ KA 2 (.slice A0_2 l0_2.length c0_2)
      have hfz11_0 := blk_frozen KA.out 0
      have hfz11_1 := blk_frozen KA.out 1
      have hfz11_2 := blk_frozen KA.out 2
      go_wp2
      go_meet
      case rel => exact ⟨_, (true), (by first | rfl | (simp; done) | (simp [*]; done)), H', ⟨by first | omega | exact Nat.le_refl _⟩, ⟨pl KA.out⟩, ⟨pb1 HB.out GEA.out⟩⟩
     ·rw [if_neg c10] at H
      have c10b0 : decide (256 < a0_1) = false := decide_eq_false c10
      clear c10
      by_cases c12 : ((a0_0 == 0) != (a0_1 == 0)) = true
      ·rw [if_pos c12] at H
       have c12b0 : ((a0_0 == 0) != (a0_1 == 0)) = true := c12
       (try (have c12b1 : decide ((a0_0 == 0) = (a0_1 == 0)) = false := by simpa using c12))
       (try (have c12b2 : ((a0_0 == 0) == (a0_1 == 0)) = false := by simpa using c12))
       (try (have c12b3 : ¬ ((a0_0 == 0) = (a0_1 == 0)) := by simpa using c12))
       clear c12
       have H' := Aside0.mk H
       clear H
       have hcz13_0 := ci_ KA 0 (.int .i64 a0_0)
       have hcz13_1 := ci_ KA 1 (.int .i64 a0_1)
       have hcz13_2 := ci_ KA 2 (.slice A0_2 l0_2.length c0_2)
       have hfz13_0 := blk_frozen KA.out 0
       have hfz13_1 := blk_frozen KA.out 1
       have hfz13_2 := blk_frozen KA.out 2
       go_wp2
       go_meet
       case rel => exact ⟨_, (true), (by first | rfl | (simp; done) | (simp [*]; done)), H', ⟨by first | omega | exact Nat.le_refl _⟩, ⟨pl KA.out⟩, ⟨pb1 HB.out GEA.out⟩⟩
      ·rw [if_neg c12] at H
       have c12b0 : ((a0_0 == 0) != (a0_1 == 0)) = false := by simpa using c12
       (try (have c12b1 : decide ((a0_0 == 0) = (a0_1 == 0)) = true := by simpa using c12))
       (try (have c12b2 : ((a0_0 == 0) == (a0_1 == 0)) = true := by simpa using c12))
       clear c12
       have H' := Aside0.mk H
       clear H
       have hcz14_0 := ci_ KA 0 (.int .i64 a0_0)
       have hcz14_1 := ci_ KA 1 (.int .i64 a0_1)
       have hcz14_2 := ci_ KA 2 (.slice A0_2 l0_2.length c0_2)
       have hfz14_0 := blk_frozen KA.out 0
       have hfz14_1 := blk_frozen KA.out 1
       have hfz14_2 := blk_frozen KA.out 2
       go_wp2
       go_meet
       case rel => exact ⟨_, (((l0_2.length : Int) != (wrap64 (a0_0 * a0_1)))), (by first | rfl | (simp; done) | (simp [*]; done)), H', ⟨by first | omega | exact Nat.le_refl _⟩, ⟨pl KA.out⟩, ⟨pb1 HB.out GEA.out⟩⟩
 case rest =>
  clear HC2
  try clear c1
  try clear p2
  try clear c4
  try clear c4b0
  try clear c5
  try clear c6
  try clear c6b0
  try clear p6
  try clear c8
  try clear c8b0
  try clear c10
  try clear c10b0
  try clear c12
  try clear c12b0
  try clear c12b1
  try clear c12b2
  try clear hcz11_0
  try clear hcz11_1
  try clear hcz11_2
  try clear hcz13_0
  try clear hcz13_1
  try clear hcz13_2
  try clear hcz14_0
  try clear hcz14_1
  try clear hcz14_2
  try clear hcz5_0
  try clear hcz5_1
  try clear hcz5_2
  try clear hcz7_0
  try clear hcz7_1
  try clear hcz7_2
  try clear hcz9_0
  try clear hcz9_1
  try clear hcz9_2
  try clear hfz11_0
  try clear hfz11_1
  try clear hfz11_2
  try clear hfz13_0
  try clear hfz13_1
  try clear hfz13_2
  try clear hfz14_0
  try clear hfz14_1
  try clear hfz14_2
  try clear hfz5_0
  try clear hfz5_1
  try clear hfz5_2
  try clear hfz7_0
  try clear hfz7_1
  try clear hfz7_2
  try clear hfz9_0
  try clear hfz9_1
  try clear hfz9_2
  obtain ⟨kq, x41_1, rfl, HA, HJ1, KA, HB⟩ := hcut
  cases kq with
  | zero => exact absurd HA.out (by simp [imageeditorref10_Valued.j0])
  | succ kj1 =>
   have H := HA.out
   clear HA
   simp only [imageeditorref10_Valued.j0] at H
   by_cases c15 : x41_1 = true
   ·subst c15
    have H1 : (some 15) = some r := by rw [if_pos rfl] at H; exact H
    clear H
    have H := H1
    clear H1
    obtain rfl := Option.some.inj H
    go_wp2
    go_ret
    exact ⟨by first | rfl | (simp [errW_none, errW_some] <;> rfl) | (simp [*, errW_none, errW_some] <;> rfl), pb1 HB.out GEA.out⟩
   ·replace c15 := Bool.eq_false_iff.mpr c15
    subst c15
    have H1 : (imageeditorref10_Valued.l0 kj1 0 a0_0 a0_1 l0_2) = some r := by rw [if_neg (show ¬ (false = true) by decide)] at H; exact H
    clear H
    have H := H1
    clear H1
    have H' := Aside0.mk H
    clear H
    go_wp2
    go_loopg [3] kj1 (fun kq v3 w' => ∃ (x3_2 : Int), v3 = .int .i64 x3_2 ∧ Aside0 (imageeditorref10_Valued.l0 kq x3_2 a0_0 a0_1 l0_2 = some r) ∧ Aside0 (kq ≤ kj1) ∧ Aside0 (w'.heap[gA]? = some (.cells #[.int .i64 a0_0, .int .i64 a0_1, (.slice A0_2 l0_2.length c0_2)] 24 (0, 0))) ∧ Aside0 (Below w.heap.size w w'))
    case atStart => exact ⟨(0), (by first | rfl | (simp; done) | (simp [*]; done)), H', ⟨Nat.le_refl _⟩, ⟨pl KA.out⟩, ⟨pb1 HB.out GEA.out⟩⟩
    case round =>
     clear H'
     try clear c1
     try clear p2
     try clear c4
     try clear c4b0
     try clear c5
     try clear c6
     try clear c6b0
     try clear p6
     try clear c8
     try clear c8b0
     try clear c10
     try clear c10b0
     try clear c12
     try clear c12b0
     try clear c12b1
     try clear c12b2
     try clear c15
     try clear hcz11_0
     try clear hcz11_1
     try clear hcz11_2
     try clear hcz13_0
     try clear hcz13_1
     try clear hcz13_2
     try clear hcz14_0
     try clear hcz14_1
     try clear hcz14_2
     try clear hcz5_0
     try clear hcz5_1
     try clear hcz5_2
     try clear hcz7_0
     try clear hcz7_1
     try clear hcz7_2
     try clear hcz9_0
     try clear hcz9_1
     try clear hcz9_2
     try clear hfz11_0
     try clear hfz11_1
     try clear hfz11_2
     try clear hfz13_0
     try clear hfz13_1
     try clear hfz13_2
     try clear hfz14_0
     try clear hfz14_1
     try clear hfz14_2
     try clear hfz5_0
     try clear hfz5_1
     try clear hfz5_2
     try clear hfz7_0
     try clear hfz7_1
     try clear hfz7_2
     try clear hfz9_0
     try clear hfz9_1
     try clear hfz9_2
     try clear p2
     try clear p6
     obtain ⟨x3_2, rfl, HA, HK2, KA, HB⟩ := hrel
     cases gk with
     | zero => exact absurd HA.out (by simp [imageeditorref10_Valued.l0])
     | succ k2 =>
      have H := HA.out
      clear HA
      simp only [imageeditorref10_Valued.l0] at H
      by_cases c16 : x3_2 < (l0_2.length : Int)
      ·rw [if_pos c16] at H
       have c16b0 : decide (x3_2 < (l0_2.length : Int)) = true := decide_eq_true c16
       clear c16
       by_cases c17 : 0 ≤ x3_2
       rotate_left
       ·rw [if_neg c17] at H
        exact absurd H (by simp)
       rw [if_pos c17] at H
       have c17b0 : decide (0 ≤ x3_2) = true := decide_eq_true c17
       clear c17
       replace H := Option.bind_eq_some_iff.mp H
       obtain ⟨t471, A180, H⟩ := H
       replace H : (if t471 = true then (imageeditorref10_Valued.l0 k2 (wrap64 (x3_2 + 1)) a0_0 a0_1 l0_2) else (some 2)) = some r := H
       have A18 := Aside0.mk A180
       clear A180
       by_cases c19 : t471 = true
       ·subst c19
        have H1 : (imageeditorref10_Valued.l0 k2 (wrap64 (x3_2 + 1)) a0_0 a0_1 l0_2) = some r := by rw [if_pos rfl] at H; exact H
        clear H
        have H := H1
        clear H1
        have H' := Aside0.mk H
        clear H
        have hcz20_0 := ci_ KA 0 (.int .i64 a0_0)
        have hcz20_1 := ci_ KA 1 (.int .i64 a0_1)
        have hcz20_2 := ci_ KA 2 (.slice A0_2 l0_2.length c0_2)
        have hfz20_0 := blk_frozen KA.out 0
        have hfz20_1 := blk_frozen KA.out 1
        have hfz20_2 := blk_frozen KA.out 2
        have p470 : 0 ≤ (x3_2 : Int) := of_decide_eq_true (by first | (with_reducible assumption) | assumption)
        have q470 : x3_2 < (l0_2.length : Int) := of_decide_eq_true (by first | (with_reducible assumption) | assumption)
        obtain ⟨ad470, e470, hx470_0, hx470_1, hx470_2, hx470_3⟩ := at_T32 HR0_2.out x3_2 p470 q470
        cases e470
        replace hx470_0 := (HB.out.cell (World.block_lt_of_cell? w _ hx470_0)).trans hx470_0
        replace hx470_1 := (HB.out.cell (World.block_lt_of_cell? w _ hx470_1)).trans hx470_1
        replace hx470_2 := (HB.out.cell (World.block_lt_of_cell? w _ hx470_2)).trans hx470_2
        replace hx470_3 := (HB.out.cell (World.block_lt_of_cell? w _ hx470_3)).trans hx470_3
        replace p470 := eq_true p470
        replace q470 := eq_true q470
        go_wp2_with (first | ((with_reducible refine gate_callee (f := 29) rfl ?_); refine goesL_ (some 54) rfl rfl Try.func29 (by kernel_rfl) rfl #[.agg #[.int .i64 ((rd_T32 l0_2 x3_2).f0), .int .i64 ((rd_T32 l0_2 x3_2).f1), .int .i64 ((rd_T32 l0_2 x3_2).f2), .int .i64 ((rd_T32 l0_2 x3_2).f3)]] rfl pm ?_; (with_reducible refine (imageeditorref06_Valid.calls ((rd_T32 l0_2 x3_2).f0) ((rd_T32 l0_2 x3_2).f1) ((rd_T32 l0_2 x3_2).f2) ((rd_T32 l0_2 x3_2).f3) true _ A18.out).mono ?_); rintro e w21 ⟨rfl, hb⟩; refine ⟨_, rfl, ?_⟩; replace KA := bp_ KA hb; replace HB := Aside0.mk (below_step (pb1 HB.out GEA.out) hb); (try clear hb); (try clear hb2); (try clear hk); (try clear hi)))
        go_roundg k2
        case measure => have := HJ1.out; have := HK2.out; omega
        case rel => exact ⟨(wrap64 (x3_2 + 1)), (by first | rfl | (simp; done) | (simp [*]; done)), H', ⟨by have := HJ1.out; have := HK2.out; omega⟩, ⟨pl KA.out⟩, ⟨pb1 HB.out GEA.out⟩⟩
       ·replace c19 := Bool.eq_false_iff.mpr c19
        subst c19
        have H1 : (some 2) = some r := by rw [if_neg (show ¬ (false = true) by decide)] at H; exact H
        clear H
        have H := H1
        clear H1
        obtain rfl := Option.some.inj H
        have hcz22_0 := ci_ KA 0 (.int .i64 a0_0)
        have hcz22_1 := ci_ KA 1 (.int .i64 a0_1)
        have hcz22_2 := ci_ KA 2 (.slice A0_2 l0_2.length c0_2)
        have hfz22_0 := blk_frozen KA.out 0
        have hfz22_1 := blk_frozen KA.out 1
        have hfz22_2 := blk_frozen KA.out 2
        have p470 : 0 ≤ (x3_2 : Int) := of_decide_eq_true (by first | (with_reducible assumption) | assumption)
        have q470 : x3_2 < (l0_2.length : Int) := of_decide_eq_true (by first | (with_reducible assumption) | assumption)
        obtain ⟨ad470, e470, hx470_0, hx470_1, hx470_2, hx470_3⟩ := at_T32 HR0_2.out x3_2 p470 q470
        cases e470
        replace hx470_0 := (HB.out.cell (World.block_lt_of_cell? w _ hx470_0)).trans hx470_0
        replace hx470_1 := (HB.out.cell (World.block_lt_of_cell? w _ hx470_1)).trans hx470_1
        replace hx470_2 := (HB.out.cell (World.block_lt_of_cell? w _ hx470_2)).trans hx470_2
        replace hx470_3 := (HB.out.cell (World.block_lt_of_cell? w _ hx470_3)).trans hx470_3
        replace p470 := eq_true p470
        replace q470 := eq_true q470
        go_wp2_with (first | ((with_reducible refine gate_callee (f := 29) rfl ?_); refine goesL_ (some 54) rfl rfl Try.func29 (by kernel_rfl) rfl #[.agg #[.int .i64 ((rd_T32 l0_2 x3_2).f0), .int .i64 ((rd_T32 l0_2 x3_2).f1), .int .i64 ((rd_T32 l0_2 x3_2).f2), .int .i64 ((rd_T32 l0_2 x3_2).f3)]] rfl pm ?_; (with_reducible refine (imageeditorref06_Valid.calls ((rd_T32 l0_2 x3_2).f0) ((rd_T32 l0_2 x3_2).f1) ((rd_T32 l0_2 x3_2).f2) ((rd_T32 l0_2 x3_2).f3) false _ A18.out).mono ?_); rintro e w23 ⟨rfl, hb⟩; refine ⟨_, rfl, ?_⟩; replace KA := bp_ KA hb; replace HB := Aside0.mk (below_step (pb1 HB.out GEA.out) hb); (try clear hb); (try clear hb2); (try clear hk); (try clear hi)))
        go_ret
        exact ⟨by first | rfl | (simp [errW_none, errW_some] <;> rfl) | (simp [*, errW_none, errW_some] <;> rfl), pb1 HB.out GEA.out⟩
      ·rw [if_neg c16] at H
       have c16b0 : decide (x3_2 < (l0_2.length : Int)) = false := decide_eq_false c16
       clear c16
       obtain rfl := Option.some.inj H
       have hcz24_0 := ci_ KA 0 (.int .i64 a0_0)
       have hcz24_1 := ci_ KA 1 (.int .i64 a0_1)
       have hcz24_2 := ci_ KA 2 (.slice A0_2 l0_2.length c0_2)
       have hfz24_0 := blk_frozen KA.out 0
       have hfz24_1 := blk_frozen KA.out 1
       have hfz24_2 := blk_frozen KA.out 2
       go_wp2
       go_ret
       exact ⟨by first | rfl | (simp [errW_none, errW_some] <;> rfl) | (simp [*, errW_none, errW_some] <;> rfl), pb1 HB.out GEA.out⟩

end Go.Proofs.Ytnijapaaickifaa.I
