-- Written for this claim by a program of this session (handprint.py) that drives the kit's print. Not trusted: Lean checks it.
import Derived.Test.YtnijapaaickifaaI0
import Derived.Test.YtnijapaaickifaaI12
namespace Go.Proofs.Ytnijapaaickifaa.I
open Go.RowKit Go.Proofs.YtnijapaaickifaaW.PrintWords Go.Proofs.YtnijapaaickifaaW.PrintLast
attribute [local go_sem] max2_int min2_int max_two min_two max_three min_three max_four min_four
set_option linter.unusedVariables false
set_option linter.unusedSimpArgs false

/-! ### blend_check: function 33 -/
mutual
def blend_check.j0 : Nat → Bool → Int → Int → List (S32) → Option (Int)
  | 0, _, _, _, _ => none
  | k + 1, x38, x236000, x236001, x236002 => if x38 = true then (some 15) else (blend_check.l0 k x236002 (x236002.length : Int) 0)
def blend_check.l0 : Nat → List (S32) → Int → Int → Option (Int)
  | 0, _, _, _ => none
  | k + 1, x40, x41, x42 => if x42 < x41 then (if 0 ≤ x42 then (if x42 < (x40.length : Int) then ((pixel_Valid.f ((rd_T32 x40 x42).f0) ((rd_T32 x40 x42).f1) ((rd_T32 x40 x42).f2) ((rd_T32 x40 x42).f3)).bind fun t238 => (if t238 = true then (blend_check.l0 k x40 x41 (wrap64 (x42 + 1))) else (some 2))) else (none)) else (none)) else (some 0)
end
def blend_check.f (k : Nat) (a0_0 : Int) (a0_1 : Int) (l0_2 : List (S32)) : Option (Int) := if (mn a0_0 a0_1) < 0 then (blend_check.j0 k true a0_0 a0_1 l0_2) else (if (mx a0_0 a0_1) > 256 then (blend_check.j0 k true a0_0 a0_1 l0_2) else (if ((a0_0 == 0) != (a0_1 == 0)) = true then (blend_check.j0 k true a0_0 a0_1 l0_2) else (blend_check.j0 k ((l0_2.length : Int) != (wrap64 (a0_0 * a0_1))) a0_0 a0_1 l0_2)))
theorem blend_check.mono_l : ∀ k, (∀ y0 y1 y2 y3, LeO (blend_check.j0 k y0 y1 y2 y3) (blend_check.j0 (k + 1) y0 y1 y2 y3)) ∧ (∀ y0 y1 y2, LeO (blend_check.l0 k y0 y1 y2) (blend_check.l0 (k + 1) y0 y1 y2))
  | 0 => ⟨fun _ _ _ _ r h => by simp [blend_check.j0] at h, fun _ _ _ r h => by simp [blend_check.l0] at h⟩
  | k + 1 => by
    obtain ⟨ih0, ih1⟩ := blend_check.mono_l k
    refine ⟨?_, ?_⟩
    · intro y0 y1 y2 y3
      unfold blend_check.j0
      repeat' first
      | (with_reducible exact ih0 _ _ _ _)
      | (with_reducible exact ih1 _ _ _)
      | (with_reducible exact LeO.refl _)
      | (with_reducible exact LeO.none _)
      | (with_reducible refine LeO.ite ?_ ?_)
      | (with_reducible refine LeO.bind ?_ (fun _ => ?_))
      | exact ih0 _ _ _ _
      | exact ih1 _ _ _
      | exact LeO.none _
      | refine LeO.ite ?_ ?_
      | refine LeO.bind ?_ (fun _ => ?_)
    · intro y0 y1 y2
      unfold blend_check.l0
      repeat' first
      | (with_reducible exact ih0 _ _ _ _)
      | (with_reducible exact ih1 _ _ _)
      | (with_reducible exact LeO.refl _)
      | (with_reducible exact LeO.none _)
      | (with_reducible refine LeO.ite ?_ ?_)
      | (with_reducible refine LeO.bind ?_ (fun _ => ?_))
      | exact ih0 _ _ _ _
      | exact ih1 _ _ _
      | exact LeO.none _
      | refine LeO.ite ?_ ?_
      | refine LeO.bind ?_ (fun _ => ?_)
theorem blend_check.mono : ∀ a0 a1 a2 k, LeO (blend_check.f k a0 a1 a2) (blend_check.f (k + 1) a0 a1 a2) := by
  intro a0 a1 a2 k
  obtain ⟨ih0, ih1⟩ := blend_check.mono_l k
  unfold blend_check.f
  repeat' first
      | (with_reducible exact ih0 _ _ _ _)
      | (with_reducible exact ih1 _ _ _)
      | (with_reducible exact LeO.refl _)
      | (with_reducible exact LeO.none _)
      | (with_reducible refine LeO.ite ?_ ?_)
      | (with_reducible refine LeO.bind ?_ (fun _ => ?_))
      | exact ih0 _ _ _ _
      | exact ih1 _ _ _
      | exact LeO.none _
      | refine LeO.ite ?_ ?_
      | refine LeO.bind ?_ (fun _ => ?_)
set_option maxHeartbeats 8000000 in
set_option maxRecDepth 100000 in
theorem blend_check.calls (k : Nat) (a0_0 : Int) (a0_1 : Int) (A0_2 : Option Addr) (c0_2 : Nat) (l0_2 : List (S32)) (r : Int) (w : World) (hr0_2 : Kd.C k32 w A0_2 l0_2.length l0_2) (hc0_2 : l0_2.length ≤ c0_2) (h : blend_check.f k a0_0 a0_1 l0_2 = some r) :
    Calls Try.prog 33 #[.agg #[.int .i64 a0_0, .int .i64 a0_1, .slice A0_2 l0_2.length c0_2]] w fun e w' => e = .returned (.int .i64 r) ∧ Below w.heap.size w w' := by
 have hu24 := Try.underlying24
 have hu32 := Try.underlying32
 have HR0_2 := Aside0.mk hr0_2
 have HC0_2 := Aside0.mk hc0_2
 clear hr0_2 hc0_2
 have HB := Aside0.mk (Below.refl w.heap.size w)
 have H : (if (mn a0_0 a0_1) < 0 then (blend_check.j0 k true a0_0 a0_1 l0_2) else (if (mx a0_0 a0_1) > 256 then (blend_check.j0 k true a0_0 a0_1 l0_2) else (if ((a0_0 == 0) != (a0_1 == 0)) = true then (blend_check.j0 k true a0_0 a0_1 l0_2) else (blend_check.j0 k ((l0_2.length : Int) != (wrap64 (a0_0 * a0_1))) a0_0 a0_1 l0_2)))) = some r := h
 clear h
 have HC2 := Aside0.mk H
 clear H
 go_enter Try.func33, Try.ntmps33
 go_upto_region 1 with (first | ((with_reducible refine gate_dst (N := 1) rfl ?_); refine box_event ?hg (N := 1) ?hd (cs := #[.int .i64 a0_0, .int .i64 a0_1, .slice A0_2 l0_2.length c0_2]) (t := 24) ?hr ?_; (case hd => rfl); (case hg => rfl); (case hr => first | (go_simp; done) | (go_simp; rfl)); intro gA hg w3 hbox hb; have KA := Aside0.mk hbox; have GWA := ge_ hg (pb HB.out); have GEA := ge_ hg (pb HB.out); replace HB := Aside0.mk (below_step (pb HB.out) hb); clear hb hbox hg))
 (try simp only [Act.put, List.setIfInBounds_toArray, List.set_cons_zero, List.set_cons_succ])
 go_cut [38] (fun v38 wc => ∃ (kq : Nat) (x38_1 : Bool), v38 = .bool x38_1 ∧ Aside0 (blend_check.j0 kq x38_1 a0_0 a0_1 l0_2 = some r) ∧ Aside0 (kq ≤ k) ∧ Aside0 (wc.heap[gA]? = some (.cells #[.int .i64 a0_0, .int .i64 a0_1, (.slice A0_2 l0_2.length c0_2)] 24 (0, 0))) ∧ Aside0 (Below w.heap.size w wc))
 case first =>
  have H := HC2.out
  clear HC2
  obtain ⟨ji4, hji4⟩ : ∃ j_ : Int, (mn a0_0 a0_1) = j_ := ⟨_, rfl⟩
  replace H : (if (ji4) < 0 then (blend_check.j0 k true a0_0 a0_1 l0_2) else (if (mx a0_0 a0_1) > 256 then (blend_check.j0 k true a0_0 a0_1 l0_2) else (if ((a0_0 == 0) != (a0_1 == 0)) = true then (blend_check.j0 k true a0_0 a0_1 l0_2) else (blend_check.j0 k ((l0_2.length : Int) != (wrap64 (a0_0 * a0_1))) a0_0 a0_1 l0_2)))) = some r := by first | (rw [hji4] at H; exact H) | (simp only [hji4] at H ⊢; exact H)
  have hji4_ : (if a0_1 < a0_0 then a0_1 else a0_0) = ji4 := hji4
  by_cases c5 : (ji4) < 0
  ·rw [if_pos c5] at H
   have c5b0 : decide ((ji4) < 0) = true := decide_eq_true c5
   clear c5
   (first | rw [c5b0] | (simp only [i64_w, i32_w]; rw [c5b0]) | skip)
   have H' := Aside0.mk H
   clear H
   have hcz6_0 := ci_ KA 0 (.int .i64 a0_0)
   have hcz6_1 := ci_ KA 1 (.int .i64 a0_1)
   have hcz6_2 := ci_ KA 2 (.slice A0_2 l0_2.length c0_2)
   have hfz6_0 := blk_frozen KA.out 0
   have hfz6_1 := blk_frozen KA.out 1
   have hfz6_2 := blk_frozen KA.out 2
   go_wp2
   go_meet
   case rel => exact ⟨_, (true), (by first | rfl | (simp; done) | (simp [*]; done)), H', ⟨by first | omega | exact Nat.le_refl _⟩, ⟨pl KA.out⟩, ⟨pb1 HB.out GEA.out⟩⟩
  ·rw [if_neg c5] at H
   have c5b0 : decide ((ji4) < 0) = false := decide_eq_false c5
   clear c5
   (first | rw [c5b0] | (simp only [i64_w, i32_w]; rw [c5b0]) | skip)
   obtain ⟨ji7, hji7⟩ : ∃ j_ : Int, (mx a0_0 a0_1) = j_ := ⟨_, rfl⟩
   replace H : (if (ji7) > 256 then (blend_check.j0 k true a0_0 a0_1 l0_2) else (if ((a0_0 == 0) != (a0_1 == 0)) = true then (blend_check.j0 k true a0_0 a0_1 l0_2) else (blend_check.j0 k ((l0_2.length : Int) != (wrap64 (a0_0 * a0_1))) a0_0 a0_1 l0_2))) = some r := by first | (rw [hji7] at H; exact H) | (simp only [hji7] at H ⊢; exact H)
   have hji7_ : (if a0_0 < a0_1 then a0_1 else a0_0) = ji7 := hji7
   by_cases c8 : (ji7) > 256
   ·rw [if_pos c8] at H
    have c8b0 : decide (256 < (ji7)) = true := decide_eq_true c8
    clear c8
    have H' := Aside0.mk H
    clear H
    have hcz9_0 := ci_ KA 0 (.int .i64 a0_0)
    have hcz9_1 := ci_ KA 1 (.int .i64 a0_1)
    have hcz9_2 := ci_ KA 2 (.slice A0_2 l0_2.length c0_2)
    have hfz9_0 := blk_frozen KA.out 0
    have hfz9_1 := blk_frozen KA.out 1
    have hfz9_2 := blk_frozen KA.out 2
    go_wp2
    go_meet
    case rel => exact ⟨_, (true), (by first | rfl | (simp; done) | (simp [*]; done)), H', ⟨by first | omega | exact Nat.le_refl _⟩, ⟨pl KA.out⟩, ⟨pb1 HB.out GEA.out⟩⟩
   ·rw [if_neg c8] at H
    have c8b0 : decide (256 < (ji7)) = false := decide_eq_false c8
    clear c8
    by_cases c10 : ((a0_0 == 0) != (a0_1 == 0)) = true
    ·rw [if_pos c10] at H
     have c10b0 : ((a0_0 == 0) != (a0_1 == 0)) = true := c10
     (try (have c10b1 : decide ((a0_0 == 0) = (a0_1 == 0)) = false := by simpa using c10))
     (try (have c10b2 : ((a0_0 == 0) == (a0_1 == 0)) = false := by simpa using c10))
     (try (have c10b3 : ¬ ((a0_0 == 0) = (a0_1 == 0)) := by simpa using c10))
     clear c10
     have H' := Aside0.mk H
     clear H
     have hcz11_0 := ci_ KA 0 (.int .i64 a0_0)
     have hcz11_1 := ci_ KA 1 (.int .i64 a0_1)
     have hcz11_2 := ci_ KA 2 (.slice A0_2 l0_2.length c0_2)
     have hfz11_0 := blk_frozen KA.out 0
     have hfz11_1 := blk_frozen KA.out 1
     have hfz11_2 := blk_frozen KA.out 2
     go_wp2
     go_meet
     case rel => exact ⟨_, (true), (by first | rfl | (simp; done) | (simp [*]; done)), H', ⟨by first | omega | exact Nat.le_refl _⟩, ⟨pl KA.out⟩, ⟨pb1 HB.out GEA.out⟩⟩
    ·rw [if_neg c10] at H
     have c10b0 : ((a0_0 == 0) != (a0_1 == 0)) = false := by simpa using c10
     (try (have c10b1 : decide ((a0_0 == 0) = (a0_1 == 0)) = true := by simpa using c10))
     (try (have c10b2 : ((a0_0 == 0) == (a0_1 == 0)) = true := by simpa using c10))
     clear c10
     have H' := Aside0.mk H
     clear H
     have hcz12_0 := ci_ KA 0 (.int .i64 a0_0)
     have hcz12_1 := ci_ KA 1 (.int .i64 a0_1)
     have hcz12_2 := ci_ KA 2 (.slice A0_2 l0_2.length c0_2)
     have hfz12_0 := blk_frozen KA.out 0
     have hfz12_1 := blk_frozen KA.out 1
     have hfz12_2 := blk_frozen KA.out 2
     go_wp2
     go_meet
     case rel => exact ⟨_, (((l0_2.length : Int) != (wrap64 (a0_0 * a0_1)))), (by first | rfl | (simp; done) | (simp [*]; done)), H', ⟨by first | omega | exact Nat.le_refl _⟩, ⟨pl KA.out⟩, ⟨pb1 HB.out GEA.out⟩⟩
 case rest =>
  clear HC2
  try clear c1
  try clear p2
  try clear c3
  try clear c5
  try clear c5b0
  try clear p6
  try clear c8
  try clear c8b0
  try clear c10
  try clear c10b0
  try clear c10b1
  try clear c10b2
  try clear hcz11_0
  try clear hcz11_1
  try clear hcz11_2
  try clear hcz12_0
  try clear hcz12_1
  try clear hcz12_2
  try clear hcz6_0
  try clear hcz6_1
  try clear hcz6_2
  try clear hcz9_0
  try clear hcz9_1
  try clear hcz9_2
  try clear hfz11_0
  try clear hfz11_1
  try clear hfz11_2
  try clear hfz12_0
  try clear hfz12_1
  try clear hfz12_2
  try clear hfz6_0
  try clear hfz6_1
  try clear hfz6_2
  try clear hfz9_0
  try clear hfz9_1
  try clear hfz9_2
  obtain ⟨kq, x38_1, rfl, HA, HJ1, KA, HB⟩ := hcut
  cases kq with
  | zero => exact absurd HA.out (by simp [blend_check.j0])
  | succ kj1 =>
   have H := HA.out
   clear HA
   simp only [blend_check.j0] at H
   by_cases c13 : x38_1 = true
   ·subst c13
    have H1 : (some 15) = some r := by rw [if_pos rfl] at H; exact H
    clear H
    have H := H1
    clear H1
    obtain rfl := Option.some.inj H
    go_wp2
    go_ret
    exact ⟨by first | rfl | (simp [errW_none, errW_some] <;> rfl) | (simp [*, errW_none, errW_some] <;> rfl), pb1 HB.out GEA.out⟩
   ·replace c13 := Bool.eq_false_iff.mpr c13
    subst c13
    have H1 : (blend_check.l0 kj1 l0_2 (l0_2.length : Int) 0) = some r := by rw [if_neg (show ¬ (false = true) by decide)] at H; exact H
    clear H
    have H := H1
    clear H1
    have H' := Aside0.mk H
    clear H
    have hcz14_0 := ci_ KA 0 (.int .i64 a0_0)
    have hcz14_1 := ci_ KA 1 (.int .i64 a0_1)
    have hcz14_2 := ci_ KA 2 (.slice A0_2 l0_2.length c0_2)
    have hfz14_0 := blk_frozen KA.out 0
    have hfz14_1 := blk_frozen KA.out 1
    have hfz14_2 := blk_frozen KA.out 2
    go_wp2
    go_loopg [42] kj1 (fun kq v42 w' => ∃ (x42_2 : Int), v42 = .int .i64 x42_2 ∧ Aside0 (blend_check.l0 kq l0_2 (l0_2.length : Int) x42_2 = some r) ∧ Aside0 (kq ≤ kj1) ∧ Aside0 (w'.heap[gA]? = some (.cells #[.int .i64 a0_0, .int .i64 a0_1, (.slice A0_2 l0_2.length c0_2)] 24 (0, 0))) ∧ Aside0 (Below w.heap.size w w'))
    case atStart => exact ⟨(0), (by first | rfl | (simp; done) | (simp [*]; done)), H', ⟨Nat.le_refl _⟩, ⟨pl KA.out⟩, ⟨pb1 HB.out GEA.out⟩⟩
    case round =>
     clear H'
     try clear c1
     try clear p2
     try clear c3
     try clear c5
     try clear c5b0
     try clear p6
     try clear c8
     try clear c8b0
     try clear c10
     try clear c10b0
     try clear c10b1
     try clear c10b2
     try clear c13
     try clear hcz11_0
     try clear hcz11_1
     try clear hcz11_2
     try clear hcz12_0
     try clear hcz12_1
     try clear hcz12_2
     try clear hcz14_0
     try clear hcz14_1
     try clear hcz14_2
     try clear hcz6_0
     try clear hcz6_1
     try clear hcz6_2
     try clear hcz9_0
     try clear hcz9_1
     try clear hcz9_2
     try clear hfz11_0
     try clear hfz11_1
     try clear hfz11_2
     try clear hfz12_0
     try clear hfz12_1
     try clear hfz12_2
     try clear hfz14_0
     try clear hfz14_1
     try clear hfz14_2
     try clear hfz6_0
     try clear hfz6_1
     try clear hfz6_2
     try clear hfz9_0
     try clear hfz9_1
     try clear hfz9_2
     try clear p2
     try clear p6
     obtain ⟨x42_2, rfl, HA, HK2, KA, HB⟩ := hrel
     cases gk with
     | zero => exact absurd HA.out (by simp [blend_check.l0])
     | succ k2 =>
      have H := HA.out
      clear HA
      simp only [blend_check.l0] at H
      by_cases c15 : x42_2 < (l0_2.length : Int)
      ·rw [if_pos c15] at H
       have c15b0 : decide (x42_2 < (l0_2.length : Int)) = true := decide_eq_true c15
       clear c15
       by_cases c16 : 0 ≤ x42_2
       rotate_left
       ·rw [if_neg c16] at H
        exact absurd H (by simp)
       rw [if_pos c16] at H
       have c16b0 : decide (0 ≤ x42_2) = true := decide_eq_true c16
       clear c16
       by_cases c17 : x42_2 < (l0_2.length : Int)
       rotate_left
       ·rw [if_neg c17] at H
        exact absurd H (by simp)
       rw [if_pos c17] at H
       have c17b0 : decide (x42_2 < (l0_2.length : Int)) = true := decide_eq_true c17
       clear c17
       replace H := Option.bind_eq_some_iff.mp H
       obtain ⟨t238, A180, H⟩ := H
       replace H : (if t238 = true then (blend_check.l0 k2 l0_2 (l0_2.length : Int) (wrap64 (x42_2 + 1))) else (some 2)) = some r := H
       have A18 := Aside0.mk A180
       clear A180
       by_cases c19 : t238 = true
       ·subst c19
        have H1 : (blend_check.l0 k2 l0_2 (l0_2.length : Int) (wrap64 (x42_2 + 1))) = some r := by rw [if_pos rfl] at H; exact H
        clear H
        have H := H1
        clear H1
        have H' := Aside0.mk H
        clear H
        have p236 : 0 ≤ (x42_2 : Int) := of_decide_eq_true (by first | (with_reducible assumption) | assumption)
        have q236 : x42_2 < (l0_2.length : Int) := of_decide_eq_true (by first | (with_reducible assumption) | assumption)
        obtain ⟨ad236, e236, hx236_0, hx236_1, hx236_2, hx236_3⟩ := at_T32 HR0_2.out x42_2 p236 q236
        cases e236
        replace hx236_0 := (HB.out.cell (World.block_lt_of_cell? w _ hx236_0)).trans hx236_0
        replace hx236_1 := (HB.out.cell (World.block_lt_of_cell? w _ hx236_1)).trans hx236_1
        replace hx236_2 := (HB.out.cell (World.block_lt_of_cell? w _ hx236_2)).trans hx236_2
        replace hx236_3 := (HB.out.cell (World.block_lt_of_cell? w _ hx236_3)).trans hx236_3
        replace p236 := eq_true p236
        replace q236 := eq_true q236
        go_wp2_with (first | ((with_reducible refine gate_dst (N := 4) rfl ?_); refine box_event ?hg (N := 4) ?hd (cs := #[.int .i64 0, .int .i64 0, .int .i64 0, .int .i64 0]) (t := 32) ?hr ?_; (case hd => rfl); (case hg => rfl); (case hr => first | (go_simp; done) | (go_simp; rfl)); intro gB hg w20 hbox hb; have c0_ := cp_ hb KA; have KB := Aside0.mk hbox; have GWB := ge_ hg (pb1 HB.out GEA.out); have GEB := ge_ hg (pb1 HB.out GEA.out); have NAB := nl_ hg c0_; have NBA := ng_ hg c0_; replace KA := bb_ c0_ hb; replace HB := Aside0.mk (below_step (pb1 HB.out GEA.out) hb); clear c0_; clear hb hbox hg; have hnb21 := NBA.out; have hnc21 := NAB.out; have hcz22_0 := ci_ KB 0 (.int .i64 0); have hcz22_1 := ci_ KB 1 (.int .i64 0); have hcz22_2 := ci_ KB 2 (.int .i64 0); have hcz22_3 := ci_ KB 3 (.int .i64 0); have hfz22_0 := blk_frozen KB.out 0; have hfz22_1 := blk_frozen KB.out 1; have hfz22_2 := blk_frozen KB.out 2; have hfz22_3 := blk_frozen KB.out 3) | ((with_reducible refine gate_callee (f := 62) rfl ?_); refine goesL_ (some 47) rfl rfl Try.func62 (by kernel_rfl) rfl #[.agg #[.int .i64 ((rd_T32 l0_2 x42_2).f0), .int .i64 ((rd_T32 l0_2 x42_2).f1), .int .i64 ((rd_T32 l0_2 x42_2).f2), .int .i64 ((rd_T32 l0_2 x42_2).f3)]] rfl pm ?_; (with_reducible refine (pixel_Valid.calls ((rd_T32 l0_2 x42_2).f0) ((rd_T32 l0_2 x42_2).f1) ((rd_T32 l0_2 x42_2).f2) ((rd_T32 l0_2 x42_2).f3) true _ A18.out).mono ?_); rintro e w23 ⟨rfl, hb⟩; refine ⟨_, rfl, ?_⟩; have c0_ := co_ (g := gA) (o := .cells #[.int .i64 a0_0, .int .i64 a0_1, .slice (some ad236) l0_2.length c0_2] 24 (0, 0)) hb (by refine pf ?_ NAB.out; refine pl ?_; exact KA.out); have c1_ := co_ (g := gB) (o := .cells #[.int .i64 ((rd_T32 l0_2 x42_2).f0), .int .i64 ((rd_T32 l0_2 x42_2).f1), .int .i64 ((rd_T32 l0_2 x42_2).f2), .int .i64 ((rd_T32 l0_2 x42_2).f3)] 32 (0, 0)) hb (by refine pl ?_; refine blk_put (cs := #[.int .i64 ((rd_T32 l0_2 x42_2).f0), .int .i64 ((rd_T32 l0_2 x42_2).f1), .int .i64 ((rd_T32 l0_2 x42_2).f2), .int .i64 0]) ?_ 3 _ rfl; refine pl ?_; refine blk_put (cs := #[.int .i64 ((rd_T32 l0_2 x42_2).f0), .int .i64 ((rd_T32 l0_2 x42_2).f1), .int .i64 0, .int .i64 0]) ?_ 2 _ rfl; refine pl ?_; refine blk_put (cs := #[.int .i64 ((rd_T32 l0_2 x42_2).f0), .int .i64 0, .int .i64 0, .int .i64 0]) ?_ 1 _ rfl; refine pl ?_; refine blk_put (cs := #[.int .i64 0, .int .i64 0, .int .i64 0, .int .i64 0]) ?_ 0 _ rfl; refine pl ?_; exact KB.out); replace KA := bb_ c0_ hb; replace KB := bb_ c1_ hb; replace HB := Aside0.mk (below_step (pb2 HB.out GEA.out GEB.out) hb); clear c0_ c1_; (try clear hb); (try clear hb2); (try clear hk); (try clear hi)))
        go_roundg k2
        case measure => have := HJ1.out; have := HK2.out; omega
        case rel => exact ⟨(wrap64 (x42_2 + 1)), (by first | rfl | (simp; done) | (simp [*]; done)), H', ⟨by have := HJ1.out; have := HK2.out; omega⟩, ⟨pl KA.out⟩, ⟨pb2 HB.out GEA.out GEB.out⟩⟩
       ·replace c19 := Bool.eq_false_iff.mpr c19
        subst c19
        have H1 : (some 2) = some r := by rw [if_neg (show ¬ (false = true) by decide)] at H; exact H
        clear H
        have H := H1
        clear H1
        obtain rfl := Option.some.inj H
        have p236 : 0 ≤ (x42_2 : Int) := of_decide_eq_true (by first | (with_reducible assumption) | assumption)
        have q236 : x42_2 < (l0_2.length : Int) := of_decide_eq_true (by first | (with_reducible assumption) | assumption)
        obtain ⟨ad236, e236, hx236_0, hx236_1, hx236_2, hx236_3⟩ := at_T32 HR0_2.out x42_2 p236 q236
        cases e236
        replace hx236_0 := (HB.out.cell (World.block_lt_of_cell? w _ hx236_0)).trans hx236_0
        replace hx236_1 := (HB.out.cell (World.block_lt_of_cell? w _ hx236_1)).trans hx236_1
        replace hx236_2 := (HB.out.cell (World.block_lt_of_cell? w _ hx236_2)).trans hx236_2
        replace hx236_3 := (HB.out.cell (World.block_lt_of_cell? w _ hx236_3)).trans hx236_3
        replace p236 := eq_true p236
        replace q236 := eq_true q236
        go_wp2_with (first | ((with_reducible refine gate_dst (N := 4) rfl ?_); refine box_event ?hg (N := 4) ?hd (cs := #[.int .i64 0, .int .i64 0, .int .i64 0, .int .i64 0]) (t := 32) ?hr ?_; (case hd => rfl); (case hg => rfl); (case hr => first | (go_simp; done) | (go_simp; rfl)); intro gB hg w24 hbox hb; have c0_ := cp_ hb KA; have KB := Aside0.mk hbox; have GWB := ge_ hg (pb1 HB.out GEA.out); have GEB := ge_ hg (pb1 HB.out GEA.out); have NAB := nl_ hg c0_; have NBA := ng_ hg c0_; replace KA := bb_ c0_ hb; replace HB := Aside0.mk (below_step (pb1 HB.out GEA.out) hb); clear c0_; clear hb hbox hg; have hnb25 := NBA.out; have hnc25 := NAB.out; have hcz26_0 := ci_ KB 0 (.int .i64 0); have hcz26_1 := ci_ KB 1 (.int .i64 0); have hcz26_2 := ci_ KB 2 (.int .i64 0); have hcz26_3 := ci_ KB 3 (.int .i64 0); have hfz26_0 := blk_frozen KB.out 0; have hfz26_1 := blk_frozen KB.out 1; have hfz26_2 := blk_frozen KB.out 2; have hfz26_3 := blk_frozen KB.out 3) | ((with_reducible refine gate_callee (f := 62) rfl ?_); refine goesL_ (some 47) rfl rfl Try.func62 (by kernel_rfl) rfl #[.agg #[.int .i64 ((rd_T32 l0_2 x42_2).f0), .int .i64 ((rd_T32 l0_2 x42_2).f1), .int .i64 ((rd_T32 l0_2 x42_2).f2), .int .i64 ((rd_T32 l0_2 x42_2).f3)]] rfl pm ?_; (with_reducible refine (pixel_Valid.calls ((rd_T32 l0_2 x42_2).f0) ((rd_T32 l0_2 x42_2).f1) ((rd_T32 l0_2 x42_2).f2) ((rd_T32 l0_2 x42_2).f3) false _ A18.out).mono ?_); rintro e w27 ⟨rfl, hb⟩; refine ⟨_, rfl, ?_⟩; have c0_ := co_ (g := gA) (o := .cells #[.int .i64 a0_0, .int .i64 a0_1, .slice (some ad236) l0_2.length c0_2] 24 (0, 0)) hb (by refine pf ?_ NAB.out; refine pl ?_; exact KA.out); have c1_ := co_ (g := gB) (o := .cells #[.int .i64 ((rd_T32 l0_2 x42_2).f0), .int .i64 ((rd_T32 l0_2 x42_2).f1), .int .i64 ((rd_T32 l0_2 x42_2).f2), .int .i64 ((rd_T32 l0_2 x42_2).f3)] 32 (0, 0)) hb (by refine pl ?_; refine blk_put (cs := #[.int .i64 ((rd_T32 l0_2 x42_2).f0), .int .i64 ((rd_T32 l0_2 x42_2).f1), .int .i64 ((rd_T32 l0_2 x42_2).f2), .int .i64 0]) ?_ 3 _ rfl; refine pl ?_; refine blk_put (cs := #[.int .i64 ((rd_T32 l0_2 x42_2).f0), .int .i64 ((rd_T32 l0_2 x42_2).f1), .int .i64 0, .int .i64 0]) ?_ 2 _ rfl; refine pl ?_; refine blk_put (cs := #[.int .i64 ((rd_T32 l0_2 x42_2).f0), .int .i64 0, .int .i64 0, .int .i64 0]) ?_ 1 _ rfl; refine pl ?_; refine blk_put (cs := #[.int .i64 0, .int .i64 0, .int .i64 0, .int .i64 0]) ?_ 0 _ rfl; refine pl ?_; exact KB.out); replace KA := bb_ c0_ hb; replace KB := bb_ c1_ hb; replace HB := Aside0.mk (below_step (pb2 HB.out GEA.out GEB.out) hb); clear c0_ c1_; (try clear hb); (try clear hb2); (try clear hk); (try clear hi)))
        go_ret
        exact ⟨by first | rfl | (simp [errW_none, errW_some] <;> rfl) | (simp [*, errW_none, errW_some] <;> rfl), pb2 HB.out GEA.out GEB.out⟩
      ·rw [if_neg c15] at H
       have c15b0 : decide (x42_2 < (l0_2.length : Int)) = false := decide_eq_false c15
       clear c15
       obtain rfl := Option.some.inj H
       go_wp2
       go_ret
       exact ⟨by first | rfl | (simp [errW_none, errW_some] <;> rfl) | (simp [*, errW_none, errW_some] <;> rfl), pb1 HB.out GEA.out⟩

end Go.Proofs.Ytnijapaaickifaa.I
