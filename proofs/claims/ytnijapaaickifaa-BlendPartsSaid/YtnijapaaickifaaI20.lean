-- Written for this claim by a program of this session (handprint.py) that drives the kit's print. Not trusted: Lean checks it.
import Derived.Test.YtnijapaaickifaaI0
import Derived.Test.YtnijapaaickifaaI16
import Derived.Test.YtnijapaaickifaaI19
namespace Go.Proofs.Ytnijapaaickifaa.I
open Go.RowKit Go.Proofs.YtnijapaaickifaaW.PrintWords Go.Proofs.YtnijapaaickifaaW.PrintLast
attribute [local go_sem] max2_int min2_int max_two min_two max_three min_three max_four min_four
set_option linter.unusedVariables false
set_option linter.unusedSimpArgs false

/-! ### imageeditorref10_SetLum: function 54 -/
def imageeditorref10_SetLum.j0 : Nat → Int → Int → Int → Int → Int → Int → Option (Int × Int × Int)
  | 0, _, _, _, _, _, _ => none
  | k + 1, x1, x7, x8, x372000, x372001, x372002 => if x7 < 0 then ((imageeditorref01_Div.f k (wrap64 ((wrap64 (x372000 - x1)) * x1)) (wrap64 (x1 - x7))).bind fun t374 => ((imageeditorref01_Div.f k (wrap64 ((wrap64 (x372001 - x1)) * x1)) (wrap64 (x1 - x7))).bind fun t375 => ((imageeditorref01_Div.f k (wrap64 ((wrap64 (x372002 - x1)) * x1)) (wrap64 (x1 - x7))).bind fun t376 => (if x8 > 65535 then ((imageeditorref01_Div.f k (wrap64 ((wrap64 ((wrap64 (x1 + t374)) - x1)) * (wrap64 (65535 - x1)))) (wrap64 (x8 - x1))).bind fun t377 => ((imageeditorref01_Div.f k (wrap64 ((wrap64 ((wrap64 (x1 + t375)) - x1)) * (wrap64 (65535 - x1)))) (wrap64 (x8 - x1))).bind fun t378 => ((imageeditorref01_Div.f k (wrap64 ((wrap64 ((wrap64 (x1 + t376)) - x1)) * (wrap64 (65535 - x1)))) (wrap64 (x8 - x1))).bind fun t379 => ((imageeditorref01_Unit.f (wrap64 (x1 + t377))).bind fun t380 => ((imageeditorref01_Unit.f (wrap64 (x1 + t378))).bind fun t381 => ((imageeditorref01_Unit.f (wrap64 (x1 + t379))).bind fun t382 => (some (t380, t381, t382)))))))) else ((imageeditorref01_Unit.f (wrap64 (x1 + t374))).bind fun t383 => ((imageeditorref01_Unit.f (wrap64 (x1 + t375))).bind fun t384 => ((imageeditorref01_Unit.f (wrap64 (x1 + t376))).bind fun t385 => (some (t383, t384, t385))))))))) else (if x8 > 65535 then ((imageeditorref01_Div.f k (wrap64 ((wrap64 (x372000 - x1)) * (wrap64 (65535 - x1)))) (wrap64 (x8 - x1))).bind fun t386 => ((imageeditorref01_Div.f k (wrap64 ((wrap64 (x372001 - x1)) * (wrap64 (65535 - x1)))) (wrap64 (x8 - x1))).bind fun t387 => ((imageeditorref01_Div.f k (wrap64 ((wrap64 (x372002 - x1)) * (wrap64 (65535 - x1)))) (wrap64 (x8 - x1))).bind fun t388 => ((imageeditorref01_Unit.f (wrap64 (x1 + t386))).bind fun t389 => ((imageeditorref01_Unit.f (wrap64 (x1 + t387))).bind fun t390 => ((imageeditorref01_Unit.f (wrap64 (x1 + t388))).bind fun t391 => (some (t389, t390, t391)))))))) else ((imageeditorref01_Unit.f x372000).bind fun t392 => ((imageeditorref01_Unit.f x372001).bind fun t393 => ((imageeditorref01_Unit.f x372002).bind fun t394 => (some (t392, t393, t394))))))
def imageeditorref10_SetLum.f (k : Nat) (a0_0 : Int) (a0_1 : Int) (a0_2 : Int) (a1 : Int) : Option (Int × Int × Int) := (imageeditorref10_Lum.f k a0_0 a0_1 a0_2).bind fun t373 => (imageeditorref10_SetLum.j0 k a1 (mn (mn (wrap64 (a0_0 + (wrap64 (a1 - t373)))) (wrap64 (a0_1 + (wrap64 (a1 - t373))))) (wrap64 (a0_2 + (wrap64 (a1 - t373))))) (mx (mx (wrap64 (a0_0 + (wrap64 (a1 - t373)))) (wrap64 (a0_1 + (wrap64 (a1 - t373))))) (wrap64 (a0_2 + (wrap64 (a1 - t373))))) (wrap64 (a0_0 + (wrap64 (a1 - t373)))) (wrap64 (a0_1 + (wrap64 (a1 - t373)))) (wrap64 (a0_2 + (wrap64 (a1 - t373)))))
theorem imageeditorref10_SetLum.mono_l : ∀ k, (∀ y0 y1 y2 y3 y4 y5, LeO (imageeditorref10_SetLum.j0 k y0 y1 y2 y3 y4 y5) (imageeditorref10_SetLum.j0 (k + 1) y0 y1 y2 y3 y4 y5))
  | 0 => fun _ _ _ _ _ _ r h => by simp [imageeditorref10_SetLum.j0] at h
  | k + 1 => by
    have ih0 := imageeditorref10_SetLum.mono_l k
    · intro y0 y1 y2 y3 y4 y5
      unfold imageeditorref10_SetLum.j0
      repeat' first
      | (with_reducible exact ih0 _ _ _ _ _ _)
      | (with_reducible exact imageeditorref01_Div.mono _ _ _)
      | (with_reducible exact imageeditorref10_Lum.mono _ _ _ _)
      | (with_reducible exact LeO.refl _)
      | (with_reducible exact LeO.none _)
      | (with_reducible refine LeO.ite ?_ ?_)
      | (with_reducible refine LeO.bind ?_ (fun _ => ?_))
      | exact ih0 _ _ _ _ _ _
      | exact imageeditorref01_Div.mono _ _ _
      | exact imageeditorref10_Lum.mono _ _ _ _
      | exact LeO.none _
      | refine LeO.ite ?_ ?_
      | refine LeO.bind ?_ (fun _ => ?_)
theorem imageeditorref10_SetLum.mono : ∀ a0 a1 a2 a3 k, LeO (imageeditorref10_SetLum.f k a0 a1 a2 a3) (imageeditorref10_SetLum.f (k + 1) a0 a1 a2 a3) := by
  intro a0 a1 a2 a3 k
  have ih0 := imageeditorref10_SetLum.mono_l k
  unfold imageeditorref10_SetLum.f
  repeat' first
      | (with_reducible exact ih0 _ _ _ _ _ _)
      | (with_reducible exact imageeditorref01_Div.mono _ _ _)
      | (with_reducible exact imageeditorref10_Lum.mono _ _ _ _)
      | (with_reducible exact LeO.refl _)
      | (with_reducible exact LeO.none _)
      | (with_reducible refine LeO.ite ?_ ?_)
      | (with_reducible refine LeO.bind ?_ (fun _ => ?_))
      | exact ih0 _ _ _ _ _ _
      | exact imageeditorref01_Div.mono _ _ _
      | exact imageeditorref10_Lum.mono _ _ _ _
      | exact LeO.none _
      | refine LeO.ite ?_ ?_
      | refine LeO.bind ?_ (fun _ => ?_)
set_option maxHeartbeats 8000000 in
set_option maxRecDepth 100000 in
theorem imageeditorref10_SetLum.calls (k : Nat) (a0_0 : Int) (a0_1 : Int) (a0_2 : Int) (a1 : Int) (r1 : Int) (r2 : Int) (r3 : Int) (w : World) (h : imageeditorref10_SetLum.f k a0_0 a0_1 a0_2 a1 = some (r1, r2, r3)) :
    Calls Try.prog 54 #[.agg #[.int .i64 a0_0, .int .i64 a0_1, .int .i64 a0_2], .int .i64 a1] w fun e w' => e = .returned (.agg #[.int .i64 r1, .int .i64 r2, .int .i64 r3]) ∧ Below w.heap.size w w' := by
 have hu56 := Try.underlying56
 have HB := Aside0.mk (Below.refl w.heap.size w)
 have H : ((imageeditorref10_Lum.f k a0_0 a0_1 a0_2).bind fun t373 => (imageeditorref10_SetLum.j0 k a1 (mn (mn (wrap64 (a0_0 + (wrap64 (a1 - t373)))) (wrap64 (a0_1 + (wrap64 (a1 - t373))))) (wrap64 (a0_2 + (wrap64 (a1 - t373))))) (mx (mx (wrap64 (a0_0 + (wrap64 (a1 - t373)))) (wrap64 (a0_1 + (wrap64 (a1 - t373))))) (wrap64 (a0_2 + (wrap64 (a1 - t373))))) (wrap64 (a0_0 + (wrap64 (a1 - t373)))) (wrap64 (a0_1 + (wrap64 (a1 - t373)))) (wrap64 (a0_2 + (wrap64 (a1 - t373)))))) = some (r1, r2, r3) := h
 clear h
 replace H := Option.bind_eq_some_iff.mp H
 obtain ⟨t373, A30, H⟩ := H
 replace H : (imageeditorref10_SetLum.j0 k a1 (mn (mn (wrap64 (a0_0 + (wrap64 (a1 - t373)))) (wrap64 (a0_1 + (wrap64 (a1 - t373))))) (wrap64 (a0_2 + (wrap64 (a1 - t373))))) (mx (mx (wrap64 (a0_0 + (wrap64 (a1 - t373)))) (wrap64 (a0_1 + (wrap64 (a1 - t373))))) (wrap64 (a0_2 + (wrap64 (a1 - t373))))) (wrap64 (a0_0 + (wrap64 (a1 - t373)))) (wrap64 (a0_1 + (wrap64 (a1 - t373)))) (wrap64 (a0_2 + (wrap64 (a1 - t373))))) = some (r1, r2, r3) := H
 have A3 := Aside0.mk A30
 clear A30
 have HC4 := Aside0.mk H
 clear H
 go_enter Try.func54, Try.ntmps54
 try go_wp2_with (first | ((with_reducible refine gate_dst (N := 2) rfl ?_); refine box_event ?hg (N := 2) ?hd (cs := #[.int .i64 a0_0, .int .i64 a0_1, .int .i64 a0_2]) (t := 56) ?hr ?_; (case hd => rfl); (case hg => rfl); (case hr => first | (go_simp; done) | (go_simp; rfl)); intro gA hg w5 hbox hb; have KA := Aside0.mk hbox; have GWA := ge_ hg (pb HB.out); have GEA := ge_ hg (pb HB.out); replace HB := Aside0.mk (below_step (pb HB.out) hb); clear hb hbox hg) | ((with_reducible refine gate_dst (N := 4) rfl ?_); refine box_event ?hg (N := 4) ?hd (cs := #[.int .i64 0, .int .i64 0, .int .i64 0]) (t := 56) ?hr ?_; (case hd => rfl); (case hg => rfl); (case hr => first | (go_simp; done) | (go_simp; rfl)); intro gB hg w6 hbox hb; have c0_ := cp_ hb KA; have KB := Aside0.mk hbox; have GWB := ge_ hg (pb1 HB.out GEA.out); have GEB := ge_ hg (pb1 HB.out GEA.out); have NAB := nl_ hg c0_; have NBA := ng_ hg c0_; replace KA := bb_ c0_ hb; replace HB := Aside0.mk (below_step (pb1 HB.out GEA.out) hb); clear c0_; clear hb hbox hg; have hnb7 := NAB.out; have hnc7 := NBA.out; have hcz8_0 := ci_ KA 0 (.int .i64 a0_0); have hcz8_1 := ci_ KA 1 (.int .i64 a0_1); have hcz8_2 := ci_ KA 2 (.int .i64 a0_2); have hfz8_0 := blk_frozen KA.out 0; have hfz8_1 := blk_frozen KA.out 1; have hfz8_2 := blk_frozen KA.out 2) | (go_at_call 57; (with_reducible refine (imageeditorref10_Lum.calls k a0_0 a0_1 a0_2 t373 _ A3.out).mono ?_); rintro e w9 ⟨rfl, hb⟩; replace KA := bp_ KA hb; replace KB := bp_ KB hb; replace HB := Aside0.mk (below_step (pb2 HB.out GEA.out GEB.out) hb); (try clear hb); (try clear hb2); (try clear hk); (try clear hi); have hcz10_0 := ci_ KA 0 (.int .i64 a0_0); have hcz10_1 := ci_ KA 1 (.int .i64 a0_1); have hcz10_2 := ci_ KA 2 (.int .i64 a0_2); have hfz10_0 := blk_frozen KA.out 0; have hfz10_1 := blk_frozen KA.out 1; have hfz10_2 := blk_frozen KA.out 2))
 refine wp_loop_rounds 4 ?_
 rw [rounds_succ]
 try go_wp2
 rw [rounds_succ]
 try go_wp2
 rw [rounds_succ]
 try go_wp2
 rw [rounds_succ]
 go_upto_region 6 with (fail)
 go_cut [7, 8] (fun v7 v8 wc => ∃ (kq : Nat) (x7_3 : Int) (x8_3 : Int), v7 = .int .i64 x7_3 ∧ v8 = .int .i64 x8_3 ∧ Aside0 (imageeditorref10_SetLum.j0 kq a1 x7_3 x8_3 (wrap64 (a0_0 + (wrap64 (a1 - t373)))) (wrap64 (a0_1 + (wrap64 (a1 - t373)))) (wrap64 (a0_2 + (wrap64 (a1 - t373)))) = some (r1, r2, r3)) ∧ Aside0 (kq ≤ k) ∧ Aside0 (wc.heap[gA]? = some (.cells #[.int .i64 (wrap64 (a0_0 + (wrap64 (a1 - t373)))), .int .i64 (wrap64 (a0_1 + (wrap64 (a1 - t373)))), .int .i64 (wrap64 (a0_2 + (wrap64 (a1 - t373))))] 56 (0, 0))) ∧ Aside0 (wc.heap[gB]? = some (.cells #[.int .i64 0, .int .i64 0, .int .i64 0] 56 (0, 0))) ∧ Aside0 (Below w.heap.size w wc))
 case first =>
  have H := HC4.out
  clear HC4
  obtain ⟨ji11, hji11⟩ : ∃ j_ : Int, (mn (wrap64 (a0_0 + (wrap64 (a1 - t373)))) (wrap64 (a0_1 + (wrap64 (a1 - t373))))) = j_ := ⟨_, rfl⟩
  replace H : (imageeditorref10_SetLum.j0 k a1 (mn (ji11) (wrap64 (a0_2 + (wrap64 (a1 - t373))))) (mx (mx (wrap64 (a0_0 + (wrap64 (a1 - t373)))) (wrap64 (a0_1 + (wrap64 (a1 - t373))))) (wrap64 (a0_2 + (wrap64 (a1 - t373))))) (wrap64 (a0_0 + (wrap64 (a1 - t373)))) (wrap64 (a0_1 + (wrap64 (a1 - t373)))) (wrap64 (a0_2 + (wrap64 (a1 - t373))))) = some (r1, r2, r3) := by first | (rw [hji11] at H; exact H) | (simp only [hji11] at H ⊢; exact H)
  have hji11_ : (if (wrap64 (a0_1 + (wrap64 (a1 - t373)))) < (wrap64 (a0_0 + (wrap64 (a1 - t373)))) then (wrap64 (a0_1 + (wrap64 (a1 - t373)))) else (wrap64 (a0_0 + (wrap64 (a1 - t373))))) = ji11 := hji11
  obtain ⟨ji12, hji12⟩ : ∃ j_ : Int, (mn (ji11) (wrap64 (a0_2 + (wrap64 (a1 - t373))))) = j_ := ⟨_, rfl⟩
  replace H : (imageeditorref10_SetLum.j0 k a1 ji12 (mx (mx (wrap64 (a0_0 + (wrap64 (a1 - t373)))) (wrap64 (a0_1 + (wrap64 (a1 - t373))))) (wrap64 (a0_2 + (wrap64 (a1 - t373))))) (wrap64 (a0_0 + (wrap64 (a1 - t373)))) (wrap64 (a0_1 + (wrap64 (a1 - t373)))) (wrap64 (a0_2 + (wrap64 (a1 - t373))))) = some (r1, r2, r3) := by first | (rw [hji12] at H; exact H) | (simp only [hji12] at H ⊢; exact H)
  have hji12_ : (if (wrap64 (a0_2 + (wrap64 (a1 - t373)))) < (ji11) then (wrap64 (a0_2 + (wrap64 (a1 - t373)))) else (ji11)) = ji12 := hji12
  obtain ⟨ji13, hji13⟩ : ∃ j_ : Int, (mx (wrap64 (a0_0 + (wrap64 (a1 - t373)))) (wrap64 (a0_1 + (wrap64 (a1 - t373))))) = j_ := ⟨_, rfl⟩
  replace H : (imageeditorref10_SetLum.j0 k a1 ji12 (mx (ji13) (wrap64 (a0_2 + (wrap64 (a1 - t373))))) (wrap64 (a0_0 + (wrap64 (a1 - t373)))) (wrap64 (a0_1 + (wrap64 (a1 - t373)))) (wrap64 (a0_2 + (wrap64 (a1 - t373))))) = some (r1, r2, r3) := by first | (rw [hji13] at H; exact H) | (simp only [hji13] at H ⊢; exact H)
  have hji13_ : (if (wrap64 (a0_0 + (wrap64 (a1 - t373)))) < (wrap64 (a0_1 + (wrap64 (a1 - t373)))) then (wrap64 (a0_1 + (wrap64 (a1 - t373)))) else (wrap64 (a0_0 + (wrap64 (a1 - t373))))) = ji13 := hji13
  obtain ⟨ji14, hji14⟩ : ∃ j_ : Int, (mx (ji13) (wrap64 (a0_2 + (wrap64 (a1 - t373))))) = j_ := ⟨_, rfl⟩
  replace H : (imageeditorref10_SetLum.j0 k a1 ji12 ji14 (wrap64 (a0_0 + (wrap64 (a1 - t373)))) (wrap64 (a0_1 + (wrap64 (a1 - t373)))) (wrap64 (a0_2 + (wrap64 (a1 - t373))))) = some (r1, r2, r3) := by first | (rw [hji14] at H; exact H) | (simp only [hji14] at H ⊢; exact H)
  have hji14_ : (if (ji13) < (wrap64 (a0_2 + (wrap64 (a1 - t373)))) then (wrap64 (a0_2 + (wrap64 (a1 - t373)))) else (ji13)) = ji14 := hji14
  have H' := Aside0.mk H
  clear H
  have hnb15 := NAB.out
  have hnc15 := NBA.out
  have hcz16_0 := ci_ KA 0 (.int .i64 a0_0)
  have hcz16_1 := ci_ KA 1 (.int .i64 a0_1)
  have hcz16_2 := ci_ KA 2 (.int .i64 a0_2)
  have hfz16_0 := blk_frozen KA.out 0
  have hfz16_1 := blk_frozen KA.out 1
  have hfz16_2 := blk_frozen KA.out 2
  go_wp2
  repeat (go_quiet (fail); try go_wp2)
  go_meet
  case rel => exact ⟨_, (ji12), (ji14), (by first | rfl | (simp; done) | (simp only [← hji12] <;> (first | rfl | simp)) | (simp [*]; done)), (by first | rfl | (simp; done) | (simp only [← hji14] <;> (first | rfl | simp)) | (simp [*]; done)), H', ⟨by first | omega | exact Nat.le_refl _⟩, ⟨by refine pl ?_; refine blk_put (cs := #[.int .i64 (wrap64 (a0_0 + (wrap64 (a1 - t373)))), .int .i64 (wrap64 (a0_1 + (wrap64 (a1 - t373)))), .int .i64 a0_2]) ?_ 2 _ rfl; refine pl ?_; refine blk_put (cs := #[.int .i64 (wrap64 (a0_0 + (wrap64 (a1 - t373)))), .int .i64 a0_1, .int .i64 a0_2]) ?_ 1 _ rfl; refine pl ?_; refine blk_put (cs := #[.int .i64 a0_0, .int .i64 a0_1, .int .i64 a0_2]) ?_ 0 _ rfl; refine pl ?_; exact KA.out⟩, ⟨by refine pl ?_; refine blk_far ?_ NBA.out _; refine pl ?_; refine blk_far ?_ NBA.out _; refine pl ?_; refine blk_far ?_ NBA.out _; refine pl ?_; exact KB.out⟩, ⟨pb2 HB.out GEA.out GEB.out⟩⟩
 case rest =>
  clear HC4
  try clear c1
  try clear p2
  try clear c5
  try clear p6
  try clear c7
  try clear c15
  try clear hcz10_0
  try clear hcz10_1
  try clear hcz10_2
  try clear hcz16_0
  try clear hcz16_1
  try clear hcz16_2
  try clear hcz8_0
  try clear hcz8_1
  try clear hcz8_2
  try clear hfz10_0
  try clear hfz10_1
  try clear hfz10_2
  try clear hfz16_0
  try clear hfz16_1
  try clear hfz16_2
  try clear hfz8_0
  try clear hfz8_1
  try clear hfz8_2
  obtain ⟨kq, x7_3, x8_3, rfl, rfl, HA, HJ3, KA, KB, HB⟩ := hcut
  cases kq with
  | zero => exact absurd HA.out (by simp [imageeditorref10_SetLum.j0])
  | succ kj3 =>
   have H := HA.out
   clear HA
   simp only [imageeditorref10_SetLum.j0] at H
   by_cases c17 : x7_3 < 0
   ·rw [if_pos c17] at H
    have c17b0 : decide (x7_3 < 0) = true := decide_eq_true c17
    clear c17
    replace H := Option.bind_eq_some_iff.mp H
    obtain ⟨t374, A180, H⟩ := H
    replace H : ((imageeditorref01_Div.f kj3 (wrap64 ((wrap64 ((wrap64 (a0_1 + (wrap64 (a1 - t373)))) - a1)) * a1)) (wrap64 (a1 - x7_3))).bind fun t375 => ((imageeditorref01_Div.f kj3 (wrap64 ((wrap64 ((wrap64 (a0_2 + (wrap64 (a1 - t373)))) - a1)) * a1)) (wrap64 (a1 - x7_3))).bind fun t376 => (if x8_3 > 65535 then ((imageeditorref01_Div.f kj3 (wrap64 ((wrap64 ((wrap64 (a1 + t374)) - a1)) * (wrap64 (65535 - a1)))) (wrap64 (x8_3 - a1))).bind fun t377 => ((imageeditorref01_Div.f kj3 (wrap64 ((wrap64 ((wrap64 (a1 + t375)) - a1)) * (wrap64 (65535 - a1)))) (wrap64 (x8_3 - a1))).bind fun t378 => ((imageeditorref01_Div.f kj3 (wrap64 ((wrap64 ((wrap64 (a1 + t376)) - a1)) * (wrap64 (65535 - a1)))) (wrap64 (x8_3 - a1))).bind fun t379 => ((imageeditorref01_Unit.f (wrap64 (a1 + t377))).bind fun t380 => ((imageeditorref01_Unit.f (wrap64 (a1 + t378))).bind fun t381 => ((imageeditorref01_Unit.f (wrap64 (a1 + t379))).bind fun t382 => (some (t380, t381, t382)))))))) else ((imageeditorref01_Unit.f (wrap64 (a1 + t374))).bind fun t383 => ((imageeditorref01_Unit.f (wrap64 (a1 + t375))).bind fun t384 => ((imageeditorref01_Unit.f (wrap64 (a1 + t376))).bind fun t385 => (some (t383, t384, t385)))))))) = some (r1, r2, r3) := H
    have A18 := Aside0.mk A180
    clear A180
    replace H := Option.bind_eq_some_iff.mp H
    obtain ⟨t375, A190, H⟩ := H
    replace H : ((imageeditorref01_Div.f kj3 (wrap64 ((wrap64 ((wrap64 (a0_2 + (wrap64 (a1 - t373)))) - a1)) * a1)) (wrap64 (a1 - x7_3))).bind fun t376 => (if x8_3 > 65535 then ((imageeditorref01_Div.f kj3 (wrap64 ((wrap64 ((wrap64 (a1 + t374)) - a1)) * (wrap64 (65535 - a1)))) (wrap64 (x8_3 - a1))).bind fun t377 => ((imageeditorref01_Div.f kj3 (wrap64 ((wrap64 ((wrap64 (a1 + t375)) - a1)) * (wrap64 (65535 - a1)))) (wrap64 (x8_3 - a1))).bind fun t378 => ((imageeditorref01_Div.f kj3 (wrap64 ((wrap64 ((wrap64 (a1 + t376)) - a1)) * (wrap64 (65535 - a1)))) (wrap64 (x8_3 - a1))).bind fun t379 => ((imageeditorref01_Unit.f (wrap64 (a1 + t377))).bind fun t380 => ((imageeditorref01_Unit.f (wrap64 (a1 + t378))).bind fun t381 => ((imageeditorref01_Unit.f (wrap64 (a1 + t379))).bind fun t382 => (some (t380, t381, t382)))))))) else ((imageeditorref01_Unit.f (wrap64 (a1 + t374))).bind fun t383 => ((imageeditorref01_Unit.f (wrap64 (a1 + t375))).bind fun t384 => ((imageeditorref01_Unit.f (wrap64 (a1 + t376))).bind fun t385 => (some (t383, t384, t385))))))) = some (r1, r2, r3) := H
    have A19 := Aside0.mk A190
    clear A190
    replace H := Option.bind_eq_some_iff.mp H
    obtain ⟨t376, A200, H⟩ := H
    replace H : (if x8_3 > 65535 then ((imageeditorref01_Div.f kj3 (wrap64 ((wrap64 ((wrap64 (a1 + t374)) - a1)) * (wrap64 (65535 - a1)))) (wrap64 (x8_3 - a1))).bind fun t377 => ((imageeditorref01_Div.f kj3 (wrap64 ((wrap64 ((wrap64 (a1 + t375)) - a1)) * (wrap64 (65535 - a1)))) (wrap64 (x8_3 - a1))).bind fun t378 => ((imageeditorref01_Div.f kj3 (wrap64 ((wrap64 ((wrap64 (a1 + t376)) - a1)) * (wrap64 (65535 - a1)))) (wrap64 (x8_3 - a1))).bind fun t379 => ((imageeditorref01_Unit.f (wrap64 (a1 + t377))).bind fun t380 => ((imageeditorref01_Unit.f (wrap64 (a1 + t378))).bind fun t381 => ((imageeditorref01_Unit.f (wrap64 (a1 + t379))).bind fun t382 => (some (t380, t381, t382)))))))) else ((imageeditorref01_Unit.f (wrap64 (a1 + t374))).bind fun t383 => ((imageeditorref01_Unit.f (wrap64 (a1 + t375))).bind fun t384 => ((imageeditorref01_Unit.f (wrap64 (a1 + t376))).bind fun t385 => (some (t383, t384, t385)))))) = some (r1, r2, r3) := H
    have A20 := Aside0.mk A200
    clear A200
    by_cases c21 : x8_3 > 65535
    ·rw [if_pos c21] at H
     have c21b0 : decide (65535 < x8_3) = true := decide_eq_true c21
     clear c21
     replace H := Option.bind_eq_some_iff.mp H
     obtain ⟨t377, A220, H⟩ := H
     replace H : ((imageeditorref01_Div.f kj3 (wrap64 ((wrap64 ((wrap64 (a1 + t375)) - a1)) * (wrap64 (65535 - a1)))) (wrap64 (x8_3 - a1))).bind fun t378 => ((imageeditorref01_Div.f kj3 (wrap64 ((wrap64 ((wrap64 (a1 + t376)) - a1)) * (wrap64 (65535 - a1)))) (wrap64 (x8_3 - a1))).bind fun t379 => ((imageeditorref01_Unit.f (wrap64 (a1 + t377))).bind fun t380 => ((imageeditorref01_Unit.f (wrap64 (a1 + t378))).bind fun t381 => ((imageeditorref01_Unit.f (wrap64 (a1 + t379))).bind fun t382 => (some (t380, t381, t382))))))) = some (r1, r2, r3) := H
     have A22 := Aside0.mk A220
     clear A220
     replace H := Option.bind_eq_some_iff.mp H
     obtain ⟨t378, A230, H⟩ := H
     replace H : ((imageeditorref01_Div.f kj3 (wrap64 ((wrap64 ((wrap64 (a1 + t376)) - a1)) * (wrap64 (65535 - a1)))) (wrap64 (x8_3 - a1))).bind fun t379 => ((imageeditorref01_Unit.f (wrap64 (a1 + t377))).bind fun t380 => ((imageeditorref01_Unit.f (wrap64 (a1 + t378))).bind fun t381 => ((imageeditorref01_Unit.f (wrap64 (a1 + t379))).bind fun t382 => (some (t380, t381, t382)))))) = some (r1, r2, r3) := H
     have A23 := Aside0.mk A230
     clear A230
     replace H := Option.bind_eq_some_iff.mp H
     obtain ⟨t379, A240, H⟩ := H
     replace H : ((imageeditorref01_Unit.f (wrap64 (a1 + t377))).bind fun t380 => ((imageeditorref01_Unit.f (wrap64 (a1 + t378))).bind fun t381 => ((imageeditorref01_Unit.f (wrap64 (a1 + t379))).bind fun t382 => (some (t380, t381, t382))))) = some (r1, r2, r3) := H
     have A24 := Aside0.mk A240
     clear A240
     replace H := Option.bind_eq_some_iff.mp H
     obtain ⟨t380, A250, H⟩ := H
     replace H : ((imageeditorref01_Unit.f (wrap64 (a1 + t378))).bind fun t381 => ((imageeditorref01_Unit.f (wrap64 (a1 + t379))).bind fun t382 => (some (t380, t381, t382)))) = some (r1, r2, r3) := H
     have A25 := Aside0.mk A250
     clear A250
     replace H := Option.bind_eq_some_iff.mp H
     obtain ⟨t381, A260, H⟩ := H
     replace H : ((imageeditorref01_Unit.f (wrap64 (a1 + t379))).bind fun t382 => (some (t380, t381, t382))) = some (r1, r2, r3) := H
     have A26 := Aside0.mk A260
     clear A260
     replace H := Option.bind_eq_some_iff.mp H
     obtain ⟨t382, A270, H⟩ := H
     replace H : (some (t380, t381, t382)) = some (r1, r2, r3) := H
     have A27 := Aside0.mk A270
     clear A270
     simp only [Option.some.injEq, Prod.mk.injEq] at H
     obtain ⟨rfl, rfl, rfl⟩ := H
     have hnb28 := NAB.out
     have hnc28 := NBA.out
     have hcz29_0 : wc.cell? ⟨gA, 0, none⟩ = some (.int .i64 (wrap64 (a0_0 + (wrap64 (a1 - t373))))) := (blk_cell KA.out 0).trans rfl
     have hcz29_1 : wc.cell? ⟨gA, 1, none⟩ = some (.int .i64 (wrap64 (a0_1 + (wrap64 (a1 - t373))))) := (blk_cell KA.out 1).trans rfl
     have hcz29_2 : wc.cell? ⟨gA, 2, none⟩ = some (.int .i64 (wrap64 (a0_2 + (wrap64 (a1 - t373))))) := (blk_cell KA.out 2).trans rfl
     have hfz29_0 := blk_frozen KA.out 0
     have hfz29_1 := blk_frozen KA.out 1
     have hfz29_2 := blk_frozen KA.out 2
     go_wp2
     repeat (go_quiet (fail); try go_wp2)
     refine wp_loop_rounds 4 ?_
     rw [rounds_succ]
     go_wp2_with (first | (go_at_call 38; (with_reducible refine (imageeditorref01_Div.calls kj3 (wrap64 ((wrap64 ((wrap64 (a0_0 + (wrap64 (a1 - t373)))) - a1)) * a1)) (wrap64 (a1 - x7_3)) t374 _ A18.out).mono ?_); rintro e w' ⟨rfl, ⟨nd, rfl⟩⟩; (try first | exact ⟨rfl, _, World.drewN_drewN _ _ _⟩ | exact ⟨rfl, _, Eq.trans (World.drewN_drewN _ _ _) (congrArg (World.drewN _) (Nat.add_assoc _ _ _))⟩)))
     repeat (go_quiet (fail); try go_wp2)
     rw [rounds_succ]
     go_wp2_with (first | (go_at_call 38; (with_reducible refine (imageeditorref01_Div.calls kj3 (wrap64 ((wrap64 ((wrap64 (a0_1 + (wrap64 (a1 - t373)))) - a1)) * a1)) (wrap64 (a1 - x7_3)) t375 _ A19.out).mono ?_); rintro e w' ⟨rfl, ⟨nd, rfl⟩⟩; (try first | exact ⟨rfl, _, World.drewN_drewN _ _ _⟩ | exact ⟨rfl, _, Eq.trans (World.drewN_drewN _ _ _) (congrArg (World.drewN _) (Nat.add_assoc _ _ _))⟩)))
     repeat (go_quiet (fail); try go_wp2)
     rw [rounds_succ]
     go_wp2_with (first | (go_at_call 38; (with_reducible refine (imageeditorref01_Div.calls kj3 (wrap64 ((wrap64 ((wrap64 (a0_2 + (wrap64 (a1 - t373)))) - a1)) * a1)) (wrap64 (a1 - x7_3)) t376 _ A20.out).mono ?_); rintro e w' ⟨rfl, ⟨nd, rfl⟩⟩; (try first | exact ⟨rfl, _, World.drewN_drewN _ _ _⟩ | exact ⟨rfl, _, Eq.trans (World.drewN_drewN _ _ _) (congrArg (World.drewN _) (Nat.add_assoc _ _ _))⟩)))
     repeat (go_quiet (fail); try go_wp2)
     rw [rounds_succ]
     go_wp2
     repeat (go_quiet (fail); try go_wp2)
     refine wp_loop_rounds 4 ?_
     rw [rounds_succ]
     go_wp2_with (first | (go_at_call 38; (with_reducible refine (imageeditorref01_Div.calls kj3 (wrap64 ((wrap64 ((wrap64 (a1 + t374)) - a1)) * (wrap64 (65535 - a1)))) (wrap64 (x8_3 - a1)) t377 _ A22.out).mono ?_); rintro e w' ⟨rfl, ⟨nd, rfl⟩⟩; (try first | exact ⟨rfl, _, World.drewN_drewN _ _ _⟩ | exact ⟨rfl, _, Eq.trans (World.drewN_drewN _ _ _) (congrArg (World.drewN _) (Nat.add_assoc _ _ _))⟩)))
     repeat (go_quiet (fail); try go_wp2)
     rw [rounds_succ]
     go_wp2_with (first | (go_at_call 38; (with_reducible refine (imageeditorref01_Div.calls kj3 (wrap64 ((wrap64 ((wrap64 (a1 + t375)) - a1)) * (wrap64 (65535 - a1)))) (wrap64 (x8_3 - a1)) t378 _ A23.out).mono ?_); rintro e w' ⟨rfl, ⟨nd, rfl⟩⟩; (try first | exact ⟨rfl, _, World.drewN_drewN _ _ _⟩ | exact ⟨rfl, _, Eq.trans (World.drewN_drewN _ _ _) (congrArg (World.drewN _) (Nat.add_assoc _ _ _))⟩)))
     repeat (go_quiet (fail); try go_wp2)
     rw [rounds_succ]
     go_wp2_with (first | (go_at_call 38; (with_reducible refine (imageeditorref01_Div.calls kj3 (wrap64 ((wrap64 ((wrap64 (a1 + t376)) - a1)) * (wrap64 (65535 - a1)))) (wrap64 (x8_3 - a1)) t379 _ A24.out).mono ?_); rintro e w' ⟨rfl, ⟨nd, rfl⟩⟩; (try first | exact ⟨rfl, _, World.drewN_drewN _ _ _⟩ | exact ⟨rfl, _, Eq.trans (World.drewN_drewN _ _ _) (congrArg (World.drewN _) (Nat.add_assoc _ _ _))⟩)))
     repeat (go_quiet (fail); try go_wp2)
     rw [rounds_succ]
     go_wp2
     repeat (go_quiet (fail); try go_wp2)
     refine wp_loop_rounds 4 ?_
     rw [rounds_succ]
     go_wp2_with (first | (go_at_call 31; (with_reducible refine (imageeditorref01_Unit.calls (wrap64 (a1 + t377)) t380 _ A25.out).mono ?_); rintro e w30 ⟨rfl, hb⟩; have c0_ := co_ (g := gA) (o := .cells #[.int .i64 (wrap64 (a1 + t377)), .int .i64 (wrap64 (a1 + t378)), .int .i64 (wrap64 (a1 + t379))] 56 (0, 0)) hb (by refine pl ?_; refine blk_put (cs := #[.int .i64 (wrap64 (a1 + t377)), .int .i64 (wrap64 (a1 + t378)), .int .i64 (wrap64 (a1 + t376))]) ?_ 2 _ rfl; refine pl ?_; refine blk_put (cs := #[.int .i64 (wrap64 (a1 + t377)), .int .i64 (wrap64 (a1 + t375)), .int .i64 (wrap64 (a1 + t376))]) ?_ 1 _ rfl; refine pl ?_; refine blk_put (cs := #[.int .i64 (wrap64 (a1 + t374)), .int .i64 (wrap64 (a1 + t375)), .int .i64 (wrap64 (a1 + t376))]) ?_ 0 _ rfl; refine pl ?_; refine blk_put (cs := #[.int .i64 (wrap64 (a1 + t374)), .int .i64 (wrap64 (a1 + t375)), .int .i64 (wrap64 (a0_2 + (wrap64 (a1 - t373))))]) ?_ 2 _ rfl; refine pl ?_; refine blk_put (cs := #[.int .i64 (wrap64 (a1 + t374)), .int .i64 (wrap64 (a0_1 + (wrap64 (a1 - t373)))), .int .i64 (wrap64 (a0_2 + (wrap64 (a1 - t373))))]) ?_ 1 _ rfl; refine pl ?_; refine blk_put (cs := #[.int .i64 (wrap64 (a0_0 + (wrap64 (a1 - t373)))), .int .i64 (wrap64 (a0_1 + (wrap64 (a1 - t373)))), .int .i64 (wrap64 (a0_2 + (wrap64 (a1 - t373))))]) ?_ 0 _ rfl; refine pl ?_; exact KA.out); have c1_ := co_ (g := gB) (o := .cells #[.int .i64 0, .int .i64 0, .int .i64 0] 56 (0, 0)) hb (by refine pf ?_ NBA.out; refine pl ?_; exact KB.out); replace KA := bb_ c0_ hb; replace KB := bb_ c1_ hb; replace HB := Aside0.mk (below_step (pb2 HB.out GEA.out GEB.out) hb); clear c0_ c1_; (try clear hb); (try clear hb2); (try clear hk); (try clear hi); have hcz31_0 : w30.cell? ⟨gA, 0, none⟩ = some (.int .i64 (wrap64 (a1 + t377))) := (blk_cell KA.out 0).trans rfl; have hcz31_1 : w30.cell? ⟨gA, 1, none⟩ = some (.int .i64 (wrap64 (a1 + t378))) := (blk_cell KA.out 1).trans rfl; have hcz31_2 : w30.cell? ⟨gA, 2, none⟩ = some (.int .i64 (wrap64 (a1 + t379))) := (blk_cell KA.out 2).trans rfl; have hfz31_0 := blk_frozen KA.out 0; have hfz31_1 := blk_frozen KA.out 1; have hfz31_2 := blk_frozen KA.out 2))
     repeat (go_quiet (fail); try go_wp2)
     rw [rounds_succ]
     go_wp2_with (first | (go_at_call 31; (with_reducible refine (imageeditorref01_Unit.calls (wrap64 (a1 + t378)) t381 _ A26.out).mono ?_); rintro e w32 ⟨rfl, hb⟩; have c0_ := co_ (g := gA) (o := .cells #[.int .i64 t380, .int .i64 (wrap64 (a1 + t378)), .int .i64 (wrap64 (a1 + t379))] 56 (0, 0)) hb (by refine pl ?_; refine blk_put (cs := #[.int .i64 (wrap64 (a1 + t377)), .int .i64 (wrap64 (a1 + t378)), .int .i64 (wrap64 (a1 + t379))]) ?_ 0 _ rfl; refine pl ?_; exact KA.out); have c1_ := co_ (g := gB) (o := .cells #[.int .i64 0, .int .i64 0, .int .i64 0] 56 (0, 0)) hb (by refine pf ?_ NBA.out; refine pl ?_; exact KB.out); replace KA := bb_ c0_ hb; replace KB := bb_ c1_ hb; replace HB := Aside0.mk (below_step (pb2 HB.out GEA.out GEB.out) hb); clear c0_ c1_; (try clear hb); (try clear hb2); (try clear hk); (try clear hi); have hcz33_0 := ci_ KA 0 (.int .i64 t380); have hcz33_1 : w32.cell? ⟨gA, 1, none⟩ = some (.int .i64 (wrap64 (a1 + t378))) := (blk_cell KA.out 1).trans rfl; have hcz33_2 : w32.cell? ⟨gA, 2, none⟩ = some (.int .i64 (wrap64 (a1 + t379))) := (blk_cell KA.out 2).trans rfl; have hfz33_0 := blk_frozen KA.out 0; have hfz33_1 := blk_frozen KA.out 1; have hfz33_2 := blk_frozen KA.out 2))
     repeat (go_quiet (fail); try go_wp2)
     rw [rounds_succ]
     go_wp2_with (first | (go_at_call 31; (with_reducible refine (imageeditorref01_Unit.calls (wrap64 (a1 + t379)) t382 _ A27.out).mono ?_); rintro e w34 ⟨rfl, hb⟩; have c0_ := co_ (g := gA) (o := .cells #[.int .i64 t380, .int .i64 t381, .int .i64 (wrap64 (a1 + t379))] 56 (0, 0)) hb (by refine pl ?_; refine blk_put (cs := #[.int .i64 t380, .int .i64 (wrap64 (a1 + t378)), .int .i64 (wrap64 (a1 + t379))]) ?_ 1 _ rfl; refine pl ?_; exact KA.out); have c1_ := co_ (g := gB) (o := .cells #[.int .i64 0, .int .i64 0, .int .i64 0] 56 (0, 0)) hb (by refine pf ?_ NBA.out; refine pl ?_; exact KB.out); replace KA := bb_ c0_ hb; replace KB := bb_ c1_ hb; replace HB := Aside0.mk (below_step (pb2 HB.out GEA.out GEB.out) hb); clear c0_ c1_; (try clear hb); (try clear hb2); (try clear hk); (try clear hi); have hcz35_0 := ci_ KA 0 (.int .i64 t380); have hcz35_1 := ci_ KA 1 (.int .i64 t381); have hcz35_2 : w34.cell? ⟨gA, 2, none⟩ = some (.int .i64 (wrap64 (a1 + t379))) := (blk_cell KA.out 2).trans rfl; have hfz35_0 := blk_frozen KA.out 0; have hfz35_1 := blk_frozen KA.out 1; have hfz35_2 := blk_frozen KA.out 2; have hcz36_0 := ci_ KB 0 (.int .i64 0); have hcz36_1 := ci_ KB 1 (.int .i64 0); have hcz36_2 := ci_ KB 2 (.int .i64 0); have hfz36_0 := blk_frozen KB.out 0; have hfz36_1 := blk_frozen KB.out 1; have hfz36_2 := blk_frozen KB.out 2))
     repeat (go_quiet (fail); try go_wp2)
     rw [rounds_succ]
     go_wp2
     repeat (go_quiet (fail); try go_wp2)
     refine bodyPost_ret (results_cell_row rfl _ _ gB 56 #[.int .i64 t380, .int .i64 t381, .int .i64 t382] (0, 0) _ rfl (by refine pl ?_; refine blk_put (cs := #[.int .i64 t380, .int .i64 t381, .int .i64 0]) ?_ 2 _ rfl; refine pl ?_; refine blk_put (cs := #[.int .i64 t380, .int .i64 0, .int .i64 0]) ?_ 1 _ rfl; refine pl ?_; refine blk_put (cs := #[.int .i64 0, .int .i64 0, .int .i64 0]) ?_ 0 _ rfl; refine pl ?_; refine blk_far ?_ NBA.out _; refine pl ?_; exact KB.out) Try.underlying56 rfl (by kernel_rfl)) rfl ?_
     exact ⟨by first | rfl | (simp [errW_none, errW_some] <;> rfl) | (simp [*, errW_none, errW_some] <;> rfl), pb2 HB.out GEA.out GEB.out⟩
    ·rw [if_neg c21] at H
     have c21b0 : decide (65535 < x8_3) = false := decide_eq_false c21
     clear c21
     replace H := Option.bind_eq_some_iff.mp H
     obtain ⟨t383, A370, H⟩ := H
     replace H : ((imageeditorref01_Unit.f (wrap64 (a1 + t375))).bind fun t384 => ((imageeditorref01_Unit.f (wrap64 (a1 + t376))).bind fun t385 => (some (t383, t384, t385)))) = some (r1, r2, r3) := H
     have A37 := Aside0.mk A370
     clear A370
     replace H := Option.bind_eq_some_iff.mp H
     obtain ⟨t384, A380, H⟩ := H
     replace H : ((imageeditorref01_Unit.f (wrap64 (a1 + t376))).bind fun t385 => (some (t383, t384, t385))) = some (r1, r2, r3) := H
     have A38 := Aside0.mk A380
     clear A380
     replace H := Option.bind_eq_some_iff.mp H
     obtain ⟨t385, A390, H⟩ := H
     replace H : (some (t383, t384, t385)) = some (r1, r2, r3) := H
     have A39 := Aside0.mk A390
     clear A390
     simp only [Option.some.injEq, Prod.mk.injEq] at H
     obtain ⟨rfl, rfl, rfl⟩ := H
     have hnb40 := NAB.out
     have hnc40 := NBA.out
     have hcz41_0 : wc.cell? ⟨gA, 0, none⟩ = some (.int .i64 (wrap64 (a0_0 + (wrap64 (a1 - t373))))) := (blk_cell KA.out 0).trans rfl
     have hcz41_1 : wc.cell? ⟨gA, 1, none⟩ = some (.int .i64 (wrap64 (a0_1 + (wrap64 (a1 - t373))))) := (blk_cell KA.out 1).trans rfl
     have hcz41_2 : wc.cell? ⟨gA, 2, none⟩ = some (.int .i64 (wrap64 (a0_2 + (wrap64 (a1 - t373))))) := (blk_cell KA.out 2).trans rfl
     have hfz41_0 := blk_frozen KA.out 0
     have hfz41_1 := blk_frozen KA.out 1
     have hfz41_2 := blk_frozen KA.out 2
     go_wp2
     repeat (go_quiet (fail); try go_wp2)
     refine wp_loop_rounds 4 ?_
     rw [rounds_succ]
     go_wp2_with (first | (go_at_call 38; (with_reducible refine (imageeditorref01_Div.calls kj3 (wrap64 ((wrap64 ((wrap64 (a0_0 + (wrap64 (a1 - t373)))) - a1)) * a1)) (wrap64 (a1 - x7_3)) t374 _ A18.out).mono ?_); rintro e w' ⟨rfl, ⟨nd, rfl⟩⟩; (try first | exact ⟨rfl, _, World.drewN_drewN _ _ _⟩ | exact ⟨rfl, _, Eq.trans (World.drewN_drewN _ _ _) (congrArg (World.drewN _) (Nat.add_assoc _ _ _))⟩)))
     repeat (go_quiet (fail); try go_wp2)
     rw [rounds_succ]
     go_wp2_with (first | (go_at_call 38; (with_reducible refine (imageeditorref01_Div.calls kj3 (wrap64 ((wrap64 ((wrap64 (a0_1 + (wrap64 (a1 - t373)))) - a1)) * a1)) (wrap64 (a1 - x7_3)) t375 _ A19.out).mono ?_); rintro e w' ⟨rfl, ⟨nd, rfl⟩⟩; (try first | exact ⟨rfl, _, World.drewN_drewN _ _ _⟩ | exact ⟨rfl, _, Eq.trans (World.drewN_drewN _ _ _) (congrArg (World.drewN _) (Nat.add_assoc _ _ _))⟩)))
     repeat (go_quiet (fail); try go_wp2)
     rw [rounds_succ]
     go_wp2_with (first | (go_at_call 38; (with_reducible refine (imageeditorref01_Div.calls kj3 (wrap64 ((wrap64 ((wrap64 (a0_2 + (wrap64 (a1 - t373)))) - a1)) * a1)) (wrap64 (a1 - x7_3)) t376 _ A20.out).mono ?_); rintro e w' ⟨rfl, ⟨nd, rfl⟩⟩; (try first | exact ⟨rfl, _, World.drewN_drewN _ _ _⟩ | exact ⟨rfl, _, Eq.trans (World.drewN_drewN _ _ _) (congrArg (World.drewN _) (Nat.add_assoc _ _ _))⟩)))
     repeat (go_quiet (fail); try go_wp2)
     rw [rounds_succ]
     go_wp2
     repeat (go_quiet (fail); try go_wp2)
     refine wp_loop_rounds 4 ?_
     rw [rounds_succ]
     go_wp2_with (first | (go_at_call 31; (with_reducible refine (imageeditorref01_Unit.calls (wrap64 (a1 + t374)) t383 _ A37.out).mono ?_); rintro e w42 ⟨rfl, hb⟩; have c0_ := co_ (g := gA) (o := .cells #[.int .i64 (wrap64 (a1 + t374)), .int .i64 (wrap64 (a1 + t375)), .int .i64 (wrap64 (a1 + t376))] 56 (0, 0)) hb (by refine pl ?_; refine blk_put (cs := #[.int .i64 (wrap64 (a1 + t374)), .int .i64 (wrap64 (a1 + t375)), .int .i64 (wrap64 (a0_2 + (wrap64 (a1 - t373))))]) ?_ 2 _ rfl; refine pl ?_; refine blk_put (cs := #[.int .i64 (wrap64 (a1 + t374)), .int .i64 (wrap64 (a0_1 + (wrap64 (a1 - t373)))), .int .i64 (wrap64 (a0_2 + (wrap64 (a1 - t373))))]) ?_ 1 _ rfl; refine pl ?_; refine blk_put (cs := #[.int .i64 (wrap64 (a0_0 + (wrap64 (a1 - t373)))), .int .i64 (wrap64 (a0_1 + (wrap64 (a1 - t373)))), .int .i64 (wrap64 (a0_2 + (wrap64 (a1 - t373))))]) ?_ 0 _ rfl; refine pl ?_; exact KA.out); have c1_ := co_ (g := gB) (o := .cells #[.int .i64 0, .int .i64 0, .int .i64 0] 56 (0, 0)) hb (by refine pf ?_ NBA.out; refine pl ?_; exact KB.out); replace KA := bb_ c0_ hb; replace KB := bb_ c1_ hb; replace HB := Aside0.mk (below_step (pb2 HB.out GEA.out GEB.out) hb); clear c0_ c1_; (try clear hb); (try clear hb2); (try clear hk); (try clear hi); have hcz43_0 : w42.cell? ⟨gA, 0, none⟩ = some (.int .i64 (wrap64 (a1 + t374))) := (blk_cell KA.out 0).trans rfl; have hcz43_1 : w42.cell? ⟨gA, 1, none⟩ = some (.int .i64 (wrap64 (a1 + t375))) := (blk_cell KA.out 1).trans rfl; have hcz43_2 : w42.cell? ⟨gA, 2, none⟩ = some (.int .i64 (wrap64 (a1 + t376))) := (blk_cell KA.out 2).trans rfl; have hfz43_0 := blk_frozen KA.out 0; have hfz43_1 := blk_frozen KA.out 1; have hfz43_2 := blk_frozen KA.out 2))
     repeat (go_quiet (fail); try go_wp2)
     rw [rounds_succ]
     go_wp2_with (first | (go_at_call 31; (with_reducible refine (imageeditorref01_Unit.calls (wrap64 (a1 + t375)) t384 _ A38.out).mono ?_); rintro e w44 ⟨rfl, hb⟩; have c0_ := co_ (g := gA) (o := .cells #[.int .i64 t383, .int .i64 (wrap64 (a1 + t375)), .int .i64 (wrap64 (a1 + t376))] 56 (0, 0)) hb (by refine pl ?_; refine blk_put (cs := #[.int .i64 (wrap64 (a1 + t374)), .int .i64 (wrap64 (a1 + t375)), .int .i64 (wrap64 (a1 + t376))]) ?_ 0 _ rfl; refine pl ?_; exact KA.out); have c1_ := co_ (g := gB) (o := .cells #[.int .i64 0, .int .i64 0, .int .i64 0] 56 (0, 0)) hb (by refine pf ?_ NBA.out; refine pl ?_; exact KB.out); replace KA := bb_ c0_ hb; replace KB := bb_ c1_ hb; replace HB := Aside0.mk (below_step (pb2 HB.out GEA.out GEB.out) hb); clear c0_ c1_; (try clear hb); (try clear hb2); (try clear hk); (try clear hi); have hcz45_0 := ci_ KA 0 (.int .i64 t383); have hcz45_1 : w44.cell? ⟨gA, 1, none⟩ = some (.int .i64 (wrap64 (a1 + t375))) := (blk_cell KA.out 1).trans rfl; have hcz45_2 : w44.cell? ⟨gA, 2, none⟩ = some (.int .i64 (wrap64 (a1 + t376))) := (blk_cell KA.out 2).trans rfl; have hfz45_0 := blk_frozen KA.out 0; have hfz45_1 := blk_frozen KA.out 1; have hfz45_2 := blk_frozen KA.out 2))
     repeat (go_quiet (fail); try go_wp2)
     rw [rounds_succ]
     go_wp2_with (first | (go_at_call 31; (with_reducible refine (imageeditorref01_Unit.calls (wrap64 (a1 + t376)) t385 _ A39.out).mono ?_); rintro e w46 ⟨rfl, hb⟩; have c0_ := co_ (g := gA) (o := .cells #[.int .i64 t383, .int .i64 t384, .int .i64 (wrap64 (a1 + t376))] 56 (0, 0)) hb (by refine pl ?_; refine blk_put (cs := #[.int .i64 t383, .int .i64 (wrap64 (a1 + t375)), .int .i64 (wrap64 (a1 + t376))]) ?_ 1 _ rfl; refine pl ?_; exact KA.out); have c1_ := co_ (g := gB) (o := .cells #[.int .i64 0, .int .i64 0, .int .i64 0] 56 (0, 0)) hb (by refine pf ?_ NBA.out; refine pl ?_; exact KB.out); replace KA := bb_ c0_ hb; replace KB := bb_ c1_ hb; replace HB := Aside0.mk (below_step (pb2 HB.out GEA.out GEB.out) hb); clear c0_ c1_; (try clear hb); (try clear hb2); (try clear hk); (try clear hi); have hcz47_0 := ci_ KA 0 (.int .i64 t383); have hcz47_1 := ci_ KA 1 (.int .i64 t384); have hcz47_2 : w46.cell? ⟨gA, 2, none⟩ = some (.int .i64 (wrap64 (a1 + t376))) := (blk_cell KA.out 2).trans rfl; have hfz47_0 := blk_frozen KA.out 0; have hfz47_1 := blk_frozen KA.out 1; have hfz47_2 := blk_frozen KA.out 2; have hcz48_0 := ci_ KB 0 (.int .i64 0); have hcz48_1 := ci_ KB 1 (.int .i64 0); have hcz48_2 := ci_ KB 2 (.int .i64 0); have hfz48_0 := blk_frozen KB.out 0; have hfz48_1 := blk_frozen KB.out 1; have hfz48_2 := blk_frozen KB.out 2))
     repeat (go_quiet (fail); try go_wp2)
     rw [rounds_succ]
     go_wp2
     repeat (go_quiet (fail); try go_wp2)
     refine bodyPost_ret (results_cell_row rfl _ _ gB 56 #[.int .i64 t383, .int .i64 t384, .int .i64 t385] (0, 0) _ rfl (by refine pl ?_; refine blk_put (cs := #[.int .i64 t383, .int .i64 t384, .int .i64 0]) ?_ 2 _ rfl; refine pl ?_; refine blk_put (cs := #[.int .i64 t383, .int .i64 0, .int .i64 0]) ?_ 1 _ rfl; refine pl ?_; refine blk_put (cs := #[.int .i64 0, .int .i64 0, .int .i64 0]) ?_ 0 _ rfl; refine pl ?_; refine blk_far ?_ NBA.out _; refine pl ?_; exact KB.out) Try.underlying56 rfl (by kernel_rfl)) rfl ?_
     exact ⟨by first | rfl | (simp [errW_none, errW_some] <;> rfl) | (simp [*, errW_none, errW_some] <;> rfl), pb2 HB.out GEA.out GEB.out⟩
   ·rw [if_neg c17] at H
    have c17b0 : decide (x7_3 < 0) = false := decide_eq_false c17
    clear c17
    by_cases c49 : x8_3 > 65535
    ·rw [if_pos c49] at H
     have c49b0 : decide (65535 < x8_3) = true := decide_eq_true c49
     clear c49
     replace H := Option.bind_eq_some_iff.mp H
     obtain ⟨t386, A500, H⟩ := H
     replace H : ((imageeditorref01_Div.f kj3 (wrap64 ((wrap64 ((wrap64 (a0_1 + (wrap64 (a1 - t373)))) - a1)) * (wrap64 (65535 - a1)))) (wrap64 (x8_3 - a1))).bind fun t387 => ((imageeditorref01_Div.f kj3 (wrap64 ((wrap64 ((wrap64 (a0_2 + (wrap64 (a1 - t373)))) - a1)) * (wrap64 (65535 - a1)))) (wrap64 (x8_3 - a1))).bind fun t388 => ((imageeditorref01_Unit.f (wrap64 (a1 + t386))).bind fun t389 => ((imageeditorref01_Unit.f (wrap64 (a1 + t387))).bind fun t390 => ((imageeditorref01_Unit.f (wrap64 (a1 + t388))).bind fun t391 => (some (t389, t390, t391))))))) = some (r1, r2, r3) := H
     have A50 := Aside0.mk A500
     clear A500
     replace H := Option.bind_eq_some_iff.mp H
     obtain ⟨t387, A510, H⟩ := H
     replace H : ((imageeditorref01_Div.f kj3 (wrap64 ((wrap64 ((wrap64 (a0_2 + (wrap64 (a1 - t373)))) - a1)) * (wrap64 (65535 - a1)))) (wrap64 (x8_3 - a1))).bind fun t388 => ((imageeditorref01_Unit.f (wrap64 (a1 + t386))).bind fun t389 => ((imageeditorref01_Unit.f (wrap64 (a1 + t387))).bind fun t390 => ((imageeditorref01_Unit.f (wrap64 (a1 + t388))).bind fun t391 => (some (t389, t390, t391)))))) = some (r1, r2, r3) := H
     have A51 := Aside0.mk A510
     clear A510
     replace H := Option.bind_eq_some_iff.mp H
     obtain ⟨t388, A520, H⟩ := H
     replace H : ((imageeditorref01_Unit.f (wrap64 (a1 + t386))).bind fun t389 => ((imageeditorref01_Unit.f (wrap64 (a1 + t387))).bind fun t390 => ((imageeditorref01_Unit.f (wrap64 (a1 + t388))).bind fun t391 => (some (t389, t390, t391))))) = some (r1, r2, r3) := H
     have A52 := Aside0.mk A520
     clear A520
     replace H := Option.bind_eq_some_iff.mp H
     obtain ⟨t389, A530, H⟩ := H
     replace H : ((imageeditorref01_Unit.f (wrap64 (a1 + t387))).bind fun t390 => ((imageeditorref01_Unit.f (wrap64 (a1 + t388))).bind fun t391 => (some (t389, t390, t391)))) = some (r1, r2, r3) := H
     have A53 := Aside0.mk A530
     clear A530
     replace H := Option.bind_eq_some_iff.mp H
     obtain ⟨t390, A540, H⟩ := H
     replace H : ((imageeditorref01_Unit.f (wrap64 (a1 + t388))).bind fun t391 => (some (t389, t390, t391))) = some (r1, r2, r3) := H
     have A54 := Aside0.mk A540
     clear A540
     replace H := Option.bind_eq_some_iff.mp H
     obtain ⟨t391, A550, H⟩ := H
     replace H : (some (t389, t390, t391)) = some (r1, r2, r3) := H
     have A55 := Aside0.mk A550
     clear A550
     simp only [Option.some.injEq, Prod.mk.injEq] at H
     obtain ⟨rfl, rfl, rfl⟩ := H
     have hnb56 := NAB.out
     have hnc56 := NBA.out
     have hcz57_0 : wc.cell? ⟨gA, 0, none⟩ = some (.int .i64 (wrap64 (a0_0 + (wrap64 (a1 - t373))))) := (blk_cell KA.out 0).trans rfl
     have hcz57_1 : wc.cell? ⟨gA, 1, none⟩ = some (.int .i64 (wrap64 (a0_1 + (wrap64 (a1 - t373))))) := (blk_cell KA.out 1).trans rfl
     have hcz57_2 : wc.cell? ⟨gA, 2, none⟩ = some (.int .i64 (wrap64 (a0_2 + (wrap64 (a1 - t373))))) := (blk_cell KA.out 2).trans rfl
     have hfz57_0 := blk_frozen KA.out 0
     have hfz57_1 := blk_frozen KA.out 1
     have hfz57_2 := blk_frozen KA.out 2
     go_wp2
     repeat (go_quiet (fail); try go_wp2)
     refine wp_loop_rounds 4 ?_
     rw [rounds_succ]
     go_wp2_with (first | (go_at_call 38; (with_reducible refine (imageeditorref01_Div.calls kj3 (wrap64 ((wrap64 ((wrap64 (a0_0 + (wrap64 (a1 - t373)))) - a1)) * (wrap64 (65535 - a1)))) (wrap64 (x8_3 - a1)) t386 _ A50.out).mono ?_); rintro e w' ⟨rfl, ⟨nd, rfl⟩⟩; (try first | exact ⟨rfl, _, World.drewN_drewN _ _ _⟩ | exact ⟨rfl, _, Eq.trans (World.drewN_drewN _ _ _) (congrArg (World.drewN _) (Nat.add_assoc _ _ _))⟩)))
     repeat (go_quiet (fail); try go_wp2)
     rw [rounds_succ]
     go_wp2_with (first | (go_at_call 38; (with_reducible refine (imageeditorref01_Div.calls kj3 (wrap64 ((wrap64 ((wrap64 (a0_1 + (wrap64 (a1 - t373)))) - a1)) * (wrap64 (65535 - a1)))) (wrap64 (x8_3 - a1)) t387 _ A51.out).mono ?_); rintro e w' ⟨rfl, ⟨nd, rfl⟩⟩; (try first | exact ⟨rfl, _, World.drewN_drewN _ _ _⟩ | exact ⟨rfl, _, Eq.trans (World.drewN_drewN _ _ _) (congrArg (World.drewN _) (Nat.add_assoc _ _ _))⟩)))
     repeat (go_quiet (fail); try go_wp2)
     rw [rounds_succ]
     go_wp2_with (first | (go_at_call 38; (with_reducible refine (imageeditorref01_Div.calls kj3 (wrap64 ((wrap64 ((wrap64 (a0_2 + (wrap64 (a1 - t373)))) - a1)) * (wrap64 (65535 - a1)))) (wrap64 (x8_3 - a1)) t388 _ A52.out).mono ?_); rintro e w' ⟨rfl, ⟨nd, rfl⟩⟩; (try first | exact ⟨rfl, _, World.drewN_drewN _ _ _⟩ | exact ⟨rfl, _, Eq.trans (World.drewN_drewN _ _ _) (congrArg (World.drewN _) (Nat.add_assoc _ _ _))⟩)))
     repeat (go_quiet (fail); try go_wp2)
     rw [rounds_succ]
     go_wp2
     repeat (go_quiet (fail); try go_wp2)
     refine wp_loop_rounds 4 ?_
     rw [rounds_succ]
     go_wp2_with (first | (go_at_call 31; (with_reducible refine (imageeditorref01_Unit.calls (wrap64 (a1 + t386)) t389 _ A53.out).mono ?_); rintro e w58 ⟨rfl, hb⟩; have c0_ := co_ (g := gA) (o := .cells #[.int .i64 (wrap64 (a1 + t386)), .int .i64 (wrap64 (a1 + t387)), .int .i64 (wrap64 (a1 + t388))] 56 (0, 0)) hb (by refine pl ?_; refine blk_put (cs := #[.int .i64 (wrap64 (a1 + t386)), .int .i64 (wrap64 (a1 + t387)), .int .i64 (wrap64 (a0_2 + (wrap64 (a1 - t373))))]) ?_ 2 _ rfl; refine pl ?_; refine blk_put (cs := #[.int .i64 (wrap64 (a1 + t386)), .int .i64 (wrap64 (a0_1 + (wrap64 (a1 - t373)))), .int .i64 (wrap64 (a0_2 + (wrap64 (a1 - t373))))]) ?_ 1 _ rfl; refine pl ?_; refine blk_put (cs := #[.int .i64 (wrap64 (a0_0 + (wrap64 (a1 - t373)))), .int .i64 (wrap64 (a0_1 + (wrap64 (a1 - t373)))), .int .i64 (wrap64 (a0_2 + (wrap64 (a1 - t373))))]) ?_ 0 _ rfl; refine pl ?_; exact KA.out); have c1_ := co_ (g := gB) (o := .cells #[.int .i64 0, .int .i64 0, .int .i64 0] 56 (0, 0)) hb (by refine pf ?_ NBA.out; refine pl ?_; exact KB.out); replace KA := bb_ c0_ hb; replace KB := bb_ c1_ hb; replace HB := Aside0.mk (below_step (pb2 HB.out GEA.out GEB.out) hb); clear c0_ c1_; (try clear hb); (try clear hb2); (try clear hk); (try clear hi); have hcz59_0 : w58.cell? ⟨gA, 0, none⟩ = some (.int .i64 (wrap64 (a1 + t386))) := (blk_cell KA.out 0).trans rfl; have hcz59_1 : w58.cell? ⟨gA, 1, none⟩ = some (.int .i64 (wrap64 (a1 + t387))) := (blk_cell KA.out 1).trans rfl; have hcz59_2 : w58.cell? ⟨gA, 2, none⟩ = some (.int .i64 (wrap64 (a1 + t388))) := (blk_cell KA.out 2).trans rfl; have hfz59_0 := blk_frozen KA.out 0; have hfz59_1 := blk_frozen KA.out 1; have hfz59_2 := blk_frozen KA.out 2))
     repeat (go_quiet (fail); try go_wp2)
     rw [rounds_succ]
     go_wp2_with (first | (go_at_call 31; (with_reducible refine (imageeditorref01_Unit.calls (wrap64 (a1 + t387)) t390 _ A54.out).mono ?_); rintro e w60 ⟨rfl, hb⟩; have c0_ := co_ (g := gA) (o := .cells #[.int .i64 t389, .int .i64 (wrap64 (a1 + t387)), .int .i64 (wrap64 (a1 + t388))] 56 (0, 0)) hb (by refine pl ?_; refine blk_put (cs := #[.int .i64 (wrap64 (a1 + t386)), .int .i64 (wrap64 (a1 + t387)), .int .i64 (wrap64 (a1 + t388))]) ?_ 0 _ rfl; refine pl ?_; exact KA.out); have c1_ := co_ (g := gB) (o := .cells #[.int .i64 0, .int .i64 0, .int .i64 0] 56 (0, 0)) hb (by refine pf ?_ NBA.out; refine pl ?_; exact KB.out); replace KA := bb_ c0_ hb; replace KB := bb_ c1_ hb; replace HB := Aside0.mk (below_step (pb2 HB.out GEA.out GEB.out) hb); clear c0_ c1_; (try clear hb); (try clear hb2); (try clear hk); (try clear hi); have hcz61_0 := ci_ KA 0 (.int .i64 t389); have hcz61_1 : w60.cell? ⟨gA, 1, none⟩ = some (.int .i64 (wrap64 (a1 + t387))) := (blk_cell KA.out 1).trans rfl; have hcz61_2 : w60.cell? ⟨gA, 2, none⟩ = some (.int .i64 (wrap64 (a1 + t388))) := (blk_cell KA.out 2).trans rfl; have hfz61_0 := blk_frozen KA.out 0; have hfz61_1 := blk_frozen KA.out 1; have hfz61_2 := blk_frozen KA.out 2))
     repeat (go_quiet (fail); try go_wp2)
     rw [rounds_succ]
     go_wp2_with (first | (go_at_call 31; (with_reducible refine (imageeditorref01_Unit.calls (wrap64 (a1 + t388)) t391 _ A55.out).mono ?_); rintro e w62 ⟨rfl, hb⟩; have c0_ := co_ (g := gA) (o := .cells #[.int .i64 t389, .int .i64 t390, .int .i64 (wrap64 (a1 + t388))] 56 (0, 0)) hb (by refine pl ?_; refine blk_put (cs := #[.int .i64 t389, .int .i64 (wrap64 (a1 + t387)), .int .i64 (wrap64 (a1 + t388))]) ?_ 1 _ rfl; refine pl ?_; exact KA.out); have c1_ := co_ (g := gB) (o := .cells #[.int .i64 0, .int .i64 0, .int .i64 0] 56 (0, 0)) hb (by refine pf ?_ NBA.out; refine pl ?_; exact KB.out); replace KA := bb_ c0_ hb; replace KB := bb_ c1_ hb; replace HB := Aside0.mk (below_step (pb2 HB.out GEA.out GEB.out) hb); clear c0_ c1_; (try clear hb); (try clear hb2); (try clear hk); (try clear hi); have hcz63_0 := ci_ KA 0 (.int .i64 t389); have hcz63_1 := ci_ KA 1 (.int .i64 t390); have hcz63_2 : w62.cell? ⟨gA, 2, none⟩ = some (.int .i64 (wrap64 (a1 + t388))) := (blk_cell KA.out 2).trans rfl; have hfz63_0 := blk_frozen KA.out 0; have hfz63_1 := blk_frozen KA.out 1; have hfz63_2 := blk_frozen KA.out 2; have hcz64_0 := ci_ KB 0 (.int .i64 0); have hcz64_1 := ci_ KB 1 (.int .i64 0); have hcz64_2 := ci_ KB 2 (.int .i64 0); have hfz64_0 := blk_frozen KB.out 0; have hfz64_1 := blk_frozen KB.out 1; have hfz64_2 := blk_frozen KB.out 2))
     repeat (go_quiet (fail); try go_wp2)
     rw [rounds_succ]
     go_wp2
     repeat (go_quiet (fail); try go_wp2)
     refine bodyPost_ret (results_cell_row rfl _ _ gB 56 #[.int .i64 t389, .int .i64 t390, .int .i64 t391] (0, 0) _ rfl (by refine pl ?_; refine blk_put (cs := #[.int .i64 t389, .int .i64 t390, .int .i64 0]) ?_ 2 _ rfl; refine pl ?_; refine blk_put (cs := #[.int .i64 t389, .int .i64 0, .int .i64 0]) ?_ 1 _ rfl; refine pl ?_; refine blk_put (cs := #[.int .i64 0, .int .i64 0, .int .i64 0]) ?_ 0 _ rfl; refine pl ?_; refine blk_far ?_ NBA.out _; refine pl ?_; exact KB.out) Try.underlying56 rfl (by kernel_rfl)) rfl ?_
     exact ⟨by first | rfl | (simp [errW_none, errW_some] <;> rfl) | (simp [*, errW_none, errW_some] <;> rfl), pb2 HB.out GEA.out GEB.out⟩
    ·rw [if_neg c49] at H
     have c49b0 : decide (65535 < x8_3) = false := decide_eq_false c49
     clear c49
     replace H := Option.bind_eq_some_iff.mp H
     obtain ⟨t392, A650, H⟩ := H
     replace H : ((imageeditorref01_Unit.f (wrap64 (a0_1 + (wrap64 (a1 - t373))))).bind fun t393 => ((imageeditorref01_Unit.f (wrap64 (a0_2 + (wrap64 (a1 - t373))))).bind fun t394 => (some (t392, t393, t394)))) = some (r1, r2, r3) := H
     have A65 := Aside0.mk A650
     clear A650
     replace H := Option.bind_eq_some_iff.mp H
     obtain ⟨t393, A660, H⟩ := H
     replace H : ((imageeditorref01_Unit.f (wrap64 (a0_2 + (wrap64 (a1 - t373))))).bind fun t394 => (some (t392, t393, t394))) = some (r1, r2, r3) := H
     have A66 := Aside0.mk A660
     clear A660
     replace H := Option.bind_eq_some_iff.mp H
     obtain ⟨t394, A670, H⟩ := H
     replace H : (some (t392, t393, t394)) = some (r1, r2, r3) := H
     have A67 := Aside0.mk A670
     clear A670
     simp only [Option.some.injEq, Prod.mk.injEq] at H
     obtain ⟨rfl, rfl, rfl⟩ := H
     have hnb68 := NAB.out
     have hnc68 := NBA.out
     have hcz69_0 : wc.cell? ⟨gA, 0, none⟩ = some (.int .i64 (wrap64 (a0_0 + (wrap64 (a1 - t373))))) := (blk_cell KA.out 0).trans rfl
     have hcz69_1 : wc.cell? ⟨gA, 1, none⟩ = some (.int .i64 (wrap64 (a0_1 + (wrap64 (a1 - t373))))) := (blk_cell KA.out 1).trans rfl
     have hcz69_2 : wc.cell? ⟨gA, 2, none⟩ = some (.int .i64 (wrap64 (a0_2 + (wrap64 (a1 - t373))))) := (blk_cell KA.out 2).trans rfl
     have hfz69_0 := blk_frozen KA.out 0
     have hfz69_1 := blk_frozen KA.out 1
     have hfz69_2 := blk_frozen KA.out 2
     go_wp2
     repeat (go_quiet (fail); try go_wp2)
     refine wp_loop_rounds 4 ?_
     rw [rounds_succ]
     go_wp2_with (first | (go_at_call 31; (with_reducible refine (imageeditorref01_Unit.calls (wrap64 (a0_0 + (wrap64 (a1 - t373)))) t392 _ A65.out).mono ?_); rintro e w70 ⟨rfl, hb⟩; replace KA := bp_ KA hb; replace KB := bp_ KB hb; replace HB := Aside0.mk (below_step (pb2 HB.out GEA.out GEB.out) hb); (try clear hb); (try clear hb2); (try clear hk); (try clear hi); have hcz71_0 : w70.cell? ⟨gA, 0, none⟩ = some (.int .i64 (wrap64 (a0_0 + (wrap64 (a1 - t373))))) := (blk_cell KA.out 0).trans rfl; have hcz71_1 : w70.cell? ⟨gA, 1, none⟩ = some (.int .i64 (wrap64 (a0_1 + (wrap64 (a1 - t373))))) := (blk_cell KA.out 1).trans rfl; have hcz71_2 : w70.cell? ⟨gA, 2, none⟩ = some (.int .i64 (wrap64 (a0_2 + (wrap64 (a1 - t373))))) := (blk_cell KA.out 2).trans rfl; have hfz71_0 := blk_frozen KA.out 0; have hfz71_1 := blk_frozen KA.out 1; have hfz71_2 := blk_frozen KA.out 2))
     repeat (go_quiet (fail); try go_wp2)
     rw [rounds_succ]
     go_wp2_with (first | (go_at_call 31; (with_reducible refine (imageeditorref01_Unit.calls (wrap64 (a0_1 + (wrap64 (a1 - t373)))) t393 _ A66.out).mono ?_); rintro e w72 ⟨rfl, hb⟩; have c0_ := co_ (g := gA) (o := .cells #[.int .i64 t392, .int .i64 (wrap64 (a0_1 + (wrap64 (a1 - t373)))), .int .i64 (wrap64 (a0_2 + (wrap64 (a1 - t373))))] 56 (0, 0)) hb (by refine pl ?_; refine blk_put (cs := #[.int .i64 (wrap64 (a0_0 + (wrap64 (a1 - t373)))), .int .i64 (wrap64 (a0_1 + (wrap64 (a1 - t373)))), .int .i64 (wrap64 (a0_2 + (wrap64 (a1 - t373))))]) ?_ 0 _ rfl; refine pl ?_; exact KA.out); have c1_ := co_ (g := gB) (o := .cells #[.int .i64 0, .int .i64 0, .int .i64 0] 56 (0, 0)) hb (by refine pf ?_ NBA.out; refine pl ?_; exact KB.out); replace KA := bb_ c0_ hb; replace KB := bb_ c1_ hb; replace HB := Aside0.mk (below_step (pb2 HB.out GEA.out GEB.out) hb); clear c0_ c1_; (try clear hb); (try clear hb2); (try clear hk); (try clear hi); have hcz73_0 := ci_ KA 0 (.int .i64 t392); have hcz73_1 : w72.cell? ⟨gA, 1, none⟩ = some (.int .i64 (wrap64 (a0_1 + (wrap64 (a1 - t373))))) := (blk_cell KA.out 1).trans rfl; have hcz73_2 : w72.cell? ⟨gA, 2, none⟩ = some (.int .i64 (wrap64 (a0_2 + (wrap64 (a1 - t373))))) := (blk_cell KA.out 2).trans rfl; have hfz73_0 := blk_frozen KA.out 0; have hfz73_1 := blk_frozen KA.out 1; have hfz73_2 := blk_frozen KA.out 2))
     repeat (go_quiet (fail); try go_wp2)
     rw [rounds_succ]
     go_wp2_with (first | (go_at_call 31; (with_reducible refine (imageeditorref01_Unit.calls (wrap64 (a0_2 + (wrap64 (a1 - t373)))) t394 _ A67.out).mono ?_); rintro e w74 ⟨rfl, hb⟩; have c0_ := co_ (g := gA) (o := .cells #[.int .i64 t392, .int .i64 t393, .int .i64 (wrap64 (a0_2 + (wrap64 (a1 - t373))))] 56 (0, 0)) hb (by refine pl ?_; refine blk_put (cs := #[.int .i64 t392, .int .i64 (wrap64 (a0_1 + (wrap64 (a1 - t373)))), .int .i64 (wrap64 (a0_2 + (wrap64 (a1 - t373))))]) ?_ 1 _ rfl; refine pl ?_; exact KA.out); have c1_ := co_ (g := gB) (o := .cells #[.int .i64 0, .int .i64 0, .int .i64 0] 56 (0, 0)) hb (by refine pf ?_ NBA.out; refine pl ?_; exact KB.out); replace KA := bb_ c0_ hb; replace KB := bb_ c1_ hb; replace HB := Aside0.mk (below_step (pb2 HB.out GEA.out GEB.out) hb); clear c0_ c1_; (try clear hb); (try clear hb2); (try clear hk); (try clear hi); have hcz75_0 := ci_ KA 0 (.int .i64 t392); have hcz75_1 := ci_ KA 1 (.int .i64 t393); have hcz75_2 : w74.cell? ⟨gA, 2, none⟩ = some (.int .i64 (wrap64 (a0_2 + (wrap64 (a1 - t373))))) := (blk_cell KA.out 2).trans rfl; have hfz75_0 := blk_frozen KA.out 0; have hfz75_1 := blk_frozen KA.out 1; have hfz75_2 := blk_frozen KA.out 2; have hcz76_0 := ci_ KB 0 (.int .i64 0); have hcz76_1 := ci_ KB 1 (.int .i64 0); have hcz76_2 := ci_ KB 2 (.int .i64 0); have hfz76_0 := blk_frozen KB.out 0; have hfz76_1 := blk_frozen KB.out 1; have hfz76_2 := blk_frozen KB.out 2))
     repeat (go_quiet (fail); try go_wp2)
     rw [rounds_succ]
     go_wp2
     repeat (go_quiet (fail); try go_wp2)
     refine bodyPost_ret (results_cell_row rfl _ _ gB 56 #[.int .i64 t392, .int .i64 t393, .int .i64 t394] (0, 0) _ rfl (by refine pl ?_; refine blk_put (cs := #[.int .i64 t392, .int .i64 t393, .int .i64 0]) ?_ 2 _ rfl; refine pl ?_; refine blk_put (cs := #[.int .i64 t392, .int .i64 0, .int .i64 0]) ?_ 1 _ rfl; refine pl ?_; refine blk_put (cs := #[.int .i64 0, .int .i64 0, .int .i64 0]) ?_ 0 _ rfl; refine pl ?_; refine blk_far ?_ NBA.out _; refine pl ?_; exact KB.out) Try.underlying56 rfl (by kernel_rfl)) rfl ?_
     exact ⟨by first | rfl | (simp [errW_none, errW_some] <;> rfl) | (simp [*, errW_none, errW_some] <;> rfl), pb2 HB.out GEA.out GEB.out⟩

/-! ### imageeditorref10_SetSat: function 55 -/
def imageeditorref10_SetSat.f (k : Nat) (a0_0 : Int) (a0_1 : Int) (a0_2 : Int) (a1 : Int) : Option (Int × Int × Int) := if (mx (mx a0_0 a0_1) a0_2) = (mn (mn a0_0 a0_1) a0_2) then (some (0, 0, 0)) else ((imageeditorref01_Div.f k (wrap64 ((wrap64 (a0_0 - (mn (mn a0_0 a0_1) a0_2))) * a1)) (wrap64 ((mx (mx a0_0 a0_1) a0_2) - (mn (mn a0_0 a0_1) a0_2)))).bind fun t397 => ((imageeditorref01_Div.f k (wrap64 ((wrap64 (a0_1 - (mn (mn a0_0 a0_1) a0_2))) * a1)) (wrap64 ((mx (mx a0_0 a0_1) a0_2) - (mn (mn a0_0 a0_1) a0_2)))).bind fun t398 => ((imageeditorref01_Div.f k (wrap64 ((wrap64 (a0_2 - (mn (mn a0_0 a0_1) a0_2))) * a1)) (wrap64 ((mx (mx a0_0 a0_1) a0_2) - (mn (mn a0_0 a0_1) a0_2)))).bind fun t399 => (some (t397, t398, t399)))))
theorem imageeditorref10_SetSat.mono : ∀ a0 a1 a2 a3 k, LeO (imageeditorref10_SetSat.f k a0 a1 a2 a3) (imageeditorref10_SetSat.f (k + 1) a0 a1 a2 a3) := by
  intro a0 a1 a2 a3 k
  unfold imageeditorref10_SetSat.f
  repeat' first
      | (with_reducible exact imageeditorref01_Div.mono _ _ _)
      | (with_reducible exact LeO.refl _)
      | (with_reducible exact LeO.none _)
      | (with_reducible refine LeO.ite ?_ ?_)
      | (with_reducible refine LeO.bind ?_ (fun _ => ?_))
      | exact imageeditorref01_Div.mono _ _ _
      | exact LeO.none _
      | refine LeO.ite ?_ ?_
      | refine LeO.bind ?_ (fun _ => ?_)
set_option maxHeartbeats 8000000 in
set_option maxRecDepth 100000 in
theorem imageeditorref10_SetSat.calls (k : Nat) (a0_0 : Int) (a0_1 : Int) (a0_2 : Int) (a1 : Int) (r1 : Int) (r2 : Int) (r3 : Int) (w : World) (h : imageeditorref10_SetSat.f k a0_0 a0_1 a0_2 a1 = some (r1, r2, r3)) :
    Calls Try.prog 55 #[.agg #[.int .i64 a0_0, .int .i64 a0_1, .int .i64 a0_2], .int .i64 a1] w fun e w' => e = .returned (.agg #[.int .i64 r1, .int .i64 r2, .int .i64 r3]) ∧ Below w.heap.size w w' := by
 have hu56 := Try.underlying56
 have HB := Aside0.mk (Below.refl w.heap.size w)
 have H : (if (mx (mx a0_0 a0_1) a0_2) = (mn (mn a0_0 a0_1) a0_2) then (some (0, 0, 0)) else ((imageeditorref01_Div.f k (wrap64 ((wrap64 (a0_0 - (mn (mn a0_0 a0_1) a0_2))) * a1)) (wrap64 ((mx (mx a0_0 a0_1) a0_2) - (mn (mn a0_0 a0_1) a0_2)))).bind fun t397 => ((imageeditorref01_Div.f k (wrap64 ((wrap64 (a0_1 - (mn (mn a0_0 a0_1) a0_2))) * a1)) (wrap64 ((mx (mx a0_0 a0_1) a0_2) - (mn (mn a0_0 a0_1) a0_2)))).bind fun t398 => ((imageeditorref01_Div.f k (wrap64 ((wrap64 (a0_2 - (mn (mn a0_0 a0_1) a0_2))) * a1)) (wrap64 ((mx (mx a0_0 a0_1) a0_2) - (mn (mn a0_0 a0_1) a0_2)))).bind fun t399 => (some (t397, t398, t399)))))) = some (r1, r2, r3) := h
 clear h
 obtain ⟨ji3, hji3⟩ : ∃ j_ : Int, (mn a0_0 a0_1) = j_ := ⟨_, rfl⟩
 replace H : (if (mx (mx a0_0 a0_1) a0_2) = (mn (ji3) a0_2) then (some (0, 0, 0)) else ((imageeditorref01_Div.f k (wrap64 ((wrap64 (a0_0 - (mn (ji3) a0_2))) * a1)) (wrap64 ((mx (mx a0_0 a0_1) a0_2) - (mn (ji3) a0_2)))).bind fun t397 => ((imageeditorref01_Div.f k (wrap64 ((wrap64 (a0_1 - (mn (ji3) a0_2))) * a1)) (wrap64 ((mx (mx a0_0 a0_1) a0_2) - (mn (ji3) a0_2)))).bind fun t398 => ((imageeditorref01_Div.f k (wrap64 ((wrap64 (a0_2 - (mn (ji3) a0_2))) * a1)) (wrap64 ((mx (mx a0_0 a0_1) a0_2) - (mn (ji3) a0_2)))).bind fun t399 => (some (t397, t398, t399)))))) = some (r1, r2, r3) := by first | (rw [hji3] at H; exact H) | (simp only [hji3] at H ⊢; exact H)
 have hji3_ : (if a0_1 < a0_0 then a0_1 else a0_0) = ji3 := hji3
 obtain ⟨ji4, hji4⟩ : ∃ j_ : Int, (mn (ji3) a0_2) = j_ := ⟨_, rfl⟩
 replace H : (if (mx (mx a0_0 a0_1) a0_2) = (ji4) then (some (0, 0, 0)) else ((imageeditorref01_Div.f k (wrap64 ((wrap64 (a0_0 - (ji4))) * a1)) (wrap64 ((mx (mx a0_0 a0_1) a0_2) - (ji4)))).bind fun t397 => ((imageeditorref01_Div.f k (wrap64 ((wrap64 (a0_1 - (ji4))) * a1)) (wrap64 ((mx (mx a0_0 a0_1) a0_2) - (ji4)))).bind fun t398 => ((imageeditorref01_Div.f k (wrap64 ((wrap64 (a0_2 - (ji4))) * a1)) (wrap64 ((mx (mx a0_0 a0_1) a0_2) - (ji4)))).bind fun t399 => (some (t397, t398, t399)))))) = some (r1, r2, r3) := by first | (rw [hji4] at H; exact H) | (simp only [hji4] at H ⊢; exact H)
 have hji4_ : (if a0_2 < (ji3) then a0_2 else (ji3)) = ji4 := hji4
 obtain ⟨ji5, hji5⟩ : ∃ j_ : Int, (mx a0_0 a0_1) = j_ := ⟨_, rfl⟩
 replace H : (if (mx (ji5) a0_2) = (ji4) then (some (0, 0, 0)) else ((imageeditorref01_Div.f k (wrap64 ((wrap64 (a0_0 - (ji4))) * a1)) (wrap64 ((mx (ji5) a0_2) - (ji4)))).bind fun t397 => ((imageeditorref01_Div.f k (wrap64 ((wrap64 (a0_1 - (ji4))) * a1)) (wrap64 ((mx (ji5) a0_2) - (ji4)))).bind fun t398 => ((imageeditorref01_Div.f k (wrap64 ((wrap64 (a0_2 - (ji4))) * a1)) (wrap64 ((mx (ji5) a0_2) - (ji4)))).bind fun t399 => (some (t397, t398, t399)))))) = some (r1, r2, r3) := by first | (rw [hji5] at H; exact H) | (simp only [hji5] at H ⊢; exact H)
 have hji5_ : (if a0_0 < a0_1 then a0_1 else a0_0) = ji5 := hji5
 obtain ⟨ji6, hji6⟩ : ∃ j_ : Int, (mx (ji5) a0_2) = j_ := ⟨_, rfl⟩
 replace H : (if (ji6) = (ji4) then (some (0, 0, 0)) else ((imageeditorref01_Div.f k (wrap64 ((wrap64 (a0_0 - (ji4))) * a1)) (wrap64 ((ji6) - (ji4)))).bind fun t397 => ((imageeditorref01_Div.f k (wrap64 ((wrap64 (a0_1 - (ji4))) * a1)) (wrap64 ((ji6) - (ji4)))).bind fun t398 => ((imageeditorref01_Div.f k (wrap64 ((wrap64 (a0_2 - (ji4))) * a1)) (wrap64 ((ji6) - (ji4)))).bind fun t399 => (some (t397, t398, t399)))))) = some (r1, r2, r3) := by first | (rw [hji6] at H; exact H) | (simp only [hji6] at H ⊢; exact H)
 have hji6_ : (if (ji5) < a0_2 then a0_2 else (ji5)) = ji6 := hji6
 by_cases c7 : (ji6) = (ji4)
 ·rw [if_pos c7] at H
  have c7b0 : ((ji6) == (ji4)) = true := beq_iff_eq.mpr c7
  have c7b1 : ((ji6) != (ji4)) = false := bne_eq_false_iff_eq.mpr c7
  clear c7
  simp only [Option.some.injEq, Prod.mk.injEq] at H
  obtain ⟨rfl, rfl, rfl⟩ := H
  go_enter Try.func55, Try.ntmps55
  go_wp2_with (first | ((with_reducible refine gate_dst (N := 2) rfl ?_); refine box_event ?hg (N := 2) ?hd (cs := #[.int .i64 a0_0, .int .i64 a0_1, .int .i64 a0_2]) (t := 56) ?hr ?_; (case hd => rfl); (case hg => rfl); (case hr => first | (go_simp; done) | (go_simp; rfl)); intro gA hg w8 hbox hb; have KA := Aside0.mk hbox; have GWA := ge_ hg (pb HB.out); have GEA := ge_ hg (pb HB.out); replace HB := Aside0.mk (below_step (pb HB.out) hb); clear hb hbox hg) | ((with_reducible refine gate_dst (N := 4) rfl ?_); refine box_event ?hg (N := 4) ?hd (cs := #[.int .i64 0, .int .i64 0, .int .i64 0]) (t := 56) ?hr ?_; (case hd => rfl); (case hg => rfl); (case hr => first | (go_simp; done) | (go_simp; rfl)); intro gB hg w9 hbox hb; have c0_ := cp_ hb KA; have KB := Aside0.mk hbox; have GWB := ge_ hg (pb1 HB.out GEA.out); have GEB := ge_ hg (pb1 HB.out GEA.out); have NAB := nl_ hg c0_; have NBA := ng_ hg c0_; replace KA := bb_ c0_ hb; replace HB := Aside0.mk (below_step (pb1 HB.out GEA.out) hb); clear c0_; clear hb hbox hg; have hnb10 := NAB.out; have hnc10 := NBA.out; have hcz11_0 := ci_ KA 0 (.int .i64 a0_0); have hcz11_1 := ci_ KA 1 (.int .i64 a0_1); have hcz11_2 := ci_ KA 2 (.int .i64 a0_2); have hfz11_0 := blk_frozen KA.out 0; have hfz11_1 := blk_frozen KA.out 1; have hfz11_2 := blk_frozen KA.out 2; have hcz12_0 := ci_ KB 0 (.int .i64 0); have hcz12_1 := ci_ KB 1 (.int .i64 0); have hcz12_2 := ci_ KB 2 (.int .i64 0); have hfz12_0 := blk_frozen KB.out 0; have hfz12_1 := blk_frozen KB.out 1; have hfz12_2 := blk_frozen KB.out 2))
  repeat (go_quiet (fail); try go_wp2)
  refine wp_loop_rounds 4 ?_
  rw [rounds_succ]
  go_wp2
  repeat (go_quiet (fail); try go_wp2)
  rw [rounds_succ]
  go_wp2
  repeat (go_quiet (fail); try go_wp2)
  rw [rounds_succ]
  go_wp2
  repeat (go_quiet (fail); try go_wp2)
  rw [rounds_succ]
  go_wp2
  repeat (go_quiet (fail); try go_wp2)
  refine bodyPost_ret (results_cell_row rfl _ _ gB 56 #[.int .i64 0, .int .i64 0, .int .i64 0] (0, 0) _ rfl (by refine pl ?_; refine blk_put (cs := #[.int .i64 0, .int .i64 0, .int .i64 0]) ?_ 2 _ rfl; refine pl ?_; refine blk_put (cs := #[.int .i64 0, .int .i64 0, .int .i64 0]) ?_ 1 _ rfl; refine pl ?_; refine blk_put (cs := #[.int .i64 0, .int .i64 0, .int .i64 0]) ?_ 0 _ rfl; refine pl ?_; refine blk_far ?_ NBA.out _; refine pl ?_; refine blk_far ?_ NBA.out _; refine pl ?_; refine blk_far ?_ NBA.out _; refine pl ?_; exact KB.out) Try.underlying56 rfl (by kernel_rfl)) rfl ?_
  exact ⟨by first | rfl | (simp [errW_none, errW_some] <;> rfl) | (simp only [← hji3, ← hji4, ← hji5, ← hji6]; first | rfl | (simp [errW_none, errW_some] <;> rfl)) | (simp [*, errW_none, errW_some] <;> rfl), pb2 HB.out GEA.out GEB.out⟩
 ·rw [if_neg c7] at H
  have c7b0 : ((ji6) == (ji4)) = false := beq_eq_false_iff_ne.mpr c7
  have c7b1 : ((ji6) != (ji4)) = true := bne_iff_ne.mpr c7
  replace H := Option.bind_eq_some_iff.mp H
  obtain ⟨t397, A130, H⟩ := H
  replace H : ((imageeditorref01_Div.f k (wrap64 ((wrap64 (a0_1 - (ji4))) * a1)) (wrap64 ((ji6) - (ji4)))).bind fun t398 => ((imageeditorref01_Div.f k (wrap64 ((wrap64 (a0_2 - (ji4))) * a1)) (wrap64 ((ji6) - (ji4)))).bind fun t399 => (some (t397, t398, t399)))) = some (r1, r2, r3) := H
  have A13 := Aside0.mk A130
  clear A130
  replace H := Option.bind_eq_some_iff.mp H
  obtain ⟨t398, A140, H⟩ := H
  replace H : ((imageeditorref01_Div.f k (wrap64 ((wrap64 (a0_2 - (ji4))) * a1)) (wrap64 ((ji6) - (ji4)))).bind fun t399 => (some (t397, t398, t399))) = some (r1, r2, r3) := H
  have A14 := Aside0.mk A140
  clear A140
  replace H := Option.bind_eq_some_iff.mp H
  obtain ⟨t399, A150, H⟩ := H
  replace H : (some (t397, t398, t399)) = some (r1, r2, r3) := H
  have A15 := Aside0.mk A150
  clear A150
  simp only [Option.some.injEq, Prod.mk.injEq] at H
  obtain ⟨rfl, rfl, rfl⟩ := H
  go_enter Try.func55, Try.ntmps55
  go_wp2_with (first | ((with_reducible refine gate_dst (N := 2) rfl ?_); refine box_event ?hg (N := 2) ?hd (cs := #[.int .i64 a0_0, .int .i64 a0_1, .int .i64 a0_2]) (t := 56) ?hr ?_; (case hd => rfl); (case hg => rfl); (case hr => first | (go_simp; done) | (go_simp; rfl)); intro gA hg w16 hbox hb; have KA := Aside0.mk hbox; have GWA := ge_ hg (pb HB.out); have GEA := ge_ hg (pb HB.out); replace HB := Aside0.mk (below_step (pb HB.out) hb); clear hb hbox hg) | ((with_reducible refine gate_dst (N := 4) rfl ?_); refine box_event ?hg (N := 4) ?hd (cs := #[.int .i64 0, .int .i64 0, .int .i64 0]) (t := 56) ?hr ?_; (case hd => rfl); (case hg => rfl); (case hr => first | (go_simp; done) | (go_simp; rfl)); intro gB hg w17 hbox hb; have c0_ := cp_ hb KA; have KB := Aside0.mk hbox; have GWB := ge_ hg (pb1 HB.out GEA.out); have GEB := ge_ hg (pb1 HB.out GEA.out); have NAB := nl_ hg c0_; have NBA := ng_ hg c0_; replace KA := bb_ c0_ hb; replace HB := Aside0.mk (below_step (pb1 HB.out GEA.out) hb); clear c0_; clear hb hbox hg; have hnb18 := NAB.out; have hnc18 := NBA.out; have hcz19_0 := ci_ KA 0 (.int .i64 a0_0); have hcz19_1 := ci_ KA 1 (.int .i64 a0_1); have hcz19_2 := ci_ KA 2 (.int .i64 a0_2); have hfz19_0 := blk_frozen KA.out 0; have hfz19_1 := blk_frozen KA.out 1; have hfz19_2 := blk_frozen KA.out 2))
  repeat (go_quiet (fail); try go_wp2)
  refine wp_loop_rounds 4 ?_
  rw [rounds_succ]
  go_wp2_with (first | (go_at_call 38; (with_reducible refine (imageeditorref01_Div.calls k (wrap64 ((wrap64 (a0_0 - (ji4))) * a1)) (wrap64 ((ji6) - (ji4))) t397 _ A13.out).mono ?_); rintro e w' ⟨rfl, ⟨nd, rfl⟩⟩; (try first | exact ⟨rfl, _, World.drewN_drewN _ _ _⟩ | exact ⟨rfl, _, Eq.trans (World.drewN_drewN _ _ _) (congrArg (World.drewN _) (Nat.add_assoc _ _ _))⟩)))
  repeat (go_quiet (fail); try go_wp2)
  rw [rounds_succ]
  go_wp2_with (first | (go_at_call 38; (with_reducible refine (imageeditorref01_Div.calls k (wrap64 ((wrap64 (a0_1 - (ji4))) * a1)) (wrap64 ((ji6) - (ji4))) t398 _ A14.out).mono ?_); rintro e w' ⟨rfl, ⟨nd, rfl⟩⟩; (try first | exact ⟨rfl, _, World.drewN_drewN _ _ _⟩ | exact ⟨rfl, _, Eq.trans (World.drewN_drewN _ _ _) (congrArg (World.drewN _) (Nat.add_assoc _ _ _))⟩)))
  repeat (go_quiet (fail); try go_wp2)
  rw [rounds_succ]
  go_wp2_with (first | (go_at_call 38; (with_reducible refine (imageeditorref01_Div.calls k (wrap64 ((wrap64 (a0_2 - (ji4))) * a1)) (wrap64 ((ji6) - (ji4))) t399 _ A15.out).mono ?_); rintro e w' ⟨rfl, ⟨nd, rfl⟩⟩; (try first | exact ⟨rfl, _, World.drewN_drewN _ _ _⟩ | exact ⟨rfl, _, Eq.trans (World.drewN_drewN _ _ _) (congrArg (World.drewN _) (Nat.add_assoc _ _ _))⟩); have hcz20_0 := ci_ KB 0 (.int .i64 0); have hcz20_1 := ci_ KB 1 (.int .i64 0); have hcz20_2 := ci_ KB 2 (.int .i64 0); have hfz20_0 := blk_frozen KB.out 0; have hfz20_1 := blk_frozen KB.out 1; have hfz20_2 := blk_frozen KB.out 2))
  repeat (go_quiet (fail); try go_wp2)
  rw [rounds_succ]
  go_wp2
  repeat (go_quiet (fail); try go_wp2)
  refine bodyPost_ret (results_cell_row rfl _ _ gB 56 #[.int .i64 t397, .int .i64 t398, .int .i64 t399] (0, 0) _ rfl (by refine pl ?_; refine blk_put (cs := #[.int .i64 t397, .int .i64 t398, .int .i64 0]) ?_ 2 _ rfl; refine pl ?_; refine blk_put (cs := #[.int .i64 t397, .int .i64 0, .int .i64 0]) ?_ 1 _ rfl; refine pl ?_; refine blk_put (cs := #[.int .i64 0, .int .i64 0, .int .i64 0]) ?_ 0 _ rfl; refine pl ?_; refine blk_far ?_ NBA.out _; refine pl ?_; refine blk_far ?_ NBA.out _; refine pl ?_; refine blk_far ?_ NBA.out _; refine pl ?_; exact KB.out) Try.underlying56 rfl (by kernel_rfl)) rfl ?_
  exact ⟨by first | rfl | (simp [errW_none, errW_some] <;> rfl) | (simp only [← hji3, ← hji4, ← hji5, ← hji6]; first | rfl | (simp [errW_none, errW_some] <;> rfl)) | (simp [*, errW_none, errW_some] <;> rfl), pb2 HB.out GEA.out GEB.out⟩

/-! ### imageeditorref10_Sat: function 56 -/
def imageeditorref10_Sat.f (a0_0 : Int) (a0_1 : Int) (a0_2 : Int) : Option (Int) := some (wrap64 ((mx (mx a0_0 a0_1) a0_2) - (mn (mn a0_0 a0_1) a0_2)))
set_option maxHeartbeats 8000000 in
set_option maxRecDepth 100000 in
theorem imageeditorref10_Sat.calls (a0_0 : Int) (a0_1 : Int) (a0_2 : Int) (r : Int) (w : World) (h : imageeditorref10_Sat.f a0_0 a0_1 a0_2 = some r) :
    Calls Try.prog 56 #[.agg #[.int .i64 a0_0, .int .i64 a0_1, .int .i64 a0_2]] w fun e w' => e = .returned (.int .i64 r) ∧ Below w.heap.size w w' := by
 have hu56 := Try.underlying56
 have HB := Aside0.mk (Below.refl w.heap.size w)
 have H : (some (wrap64 ((mx (mx a0_0 a0_1) a0_2) - (mn (mn a0_0 a0_1) a0_2)))) = some r := h
 clear h
 obtain ⟨ji2, hji2⟩ : ∃ j_ : Int, (mx a0_0 a0_1) = j_ := ⟨_, rfl⟩
 replace H : (some (wrap64 ((mx (ji2) a0_2) - (mn (mn a0_0 a0_1) a0_2)))) = some r := by first | (rw [hji2] at H; exact H) | (simp only [hji2] at H ⊢; exact H)
 have hji2_ : (if a0_0 < a0_1 then a0_1 else a0_0) = ji2 := hji2
 obtain ⟨ji3, hji3⟩ : ∃ j_ : Int, (mx (ji2) a0_2) = j_ := ⟨_, rfl⟩
 replace H : (some (wrap64 ((ji3) - (mn (mn a0_0 a0_1) a0_2)))) = some r := by first | (rw [hji3] at H; exact H) | (simp only [hji3] at H ⊢; exact H)
 have hji3_ : (if (ji2) < a0_2 then a0_2 else (ji2)) = ji3 := hji3
 obtain ⟨ji4, hji4⟩ : ∃ j_ : Int, (mn a0_0 a0_1) = j_ := ⟨_, rfl⟩
 replace H : (some (wrap64 ((ji3) - (mn (ji4) a0_2)))) = some r := by first | (rw [hji4] at H; exact H) | (simp only [hji4] at H ⊢; exact H)
 have hji4_ : (if a0_1 < a0_0 then a0_1 else a0_0) = ji4 := hji4
 obtain ⟨ji5, hji5⟩ : ∃ j_ : Int, (mn (ji4) a0_2) = j_ := ⟨_, rfl⟩
 replace H : (some (wrap64 ((ji3) - (ji5)))) = some r := by first | (rw [hji5] at H; exact H) | (simp only [hji5] at H ⊢; exact H)
 have hji5_ : (if a0_2 < (ji4) then a0_2 else (ji4)) = ji5 := hji5
 obtain rfl := Option.some.inj H
 go_enter Try.func56, Try.ntmps56
 go_wp2_with (first | ((with_reducible refine gate_dst (N := 1) rfl ?_); refine box_event ?hg (N := 1) ?hd (cs := #[.int .i64 a0_0, .int .i64 a0_1, .int .i64 a0_2]) (t := 56) ?hr ?_; (case hd => rfl); (case hg => rfl); (case hr => first | (go_simp; done) | (go_simp; rfl)); intro gA hg w6 hbox hb; have KA := Aside0.mk hbox; have GWA := ge_ hg (pb HB.out); have GEA := ge_ hg (pb HB.out); replace HB := Aside0.mk (below_step (pb HB.out) hb); clear hb hbox hg; have hcz7_0 := ci_ KA 0 (.int .i64 a0_0); have hcz7_1 := ci_ KA 1 (.int .i64 a0_1); have hcz7_2 := ci_ KA 2 (.int .i64 a0_2); have hfz7_0 := blk_frozen KA.out 0; have hfz7_1 := blk_frozen KA.out 1; have hfz7_2 := blk_frozen KA.out 2))
 go_ret
 exact ⟨by first | rfl | (simp [errW_none, errW_some] <;> rfl) | (simp only [← hji2, ← hji3, ← hji4, ← hji5]; first | rfl | (simp [errW_none, errW_some] <;> rfl)) | (simp [*, errW_none, errW_some] <;> rfl), pb1 HB.out GEA.out⟩

end Go.Proofs.Ytnijapaaickifaa.I
