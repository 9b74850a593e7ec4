-- Written for this claim by a program of this session (handprint.py) that drives the kit's print. Not trusted: Lean checks it.
import Derived.Test.YtnijapaaickifaaI0
import Derived.Test.YtnijapaaickifaaI1
import Derived.Test.YtnijapaaickifaaI11
import Derived.Test.YtnijapaaickifaaI15
import Derived.Test.YtnijapaaickifaaI16
import Derived.Test.YtnijapaaickifaaI17
namespace Go.Proofs.Ytnijapaaickifaa.I
open Go.RowKit Go.Proofs.YtnijapaaickifaaW.PrintWords Go.Proofs.YtnijapaaickifaaW.PrintLast
attribute [local go_sem] max2_int min2_int max_two min_two max_three min_three max_four min_four
set_option linter.unusedVariables false
set_option linter.unusedSimpArgs false

attribute [local go_sem high] eqA32
/-! ### imageeditorlaw10_BlendParts: function 3 -/
mutual
def imageeditorlaw10_BlendParts.j0 : Nat → Bool → Int → Int → Int → Int → List (S32) → Int → Int → List (S32) → Int → Int → List (S32) → Option (Bool)
  | 0, _, _, _, _, _, _, _, _, _, _, _, _ => none
  | k + 1, x39, x322000, x322001, x322002, x322003, x322004, x322005, x322006, x322007, x329000, x329001, x329002 => if x39 = true then (some false) else (imageeditorlaw10_BlendParts.l0 k 0 x322000 x322001 x322002 x322003 x322004 x322005 x322006 x322007 x329000 x329001 x329002)
def imageeditorlaw10_BlendParts.l0 : Nat → Int → Int → Int → Int → Int → List (S32) → Int → Int → List (S32) → Int → Int → List (S32) → Option (Bool)
  | 0, _, _, _, _, _, _, _, _, _, _, _, _ => none
  | k + 1, x5, x322000, x322001, x322002, x322003, x322004, x322005, x322006, x322007, x329000, x329001, x329002 => if x5 < (x329002.length : Int) then (if 0 ≤ x5 then (if x5 < (x322004.length : Int) then (if x5 < (x322007.length : Int) then ((imageeditorref06_Fade.f k ((rd_T32 x322007 x5).f0) ((rd_T32 x322007 x5).f1) ((rd_T32 x322007 x5).f2) ((rd_T32 x322007 x5).f3) x322001).bind fun bt334 => ((blend_Over.f k x322000 ((rd_T32 x322004 x5).f0) ((rd_T32 x322004 x5).f1) ((rd_T32 x322004 x5).f2) ((rd_T32 x322004 x5).f3) bt334.1 bt334.2.1 bt334.2.2.1 bt334.2.2.2).bind fun bt338 => (if (!(((rd_T32 x329002 x5).f0) == bt338.1) || (!(((rd_T32 x329002 x5).f1) == bt338.2.1) || (!(((rd_T32 x329002 x5).f2) == bt338.2.2.1) || (!(((rd_T32 x329002 x5).f3) == bt338.2.2.2))))) = true then (some false) else (imageeditorlaw10_BlendParts.l0 k (wrap64 (x5 + 1)) x322000 x322001 x322002 x322003 x322004 x322005 x322006 x322007 x329000 x329001 x329002)))) else (none)) else (none)) else (none)) else ((imageeditorlaw10_example.f k).bind fun t330 => (some t330))
end
def imageeditorlaw10_BlendParts.f (k : Nat) (a0_0 : Int) (a0_1 : Int) (a0_2 : Int) (a0_3 : Int) (l0_4 : List (S32)) (a0_5 : Int) (a0_6 : Int) (l0_7 : List (S32)) : Option (Bool) := (blend_Image.f k a0_0 a0_1 a0_2 a0_3 l0_4 a0_5 a0_6 l0_7).bind fun bt322 => (if bt322.2.2.2 = 0 then (if (bt322.2.2.1.length : Int) = (l0_4.length : Int) then (imageeditorlaw10_BlendParts.j0 k ((l0_7.length : Int) != (l0_4.length : Int)) a0_0 a0_1 a0_2 a0_3 l0_4 a0_5 a0_6 l0_7 bt322.1 bt322.2.1 bt322.2.2.1) else (imageeditorlaw10_BlendParts.j0 k true a0_0 a0_1 a0_2 a0_3 l0_4 a0_5 a0_6 l0_7 bt322.1 bt322.2.1 bt322.2.2.1)) else ((imageeditorlaw10_example.f k).bind fun t329 => (some t329)))
theorem imageeditorlaw10_BlendParts.mono_l : ∀ k, (∀ y0 y1 y2 y3 y4 y5 y6 y7 y8 y9 y10 y11, LeO (imageeditorlaw10_BlendParts.j0 k y0 y1 y2 y3 y4 y5 y6 y7 y8 y9 y10 y11) (imageeditorlaw10_BlendParts.j0 (k + 1) y0 y1 y2 y3 y4 y5 y6 y7 y8 y9 y10 y11)) ∧ (∀ y0 y1 y2 y3 y4 y5 y6 y7 y8 y9 y10 y11, LeO (imageeditorlaw10_BlendParts.l0 k y0 y1 y2 y3 y4 y5 y6 y7 y8 y9 y10 y11) (imageeditorlaw10_BlendParts.l0 (k + 1) y0 y1 y2 y3 y4 y5 y6 y7 y8 y9 y10 y11))
  | 0 => ⟨fun _ _ _ _ _ _ _ _ _ _ _ _ r h => by simp [imageeditorlaw10_BlendParts.j0] at h, fun _ _ _ _ _ _ _ _ _ _ _ _ r h => by simp [imageeditorlaw10_BlendParts.l0] at h⟩
  | k + 1 => by
    obtain ⟨ih0, ih1⟩ := imageeditorlaw10_BlendParts.mono_l k
    refine ⟨?_, ?_⟩
    · intro y0 y1 y2 y3 y4 y5 y6 y7 y8 y9 y10 y11
      unfold imageeditorlaw10_BlendParts.j0
      repeat' first
      | (with_reducible exact ih0 _ _ _ _ _ _ _ _ _ _ _ _)
      | (with_reducible exact ih1 _ _ _ _ _ _ _ _ _ _ _ _)
      | (with_reducible exact blend_Image.mono _ _ _ _ _ _ _ _ _)
      | (with_reducible exact blend_Over.mono _ _ _ _ _ _ _ _ _ _)
      | (with_reducible exact imageeditorlaw10_example.mono _)
      | (with_reducible exact imageeditorref06_Fade.mono _ _ _ _ _ _)
      | (with_reducible exact LeO.refl _)
      | (with_reducible exact LeO.none _)
      | (with_reducible refine LeO.ite ?_ ?_)
      | (with_reducible refine LeO.bind ?_ (fun _ => ?_))
      | exact ih0 _ _ _ _ _ _ _ _ _ _ _ _
      | exact ih1 _ _ _ _ _ _ _ _ _ _ _ _
      | exact blend_Image.mono _ _ _ _ _ _ _ _ _
      | exact blend_Over.mono _ _ _ _ _ _ _ _ _ _
      | exact imageeditorlaw10_example.mono _
      | exact imageeditorref06_Fade.mono _ _ _ _ _ _
      | exact LeO.none _
      | refine LeO.ite ?_ ?_
      | refine LeO.bind ?_ (fun _ => ?_)
    · intro y0 y1 y2 y3 y4 y5 y6 y7 y8 y9 y10 y11
      unfold imageeditorlaw10_BlendParts.l0
      repeat' first
      | (with_reducible exact ih0 _ _ _ _ _ _ _ _ _ _ _ _)
      | (with_reducible exact ih1 _ _ _ _ _ _ _ _ _ _ _ _)
      | (with_reducible exact blend_Image.mono _ _ _ _ _ _ _ _ _)
      | (with_reducible exact blend_Over.mono _ _ _ _ _ _ _ _ _ _)
      | (with_reducible exact imageeditorlaw10_example.mono _)
      | (with_reducible exact imageeditorref06_Fade.mono _ _ _ _ _ _)
      | (with_reducible exact LeO.refl _)
      | (with_reducible exact LeO.none _)
      | (with_reducible refine LeO.ite ?_ ?_)
      | (with_reducible refine LeO.bind ?_ (fun _ => ?_))
      | exact ih0 _ _ _ _ _ _ _ _ _ _ _ _
      | exact ih1 _ _ _ _ _ _ _ _ _ _ _ _
      | exact blend_Image.mono _ _ _ _ _ _ _ _ _
      | exact blend_Over.mono _ _ _ _ _ _ _ _ _ _
      | exact imageeditorlaw10_example.mono _
      | exact imageeditorref06_Fade.mono _ _ _ _ _ _
      | exact LeO.none _
      | refine LeO.ite ?_ ?_
      | refine LeO.bind ?_ (fun _ => ?_)
theorem imageeditorlaw10_BlendParts.mono : ∀ a0 a1 a2 a3 a4 a5 a6 a7 k, LeO (imageeditorlaw10_BlendParts.f k a0 a1 a2 a3 a4 a5 a6 a7) (imageeditorlaw10_BlendParts.f (k + 1) a0 a1 a2 a3 a4 a5 a6 a7) := by
  intro a0 a1 a2 a3 a4 a5 a6 a7 k
  obtain ⟨ih0, ih1⟩ := imageeditorlaw10_BlendParts.mono_l k
  unfold imageeditorlaw10_BlendParts.f
  repeat' first
      | (with_reducible exact ih0 _ _ _ _ _ _ _ _ _ _ _ _)
      | (with_reducible exact ih1 _ _ _ _ _ _ _ _ _ _ _ _)
      | (with_reducible exact blend_Image.mono _ _ _ _ _ _ _ _ _)
      | (with_reducible exact blend_Over.mono _ _ _ _ _ _ _ _ _ _)
      | (with_reducible exact imageeditorlaw10_example.mono _)
      | (with_reducible exact imageeditorref06_Fade.mono _ _ _ _ _ _)
      | (with_reducible exact LeO.refl _)
      | (with_reducible exact LeO.none _)
      | (with_reducible refine LeO.ite ?_ ?_)
      | (with_reducible refine LeO.bind ?_ (fun _ => ?_))
      | exact ih0 _ _ _ _ _ _ _ _ _ _ _ _
      | exact ih1 _ _ _ _ _ _ _ _ _ _ _ _
      | exact blend_Image.mono _ _ _ _ _ _ _ _ _
      | exact blend_Over.mono _ _ _ _ _ _ _ _ _ _
      | exact imageeditorlaw10_example.mono _
      | exact imageeditorref06_Fade.mono _ _ _ _ _ _
      | exact LeO.none _
      | refine LeO.ite ?_ ?_
      | refine LeO.bind ?_ (fun _ => ?_)
def imageeditorlaw10_BlendParts.T9 : Bool × List (List Nat × List Nat) := (true, [([], []), ([0], [0]), ([], []), ([1, 2], [1, 2]), ([3], [3]), ([], []), ([5], [5]), ([], []), ([7], [7]), ([8], [8]), ([], []), ([9, 10], [9, 10]), ([11], [11]), ([], []), ([13], [13]), ([14], [14]), ([], []), ([15, 16], [15, 16]), ([17], [17]), ([], []), ([19], [19]), ([18, 20], [18, 20]), ([6, 12, 21, 21], [6, 12, 21]), ([4, 22], [4, 22])])
def imageeditorlaw10_BlendParts.B9 : List Nat := [0, 1, 0, 7, 15, 0, 32, 0, 128, 384, 0, 1920, 3968, 0, 8192, 24576, 0, 122880, 253952, 0, 524288, 2088960, 4194272, 8388607]
theorem imageeditorlaw10_BlendParts.tab9 : rtab .any (opsOf Try.f3 9) = imageeditorlaw10_BlendParts.T9 := by kernel_rfl
theorem imageeditorlaw10_BlendParts.bits9 : waitsOk imageeditorlaw10_BlendParts.T9.2 imageeditorlaw10_BlendParts.B9 = true := by kernel_rfl
set_option maxHeartbeats 8000000 in
set_option maxRecDepth 100000 in
theorem imageeditorlaw10_BlendParts.calls (k : Nat) (a0_0 : Int) (a0_1 : Int) (a0_2 : Int) (a0_3 : Int) (A0_4 : Option Addr) (c0_4 : Nat) (l0_4 : List (S32)) (a0_5 : Int) (a0_6 : Int) (A0_7 : Option Addr) (c0_7 : Nat) (l0_7 : List (S32)) (r : Bool) (w : World) (hr0_4 : Kd.C k32 w A0_4 l0_4.length l0_4) (hc0_4 : l0_4.length ≤ c0_4) (hr0_7 : Kd.C k32 w A0_7 l0_7.length l0_7) (hc0_7 : l0_7.length ≤ c0_7) (h : imageeditorlaw10_BlendParts.f k a0_0 a0_1 a0_2 a0_3 l0_4 a0_5 a0_6 l0_7 = some r) :
    Calls Try.prog 3 #[.agg #[.int .i64 a0_0, .int .i64 a0_1, .int .i64 a0_2, .int .i64 a0_3, .slice A0_4 l0_4.length c0_4, .int .i64 a0_5, .int .i64 a0_6, .slice A0_7 l0_7.length c0_7]] w fun e w' => e = .returned (.bool r) ∧ Below w.heap.size w w' := by
 have hu26 := Try.underlying26
 have hu24 := Try.underlying24
 have hu32 := Try.underlying32
 have HR0_4 := Aside0.mk hr0_4
 have HC0_4 := Aside0.mk hc0_4
 clear hr0_4 hc0_4
 have HR0_7 := Aside0.mk hr0_7
 have HC0_7 := Aside0.mk hc0_7
 clear hr0_7 hc0_7
 have HB := Aside0.mk (Below.refl w.heap.size w)
 have H : ((blend_Image.f k a0_0 a0_1 a0_2 a0_3 l0_4 a0_5 a0_6 l0_7).bind fun bt322 => (if bt322.2.2.2 = 0 then (if (bt322.2.2.1.length : Int) = (l0_4.length : Int) then (imageeditorlaw10_BlendParts.j0 k ((l0_7.length : Int) != (l0_4.length : Int)) a0_0 a0_1 a0_2 a0_3 l0_4 a0_5 a0_6 l0_7 bt322.1 bt322.2.1 bt322.2.2.1) else (imageeditorlaw10_BlendParts.j0 k true a0_0 a0_1 a0_2 a0_3 l0_4 a0_5 a0_6 l0_7 bt322.1 bt322.2.1 bt322.2.2.1)) else ((imageeditorlaw10_example.f k).bind fun t329 => (some t329)))) = some r := h
 clear h
 replace H := Option.bind_eq_some_iff.mp H
 obtain ⟨⟨t322, t323, t324, t327⟩, A20, H⟩ := H
 replace H : (if t327 = 0 then (if (t324.length : Int) = (l0_4.length : Int) then (imageeditorlaw10_BlendParts.j0 k ((l0_7.length : Int) != (l0_4.length : Int)) a0_0 a0_1 a0_2 a0_3 l0_4 a0_5 a0_6 l0_7 t322 t323 t324) else (imageeditorlaw10_BlendParts.j0 k true a0_0 a0_1 a0_2 a0_3 l0_4 a0_5 a0_6 l0_7 t322 t323 t324)) else ((imageeditorlaw10_example.f k).bind fun t329 => (some t329))) = some r := H
 have A2 := Aside0.mk A20
 clear A20
 by_cases c3 : t327 = 0
 ·rw [if_pos c3] at H
  have c3b0 : (t327 == 0) = true := beq_iff_eq.mpr c3
  have c3b1 : (t327 != 0) = false := bne_eq_false_iff_eq.mpr c3
  clear c3
  have HC4 := Aside0.mk H
  clear H
  go_enter Try.func3, Try.ntmps3
  go_upto_region 4 with (first | ((with_reducible refine gate_dst (N := 1) rfl ?_); refine box_event ?hg (N := 1) ?hd (cs := #[.int .i64 a0_0, .int .i64 a0_1, .int .i64 a0_2, .int .i64 a0_3, .slice A0_4 l0_4.length c0_4, .int .i64 a0_5, .int .i64 a0_6, .slice A0_7 l0_7.length c0_7]) (t := 26) ?hr ?_; (case hd => rfl); (case hg => rfl); (case hr => first | (go_simp; done) | (go_simp; rfl)); intro gA hg w5 hbox hb; have KA := Aside0.mk hbox; have GWA := ge_ hg (pb HB.out); have GEA := ge_ hg (pb HB.out); replace HB := Aside0.mk (below_step (pb HB.out) hb); clear hb hbox hg; have hcz6_0 := ci_ KA 0 (.int .i64 a0_0); have hcz6_1 := ci_ KA 1 (.int .i64 a0_1); have hcz6_2 := ci_ KA 2 (.int .i64 a0_2); have hcz6_3 := ci_ KA 3 (.int .i64 a0_3); have hcz6_4 := ci_ KA 4 (.slice A0_4 l0_4.length c0_4); have hcz6_5 := ci_ KA 5 (.int .i64 a0_5); have hcz6_6 := ci_ KA 6 (.int .i64 a0_6); have hcz6_7 := ci_ KA 7 (.slice A0_7 l0_7.length c0_7); have hfz6_0 := blk_frozen KA.out 0; have hfz6_1 := blk_frozen KA.out 1; have hfz6_2 := blk_frozen KA.out 2; have hfz6_3 := blk_frozen KA.out 3; have hfz6_4 := blk_frozen KA.out 4; have hfz6_5 := blk_frozen KA.out 5; have hfz6_6 := blk_frozen KA.out 6; have hfz6_7 := blk_frozen KA.out 7) | ((with_reducible refine gate_callee (f := 12) rfl ?_); refine goesL_ (some 15) rfl rfl Try.func12 (by kernel_rfl) rfl #[.int .i64 a0_0, .int .i64 a0_1, .agg #[.int .i64 a0_2, .int .i64 a0_3, .slice A0_4 l0_4.length c0_4], .agg #[.int .i64 a0_5, .int .i64 a0_6, .slice A0_7 l0_7.length c0_7]] rfl pm ?_; (with_reducible refine (blend_Image.calls k a0_0 a0_1 a0_2 a0_3 _ _ l0_4 a0_5 a0_6 _ _ l0_7 t322 t323 t324 t327 _ ?side1 ?side2 ?side3 ?side4 A2.out).mono ?_); (case side1 => repeat (first | exact (Kd.C_below HR0_4.out HB.out) | (with_reducible refine Kd.C_alloc ?_ _) | (with_reducible refine Kd.C_drewN ?_ _) | (with_reducible refine Kd.C_drew ?_))); (case side2 => exact HC0_4.out); (case side3 => repeat (first | exact (Kd.C_below HR0_7.out HB.out) | (with_reducible refine Kd.C_alloc ?_ _) | (with_reducible refine Kd.C_drewN ?_ _) | (with_reducible refine Kd.C_drew ?_))); (case side4 => exact HC0_7.out); rintro e w7 ⟨v325, rfl, ho0, hb⟩; refine ⟨_, rfl, ?_⟩; have HO326 := Aside0.mk (Kd.R_lower ho0 (below_size (pb1 HB.out GEA.out))); replace KA := bp_ KA hb; replace HB := Aside0.mk (below_step (pb1 HB.out GEA.out) hb); (try clear hb); (try clear hb2); (try clear hk); (try clear hi); (try clear ho0)) | ((with_reducible refine gate_dst (N := 3) rfl ?_); refine box_event ?hg (N := 3) ?hd (cs := #[.int .i64 0, .int .i64 0, .slice none 0 0]) (t := 24) ?hr ?_; (case hd => rfl); (case hg => rfl); (case hr => first | (go_simp; done) | (go_simp; rfl)); intro gB hg w8 hbox hb; have c0_ := cp_ hb KA; have KB := Aside0.mk hbox; have GWB := ge_ hg (pb1 HB.out GEA.out); have GEB := ge_ hg (pb1 HB.out GEA.out); have NAB := nl_ hg c0_; have NBA := ng_ hg c0_; replace HO326 := Aside0.mk (Kd.R_below (by (with_reducible repeat (first | apply Kd.R_alloc | apply Kd.R_drewN | apply Kd.R_drew)); exact HO326.out) hb); replace KA := bb_ c0_ hb; replace HB := Aside0.mk (below_step (pb1 HB.out GEA.out) hb); clear c0_; clear hb hbox hg; have hnb9 := NBA.out; have hnc9 := NAB.out; have hcz10_0 := ci_ KB 0 (.int .i64 0); have hcz10_1 := ci_ KB 1 (.int .i64 0); have hcz10_2 := ci_ KB 2 (.slice none 0 0); have hfz10_0 := blk_frozen KB.out 0; have hfz10_1 := blk_frozen KB.out 1; have hfz10_2 := blk_frozen KB.out 2; obtain ⟨Ao11, co11, eo11⟩ := Kd.R_slice HO326.out; subst eo11))
  (try simp only [Act.put, List.setIfInBounds_toArray, List.set_cons_zero, List.set_cons_succ])
  go_cut [39] (fun v39 wc => ∃ (kq : Nat) (x39_3 : Bool), v39 = .bool x39_3 ∧ Aside0 (imageeditorlaw10_BlendParts.j0 kq x39_3 a0_0 a0_1 a0_2 a0_3 l0_4 a0_5 a0_6 l0_7 t322 t323 t324 = some r) ∧ Aside0 (kq ≤ k) ∧ Aside0 (Kd.R k32 32 wc w.heap.size (fun _ => True) (.slice Ao11 t324.length co11) t324) ∧ Aside0 (wc.heap[gA]? = some (.cells #[.int .i64 a0_0, .int .i64 a0_1, .int .i64 a0_2, .int .i64 a0_3, (.slice A0_4 l0_4.length c0_4), .int .i64 a0_5, .int .i64 a0_6, (.slice A0_7 l0_7.length c0_7)] 26 (0, 0))) ∧ Aside0 (wc.heap[gB]? = some (.cells #[.int .i64 t322, .int .i64 t323, (.slice Ao11 t324.length co11)] 24 (0, 0))) ∧ Aside0 (Below w.heap.size w wc))
  case first =>
   have H := HC4.out
   clear HC4
   by_cases c12 : (t324.length : Int) = (l0_4.length : Int)
   ·rw [if_pos c12] at H
    have c12b0 : ((t324.length : Int) == (l0_4.length : Int)) = true := beq_iff_eq.mpr c12
    have c12b1 : ((t324.length : Int) != (l0_4.length : Int)) = false := bne_eq_false_iff_eq.mpr c12
    have c12b2 : (t324.length == l0_4.length) = true := by first | simpa using c12 | (simp at c12 ⊢; omega)
    clear c12
    (first | rw [c12b0] | (simp only [i64_w, i32_w]; rw [c12b0]) | skip)
    have H' := Aside0.mk H
    clear H
    have hnb13 := NBA.out
    have hnc13 := NAB.out
    have hcz14_0 := ci_ KB 0 (.int .i64 0)
    have hcz14_1 := ci_ KB 1 (.int .i64 0)
    have hcz14_2 := ci_ KB 2 (.slice none 0 0)
    have hfz14_0 := blk_frozen KB.out 0
    have hfz14_1 := blk_frozen KB.out 1
    have hfz14_2 := blk_frozen KB.out 2
    have hcz15_0 := ci_ KA 0 (.int .i64 a0_0)
    have hcz15_1 := ci_ KA 1 (.int .i64 a0_1)
    have hcz15_2 := ci_ KA 2 (.int .i64 a0_2)
    have hcz15_3 := ci_ KA 3 (.int .i64 a0_3)
    have hcz15_4 := ci_ KA 4 (.slice A0_4 l0_4.length c0_4)
    have hcz15_5 := ci_ KA 5 (.int .i64 a0_5)
    have hcz15_6 := ci_ KA 6 (.int .i64 a0_6)
    have hcz15_7 := ci_ KA 7 (.slice A0_7 l0_7.length c0_7)
    have hfz15_0 := blk_frozen KA.out 0
    have hfz15_1 := blk_frozen KA.out 1
    have hfz15_2 := blk_frozen KA.out 2
    have hfz15_3 := blk_frozen KA.out 3
    have hfz15_4 := blk_frozen KA.out 4
    have hfz15_5 := blk_frozen KA.out 5
    have hfz15_6 := blk_frozen KA.out 6
    have hfz15_7 := blk_frozen KA.out 7
    go_wp2
    go_meet
    case rel => exact ⟨_, (((l0_7.length : Int) != (l0_4.length : Int))), (by first | rfl | (simp; done) | (simp [*]; done)), H', ⟨by first | omega | exact Nat.le_refl _⟩, ⟨by (with_reducible repeat (first | apply Kd.R_alloc | apply Kd.R_drewN | apply Kd.R_drew)); exact Kd.R_mono (Kd.R_far (p := ⟨gB, 2, none⟩) (Kd.R_far (p := ⟨gB, 1, none⟩) (Kd.R_far (p := ⟨gB, 0, none⟩) (Kd.R_types HO326.out KB.out (by decide)) (fun _ hk => hk.2) (.int .i64 t322)) (fun _ hk => hk.2) (.int .i64 t323)) (fun _ hk => hk.2) (.slice Ao11 t324.length co11)) (fun _ hk => trivial)⟩, ⟨by refine pl ?_; refine blk_far ?_ NAB.out _; refine pl ?_; refine blk_far ?_ NAB.out _; refine pl ?_; refine blk_far ?_ NAB.out _; refine pl ?_; exact KA.out⟩, ⟨by refine pl ?_; refine blk_put (cs := #[.int .i64 t322, .int .i64 t323, .slice none 0 0]) ?_ 2 _ rfl; refine pl ?_; refine blk_put (cs := #[.int .i64 t322, .int .i64 0, .slice none 0 0]) ?_ 1 _ rfl; refine pl ?_; refine blk_put (cs := #[.int .i64 0, .int .i64 0, .slice none 0 0]) ?_ 0 _ rfl; refine pl ?_; exact KB.out⟩, ⟨pb2 HB.out GEA.out GEB.out⟩⟩
   ·rw [if_neg c12] at H
    have c12b0 : ((t324.length : Int) == (l0_4.length : Int)) = false := beq_eq_false_iff_ne.mpr c12
    have c12b1 : ((t324.length : Int) != (l0_4.length : Int)) = true := bne_iff_ne.mpr c12
    have c12b2 : (t324.length == l0_4.length) = false := by first | simpa using c12 | (simp at c12 ⊢; omega)
    (first | rw [c12b0] | (simp only [i64_w, i32_w]; rw [c12b0]) | skip)
    have H' := Aside0.mk H
    clear H
    have hnb16 := NBA.out
    have hnc16 := NAB.out
    have hcz17_0 := ci_ KB 0 (.int .i64 0)
    have hcz17_1 := ci_ KB 1 (.int .i64 0)
    have hcz17_2 := ci_ KB 2 (.slice none 0 0)
    have hfz17_0 := blk_frozen KB.out 0
    have hfz17_1 := blk_frozen KB.out 1
    have hfz17_2 := blk_frozen KB.out 2
    have hcz18_0 := ci_ KA 0 (.int .i64 a0_0)
    have hcz18_1 := ci_ KA 1 (.int .i64 a0_1)
    have hcz18_2 := ci_ KA 2 (.int .i64 a0_2)
    have hcz18_3 := ci_ KA 3 (.int .i64 a0_3)
    have hcz18_4 := ci_ KA 4 (.slice A0_4 l0_4.length c0_4)
    have hcz18_5 := ci_ KA 5 (.int .i64 a0_5)
    have hcz18_6 := ci_ KA 6 (.int .i64 a0_6)
    have hcz18_7 := ci_ KA 7 (.slice A0_7 l0_7.length c0_7)
    have hfz18_0 := blk_frozen KA.out 0
    have hfz18_1 := blk_frozen KA.out 1
    have hfz18_2 := blk_frozen KA.out 2
    have hfz18_3 := blk_frozen KA.out 3
    have hfz18_4 := blk_frozen KA.out 4
    have hfz18_5 := blk_frozen KA.out 5
    have hfz18_6 := blk_frozen KA.out 6
    have hfz18_7 := blk_frozen KA.out 7
    go_wp2
    go_meet
    case rel => exact ⟨_, (true), (by first | rfl | (simp; done) | (simp [*]; done)), H', ⟨by first | omega | exact Nat.le_refl _⟩, ⟨by (with_reducible repeat (first | apply Kd.R_alloc | apply Kd.R_drewN | apply Kd.R_drew)); exact Kd.R_mono (Kd.R_far (p := ⟨gB, 2, none⟩) (Kd.R_far (p := ⟨gB, 1, none⟩) (Kd.R_far (p := ⟨gB, 0, none⟩) (Kd.R_types HO326.out KB.out (by decide)) (fun _ hk => hk.2) (.int .i64 t322)) (fun _ hk => hk.2) (.int .i64 t323)) (fun _ hk => hk.2) (.slice Ao11 t324.length co11)) (fun _ hk => trivial)⟩, ⟨by refine pl ?_; refine blk_far ?_ NAB.out _; refine pl ?_; refine blk_far ?_ NAB.out _; refine pl ?_; refine blk_far ?_ NAB.out _; refine pl ?_; exact KA.out⟩, ⟨by refine pl ?_; refine blk_put (cs := #[.int .i64 t322, .int .i64 t323, .slice none 0 0]) ?_ 2 _ rfl; refine pl ?_; refine blk_put (cs := #[.int .i64 t322, .int .i64 0, .slice none 0 0]) ?_ 1 _ rfl; refine pl ?_; refine blk_put (cs := #[.int .i64 0, .int .i64 0, .slice none 0 0]) ?_ 0 _ rfl; refine pl ?_; exact KB.out⟩, ⟨pb2 HB.out GEA.out GEB.out⟩⟩
  case rest =>
   clear HC4
   try clear c1
   try clear p2
   try clear c3
   try clear c3b0
   try clear c3b1
   try clear c9
   try clear c12
   try clear c12b0
   try clear c12b1
   try clear c12b2
   try clear c13
   try clear c16
   try clear hcz10_0
   try clear hcz10_1
   try clear hcz10_2
   try clear hcz14_0
   try clear hcz14_1
   try clear hcz14_2
   try clear hcz15_0
   try clear hcz15_1
   try clear hcz15_2
   try clear hcz15_3
   try clear hcz15_4
   try clear hcz15_5
   try clear hcz15_6
   try clear hcz15_7
   try clear hcz17_0
   try clear hcz17_1
   try clear hcz17_2
   try clear hcz18_0
   try clear hcz18_1
   try clear hcz18_2
   try clear hcz18_3
   try clear hcz18_4
   try clear hcz18_5
   try clear hcz18_6
   try clear hcz18_7
   try clear hcz6_0
   try clear hcz6_1
   try clear hcz6_2
   try clear hcz6_3
   try clear hcz6_4
   try clear hcz6_5
   try clear hcz6_6
   try clear hcz6_7
   try clear hfz10_0
   try clear hfz10_1
   try clear hfz10_2
   try clear hfz14_0
   try clear hfz14_1
   try clear hfz14_2
   try clear hfz15_0
   try clear hfz15_1
   try clear hfz15_2
   try clear hfz15_3
   try clear hfz15_4
   try clear hfz15_5
   try clear hfz15_6
   try clear hfz15_7
   try clear hfz17_0
   try clear hfz17_1
   try clear hfz17_2
   try clear hfz18_0
   try clear hfz18_1
   try clear hfz18_2
   try clear hfz18_3
   try clear hfz18_4
   try clear hfz18_5
   try clear hfz18_6
   try clear hfz18_7
   try clear hfz6_0
   try clear hfz6_1
   try clear hfz6_2
   try clear hfz6_3
   try clear hfz6_4
   try clear hfz6_5
   try clear hfz6_6
   try clear hfz6_7
   obtain ⟨kq, x39_3, rfl, HA, HJ3, HO_329002, KA, KB, HB⟩ := hcut
   cases kq with
   | zero => exact absurd HA.out (by simp [imageeditorlaw10_BlendParts.j0])
   | succ kj3 =>
    have H := HA.out
    clear HA
    simp only [imageeditorlaw10_BlendParts.j0] at H
    by_cases c19 : x39_3 = true
    ·subst c19
     have H1 : (some false) = some r := by rw [if_pos rfl] at H; exact H
     clear H
     have H := H1
     clear H1
     obtain rfl := Option.some.inj H
     go_wp2
     go_ret
     exact ⟨by first | rfl | (simp [errW_none, errW_some] <;> rfl) | (simp [*, errW_none, errW_some] <;> rfl), pb2 HB.out GEA.out GEB.out⟩
    ·replace c19 := Bool.eq_false_iff.mpr c19
     subst c19
     have H1 : (imageeditorlaw10_BlendParts.l0 kj3 0 a0_0 a0_1 a0_2 a0_3 l0_4 a0_5 a0_6 l0_7 t322 t323 t324) = some r := by rw [if_neg (show ¬ (false = true) by decide)] at H; exact H
     clear H
     have H := H1
     clear H1
     have H' := Aside0.mk H
     clear H
     go_wp2
     go_loopg [5] kj3 (fun kq v5 w' => ∃ (x5_2 : Int), v5 = .int .i64 x5_2 ∧ Aside0 (imageeditorlaw10_BlendParts.l0 kq x5_2 a0_0 a0_1 a0_2 a0_3 l0_4 a0_5 a0_6 l0_7 t322 t323 t324 = some r) ∧ Aside0 (kq ≤ kj3) ∧ Aside0 (Kd.R k32 32 w' w.heap.size (fun _ => True) (.slice Ao11 t324.length co11) t324) ∧ Aside0 (w'.heap[gA]? = some (.cells #[.int .i64 a0_0, .int .i64 a0_1, .int .i64 a0_2, .int .i64 a0_3, (.slice A0_4 l0_4.length c0_4), .int .i64 a0_5, .int .i64 a0_6, (.slice A0_7 l0_7.length c0_7)] 26 (0, 0))) ∧ Aside0 (w'.heap[gB]? = some (.cells #[.int .i64 t322, .int .i64 t323, (.slice Ao11 t324.length co11)] 24 (0, 0))) ∧ Aside0 (Below w.heap.size w w'))
     case atStart => exact ⟨(0), (by first | rfl | (simp; done) | (simp [*]; done)), H', ⟨Nat.le_refl _⟩, ⟨by (with_reducible repeat (first | apply Kd.R_alloc | apply Kd.R_drewN | apply Kd.R_drew)); exact HO_329002.out⟩, ⟨pl KA.out⟩, ⟨pl KB.out⟩, ⟨pb2 HB.out GEA.out GEB.out⟩⟩
     case round =>
      clear H'
      try clear c1
      try clear p2
      try clear c3
      try clear c3b0
      try clear c3b1
      try clear c9
      try clear c12
      try clear c12b0
      try clear c12b1
      try clear c12b2
      try clear c13
      try clear c16
      try clear c19
      try clear hcz10_0
      try clear hcz10_1
      try clear hcz10_2
      try clear hcz14_0
      try clear hcz14_1
      try clear hcz14_2
      try clear hcz15_0
      try clear hcz15_1
      try clear hcz15_2
      try clear hcz15_3
      try clear hcz15_4
      try clear hcz15_5
      try clear hcz15_6
      try clear hcz15_7
      try clear hcz17_0
      try clear hcz17_1
      try clear hcz17_2
      try clear hcz18_0
      try clear hcz18_1
      try clear hcz18_2
      try clear hcz18_3
      try clear hcz18_4
      try clear hcz18_5
      try clear hcz18_6
      try clear hcz18_7
      try clear hcz6_0
      try clear hcz6_1
      try clear hcz6_2
      try clear hcz6_3
      try clear hcz6_4
      try clear hcz6_5
      try clear hcz6_6
      try clear hcz6_7
      try clear hfz10_0
      try clear hfz10_1
      try clear hfz10_2
      try clear hfz14_0
      try clear hfz14_1
      try clear hfz14_2
      try clear hfz15_0
      try clear hfz15_1
      try clear hfz15_2
      try clear hfz15_3
      try clear hfz15_4
      try clear hfz15_5
      try clear hfz15_6
      try clear hfz15_7
      try clear hfz17_0
      try clear hfz17_1
      try clear hfz17_2
      try clear hfz18_0
      try clear hfz18_1
      try clear hfz18_2
      try clear hfz18_3
      try clear hfz18_4
      try clear hfz18_5
      try clear hfz18_6
      try clear hfz18_7
      try clear hfz6_0
      try clear hfz6_1
      try clear hfz6_2
      try clear hfz6_3
      try clear hfz6_4
      try clear hfz6_5
      try clear hfz6_6
      try clear hfz6_7
      try clear p2
      obtain ⟨x5_2, rfl, HA, HK2, HO_329002, KA, KB, HB⟩ := hrel
      cases gk with
      | zero => exact absurd HA.out (by simp [imageeditorlaw10_BlendParts.l0])
      | succ k2 =>
       have H := HA.out
       clear HA
       simp only [imageeditorlaw10_BlendParts.l0] at H
       by_cases c20 : x5_2 < (t324.length : Int)
       ·rw [if_pos c20] at H
        have c20b0 : decide (x5_2 < (t324.length : Int)) = true := decide_eq_true c20
        clear c20
        by_cases c21 : 0 ≤ x5_2
        rotate_left
        ·rw [if_neg c21] at H
         exact absurd H (by simp)
        rw [if_pos c21] at H
        have c21b0 : decide (0 ≤ x5_2) = true := decide_eq_true c21
        clear c21
        by_cases c22 : x5_2 < (l0_4.length : Int)
        rotate_left
        ·rw [if_neg c22] at H
         exact absurd H (by simp)
        rw [if_pos c22] at H
        have c22b0 : decide (x5_2 < (l0_4.length : Int)) = true := decide_eq_true c22
        clear c22
        by_cases c23 : x5_2 < (l0_7.length : Int)
        rotate_left
        ·rw [if_neg c23] at H
         exact absurd H (by simp)
        rw [if_pos c23] at H
        have c23b0 : decide (x5_2 < (l0_7.length : Int)) = true := decide_eq_true c23
        clear c23
        replace H := Option.bind_eq_some_iff.mp H
        obtain ⟨⟨t334, t335, t336, t337⟩, A240, H⟩ := H
        replace H : ((blend_Over.f k2 a0_0 ((rd_T32 l0_4 x5_2).f0) ((rd_T32 l0_4 x5_2).f1) ((rd_T32 l0_4 x5_2).f2) ((rd_T32 l0_4 x5_2).f3) t334 t335 t336 t337).bind fun bt338 => (if (!(((rd_T32 t324 x5_2).f0) == bt338.1) || (!(((rd_T32 t324 x5_2).f1) == bt338.2.1) || (!(((rd_T32 t324 x5_2).f2) == bt338.2.2.1) || (!(((rd_T32 t324 x5_2).f3) == bt338.2.2.2))))) = true then (some false) else (imageeditorlaw10_BlendParts.l0 k2 (wrap64 (x5_2 + 1)) a0_0 a0_1 a0_2 a0_3 l0_4 a0_5 a0_6 l0_7 t322 t323 t324))) = some r := H
        have A24 := Aside0.mk A240
        clear A240
        replace H := Option.bind_eq_some_iff.mp H
        obtain ⟨⟨t338, t339, t340, t341⟩, A250, H⟩ := H
        replace H : (if (!(((rd_T32 t324 x5_2).f0) == t338) || (!(((rd_T32 t324 x5_2).f1) == t339) || (!(((rd_T32 t324 x5_2).f2) == t340) || (!(((rd_T32 t324 x5_2).f3) == t341))))) = true then (some false) else (imageeditorlaw10_BlendParts.l0 k2 (wrap64 (x5_2 + 1)) a0_0 a0_1 a0_2 a0_3 l0_4 a0_5 a0_6 l0_7 t322 t323 t324)) = some r := H
        have A25 := Aside0.mk A250
        clear A250
        by_cases c26 : (!(((rd_T32 t324 x5_2).f0) == t338) || (!(((rd_T32 t324 x5_2).f1) == t339) || (!(((rd_T32 t324 x5_2).f2) == t340) || (!(((rd_T32 t324 x5_2).f3) == t341))))) = true
        ·rw [if_pos c26] at H
         have c26b0 : (!(((rd_T32 t324 x5_2).f0) == t338) || (!(((rd_T32 t324 x5_2).f1) == t339) || (!(((rd_T32 t324 x5_2).f2) == t340) || (!(((rd_T32 t324 x5_2).f3) == t341))))) = true := c26
         clear c26
         obtain rfl := Option.some.inj H
         have hnb27 := NBA.out
         have hnc27 := NAB.out
         have hcz28_0 := ci_ KB 0 (.int .i64 t322)
         have hcz28_1 := ci_ KB 1 (.int .i64 t323)
         have hcz28_2 := ci_ KB 2 (.slice Ao11 t324.length co11)
         have hfz28_0 := blk_frozen KB.out 0
         have hfz28_1 := blk_frozen KB.out 1
         have hfz28_2 := blk_frozen KB.out 2
         try go_wp2
         replace HO_329002 := Aside0.mk (Kd.R_drew HO_329002.out)
         replace KA := Aside0.mk (blk_drew KA.out)
         replace KB := Aside0.mk (blk_drew KB.out)
         replace HB := Aside0.mk (below_drew1 HB.out)
         have p331 : 0 ≤ (x5_2 : Int) := of_decide_eq_true (by first | (with_reducible assumption) | assumption)
         have q331 : x5_2 < (t324.length : Int) := of_decide_eq_true (by first | (with_reducible assumption) | assumption)
         obtain ⟨ad331, e331, hx331_0, hx331_1, hx331_2, hx331_3⟩ := at_T32 (Kd.R_reads' HO_329002.out).2.2 x5_2 p331 q331
         cases e331
         replace p331 := eq_true p331
         replace q331 := eq_true q331
         have p332 : 0 ≤ (x5_2 : Int) := of_decide_eq_true (by first | (with_reducible assumption) | assumption)
         have q332 : x5_2 < (l0_4.length : Int) := of_decide_eq_true (by first | (with_reducible assumption) | assumption)
         obtain ⟨ad332, e332, hx332_0, hx332_1, hx332_2, hx332_3⟩ := at_T32 HR0_4.out x5_2 p332 q332
         have hw332_3 := hx332_3
         have hw332_2 := hx332_2
         have hw332_1 := hx332_1
         have hw332_0 := hx332_0
         cases e332
         replace hx332_0 := (HB.out.cell (World.block_lt_of_cell? w _ hx332_0)).trans hx332_0
         replace hx332_1 := (HB.out.cell (World.block_lt_of_cell? w _ hx332_1)).trans hx332_1
         replace hx332_2 := (HB.out.cell (World.block_lt_of_cell? w _ hx332_2)).trans hx332_2
         replace hx332_3 := (HB.out.cell (World.block_lt_of_cell? w _ hx332_3)).trans hx332_3
         replace p332 := eq_true p332
         replace q332 := eq_true q332
         have p333 : 0 ≤ (x5_2 : Int) := of_decide_eq_true (by first | (with_reducible assumption) | assumption)
         have q333 : x5_2 < (l0_7.length : Int) := of_decide_eq_true (by first | (with_reducible assumption) | assumption)
         obtain ⟨ad333, e333, hx333_0, hx333_1, hx333_2, hx333_3⟩ := at_T32 HR0_7.out x5_2 p333 q333
         have hw333_3 := hx333_3
         have hw333_2 := hx333_2
         have hw333_1 := hx333_1
         have hw333_0 := hx333_0
         cases e333
         replace hx333_0 := (HB.out.cell (World.block_lt_of_cell? w _ hx333_0)).trans hx333_0
         replace hx333_1 := (HB.out.cell (World.block_lt_of_cell? w _ hx333_1)).trans hx333_1
         replace hx333_2 := (HB.out.cell (World.block_lt_of_cell? w _ hx333_2)).trans hx333_2
         replace hx333_3 := (HB.out.cell (World.block_lt_of_cell? w _ hx333_3)).trans hx333_3
         replace p333 := eq_true p333
         replace q333 := eq_true q333
         refine start_ (n := 24) (S := fun w' => w'.cell? ⟨gB, 0, none⟩ = some (.int .i64 t322) ∧ w'.cell? ⟨gB, 1, none⟩ = some (.int .i64 t323) ∧ w'.cell? ⟨gB, 2, none⟩ = some (.slice (some ad331) t324.length co11) ∧ w'.cell? ⟨gA, 0, none⟩ = some (.int .i64 a0_0) ∧ w'.cell? ⟨gA, 1, none⟩ = some (.int .i64 a0_1) ∧ w'.cell? ⟨gA, 2, none⟩ = some (.int .i64 a0_2) ∧ w'.cell? ⟨gA, 3, none⟩ = some (.int .i64 a0_3) ∧ w'.cell? ⟨gA, 4, none⟩ = some (.slice (some ad332) l0_4.length c0_4) ∧ w'.cell? ⟨gA, 5, none⟩ = some (.int .i64 a0_5) ∧ w'.cell? ⟨gA, 6, none⟩ = some (.int .i64 a0_6) ∧ w'.cell? ⟨gA, 7, none⟩ = some (.slice (some ad333) l0_7.length c0_7) ∧ w'.cell? (ad331.add ((x5_2).toNat * 4)) = some (.int .i64 ((rd_T32 t324 x5_2).f0)) ∧ w'.cell? ⟨(ad331.add ((x5_2).toNat * 4)).block, (ad331.add ((x5_2).toNat * 4)).off + 1, none⟩ = some (.int .i64 ((rd_T32 t324 x5_2).f1)) ∧ w'.cell? ⟨(ad331.add ((x5_2).toNat * 4)).block, (ad331.add ((x5_2).toNat * 4)).off + 2, none⟩ = some (.int .i64 ((rd_T32 t324 x5_2).f2)) ∧ w'.cell? ⟨(ad331.add ((x5_2).toNat * 4)).block, (ad331.add ((x5_2).toNat * 4)).off + 3, none⟩ = some (.int .i64 ((rd_T32 t324 x5_2).f3)) ∧ w'.cell? (ad332.add ((x5_2).toNat * 4)) = some (.int .i64 ((rd_T32 l0_4 x5_2).f0)) ∧ w'.cell? ⟨(ad332.add ((x5_2).toNat * 4)).block, (ad332.add ((x5_2).toNat * 4)).off + 1, none⟩ = some (.int .i64 ((rd_T32 l0_4 x5_2).f1)) ∧ w'.cell? ⟨(ad332.add ((x5_2).toNat * 4)).block, (ad332.add ((x5_2).toNat * 4)).off + 2, none⟩ = some (.int .i64 ((rd_T32 l0_4 x5_2).f2)) ∧ w'.cell? ⟨(ad332.add ((x5_2).toNat * 4)).block, (ad332.add ((x5_2).toNat * 4)).off + 3, none⟩ = some (.int .i64 ((rd_T32 l0_4 x5_2).f3)) ∧ w'.cell? (ad333.add ((x5_2).toNat * 4)) = some (.int .i64 ((rd_T32 l0_7 x5_2).f0)) ∧ w'.cell? ⟨(ad333.add ((x5_2).toNat * 4)).block, (ad333.add ((x5_2).toNat * 4)).off + 1, none⟩ = some (.int .i64 ((rd_T32 l0_7 x5_2).f1)) ∧ w'.cell? ⟨(ad333.add ((x5_2).toNat * 4)).block, (ad333.add ((x5_2).toNat * 4)).off + 2, none⟩ = some (.int .i64 ((rd_T32 l0_7 x5_2).f2)) ∧ w'.cell? ⟨(ad333.add ((x5_2).toNat * 4)).block, (ad333.add ((x5_2).toNat * 4)).off + 3, none⟩ = some (.int .i64 ((rd_T32 l0_7 x5_2).f3))) (ds := []) #[false, false, false, false, false, false, false, false, false, false, false, false, false, false, false, false, false, false, false, false, false, false, false, false] (by kernel_rfl) rfl rfl ⟨(blk_cell KB.out 0).trans rfl, (blk_cell KB.out 1).trans rfl, (blk_cell KB.out 2).trans rfl, (blk_cell KA.out 0).trans rfl, (blk_cell KA.out 1).trans rfl, (blk_cell KA.out 2).trans rfl, (blk_cell KA.out 3).trans rfl, (blk_cell KA.out 4).trans rfl, (blk_cell KA.out 5).trans rfl, (blk_cell KA.out 6).trans rfl, (blk_cell KA.out 7).trans rfl, hx331_0, hx331_1, hx331_2, hx331_3, ((HB.out.cell (World.block_lt_of_cell? w _ hw332_0)).trans hw332_0), ((HB.out.cell (World.block_lt_of_cell? w _ hw332_1)).trans hw332_1), ((HB.out.cell (World.block_lt_of_cell? w _ hw332_2)).trans hw332_2), ((HB.out.cell (World.block_lt_of_cell? w _ hw332_3)).trans hw332_3), ((HB.out.cell (World.block_lt_of_cell? w _ hw333_0)).trans hw333_0), ((HB.out.cell (World.block_lt_of_cell? w _ hw333_1)).trans hw333_1), ((HB.out.cell (World.block_lt_of_cell? w _ hw333_2)).trans hw333_2), ((HB.out.cell (World.block_lt_of_cell? w _ hw333_3)).trans hw333_3)⟩ (fun hHeld => ?_); refine with_tabW imageeditorlaw10_BlendParts.tab9 imageeditorlaw10_BlendParts.bits9 (fun HT_ HW_ => ?_)
         generalize wr.drew = w29 at HO_329002 KA KB HB hx331_0 hx331_1 hx331_2 hx331_3 hx332_0 hx332_1 hx332_2 hx332_3 hx333_0 hx333_1 hx333_2 hx333_3 hHeld ⊢
         refine pure_ (i := 0) (N := some 47) (v := ?_) (a' := ?_) #[true, false, false, false, false, false, false, false, false, false, false, false, false, false, false, false, false, false, false, false, false, false, false, false] rfl rfl (any_of HT_.out (by kernel_rfl)) (fun _ _ _ h => h) (Or.inl ⟨by rfl, ?_⟩) ?_ ?_
         rotate_left
         ·intro w'
          go_simp
          with_reducible rfl
         rotate_left
         ·refine ps ?_
          rfl
         refine pure_ (i := 2) (N := some 49) (v := ?_) (a' := ?_) #[true, false, true, false, false, false, false, false, false, false, false, false, false, false, false, false, false, false, false, false, false, false, false, false] rfl rfl (any_of HT_.out (by kernel_rfl)) (fun _ _ _ h => h) (Or.inl ⟨by rfl, ?_⟩) ?_ ?_
         rotate_left
         ·intro w'
          go_simp
          with_reducible rfl
         rotate_left
         ·refine ps ?_
          rfl
         refine pure_ (i := 5) (N := some 52) (v := ?_) (a' := ?_) #[true, false, true, false, false, true, false, false, false, false, false, false, false, false, false, false, false, false, false, false, false, false, false, false] rfl rfl (any_of HT_.out (by kernel_rfl)) (fun _ _ _ h => h) (Or.inl ⟨by rfl, ?_⟩) ?_ ?_
         rotate_left
         ·intro w'
          go_simp
          with_reducible rfl
         rotate_left
         ·refine ps ?_
          rfl
         refine pure_ (i := 7) (N := some 54) (v := ?_) (a' := ?_) #[true, false, true, false, false, true, false, true, false, false, false, false, false, false, false, false, false, false, false, false, false, false, false, false] rfl rfl (any_of HT_.out (by kernel_rfl)) (fun _ _ _ h => h) (Or.inl ⟨by rfl, ?_⟩) ?_ ?_
         rotate_left
         ·intro w'
          go_simp
          with_reducible rfl
         rotate_left
         ·refine ps ?_
          rfl
         refine pure_ (i := 8) (N := some 55) (v := ?_) (a' := ?_) #[true, false, true, false, false, true, false, true, true, false, false, false, false, false, false, false, false, false, false, false, false, false, false, false] rfl rfl (any_of HT_.out (by kernel_rfl)) (fun _ _ _ h => h) (Or.inl ⟨by rfl, ?_⟩) ?_ ?_
         rotate_left
         ·intro w'
          go_simp
          with_reducible rfl
         rotate_left
         ·refine ps ?_
          rfl
         refine pure_ (i := 10) (N := some 57) (v := ?_) (a' := ?_) #[true, false, true, false, false, true, false, true, true, false, true, false, false, false, false, false, false, false, false, false, false, false, false, false] rfl rfl (any_of HT_.out (by kernel_rfl)) (fun _ _ _ h => h) (Or.inl ⟨by rfl, ?_⟩) ?_ ?_
         rotate_left
         ·intro w'
          go_simp
          with_reducible rfl
         rotate_left
         ·refine ps ?_
          rfl
         refine pure_ (i := 13) (N := some 60) (v := ?_) (a' := ?_) #[true, false, true, false, false, true, false, true, true, false, true, false, false, true, false, false, false, false, false, false, false, false, false, false] rfl rfl (any_of HT_.out (by kernel_rfl)) (fun _ _ _ h => h) (Or.inl ⟨by rfl, ?_⟩) ?_ ?_
         rotate_left
         ·intro w'
          go_simp
          with_reducible rfl
         rotate_left
         ·refine ps ?_
          rfl
         refine pure_ (i := 14) (N := some 61) (v := ?_) (a' := ?_) #[true, false, true, false, false, true, false, true, true, false, true, false, false, true, true, false, false, false, false, false, false, false, false, false] rfl rfl (any_of HT_.out (by kernel_rfl)) (fun _ _ _ h => h) (Or.inl ⟨by rfl, ?_⟩) ?_ ?_
         rotate_left
         ·intro w'
          go_simp
          with_reducible rfl
         rotate_left
         ·refine ps ?_
          rfl
         refine pure_ (i := 16) (N := some 63) (v := ?_) (a' := ?_) #[true, false, true, false, false, true, false, true, true, false, true, false, false, true, true, false, true, false, false, false, false, false, false, false] rfl rfl (any_of HT_.out (by kernel_rfl)) (fun _ _ _ h => h) (Or.inl ⟨by rfl, ?_⟩) ?_ ?_
         rotate_left
         ·intro w'
          go_simp
          with_reducible rfl
         rotate_left
         ·refine ps ?_
          rfl
         refine pure_ (i := 19) (N := some 66) (v := ?_) (a' := ?_) #[true, false, true, false, false, true, false, true, true, false, true, false, false, true, true, false, true, false, false, true, false, false, false, false] rfl rfl (any_of HT_.out (by kernel_rfl)) (fun _ _ _ h => h) (Or.inl ⟨by rfl, ?_⟩) ?_ ?_
         rotate_left
         ·intro w'
          go_simp
          with_reducible rfl
         rotate_left
         ·refine ps ?_
          rfl
         refine take_ (i := 1) (N := some 48) (v := ?_) (a' := ?_) #[true, true, true, false, false, true, false, true, true, false, true, false, false, true, true, false, true, false, false, true, false, false, false, false] rfl rfl (take_ofW HT_.out HW_.out (by kernel_rfl)) (fun _ _ _ h => h) (Or.inl ⟨by rfl, ?_⟩) hHeld ?_ ?_
         rotate_left
         ·rintro w' ⟨s0, s1, s2, s3, s4, s5, s6, s7, s8, s9, s10, s11, s12, s13, s14, s15, s16, s17, s18, s19, s20, s21, s22⟩
          go_simp
          with_reducible rfl
         rotate_left
         ·refine ps ?_
          rfl
         refine pure_ (i := 3) (N := some 50) (v := ?_) (a' := ?_) #[true, true, true, true, false, true, false, true, true, false, true, false, false, true, true, false, true, false, false, true, false, false, false, false] rfl rfl (any_of HT_.out (by kernel_rfl)) (fun _ _ _ h => h) (Or.inl ⟨by rfl, ?_⟩) ?_ ?_
         rotate_left
         ·intro w'
          go_simp
          with_reducible rfl
         rotate_left
         ·refine ps ?_
          rfl
         refine take_ (i := 4) (N := some 51) (v := ?_) (a' := ?_) #[true, true, true, true, true, true, false, true, true, false, true, false, false, true, true, false, true, false, false, true, false, false, false, false] rfl rfl (take_ofW HT_.out HW_.out (by kernel_rfl)) (fun _ _ _ h => h) (Or.inl ⟨by rfl, ?_⟩) hHeld ?_ ?_
         rotate_left
         ·rintro w' ⟨s0, s1, s2, s3, s4, s5, s6, s7, s8, s9, s10, s11, s12, s13, s14, s15, s16, s17, s18, s19, s20, s21, s22⟩
          go_simp
          with_reducible rfl
         rotate_left
         ·refine ps ?_
          rfl
         refine take_ (i := 6) (N := some 53) (v := ?_) (a' := ?_) #[true, true, true, true, true, true, true, true, true, false, true, false, false, true, true, false, true, false, false, true, false, false, false, false] rfl rfl (take_ofW HT_.out HW_.out (by kernel_rfl)) (fun _ _ _ h => h) (Or.inl ⟨by rfl, ?_⟩) hHeld ?_ ?_
         rotate_left
         ·rintro w' ⟨s0, s1, s2, s3, s4, s5, s6, s7, s8, s9, s10, s11, s12, s13, s14, s15, s16, s17, s18, s19, s20, s21, s22⟩
          go_simp
          with_reducible rfl
         rotate_left
         ·refine ps ?_
          rfl
         refine take_ (i := 9) (N := some 56) (v := ?_) (a' := ?_) #[true, true, true, true, true, true, true, true, true, true, true, false, false, true, true, false, true, false, false, true, false, false, false, false] rfl rfl (take_ofW HT_.out HW_.out (by kernel_rfl)) (fun _ _ _ h => h) (Or.inl ⟨by rfl, ?_⟩) hHeld ?_ ?_
         rotate_left
         ·rintro w' ⟨s0, s1, s2, s3, s4, s5, s6, s7, s8, s9, s10, s11, s12, s13, s14, s15, s16, s17, s18, s19, s20, s21, s22⟩
          go_simp
          with_reducible rfl
         rotate_left
         ·refine ps ?_
          rfl
         refine pure_ (i := 11) (N := some 58) (v := ?_) (a' := ?_) #[true, true, true, true, true, true, true, true, true, true, true, true, false, true, true, false, true, false, false, true, false, false, false, false] rfl rfl (any_of HT_.out (by kernel_rfl)) (fun _ _ _ h => h) (Or.inl ⟨by rfl, ?_⟩) ?_ ?_
         rotate_left
         ·intro w'
          go_simp
          with_reducible rfl
         rotate_left
         ·refine ps ?_
          rfl
         refine take_ (i := 12) (N := some 59) (v := ?_) (a' := ?_) #[true, true, true, true, true, true, true, true, true, true, true, true, true, true, true, false, true, false, false, true, false, false, false, false] rfl rfl (take_ofW HT_.out HW_.out (by kernel_rfl)) (fun _ _ _ h => h) (Or.inl ⟨by rfl, ?_⟩) hHeld ?_ ?_
         rotate_left
         ·rintro w' ⟨s0, s1, s2, s3, s4, s5, s6, s7, s8, s9, s10, s11, s12, s13, s14, s15, s16, s17, s18, s19, s20, s21, s22⟩
          go_simp
          with_reducible rfl
         rotate_left
         ·refine ps ?_
          rfl
         refine take_ (i := 15) (N := some 62) (v := ?_) (a' := ?_) #[true, true, true, true, true, true, true, true, true, true, true, true, true, true, true, true, true, false, false, true, false, false, false, false] rfl rfl (take_ofW HT_.out HW_.out (by kernel_rfl)) (fun _ _ _ h => h) (Or.inl ⟨by rfl, ?_⟩) hHeld ?_ ?_
         rotate_left
         ·rintro w' ⟨s0, s1, s2, s3, s4, s5, s6, s7, s8, s9, s10, s11, s12, s13, s14, s15, s16, s17, s18, s19, s20, s21, s22⟩
          go_simp
          with_reducible rfl
         rotate_left
         ·refine ps ?_
          rfl
         refine pure_ (i := 17) (N := some 64) (v := ?_) (a' := ?_) #[true, true, true, true, true, true, true, true, true, true, true, true, true, true, true, true, true, true, false, true, false, false, false, false] rfl rfl (any_of HT_.out (by kernel_rfl)) (fun _ _ _ h => h) (Or.inl ⟨by rfl, ?_⟩) ?_ ?_
         rotate_left
         ·intro w'
          go_simp
          with_reducible rfl
         rotate_left
         ·refine ps ?_
          rfl
         refine take_ (i := 18) (N := some 65) (v := ?_) (a' := ?_) #[true, true, true, true, true, true, true, true, true, true, true, true, true, true, true, true, true, true, true, true, false, false, false, false] rfl rfl (take_ofW HT_.out HW_.out (by kernel_rfl)) (fun _ _ _ h => h) (Or.inl ⟨by rfl, ?_⟩) hHeld ?_ ?_
         rotate_left
         ·rintro w' ⟨s0, s1, s2, s3, s4, s5, s6, s7, s8, s9, s10, s11, s12, s13, s14, s15, s16, s17, s18, s19, s20, s21, s22⟩
          go_simp
          with_reducible rfl
         rotate_left
         ·refine ps ?_
          rfl
         refine take_ (i := 20) (N := some 67) (v := ?_) (a' := ?_) #[true, true, true, true, true, true, true, true, true, true, true, true, true, true, true, true, true, true, true, true, true, false, false, false] rfl rfl (take_ofW HT_.out HW_.out (by kernel_rfl)) (fun _ _ _ h => h) (Or.inl ⟨by rfl, ?_⟩) hHeld ?_ ?_
         rotate_left
         ·rintro w' ⟨s0, s1, s2, s3, s4, s5, s6, s7, s8, s9, s10, s11, s12, s13, s14, s15, s16, s17, s18, s19, s20, s21, s22⟩
          go_simp
          with_reducible rfl
         rotate_left
         ·refine ps ?_
          rfl
         refine one_ (i := 21) (N := some 68) #[true, true, true, true, true, true, true, true, true, true, true, true, true, true, true, true, true, true, true, true, true, true, false, false] rfl rfl (one_of HT_.out (by kernel_rfl)) (by decide) (fun K hK => ?_)
         refine goes_ Try.func15 (by kernel_rfl) rfl #[.agg #[.int .i64 ((rd_T32 l0_7 x5_2).f0), .int .i64 ((rd_T32 l0_7 x5_2).f1), .int .i64 ((rd_T32 l0_7 x5_2).f2), .int .i64 ((rd_T32 l0_7 x5_2).f3)], .int .i64 a0_1] (by rfl) rfl rfl pm ?_
         with_reducible refine (imageeditorref06_Fade.calls k2 ((rd_T32 l0_7 x5_2).f0) ((rd_T32 l0_7 x5_2).f1) ((rd_T32 l0_7 x5_2).f2) ((rd_T32 l0_7 x5_2).f3) a0_1 t334 t335 t336 t337 _ A24.out).mono ?_
         rintro e w30 ⟨rfl, hb⟩
         have HS11_ := (hb.cell (World.block_lt_of_cell? _ _ (hHeld.2.2.2.2.2.2.2.2.2.2.2.1))).trans (hHeld.2.2.2.2.2.2.2.2.2.2.2.1)
         have HS12_ := (hb.cell (World.block_lt_of_cell? _ _ (hHeld.2.2.2.2.2.2.2.2.2.2.2.2.1))).trans (hHeld.2.2.2.2.2.2.2.2.2.2.2.2.1)
         have HS13_ := (hb.cell (World.block_lt_of_cell? _ _ (hHeld.2.2.2.2.2.2.2.2.2.2.2.2.2.1))).trans (hHeld.2.2.2.2.2.2.2.2.2.2.2.2.2.1)
         have HS14_ := (hb.cell (World.block_lt_of_cell? _ _ (hHeld.2.2.2.2.2.2.2.2.2.2.2.2.2.2.1))).trans (hHeld.2.2.2.2.2.2.2.2.2.2.2.2.2.2.1)
         refine ⟨_, rfl, ?_⟩
         replace HO_329002 := Aside0.mk (Kd.R_below (by (with_reducible repeat (first | apply Kd.R_alloc | apply Kd.R_drewN | apply Kd.R_drew)); exact HO_329002.out) hb)
         replace KA := bb_ KA hb
         replace KB := bb_ KB hb
         replace HB := Aside0.mk (below_step HB.out hb)
         try clear hb
         refine hK.out _ _ ⟨(blk_cell KB.out 0).trans rfl, (blk_cell KB.out 1).trans rfl, (blk_cell KB.out 2).trans rfl, (blk_cell KA.out 0).trans rfl, (blk_cell KA.out 1).trans rfl, (blk_cell KA.out 2).trans rfl, (blk_cell KA.out 3).trans rfl, (blk_cell KA.out 4).trans rfl, (blk_cell KA.out 5).trans rfl, (blk_cell KA.out 6).trans rfl, (blk_cell KA.out 7).trans rfl, HS11_, HS12_, HS13_, HS14_, ((HB.out.cell (World.block_lt_of_cell? w _ hw332_0)).trans hw332_0), ((HB.out.cell (World.block_lt_of_cell? w _ hw332_1)).trans hw332_1), ((HB.out.cell (World.block_lt_of_cell? w _ hw332_2)).trans hw332_2), ((HB.out.cell (World.block_lt_of_cell? w _ hw332_3)).trans hw332_3), ((HB.out.cell (World.block_lt_of_cell? w _ hw333_0)).trans hw333_0), ((HB.out.cell (World.block_lt_of_cell? w _ hw333_1)).trans hw333_1), ((HB.out.cell (World.block_lt_of_cell? w _ hw333_2)).trans hw333_2), ((HB.out.cell (World.block_lt_of_cell? w _ hw333_3)).trans hw333_3)⟩ (fun hHeld => ?_)
         clear hK K
         refine norm_ (a' := ?_) ?_ ?_
         rotate_left
         ·show Act.put _ (some 68) _ = _
          refine ps ?_
          rfl
         refine one_ (i := 22) (N := some 69) #[true, true, true, true, true, true, true, true, true, true, true, true, true, true, true, true, true, true, true, true, true, true, true, false] rfl rfl (one_of HT_.out (by kernel_rfl)) (by decide) (fun K hK => ?_)
         refine goes_ Try.func14 (by kernel_rfl) rfl #[.int .i64 a0_0, .agg #[.int .i64 ((rd_T32 l0_4 x5_2).f0), .int .i64 ((rd_T32 l0_4 x5_2).f1), .int .i64 ((rd_T32 l0_4 x5_2).f2), .int .i64 ((rd_T32 l0_4 x5_2).f3)], .agg #[.int .i64 t334, .int .i64 t335, .int .i64 t336, .int .i64 t337]] (by rfl) rfl rfl pm ?_
         with_reducible refine (blend_Over.calls k2 a0_0 ((rd_T32 l0_4 x5_2).f0) ((rd_T32 l0_4 x5_2).f1) ((rd_T32 l0_4 x5_2).f2) ((rd_T32 l0_4 x5_2).f3) t334 t335 t336 t337 t338 t339 t340 t341 _ A25.out).mono ?_
         rintro e w31 ⟨rfl, hb⟩
         have HS11_ := (hb.cell (World.block_lt_of_cell? _ _ (hHeld.2.2.2.2.2.2.2.2.2.2.2.1))).trans (hHeld.2.2.2.2.2.2.2.2.2.2.2.1)
         have HS12_ := (hb.cell (World.block_lt_of_cell? _ _ (hHeld.2.2.2.2.2.2.2.2.2.2.2.2.1))).trans (hHeld.2.2.2.2.2.2.2.2.2.2.2.2.1)
         have HS13_ := (hb.cell (World.block_lt_of_cell? _ _ (hHeld.2.2.2.2.2.2.2.2.2.2.2.2.2.1))).trans (hHeld.2.2.2.2.2.2.2.2.2.2.2.2.2.1)
         have HS14_ := (hb.cell (World.block_lt_of_cell? _ _ (hHeld.2.2.2.2.2.2.2.2.2.2.2.2.2.2.1))).trans (hHeld.2.2.2.2.2.2.2.2.2.2.2.2.2.2.1)
         refine ⟨_, rfl, ?_⟩
         replace HO_329002 := Aside0.mk (Kd.R_below (by (with_reducible repeat (first | apply Kd.R_alloc | apply Kd.R_drewN | apply Kd.R_drew)); exact HO_329002.out) hb)
         replace KA := bb_ KA hb
         replace KB := bb_ KB hb
         replace HB := Aside0.mk (below_step HB.out hb)
         try clear hb
         refine hK.out _ _ ⟨(blk_cell KB.out 0).trans rfl, (blk_cell KB.out 1).trans rfl, (blk_cell KB.out 2).trans rfl, (blk_cell KA.out 0).trans rfl, (blk_cell KA.out 1).trans rfl, (blk_cell KA.out 2).trans rfl, (blk_cell KA.out 3).trans rfl, (blk_cell KA.out 4).trans rfl, (blk_cell KA.out 5).trans rfl, (blk_cell KA.out 6).trans rfl, (blk_cell KA.out 7).trans rfl, HS11_, HS12_, HS13_, HS14_, ((HB.out.cell (World.block_lt_of_cell? w _ hw332_0)).trans hw332_0), ((HB.out.cell (World.block_lt_of_cell? w _ hw332_1)).trans hw332_1), ((HB.out.cell (World.block_lt_of_cell? w _ hw332_2)).trans hw332_2), ((HB.out.cell (World.block_lt_of_cell? w _ hw332_3)).trans hw332_3), ((HB.out.cell (World.block_lt_of_cell? w _ hw333_0)).trans hw333_0), ((HB.out.cell (World.block_lt_of_cell? w _ hw333_1)).trans hw333_1), ((HB.out.cell (World.block_lt_of_cell? w _ hw333_2)).trans hw333_2), ((HB.out.cell (World.block_lt_of_cell? w _ hw333_3)).trans hw333_3)⟩ (fun hHeld => ?_)
         clear hK K
         refine norm_ (a' := ?_) ?_ ?_
         rotate_left
         ·show Act.put _ (some 69) _ = _
          refine ps ?_
          rfl
         refine pure_ (i := 23) (N := some 70) (v := ?_) (a' := ?_) #[true, true, true, true, true, true, true, true, true, true, true, true, true, true, true, true, true, true, true, true, true, true, true, true] rfl rfl (any_of HT_.out (by kernel_rfl)) (fun _ _ _ h => h) (Or.inl ⟨by rfl, ?_⟩) ?_ ?_
         rotate_left
         ·intro w'
          go_simp
          with_reducible rfl
         rotate_left
         ·refine ps ?_
          rfl
         refine done_ (done_of HT_.out (by kernel_rfl)) ?_
         try go_wp2
         go_ret
         exact ⟨by first | rfl | (simp [errW_none, errW_some] <;> rfl) | (simp [*, errW_none, errW_some] <;> rfl), pb2 HB.out GEA.out GEB.out⟩
        ·rw [if_neg c26] at H
         have c26b0 : (!(((rd_T32 t324 x5_2).f0) == t338) || (!(((rd_T32 t324 x5_2).f1) == t339) || (!(((rd_T32 t324 x5_2).f2) == t340) || (!(((rd_T32 t324 x5_2).f3) == t341))))) = false := by simpa using c26
         clear c26
         have H' := Aside0.mk H
         clear H
         have hnb32 := NBA.out
         have hnc32 := NAB.out
         have hcz33_0 := ci_ KB 0 (.int .i64 t322)
         have hcz33_1 := ci_ KB 1 (.int .i64 t323)
         have hcz33_2 := ci_ KB 2 (.slice Ao11 t324.length co11)
         have hfz33_0 := blk_frozen KB.out 0
         have hfz33_1 := blk_frozen KB.out 1
         have hfz33_2 := blk_frozen KB.out 2
         try go_wp2
         replace HO_329002 := Aside0.mk (Kd.R_drew HO_329002.out)
         replace KA := Aside0.mk (blk_drew KA.out)
         replace KB := Aside0.mk (blk_drew KB.out)
         replace HB := Aside0.mk (below_drew1 HB.out)
         have p331 : 0 ≤ (x5_2 : Int) := of_decide_eq_true (by first | (with_reducible assumption) | assumption)
         have q331 : x5_2 < (t324.length : Int) := of_decide_eq_true (by first | (with_reducible assumption) | assumption)
         obtain ⟨ad331, e331, hx331_0, hx331_1, hx331_2, hx331_3⟩ := at_T32 (Kd.R_reads' HO_329002.out).2.2 x5_2 p331 q331
         cases e331
         replace p331 := eq_true p331
         replace q331 := eq_true q331
         have p332 : 0 ≤ (x5_2 : Int) := of_decide_eq_true (by first | (with_reducible assumption) | assumption)
         have q332 : x5_2 < (l0_4.length : Int) := of_decide_eq_true (by first | (with_reducible assumption) | assumption)
         obtain ⟨ad332, e332, hx332_0, hx332_1, hx332_2, hx332_3⟩ := at_T32 HR0_4.out x5_2 p332 q332
         have hw332_3 := hx332_3
         have hw332_2 := hx332_2
         have hw332_1 := hx332_1
         have hw332_0 := hx332_0
         cases e332
         replace hx332_0 := (HB.out.cell (World.block_lt_of_cell? w _ hx332_0)).trans hx332_0
         replace hx332_1 := (HB.out.cell (World.block_lt_of_cell? w _ hx332_1)).trans hx332_1
         replace hx332_2 := (HB.out.cell (World.block_lt_of_cell? w _ hx332_2)).trans hx332_2
         replace hx332_3 := (HB.out.cell (World.block_lt_of_cell? w _ hx332_3)).trans hx332_3
         replace p332 := eq_true p332
         replace q332 := eq_true q332
         have p333 : 0 ≤ (x5_2 : Int) := of_decide_eq_true (by first | (with_reducible assumption) | assumption)
         have q333 : x5_2 < (l0_7.length : Int) := of_decide_eq_true (by first | (with_reducible assumption) | assumption)
         obtain ⟨ad333, e333, hx333_0, hx333_1, hx333_2, hx333_3⟩ := at_T32 HR0_7.out x5_2 p333 q333
         have hw333_3 := hx333_3
         have hw333_2 := hx333_2
         have hw333_1 := hx333_1
         have hw333_0 := hx333_0
         cases e333
         replace hx333_0 := (HB.out.cell (World.block_lt_of_cell? w _ hx333_0)).trans hx333_0
         replace hx333_1 := (HB.out.cell (World.block_lt_of_cell? w _ hx333_1)).trans hx333_1
         replace hx333_2 := (HB.out.cell (World.block_lt_of_cell? w _ hx333_2)).trans hx333_2
         replace hx333_3 := (HB.out.cell (World.block_lt_of_cell? w _ hx333_3)).trans hx333_3
         replace p333 := eq_true p333
         replace q333 := eq_true q333
         refine start_ (n := 24) (S := fun w' => w'.cell? ⟨gB, 0, none⟩ = some (.int .i64 t322) ∧ w'.cell? ⟨gB, 1, none⟩ = some (.int .i64 t323) ∧ w'.cell? ⟨gB, 2, none⟩ = some (.slice (some ad331) t324.length co11) ∧ w'.cell? ⟨gA, 0, none⟩ = some (.int .i64 a0_0) ∧ w'.cell? ⟨gA, 1, none⟩ = some (.int .i64 a0_1) ∧ w'.cell? ⟨gA, 2, none⟩ = some (.int .i64 a0_2) ∧ w'.cell? ⟨gA, 3, none⟩ = some (.int .i64 a0_3) ∧ w'.cell? ⟨gA, 4, none⟩ = some (.slice (some ad332) l0_4.length c0_4) ∧ w'.cell? ⟨gA, 5, none⟩ = some (.int .i64 a0_5) ∧ w'.cell? ⟨gA, 6, none⟩ = some (.int .i64 a0_6) ∧ w'.cell? ⟨gA, 7, none⟩ = some (.slice (some ad333) l0_7.length c0_7) ∧ w'.cell? (ad331.add ((x5_2).toNat * 4)) = some (.int .i64 ((rd_T32 t324 x5_2).f0)) ∧ w'.cell? ⟨(ad331.add ((x5_2).toNat * 4)).block, (ad331.add ((x5_2).toNat * 4)).off + 1, none⟩ = some (.int .i64 ((rd_T32 t324 x5_2).f1)) ∧ w'.cell? ⟨(ad331.add ((x5_2).toNat * 4)).block, (ad331.add ((x5_2).toNat * 4)).off + 2, none⟩ = some (.int .i64 ((rd_T32 t324 x5_2).f2)) ∧ w'.cell? ⟨(ad331.add ((x5_2).toNat * 4)).block, (ad331.add ((x5_2).toNat * 4)).off + 3, none⟩ = some (.int .i64 ((rd_T32 t324 x5_2).f3)) ∧ w'.cell? (ad332.add ((x5_2).toNat * 4)) = some (.int .i64 ((rd_T32 l0_4 x5_2).f0)) ∧ w'.cell? ⟨(ad332.add ((x5_2).toNat * 4)).block, (ad332.add ((x5_2).toNat * 4)).off + 1, none⟩ = some (.int .i64 ((rd_T32 l0_4 x5_2).f1)) ∧ w'.cell? ⟨(ad332.add ((x5_2).toNat * 4)).block, (ad332.add ((x5_2).toNat * 4)).off + 2, none⟩ = some (.int .i64 ((rd_T32 l0_4 x5_2).f2)) ∧ w'.cell? ⟨(ad332.add ((x5_2).toNat * 4)).block, (ad332.add ((x5_2).toNat * 4)).off + 3, none⟩ = some (.int .i64 ((rd_T32 l0_4 x5_2).f3)) ∧ w'.cell? (ad333.add ((x5_2).toNat * 4)) = some (.int .i64 ((rd_T32 l0_7 x5_2).f0)) ∧ w'.cell? ⟨(ad333.add ((x5_2).toNat * 4)).block, (ad333.add ((x5_2).toNat * 4)).off + 1, none⟩ = some (.int .i64 ((rd_T32 l0_7 x5_2).f1)) ∧ w'.cell? ⟨(ad333.add ((x5_2).toNat * 4)).block, (ad333.add ((x5_2).toNat * 4)).off + 2, none⟩ = some (.int .i64 ((rd_T32 l0_7 x5_2).f2)) ∧ w'.cell? ⟨(ad333.add ((x5_2).toNat * 4)).block, (ad333.add ((x5_2).toNat * 4)).off + 3, none⟩ = some (.int .i64 ((rd_T32 l0_7 x5_2).f3))) (ds := []) #[false, false, false, false, false, false, false, false, false, false, false, false, false, false, false, false, false, false, false, false, false, false, false, false] (by kernel_rfl) rfl rfl ⟨(blk_cell KB.out 0).trans rfl, (blk_cell KB.out 1).trans rfl, (blk_cell KB.out 2).trans rfl, (blk_cell KA.out 0).trans rfl, (blk_cell KA.out 1).trans rfl, (blk_cell KA.out 2).trans rfl, (blk_cell KA.out 3).trans rfl, (blk_cell KA.out 4).trans rfl, (blk_cell KA.out 5).trans rfl, (blk_cell KA.out 6).trans rfl, (blk_cell KA.out 7).trans rfl, hx331_0, hx331_1, hx331_2, hx331_3, ((HB.out.cell (World.block_lt_of_cell? w _ hw332_0)).trans hw332_0), ((HB.out.cell (World.block_lt_of_cell? w _ hw332_1)).trans hw332_1), ((HB.out.cell (World.block_lt_of_cell? w _ hw332_2)).trans hw332_2), ((HB.out.cell (World.block_lt_of_cell? w _ hw332_3)).trans hw332_3), ((HB.out.cell (World.block_lt_of_cell? w _ hw333_0)).trans hw333_0), ((HB.out.cell (World.block_lt_of_cell? w _ hw333_1)).trans hw333_1), ((HB.out.cell (World.block_lt_of_cell? w _ hw333_2)).trans hw333_2), ((HB.out.cell (World.block_lt_of_cell? w _ hw333_3)).trans hw333_3)⟩ (fun hHeld => ?_); refine with_tabW imageeditorlaw10_BlendParts.tab9 imageeditorlaw10_BlendParts.bits9 (fun HT_ HW_ => ?_)
         generalize wr.drew = w34 at HO_329002 KA KB HB hx331_0 hx331_1 hx331_2 hx331_3 hx332_0 hx332_1 hx332_2 hx332_3 hx333_0 hx333_1 hx333_2 hx333_3 hHeld ⊢
         refine pure_ (i := 0) (N := some 47) (v := ?_) (a' := ?_) #[true, false, false, false, false, false, false, false, false, false, false, false, false, false, false, false, false, false, false, false, false, false, false, false] rfl rfl (any_of HT_.out (by kernel_rfl)) (fun _ _ _ h => h) (Or.inl ⟨by rfl, ?_⟩) ?_ ?_
         rotate_left
         ·intro w'
          go_simp
          with_reducible rfl
         rotate_left
         ·refine ps ?_
          rfl
         refine pure_ (i := 2) (N := some 49) (v := ?_) (a' := ?_) #[true, false, true, false, false, false, false, false, false, false, false, false, false, false, false, false, false, false, false, false, false, false, false, false] rfl rfl (any_of HT_.out (by kernel_rfl)) (fun _ _ _ h => h) (Or.inl ⟨by rfl, ?_⟩) ?_ ?_
         rotate_left
         ·intro w'
          go_simp
          with_reducible rfl
         rotate_left
         ·refine ps ?_
          rfl
         refine pure_ (i := 5) (N := some 52) (v := ?_) (a' := ?_) #[true, false, true, false, false, true, false, false, false, false, false, false, false, false, false, false, false, false, false, false, false, false, false, false] rfl rfl (any_of HT_.out (by kernel_rfl)) (fun _ _ _ h => h) (Or.inl ⟨by rfl, ?_⟩) ?_ ?_
         rotate_left
         ·intro w'
          go_simp
          with_reducible rfl
         rotate_left
         ·refine ps ?_
          rfl
         refine pure_ (i := 7) (N := some 54) (v := ?_) (a' := ?_) #[true, false, true, false, false, true, false, true, false, false, false, false, false, false, false, false, false, false, false, false, false, false, false, false] rfl rfl (any_of HT_.out (by kernel_rfl)) (fun _ _ _ h => h) (Or.inl ⟨by rfl, ?_⟩) ?_ ?_
         rotate_left
         ·intro w'
          go_simp
          with_reducible rfl
         rotate_left
         ·refine ps ?_
          rfl
         refine pure_ (i := 8) (N := some 55) (v := ?_) (a' := ?_) #[true, false, true, false, false, true, false, true, true, false, false, false, false, false, false, false, false, false, false, false, false, false, false, false] rfl rfl (any_of HT_.out (by kernel_rfl)) (fun _ _ _ h => h) (Or.inl ⟨by rfl, ?_⟩) ?_ ?_
         rotate_left
         ·intro w'
          go_simp
          with_reducible rfl
         rotate_left
         ·refine ps ?_
          rfl
         refine pure_ (i := 10) (N := some 57) (v := ?_) (a' := ?_) #[true, false, true, false, false, true, false, true, true, false, true, false, false, false, false, false, false, false, false, false, false, false, false, false] rfl rfl (any_of HT_.out (by kernel_rfl)) (fun _ _ _ h => h) (Or.inl ⟨by rfl, ?_⟩) ?_ ?_
         rotate_left
         ·intro w'
          go_simp
          with_reducible rfl
         rotate_left
         ·refine ps ?_
          rfl
         refine pure_ (i := 13) (N := some 60) (v := ?_) (a' := ?_) #[true, false, true, false, false, true, false, true, true, false, true, false, false, true, false, false, false, false, false, false, false, false, false, false] rfl rfl (any_of HT_.out (by kernel_rfl)) (fun _ _ _ h => h) (Or.inl ⟨by rfl, ?_⟩) ?_ ?_
         rotate_left
         ·intro w'
          go_simp
          with_reducible rfl
         rotate_left
         ·refine ps ?_
          rfl
         refine pure_ (i := 14) (N := some 61) (v := ?_) (a' := ?_) #[true, false, true, false, false, true, false, true, true, false, true, false, false, true, true, false, false, false, false, false, false, false, false, false] rfl rfl (any_of HT_.out (by kernel_rfl)) (fun _ _ _ h => h) (Or.inl ⟨by rfl, ?_⟩) ?_ ?_
         rotate_left
         ·intro w'
          go_simp
          with_reducible rfl
         rotate_left
         ·refine ps ?_
          rfl
         refine pure_ (i := 16) (N := some 63) (v := ?_) (a' := ?_) #[true, false, true, false, false, true, false, true, true, false, true, false, false, true, true, false, true, false, false, false, false, false, false, false] rfl rfl (any_of HT_.out (by kernel_rfl)) (fun _ _ _ h => h) (Or.inl ⟨by rfl, ?_⟩) ?_ ?_
         rotate_left
         ·intro w'
          go_simp
          with_reducible rfl
         rotate_left
         ·refine ps ?_
          rfl
         refine pure_ (i := 19) (N := some 66) (v := ?_) (a' := ?_) #[true, false, true, false, false, true, false, true, true, false, true, false, false, true, true, false, true, false, false, true, false, false, false, false] rfl rfl (any_of HT_.out (by kernel_rfl)) (fun _ _ _ h => h) (Or.inl ⟨by rfl, ?_⟩) ?_ ?_
         rotate_left
         ·intro w'
          go_simp
          with_reducible rfl
         rotate_left
         ·refine ps ?_
          rfl
         refine take_ (i := 1) (N := some 48) (v := ?_) (a' := ?_) #[true, true, true, false, false, true, false, true, true, false, true, false, false, true, true, false, true, false, false, true, false, false, false, false] rfl rfl (take_ofW HT_.out HW_.out (by kernel_rfl)) (fun _ _ _ h => h) (Or.inl ⟨by rfl, ?_⟩) hHeld ?_ ?_
         rotate_left
         ·rintro w' ⟨s0, s1, s2, s3, s4, s5, s6, s7, s8, s9, s10, s11, s12, s13, s14, s15, s16, s17, s18, s19, s20, s21, s22⟩
          go_simp
          with_reducible rfl
         rotate_left
         ·refine ps ?_
          rfl
         refine pure_ (i := 3) (N := some 50) (v := ?_) (a' := ?_) #[true, true, true, true, false, true, false, true, true, false, true, false, false, true, true, false, true, false, false, true, false, false, false, false] rfl rfl (any_of HT_.out (by kernel_rfl)) (fun _ _ _ h => h) (Or.inl ⟨by rfl, ?_⟩) ?_ ?_
         rotate_left
         ·intro w'
          go_simp
          with_reducible rfl
         rotate_left
         ·refine ps ?_
          rfl
         refine take_ (i := 4) (N := some 51) (v := ?_) (a' := ?_) #[true, true, true, true, true, true, false, true, true, false, true, false, false, true, true, false, true, false, false, true, false, false, false, false] rfl rfl (take_ofW HT_.out HW_.out (by kernel_rfl)) (fun _ _ _ h => h) (Or.inl ⟨by rfl, ?_⟩) hHeld ?_ ?_
         rotate_left
         ·rintro w' ⟨s0, s1, s2, s3, s4, s5, s6, s7, s8, s9, s10, s11, s12, s13, s14, s15, s16, s17, s18, s19, s20, s21, s22⟩
          go_simp
          with_reducible rfl
         rotate_left
         ·refine ps ?_
          rfl
         refine take_ (i := 6) (N := some 53) (v := ?_) (a' := ?_) #[true, true, true, true, true, true, true, true, true, false, true, false, false, true, true, false, true, false, false, true, false, false, false, false] rfl rfl (take_ofW HT_.out HW_.out (by kernel_rfl)) (fun _ _ _ h => h) (Or.inl ⟨by rfl, ?_⟩) hHeld ?_ ?_
         rotate_left
         ·rintro w' ⟨s0, s1, s2, s3, s4, s5, s6, s7, s8, s9, s10, s11, s12, s13, s14, s15, s16, s17, s18, s19, s20, s21, s22⟩
          go_simp
          with_reducible rfl
         rotate_left
         ·refine ps ?_
          rfl
         refine take_ (i := 9) (N := some 56) (v := ?_) (a' := ?_) #[true, true, true, true, true, true, true, true, true, true, true, false, false, true, true, false, true, false, false, true, false, false, false, false] rfl rfl (take_ofW HT_.out HW_.out (by kernel_rfl)) (fun _ _ _ h => h) (Or.inl ⟨by rfl, ?_⟩) hHeld ?_ ?_
         rotate_left
         ·rintro w' ⟨s0, s1, s2, s3, s4, s5, s6, s7, s8, s9, s10, s11, s12, s13, s14, s15, s16, s17, s18, s19, s20, s21, s22⟩
          go_simp
          with_reducible rfl
         rotate_left
         ·refine ps ?_
          rfl
         refine pure_ (i := 11) (N := some 58) (v := ?_) (a' := ?_) #[true, true, true, true, true, true, true, true, true, true, true, true, false, true, true, false, true, false, false, true, false, false, false, false] rfl rfl (any_of HT_.out (by kernel_rfl)) (fun _ _ _ h => h) (Or.inl ⟨by rfl, ?_⟩) ?_ ?_
         rotate_left
         ·intro w'
          go_simp
          with_reducible rfl
         rotate_left
         ·refine ps ?_
          rfl
         refine take_ (i := 12) (N := some 59) (v := ?_) (a' := ?_) #[true, true, true, true, true, true, true, true, true, true, true, true, true, true, true, false, true, false, false, true, false, false, false, false] rfl rfl (take_ofW HT_.out HW_.out (by kernel_rfl)) (fun _ _ _ h => h) (Or.inl ⟨by rfl, ?_⟩) hHeld ?_ ?_
         rotate_left
         ·rintro w' ⟨s0, s1, s2, s3, s4, s5, s6, s7, s8, s9, s10, s11, s12, s13, s14, s15, s16, s17, s18, s19, s20, s21, s22⟩
          go_simp
          with_reducible rfl
         rotate_left
         ·refine ps ?_
          rfl
         refine take_ (i := 15) (N := some 62) (v := ?_) (a' := ?_) #[true, true, true, true, true, true, true, true, true, true, true, true, true, true, true, true, true, false, false, true, false, false, false, false] rfl rfl (take_ofW HT_.out HW_.out (by kernel_rfl)) (fun _ _ _ h => h) (Or.inl ⟨by rfl, ?_⟩) hHeld ?_ ?_
         rotate_left
         ·rintro w' ⟨s0, s1, s2, s3, s4, s5, s6, s7, s8, s9, s10, s11, s12, s13, s14, s15, s16, s17, s18, s19, s20, s21, s22⟩
          go_simp
          with_reducible rfl
         rotate_left
         ·refine ps ?_
          rfl
         refine pure_ (i := 17) (N := some 64) (v := ?_) (a' := ?_) #[true, true, true, true, true, true, true, true, true, true, true, true, true, true, true, true, true, true, false, true, false, false, false, false] rfl rfl (any_of HT_.out (by kernel_rfl)) (fun _ _ _ h => h) (Or.inl ⟨by rfl, ?_⟩) ?_ ?_
         rotate_left
         ·intro w'
          go_simp
          with_reducible rfl
         rotate_left
         ·refine ps ?_
          rfl
         refine take_ (i := 18) (N := some 65) (v := ?_) (a' := ?_) #[true, true, true, true, true, true, true, true, true, true, true, true, true, true, true, true, true, true, true, true, false, false, false, false] rfl rfl (take_ofW HT_.out HW_.out (by kernel_rfl)) (fun _ _ _ h => h) (Or.inl ⟨by rfl, ?_⟩) hHeld ?_ ?_
         rotate_left
         ·rintro w' ⟨s0, s1, s2, s3, s4, s5, s6, s7, s8, s9, s10, s11, s12, s13, s14, s15, s16, s17, s18, s19, s20, s21, s22⟩
          go_simp
          with_reducible rfl
         rotate_left
         ·refine ps ?_
          rfl
         refine take_ (i := 20) (N := some 67) (v := ?_) (a' := ?_) #[true, true, true, true, true, true, true, true, true, true, true, true, true, true, true, true, true, true, true, true, true, false, false, false] rfl rfl (take_ofW HT_.out HW_.out (by kernel_rfl)) (fun _ _ _ h => h) (Or.inl ⟨by rfl, ?_⟩) hHeld ?_ ?_
         rotate_left
         ·rintro w' ⟨s0, s1, s2, s3, s4, s5, s6, s7, s8, s9, s10, s11, s12, s13, s14, s15, s16, s17, s18, s19, s20, s21, s22⟩
          go_simp
          with_reducible rfl
         rotate_left
         ·refine ps ?_
          rfl
         refine one_ (i := 21) (N := some 68) #[true, true, true, true, true, true, true, true, true, true, true, true, true, true, true, true, true, true, true, true, true, true, false, false] rfl rfl (one_of HT_.out (by kernel_rfl)) (by decide) (fun K hK => ?_)
         refine goes_ Try.func15 (by kernel_rfl) rfl #[.agg #[.int .i64 ((rd_T32 l0_7 x5_2).f0), .int .i64 ((rd_T32 l0_7 x5_2).f1), .int .i64 ((rd_T32 l0_7 x5_2).f2), .int .i64 ((rd_T32 l0_7 x5_2).f3)], .int .i64 a0_1] (by rfl) rfl rfl pm ?_
         with_reducible refine (imageeditorref06_Fade.calls k2 ((rd_T32 l0_7 x5_2).f0) ((rd_T32 l0_7 x5_2).f1) ((rd_T32 l0_7 x5_2).f2) ((rd_T32 l0_7 x5_2).f3) a0_1 t334 t335 t336 t337 _ A24.out).mono ?_
         rintro e w35 ⟨rfl, hb⟩
         have HS11_ := (hb.cell (World.block_lt_of_cell? _ _ (hHeld.2.2.2.2.2.2.2.2.2.2.2.1))).trans (hHeld.2.2.2.2.2.2.2.2.2.2.2.1)
         have HS12_ := (hb.cell (World.block_lt_of_cell? _ _ (hHeld.2.2.2.2.2.2.2.2.2.2.2.2.1))).trans (hHeld.2.2.2.2.2.2.2.2.2.2.2.2.1)
         have HS13_ := (hb.cell (World.block_lt_of_cell? _ _ (hHeld.2.2.2.2.2.2.2.2.2.2.2.2.2.1))).trans (hHeld.2.2.2.2.2.2.2.2.2.2.2.2.2.1)
         have HS14_ := (hb.cell (World.block_lt_of_cell? _ _ (hHeld.2.2.2.2.2.2.2.2.2.2.2.2.2.2.1))).trans (hHeld.2.2.2.2.2.2.2.2.2.2.2.2.2.2.1)
         refine ⟨_, rfl, ?_⟩
         replace HO_329002 := Aside0.mk (Kd.R_below (by (with_reducible repeat (first | apply Kd.R_alloc | apply Kd.R_drewN | apply Kd.R_drew)); exact HO_329002.out) hb)
         replace KA := bb_ KA hb
         replace KB := bb_ KB hb
         replace HB := Aside0.mk (below_step HB.out hb)
         try clear hb
         refine hK.out _ _ ⟨(blk_cell KB.out 0).trans rfl, (blk_cell KB.out 1).trans rfl, (blk_cell KB.out 2).trans rfl, (blk_cell KA.out 0).trans rfl, (blk_cell KA.out 1).trans rfl, (blk_cell KA.out 2).trans rfl, (blk_cell KA.out 3).trans rfl, (blk_cell KA.out 4).trans rfl, (blk_cell KA.out 5).trans rfl, (blk_cell KA.out 6).trans rfl, (blk_cell KA.out 7).trans rfl, HS11_, HS12_, HS13_, HS14_, ((HB.out.cell (World.block_lt_of_cell? w _ hw332_0)).trans hw332_0), ((HB.out.cell (World.block_lt_of_cell? w _ hw332_1)).trans hw332_1), ((HB.out.cell (World.block_lt_of_cell? w _ hw332_2)).trans hw332_2), ((HB.out.cell (World.block_lt_of_cell? w _ hw332_3)).trans hw332_3), ((HB.out.cell (World.block_lt_of_cell? w _ hw333_0)).trans hw333_0), ((HB.out.cell (World.block_lt_of_cell? w _ hw333_1)).trans hw333_1), ((HB.out.cell (World.block_lt_of_cell? w _ hw333_2)).trans hw333_2), ((HB.out.cell (World.block_lt_of_cell? w _ hw333_3)).trans hw333_3)⟩ (fun hHeld => ?_)
         clear hK K
         refine norm_ (a' := ?_) ?_ ?_
         rotate_left
         ·show Act.put _ (some 68) _ = _
          refine ps ?_
          rfl
         refine one_ (i := 22) (N := some 69) #[true, true, true, true, true, true, true, true, true, true, true, true, true, true, true, true, true, true, true, true, true, true, true, false] rfl rfl (one_of HT_.out (by kernel_rfl)) (by decide) (fun K hK => ?_)
         refine goes_ Try.func14 (by kernel_rfl) rfl #[.int .i64 a0_0, .agg #[.int .i64 ((rd_T32 l0_4 x5_2).f0), .int .i64 ((rd_T32 l0_4 x5_2).f1), .int .i64 ((rd_T32 l0_4 x5_2).f2), .int .i64 ((rd_T32 l0_4 x5_2).f3)], .agg #[.int .i64 t334, .int .i64 t335, .int .i64 t336, .int .i64 t337]] (by rfl) rfl rfl pm ?_
         with_reducible refine (blend_Over.calls k2 a0_0 ((rd_T32 l0_4 x5_2).f0) ((rd_T32 l0_4 x5_2).f1) ((rd_T32 l0_4 x5_2).f2) ((rd_T32 l0_4 x5_2).f3) t334 t335 t336 t337 t338 t339 t340 t341 _ A25.out).mono ?_
         rintro e w36 ⟨rfl, hb⟩
         have HS11_ := (hb.cell (World.block_lt_of_cell? _ _ (hHeld.2.2.2.2.2.2.2.2.2.2.2.1))).trans (hHeld.2.2.2.2.2.2.2.2.2.2.2.1)
         have HS12_ := (hb.cell (World.block_lt_of_cell? _ _ (hHeld.2.2.2.2.2.2.2.2.2.2.2.2.1))).trans (hHeld.2.2.2.2.2.2.2.2.2.2.2.2.1)
         have HS13_ := (hb.cell (World.block_lt_of_cell? _ _ (hHeld.2.2.2.2.2.2.2.2.2.2.2.2.2.1))).trans (hHeld.2.2.2.2.2.2.2.2.2.2.2.2.2.1)
         have HS14_ := (hb.cell (World.block_lt_of_cell? _ _ (hHeld.2.2.2.2.2.2.2.2.2.2.2.2.2.2.1))).trans (hHeld.2.2.2.2.2.2.2.2.2.2.2.2.2.2.1)
         refine ⟨_, rfl, ?_⟩
         replace HO_329002 := Aside0.mk (Kd.R_below (by (with_reducible repeat (first | apply Kd.R_alloc | apply Kd.R_drewN | apply Kd.R_drew)); exact HO_329002.out) hb)
         replace KA := bb_ KA hb
         replace KB := bb_ KB hb
         replace HB := Aside0.mk (below_step HB.out hb)
         try clear hb
         refine hK.out _ _ ⟨(blk_cell KB.out 0).trans rfl, (blk_cell KB.out 1).trans rfl, (blk_cell KB.out 2).trans rfl, (blk_cell KA.out 0).trans rfl, (blk_cell KA.out 1).trans rfl, (blk_cell KA.out 2).trans rfl, (blk_cell KA.out 3).trans rfl, (blk_cell KA.out 4).trans rfl, (blk_cell KA.out 5).trans rfl, (blk_cell KA.out 6).trans rfl, (blk_cell KA.out 7).trans rfl, HS11_, HS12_, HS13_, HS14_, ((HB.out.cell (World.block_lt_of_cell? w _ hw332_0)).trans hw332_0), ((HB.out.cell (World.block_lt_of_cell? w _ hw332_1)).trans hw332_1), ((HB.out.cell (World.block_lt_of_cell? w _ hw332_2)).trans hw332_2), ((HB.out.cell (World.block_lt_of_cell? w _ hw332_3)).trans hw332_3), ((HB.out.cell (World.block_lt_of_cell? w _ hw333_0)).trans hw333_0), ((HB.out.cell (World.block_lt_of_cell? w _ hw333_1)).trans hw333_1), ((HB.out.cell (World.block_lt_of_cell? w _ hw333_2)).trans hw333_2), ((HB.out.cell (World.block_lt_of_cell? w _ hw333_3)).trans hw333_3)⟩ (fun hHeld => ?_)
         clear hK K
         refine norm_ (a' := ?_) ?_ ?_
         rotate_left
         ·show Act.put _ (some 69) _ = _
          refine ps ?_
          rfl
         refine pure_ (i := 23) (N := some 70) (v := ?_) (a' := ?_) #[true, true, true, true, true, true, true, true, true, true, true, true, true, true, true, true, true, true, true, true, true, true, true, true] rfl rfl (any_of HT_.out (by kernel_rfl)) (fun _ _ _ h => h) (Or.inl ⟨by rfl, ?_⟩) ?_ ?_
         rotate_left
         ·intro w'
          go_simp
          with_reducible rfl
         rotate_left
         ·refine ps ?_
          rfl
         refine done_ (done_of HT_.out (by kernel_rfl)) ?_
         try go_wp2
         go_roundg k2
         case measure => have := HJ3.out; have := HK2.out; omega
         case rel => exact ⟨(wrap64 (x5_2 + 1)), (by first | rfl | (simp; done) | (simp [*]; done)), H', ⟨by have := HJ3.out; have := HK2.out; omega⟩, ⟨by (with_reducible repeat (first | apply Kd.R_alloc | apply Kd.R_drewN | apply Kd.R_drew)); exact HO_329002.out⟩, ⟨pl KA.out⟩, ⟨pl KB.out⟩, ⟨pb2 HB.out GEA.out GEB.out⟩⟩
       ·rw [if_neg c20] at H
        have c20b0 : decide (x5_2 < (t324.length : Int)) = false := decide_eq_false c20
        clear c20
        replace H := Option.bind_eq_some_iff.mp H
        obtain ⟨t330, A370, H⟩ := H
        replace H : (some t330) = some r := H
        have A37 := Aside0.mk A370
        clear A370
        obtain rfl := Option.some.inj H
        have hnb38 := NBA.out
        have hnc38 := NAB.out
        have hcz39_0 := ci_ KB 0 (.int .i64 t322)
        have hcz39_1 := ci_ KB 1 (.int .i64 t323)
        have hcz39_2 := ci_ KB 2 (.slice Ao11 t324.length co11)
        have hfz39_0 := blk_frozen KB.out 0
        have hfz39_1 := blk_frozen KB.out 1
        have hfz39_2 := blk_frozen KB.out 2
        go_wp2_with (first | ((with_reducible refine gate_callee (f := 13) rfl ?_); refine goesL_ (some 71) rfl rfl Try.func13 (by kernel_rfl) rfl #[] rfl pm ?_; (with_reducible refine (imageeditorlaw10_example.calls k2  t330 _ A37.out).mono ?_); rintro e w40 ⟨rfl, hb⟩; refine ⟨_, rfl, ?_⟩; replace HO_329002 := Aside0.mk (Kd.R_below (by (with_reducible repeat (first | apply Kd.R_alloc | apply Kd.R_drewN | apply Kd.R_drew)); exact HO_329002.out) hb); replace KA := bp_ KA hb; replace KB := bp_ KB hb; replace HB := Aside0.mk (below_step (pb2 HB.out GEA.out GEB.out) hb); (try clear hb); (try clear hb2); (try clear hk); (try clear hi)))
        go_ret
        exact ⟨by first | rfl | (simp [errW_none, errW_some] <;> rfl) | (simp [*, errW_none, errW_some] <;> rfl), pb2 HB.out GEA.out GEB.out⟩
 ·rw [if_neg c3] at H
  have c3b0 : (t327 == 0) = false := beq_eq_false_iff_ne.mpr c3
  have c3b1 : (t327 != 0) = true := bne_iff_ne.mpr c3
  replace H := Option.bind_eq_some_iff.mp H
  obtain ⟨t329, A410, H⟩ := H
  replace H : (some t329) = some r := H
  have A41 := Aside0.mk A410
  clear A410
  obtain rfl := Option.some.inj H
  go_enter Try.func3, Try.ntmps3
  go_wp2_with (first | ((with_reducible refine gate_dst (N := 1) rfl ?_); refine box_event ?hg (N := 1) ?hd (cs := #[.int .i64 a0_0, .int .i64 a0_1, .int .i64 a0_2, .int .i64 a0_3, .slice A0_4 l0_4.length c0_4, .int .i64 a0_5, .int .i64 a0_6, .slice A0_7 l0_7.length c0_7]) (t := 26) ?hr ?_; (case hd => rfl); (case hg => rfl); (case hr => first | (go_simp; done) | (go_simp; rfl)); intro gA hg w42 hbox hb; have KA := Aside0.mk hbox; have GWA := ge_ hg (pb HB.out); have GEA := ge_ hg (pb HB.out); replace HB := Aside0.mk (below_step (pb HB.out) hb); clear hb hbox hg; have hcz43_0 := ci_ KA 0 (.int .i64 a0_0); have hcz43_1 := ci_ KA 1 (.int .i64 a0_1); have hcz43_2 := ci_ KA 2 (.int .i64 a0_2); have hcz43_3 := ci_ KA 3 (.int .i64 a0_3); have hcz43_4 := ci_ KA 4 (.slice A0_4 l0_4.length c0_4); have hcz43_5 := ci_ KA 5 (.int .i64 a0_5); have hcz43_6 := ci_ KA 6 (.int .i64 a0_6); have hcz43_7 := ci_ KA 7 (.slice A0_7 l0_7.length c0_7); have hfz43_0 := blk_frozen KA.out 0; have hfz43_1 := blk_frozen KA.out 1; have hfz43_2 := blk_frozen KA.out 2; have hfz43_3 := blk_frozen KA.out 3; have hfz43_4 := blk_frozen KA.out 4; have hfz43_5 := blk_frozen KA.out 5; have hfz43_6 := blk_frozen KA.out 6; have hfz43_7 := blk_frozen KA.out 7) | ((with_reducible refine gate_callee (f := 12) rfl ?_); refine goesL_ (some 15) rfl rfl Try.func12 (by kernel_rfl) rfl #[.int .i64 a0_0, .int .i64 a0_1, .agg #[.int .i64 a0_2, .int .i64 a0_3, .slice A0_4 l0_4.length c0_4], .agg #[.int .i64 a0_5, .int .i64 a0_6, .slice A0_7 l0_7.length c0_7]] rfl pm ?_; (with_reducible refine (blend_Image.calls k a0_0 a0_1 a0_2 a0_3 _ _ l0_4 a0_5 a0_6 _ _ l0_7 t322 t323 t324 t327 _ ?side1 ?side2 ?side3 ?side4 A2.out).mono ?_); (case side1 => repeat (first | exact (Kd.C_below HR0_4.out HB.out) | (with_reducible refine Kd.C_alloc ?_ _) | (with_reducible refine Kd.C_drewN ?_ _) | (with_reducible refine Kd.C_drew ?_))); (case side2 => exact HC0_4.out); (case side3 => repeat (first | exact (Kd.C_below HR0_7.out HB.out) | (with_reducible refine Kd.C_alloc ?_ _) | (with_reducible refine Kd.C_drewN ?_ _) | (with_reducible refine Kd.C_drew ?_))); (case side4 => exact HC0_7.out); rintro e w44 ⟨v325, rfl, ho0, hb⟩; refine ⟨_, rfl, ?_⟩; have HO326 := Aside0.mk (Kd.R_lower ho0 (below_size (pb1 HB.out GEA.out))); replace KA := bp_ KA hb; replace HB := Aside0.mk (below_step (pb1 HB.out GEA.out) hb); (try clear hb); (try clear hb2); (try clear hk); (try clear hi); (try clear ho0)) | ((with_reducible refine gate_dst (N := 3) rfl ?_); refine box_event ?hg (N := 3) ?hd (cs := #[.int .i64 0, .int .i64 0, .slice none 0 0]) (t := 24) ?hr ?_; (case hd => rfl); (case hg => rfl); (case hr => first | (go_simp; done) | (go_simp; rfl)); intro gB hg w45 hbox hb; have c0_ := cp_ hb KA; have KB := Aside0.mk hbox; have GWB := ge_ hg (pb1 HB.out GEA.out); have GEB := ge_ hg (pb1 HB.out GEA.out); have NAB := nl_ hg c0_; have NBA := ng_ hg c0_; replace HO326 := Aside0.mk (Kd.R_below (by (with_reducible repeat (first | apply Kd.R_alloc | apply Kd.R_drewN | apply Kd.R_drew)); exact HO326.out) hb); replace KA := bb_ c0_ hb; replace HB := Aside0.mk (below_step (pb1 HB.out GEA.out) hb); clear c0_; clear hb hbox hg; have hnb46 := NBA.out; have hnc46 := NAB.out; have hcz47_0 := ci_ KB 0 (.int .i64 0); have hcz47_1 := ci_ KB 1 (.int .i64 0); have hcz47_2 := ci_ KB 2 (.slice none 0 0); have hfz47_0 := blk_frozen KB.out 0; have hfz47_1 := blk_frozen KB.out 1; have hfz47_2 := blk_frozen KB.out 2; obtain ⟨Ao48, co48, eo48⟩ := Kd.R_slice HO326.out; subst eo48) | ((with_reducible refine gate_callee (f := 13) rfl ?_); refine goesL_ (some 20) rfl rfl Try.func13 (by kernel_rfl) rfl #[] rfl pm ?_; (with_reducible refine (imageeditorlaw10_example.calls k  t329 _ A41.out).mono ?_); rintro e w49 ⟨rfl, hb⟩; refine ⟨_, rfl, ?_⟩; have c0_ := co_ (g := gA) (o := .cells #[.int .i64 a0_0, .int .i64 a0_1, .int .i64 a0_2, .int .i64 a0_3, .slice A0_4 l0_4.length c0_4, .int .i64 a0_5, .int .i64 a0_6, .slice A0_7 l0_7.length c0_7] 26 (0, 0)) hb (by refine pf ?_ NAB.out; refine pl ?_; exact KA.out); have c1_ := co_ (g := gB) (o := .cells #[.int .i64 t322, .int .i64 t323, .slice Ao48 t324.length co48] 24 (0, 0)) hb (by refine pl ?_; refine blk_put (cs := #[.int .i64 t322, .int .i64 t323, .slice none 0 0]) ?_ 2 _ rfl; refine pl ?_; refine blk_put (cs := #[.int .i64 t322, .int .i64 0, .slice none 0 0]) ?_ 1 _ rfl; refine pl ?_; refine blk_put (cs := #[.int .i64 0, .int .i64 0, .slice none 0 0]) ?_ 0 _ rfl; refine pl ?_; exact KB.out); replace HO326 := Aside0.mk (Kd.R_below (by (with_reducible repeat (first | apply Kd.R_alloc | apply Kd.R_drewN | apply Kd.R_drew)); exact (Kd.R_mono (Kd.R_far (p := ⟨gB, 2, none⟩) (Kd.R_far (p := ⟨gB, 1, none⟩) (Kd.R_far (p := ⟨gB, 0, none⟩) (Kd.R_types HO326.out KB.out (by decide)) (fun _ hk => hk.2) (.int .i64 t322)) (fun _ hk => hk.2) (.int .i64 t323)) (fun _ hk => hk.2) (.slice Ao48 t324.length co48)) (fun _ h_ => h_.1))) hb); replace KA := bb_ c0_ hb; replace KB := bb_ c1_ hb; replace HB := Aside0.mk (below_step (pb2 HB.out GEA.out GEB.out) hb); clear c0_ c1_; (try clear hb); (try clear hb2); (try clear hk); (try clear hi)))
  go_ret
  exact ⟨by first | rfl | (simp [errW_none, errW_some] <;> rfl) | (simp [*, errW_none, errW_some] <;> rfl), pb2 HB.out GEA.out GEB.out⟩

end Go.Proofs.Ytnijapaaickifaa.I
