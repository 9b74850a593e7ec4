-- Written for this claim by a program of this session (handprint.py) that drives the kit's print. Not trusted: Lean checks it.
import Derived.Test.YtnijapaaickifaaI0
import Derived.Test.YtnijapaaickifaaI2
namespace Go.Proofs.Ytnijapaaickifaa.I
open Go.RowKit Go.Proofs.YtnijapaaickifaaW.PrintWords Go.Proofs.YtnijapaaickifaaW.PrintLast
attribute [local go_sem] max2_int min2_int max_two min_two max_three min_three max_four min_four
set_option linter.unusedVariables false
set_option linter.unusedSimpArgs false

/-! ### blend_color: function 49 -/
def blend_color.f (a0_0 : Int) (a0_1 : Int) (a0_2 : Int) (a0_3 : Int) : Option (Int × Int × Int) := some (a0_0, a0_1, a0_2)
set_option maxHeartbeats 8000000 in
set_option maxRecDepth 100000 in
theorem blend_color.calls (a0_0 : Int) (a0_1 : Int) (a0_2 : Int) (a0_3 : Int) (r1 : Int) (r2 : Int) (r3 : Int) (w : World) (h : blend_color.f a0_0 a0_1 a0_2 a0_3 = some (r1, r2, r3)) :
    Calls Try.prog 49 #[.agg #[.int .i64 a0_0, .int .i64 a0_1, .int .i64 a0_2, .int .i64 a0_3]] w fun e w' => e = .returned (.agg #[.int .i64 r1, .int .i64 r2, .int .i64 r3]) ∧ Below w.heap.size w w' := by
 have hu32 := Try.underlying32
 have hu56 := Try.underlying56
 have HB := Aside0.mk (Below.refl w.heap.size w)
 have H : (some (a0_0, a0_1, a0_2)) = some (r1, r2, r3) := h
 clear h
 simp only [Option.some.injEq, Prod.mk.injEq] at H
 obtain ⟨rfl, rfl, rfl⟩ := H
 go_enter Try.func49, Try.ntmps49
 go_wp2_with (first | ((with_reducible refine gate_dst (N := 1) rfl ?_); refine box_event ?hg (N := 1) ?hd (cs := #[.int .i64 a0_0, .int .i64 a0_1, .int .i64 a0_2, .int .i64 a0_3]) (t := 32) ?hr ?_; (case hd => rfl); (case hg => rfl); (case hr => first | (go_simp; done) | (go_simp; rfl)); intro gA hg w2 hbox hb; have KA := Aside0.mk hbox; have GWA := ge_ hg (pb HB.out); have GEA := ge_ hg (pb HB.out); replace HB := Aside0.mk (below_step (pb HB.out) hb); clear hb hbox hg) | ((with_reducible refine gate_dst (N := 2) rfl ?_); refine box_event ?hg (N := 2) ?hd (cs := #[.int .i64 0, .int .i64 0, .int .i64 0]) (t := 56) ?hr ?_; (case hd => rfl); (case hg => rfl); (case hr => first | (go_simp; done) | (go_simp; rfl)); intro gB hg w3 hbox hb; have c0_ := cp_ hb KA; have KB := Aside0.mk hbox; have GWB := ge_ hg (pb1 HB.out GEA.out); have GEB := ge_ hg (pb1 HB.out GEA.out); have NAB := nl_ hg c0_; have NBA := ng_ hg c0_; replace KA := bb_ c0_ hb; replace HB := Aside0.mk (below_step (pb1 HB.out GEA.out) hb); clear c0_; clear hb hbox hg; have hnb4 := NAB.out; have hnc4 := NBA.out; have hcz5_0 := ci_ KA 0 (.int .i64 a0_0); have hcz5_1 := ci_ KA 1 (.int .i64 a0_1); have hcz5_2 := ci_ KA 2 (.int .i64 a0_2); have hcz5_3 := ci_ KA 3 (.int .i64 a0_3); have hfz5_0 := blk_frozen KA.out 0; have hfz5_1 := blk_frozen KA.out 1; have hfz5_2 := blk_frozen KA.out 2; have hfz5_3 := blk_frozen KA.out 3; have hcz6_0 := ci_ KB 0 (.int .i64 0); have hcz6_1 := ci_ KB 1 (.int .i64 0); have hcz6_2 := ci_ KB 2 (.int .i64 0); have hfz6_0 := blk_frozen KB.out 0; have hfz6_1 := blk_frozen KB.out 1; have hfz6_2 := blk_frozen KB.out 2))
 refine bodyPost_ret (results_cell_row rfl _ _ gB 56 #[.int .i64 a0_0, .int .i64 a0_1, .int .i64 a0_2] (0, 0) _ rfl (by refine pl ?_; refine blk_put (cs := #[.int .i64 a0_0, .int .i64 a0_1, .int .i64 0]) ?_ 2 _ rfl; refine pl ?_; refine blk_put (cs := #[.int .i64 a0_0, .int .i64 0, .int .i64 0]) ?_ 1 _ rfl; refine pl ?_; refine blk_put (cs := #[.int .i64 0, .int .i64 0, .int .i64 0]) ?_ 0 _ rfl; refine pl ?_; exact KB.out) Try.underlying56 rfl (by kernel_rfl)) rfl ?_
 exact ⟨by first | rfl | (simp [errW_none, errW_some] <;> rfl) | (simp [*, errW_none, errW_some] <;> rfl), pb2 HB.out GEA.out GEB.out⟩

/-! ### blend_lum: function 53 -/
def blend_lum.f (k : Nat) (a0_0 : Int) (a0_1 : Int) (a0_2 : Int) : Option (Int) := (num_Div.f k (wrap64 ((wrap64 ((wrap64 (30 * a0_0)) + (wrap64 (59 * a0_1)))) + (wrap64 (11 * a0_2)))) 100).bind fun t127 => (some t127)
theorem blend_lum.mono : ∀ a0 a1 a2 k, LeO (blend_lum.f k a0 a1 a2) (blend_lum.f (k + 1) a0 a1 a2) := by
  intro a0 a1 a2 k
  unfold blend_lum.f
  repeat' first
      | (with_reducible exact num_Div.mono _ _ _)
      | (with_reducible exact LeO.refl _)
      | (with_reducible exact LeO.none _)
      | (with_reducible refine LeO.ite ?_ ?_)
      | (with_reducible refine LeO.bind ?_ (fun _ => ?_))
      | exact num_Div.mono _ _ _
      | exact LeO.none _
      | refine LeO.ite ?_ ?_
      | refine LeO.bind ?_ (fun _ => ?_)
set_option maxHeartbeats 8000000 in
set_option maxRecDepth 100000 in
theorem blend_lum.calls (k : Nat) (a0_0 : Int) (a0_1 : Int) (a0_2 : Int) (r : Int) (w : World) (h : blend_lum.f k a0_0 a0_1 a0_2 = some r) :
    Calls Try.prog 53 #[.agg #[.int .i64 a0_0, .int .i64 a0_1, .int .i64 a0_2]] w fun e w' => e = .returned (.int .i64 r) ∧ Below w.heap.size w w' := by
 have hu56 := Try.underlying56
 have HB := Aside0.mk (Below.refl w.heap.size w)
 have H : ((num_Div.f k (wrap64 ((wrap64 ((wrap64 (30 * a0_0)) + (wrap64 (59 * a0_1)))) + (wrap64 (11 * a0_2)))) 100).bind fun t127 => (some t127)) = some r := h
 clear h
 replace H := Option.bind_eq_some_iff.mp H
 obtain ⟨t127, A20, H⟩ := H
 replace H : (some t127) = some r := H
 have A2 := Aside0.mk A20
 clear A20
 obtain rfl := Option.some.inj H
 go_enter Try.func53, Try.ntmps53
 go_wp2_with (first | ((with_reducible refine gate_dst (N := 1) rfl ?_); refine box_event ?hg (N := 1) ?hd (cs := #[.int .i64 a0_0, .int .i64 a0_1, .int .i64 a0_2]) (t := 56) ?hr ?_; (case hd => rfl); (case hg => rfl); (case hr => first | (go_simp; done) | (go_simp; rfl)); intro gA hg w3 hbox hb; have KA := Aside0.mk hbox; have GWA := ge_ hg (pb HB.out); have GEA := ge_ hg (pb HB.out); replace HB := Aside0.mk (below_step (pb HB.out) hb); clear hb hbox hg; have hcz4_0 := ci_ KA 0 (.int .i64 a0_0); have hcz4_1 := ci_ KA 1 (.int .i64 a0_1); have hcz4_2 := ci_ KA 2 (.int .i64 a0_2); have hfz4_0 := blk_frozen KA.out 0; have hfz4_1 := blk_frozen KA.out 1; have hfz4_2 := blk_frozen KA.out 2) | ((with_reducible refine gate_callee (f := 37) rfl ?_); refine goesL_ (some 14) rfl rfl Try.func37 (by kernel_rfl) rfl #[.int .i64 (wrap64 ((wrap64 ((wrap64 (30 * a0_0)) + (wrap64 (59 * a0_1)))) + (wrap64 (11 * a0_2)))), .int .i64 100] rfl pm ?_; (with_reducible refine (num_Div.calls k (wrap64 ((wrap64 ((wrap64 (30 * a0_0)) + (wrap64 (59 * a0_1)))) + (wrap64 (11 * a0_2)))) 100 t127 _ A2.out).mono ?_); rintro e w5 ⟨rfl, hb⟩; refine ⟨_, rfl, ?_⟩; replace KA := bp_ KA hb; replace HB := Aside0.mk (below_step (pb1 HB.out GEA.out) hb); (try clear hb); (try clear hb2); (try clear hk); (try clear hi)))
 go_ret
 exact ⟨by first | rfl | (simp [errW_none, errW_some] <;> rfl) | (simp [*, errW_none, errW_some] <;> rfl), pb1 HB.out GEA.out⟩

/-! ### blend_setLum: function 50 -/
def blend_setLum.j0 : Nat → Int → Int → Int → Int → Int → Int → Option (Int × Int × Int)
  | 0, _, _, _, _, _, _ => none
  | k + 1, x1, x7, x8, x129000, x129001, x129002 => if x7 < 0 then ((num_Div.f k (wrap64 ((wrap64 (x129000 - x1)) * x1)) (wrap64 (x1 - x7))).bind fun t131 => (if x8 > 65535 then ((num_Div.f k (wrap64 ((wrap64 ((wrap64 (x1 + t131)) - x1)) * (wrap64 (65535 - x1)))) (wrap64 (x8 - x1))).bind fun t132 => ((blend_unit.f (wrap64 (x1 + t132))).bind fun t133 => ((num_Div.f k (wrap64 ((wrap64 (x129001 - x1)) * x1)) (wrap64 (x1 - x7))).bind fun t134 => ((num_Div.f k (wrap64 ((wrap64 ((wrap64 (x1 + t134)) - x1)) * (wrap64 (65535 - x1)))) (wrap64 (x8 - x1))).bind fun t135 => ((blend_unit.f (wrap64 (x1 + t135))).bind fun t136 => ((num_Div.f k (wrap64 ((wrap64 (x129002 - x1)) * x1)) (wrap64 (x1 - x7))).bind fun t137 => ((num_Div.f k (wrap64 ((wrap64 ((wrap64 (x1 + t137)) - x1)) * (wrap64 (65535 - x1)))) (wrap64 (x8 - x1))).bind fun t138 => ((blend_unit.f (wrap64 (x1 + t138))).bind fun t139 => (some (t133, t136, t139)))))))))) else ((blend_unit.f (wrap64 (x1 + t131))).bind fun t140 => ((num_Div.f k (wrap64 ((wrap64 (x129001 - x1)) * x1)) (wrap64 (x1 - x7))).bind fun t141 => ((blend_unit.f (wrap64 (x1 + t141))).bind fun t142 => ((num_Div.f k (wrap64 ((wrap64 (x129002 - x1)) * x1)) (wrap64 (x1 - x7))).bind fun t143 => ((blend_unit.f (wrap64 (x1 + t143))).bind fun t144 => (some (t140, t142, t144))))))))) else (if x8 > 65535 then ((num_Div.f k (wrap64 ((wrap64 (x129000 - x1)) * (wrap64 (65535 - x1)))) (wrap64 (x8 - x1))).bind fun t145 => ((blend_unit.f (wrap64 (x1 + t145))).bind fun t146 => ((num_Div.f k (wrap64 ((wrap64 (x129001 - x1)) * (wrap64 (65535 - x1)))) (wrap64 (x8 - x1))).bind fun t147 => ((blend_unit.f (wrap64 (x1 + t147))).bind fun t148 => ((num_Div.f k (wrap64 ((wrap64 (x129002 - x1)) * (wrap64 (65535 - x1)))) (wrap64 (x8 - x1))).bind fun t149 => ((blend_unit.f (wrap64 (x1 + t149))).bind fun t150 => (some (t146, t148, t150)))))))) else ((blend_unit.f x129000).bind fun t151 => ((blend_unit.f x129001).bind fun t152 => ((blend_unit.f x129002).bind fun t153 => (some (t151, t152, t153))))))
def blend_setLum.f (k : Nat) (a0_0 : Int) (a0_1 : Int) (a0_2 : Int) (a1 : Int) : Option (Int × Int × Int) := (blend_lum.f k a0_0 a0_1 a0_2).bind fun t130 => (blend_setLum.j0 k a1 (mn (mn (wrap64 (a0_0 + (wrap64 (a1 - t130)))) (wrap64 (a0_1 + (wrap64 (a1 - t130))))) (wrap64 (a0_2 + (wrap64 (a1 - t130))))) (mx (mx (wrap64 (a0_0 + (wrap64 (a1 - t130)))) (wrap64 (a0_1 + (wrap64 (a1 - t130))))) (wrap64 (a0_2 + (wrap64 (a1 - t130))))) (wrap64 (a0_0 + (wrap64 (a1 - t130)))) (wrap64 (a0_1 + (wrap64 (a1 - t130)))) (wrap64 (a0_2 + (wrap64 (a1 - t130)))))
theorem blend_setLum.mono_l : ∀ k, (∀ y0 y1 y2 y3 y4 y5, LeO (blend_setLum.j0 k y0 y1 y2 y3 y4 y5) (blend_setLum.j0 (k + 1) y0 y1 y2 y3 y4 y5))
  | 0 => fun _ _ _ _ _ _ r h => by simp [blend_setLum.j0] at h
  | k + 1 => by
    have ih0 := blend_setLum.mono_l k
    · intro y0 y1 y2 y3 y4 y5
      unfold blend_setLum.j0
      repeat' first
      | (with_reducible exact ih0 _ _ _ _ _ _)
      | (with_reducible exact blend_lum.mono _ _ _ _)
      | (with_reducible exact num_Div.mono _ _ _)
      | (with_reducible exact LeO.refl _)
      | (with_reducible exact LeO.none _)
      | (with_reducible refine LeO.ite ?_ ?_)
      | (with_reducible refine LeO.bind ?_ (fun _ => ?_))
      | exact ih0 _ _ _ _ _ _
      | exact blend_lum.mono _ _ _ _
      | exact num_Div.mono _ _ _
      | exact LeO.none _
      | refine LeO.ite ?_ ?_
      | refine LeO.bind ?_ (fun _ => ?_)
theorem blend_setLum.mono : ∀ a0 a1 a2 a3 k, LeO (blend_setLum.f k a0 a1 a2 a3) (blend_setLum.f (k + 1) a0 a1 a2 a3) := by
  intro a0 a1 a2 a3 k
  have ih0 := blend_setLum.mono_l k
  unfold blend_setLum.f
  repeat' first
      | (with_reducible exact ih0 _ _ _ _ _ _)
      | (with_reducible exact blend_lum.mono _ _ _ _)
      | (with_reducible exact num_Div.mono _ _ _)
      | (with_reducible exact LeO.refl _)
      | (with_reducible exact LeO.none _)
      | (with_reducible refine LeO.ite ?_ ?_)
      | (with_reducible refine LeO.bind ?_ (fun _ => ?_))
      | exact ih0 _ _ _ _ _ _
      | exact blend_lum.mono _ _ _ _
      | exact num_Div.mono _ _ _
      | exact LeO.none _
      | refine LeO.ite ?_ ?_
      | refine LeO.bind ?_ (fun _ => ?_)
set_option maxHeartbeats 8000000 in
set_option maxRecDepth 100000 in
theorem blend_setLum.calls (k : Nat) (a0_0 : Int) (a0_1 : Int) (a0_2 : Int) (a1 : Int) (r1 : Int) (r2 : Int) (r3 : Int) (w : World) (h : blend_setLum.f k a0_0 a0_1 a0_2 a1 = some (r1, r2, r3)) :
    Calls Try.prog 50 #[.agg #[.int .i64 a0_0, .int .i64 a0_1, .int .i64 a0_2], .int .i64 a1] w fun e w' => e = .returned (.agg #[.int .i64 r1, .int .i64 r2, .int .i64 r3]) ∧ Below w.heap.size w w' := by
 have hu56 := Try.underlying56
 have HB := Aside0.mk (Below.refl w.heap.size w)
 have H : ((blend_lum.f k a0_0 a0_1 a0_2).bind fun t130 => (blend_setLum.j0 k a1 (mn (mn (wrap64 (a0_0 + (wrap64 (a1 - t130)))) (wrap64 (a0_1 + (wrap64 (a1 - t130))))) (wrap64 (a0_2 + (wrap64 (a1 - t130))))) (mx (mx (wrap64 (a0_0 + (wrap64 (a1 - t130)))) (wrap64 (a0_1 + (wrap64 (a1 - t130))))) (wrap64 (a0_2 + (wrap64 (a1 - t130))))) (wrap64 (a0_0 + (wrap64 (a1 - t130)))) (wrap64 (a0_1 + (wrap64 (a1 - t130)))) (wrap64 (a0_2 + (wrap64 (a1 - t130)))))) = some (r1, r2, r3) := h
 clear h
 replace H := Option.bind_eq_some_iff.mp H
 obtain ⟨t130, A30, H⟩ := H
 replace H : (blend_setLum.j0 k a1 (mn (mn (wrap64 (a0_0 + (wrap64 (a1 - t130)))) (wrap64 (a0_1 + (wrap64 (a1 - t130))))) (wrap64 (a0_2 + (wrap64 (a1 - t130))))) (mx (mx (wrap64 (a0_0 + (wrap64 (a1 - t130)))) (wrap64 (a0_1 + (wrap64 (a1 - t130))))) (wrap64 (a0_2 + (wrap64 (a1 - t130))))) (wrap64 (a0_0 + (wrap64 (a1 - t130)))) (wrap64 (a0_1 + (wrap64 (a1 - t130)))) (wrap64 (a0_2 + (wrap64 (a1 - t130))))) = some (r1, r2, r3) := H
 have A3 := Aside0.mk A30
 clear A30
 have HC4 := Aside0.mk H
 clear H
 go_enter Try.func50, Try.ntmps50
 try go_wp2_with (first | ((with_reducible refine gate_dst (N := 2) rfl ?_); refine box_event ?hg (N := 2) ?hd (cs := #[.int .i64 a0_0, .int .i64 a0_1, .int .i64 a0_2]) (t := 56) ?hr ?_; (case hd => rfl); (case hg => rfl); (case hr => first | (go_simp; done) | (go_simp; rfl)); intro gA hg w5 hbox hb; have KA := Aside0.mk hbox; have GWA := ge_ hg (pb HB.out); have GEA := ge_ hg (pb HB.out); replace HB := Aside0.mk (below_step (pb HB.out) hb); clear hb hbox hg) | ((with_reducible refine gate_dst (N := 4) rfl ?_); refine box_event ?hg (N := 4) ?hd (cs := #[.int .i64 0, .int .i64 0, .int .i64 0]) (t := 56) ?hr ?_; (case hd => rfl); (case hg => rfl); (case hr => first | (go_simp; done) | (go_simp; rfl)); intro gB hg w6 hbox hb; have c0_ := cp_ hb KA; have KB := Aside0.mk hbox; have GWB := ge_ hg (pb1 HB.out GEA.out); have GEB := ge_ hg (pb1 HB.out GEA.out); have NAB := nl_ hg c0_; have NBA := ng_ hg c0_; replace KA := bb_ c0_ hb; replace HB := Aside0.mk (below_step (pb1 HB.out GEA.out) hb); clear c0_; clear hb hbox hg; have hnb7 := NAB.out; have hnc7 := NBA.out; have hcz8_0 := ci_ KA 0 (.int .i64 a0_0); have hcz8_1 := ci_ KA 1 (.int .i64 a0_1); have hcz8_2 := ci_ KA 2 (.int .i64 a0_2); have hfz8_0 := blk_frozen KA.out 0; have hfz8_1 := blk_frozen KA.out 1; have hfz8_2 := blk_frozen KA.out 2) | (go_at_call 53; (with_reducible refine (blend_lum.calls k a0_0 a0_1 a0_2 t130 _ A3.out).mono ?_); rintro e w9 ⟨rfl, hb⟩; replace KA := bp_ KA hb; replace KB := bp_ KB hb; replace HB := Aside0.mk (below_step (pb2 HB.out GEA.out GEB.out) hb); (try clear hb); (try clear hb2); (try clear hk); (try clear hi); have hcz10_0 := ci_ KA 0 (.int .i64 a0_0); have hcz10_1 := ci_ KA 1 (.int .i64 a0_1); have hcz10_2 := ci_ KA 2 (.int .i64 a0_2); have hfz10_0 := blk_frozen KA.out 0; have hfz10_1 := blk_frozen KA.out 1; have hfz10_2 := blk_frozen KA.out 2))
 refine wp_loop_rounds 4 ?_
 rw [rounds_succ]
 try go_wp2
 rw [rounds_succ]
 try go_wp2
 rw [rounds_succ]
 try go_wp2
 rw [rounds_succ]
 go_upto_region 7 with (fail)
 go_cut [7, 8] (fun v7 v8 wc => ∃ (kq : Nat) (x7_3 : Int) (x8_3 : Int), v7 = .int .i64 x7_3 ∧ v8 = .int .i64 x8_3 ∧ Aside0 (blend_setLum.j0 kq a1 x7_3 x8_3 (wrap64 (a0_0 + (wrap64 (a1 - t130)))) (wrap64 (a0_1 + (wrap64 (a1 - t130)))) (wrap64 (a0_2 + (wrap64 (a1 - t130)))) = some (r1, r2, r3)) ∧ Aside0 (kq ≤ k) ∧ Aside0 (wc.heap[gA]? = some (.cells #[.int .i64 (wrap64 (a0_0 + (wrap64 (a1 - t130)))), .int .i64 (wrap64 (a0_1 + (wrap64 (a1 - t130)))), .int .i64 (wrap64 (a0_2 + (wrap64 (a1 - t130))))] 56 (0, 0))) ∧ Aside0 (wc.heap[gB]? = some (.cells #[.int .i64 0, .int .i64 0, .int .i64 0] 56 (0, 0))) ∧ Aside0 (Below w.heap.size w wc))
 case first =>
  have H := HC4.out
  clear HC4
  obtain ⟨ji11, hji11⟩ : ∃ j_ : Int, (mn (wrap64 (a0_0 + (wrap64 (a1 - t130)))) (wrap64 (a0_1 + (wrap64 (a1 - t130))))) = j_ := ⟨_, rfl⟩
  replace H : (blend_setLum.j0 k a1 (mn (ji11) (wrap64 (a0_2 + (wrap64 (a1 - t130))))) (mx (mx (wrap64 (a0_0 + (wrap64 (a1 - t130)))) (wrap64 (a0_1 + (wrap64 (a1 - t130))))) (wrap64 (a0_2 + (wrap64 (a1 - t130))))) (wrap64 (a0_0 + (wrap64 (a1 - t130)))) (wrap64 (a0_1 + (wrap64 (a1 - t130)))) (wrap64 (a0_2 + (wrap64 (a1 - t130))))) = some (r1, r2, r3) := by first | (rw [hji11] at H; exact H) | (simp only [hji11] at H ⊢; exact H)
  have hji11_ : (if (wrap64 (a0_1 + (wrap64 (a1 - t130)))) < (wrap64 (a0_0 + (wrap64 (a1 - t130)))) then (wrap64 (a0_1 + (wrap64 (a1 - t130)))) else (wrap64 (a0_0 + (wrap64 (a1 - t130))))) = ji11 := hji11
  obtain ⟨ji12, hji12⟩ : ∃ j_ : Int, (mn (ji11) (wrap64 (a0_2 + (wrap64 (a1 - t130))))) = j_ := ⟨_, rfl⟩
  replace H : (blend_setLum.j0 k a1 ji12 (mx (mx (wrap64 (a0_0 + (wrap64 (a1 - t130)))) (wrap64 (a0_1 + (wrap64 (a1 - t130))))) (wrap64 (a0_2 + (wrap64 (a1 - t130))))) (wrap64 (a0_0 + (wrap64 (a1 - t130)))) (wrap64 (a0_1 + (wrap64 (a1 - t130)))) (wrap64 (a0_2 + (wrap64 (a1 - t130))))) = some (r1, r2, r3) := by first | (rw [hji12] at H; exact H) | (simp only [hji12] at H ⊢; exact H)
  have hji12_ : (if (wrap64 (a0_2 + (wrap64 (a1 - t130)))) < (ji11) then (wrap64 (a0_2 + (wrap64 (a1 - t130)))) else (ji11)) = ji12 := hji12
  obtain ⟨ji13, hji13⟩ : ∃ j_ : Int, (mx (wrap64 (a0_0 + (wrap64 (a1 - t130)))) (wrap64 (a0_1 + (wrap64 (a1 - t130))))) = j_ := ⟨_, rfl⟩
  replace H : (blend_setLum.j0 k a1 ji12 (mx (ji13) (wrap64 (a0_2 + (wrap64 (a1 - t130))))) (wrap64 (a0_0 + (wrap64 (a1 - t130)))) (wrap64 (a0_1 + (wrap64 (a1 - t130)))) (wrap64 (a0_2 + (wrap64 (a1 - t130))))) = some (r1, r2, r3) := by first | (rw [hji13] at H; exact H) | (simp only [hji13] at H ⊢; exact H)
  have hji13_ : (if (wrap64 (a0_0 + (wrap64 (a1 - t130)))) < (wrap64 (a0_1 + (wrap64 (a1 - t130)))) then (wrap64 (a0_1 + (wrap64 (a1 - t130)))) else (wrap64 (a0_0 + (wrap64 (a1 - t130))))) = ji13 := hji13
  obtain ⟨ji14, hji14⟩ : ∃ j_ : Int, (mx (ji13) (wrap64 (a0_2 + (wrap64 (a1 - t130))))) = j_ := ⟨_, rfl⟩
  replace H : (blend_setLum.j0 k a1 ji12 ji14 (wrap64 (a0_0 + (wrap64 (a1 - t130)))) (wrap64 (a0_1 + (wrap64 (a1 - t130)))) (wrap64 (a0_2 + (wrap64 (a1 - t130))))) = some (r1, r2, r3) := by first | (rw [hji14] at H; exact H) | (simp only [hji14] at H ⊢; exact H)
  have hji14_ : (if (ji13) < (wrap64 (a0_2 + (wrap64 (a1 - t130)))) then (wrap64 (a0_2 + (wrap64 (a1 - t130)))) else (ji13)) = ji14 := hji14
  have H' := Aside0.mk H
  clear H
  have hnb15 := NAB.out
  have hnc15 := NBA.out
  have hcz16_0 := ci_ KA 0 (.int .i64 a0_0)
  have hcz16_1 := ci_ KA 1 (.int .i64 a0_1)
  have hcz16_2 := ci_ KA 2 (.int .i64 a0_2)
  have hfz16_0 := blk_frozen KA.out 0
  have hfz16_1 := blk_frozen KA.out 1
  have hfz16_2 := blk_frozen KA.out 2
  go_wp2
  repeat (go_quiet (fail); try go_wp2)
  go_meet
  case rel => exact ⟨_, (ji12), (ji14), (by first | rfl | (simp; done) | (simp only [← hji12] <;> (first | rfl | simp)) | (simp [*]; done)), (by first | rfl | (simp; done) | (simp only [← hji14] <;> (first | rfl | simp)) | (simp [*]; done)), H', ⟨by first | omega | exact Nat.le_refl _⟩, ⟨by refine pl ?_; refine blk_put (cs := #[.int .i64 (wrap64 (a0_0 + (wrap64 (a1 - t130)))), .int .i64 (wrap64 (a0_1 + (wrap64 (a1 - t130)))), .int .i64 a0_2]) ?_ 2 _ rfl; refine pl ?_; refine blk_put (cs := #[.int .i64 (wrap64 (a0_0 + (wrap64 (a1 - t130)))), .int .i64 a0_1, .int .i64 a0_2]) ?_ 1 _ rfl; refine pl ?_; refine blk_put (cs := #[.int .i64 a0_0, .int .i64 a0_1, .int .i64 a0_2]) ?_ 0 _ rfl; refine pl ?_; exact KA.out⟩, ⟨by refine pl ?_; refine blk_far ?_ NBA.out _; refine pl ?_; refine blk_far ?_ NBA.out _; refine pl ?_; refine blk_far ?_ NBA.out _; refine pl ?_; exact KB.out⟩, ⟨pb2 HB.out GEA.out GEB.out⟩⟩
 case rest =>
  clear HC4
  try clear c1
  try clear p2
  try clear c5
  try clear p6
  try clear c7
  try clear c15
  try clear hcz10_0
  try clear hcz10_1
  try clear hcz10_2
  try clear hcz16_0
  try clear hcz16_1
  try clear hcz16_2
  try clear hcz8_0
  try clear hcz8_1
  try clear hcz8_2
  try clear hfz10_0
  try clear hfz10_1
  try clear hfz10_2
  try clear hfz16_0
  try clear hfz16_1
  try clear hfz16_2
  try clear hfz8_0
  try clear hfz8_1
  try clear hfz8_2
  obtain ⟨kq, x7_3, x8_3, rfl, rfl, HA, HJ3, KA, KB, HB⟩ := hcut
  cases kq with
  | zero => exact absurd HA.out (by simp [blend_setLum.j0])
  | succ kj3 =>
   have H := HA.out
   clear HA
   simp only [blend_setLum.j0] at H
   by_cases c17 : x7_3 < 0
   ·rw [if_pos c17] at H
    have c17b0 : decide (x7_3 < 0) = true := decide_eq_true c17
    clear c17
    replace H := Option.bind_eq_some_iff.mp H
    obtain ⟨t131, A180, H⟩ := H
    replace H : (if x8_3 > 65535 then ((num_Div.f kj3 (wrap64 ((wrap64 ((wrap64 (a1 + t131)) - a1)) * (wrap64 (65535 - a1)))) (wrap64 (x8_3 - a1))).bind fun t132 => ((blend_unit.f (wrap64 (a1 + t132))).bind fun t133 => ((num_Div.f kj3 (wrap64 ((wrap64 ((wrap64 (a0_1 + (wrap64 (a1 - t130)))) - a1)) * a1)) (wrap64 (a1 - x7_3))).bind fun t134 => ((num_Div.f kj3 (wrap64 ((wrap64 ((wrap64 (a1 + t134)) - a1)) * (wrap64 (65535 - a1)))) (wrap64 (x8_3 - a1))).bind fun t135 => ((blend_unit.f (wrap64 (a1 + t135))).bind fun t136 => ((num_Div.f kj3 (wrap64 ((wrap64 ((wrap64 (a0_2 + (wrap64 (a1 - t130)))) - a1)) * a1)) (wrap64 (a1 - x7_3))).bind fun t137 => ((num_Div.f kj3 (wrap64 ((wrap64 ((wrap64 (a1 + t137)) - a1)) * (wrap64 (65535 - a1)))) (wrap64 (x8_3 - a1))).bind fun t138 => ((blend_unit.f (wrap64 (a1 + t138))).bind fun t139 => (some (t133, t136, t139)))))))))) else ((blend_unit.f (wrap64 (a1 + t131))).bind fun t140 => ((num_Div.f kj3 (wrap64 ((wrap64 ((wrap64 (a0_1 + (wrap64 (a1 - t130)))) - a1)) * a1)) (wrap64 (a1 - x7_3))).bind fun t141 => ((blend_unit.f (wrap64 (a1 + t141))).bind fun t142 => ((num_Div.f kj3 (wrap64 ((wrap64 ((wrap64 (a0_2 + (wrap64 (a1 - t130)))) - a1)) * a1)) (wrap64 (a1 - x7_3))).bind fun t143 => ((blend_unit.f (wrap64 (a1 + t143))).bind fun t144 => (some (t140, t142, t144)))))))) = some (r1, r2, r3) := H
    have A18 := Aside0.mk A180
    clear A180
    by_cases c19 : x8_3 > 65535
    ·rw [if_pos c19] at H
     have c19b0 : decide (65535 < x8_3) = true := decide_eq_true c19
     clear c19
     replace H := Option.bind_eq_some_iff.mp H
     obtain ⟨t132, A200, H⟩ := H
     replace H : ((blend_unit.f (wrap64 (a1 + t132))).bind fun t133 => ((num_Div.f kj3 (wrap64 ((wrap64 ((wrap64 (a0_1 + (wrap64 (a1 - t130)))) - a1)) * a1)) (wrap64 (a1 - x7_3))).bind fun t134 => ((num_Div.f kj3 (wrap64 ((wrap64 ((wrap64 (a1 + t134)) - a1)) * (wrap64 (65535 - a1)))) (wrap64 (x8_3 - a1))).bind fun t135 => ((blend_unit.f (wrap64 (a1 + t135))).bind fun t136 => ((num_Div.f kj3 (wrap64 ((wrap64 ((wrap64 (a0_2 + (wrap64 (a1 - t130)))) - a1)) * a1)) (wrap64 (a1 - x7_3))).bind fun t137 => ((num_Div.f kj3 (wrap64 ((wrap64 ((wrap64 (a1 + t137)) - a1)) * (wrap64 (65535 - a1)))) (wrap64 (x8_3 - a1))).bind fun t138 => ((blend_unit.f (wrap64 (a1 + t138))).bind fun t139 => (some (t133, t136, t139))))))))) = some (r1, r2, r3) := H
     have A20 := Aside0.mk A200
     clear A200
     replace H := Option.bind_eq_some_iff.mp H
     obtain ⟨t133, A210, H⟩ := H
     replace H : ((num_Div.f kj3 (wrap64 ((wrap64 ((wrap64 (a0_1 + (wrap64 (a1 - t130)))) - a1)) * a1)) (wrap64 (a1 - x7_3))).bind fun t134 => ((num_Div.f kj3 (wrap64 ((wrap64 ((wrap64 (a1 + t134)) - a1)) * (wrap64 (65535 - a1)))) (wrap64 (x8_3 - a1))).bind fun t135 => ((blend_unit.f (wrap64 (a1 + t135))).bind fun t136 => ((num_Div.f kj3 (wrap64 ((wrap64 ((wrap64 (a0_2 + (wrap64 (a1 - t130)))) - a1)) * a1)) (wrap64 (a1 - x7_3))).bind fun t137 => ((num_Div.f kj3 (wrap64 ((wrap64 ((wrap64 (a1 + t137)) - a1)) * (wrap64 (65535 - a1)))) (wrap64 (x8_3 - a1))).bind fun t138 => ((blend_unit.f (wrap64 (a1 + t138))).bind fun t139 => (some (t133, t136, t139)))))))) = some (r1, r2, r3) := H
     have A21 := Aside0.mk A210
     clear A210
     replace H := Option.bind_eq_some_iff.mp H
     obtain ⟨t134, A220, H⟩ := H
     replace H : ((num_Div.f kj3 (wrap64 ((wrap64 ((wrap64 (a1 + t134)) - a1)) * (wrap64 (65535 - a1)))) (wrap64 (x8_3 - a1))).bind fun t135 => ((blend_unit.f (wrap64 (a1 + t135))).bind fun t136 => ((num_Div.f kj3 (wrap64 ((wrap64 ((wrap64 (a0_2 + (wrap64 (a1 - t130)))) - a1)) * a1)) (wrap64 (a1 - x7_3))).bind fun t137 => ((num_Div.f kj3 (wrap64 ((wrap64 ((wrap64 (a1 + t137)) - a1)) * (wrap64 (65535 - a1)))) (wrap64 (x8_3 - a1))).bind fun t138 => ((blend_unit.f (wrap64 (a1 + t138))).bind fun t139 => (some (t133, t136, t139))))))) = some (r1, r2, r3) := H
     have A22 := Aside0.mk A220
     clear A220
     replace H := Option.bind_eq_some_iff.mp H
     obtain ⟨t135, A230, H⟩ := H
     replace H : ((blend_unit.f (wrap64 (a1 + t135))).bind fun t136 => ((num_Div.f kj3 (wrap64 ((wrap64 ((wrap64 (a0_2 + (wrap64 (a1 - t130)))) - a1)) * a1)) (wrap64 (a1 - x7_3))).bind fun t137 => ((num_Div.f kj3 (wrap64 ((wrap64 ((wrap64 (a1 + t137)) - a1)) * (wrap64 (65535 - a1)))) (wrap64 (x8_3 - a1))).bind fun t138 => ((blend_unit.f (wrap64 (a1 + t138))).bind fun t139 => (some (t133, t136, t139)))))) = some (r1, r2, r3) := H
     have A23 := Aside0.mk A230
     clear A230
     replace H := Option.bind_eq_some_iff.mp H
     obtain ⟨t136, A240, H⟩ := H
     replace H : ((num_Div.f kj3 (wrap64 ((wrap64 ((wrap64 (a0_2 + (wrap64 (a1 - t130)))) - a1)) * a1)) (wrap64 (a1 - x7_3))).bind fun t137 => ((num_Div.f kj3 (wrap64 ((wrap64 ((wrap64 (a1 + t137)) - a1)) * (wrap64 (65535 - a1)))) (wrap64 (x8_3 - a1))).bind fun t138 => ((blend_unit.f (wrap64 (a1 + t138))).bind fun t139 => (some (t133, t136, t139))))) = some (r1, r2, r3) := H
     have A24 := Aside0.mk A240
     clear A240
     replace H := Option.bind_eq_some_iff.mp H
     obtain ⟨t137, A250, H⟩ := H
     replace H : ((num_Div.f kj3 (wrap64 ((wrap64 ((wrap64 (a1 + t137)) - a1)) * (wrap64 (65535 - a1)))) (wrap64 (x8_3 - a1))).bind fun t138 => ((blend_unit.f (wrap64 (a1 + t138))).bind fun t139 => (some (t133, t136, t139)))) = some (r1, r2, r3) := H
     have A25 := Aside0.mk A250
     clear A250
     replace H := Option.bind_eq_some_iff.mp H
     obtain ⟨t138, A260, H⟩ := H
     replace H : ((blend_unit.f (wrap64 (a1 + t138))).bind fun t139 => (some (t133, t136, t139))) = some (r1, r2, r3) := H
     have A26 := Aside0.mk A260
     clear A260
     replace H := Option.bind_eq_some_iff.mp H
     obtain ⟨t139, A270, H⟩ := H
     replace H : (some (t133, t136, t139)) = some (r1, r2, r3) := H
     have A27 := Aside0.mk A270
     clear A270
     simp only [Option.some.injEq, Prod.mk.injEq] at H
     obtain ⟨rfl, rfl, rfl⟩ := H
     have hnb28 := NAB.out
     have hnc28 := NBA.out
     have hcz29_0 : wc.cell? ⟨gA, 0, none⟩ = some (.int .i64 (wrap64 (a0_0 + (wrap64 (a1 - t130))))) := (blk_cell KA.out 0).trans rfl
     have hcz29_1 : wc.cell? ⟨gA, 1, none⟩ = some (.int .i64 (wrap64 (a0_1 + (wrap64 (a1 - t130))))) := (blk_cell KA.out 1).trans rfl
     have hcz29_2 : wc.cell? ⟨gA, 2, none⟩ = some (.int .i64 (wrap64 (a0_2 + (wrap64 (a1 - t130))))) := (blk_cell KA.out 2).trans rfl
     have hfz29_0 := blk_frozen KA.out 0
     have hfz29_1 := blk_frozen KA.out 1
     have hfz29_2 := blk_frozen KA.out 2
     go_wp2
     repeat (go_quiet (fail); try go_wp2)
     refine wp_loop_rounds 4 ?_
     rw [rounds_succ]
     go_wp2_with (first | (go_at_call 37; (with_reducible refine (num_Div.calls kj3 (wrap64 ((wrap64 ((wrap64 (a0_0 + (wrap64 (a1 - t130)))) - a1)) * a1)) (wrap64 (a1 - x7_3)) t131 _ A18.out).mono ?_); rintro e w30 ⟨rfl, hb⟩; replace KA := bp_ KA hb; replace KB := bp_ KB hb; replace HB := Aside0.mk (below_step (pb2 HB.out GEA.out GEB.out) hb); (try clear hb); (try clear hb2); (try clear hk); (try clear hi); have hcz31_0 : w30.cell? ⟨gA, 0, none⟩ = some (.int .i64 (wrap64 (a0_0 + (wrap64 (a1 - t130))))) := (blk_cell KA.out 0).trans rfl; have hcz31_1 : w30.cell? ⟨gA, 1, none⟩ = some (.int .i64 (wrap64 (a0_1 + (wrap64 (a1 - t130))))) := (blk_cell KA.out 1).trans rfl; have hcz31_2 : w30.cell? ⟨gA, 2, none⟩ = some (.int .i64 (wrap64 (a0_2 + (wrap64 (a1 - t130))))) := (blk_cell KA.out 2).trans rfl; have hfz31_0 := blk_frozen KA.out 0; have hfz31_1 := blk_frozen KA.out 1; have hfz31_2 := blk_frozen KA.out 2) | (go_at_call 37; (with_reducible refine (num_Div.calls kj3 (wrap64 ((wrap64 ((wrap64 (a1 + t131)) - a1)) * (wrap64 (65535 - a1)))) (wrap64 (x8_3 - a1)) t132 _ A20.out).mono ?_); rintro e w32 ⟨rfl, hb⟩; have c0_ := co_ (g := gA) (o := .cells #[.int .i64 (wrap64 (a1 + t131)), .int .i64 (wrap64 (a0_1 + (wrap64 (a1 - t130)))), .int .i64 (wrap64 (a0_2 + (wrap64 (a1 - t130))))] 56 (0, 0)) hb (by refine pl ?_; refine blk_put (cs := #[.int .i64 (wrap64 (a0_0 + (wrap64 (a1 - t130)))), .int .i64 (wrap64 (a0_1 + (wrap64 (a1 - t130)))), .int .i64 (wrap64 (a0_2 + (wrap64 (a1 - t130))))]) ?_ 0 _ rfl; refine pl ?_; exact KA.out); have c1_ := co_ (g := gB) (o := .cells #[.int .i64 0, .int .i64 0, .int .i64 0] 56 (0, 0)) hb (by refine pf ?_ NBA.out; refine pl ?_; exact KB.out); replace KA := bb_ c0_ hb; replace KB := bb_ c1_ hb; replace HB := Aside0.mk (below_step (pb2 HB.out GEA.out GEB.out) hb); clear c0_ c1_; (try clear hb); (try clear hb2); (try clear hk); (try clear hi); have hcz33_0 : w32.cell? ⟨gA, 0, none⟩ = some (.int .i64 (wrap64 (a1 + t131))) := (blk_cell KA.out 0).trans rfl; have hcz33_1 : w32.cell? ⟨gA, 1, none⟩ = some (.int .i64 (wrap64 (a0_1 + (wrap64 (a1 - t130))))) := (blk_cell KA.out 1).trans rfl; have hcz33_2 : w32.cell? ⟨gA, 2, none⟩ = some (.int .i64 (wrap64 (a0_2 + (wrap64 (a1 - t130))))) := (blk_cell KA.out 2).trans rfl; have hfz33_0 := blk_frozen KA.out 0; have hfz33_1 := blk_frozen KA.out 1; have hfz33_2 := blk_frozen KA.out 2) | (go_at_call 32; (with_reducible refine (blend_unit.calls (wrap64 (a1 + t132)) t133 _ A21.out).mono ?_); rintro e w34 ⟨rfl, hb⟩; have c0_ := co_ (g := gA) (o := .cells #[.int .i64 (wrap64 (a1 + t132)), .int .i64 (wrap64 (a0_1 + (wrap64 (a1 - t130)))), .int .i64 (wrap64 (a0_2 + (wrap64 (a1 - t130))))] 56 (0, 0)) hb (by refine pl ?_; refine blk_put (cs := #[.int .i64 (wrap64 (a1 + t131)), .int .i64 (wrap64 (a0_1 + (wrap64 (a1 - t130)))), .int .i64 (wrap64 (a0_2 + (wrap64 (a1 - t130))))]) ?_ 0 _ rfl; refine pl ?_; exact KA.out); have c1_ := co_ (g := gB) (o := .cells #[.int .i64 0, .int .i64 0, .int .i64 0] 56 (0, 0)) hb (by refine pf ?_ NBA.out; refine pl ?_; exact KB.out); replace KA := bb_ c0_ hb; replace KB := bb_ c1_ hb; replace HB := Aside0.mk (below_step (pb2 HB.out GEA.out GEB.out) hb); clear c0_ c1_; (try clear hb); (try clear hb2); (try clear hk); (try clear hi); have hcz35_0 : w34.cell? ⟨gA, 0, none⟩ = some (.int .i64 (wrap64 (a1 + t132))) := (blk_cell KA.out 0).trans rfl; have hcz35_1 : w34.cell? ⟨gA, 1, none⟩ = some (.int .i64 (wrap64 (a0_1 + (wrap64 (a1 - t130))))) := (blk_cell KA.out 1).trans rfl; have hcz35_2 : w34.cell? ⟨gA, 2, none⟩ = some (.int .i64 (wrap64 (a0_2 + (wrap64 (a1 - t130))))) := (blk_cell KA.out 2).trans rfl; have hfz35_0 := blk_frozen KA.out 0; have hfz35_1 := blk_frozen KA.out 1; have hfz35_2 := blk_frozen KA.out 2))
     repeat (go_quiet (fail); try go_wp2)
     rw [rounds_succ]
     go_wp2_with (first | (go_at_call 37; (with_reducible refine (num_Div.calls kj3 (wrap64 ((wrap64 ((wrap64 (a0_1 + (wrap64 (a1 - t130)))) - a1)) * a1)) (wrap64 (a1 - x7_3)) t134 _ A22.out).mono ?_); rintro e w36 ⟨rfl, hb⟩; have c0_ := co_ (g := gA) (o := .cells #[.int .i64 t133, .int .i64 (wrap64 (a0_1 + (wrap64 (a1 - t130)))), .int .i64 (wrap64 (a0_2 + (wrap64 (a1 - t130))))] 56 (0, 0)) hb (by refine pl ?_; refine blk_put (cs := #[.int .i64 (wrap64 (a1 + t132)), .int .i64 (wrap64 (a0_1 + (wrap64 (a1 - t130)))), .int .i64 (wrap64 (a0_2 + (wrap64 (a1 - t130))))]) ?_ 0 _ rfl; refine pl ?_; exact KA.out); have c1_ := co_ (g := gB) (o := .cells #[.int .i64 0, .int .i64 0, .int .i64 0] 56 (0, 0)) hb (by refine pf ?_ NBA.out; refine pl ?_; exact KB.out); replace KA := bb_ c0_ hb; replace KB := bb_ c1_ hb; replace HB := Aside0.mk (below_step (pb2 HB.out GEA.out GEB.out) hb); clear c0_ c1_; (try clear hb); (try clear hb2); (try clear hk); (try clear hi); have hcz37_0 := ci_ KA 0 (.int .i64 t133); have hcz37_1 : w36.cell? ⟨gA, 1, none⟩ = some (.int .i64 (wrap64 (a0_1 + (wrap64 (a1 - t130))))) := (blk_cell KA.out 1).trans rfl; have hcz37_2 : w36.cell? ⟨gA, 2, none⟩ = some (.int .i64 (wrap64 (a0_2 + (wrap64 (a1 - t130))))) := (blk_cell KA.out 2).trans rfl; have hfz37_0 := blk_frozen KA.out 0; have hfz37_1 := blk_frozen KA.out 1; have hfz37_2 := blk_frozen KA.out 2) | (go_at_call 37; (with_reducible refine (num_Div.calls kj3 (wrap64 ((wrap64 ((wrap64 (a1 + t134)) - a1)) * (wrap64 (65535 - a1)))) (wrap64 (x8_3 - a1)) t135 _ A23.out).mono ?_); rintro e w38 ⟨rfl, hb⟩; have c0_ := co_ (g := gA) (o := .cells #[.int .i64 t133, .int .i64 (wrap64 (a1 + t134)), .int .i64 (wrap64 (a0_2 + (wrap64 (a1 - t130))))] 56 (0, 0)) hb (by refine pl ?_; refine blk_put (cs := #[.int .i64 t133, .int .i64 (wrap64 (a0_1 + (wrap64 (a1 - t130)))), .int .i64 (wrap64 (a0_2 + (wrap64 (a1 - t130))))]) ?_ 1 _ rfl; refine pl ?_; exact KA.out); have c1_ := co_ (g := gB) (o := .cells #[.int .i64 0, .int .i64 0, .int .i64 0] 56 (0, 0)) hb (by refine pf ?_ NBA.out; refine pl ?_; exact KB.out); replace KA := bb_ c0_ hb; replace KB := bb_ c1_ hb; replace HB := Aside0.mk (below_step (pb2 HB.out GEA.out GEB.out) hb); clear c0_ c1_; (try clear hb); (try clear hb2); (try clear hk); (try clear hi); have hcz39_0 := ci_ KA 0 (.int .i64 t133); have hcz39_1 : w38.cell? ⟨gA, 1, none⟩ = some (.int .i64 (wrap64 (a1 + t134))) := (blk_cell KA.out 1).trans rfl; have hcz39_2 : w38.cell? ⟨gA, 2, none⟩ = some (.int .i64 (wrap64 (a0_2 + (wrap64 (a1 - t130))))) := (blk_cell KA.out 2).trans rfl; have hfz39_0 := blk_frozen KA.out 0; have hfz39_1 := blk_frozen KA.out 1; have hfz39_2 := blk_frozen KA.out 2) | (go_at_call 32; (with_reducible refine (blend_unit.calls (wrap64 (a1 + t135)) t136 _ A24.out).mono ?_); rintro e w40 ⟨rfl, hb⟩; have c0_ := co_ (g := gA) (o := .cells #[.int .i64 t133, .int .i64 (wrap64 (a1 + t135)), .int .i64 (wrap64 (a0_2 + (wrap64 (a1 - t130))))] 56 (0, 0)) hb (by refine pl ?_; refine blk_put (cs := #[.int .i64 t133, .int .i64 (wrap64 (a1 + t134)), .int .i64 (wrap64 (a0_2 + (wrap64 (a1 - t130))))]) ?_ 1 _ rfl; refine pl ?_; exact KA.out); have c1_ := co_ (g := gB) (o := .cells #[.int .i64 0, .int .i64 0, .int .i64 0] 56 (0, 0)) hb (by refine pf ?_ NBA.out; refine pl ?_; exact KB.out); replace KA := bb_ c0_ hb; replace KB := bb_ c1_ hb; replace HB := Aside0.mk (below_step (pb2 HB.out GEA.out GEB.out) hb); clear c0_ c1_; (try clear hb); (try clear hb2); (try clear hk); (try clear hi); have hcz41_0 := ci_ KA 0 (.int .i64 t133); have hcz41_1 : w40.cell? ⟨gA, 1, none⟩ = some (.int .i64 (wrap64 (a1 + t135))) := (blk_cell KA.out 1).trans rfl; have hcz41_2 : w40.cell? ⟨gA, 2, none⟩ = some (.int .i64 (wrap64 (a0_2 + (wrap64 (a1 - t130))))) := (blk_cell KA.out 2).trans rfl; have hfz41_0 := blk_frozen KA.out 0; have hfz41_1 := blk_frozen KA.out 1; have hfz41_2 := blk_frozen KA.out 2))
     repeat (go_quiet (fail); try go_wp2)
     rw [rounds_succ]
     go_wp2_with (first | (go_at_call 37; (with_reducible refine (num_Div.calls kj3 (wrap64 ((wrap64 ((wrap64 (a0_2 + (wrap64 (a1 - t130)))) - a1)) * a1)) (wrap64 (a1 - x7_3)) t137 _ A25.out).mono ?_); rintro e w42 ⟨rfl, hb⟩; have c0_ := co_ (g := gA) (o := .cells #[.int .i64 t133, .int .i64 t136, .int .i64 (wrap64 (a0_2 + (wrap64 (a1 - t130))))] 56 (0, 0)) hb (by refine pl ?_; refine blk_put (cs := #[.int .i64 t133, .int .i64 (wrap64 (a1 + t135)), .int .i64 (wrap64 (a0_2 + (wrap64 (a1 - t130))))]) ?_ 1 _ rfl; refine pl ?_; exact KA.out); have c1_ := co_ (g := gB) (o := .cells #[.int .i64 0, .int .i64 0, .int .i64 0] 56 (0, 0)) hb (by refine pf ?_ NBA.out; refine pl ?_; exact KB.out); replace KA := bb_ c0_ hb; replace KB := bb_ c1_ hb; replace HB := Aside0.mk (below_step (pb2 HB.out GEA.out GEB.out) hb); clear c0_ c1_; (try clear hb); (try clear hb2); (try clear hk); (try clear hi); have hcz43_0 := ci_ KA 0 (.int .i64 t133); have hcz43_1 := ci_ KA 1 (.int .i64 t136); have hcz43_2 : w42.cell? ⟨gA, 2, none⟩ = some (.int .i64 (wrap64 (a0_2 + (wrap64 (a1 - t130))))) := (blk_cell KA.out 2).trans rfl; have hfz43_0 := blk_frozen KA.out 0; have hfz43_1 := blk_frozen KA.out 1; have hfz43_2 := blk_frozen KA.out 2) | (go_at_call 37; (with_reducible refine (num_Div.calls kj3 (wrap64 ((wrap64 ((wrap64 (a1 + t137)) - a1)) * (wrap64 (65535 - a1)))) (wrap64 (x8_3 - a1)) t138 _ A26.out).mono ?_); rintro e w44 ⟨rfl, hb⟩; have c0_ := co_ (g := gA) (o := .cells #[.int .i64 t133, .int .i64 t136, .int .i64 (wrap64 (a1 + t137))] 56 (0, 0)) hb (by refine pl ?_; refine blk_put (cs := #[.int .i64 t133, .int .i64 t136, .int .i64 (wrap64 (a0_2 + (wrap64 (a1 - t130))))]) ?_ 2 _ rfl; refine pl ?_; exact KA.out); have c1_ := co_ (g := gB) (o := .cells #[.int .i64 0, .int .i64 0, .int .i64 0] 56 (0, 0)) hb (by refine pf ?_ NBA.out; refine pl ?_; exact KB.out); replace KA := bb_ c0_ hb; replace KB := bb_ c1_ hb; replace HB := Aside0.mk (below_step (pb2 HB.out GEA.out GEB.out) hb); clear c0_ c1_; (try clear hb); (try clear hb2); (try clear hk); (try clear hi); have hcz45_0 := ci_ KA 0 (.int .i64 t133); have hcz45_1 := ci_ KA 1 (.int .i64 t136); have hcz45_2 : w44.cell? ⟨gA, 2, none⟩ = some (.int .i64 (wrap64 (a1 + t137))) := (blk_cell KA.out 2).trans rfl; have hfz45_0 := blk_frozen KA.out 0; have hfz45_1 := blk_frozen KA.out 1; have hfz45_2 := blk_frozen KA.out 2) | (go_at_call 32; (with_reducible refine (blend_unit.calls (wrap64 (a1 + t138)) t139 _ A27.out).mono ?_); rintro e w46 ⟨rfl, hb⟩; have c0_ := co_ (g := gA) (o := .cells #[.int .i64 t133, .int .i64 t136, .int .i64 (wrap64 (a1 + t138))] 56 (0, 0)) hb (by refine pl ?_; refine blk_put (cs := #[.int .i64 t133, .int .i64 t136, .int .i64 (wrap64 (a1 + t137))]) ?_ 2 _ rfl; refine pl ?_; exact KA.out); have c1_ := co_ (g := gB) (o := .cells #[.int .i64 0, .int .i64 0, .int .i64 0] 56 (0, 0)) hb (by refine pf ?_ NBA.out; refine pl ?_; exact KB.out); replace KA := bb_ c0_ hb; replace KB := bb_ c1_ hb; replace HB := Aside0.mk (below_step (pb2 HB.out GEA.out GEB.out) hb); clear c0_ c1_; (try clear hb); (try clear hb2); (try clear hk); (try clear hi); have hcz47_0 := ci_ KA 0 (.int .i64 t133); have hcz47_1 := ci_ KA 1 (.int .i64 t136); have hcz47_2 : w46.cell? ⟨gA, 2, none⟩ = some (.int .i64 (wrap64 (a1 + t138))) := (blk_cell KA.out 2).trans rfl; have hfz47_0 := blk_frozen KA.out 0; have hfz47_1 := blk_frozen KA.out 1; have hfz47_2 := blk_frozen KA.out 2; have hcz48_0 := ci_ KB 0 (.int .i64 0); have hcz48_1 := ci_ KB 1 (.int .i64 0); have hcz48_2 := ci_ KB 2 (.int .i64 0); have hfz48_0 := blk_frozen KB.out 0; have hfz48_1 := blk_frozen KB.out 1; have hfz48_2 := blk_frozen KB.out 2))
     repeat (go_quiet (fail); try go_wp2)
     rw [rounds_succ]
     go_wp2
     repeat (go_quiet (fail); try go_wp2)
     refine bodyPost_ret (results_cell_row rfl _ _ gB 56 #[.int .i64 t133, .int .i64 t136, .int .i64 t139] (0, 0) _ rfl (by refine pl ?_; refine blk_put (cs := #[.int .i64 t133, .int .i64 t136, .int .i64 0]) ?_ 2 _ rfl; refine pl ?_; refine blk_put (cs := #[.int .i64 t133, .int .i64 0, .int .i64 0]) ?_ 1 _ rfl; refine pl ?_; refine blk_put (cs := #[.int .i64 0, .int .i64 0, .int .i64 0]) ?_ 0 _ rfl; refine pl ?_; refine blk_far ?_ NBA.out _; refine pl ?_; exact KB.out) Try.underlying56 rfl (by kernel_rfl)) rfl ?_
     exact ⟨by first | rfl | (simp [errW_none, errW_some] <;> rfl) | (simp [*, errW_none, errW_some] <;> rfl), pb2 HB.out GEA.out GEB.out⟩
    ·rw [if_neg c19] at H
     have c19b0 : decide (65535 < x8_3) = false := decide_eq_false c19
     clear c19
     replace H := Option.bind_eq_some_iff.mp H
     obtain ⟨t140, A490, H⟩ := H
     replace H : ((num_Div.f kj3 (wrap64 ((wrap64 ((wrap64 (a0_1 + (wrap64 (a1 - t130)))) - a1)) * a1)) (wrap64 (a1 - x7_3))).bind fun t141 => ((blend_unit.f (wrap64 (a1 + t141))).bind fun t142 => ((num_Div.f kj3 (wrap64 ((wrap64 ((wrap64 (a0_2 + (wrap64 (a1 - t130)))) - a1)) * a1)) (wrap64 (a1 - x7_3))).bind fun t143 => ((blend_unit.f (wrap64 (a1 + t143))).bind fun t144 => (some (t140, t142, t144)))))) = some (r1, r2, r3) := H
     have A49 := Aside0.mk A490
     clear A490
     replace H := Option.bind_eq_some_iff.mp H
     obtain ⟨t141, A500, H⟩ := H
     replace H : ((blend_unit.f (wrap64 (a1 + t141))).bind fun t142 => ((num_Div.f kj3 (wrap64 ((wrap64 ((wrap64 (a0_2 + (wrap64 (a1 - t130)))) - a1)) * a1)) (wrap64 (a1 - x7_3))).bind fun t143 => ((blend_unit.f (wrap64 (a1 + t143))).bind fun t144 => (some (t140, t142, t144))))) = some (r1, r2, r3) := H
     have A50 := Aside0.mk A500
     clear A500
     replace H := Option.bind_eq_some_iff.mp H
     obtain ⟨t142, A510, H⟩ := H
     replace H : ((num_Div.f kj3 (wrap64 ((wrap64 ((wrap64 (a0_2 + (wrap64 (a1 - t130)))) - a1)) * a1)) (wrap64 (a1 - x7_3))).bind fun t143 => ((blend_unit.f (wrap64 (a1 + t143))).bind fun t144 => (some (t140, t142, t144)))) = some (r1, r2, r3) := H
     have A51 := Aside0.mk A510
     clear A510
     replace H := Option.bind_eq_some_iff.mp H
     obtain ⟨t143, A520, H⟩ := H
     replace H : ((blend_unit.f (wrap64 (a1 + t143))).bind fun t144 => (some (t140, t142, t144))) = some (r1, r2, r3) := H
     have A52 := Aside0.mk A520
     clear A520
     replace H := Option.bind_eq_some_iff.mp H
     obtain ⟨t144, A530, H⟩ := H
     replace H : (some (t140, t142, t144)) = some (r1, r2, r3) := H
     have A53 := Aside0.mk A530
     clear A530
     simp only [Option.some.injEq, Prod.mk.injEq] at H
     obtain ⟨rfl, rfl, rfl⟩ := H
     have hnb54 := NAB.out
     have hnc54 := NBA.out
     have hcz55_0 : wc.cell? ⟨gA, 0, none⟩ = some (.int .i64 (wrap64 (a0_0 + (wrap64 (a1 - t130))))) := (blk_cell KA.out 0).trans rfl
     have hcz55_1 : wc.cell? ⟨gA, 1, none⟩ = some (.int .i64 (wrap64 (a0_1 + (wrap64 (a1 - t130))))) := (blk_cell KA.out 1).trans rfl
     have hcz55_2 : wc.cell? ⟨gA, 2, none⟩ = some (.int .i64 (wrap64 (a0_2 + (wrap64 (a1 - t130))))) := (blk_cell KA.out 2).trans rfl
     have hfz55_0 := blk_frozen KA.out 0
     have hfz55_1 := blk_frozen KA.out 1
     have hfz55_2 := blk_frozen KA.out 2
     go_wp2
     repeat (go_quiet (fail); try go_wp2)
     refine wp_loop_rounds 4 ?_
     rw [rounds_succ]
     go_wp2_with (first | (go_at_call 37; (with_reducible refine (num_Div.calls kj3 (wrap64 ((wrap64 ((wrap64 (a0_0 + (wrap64 (a1 - t130)))) - a1)) * a1)) (wrap64 (a1 - x7_3)) t131 _ A18.out).mono ?_); rintro e w56 ⟨rfl, hb⟩; replace KA := bp_ KA hb; replace KB := bp_ KB hb; replace HB := Aside0.mk (below_step (pb2 HB.out GEA.out GEB.out) hb); (try clear hb); (try clear hb2); (try clear hk); (try clear hi); have hcz57_0 : w56.cell? ⟨gA, 0, none⟩ = some (.int .i64 (wrap64 (a0_0 + (wrap64 (a1 - t130))))) := (blk_cell KA.out 0).trans rfl; have hcz57_1 : w56.cell? ⟨gA, 1, none⟩ = some (.int .i64 (wrap64 (a0_1 + (wrap64 (a1 - t130))))) := (blk_cell KA.out 1).trans rfl; have hcz57_2 : w56.cell? ⟨gA, 2, none⟩ = some (.int .i64 (wrap64 (a0_2 + (wrap64 (a1 - t130))))) := (blk_cell KA.out 2).trans rfl; have hfz57_0 := blk_frozen KA.out 0; have hfz57_1 := blk_frozen KA.out 1; have hfz57_2 := blk_frozen KA.out 2) | (go_at_call 32; (with_reducible refine (blend_unit.calls (wrap64 (a1 + t131)) t140 _ A49.out).mono ?_); rintro e w58 ⟨rfl, hb⟩; have c0_ := co_ (g := gA) (o := .cells #[.int .i64 (wrap64 (a1 + t131)), .int .i64 (wrap64 (a0_1 + (wrap64 (a1 - t130)))), .int .i64 (wrap64 (a0_2 + (wrap64 (a1 - t130))))] 56 (0, 0)) hb (by refine pl ?_; refine blk_put (cs := #[.int .i64 (wrap64 (a0_0 + (wrap64 (a1 - t130)))), .int .i64 (wrap64 (a0_1 + (wrap64 (a1 - t130)))), .int .i64 (wrap64 (a0_2 + (wrap64 (a1 - t130))))]) ?_ 0 _ rfl; refine pl ?_; exact KA.out); have c1_ := co_ (g := gB) (o := .cells #[.int .i64 0, .int .i64 0, .int .i64 0] 56 (0, 0)) hb (by refine pf ?_ NBA.out; refine pl ?_; exact KB.out); replace KA := bb_ c0_ hb; replace KB := bb_ c1_ hb; replace HB := Aside0.mk (below_step (pb2 HB.out GEA.out GEB.out) hb); clear c0_ c1_; (try clear hb); (try clear hb2); (try clear hk); (try clear hi); have hcz59_0 : w58.cell? ⟨gA, 0, none⟩ = some (.int .i64 (wrap64 (a1 + t131))) := (blk_cell KA.out 0).trans rfl; have hcz59_1 : w58.cell? ⟨gA, 1, none⟩ = some (.int .i64 (wrap64 (a0_1 + (wrap64 (a1 - t130))))) := (blk_cell KA.out 1).trans rfl; have hcz59_2 : w58.cell? ⟨gA, 2, none⟩ = some (.int .i64 (wrap64 (a0_2 + (wrap64 (a1 - t130))))) := (blk_cell KA.out 2).trans rfl; have hfz59_0 := blk_frozen KA.out 0; have hfz59_1 := blk_frozen KA.out 1; have hfz59_2 := blk_frozen KA.out 2))
     repeat (go_quiet (fail); try go_wp2)
     rw [rounds_succ]
     go_wp2_with (first | (go_at_call 37; (with_reducible refine (num_Div.calls kj3 (wrap64 ((wrap64 ((wrap64 (a0_1 + (wrap64 (a1 - t130)))) - a1)) * a1)) (wrap64 (a1 - x7_3)) t141 _ A50.out).mono ?_); rintro e w60 ⟨rfl, hb⟩; have c0_ := co_ (g := gA) (o := .cells #[.int .i64 t140, .int .i64 (wrap64 (a0_1 + (wrap64 (a1 - t130)))), .int .i64 (wrap64 (a0_2 + (wrap64 (a1 - t130))))] 56 (0, 0)) hb (by refine pl ?_; refine blk_put (cs := #[.int .i64 (wrap64 (a1 + t131)), .int .i64 (wrap64 (a0_1 + (wrap64 (a1 - t130)))), .int .i64 (wrap64 (a0_2 + (wrap64 (a1 - t130))))]) ?_ 0 _ rfl; refine pl ?_; exact KA.out); have c1_ := co_ (g := gB) (o := .cells #[.int .i64 0, .int .i64 0, .int .i64 0] 56 (0, 0)) hb (by refine pf ?_ NBA.out; refine pl ?_; exact KB.out); replace KA := bb_ c0_ hb; replace KB := bb_ c1_ hb; replace HB := Aside0.mk (below_step (pb2 HB.out GEA.out GEB.out) hb); clear c0_ c1_; (try clear hb); (try clear hb2); (try clear hk); (try clear hi); have hcz61_0 := ci_ KA 0 (.int .i64 t140); have hcz61_1 : w60.cell? ⟨gA, 1, none⟩ = some (.int .i64 (wrap64 (a0_1 + (wrap64 (a1 - t130))))) := (blk_cell KA.out 1).trans rfl; have hcz61_2 : w60.cell? ⟨gA, 2, none⟩ = some (.int .i64 (wrap64 (a0_2 + (wrap64 (a1 - t130))))) := (blk_cell KA.out 2).trans rfl; have hfz61_0 := blk_frozen KA.out 0; have hfz61_1 := blk_frozen KA.out 1; have hfz61_2 := blk_frozen KA.out 2) | (go_at_call 32; (with_reducible refine (blend_unit.calls (wrap64 (a1 + t141)) t142 _ A51.out).mono ?_); rintro e w62 ⟨rfl, hb⟩; have c0_ := co_ (g := gA) (o := .cells #[.int .i64 t140, .int .i64 (wrap64 (a1 + t141)), .int .i64 (wrap64 (a0_2 + (wrap64 (a1 - t130))))] 56 (0, 0)) hb (by refine pl ?_; refine blk_put (cs := #[.int .i64 t140, .int .i64 (wrap64 (a0_1 + (wrap64 (a1 - t130)))), .int .i64 (wrap64 (a0_2 + (wrap64 (a1 - t130))))]) ?_ 1 _ rfl; refine pl ?_; exact KA.out); have c1_ := co_ (g := gB) (o := .cells #[.int .i64 0, .int .i64 0, .int .i64 0] 56 (0, 0)) hb (by refine pf ?_ NBA.out; refine pl ?_; exact KB.out); replace KA := bb_ c0_ hb; replace KB := bb_ c1_ hb; replace HB := Aside0.mk (below_step (pb2 HB.out GEA.out GEB.out) hb); clear c0_ c1_; (try clear hb); (try clear hb2); (try clear hk); (try clear hi); have hcz63_0 := ci_ KA 0 (.int .i64 t140); have hcz63_1 : w62.cell? ⟨gA, 1, none⟩ = some (.int .i64 (wrap64 (a1 + t141))) := (blk_cell KA.out 1).trans rfl; have hcz63_2 : w62.cell? ⟨gA, 2, none⟩ = some (.int .i64 (wrap64 (a0_2 + (wrap64 (a1 - t130))))) := (blk_cell KA.out 2).trans rfl; have hfz63_0 := blk_frozen KA.out 0; have hfz63_1 := blk_frozen KA.out 1; have hfz63_2 := blk_frozen KA.out 2))
     repeat (go_quiet (fail); try go_wp2)
     rw [rounds_succ]
     go_wp2_with (first | (go_at_call 37; (with_reducible refine (num_Div.calls kj3 (wrap64 ((wrap64 ((wrap64 (a0_2 + (wrap64 (a1 - t130)))) - a1)) * a1)) (wrap64 (a1 - x7_3)) t143 _ A52.out).mono ?_); rintro e w64 ⟨rfl, hb⟩; have c0_ := co_ (g := gA) (o := .cells #[.int .i64 t140, .int .i64 t142, .int .i64 (wrap64 (a0_2 + (wrap64 (a1 - t130))))] 56 (0, 0)) hb (by refine pl ?_; refine blk_put (cs := #[.int .i64 t140, .int .i64 (wrap64 (a1 + t141)), .int .i64 (wrap64 (a0_2 + (wrap64 (a1 - t130))))]) ?_ 1 _ rfl; refine pl ?_; exact KA.out); have c1_ := co_ (g := gB) (o := .cells #[.int .i64 0, .int .i64 0, .int .i64 0] 56 (0, 0)) hb (by refine pf ?_ NBA.out; refine pl ?_; exact KB.out); replace KA := bb_ c0_ hb; replace KB := bb_ c1_ hb; replace HB := Aside0.mk (below_step (pb2 HB.out GEA.out GEB.out) hb); clear c0_ c1_; (try clear hb); (try clear hb2); (try clear hk); (try clear hi); have hcz65_0 := ci_ KA 0 (.int .i64 t140); have hcz65_1 := ci_ KA 1 (.int .i64 t142); have hcz65_2 : w64.cell? ⟨gA, 2, none⟩ = some (.int .i64 (wrap64 (a0_2 + (wrap64 (a1 - t130))))) := (blk_cell KA.out 2).trans rfl; have hfz65_0 := blk_frozen KA.out 0; have hfz65_1 := blk_frozen KA.out 1; have hfz65_2 := blk_frozen KA.out 2) | (go_at_call 32; (with_reducible refine (blend_unit.calls (wrap64 (a1 + t143)) t144 _ A53.out).mono ?_); rintro e w66 ⟨rfl, hb⟩; have c0_ := co_ (g := gA) (o := .cells #[.int .i64 t140, .int .i64 t142, .int .i64 (wrap64 (a1 + t143))] 56 (0, 0)) hb (by refine pl ?_; refine blk_put (cs := #[.int .i64 t140, .int .i64 t142, .int .i64 (wrap64 (a0_2 + (wrap64 (a1 - t130))))]) ?_ 2 _ rfl; refine pl ?_; exact KA.out); have c1_ := co_ (g := gB) (o := .cells #[.int .i64 0, .int .i64 0, .int .i64 0] 56 (0, 0)) hb (by refine pf ?_ NBA.out; refine pl ?_; exact KB.out); replace KA := bb_ c0_ hb; replace KB := bb_ c1_ hb; replace HB := Aside0.mk (below_step (pb2 HB.out GEA.out GEB.out) hb); clear c0_ c1_; (try clear hb); (try clear hb2); (try clear hk); (try clear hi); have hcz67_0 := ci_ KA 0 (.int .i64 t140); have hcz67_1 := ci_ KA 1 (.int .i64 t142); have hcz67_2 : w66.cell? ⟨gA, 2, none⟩ = some (.int .i64 (wrap64 (a1 + t143))) := (blk_cell KA.out 2).trans rfl; have hfz67_0 := blk_frozen KA.out 0; have hfz67_1 := blk_frozen KA.out 1; have hfz67_2 := blk_frozen KA.out 2; have hcz68_0 := ci_ KB 0 (.int .i64 0); have hcz68_1 := ci_ KB 1 (.int .i64 0); have hcz68_2 := ci_ KB 2 (.int .i64 0); have hfz68_0 := blk_frozen KB.out 0; have hfz68_1 := blk_frozen KB.out 1; have hfz68_2 := blk_frozen KB.out 2))
     repeat (go_quiet (fail); try go_wp2)
     rw [rounds_succ]
     go_wp2
     repeat (go_quiet (fail); try go_wp2)
     refine bodyPost_ret (results_cell_row rfl _ _ gB 56 #[.int .i64 t140, .int .i64 t142, .int .i64 t144] (0, 0) _ rfl (by refine pl ?_; refine blk_put (cs := #[.int .i64 t140, .int .i64 t142, .int .i64 0]) ?_ 2 _ rfl; refine pl ?_; refine blk_put (cs := #[.int .i64 t140, .int .i64 0, .int .i64 0]) ?_ 1 _ rfl; refine pl ?_; refine blk_put (cs := #[.int .i64 0, .int .i64 0, .int .i64 0]) ?_ 0 _ rfl; refine pl ?_; refine blk_far ?_ NBA.out _; refine pl ?_; exact KB.out) Try.underlying56 rfl (by kernel_rfl)) rfl ?_
     exact ⟨by first | rfl | (simp [errW_none, errW_some] <;> rfl) | (simp [*, errW_none, errW_some] <;> rfl), pb2 HB.out GEA.out GEB.out⟩
   ·rw [if_neg c17] at H
    have c17b0 : decide (x7_3 < 0) = false := decide_eq_false c17
    clear c17
    by_cases c69 : x8_3 > 65535
    ·rw [if_pos c69] at H
     have c69b0 : decide (65535 < x8_3) = true := decide_eq_true c69
     clear c69
     replace H := Option.bind_eq_some_iff.mp H
     obtain ⟨t145, A700, H⟩ := H
     replace H : ((blend_unit.f (wrap64 (a1 + t145))).bind fun t146 => ((num_Div.f kj3 (wrap64 ((wrap64 ((wrap64 (a0_1 + (wrap64 (a1 - t130)))) - a1)) * (wrap64 (65535 - a1)))) (wrap64 (x8_3 - a1))).bind fun t147 => ((blend_unit.f (wrap64 (a1 + t147))).bind fun t148 => ((num_Div.f kj3 (wrap64 ((wrap64 ((wrap64 (a0_2 + (wrap64 (a1 - t130)))) - a1)) * (wrap64 (65535 - a1)))) (wrap64 (x8_3 - a1))).bind fun t149 => ((blend_unit.f (wrap64 (a1 + t149))).bind fun t150 => (some (t146, t148, t150))))))) = some (r1, r2, r3) := H
     have A70 := Aside0.mk A700
     clear A700
     replace H := Option.bind_eq_some_iff.mp H
     obtain ⟨t146, A710, H⟩ := H
     replace H : ((num_Div.f kj3 (wrap64 ((wrap64 ((wrap64 (a0_1 + (wrap64 (a1 - t130)))) - a1)) * (wrap64 (65535 - a1)))) (wrap64 (x8_3 - a1))).bind fun t147 => ((blend_unit.f (wrap64 (a1 + t147))).bind fun t148 => ((num_Div.f kj3 (wrap64 ((wrap64 ((wrap64 (a0_2 + (wrap64 (a1 - t130)))) - a1)) * (wrap64 (65535 - a1)))) (wrap64 (x8_3 - a1))).bind fun t149 => ((blend_unit.f (wrap64 (a1 + t149))).bind fun t150 => (some (t146, t148, t150)))))) = some (r1, r2, r3) := H
     have A71 := Aside0.mk A710
     clear A710
     replace H := Option.bind_eq_some_iff.mp H
     obtain ⟨t147, A720, H⟩ := H
     replace H : ((blend_unit.f (wrap64 (a1 + t147))).bind fun t148 => ((num_Div.f kj3 (wrap64 ((wrap64 ((wrap64 (a0_2 + (wrap64 (a1 - t130)))) - a1)) * (wrap64 (65535 - a1)))) (wrap64 (x8_3 - a1))).bind fun t149 => ((blend_unit.f (wrap64 (a1 + t149))).bind fun t150 => (some (t146, t148, t150))))) = some (r1, r2, r3) := H
     have A72 := Aside0.mk A720
     clear A720
     replace H := Option.bind_eq_some_iff.mp H
     obtain ⟨t148, A730, H⟩ := H
     replace H : ((num_Div.f kj3 (wrap64 ((wrap64 ((wrap64 (a0_2 + (wrap64 (a1 - t130)))) - a1)) * (wrap64 (65535 - a1)))) (wrap64 (x8_3 - a1))).bind fun t149 => ((blend_unit.f (wrap64 (a1 + t149))).bind fun t150 => (some (t146, t148, t150)))) = some (r1, r2, r3) := H
     have A73 := Aside0.mk A730
     clear A730
     replace H := Option.bind_eq_some_iff.mp H
     obtain ⟨t149, A740, H⟩ := H
     replace H : ((blend_unit.f (wrap64 (a1 + t149))).bind fun t150 => (some (t146, t148, t150))) = some (r1, r2, r3) := H
     have A74 := Aside0.mk A740
     clear A740
     replace H := Option.bind_eq_some_iff.mp H
     obtain ⟨t150, A750, H⟩ := H
     replace H : (some (t146, t148, t150)) = some (r1, r2, r3) := H
     have A75 := Aside0.mk A750
     clear A750
     simp only [Option.some.injEq, Prod.mk.injEq] at H
     obtain ⟨rfl, rfl, rfl⟩ := H
     have hnb76 := NAB.out
     have hnc76 := NBA.out
     have hcz77_0 : wc.cell? ⟨gA, 0, none⟩ = some (.int .i64 (wrap64 (a0_0 + (wrap64 (a1 - t130))))) := (blk_cell KA.out 0).trans rfl
     have hcz77_1 : wc.cell? ⟨gA, 1, none⟩ = some (.int .i64 (wrap64 (a0_1 + (wrap64 (a1 - t130))))) := (blk_cell KA.out 1).trans rfl
     have hcz77_2 : wc.cell? ⟨gA, 2, none⟩ = some (.int .i64 (wrap64 (a0_2 + (wrap64 (a1 - t130))))) := (blk_cell KA.out 2).trans rfl
     have hfz77_0 := blk_frozen KA.out 0
     have hfz77_1 := blk_frozen KA.out 1
     have hfz77_2 := blk_frozen KA.out 2
     go_wp2
     repeat (go_quiet (fail); try go_wp2)
     refine wp_loop_rounds 4 ?_
     rw [rounds_succ]
     go_wp2_with (first | (go_at_call 37; (with_reducible refine (num_Div.calls kj3 (wrap64 ((wrap64 ((wrap64 (a0_0 + (wrap64 (a1 - t130)))) - a1)) * (wrap64 (65535 - a1)))) (wrap64 (x8_3 - a1)) t145 _ A70.out).mono ?_); rintro e w78 ⟨rfl, hb⟩; replace KA := bp_ KA hb; replace KB := bp_ KB hb; replace HB := Aside0.mk (below_step (pb2 HB.out GEA.out GEB.out) hb); (try clear hb); (try clear hb2); (try clear hk); (try clear hi); have hcz79_0 : w78.cell? ⟨gA, 0, none⟩ = some (.int .i64 (wrap64 (a0_0 + (wrap64 (a1 - t130))))) := (blk_cell KA.out 0).trans rfl; have hcz79_1 : w78.cell? ⟨gA, 1, none⟩ = some (.int .i64 (wrap64 (a0_1 + (wrap64 (a1 - t130))))) := (blk_cell KA.out 1).trans rfl; have hcz79_2 : w78.cell? ⟨gA, 2, none⟩ = some (.int .i64 (wrap64 (a0_2 + (wrap64 (a1 - t130))))) := (blk_cell KA.out 2).trans rfl; have hfz79_0 := blk_frozen KA.out 0; have hfz79_1 := blk_frozen KA.out 1; have hfz79_2 := blk_frozen KA.out 2) | (go_at_call 32; (with_reducible refine (blend_unit.calls (wrap64 (a1 + t145)) t146 _ A71.out).mono ?_); rintro e w80 ⟨rfl, hb⟩; have c0_ := co_ (g := gA) (o := .cells #[.int .i64 (wrap64 (a1 + t145)), .int .i64 (wrap64 (a0_1 + (wrap64 (a1 - t130)))), .int .i64 (wrap64 (a0_2 + (wrap64 (a1 - t130))))] 56 (0, 0)) hb (by refine pl ?_; refine blk_put (cs := #[.int .i64 (wrap64 (a0_0 + (wrap64 (a1 - t130)))), .int .i64 (wrap64 (a0_1 + (wrap64 (a1 - t130)))), .int .i64 (wrap64 (a0_2 + (wrap64 (a1 - t130))))]) ?_ 0 _ rfl; refine pl ?_; exact KA.out); have c1_ := co_ (g := gB) (o := .cells #[.int .i64 0, .int .i64 0, .int .i64 0] 56 (0, 0)) hb (by refine pf ?_ NBA.out; refine pl ?_; exact KB.out); replace KA := bb_ c0_ hb; replace KB := bb_ c1_ hb; replace HB := Aside0.mk (below_step (pb2 HB.out GEA.out GEB.out) hb); clear c0_ c1_; (try clear hb); (try clear hb2); (try clear hk); (try clear hi); have hcz81_0 : w80.cell? ⟨gA, 0, none⟩ = some (.int .i64 (wrap64 (a1 + t145))) := (blk_cell KA.out 0).trans rfl; have hcz81_1 : w80.cell? ⟨gA, 1, none⟩ = some (.int .i64 (wrap64 (a0_1 + (wrap64 (a1 - t130))))) := (blk_cell KA.out 1).trans rfl; have hcz81_2 : w80.cell? ⟨gA, 2, none⟩ = some (.int .i64 (wrap64 (a0_2 + (wrap64 (a1 - t130))))) := (blk_cell KA.out 2).trans rfl; have hfz81_0 := blk_frozen KA.out 0; have hfz81_1 := blk_frozen KA.out 1; have hfz81_2 := blk_frozen KA.out 2))
     repeat (go_quiet (fail); try go_wp2)
     rw [rounds_succ]
     go_wp2_with (first | (go_at_call 37; (with_reducible refine (num_Div.calls kj3 (wrap64 ((wrap64 ((wrap64 (a0_1 + (wrap64 (a1 - t130)))) - a1)) * (wrap64 (65535 - a1)))) (wrap64 (x8_3 - a1)) t147 _ A72.out).mono ?_); rintro e w82 ⟨rfl, hb⟩; have c0_ := co_ (g := gA) (o := .cells #[.int .i64 t146, .int .i64 (wrap64 (a0_1 + (wrap64 (a1 - t130)))), .int .i64 (wrap64 (a0_2 + (wrap64 (a1 - t130))))] 56 (0, 0)) hb (by refine pl ?_; refine blk_put (cs := #[.int .i64 (wrap64 (a1 + t145)), .int .i64 (wrap64 (a0_1 + (wrap64 (a1 - t130)))), .int .i64 (wrap64 (a0_2 + (wrap64 (a1 - t130))))]) ?_ 0 _ rfl; refine pl ?_; exact KA.out); have c1_ := co_ (g := gB) (o := .cells #[.int .i64 0, .int .i64 0, .int .i64 0] 56 (0, 0)) hb (by refine pf ?_ NBA.out; refine pl ?_; exact KB.out); replace KA := bb_ c0_ hb; replace KB := bb_ c1_ hb; replace HB := Aside0.mk (below_step (pb2 HB.out GEA.out GEB.out) hb); clear c0_ c1_; (try clear hb); (try clear hb2); (try clear hk); (try clear hi); have hcz83_0 := ci_ KA 0 (.int .i64 t146); have hcz83_1 : w82.cell? ⟨gA, 1, none⟩ = some (.int .i64 (wrap64 (a0_1 + (wrap64 (a1 - t130))))) := (blk_cell KA.out 1).trans rfl; have hcz83_2 : w82.cell? ⟨gA, 2, none⟩ = some (.int .i64 (wrap64 (a0_2 + (wrap64 (a1 - t130))))) := (blk_cell KA.out 2).trans rfl; have hfz83_0 := blk_frozen KA.out 0; have hfz83_1 := blk_frozen KA.out 1; have hfz83_2 := blk_frozen KA.out 2) | (go_at_call 32; (with_reducible refine (blend_unit.calls (wrap64 (a1 + t147)) t148 _ A73.out).mono ?_); rintro e w84 ⟨rfl, hb⟩; have c0_ := co_ (g := gA) (o := .cells #[.int .i64 t146, .int .i64 (wrap64 (a1 + t147)), .int .i64 (wrap64 (a0_2 + (wrap64 (a1 - t130))))] 56 (0, 0)) hb (by refine pl ?_; refine blk_put (cs := #[.int .i64 t146, .int .i64 (wrap64 (a0_1 + (wrap64 (a1 - t130)))), .int .i64 (wrap64 (a0_2 + (wrap64 (a1 - t130))))]) ?_ 1 _ rfl; refine pl ?_; exact KA.out); have c1_ := co_ (g := gB) (o := .cells #[.int .i64 0, .int .i64 0, .int .i64 0] 56 (0, 0)) hb (by refine pf ?_ NBA.out; refine pl ?_; exact KB.out); replace KA := bb_ c0_ hb; replace KB := bb_ c1_ hb; replace HB := Aside0.mk (below_step (pb2 HB.out GEA.out GEB.out) hb); clear c0_ c1_; (try clear hb); (try clear hb2); (try clear hk); (try clear hi); have hcz85_0 := ci_ KA 0 (.int .i64 t146); have hcz85_1 : w84.cell? ⟨gA, 1, none⟩ = some (.int .i64 (wrap64 (a1 + t147))) := (blk_cell KA.out 1).trans rfl; have hcz85_2 : w84.cell? ⟨gA, 2, none⟩ = some (.int .i64 (wrap64 (a0_2 + (wrap64 (a1 - t130))))) := (blk_cell KA.out 2).trans rfl; have hfz85_0 := blk_frozen KA.out 0; have hfz85_1 := blk_frozen KA.out 1; have hfz85_2 := blk_frozen KA.out 2))
     repeat (go_quiet (fail); try go_wp2)
     rw [rounds_succ]
     go_wp2_with (first | (go_at_call 37; (with_reducible refine (num_Div.calls kj3 (wrap64 ((wrap64 ((wrap64 (a0_2 + (wrap64 (a1 - t130)))) - a1)) * (wrap64 (65535 - a1)))) (wrap64 (x8_3 - a1)) t149 _ A74.out).mono ?_); rintro e w86 ⟨rfl, hb⟩; have c0_ := co_ (g := gA) (o := .cells #[.int .i64 t146, .int .i64 t148, .int .i64 (wrap64 (a0_2 + (wrap64 (a1 - t130))))] 56 (0, 0)) hb (by refine pl ?_; refine blk_put (cs := #[.int .i64 t146, .int .i64 (wrap64 (a1 + t147)), .int .i64 (wrap64 (a0_2 + (wrap64 (a1 - t130))))]) ?_ 1 _ rfl; refine pl ?_; exact KA.out); have c1_ := co_ (g := gB) (o := .cells #[.int .i64 0, .int .i64 0, .int .i64 0] 56 (0, 0)) hb (by refine pf ?_ NBA.out; refine pl ?_; exact KB.out); replace KA := bb_ c0_ hb; replace KB := bb_ c1_ hb; replace HB := Aside0.mk (below_step (pb2 HB.out GEA.out GEB.out) hb); clear c0_ c1_; (try clear hb); (try clear hb2); (try clear hk); (try clear hi); have hcz87_0 := ci_ KA 0 (.int .i64 t146); have hcz87_1 := ci_ KA 1 (.int .i64 t148); have hcz87_2 : w86.cell? ⟨gA, 2, none⟩ = some (.int .i64 (wrap64 (a0_2 + (wrap64 (a1 - t130))))) := (blk_cell KA.out 2).trans rfl; have hfz87_0 := blk_frozen KA.out 0; have hfz87_1 := blk_frozen KA.out 1; have hfz87_2 := blk_frozen KA.out 2) | (go_at_call 32; (with_reducible refine (blend_unit.calls (wrap64 (a1 + t149)) t150 _ A75.out).mono ?_); rintro e w88 ⟨rfl, hb⟩; have c0_ := co_ (g := gA) (o := .cells #[.int .i64 t146, .int .i64 t148, .int .i64 (wrap64 (a1 + t149))] 56 (0, 0)) hb (by refine pl ?_; refine blk_put (cs := #[.int .i64 t146, .int .i64 t148, .int .i64 (wrap64 (a0_2 + (wrap64 (a1 - t130))))]) ?_ 2 _ rfl; refine pl ?_; exact KA.out); have c1_ := co_ (g := gB) (o := .cells #[.int .i64 0, .int .i64 0, .int .i64 0] 56 (0, 0)) hb (by refine pf ?_ NBA.out; refine pl ?_; exact KB.out); replace KA := bb_ c0_ hb; replace KB := bb_ c1_ hb; replace HB := Aside0.mk (below_step (pb2 HB.out GEA.out GEB.out) hb); clear c0_ c1_; (try clear hb); (try clear hb2); (try clear hk); (try clear hi); have hcz89_0 := ci_ KA 0 (.int .i64 t146); have hcz89_1 := ci_ KA 1 (.int .i64 t148); have hcz89_2 : w88.cell? ⟨gA, 2, none⟩ = some (.int .i64 (wrap64 (a1 + t149))) := (blk_cell KA.out 2).trans rfl; have hfz89_0 := blk_frozen KA.out 0; have hfz89_1 := blk_frozen KA.out 1; have hfz89_2 := blk_frozen KA.out 2; have hcz90_0 := ci_ KB 0 (.int .i64 0); have hcz90_1 := ci_ KB 1 (.int .i64 0); have hcz90_2 := ci_ KB 2 (.int .i64 0); have hfz90_0 := blk_frozen KB.out 0; have hfz90_1 := blk_frozen KB.out 1; have hfz90_2 := blk_frozen KB.out 2))
     repeat (go_quiet (fail); try go_wp2)
     rw [rounds_succ]
     go_wp2
     repeat (go_quiet (fail); try go_wp2)
     refine bodyPost_ret (results_cell_row rfl _ _ gB 56 #[.int .i64 t146, .int .i64 t148, .int .i64 t150] (0, 0) _ rfl (by refine pl ?_; refine blk_put (cs := #[.int .i64 t146, .int .i64 t148, .int .i64 0]) ?_ 2 _ rfl; refine pl ?_; refine blk_put (cs := #[.int .i64 t146, .int .i64 0, .int .i64 0]) ?_ 1 _ rfl; refine pl ?_; refine blk_put (cs := #[.int .i64 0, .int .i64 0, .int .i64 0]) ?_ 0 _ rfl; refine pl ?_; refine blk_far ?_ NBA.out _; refine pl ?_; exact KB.out) Try.underlying56 rfl (by kernel_rfl)) rfl ?_
     exact ⟨by first | rfl | (simp [errW_none, errW_some] <;> rfl) | (simp [*, errW_none, errW_some] <;> rfl), pb2 HB.out GEA.out GEB.out⟩
    ·rw [if_neg c69] at H
     have c69b0 : decide (65535 < x8_3) = false := decide_eq_false c69
     clear c69
     replace H := Option.bind_eq_some_iff.mp H
     obtain ⟨t151, A910, H⟩ := H
     replace H : ((blend_unit.f (wrap64 (a0_1 + (wrap64 (a1 - t130))))).bind fun t152 => ((blend_unit.f (wrap64 (a0_2 + (wrap64 (a1 - t130))))).bind fun t153 => (some (t151, t152, t153)))) = some (r1, r2, r3) := H
     have A91 := Aside0.mk A910
     clear A910
     replace H := Option.bind_eq_some_iff.mp H
     obtain ⟨t152, A920, H⟩ := H
     replace H : ((blend_unit.f (wrap64 (a0_2 + (wrap64 (a1 - t130))))).bind fun t153 => (some (t151, t152, t153))) = some (r1, r2, r3) := H
     have A92 := Aside0.mk A920
     clear A920
     replace H := Option.bind_eq_some_iff.mp H
     obtain ⟨t153, A930, H⟩ := H
     replace H : (some (t151, t152, t153)) = some (r1, r2, r3) := H
     have A93 := Aside0.mk A930
     clear A930
     simp only [Option.some.injEq, Prod.mk.injEq] at H
     obtain ⟨rfl, rfl, rfl⟩ := H
     have hnb94 := NAB.out
     have hnc94 := NBA.out
     have hcz95_0 : wc.cell? ⟨gA, 0, none⟩ = some (.int .i64 (wrap64 (a0_0 + (wrap64 (a1 - t130))))) := (blk_cell KA.out 0).trans rfl
     have hcz95_1 : wc.cell? ⟨gA, 1, none⟩ = some (.int .i64 (wrap64 (a0_1 + (wrap64 (a1 - t130))))) := (blk_cell KA.out 1).trans rfl
     have hcz95_2 : wc.cell? ⟨gA, 2, none⟩ = some (.int .i64 (wrap64 (a0_2 + (wrap64 (a1 - t130))))) := (blk_cell KA.out 2).trans rfl
     have hfz95_0 := blk_frozen KA.out 0
     have hfz95_1 := blk_frozen KA.out 1
     have hfz95_2 := blk_frozen KA.out 2
     go_wp2
     repeat (go_quiet (fail); try go_wp2)
     refine wp_loop_rounds 4 ?_
     rw [rounds_succ]
     go_wp2_with (first | (go_at_call 32; (with_reducible refine (blend_unit.calls (wrap64 (a0_0 + (wrap64 (a1 - t130)))) t151 _ A91.out).mono ?_); rintro e w96 ⟨rfl, hb⟩; replace KA := bp_ KA hb; replace KB := bp_ KB hb; replace HB := Aside0.mk (below_step (pb2 HB.out GEA.out GEB.out) hb); (try clear hb); (try clear hb2); (try clear hk); (try clear hi); have hcz97_0 : w96.cell? ⟨gA, 0, none⟩ = some (.int .i64 (wrap64 (a0_0 + (wrap64 (a1 - t130))))) := (blk_cell KA.out 0).trans rfl; have hcz97_1 : w96.cell? ⟨gA, 1, none⟩ = some (.int .i64 (wrap64 (a0_1 + (wrap64 (a1 - t130))))) := (blk_cell KA.out 1).trans rfl; have hcz97_2 : w96.cell? ⟨gA, 2, none⟩ = some (.int .i64 (wrap64 (a0_2 + (wrap64 (a1 - t130))))) := (blk_cell KA.out 2).trans rfl; have hfz97_0 := blk_frozen KA.out 0; have hfz97_1 := blk_frozen KA.out 1; have hfz97_2 := blk_frozen KA.out 2))
     repeat (go_quiet (fail); try go_wp2)
     rw [rounds_succ]
     go_wp2_with (first | (go_at_call 32; (with_reducible refine (blend_unit.calls (wrap64 (a0_1 + (wrap64 (a1 - t130)))) t152 _ A92.out).mono ?_); rintro e w98 ⟨rfl, hb⟩; have c0_ := co_ (g := gA) (o := .cells #[.int .i64 t151, .int .i64 (wrap64 (a0_1 + (wrap64 (a1 - t130)))), .int .i64 (wrap64 (a0_2 + (wrap64 (a1 - t130))))] 56 (0, 0)) hb (by refine pl ?_; refine blk_put (cs := #[.int .i64 (wrap64 (a0_0 + (wrap64 (a1 - t130)))), .int .i64 (wrap64 (a0_1 + (wrap64 (a1 - t130)))), .int .i64 (wrap64 (a0_2 + (wrap64 (a1 - t130))))]) ?_ 0 _ rfl; refine pl ?_; exact KA.out); have c1_ := co_ (g := gB) (o := .cells #[.int .i64 0, .int .i64 0, .int .i64 0] 56 (0, 0)) hb (by refine pf ?_ NBA.out; refine pl ?_; exact KB.out); replace KA := bb_ c0_ hb; replace KB := bb_ c1_ hb; replace HB := Aside0.mk (below_step (pb2 HB.out GEA.out GEB.out) hb); clear c0_ c1_; (try clear hb); (try clear hb2); (try clear hk); (try clear hi); have hcz99_0 := ci_ KA 0 (.int .i64 t151); have hcz99_1 : w98.cell? ⟨gA, 1, none⟩ = some (.int .i64 (wrap64 (a0_1 + (wrap64 (a1 - t130))))) := (blk_cell KA.out 1).trans rfl; have hcz99_2 : w98.cell? ⟨gA, 2, none⟩ = some (.int .i64 (wrap64 (a0_2 + (wrap64 (a1 - t130))))) := (blk_cell KA.out 2).trans rfl; have hfz99_0 := blk_frozen KA.out 0; have hfz99_1 := blk_frozen KA.out 1; have hfz99_2 := blk_frozen KA.out 2))
     repeat (go_quiet (fail); try go_wp2)
     rw [rounds_succ]
     go_wp2_with (first | (go_at_call 32; (with_reducible refine (blend_unit.calls (wrap64 (a0_2 + (wrap64 (a1 - t130)))) t153 _ A93.out).mono ?_); rintro e w100 ⟨rfl, hb⟩; have c0_ := co_ (g := gA) (o := .cells #[.int .i64 t151, .int .i64 t152, .int .i64 (wrap64 (a0_2 + (wrap64 (a1 - t130))))] 56 (0, 0)) hb (by refine pl ?_; refine blk_put (cs := #[.int .i64 t151, .int .i64 (wrap64 (a0_1 + (wrap64 (a1 - t130)))), .int .i64 (wrap64 (a0_2 + (wrap64 (a1 - t130))))]) ?_ 1 _ rfl; refine pl ?_; exact KA.out); have c1_ := co_ (g := gB) (o := .cells #[.int .i64 0, .int .i64 0, .int .i64 0] 56 (0, 0)) hb (by refine pf ?_ NBA.out; refine pl ?_; exact KB.out); replace KA := bb_ c0_ hb; replace KB := bb_ c1_ hb; replace HB := Aside0.mk (below_step (pb2 HB.out GEA.out GEB.out) hb); clear c0_ c1_; (try clear hb); (try clear hb2); (try clear hk); (try clear hi); have hcz101_0 := ci_ KA 0 (.int .i64 t151); have hcz101_1 := ci_ KA 1 (.int .i64 t152); have hcz101_2 : w100.cell? ⟨gA, 2, none⟩ = some (.int .i64 (wrap64 (a0_2 + (wrap64 (a1 - t130))))) := (blk_cell KA.out 2).trans rfl; have hfz101_0 := blk_frozen KA.out 0; have hfz101_1 := blk_frozen KA.out 1; have hfz101_2 := blk_frozen KA.out 2; have hcz102_0 := ci_ KB 0 (.int .i64 0); have hcz102_1 := ci_ KB 1 (.int .i64 0); have hcz102_2 := ci_ KB 2 (.int .i64 0); have hfz102_0 := blk_frozen KB.out 0; have hfz102_1 := blk_frozen KB.out 1; have hfz102_2 := blk_frozen KB.out 2))
     repeat (go_quiet (fail); try go_wp2)
     rw [rounds_succ]
     go_wp2
     repeat (go_quiet (fail); try go_wp2)
     refine bodyPost_ret (results_cell_row rfl _ _ gB 56 #[.int .i64 t151, .int .i64 t152, .int .i64 t153] (0, 0) _ rfl (by refine pl ?_; refine blk_put (cs := #[.int .i64 t151, .int .i64 t152, .int .i64 0]) ?_ 2 _ rfl; refine pl ?_; refine blk_put (cs := #[.int .i64 t151, .int .i64 0, .int .i64 0]) ?_ 1 _ rfl; refine pl ?_; refine blk_put (cs := #[.int .i64 0, .int .i64 0, .int .i64 0]) ?_ 0 _ rfl; refine pl ?_; refine blk_far ?_ NBA.out _; refine pl ?_; exact KB.out) Try.underlying56 rfl (by kernel_rfl)) rfl ?_
     exact ⟨by first | rfl | (simp [errW_none, errW_some] <;> rfl) | (simp [*, errW_none, errW_some] <;> rfl), pb2 HB.out GEA.out GEB.out⟩

/-! ### blend_setSat: function 51 -/
def blend_setSat.f (k : Nat) (a0_0 : Int) (a0_1 : Int) (a0_2 : Int) (a1 : Int) : Option (Int × Int × Int) := (num_Div.f k (wrap64 ((wrap64 (a0_0 - (mn (mn a0_0 a0_1) a0_2))) * a1)) (wrap64 ((mx (mx a0_0 a0_1) a0_2) - (mn (mn a0_0 a0_1) a0_2)))).bind fun t156 => ((num_Div.f k (wrap64 ((wrap64 (a0_1 - (mn (mn a0_0 a0_1) a0_2))) * a1)) (wrap64 ((mx (mx a0_0 a0_1) a0_2) - (mn (mn a0_0 a0_1) a0_2)))).bind fun t157 => ((num_Div.f k (wrap64 ((wrap64 (a0_2 - (mn (mn a0_0 a0_1) a0_2))) * a1)) (wrap64 ((mx (mx a0_0 a0_1) a0_2) - (mn (mn a0_0 a0_1) a0_2)))).bind fun t158 => (some (t156, t157, t158))))
theorem blend_setSat.mono : ∀ a0 a1 a2 a3 k, LeO (blend_setSat.f k a0 a1 a2 a3) (blend_setSat.f (k + 1) a0 a1 a2 a3) := by
  intro a0 a1 a2 a3 k
  unfold blend_setSat.f
  repeat' first
      | (with_reducible exact num_Div.mono _ _ _)
      | (with_reducible exact LeO.refl _)
      | (with_reducible exact LeO.none _)
      | (with_reducible refine LeO.ite ?_ ?_)
      | (with_reducible refine LeO.bind ?_ (fun _ => ?_))
      | exact num_Div.mono _ _ _
      | exact LeO.none _
      | refine LeO.ite ?_ ?_
      | refine LeO.bind ?_ (fun _ => ?_)
set_option maxHeartbeats 8000000 in
set_option maxRecDepth 100000 in
theorem blend_setSat.calls (k : Nat) (a0_0 : Int) (a0_1 : Int) (a0_2 : Int) (a1 : Int) (r1 : Int) (r2 : Int) (r3 : Int) (w : World) (h : blend_setSat.f k a0_0 a0_1 a0_2 a1 = some (r1, r2, r3)) :
    Calls Try.prog 51 #[.agg #[.int .i64 a0_0, .int .i64 a0_1, .int .i64 a0_2], .int .i64 a1] w fun e w' => e = .returned (.agg #[.int .i64 r1, .int .i64 r2, .int .i64 r3]) ∧ Below w.heap.size w w' := by
 have hu56 := Try.underlying56
 have HB := Aside0.mk (Below.refl w.heap.size w)
 have H : ((num_Div.f k (wrap64 ((wrap64 (a0_0 - (mn (mn a0_0 a0_1) a0_2))) * a1)) (wrap64 ((mx (mx a0_0 a0_1) a0_2) - (mn (mn a0_0 a0_1) a0_2)))).bind fun t156 => ((num_Div.f k (wrap64 ((wrap64 (a0_1 - (mn (mn a0_0 a0_1) a0_2))) * a1)) (wrap64 ((mx (mx a0_0 a0_1) a0_2) - (mn (mn a0_0 a0_1) a0_2)))).bind fun t157 => ((num_Div.f k (wrap64 ((wrap64 (a0_2 - (mn (mn a0_0 a0_1) a0_2))) * a1)) (wrap64 ((mx (mx a0_0 a0_1) a0_2) - (mn (mn a0_0 a0_1) a0_2)))).bind fun t158 => (some (t156, t157, t158))))) = some (r1, r2, r3) := h
 clear h
 obtain ⟨ji3, hji3⟩ : ∃ j_ : Int, (mn a0_0 a0_1) = j_ := ⟨_, rfl⟩
 replace H : ((num_Div.f k (wrap64 ((wrap64 (a0_0 - (mn (ji3) a0_2))) * a1)) (wrap64 ((mx (mx a0_0 a0_1) a0_2) - (mn (ji3) a0_2)))).bind fun t156 => ((num_Div.f k (wrap64 ((wrap64 (a0_1 - (mn (ji3) a0_2))) * a1)) (wrap64 ((mx (mx a0_0 a0_1) a0_2) - (mn (ji3) a0_2)))).bind fun t157 => ((num_Div.f k (wrap64 ((wrap64 (a0_2 - (mn (ji3) a0_2))) * a1)) (wrap64 ((mx (mx a0_0 a0_1) a0_2) - (mn (ji3) a0_2)))).bind fun t158 => (some (t156, t157, t158))))) = some (r1, r2, r3) := by first | (rw [hji3] at H; exact H) | (simp only [hji3] at H ⊢; exact H)
 have hji3_ : (if a0_1 < a0_0 then a0_1 else a0_0) = ji3 := hji3
 obtain ⟨ji4, hji4⟩ : ∃ j_ : Int, (mn (ji3) a0_2) = j_ := ⟨_, rfl⟩
 replace H : ((num_Div.f k (wrap64 ((wrap64 (a0_0 - (ji4))) * a1)) (wrap64 ((mx (mx a0_0 a0_1) a0_2) - (ji4)))).bind fun t156 => ((num_Div.f k (wrap64 ((wrap64 (a0_1 - (ji4))) * a1)) (wrap64 ((mx (mx a0_0 a0_1) a0_2) - (ji4)))).bind fun t157 => ((num_Div.f k (wrap64 ((wrap64 (a0_2 - (ji4))) * a1)) (wrap64 ((mx (mx a0_0 a0_1) a0_2) - (ji4)))).bind fun t158 => (some (t156, t157, t158))))) = some (r1, r2, r3) := by first | (rw [hji4] at H; exact H) | (simp only [hji4] at H ⊢; exact H)
 have hji4_ : (if a0_2 < (ji3) then a0_2 else (ji3)) = ji4 := hji4
 obtain ⟨ji5, hji5⟩ : ∃ j_ : Int, (mx a0_0 a0_1) = j_ := ⟨_, rfl⟩
 replace H : ((num_Div.f k (wrap64 ((wrap64 (a0_0 - (ji4))) * a1)) (wrap64 ((mx (ji5) a0_2) - (ji4)))).bind fun t156 => ((num_Div.f k (wrap64 ((wrap64 (a0_1 - (ji4))) * a1)) (wrap64 ((mx (ji5) a0_2) - (ji4)))).bind fun t157 => ((num_Div.f k (wrap64 ((wrap64 (a0_2 - (ji4))) * a1)) (wrap64 ((mx (ji5) a0_2) - (ji4)))).bind fun t158 => (some (t156, t157, t158))))) = some (r1, r2, r3) := by first | (rw [hji5] at H; exact H) | (simp only [hji5] at H ⊢; exact H)
 have hji5_ : (if a0_0 < a0_1 then a0_1 else a0_0) = ji5 := hji5
 obtain ⟨ji6, hji6⟩ : ∃ j_ : Int, (mx (ji5) a0_2) = j_ := ⟨_, rfl⟩
 replace H : ((num_Div.f k (wrap64 ((wrap64 (a0_0 - (ji4))) * a1)) (wrap64 ((ji6) - (ji4)))).bind fun t156 => ((num_Div.f k (wrap64 ((wrap64 (a0_1 - (ji4))) * a1)) (wrap64 ((ji6) - (ji4)))).bind fun t157 => ((num_Div.f k (wrap64 ((wrap64 (a0_2 - (ji4))) * a1)) (wrap64 ((ji6) - (ji4)))).bind fun t158 => (some (t156, t157, t158))))) = some (r1, r2, r3) := by first | (rw [hji6] at H; exact H) | (simp only [hji6] at H ⊢; exact H)
 have hji6_ : (if (ji5) < a0_2 then a0_2 else (ji5)) = ji6 := hji6
 replace H := Option.bind_eq_some_iff.mp H
 obtain ⟨t156, A70, H⟩ := H
 replace H : ((num_Div.f k (wrap64 ((wrap64 (a0_1 - (ji4))) * a1)) (wrap64 ((ji6) - (ji4)))).bind fun t157 => ((num_Div.f k (wrap64 ((wrap64 (a0_2 - (ji4))) * a1)) (wrap64 ((ji6) - (ji4)))).bind fun t158 => (some (t156, t157, t158)))) = some (r1, r2, r3) := H
 have A7 := Aside0.mk A70
 clear A70
 replace H := Option.bind_eq_some_iff.mp H
 obtain ⟨t157, A80, H⟩ := H
 replace H : ((num_Div.f k (wrap64 ((wrap64 (a0_2 - (ji4))) * a1)) (wrap64 ((ji6) - (ji4)))).bind fun t158 => (some (t156, t157, t158))) = some (r1, r2, r3) := H
 have A8 := Aside0.mk A80
 clear A80
 replace H := Option.bind_eq_some_iff.mp H
 obtain ⟨t158, A90, H⟩ := H
 replace H : (some (t156, t157, t158)) = some (r1, r2, r3) := H
 have A9 := Aside0.mk A90
 clear A90
 simp only [Option.some.injEq, Prod.mk.injEq] at H
 obtain ⟨rfl, rfl, rfl⟩ := H
 go_enter Try.func51, Try.ntmps51
 go_wp2_with (first | ((with_reducible refine gate_dst (N := 2) rfl ?_); refine box_event ?hg (N := 2) ?hd (cs := #[.int .i64 a0_0, .int .i64 a0_1, .int .i64 a0_2]) (t := 56) ?hr ?_; (case hd => rfl); (case hg => rfl); (case hr => first | (go_simp; done) | (go_simp; rfl)); intro gA hg w10 hbox hb; have KA := Aside0.mk hbox; have GWA := ge_ hg (pb HB.out); have GEA := ge_ hg (pb HB.out); replace HB := Aside0.mk (below_step (pb HB.out) hb); clear hb hbox hg) | ((with_reducible refine gate_dst (N := 4) rfl ?_); refine box_event ?hg (N := 4) ?hd (cs := #[.int .i64 0, .int .i64 0, .int .i64 0]) (t := 56) ?hr ?_; (case hd => rfl); (case hg => rfl); (case hr => first | (go_simp; done) | (go_simp; rfl)); intro gB hg w11 hbox hb; have c0_ := cp_ hb KA; have KB := Aside0.mk hbox; have GWB := ge_ hg (pb1 HB.out GEA.out); have GEB := ge_ hg (pb1 HB.out GEA.out); have NAB := nl_ hg c0_; have NBA := ng_ hg c0_; replace KA := bb_ c0_ hb; replace HB := Aside0.mk (below_step (pb1 HB.out GEA.out) hb); clear c0_; clear hb hbox hg; have hnb12 := NAB.out; have hnc12 := NBA.out; have hcz13_0 := ci_ KA 0 (.int .i64 a0_0); have hcz13_1 := ci_ KA 1 (.int .i64 a0_1); have hcz13_2 := ci_ KA 2 (.int .i64 a0_2); have hfz13_0 := blk_frozen KA.out 0; have hfz13_1 := blk_frozen KA.out 1; have hfz13_2 := blk_frozen KA.out 2))
 repeat (go_quiet (fail); try go_wp2)
 refine wp_loop_rounds 4 ?_
 rw [rounds_succ]
 go_wp2_with (first | (go_at_call 37; (with_reducible refine (num_Div.calls k (wrap64 ((wrap64 (a0_0 - (ji4))) * a1)) (wrap64 ((ji6) - (ji4))) t156 _ A7.out).mono ?_); rintro e w14 ⟨rfl, hb⟩; replace KA := bp_ KA hb; replace KB := bp_ KB hb; replace HB := Aside0.mk (below_step (pb2 HB.out GEA.out GEB.out) hb); (try clear hb); (try clear hb2); (try clear hk); (try clear hi); have hcz15_0 := ci_ KA 0 (.int .i64 a0_0); have hcz15_1 := ci_ KA 1 (.int .i64 a0_1); have hcz15_2 := ci_ KA 2 (.int .i64 a0_2); have hfz15_0 := blk_frozen KA.out 0; have hfz15_1 := blk_frozen KA.out 1; have hfz15_2 := blk_frozen KA.out 2))
 repeat (go_quiet (fail); try go_wp2)
 rw [rounds_succ]
 go_wp2_with (first | (go_at_call 37; (with_reducible refine (num_Div.calls k (wrap64 ((wrap64 (a0_1 - (ji4))) * a1)) (wrap64 ((ji6) - (ji4))) t157 _ A8.out).mono ?_); rintro e w16 ⟨rfl, hb⟩; have c0_ := co_ (g := gA) (o := .cells #[.int .i64 t156, .int .i64 a0_1, .int .i64 a0_2] 56 (0, 0)) hb (by refine pl ?_; refine blk_put (cs := #[.int .i64 a0_0, .int .i64 a0_1, .int .i64 a0_2]) ?_ 0 _ rfl; refine pl ?_; exact KA.out); have c1_ := co_ (g := gB) (o := .cells #[.int .i64 0, .int .i64 0, .int .i64 0] 56 (0, 0)) hb (by refine pf ?_ NBA.out; refine pl ?_; exact KB.out); replace KA := bb_ c0_ hb; replace KB := bb_ c1_ hb; replace HB := Aside0.mk (below_step (pb2 HB.out GEA.out GEB.out) hb); clear c0_ c1_; (try clear hb); (try clear hb2); (try clear hk); (try clear hi); have hcz17_0 := ci_ KA 0 (.int .i64 t156); have hcz17_1 := ci_ KA 1 (.int .i64 a0_1); have hcz17_2 := ci_ KA 2 (.int .i64 a0_2); have hfz17_0 := blk_frozen KA.out 0; have hfz17_1 := blk_frozen KA.out 1; have hfz17_2 := blk_frozen KA.out 2))
 repeat (go_quiet (fail); try go_wp2)
 rw [rounds_succ]
 go_wp2_with (first | (go_at_call 37; (with_reducible refine (num_Div.calls k (wrap64 ((wrap64 (a0_2 - (ji4))) * a1)) (wrap64 ((ji6) - (ji4))) t158 _ A9.out).mono ?_); rintro e w18 ⟨rfl, hb⟩; have c0_ := co_ (g := gA) (o := .cells #[.int .i64 t156, .int .i64 t157, .int .i64 a0_2] 56 (0, 0)) hb (by refine pl ?_; refine blk_put (cs := #[.int .i64 t156, .int .i64 a0_1, .int .i64 a0_2]) ?_ 1 _ rfl; refine pl ?_; exact KA.out); have c1_ := co_ (g := gB) (o := .cells #[.int .i64 0, .int .i64 0, .int .i64 0] 56 (0, 0)) hb (by refine pf ?_ NBA.out; refine pl ?_; exact KB.out); replace KA := bb_ c0_ hb; replace KB := bb_ c1_ hb; replace HB := Aside0.mk (below_step (pb2 HB.out GEA.out GEB.out) hb); clear c0_ c1_; (try clear hb); (try clear hb2); (try clear hk); (try clear hi); have hcz19_0 := ci_ KA 0 (.int .i64 t156); have hcz19_1 := ci_ KA 1 (.int .i64 t157); have hcz19_2 := ci_ KA 2 (.int .i64 a0_2); have hfz19_0 := blk_frozen KA.out 0; have hfz19_1 := blk_frozen KA.out 1; have hfz19_2 := blk_frozen KA.out 2; have hcz20_0 := ci_ KB 0 (.int .i64 0); have hcz20_1 := ci_ KB 1 (.int .i64 0); have hcz20_2 := ci_ KB 2 (.int .i64 0); have hfz20_0 := blk_frozen KB.out 0; have hfz20_1 := blk_frozen KB.out 1; have hfz20_2 := blk_frozen KB.out 2))
 repeat (go_quiet (fail); try go_wp2)
 rw [rounds_succ]
 go_wp2
 repeat (go_quiet (fail); try go_wp2)
 refine bodyPost_ret (results_cell_row rfl _ _ gB 56 #[.int .i64 t156, .int .i64 t157, .int .i64 t158] (0, 0) _ rfl (by refine pl ?_; refine blk_put (cs := #[.int .i64 t156, .int .i64 t157, .int .i64 0]) ?_ 2 _ rfl; refine pl ?_; refine blk_put (cs := #[.int .i64 t156, .int .i64 0, .int .i64 0]) ?_ 1 _ rfl; refine pl ?_; refine blk_put (cs := #[.int .i64 0, .int .i64 0, .int .i64 0]) ?_ 0 _ rfl; refine pl ?_; refine blk_far ?_ NBA.out _; refine pl ?_; exact KB.out) Try.underlying56 rfl (by kernel_rfl)) rfl ?_
 exact ⟨by first | rfl | (simp [errW_none, errW_some] <;> rfl) | (simp only [← hji3, ← hji4, ← hji5, ← hji6]; first | rfl | (simp [errW_none, errW_some] <;> rfl)) | (simp [*, errW_none, errW_some] <;> rfl), pb2 HB.out GEA.out GEB.out⟩

/-! ### blend_sat: function 52 -/
def blend_sat.f (a0_0 : Int) (a0_1 : Int) (a0_2 : Int) : Option (Int) := some (wrap64 ((mx (mx a0_0 a0_1) a0_2) - (mn (mn a0_0 a0_1) a0_2)))
set_option maxHeartbeats 8000000 in
set_option maxRecDepth 100000 in
theorem blend_sat.calls (a0_0 : Int) (a0_1 : Int) (a0_2 : Int) (r : Int) (w : World) (h : blend_sat.f a0_0 a0_1 a0_2 = some r) :
    Calls Try.prog 52 #[.agg #[.int .i64 a0_0, .int .i64 a0_1, .int .i64 a0_2]] w fun e w' => e = .returned (.int .i64 r) ∧ Below w.heap.size w w' := by
 have hu56 := Try.underlying56
 have HB := Aside0.mk (Below.refl w.heap.size w)
 have H : (some (wrap64 ((mx (mx a0_0 a0_1) a0_2) - (mn (mn a0_0 a0_1) a0_2)))) = some r := h
 clear h
 obtain ⟨ji2, hji2⟩ : ∃ j_ : Int, (mx a0_0 a0_1) = j_ := ⟨_, rfl⟩
 replace H : (some (wrap64 ((mx (ji2) a0_2) - (mn (mn a0_0 a0_1) a0_2)))) = some r := by first | (rw [hji2] at H; exact H) | (simp only [hji2] at H ⊢; exact H)
 have hji2_ : (if a0_0 < a0_1 then a0_1 else a0_0) = ji2 := hji2
 obtain ⟨ji3, hji3⟩ : ∃ j_ : Int, (mx (ji2) a0_2) = j_ := ⟨_, rfl⟩
 replace H : (some (wrap64 ((ji3) - (mn (mn a0_0 a0_1) a0_2)))) = some r := by first | (rw [hji3] at H; exact H) | (simp only [hji3] at H ⊢; exact H)
 have hji3_ : (if (ji2) < a0_2 then a0_2 else (ji2)) = ji3 := hji3
 obtain ⟨ji4, hji4⟩ : ∃ j_ : Int, (mn a0_0 a0_1) = j_ := ⟨_, rfl⟩
 replace H : (some (wrap64 ((ji3) - (mn (ji4) a0_2)))) = some r := by first | (rw [hji4] at H; exact H) | (simp only [hji4] at H ⊢; exact H)
 have hji4_ : (if a0_1 < a0_0 then a0_1 else a0_0) = ji4 := hji4
 obtain ⟨ji5, hji5⟩ : ∃ j_ : Int, (mn (ji4) a0_2) = j_ := ⟨_, rfl⟩
 replace H : (some (wrap64 ((ji3) - (ji5)))) = some r := by first | (rw [hji5] at H; exact H) | (simp only [hji5] at H ⊢; exact H)
 have hji5_ : (if a0_2 < (ji4) then a0_2 else (ji4)) = ji5 := hji5
 obtain rfl := Option.some.inj H
 go_enter Try.func52, Try.ntmps52
 go_wp2_with (first | ((with_reducible refine gate_dst (N := 1) rfl ?_); refine box_event ?hg (N := 1) ?hd (cs := #[.int .i64 a0_0, .int .i64 a0_1, .int .i64 a0_2]) (t := 56) ?hr ?_; (case hd => rfl); (case hg => rfl); (case hr => first | (go_simp; done) | (go_simp; rfl)); intro gA hg w6 hbox hb; have KA := Aside0.mk hbox; have GWA := ge_ hg (pb HB.out); have GEA := ge_ hg (pb HB.out); replace HB := Aside0.mk (below_step (pb HB.out) hb); clear hb hbox hg; have hcz7_0 := ci_ KA 0 (.int .i64 a0_0); have hcz7_1 := ci_ KA 1 (.int .i64 a0_1); have hcz7_2 := ci_ KA 2 (.int .i64 a0_2); have hfz7_0 := blk_frozen KA.out 0; have hfz7_1 := blk_frozen KA.out 1; have hfz7_2 := blk_frozen KA.out 2))
 go_ret
 exact ⟨by first | rfl | (simp [errW_none, errW_some] <;> rfl) | (simp only [← hji2, ← hji3, ← hji4, ← hji5]; first | rfl | (simp [errW_none, errW_some] <;> rfl)) | (simp [*, errW_none, errW_some] <;> rfl), pb1 HB.out GEA.out⟩

end Go.Proofs.Ytnijapaaickifaa.I
