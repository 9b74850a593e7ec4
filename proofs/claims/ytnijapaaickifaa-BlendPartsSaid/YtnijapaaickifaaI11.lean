-- Written for this claim by a program of this session (handprint.py) that drives the kit's print. Not trusted: Lean checks it.
import Derived.Test.YtnijapaaickifaaI0
import Derived.Test.YtnijapaaickifaaI2
import Derived.Test.YtnijapaaickifaaI9
import Derived.Test.YtnijapaaickifaaI10
namespace Go.Proofs.Ytnijapaaickifaa.I
open Go.RowKit Go.Proofs.YtnijapaaickifaaW.PrintWords Go.Proofs.YtnijapaaickifaaW.PrintLast
attribute [local go_sem] max2_int min2_int max_two min_two max_three min_three max_four min_four
set_option linter.unusedVariables false
set_option linter.unusedSimpArgs false

/-! ### blend_Over: function 14 -/
def blend_Over.f (k : Nat) (a0 : Int) (a1_0 : Int) (a1_1 : Int) (a1_2 : Int) (a1_3 : Int) (a2_0 : Int) (a2_1 : Int) (a2_2 : Int) (a2_3 : Int) : Option (Int × Int × Int × Int) := (pixel_Limit.f a1_0 a1_1 a1_2 a1_3).bind fun bt212 => ((pixel_Limit.f a2_0 a2_1 a2_2 a2_3).bind fun bt216 => (if (wrap64 ((wrap64 (65535 * (wrap64 (bt216.2.2.2 + bt212.2.2.2)))) - (wrap64 (bt216.2.2.2 * bt212.2.2.2)))) = 0 then (some (0, 0, 0, 0)) else ((blend_Colors.f k a0 bt212.1 bt212.2.1 bt212.2.2.1 bt212.2.2.2 bt216.1 bt216.2.1 bt216.2.2.1 bt216.2.2.2).bind fun bt221 => ((blend_Over_1.f bt212.1 bt216.1 bt221.1 bt216.1 bt216.2.1 bt216.2.2.1 bt216.2.2.2 bt212.1 bt212.2.1 bt212.2.2.1 bt212.2.2.2 (wrap64 ((wrap64 (65535 * (wrap64 (bt216.2.2.2 + bt212.2.2.2)))) - (wrap64 (bt216.2.2.2 * bt212.2.2.2))))).bind fun t226 => ((blend_Over_1.f bt212.2.1 bt216.2.1 bt221.2.1 bt216.1 bt216.2.1 bt216.2.2.1 bt216.2.2.2 bt212.1 bt212.2.1 bt212.2.2.1 bt212.2.2.2 (wrap64 ((wrap64 (65535 * (wrap64 (bt216.2.2.2 + bt212.2.2.2)))) - (wrap64 (bt216.2.2.2 * bt212.2.2.2))))).bind fun t227 => ((blend_Over_1.f bt212.2.2.1 bt216.2.2.1 bt221.2.2.1 bt216.1 bt216.2.1 bt216.2.2.1 bt216.2.2.2 bt212.1 bt212.2.1 bt212.2.2.1 bt212.2.2.2 (wrap64 ((wrap64 (65535 * (wrap64 (bt216.2.2.2 + bt212.2.2.2)))) - (wrap64 (bt216.2.2.2 * bt212.2.2.2))))).bind fun t228 => ((num_Div.f k (wrap64 ((wrap64 (65535 * (wrap64 (bt216.2.2.2 + bt212.2.2.2)))) - (wrap64 (bt216.2.2.2 * bt212.2.2.2)))) 65535).bind fun t229 => (some (t226, t227, t228, t229)))))))))
theorem blend_Over.mono : ∀ a0 a1 a2 a3 a4 a5 a6 a7 a8 k, LeO (blend_Over.f k a0 a1 a2 a3 a4 a5 a6 a7 a8) (blend_Over.f (k + 1) a0 a1 a2 a3 a4 a5 a6 a7 a8) := by
  intro a0 a1 a2 a3 a4 a5 a6 a7 a8 k
  unfold blend_Over.f
  repeat' first
      | (with_reducible exact blend_Colors.mono _ _ _ _ _ _ _ _ _ _)
      | (with_reducible exact num_Div.mono _ _ _)
      | (with_reducible exact LeO.refl _)
      | (with_reducible exact LeO.none _)
      | (with_reducible refine LeO.ite ?_ ?_)
      | (with_reducible refine LeO.bind ?_ (fun _ => ?_))
      | exact blend_Colors.mono _ _ _ _ _ _ _ _ _ _
      | exact num_Div.mono _ _ _
      | exact LeO.none _
      | refine LeO.ite ?_ ?_
      | refine LeO.bind ?_ (fun _ => ?_)
def blend_Over.T7 : Bool × List (List Nat × List Nat) := (true, [([], []), ([], []), ([1], [1]), ([], []), ([3], [3]), ([], []), ([5], [5]), ([0, 2, 4, 6], [0, 2, 4, 6]), ([], []), ([], []), ([9], [9]), ([], []), ([11], [11]), ([], []), ([13], [13]), ([8, 10, 12, 14, 7], [8, 10, 12, 14]), ([], []), ([], []), ([17], [17]), ([], []), ([19], [19]), ([], []), ([21], [21]), ([16, 18, 20, 22, 15], [16, 18, 20, 22]), ([], []), ([24, 23], [24]), ([7, 15, 23, 25], [7, 15, 23, 25]), ([26, 25, 0, 1, 2, 3, 4, 5, 6, 7, 8, 9, 10, 11, 12, 13, 14, 15, 16, 17, 18, 19, 20, 21, 22, 23, 24, 25, 26], [26])])
def blend_Over.B7 : List Nat := [0, 0, 2, 0, 8, 0, 32, 127, 0, 0, 512, 0, 2048, 0, 8192, 32767, 0, 0, 131072, 0, 524288, 0, 2097152, 8388607, 0, 33554431, 67108863, 134217727]
theorem blend_Over.tab7 : rtab .any (opsOf Try.f14 7) = blend_Over.T7 := by kernel_rfl
theorem blend_Over.bits7 : waitsOk blend_Over.T7.2 blend_Over.B7 = true := by kernel_rfl
set_option maxHeartbeats 8000000 in
set_option maxRecDepth 100000 in
theorem blend_Over.calls (k : Nat) (a0 : Int) (a1_0 : Int) (a1_1 : Int) (a1_2 : Int) (a1_3 : Int) (a2_0 : Int) (a2_1 : Int) (a2_2 : Int) (a2_3 : Int) (r1 : Int) (r2 : Int) (r3 : Int) (r4 : Int) (w : World) (h : blend_Over.f k a0 a1_0 a1_1 a1_2 a1_3 a2_0 a2_1 a2_2 a2_3 = some (r1, r2, r3, r4)) :
    Calls Try.prog 14 #[.int .i64 a0, .agg #[.int .i64 a1_0, .int .i64 a1_1, .int .i64 a1_2, .int .i64 a1_3], .agg #[.int .i64 a2_0, .int .i64 a2_1, .int .i64 a2_2, .int .i64 a2_3]] w fun e w' => e = .returned (.agg #[.int .i64 r1, .int .i64 r2, .int .i64 r3, .int .i64 r4]) ∧ Below w.heap.size w w' := by
 have hmf : ∀ (fn : Fn) (first cap : Array Value) (w : World), (Instr.makeFunc fn first cap).run Try.prog w = .ok (.func fn first cap) w := fun _ _ _ _ => rfl
 have hu32 := Try.underlying32
 have HB := Aside0.mk (Below.refl w.heap.size w)
 have H : ((pixel_Limit.f a1_0 a1_1 a1_2 a1_3).bind fun bt212 => ((pixel_Limit.f a2_0 a2_1 a2_2 a2_3).bind fun bt216 => (if (wrap64 ((wrap64 (65535 * (wrap64 (bt216.2.2.2 + bt212.2.2.2)))) - (wrap64 (bt216.2.2.2 * bt212.2.2.2)))) = 0 then (some (0, 0, 0, 0)) else ((blend_Colors.f k a0 bt212.1 bt212.2.1 bt212.2.2.1 bt212.2.2.2 bt216.1 bt216.2.1 bt216.2.2.1 bt216.2.2.2).bind fun bt221 => ((blend_Over_1.f bt212.1 bt216.1 bt221.1 bt216.1 bt216.2.1 bt216.2.2.1 bt216.2.2.2 bt212.1 bt212.2.1 bt212.2.2.1 bt212.2.2.2 (wrap64 ((wrap64 (65535 * (wrap64 (bt216.2.2.2 + bt212.2.2.2)))) - (wrap64 (bt216.2.2.2 * bt212.2.2.2))))).bind fun t226 => ((blend_Over_1.f bt212.2.1 bt216.2.1 bt221.2.1 bt216.1 bt216.2.1 bt216.2.2.1 bt216.2.2.2 bt212.1 bt212.2.1 bt212.2.2.1 bt212.2.2.2 (wrap64 ((wrap64 (65535 * (wrap64 (bt216.2.2.2 + bt212.2.2.2)))) - (wrap64 (bt216.2.2.2 * bt212.2.2.2))))).bind fun t227 => ((blend_Over_1.f bt212.2.2.1 bt216.2.2.1 bt221.2.2.1 bt216.1 bt216.2.1 bt216.2.2.1 bt216.2.2.2 bt212.1 bt212.2.1 bt212.2.2.1 bt212.2.2.2 (wrap64 ((wrap64 (65535 * (wrap64 (bt216.2.2.2 + bt212.2.2.2)))) - (wrap64 (bt216.2.2.2 * bt212.2.2.2))))).bind fun t228 => ((num_Div.f k (wrap64 ((wrap64 (65535 * (wrap64 (bt216.2.2.2 + bt212.2.2.2)))) - (wrap64 (bt216.2.2.2 * bt212.2.2.2)))) 65535).bind fun t229 => (some (t226, t227, t228, t229)))))))))) = some (r1, r2, r3, r4) := h
 clear h
 replace H := Option.bind_eq_some_iff.mp H
 obtain ⟨⟨t212, t213, t214, t215⟩, A40, H⟩ := H
 replace H : ((pixel_Limit.f a2_0 a2_1 a2_2 a2_3).bind fun bt216 => (if (wrap64 ((wrap64 (65535 * (wrap64 (bt216.2.2.2 + t215)))) - (wrap64 (bt216.2.2.2 * t215)))) = 0 then (some (0, 0, 0, 0)) else ((blend_Colors.f k a0 t212 t213 t214 t215 bt216.1 bt216.2.1 bt216.2.2.1 bt216.2.2.2).bind fun bt221 => ((blend_Over_1.f t212 bt216.1 bt221.1 bt216.1 bt216.2.1 bt216.2.2.1 bt216.2.2.2 t212 t213 t214 t215 (wrap64 ((wrap64 (65535 * (wrap64 (bt216.2.2.2 + t215)))) - (wrap64 (bt216.2.2.2 * t215))))).bind fun t226 => ((blend_Over_1.f t213 bt216.2.1 bt221.2.1 bt216.1 bt216.2.1 bt216.2.2.1 bt216.2.2.2 t212 t213 t214 t215 (wrap64 ((wrap64 (65535 * (wrap64 (bt216.2.2.2 + t215)))) - (wrap64 (bt216.2.2.2 * t215))))).bind fun t227 => ((blend_Over_1.f t214 bt216.2.2.1 bt221.2.2.1 bt216.1 bt216.2.1 bt216.2.2.1 bt216.2.2.2 t212 t213 t214 t215 (wrap64 ((wrap64 (65535 * (wrap64 (bt216.2.2.2 + t215)))) - (wrap64 (bt216.2.2.2 * t215))))).bind fun t228 => ((num_Div.f k (wrap64 ((wrap64 (65535 * (wrap64 (bt216.2.2.2 + t215)))) - (wrap64 (bt216.2.2.2 * t215)))) 65535).bind fun t229 => (some (t226, t227, t228, t229))))))))) = some (r1, r2, r3, r4) := H
 have A4 := Aside0.mk A40
 clear A40
 replace H := Option.bind_eq_some_iff.mp H
 obtain ⟨⟨t216, t217, t218, t219⟩, A50, H⟩ := H
 replace H : (if (wrap64 ((wrap64 (65535 * (wrap64 (t219 + t215)))) - (wrap64 (t219 * t215)))) = 0 then (some (0, 0, 0, 0)) else ((blend_Colors.f k a0 t212 t213 t214 t215 t216 t217 t218 t219).bind fun bt221 => ((blend_Over_1.f t212 t216 bt221.1 t216 t217 t218 t219 t212 t213 t214 t215 (wrap64 ((wrap64 (65535 * (wrap64 (t219 + t215)))) - (wrap64 (t219 * t215))))).bind fun t226 => ((blend_Over_1.f t213 t217 bt221.2.1 t216 t217 t218 t219 t212 t213 t214 t215 (wrap64 ((wrap64 (65535 * (wrap64 (t219 + t215)))) - (wrap64 (t219 * t215))))).bind fun t227 => ((blend_Over_1.f t214 t218 bt221.2.2.1 t216 t217 t218 t219 t212 t213 t214 t215 (wrap64 ((wrap64 (65535 * (wrap64 (t219 + t215)))) - (wrap64 (t219 * t215))))).bind fun t228 => ((num_Div.f k (wrap64 ((wrap64 (65535 * (wrap64 (t219 + t215)))) - (wrap64 (t219 * t215)))) 65535).bind fun t229 => (some (t226, t227, t228, t229)))))))) = some (r1, r2, r3, r4) := H
 have A5 := Aside0.mk A50
 clear A50
 by_cases c6 : (wrap64 ((wrap64 (65535 * (wrap64 (t219 + t215)))) - (wrap64 (t219 * t215)))) = 0
 ·rw [if_pos c6] at H
  have c6b0 : ((wrap64 ((wrap64 (65535 * (wrap64 (t219 + t215)))) - (wrap64 (t219 * t215)))) == 0) = true := beq_iff_eq.mpr c6
  have c6b1 : ((wrap64 ((wrap64 (65535 * (wrap64 (t219 + t215)))) - (wrap64 (t219 * t215)))) != 0) = false := bne_eq_false_iff_eq.mpr c6
  clear c6
  simp only [Option.some.injEq, Prod.mk.injEq] at H
  obtain ⟨rfl, rfl, rfl, rfl⟩ := H
  go_enter Try.func14, Try.ntmps14
  try go_wp2_with (first | ((with_reducible refine gate_dst (N := 4) rfl ?_); refine box_event ?hg (N := 4) ?hd (cs := #[.int .i64 a1_0, .int .i64 a1_1, .int .i64 a1_2, .int .i64 a1_3]) (t := 32) ?hr ?_; (case hd => rfl); (case hg => rfl); (case hr => first | (go_simp; done) | (go_simp; rfl)); intro gA hg w7 hbox hb; have KA := Aside0.mk hbox; have GWA := ge_ hg (pb HB.out); have GEA := ge_ hg (pb HB.out); replace HB := Aside0.mk (below_step (pb HB.out) hb); clear hb hbox hg) | ((with_reducible refine gate_dst (N := 5) rfl ?_); refine box_event ?hg (N := 5) ?hd (cs := #[.int .i64 a2_0, .int .i64 a2_1, .int .i64 a2_2, .int .i64 a2_3]) (t := 32) ?hr ?_; (case hd => rfl); (case hg => rfl); (case hr => first | (go_simp; done) | (go_simp; rfl)); intro gB hg w8 hbox hb; have c0_ := cp_ hb KA; have KB := Aside0.mk hbox; have GWB := ge_ hg (pb1 HB.out GEA.out); have GEB := ge_ hg (pb1 HB.out GEA.out); have NAB := nl_ hg c0_; have NBA := ng_ hg c0_; replace KA := bb_ c0_ hb; replace HB := Aside0.mk (below_step (pb1 HB.out GEA.out) hb); clear c0_; clear hb hbox hg) | ((with_reducible refine gate_dst (N := 6) rfl ?_); refine box_event ?hg (N := 6) ?hd (cs := #[.int .i64 0, .int .i64 0, .int .i64 0, .int .i64 0]) (t := 32) ?hr ?_; (case hd => rfl); (case hg => rfl); (case hr => first | (go_simp; done) | (go_simp; rfl)); intro gC hg w9 hbox hb; have c0_ := cp_ hb KA; have c1_ := cp_ hb KB; have KC := Aside0.mk hbox; have GWC := ge_ hg (pb2 HB.out GEA.out GEB.out); have GEC := ge_ hg (pb2 HB.out GEA.out GEB.out); have NAC := nl_ hg c0_; have NCA := ng_ hg c0_; have NBC := nl_ hg c1_; have NCB := ng_ hg c1_; replace KA := bb_ c0_ hb; replace KB := bb_ c1_ hb; replace HB := Aside0.mk (below_step (pb2 HB.out GEA.out GEB.out) hb); clear c0_ c1_; clear hb hbox hg))
  replace KA := Aside0.mk (blk_drew KA.out)
  replace KB := Aside0.mk (blk_drew KB.out)
  replace KC := Aside0.mk (blk_drew KC.out)
  replace HB := Aside0.mk (below_drew1 HB.out)
  refine start_ (n := 6) (S := fun w' => w'.cell? ⟨gA, 0, none⟩ = some (.int .i64 a1_0) ∧ w'.cell? ⟨gA, 1, none⟩ = some (.int .i64 a1_1) ∧ w'.cell? ⟨gA, 2, none⟩ = some (.int .i64 a1_2) ∧ w'.cell? ⟨gA, 3, none⟩ = some (.int .i64 a1_3) ∧ w'.cell? ⟨gB, 0, none⟩ = some (.int .i64 a2_0) ∧ w'.cell? ⟨gB, 1, none⟩ = some (.int .i64 a2_1) ∧ w'.cell? ⟨gB, 2, none⟩ = some (.int .i64 a2_2) ∧ w'.cell? ⟨gB, 3, none⟩ = some (.int .i64 a2_3)) (ds := [4, 5]) #[false, false, false, false, false, false] (by kernel_rfl) rfl rfl ⟨(blk_cell KA.out 0).trans rfl, (blk_cell KA.out 1).trans rfl, (blk_cell KA.out 2).trans rfl, (blk_cell KA.out 3).trans rfl, (blk_cell KB.out 0).trans rfl, (blk_cell KB.out 1).trans rfl, (blk_cell KB.out 2).trans rfl, (blk_cell KB.out 3).trans rfl⟩ (fun hHeld => ?_)
  generalize w9.drew = w10 at KA KB KC HB hHeld ⊢
  refine take_ (i := 0) (N := some 10) (v := ?_) (a' := ?_) #[true, false, false, false, false, false] rfl rfl (by kernel_rfl) (fun _ _ _ h => h) (Or.inl ⟨by rfl, ?_⟩) hHeld ?_ ?_
  rotate_left
  ·rintro w' ⟨s0, s1, s2, s3, s4, s5, s6, s7⟩
   go_simp
   with_reducible rfl
  rotate_left
  ·refine ps ?_
   rfl
  refine take_ (i := 2) (N := some 12) (v := ?_) (a' := ?_) #[true, false, true, false, false, false] rfl rfl (by kernel_rfl) (fun _ _ _ h => h) (Or.inl ⟨by rfl, ?_⟩) hHeld ?_ ?_
  rotate_left
  ·rintro w' ⟨s0, s1, s2, s3, s4, s5, s6, s7⟩
   go_simp
   with_reducible rfl
  rotate_left
  ·refine ps ?_
   rfl
  refine one_ (i := 1) (N := some 11) #[true, true, true, false, false, false] rfl rfl (by kernel_rfl) (by decide) (fun K hK => ?_)
  refine goes_ Try.func35 (by kernel_rfl) rfl #[.agg #[.int .i64 a1_0, .int .i64 a1_1, .int .i64 a1_2, .int .i64 a1_3]] (by rfl) rfl rfl pm ?_
  with_reducible refine (pixel_Limit.calls a1_0 a1_1 a1_2 a1_3 t212 t213 t214 t215 _ A4.out).mono ?_
  rintro e w11 ⟨rfl, hb⟩
  refine ⟨_, rfl, ?_⟩
  replace KA := bb_ KA hb
  replace KB := bb_ KB hb
  replace KC := bb_ KC hb
  replace HB := Aside0.mk (below_step HB.out hb)
  try clear hb
  refine hK.out _ _ ⟨(blk_cell KA.out 0).trans rfl, (blk_cell KA.out 1).trans rfl, (blk_cell KA.out 2).trans rfl, (blk_cell KA.out 3).trans rfl, (blk_cell KB.out 0).trans rfl, (blk_cell KB.out 1).trans rfl, (blk_cell KB.out 2).trans rfl, (blk_cell KB.out 3).trans rfl⟩ (fun hHeld => ?_)
  clear hK K
  refine norm_ (a' := ?_) ?_ ?_
  rotate_left
  ·show Act.put _ (some 11) _ = _
   refine ps ?_
   rfl
  refine one_ (i := 3) (N := some 13) #[true, true, true, true, false, false] rfl rfl (by kernel_rfl) (by decide) (fun K hK => ?_)
  refine goes_ Try.func35 (by kernel_rfl) rfl #[.agg #[.int .i64 a2_0, .int .i64 a2_1, .int .i64 a2_2, .int .i64 a2_3]] (by rfl) rfl rfl pm ?_
  with_reducible refine (pixel_Limit.calls a2_0 a2_1 a2_2 a2_3 t216 t217 t218 t219 _ A5.out).mono ?_
  rintro e w12 ⟨rfl, hb⟩
  refine ⟨_, rfl, ?_⟩
  replace KA := bb_ KA hb
  replace KB := bb_ KB hb
  replace KC := bb_ KC hb
  replace HB := Aside0.mk (below_step HB.out hb)
  try clear hb
  refine hK.out _ _ ⟨(blk_cell KA.out 0).trans rfl, (blk_cell KA.out 1).trans rfl, (blk_cell KA.out 2).trans rfl, (blk_cell KA.out 3).trans rfl, (blk_cell KB.out 0).trans rfl, (blk_cell KB.out 1).trans rfl, (blk_cell KB.out 2).trans rfl, (blk_cell KB.out 3).trans rfl⟩ (fun hHeld => ?_)
  clear hK K
  refine norm_ (a' := ?_) ?_ ?_
  rotate_left
  ·show Act.put _ (some 13) _ = _
   refine ps ?_
   rfl
  refine last_ (i := 4) (N := none) #[true, true, true, true, true, false] rfl rfl (by kernel_rfl) (by decide) (fun K hK => ?_)
  have hs13 := ci_ KA 0 (.int .i64 a1_0)
  have hfs13 := blk_frozen KA.out 0
  have hns13_1 := NBA.out
  have hns13_2 := NCA.out
  have hms13_1 := NAB.out
  have hms13_2 := NAC.out
  have hs14 := ci_ KA 1 (.int .i64 a1_1)
  have hfs14 := blk_frozen KA.out 1
  have hns14_1 := NBA.out
  have hns14_2 := NCA.out
  have hms14_1 := NAB.out
  have hms14_2 := NAC.out
  have hs15 := ci_ KA 2 (.int .i64 a1_2)
  have hfs15 := blk_frozen KA.out 2
  have hns15_1 := NBA.out
  have hns15_2 := NCA.out
  have hms15_1 := NAB.out
  have hms15_2 := NAC.out
  have hs16 := ci_ KA 3 (.int .i64 a1_3)
  have hfs16 := blk_frozen KA.out 3
  have hns16_1 := NBA.out
  have hns16_2 := NCA.out
  have hms16_1 := NAB.out
  have hms16_2 := NAC.out
  refine skip_ (w1 := ?_) (by rfl) rfl ?_ ?_
  rotate_left
  ·go_simp
   rfl
  refine hK.out _ _ ?_
  clear hK K
  refine last_ (i := 5) (N := none) #[true, true, true, true, true, true] rfl rfl (by kernel_rfl) (by decide) (fun K hK => ?_)
  have hs17 := ci_ KB 0 (.int .i64 a2_0)
  have hfs17 := blk_frozen KB.out 0
  have hns17_0 := NAB.out
  have hns17_2 := NCB.out
  have hms17_0 := NBA.out
  have hms17_2 := NBC.out
  have hs18 := ci_ KB 1 (.int .i64 a2_1)
  have hfs18 := blk_frozen KB.out 1
  have hns18_0 := NAB.out
  have hns18_2 := NCB.out
  have hms18_0 := NBA.out
  have hms18_2 := NBC.out
  have hs19 := ci_ KB 2 (.int .i64 a2_2)
  have hfs19 := blk_frozen KB.out 2
  have hns19_0 := NAB.out
  have hns19_2 := NCB.out
  have hms19_0 := NBA.out
  have hms19_2 := NBC.out
  have hs20 := ci_ KB 3 (.int .i64 a2_3)
  have hfs20 := blk_frozen KB.out 3
  have hns20_0 := NAB.out
  have hns20_2 := NCB.out
  have hms20_0 := NBA.out
  have hms20_2 := NBC.out
  refine skip_ (w1 := ?_) (by rfl) rfl ?_ ?_
  rotate_left
  ·go_simp
   rfl
  refine hK.out _ _ ?_
  clear hK K
  refine done_ (by kernel_rfl) ?_
  have hnb21 := NBA.out
  have hnc21 := NAB.out
  have hnb22 := NBC.out
  have hnc22 := NCB.out
  have hcz23_0 := ci_ KB 0 (.int .i64 a2_0)
  have hcz23_1 := ci_ KB 1 (.int .i64 a2_1)
  have hcz23_2 := ci_ KB 2 (.int .i64 a2_2)
  have hcz23_3 := ci_ KB 3 (.int .i64 a2_3)
  have hfz23_0 := blk_frozen KB.out 0
  have hfz23_1 := blk_frozen KB.out 1
  have hfz23_2 := blk_frozen KB.out 2
  have hfz23_3 := blk_frozen KB.out 3
  have hnb24 := NAC.out
  have hnc24 := NCA.out
  have hcz25_0 := ci_ KA 0 (.int .i64 a1_0)
  have hcz25_1 := ci_ KA 1 (.int .i64 a1_1)
  have hcz25_2 := ci_ KA 2 (.int .i64 a1_2)
  have hcz25_3 := ci_ KA 3 (.int .i64 a1_3)
  have hfz25_0 := blk_frozen KA.out 0
  have hfz25_1 := blk_frozen KA.out 1
  have hfz25_2 := blk_frozen KA.out 2
  have hfz25_3 := blk_frozen KA.out 3
  try go_wp2_with (first | ((with_reducible refine gate_dst (N := 7) rfl ?_); refine box_event ?hg (N := 7) ?hd (cs := #[.int .i64 0]) (t := 3) ?hr ?_; (case hd => rfl); (case hg => rfl); (case hr => first | (go_simp; done) | (go_simp; rfl)); intro gD hg w26 hbox hb; have c0_ := co_ (g := gA) (o := .cells #[.int .i64 t212, .int .i64 t213, .int .i64 t214, .int .i64 t215] 32 (0, 0)) hb (by refine pf ?_ NAB.out; refine pl ?_; refine blk_put (cs := #[.int .i64 t212, .int .i64 t213, .int .i64 t214, .int .i64 a1_3]) ?_ 3 _ rfl; refine pl ?_; refine blk_put (cs := #[.int .i64 t212, .int .i64 t213, .int .i64 a1_2, .int .i64 a1_3]) ?_ 2 _ rfl; refine pl ?_; refine blk_put (cs := #[.int .i64 t212, .int .i64 a1_1, .int .i64 a1_2, .int .i64 a1_3]) ?_ 1 _ rfl; refine pl ?_; refine blk_put (cs := #[.int .i64 a1_0, .int .i64 a1_1, .int .i64 a1_2, .int .i64 a1_3]) ?_ 0 _ rfl; refine pl ?_; exact KA.out); have c1_ := co_ (g := gB) (o := .cells #[.int .i64 t216, .int .i64 t217, .int .i64 t218, .int .i64 t219] 32 (0, 0)) hb (by refine pl ?_; refine blk_put (cs := #[.int .i64 t216, .int .i64 t217, .int .i64 t218, .int .i64 a2_3]) ?_ 3 _ rfl; refine pl ?_; refine blk_put (cs := #[.int .i64 t216, .int .i64 t217, .int .i64 a2_2, .int .i64 a2_3]) ?_ 2 _ rfl; refine pl ?_; refine blk_put (cs := #[.int .i64 t216, .int .i64 a2_1, .int .i64 a2_2, .int .i64 a2_3]) ?_ 1 _ rfl; refine pl ?_; refine blk_put (cs := #[.int .i64 a2_0, .int .i64 a2_1, .int .i64 a2_2, .int .i64 a2_3]) ?_ 0 _ rfl; refine pf ?_ NBA.out; refine pl ?_; exact KB.out); have c2_ := co_ (g := gC) (o := .cells #[.int .i64 0, .int .i64 0, .int .i64 0, .int .i64 0] 32 (0, 0)) hb (by refine pf ?_ NCB.out; refine pf ?_ NCA.out; refine pl ?_; exact KC.out); have KD := Aside0.mk hbox; have GWD := ge_ hg (pb3 HB.out GEA.out GEB.out GEC.out); have GED := ge_ hg (pb3 HB.out GEA.out GEB.out GEC.out); have NAD := nl_ hg c0_; have NDA := ng_ hg c0_; have NBD := nl_ hg c1_; have NDB := ng_ hg c1_; have NCD := nl_ hg c2_; have NDC := ng_ hg c2_; replace KA := bb_ c0_ hb; replace KB := bb_ c1_ hb; replace KC := bb_ c2_ hb; replace HB := Aside0.mk (below_step (pb3 HB.out GEA.out GEB.out GEC.out) hb); clear c0_ c1_ c2_; clear hb hbox hg; have hnb27 := NDA.out; have hnc27 := NAD.out; have hnb28 := NDB.out; have hnc28 := NBD.out; have hnb29 := NDC.out; have hnc29 := NCD.out; have hcz30_0 := ci_ KD 0 (.int .i64 0); have hfz30_0 := blk_frozen KD.out 0; have hcz31_0 := ci_ KC 0 (.int .i64 0); have hcz31_1 := ci_ KC 1 (.int .i64 0); have hcz31_2 := ci_ KC 2 (.int .i64 0); have hcz31_3 := ci_ KC 3 (.int .i64 0); have hfz31_0 := blk_frozen KC.out 0; have hfz31_1 := blk_frozen KC.out 1; have hfz31_2 := blk_frozen KC.out 2; have hfz31_3 := blk_frozen KC.out 3))
  refine bodyPost_ret (results_cell_row rfl _ _ gC 32 #[.int .i64 0, .int .i64 0, .int .i64 0, .int .i64 0] (0, 0) _ rfl (by refine pl ?_; refine blk_put (cs := #[.int .i64 0, .int .i64 0, .int .i64 0, .int .i64 0]) ?_ 3 _ rfl; refine pl ?_; refine blk_put (cs := #[.int .i64 0, .int .i64 0, .int .i64 0, .int .i64 0]) ?_ 2 _ rfl; refine pl ?_; refine blk_put (cs := #[.int .i64 0, .int .i64 0, .int .i64 0, .int .i64 0]) ?_ 1 _ rfl; refine pl ?_; refine blk_put (cs := #[.int .i64 0, .int .i64 0, .int .i64 0, .int .i64 0]) ?_ 0 _ rfl; refine pl ?_; refine blk_far ?_ NCD.out _; refine pl ?_; exact KC.out) Try.underlying32 rfl (by kernel_rfl)) rfl ?_
  exact ⟨by first | rfl | (simp [errW_none, errW_some] <;> rfl) | (simp [*, errW_none, errW_some] <;> rfl), by repeat (first | (with_reducible first | exact HB.out | apply below_alloc | apply pw_below_drewN | apply below_drew1 | refine below_set ?_ GEA.out | refine below_set ?_ GEB.out | refine below_set ?_ GEC.out | refine below_set ?_ GED.out) | exact HB.out)⟩
 ·rw [if_neg c6] at H
  have c6b0 : ((wrap64 ((wrap64 (65535 * (wrap64 (t219 + t215)))) - (wrap64 (t219 * t215)))) == 0) = false := beq_eq_false_iff_ne.mpr c6
  have c6b1 : ((wrap64 ((wrap64 (65535 * (wrap64 (t219 + t215)))) - (wrap64 (t219 * t215)))) != 0) = true := bne_iff_ne.mpr c6
  replace H := Option.bind_eq_some_iff.mp H
  obtain ⟨⟨t221, t222, t223, t224⟩, A320, H⟩ := H
  replace H : ((blend_Over_1.f t212 t216 t221 t216 t217 t218 t219 t212 t213 t214 t215 (wrap64 ((wrap64 (65535 * (wrap64 (t219 + t215)))) - (wrap64 (t219 * t215))))).bind fun t226 => ((blend_Over_1.f t213 t217 t222 t216 t217 t218 t219 t212 t213 t214 t215 (wrap64 ((wrap64 (65535 * (wrap64 (t219 + t215)))) - (wrap64 (t219 * t215))))).bind fun t227 => ((blend_Over_1.f t214 t218 t223 t216 t217 t218 t219 t212 t213 t214 t215 (wrap64 ((wrap64 (65535 * (wrap64 (t219 + t215)))) - (wrap64 (t219 * t215))))).bind fun t228 => ((num_Div.f k (wrap64 ((wrap64 (65535 * (wrap64 (t219 + t215)))) - (wrap64 (t219 * t215)))) 65535).bind fun t229 => (some (t226, t227, t228, t229)))))) = some (r1, r2, r3, r4) := H
  have A32 := Aside0.mk A320
  clear A320
  replace H := Option.bind_eq_some_iff.mp H
  obtain ⟨t226, A330, H⟩ := H
  replace H : ((blend_Over_1.f t213 t217 t222 t216 t217 t218 t219 t212 t213 t214 t215 (wrap64 ((wrap64 (65535 * (wrap64 (t219 + t215)))) - (wrap64 (t219 * t215))))).bind fun t227 => ((blend_Over_1.f t214 t218 t223 t216 t217 t218 t219 t212 t213 t214 t215 (wrap64 ((wrap64 (65535 * (wrap64 (t219 + t215)))) - (wrap64 (t219 * t215))))).bind fun t228 => ((num_Div.f k (wrap64 ((wrap64 (65535 * (wrap64 (t219 + t215)))) - (wrap64 (t219 * t215)))) 65535).bind fun t229 => (some (t226, t227, t228, t229))))) = some (r1, r2, r3, r4) := H
  have A33 := Aside0.mk A330
  clear A330
  replace H := Option.bind_eq_some_iff.mp H
  obtain ⟨t227, A340, H⟩ := H
  replace H : ((blend_Over_1.f t214 t218 t223 t216 t217 t218 t219 t212 t213 t214 t215 (wrap64 ((wrap64 (65535 * (wrap64 (t219 + t215)))) - (wrap64 (t219 * t215))))).bind fun t228 => ((num_Div.f k (wrap64 ((wrap64 (65535 * (wrap64 (t219 + t215)))) - (wrap64 (t219 * t215)))) 65535).bind fun t229 => (some (t226, t227, t228, t229)))) = some (r1, r2, r3, r4) := H
  have A34 := Aside0.mk A340
  clear A340
  replace H := Option.bind_eq_some_iff.mp H
  obtain ⟨t228, A350, H⟩ := H
  replace H : ((num_Div.f k (wrap64 ((wrap64 (65535 * (wrap64 (t219 + t215)))) - (wrap64 (t219 * t215)))) 65535).bind fun t229 => (some (t226, t227, t228, t229))) = some (r1, r2, r3, r4) := H
  have A35 := Aside0.mk A350
  clear A350
  replace H := Option.bind_eq_some_iff.mp H
  obtain ⟨t229, A360, H⟩ := H
  replace H : (some (t226, t227, t228, t229)) = some (r1, r2, r3, r4) := H
  have A36 := Aside0.mk A360
  clear A360
  simp only [Option.some.injEq, Prod.mk.injEq] at H
  obtain ⟨rfl, rfl, rfl, rfl⟩ := H
  go_enter Try.func14, Try.ntmps14
  try go_wp2_with (first | ((with_reducible refine gate_dst (N := 4) rfl ?_); refine box_event ?hg (N := 4) ?hd (cs := #[.int .i64 a1_0, .int .i64 a1_1, .int .i64 a1_2, .int .i64 a1_3]) (t := 32) ?hr ?_; (case hd => rfl); (case hg => rfl); (case hr => first | (go_simp; done) | (go_simp; rfl)); intro gA hg w37 hbox hb; have KA := Aside0.mk hbox; have GWA := ge_ hg (pb HB.out); have GEA := ge_ hg (pb HB.out); replace HB := Aside0.mk (below_step (pb HB.out) hb); clear hb hbox hg) | ((with_reducible refine gate_dst (N := 5) rfl ?_); refine box_event ?hg (N := 5) ?hd (cs := #[.int .i64 a2_0, .int .i64 a2_1, .int .i64 a2_2, .int .i64 a2_3]) (t := 32) ?hr ?_; (case hd => rfl); (case hg => rfl); (case hr => first | (go_simp; done) | (go_simp; rfl)); intro gB hg w38 hbox hb; have c0_ := cp_ hb KA; have KB := Aside0.mk hbox; have GWB := ge_ hg (pb1 HB.out GEA.out); have GEB := ge_ hg (pb1 HB.out GEA.out); have NAB := nl_ hg c0_; have NBA := ng_ hg c0_; replace KA := bb_ c0_ hb; replace HB := Aside0.mk (below_step (pb1 HB.out GEA.out) hb); clear c0_; clear hb hbox hg) | ((with_reducible refine gate_dst (N := 6) rfl ?_); refine box_event ?hg (N := 6) ?hd (cs := #[.int .i64 0, .int .i64 0, .int .i64 0, .int .i64 0]) (t := 32) ?hr ?_; (case hd => rfl); (case hg => rfl); (case hr => first | (go_simp; done) | (go_simp; rfl)); intro gC hg w39 hbox hb; have c0_ := cp_ hb KA; have c1_ := cp_ hb KB; have KC := Aside0.mk hbox; have GWC := ge_ hg (pb2 HB.out GEA.out GEB.out); have GEC := ge_ hg (pb2 HB.out GEA.out GEB.out); have NAC := nl_ hg c0_; have NCA := ng_ hg c0_; have NBC := nl_ hg c1_; have NCB := ng_ hg c1_; replace KA := bb_ c0_ hb; replace KB := bb_ c1_ hb; replace HB := Aside0.mk (below_step (pb2 HB.out GEA.out GEB.out) hb); clear c0_ c1_; clear hb hbox hg))
  replace KA := Aside0.mk (blk_drew KA.out)
  replace KB := Aside0.mk (blk_drew KB.out)
  replace KC := Aside0.mk (blk_drew KC.out)
  replace HB := Aside0.mk (below_drew1 HB.out)
  refine start_ (n := 6) (S := fun w' => w'.cell? ⟨gA, 0, none⟩ = some (.int .i64 a1_0) ∧ w'.cell? ⟨gA, 1, none⟩ = some (.int .i64 a1_1) ∧ w'.cell? ⟨gA, 2, none⟩ = some (.int .i64 a1_2) ∧ w'.cell? ⟨gA, 3, none⟩ = some (.int .i64 a1_3) ∧ w'.cell? ⟨gB, 0, none⟩ = some (.int .i64 a2_0) ∧ w'.cell? ⟨gB, 1, none⟩ = some (.int .i64 a2_1) ∧ w'.cell? ⟨gB, 2, none⟩ = some (.int .i64 a2_2) ∧ w'.cell? ⟨gB, 3, none⟩ = some (.int .i64 a2_3)) (ds := [4, 5]) #[false, false, false, false, false, false] (by kernel_rfl) rfl rfl ⟨(blk_cell KA.out 0).trans rfl, (blk_cell KA.out 1).trans rfl, (blk_cell KA.out 2).trans rfl, (blk_cell KA.out 3).trans rfl, (blk_cell KB.out 0).trans rfl, (blk_cell KB.out 1).trans rfl, (blk_cell KB.out 2).trans rfl, (blk_cell KB.out 3).trans rfl⟩ (fun hHeld => ?_)
  generalize w39.drew = w40 at KA KB KC HB hHeld ⊢
  refine take_ (i := 0) (N := some 10) (v := ?_) (a' := ?_) #[true, false, false, false, false, false] rfl rfl (by kernel_rfl) (fun _ _ _ h => h) (Or.inl ⟨by rfl, ?_⟩) hHeld ?_ ?_
  rotate_left
  ·rintro w' ⟨s0, s1, s2, s3, s4, s5, s6, s7⟩
   go_simp
   with_reducible rfl
  rotate_left
  ·refine ps ?_
   rfl
  refine take_ (i := 2) (N := some 12) (v := ?_) (a' := ?_) #[true, false, true, false, false, false] rfl rfl (by kernel_rfl) (fun _ _ _ h => h) (Or.inl ⟨by rfl, ?_⟩) hHeld ?_ ?_
  rotate_left
  ·rintro w' ⟨s0, s1, s2, s3, s4, s5, s6, s7⟩
   go_simp
   with_reducible rfl
  rotate_left
  ·refine ps ?_
   rfl
  refine one_ (i := 1) (N := some 11) #[true, true, true, false, false, false] rfl rfl (by kernel_rfl) (by decide) (fun K hK => ?_)
  refine goes_ Try.func35 (by kernel_rfl) rfl #[.agg #[.int .i64 a1_0, .int .i64 a1_1, .int .i64 a1_2, .int .i64 a1_3]] (by rfl) rfl rfl pm ?_
  with_reducible refine (pixel_Limit.calls a1_0 a1_1 a1_2 a1_3 t212 t213 t214 t215 _ A4.out).mono ?_
  rintro e w41 ⟨rfl, hb⟩
  refine ⟨_, rfl, ?_⟩
  replace KA := bb_ KA hb
  replace KB := bb_ KB hb
  replace KC := bb_ KC hb
  replace HB := Aside0.mk (below_step HB.out hb)
  try clear hb
  refine hK.out _ _ ⟨(blk_cell KA.out 0).trans rfl, (blk_cell KA.out 1).trans rfl, (blk_cell KA.out 2).trans rfl, (blk_cell KA.out 3).trans rfl, (blk_cell KB.out 0).trans rfl, (blk_cell KB.out 1).trans rfl, (blk_cell KB.out 2).trans rfl, (blk_cell KB.out 3).trans rfl⟩ (fun hHeld => ?_)
  clear hK K
  refine norm_ (a' := ?_) ?_ ?_
  rotate_left
  ·show Act.put _ (some 11) _ = _
   refine ps ?_
   rfl
  refine one_ (i := 3) (N := some 13) #[true, true, true, true, false, false] rfl rfl (by kernel_rfl) (by decide) (fun K hK => ?_)
  refine goes_ Try.func35 (by kernel_rfl) rfl #[.agg #[.int .i64 a2_0, .int .i64 a2_1, .int .i64 a2_2, .int .i64 a2_3]] (by rfl) rfl rfl pm ?_
  with_reducible refine (pixel_Limit.calls a2_0 a2_1 a2_2 a2_3 t216 t217 t218 t219 _ A5.out).mono ?_
  rintro e w42 ⟨rfl, hb⟩
  refine ⟨_, rfl, ?_⟩
  replace KA := bb_ KA hb
  replace KB := bb_ KB hb
  replace KC := bb_ KC hb
  replace HB := Aside0.mk (below_step HB.out hb)
  try clear hb
  refine hK.out _ _ ⟨(blk_cell KA.out 0).trans rfl, (blk_cell KA.out 1).trans rfl, (blk_cell KA.out 2).trans rfl, (blk_cell KA.out 3).trans rfl, (blk_cell KB.out 0).trans rfl, (blk_cell KB.out 1).trans rfl, (blk_cell KB.out 2).trans rfl, (blk_cell KB.out 3).trans rfl⟩ (fun hHeld => ?_)
  clear hK K
  refine norm_ (a' := ?_) ?_ ?_
  rotate_left
  ·show Act.put _ (some 13) _ = _
   refine ps ?_
   rfl
  refine last_ (i := 4) (N := none) #[true, true, true, true, true, false] rfl rfl (by kernel_rfl) (by decide) (fun K hK => ?_)
  have hs43 := ci_ KA 0 (.int .i64 a1_0)
  have hfs43 := blk_frozen KA.out 0
  have hns43_1 := NBA.out
  have hns43_2 := NCA.out
  have hms43_1 := NAB.out
  have hms43_2 := NAC.out
  have hs44 := ci_ KA 1 (.int .i64 a1_1)
  have hfs44 := blk_frozen KA.out 1
  have hns44_1 := NBA.out
  have hns44_2 := NCA.out
  have hms44_1 := NAB.out
  have hms44_2 := NAC.out
  have hs45 := ci_ KA 2 (.int .i64 a1_2)
  have hfs45 := blk_frozen KA.out 2
  have hns45_1 := NBA.out
  have hns45_2 := NCA.out
  have hms45_1 := NAB.out
  have hms45_2 := NAC.out
  have hs46 := ci_ KA 3 (.int .i64 a1_3)
  have hfs46 := blk_frozen KA.out 3
  have hns46_1 := NBA.out
  have hns46_2 := NCA.out
  have hms46_1 := NAB.out
  have hms46_2 := NAC.out
  refine skip_ (w1 := ?_) (by rfl) rfl ?_ ?_
  rotate_left
  ·go_simp
   rfl
  refine hK.out _ _ ?_
  clear hK K
  refine last_ (i := 5) (N := none) #[true, true, true, true, true, true] rfl rfl (by kernel_rfl) (by decide) (fun K hK => ?_)
  have hs47 := ci_ KB 0 (.int .i64 a2_0)
  have hfs47 := blk_frozen KB.out 0
  have hns47_0 := NAB.out
  have hns47_2 := NCB.out
  have hms47_0 := NBA.out
  have hms47_2 := NBC.out
  have hs48 := ci_ KB 1 (.int .i64 a2_1)
  have hfs48 := blk_frozen KB.out 1
  have hns48_0 := NAB.out
  have hns48_2 := NCB.out
  have hms48_0 := NBA.out
  have hms48_2 := NBC.out
  have hs49 := ci_ KB 2 (.int .i64 a2_2)
  have hfs49 := blk_frozen KB.out 2
  have hns49_0 := NAB.out
  have hns49_2 := NCB.out
  have hms49_0 := NBA.out
  have hms49_2 := NBC.out
  have hs50 := ci_ KB 3 (.int .i64 a2_3)
  have hfs50 := blk_frozen KB.out 3
  have hns50_0 := NAB.out
  have hns50_2 := NCB.out
  have hms50_0 := NBA.out
  have hms50_2 := NBC.out
  refine skip_ (w1 := ?_) (by rfl) rfl ?_ ?_
  rotate_left
  ·go_simp
   rfl
  refine hK.out _ _ ?_
  clear hK K
  refine done_ (by kernel_rfl) ?_
  have hnb51 := NBA.out
  have hnc51 := NAB.out
  have hnb52 := NBC.out
  have hnc52 := NCB.out
  have hcz53_0 := ci_ KB 0 (.int .i64 a2_0)
  have hcz53_1 := ci_ KB 1 (.int .i64 a2_1)
  have hcz53_2 := ci_ KB 2 (.int .i64 a2_2)
  have hcz53_3 := ci_ KB 3 (.int .i64 a2_3)
  have hfz53_0 := blk_frozen KB.out 0
  have hfz53_1 := blk_frozen KB.out 1
  have hfz53_2 := blk_frozen KB.out 2
  have hfz53_3 := blk_frozen KB.out 3
  have hnb54 := NAC.out
  have hnc54 := NCA.out
  have hcz55_0 := ci_ KA 0 (.int .i64 a1_0)
  have hcz55_1 := ci_ KA 1 (.int .i64 a1_1)
  have hcz55_2 := ci_ KA 2 (.int .i64 a1_2)
  have hcz55_3 := ci_ KA 3 (.int .i64 a1_3)
  have hfz55_0 := blk_frozen KA.out 0
  have hfz55_1 := blk_frozen KA.out 1
  have hfz55_2 := blk_frozen KA.out 2
  have hfz55_3 := blk_frozen KA.out 3
  try go_wp2_with (first | ((with_reducible refine gate_dst (N := 7) rfl ?_); refine box_event ?hg (N := 7) ?hd (cs := #[.int .i64 0]) (t := 3) ?hr ?_; (case hd => rfl); (case hg => rfl); (case hr => first | (go_simp; done) | (go_simp; rfl)); intro gD hg w56 hbox hb; have c0_ := co_ (g := gA) (o := .cells #[.int .i64 t212, .int .i64 t213, .int .i64 t214, .int .i64 t215] 32 (0, 0)) hb (by refine pf ?_ NAB.out; refine pl ?_; refine blk_put (cs := #[.int .i64 t212, .int .i64 t213, .int .i64 t214, .int .i64 a1_3]) ?_ 3 _ rfl; refine pl ?_; refine blk_put (cs := #[.int .i64 t212, .int .i64 t213, .int .i64 a1_2, .int .i64 a1_3]) ?_ 2 _ rfl; refine pl ?_; refine blk_put (cs := #[.int .i64 t212, .int .i64 a1_1, .int .i64 a1_2, .int .i64 a1_3]) ?_ 1 _ rfl; refine pl ?_; refine blk_put (cs := #[.int .i64 a1_0, .int .i64 a1_1, .int .i64 a1_2, .int .i64 a1_3]) ?_ 0 _ rfl; refine pl ?_; exact KA.out); have c1_ := co_ (g := gB) (o := .cells #[.int .i64 t216, .int .i64 t217, .int .i64 t218, .int .i64 t219] 32 (0, 0)) hb (by refine pl ?_; refine blk_put (cs := #[.int .i64 t216, .int .i64 t217, .int .i64 t218, .int .i64 a2_3]) ?_ 3 _ rfl; refine pl ?_; refine blk_put (cs := #[.int .i64 t216, .int .i64 t217, .int .i64 a2_2, .int .i64 a2_3]) ?_ 2 _ rfl; refine pl ?_; refine blk_put (cs := #[.int .i64 t216, .int .i64 a2_1, .int .i64 a2_2, .int .i64 a2_3]) ?_ 1 _ rfl; refine pl ?_; refine blk_put (cs := #[.int .i64 a2_0, .int .i64 a2_1, .int .i64 a2_2, .int .i64 a2_3]) ?_ 0 _ rfl; refine pf ?_ NBA.out; refine pl ?_; exact KB.out); have c2_ := co_ (g := gC) (o := .cells #[.int .i64 0, .int .i64 0, .int .i64 0, .int .i64 0] 32 (0, 0)) hb (by refine pf ?_ NCB.out; refine pf ?_ NCA.out; refine pl ?_; exact KC.out); have KD := Aside0.mk hbox; have GWD := ge_ hg (pb3 HB.out GEA.out GEB.out GEC.out); have GED := ge_ hg (pb3 HB.out GEA.out GEB.out GEC.out); have NAD := nl_ hg c0_; have NDA := ng_ hg c0_; have NBD := nl_ hg c1_; have NDB := ng_ hg c1_; have NCD := nl_ hg c2_; have NDC := ng_ hg c2_; replace KA := bb_ c0_ hb; replace KB := bb_ c1_ hb; replace KC := bb_ c2_ hb; replace HB := Aside0.mk (below_step (pb3 HB.out GEA.out GEB.out GEC.out) hb); clear c0_ c1_ c2_; clear hb hbox hg; have hnb57 := NDA.out; have hnc57 := NAD.out; have hnb58 := NDB.out; have hnc58 := NBD.out; have hnb59 := NDC.out; have hnc59 := NCD.out; have hcz60_0 := ci_ KD 0 (.int .i64 0); have hfz60_0 := blk_frozen KD.out 0; have hcz61_0 := ci_ KA 0 (.int .i64 t212); have hcz61_1 := ci_ KA 1 (.int .i64 t213); have hcz61_2 := ci_ KA 2 (.int .i64 t214); have hcz61_3 := ci_ KA 3 (.int .i64 t215); have hfz61_0 := blk_frozen KA.out 0; have hfz61_1 := blk_frozen KA.out 1; have hfz61_2 := blk_frozen KA.out 2; have hfz61_3 := blk_frozen KA.out 3; have hcz62_0 := ci_ KB 0 (.int .i64 t216); have hcz62_1 := ci_ KB 1 (.int .i64 t217); have hcz62_2 := ci_ KB 2 (.int .i64 t218); have hcz62_3 := ci_ KB 3 (.int .i64 t219); have hfz62_0 := blk_frozen KB.out 0; have hfz62_1 := blk_frozen KB.out 1; have hfz62_2 := blk_frozen KB.out 2; have hfz62_3 := blk_frozen KB.out 3) | ((with_reducible refine gate_callee (f := 24) rfl ?_); refine goesL_ (some 32) rfl rfl Try.func24 (by kernel_rfl) rfl #[.int .i64 a0, .agg #[.int .i64 t212, .int .i64 t213, .int .i64 t214, .int .i64 t215], .agg #[.int .i64 t216, .int .i64 t217, .int .i64 t218, .int .i64 t219]] rfl pm ?_; (with_reducible refine (blend_Colors.calls k a0 t212 t213 t214 t215 t216 t217 t218 t219 t221 t222 t223 t224 _ A32.out).mono ?_); rintro e w63 ⟨rfl, hb⟩; refine ⟨_, rfl, ?_⟩; have c0_ := co_ (g := gA) (o := .cells #[.int .i64 t212, .int .i64 t213, .int .i64 t214, .int .i64 t215] 32 (0, 0)) hb (by refine pf ?_ NAD.out; refine pl ?_; exact KA.out); have c1_ := co_ (g := gB) (o := .cells #[.int .i64 t216, .int .i64 t217, .int .i64 t218, .int .i64 t219] 32 (0, 0)) hb (by refine pf ?_ NBD.out; refine pl ?_; exact KB.out); have c2_ := co_ (g := gC) (o := .cells #[.int .i64 0, .int .i64 0, .int .i64 0, .int .i64 0] 32 (0, 0)) hb (by refine pf ?_ NCD.out; refine pl ?_; exact KC.out); have c3_ := co_ (g := gD) (o := .cells #[.int .i64 (wrap64 ((wrap64 (65535 * (wrap64 (t219 + t215)))) - (wrap64 (t219 * t215))))] 3 (0, 0)) hb (by refine pl ?_; refine blk_put (cs := #[.int .i64 0]) ?_ 0 _ rfl; refine pl ?_; exact KD.out); replace KA := bb_ c0_ hb; replace KB := bb_ c1_ hb; replace KC := bb_ c2_ hb; replace KD := bb_ c3_ hb; replace HB := Aside0.mk (below_step (by repeat (first | (with_reducible first | exact HB.out | apply below_alloc | apply pw_below_drewN | apply below_drew1 | refine below_set ?_ GEA.out | refine below_set ?_ GEB.out | refine below_set ?_ GEC.out | refine below_set ?_ GED.out) | exact HB.out)) hb); clear c0_ c1_ c2_ c3_; (try clear hb); (try clear hb2); (try clear hk); (try clear hi)) | ((with_reducible refine gate_dst (N := 8) rfl ?_); refine box_event ?hg (N := 8) ?hd (cs := #[.int .i64 0, .int .i64 0, .int .i64 0, .int .i64 0]) (t := 32) ?hr ?_; (case hd => rfl); (case hg => rfl); (case hr => first | (go_simp; done) | (go_simp; rfl)); intro gE hg w64 hbox hb; have c0_ := cp_ hb KA; have c1_ := cp_ hb KB; have c2_ := cp_ hb KC; have c3_ := cp_ hb KD; have KE := Aside0.mk hbox; have GWE := Aside0.mk ((by rw [hg]; exact (below_size (by repeat (first | (with_reducible first | exact HB.out | apply below_alloc | apply pw_below_drewN | apply below_drew1 | refine below_set ?_ GEA.out | refine below_set ?_ GEB.out | refine below_set ?_ GEC.out | refine below_set ?_ GED.out) | exact HB.out))) : w.heap.size ≤ gE)); have GEE := Aside0.mk ((by rw [hg]; exact (below_size (by repeat (first | (with_reducible first | exact HB.out | apply below_alloc | apply pw_below_drewN | apply below_drew1 | refine below_set ?_ GEA.out | refine below_set ?_ GEB.out | refine below_set ?_ GEC.out | refine below_set ?_ GED.out) | exact HB.out))) : w.heap.size ≤ gE)); have NAE := nl_ hg c0_; have NEA := ng_ hg c0_; have NBE := nl_ hg c1_; have NEB := ng_ hg c1_; have NCE := nl_ hg c2_; have NEC := ng_ hg c2_; have NDE := nl_ hg c3_; have NED := ng_ hg c3_; replace KA := bb_ c0_ hb; replace KB := bb_ c1_ hb; replace KC := bb_ c2_ hb; replace KD := bb_ c3_ hb; replace HB := Aside0.mk (below_step (by repeat (first | (with_reducible first | exact HB.out | apply below_alloc | apply pw_below_drewN | apply below_drew1 | refine below_set ?_ GEA.out | refine below_set ?_ GEB.out | refine below_set ?_ GEC.out | refine below_set ?_ GED.out) | exact HB.out)) hb); clear c0_ c1_ c2_ c3_; clear hb hbox hg; have hnb65 := NEA.out; have hnc65 := NAE.out; have hnb66 := NEB.out; have hnc66 := NBE.out; have hnb67 := NEC.out; have hnc67 := NCE.out; have hnb68 := NED.out; have hnc68 := NDE.out; have hcz69_0 := ci_ KE 0 (.int .i64 0); have hcz69_1 := ci_ KE 1 (.int .i64 0); have hcz69_2 := ci_ KE 2 (.int .i64 0); have hcz69_3 := ci_ KE 3 (.int .i64 0); have hfz69_0 := blk_frozen KE.out 0; have hfz69_1 := blk_frozen KE.out 1; have hfz69_2 := blk_frozen KE.out 2; have hfz69_3 := blk_frozen KE.out 3))
  have n0_ : Aside0 (((((w64.setCell ⟨gE, 0, none⟩ (.int .i64 t221)).setCell ⟨gE, 1, none⟩ (.int .i64 t222)).setCell ⟨gE, 2, none⟩ (.int .i64 t223)).setCell ⟨gE, 3, none⟩ (.int .i64 t224)).heap[gA]? = some (.cells #[.int .i64 t212, .int .i64 t213, .int .i64 t214, .int .i64 t215] 32 (0, 0))) := ⟨by refine pl ?_; refine blk_far ?_ NAE.out _; refine pl ?_; refine blk_far ?_ NAE.out _; refine pl ?_; refine blk_far ?_ NAE.out _; refine pl ?_; refine blk_far ?_ NAE.out _; refine pl ?_; exact KA.out⟩
  have n1_ : Aside0 (((((w64.setCell ⟨gE, 0, none⟩ (.int .i64 t221)).setCell ⟨gE, 1, none⟩ (.int .i64 t222)).setCell ⟨gE, 2, none⟩ (.int .i64 t223)).setCell ⟨gE, 3, none⟩ (.int .i64 t224)).heap[gB]? = some (.cells #[.int .i64 t216, .int .i64 t217, .int .i64 t218, .int .i64 t219] 32 (0, 0))) := ⟨by refine pl ?_; refine blk_far ?_ NBE.out _; refine pl ?_; refine blk_far ?_ NBE.out _; refine pl ?_; refine blk_far ?_ NBE.out _; refine pl ?_; refine blk_far ?_ NBE.out _; refine pl ?_; exact KB.out⟩
  have n2_ : Aside0 (((((w64.setCell ⟨gE, 0, none⟩ (.int .i64 t221)).setCell ⟨gE, 1, none⟩ (.int .i64 t222)).setCell ⟨gE, 2, none⟩ (.int .i64 t223)).setCell ⟨gE, 3, none⟩ (.int .i64 t224)).heap[gC]? = some (.cells #[.int .i64 0, .int .i64 0, .int .i64 0, .int .i64 0] 32 (0, 0))) := ⟨by refine pl ?_; refine blk_far ?_ NCE.out _; refine pl ?_; refine blk_far ?_ NCE.out _; refine pl ?_; refine blk_far ?_ NCE.out _; refine pl ?_; refine blk_far ?_ NCE.out _; refine pl ?_; exact KC.out⟩
  have n3_ : Aside0 (((((w64.setCell ⟨gE, 0, none⟩ (.int .i64 t221)).setCell ⟨gE, 1, none⟩ (.int .i64 t222)).setCell ⟨gE, 2, none⟩ (.int .i64 t223)).setCell ⟨gE, 3, none⟩ (.int .i64 t224)).heap[gD]? = some (.cells #[.int .i64 (wrap64 ((wrap64 (65535 * (wrap64 (t219 + t215)))) - (wrap64 (t219 * t215))))] 3 (0, 0))) := ⟨by refine pl ?_; refine blk_far ?_ NDE.out _; refine pl ?_; refine blk_far ?_ NDE.out _; refine pl ?_; refine blk_far ?_ NDE.out _; refine pl ?_; refine blk_far ?_ NDE.out _; refine pl ?_; exact KD.out⟩
  have n4_ : Aside0 (((((w64.setCell ⟨gE, 0, none⟩ (.int .i64 t221)).setCell ⟨gE, 1, none⟩ (.int .i64 t222)).setCell ⟨gE, 2, none⟩ (.int .i64 t223)).setCell ⟨gE, 3, none⟩ (.int .i64 t224)).heap[gE]? = some (.cells #[.int .i64 t221, .int .i64 t222, .int .i64 t223, .int .i64 t224] 32 (0, 0))) := ⟨by refine pl ?_; refine blk_put (cs := #[.int .i64 t221, .int .i64 t222, .int .i64 t223, .int .i64 0]) ?_ 3 _ rfl; refine pl ?_; refine blk_put (cs := #[.int .i64 t221, .int .i64 t222, .int .i64 0, .int .i64 0]) ?_ 2 _ rfl; refine pl ?_; refine blk_put (cs := #[.int .i64 t221, .int .i64 0, .int .i64 0, .int .i64 0]) ?_ 1 _ rfl; refine pl ?_; refine blk_put (cs := #[.int .i64 0, .int .i64 0, .int .i64 0, .int .i64 0]) ?_ 0 _ rfl; refine pl ?_; exact KE.out⟩
  have n5_ : Aside0 (Below w.heap.size w ((((w64.setCell ⟨gE, 0, none⟩ (.int .i64 t221)).setCell ⟨gE, 1, none⟩ (.int .i64 t222)).setCell ⟨gE, 2, none⟩ (.int .i64 t223)).setCell ⟨gE, 3, none⟩ (.int .i64 t224))) := ⟨by repeat (first | (with_reducible first | exact HB.out | apply below_alloc | apply pw_below_drewN | apply below_drew1 | refine below_set ?_ GEA.out | refine below_set ?_ GEB.out | refine below_set ?_ GEC.out | refine below_set ?_ GED.out | refine below_set ?_ GEE.out) | exact HB.out)⟩
  (try clear KA)
  (try clear KB)
  (try clear KC)
  (try clear KD)
  (try clear KE)
  (try clear HB)
  generalize ((((w64.setCell ⟨gE, 0, none⟩ (.int .i64 t221)).setCell ⟨gE, 1, none⟩ (.int .i64 t222)).setCell ⟨gE, 2, none⟩ (.int .i64 t223)).setCell ⟨gE, 3, none⟩ (.int .i64 t224)) = w70 at n0_ n1_ n2_ n3_ n4_ n5_ ⊢
  have KA := n0_
  have KB := n1_
  have KC := n2_
  have KD := n3_
  have KE := n4_
  have HB := n5_
  clear n0_ n1_ n2_ n3_ n4_ n5_
  replace KA := Aside0.mk (blk_drew KA.out)
  replace KB := Aside0.mk (blk_drew KB.out)
  replace KC := Aside0.mk (blk_drew KC.out)
  replace KD := Aside0.mk (blk_drew KD.out)
  replace KE := Aside0.mk (blk_drew KE.out)
  replace HB := Aside0.mk (below_drew1 HB.out)
  refine start_ (n := 28) (S := fun w' => w'.cell? ⟨gA, 0, none⟩ = some (.int .i64 t212) ∧ w'.cell? ⟨gA, 1, none⟩ = some (.int .i64 t213) ∧ w'.cell? ⟨gA, 2, none⟩ = some (.int .i64 t214) ∧ w'.cell? ⟨gA, 3, none⟩ = some (.int .i64 t215) ∧ w'.cell? ⟨gB, 0, none⟩ = some (.int .i64 t216) ∧ w'.cell? ⟨gB, 1, none⟩ = some (.int .i64 t217) ∧ w'.cell? ⟨gB, 2, none⟩ = some (.int .i64 t218) ∧ w'.cell? ⟨gB, 3, none⟩ = some (.int .i64 t219) ∧ w'.cell? ⟨gE, 0, none⟩ = some (.int .i64 t221) ∧ w'.cell? ⟨gE, 1, none⟩ = some (.int .i64 t222) ∧ w'.cell? ⟨gE, 2, none⟩ = some (.int .i64 t223) ∧ w'.cell? ⟨gE, 3, none⟩ = some (.int .i64 t224) ∧ w'.cell? ⟨gD, 0, none⟩ = some (.int .i64 (wrap64 ((wrap64 (65535 * (wrap64 (t219 + t215)))) - (wrap64 (t219 * t215)))))) (ds := []) #[false, false, false, false, false, false, false, false, false, false, false, false, false, false, false, false, false, false, false, false, false, false, false, false, false, false, false, false] (by kernel_rfl) rfl rfl ⟨(blk_cell KA.out 0).trans rfl, (blk_cell KA.out 1).trans rfl, (blk_cell KA.out 2).trans rfl, (blk_cell KA.out 3).trans rfl, (blk_cell KB.out 0).trans rfl, (blk_cell KB.out 1).trans rfl, (blk_cell KB.out 2).trans rfl, (blk_cell KB.out 3).trans rfl, (blk_cell KE.out 0).trans rfl, (blk_cell KE.out 1).trans rfl, (blk_cell KE.out 2).trans rfl, (blk_cell KE.out 3).trans rfl, (blk_cell KD.out 0).trans rfl⟩ (fun hHeld => ?_); refine with_tabW blend_Over.tab7 blend_Over.bits7 (fun HT_ HW_ => ?_)
  generalize w70.drew = w71 at KA KB KC KD KE HB hHeld ⊢
  refine pure_ (i := 0) (N := some 34) (v := ?_) (a' := ?_) #[true, false, false, false, false, false, false, false, false, false, false, false, false, false, false, false, false, false, false, false, false, false, false, false, false, false, false, false] rfl rfl (any_of HT_.out (by kernel_rfl)) (fun _ _ _ h => h) (Or.inl ⟨by rfl, ?_⟩) ?_ ?_
  rotate_left
  ·intro w'
   go_simp
   with_reducible rfl
  rotate_left
  ·refine ps ?_
   rfl
  refine pure_ (i := 1) (N := some 35) (v := ?_) (a' := ?_) #[true, true, false, false, false, false, false, false, false, false, false, false, false, false, false, false, false, false, false, false, false, false, false, false, false, false, false, false] rfl rfl (any_of HT_.out (by kernel_rfl)) (fun _ _ _ h => h) (Or.inl ⟨by rfl, ?_⟩) ?_ ?_
  rotate_left
  ·intro w'
   go_simp
   with_reducible rfl
  rotate_left
  ·refine ps ?_
   rfl
  refine pure_ (i := 3) (N := some 37) (v := ?_) (a' := ?_) #[true, true, false, true, false, false, false, false, false, false, false, false, false, false, false, false, false, false, false, false, false, false, false, false, false, false, false, false] rfl rfl (any_of HT_.out (by kernel_rfl)) (fun _ _ _ h => h) (Or.inl ⟨by rfl, ?_⟩) ?_ ?_
  rotate_left
  ·intro w'
   go_simp
   with_reducible rfl
  rotate_left
  ·refine ps ?_
   rfl
  refine pure_ (i := 5) (N := some 39) (v := ?_) (a' := ?_) #[true, true, false, true, false, true, false, false, false, false, false, false, false, false, false, false, false, false, false, false, false, false, false, false, false, false, false, false] rfl rfl (any_of HT_.out (by kernel_rfl)) (fun _ _ _ h => h) (Or.inl ⟨by rfl, ?_⟩) ?_ ?_
  rotate_left
  ·intro w'
   go_simp
   with_reducible rfl
  rotate_left
  ·refine ps ?_
   rfl
  refine pure_ (i := 8) (N := some 42) (v := ?_) (a' := ?_) #[true, true, false, true, false, true, false, false, true, false, false, false, false, false, false, false, false, false, false, false, false, false, false, false, false, false, false, false] rfl rfl (any_of HT_.out (by kernel_rfl)) (fun _ _ _ h => h) (Or.inl ⟨by rfl, ?_⟩) ?_ ?_
  rotate_left
  ·intro w'
   go_simp
   with_reducible rfl
  rotate_left
  ·refine ps ?_
   rfl
  refine pure_ (i := 9) (N := some 43) (v := ?_) (a' := ?_) #[true, true, false, true, false, true, false, false, true, true, false, false, false, false, false, false, false, false, false, false, false, false, false, false, false, false, false, false] rfl rfl (any_of HT_.out (by kernel_rfl)) (fun _ _ _ h => h) (Or.inl ⟨by rfl, ?_⟩) ?_ ?_
  rotate_left
  ·intro w'
   go_simp
   with_reducible rfl
  rotate_left
  ·refine ps ?_
   rfl
  refine pure_ (i := 11) (N := some 45) (v := ?_) (a' := ?_) #[true, true, false, true, false, true, false, false, true, true, false, true, false, false, false, false, false, false, false, false, false, false, false, false, false, false, false, false] rfl rfl (any_of HT_.out (by kernel_rfl)) (fun _ _ _ h => h) (Or.inl ⟨by rfl, ?_⟩) ?_ ?_
  rotate_left
  ·intro w'
   go_simp
   with_reducible rfl
  rotate_left
  ·refine ps ?_
   rfl
  refine pure_ (i := 13) (N := some 47) (v := ?_) (a' := ?_) #[true, true, false, true, false, true, false, false, true, true, false, true, false, true, false, false, false, false, false, false, false, false, false, false, false, false, false, false] rfl rfl (any_of HT_.out (by kernel_rfl)) (fun _ _ _ h => h) (Or.inl ⟨by rfl, ?_⟩) ?_ ?_
  rotate_left
  ·intro w'
   go_simp
   with_reducible rfl
  rotate_left
  ·refine ps ?_
   rfl
  refine pure_ (i := 16) (N := some 50) (v := ?_) (a' := ?_) #[true, true, false, true, false, true, false, false, true, true, false, true, false, true, false, false, true, false, false, false, false, false, false, false, false, false, false, false] rfl rfl (any_of HT_.out (by kernel_rfl)) (fun _ _ _ h => h) (Or.inl ⟨by rfl, ?_⟩) ?_ ?_
  rotate_left
  ·intro w'
   go_simp
   with_reducible rfl
  rotate_left
  ·refine ps ?_
   rfl
  refine pure_ (i := 17) (N := some 51) (v := ?_) (a' := ?_) #[true, true, false, true, false, true, false, false, true, true, false, true, false, true, false, false, true, true, false, false, false, false, false, false, false, false, false, false] rfl rfl (any_of HT_.out (by kernel_rfl)) (fun _ _ _ h => h) (Or.inl ⟨by rfl, ?_⟩) ?_ ?_
  rotate_left
  ·intro w'
   go_simp
   with_reducible rfl
  rotate_left
  ·refine ps ?_
   rfl
  refine pure_ (i := 19) (N := some 53) (v := ?_) (a' := ?_) #[true, true, false, true, false, true, false, false, true, true, false, true, false, true, false, false, true, true, false, true, false, false, false, false, false, false, false, false] rfl rfl (any_of HT_.out (by kernel_rfl)) (fun _ _ _ h => h) (Or.inl ⟨by rfl, ?_⟩) ?_ ?_
  rotate_left
  ·intro w'
   go_simp
   with_reducible rfl
  rotate_left
  ·refine ps ?_
   rfl
  refine pure_ (i := 21) (N := some 55) (v := ?_) (a' := ?_) #[true, true, false, true, false, true, false, false, true, true, false, true, false, true, false, false, true, true, false, true, false, true, false, false, false, false, false, false] rfl rfl (any_of HT_.out (by kernel_rfl)) (fun _ _ _ h => h) (Or.inl ⟨by rfl, ?_⟩) ?_ ?_
  rotate_left
  ·intro w'
   go_simp
   with_reducible rfl
  rotate_left
  ·refine ps ?_
   rfl
  refine take_ (i := 2) (N := some 36) (v := ?_) (a' := ?_) #[true, true, true, true, false, true, false, false, true, true, false, true, false, true, false, false, true, true, false, true, false, true, false, false, false, false, false, false] rfl rfl (take_ofW HT_.out HW_.out (by kernel_rfl)) (fun _ _ _ h => h) (Or.inl ⟨by rfl, ?_⟩) hHeld ?_ ?_
  rotate_left
  ·rintro w' ⟨s0, s1, s2, s3, s4, s5, s6, s7, s8, s9, s10, s11, s12⟩
   go_simp
   with_reducible rfl
  rotate_left
  ·refine ps ?_
   rfl
  refine take_ (i := 4) (N := some 38) (v := ?_) (a' := ?_) #[true, true, true, true, true, true, false, false, true, true, false, true, false, true, false, false, true, true, false, true, false, true, false, false, false, false, false, false] rfl rfl (take_ofW HT_.out HW_.out (by kernel_rfl)) (fun _ _ _ h => h) (Or.inl ⟨by rfl, ?_⟩) hHeld ?_ ?_
  rotate_left
  ·rintro w' ⟨s0, s1, s2, s3, s4, s5, s6, s7, s8, s9, s10, s11, s12⟩
   go_simp
   with_reducible rfl
  rotate_left
  ·refine ps ?_
   rfl
  refine take_ (i := 6) (N := some 40) (v := ?_) (a' := ?_) #[true, true, true, true, true, true, true, false, true, true, false, true, false, true, false, false, true, true, false, true, false, true, false, false, false, false, false, false] rfl rfl (take_ofW HT_.out HW_.out (by kernel_rfl)) (fun _ _ _ h => h) (Or.inl ⟨by rfl, ?_⟩) hHeld ?_ ?_
  rotate_left
  ·rintro w' ⟨s0, s1, s2, s3, s4, s5, s6, s7, s8, s9, s10, s11, s12⟩
   go_simp
   with_reducible rfl
  rotate_left
  ·refine ps ?_
   rfl
  refine take_ (i := 10) (N := some 44) (v := ?_) (a' := ?_) #[true, true, true, true, true, true, true, false, true, true, true, true, false, true, false, false, true, true, false, true, false, true, false, false, false, false, false, false] rfl rfl (take_ofW HT_.out HW_.out (by kernel_rfl)) (fun _ _ _ h => h) (Or.inl ⟨by rfl, ?_⟩) hHeld ?_ ?_
  rotate_left
  ·rintro w' ⟨s0, s1, s2, s3, s4, s5, s6, s7, s8, s9, s10, s11, s12⟩
   go_simp
   with_reducible rfl
  rotate_left
  ·refine ps ?_
   rfl
  refine take_ (i := 12) (N := some 46) (v := ?_) (a' := ?_) #[true, true, true, true, true, true, true, false, true, true, true, true, true, true, false, false, true, true, false, true, false, true, false, false, false, false, false, false] rfl rfl (take_ofW HT_.out HW_.out (by kernel_rfl)) (fun _ _ _ h => h) (Or.inl ⟨by rfl, ?_⟩) hHeld ?_ ?_
  rotate_left
  ·rintro w' ⟨s0, s1, s2, s3, s4, s5, s6, s7, s8, s9, s10, s11, s12⟩
   go_simp
   with_reducible rfl
  rotate_left
  ·refine ps ?_
   rfl
  refine take_ (i := 14) (N := some 48) (v := ?_) (a' := ?_) #[true, true, true, true, true, true, true, false, true, true, true, true, true, true, true, false, true, true, false, true, false, true, false, false, false, false, false, false] rfl rfl (take_ofW HT_.out HW_.out (by kernel_rfl)) (fun _ _ _ h => h) (Or.inl ⟨by rfl, ?_⟩) hHeld ?_ ?_
  rotate_left
  ·rintro w' ⟨s0, s1, s2, s3, s4, s5, s6, s7, s8, s9, s10, s11, s12⟩
   go_simp
   with_reducible rfl
  rotate_left
  ·refine ps ?_
   rfl
  refine take_ (i := 18) (N := some 52) (v := ?_) (a' := ?_) #[true, true, true, true, true, true, true, false, true, true, true, true, true, true, true, false, true, true, true, true, false, true, false, false, false, false, false, false] rfl rfl (take_ofW HT_.out HW_.out (by kernel_rfl)) (fun _ _ _ h => h) (Or.inl ⟨by rfl, ?_⟩) hHeld ?_ ?_
  rotate_left
  ·rintro w' ⟨s0, s1, s2, s3, s4, s5, s6, s7, s8, s9, s10, s11, s12⟩
   go_simp
   with_reducible rfl
  rotate_left
  ·refine ps ?_
   rfl
  refine take_ (i := 20) (N := some 54) (v := ?_) (a' := ?_) #[true, true, true, true, true, true, true, false, true, true, true, true, true, true, true, false, true, true, true, true, true, true, false, false, false, false, false, false] rfl rfl (take_ofW HT_.out HW_.out (by kernel_rfl)) (fun _ _ _ h => h) (Or.inl ⟨by rfl, ?_⟩) hHeld ?_ ?_
  rotate_left
  ·rintro w' ⟨s0, s1, s2, s3, s4, s5, s6, s7, s8, s9, s10, s11, s12⟩
   go_simp
   with_reducible rfl
  rotate_left
  ·refine ps ?_
   rfl
  refine take_ (i := 22) (N := some 56) (v := ?_) (a' := ?_) #[true, true, true, true, true, true, true, false, true, true, true, true, true, true, true, false, true, true, true, true, true, true, true, false, false, false, false, false] rfl rfl (take_ofW HT_.out HW_.out (by kernel_rfl)) (fun _ _ _ h => h) (Or.inl ⟨by rfl, ?_⟩) hHeld ?_ ?_
  rotate_left
  ·rintro w' ⟨s0, s1, s2, s3, s4, s5, s6, s7, s8, s9, s10, s11, s12⟩
   go_simp
   with_reducible rfl
  rotate_left
  ·refine ps ?_
   rfl
  refine take_ (i := 24) (N := some 58) (v := ?_) (a' := ?_) #[true, true, true, true, true, true, true, false, true, true, true, true, true, true, true, false, true, true, true, true, true, true, true, false, true, false, false, false] rfl rfl (take_ofW HT_.out HW_.out (by kernel_rfl)) (fun _ _ _ h => h) (Or.inl ⟨by rfl, ?_⟩) hHeld ?_ ?_
  rotate_left
  ·rintro w' ⟨s0, s1, s2, s3, s4, s5, s6, s7, s8, s9, s10, s11, s12⟩
   go_simp
   with_reducible rfl
  rotate_left
  ·refine ps ?_
   rfl
  refine one_ (i := 7) (N := some 41) #[true, true, true, true, true, true, true, true, true, true, true, true, true, true, true, false, true, true, true, true, true, true, true, false, true, false, false, false] rfl rfl (one_of HT_.out (by kernel_rfl)) (by decide) (fun K hK => ?_)
  refine goesV_ Try.func36 (by kernel_rfl) rfl #[.int .i64 t212, .int .i64 t216, .int .i64 t221, .pointer (some ⟨gB, 0, none⟩), .pointer (some ⟨gA, 0, none⟩), .pointer (some ⟨gD, 0, none⟩)] (by rfl) rfl rfl rfl pm ?_
  with_reducible refine (blend_Over_1.calls t212 t216 t221  t216 t217 t218 t219  t212 t213 t214 t215  (wrap64 ((wrap64 (65535 * (wrap64 (t219 + t215)))) - (wrap64 (t219 * t215)))) t226 _ ?side1 ?side2 ?side3 A33.out).mono ?_
  (case side1 => refine pl ?_; exact KB.out)
  (case side2 => refine pl ?_; exact KA.out)
  (case side3 => refine pl ?_; exact KD.out)
  rintro e w72 ⟨rfl, hb⟩
  refine ⟨_, rfl, ?_⟩
  replace KA := bb_ KA hb
  replace KB := bb_ KB hb
  replace KC := bb_ KC hb
  replace KD := bb_ KD hb
  replace KE := bb_ KE hb
  replace HB := Aside0.mk (below_step HB.out hb)
  try clear hb
  refine hK.out _ _ ⟨(blk_cell KA.out 0).trans rfl, (blk_cell KA.out 1).trans rfl, (blk_cell KA.out 2).trans rfl, (blk_cell KA.out 3).trans rfl, (blk_cell KB.out 0).trans rfl, (blk_cell KB.out 1).trans rfl, (blk_cell KB.out 2).trans rfl, (blk_cell KB.out 3).trans rfl, (blk_cell KE.out 0).trans rfl, (blk_cell KE.out 1).trans rfl, (blk_cell KE.out 2).trans rfl, (blk_cell KE.out 3).trans rfl, (blk_cell KD.out 0).trans rfl⟩ (fun hHeld => ?_)
  clear hK K
  refine norm_ (a' := ?_) ?_ ?_
  rotate_left
  ·show Act.put _ (some 41) _ = _
   refine ps ?_
   rfl
  refine one_ (i := 15) (N := some 49) #[true, true, true, true, true, true, true, true, true, true, true, true, true, true, true, true, true, true, true, true, true, true, true, false, true, false, false, false] rfl rfl (one_of HT_.out (by kernel_rfl)) (by decide) (fun K hK => ?_)
  refine goesV_ Try.func36 (by kernel_rfl) rfl #[.int .i64 t213, .int .i64 t217, .int .i64 t222, .pointer (some ⟨gB, 0, none⟩), .pointer (some ⟨gA, 0, none⟩), .pointer (some ⟨gD, 0, none⟩)] (by rfl) rfl rfl rfl pm ?_
  with_reducible refine (blend_Over_1.calls t213 t217 t222  t216 t217 t218 t219  t212 t213 t214 t215  (wrap64 ((wrap64 (65535 * (wrap64 (t219 + t215)))) - (wrap64 (t219 * t215)))) t227 _ ?side1 ?side2 ?side3 A34.out).mono ?_
  (case side1 => refine pl ?_; exact KB.out)
  (case side2 => refine pl ?_; exact KA.out)
  (case side3 => refine pl ?_; exact KD.out)
  rintro e w73 ⟨rfl, hb⟩
  refine ⟨_, rfl, ?_⟩
  replace KA := bb_ KA hb
  replace KB := bb_ KB hb
  replace KC := bb_ KC hb
  replace KD := bb_ KD hb
  replace KE := bb_ KE hb
  replace HB := Aside0.mk (below_step HB.out hb)
  try clear hb
  refine hK.out _ _ ⟨(blk_cell KA.out 0).trans rfl, (blk_cell KA.out 1).trans rfl, (blk_cell KA.out 2).trans rfl, (blk_cell KA.out 3).trans rfl, (blk_cell KB.out 0).trans rfl, (blk_cell KB.out 1).trans rfl, (blk_cell KB.out 2).trans rfl, (blk_cell KB.out 3).trans rfl, (blk_cell KE.out 0).trans rfl, (blk_cell KE.out 1).trans rfl, (blk_cell KE.out 2).trans rfl, (blk_cell KE.out 3).trans rfl, (blk_cell KD.out 0).trans rfl⟩ (fun hHeld => ?_)
  clear hK K
  refine norm_ (a' := ?_) ?_ ?_
  rotate_left
  ·show Act.put _ (some 49) _ = _
   refine ps ?_
   rfl
  refine one_ (i := 23) (N := some 57) #[true, true, true, true, true, true, true, true, true, true, true, true, true, true, true, true, true, true, true, true, true, true, true, true, true, false, false, false] rfl rfl (one_of HT_.out (by kernel_rfl)) (by decide) (fun K hK => ?_)
  refine goesV_ Try.func36 (by kernel_rfl) rfl #[.int .i64 t214, .int .i64 t218, .int .i64 t223, .pointer (some ⟨gB, 0, none⟩), .pointer (some ⟨gA, 0, none⟩), .pointer (some ⟨gD, 0, none⟩)] (by rfl) rfl rfl rfl pm ?_
  with_reducible refine (blend_Over_1.calls t214 t218 t223  t216 t217 t218 t219  t212 t213 t214 t215  (wrap64 ((wrap64 (65535 * (wrap64 (t219 + t215)))) - (wrap64 (t219 * t215)))) t228 _ ?side1 ?side2 ?side3 A35.out).mono ?_
  (case side1 => refine pl ?_; exact KB.out)
  (case side2 => refine pl ?_; exact KA.out)
  (case side3 => refine pl ?_; exact KD.out)
  rintro e w74 ⟨rfl, hb⟩
  refine ⟨_, rfl, ?_⟩
  replace KA := bb_ KA hb
  replace KB := bb_ KB hb
  replace KC := bb_ KC hb
  replace KD := bb_ KD hb
  replace KE := bb_ KE hb
  replace HB := Aside0.mk (below_step HB.out hb)
  try clear hb
  refine hK.out _ _ ⟨(blk_cell KA.out 0).trans rfl, (blk_cell KA.out 1).trans rfl, (blk_cell KA.out 2).trans rfl, (blk_cell KA.out 3).trans rfl, (blk_cell KB.out 0).trans rfl, (blk_cell KB.out 1).trans rfl, (blk_cell KB.out 2).trans rfl, (blk_cell KB.out 3).trans rfl, (blk_cell KE.out 0).trans rfl, (blk_cell KE.out 1).trans rfl, (blk_cell KE.out 2).trans rfl, (blk_cell KE.out 3).trans rfl, (blk_cell KD.out 0).trans rfl⟩ (fun hHeld => ?_)
  clear hK K
  refine norm_ (a' := ?_) ?_ ?_
  rotate_left
  ·show Act.put _ (some 57) _ = _
   refine ps ?_
   rfl
  refine one_ (i := 25) (N := some 59) #[true, true, true, true, true, true, true, true, true, true, true, true, true, true, true, true, true, true, true, true, true, true, true, true, true, true, false, false] rfl rfl (one_of HT_.out (by kernel_rfl)) (by decide) (fun K hK => ?_)
  refine goes_ Try.func37 (by kernel_rfl) rfl #[.int .i64 (wrap64 ((wrap64 (65535 * (wrap64 (t219 + t215)))) - (wrap64 (t219 * t215)))), .int .i64 65535] (by rfl) rfl rfl pm ?_
  with_reducible refine (num_Div.calls k (wrap64 ((wrap64 (65535 * (wrap64 (t219 + t215)))) - (wrap64 (t219 * t215)))) 65535 t229 _ A36.out).mono ?_
  rintro e w75 ⟨rfl, hb⟩
  refine ⟨_, rfl, ?_⟩
  replace KA := bb_ KA hb
  replace KB := bb_ KB hb
  replace KC := bb_ KC hb
  replace KD := bb_ KD hb
  replace KE := bb_ KE hb
  replace HB := Aside0.mk (below_step HB.out hb)
  try clear hb
  refine hK.out _ _ ⟨(blk_cell KA.out 0).trans rfl, (blk_cell KA.out 1).trans rfl, (blk_cell KA.out 2).trans rfl, (blk_cell KA.out 3).trans rfl, (blk_cell KB.out 0).trans rfl, (blk_cell KB.out 1).trans rfl, (blk_cell KB.out 2).trans rfl, (blk_cell KB.out 3).trans rfl, (blk_cell KE.out 0).trans rfl, (blk_cell KE.out 1).trans rfl, (blk_cell KE.out 2).trans rfl, (blk_cell KE.out 3).trans rfl, (blk_cell KD.out 0).trans rfl⟩ (fun hHeld => ?_)
  clear hK K
  refine norm_ (a' := ?_) ?_ ?_
  rotate_left
  ·show Act.put _ (some 59) _ = _
   refine ps ?_
   rfl
  refine pure_ (i := 26) (N := some 60) (v := ?_) (a' := ?_) #[true, true, true, true, true, true, true, true, true, true, true, true, true, true, true, true, true, true, true, true, true, true, true, true, true, true, true, false] rfl rfl (any_of HT_.out (by kernel_rfl)) (fun _ _ _ h => h) (Or.inl ⟨by rfl, ?_⟩) ?_ ?_
  rotate_left
  ·intro w'
   go_simp
   with_reducible rfl
  rotate_left
  ·refine ps ?_
   rfl
  refine one_ (i := 27) (N := none) #[true, true, true, true, true, true, true, true, true, true, true, true, true, true, true, true, true, true, true, true, true, true, true, true, true, true, true, true] rfl rfl (one_of HT_.out (by kernel_rfl)) (by decide) (fun K hK => ?_)
  have hs76 := ci_ KC 0 (.int .i64 0)
  have hfs76 := blk_frozen KC.out 0
  have hns76_0 := NAC.out
  have hns76_1 := NBC.out
  have hns76_3 := NDC.out
  have hns76_4 := NEC.out
  have hms76_0 := NCA.out
  have hms76_1 := NCB.out
  have hms76_3 := NCD.out
  have hms76_4 := NCE.out
  have hs77 := ci_ KC 1 (.int .i64 0)
  have hfs77 := blk_frozen KC.out 1
  have hns77_0 := NAC.out
  have hns77_1 := NBC.out
  have hns77_3 := NDC.out
  have hns77_4 := NEC.out
  have hms77_0 := NCA.out
  have hms77_1 := NCB.out
  have hms77_3 := NCD.out
  have hms77_4 := NCE.out
  have hs78 := ci_ KC 2 (.int .i64 0)
  have hfs78 := blk_frozen KC.out 2
  have hns78_0 := NAC.out
  have hns78_1 := NBC.out
  have hns78_3 := NDC.out
  have hns78_4 := NEC.out
  have hms78_0 := NCA.out
  have hms78_1 := NCB.out
  have hms78_3 := NCD.out
  have hms78_4 := NCE.out
  have hs79 := ci_ KC 3 (.int .i64 0)
  have hfs79 := blk_frozen KC.out 3
  have hns79_0 := NAC.out
  have hns79_1 := NBC.out
  have hns79_3 := NDC.out
  have hns79_4 := NEC.out
  have hms79_0 := NCA.out
  have hms79_1 := NCB.out
  have hms79_3 := NCD.out
  have hms79_4 := NCE.out
  refine skip_ (w1 := ?_) (by rfl) rfl ?_ ?_
  rotate_left
  ·go_simp
   rfl
  refine hK.out _ _ ⟨((cell_far (p := ⟨gC, _, none⟩) NAC.out _).trans (((cell_far (p := ⟨gC, _, none⟩) NAC.out _).trans (((cell_far (p := ⟨gC, _, none⟩) NAC.out _).trans (((cell_far (p := ⟨gC, _, none⟩) NAC.out _).trans (hHeld.1)))))))), ((cell_far (p := ⟨gC, _, none⟩) NAC.out _).trans (((cell_far (p := ⟨gC, _, none⟩) NAC.out _).trans (((cell_far (p := ⟨gC, _, none⟩) NAC.out _).trans (((cell_far (p := ⟨gC, _, none⟩) NAC.out _).trans (hHeld.2.1)))))))), ((cell_far (p := ⟨gC, _, none⟩) NAC.out _).trans (((cell_far (p := ⟨gC, _, none⟩) NAC.out _).trans (((cell_far (p := ⟨gC, _, none⟩) NAC.out _).trans (((cell_far (p := ⟨gC, _, none⟩) NAC.out _).trans (hHeld.2.2.1)))))))), ((cell_far (p := ⟨gC, _, none⟩) NAC.out _).trans (((cell_far (p := ⟨gC, _, none⟩) NAC.out _).trans (((cell_far (p := ⟨gC, _, none⟩) NAC.out _).trans (((cell_far (p := ⟨gC, _, none⟩) NAC.out _).trans (hHeld.2.2.2.1)))))))), ((cell_far (p := ⟨gC, _, none⟩) NBC.out _).trans (((cell_far (p := ⟨gC, _, none⟩) NBC.out _).trans (((cell_far (p := ⟨gC, _, none⟩) NBC.out _).trans (((cell_far (p := ⟨gC, _, none⟩) NBC.out _).trans (hHeld.2.2.2.2.1)))))))), ((cell_far (p := ⟨gC, _, none⟩) NBC.out _).trans (((cell_far (p := ⟨gC, _, none⟩) NBC.out _).trans (((cell_far (p := ⟨gC, _, none⟩) NBC.out _).trans (((cell_far (p := ⟨gC, _, none⟩) NBC.out _).trans (hHeld.2.2.2.2.2.1)))))))), ((cell_far (p := ⟨gC, _, none⟩) NBC.out _).trans (((cell_far (p := ⟨gC, _, none⟩) NBC.out _).trans (((cell_far (p := ⟨gC, _, none⟩) NBC.out _).trans (((cell_far (p := ⟨gC, _, none⟩) NBC.out _).trans (hHeld.2.2.2.2.2.2.1)))))))), ((cell_far (p := ⟨gC, _, none⟩) NBC.out _).trans (((cell_far (p := ⟨gC, _, none⟩) NBC.out _).trans (((cell_far (p := ⟨gC, _, none⟩) NBC.out _).trans (((cell_far (p := ⟨gC, _, none⟩) NBC.out _).trans (hHeld.2.2.2.2.2.2.2.1)))))))), ((cell_far (p := ⟨gC, _, none⟩) NEC.out _).trans (((cell_far (p := ⟨gC, _, none⟩) NEC.out _).trans (((cell_far (p := ⟨gC, _, none⟩) NEC.out _).trans (((cell_far (p := ⟨gC, _, none⟩) NEC.out _).trans (hHeld.2.2.2.2.2.2.2.2.1)))))))), ((cell_far (p := ⟨gC, _, none⟩) NEC.out _).trans (((cell_far (p := ⟨gC, _, none⟩) NEC.out _).trans (((cell_far (p := ⟨gC, _, none⟩) NEC.out _).trans (((cell_far (p := ⟨gC, _, none⟩) NEC.out _).trans (hHeld.2.2.2.2.2.2.2.2.2.1)))))))), ((cell_far (p := ⟨gC, _, none⟩) NEC.out _).trans (((cell_far (p := ⟨gC, _, none⟩) NEC.out _).trans (((cell_far (p := ⟨gC, _, none⟩) NEC.out _).trans (((cell_far (p := ⟨gC, _, none⟩) NEC.out _).trans (hHeld.2.2.2.2.2.2.2.2.2.2.1)))))))), ((cell_far (p := ⟨gC, _, none⟩) NEC.out _).trans (((cell_far (p := ⟨gC, _, none⟩) NEC.out _).trans (((cell_far (p := ⟨gC, _, none⟩) NEC.out _).trans (((cell_far (p := ⟨gC, _, none⟩) NEC.out _).trans (hHeld.2.2.2.2.2.2.2.2.2.2.2.1)))))))), ((cell_far (p := ⟨gC, _, none⟩) NDC.out _).trans (((cell_far (p := ⟨gC, _, none⟩) NDC.out _).trans (((cell_far (p := ⟨gC, _, none⟩) NDC.out _).trans (((cell_far (p := ⟨gC, _, none⟩) NDC.out _).trans (hHeld.2.2.2.2.2.2.2.2.2.2.2.2))))))))⟩ (fun hHeld => ?_)
  clear hK K
  refine done_ (done_of HT_.out (by kernel_rfl)) ?_
  try go_wp2
  refine bodyPost_ret (results_cell_row rfl _ _ gC 32 #[.int .i64 t226, .int .i64 t227, .int .i64 t228, .int .i64 t229] (0, 0) _ rfl (by refine pl ?_; refine blk_put (cs := #[.int .i64 t226, .int .i64 t227, .int .i64 t228, .int .i64 0]) ?_ 3 _ rfl; refine pl ?_; refine blk_put (cs := #[.int .i64 t226, .int .i64 t227, .int .i64 0, .int .i64 0]) ?_ 2 _ rfl; refine pl ?_; refine blk_put (cs := #[.int .i64 t226, .int .i64 0, .int .i64 0, .int .i64 0]) ?_ 1 _ rfl; refine pl ?_; refine blk_put (cs := #[.int .i64 0, .int .i64 0, .int .i64 0, .int .i64 0]) ?_ 0 _ rfl; refine pl ?_; exact KC.out) Try.underlying32 rfl (by kernel_rfl)) rfl ?_
  exact ⟨by first | rfl | (simp [errW_none, errW_some] <;> rfl) | (simp [*, errW_none, errW_some] <;> rfl), by repeat (first | (with_reducible first | exact HB.out | apply below_alloc | apply pw_below_drewN | apply below_drew1 | refine below_set ?_ GEA.out | refine below_set ?_ GEB.out | refine below_set ?_ GEC.out | refine below_set ?_ GED.out | refine below_set ?_ GEE.out) | exact HB.out)⟩

/-! ### blend_Valid: function 18 -/
def blend_Valid.f (a0 : Int) : Option (Bool) := if a0 ≥ 0 then (some (decide (a0 ≤ 17))) else (some false)
set_option maxHeartbeats 8000000 in
set_option maxRecDepth 100000 in
theorem blend_Valid.calls (a0 : Int) (r : Bool) (w : World) (h : blend_Valid.f a0 = some r) :
    Calls Try.prog 18 #[.int .i64 a0] w fun e w' => e = .returned (.bool r) ∧ Drawn0 w w' := by
 have H : (if a0 ≥ 0 then (some (decide (a0 ≤ 17))) else (some false)) = some r := h
 clear h
 by_cases c2 : a0 ≥ 0
 ·rw [if_pos c2] at H
  have c2b0 : decide (0 ≤ a0) = true := decide_eq_true c2
  clear c2
  obtain rfl := Option.some.inj H
  go_enter Try.func18, Try.ntmps18
  go_wp2
  go_ret
  exact ⟨by first | rfl | (simp; done) | (simp [*]; done), by repeat (first | exact Drawn0.refl _ | apply Drawn0.step)⟩
 ·rw [if_neg c2] at H
  have c2b0 : decide (0 ≤ a0) = false := decide_eq_false c2
  clear c2
  obtain rfl := Option.some.inj H
  go_enter Try.func18, Try.ntmps18
  go_wp2
  go_ret
  exact ⟨by first | rfl | (simp; done) | (simp [*]; done), by repeat (first | exact Drawn0.refl _ | apply Drawn0.step)⟩

end Go.Proofs.Ytnijapaaickifaa.I
