-- Written for this claim by a program of this session (handprint.py) that drives the kit's print. Not trusted: Lean checks it.
import Derived.Test.YtnijapaaickifaaI0
import Derived.Test.YtnijapaaickifaaI1
import Derived.Test.YtnijapaaickifaaI16
import Derived.Test.YtnijapaaickifaaI21
namespace Go.Proofs.Ytnijapaaickifaa.I
open Go.RowKit Go.Proofs.YtnijapaaickifaaW.PrintWords Go.Proofs.YtnijapaaickifaaW.PrintLast
attribute [local go_sem] max2_int min2_int max_two min_two max_three min_three max_four min_four
set_option linter.unusedVariables false
set_option linter.unusedSimpArgs false

attribute [local go_sem high] eqA32
/-! ### imageeditorref10_channel: function 58 -/
def imageeditorref10_channel.f (k : Nat) (a0 : Int) (a1 : Int) (a2 : Int) (a3 : Int) (a4 : Int) (a5 : Int) : Option (Int) := (imageeditorref01_Div.f k (wrap64 ((wrap64 ((wrap64 ((wrap64 (a1 * a4)) * (wrap64 (65535 - a3)))) + (wrap64 ((wrap64 (a0 * a3)) * (wrap64 (65535 - a4)))))) + (wrap64 ((wrap64 (a2 * a4)) * a3)))) a5).bind fun t442 => (some t442)
theorem imageeditorref10_channel.mono : ∀ a0 a1 a2 a3 a4 a5 k, LeO (imageeditorref10_channel.f k a0 a1 a2 a3 a4 a5) (imageeditorref10_channel.f (k + 1) a0 a1 a2 a3 a4 a5) := by
  intro a0 a1 a2 a3 a4 a5 k
  unfold imageeditorref10_channel.f
  repeat' first
      | (with_reducible exact imageeditorref01_Div.mono _ _ _)
      | (with_reducible exact LeO.refl _)
      | (with_reducible exact LeO.none _)
      | (with_reducible refine LeO.ite ?_ ?_)
      | (with_reducible refine LeO.bind ?_ (fun _ => ?_))
      | exact imageeditorref01_Div.mono _ _ _
      | exact LeO.none _
      | refine LeO.ite ?_ ?_
      | refine LeO.bind ?_ (fun _ => ?_)
set_option maxHeartbeats 8000000 in
set_option maxRecDepth 100000 in
theorem imageeditorref10_channel.calls (k : Nat) (a0 : Int) (a1 : Int) (a2 : Int) (a3 : Int) (a4 : Int) (a5 : Int) (r : Int) (w : World) (h : imageeditorref10_channel.f k a0 a1 a2 a3 a4 a5 = some r) :
    Calls Try.prog 58 #[.int .i64 a0, .int .i64 a1, .int .i64 a2, .int .i64 a3, .int .i64 a4, .int .i64 a5] w fun e w' => e = .returned (.int .i64 r) ∧ Drawn0 w w' := by
 have H : ((imageeditorref01_Div.f k (wrap64 ((wrap64 ((wrap64 ((wrap64 (a1 * a4)) * (wrap64 (65535 - a3)))) + (wrap64 ((wrap64 (a0 * a3)) * (wrap64 (65535 - a4)))))) + (wrap64 ((wrap64 (a2 * a4)) * a3)))) a5).bind fun t442 => (some t442)) = some r := h
 clear h
 replace H := Option.bind_eq_some_iff.mp H
 obtain ⟨t442, A70, H⟩ := H
 replace H : (some t442) = some r := H
 have A7 := Aside0.mk A70
 clear A70
 obtain rfl := Option.some.inj H
 go_enter Try.func58, Try.ntmps58
 go_wp2_with (first | ((with_reducible refine gate_callee (f := 38) rfl ?_); refine goesL_ (some 33) rfl rfl Try.func38 (by kernel_rfl) rfl #[.int .i64 (wrap64 ((wrap64 ((wrap64 ((wrap64 (a1 * a4)) * (wrap64 (65535 - a3)))) + (wrap64 ((wrap64 (a0 * a3)) * (wrap64 (65535 - a4)))))) + (wrap64 ((wrap64 (a2 * a4)) * a3)))), .int .i64 a5] rfl pm ?_; (with_reducible refine (imageeditorref01_Div.calls k (wrap64 ((wrap64 ((wrap64 ((wrap64 (a1 * a4)) * (wrap64 (65535 - a3)))) + (wrap64 ((wrap64 (a0 * a3)) * (wrap64 (65535 - a4)))))) + (wrap64 ((wrap64 (a2 * a4)) * a3)))) a5 t442 _ A7.out).mono ?_); rintro e w' ⟨rfl, ⟨nd, rfl⟩⟩; refine ⟨_, rfl, ?_⟩))
 go_ret
 exact ⟨by first | rfl | (simp; done) | (simp [*]; done), by repeat (first | exact Drawn0.refl _ | apply Drawn0.step)⟩

/-! ### imageeditorref10_Over: function 26 -/
def imageeditorref10_Over.j0 : Nat → Int → Int → Bool → Int → Int → Int → Int → Int → Int → Int → Int → Option (Int × Int × Int × Int)
  | 0, _, _, _, _, _, _, _, _, _, _, _ => none
  | k + 1, x0, x7, x31, x444000, x444001, x444002, x444003, x445000, x445001, x445002, x445003 => if x31 = true then (some (0, 0, 0, 0)) else ((imageeditorref10_Colors.f k x0 x444000 x444001 x444002 x444003 x445000 x445001 x445002 x445003).bind fun bt455 => ((imageeditorref10_channel.f k x444000 x445000 bt455.1 x444003 x445003 x7).bind fun t460 => ((imageeditorref10_channel.f k x444001 x445001 bt455.2.1 x444003 x445003 x7).bind fun t461 => ((imageeditorref10_channel.f k x444002 x445002 bt455.2.2.1 x444003 x445003 x7).bind fun t462 => ((imageeditorref01_Div.f k x7 65535).bind fun t463 => (some (t460, t461, t462, t463)))))))
def imageeditorref10_Over.f (k : Nat) (a0 : Int) (a1_0 : Int) (a1_1 : Int) (a1_2 : Int) (a1_3 : Int) (a2_0 : Int) (a2_1 : Int) (a2_2 : Int) (a2_3 : Int) : Option (Int × Int × Int × Int) := (imageeditorref06_Limit.f a1_0 a1_1 a1_2 a1_3).bind fun bt446 => ((imageeditorref06_Limit.f a2_0 a2_1 a2_2 a2_3).bind fun bt450 => (if (wrap64 ((wrap64 (65535 * (wrap64 (bt450.2.2.2 + bt446.2.2.2)))) - (wrap64 (bt450.2.2.2 * bt446.2.2.2)))) = 0 then (imageeditorref10_Over.j0 k a0 (wrap64 ((wrap64 (65535 * (wrap64 (bt450.2.2.2 + bt446.2.2.2)))) - (wrap64 (bt450.2.2.2 * bt446.2.2.2)))) true bt446.1 bt446.2.1 bt446.2.2.1 bt446.2.2.2 bt450.1 bt450.2.1 bt450.2.2.1 bt450.2.2.2) else ((imageeditorref01_Div.f k (wrap64 ((wrap64 (65535 * (wrap64 (bt450.2.2.2 + bt446.2.2.2)))) - (wrap64 (bt450.2.2.2 * bt446.2.2.2)))) 65535).bind fun t454 => (imageeditorref10_Over.j0 k a0 (wrap64 ((wrap64 (65535 * (wrap64 (bt450.2.2.2 + bt446.2.2.2)))) - (wrap64 (bt450.2.2.2 * bt446.2.2.2)))) (t454 == 0) bt446.1 bt446.2.1 bt446.2.2.1 bt446.2.2.2 bt450.1 bt450.2.1 bt450.2.2.1 bt450.2.2.2))))
theorem imageeditorref10_Over.mono_l : ∀ k, (∀ y0 y1 y2 y3 y4 y5 y6 y7 y8 y9 y10, LeO (imageeditorref10_Over.j0 k y0 y1 y2 y3 y4 y5 y6 y7 y8 y9 y10) (imageeditorref10_Over.j0 (k + 1) y0 y1 y2 y3 y4 y5 y6 y7 y8 y9 y10))
  | 0 => fun _ _ _ _ _ _ _ _ _ _ _ r h => by simp [imageeditorref10_Over.j0] at h
  | k + 1 => by
    have ih0 := imageeditorref10_Over.mono_l k
    · intro y0 y1 y2 y3 y4 y5 y6 y7 y8 y9 y10
      unfold imageeditorref10_Over.j0
      repeat' first
      | (with_reducible exact ih0 _ _ _ _ _ _ _ _ _ _ _)
      | (with_reducible exact imageeditorref01_Div.mono _ _ _)
      | (with_reducible exact imageeditorref10_Colors.mono _ _ _ _ _ _ _ _ _ _)
      | (with_reducible exact imageeditorref10_channel.mono _ _ _ _ _ _ _)
      | (with_reducible exact LeO.refl _)
      | (with_reducible exact LeO.none _)
      | (with_reducible refine LeO.ite ?_ ?_)
      | (with_reducible refine LeO.bind ?_ (fun _ => ?_))
      | exact ih0 _ _ _ _ _ _ _ _ _ _ _
      | exact imageeditorref01_Div.mono _ _ _
      | exact imageeditorref10_Colors.mono _ _ _ _ _ _ _ _ _ _
      | exact imageeditorref10_channel.mono _ _ _ _ _ _ _
      | exact LeO.none _
      | refine LeO.ite ?_ ?_
      | refine LeO.bind ?_ (fun _ => ?_)
theorem imageeditorref10_Over.mono : ∀ a0 a1 a2 a3 a4 a5 a6 a7 a8 k, LeO (imageeditorref10_Over.f k a0 a1 a2 a3 a4 a5 a6 a7 a8) (imageeditorref10_Over.f (k + 1) a0 a1 a2 a3 a4 a5 a6 a7 a8) := by
  intro a0 a1 a2 a3 a4 a5 a6 a7 a8 k
  have ih0 := imageeditorref10_Over.mono_l k
  unfold imageeditorref10_Over.f
  repeat' first
      | (with_reducible exact ih0 _ _ _ _ _ _ _ _ _ _ _)
      | (with_reducible exact imageeditorref01_Div.mono _ _ _)
      | (with_reducible exact imageeditorref10_Colors.mono _ _ _ _ _ _ _ _ _ _)
      | (with_reducible exact imageeditorref10_channel.mono _ _ _ _ _ _ _)
      | (with_reducible exact LeO.refl _)
      | (with_reducible exact LeO.none _)
      | (with_reducible refine LeO.ite ?_ ?_)
      | (with_reducible refine LeO.bind ?_ (fun _ => ?_))
      | exact ih0 _ _ _ _ _ _ _ _ _ _ _
      | exact imageeditorref01_Div.mono _ _ _
      | exact imageeditorref10_Colors.mono _ _ _ _ _ _ _ _ _ _
      | exact imageeditorref10_channel.mono _ _ _ _ _ _ _
      | exact LeO.none _
      | refine LeO.ite ?_ ?_
      | refine LeO.bind ?_ (fun _ => ?_)
def imageeditorref10_Over.T6 : Bool × List (List Nat × List Nat) := (true, [([], []), ([0], [0]), ([], []), ([2], [2]), ([], []), ([4], [4]), ([], []), ([6], [6]), ([], []), ([8], [8]), ([], []), ([1, 3, 5, 7, 9, 10], [1, 3, 5, 7, 9, 10]), ([], []), ([12], [12]), ([], []), ([14], [14]), ([], []), ([16], [16]), ([], []), ([18], [18]), ([], []), ([20], [20]), ([], []), ([13, 15, 17, 19, 21, 22, 11], [13, 15, 17, 19, 21, 22]), ([], []), ([24], [24]), ([], []), ([26], [26]), ([], []), ([28], [28]), ([], []), ([30], [30]), ([], []), ([32], [32]), ([], []), ([25, 27, 29, 31, 33, 34, 23], [25, 27, 29, 31, 33, 34]), ([], []), ([36, 35], [36]), ([11, 23, 35, 37], [11, 23, 35, 37]), ([38, 37, 0, 1, 2, 3, 4, 5, 6, 7, 8, 9, 10, 11, 12, 13, 14, 15, 16, 17, 18, 19, 20, 21, 22, 23, 24, 25, 26, 27, 28, 29, 30, 31, 32, 33, 34, 35, 36, 37, 38], [38])])
def imageeditorref10_Over.B6 : List Nat := [0, 1, 0, 4, 0, 16, 0, 64, 0, 256, 0, 2047, 0, 4096, 0, 16384, 0, 65536, 0, 262144, 0, 1048576, 0, 8388607, 0, 16777216, 0, 67108864, 0, 268435456, 0, 1073741824, 0, 4294967296, 0, 34359738367, 0, 137438953471, 274877906943, 549755813887]
theorem imageeditorref10_Over.tab6 : rtab .any (opsOf Try.f26 6) = imageeditorref10_Over.T6 := by kernel_rfl
theorem imageeditorref10_Over.bits6 : waitsOk imageeditorref10_Over.T6.2 imageeditorref10_Over.B6 = true := by kernel_rfl
set_option maxHeartbeats 8000000 in
set_option maxRecDepth 100000 in
theorem imageeditorref10_Over.calls (k : Nat) (a0 : Int) (a1_0 : Int) (a1_1 : Int) (a1_2 : Int) (a1_3 : Int) (a2_0 : Int) (a2_1 : Int) (a2_2 : Int) (a2_3 : Int) (r1 : Int) (r2 : Int) (r3 : Int) (r4 : Int) (w : World) (h : imageeditorref10_Over.f k a0 a1_0 a1_1 a1_2 a1_3 a2_0 a2_1 a2_2 a2_3 = some (r1, r2, r3, r4)) :
    Calls Try.prog 26 #[.int .i64 a0, .agg #[.int .i64 a1_0, .int .i64 a1_1, .int .i64 a1_2, .int .i64 a1_3], .agg #[.int .i64 a2_0, .int .i64 a2_1, .int .i64 a2_2, .int .i64 a2_3]] w fun e w' => e = .returned (.agg #[.int .i64 r1, .int .i64 r2, .int .i64 r3, .int .i64 r4]) ∧ Below w.heap.size w w' := by
 have hu32 := Try.underlying32
 have HB := Aside0.mk (Below.refl w.heap.size w)
 have H : ((imageeditorref06_Limit.f a1_0 a1_1 a1_2 a1_3).bind fun bt446 => ((imageeditorref06_Limit.f a2_0 a2_1 a2_2 a2_3).bind fun bt450 => (if (wrap64 ((wrap64 (65535 * (wrap64 (bt450.2.2.2 + bt446.2.2.2)))) - (wrap64 (bt450.2.2.2 * bt446.2.2.2)))) = 0 then (imageeditorref10_Over.j0 k a0 (wrap64 ((wrap64 (65535 * (wrap64 (bt450.2.2.2 + bt446.2.2.2)))) - (wrap64 (bt450.2.2.2 * bt446.2.2.2)))) true bt446.1 bt446.2.1 bt446.2.2.1 bt446.2.2.2 bt450.1 bt450.2.1 bt450.2.2.1 bt450.2.2.2) else ((imageeditorref01_Div.f k (wrap64 ((wrap64 (65535 * (wrap64 (bt450.2.2.2 + bt446.2.2.2)))) - (wrap64 (bt450.2.2.2 * bt446.2.2.2)))) 65535).bind fun t454 => (imageeditorref10_Over.j0 k a0 (wrap64 ((wrap64 (65535 * (wrap64 (bt450.2.2.2 + bt446.2.2.2)))) - (wrap64 (bt450.2.2.2 * bt446.2.2.2)))) (t454 == 0) bt446.1 bt446.2.1 bt446.2.2.1 bt446.2.2.2 bt450.1 bt450.2.1 bt450.2.2.1 bt450.2.2.2))))) = some (r1, r2, r3, r4) := h
 clear h
 replace H := Option.bind_eq_some_iff.mp H
 obtain ⟨⟨t446, t447, t448, t449⟩, A40, H⟩ := H
 replace H : ((imageeditorref06_Limit.f a2_0 a2_1 a2_2 a2_3).bind fun bt450 => (if (wrap64 ((wrap64 (65535 * (wrap64 (bt450.2.2.2 + t449)))) - (wrap64 (bt450.2.2.2 * t449)))) = 0 then (imageeditorref10_Over.j0 k a0 (wrap64 ((wrap64 (65535 * (wrap64 (bt450.2.2.2 + t449)))) - (wrap64 (bt450.2.2.2 * t449)))) true t446 t447 t448 t449 bt450.1 bt450.2.1 bt450.2.2.1 bt450.2.2.2) else ((imageeditorref01_Div.f k (wrap64 ((wrap64 (65535 * (wrap64 (bt450.2.2.2 + t449)))) - (wrap64 (bt450.2.2.2 * t449)))) 65535).bind fun t454 => (imageeditorref10_Over.j0 k a0 (wrap64 ((wrap64 (65535 * (wrap64 (bt450.2.2.2 + t449)))) - (wrap64 (bt450.2.2.2 * t449)))) (t454 == 0) t446 t447 t448 t449 bt450.1 bt450.2.1 bt450.2.2.1 bt450.2.2.2)))) = some (r1, r2, r3, r4) := H
 have A4 := Aside0.mk A40
 clear A40
 replace H := Option.bind_eq_some_iff.mp H
 obtain ⟨⟨t450, t451, t452, t453⟩, A50, H⟩ := H
 replace H : (if (wrap64 ((wrap64 (65535 * (wrap64 (t453 + t449)))) - (wrap64 (t453 * t449)))) = 0 then (imageeditorref10_Over.j0 k a0 (wrap64 ((wrap64 (65535 * (wrap64 (t453 + t449)))) - (wrap64 (t453 * t449)))) true t446 t447 t448 t449 t450 t451 t452 t453) else ((imageeditorref01_Div.f k (wrap64 ((wrap64 (65535 * (wrap64 (t453 + t449)))) - (wrap64 (t453 * t449)))) 65535).bind fun t454 => (imageeditorref10_Over.j0 k a0 (wrap64 ((wrap64 (65535 * (wrap64 (t453 + t449)))) - (wrap64 (t453 * t449)))) (t454 == 0) t446 t447 t448 t449 t450 t451 t452 t453))) = some (r1, r2, r3, r4) := H
 have A5 := Aside0.mk A50
 clear A50
 have HC6 := Aside0.mk H
 clear H
 go_enter Try.func26, Try.ntmps26
 try go_wp2_with (first | ((with_reducible refine gate_dst (N := 4) rfl ?_); refine box_event ?hg (N := 4) ?hd (cs := #[.int .i64 a1_0, .int .i64 a1_1, .int .i64 a1_2, .int .i64 a1_3]) (t := 32) ?hr ?_; (case hd => rfl); (case hg => rfl); (case hr => first | (go_simp; done) | (go_simp; rfl)); intro gA hg w7 hbox hb; have KA := Aside0.mk hbox; have GWA := ge_ hg (pb HB.out); have GEA := ge_ hg (pb HB.out); replace HB := Aside0.mk (below_step (pb HB.out) hb); clear hb hbox hg) | ((with_reducible refine gate_dst (N := 5) rfl ?_); refine box_event ?hg (N := 5) ?hd (cs := #[.int .i64 a2_0, .int .i64 a2_1, .int .i64 a2_2, .int .i64 a2_3]) (t := 32) ?hr ?_; (case hd => rfl); (case hg => rfl); (case hr => first | (go_simp; done) | (go_simp; rfl)); intro gB hg w8 hbox hb; have c0_ := cp_ hb KA; have KB := Aside0.mk hbox; have GWB := ge_ hg (pb1 HB.out GEA.out); have GEB := ge_ hg (pb1 HB.out GEA.out); have NAB := nl_ hg c0_; have NBA := ng_ hg c0_; replace KA := bb_ c0_ hb; replace HB := Aside0.mk (below_step (pb1 HB.out GEA.out) hb); clear c0_; clear hb hbox hg) | ((with_reducible refine gate_dst (N := 6) rfl ?_); refine box_event ?hg (N := 6) ?hd (cs := #[.int .i64 0, .int .i64 0, .int .i64 0, .int .i64 0]) (t := 32) ?hr ?_; (case hd => rfl); (case hg => rfl); (case hr => first | (go_simp; done) | (go_simp; rfl)); intro gC hg w9 hbox hb; have c0_ := cp_ hb KA; have c1_ := cp_ hb KB; have KC := Aside0.mk hbox; have GWC := ge_ hg (pb2 HB.out GEA.out GEB.out); have GEC := ge_ hg (pb2 HB.out GEA.out GEB.out); have NAC := nl_ hg c0_; have NCA := ng_ hg c0_; have NBC := nl_ hg c1_; have NCB := ng_ hg c1_; replace KA := bb_ c0_ hb; replace KB := bb_ c1_ hb; replace HB := Aside0.mk (below_step (pb2 HB.out GEA.out GEB.out) hb); clear c0_ c1_; clear hb hbox hg))
 replace KA := Aside0.mk (blk_drew KA.out)
 replace KB := Aside0.mk (blk_drew KB.out)
 replace KC := Aside0.mk (blk_drew KC.out)
 replace HB := Aside0.mk (below_drew1 HB.out)
 refine start_ (n := 6) (S := fun w' => w'.cell? ⟨gA, 0, none⟩ = some (.int .i64 a1_0) ∧ w'.cell? ⟨gA, 1, none⟩ = some (.int .i64 a1_1) ∧ w'.cell? ⟨gA, 2, none⟩ = some (.int .i64 a1_2) ∧ w'.cell? ⟨gA, 3, none⟩ = some (.int .i64 a1_3) ∧ w'.cell? ⟨gB, 0, none⟩ = some (.int .i64 a2_0) ∧ w'.cell? ⟨gB, 1, none⟩ = some (.int .i64 a2_1) ∧ w'.cell? ⟨gB, 2, none⟩ = some (.int .i64 a2_2) ∧ w'.cell? ⟨gB, 3, none⟩ = some (.int .i64 a2_3)) (ds := [4, 5]) #[false, false, false, false, false, false] (by kernel_rfl) rfl rfl ⟨(blk_cell KA.out 0).trans rfl, (blk_cell KA.out 1).trans rfl, (blk_cell KA.out 2).trans rfl, (blk_cell KA.out 3).trans rfl, (blk_cell KB.out 0).trans rfl, (blk_cell KB.out 1).trans rfl, (blk_cell KB.out 2).trans rfl, (blk_cell KB.out 3).trans rfl⟩ (fun hHeld => ?_)
 generalize w9.drew = w10 at KA KB KC HB hHeld ⊢
 refine take_ (i := 0) (N := some 9) (v := ?_) (a' := ?_) #[true, false, false, false, false, false] rfl rfl (by kernel_rfl) (fun _ _ _ h => h) (Or.inl ⟨by rfl, ?_⟩) hHeld ?_ ?_
 rotate_left
 ·rintro w' ⟨s0, s1, s2, s3, s4, s5, s6, s7⟩
  go_simp
  with_reducible rfl
 rotate_left
 ·refine ps ?_
  rfl
 refine take_ (i := 2) (N := some 11) (v := ?_) (a' := ?_) #[true, false, true, false, false, false] rfl rfl (by kernel_rfl) (fun _ _ _ h => h) (Or.inl ⟨by rfl, ?_⟩) hHeld ?_ ?_
 rotate_left
 ·rintro w' ⟨s0, s1, s2, s3, s4, s5, s6, s7⟩
  go_simp
  with_reducible rfl
 rotate_left
 ·refine ps ?_
  rfl
 refine one_ (i := 1) (N := some 10) #[true, true, true, false, false, false] rfl rfl (by kernel_rfl) (by decide) (fun K hK => ?_)
 refine goes_ Try.func30 (by kernel_rfl) rfl #[.agg #[.int .i64 a1_0, .int .i64 a1_1, .int .i64 a1_2, .int .i64 a1_3]] (by rfl) rfl rfl pm ?_
 with_reducible refine (imageeditorref06_Limit.calls a1_0 a1_1 a1_2 a1_3 t446 t447 t448 t449 _ A4.out).mono ?_
 rintro e w11 ⟨rfl, hb⟩
 refine ⟨_, rfl, ?_⟩
 replace KA := bb_ KA hb
 replace KB := bb_ KB hb
 replace KC := bb_ KC hb
 replace HB := Aside0.mk (below_step HB.out hb)
 try clear hb
 refine hK.out _ _ ⟨(blk_cell KA.out 0).trans rfl, (blk_cell KA.out 1).trans rfl, (blk_cell KA.out 2).trans rfl, (blk_cell KA.out 3).trans rfl, (blk_cell KB.out 0).trans rfl, (blk_cell KB.out 1).trans rfl, (blk_cell KB.out 2).trans rfl, (blk_cell KB.out 3).trans rfl⟩ (fun hHeld => ?_)
 clear hK K
 refine norm_ (a' := ?_) ?_ ?_
 rotate_left
 ·show Act.put _ (some 10) _ = _
  refine ps ?_
  rfl
 refine one_ (i := 3) (N := some 12) #[true, true, true, true, false, false] rfl rfl (by kernel_rfl) (by decide) (fun K hK => ?_)
 refine goes_ Try.func30 (by kernel_rfl) rfl #[.agg #[.int .i64 a2_0, .int .i64 a2_1, .int .i64 a2_2, .int .i64 a2_3]] (by rfl) rfl rfl pm ?_
 with_reducible refine (imageeditorref06_Limit.calls a2_0 a2_1 a2_2 a2_3 t450 t451 t452 t453 _ A5.out).mono ?_
 rintro e w12 ⟨rfl, hb⟩
 refine ⟨_, rfl, ?_⟩
 replace KA := bb_ KA hb
 replace KB := bb_ KB hb
 replace KC := bb_ KC hb
 replace HB := Aside0.mk (below_step HB.out hb)
 try clear hb
 refine hK.out _ _ ⟨(blk_cell KA.out 0).trans rfl, (blk_cell KA.out 1).trans rfl, (blk_cell KA.out 2).trans rfl, (blk_cell KA.out 3).trans rfl, (blk_cell KB.out 0).trans rfl, (blk_cell KB.out 1).trans rfl, (blk_cell KB.out 2).trans rfl, (blk_cell KB.out 3).trans rfl⟩ (fun hHeld => ?_)
 clear hK K
 refine norm_ (a' := ?_) ?_ ?_
 rotate_left
 ·show Act.put _ (some 12) _ = _
  refine ps ?_
  rfl
 refine last_ (i := 4) (N := none) #[true, true, true, true, true, false] rfl rfl (by kernel_rfl) (by decide) (fun K hK => ?_)
 have hs13 := ci_ KA 0 (.int .i64 a1_0)
 have hfs13 := blk_frozen KA.out 0
 have hns13_1 := NBA.out
 have hns13_2 := NCA.out
 have hms13_1 := NAB.out
 have hms13_2 := NAC.out
 have hs14 := ci_ KA 1 (.int .i64 a1_1)
 have hfs14 := blk_frozen KA.out 1
 have hns14_1 := NBA.out
 have hns14_2 := NCA.out
 have hms14_1 := NAB.out
 have hms14_2 := NAC.out
 have hs15 := ci_ KA 2 (.int .i64 a1_2)
 have hfs15 := blk_frozen KA.out 2
 have hns15_1 := NBA.out
 have hns15_2 := NCA.out
 have hms15_1 := NAB.out
 have hms15_2 := NAC.out
 have hs16 := ci_ KA 3 (.int .i64 a1_3)
 have hfs16 := blk_frozen KA.out 3
 have hns16_1 := NBA.out
 have hns16_2 := NCA.out
 have hms16_1 := NAB.out
 have hms16_2 := NAC.out
 refine skip_ (w1 := ?_) (by rfl) rfl ?_ ?_
 rotate_left
 ·go_simp
  rfl
 refine hK.out _ _ ?_
 clear hK K
 refine last_ (i := 5) (N := none) #[true, true, true, true, true, true] rfl rfl (by kernel_rfl) (by decide) (fun K hK => ?_)
 have hs17 := ci_ KB 0 (.int .i64 a2_0)
 have hfs17 := blk_frozen KB.out 0
 have hns17_0 := NAB.out
 have hns17_2 := NCB.out
 have hms17_0 := NBA.out
 have hms17_2 := NBC.out
 have hs18 := ci_ KB 1 (.int .i64 a2_1)
 have hfs18 := blk_frozen KB.out 1
 have hns18_0 := NAB.out
 have hns18_2 := NCB.out
 have hms18_0 := NBA.out
 have hms18_2 := NBC.out
 have hs19 := ci_ KB 2 (.int .i64 a2_2)
 have hfs19 := blk_frozen KB.out 2
 have hns19_0 := NAB.out
 have hns19_2 := NCB.out
 have hms19_0 := NBA.out
 have hms19_2 := NBC.out
 have hs20 := ci_ KB 3 (.int .i64 a2_3)
 have hfs20 := blk_frozen KB.out 3
 have hns20_0 := NAB.out
 have hns20_2 := NCB.out
 have hms20_0 := NBA.out
 have hms20_2 := NBC.out
 refine skip_ (w1 := ?_) (by rfl) rfl ?_ ?_
 rotate_left
 ·go_simp
  rfl
 refine hK.out _ _ ?_
 clear hK K
 refine done_ (by kernel_rfl) ?_
 have hnb21 := NBA.out
 have hnc21 := NAB.out
 have hnb22 := NBC.out
 have hnc22 := NCB.out
 have hcz23_0 := ci_ KB 0 (.int .i64 a2_0)
 have hcz23_1 := ci_ KB 1 (.int .i64 a2_1)
 have hcz23_2 := ci_ KB 2 (.int .i64 a2_2)
 have hcz23_3 := ci_ KB 3 (.int .i64 a2_3)
 have hfz23_0 := blk_frozen KB.out 0
 have hfz23_1 := blk_frozen KB.out 1
 have hfz23_2 := blk_frozen KB.out 2
 have hfz23_3 := blk_frozen KB.out 3
 have hnb24 := NAC.out
 have hnc24 := NCA.out
 have hcz25_0 := ci_ KA 0 (.int .i64 a1_0)
 have hcz25_1 := ci_ KA 1 (.int .i64 a1_1)
 have hcz25_2 := ci_ KA 2 (.int .i64 a1_2)
 have hcz25_3 := ci_ KA 3 (.int .i64 a1_3)
 have hfz25_0 := blk_frozen KA.out 0
 have hfz25_1 := blk_frozen KA.out 1
 have hfz25_2 := blk_frozen KA.out 2
 have hfz25_3 := blk_frozen KA.out 3
 go_upto_region 3 with (fail)
 go_cut [31] (fun v31 wc => ∃ (kq : Nat) (x31_5 : Bool), v31 = .bool x31_5 ∧ Aside0 (imageeditorref10_Over.j0 kq a0 (wrap64 ((wrap64 (65535 * (wrap64 (t453 + t449)))) - (wrap64 (t453 * t449)))) x31_5 t446 t447 t448 t449 t450 t451 t452 t453 = some (r1, r2, r3, r4)) ∧ Aside0 (kq ≤ k) ∧ Aside0 (wc.heap[gA]? = some (.cells #[.int .i64 t446, .int .i64 t447, .int .i64 t448, .int .i64 t449] 32 (0, 0))) ∧ Aside0 (wc.heap[gB]? = some (.cells #[.int .i64 t450, .int .i64 t451, .int .i64 t452, .int .i64 t453] 32 (0, 0))) ∧ Aside0 (wc.heap[gC]? = some (.cells #[.int .i64 0, .int .i64 0, .int .i64 0, .int .i64 0] 32 (0, 0))) ∧ Aside0 (Below w.heap.size w wc))
 case first =>
  have H := HC6.out
  clear HC6
  by_cases c26 : (wrap64 ((wrap64 (65535 * (wrap64 (t453 + t449)))) - (wrap64 (t453 * t449)))) = 0
  ·rw [if_pos c26] at H
   have c26b0 : ((wrap64 ((wrap64 (65535 * (wrap64 (t453 + t449)))) - (wrap64 (t453 * t449)))) == 0) = true := beq_iff_eq.mpr c26
   have c26b1 : ((wrap64 ((wrap64 (65535 * (wrap64 (t453 + t449)))) - (wrap64 (t453 * t449)))) != 0) = false := bne_eq_false_iff_eq.mpr c26
   clear c26
   (first | rw [c26b0] | (simp only [i64_w, i32_w]; rw [c26b0]) | skip)
   have H' := Aside0.mk H
   clear H
   go_wp2
   go_meet
   case rel => exact ⟨_, (true), (by first | rfl | (simp; done) | (simp [*]; done)), H', ⟨by first | omega | exact Nat.le_refl _⟩, ⟨by refine pl ?_; refine blk_far ?_ NAB.out _; refine pl ?_; refine blk_far ?_ NAB.out _; refine pl ?_; refine blk_far ?_ NAB.out _; refine pl ?_; refine blk_far ?_ NAB.out _; refine pl ?_; refine blk_put (cs := #[.int .i64 t446, .int .i64 t447, .int .i64 t448, .int .i64 a1_3]) ?_ 3 _ rfl; refine pl ?_; refine blk_put (cs := #[.int .i64 t446, .int .i64 t447, .int .i64 a1_2, .int .i64 a1_3]) ?_ 2 _ rfl; refine pl ?_; refine blk_put (cs := #[.int .i64 t446, .int .i64 a1_1, .int .i64 a1_2, .int .i64 a1_3]) ?_ 1 _ rfl; refine pl ?_; refine blk_put (cs := #[.int .i64 a1_0, .int .i64 a1_1, .int .i64 a1_2, .int .i64 a1_3]) ?_ 0 _ rfl; refine pl ?_; exact KA.out⟩, ⟨by refine pl ?_; refine blk_put (cs := #[.int .i64 t450, .int .i64 t451, .int .i64 t452, .int .i64 a2_3]) ?_ 3 _ rfl; refine pl ?_; refine blk_put (cs := #[.int .i64 t450, .int .i64 t451, .int .i64 a2_2, .int .i64 a2_3]) ?_ 2 _ rfl; refine pl ?_; refine blk_put (cs := #[.int .i64 t450, .int .i64 a2_1, .int .i64 a2_2, .int .i64 a2_3]) ?_ 1 _ rfl; refine pl ?_; refine blk_put (cs := #[.int .i64 a2_0, .int .i64 a2_1, .int .i64 a2_2, .int .i64 a2_3]) ?_ 0 _ rfl; refine pl ?_; refine blk_far ?_ NBA.out _; refine pl ?_; refine blk_far ?_ NBA.out _; refine pl ?_; refine blk_far ?_ NBA.out _; refine pl ?_; refine blk_far ?_ NBA.out _; refine pl ?_; exact KB.out⟩, ⟨by refine pl ?_; refine blk_far ?_ NCB.out _; refine pl ?_; refine blk_far ?_ NCB.out _; refine pl ?_; refine blk_far ?_ NCB.out _; refine pl ?_; refine blk_far ?_ NCB.out _; refine pl ?_; refine blk_far ?_ NCA.out _; refine pl ?_; refine blk_far ?_ NCA.out _; refine pl ?_; refine blk_far ?_ NCA.out _; refine pl ?_; refine blk_far ?_ NCA.out _; refine pl ?_; exact KC.out⟩, ⟨pb3 HB.out GEA.out GEB.out GEC.out⟩⟩
  ·rw [if_neg c26] at H
   have c26b0 : ((wrap64 ((wrap64 (65535 * (wrap64 (t453 + t449)))) - (wrap64 (t453 * t449)))) == 0) = false := beq_eq_false_iff_ne.mpr c26
   have c26b1 : ((wrap64 ((wrap64 (65535 * (wrap64 (t453 + t449)))) - (wrap64 (t453 * t449)))) != 0) = true := bne_iff_ne.mpr c26
   (first | rw [c26b0] | (simp only [i64_w, i32_w]; rw [c26b0]) | skip)
   replace H := Option.bind_eq_some_iff.mp H
   obtain ⟨t454, A270, H⟩ := H
   replace H : (imageeditorref10_Over.j0 k a0 (wrap64 ((wrap64 (65535 * (wrap64 (t453 + t449)))) - (wrap64 (t453 * t449)))) (t454 == 0) t446 t447 t448 t449 t450 t451 t452 t453) = some (r1, r2, r3, r4) := H
   have A27 := Aside0.mk A270
   clear A270
   have H' := Aside0.mk H
   clear H
   go_wp2_with (first | (go_at_call 38; (with_reducible refine (imageeditorref01_Div.calls k (wrap64 ((wrap64 (65535 * (wrap64 (t453 + t449)))) - (wrap64 (t453 * t449)))) 65535 t454 _ A27.out).mono ?_); rintro e w' ⟨rfl, ⟨nd, rfl⟩⟩))
   go_meet
   case rel => exact ⟨_, ((t454 == 0)), (by first | rfl | (simp; done) | (simp [*]; done)), H', ⟨by first | omega | exact Nat.le_refl _⟩, ⟨by refine pl ?_; refine blk_far ?_ NAB.out _; refine pl ?_; refine blk_far ?_ NAB.out _; refine pl ?_; refine blk_far ?_ NAB.out _; refine pl ?_; refine blk_far ?_ NAB.out _; refine pl ?_; refine blk_put (cs := #[.int .i64 t446, .int .i64 t447, .int .i64 t448, .int .i64 a1_3]) ?_ 3 _ rfl; refine pl ?_; refine blk_put (cs := #[.int .i64 t446, .int .i64 t447, .int .i64 a1_2, .int .i64 a1_3]) ?_ 2 _ rfl; refine pl ?_; refine blk_put (cs := #[.int .i64 t446, .int .i64 a1_1, .int .i64 a1_2, .int .i64 a1_3]) ?_ 1 _ rfl; refine pl ?_; refine blk_put (cs := #[.int .i64 a1_0, .int .i64 a1_1, .int .i64 a1_2, .int .i64 a1_3]) ?_ 0 _ rfl; refine pl ?_; exact KA.out⟩, ⟨by refine pl ?_; refine blk_put (cs := #[.int .i64 t450, .int .i64 t451, .int .i64 t452, .int .i64 a2_3]) ?_ 3 _ rfl; refine pl ?_; refine blk_put (cs := #[.int .i64 t450, .int .i64 t451, .int .i64 a2_2, .int .i64 a2_3]) ?_ 2 _ rfl; refine pl ?_; refine blk_put (cs := #[.int .i64 t450, .int .i64 a2_1, .int .i64 a2_2, .int .i64 a2_3]) ?_ 1 _ rfl; refine pl ?_; refine blk_put (cs := #[.int .i64 a2_0, .int .i64 a2_1, .int .i64 a2_2, .int .i64 a2_3]) ?_ 0 _ rfl; refine pl ?_; refine blk_far ?_ NBA.out _; refine pl ?_; refine blk_far ?_ NBA.out _; refine pl ?_; refine blk_far ?_ NBA.out _; refine pl ?_; refine blk_far ?_ NBA.out _; refine pl ?_; exact KB.out⟩, ⟨by refine pl ?_; refine blk_far ?_ NCB.out _; refine pl ?_; refine blk_far ?_ NCB.out _; refine pl ?_; refine blk_far ?_ NCB.out _; refine pl ?_; refine blk_far ?_ NCB.out _; refine pl ?_; refine blk_far ?_ NCA.out _; refine pl ?_; refine blk_far ?_ NCA.out _; refine pl ?_; refine blk_far ?_ NCA.out _; refine pl ?_; refine blk_far ?_ NCA.out _; refine pl ?_; exact KC.out⟩, ⟨pb3 HB.out GEA.out GEB.out GEC.out⟩⟩
 case rest =>
  clear HC6
  try clear c2
  try clear p2
  try clear c3
  try clear p6
  try clear c21
  try clear c22
  try clear c24
  try clear c26
  try clear c26b0
  try clear c26b1
  try clear hcz23_0
  try clear hcz23_1
  try clear hcz23_2
  try clear hcz23_3
  try clear hcz25_0
  try clear hcz25_1
  try clear hcz25_2
  try clear hcz25_3
  try clear hfz23_0
  try clear hfz23_1
  try clear hfz23_2
  try clear hfz23_3
  try clear hfz25_0
  try clear hfz25_1
  try clear hfz25_2
  try clear hfz25_3
  obtain ⟨kq, x31_5, rfl, HA, HJ5, KA, KB, KC, HB⟩ := hcut
  cases kq with
  | zero => exact absurd HA.out (by simp [imageeditorref10_Over.j0])
  | succ kj5 =>
   have H := HA.out
   clear HA
   simp only [imageeditorref10_Over.j0] at H
   by_cases c28 : x31_5 = true
   ·subst c28
    have H1 : (some (0, 0, 0, 0)) = some (r1, r2, r3, r4) := by rw [if_pos rfl] at H; exact H
    clear H
    have H := H1
    clear H1
    simp only [Option.some.injEq, Prod.mk.injEq] at H
    obtain ⟨rfl, rfl, rfl, rfl⟩ := H
    have hnb29 := NCA.out
    have hnc29 := NAC.out
    have hnb30 := NCB.out
    have hnc30 := NBC.out
    have hcz31_0 := ci_ KC 0 (.int .i64 0)
    have hcz31_1 := ci_ KC 1 (.int .i64 0)
    have hcz31_2 := ci_ KC 2 (.int .i64 0)
    have hcz31_3 := ci_ KC 3 (.int .i64 0)
    have hfz31_0 := blk_frozen KC.out 0
    have hfz31_1 := blk_frozen KC.out 1
    have hfz31_2 := blk_frozen KC.out 2
    have hfz31_3 := blk_frozen KC.out 3
    go_wp2
    refine bodyPost_ret (results_cell_row rfl _ _ gC 32 #[.int .i64 0, .int .i64 0, .int .i64 0, .int .i64 0] (0, 0) _ rfl (by refine pl ?_; refine blk_put (cs := #[.int .i64 0, .int .i64 0, .int .i64 0, .int .i64 0]) ?_ 3 _ rfl; refine pl ?_; refine blk_put (cs := #[.int .i64 0, .int .i64 0, .int .i64 0, .int .i64 0]) ?_ 2 _ rfl; refine pl ?_; refine blk_put (cs := #[.int .i64 0, .int .i64 0, .int .i64 0, .int .i64 0]) ?_ 1 _ rfl; refine pl ?_; refine blk_put (cs := #[.int .i64 0, .int .i64 0, .int .i64 0, .int .i64 0]) ?_ 0 _ rfl; refine pl ?_; exact KC.out) Try.underlying32 rfl (by kernel_rfl)) rfl ?_
    exact ⟨by first | rfl | (simp [errW_none, errW_some] <;> rfl) | (simp [*, errW_none, errW_some] <;> rfl), pb3 HB.out GEA.out GEB.out GEC.out⟩
   ·replace c28 := Bool.eq_false_iff.mpr c28
    subst c28
    have H1 : ((imageeditorref10_Colors.f kj5 a0 t446 t447 t448 t449 t450 t451 t452 t453).bind fun bt455 => ((imageeditorref10_channel.f kj5 t446 t450 bt455.1 t449 t453 (wrap64 ((wrap64 (65535 * (wrap64 (t453 + t449)))) - (wrap64 (t453 * t449))))).bind fun t460 => ((imageeditorref10_channel.f kj5 t447 t451 bt455.2.1 t449 t453 (wrap64 ((wrap64 (65535 * (wrap64 (t453 + t449)))) - (wrap64 (t453 * t449))))).bind fun t461 => ((imageeditorref10_channel.f kj5 t448 t452 bt455.2.2.1 t449 t453 (wrap64 ((wrap64 (65535 * (wrap64 (t453 + t449)))) - (wrap64 (t453 * t449))))).bind fun t462 => ((imageeditorref01_Div.f kj5 (wrap64 ((wrap64 (65535 * (wrap64 (t453 + t449)))) - (wrap64 (t453 * t449)))) 65535).bind fun t463 => (some (t460, t461, t462, t463))))))) = some (r1, r2, r3, r4) := by rw [if_neg (show ¬ (false = true) by decide)] at H; exact H
    clear H
    have H := H1
    clear H1
    replace H := Option.bind_eq_some_iff.mp H
    obtain ⟨⟨t455, t456, t457, t458⟩, A320, H⟩ := H
    replace H : ((imageeditorref10_channel.f kj5 t446 t450 t455 t449 t453 (wrap64 ((wrap64 (65535 * (wrap64 (t453 + t449)))) - (wrap64 (t453 * t449))))).bind fun t460 => ((imageeditorref10_channel.f kj5 t447 t451 t456 t449 t453 (wrap64 ((wrap64 (65535 * (wrap64 (t453 + t449)))) - (wrap64 (t453 * t449))))).bind fun t461 => ((imageeditorref10_channel.f kj5 t448 t452 t457 t449 t453 (wrap64 ((wrap64 (65535 * (wrap64 (t453 + t449)))) - (wrap64 (t453 * t449))))).bind fun t462 => ((imageeditorref01_Div.f kj5 (wrap64 ((wrap64 (65535 * (wrap64 (t453 + t449)))) - (wrap64 (t453 * t449)))) 65535).bind fun t463 => (some (t460, t461, t462, t463)))))) = some (r1, r2, r3, r4) := H
    have A32 := Aside0.mk A320
    clear A320
    replace H := Option.bind_eq_some_iff.mp H
    obtain ⟨t460, A330, H⟩ := H
    replace H : ((imageeditorref10_channel.f kj5 t447 t451 t456 t449 t453 (wrap64 ((wrap64 (65535 * (wrap64 (t453 + t449)))) - (wrap64 (t453 * t449))))).bind fun t461 => ((imageeditorref10_channel.f kj5 t448 t452 t457 t449 t453 (wrap64 ((wrap64 (65535 * (wrap64 (t453 + t449)))) - (wrap64 (t453 * t449))))).bind fun t462 => ((imageeditorref01_Div.f kj5 (wrap64 ((wrap64 (65535 * (wrap64 (t453 + t449)))) - (wrap64 (t453 * t449)))) 65535).bind fun t463 => (some (t460, t461, t462, t463))))) = some (r1, r2, r3, r4) := H
    have A33 := Aside0.mk A330
    clear A330
    replace H := Option.bind_eq_some_iff.mp H
    obtain ⟨t461, A340, H⟩ := H
    replace H : ((imageeditorref10_channel.f kj5 t448 t452 t457 t449 t453 (wrap64 ((wrap64 (65535 * (wrap64 (t453 + t449)))) - (wrap64 (t453 * t449))))).bind fun t462 => ((imageeditorref01_Div.f kj5 (wrap64 ((wrap64 (65535 * (wrap64 (t453 + t449)))) - (wrap64 (t453 * t449)))) 65535).bind fun t463 => (some (t460, t461, t462, t463)))) = some (r1, r2, r3, r4) := H
    have A34 := Aside0.mk A340
    clear A340
    replace H := Option.bind_eq_some_iff.mp H
    obtain ⟨t462, A350, H⟩ := H
    replace H : ((imageeditorref01_Div.f kj5 (wrap64 ((wrap64 (65535 * (wrap64 (t453 + t449)))) - (wrap64 (t453 * t449)))) 65535).bind fun t463 => (some (t460, t461, t462, t463))) = some (r1, r2, r3, r4) := H
    have A35 := Aside0.mk A350
    clear A350
    replace H := Option.bind_eq_some_iff.mp H
    obtain ⟨t463, A360, H⟩ := H
    replace H : (some (t460, t461, t462, t463)) = some (r1, r2, r3, r4) := H
    have A36 := Aside0.mk A360
    clear A360
    simp only [Option.some.injEq, Prod.mk.injEq] at H
    obtain ⟨rfl, rfl, rfl, rfl⟩ := H
    have hnb37 := NAB.out
    have hnc37 := NBA.out
    have hnb38 := NAC.out
    have hnc38 := NCA.out
    have hcz39_0 := ci_ KA 0 (.int .i64 t446)
    have hcz39_1 := ci_ KA 1 (.int .i64 t447)
    have hcz39_2 := ci_ KA 2 (.int .i64 t448)
    have hcz39_3 := ci_ KA 3 (.int .i64 t449)
    have hfz39_0 := blk_frozen KA.out 0
    have hfz39_1 := blk_frozen KA.out 1
    have hfz39_2 := blk_frozen KA.out 2
    have hfz39_3 := blk_frozen KA.out 3
    have hnb40 := NBC.out
    have hnc40 := NCB.out
    have hcz41_0 := ci_ KB 0 (.int .i64 t450)
    have hcz41_1 := ci_ KB 1 (.int .i64 t451)
    have hcz41_2 := ci_ KB 2 (.int .i64 t452)
    have hcz41_3 := ci_ KB 3 (.int .i64 t453)
    have hfz41_0 := blk_frozen KB.out 0
    have hfz41_1 := blk_frozen KB.out 1
    have hfz41_2 := blk_frozen KB.out 2
    have hfz41_3 := blk_frozen KB.out 3
    try go_wp2_with (first | ((with_reducible refine gate_callee (f := 25) rfl ?_); refine goesL_ (some 36) rfl rfl Try.func25 (by kernel_rfl) rfl #[.int .i64 a0, .agg #[.int .i64 t446, .int .i64 t447, .int .i64 t448, .int .i64 t449], .agg #[.int .i64 t450, .int .i64 t451, .int .i64 t452, .int .i64 t453]] rfl pm ?_; (with_reducible refine (imageeditorref10_Colors.calls kj5 a0 t446 t447 t448 t449 t450 t451 t452 t453 t455 t456 t457 t458 _ A32.out).mono ?_); rintro e w42 ⟨rfl, hb⟩; refine ⟨_, rfl, ?_⟩; replace KA := bp_ KA hb; replace KB := bp_ KB hb; replace KC := bp_ KC hb; replace HB := Aside0.mk (below_step (pb3 HB.out GEA.out GEB.out GEC.out) hb); (try clear hb); (try clear hb2); (try clear hk); (try clear hi)) | ((with_reducible refine gate_dst (N := 8) rfl ?_); refine box_event ?hg (N := 8) ?hd (cs := #[.int .i64 0, .int .i64 0, .int .i64 0, .int .i64 0]) (t := 32) ?hr ?_; (case hd => rfl); (case hg => rfl); (case hr => first | (go_simp; done) | (go_simp; rfl)); intro gD hg w43 hbox hb; have c0_ := cp_ hb KA; have c1_ := cp_ hb KB; have c2_ := cp_ hb KC; have KD := Aside0.mk hbox; have GWD := ge_ hg (pb3 HB.out GEA.out GEB.out GEC.out); have GED := ge_ hg (pb3 HB.out GEA.out GEB.out GEC.out); have NAD := nl_ hg c0_; have NDA := ng_ hg c0_; have NBD := nl_ hg c1_; have NDB := ng_ hg c1_; have NCD := nl_ hg c2_; have NDC := ng_ hg c2_; replace KA := bb_ c0_ hb; replace KB := bb_ c1_ hb; replace KC := bb_ c2_ hb; replace HB := Aside0.mk (below_step (pb3 HB.out GEA.out GEB.out GEC.out) hb); clear c0_ c1_ c2_; clear hb hbox hg; have hnb44 := NDA.out; have hnc44 := NAD.out; have hnb45 := NDB.out; have hnc45 := NBD.out; have hnb46 := NDC.out; have hnc46 := NCD.out; have hcz47_0 := ci_ KD 0 (.int .i64 0); have hcz47_1 := ci_ KD 1 (.int .i64 0); have hcz47_2 := ci_ KD 2 (.int .i64 0); have hcz47_3 := ci_ KD 3 (.int .i64 0); have hfz47_0 := blk_frozen KD.out 0; have hfz47_1 := blk_frozen KD.out 1; have hfz47_2 := blk_frozen KD.out 2; have hfz47_3 := blk_frozen KD.out 3))
    have n0_ : Aside0 (((((w43.setCell ⟨gD, 0, none⟩ (.int .i64 t455)).setCell ⟨gD, 1, none⟩ (.int .i64 t456)).setCell ⟨gD, 2, none⟩ (.int .i64 t457)).setCell ⟨gD, 3, none⟩ (.int .i64 t458)).heap[gA]? = some (.cells #[.int .i64 t446, .int .i64 t447, .int .i64 t448, .int .i64 t449] 32 (0, 0))) := ⟨by refine pl ?_; refine blk_far ?_ NAD.out _; refine pl ?_; refine blk_far ?_ NAD.out _; refine pl ?_; refine blk_far ?_ NAD.out _; refine pl ?_; refine blk_far ?_ NAD.out _; refine pl ?_; exact KA.out⟩
    have n1_ : Aside0 (((((w43.setCell ⟨gD, 0, none⟩ (.int .i64 t455)).setCell ⟨gD, 1, none⟩ (.int .i64 t456)).setCell ⟨gD, 2, none⟩ (.int .i64 t457)).setCell ⟨gD, 3, none⟩ (.int .i64 t458)).heap[gB]? = some (.cells #[.int .i64 t450, .int .i64 t451, .int .i64 t452, .int .i64 t453] 32 (0, 0))) := ⟨by refine pl ?_; refine blk_far ?_ NBD.out _; refine pl ?_; refine blk_far ?_ NBD.out _; refine pl ?_; refine blk_far ?_ NBD.out _; refine pl ?_; refine blk_far ?_ NBD.out _; refine pl ?_; exact KB.out⟩
    have n2_ : Aside0 (((((w43.setCell ⟨gD, 0, none⟩ (.int .i64 t455)).setCell ⟨gD, 1, none⟩ (.int .i64 t456)).setCell ⟨gD, 2, none⟩ (.int .i64 t457)).setCell ⟨gD, 3, none⟩ (.int .i64 t458)).heap[gC]? = some (.cells #[.int .i64 0, .int .i64 0, .int .i64 0, .int .i64 0] 32 (0, 0))) := ⟨by refine pl ?_; refine blk_far ?_ NCD.out _; refine pl ?_; refine blk_far ?_ NCD.out _; refine pl ?_; refine blk_far ?_ NCD.out _; refine pl ?_; refine blk_far ?_ NCD.out _; refine pl ?_; exact KC.out⟩
    have n3_ : Aside0 (((((w43.setCell ⟨gD, 0, none⟩ (.int .i64 t455)).setCell ⟨gD, 1, none⟩ (.int .i64 t456)).setCell ⟨gD, 2, none⟩ (.int .i64 t457)).setCell ⟨gD, 3, none⟩ (.int .i64 t458)).heap[gD]? = some (.cells #[.int .i64 t455, .int .i64 t456, .int .i64 t457, .int .i64 t458] 32 (0, 0))) := ⟨by refine pl ?_; refine blk_put (cs := #[.int .i64 t455, .int .i64 t456, .int .i64 t457, .int .i64 0]) ?_ 3 _ rfl; refine pl ?_; refine blk_put (cs := #[.int .i64 t455, .int .i64 t456, .int .i64 0, .int .i64 0]) ?_ 2 _ rfl; refine pl ?_; refine blk_put (cs := #[.int .i64 t455, .int .i64 0, .int .i64 0, .int .i64 0]) ?_ 1 _ rfl; refine pl ?_; refine blk_put (cs := #[.int .i64 0, .int .i64 0, .int .i64 0, .int .i64 0]) ?_ 0 _ rfl; refine pl ?_; exact KD.out⟩
    have n4_ : Aside0 (Below w.heap.size w ((((w43.setCell ⟨gD, 0, none⟩ (.int .i64 t455)).setCell ⟨gD, 1, none⟩ (.int .i64 t456)).setCell ⟨gD, 2, none⟩ (.int .i64 t457)).setCell ⟨gD, 3, none⟩ (.int .i64 t458))) := ⟨by repeat (first | (with_reducible first | exact HB.out | apply below_alloc | apply pw_below_drewN | apply below_drew1 | refine below_set ?_ GEA.out | refine below_set ?_ GEB.out | refine below_set ?_ GEC.out | refine below_set ?_ GED.out) | exact HB.out)⟩
    (try clear KA)
    (try clear KB)
    (try clear KC)
    (try clear KD)
    (try clear HB)
    generalize ((((w43.setCell ⟨gD, 0, none⟩ (.int .i64 t455)).setCell ⟨gD, 1, none⟩ (.int .i64 t456)).setCell ⟨gD, 2, none⟩ (.int .i64 t457)).setCell ⟨gD, 3, none⟩ (.int .i64 t458)) = w48 at n0_ n1_ n2_ n3_ n4_ ⊢
    have KA := n0_
    have KB := n1_
    have KC := n2_
    have KD := n3_
    have HB := n4_
    clear n0_ n1_ n2_ n3_ n4_
    replace KA := Aside0.mk (blk_drew KA.out)
    replace KB := Aside0.mk (blk_drew KB.out)
    replace KC := Aside0.mk (blk_drew KC.out)
    replace KD := Aside0.mk (blk_drew KD.out)
    replace HB := Aside0.mk (below_drew1 HB.out)
    refine start_ (n := 40) (S := fun w' => w'.cell? ⟨gA, 0, none⟩ = some (.int .i64 t446) ∧ w'.cell? ⟨gA, 1, none⟩ = some (.int .i64 t447) ∧ w'.cell? ⟨gA, 2, none⟩ = some (.int .i64 t448) ∧ w'.cell? ⟨gA, 3, none⟩ = some (.int .i64 t449) ∧ w'.cell? ⟨gB, 0, none⟩ = some (.int .i64 t450) ∧ w'.cell? ⟨gB, 1, none⟩ = some (.int .i64 t451) ∧ w'.cell? ⟨gB, 2, none⟩ = some (.int .i64 t452) ∧ w'.cell? ⟨gB, 3, none⟩ = some (.int .i64 t453) ∧ w'.cell? ⟨gD, 0, none⟩ = some (.int .i64 t455) ∧ w'.cell? ⟨gD, 1, none⟩ = some (.int .i64 t456) ∧ w'.cell? ⟨gD, 2, none⟩ = some (.int .i64 t457) ∧ w'.cell? ⟨gD, 3, none⟩ = some (.int .i64 t458)) (ds := []) #[false, false, false, false, false, false, false, false, false, false, false, false, false, false, false, false, false, false, false, false, false, false, false, false, false, false, false, false, false, false, false, false, false, false, false, false, false, false, false, false] (by kernel_rfl) rfl rfl ⟨(blk_cell KA.out 0).trans rfl, (blk_cell KA.out 1).trans rfl, (blk_cell KA.out 2).trans rfl, (blk_cell KA.out 3).trans rfl, (blk_cell KB.out 0).trans rfl, (blk_cell KB.out 1).trans rfl, (blk_cell KB.out 2).trans rfl, (blk_cell KB.out 3).trans rfl, (blk_cell KD.out 0).trans rfl, (blk_cell KD.out 1).trans rfl, (blk_cell KD.out 2).trans rfl, (blk_cell KD.out 3).trans rfl⟩ (fun hHeld => ?_); refine with_tabW imageeditorref10_Over.tab6 imageeditorref10_Over.bits6 (fun HT_ HW_ => ?_)
    generalize w48.drew = w49 at KA KB KC KD HB hHeld ⊢
    refine pure_ (i := 0) (N := some 37) (v := ?_) (a' := ?_) #[true, false, false, false, false, false, false, false, false, false, false, false, false, false, false, false, false, false, false, false, false, false, false, false, false, false, false, false, false, false, false, false, false, false, false, false, false, false, false, false] rfl rfl (any_of HT_.out (by kernel_rfl)) (fun _ _ _ h => h) (Or.inl ⟨by rfl, ?_⟩) ?_ ?_
    rotate_left
    ·intro w'
     go_simp
     with_reducible rfl
    rotate_left
    ·refine ps ?_
     rfl
    refine pure_ (i := 2) (N := some 39) (v := ?_) (a' := ?_) #[true, false, true, false, false, false, false, false, false, false, false, false, false, false, false, false, false, false, false, false, false, false, false, false, false, false, false, false, false, false, false, false, false, false, false, false, false, false, false, false] rfl rfl (any_of HT_.out (by kernel_rfl)) (fun _ _ _ h => h) (Or.inl ⟨by rfl, ?_⟩) ?_ ?_
    rotate_left
    ·intro w'
     go_simp
     with_reducible rfl
    rotate_left
    ·refine ps ?_
     rfl
    refine pure_ (i := 4) (N := some 41) (v := ?_) (a' := ?_) #[true, false, true, false, true, false, false, false, false, false, false, false, false, false, false, false, false, false, false, false, false, false, false, false, false, false, false, false, false, false, false, false, false, false, false, false, false, false, false, false] rfl rfl (any_of HT_.out (by kernel_rfl)) (fun _ _ _ h => h) (Or.inl ⟨by rfl, ?_⟩) ?_ ?_
    rotate_left
    ·intro w'
     go_simp
     with_reducible rfl
    rotate_left
    ·refine ps ?_
     rfl
    refine pure_ (i := 6) (N := some 43) (v := ?_) (a' := ?_) #[true, false, true, false, true, false, true, false, false, false, false, false, false, false, false, false, false, false, false, false, false, false, false, false, false, false, false, false, false, false, false, false, false, false, false, false, false, false, false, false] rfl rfl (any_of HT_.out (by kernel_rfl)) (fun _ _ _ h => h) (Or.inl ⟨by rfl, ?_⟩) ?_ ?_
    rotate_left
    ·intro w'
     go_simp
     with_reducible rfl
    rotate_left
    ·refine ps ?_
     rfl
    refine pure_ (i := 8) (N := some 45) (v := ?_) (a' := ?_) #[true, false, true, false, true, false, true, false, true, false, false, false, false, false, false, false, false, false, false, false, false, false, false, false, false, false, false, false, false, false, false, false, false, false, false, false, false, false, false, false] rfl rfl (any_of HT_.out (by kernel_rfl)) (fun _ _ _ h => h) (Or.inl ⟨by rfl, ?_⟩) ?_ ?_
    rotate_left
    ·intro w'
     go_simp
     with_reducible rfl
    rotate_left
    ·refine ps ?_
     rfl
    refine pure_ (i := 10) (N := some 47) (v := ?_) (a' := ?_) #[true, false, true, false, true, false, true, false, true, false, true, false, false, false, false, false, false, false, false, false, false, false, false, false, false, false, false, false, false, false, false, false, false, false, false, false, false, false, false, false] rfl rfl (any_of HT_.out (by kernel_rfl)) (fun _ _ _ h => h) (Or.inl ⟨by rfl, ?_⟩) ?_ ?_
    rotate_left
    ·intro w'
     go_simp
     with_reducible rfl
    rotate_left
    ·refine ps ?_
     rfl
    refine pure_ (i := 12) (N := some 49) (v := ?_) (a' := ?_) #[true, false, true, false, true, false, true, false, true, false, true, false, true, false, false, false, false, false, false, false, false, false, false, false, false, false, false, false, false, false, false, false, false, false, false, false, false, false, false, false] rfl rfl (any_of HT_.out (by kernel_rfl)) (fun _ _ _ h => h) (Or.inl ⟨by rfl, ?_⟩) ?_ ?_
    rotate_left
    ·intro w'
     go_simp
     with_reducible rfl
    rotate_left
    ·refine ps ?_
     rfl
    refine pure_ (i := 14) (N := some 51) (v := ?_) (a' := ?_) #[true, false, true, false, true, false, true, false, true, false, true, false, true, false, true, false, false, false, false, false, false, false, false, false, false, false, false, false, false, false, false, false, false, false, false, false, false, false, false, false] rfl rfl (any_of HT_.out (by kernel_rfl)) (fun _ _ _ h => h) (Or.inl ⟨by rfl, ?_⟩) ?_ ?_
    rotate_left
    ·intro w'
     go_simp
     with_reducible rfl
    rotate_left
    ·refine ps ?_
     rfl
    refine pure_ (i := 16) (N := some 53) (v := ?_) (a' := ?_) #[true, false, true, false, true, false, true, false, true, false, true, false, true, false, true, false, true, false, false, false, false, false, false, false, false, false, false, false, false, false, false, false, false, false, false, false, false, false, false, false] rfl rfl (any_of HT_.out (by kernel_rfl)) (fun _ _ _ h => h) (Or.inl ⟨by rfl, ?_⟩) ?_ ?_
    rotate_left
    ·intro w'
     go_simp
     with_reducible rfl
    rotate_left
    ·refine ps ?_
     rfl
    refine pure_ (i := 18) (N := some 55) (v := ?_) (a' := ?_) #[true, false, true, false, true, false, true, false, true, false, true, false, true, false, true, false, true, false, true, false, false, false, false, false, false, false, false, false, false, false, false, false, false, false, false, false, false, false, false, false] rfl rfl (any_of HT_.out (by kernel_rfl)) (fun _ _ _ h => h) (Or.inl ⟨by rfl, ?_⟩) ?_ ?_
    rotate_left
    ·intro w'
     go_simp
     with_reducible rfl
    rotate_left
    ·refine ps ?_
     rfl
    refine pure_ (i := 20) (N := some 57) (v := ?_) (a' := ?_) #[true, false, true, false, true, false, true, false, true, false, true, false, true, false, true, false, true, false, true, false, true, false, false, false, false, false, false, false, false, false, false, false, false, false, false, false, false, false, false, false] rfl rfl (any_of HT_.out (by kernel_rfl)) (fun _ _ _ h => h) (Or.inl ⟨by rfl, ?_⟩) ?_ ?_
    rotate_left
    ·intro w'
     go_simp
     with_reducible rfl
    rotate_left
    ·refine ps ?_
     rfl
    refine pure_ (i := 22) (N := some 59) (v := ?_) (a' := ?_) #[true, false, true, false, true, false, true, false, true, false, true, false, true, false, true, false, true, false, true, false, true, false, true, false, false, false, false, false, false, false, false, false, false, false, false, false, false, false, false, false] rfl rfl (any_of HT_.out (by kernel_rfl)) (fun _ _ _ h => h) (Or.inl ⟨by rfl, ?_⟩) ?_ ?_
    rotate_left
    ·intro w'
     go_simp
     with_reducible rfl
    rotate_left
    ·refine ps ?_
     rfl
    refine pure_ (i := 24) (N := some 61) (v := ?_) (a' := ?_) #[true, false, true, false, true, false, true, false, true, false, true, false, true, false, true, false, true, false, true, false, true, false, true, false, true, false, false, false, false, false, false, false, false, false, false, false, false, false, false, false] rfl rfl (any_of HT_.out (by kernel_rfl)) (fun _ _ _ h => h) (Or.inl ⟨by rfl, ?_⟩) ?_ ?_
    rotate_left
    ·intro w'
     go_simp
     with_reducible rfl
    rotate_left
    ·refine ps ?_
     rfl
    refine pure_ (i := 26) (N := some 63) (v := ?_) (a' := ?_) #[true, false, true, false, true, false, true, false, true, false, true, false, true, false, true, false, true, false, true, false, true, false, true, false, true, false, true, false, false, false, false, false, false, false, false, false, false, false, false, false] rfl rfl (any_of HT_.out (by kernel_rfl)) (fun _ _ _ h => h) (Or.inl ⟨by rfl, ?_⟩) ?_ ?_
    rotate_left
    ·intro w'
     go_simp
     with_reducible rfl
    rotate_left
    ·refine ps ?_
     rfl
    refine pure_ (i := 28) (N := some 65) (v := ?_) (a' := ?_) #[true, false, true, false, true, false, true, false, true, false, true, false, true, false, true, false, true, false, true, false, true, false, true, false, true, false, true, false, true, false, false, false, false, false, false, false, false, false, false, false] rfl rfl (any_of HT_.out (by kernel_rfl)) (fun _ _ _ h => h) (Or.inl ⟨by rfl, ?_⟩) ?_ ?_
    rotate_left
    ·intro w'
     go_simp
     with_reducible rfl
    rotate_left
    ·refine ps ?_
     rfl
    refine pure_ (i := 30) (N := some 67) (v := ?_) (a' := ?_) #[true, false, true, false, true, false, true, false, true, false, true, false, true, false, true, false, true, false, true, false, true, false, true, false, true, false, true, false, true, false, true, false, false, false, false, false, false, false, false, false] rfl rfl (any_of HT_.out (by kernel_rfl)) (fun _ _ _ h => h) (Or.inl ⟨by rfl, ?_⟩) ?_ ?_
    rotate_left
    ·intro w'
     go_simp
     with_reducible rfl
    rotate_left
    ·refine ps ?_
     rfl
    refine pure_ (i := 32) (N := some 69) (v := ?_) (a' := ?_) #[true, false, true, false, true, false, true, false, true, false, true, false, true, false, true, false, true, false, true, false, true, false, true, false, true, false, true, false, true, false, true, false, true, false, false, false, false, false, false, false] rfl rfl (any_of HT_.out (by kernel_rfl)) (fun _ _ _ h => h) (Or.inl ⟨by rfl, ?_⟩) ?_ ?_
    rotate_left
    ·intro w'
     go_simp
     with_reducible rfl
    rotate_left
    ·refine ps ?_
     rfl
    refine pure_ (i := 34) (N := some 71) (v := ?_) (a' := ?_) #[true, false, true, false, true, false, true, false, true, false, true, false, true, false, true, false, true, false, true, false, true, false, true, false, true, false, true, false, true, false, true, false, true, false, true, false, false, false, false, false] rfl rfl (any_of HT_.out (by kernel_rfl)) (fun _ _ _ h => h) (Or.inl ⟨by rfl, ?_⟩) ?_ ?_
    rotate_left
    ·intro w'
     go_simp
     with_reducible rfl
    rotate_left
    ·refine ps ?_
     rfl
    refine pure_ (i := 36) (N := some 73) (v := ?_) (a' := ?_) #[true, false, true, false, true, false, true, false, true, false, true, false, true, false, true, false, true, false, true, false, true, false, true, false, true, false, true, false, true, false, true, false, true, false, true, false, true, false, false, false] rfl rfl (any_of HT_.out (by kernel_rfl)) (fun _ _ _ h => h) (Or.inl ⟨by rfl, ?_⟩) ?_ ?_
    rotate_left
    ·intro w'
     go_simp
     with_reducible rfl
    rotate_left
    ·refine ps ?_
     rfl
    refine take_ (i := 1) (N := some 38) (v := ?_) (a' := ?_) #[true, true, true, false, true, false, true, false, true, false, true, false, true, false, true, false, true, false, true, false, true, false, true, false, true, false, true, false, true, false, true, false, true, false, true, false, true, false, false, false] rfl rfl (take_ofW HT_.out HW_.out (by kernel_rfl)) (fun _ _ _ h => h) (Or.inl ⟨by rfl, ?_⟩) hHeld ?_ ?_
    rotate_left
    ·rintro w' ⟨s0, s1, s2, s3, s4, s5, s6, s7, s8, s9, s10, s11⟩
     go_simp
     with_reducible rfl
    rotate_left
    ·refine ps ?_
     rfl
    refine take_ (i := 3) (N := some 40) (v := ?_) (a' := ?_) #[true, true, true, true, true, false, true, false, true, false, true, false, true, false, true, false, true, false, true, false, true, false, true, false, true, false, true, false, true, false, true, false, true, false, true, false, true, false, false, false] rfl rfl (take_ofW HT_.out HW_.out (by kernel_rfl)) (fun _ _ _ h => h) (Or.inl ⟨by rfl, ?_⟩) hHeld ?_ ?_
    rotate_left
    ·rintro w' ⟨s0, s1, s2, s3, s4, s5, s6, s7, s8, s9, s10, s11⟩
     go_simp
     with_reducible rfl
    rotate_left
    ·refine ps ?_
     rfl
    refine take_ (i := 5) (N := some 42) (v := ?_) (a' := ?_) #[true, true, true, true, true, true, true, false, true, false, true, false, true, false, true, false, true, false, true, false, true, false, true, false, true, false, true, false, true, false, true, false, true, false, true, false, true, false, false, false] rfl rfl (take_ofW HT_.out HW_.out (by kernel_rfl)) (fun _ _ _ h => h) (Or.inl ⟨by rfl, ?_⟩) hHeld ?_ ?_
    rotate_left
    ·rintro w' ⟨s0, s1, s2, s3, s4, s5, s6, s7, s8, s9, s10, s11⟩
     go_simp
     with_reducible rfl
    rotate_left
    ·refine ps ?_
     rfl
    refine take_ (i := 7) (N := some 44) (v := ?_) (a' := ?_) #[true, true, true, true, true, true, true, true, true, false, true, false, true, false, true, false, true, false, true, false, true, false, true, false, true, false, true, false, true, false, true, false, true, false, true, false, true, false, false, false] rfl rfl (take_ofW HT_.out HW_.out (by kernel_rfl)) (fun _ _ _ h => h) (Or.inl ⟨by rfl, ?_⟩) hHeld ?_ ?_
    rotate_left
    ·rintro w' ⟨s0, s1, s2, s3, s4, s5, s6, s7, s8, s9, s10, s11⟩
     go_simp
     with_reducible rfl
    rotate_left
    ·refine ps ?_
     rfl
    refine take_ (i := 9) (N := some 46) (v := ?_) (a' := ?_) #[true, true, true, true, true, true, true, true, true, true, true, false, true, false, true, false, true, false, true, false, true, false, true, false, true, false, true, false, true, false, true, false, true, false, true, false, true, false, false, false] rfl rfl (take_ofW HT_.out HW_.out (by kernel_rfl)) (fun _ _ _ h => h) (Or.inl ⟨by rfl, ?_⟩) hHeld ?_ ?_
    rotate_left
    ·rintro w' ⟨s0, s1, s2, s3, s4, s5, s6, s7, s8, s9, s10, s11⟩
     go_simp
     with_reducible rfl
    rotate_left
    ·refine ps ?_
     rfl
    refine take_ (i := 13) (N := some 50) (v := ?_) (a' := ?_) #[true, true, true, true, true, true, true, true, true, true, true, false, true, true, true, false, true, false, true, false, true, false, true, false, true, false, true, false, true, false, true, false, true, false, true, false, true, false, false, false] rfl rfl (take_ofW HT_.out HW_.out (by kernel_rfl)) (fun _ _ _ h => h) (Or.inl ⟨by rfl, ?_⟩) hHeld ?_ ?_
    rotate_left
    ·rintro w' ⟨s0, s1, s2, s3, s4, s5, s6, s7, s8, s9, s10, s11⟩
     go_simp
     with_reducible rfl
    rotate_left
    ·refine ps ?_
     rfl
    refine take_ (i := 15) (N := some 52) (v := ?_) (a' := ?_) #[true, true, true, true, true, true, true, true, true, true, true, false, true, true, true, true, true, false, true, false, true, false, true, false, true, false, true, false, true, false, true, false, true, false, true, false, true, false, false, false] rfl rfl (take_ofW HT_.out HW_.out (by kernel_rfl)) (fun _ _ _ h => h) (Or.inl ⟨by rfl, ?_⟩) hHeld ?_ ?_
    rotate_left
    ·rintro w' ⟨s0, s1, s2, s3, s4, s5, s6, s7, s8, s9, s10, s11⟩
     go_simp
     with_reducible rfl
    rotate_left
    ·refine ps ?_
     rfl
    refine take_ (i := 17) (N := some 54) (v := ?_) (a' := ?_) #[true, true, true, true, true, true, true, true, true, true, true, false, true, true, true, true, true, true, true, false, true, false, true, false, true, false, true, false, true, false, true, false, true, false, true, false, true, false, false, false] rfl rfl (take_ofW HT_.out HW_.out (by kernel_rfl)) (fun _ _ _ h => h) (Or.inl ⟨by rfl, ?_⟩) hHeld ?_ ?_
    rotate_left
    ·rintro w' ⟨s0, s1, s2, s3, s4, s5, s6, s7, s8, s9, s10, s11⟩
     go_simp
     with_reducible rfl
    rotate_left
    ·refine ps ?_
     rfl
    refine take_ (i := 19) (N := some 56) (v := ?_) (a' := ?_) #[true, true, true, true, true, true, true, true, true, true, true, false, true, true, true, true, true, true, true, true, true, false, true, false, true, false, true, false, true, false, true, false, true, false, true, false, true, false, false, false] rfl rfl (take_ofW HT_.out HW_.out (by kernel_rfl)) (fun _ _ _ h => h) (Or.inl ⟨by rfl, ?_⟩) hHeld ?_ ?_
    rotate_left
    ·rintro w' ⟨s0, s1, s2, s3, s4, s5, s6, s7, s8, s9, s10, s11⟩
     go_simp
     with_reducible rfl
    rotate_left
    ·refine ps ?_
     rfl
    refine take_ (i := 21) (N := some 58) (v := ?_) (a' := ?_) #[true, true, true, true, true, true, true, true, true, true, true, false, true, true, true, true, true, true, true, true, true, true, true, false, true, false, true, false, true, false, true, false, true, false, true, false, true, false, false, false] rfl rfl (take_ofW HT_.out HW_.out (by kernel_rfl)) (fun _ _ _ h => h) (Or.inl ⟨by rfl, ?_⟩) hHeld ?_ ?_
    rotate_left
    ·rintro w' ⟨s0, s1, s2, s3, s4, s5, s6, s7, s8, s9, s10, s11⟩
     go_simp
     with_reducible rfl
    rotate_left
    ·refine ps ?_
     rfl
    refine take_ (i := 25) (N := some 62) (v := ?_) (a' := ?_) #[true, true, true, true, true, true, true, true, true, true, true, false, true, true, true, true, true, true, true, true, true, true, true, false, true, true, true, false, true, false, true, false, true, false, true, false, true, false, false, false] rfl rfl (take_ofW HT_.out HW_.out (by kernel_rfl)) (fun _ _ _ h => h) (Or.inl ⟨by rfl, ?_⟩) hHeld ?_ ?_
    rotate_left
    ·rintro w' ⟨s0, s1, s2, s3, s4, s5, s6, s7, s8, s9, s10, s11⟩
     go_simp
     with_reducible rfl
    rotate_left
    ·refine ps ?_
     rfl
    refine take_ (i := 27) (N := some 64) (v := ?_) (a' := ?_) #[true, true, true, true, true, true, true, true, true, true, true, false, true, true, true, true, true, true, true, true, true, true, true, false, true, true, true, true, true, false, true, false, true, false, true, false, true, false, false, false] rfl rfl (take_ofW HT_.out HW_.out (by kernel_rfl)) (fun _ _ _ h => h) (Or.inl ⟨by rfl, ?_⟩) hHeld ?_ ?_
    rotate_left
    ·rintro w' ⟨s0, s1, s2, s3, s4, s5, s6, s7, s8, s9, s10, s11⟩
     go_simp
     with_reducible rfl
    rotate_left
    ·refine ps ?_
     rfl
    refine take_ (i := 29) (N := some 66) (v := ?_) (a' := ?_) #[true, true, true, true, true, true, true, true, true, true, true, false, true, true, true, true, true, true, true, true, true, true, true, false, true, true, true, true, true, true, true, false, true, false, true, false, true, false, false, false] rfl rfl (take_ofW HT_.out HW_.out (by kernel_rfl)) (fun _ _ _ h => h) (Or.inl ⟨by rfl, ?_⟩) hHeld ?_ ?_
    rotate_left
    ·rintro w' ⟨s0, s1, s2, s3, s4, s5, s6, s7, s8, s9, s10, s11⟩
     go_simp
     with_reducible rfl
    rotate_left
    ·refine ps ?_
     rfl
    refine take_ (i := 31) (N := some 68) (v := ?_) (a' := ?_) #[true, true, true, true, true, true, true, true, true, true, true, false, true, true, true, true, true, true, true, true, true, true, true, false, true, true, true, true, true, true, true, true, true, false, true, false, true, false, false, false] rfl rfl (take_ofW HT_.out HW_.out (by kernel_rfl)) (fun _ _ _ h => h) (Or.inl ⟨by rfl, ?_⟩) hHeld ?_ ?_
    rotate_left
    ·rintro w' ⟨s0, s1, s2, s3, s4, s5, s6, s7, s8, s9, s10, s11⟩
     go_simp
     with_reducible rfl
    rotate_left
    ·refine ps ?_
     rfl
    refine take_ (i := 33) (N := some 70) (v := ?_) (a' := ?_) #[true, true, true, true, true, true, true, true, true, true, true, false, true, true, true, true, true, true, true, true, true, true, true, false, true, true, true, true, true, true, true, true, true, true, true, false, true, false, false, false] rfl rfl (take_ofW HT_.out HW_.out (by kernel_rfl)) (fun _ _ _ h => h) (Or.inl ⟨by rfl, ?_⟩) hHeld ?_ ?_
    rotate_left
    ·rintro w' ⟨s0, s1, s2, s3, s4, s5, s6, s7, s8, s9, s10, s11⟩
     go_simp
     with_reducible rfl
    rotate_left
    ·refine ps ?_
     rfl
    refine one_ (i := 11) (N := some 48) #[true, true, true, true, true, true, true, true, true, true, true, true, true, true, true, true, true, true, true, true, true, true, true, false, true, true, true, true, true, true, true, true, true, true, true, false, true, false, false, false] rfl rfl (one_of HT_.out (by kernel_rfl)) (by decide) (fun K hK => ?_)
    refine goes_ Try.func58 (by kernel_rfl) rfl #[.int .i64 t446, .int .i64 t450, .int .i64 t455, .int .i64 t449, .int .i64 t453, .int .i64 (wrap64 ((wrap64 (65535 * (wrap64 (t453 + t449)))) - (wrap64 (t453 * t449))))] (by rfl) rfl rfl pm ?_
    with_reducible refine (imageeditorref10_channel.calls kj5 t446 t450 t455 t449 t453 (wrap64 ((wrap64 (65535 * (wrap64 (t453 + t449)))) - (wrap64 (t453 * t449)))) t460 _ A33.out).mono ?_
    rintro e w' ⟨rfl, ⟨nd, rfl⟩⟩
    refine ⟨_, rfl, ?_⟩
    refine hK.out _ _ ⟨(blk_cell KA.out 0).trans rfl, (blk_cell KA.out 1).trans rfl, (blk_cell KA.out 2).trans rfl, (blk_cell KA.out 3).trans rfl, (blk_cell KB.out 0).trans rfl, (blk_cell KB.out 1).trans rfl, (blk_cell KB.out 2).trans rfl, (blk_cell KB.out 3).trans rfl, (blk_cell KD.out 0).trans rfl, (blk_cell KD.out 1).trans rfl, (blk_cell KD.out 2).trans rfl, (blk_cell KD.out 3).trans rfl⟩ (fun hHeld => ?_)
    clear hK K
    refine norm_ (a' := ?_) ?_ ?_
    rotate_left
    ·show Act.put _ (some 48) _ = _
     refine ps ?_
     rfl
    refine one_ (i := 23) (N := some 60) #[true, true, true, true, true, true, true, true, true, true, true, true, true, true, true, true, true, true, true, true, true, true, true, true, true, true, true, true, true, true, true, true, true, true, true, false, true, false, false, false] rfl rfl (one_of HT_.out (by kernel_rfl)) (by decide) (fun K hK => ?_)
    refine goes_ Try.func58 (by kernel_rfl) rfl #[.int .i64 t447, .int .i64 t451, .int .i64 t456, .int .i64 t449, .int .i64 t453, .int .i64 (wrap64 ((wrap64 (65535 * (wrap64 (t453 + t449)))) - (wrap64 (t453 * t449))))] (by rfl) rfl rfl pm ?_
    with_reducible refine (imageeditorref10_channel.calls kj5 t447 t451 t456 t449 t453 (wrap64 ((wrap64 (65535 * (wrap64 (t453 + t449)))) - (wrap64 (t453 * t449)))) t461 _ A34.out).mono ?_
    rintro e w' ⟨rfl, ⟨nd, rfl⟩⟩
    refine ⟨_, rfl, ?_⟩
    refine hK.out _ _ ⟨(blk_cell KA.out 0).trans rfl, (blk_cell KA.out 1).trans rfl, (blk_cell KA.out 2).trans rfl, (blk_cell KA.out 3).trans rfl, (blk_cell KB.out 0).trans rfl, (blk_cell KB.out 1).trans rfl, (blk_cell KB.out 2).trans rfl, (blk_cell KB.out 3).trans rfl, (blk_cell KD.out 0).trans rfl, (blk_cell KD.out 1).trans rfl, (blk_cell KD.out 2).trans rfl, (blk_cell KD.out 3).trans rfl⟩ (fun hHeld => ?_)
    clear hK K
    refine norm_ (a' := ?_) ?_ ?_
    rotate_left
    ·show Act.put _ (some 60) _ = _
     refine ps ?_
     rfl
    refine one_ (i := 35) (N := some 72) #[true, true, true, true, true, true, true, true, true, true, true, true, true, true, true, true, true, true, true, true, true, true, true, true, true, true, true, true, true, true, true, true, true, true, true, true, true, false, false, false] rfl rfl (one_of HT_.out (by kernel_rfl)) (by decide) (fun K hK => ?_)
    refine goes_ Try.func58 (by kernel_rfl) rfl #[.int .i64 t448, .int .i64 t452, .int .i64 t457, .int .i64 t449, .int .i64 t453, .int .i64 (wrap64 ((wrap64 (65535 * (wrap64 (t453 + t449)))) - (wrap64 (t453 * t449))))] (by rfl) rfl rfl pm ?_
    with_reducible refine (imageeditorref10_channel.calls kj5 t448 t452 t457 t449 t453 (wrap64 ((wrap64 (65535 * (wrap64 (t453 + t449)))) - (wrap64 (t453 * t449)))) t462 _ A35.out).mono ?_
    rintro e w' ⟨rfl, ⟨nd, rfl⟩⟩
    refine ⟨_, rfl, ?_⟩
    refine hK.out _ _ ⟨(blk_cell KA.out 0).trans rfl, (blk_cell KA.out 1).trans rfl, (blk_cell KA.out 2).trans rfl, (blk_cell KA.out 3).trans rfl, (blk_cell KB.out 0).trans rfl, (blk_cell KB.out 1).trans rfl, (blk_cell KB.out 2).trans rfl, (blk_cell KB.out 3).trans rfl, (blk_cell KD.out 0).trans rfl, (blk_cell KD.out 1).trans rfl, (blk_cell KD.out 2).trans rfl, (blk_cell KD.out 3).trans rfl⟩ (fun hHeld => ?_)
    clear hK K
    refine norm_ (a' := ?_) ?_ ?_
    rotate_left
    ·show Act.put _ (some 72) _ = _
     refine ps ?_
     rfl
    refine one_ (i := 37) (N := some 74) #[true, true, true, true, true, true, true, true, true, true, true, true, true, true, true, true, true, true, true, true, true, true, true, true, true, true, true, true, true, true, true, true, true, true, true, true, true, true, false, false] rfl rfl (one_of HT_.out (by kernel_rfl)) (by decide) (fun K hK => ?_)
    refine goes_ Try.func38 (by kernel_rfl) rfl #[.int .i64 (wrap64 ((wrap64 (65535 * (wrap64 (t453 + t449)))) - (wrap64 (t453 * t449)))), .int .i64 65535] (by rfl) rfl rfl pm ?_
    with_reducible refine (imageeditorref01_Div.calls kj5 (wrap64 ((wrap64 (65535 * (wrap64 (t453 + t449)))) - (wrap64 (t453 * t449)))) 65535 t463 _ A36.out).mono ?_
    rintro e w' ⟨rfl, ⟨nd, rfl⟩⟩
    refine ⟨_, rfl, ?_⟩
    refine hK.out _ _ ⟨(blk_cell KA.out 0).trans rfl, (blk_cell KA.out 1).trans rfl, (blk_cell KA.out 2).trans rfl, (blk_cell KA.out 3).trans rfl, (blk_cell KB.out 0).trans rfl, (blk_cell KB.out 1).trans rfl, (blk_cell KB.out 2).trans rfl, (blk_cell KB.out 3).trans rfl, (blk_cell KD.out 0).trans rfl, (blk_cell KD.out 1).trans rfl, (blk_cell KD.out 2).trans rfl, (blk_cell KD.out 3).trans rfl⟩ (fun hHeld => ?_)
    clear hK K
    refine norm_ (a' := ?_) ?_ ?_
    rotate_left
    ·show Act.put _ (some 74) _ = _
     refine ps ?_
     rfl
    refine pure_ (i := 38) (N := some 75) (v := ?_) (a' := ?_) #[true, true, true, true, true, true, true, true, true, true, true, true, true, true, true, true, true, true, true, true, true, true, true, true, true, true, true, true, true, true, true, true, true, true, true, true, true, true, true, false] rfl rfl (any_of HT_.out (by kernel_rfl)) (fun _ _ _ h => h) (Or.inl ⟨by rfl, ?_⟩) ?_ ?_
    rotate_left
    ·intro w'
     go_simp
     with_reducible rfl
    rotate_left
    ·refine ps ?_
     rfl
    refine one_ (i := 39) (N := none) #[true, true, true, true, true, true, true, true, true, true, true, true, true, true, true, true, true, true, true, true, true, true, true, true, true, true, true, true, true, true, true, true, true, true, true, true, true, true, true, true] rfl rfl (one_of HT_.out (by kernel_rfl)) (by decide) (fun K hK => ?_)
    have hs50 := ci_ KC 0 (.int .i64 0)
    have hfs50 := blk_frozen KC.out 0
    have hns50_0 := NAC.out
    have hns50_1 := NBC.out
    have hns50_3 := NDC.out
    have hms50_0 := NCA.out
    have hms50_1 := NCB.out
    have hms50_3 := NCD.out
    have hs51 := ci_ KC 1 (.int .i64 0)
    have hfs51 := blk_frozen KC.out 1
    have hns51_0 := NAC.out
    have hns51_1 := NBC.out
    have hns51_3 := NDC.out
    have hms51_0 := NCA.out
    have hms51_1 := NCB.out
    have hms51_3 := NCD.out
    have hs52 := ci_ KC 2 (.int .i64 0)
    have hfs52 := blk_frozen KC.out 2
    have hns52_0 := NAC.out
    have hns52_1 := NBC.out
    have hns52_3 := NDC.out
    have hms52_0 := NCA.out
    have hms52_1 := NCB.out
    have hms52_3 := NCD.out
    have hs53 := ci_ KC 3 (.int .i64 0)
    have hfs53 := blk_frozen KC.out 3
    have hns53_0 := NAC.out
    have hns53_1 := NBC.out
    have hns53_3 := NDC.out
    have hms53_0 := NCA.out
    have hms53_1 := NCB.out
    have hms53_3 := NCD.out
    refine skip_ (w1 := ?_) (by rfl) rfl ?_ ?_
    rotate_left
    ·go_simp
     rfl
    refine hK.out _ _ ⟨((cell_far (p := ⟨gC, _, none⟩) NAC.out _).trans (((cell_far (p := ⟨gC, _, none⟩) NAC.out _).trans (((cell_far (p := ⟨gC, _, none⟩) NAC.out _).trans (((cell_far (p := ⟨gC, _, none⟩) NAC.out _).trans (hHeld.1)))))))), ((cell_far (p := ⟨gC, _, none⟩) NAC.out _).trans (((cell_far (p := ⟨gC, _, none⟩) NAC.out _).trans (((cell_far (p := ⟨gC, _, none⟩) NAC.out _).trans (((cell_far (p := ⟨gC, _, none⟩) NAC.out _).trans (hHeld.2.1)))))))), ((cell_far (p := ⟨gC, _, none⟩) NAC.out _).trans (((cell_far (p := ⟨gC, _, none⟩) NAC.out _).trans (((cell_far (p := ⟨gC, _, none⟩) NAC.out _).trans (((cell_far (p := ⟨gC, _, none⟩) NAC.out _).trans (hHeld.2.2.1)))))))), ((cell_far (p := ⟨gC, _, none⟩) NAC.out _).trans (((cell_far (p := ⟨gC, _, none⟩) NAC.out _).trans (((cell_far (p := ⟨gC, _, none⟩) NAC.out _).trans (((cell_far (p := ⟨gC, _, none⟩) NAC.out _).trans (hHeld.2.2.2.1)))))))), ((cell_far (p := ⟨gC, _, none⟩) NBC.out _).trans (((cell_far (p := ⟨gC, _, none⟩) NBC.out _).trans (((cell_far (p := ⟨gC, _, none⟩) NBC.out _).trans (((cell_far (p := ⟨gC, _, none⟩) NBC.out _).trans (hHeld.2.2.2.2.1)))))))), ((cell_far (p := ⟨gC, _, none⟩) NBC.out _).trans (((cell_far (p := ⟨gC, _, none⟩) NBC.out _).trans (((cell_far (p := ⟨gC, _, none⟩) NBC.out _).trans (((cell_far (p := ⟨gC, _, none⟩) NBC.out _).trans (hHeld.2.2.2.2.2.1)))))))), ((cell_far (p := ⟨gC, _, none⟩) NBC.out _).trans (((cell_far (p := ⟨gC, _, none⟩) NBC.out _).trans (((cell_far (p := ⟨gC, _, none⟩) NBC.out _).trans (((cell_far (p := ⟨gC, _, none⟩) NBC.out _).trans (hHeld.2.2.2.2.2.2.1)))))))), ((cell_far (p := ⟨gC, _, none⟩) NBC.out _).trans (((cell_far (p := ⟨gC, _, none⟩) NBC.out _).trans (((cell_far (p := ⟨gC, _, none⟩) NBC.out _).trans (((cell_far (p := ⟨gC, _, none⟩) NBC.out _).trans (hHeld.2.2.2.2.2.2.2.1)))))))), ((cell_far (p := ⟨gC, _, none⟩) NDC.out _).trans (((cell_far (p := ⟨gC, _, none⟩) NDC.out _).trans (((cell_far (p := ⟨gC, _, none⟩) NDC.out _).trans (((cell_far (p := ⟨gC, _, none⟩) NDC.out _).trans (hHeld.2.2.2.2.2.2.2.2.1)))))))), ((cell_far (p := ⟨gC, _, none⟩) NDC.out _).trans (((cell_far (p := ⟨gC, _, none⟩) NDC.out _).trans (((cell_far (p := ⟨gC, _, none⟩) NDC.out _).trans (((cell_far (p := ⟨gC, _, none⟩) NDC.out _).trans (hHeld.2.2.2.2.2.2.2.2.2.1)))))))), ((cell_far (p := ⟨gC, _, none⟩) NDC.out _).trans (((cell_far (p := ⟨gC, _, none⟩) NDC.out _).trans (((cell_far (p := ⟨gC, _, none⟩) NDC.out _).trans (((cell_far (p := ⟨gC, _, none⟩) NDC.out _).trans (hHeld.2.2.2.2.2.2.2.2.2.2.1)))))))), ((cell_far (p := ⟨gC, _, none⟩) NDC.out _).trans (((cell_far (p := ⟨gC, _, none⟩) NDC.out _).trans (((cell_far (p := ⟨gC, _, none⟩) NDC.out _).trans (((cell_far (p := ⟨gC, _, none⟩) NDC.out _).trans (hHeld.2.2.2.2.2.2.2.2.2.2.2))))))))⟩ (fun hHeld => ?_)
    clear hK K
    refine done_ (done_of HT_.out (by kernel_rfl)) ?_
    try go_wp2
    refine bodyPost_ret (results_cell_row rfl _ _ gC 32 #[.int .i64 t460, .int .i64 t461, .int .i64 t462, .int .i64 t463] (0, 0) _ rfl (by refine pl ?_; refine blk_put (cs := #[.int .i64 t460, .int .i64 t461, .int .i64 t462, .int .i64 0]) ?_ 3 _ rfl; refine pl ?_; refine blk_put (cs := #[.int .i64 t460, .int .i64 t461, .int .i64 0, .int .i64 0]) ?_ 2 _ rfl; refine pl ?_; refine blk_put (cs := #[.int .i64 t460, .int .i64 0, .int .i64 0, .int .i64 0]) ?_ 1 _ rfl; refine pl ?_; refine blk_put (cs := #[.int .i64 0, .int .i64 0, .int .i64 0, .int .i64 0]) ?_ 0 _ rfl; refine pl ?_; exact KC.out) Try.underlying32 rfl (by kernel_rfl)) rfl ?_
    exact ⟨by first | rfl | (simp [errW_none, errW_some] <;> rfl) | (simp [*, errW_none, errW_some] <;> rfl), by repeat (first | (with_reducible first | exact HB.out | apply below_alloc | apply pw_below_drewN | apply below_drew1 | refine below_set ?_ GEA.out | refine below_set ?_ GEB.out | refine below_set ?_ GEC.out | refine below_set ?_ GED.out) | exact HB.out)⟩

/-! ### imageeditorref06_Valid: function 29 -/
def imageeditorref06_Valid.f (a0_0 : Int) (a0_1 : Int) (a0_2 : Int) (a0_3 : Int) : Option (Bool) := (imageeditorref06_Limit.f a0_0 a0_1 a0_2 a0_3).bind fun bt465 => (some (bt465.1 == a0_0 && (bt465.2.1 == a0_1 && (bt465.2.2.1 == a0_2 && (bt465.2.2.2 == a0_3)))))
set_option maxHeartbeats 8000000 in
set_option maxRecDepth 100000 in
theorem imageeditorref06_Valid.calls (a0_0 : Int) (a0_1 : Int) (a0_2 : Int) (a0_3 : Int) (r : Bool) (w : World) (h : imageeditorref06_Valid.f a0_0 a0_1 a0_2 a0_3 = some r) :
    Calls Try.prog 29 #[.agg #[.int .i64 a0_0, .int .i64 a0_1, .int .i64 a0_2, .int .i64 a0_3]] w fun e w' => e = .returned (.bool r) ∧ Below w.heap.size w w' := by
 have hu32 := Try.underlying32
 have HB := Aside0.mk (Below.refl w.heap.size w)
 have H : ((imageeditorref06_Limit.f a0_0 a0_1 a0_2 a0_3).bind fun bt465 => (some (bt465.1 == a0_0 && (bt465.2.1 == a0_1 && (bt465.2.2.1 == a0_2 && (bt465.2.2.2 == a0_3)))))) = some r := h
 clear h
 replace H := Option.bind_eq_some_iff.mp H
 obtain ⟨⟨t465, t466, t467, t468⟩, A20, H⟩ := H
 replace H : (some (t465 == a0_0 && (t466 == a0_1 && (t467 == a0_2 && (t468 == a0_3))))) = some r := H
 have A2 := Aside0.mk A20
 clear A20
 obtain rfl := Option.some.inj H
 go_enter Try.func29, Try.ntmps29
 try go_wp2_with (first | ((with_reducible refine gate_dst (N := 1) rfl ?_); refine box_event ?hg (N := 1) ?hd (cs := #[.int .i64 a0_0, .int .i64 a0_1, .int .i64 a0_2, .int .i64 a0_3]) (t := 32) ?hr ?_; (case hd => rfl); (case hg => rfl); (case hr => first | (go_simp; done) | (go_simp; rfl)); intro gA hg w3 hbox hb; have KA := Aside0.mk hbox; have GWA := ge_ hg (pb HB.out); have GEA := ge_ hg (pb HB.out); replace HB := Aside0.mk (below_step (pb HB.out) hb); clear hb hbox hg))
 replace KA := Aside0.mk (blk_drew KA.out)
 replace HB := Aside0.mk (below_drew1 HB.out)
 refine start_ (n := 5) (S := fun w' => w'.cell? ⟨gA, 0, none⟩ = some (.int .i64 a0_0) ∧ w'.cell? ⟨gA, 1, none⟩ = some (.int .i64 a0_1) ∧ w'.cell? ⟨gA, 2, none⟩ = some (.int .i64 a0_2) ∧ w'.cell? ⟨gA, 3, none⟩ = some (.int .i64 a0_3)) (ds := []) #[false, false, false, false, false] (by kernel_rfl) rfl rfl ⟨(blk_cell KA.out 0).trans rfl, (blk_cell KA.out 1).trans rfl, (blk_cell KA.out 2).trans rfl, (blk_cell KA.out 3).trans rfl⟩ (fun hHeld => ?_)
 generalize w3.drew = w4 at KA HB hHeld ⊢
 refine take_ (i := 0) (N := some 3) (v := ?_) (a' := ?_) #[true, false, false, false, false] rfl rfl (by kernel_rfl) (fun _ _ _ h => h) (Or.inl ⟨by rfl, ?_⟩) hHeld ?_ ?_
 rotate_left
 ·rintro w' ⟨s0, s1, s2, s3⟩
  go_simp
  with_reducible rfl
 rotate_left
 ·refine ps ?_
  rfl
 refine take_ (i := 2) (N := some 5) (v := ?_) (a' := ?_) #[true, false, true, false, false] rfl rfl (by kernel_rfl) (fun _ _ _ h => h) (Or.inl ⟨by rfl, ?_⟩) hHeld ?_ ?_
 rotate_left
 ·rintro w' ⟨s0, s1, s2, s3⟩
  go_simp
  with_reducible rfl
 rotate_left
 ·refine ps ?_
  rfl
 refine one_ (i := 1) (N := some 4) #[true, true, true, false, false] rfl rfl (by kernel_rfl) (by decide) (fun K hK => ?_)
 refine goes_ Try.func30 (by kernel_rfl) rfl #[.agg #[.int .i64 a0_0, .int .i64 a0_1, .int .i64 a0_2, .int .i64 a0_3]] (by rfl) rfl rfl pm ?_
 with_reducible refine (imageeditorref06_Limit.calls a0_0 a0_1 a0_2 a0_3 t465 t466 t467 t468 _ A2.out).mono ?_
 rintro e w5 ⟨rfl, hb⟩
 refine ⟨_, rfl, ?_⟩
 replace KA := bb_ KA hb
 replace HB := Aside0.mk (below_step HB.out hb)
 try clear hb
 refine hK.out _ _ ⟨(blk_cell KA.out 0).trans rfl, (blk_cell KA.out 1).trans rfl, (blk_cell KA.out 2).trans rfl, (blk_cell KA.out 3).trans rfl⟩ (fun hHeld => ?_)
 clear hK K
 refine norm_ (a' := ?_) ?_ ?_
 rotate_left
 ·show Act.put _ (some 4) _ = _
  refine ps ?_
  rfl
 refine pure_ (i := 3) (N := some 6) (v := ?_) (a' := ?_) #[true, true, true, true, false] rfl rfl (by kernel_rfl) (fun _ _ _ h => h) (Or.inl ⟨by rfl, ?_⟩) ?_ ?_
 rotate_left
 ·intro w'
  go_simp
  with_reducible rfl
 rotate_left
 ·refine ps ?_
  rfl
 refine pure_ (i := 4) (N := some 2) (v := ?_) (a' := ?_) #[true, true, true, true, true] rfl rfl (by kernel_rfl) (fun _ _ _ h => h) (Or.inl ⟨by rfl, ?_⟩) ?_ ?_
 rotate_left
 ·intro w'
  go_simp
  with_reducible rfl
 rotate_left
 ·refine ps ?_
  rfl
 refine done_ (by kernel_rfl) ?_
 try go_wp2
 go_ret
 exact ⟨by first | rfl | (simp [errW_none, errW_some] <;> rfl) | (simp [*, errW_none, errW_some] <;> rfl), pb1 HB.out GEA.out⟩

end Go.Proofs.Ytnijapaaickifaa.I
