-- Written for this claim by a program of this session (handprint.py) that drives the kit's print. Not trusted: Lean checks it.
import Derived.Test.YtnijapaaickifaaI0
import Derived.Test.YtnijapaaickifaaI16
import Derived.Test.YtnijapaaickifaaI19
import Derived.Test.YtnijapaaickifaaI20
namespace Go.Proofs.Ytnijapaaickifaa.I
open Go.RowKit Go.Proofs.YtnijapaaickifaaW.PrintWords Go.Proofs.YtnijapaaickifaaW.PrintLast
attribute [local go_sem] max2_int min2_int max_two min_two max_three min_three max_four min_four
set_option linter.unusedVariables false
set_option linter.unusedSimpArgs false

/-! ### imageeditorref10_Colors: function 25 -/
def imageeditorref10_Colors.j0 : Nat → Int → Int → Int → Int → Int → Int → Int → Int → Option (Int × Int × Int × Int)
  | 0, _, _, _, _, _, _, _, _ => none
  | k + 1, x0, x30, x413000, x413001, x413002, x414000, x414001, x414002 => if x30 = 14 then ((imageeditorref10_Sat.f x413000 x413001 x413002).bind fun t415 => ((imageeditorref10_SetSat.f k x414000 x414001 x414002 t415).bind fun bt416 => ((imageeditorref10_Lum.f k x413000 x413001 x413002).bind fun t419 => ((imageeditorref10_SetLum.f k bt416.1 bt416.2.1 bt416.2.2 t419).bind fun bt420 => (some (bt420.1, bt420.2.1, bt420.2.2, 65535)))))) else (if x30 = 15 then ((imageeditorref10_Sat.f x414000 x414001 x414002).bind fun t423 => ((imageeditorref10_SetSat.f k x413000 x413001 x413002 t423).bind fun bt424 => ((imageeditorref10_Lum.f k x413000 x413001 x413002).bind fun t427 => ((imageeditorref10_SetLum.f k bt424.1 bt424.2.1 bt424.2.2 t427).bind fun bt428 => (some (bt428.1, bt428.2.1, bt428.2.2, 65535)))))) else (if x30 = 16 then ((imageeditorref10_Lum.f k x413000 x413001 x413002).bind fun t431 => ((imageeditorref10_SetLum.f k x414000 x414001 x414002 t431).bind fun bt432 => (some (bt432.1, bt432.2.1, bt432.2.2, 65535)))) else (if x30 = 17 then ((imageeditorref10_Lum.f k x414000 x414001 x414002).bind fun t435 => ((imageeditorref10_SetLum.f k x413000 x413001 x413002 t435).bind fun bt436 => (some (bt436.1, bt436.2.1, bt436.2.2, 65535)))) else ((imageeditorref10_Channel.f k x0 x413000 x414000).bind fun t439 => ((imageeditorref10_Channel.f k x0 x413001 x414001).bind fun t440 => ((imageeditorref10_Channel.f k x0 x413002 x414002).bind fun t441 => (some (t439, t440, t441, 65535))))))))
def imageeditorref10_Colors.f (k : Nat) (a0 : Int) (a1_0 : Int) (a1_1 : Int) (a1_2 : Int) (a1_3 : Int) (a2_0 : Int) (a2_1 : Int) (a2_2 : Int) (a2_3 : Int) : Option (Int × Int × Int × Int) := (imageeditorref06_Limit.f a1_0 a1_1 a1_2 a1_3).bind fun bt404 => ((imageeditorref06_Limit.f a2_0 a2_1 a2_2 a2_3).bind fun bt408 => (imageeditorref10_Colors.j0 k a0 a0 bt404.1 bt404.2.1 bt404.2.2.1 bt408.1 bt408.2.1 bt408.2.2.1))
theorem imageeditorref10_Colors.mono_l : ∀ k, (∀ y0 y1 y2 y3 y4 y5 y6 y7, LeO (imageeditorref10_Colors.j0 k y0 y1 y2 y3 y4 y5 y6 y7) (imageeditorref10_Colors.j0 (k + 1) y0 y1 y2 y3 y4 y5 y6 y7))
  | 0 => fun _ _ _ _ _ _ _ _ r h => by simp [imageeditorref10_Colors.j0] at h
  | k + 1 => by
    have ih0 := imageeditorref10_Colors.mono_l k
    · intro y0 y1 y2 y3 y4 y5 y6 y7
      unfold imageeditorref10_Colors.j0
      repeat' first
      | (with_reducible exact ih0 _ _ _ _ _ _ _ _)
      | (with_reducible exact imageeditorref10_Channel.mono _ _ _ _)
      | (with_reducible exact imageeditorref10_Lum.mono _ _ _ _)
      | (with_reducible exact imageeditorref10_SetLum.mono _ _ _ _ _)
      | (with_reducible exact imageeditorref10_SetSat.mono _ _ _ _ _)
      | (with_reducible exact LeO.refl _)
      | (with_reducible exact LeO.none _)
      | (with_reducible refine LeO.ite ?_ ?_)
      | (with_reducible refine LeO.bind ?_ (fun _ => ?_))
      | exact ih0 _ _ _ _ _ _ _ _
      | exact imageeditorref10_Channel.mono _ _ _ _
      | exact imageeditorref10_Lum.mono _ _ _ _
      | exact imageeditorref10_SetLum.mono _ _ _ _ _
      | exact imageeditorref10_SetSat.mono _ _ _ _ _
      | exact LeO.none _
      | refine LeO.ite ?_ ?_
      | refine LeO.bind ?_ (fun _ => ?_)
theorem imageeditorref10_Colors.mono : ∀ a0 a1 a2 a3 a4 a5 a6 a7 a8 k, LeO (imageeditorref10_Colors.f k a0 a1 a2 a3 a4 a5 a6 a7 a8) (imageeditorref10_Colors.f (k + 1) a0 a1 a2 a3 a4 a5 a6 a7 a8) := by
  intro a0 a1 a2 a3 a4 a5 a6 a7 a8 k
  have ih0 := imageeditorref10_Colors.mono_l k
  unfold imageeditorref10_Colors.f
  repeat' first
      | (with_reducible exact ih0 _ _ _ _ _ _ _ _)
      | (with_reducible exact imageeditorref10_Channel.mono _ _ _ _)
      | (with_reducible exact imageeditorref10_Lum.mono _ _ _ _)
      | (with_reducible exact imageeditorref10_SetLum.mono _ _ _ _ _)
      | (with_reducible exact imageeditorref10_SetSat.mono _ _ _ _ _)
      | (with_reducible exact LeO.refl _)
      | (with_reducible exact LeO.none _)
      | (with_reducible refine LeO.ite ?_ ?_)
      | (with_reducible refine LeO.bind ?_ (fun _ => ?_))
      | exact ih0 _ _ _ _ _ _ _ _
      | exact imageeditorref10_Channel.mono _ _ _ _
      | exact imageeditorref10_Lum.mono _ _ _ _
      | exact imageeditorref10_SetLum.mono _ _ _ _ _
      | exact imageeditorref10_SetSat.mono _ _ _ _ _
      | exact LeO.none _
      | refine LeO.ite ?_ ?_
      | refine LeO.bind ?_ (fun _ => ?_)
def imageeditorref10_Colors.T2 : Bool × List (List Nat × List Nat) := (true, [([], []), ([0], [0]), ([], []), ([2], [2]), ([], []), ([4], [4]), ([1, 3, 5], [1, 3, 5]), ([], []), ([7], [7]), ([], []), ([9], [9]), ([], []), ([11], [11]), ([8, 10, 12], [8, 10, 12]), ([], []), ([], []), ([14, 6, 0, 1, 2, 3, 4, 5, 6, 14, 15], [6, 14]), ([15, 13, 16, 0, 1, 2, 3, 4, 5, 6, 7, 8, 9, 10, 11, 12, 13, 14, 15, 16], [13, 15])])
def imageeditorref10_Colors.B2 : List Nat := [0, 1, 0, 4, 0, 16, 63, 0, 128, 0, 512, 0, 2048, 8064, 0, 0, 49279, 131071]
theorem imageeditorref10_Colors.tab2 : rtab .any (opsOf Try.f25 2) = imageeditorref10_Colors.T2 := by kernel_rfl
theorem imageeditorref10_Colors.bits2 : waitsOk imageeditorref10_Colors.T2.2 imageeditorref10_Colors.B2 = true := by kernel_rfl
def imageeditorref10_Colors.T8 : Bool × List (List Nat × List Nat) := (true, [([], []), ([], []), ([], []), ([2], [2]), ([3], [3]), ([], []), ([5], [5]), ([6], [6]), ([1, 4, 7], [1, 4, 7]), ([0, 0, 1, 2, 3, 4, 5, 6, 7, 8], [0]), ([9, 8, 8, 0, 1, 2, 3, 4, 5, 6, 7, 8], [8, 9])])
def imageeditorref10_Colors.B8 : List Nat := [0, 0, 0, 4, 12, 0, 32, 96, 254, 511, 1023]
theorem imageeditorref10_Colors.tab8 : rtab .any (opsOf Try.f25 8) = imageeditorref10_Colors.T8 := by kernel_rfl
theorem imageeditorref10_Colors.bits8 : waitsOk imageeditorref10_Colors.T8.2 imageeditorref10_Colors.B8 = true := by kernel_rfl
def imageeditorref10_Colors.T10 : Bool × List (List Nat × List Nat) := (true, [([], []), ([], []), ([1], [1]), ([0, 2, 2], [0, 2]), ([], []), ([4, 3], [4]), ([3, 5, 5], [3, 5]), ([6, 6, 0, 1, 2, 3, 4, 5, 6], [6])])
def imageeditorref10_Colors.B10 : List Nat := [0, 0, 2, 7, 0, 31, 63, 127]
theorem imageeditorref10_Colors.tab10 : rtab .any (opsOf Try.f25 10) = imageeditorref10_Colors.T10 := by kernel_rfl
theorem imageeditorref10_Colors.bits10 : waitsOk imageeditorref10_Colors.T10.2 imageeditorref10_Colors.B10 = true := by kernel_rfl
def imageeditorref10_Colors.T12 : Bool × List (List Nat × List Nat) := (true, [([], []), ([], []), ([1], [1]), ([0, 2, 2], [0, 2]), ([], []), ([4, 3], [4]), ([3, 5, 5], [3, 5]), ([6, 6, 0, 1, 2, 3, 4, 5, 6], [6])])
def imageeditorref10_Colors.B12 : List Nat := [0, 0, 2, 7, 0, 31, 63, 127]
theorem imageeditorref10_Colors.tab12 : rtab .any (opsOf Try.f25 12) = imageeditorref10_Colors.T12 := by kernel_rfl
theorem imageeditorref10_Colors.bits12 : waitsOk imageeditorref10_Colors.T12.2 imageeditorref10_Colors.B12 = true := by kernel_rfl
set_option maxHeartbeats 8000000 in
set_option maxRecDepth 100000 in
theorem imageeditorref10_Colors.calls (k : Nat) (a0 : Int) (a1_0 : Int) (a1_1 : Int) (a1_2 : Int) (a1_3 : Int) (a2_0 : Int) (a2_1 : Int) (a2_2 : Int) (a2_3 : Int) (r1 : Int) (r2 : Int) (r3 : Int) (r4 : Int) (w : World) (h : imageeditorref10_Colors.f k a0 a1_0 a1_1 a1_2 a1_3 a2_0 a2_1 a2_2 a2_3 = some (r1, r2, r3, r4)) :
    Calls Try.prog 25 #[.int .i64 a0, .agg #[.int .i64 a1_0, .int .i64 a1_1, .int .i64 a1_2, .int .i64 a1_3], .agg #[.int .i64 a2_0, .int .i64 a2_1, .int .i64 a2_2, .int .i64 a2_3]] w fun e w' => e = .returned (.agg #[.int .i64 r1, .int .i64 r2, .int .i64 r3, .int .i64 r4]) ∧ Below w.heap.size w w' := by
 have hu32 := Try.underlying32
 have hu56 := Try.underlying56
 have HB := Aside0.mk (Below.refl w.heap.size w)
 have H : ((imageeditorref06_Limit.f a1_0 a1_1 a1_2 a1_3).bind fun bt404 => ((imageeditorref06_Limit.f a2_0 a2_1 a2_2 a2_3).bind fun bt408 => (imageeditorref10_Colors.j0 k a0 a0 bt404.1 bt404.2.1 bt404.2.2.1 bt408.1 bt408.2.1 bt408.2.2.1))) = some (r1, r2, r3, r4) := h
 clear h
 replace H := Option.bind_eq_some_iff.mp H
 obtain ⟨⟨t404, t405, t406, t407⟩, A40, H⟩ := H
 replace H : ((imageeditorref06_Limit.f a2_0 a2_1 a2_2 a2_3).bind fun bt408 => (imageeditorref10_Colors.j0 k a0 a0 t404 t405 t406 bt408.1 bt408.2.1 bt408.2.2.1)) = some (r1, r2, r3, r4) := H
 have A4 := Aside0.mk A40
 clear A40
 replace H := Option.bind_eq_some_iff.mp H
 obtain ⟨⟨t408, t409, t410, t411⟩, A50, H⟩ := H
 replace H : (imageeditorref10_Colors.j0 k a0 a0 t404 t405 t406 t408 t409 t410) = some (r1, r2, r3, r4) := H
 have A5 := Aside0.mk A50
 clear A50
 have HC6 := Aside0.mk H
 clear H
 go_enter Try.func25, Try.ntmps25
 try go_wp2_with (first | ((with_reducible refine gate_dst (N := 4) rfl ?_); refine box_event ?hg (N := 4) ?hd (cs := #[.int .i64 a1_0, .int .i64 a1_1, .int .i64 a1_2, .int .i64 a1_3]) (t := 32) ?hr ?_; (case hd => rfl); (case hg => rfl); (case hr => first | (go_simp; done) | (go_simp; rfl)); intro gA hg w7 hbox hb; have KA := Aside0.mk hbox; have GWA := ge_ hg (pb HB.out); have GEA := ge_ hg (pb HB.out); replace HB := Aside0.mk (below_step (pb HB.out) hb); clear hb hbox hg) | ((with_reducible refine gate_dst (N := 5) rfl ?_); refine box_event ?hg (N := 5) ?hd (cs := #[.int .i64 a2_0, .int .i64 a2_1, .int .i64 a2_2, .int .i64 a2_3]) (t := 32) ?hr ?_; (case hd => rfl); (case hg => rfl); (case hr => first | (go_simp; done) | (go_simp; rfl)); intro gB hg w8 hbox hb; have c0_ := cp_ hb KA; have KB := Aside0.mk hbox; have GWB := ge_ hg (pb1 HB.out GEA.out); have GEB := ge_ hg (pb1 HB.out GEA.out); have NAB := nl_ hg c0_; have NBA := ng_ hg c0_; replace KA := bb_ c0_ hb; replace HB := Aside0.mk (below_step (pb1 HB.out GEA.out) hb); clear c0_; clear hb hbox hg) | ((with_reducible refine gate_dst (N := 6) rfl ?_); refine box_event ?hg (N := 6) ?hd (cs := #[.int .i64 0, .int .i64 0, .int .i64 0, .int .i64 0]) (t := 32) ?hr ?_; (case hd => rfl); (case hg => rfl); (case hr => first | (go_simp; done) | (go_simp; rfl)); intro gC hg w9 hbox hb; have c0_ := cp_ hb KA; have c1_ := cp_ hb KB; have KC := Aside0.mk hbox; have GWC := ge_ hg (pb2 HB.out GEA.out GEB.out); have GEC := ge_ hg (pb2 HB.out GEA.out GEB.out); have NAC := nl_ hg c0_; have NCA := ng_ hg c0_; have NBC := nl_ hg c1_; have NCB := ng_ hg c1_; replace KA := bb_ c0_ hb; replace KB := bb_ c1_ hb; replace HB := Aside0.mk (below_step (pb2 HB.out GEA.out GEB.out) hb); clear c0_ c1_; clear hb hbox hg))
 replace KA := Aside0.mk (blk_drew KA.out)
 replace KB := Aside0.mk (blk_drew KB.out)
 replace KC := Aside0.mk (blk_drew KC.out)
 replace HB := Aside0.mk (below_drew1 HB.out)
 refine start_ (n := 6) (S := fun w' => w'.cell? ⟨gA, 0, none⟩ = some (.int .i64 a1_0) ∧ w'.cell? ⟨gA, 1, none⟩ = some (.int .i64 a1_1) ∧ w'.cell? ⟨gA, 2, none⟩ = some (.int .i64 a1_2) ∧ w'.cell? ⟨gA, 3, none⟩ = some (.int .i64 a1_3) ∧ w'.cell? ⟨gB, 0, none⟩ = some (.int .i64 a2_0) ∧ w'.cell? ⟨gB, 1, none⟩ = some (.int .i64 a2_1) ∧ w'.cell? ⟨gB, 2, none⟩ = some (.int .i64 a2_2) ∧ w'.cell? ⟨gB, 3, none⟩ = some (.int .i64 a2_3)) (ds := [4, 5]) #[false, false, false, false, false, false] (by kernel_rfl) rfl rfl ⟨(blk_cell KA.out 0).trans rfl, (blk_cell KA.out 1).trans rfl, (blk_cell KA.out 2).trans rfl, (blk_cell KA.out 3).trans rfl, (blk_cell KB.out 0).trans rfl, (blk_cell KB.out 1).trans rfl, (blk_cell KB.out 2).trans rfl, (blk_cell KB.out 3).trans rfl⟩ (fun hHeld => ?_)
 generalize w9.drew = w10 at KA KB KC HB hHeld ⊢
 refine take_ (i := 0) (N := some 11) (v := ?_) (a' := ?_) #[true, false, false, false, false, false] rfl rfl (by kernel_rfl) (fun _ _ _ h => h) (Or.inl ⟨by rfl, ?_⟩) hHeld ?_ ?_
 rotate_left
 ·rintro w' ⟨s0, s1, s2, s3, s4, s5, s6, s7⟩
  go_simp
  with_reducible rfl
 rotate_left
 ·refine ps ?_
  rfl
 refine take_ (i := 2) (N := some 13) (v := ?_) (a' := ?_) #[true, false, true, false, false, false] rfl rfl (by kernel_rfl) (fun _ _ _ h => h) (Or.inl ⟨by rfl, ?_⟩) hHeld ?_ ?_
 rotate_left
 ·rintro w' ⟨s0, s1, s2, s3, s4, s5, s6, s7⟩
  go_simp
  with_reducible rfl
 rotate_left
 ·refine ps ?_
  rfl
 refine one_ (i := 1) (N := some 12) #[true, true, true, false, false, false] rfl rfl (by kernel_rfl) (by decide) (fun K hK => ?_)
 refine goes_ Try.func30 (by kernel_rfl) rfl #[.agg #[.int .i64 a1_0, .int .i64 a1_1, .int .i64 a1_2, .int .i64 a1_3]] (by rfl) rfl rfl pm ?_
 with_reducible refine (imageeditorref06_Limit.calls a1_0 a1_1 a1_2 a1_3 t404 t405 t406 t407 _ A4.out).mono ?_
 rintro e w11 ⟨rfl, hb⟩
 refine ⟨_, rfl, ?_⟩
 replace KA := bb_ KA hb
 replace KB := bb_ KB hb
 replace KC := bb_ KC hb
 replace HB := Aside0.mk (below_step HB.out hb)
 try clear hb
 refine hK.out _ _ ⟨(blk_cell KA.out 0).trans rfl, (blk_cell KA.out 1).trans rfl, (blk_cell KA.out 2).trans rfl, (blk_cell KA.out 3).trans rfl, (blk_cell KB.out 0).trans rfl, (blk_cell KB.out 1).trans rfl, (blk_cell KB.out 2).trans rfl, (blk_cell KB.out 3).trans rfl⟩ (fun hHeld => ?_)
 clear hK K
 refine norm_ (a' := ?_) ?_ ?_
 rotate_left
 ·show Act.put _ (some 12) _ = _
  refine ps ?_
  rfl
 refine one_ (i := 3) (N := some 14) #[true, true, true, true, false, false] rfl rfl (by kernel_rfl) (by decide) (fun K hK => ?_)
 refine goes_ Try.func30 (by kernel_rfl) rfl #[.agg #[.int .i64 a2_0, .int .i64 a2_1, .int .i64 a2_2, .int .i64 a2_3]] (by rfl) rfl rfl pm ?_
 with_reducible refine (imageeditorref06_Limit.calls a2_0 a2_1 a2_2 a2_3 t408 t409 t410 t411 _ A5.out).mono ?_
 rintro e w12 ⟨rfl, hb⟩
 refine ⟨_, rfl, ?_⟩
 replace KA := bb_ KA hb
 replace KB := bb_ KB hb
 replace KC := bb_ KC hb
 replace HB := Aside0.mk (below_step HB.out hb)
 try clear hb
 refine hK.out _ _ ⟨(blk_cell KA.out 0).trans rfl, (blk_cell KA.out 1).trans rfl, (blk_cell KA.out 2).trans rfl, (blk_cell KA.out 3).trans rfl, (blk_cell KB.out 0).trans rfl, (blk_cell KB.out 1).trans rfl, (blk_cell KB.out 2).trans rfl, (blk_cell KB.out 3).trans rfl⟩ (fun hHeld => ?_)
 clear hK K
 refine norm_ (a' := ?_) ?_ ?_
 rotate_left
 ·show Act.put _ (some 14) _ = _
  refine ps ?_
  rfl
 refine last_ (i := 4) (N := none) #[true, true, true, true, true, false] rfl rfl (by kernel_rfl) (by decide) (fun K hK => ?_)
 have hs13 := ci_ KA 0 (.int .i64 a1_0)
 have hfs13 := blk_frozen KA.out 0
 have hns13_1 := NBA.out
 have hns13_2 := NCA.out
 have hms13_1 := NAB.out
 have hms13_2 := NAC.out
 have hs14 := ci_ KA 1 (.int .i64 a1_1)
 have hfs14 := blk_frozen KA.out 1
 have hns14_1 := NBA.out
 have hns14_2 := NCA.out
 have hms14_1 := NAB.out
 have hms14_2 := NAC.out
 have hs15 := ci_ KA 2 (.int .i64 a1_2)
 have hfs15 := blk_frozen KA.out 2
 have hns15_1 := NBA.out
 have hns15_2 := NCA.out
 have hms15_1 := NAB.out
 have hms15_2 := NAC.out
 have hs16 := ci_ KA 3 (.int .i64 a1_3)
 have hfs16 := blk_frozen KA.out 3
 have hns16_1 := NBA.out
 have hns16_2 := NCA.out
 have hms16_1 := NAB.out
 have hms16_2 := NAC.out
 refine skip_ (w1 := ?_) (by rfl) rfl ?_ ?_
 rotate_left
 ·go_simp
  rfl
 refine hK.out _ _ ?_
 clear hK K
 refine last_ (i := 5) (N := none) #[true, true, true, true, true, true] rfl rfl (by kernel_rfl) (by decide) (fun K hK => ?_)
 have hs17 := ci_ KB 0 (.int .i64 a2_0)
 have hfs17 := blk_frozen KB.out 0
 have hns17_0 := NAB.out
 have hns17_2 := NCB.out
 have hms17_0 := NBA.out
 have hms17_2 := NBC.out
 have hs18 := ci_ KB 1 (.int .i64 a2_1)
 have hfs18 := blk_frozen KB.out 1
 have hns18_0 := NAB.out
 have hns18_2 := NCB.out
 have hms18_0 := NBA.out
 have hms18_2 := NBC.out
 have hs19 := ci_ KB 2 (.int .i64 a2_2)
 have hfs19 := blk_frozen KB.out 2
 have hns19_0 := NAB.out
 have hns19_2 := NCB.out
 have hms19_0 := NBA.out
 have hms19_2 := NBC.out
 have hs20 := ci_ KB 3 (.int .i64 a2_3)
 have hfs20 := blk_frozen KB.out 3
 have hns20_0 := NAB.out
 have hns20_2 := NCB.out
 have hms20_0 := NBA.out
 have hms20_2 := NBC.out
 refine skip_ (w1 := ?_) (by rfl) rfl ?_ ?_
 rotate_left
 ·go_simp
  rfl
 refine hK.out _ _ ?_
 clear hK K
 refine done_ (by kernel_rfl) ?_
 try go_wp2
 have n0_ : Aside0 (((((((((w12.setCell ⟨gA, 0, none⟩ (.int .i64 t404)).setCell ⟨gA, 1, none⟩ (.int .i64 t405)).setCell ⟨gA, 2, none⟩ (.int .i64 t406)).setCell ⟨gA, 3, none⟩ (.int .i64 t407)).setCell ⟨gB, 0, none⟩ (.int .i64 t408)).setCell ⟨gB, 1, none⟩ (.int .i64 t409)).setCell ⟨gB, 2, none⟩ (.int .i64 t410)).setCell ⟨gB, 3, none⟩ (.int .i64 t411)).heap[gA]? = some (.cells #[.int .i64 t404, .int .i64 t405, .int .i64 t406, .int .i64 t407] 32 (0, 0))) := ⟨by refine pl ?_; refine blk_far ?_ NAB.out _; refine pl ?_; refine blk_far ?_ NAB.out _; refine pl ?_; refine blk_far ?_ NAB.out _; refine pl ?_; refine blk_far ?_ NAB.out _; refine pl ?_; refine blk_put (cs := #[.int .i64 t404, .int .i64 t405, .int .i64 t406, .int .i64 a1_3]) ?_ 3 _ rfl; refine pl ?_; refine blk_put (cs := #[.int .i64 t404, .int .i64 t405, .int .i64 a1_2, .int .i64 a1_3]) ?_ 2 _ rfl; refine pl ?_; refine blk_put (cs := #[.int .i64 t404, .int .i64 a1_1, .int .i64 a1_2, .int .i64 a1_3]) ?_ 1 _ rfl; refine pl ?_; refine blk_put (cs := #[.int .i64 a1_0, .int .i64 a1_1, .int .i64 a1_2, .int .i64 a1_3]) ?_ 0 _ rfl; refine pl ?_; exact KA.out⟩
 have n1_ : Aside0 (((((((((w12.setCell ⟨gA, 0, none⟩ (.int .i64 t404)).setCell ⟨gA, 1, none⟩ (.int .i64 t405)).setCell ⟨gA, 2, none⟩ (.int .i64 t406)).setCell ⟨gA, 3, none⟩ (.int .i64 t407)).setCell ⟨gB, 0, none⟩ (.int .i64 t408)).setCell ⟨gB, 1, none⟩ (.int .i64 t409)).setCell ⟨gB, 2, none⟩ (.int .i64 t410)).setCell ⟨gB, 3, none⟩ (.int .i64 t411)).heap[gB]? = some (.cells #[.int .i64 t408, .int .i64 t409, .int .i64 t410, .int .i64 t411] 32 (0, 0))) := ⟨by refine pl ?_; refine blk_put (cs := #[.int .i64 t408, .int .i64 t409, .int .i64 t410, .int .i64 a2_3]) ?_ 3 _ rfl; refine pl ?_; refine blk_put (cs := #[.int .i64 t408, .int .i64 t409, .int .i64 a2_2, .int .i64 a2_3]) ?_ 2 _ rfl; refine pl ?_; refine blk_put (cs := #[.int .i64 t408, .int .i64 a2_1, .int .i64 a2_2, .int .i64 a2_3]) ?_ 1 _ rfl; refine pl ?_; refine blk_put (cs := #[.int .i64 a2_0, .int .i64 a2_1, .int .i64 a2_2, .int .i64 a2_3]) ?_ 0 _ rfl; refine pl ?_; refine blk_far ?_ NBA.out _; refine pl ?_; refine blk_far ?_ NBA.out _; refine pl ?_; refine blk_far ?_ NBA.out _; refine pl ?_; refine blk_far ?_ NBA.out _; refine pl ?_; exact KB.out⟩
 have n2_ : Aside0 (((((((((w12.setCell ⟨gA, 0, none⟩ (.int .i64 t404)).setCell ⟨gA, 1, none⟩ (.int .i64 t405)).setCell ⟨gA, 2, none⟩ (.int .i64 t406)).setCell ⟨gA, 3, none⟩ (.int .i64 t407)).setCell ⟨gB, 0, none⟩ (.int .i64 t408)).setCell ⟨gB, 1, none⟩ (.int .i64 t409)).setCell ⟨gB, 2, none⟩ (.int .i64 t410)).setCell ⟨gB, 3, none⟩ (.int .i64 t411)).heap[gC]? = some (.cells #[.int .i64 0, .int .i64 0, .int .i64 0, .int .i64 0] 32 (0, 0))) := ⟨by refine pl ?_; refine blk_far ?_ NCB.out _; refine pl ?_; refine blk_far ?_ NCB.out _; refine pl ?_; refine blk_far ?_ NCB.out _; refine pl ?_; refine blk_far ?_ NCB.out _; refine pl ?_; refine blk_far ?_ NCA.out _; refine pl ?_; refine blk_far ?_ NCA.out _; refine pl ?_; refine blk_far ?_ NCA.out _; refine pl ?_; refine blk_far ?_ NCA.out _; refine pl ?_; exact KC.out⟩
 have n3_ : Aside0 (Below w.heap.size w ((((((((w12.setCell ⟨gA, 0, none⟩ (.int .i64 t404)).setCell ⟨gA, 1, none⟩ (.int .i64 t405)).setCell ⟨gA, 2, none⟩ (.int .i64 t406)).setCell ⟨gA, 3, none⟩ (.int .i64 t407)).setCell ⟨gB, 0, none⟩ (.int .i64 t408)).setCell ⟨gB, 1, none⟩ (.int .i64 t409)).setCell ⟨gB, 2, none⟩ (.int .i64 t410)).setCell ⟨gB, 3, none⟩ (.int .i64 t411))) := ⟨pb3 HB.out GEA.out GEB.out GEC.out⟩
 (try clear KA)
 (try clear KB)
 (try clear KC)
 (try clear HB)
 generalize ((((((((w12.setCell ⟨gA, 0, none⟩ (.int .i64 t404)).setCell ⟨gA, 1, none⟩ (.int .i64 t405)).setCell ⟨gA, 2, none⟩ (.int .i64 t406)).setCell ⟨gA, 3, none⟩ (.int .i64 t407)).setCell ⟨gB, 0, none⟩ (.int .i64 t408)).setCell ⟨gB, 1, none⟩ (.int .i64 t409)).setCell ⟨gB, 2, none⟩ (.int .i64 t410)).setCell ⟨gB, 3, none⟩ (.int .i64 t411)) = w21 at n0_ n1_ n2_ n3_ ⊢
 have KA := n0_
 have KB := n1_
 have KC := n2_
 have HB := n3_
 clear n0_ n1_ n2_ n3_
 replace KA := Aside0.mk (blk_drew KA.out)
 replace KB := Aside0.mk (blk_drew KB.out)
 replace KC := Aside0.mk (blk_drew KC.out)
 replace HB := Aside0.mk (below_drew1 HB.out)
 refine start_ (n := 18) (S := fun w' => w'.cell? ⟨gA, 0, none⟩ = some (.int .i64 t404) ∧ w'.cell? ⟨gA, 1, none⟩ = some (.int .i64 t405) ∧ w'.cell? ⟨gA, 2, none⟩ = some (.int .i64 t406) ∧ w'.cell? ⟨gA, 3, none⟩ = some (.int .i64 t407) ∧ w'.cell? ⟨gB, 0, none⟩ = some (.int .i64 t408) ∧ w'.cell? ⟨gB, 1, none⟩ = some (.int .i64 t409) ∧ w'.cell? ⟨gB, 2, none⟩ = some (.int .i64 t410) ∧ w'.cell? ⟨gB, 3, none⟩ = some (.int .i64 t411)) (ds := []) #[false, false, false, false, false, false, false, false, false, false, false, false, false, false, false, false, false, false] (by kernel_rfl) rfl rfl ⟨(blk_cell KA.out 0).trans rfl, (blk_cell KA.out 1).trans rfl, (blk_cell KA.out 2).trans rfl, (blk_cell KA.out 3).trans rfl, (blk_cell KB.out 0).trans rfl, (blk_cell KB.out 1).trans rfl, (blk_cell KB.out 2).trans rfl, (blk_cell KB.out 3).trans rfl⟩ (fun hHeld => ?_); refine with_tabW imageeditorref10_Colors.tab2 imageeditorref10_Colors.bits2 (fun HT_ HW_ => ?_)
 generalize w21.drew = w22 at KA KB KC HB hHeld ⊢
 refine pure_ (i := 0) (N := some 15) (v := ?_) (a' := ?_) #[true, false, false, false, false, false, false, false, false, false, false, false, false, false, false, false, false, false] rfl rfl (any_of HT_.out (by kernel_rfl)) (fun _ _ _ h => h) (Or.inl ⟨by rfl, ?_⟩) ?_ ?_
 rotate_left
 ·intro w'
  go_simp
  with_reducible rfl
 rotate_left
 ·refine ps ?_
  rfl
 refine pure_ (i := 2) (N := some 17) (v := ?_) (a' := ?_) #[true, false, true, false, false, false, false, false, false, false, false, false, false, false, false, false, false, false] rfl rfl (any_of HT_.out (by kernel_rfl)) (fun _ _ _ h => h) (Or.inl ⟨by rfl, ?_⟩) ?_ ?_
 rotate_left
 ·intro w'
  go_simp
  with_reducible rfl
 rotate_left
 ·refine ps ?_
  rfl
 refine pure_ (i := 4) (N := some 19) (v := ?_) (a' := ?_) #[true, false, true, false, true, false, false, false, false, false, false, false, false, false, false, false, false, false] rfl rfl (any_of HT_.out (by kernel_rfl)) (fun _ _ _ h => h) (Or.inl ⟨by rfl, ?_⟩) ?_ ?_
 rotate_left
 ·intro w'
  go_simp
  with_reducible rfl
 rotate_left
 ·refine ps ?_
  rfl
 refine pure_ (i := 7) (N := some 22) (v := ?_) (a' := ?_) #[true, false, true, false, true, false, false, true, false, false, false, false, false, false, false, false, false, false] rfl rfl (any_of HT_.out (by kernel_rfl)) (fun _ _ _ h => h) (Or.inl ⟨by rfl, ?_⟩) ?_ ?_
 rotate_left
 ·intro w'
  go_simp
  with_reducible rfl
 rotate_left
 ·refine ps ?_
  rfl
 refine pure_ (i := 9) (N := some 24) (v := ?_) (a' := ?_) #[true, false, true, false, true, false, false, true, false, true, false, false, false, false, false, false, false, false] rfl rfl (any_of HT_.out (by kernel_rfl)) (fun _ _ _ h => h) (Or.inl ⟨by rfl, ?_⟩) ?_ ?_
 rotate_left
 ·intro w'
  go_simp
  with_reducible rfl
 rotate_left
 ·refine ps ?_
  rfl
 refine pure_ (i := 11) (N := some 26) (v := ?_) (a' := ?_) #[true, false, true, false, true, false, false, true, false, true, false, true, false, false, false, false, false, false] rfl rfl (any_of HT_.out (by kernel_rfl)) (fun _ _ _ h => h) (Or.inl ⟨by rfl, ?_⟩) ?_ ?_
 rotate_left
 ·intro w'
  go_simp
  with_reducible rfl
 rotate_left
 ·refine ps ?_
  rfl
 refine take_ (i := 1) (N := some 16) (v := ?_) (a' := ?_) #[true, true, true, false, true, false, false, true, false, true, false, true, false, false, false, false, false, false] rfl rfl (take_ofW HT_.out HW_.out (by kernel_rfl)) (fun _ _ _ h => h) (Or.inl ⟨by rfl, ?_⟩) hHeld ?_ ?_
 rotate_left
 ·rintro w' ⟨s0, s1, s2, s3, s4, s5, s6, s7⟩
  go_simp
  with_reducible rfl
 rotate_left
 ·refine ps ?_
  rfl
 refine take_ (i := 3) (N := some 18) (v := ?_) (a' := ?_) #[true, true, true, true, true, false, false, true, false, true, false, true, false, false, false, false, false, false] rfl rfl (take_ofW HT_.out HW_.out (by kernel_rfl)) (fun _ _ _ h => h) (Or.inl ⟨by rfl, ?_⟩) hHeld ?_ ?_
 rotate_left
 ·rintro w' ⟨s0, s1, s2, s3, s4, s5, s6, s7⟩
  go_simp
  with_reducible rfl
 rotate_left
 ·refine ps ?_
  rfl
 refine take_ (i := 5) (N := some 20) (v := ?_) (a' := ?_) #[true, true, true, true, true, true, false, true, false, true, false, true, false, false, false, false, false, false] rfl rfl (take_ofW HT_.out HW_.out (by kernel_rfl)) (fun _ _ _ h => h) (Or.inl ⟨by rfl, ?_⟩) hHeld ?_ ?_
 rotate_left
 ·rintro w' ⟨s0, s1, s2, s3, s4, s5, s6, s7⟩
  go_simp
  with_reducible rfl
 rotate_left
 ·refine ps ?_
  rfl
 refine pure_ (i := 6) (N := some 21) (v := ?_) (a' := ?_) #[true, true, true, true, true, true, true, true, false, true, false, true, false, false, false, false, false, false] rfl rfl (any_of HT_.out (by kernel_rfl)) (fun _ _ _ h => h) (Or.inl ⟨by rfl, ?_⟩) ?_ ?_
 rotate_left
 ·intro w'
  go_simp
  with_reducible rfl
 rotate_left
 ·refine ps ?_
  rfl
 refine take_ (i := 8) (N := some 23) (v := ?_) (a' := ?_) #[true, true, true, true, true, true, true, true, true, true, false, true, false, false, false, false, false, false] rfl rfl (take_ofW HT_.out HW_.out (by kernel_rfl)) (fun _ _ _ h => h) (Or.inl ⟨by rfl, ?_⟩) hHeld ?_ ?_
 rotate_left
 ·rintro w' ⟨s0, s1, s2, s3, s4, s5, s6, s7⟩
  go_simp
  with_reducible rfl
 rotate_left
 ·refine ps ?_
  rfl
 refine take_ (i := 10) (N := some 25) (v := ?_) (a' := ?_) #[true, true, true, true, true, true, true, true, true, true, true, true, false, false, false, false, false, false] rfl rfl (take_ofW HT_.out HW_.out (by kernel_rfl)) (fun _ _ _ h => h) (Or.inl ⟨by rfl, ?_⟩) hHeld ?_ ?_
 rotate_left
 ·rintro w' ⟨s0, s1, s2, s3, s4, s5, s6, s7⟩
  go_simp
  with_reducible rfl
 rotate_left
 ·refine ps ?_
  rfl
 refine take_ (i := 12) (N := some 27) (v := ?_) (a' := ?_) #[true, true, true, true, true, true, true, true, true, true, true, true, true, false, false, false, false, false] rfl rfl (take_ofW HT_.out HW_.out (by kernel_rfl)) (fun _ _ _ h => h) (Or.inl ⟨by rfl, ?_⟩) hHeld ?_ ?_
 rotate_left
 ·rintro w' ⟨s0, s1, s2, s3, s4, s5, s6, s7⟩
  go_simp
  with_reducible rfl
 rotate_left
 ·refine ps ?_
  rfl
 refine pure_ (i := 13) (N := some 28) (v := ?_) (a' := ?_) #[true, true, true, true, true, true, true, true, true, true, true, true, true, true, false, false, false, false] rfl rfl (any_of HT_.out (by kernel_rfl)) (fun _ _ _ h => h) (Or.inl ⟨by rfl, ?_⟩) ?_ ?_
 rotate_left
 ·intro w'
  go_simp
  with_reducible rfl
 rotate_left
 ·refine ps ?_
  rfl
 refine join_ (σ := Nat × Nat) 2 #[true, true, true, true, true, true, true, true, true, true, true, true, true, true, true, true, false, false] (fun s_ => [(7, .pointer (some ⟨s_.1, 0, none⟩)), (8, .pointer (some ⟨s_.2, 0, none⟩))]) (fun s_ w' => (w'.cell? ⟨gA, 0, none⟩ = some (.int .i64 t404) ∧ w'.cell? ⟨gA, 1, none⟩ = some (.int .i64 t405) ∧ w'.cell? ⟨gA, 2, none⟩ = some (.int .i64 t406) ∧ w'.cell? ⟨gA, 3, none⟩ = some (.int .i64 t407) ∧ w'.cell? ⟨gB, 0, none⟩ = some (.int .i64 t408) ∧ w'.cell? ⟨gB, 1, none⟩ = some (.int .i64 t409) ∧ w'.cell? ⟨gB, 2, none⟩ = some (.int .i64 t410) ∧ w'.cell? ⟨gB, 3, none⟩ = some (.int .i64 t411)) ∧ (w'.heap[gA]? = some (.cells #[.int .i64 t404, .int .i64 t405, .int .i64 t406, .int .i64 t407] 32 (0, 0))) ∧ (w'.heap[gB]? = some (.cells #[.int .i64 t408, .int .i64 t409, .int .i64 t410, .int .i64 t411] 32 (0, 0))) ∧ (w'.heap[gC]? = some (.cells #[.int .i64 0, .int .i64 0, .int .i64 0, .int .i64 0] 32 (0, 0))) ∧ (w'.heap[s_.1]? = some (.cells #[.int .i64 0, .int .i64 0, .int .i64 0] 56 (0, 0))) ∧ (w'.heap[s_.2]? = some (.cells #[.int .i64 0, .int .i64 0, .int .i64 0] 56 (0, 0))) ∧ (w.heap.size ≤ s_.1) ∧ (w.heap.size ≤ s_.1) ∧ (gA ≠ s_.1) ∧ (s_.1 ≠ gA) ∧ (gB ≠ s_.1) ∧ (s_.1 ≠ gB) ∧ (gC ≠ s_.1) ∧ (s_.1 ≠ gC) ∧ (s_.2 ≠ s_.1) ∧ (s_.1 ≠ s_.2) ∧ (w.heap.size ≤ s_.2) ∧ (w.heap.size ≤ s_.2) ∧ (gA ≠ s_.2) ∧ (s_.2 ≠ gA) ∧ (gB ≠ s_.2) ∧ (s_.2 ≠ gB) ∧ (gC ≠ s_.2) ∧ (s_.2 ≠ gC) ∧ (Below w.heap.size w w')) ?_ ?_
 rotate_left
 ·intro hCont
  refine two_ (i := 14) (j := 15) (Ni := some 7) (Nj := some 8) #[true, true, true, true, true, true, true, true, true, true, true, true, true, true, true, false, false, false] #[true, true, true, true, true, true, true, true, true, true, true, true, true, true, false, true, false, false] rfl rfl rfl rfl (two_of HT_.out (by kernel_rfl)) (by decide) (by decide) (fun K hK => ?_) (fun K hK => ?_)
  ·skip
   refine box_step ?hg (N := 7) ?hd (cs := #[.int .i64 0, .int .i64 0, .int .i64 0]) (t := 56) ?hr ?_; (case hd => rfl); (case hg => rfl); (case hr => first | (go_simp; done) | (go_simp; rfl))
   intro gD hg w23 hbox hb
   have KD := Aside0.mk (hbox)
   have GWD := ge_ hg HB.out
   have GED := ge_ hg HB.out
   have NAD := nl_ hg KA
   have NDA := ng_ hg KA
   have NBD := nl_ hg KB
   have NDB := ng_ hg KB
   have NCD := nl_ hg KC
   have NDC := ng_ hg KC
   replace KA := bb_ KA hb
   replace KB := bb_ KB hb
   replace KC := bb_ KC hb
   replace HB := Aside0.mk (below_step HB.out hb)
   clear hb hbox hg
   refine hK.out _ _ ⟨(blk_cell KA.out 0).trans rfl, (blk_cell KA.out 1).trans rfl, (blk_cell KA.out 2).trans rfl, (blk_cell KA.out 3).trans rfl, (blk_cell KB.out 0).trans rfl, (blk_cell KB.out 1).trans rfl, (blk_cell KB.out 2).trans rfl, (blk_cell KB.out 3).trans rfl⟩ (fun hHeld => ?_)
   clear hK K
   refine norm_ (a' := ?_) ?_ ?_
   rotate_left
   ·show Act.put _ (some 7) _ = _
    refine ps ?_
    rfl
   refine one_ (i := 15) (N := some 8) #[true, true, true, true, true, true, true, true, true, true, true, true, true, true, true, true, false, false] rfl rfl (one_of HT_.out (by kernel_rfl)) (by decide) (fun K hK => ?_)
   refine box_step ?hg (N := 8) ?hd (cs := #[.int .i64 0, .int .i64 0, .int .i64 0]) (t := 56) ?hr ?_; (case hd => rfl); (case hg => rfl); (case hr => first | (go_simp; done) | (go_simp; rfl))
   intro gE hg w24 hbox hb
   have KE := Aside0.mk (hbox)
   have GWE := ge_ hg HB.out
   have GEE := ge_ hg HB.out
   have NAE := nl_ hg KA
   have NEA := ng_ hg KA
   have NBE := nl_ hg KB
   have NEB := ng_ hg KB
   have NCE := nl_ hg KC
   have NEC := ng_ hg KC
   have NDE := nl_ hg KD
   have NED := ng_ hg KD
   replace KA := bb_ KA hb
   replace KB := bb_ KB hb
   replace KC := bb_ KC hb
   replace KD := bb_ KD hb
   replace HB := Aside0.mk (below_step HB.out hb)
   clear hb hbox hg
   refine hK.out _ _ ⟨(blk_cell KA.out 0).trans rfl, (blk_cell KA.out 1).trans rfl, (blk_cell KA.out 2).trans rfl, (blk_cell KA.out 3).trans rfl, (blk_cell KB.out 0).trans rfl, (blk_cell KB.out 1).trans rfl, (blk_cell KB.out 2).trans rfl, (blk_cell KB.out 3).trans rfl⟩ (fun hHeld => ?_)
   clear hK K
   refine norm_ (a' := ?_) ?_ ?_
   rotate_left
   ·show Act.put _ (some 8) _ = _
    refine ps ?_
    rfl
   exact norm_ (by simp only [putAll, Act.put, List.setIfInBounds_toArray, List.set_cons_zero, List.set_cons_succ]) (hCont (gD, gE) _ ⟨hHeld, (pl KA.out), (pl KB.out), (pl KC.out), (pl KD.out), (pl KE.out), GWD.out, GED.out, NAD.out, NDA.out, NBD.out, NDB.out, NCD.out, NDC.out, NED.out, NDE.out, GWE.out, GEE.out, NAE.out, NEA.out, NBE.out, NEB.out, NCE.out, NEC.out, (by repeat (first | (with_reducible first | exact HB.out | apply below_alloc | apply pw_below_drewN | apply below_drew1 | refine below_set ?_ GEA.out | refine below_set ?_ GEB.out | refine below_set ?_ GEC.out | refine below_set ?_ GED.out | refine below_set ?_ GEE.out) | exact HB.out))⟩)
  ·skip
   refine box_step ?hg (N := 8) ?hd (cs := #[.int .i64 0, .int .i64 0, .int .i64 0]) (t := 56) ?hr ?_; (case hd => rfl); (case hg => rfl); (case hr => first | (go_simp; done) | (go_simp; rfl))
   intro gE hg w23 hbox hb
   have KE := Aside0.mk (hbox)
   have GWE := ge_ hg HB.out
   have GEE := ge_ hg HB.out
   have NAE := nl_ hg KA
   have NEA := ng_ hg KA
   have NBE := nl_ hg KB
   have NEB := ng_ hg KB
   have NCE := nl_ hg KC
   have NEC := ng_ hg KC
   replace KA := bb_ KA hb
   replace KB := bb_ KB hb
   replace KC := bb_ KC hb
   replace HB := Aside0.mk (below_step HB.out hb)
   clear hb hbox hg
   refine hK.out _ _ ⟨(blk_cell KA.out 0).trans rfl, (blk_cell KA.out 1).trans rfl, (blk_cell KA.out 2).trans rfl, (blk_cell KA.out 3).trans rfl, (blk_cell KB.out 0).trans rfl, (blk_cell KB.out 1).trans rfl, (blk_cell KB.out 2).trans rfl, (blk_cell KB.out 3).trans rfl⟩ (fun hHeld => ?_)
   clear hK K
   refine norm_ (a' := ?_) ?_ ?_
   rotate_left
   ·show Act.put _ (some 8) _ = _
    refine ps ?_
    rfl
   refine one_ (i := 14) (N := some 7) #[true, true, true, true, true, true, true, true, true, true, true, true, true, true, true, true, false, false] rfl rfl (one_of HT_.out (by kernel_rfl)) (by decide) (fun K hK => ?_)
   refine box_step ?hg (N := 7) ?hd (cs := #[.int .i64 0, .int .i64 0, .int .i64 0]) (t := 56) ?hr ?_; (case hd => rfl); (case hg => rfl); (case hr => first | (go_simp; done) | (go_simp; rfl))
   intro gD hg w24 hbox hb
   have KD := Aside0.mk (hbox)
   have GWD := ge_ hg HB.out
   have GED := ge_ hg HB.out
   have NAD := nl_ hg KA
   have NDA := ng_ hg KA
   have NBD := nl_ hg KB
   have NDB := ng_ hg KB
   have NCD := nl_ hg KC
   have NDC := ng_ hg KC
   have NED := nl_ hg KE
   have NDE := ng_ hg KE
   replace KA := bb_ KA hb
   replace KB := bb_ KB hb
   replace KC := bb_ KC hb
   replace KE := bb_ KE hb
   replace HB := Aside0.mk (below_step HB.out hb)
   clear hb hbox hg
   refine hK.out _ _ ⟨(blk_cell KA.out 0).trans rfl, (blk_cell KA.out 1).trans rfl, (blk_cell KA.out 2).trans rfl, (blk_cell KA.out 3).trans rfl, (blk_cell KB.out 0).trans rfl, (blk_cell KB.out 1).trans rfl, (blk_cell KB.out 2).trans rfl, (blk_cell KB.out 3).trans rfl⟩ (fun hHeld => ?_)
   clear hK K
   refine norm_ (a' := ?_) ?_ ?_
   rotate_left
   ·show Act.put _ (some 7) _ = _
    refine ps ?_
    rfl
   exact norm_ (by simp only [putAll, Act.put, List.setIfInBounds_toArray, List.set_cons_zero, List.set_cons_succ]) (hCont (gD, gE) _ ⟨hHeld, (pl KA.out), (pl KB.out), (pl KC.out), (pl KD.out), (pl KE.out), GWD.out, GED.out, NAD.out, NDA.out, NBD.out, NDB.out, NCD.out, NDC.out, NED.out, NDE.out, GWE.out, GEE.out, NAE.out, NEA.out, NBE.out, NEB.out, NCE.out, NEC.out, (by repeat (first | (with_reducible first | exact HB.out | apply below_alloc | apply pw_below_drewN | apply below_drew1 | refine below_set ?_ GEA.out | refine below_set ?_ GEB.out | refine below_set ?_ GEC.out | refine below_set ?_ GEE.out | refine below_set ?_ GED.out) | exact HB.out))⟩)
 rintro ⟨gD, gE⟩ w25 ⟨hS_, h0_, h1_, h2_, h3_, h4_, h5_, h6_, h7_, h8_, h9_, h10_, h11_, h12_, h13_, h14_, h15_, h16_, h17_, h18_, h19_, h20_, h21_, h22_, h23_⟩
 have n0_ : Aside0 (w25.heap[gA]? = some (.cells #[.int .i64 t404, .int .i64 t405, .int .i64 t406, .int .i64 t407] 32 (0, 0))) := ⟨h0_⟩
 have n1_ : Aside0 (w25.heap[gB]? = some (.cells #[.int .i64 t408, .int .i64 t409, .int .i64 t410, .int .i64 t411] 32 (0, 0))) := ⟨h1_⟩
 have n2_ : Aside0 (w25.heap[gC]? = some (.cells #[.int .i64 0, .int .i64 0, .int .i64 0, .int .i64 0] 32 (0, 0))) := ⟨h2_⟩
 have n3_ : Aside0 (w25.heap[gD]? = some (.cells #[.int .i64 0, .int .i64 0, .int .i64 0] 56 (0, 0))) := ⟨h3_⟩
 have n4_ : Aside0 (w25.heap[gE]? = some (.cells #[.int .i64 0, .int .i64 0, .int .i64 0] 56 (0, 0))) := ⟨h4_⟩
 have n5_ : Aside0 (w.heap.size ≤ gD) := ⟨h5_⟩
 have n6_ : Aside0 (w.heap.size ≤ gD) := ⟨h6_⟩
 have n7_ : Aside0 (gA ≠ gD) := ⟨h7_⟩
 have n8_ : Aside0 (gD ≠ gA) := ⟨h8_⟩
 have n9_ : Aside0 (gB ≠ gD) := ⟨h9_⟩
 have n10_ : Aside0 (gD ≠ gB) := ⟨h10_⟩
 have n11_ : Aside0 (gC ≠ gD) := ⟨h11_⟩
 have n12_ : Aside0 (gD ≠ gC) := ⟨h12_⟩
 have n13_ : Aside0 (gE ≠ gD) := ⟨h13_⟩
 have n14_ : Aside0 (gD ≠ gE) := ⟨h14_⟩
 have n15_ : Aside0 (w.heap.size ≤ gE) := ⟨h15_⟩
 have n16_ : Aside0 (w.heap.size ≤ gE) := ⟨h16_⟩
 have n17_ : Aside0 (gA ≠ gE) := ⟨h17_⟩
 have n18_ : Aside0 (gE ≠ gA) := ⟨h18_⟩
 have n19_ : Aside0 (gB ≠ gE) := ⟨h19_⟩
 have n20_ : Aside0 (gE ≠ gB) := ⟨h20_⟩
 have n21_ : Aside0 (gC ≠ gE) := ⟨h21_⟩
 have n22_ : Aside0 (gE ≠ gC) := ⟨h22_⟩
 have n23_ : Aside0 (Below w.heap.size w w25) := ⟨h23_⟩
 clear KA
 clear KB
 clear KC
 clear HB
 clear h0_ h1_ h2_ h3_ h4_ h5_ h6_ h7_ h8_ h9_ h10_ h11_ h12_ h13_ h14_ h15_ h16_ h17_ h18_ h19_ h20_ h21_ h22_ h23_
 have KA := n0_
 have KB := n1_
 have KC := n2_
 have KD := n3_
 have KE := n4_
 have GWD := n5_
 have GED := n6_
 have NAD := n7_
 have NDA := n8_
 have NBD := n9_
 have NDB := n10_
 have NCD := n11_
 have NDC := n12_
 have NED := n13_
 have NDE := n14_
 have GWE := n15_
 have GEE := n16_
 have NAE := n17_
 have NEA := n18_
 have NBE := n19_
 have NEB := n20_
 have NCE := n21_
 have NEC := n22_
 have HB := n23_
 clear n0_ n1_ n2_ n3_ n4_ n5_ n6_ n7_ n8_ n9_ n10_ n11_ n12_ n13_ n14_ n15_ n16_ n17_ n18_ n19_ n20_ n21_ n22_ n23_
 have hHeld : w25.cell? ⟨gA, 0, none⟩ = some (.int .i64 t404) ∧ w25.cell? ⟨gA, 1, none⟩ = some (.int .i64 t405) ∧ w25.cell? ⟨gA, 2, none⟩ = some (.int .i64 t406) ∧ w25.cell? ⟨gA, 3, none⟩ = some (.int .i64 t407) ∧ w25.cell? ⟨gB, 0, none⟩ = some (.int .i64 t408) ∧ w25.cell? ⟨gB, 1, none⟩ = some (.int .i64 t409) ∧ w25.cell? ⟨gB, 2, none⟩ = some (.int .i64 t410) ∧ w25.cell? ⟨gB, 3, none⟩ = some (.int .i64 t411) := hS_
 refine norm_ (a' := ?_) ?_ ?_
 rotate_left
 ·simp only [putAll, Act.put, List.setIfInBounds_toArray, List.set_cons_zero, List.set_cons_succ]
  rfl
 refine one_ (i := 16) (N := none) #[true, true, true, true, true, true, true, true, true, true, true, true, true, true, true, true, true, false] rfl rfl (one_of HT_.out (by kernel_rfl)) (by decide) (fun K hK => ?_)
 have hs26 := ci_ KD 0 (.int .i64 0)
 have hfs26 := blk_frozen KD.out 0
 have hns26_0 := NAD.out
 have hns26_1 := NBD.out
 have hns26_2 := NCD.out
 have hns26_4 := NED.out
 have hms26_0 := NDA.out
 have hms26_1 := NDB.out
 have hms26_2 := NDC.out
 have hms26_4 := NDE.out
 have hs27 := ci_ KD 1 (.int .i64 0)
 have hfs27 := blk_frozen KD.out 1
 have hns27_0 := NAD.out
 have hns27_1 := NBD.out
 have hns27_2 := NCD.out
 have hns27_4 := NED.out
 have hms27_0 := NDA.out
 have hms27_1 := NDB.out
 have hms27_2 := NDC.out
 have hms27_4 := NDE.out
 have hs28 := ci_ KD 2 (.int .i64 0)
 have hfs28 := blk_frozen KD.out 2
 have hns28_0 := NAD.out
 have hns28_1 := NBD.out
 have hns28_2 := NCD.out
 have hns28_4 := NED.out
 have hms28_0 := NDA.out
 have hms28_1 := NDB.out
 have hms28_2 := NDC.out
 have hms28_4 := NDE.out
 refine skip_ (w1 := ?_) (by rfl) rfl ?_ ?_
 rotate_left
 ·go_simp
  rfl
 refine hK.out _ _ ⟨((cell_far (p := ⟨gD, _, none⟩) NAD.out _).trans (((cell_far (p := ⟨gD, _, none⟩) NAD.out _).trans (((cell_far (p := ⟨gD, _, none⟩) NAD.out _).trans (hHeld.1)))))), ((cell_far (p := ⟨gD, _, none⟩) NAD.out _).trans (((cell_far (p := ⟨gD, _, none⟩) NAD.out _).trans (((cell_far (p := ⟨gD, _, none⟩) NAD.out _).trans (hHeld.2.1)))))), ((cell_far (p := ⟨gD, _, none⟩) NAD.out _).trans (((cell_far (p := ⟨gD, _, none⟩) NAD.out _).trans (((cell_far (p := ⟨gD, _, none⟩) NAD.out _).trans (hHeld.2.2.1)))))), ((cell_far (p := ⟨gD, _, none⟩) NAD.out _).trans (((cell_far (p := ⟨gD, _, none⟩) NAD.out _).trans (((cell_far (p := ⟨gD, _, none⟩) NAD.out _).trans (hHeld.2.2.2.1)))))), ((cell_far (p := ⟨gD, _, none⟩) NBD.out _).trans (((cell_far (p := ⟨gD, _, none⟩) NBD.out _).trans (((cell_far (p := ⟨gD, _, none⟩) NBD.out _).trans (hHeld.2.2.2.2.1)))))), ((cell_far (p := ⟨gD, _, none⟩) NBD.out _).trans (((cell_far (p := ⟨gD, _, none⟩) NBD.out _).trans (((cell_far (p := ⟨gD, _, none⟩) NBD.out _).trans (hHeld.2.2.2.2.2.1)))))), ((cell_far (p := ⟨gD, _, none⟩) NBD.out _).trans (((cell_far (p := ⟨gD, _, none⟩) NBD.out _).trans (((cell_far (p := ⟨gD, _, none⟩) NBD.out _).trans (hHeld.2.2.2.2.2.2.1)))))), ((cell_far (p := ⟨gD, _, none⟩) NBD.out _).trans (((cell_far (p := ⟨gD, _, none⟩) NBD.out _).trans (((cell_far (p := ⟨gD, _, none⟩) NBD.out _).trans (hHeld.2.2.2.2.2.2.2))))))⟩ (fun hHeld => ?_)
 clear hK K
 refine one_ (i := 17) (N := none) #[true, true, true, true, true, true, true, true, true, true, true, true, true, true, true, true, true, true] rfl rfl (one_of HT_.out (by kernel_rfl)) (by decide) (fun K hK => ?_)
 have hs29 := ci_ KE 0 (.int .i64 0)
 have hfs29 := blk_frozen KE.out 0
 have hns29_0 := NAE.out
 have hns29_1 := NBE.out
 have hns29_2 := NCE.out
 have hns29_3 := NDE.out
 have hms29_0 := NEA.out
 have hms29_1 := NEB.out
 have hms29_2 := NEC.out
 have hms29_3 := NED.out
 have hs30 := ci_ KE 1 (.int .i64 0)
 have hfs30 := blk_frozen KE.out 1
 have hns30_0 := NAE.out
 have hns30_1 := NBE.out
 have hns30_2 := NCE.out
 have hns30_3 := NDE.out
 have hms30_0 := NEA.out
 have hms30_1 := NEB.out
 have hms30_2 := NEC.out
 have hms30_3 := NED.out
 have hs31 := ci_ KE 2 (.int .i64 0)
 have hfs31 := blk_frozen KE.out 2
 have hns31_0 := NAE.out
 have hns31_1 := NBE.out
 have hns31_2 := NCE.out
 have hns31_3 := NDE.out
 have hms31_0 := NEA.out
 have hms31_1 := NEB.out
 have hms31_2 := NEC.out
 have hms31_3 := NED.out
 refine skip_ (w1 := ?_) (by rfl) rfl ?_ ?_
 rotate_left
 ·go_simp
  rfl
 refine hK.out _ _ ⟨((cell_far (p := ⟨gE, _, none⟩) NAE.out _).trans (((cell_far (p := ⟨gE, _, none⟩) NAE.out _).trans (((cell_far (p := ⟨gE, _, none⟩) NAE.out _).trans (hHeld.1)))))), ((cell_far (p := ⟨gE, _, none⟩) NAE.out _).trans (((cell_far (p := ⟨gE, _, none⟩) NAE.out _).trans (((cell_far (p := ⟨gE, _, none⟩) NAE.out _).trans (hHeld.2.1)))))), ((cell_far (p := ⟨gE, _, none⟩) NAE.out _).trans (((cell_far (p := ⟨gE, _, none⟩) NAE.out _).trans (((cell_far (p := ⟨gE, _, none⟩) NAE.out _).trans (hHeld.2.2.1)))))), ((cell_far (p := ⟨gE, _, none⟩) NAE.out _).trans (((cell_far (p := ⟨gE, _, none⟩) NAE.out _).trans (((cell_far (p := ⟨gE, _, none⟩) NAE.out _).trans (hHeld.2.2.2.1)))))), ((cell_far (p := ⟨gE, _, none⟩) NBE.out _).trans (((cell_far (p := ⟨gE, _, none⟩) NBE.out _).trans (((cell_far (p := ⟨gE, _, none⟩) NBE.out _).trans (hHeld.2.2.2.2.1)))))), ((cell_far (p := ⟨gE, _, none⟩) NBE.out _).trans (((cell_far (p := ⟨gE, _, none⟩) NBE.out _).trans (((cell_far (p := ⟨gE, _, none⟩) NBE.out _).trans (hHeld.2.2.2.2.2.1)))))), ((cell_far (p := ⟨gE, _, none⟩) NBE.out _).trans (((cell_far (p := ⟨gE, _, none⟩) NBE.out _).trans (((cell_far (p := ⟨gE, _, none⟩) NBE.out _).trans (hHeld.2.2.2.2.2.2.1)))))), ((cell_far (p := ⟨gE, _, none⟩) NBE.out _).trans (((cell_far (p := ⟨gE, _, none⟩) NBE.out _).trans (((cell_far (p := ⟨gE, _, none⟩) NBE.out _).trans (hHeld.2.2.2.2.2.2.2))))))⟩ (fun hHeld => ?_)
 clear hK K
 refine done_ (done_of HT_.out (by kernel_rfl)) ?_
 go_upto_region 4 with (first | ((with_reducible refine gate_dst (N := 9) rfl ?_); refine box_event ?hg (N := 9) ?hd (cs := #[.int .i64 0, .int .i64 0, .int .i64 0]) (t := 56) ?hr ?_; (case hd => rfl); (case hg => rfl); (case hr => first | (go_simp; done) | (go_simp; rfl)); intro gF hg w32 hbox hb; have c0_ := co_ (g := gA) (o := .cells #[.int .i64 t404, .int .i64 t405, .int .i64 t406, .int .i64 t407] 32 (0, 0)) hb (by refine pf ?_ NAE.out; refine pf ?_ NAD.out; refine pl ?_; exact KA.out); have c1_ := co_ (g := gB) (o := .cells #[.int .i64 t408, .int .i64 t409, .int .i64 t410, .int .i64 t411] 32 (0, 0)) hb (by refine pf ?_ NBE.out; refine pf ?_ NBD.out; refine pl ?_; exact KB.out); have c2_ := co_ (g := gC) (o := .cells #[.int .i64 0, .int .i64 0, .int .i64 0, .int .i64 0] 32 (0, 0)) hb (by refine pf ?_ NCE.out; refine pf ?_ NCD.out; refine pl ?_; exact KC.out); have c3_ := co_ (g := gD) (o := .cells #[.int .i64 t404, .int .i64 t405, .int .i64 t406] 56 (0, 0)) hb (by refine pf ?_ NDE.out; refine pl ?_; refine blk_put (cs := #[.int .i64 t404, .int .i64 t405, .int .i64 0]) ?_ 2 _ rfl; refine pl ?_; refine blk_put (cs := #[.int .i64 t404, .int .i64 0, .int .i64 0]) ?_ 1 _ rfl; refine pl ?_; refine blk_put (cs := #[.int .i64 0, .int .i64 0, .int .i64 0]) ?_ 0 _ rfl; refine pl ?_; exact KD.out); have c4_ := co_ (g := gE) (o := .cells #[.int .i64 t408, .int .i64 t409, .int .i64 t410] 56 (0, 0)) hb (by refine pl ?_; refine blk_put (cs := #[.int .i64 t408, .int .i64 t409, .int .i64 0]) ?_ 2 _ rfl; refine pl ?_; refine blk_put (cs := #[.int .i64 t408, .int .i64 0, .int .i64 0]) ?_ 1 _ rfl; refine pl ?_; refine blk_put (cs := #[.int .i64 0, .int .i64 0, .int .i64 0]) ?_ 0 _ rfl; refine pf ?_ NED.out; refine pl ?_; exact KE.out); have KF := Aside0.mk hbox; have GWF := Aside0.mk ((by rw [hg]; exact (below_size (by repeat (first | (with_reducible first | exact HB.out | apply below_alloc | apply pw_below_drewN | apply below_drew1 | refine below_set ?_ GEA.out | refine below_set ?_ GEB.out | refine below_set ?_ GEC.out | refine below_set ?_ GED.out | refine below_set ?_ GEE.out) | exact HB.out))) : w.heap.size ≤ gF)); have GEF := Aside0.mk ((by rw [hg]; exact (below_size (by repeat (first | (with_reducible first | exact HB.out | apply below_alloc | apply pw_below_drewN | apply below_drew1 | refine below_set ?_ GEA.out | refine below_set ?_ GEB.out | refine below_set ?_ GEC.out | refine below_set ?_ GED.out | refine below_set ?_ GEE.out) | exact HB.out))) : w.heap.size ≤ gF)); have NAF := nl_ hg c0_; have NFA := ng_ hg c0_; have NBF := nl_ hg c1_; have NFB := ng_ hg c1_; have NCF := nl_ hg c2_; have NFC := ng_ hg c2_; have NDF := nl_ hg c3_; have NFD := ng_ hg c3_; have NEF := nl_ hg c4_; have NFE := ng_ hg c4_; replace KA := bb_ c0_ hb; replace KB := bb_ c1_ hb; replace KC := bb_ c2_ hb; replace KD := bb_ c3_ hb; replace KE := bb_ c4_ hb; replace HB := Aside0.mk (below_step (by repeat (first | (with_reducible first | exact HB.out | apply below_alloc | apply pw_below_drewN | apply below_drew1 | refine below_set ?_ GEA.out | refine below_set ?_ GEB.out | refine below_set ?_ GEC.out | refine below_set ?_ GED.out | refine below_set ?_ GEE.out) | exact HB.out)) hb); clear c0_ c1_ c2_ c3_ c4_; clear hb hbox hg; have hnb33 := NFA.out; have hnc33 := NAF.out; have hnb34 := NFB.out; have hnc34 := NBF.out; have hnb35 := NFC.out; have hnc35 := NCF.out; have hnb36 := NFD.out; have hnc36 := NDF.out; have hnb37 := NFE.out; have hnc37 := NEF.out; have hcz38_0 := ci_ KF 0 (.int .i64 0); have hcz38_1 := ci_ KF 1 (.int .i64 0); have hcz38_2 := ci_ KF 2 (.int .i64 0); have hfz38_0 := blk_frozen KF.out 0; have hfz38_1 := blk_frozen KF.out 1; have hfz38_2 := blk_frozen KF.out 2))
 (try simp only [Act.put, List.setIfInBounds_toArray, List.set_cons_zero, List.set_cons_succ])
 go_cut [30] (fun v30 wc => ∃ (kq : Nat) (x30_5 : Int), v30 = .int .i64 x30_5 ∧ Aside0 (imageeditorref10_Colors.j0 kq a0 x30_5 t404 t405 t406 t408 t409 t410 = some (r1, r2, r3, r4)) ∧ Aside0 (kq ≤ k) ∧ Aside0 (wc.heap[gA]? = some (.cells #[.int .i64 t404, .int .i64 t405, .int .i64 t406, .int .i64 t407] 32 (0, 0))) ∧ Aside0 (wc.heap[gB]? = some (.cells #[.int .i64 t408, .int .i64 t409, .int .i64 t410, .int .i64 t411] 32 (0, 0))) ∧ Aside0 (wc.heap[gC]? = some (.cells #[.int .i64 0, .int .i64 0, .int .i64 0, .int .i64 0] 32 (0, 0))) ∧ Aside0 (wc.heap[gD]? = some (.cells #[.int .i64 t404, .int .i64 t405, .int .i64 t406] 56 (0, 0))) ∧ Aside0 (wc.heap[gE]? = some (.cells #[.int .i64 t408, .int .i64 t409, .int .i64 t410] 56 (0, 0))) ∧ Aside0 (wc.heap[gF]? = some (.cells #[.int .i64 0, .int .i64 0, .int .i64 0] 56 (0, 0))) ∧ Aside0 (Below w.heap.size w wc))
 case first =>
  have H := HC6.out
  clear HC6
  have H' := Aside0.mk H
  clear H
  go_wp2
  go_meet
  case rel => exact ⟨_, (a0), (by first | rfl | (simp; done) | (simp [*]; done)), H', ⟨by first | omega | exact Nat.le_refl _⟩, ⟨by refine pl ?_; refine blk_far ?_ NAF.out _; refine pl ?_; refine blk_far ?_ NAF.out _; refine pl ?_; refine blk_far ?_ NAF.out _; refine pl ?_; exact KA.out⟩, ⟨by refine pl ?_; refine blk_far ?_ NBF.out _; refine pl ?_; refine blk_far ?_ NBF.out _; refine pl ?_; refine blk_far ?_ NBF.out _; refine pl ?_; exact KB.out⟩, ⟨by refine pl ?_; refine blk_far ?_ NCF.out _; refine pl ?_; refine blk_far ?_ NCF.out _; refine pl ?_; refine blk_far ?_ NCF.out _; refine pl ?_; exact KC.out⟩, ⟨by refine pl ?_; refine blk_far ?_ NDF.out _; refine pl ?_; refine blk_far ?_ NDF.out _; refine pl ?_; refine blk_far ?_ NDF.out _; refine pl ?_; exact KD.out⟩, ⟨by refine pl ?_; refine blk_far ?_ NEF.out _; refine pl ?_; refine blk_far ?_ NEF.out _; refine pl ?_; refine blk_far ?_ NEF.out _; refine pl ?_; exact KE.out⟩, ⟨by refine pl ?_; refine blk_put (cs := #[.int .i64 0, .int .i64 0, .int .i64 0]) ?_ 2 _ rfl; refine pl ?_; refine blk_put (cs := #[.int .i64 0, .int .i64 0, .int .i64 0]) ?_ 1 _ rfl; refine pl ?_; refine blk_put (cs := #[.int .i64 0, .int .i64 0, .int .i64 0]) ?_ 0 _ rfl; refine pl ?_; exact KF.out⟩, ⟨by repeat (first | (with_reducible first | exact HB.out | apply below_alloc | apply pw_below_drewN | apply below_drew1 | refine below_set ?_ GEA.out | refine below_set ?_ GEB.out | refine below_set ?_ GEC.out | refine below_set ?_ GED.out | refine below_set ?_ GEE.out | refine below_set ?_ GEF.out) | exact HB.out)⟩⟩
 case rest =>
  clear HC6
  try clear p2
  try clear c3
  try clear c30
  try clear c33
  try clear c34
  try clear c35
  try clear c36
  try clear c37
  try clear hcz38_0
  try clear hcz38_1
  try clear hcz38_2
  try clear hfz38_0
  try clear hfz38_1
  try clear hfz38_2
  obtain ⟨kq, x30_5, rfl, HA, HJ5, KA, KB, KC, KD, KE, KF, HB⟩ := hcut
  cases kq with
  | zero => exact absurd HA.out (by simp [imageeditorref10_Colors.j0])
  | succ kj5 =>
   have H := HA.out
   clear HA
   simp only [imageeditorref10_Colors.j0] at H
   by_cases c39 : x30_5 = 14
   ·rw [if_pos c39] at H
    have c39b0 : (x30_5 == 14) = true := beq_iff_eq.mpr c39
    have c39b1 : (x30_5 != 14) = false := bne_eq_false_iff_eq.mpr c39
    clear c39
    replace H := Option.bind_eq_some_iff.mp H
    obtain ⟨t415, A400, H⟩ := H
    replace H : ((imageeditorref10_SetSat.f kj5 t408 t409 t410 t415).bind fun bt416 => ((imageeditorref10_Lum.f kj5 t404 t405 t406).bind fun t419 => ((imageeditorref10_SetLum.f kj5 bt416.1 bt416.2.1 bt416.2.2 t419).bind fun bt420 => (some (bt420.1, bt420.2.1, bt420.2.2, 65535))))) = some (r1, r2, r3, r4) := H
    have A40 := Aside0.mk A400
    clear A400
    replace H := Option.bind_eq_some_iff.mp H
    obtain ⟨⟨t416, t417, t418⟩, A410, H⟩ := H
    replace H : ((imageeditorref10_Lum.f kj5 t404 t405 t406).bind fun t419 => ((imageeditorref10_SetLum.f kj5 t416 t417 t418 t419).bind fun bt420 => (some (bt420.1, bt420.2.1, bt420.2.2, 65535)))) = some (r1, r2, r3, r4) := H
    have A41 := Aside0.mk A410
    clear A410
    replace H := Option.bind_eq_some_iff.mp H
    obtain ⟨t419, A420, H⟩ := H
    replace H : ((imageeditorref10_SetLum.f kj5 t416 t417 t418 t419).bind fun bt420 => (some (bt420.1, bt420.2.1, bt420.2.2, 65535))) = some (r1, r2, r3, r4) := H
    have A42 := Aside0.mk A420
    clear A420
    replace H := Option.bind_eq_some_iff.mp H
    obtain ⟨⟨t420, t421, t422⟩, A430, H⟩ := H
    replace H : (some (t420, t421, t422, 65535)) = some (r1, r2, r3, r4) := H
    have A43 := Aside0.mk A430
    clear A430
    simp only [Option.some.injEq, Prod.mk.injEq] at H
    obtain ⟨rfl, rfl, rfl, rfl⟩ := H
    try go_wp2
    replace KA := Aside0.mk (blk_drew KA.out)
    replace KB := Aside0.mk (blk_drew KB.out)
    replace KC := Aside0.mk (blk_drew KC.out)
    replace KD := Aside0.mk (blk_drew KD.out)
    replace KE := Aside0.mk (blk_drew KE.out)
    replace KF := Aside0.mk (blk_drew KF.out)
    replace HB := Aside0.mk (below_drew1 HB.out)
    refine start_ (n := 8) (S := fun w' => w'.cell? ⟨gE, 0, none⟩ = some (.int .i64 t408) ∧ w'.cell? ⟨gE, 1, none⟩ = some (.int .i64 t409) ∧ w'.cell? ⟨gE, 2, none⟩ = some (.int .i64 t410) ∧ w'.cell? ⟨gD, 0, none⟩ = some (.int .i64 t404) ∧ w'.cell? ⟨gD, 1, none⟩ = some (.int .i64 t405) ∧ w'.cell? ⟨gD, 2, none⟩ = some (.int .i64 t406)) (ds := []) #[false, false, false, false, false, false, false, false] (by kernel_rfl) rfl rfl ⟨(blk_cell KE.out 0).trans rfl, (blk_cell KE.out 1).trans rfl, (blk_cell KE.out 2).trans rfl, (blk_cell KD.out 0).trans rfl, (blk_cell KD.out 1).trans rfl, (blk_cell KD.out 2).trans rfl⟩ (fun hHeld => ?_); refine with_tabW imageeditorref10_Colors.tab10 imageeditorref10_Colors.bits10 (fun HT_ HW_ => ?_)
    generalize wc.drew = w44 at KA KB KC KD KE KF HB hHeld ⊢
    refine take_ (i := 0) (N := some 47) (v := ?_) (a' := ?_) #[true, false, false, false, false, false, false, false] rfl rfl (take_ofW HT_.out HW_.out (by kernel_rfl)) (fun _ _ _ h => h) (Or.inl ⟨by rfl, ?_⟩) hHeld ?_ ?_
    rotate_left
    ·rintro w' ⟨s0, s1, s2, s3, s4, s5⟩
     go_simp
     with_reducible rfl
    rotate_left
    ·refine ps ?_
     rfl
    refine take_ (i := 1) (N := some 48) (v := ?_) (a' := ?_) #[true, true, false, false, false, false, false, false] rfl rfl (take_ofW HT_.out HW_.out (by kernel_rfl)) (fun _ _ _ h => h) (Or.inl ⟨by rfl, ?_⟩) hHeld ?_ ?_
    rotate_left
    ·rintro w' ⟨s0, s1, s2, s3, s4, s5⟩
     go_simp
     with_reducible rfl
    rotate_left
    ·refine ps ?_
     rfl
    refine take_ (i := 4) (N := some 51) (v := ?_) (a' := ?_) #[true, true, false, false, true, false, false, false] rfl rfl (take_ofW HT_.out HW_.out (by kernel_rfl)) (fun _ _ _ h => h) (Or.inl ⟨by rfl, ?_⟩) hHeld ?_ ?_
    rotate_left
    ·rintro w' ⟨s0, s1, s2, s3, s4, s5⟩
     go_simp
     with_reducible rfl
    rotate_left
    ·refine ps ?_
     rfl
    refine one_ (i := 2) (N := some 49) #[true, true, true, false, true, false, false, false] rfl rfl (one_of HT_.out (by kernel_rfl)) (by decide) (fun K hK => ?_)
    refine goes_ Try.func56 (by kernel_rfl) rfl #[.agg #[.int .i64 t404, .int .i64 t405, .int .i64 t406]] (by rfl) rfl rfl pm ?_
    with_reducible refine (imageeditorref10_Sat.calls t404 t405 t406 t415 _ A40.out).mono ?_
    rintro e w45 ⟨rfl, hb⟩
    refine ⟨_, rfl, ?_⟩
    replace KA := bb_ KA hb
    replace KB := bb_ KB hb
    replace KC := bb_ KC hb
    replace KD := bb_ KD hb
    replace KE := bb_ KE hb
    replace KF := bb_ KF hb
    replace HB := Aside0.mk (below_step HB.out hb)
    try clear hb
    refine hK.out _ _ ⟨(blk_cell KE.out 0).trans rfl, (blk_cell KE.out 1).trans rfl, (blk_cell KE.out 2).trans rfl, (blk_cell KD.out 0).trans rfl, (blk_cell KD.out 1).trans rfl, (blk_cell KD.out 2).trans rfl⟩ (fun hHeld => ?_)
    clear hK K
    refine norm_ (a' := ?_) ?_ ?_
    rotate_left
    ·show Act.put _ (some 49) _ = _
     refine ps ?_
     rfl
    refine one_ (i := 3) (N := some 50) #[true, true, true, true, true, false, false, false] rfl rfl (one_of HT_.out (by kernel_rfl)) (by decide) (fun K hK => ?_)
    refine goes_ Try.func55 (by kernel_rfl) rfl #[.agg #[.int .i64 t408, .int .i64 t409, .int .i64 t410], .int .i64 t415] (by rfl) rfl rfl pm ?_
    with_reducible refine (imageeditorref10_SetSat.calls kj5 t408 t409 t410 t415 t416 t417 t418 _ A41.out).mono ?_
    rintro e w46 ⟨rfl, hb⟩
    refine ⟨_, rfl, ?_⟩
    replace KA := bb_ KA hb
    replace KB := bb_ KB hb
    replace KC := bb_ KC hb
    replace KD := bb_ KD hb
    replace KE := bb_ KE hb
    replace KF := bb_ KF hb
    replace HB := Aside0.mk (below_step HB.out hb)
    try clear hb
    refine hK.out _ _ ⟨(blk_cell KE.out 0).trans rfl, (blk_cell KE.out 1).trans rfl, (blk_cell KE.out 2).trans rfl, (blk_cell KD.out 0).trans rfl, (blk_cell KD.out 1).trans rfl, (blk_cell KD.out 2).trans rfl⟩ (fun hHeld => ?_)
    clear hK K
    refine norm_ (a' := ?_) ?_ ?_
    rotate_left
    ·show Act.put _ (some 50) _ = _
     refine ps ?_
     rfl
    refine one_ (i := 5) (N := some 52) #[true, true, true, true, true, true, false, false] rfl rfl (one_of HT_.out (by kernel_rfl)) (by decide) (fun K hK => ?_)
    refine goes_ Try.func57 (by kernel_rfl) rfl #[.agg #[.int .i64 t404, .int .i64 t405, .int .i64 t406]] (by rfl) rfl rfl pm ?_
    with_reducible refine (imageeditorref10_Lum.calls kj5 t404 t405 t406 t419 _ A42.out).mono ?_
    rintro e w47 ⟨rfl, hb⟩
    refine ⟨_, rfl, ?_⟩
    replace KA := bb_ KA hb
    replace KB := bb_ KB hb
    replace KC := bb_ KC hb
    replace KD := bb_ KD hb
    replace KE := bb_ KE hb
    replace KF := bb_ KF hb
    replace HB := Aside0.mk (below_step HB.out hb)
    try clear hb
    refine hK.out _ _ ⟨(blk_cell KE.out 0).trans rfl, (blk_cell KE.out 1).trans rfl, (blk_cell KE.out 2).trans rfl, (blk_cell KD.out 0).trans rfl, (blk_cell KD.out 1).trans rfl, (blk_cell KD.out 2).trans rfl⟩ (fun hHeld => ?_)
    clear hK K
    refine norm_ (a' := ?_) ?_ ?_
    rotate_left
    ·show Act.put _ (some 52) _ = _
     refine ps ?_
     rfl
    refine one_ (i := 6) (N := some 53) #[true, true, true, true, true, true, true, false] rfl rfl (one_of HT_.out (by kernel_rfl)) (by decide) (fun K hK => ?_)
    refine goes_ Try.func54 (by kernel_rfl) rfl #[.agg #[.int .i64 t416, .int .i64 t417, .int .i64 t418], .int .i64 t419] (by rfl) rfl rfl pm ?_
    with_reducible refine (imageeditorref10_SetLum.calls kj5 t416 t417 t418 t419 t420 t421 t422 _ A43.out).mono ?_
    rintro e w48 ⟨rfl, hb⟩
    refine ⟨_, rfl, ?_⟩
    replace KA := bb_ KA hb
    replace KB := bb_ KB hb
    replace KC := bb_ KC hb
    replace KD := bb_ KD hb
    replace KE := bb_ KE hb
    replace KF := bb_ KF hb
    replace HB := Aside0.mk (below_step HB.out hb)
    try clear hb
    refine hK.out _ _ ⟨(blk_cell KE.out 0).trans rfl, (blk_cell KE.out 1).trans rfl, (blk_cell KE.out 2).trans rfl, (blk_cell KD.out 0).trans rfl, (blk_cell KD.out 1).trans rfl, (blk_cell KD.out 2).trans rfl⟩ (fun hHeld => ?_)
    clear hK K
    refine norm_ (a' := ?_) ?_ ?_
    rotate_left
    ·show Act.put _ (some 53) _ = _
     refine ps ?_
     rfl
    refine one_ (i := 7) (N := none) #[true, true, true, true, true, true, true, true] rfl rfl (one_of HT_.out (by kernel_rfl)) (by decide) (fun K hK => ?_)
    have hs49 := ci_ KF 0 (.int .i64 0)
    have hfs49 := blk_frozen KF.out 0
    have hns49_0 := NAF.out
    have hns49_1 := NBF.out
    have hns49_2 := NCF.out
    have hns49_3 := NDF.out
    have hns49_4 := NEF.out
    have hms49_0 := NFA.out
    have hms49_1 := NFB.out
    have hms49_2 := NFC.out
    have hms49_3 := NFD.out
    have hms49_4 := NFE.out
    have hs50 := ci_ KF 1 (.int .i64 0)
    have hfs50 := blk_frozen KF.out 1
    have hns50_0 := NAF.out
    have hns50_1 := NBF.out
    have hns50_2 := NCF.out
    have hns50_3 := NDF.out
    have hns50_4 := NEF.out
    have hms50_0 := NFA.out
    have hms50_1 := NFB.out
    have hms50_2 := NFC.out
    have hms50_3 := NFD.out
    have hms50_4 := NFE.out
    have hs51 := ci_ KF 2 (.int .i64 0)
    have hfs51 := blk_frozen KF.out 2
    have hns51_0 := NAF.out
    have hns51_1 := NBF.out
    have hns51_2 := NCF.out
    have hns51_3 := NDF.out
    have hns51_4 := NEF.out
    have hms51_0 := NFA.out
    have hms51_1 := NFB.out
    have hms51_2 := NFC.out
    have hms51_3 := NFD.out
    have hms51_4 := NFE.out
    refine skip_ (w1 := ?_) (by rfl) rfl ?_ ?_
    rotate_left
    ·go_simp
     rfl
    refine hK.out _ _ ⟨((cell_far (p := ⟨gF, _, none⟩) NEF.out _).trans (((cell_far (p := ⟨gF, _, none⟩) NEF.out _).trans (((cell_far (p := ⟨gF, _, none⟩) NEF.out _).trans (hHeld.1)))))), ((cell_far (p := ⟨gF, _, none⟩) NEF.out _).trans (((cell_far (p := ⟨gF, _, none⟩) NEF.out _).trans (((cell_far (p := ⟨gF, _, none⟩) NEF.out _).trans (hHeld.2.1)))))), ((cell_far (p := ⟨gF, _, none⟩) NEF.out _).trans (((cell_far (p := ⟨gF, _, none⟩) NEF.out _).trans (((cell_far (p := ⟨gF, _, none⟩) NEF.out _).trans (hHeld.2.2.1)))))), ((cell_far (p := ⟨gF, _, none⟩) NDF.out _).trans (((cell_far (p := ⟨gF, _, none⟩) NDF.out _).trans (((cell_far (p := ⟨gF, _, none⟩) NDF.out _).trans (hHeld.2.2.2.1)))))), ((cell_far (p := ⟨gF, _, none⟩) NDF.out _).trans (((cell_far (p := ⟨gF, _, none⟩) NDF.out _).trans (((cell_far (p := ⟨gF, _, none⟩) NDF.out _).trans (hHeld.2.2.2.2.1)))))), ((cell_far (p := ⟨gF, _, none⟩) NDF.out _).trans (((cell_far (p := ⟨gF, _, none⟩) NDF.out _).trans (((cell_far (p := ⟨gF, _, none⟩) NDF.out _).trans (hHeld.2.2.2.2.2))))))⟩ (fun hHeld => ?_)
    clear hK K
    refine done_ (done_of HT_.out (by kernel_rfl)) ?_
    have hnb52 := NFA.out
    have hnc52 := NAF.out
    have hnb53 := NFB.out
    have hnc53 := NBF.out
    have hnb54 := NFC.out
    have hnc54 := NCF.out
    have hnb55 := NFD.out
    have hnc55 := NDF.out
    have hnb56 := NFE.out
    have hnc56 := NEF.out
    have hcz57_0 := ci_ KF 0 (.int .i64 0)
    have hcz57_1 := ci_ KF 1 (.int .i64 0)
    have hcz57_2 := ci_ KF 2 (.int .i64 0)
    have hfz57_0 := blk_frozen KF.out 0
    have hfz57_1 := blk_frozen KF.out 1
    have hfz57_2 := blk_frozen KF.out 2
    have hnb58 := NCA.out
    have hnc58 := NAC.out
    have hnb59 := NCB.out
    have hnc59 := NBC.out
    have hnb60 := NCD.out
    have hnc60 := NDC.out
    have hnb61 := NCE.out
    have hnc61 := NEC.out
    have hcz62_0 := ci_ KC 0 (.int .i64 0)
    have hcz62_1 := ci_ KC 1 (.int .i64 0)
    have hcz62_2 := ci_ KC 2 (.int .i64 0)
    have hcz62_3 := ci_ KC 3 (.int .i64 0)
    have hfz62_0 := blk_frozen KC.out 0
    have hfz62_1 := blk_frozen KC.out 1
    have hfz62_2 := blk_frozen KC.out 2
    have hfz62_3 := blk_frozen KC.out 3
    try go_wp2
    refine bodyPost_ret (results_cell_row rfl _ _ gC 32 #[.int .i64 t420, .int .i64 t421, .int .i64 t422, .int .i64 65535] (0, 0) _ rfl (by refine pl ?_; refine blk_put (cs := #[.int .i64 t420, .int .i64 t421, .int .i64 t422, .int .i64 0]) ?_ 3 _ rfl; refine pl ?_; refine blk_put (cs := #[.int .i64 t420, .int .i64 t421, .int .i64 0, .int .i64 0]) ?_ 2 _ rfl; refine pl ?_; refine blk_put (cs := #[.int .i64 t420, .int .i64 0, .int .i64 0, .int .i64 0]) ?_ 1 _ rfl; refine pl ?_; refine blk_put (cs := #[.int .i64 0, .int .i64 0, .int .i64 0, .int .i64 0]) ?_ 0 _ rfl; refine pl ?_; refine blk_far ?_ NCF.out _; refine pl ?_; refine blk_far ?_ NCF.out _; refine pl ?_; refine blk_far ?_ NCF.out _; refine pl ?_; exact KC.out) Try.underlying32 rfl (by kernel_rfl)) rfl ?_
    exact ⟨by first | rfl | (simp [errW_none, errW_some] <;> rfl) | (simp [*, errW_none, errW_some] <;> rfl), by repeat (first | (with_reducible first | exact HB.out | apply below_alloc | apply pw_below_drewN | apply below_drew1 | refine below_set ?_ GEA.out | refine below_set ?_ GEB.out | refine below_set ?_ GEC.out | refine below_set ?_ GED.out | refine below_set ?_ GEE.out | refine below_set ?_ GEF.out) | exact HB.out)⟩
   ·rw [if_neg c39] at H
    have c39b0 : (x30_5 == 14) = false := beq_eq_false_iff_ne.mpr c39
    have c39b1 : (x30_5 != 14) = true := bne_iff_ne.mpr c39
    by_cases c63 : x30_5 = 15
    ·rw [if_pos c63] at H
     have c63b0 : (x30_5 == 15) = true := beq_iff_eq.mpr c63
     have c63b1 : (x30_5 != 15) = false := bne_eq_false_iff_eq.mpr c63
     clear c63
     replace H := Option.bind_eq_some_iff.mp H
     obtain ⟨t423, A640, H⟩ := H
     replace H : ((imageeditorref10_SetSat.f kj5 t404 t405 t406 t423).bind fun bt424 => ((imageeditorref10_Lum.f kj5 t404 t405 t406).bind fun t427 => ((imageeditorref10_SetLum.f kj5 bt424.1 bt424.2.1 bt424.2.2 t427).bind fun bt428 => (some (bt428.1, bt428.2.1, bt428.2.2, 65535))))) = some (r1, r2, r3, r4) := H
     have A64 := Aside0.mk A640
     clear A640
     replace H := Option.bind_eq_some_iff.mp H
     obtain ⟨⟨t424, t425, t426⟩, A650, H⟩ := H
     replace H : ((imageeditorref10_Lum.f kj5 t404 t405 t406).bind fun t427 => ((imageeditorref10_SetLum.f kj5 t424 t425 t426 t427).bind fun bt428 => (some (bt428.1, bt428.2.1, bt428.2.2, 65535)))) = some (r1, r2, r3, r4) := H
     have A65 := Aside0.mk A650
     clear A650
     replace H := Option.bind_eq_some_iff.mp H
     obtain ⟨t427, A660, H⟩ := H
     replace H : ((imageeditorref10_SetLum.f kj5 t424 t425 t426 t427).bind fun bt428 => (some (bt428.1, bt428.2.1, bt428.2.2, 65535))) = some (r1, r2, r3, r4) := H
     have A66 := Aside0.mk A660
     clear A660
     replace H := Option.bind_eq_some_iff.mp H
     obtain ⟨⟨t428, t429, t430⟩, A670, H⟩ := H
     replace H : (some (t428, t429, t430, 65535)) = some (r1, r2, r3, r4) := H
     have A67 := Aside0.mk A670
     clear A670
     simp only [Option.some.injEq, Prod.mk.injEq] at H
     obtain ⟨rfl, rfl, rfl, rfl⟩ := H
     try go_wp2
     replace KA := Aside0.mk (blk_drew KA.out)
     replace KB := Aside0.mk (blk_drew KB.out)
     replace KC := Aside0.mk (blk_drew KC.out)
     replace KD := Aside0.mk (blk_drew KD.out)
     replace KE := Aside0.mk (blk_drew KE.out)
     replace KF := Aside0.mk (blk_drew KF.out)
     replace HB := Aside0.mk (below_drew1 HB.out)
     refine start_ (n := 8) (S := fun w' => w'.cell? ⟨gD, 0, none⟩ = some (.int .i64 t404) ∧ w'.cell? ⟨gD, 1, none⟩ = some (.int .i64 t405) ∧ w'.cell? ⟨gD, 2, none⟩ = some (.int .i64 t406) ∧ w'.cell? ⟨gE, 0, none⟩ = some (.int .i64 t408) ∧ w'.cell? ⟨gE, 1, none⟩ = some (.int .i64 t409) ∧ w'.cell? ⟨gE, 2, none⟩ = some (.int .i64 t410)) (ds := []) #[false, false, false, false, false, false, false, false] (by kernel_rfl) rfl rfl ⟨(blk_cell KD.out 0).trans rfl, (blk_cell KD.out 1).trans rfl, (blk_cell KD.out 2).trans rfl, (blk_cell KE.out 0).trans rfl, (blk_cell KE.out 1).trans rfl, (blk_cell KE.out 2).trans rfl⟩ (fun hHeld => ?_); refine with_tabW imageeditorref10_Colors.tab12 imageeditorref10_Colors.bits12 (fun HT_ HW_ => ?_)
     generalize wc.drew = w68 at KA KB KC KD KE KF HB hHeld ⊢
     refine take_ (i := 0) (N := some 56) (v := ?_) (a' := ?_) #[true, false, false, false, false, false, false, false] rfl rfl (take_ofW HT_.out HW_.out (by kernel_rfl)) (fun _ _ _ h => h) (Or.inl ⟨by rfl, ?_⟩) hHeld ?_ ?_
     rotate_left
     ·rintro w' ⟨s0, s1, s2, s3, s4, s5⟩
      go_simp
      with_reducible rfl
     rotate_left
     ·refine ps ?_
      rfl
     refine take_ (i := 1) (N := some 57) (v := ?_) (a' := ?_) #[true, true, false, false, false, false, false, false] rfl rfl (take_ofW HT_.out HW_.out (by kernel_rfl)) (fun _ _ _ h => h) (Or.inl ⟨by rfl, ?_⟩) hHeld ?_ ?_
     rotate_left
     ·rintro w' ⟨s0, s1, s2, s3, s4, s5⟩
      go_simp
      with_reducible rfl
     rotate_left
     ·refine ps ?_
      rfl
     refine take_ (i := 4) (N := some 60) (v := ?_) (a' := ?_) #[true, true, false, false, true, false, false, false] rfl rfl (take_ofW HT_.out HW_.out (by kernel_rfl)) (fun _ _ _ h => h) (Or.inl ⟨by rfl, ?_⟩) hHeld ?_ ?_
     rotate_left
     ·rintro w' ⟨s0, s1, s2, s3, s4, s5⟩
      go_simp
      with_reducible rfl
     rotate_left
     ·refine ps ?_
      rfl
     refine one_ (i := 2) (N := some 58) #[true, true, true, false, true, false, false, false] rfl rfl (one_of HT_.out (by kernel_rfl)) (by decide) (fun K hK => ?_)
     refine goes_ Try.func56 (by kernel_rfl) rfl #[.agg #[.int .i64 t408, .int .i64 t409, .int .i64 t410]] (by rfl) rfl rfl pm ?_
     with_reducible refine (imageeditorref10_Sat.calls t408 t409 t410 t423 _ A64.out).mono ?_
     rintro e w69 ⟨rfl, hb⟩
     refine ⟨_, rfl, ?_⟩
     replace KA := bb_ KA hb
     replace KB := bb_ KB hb
     replace KC := bb_ KC hb
     replace KD := bb_ KD hb
     replace KE := bb_ KE hb
     replace KF := bb_ KF hb
     replace HB := Aside0.mk (below_step HB.out hb)
     try clear hb
     refine hK.out _ _ ⟨(blk_cell KD.out 0).trans rfl, (blk_cell KD.out 1).trans rfl, (blk_cell KD.out 2).trans rfl, (blk_cell KE.out 0).trans rfl, (blk_cell KE.out 1).trans rfl, (blk_cell KE.out 2).trans rfl⟩ (fun hHeld => ?_)
     clear hK K
     refine norm_ (a' := ?_) ?_ ?_
     rotate_left
     ·show Act.put _ (some 58) _ = _
      refine ps ?_
      rfl
     refine one_ (i := 3) (N := some 59) #[true, true, true, true, true, false, false, false] rfl rfl (one_of HT_.out (by kernel_rfl)) (by decide) (fun K hK => ?_)
     refine goes_ Try.func55 (by kernel_rfl) rfl #[.agg #[.int .i64 t404, .int .i64 t405, .int .i64 t406], .int .i64 t423] (by rfl) rfl rfl pm ?_
     with_reducible refine (imageeditorref10_SetSat.calls kj5 t404 t405 t406 t423 t424 t425 t426 _ A65.out).mono ?_
     rintro e w70 ⟨rfl, hb⟩
     refine ⟨_, rfl, ?_⟩
     replace KA := bb_ KA hb
     replace KB := bb_ KB hb
     replace KC := bb_ KC hb
     replace KD := bb_ KD hb
     replace KE := bb_ KE hb
     replace KF := bb_ KF hb
     replace HB := Aside0.mk (below_step HB.out hb)
     try clear hb
     refine hK.out _ _ ⟨(blk_cell KD.out 0).trans rfl, (blk_cell KD.out 1).trans rfl, (blk_cell KD.out 2).trans rfl, (blk_cell KE.out 0).trans rfl, (blk_cell KE.out 1).trans rfl, (blk_cell KE.out 2).trans rfl⟩ (fun hHeld => ?_)
     clear hK K
     refine norm_ (a' := ?_) ?_ ?_
     rotate_left
     ·show Act.put _ (some 59) _ = _
      refine ps ?_
      rfl
     refine one_ (i := 5) (N := some 61) #[true, true, true, true, true, true, false, false] rfl rfl (one_of HT_.out (by kernel_rfl)) (by decide) (fun K hK => ?_)
     refine goes_ Try.func57 (by kernel_rfl) rfl #[.agg #[.int .i64 t404, .int .i64 t405, .int .i64 t406]] (by rfl) rfl rfl pm ?_
     with_reducible refine (imageeditorref10_Lum.calls kj5 t404 t405 t406 t427 _ A66.out).mono ?_
     rintro e w71 ⟨rfl, hb⟩
     refine ⟨_, rfl, ?_⟩
     replace KA := bb_ KA hb
     replace KB := bb_ KB hb
     replace KC := bb_ KC hb
     replace KD := bb_ KD hb
     replace KE := bb_ KE hb
     replace KF := bb_ KF hb
     replace HB := Aside0.mk (below_step HB.out hb)
     try clear hb
     refine hK.out _ _ ⟨(blk_cell KD.out 0).trans rfl, (blk_cell KD.out 1).trans rfl, (blk_cell KD.out 2).trans rfl, (blk_cell KE.out 0).trans rfl, (blk_cell KE.out 1).trans rfl, (blk_cell KE.out 2).trans rfl⟩ (fun hHeld => ?_)
     clear hK K
     refine norm_ (a' := ?_) ?_ ?_
     rotate_left
     ·show Act.put _ (some 61) _ = _
      refine ps ?_
      rfl
     refine one_ (i := 6) (N := some 62) #[true, true, true, true, true, true, true, false] rfl rfl (one_of HT_.out (by kernel_rfl)) (by decide) (fun K hK => ?_)
     refine goes_ Try.func54 (by kernel_rfl) rfl #[.agg #[.int .i64 t424, .int .i64 t425, .int .i64 t426], .int .i64 t427] (by rfl) rfl rfl pm ?_
     with_reducible refine (imageeditorref10_SetLum.calls kj5 t424 t425 t426 t427 t428 t429 t430 _ A67.out).mono ?_
     rintro e w72 ⟨rfl, hb⟩
     refine ⟨_, rfl, ?_⟩
     replace KA := bb_ KA hb
     replace KB := bb_ KB hb
     replace KC := bb_ KC hb
     replace KD := bb_ KD hb
     replace KE := bb_ KE hb
     replace KF := bb_ KF hb
     replace HB := Aside0.mk (below_step HB.out hb)
     try clear hb
     refine hK.out _ _ ⟨(blk_cell KD.out 0).trans rfl, (blk_cell KD.out 1).trans rfl, (blk_cell KD.out 2).trans rfl, (blk_cell KE.out 0).trans rfl, (blk_cell KE.out 1).trans rfl, (blk_cell KE.out 2).trans rfl⟩ (fun hHeld => ?_)
     clear hK K
     refine norm_ (a' := ?_) ?_ ?_
     rotate_left
     ·show Act.put _ (some 62) _ = _
      refine ps ?_
      rfl
     refine one_ (i := 7) (N := none) #[true, true, true, true, true, true, true, true] rfl rfl (one_of HT_.out (by kernel_rfl)) (by decide) (fun K hK => ?_)
     have hs73 := ci_ KF 0 (.int .i64 0)
     have hfs73 := blk_frozen KF.out 0
     have hns73_0 := NAF.out
     have hns73_1 := NBF.out
     have hns73_2 := NCF.out
     have hns73_3 := NDF.out
     have hns73_4 := NEF.out
     have hms73_0 := NFA.out
     have hms73_1 := NFB.out
     have hms73_2 := NFC.out
     have hms73_3 := NFD.out
     have hms73_4 := NFE.out
     have hs74 := ci_ KF 1 (.int .i64 0)
     have hfs74 := blk_frozen KF.out 1
     have hns74_0 := NAF.out
     have hns74_1 := NBF.out
     have hns74_2 := NCF.out
     have hns74_3 := NDF.out
     have hns74_4 := NEF.out
     have hms74_0 := NFA.out
     have hms74_1 := NFB.out
     have hms74_2 := NFC.out
     have hms74_3 := NFD.out
     have hms74_4 := NFE.out
     have hs75 := ci_ KF 2 (.int .i64 0)
     have hfs75 := blk_frozen KF.out 2
     have hns75_0 := NAF.out
     have hns75_1 := NBF.out
     have hns75_2 := NCF.out
     have hns75_3 := NDF.out
     have hns75_4 := NEF.out
     have hms75_0 := NFA.out
     have hms75_1 := NFB.out
     have hms75_2 := NFC.out
     have hms75_3 := NFD.out
     have hms75_4 := NFE.out
     refine skip_ (w1 := ?_) (by rfl) rfl ?_ ?_
     rotate_left
     ·go_simp
      rfl
     refine hK.out _ _ ⟨((cell_far (p := ⟨gF, _, none⟩) NDF.out _).trans (((cell_far (p := ⟨gF, _, none⟩) NDF.out _).trans (((cell_far (p := ⟨gF, _, none⟩) NDF.out _).trans (hHeld.1)))))), ((cell_far (p := ⟨gF, _, none⟩) NDF.out _).trans (((cell_far (p := ⟨gF, _, none⟩) NDF.out _).trans (((cell_far (p := ⟨gF, _, none⟩) NDF.out _).trans (hHeld.2.1)))))), ((cell_far (p := ⟨gF, _, none⟩) NDF.out _).trans (((cell_far (p := ⟨gF, _, none⟩) NDF.out _).trans (((cell_far (p := ⟨gF, _, none⟩) NDF.out _).trans (hHeld.2.2.1)))))), ((cell_far (p := ⟨gF, _, none⟩) NEF.out _).trans (((cell_far (p := ⟨gF, _, none⟩) NEF.out _).trans (((cell_far (p := ⟨gF, _, none⟩) NEF.out _).trans (hHeld.2.2.2.1)))))), ((cell_far (p := ⟨gF, _, none⟩) NEF.out _).trans (((cell_far (p := ⟨gF, _, none⟩) NEF.out _).trans (((cell_far (p := ⟨gF, _, none⟩) NEF.out _).trans (hHeld.2.2.2.2.1)))))), ((cell_far (p := ⟨gF, _, none⟩) NEF.out _).trans (((cell_far (p := ⟨gF, _, none⟩) NEF.out _).trans (((cell_far (p := ⟨gF, _, none⟩) NEF.out _).trans (hHeld.2.2.2.2.2))))))⟩ (fun hHeld => ?_)
     clear hK K
     refine done_ (done_of HT_.out (by kernel_rfl)) ?_
     have hnb76 := NFA.out
     have hnc76 := NAF.out
     have hnb77 := NFB.out
     have hnc77 := NBF.out
     have hnb78 := NFC.out
     have hnc78 := NCF.out
     have hnb79 := NFD.out
     have hnc79 := NDF.out
     have hnb80 := NFE.out
     have hnc80 := NEF.out
     have hcz81_0 := ci_ KF 0 (.int .i64 0)
     have hcz81_1 := ci_ KF 1 (.int .i64 0)
     have hcz81_2 := ci_ KF 2 (.int .i64 0)
     have hfz81_0 := blk_frozen KF.out 0
     have hfz81_1 := blk_frozen KF.out 1
     have hfz81_2 := blk_frozen KF.out 2
     have hnb82 := NCA.out
     have hnc82 := NAC.out
     have hnb83 := NCB.out
     have hnc83 := NBC.out
     have hnb84 := NCD.out
     have hnc84 := NDC.out
     have hnb85 := NCE.out
     have hnc85 := NEC.out
     have hcz86_0 := ci_ KC 0 (.int .i64 0)
     have hcz86_1 := ci_ KC 1 (.int .i64 0)
     have hcz86_2 := ci_ KC 2 (.int .i64 0)
     have hcz86_3 := ci_ KC 3 (.int .i64 0)
     have hfz86_0 := blk_frozen KC.out 0
     have hfz86_1 := blk_frozen KC.out 1
     have hfz86_2 := blk_frozen KC.out 2
     have hfz86_3 := blk_frozen KC.out 3
     try go_wp2
     refine bodyPost_ret (results_cell_row rfl _ _ gC 32 #[.int .i64 t428, .int .i64 t429, .int .i64 t430, .int .i64 65535] (0, 0) _ rfl (by refine pl ?_; refine blk_put (cs := #[.int .i64 t428, .int .i64 t429, .int .i64 t430, .int .i64 0]) ?_ 3 _ rfl; refine pl ?_; refine blk_put (cs := #[.int .i64 t428, .int .i64 t429, .int .i64 0, .int .i64 0]) ?_ 2 _ rfl; refine pl ?_; refine blk_put (cs := #[.int .i64 t428, .int .i64 0, .int .i64 0, .int .i64 0]) ?_ 1 _ rfl; refine pl ?_; refine blk_put (cs := #[.int .i64 0, .int .i64 0, .int .i64 0, .int .i64 0]) ?_ 0 _ rfl; refine pl ?_; refine blk_far ?_ NCF.out _; refine pl ?_; refine blk_far ?_ NCF.out _; refine pl ?_; refine blk_far ?_ NCF.out _; refine pl ?_; exact KC.out) Try.underlying32 rfl (by kernel_rfl)) rfl ?_
     exact ⟨by first | rfl | (simp [errW_none, errW_some] <;> rfl) | (simp [*, errW_none, errW_some] <;> rfl), by repeat (first | (with_reducible first | exact HB.out | apply below_alloc | apply pw_below_drewN | apply below_drew1 | refine below_set ?_ GEA.out | refine below_set ?_ GEB.out | refine below_set ?_ GEC.out | refine below_set ?_ GED.out | refine below_set ?_ GEE.out | refine below_set ?_ GEF.out) | exact HB.out)⟩
    ·rw [if_neg c63] at H
     have c63b0 : (x30_5 == 15) = false := beq_eq_false_iff_ne.mpr c63
     have c63b1 : (x30_5 != 15) = true := bne_iff_ne.mpr c63
     by_cases c87 : x30_5 = 16
     ·rw [if_pos c87] at H
      have c87b0 : (x30_5 == 16) = true := beq_iff_eq.mpr c87
      have c87b1 : (x30_5 != 16) = false := bne_eq_false_iff_eq.mpr c87
      clear c87
      replace H := Option.bind_eq_some_iff.mp H
      obtain ⟨t431, A880, H⟩ := H
      replace H : ((imageeditorref10_SetLum.f kj5 t408 t409 t410 t431).bind fun bt432 => (some (bt432.1, bt432.2.1, bt432.2.2, 65535))) = some (r1, r2, r3, r4) := H
      have A88 := Aside0.mk A880
      clear A880
      replace H := Option.bind_eq_some_iff.mp H
      obtain ⟨⟨t432, t433, t434⟩, A890, H⟩ := H
      replace H : (some (t432, t433, t434, 65535)) = some (r1, r2, r3, r4) := H
      have A89 := Aside0.mk A890
      clear A890
      simp only [Option.some.injEq, Prod.mk.injEq] at H
      obtain ⟨rfl, rfl, rfl, rfl⟩ := H
      try go_wp2
      replace KA := Aside0.mk (blk_drew KA.out)
      replace KB := Aside0.mk (blk_drew KB.out)
      replace KC := Aside0.mk (blk_drew KC.out)
      replace KD := Aside0.mk (blk_drew KD.out)
      replace KE := Aside0.mk (blk_drew KE.out)
      replace KF := Aside0.mk (blk_drew KF.out)
      replace HB := Aside0.mk (below_drew1 HB.out)
      refine start_ (n := 5) (S := fun w' => w'.cell? ⟨gE, 0, none⟩ = some (.int .i64 t408) ∧ w'.cell? ⟨gE, 1, none⟩ = some (.int .i64 t409) ∧ w'.cell? ⟨gE, 2, none⟩ = some (.int .i64 t410) ∧ w'.cell? ⟨gD, 0, none⟩ = some (.int .i64 t404) ∧ w'.cell? ⟨gD, 1, none⟩ = some (.int .i64 t405) ∧ w'.cell? ⟨gD, 2, none⟩ = some (.int .i64 t406)) (ds := []) #[false, false, false, false, false] (by kernel_rfl) rfl rfl ⟨(blk_cell KE.out 0).trans rfl, (blk_cell KE.out 1).trans rfl, (blk_cell KE.out 2).trans rfl, (blk_cell KD.out 0).trans rfl, (blk_cell KD.out 1).trans rfl, (blk_cell KD.out 2).trans rfl⟩ (fun hHeld => ?_)
      generalize wc.drew = w90 at KA KB KC KD KE KF HB hHeld ⊢
      refine take_ (i := 0) (N := some 65) (v := ?_) (a' := ?_) #[true, false, false, false, false] rfl rfl (by kernel_rfl) (fun _ _ _ h => h) (Or.inl ⟨by rfl, ?_⟩) hHeld ?_ ?_
      rotate_left
      ·rintro w' ⟨s0, s1, s2, s3, s4, s5⟩
       go_simp
       with_reducible rfl
      rotate_left
      ·refine ps ?_
       rfl
      refine take_ (i := 1) (N := some 66) (v := ?_) (a' := ?_) #[true, true, false, false, false] rfl rfl (by kernel_rfl) (fun _ _ _ h => h) (Or.inl ⟨by rfl, ?_⟩) hHeld ?_ ?_
      rotate_left
      ·rintro w' ⟨s0, s1, s2, s3, s4, s5⟩
       go_simp
       with_reducible rfl
      rotate_left
      ·refine ps ?_
       rfl
      refine one_ (i := 2) (N := some 67) #[true, true, true, false, false] rfl rfl (by kernel_rfl) (by decide) (fun K hK => ?_)
      refine goes_ Try.func57 (by kernel_rfl) rfl #[.agg #[.int .i64 t404, .int .i64 t405, .int .i64 t406]] (by rfl) rfl rfl pm ?_
      with_reducible refine (imageeditorref10_Lum.calls kj5 t404 t405 t406 t431 _ A88.out).mono ?_
      rintro e w91 ⟨rfl, hb⟩
      refine ⟨_, rfl, ?_⟩
      replace KA := bb_ KA hb
      replace KB := bb_ KB hb
      replace KC := bb_ KC hb
      replace KD := bb_ KD hb
      replace KE := bb_ KE hb
      replace KF := bb_ KF hb
      replace HB := Aside0.mk (below_step HB.out hb)
      try clear hb
      refine hK.out _ _ ⟨(blk_cell KE.out 0).trans rfl, (blk_cell KE.out 1).trans rfl, (blk_cell KE.out 2).trans rfl, (blk_cell KD.out 0).trans rfl, (blk_cell KD.out 1).trans rfl, (blk_cell KD.out 2).trans rfl⟩ (fun hHeld => ?_)
      clear hK K
      refine norm_ (a' := ?_) ?_ ?_
      rotate_left
      ·show Act.put _ (some 67) _ = _
       refine ps ?_
       rfl
      refine one_ (i := 3) (N := some 68) #[true, true, true, true, false] rfl rfl (by kernel_rfl) (by decide) (fun K hK => ?_)
      refine goes_ Try.func54 (by kernel_rfl) rfl #[.agg #[.int .i64 t408, .int .i64 t409, .int .i64 t410], .int .i64 t431] (by rfl) rfl rfl pm ?_
      with_reducible refine (imageeditorref10_SetLum.calls kj5 t408 t409 t410 t431 t432 t433 t434 _ A89.out).mono ?_
      rintro e w92 ⟨rfl, hb⟩
      refine ⟨_, rfl, ?_⟩
      replace KA := bb_ KA hb
      replace KB := bb_ KB hb
      replace KC := bb_ KC hb
      replace KD := bb_ KD hb
      replace KE := bb_ KE hb
      replace KF := bb_ KF hb
      replace HB := Aside0.mk (below_step HB.out hb)
      try clear hb
      refine hK.out _ _ ⟨(blk_cell KE.out 0).trans rfl, (blk_cell KE.out 1).trans rfl, (blk_cell KE.out 2).trans rfl, (blk_cell KD.out 0).trans rfl, (blk_cell KD.out 1).trans rfl, (blk_cell KD.out 2).trans rfl⟩ (fun hHeld => ?_)
      clear hK K
      refine norm_ (a' := ?_) ?_ ?_
      rotate_left
      ·show Act.put _ (some 68) _ = _
       refine ps ?_
       rfl
      refine one_ (i := 4) (N := none) #[true, true, true, true, true] rfl rfl (by kernel_rfl) (by decide) (fun K hK => ?_)
      have hs93 := ci_ KF 0 (.int .i64 0)
      have hfs93 := blk_frozen KF.out 0
      have hns93_0 := NAF.out
      have hns93_1 := NBF.out
      have hns93_2 := NCF.out
      have hns93_3 := NDF.out
      have hns93_4 := NEF.out
      have hms93_0 := NFA.out
      have hms93_1 := NFB.out
      have hms93_2 := NFC.out
      have hms93_3 := NFD.out
      have hms93_4 := NFE.out
      have hs94 := ci_ KF 1 (.int .i64 0)
      have hfs94 := blk_frozen KF.out 1
      have hns94_0 := NAF.out
      have hns94_1 := NBF.out
      have hns94_2 := NCF.out
      have hns94_3 := NDF.out
      have hns94_4 := NEF.out
      have hms94_0 := NFA.out
      have hms94_1 := NFB.out
      have hms94_2 := NFC.out
      have hms94_3 := NFD.out
      have hms94_4 := NFE.out
      have hs95 := ci_ KF 2 (.int .i64 0)
      have hfs95 := blk_frozen KF.out 2
      have hns95_0 := NAF.out
      have hns95_1 := NBF.out
      have hns95_2 := NCF.out
      have hns95_3 := NDF.out
      have hns95_4 := NEF.out
      have hms95_0 := NFA.out
      have hms95_1 := NFB.out
      have hms95_2 := NFC.out
      have hms95_3 := NFD.out
      have hms95_4 := NFE.out
      refine skip_ (w1 := ?_) (by rfl) rfl ?_ ?_
      rotate_left
      ·go_simp
       rfl
      refine hK.out _ _ ⟨((cell_far (p := ⟨gF, _, none⟩) NEF.out _).trans (((cell_far (p := ⟨gF, _, none⟩) NEF.out _).trans (((cell_far (p := ⟨gF, _, none⟩) NEF.out _).trans (hHeld.1)))))), ((cell_far (p := ⟨gF, _, none⟩) NEF.out _).trans (((cell_far (p := ⟨gF, _, none⟩) NEF.out _).trans (((cell_far (p := ⟨gF, _, none⟩) NEF.out _).trans (hHeld.2.1)))))), ((cell_far (p := ⟨gF, _, none⟩) NEF.out _).trans (((cell_far (p := ⟨gF, _, none⟩) NEF.out _).trans (((cell_far (p := ⟨gF, _, none⟩) NEF.out _).trans (hHeld.2.2.1)))))), ((cell_far (p := ⟨gF, _, none⟩) NDF.out _).trans (((cell_far (p := ⟨gF, _, none⟩) NDF.out _).trans (((cell_far (p := ⟨gF, _, none⟩) NDF.out _).trans (hHeld.2.2.2.1)))))), ((cell_far (p := ⟨gF, _, none⟩) NDF.out _).trans (((cell_far (p := ⟨gF, _, none⟩) NDF.out _).trans (((cell_far (p := ⟨gF, _, none⟩) NDF.out _).trans (hHeld.2.2.2.2.1)))))), ((cell_far (p := ⟨gF, _, none⟩) NDF.out _).trans (((cell_far (p := ⟨gF, _, none⟩) NDF.out _).trans (((cell_far (p := ⟨gF, _, none⟩) NDF.out _).trans (hHeld.2.2.2.2.2))))))⟩ (fun hHeld => ?_)
      clear hK K
      refine done_ (by kernel_rfl) ?_
      have hnb96 := NFA.out
      have hnc96 := NAF.out
      have hnb97 := NFB.out
      have hnc97 := NBF.out
      have hnb98 := NFC.out
      have hnc98 := NCF.out
      have hnb99 := NFD.out
      have hnc99 := NDF.out
      have hnb100 := NFE.out
      have hnc100 := NEF.out
      have hcz101_0 := ci_ KF 0 (.int .i64 0)
      have hcz101_1 := ci_ KF 1 (.int .i64 0)
      have hcz101_2 := ci_ KF 2 (.int .i64 0)
      have hfz101_0 := blk_frozen KF.out 0
      have hfz101_1 := blk_frozen KF.out 1
      have hfz101_2 := blk_frozen KF.out 2
      have hnb102 := NCA.out
      have hnc102 := NAC.out
      have hnb103 := NCB.out
      have hnc103 := NBC.out
      have hnb104 := NCD.out
      have hnc104 := NDC.out
      have hnb105 := NCE.out
      have hnc105 := NEC.out
      have hcz106_0 := ci_ KC 0 (.int .i64 0)
      have hcz106_1 := ci_ KC 1 (.int .i64 0)
      have hcz106_2 := ci_ KC 2 (.int .i64 0)
      have hcz106_3 := ci_ KC 3 (.int .i64 0)
      have hfz106_0 := blk_frozen KC.out 0
      have hfz106_1 := blk_frozen KC.out 1
      have hfz106_2 := blk_frozen KC.out 2
      have hfz106_3 := blk_frozen KC.out 3
      try go_wp2
      refine bodyPost_ret (results_cell_row rfl _ _ gC 32 #[.int .i64 t432, .int .i64 t433, .int .i64 t434, .int .i64 65535] (0, 0) _ rfl (by refine pl ?_; refine blk_put (cs := #[.int .i64 t432, .int .i64 t433, .int .i64 t434, .int .i64 0]) ?_ 3 _ rfl; refine pl ?_; refine blk_put (cs := #[.int .i64 t432, .int .i64 t433, .int .i64 0, .int .i64 0]) ?_ 2 _ rfl; refine pl ?_; refine blk_put (cs := #[.int .i64 t432, .int .i64 0, .int .i64 0, .int .i64 0]) ?_ 1 _ rfl; refine pl ?_; refine blk_put (cs := #[.int .i64 0, .int .i64 0, .int .i64 0, .int .i64 0]) ?_ 0 _ rfl; refine pl ?_; refine blk_far ?_ NCF.out _; refine pl ?_; refine blk_far ?_ NCF.out _; refine pl ?_; refine blk_far ?_ NCF.out _; refine pl ?_; exact KC.out) Try.underlying32 rfl (by kernel_rfl)) rfl ?_
      exact ⟨by first | rfl | (simp [errW_none, errW_some] <;> rfl) | (simp [*, errW_none, errW_some] <;> rfl), by repeat (first | (with_reducible first | exact HB.out | apply below_alloc | apply pw_below_drewN | apply below_drew1 | refine below_set ?_ GEA.out | refine below_set ?_ GEB.out | refine below_set ?_ GEC.out | refine below_set ?_ GED.out | refine below_set ?_ GEE.out | refine below_set ?_ GEF.out) | exact HB.out)⟩
     ·rw [if_neg c87] at H
      have c87b0 : (x30_5 == 16) = false := beq_eq_false_iff_ne.mpr c87
      have c87b1 : (x30_5 != 16) = true := bne_iff_ne.mpr c87
      by_cases c107 : x30_5 = 17
      ·rw [if_pos c107] at H
       have c107b0 : (x30_5 == 17) = true := beq_iff_eq.mpr c107
       have c107b1 : (x30_5 != 17) = false := bne_eq_false_iff_eq.mpr c107
       clear c107
       replace H := Option.bind_eq_some_iff.mp H
       obtain ⟨t435, A1080, H⟩ := H
       replace H : ((imageeditorref10_SetLum.f kj5 t404 t405 t406 t435).bind fun bt436 => (some (bt436.1, bt436.2.1, bt436.2.2, 65535))) = some (r1, r2, r3, r4) := H
       have A108 := Aside0.mk A1080
       clear A1080
       replace H := Option.bind_eq_some_iff.mp H
       obtain ⟨⟨t436, t437, t438⟩, A1090, H⟩ := H
       replace H : (some (t436, t437, t438, 65535)) = some (r1, r2, r3, r4) := H
       have A109 := Aside0.mk A1090
       clear A1090
       simp only [Option.some.injEq, Prod.mk.injEq] at H
       obtain ⟨rfl, rfl, rfl, rfl⟩ := H
       try go_wp2
       replace KA := Aside0.mk (blk_drew KA.out)
       replace KB := Aside0.mk (blk_drew KB.out)
       replace KC := Aside0.mk (blk_drew KC.out)
       replace KD := Aside0.mk (blk_drew KD.out)
       replace KE := Aside0.mk (blk_drew KE.out)
       replace KF := Aside0.mk (blk_drew KF.out)
       replace HB := Aside0.mk (below_drew1 HB.out)
       refine start_ (n := 5) (S := fun w' => w'.cell? ⟨gD, 0, none⟩ = some (.int .i64 t404) ∧ w'.cell? ⟨gD, 1, none⟩ = some (.int .i64 t405) ∧ w'.cell? ⟨gD, 2, none⟩ = some (.int .i64 t406) ∧ w'.cell? ⟨gE, 0, none⟩ = some (.int .i64 t408) ∧ w'.cell? ⟨gE, 1, none⟩ = some (.int .i64 t409) ∧ w'.cell? ⟨gE, 2, none⟩ = some (.int .i64 t410)) (ds := []) #[false, false, false, false, false] (by kernel_rfl) rfl rfl ⟨(blk_cell KD.out 0).trans rfl, (blk_cell KD.out 1).trans rfl, (blk_cell KD.out 2).trans rfl, (blk_cell KE.out 0).trans rfl, (blk_cell KE.out 1).trans rfl, (blk_cell KE.out 2).trans rfl⟩ (fun hHeld => ?_)
       generalize wc.drew = w110 at KA KB KC KD KE KF HB hHeld ⊢
       refine take_ (i := 0) (N := some 71) (v := ?_) (a' := ?_) #[true, false, false, false, false] rfl rfl (by kernel_rfl) (fun _ _ _ h => h) (Or.inl ⟨by rfl, ?_⟩) hHeld ?_ ?_
       rotate_left
       ·rintro w' ⟨s0, s1, s2, s3, s4, s5⟩
        go_simp
        with_reducible rfl
       rotate_left
       ·refine ps ?_
        rfl
       refine take_ (i := 1) (N := some 72) (v := ?_) (a' := ?_) #[true, true, false, false, false] rfl rfl (by kernel_rfl) (fun _ _ _ h => h) (Or.inl ⟨by rfl, ?_⟩) hHeld ?_ ?_
       rotate_left
       ·rintro w' ⟨s0, s1, s2, s3, s4, s5⟩
        go_simp
        with_reducible rfl
       rotate_left
       ·refine ps ?_
        rfl
       refine one_ (i := 2) (N := some 73) #[true, true, true, false, false] rfl rfl (by kernel_rfl) (by decide) (fun K hK => ?_)
       refine goes_ Try.func57 (by kernel_rfl) rfl #[.agg #[.int .i64 t408, .int .i64 t409, .int .i64 t410]] (by rfl) rfl rfl pm ?_
       with_reducible refine (imageeditorref10_Lum.calls kj5 t408 t409 t410 t435 _ A108.out).mono ?_
       rintro e w111 ⟨rfl, hb⟩
       refine ⟨_, rfl, ?_⟩
       replace KA := bb_ KA hb
       replace KB := bb_ KB hb
       replace KC := bb_ KC hb
       replace KD := bb_ KD hb
       replace KE := bb_ KE hb
       replace KF := bb_ KF hb
       replace HB := Aside0.mk (below_step HB.out hb)
       try clear hb
       refine hK.out _ _ ⟨(blk_cell KD.out 0).trans rfl, (blk_cell KD.out 1).trans rfl, (blk_cell KD.out 2).trans rfl, (blk_cell KE.out 0).trans rfl, (blk_cell KE.out 1).trans rfl, (blk_cell KE.out 2).trans rfl⟩ (fun hHeld => ?_)
       clear hK K
       refine norm_ (a' := ?_) ?_ ?_
       rotate_left
       ·show Act.put _ (some 73) _ = _
        refine ps ?_
        rfl
       refine one_ (i := 3) (N := some 74) #[true, true, true, true, false] rfl rfl (by kernel_rfl) (by decide) (fun K hK => ?_)
       refine goes_ Try.func54 (by kernel_rfl) rfl #[.agg #[.int .i64 t404, .int .i64 t405, .int .i64 t406], .int .i64 t435] (by rfl) rfl rfl pm ?_
       with_reducible refine (imageeditorref10_SetLum.calls kj5 t404 t405 t406 t435 t436 t437 t438 _ A109.out).mono ?_
       rintro e w112 ⟨rfl, hb⟩
       refine ⟨_, rfl, ?_⟩
       replace KA := bb_ KA hb
       replace KB := bb_ KB hb
       replace KC := bb_ KC hb
       replace KD := bb_ KD hb
       replace KE := bb_ KE hb
       replace KF := bb_ KF hb
       replace HB := Aside0.mk (below_step HB.out hb)
       try clear hb
       refine hK.out _ _ ⟨(blk_cell KD.out 0).trans rfl, (blk_cell KD.out 1).trans rfl, (blk_cell KD.out 2).trans rfl, (blk_cell KE.out 0).trans rfl, (blk_cell KE.out 1).trans rfl, (blk_cell KE.out 2).trans rfl⟩ (fun hHeld => ?_)
       clear hK K
       refine norm_ (a' := ?_) ?_ ?_
       rotate_left
       ·show Act.put _ (some 74) _ = _
        refine ps ?_
        rfl
       refine one_ (i := 4) (N := none) #[true, true, true, true, true] rfl rfl (by kernel_rfl) (by decide) (fun K hK => ?_)
       have hs113 := ci_ KF 0 (.int .i64 0)
       have hfs113 := blk_frozen KF.out 0
       have hns113_0 := NAF.out
       have hns113_1 := NBF.out
       have hns113_2 := NCF.out
       have hns113_3 := NDF.out
       have hns113_4 := NEF.out
       have hms113_0 := NFA.out
       have hms113_1 := NFB.out
       have hms113_2 := NFC.out
       have hms113_3 := NFD.out
       have hms113_4 := NFE.out
       have hs114 := ci_ KF 1 (.int .i64 0)
       have hfs114 := blk_frozen KF.out 1
       have hns114_0 := NAF.out
       have hns114_1 := NBF.out
       have hns114_2 := NCF.out
       have hns114_3 := NDF.out
       have hns114_4 := NEF.out
       have hms114_0 := NFA.out
       have hms114_1 := NFB.out
       have hms114_2 := NFC.out
       have hms114_3 := NFD.out
       have hms114_4 := NFE.out
       have hs115 := ci_ KF 2 (.int .i64 0)
       have hfs115 := blk_frozen KF.out 2
       have hns115_0 := NAF.out
       have hns115_1 := NBF.out
       have hns115_2 := NCF.out
       have hns115_3 := NDF.out
       have hns115_4 := NEF.out
       have hms115_0 := NFA.out
       have hms115_1 := NFB.out
       have hms115_2 := NFC.out
       have hms115_3 := NFD.out
       have hms115_4 := NFE.out
       refine skip_ (w1 := ?_) (by rfl) rfl ?_ ?_
       rotate_left
       ·go_simp
        rfl
       refine hK.out _ _ ⟨((cell_far (p := ⟨gF, _, none⟩) NDF.out _).trans (((cell_far (p := ⟨gF, _, none⟩) NDF.out _).trans (((cell_far (p := ⟨gF, _, none⟩) NDF.out _).trans (hHeld.1)))))), ((cell_far (p := ⟨gF, _, none⟩) NDF.out _).trans (((cell_far (p := ⟨gF, _, none⟩) NDF.out _).trans (((cell_far (p := ⟨gF, _, none⟩) NDF.out _).trans (hHeld.2.1)))))), ((cell_far (p := ⟨gF, _, none⟩) NDF.out _).trans (((cell_far (p := ⟨gF, _, none⟩) NDF.out _).trans (((cell_far (p := ⟨gF, _, none⟩) NDF.out _).trans (hHeld.2.2.1)))))), ((cell_far (p := ⟨gF, _, none⟩) NEF.out _).trans (((cell_far (p := ⟨gF, _, none⟩) NEF.out _).trans (((cell_far (p := ⟨gF, _, none⟩) NEF.out _).trans (hHeld.2.2.2.1)))))), ((cell_far (p := ⟨gF, _, none⟩) NEF.out _).trans (((cell_far (p := ⟨gF, _, none⟩) NEF.out _).trans (((cell_far (p := ⟨gF, _, none⟩) NEF.out _).trans (hHeld.2.2.2.2.1)))))), ((cell_far (p := ⟨gF, _, none⟩) NEF.out _).trans (((cell_far (p := ⟨gF, _, none⟩) NEF.out _).trans (((cell_far (p := ⟨gF, _, none⟩) NEF.out _).trans (hHeld.2.2.2.2.2))))))⟩ (fun hHeld => ?_)
       clear hK K
       refine done_ (by kernel_rfl) ?_
       have hnb116 := NFA.out
       have hnc116 := NAF.out
       have hnb117 := NFB.out
       have hnc117 := NBF.out
       have hnb118 := NFC.out
       have hnc118 := NCF.out
       have hnb119 := NFD.out
       have hnc119 := NDF.out
       have hnb120 := NFE.out
       have hnc120 := NEF.out
       have hcz121_0 := ci_ KF 0 (.int .i64 0)
       have hcz121_1 := ci_ KF 1 (.int .i64 0)
       have hcz121_2 := ci_ KF 2 (.int .i64 0)
       have hfz121_0 := blk_frozen KF.out 0
       have hfz121_1 := blk_frozen KF.out 1
       have hfz121_2 := blk_frozen KF.out 2
       have hnb122 := NCA.out
       have hnc122 := NAC.out
       have hnb123 := NCB.out
       have hnc123 := NBC.out
       have hnb124 := NCD.out
       have hnc124 := NDC.out
       have hnb125 := NCE.out
       have hnc125 := NEC.out
       have hcz126_0 := ci_ KC 0 (.int .i64 0)
       have hcz126_1 := ci_ KC 1 (.int .i64 0)
       have hcz126_2 := ci_ KC 2 (.int .i64 0)
       have hcz126_3 := ci_ KC 3 (.int .i64 0)
       have hfz126_0 := blk_frozen KC.out 0
       have hfz126_1 := blk_frozen KC.out 1
       have hfz126_2 := blk_frozen KC.out 2
       have hfz126_3 := blk_frozen KC.out 3
       try go_wp2
       refine bodyPost_ret (results_cell_row rfl _ _ gC 32 #[.int .i64 t436, .int .i64 t437, .int .i64 t438, .int .i64 65535] (0, 0) _ rfl (by refine pl ?_; refine blk_put (cs := #[.int .i64 t436, .int .i64 t437, .int .i64 t438, .int .i64 0]) ?_ 3 _ rfl; refine pl ?_; refine blk_put (cs := #[.int .i64 t436, .int .i64 t437, .int .i64 0, .int .i64 0]) ?_ 2 _ rfl; refine pl ?_; refine blk_put (cs := #[.int .i64 t436, .int .i64 0, .int .i64 0, .int .i64 0]) ?_ 1 _ rfl; refine pl ?_; refine blk_put (cs := #[.int .i64 0, .int .i64 0, .int .i64 0, .int .i64 0]) ?_ 0 _ rfl; refine pl ?_; refine blk_far ?_ NCF.out _; refine pl ?_; refine blk_far ?_ NCF.out _; refine pl ?_; refine blk_far ?_ NCF.out _; refine pl ?_; exact KC.out) Try.underlying32 rfl (by kernel_rfl)) rfl ?_
       exact ⟨by first | rfl | (simp [errW_none, errW_some] <;> rfl) | (simp [*, errW_none, errW_some] <;> rfl), by repeat (first | (with_reducible first | exact HB.out | apply below_alloc | apply pw_below_drewN | apply below_drew1 | refine below_set ?_ GEA.out | refine below_set ?_ GEB.out | refine below_set ?_ GEC.out | refine below_set ?_ GED.out | refine below_set ?_ GEE.out | refine below_set ?_ GEF.out) | exact HB.out)⟩
      ·rw [if_neg c107] at H
       have c107b0 : (x30_5 == 17) = false := beq_eq_false_iff_ne.mpr c107
       have c107b1 : (x30_5 != 17) = true := bne_iff_ne.mpr c107
       replace H := Option.bind_eq_some_iff.mp H
       obtain ⟨t439, A1270, H⟩ := H
       replace H : ((imageeditorref10_Channel.f kj5 a0 t405 t409).bind fun t440 => ((imageeditorref10_Channel.f kj5 a0 t406 t410).bind fun t441 => (some (t439, t440, t441, 65535)))) = some (r1, r2, r3, r4) := H
       have A127 := Aside0.mk A1270
       clear A1270
       replace H := Option.bind_eq_some_iff.mp H
       obtain ⟨t440, A1280, H⟩ := H
       replace H : ((imageeditorref10_Channel.f kj5 a0 t406 t410).bind fun t441 => (some (t439, t440, t441, 65535))) = some (r1, r2, r3, r4) := H
       have A128 := Aside0.mk A1280
       clear A1280
       replace H := Option.bind_eq_some_iff.mp H
       obtain ⟨t441, A1290, H⟩ := H
       replace H : (some (t439, t440, t441, 65535)) = some (r1, r2, r3, r4) := H
       have A129 := Aside0.mk A1290
       clear A1290
       simp only [Option.some.injEq, Prod.mk.injEq] at H
       obtain ⟨rfl, rfl, rfl, rfl⟩ := H
       try go_wp2
       refine wp_loop_rounds 4 ?_
       rw [rounds_succ]
       try go_wp2
       replace KA := Aside0.mk (blk_drew KA.out)
       replace KB := Aside0.mk (blk_drew KB.out)
       replace KC := Aside0.mk (blk_drew KC.out)
       replace KD := Aside0.mk (blk_drew KD.out)
       replace KE := Aside0.mk (blk_drew KE.out)
       replace KF := Aside0.mk (blk_drew KF.out)
       replace HB := Aside0.mk (below_drew1 HB.out)
       refine start_ (n := 11) (S := fun w' => w'.cell? ⟨gD, 0, none⟩ = some (.int .i64 t404) ∧ w'.cell? ⟨gD, 1, none⟩ = some (.int .i64 t405) ∧ w'.cell? ⟨gD, 2, none⟩ = some (.int .i64 t406) ∧ w'.cell? ⟨gE, 0, none⟩ = some (.int .i64 t408) ∧ w'.cell? ⟨gE, 1, none⟩ = some (.int .i64 t409) ∧ w'.cell? ⟨gE, 2, none⟩ = some (.int .i64 t410)) (ds := []) #[false, false, false, false, false, false, false, false, false, false, false] (by kernel_rfl) rfl rfl ⟨(blk_cell KD.out 0).trans rfl, (blk_cell KD.out 1).trans rfl, (blk_cell KD.out 2).trans rfl, (blk_cell KE.out 0).trans rfl, (blk_cell KE.out 1).trans rfl, (blk_cell KE.out 2).trans rfl⟩ (fun hHeld => ?_); refine with_tabW imageeditorref10_Colors.tab8 imageeditorref10_Colors.bits8 (fun HT_ HW_ => ?_)
       generalize wc.drew = w130 at KA KB KC KD KE KF HB hHeld ⊢
       refine pure_ (i := 0) (N := some 35) (v := ?_) (a' := ?_) #[true, false, false, false, false, false, false, false, false, false, false] rfl rfl (any_of HT_.out (by kernel_rfl)) (fun _ _ _ h => h) (Or.inl ⟨by rfl, ?_⟩) ?_ ?_
       rotate_left
       ·intro w'
        go_simp
        with_reducible rfl
       rotate_left
       ·refine ps ?_
        rfl
       refine pure_ (i := 1) (N := some 36) (v := ?_) (a' := ?_) #[true, true, false, false, false, false, false, false, false, false, false] rfl rfl (any_of HT_.out (by kernel_rfl)) (fun _ _ _ h => h) (Or.inl ⟨by rfl, ?_⟩) ?_ ?_
       rotate_left
       ·intro w'
        go_simp
        with_reducible rfl
       rotate_left
       ·refine ps ?_
        rfl
       refine pure_ (i := 2) (N := some 37) (v := ?_) (a' := ?_) #[true, true, true, false, false, false, false, false, false, false, false] rfl rfl (any_of HT_.out (by kernel_rfl)) (fun _ _ _ h => h) (Or.inl ⟨by rfl, ?_⟩) ?_ ?_
       rotate_left
       ·intro w'
        go_simp
        with_reducible rfl
       rotate_left
       ·refine ps ?_
        rfl
       refine pure_ (i := 3) (N := some 38) (v := ?_) (a' := ?_) #[true, true, true, true, false, false, false, false, false, false, false] rfl rfl (any_of HT_.out (by kernel_rfl)) (fun _ _ _ h => h) (Or.inl ⟨by rfl, ?_⟩) ?_ ?_
       rotate_left
       ·intro w'
        go_simp
        with_reducible rfl
       rotate_left
       ·refine ps ?_
        rfl
       refine pure_ (i := 5) (N := some 40) (v := ?_) (a' := ?_) #[true, true, true, true, false, true, false, false, false, false, false] rfl rfl (any_of HT_.out (by kernel_rfl)) (fun _ _ _ h => h) (Or.inl ⟨by rfl, ?_⟩) ?_ ?_
       rotate_left
       ·intro w'
        go_simp
        with_reducible rfl
       rotate_left
       ·refine ps ?_
        rfl
       refine pure_ (i := 6) (N := some 41) (v := ?_) (a' := ?_) #[true, true, true, true, false, true, true, false, false, false, false] rfl rfl (any_of HT_.out (by kernel_rfl)) (fun _ _ _ h => h) (Or.inl ⟨by rfl, ?_⟩) ?_ ?_
       rotate_left
       ·intro w'
        go_simp
        with_reducible rfl
       rotate_left
       ·refine ps ?_
        rfl
       refine take_ (i := 4) (N := some 39) (v := ?_) (a' := ?_) #[true, true, true, true, true, true, true, false, false, false, false] rfl rfl (take_ofW HT_.out HW_.out (by kernel_rfl)) (fun _ _ _ h => h) (Or.inl ⟨by rfl, ?_⟩) hHeld ?_ ?_
       rotate_left
       ·rintro w' ⟨s0, s1, s2, s3, s4, s5⟩
        go_simp
        with_reducible rfl
       rotate_left
       ·refine ps ?_
        rfl
       refine take_ (i := 7) (N := some 42) (v := ?_) (a' := ?_) #[true, true, true, true, true, true, true, true, false, false, false] rfl rfl (take_ofW HT_.out HW_.out (by kernel_rfl)) (fun _ _ _ h => h) (Or.inl ⟨by rfl, ?_⟩) hHeld ?_ ?_
       rotate_left
       ·rintro w' ⟨s0, s1, s2, s3, s4, s5⟩
        go_simp
        with_reducible rfl
       rotate_left
       ·refine ps ?_
        rfl
       refine one_ (i := 8) (N := some 43) #[true, true, true, true, true, true, true, true, true, false, false] rfl rfl (one_of HT_.out (by kernel_rfl)) (by decide) (fun K hK => ?_)
       refine goes_ Try.func23 (by kernel_rfl) rfl #[.int .i64 a0, .int .i64 t404, .int .i64 t408] (by rfl) rfl rfl pm ?_
       with_reducible refine (imageeditorref10_Channel.calls kj5 a0 t404 t408 t439 _ A127.out).mono ?_
       rintro e w131 ⟨rfl, hb⟩
       refine ⟨_, rfl, ?_⟩
       replace KA := bb_ KA hb
       replace KB := bb_ KB hb
       replace KC := bb_ KC hb
       replace KD := bb_ KD hb
       replace KE := bb_ KE hb
       replace KF := bb_ KF hb
       replace HB := Aside0.mk (below_step HB.out hb)
       try clear hb
       refine hK.out _ _ ⟨(blk_cell KD.out 0).trans rfl, (blk_cell KD.out 1).trans rfl, (blk_cell KD.out 2).trans rfl, (blk_cell KE.out 0).trans rfl, (blk_cell KE.out 1).trans rfl, (blk_cell KE.out 2).trans rfl⟩ (fun hHeld => ?_)
       clear hK K
       refine norm_ (a' := ?_) ?_ ?_
       rotate_left
       ·show Act.put _ (some 43) _ = _
        refine ps ?_
        rfl
       refine pure_ (i := 9) (N := some 44) (v := ?_) (a' := ?_) #[true, true, true, true, true, true, true, true, true, true, false] rfl rfl (any_of HT_.out (by kernel_rfl)) (fun _ _ _ h => h) (Or.inl ⟨by rfl, ?_⟩) ?_ ?_
       rotate_left
       ·intro w'
        go_simp
        with_reducible rfl
       rotate_left
       ·refine ps ?_
        rfl
       refine one_ (i := 10) (N := none) #[true, true, true, true, true, true, true, true, true, true, true] rfl rfl (one_of HT_.out (by kernel_rfl)) (by decide) (fun K hK => ?_)
       have hs132 := ci_ KF 0 (.int .i64 0)
       have hfs132 := blk_frozen KF.out 0
       have hns132_0 := NAF.out
       have hns132_1 := NBF.out
       have hns132_2 := NCF.out
       have hns132_3 := NDF.out
       have hns132_4 := NEF.out
       have hms132_0 := NFA.out
       have hms132_1 := NFB.out
       have hms132_2 := NFC.out
       have hms132_3 := NFD.out
       have hms132_4 := NFE.out
       refine skip_ (w1 := ?_) (by rfl) rfl ?_ ?_
       rotate_left
       ·go_simp
        rfl
       refine hK.out _ _ ⟨((cell_far (p := ⟨gF, _, none⟩) NDF.out _).trans (hHeld.1)), ((cell_far (p := ⟨gF, _, none⟩) NDF.out _).trans (hHeld.2.1)), ((cell_far (p := ⟨gF, _, none⟩) NDF.out _).trans (hHeld.2.2.1)), ((cell_far (p := ⟨gF, _, none⟩) NEF.out _).trans (hHeld.2.2.2.1)), ((cell_far (p := ⟨gF, _, none⟩) NEF.out _).trans (hHeld.2.2.2.2.1)), ((cell_far (p := ⟨gF, _, none⟩) NEF.out _).trans (hHeld.2.2.2.2.2))⟩ (fun hHeld => ?_)
       clear hK K
       refine done_ (done_of HT_.out (by kernel_rfl)) ?_
       try go_wp2
       rw [rounds_succ]
       try go_wp2
       have n0_ : Aside0 ((w131.setCell ⟨gF, 0, none⟩ (.int .i64 t439)).heap[gA]? = some (.cells #[.int .i64 t404, .int .i64 t405, .int .i64 t406, .int .i64 t407] 32 (0, 0))) := ⟨by refine pl ?_; refine blk_far ?_ NAF.out _; refine pl ?_; exact KA.out⟩
       have n1_ : Aside0 ((w131.setCell ⟨gF, 0, none⟩ (.int .i64 t439)).heap[gB]? = some (.cells #[.int .i64 t408, .int .i64 t409, .int .i64 t410, .int .i64 t411] 32 (0, 0))) := ⟨by refine pl ?_; refine blk_far ?_ NBF.out _; refine pl ?_; exact KB.out⟩
       have n2_ : Aside0 ((w131.setCell ⟨gF, 0, none⟩ (.int .i64 t439)).heap[gC]? = some (.cells #[.int .i64 0, .int .i64 0, .int .i64 0, .int .i64 0] 32 (0, 0))) := ⟨by refine pl ?_; refine blk_far ?_ NCF.out _; refine pl ?_; exact KC.out⟩
       have n3_ : Aside0 ((w131.setCell ⟨gF, 0, none⟩ (.int .i64 t439)).heap[gD]? = some (.cells #[.int .i64 t404, .int .i64 t405, .int .i64 t406] 56 (0, 0))) := ⟨by refine pl ?_; refine blk_far ?_ NDF.out _; refine pl ?_; exact KD.out⟩
       have n4_ : Aside0 ((w131.setCell ⟨gF, 0, none⟩ (.int .i64 t439)).heap[gE]? = some (.cells #[.int .i64 t408, .int .i64 t409, .int .i64 t410] 56 (0, 0))) := ⟨by refine pl ?_; refine blk_far ?_ NEF.out _; refine pl ?_; exact KE.out⟩
       have n5_ : Aside0 ((w131.setCell ⟨gF, 0, none⟩ (.int .i64 t439)).heap[gF]? = some (.cells #[.int .i64 t439, .int .i64 0, .int .i64 0] 56 (0, 0))) := ⟨by refine pl ?_; refine blk_put (cs := #[.int .i64 0, .int .i64 0, .int .i64 0]) ?_ 0 _ rfl; refine pl ?_; exact KF.out⟩
       have n6_ : Aside0 (Below w.heap.size w (w131.setCell ⟨gF, 0, none⟩ (.int .i64 t439))) := ⟨by repeat (first | (with_reducible first | exact HB.out | apply below_alloc | apply pw_below_drewN | apply below_drew1 | refine below_set ?_ GEA.out | refine below_set ?_ GEB.out | refine below_set ?_ GEC.out | refine below_set ?_ GED.out | refine below_set ?_ GEE.out | refine below_set ?_ GEF.out) | exact HB.out)⟩
       (try clear KA)
       (try clear KB)
       (try clear KC)
       (try clear KD)
       (try clear KE)
       (try clear KF)
       (try clear HB)
       generalize (w131.setCell ⟨gF, 0, none⟩ (.int .i64 t439)) = w133 at n0_ n1_ n2_ n3_ n4_ n5_ n6_ ⊢
       have KA := n0_
       have KB := n1_
       have KC := n2_
       have KD := n3_
       have KE := n4_
       have KF := n5_
       have HB := n6_
       clear n0_ n1_ n2_ n3_ n4_ n5_ n6_
       replace KA := Aside0.mk (blk_drew KA.out)
       replace KB := Aside0.mk (blk_drew KB.out)
       replace KC := Aside0.mk (blk_drew KC.out)
       replace KD := Aside0.mk (blk_drew KD.out)
       replace KE := Aside0.mk (blk_drew KE.out)
       replace KF := Aside0.mk (blk_drew KF.out)
       replace HB := Aside0.mk (below_drew1 HB.out)
       refine start_ (n := 11) (S := fun w' => w'.cell? ⟨gD, 0, none⟩ = some (.int .i64 t404) ∧ w'.cell? ⟨gD, 1, none⟩ = some (.int .i64 t405) ∧ w'.cell? ⟨gD, 2, none⟩ = some (.int .i64 t406) ∧ w'.cell? ⟨gE, 0, none⟩ = some (.int .i64 t408) ∧ w'.cell? ⟨gE, 1, none⟩ = some (.int .i64 t409) ∧ w'.cell? ⟨gE, 2, none⟩ = some (.int .i64 t410)) (ds := []) #[false, false, false, false, false, false, false, false, false, false, false] (by kernel_rfl) rfl rfl ⟨(blk_cell KD.out 0).trans rfl, (blk_cell KD.out 1).trans rfl, (blk_cell KD.out 2).trans rfl, (blk_cell KE.out 0).trans rfl, (blk_cell KE.out 1).trans rfl, (blk_cell KE.out 2).trans rfl⟩ (fun hHeld => ?_); refine with_tabW imageeditorref10_Colors.tab8 imageeditorref10_Colors.bits8 (fun HT_ HW_ => ?_)
       generalize w133.drew = w134 at KA KB KC KD KE KF HB hHeld ⊢
       refine pure_ (i := 0) (N := some 35) (v := ?_) (a' := ?_) #[true, false, false, false, false, false, false, false, false, false, false] rfl rfl (any_of HT_.out (by kernel_rfl)) (fun _ _ _ h => h) (Or.inl ⟨by rfl, ?_⟩) ?_ ?_
       rotate_left
       ·intro w'
        go_simp
        with_reducible rfl
       rotate_left
       ·refine ps ?_
        rfl
       refine pure_ (i := 1) (N := some 36) (v := ?_) (a' := ?_) #[true, true, false, false, false, false, false, false, false, false, false] rfl rfl (any_of HT_.out (by kernel_rfl)) (fun _ _ _ h => h) (Or.inl ⟨by rfl, ?_⟩) ?_ ?_
       rotate_left
       ·intro w'
        go_simp
        with_reducible rfl
       rotate_left
       ·refine ps ?_
        rfl
       refine pure_ (i := 2) (N := some 37) (v := ?_) (a' := ?_) #[true, true, true, false, false, false, false, false, false, false, false] rfl rfl (any_of HT_.out (by kernel_rfl)) (fun _ _ _ h => h) (Or.inl ⟨by rfl, ?_⟩) ?_ ?_
       rotate_left
       ·intro w'
        go_simp
        with_reducible rfl
       rotate_left
       ·refine ps ?_
        rfl
       refine pure_ (i := 3) (N := some 38) (v := ?_) (a' := ?_) #[true, true, true, true, false, false, false, false, false, false, false] rfl rfl (any_of HT_.out (by kernel_rfl)) (fun _ _ _ h => h) (Or.inl ⟨by rfl, ?_⟩) ?_ ?_
       rotate_left
       ·intro w'
        go_simp
        with_reducible rfl
       rotate_left
       ·refine ps ?_
        rfl
       refine pure_ (i := 5) (N := some 40) (v := ?_) (a' := ?_) #[true, true, true, true, false, true, false, false, false, false, false] rfl rfl (any_of HT_.out (by kernel_rfl)) (fun _ _ _ h => h) (Or.inl ⟨by rfl, ?_⟩) ?_ ?_
       rotate_left
       ·intro w'
        go_simp
        with_reducible rfl
       rotate_left
       ·refine ps ?_
        rfl
       refine pure_ (i := 6) (N := some 41) (v := ?_) (a' := ?_) #[true, true, true, true, false, true, true, false, false, false, false] rfl rfl (any_of HT_.out (by kernel_rfl)) (fun _ _ _ h => h) (Or.inl ⟨by rfl, ?_⟩) ?_ ?_
       rotate_left
       ·intro w'
        go_simp
        with_reducible rfl
       rotate_left
       ·refine ps ?_
        rfl
       refine take_ (i := 4) (N := some 39) (v := ?_) (a' := ?_) #[true, true, true, true, true, true, true, false, false, false, false] rfl rfl (take_ofW HT_.out HW_.out (by kernel_rfl)) (fun _ _ _ h => h) (Or.inl ⟨by rfl, ?_⟩) hHeld ?_ ?_
       rotate_left
       ·rintro w' ⟨s0, s1, s2, s3, s4, s5⟩
        go_simp
        with_reducible rfl
       rotate_left
       ·refine ps ?_
        rfl
       refine take_ (i := 7) (N := some 42) (v := ?_) (a' := ?_) #[true, true, true, true, true, true, true, true, false, false, false] rfl rfl (take_ofW HT_.out HW_.out (by kernel_rfl)) (fun _ _ _ h => h) (Or.inl ⟨by rfl, ?_⟩) hHeld ?_ ?_
       rotate_left
       ·rintro w' ⟨s0, s1, s2, s3, s4, s5⟩
        go_simp
        with_reducible rfl
       rotate_left
       ·refine ps ?_
        rfl
       refine one_ (i := 8) (N := some 43) #[true, true, true, true, true, true, true, true, true, false, false] rfl rfl (one_of HT_.out (by kernel_rfl)) (by decide) (fun K hK => ?_)
       refine goes_ Try.func23 (by kernel_rfl) rfl #[.int .i64 a0, .int .i64 t405, .int .i64 t409] (by rfl) rfl rfl pm ?_
       with_reducible refine (imageeditorref10_Channel.calls kj5 a0 t405 t409 t440 _ A128.out).mono ?_
       rintro e w135 ⟨rfl, hb⟩
       refine ⟨_, rfl, ?_⟩
       replace KA := bb_ KA hb
       replace KB := bb_ KB hb
       replace KC := bb_ KC hb
       replace KD := bb_ KD hb
       replace KE := bb_ KE hb
       replace KF := bb_ KF hb
       replace HB := Aside0.mk (below_step HB.out hb)
       try clear hb
       refine hK.out _ _ ⟨(blk_cell KD.out 0).trans rfl, (blk_cell KD.out 1).trans rfl, (blk_cell KD.out 2).trans rfl, (blk_cell KE.out 0).trans rfl, (blk_cell KE.out 1).trans rfl, (blk_cell KE.out 2).trans rfl⟩ (fun hHeld => ?_)
       clear hK K
       refine norm_ (a' := ?_) ?_ ?_
       rotate_left
       ·show Act.put _ (some 43) _ = _
        refine ps ?_
        rfl
       refine pure_ (i := 9) (N := some 44) (v := ?_) (a' := ?_) #[true, true, true, true, true, true, true, true, true, true, false] rfl rfl (any_of HT_.out (by kernel_rfl)) (fun _ _ _ h => h) (Or.inl ⟨by rfl, ?_⟩) ?_ ?_
       rotate_left
       ·intro w'
        go_simp
        with_reducible rfl
       rotate_left
       ·refine ps ?_
        rfl
       refine one_ (i := 10) (N := none) #[true, true, true, true, true, true, true, true, true, true, true] rfl rfl (one_of HT_.out (by kernel_rfl)) (by decide) (fun K hK => ?_)
       have hs136 := ci_ KF 1 (.int .i64 0)
       have hfs136 := blk_frozen KF.out 1
       have hns136_0 := NAF.out
       have hns136_1 := NBF.out
       have hns136_2 := NCF.out
       have hns136_3 := NDF.out
       have hns136_4 := NEF.out
       have hms136_0 := NFA.out
       have hms136_1 := NFB.out
       have hms136_2 := NFC.out
       have hms136_3 := NFD.out
       have hms136_4 := NFE.out
       refine skip_ (w1 := ?_) (by rfl) rfl ?_ ?_
       rotate_left
       ·go_simp
        rfl
       refine hK.out _ _ ⟨((cell_far (p := ⟨gF, _, none⟩) NDF.out _).trans (hHeld.1)), ((cell_far (p := ⟨gF, _, none⟩) NDF.out _).trans (hHeld.2.1)), ((cell_far (p := ⟨gF, _, none⟩) NDF.out _).trans (hHeld.2.2.1)), ((cell_far (p := ⟨gF, _, none⟩) NEF.out _).trans (hHeld.2.2.2.1)), ((cell_far (p := ⟨gF, _, none⟩) NEF.out _).trans (hHeld.2.2.2.2.1)), ((cell_far (p := ⟨gF, _, none⟩) NEF.out _).trans (hHeld.2.2.2.2.2))⟩ (fun hHeld => ?_)
       clear hK K
       refine done_ (done_of HT_.out (by kernel_rfl)) ?_
       try go_wp2
       rw [rounds_succ]
       try go_wp2
       have n0_ : Aside0 ((w135.setCell ⟨gF, 1, none⟩ (.int .i64 t440)).heap[gA]? = some (.cells #[.int .i64 t404, .int .i64 t405, .int .i64 t406, .int .i64 t407] 32 (0, 0))) := ⟨by refine pl ?_; refine blk_far ?_ NAF.out _; refine pl ?_; exact KA.out⟩
       have n1_ : Aside0 ((w135.setCell ⟨gF, 1, none⟩ (.int .i64 t440)).heap[gB]? = some (.cells #[.int .i64 t408, .int .i64 t409, .int .i64 t410, .int .i64 t411] 32 (0, 0))) := ⟨by refine pl ?_; refine blk_far ?_ NBF.out _; refine pl ?_; exact KB.out⟩
       have n2_ : Aside0 ((w135.setCell ⟨gF, 1, none⟩ (.int .i64 t440)).heap[gC]? = some (.cells #[.int .i64 0, .int .i64 0, .int .i64 0, .int .i64 0] 32 (0, 0))) := ⟨by refine pl ?_; refine blk_far ?_ NCF.out _; refine pl ?_; exact KC.out⟩
       have n3_ : Aside0 ((w135.setCell ⟨gF, 1, none⟩ (.int .i64 t440)).heap[gD]? = some (.cells #[.int .i64 t404, .int .i64 t405, .int .i64 t406] 56 (0, 0))) := ⟨by refine pl ?_; refine blk_far ?_ NDF.out _; refine pl ?_; exact KD.out⟩
       have n4_ : Aside0 ((w135.setCell ⟨gF, 1, none⟩ (.int .i64 t440)).heap[gE]? = some (.cells #[.int .i64 t408, .int .i64 t409, .int .i64 t410] 56 (0, 0))) := ⟨by refine pl ?_; refine blk_far ?_ NEF.out _; refine pl ?_; exact KE.out⟩
       have n5_ : Aside0 ((w135.setCell ⟨gF, 1, none⟩ (.int .i64 t440)).heap[gF]? = some (.cells #[.int .i64 t439, .int .i64 t440, .int .i64 0] 56 (0, 0))) := ⟨by refine pl ?_; refine blk_put (cs := #[.int .i64 t439, .int .i64 0, .int .i64 0]) ?_ 1 _ rfl; refine pl ?_; exact KF.out⟩
       have n6_ : Aside0 (Below w.heap.size w (w135.setCell ⟨gF, 1, none⟩ (.int .i64 t440))) := ⟨by repeat (first | (with_reducible first | exact HB.out | apply below_alloc | apply pw_below_drewN | apply below_drew1 | refine below_set ?_ GEA.out | refine below_set ?_ GEB.out | refine below_set ?_ GEC.out | refine below_set ?_ GED.out | refine below_set ?_ GEE.out | refine below_set ?_ GEF.out) | exact HB.out)⟩
       (try clear KA)
       (try clear KB)
       (try clear KC)
       (try clear KD)
       (try clear KE)
       (try clear KF)
       (try clear HB)
       generalize (w135.setCell ⟨gF, 1, none⟩ (.int .i64 t440)) = w137 at n0_ n1_ n2_ n3_ n4_ n5_ n6_ ⊢
       have KA := n0_
       have KB := n1_
       have KC := n2_
       have KD := n3_
       have KE := n4_
       have KF := n5_
       have HB := n6_
       clear n0_ n1_ n2_ n3_ n4_ n5_ n6_
       replace KA := Aside0.mk (blk_drew KA.out)
       replace KB := Aside0.mk (blk_drew KB.out)
       replace KC := Aside0.mk (blk_drew KC.out)
       replace KD := Aside0.mk (blk_drew KD.out)
       replace KE := Aside0.mk (blk_drew KE.out)
       replace KF := Aside0.mk (blk_drew KF.out)
       replace HB := Aside0.mk (below_drew1 HB.out)
       refine start_ (n := 11) (S := fun w' => w'.cell? ⟨gD, 0, none⟩ = some (.int .i64 t404) ∧ w'.cell? ⟨gD, 1, none⟩ = some (.int .i64 t405) ∧ w'.cell? ⟨gD, 2, none⟩ = some (.int .i64 t406) ∧ w'.cell? ⟨gE, 0, none⟩ = some (.int .i64 t408) ∧ w'.cell? ⟨gE, 1, none⟩ = some (.int .i64 t409) ∧ w'.cell? ⟨gE, 2, none⟩ = some (.int .i64 t410)) (ds := []) #[false, false, false, false, false, false, false, false, false, false, false] (by kernel_rfl) rfl rfl ⟨(blk_cell KD.out 0).trans rfl, (blk_cell KD.out 1).trans rfl, (blk_cell KD.out 2).trans rfl, (blk_cell KE.out 0).trans rfl, (blk_cell KE.out 1).trans rfl, (blk_cell KE.out 2).trans rfl⟩ (fun hHeld => ?_); refine with_tabW imageeditorref10_Colors.tab8 imageeditorref10_Colors.bits8 (fun HT_ HW_ => ?_)
       generalize w137.drew = w138 at KA KB KC KD KE KF HB hHeld ⊢
       refine pure_ (i := 0) (N := some 35) (v := ?_) (a' := ?_) #[true, false, false, false, false, false, false, false, false, false, false] rfl rfl (any_of HT_.out (by kernel_rfl)) (fun _ _ _ h => h) (Or.inl ⟨by rfl, ?_⟩) ?_ ?_
       rotate_left
       ·intro w'
        go_simp
        with_reducible rfl
       rotate_left
       ·refine ps ?_
        rfl
       refine pure_ (i := 1) (N := some 36) (v := ?_) (a' := ?_) #[true, true, false, false, false, false, false, false, false, false, false] rfl rfl (any_of HT_.out (by kernel_rfl)) (fun _ _ _ h => h) (Or.inl ⟨by rfl, ?_⟩) ?_ ?_
       rotate_left
       ·intro w'
        go_simp
        with_reducible rfl
       rotate_left
       ·refine ps ?_
        rfl
       refine pure_ (i := 2) (N := some 37) (v := ?_) (a' := ?_) #[true, true, true, false, false, false, false, false, false, false, false] rfl rfl (any_of HT_.out (by kernel_rfl)) (fun _ _ _ h => h) (Or.inl ⟨by rfl, ?_⟩) ?_ ?_
       rotate_left
       ·intro w'
        go_simp
        with_reducible rfl
       rotate_left
       ·refine ps ?_
        rfl
       refine pure_ (i := 3) (N := some 38) (v := ?_) (a' := ?_) #[true, true, true, true, false, false, false, false, false, false, false] rfl rfl (any_of HT_.out (by kernel_rfl)) (fun _ _ _ h => h) (Or.inl ⟨by rfl, ?_⟩) ?_ ?_
       rotate_left
       ·intro w'
        go_simp
        with_reducible rfl
       rotate_left
       ·refine ps ?_
        rfl
       refine pure_ (i := 5) (N := some 40) (v := ?_) (a' := ?_) #[true, true, true, true, false, true, false, false, false, false, false] rfl rfl (any_of HT_.out (by kernel_rfl)) (fun _ _ _ h => h) (Or.inl ⟨by rfl, ?_⟩) ?_ ?_
       rotate_left
       ·intro w'
        go_simp
        with_reducible rfl
       rotate_left
       ·refine ps ?_
        rfl
       refine pure_ (i := 6) (N := some 41) (v := ?_) (a' := ?_) #[true, true, true, true, false, true, true, false, false, false, false] rfl rfl (any_of HT_.out (by kernel_rfl)) (fun _ _ _ h => h) (Or.inl ⟨by rfl, ?_⟩) ?_ ?_
       rotate_left
       ·intro w'
        go_simp
        with_reducible rfl
       rotate_left
       ·refine ps ?_
        rfl
       refine take_ (i := 4) (N := some 39) (v := ?_) (a' := ?_) #[true, true, true, true, true, true, true, false, false, false, false] rfl rfl (take_ofW HT_.out HW_.out (by kernel_rfl)) (fun _ _ _ h => h) (Or.inl ⟨by rfl, ?_⟩) hHeld ?_ ?_
       rotate_left
       ·rintro w' ⟨s0, s1, s2, s3, s4, s5⟩
        go_simp
        with_reducible rfl
       rotate_left
       ·refine ps ?_
        rfl
       refine take_ (i := 7) (N := some 42) (v := ?_) (a' := ?_) #[true, true, true, true, true, true, true, true, false, false, false] rfl rfl (take_ofW HT_.out HW_.out (by kernel_rfl)) (fun _ _ _ h => h) (Or.inl ⟨by rfl, ?_⟩) hHeld ?_ ?_
       rotate_left
       ·rintro w' ⟨s0, s1, s2, s3, s4, s5⟩
        go_simp
        with_reducible rfl
       rotate_left
       ·refine ps ?_
        rfl
       refine one_ (i := 8) (N := some 43) #[true, true, true, true, true, true, true, true, true, false, false] rfl rfl (one_of HT_.out (by kernel_rfl)) (by decide) (fun K hK => ?_)
       refine goes_ Try.func23 (by kernel_rfl) rfl #[.int .i64 a0, .int .i64 t406, .int .i64 t410] (by rfl) rfl rfl pm ?_
       with_reducible refine (imageeditorref10_Channel.calls kj5 a0 t406 t410 t441 _ A129.out).mono ?_
       rintro e w139 ⟨rfl, hb⟩
       refine ⟨_, rfl, ?_⟩
       replace KA := bb_ KA hb
       replace KB := bb_ KB hb
       replace KC := bb_ KC hb
       replace KD := bb_ KD hb
       replace KE := bb_ KE hb
       replace KF := bb_ KF hb
       replace HB := Aside0.mk (below_step HB.out hb)
       try clear hb
       refine hK.out _ _ ⟨(blk_cell KD.out 0).trans rfl, (blk_cell KD.out 1).trans rfl, (blk_cell KD.out 2).trans rfl, (blk_cell KE.out 0).trans rfl, (blk_cell KE.out 1).trans rfl, (blk_cell KE.out 2).trans rfl⟩ (fun hHeld => ?_)
       clear hK K
       refine norm_ (a' := ?_) ?_ ?_
       rotate_left
       ·show Act.put _ (some 43) _ = _
        refine ps ?_
        rfl
       refine pure_ (i := 9) (N := some 44) (v := ?_) (a' := ?_) #[true, true, true, true, true, true, true, true, true, true, false] rfl rfl (any_of HT_.out (by kernel_rfl)) (fun _ _ _ h => h) (Or.inl ⟨by rfl, ?_⟩) ?_ ?_
       rotate_left
       ·intro w'
        go_simp
        with_reducible rfl
       rotate_left
       ·refine ps ?_
        rfl
       refine one_ (i := 10) (N := none) #[true, true, true, true, true, true, true, true, true, true, true] rfl rfl (one_of HT_.out (by kernel_rfl)) (by decide) (fun K hK => ?_)
       have hs140 := ci_ KF 2 (.int .i64 0)
       have hfs140 := blk_frozen KF.out 2
       have hns140_0 := NAF.out
       have hns140_1 := NBF.out
       have hns140_2 := NCF.out
       have hns140_3 := NDF.out
       have hns140_4 := NEF.out
       have hms140_0 := NFA.out
       have hms140_1 := NFB.out
       have hms140_2 := NFC.out
       have hms140_3 := NFD.out
       have hms140_4 := NFE.out
       refine skip_ (w1 := ?_) (by rfl) rfl ?_ ?_
       rotate_left
       ·go_simp
        rfl
       refine hK.out _ _ ⟨((cell_far (p := ⟨gF, _, none⟩) NDF.out _).trans (hHeld.1)), ((cell_far (p := ⟨gF, _, none⟩) NDF.out _).trans (hHeld.2.1)), ((cell_far (p := ⟨gF, _, none⟩) NDF.out _).trans (hHeld.2.2.1)), ((cell_far (p := ⟨gF, _, none⟩) NEF.out _).trans (hHeld.2.2.2.1)), ((cell_far (p := ⟨gF, _, none⟩) NEF.out _).trans (hHeld.2.2.2.2.1)), ((cell_far (p := ⟨gF, _, none⟩) NEF.out _).trans (hHeld.2.2.2.2.2))⟩ (fun hHeld => ?_)
       clear hK K
       refine done_ (done_of HT_.out (by kernel_rfl)) ?_
       have hnb141 := NFA.out
       have hnc141 := NAF.out
       have hnb142 := NFB.out
       have hnc142 := NBF.out
       have hnb143 := NFC.out
       have hnc143 := NCF.out
       have hnb144 := NFD.out
       have hnc144 := NDF.out
       have hnb145 := NFE.out
       have hnc145 := NEF.out
       have hcz146_0 := ci_ KF 0 (.int .i64 t439)
       have hcz146_1 := ci_ KF 1 (.int .i64 t440)
       have hcz146_2 := ci_ KF 2 (.int .i64 0)
       have hfz146_0 := blk_frozen KF.out 0
       have hfz146_1 := blk_frozen KF.out 1
       have hfz146_2 := blk_frozen KF.out 2
       have hnb147 := NCA.out
       have hnc147 := NAC.out
       have hnb148 := NCB.out
       have hnc148 := NBC.out
       have hnb149 := NCD.out
       have hnc149 := NDC.out
       have hnb150 := NCE.out
       have hnc150 := NEC.out
       have hcz151_0 := ci_ KC 0 (.int .i64 0)
       have hcz151_1 := ci_ KC 1 (.int .i64 0)
       have hcz151_2 := ci_ KC 2 (.int .i64 0)
       have hcz151_3 := ci_ KC 3 (.int .i64 0)
       have hfz151_0 := blk_frozen KC.out 0
       have hfz151_1 := blk_frozen KC.out 1
       have hfz151_2 := blk_frozen KC.out 2
       have hfz151_3 := blk_frozen KC.out 3
       try go_wp2
       rw [rounds_succ]
       try go_wp2
       refine bodyPost_ret (results_cell_row rfl _ _ gC 32 #[.int .i64 t439, .int .i64 t440, .int .i64 t441, .int .i64 65535] (0, 0) _ rfl (by refine pl ?_; refine blk_put (cs := #[.int .i64 t439, .int .i64 t440, .int .i64 t441, .int .i64 0]) ?_ 3 _ rfl; refine pl ?_; refine blk_put (cs := #[.int .i64 t439, .int .i64 t440, .int .i64 0, .int .i64 0]) ?_ 2 _ rfl; refine pl ?_; refine blk_put (cs := #[.int .i64 t439, .int .i64 0, .int .i64 0, .int .i64 0]) ?_ 1 _ rfl; refine pl ?_; refine blk_put (cs := #[.int .i64 0, .int .i64 0, .int .i64 0, .int .i64 0]) ?_ 0 _ rfl; refine pl ?_; refine blk_far ?_ NCF.out _; refine pl ?_; exact KC.out) Try.underlying32 rfl (by kernel_rfl)) rfl ?_
       exact ⟨by first | rfl | (simp [errW_none, errW_some] <;> rfl) | (simp [*, errW_none, errW_some] <;> rfl), by repeat (first | (with_reducible first | exact HB.out | apply below_alloc | apply pw_below_drewN | apply below_drew1 | refine below_set ?_ GEA.out | refine below_set ?_ GEB.out | refine below_set ?_ GEC.out | refine below_set ?_ GED.out | refine below_set ?_ GEE.out | refine below_set ?_ GEF.out) | exact HB.out)⟩

end Go.Proofs.Ytnijapaaickifaa.I
