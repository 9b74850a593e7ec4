-- Written for this claim by a program of this session (handprint.py) that drives the kit's print. Not trusted: Lean checks it.
import Derived.Test.YtnijapaaickifaaQ0
import Derived.Test.YtnijapaaickifaaQ1
import Derived.Test.YtnijapaaickifaaQ9
import Derived.Test.YtnijapaaickifaaQ11
import Derived.Test.YtnijapaaickifaaQ15
import Derived.Test.YtnijapaaickifaaQ27
namespace Go.Proofs.Ytnijapaaickifaa.Q
open Go.RowKit Go.Proofs.YtnijapaaickifaaW.PrintWords Go.Proofs.YtnijapaaickifaaW.PrintLast
attribute [local go_sem] max2_int min2_int max_two min_two max_three min_three max_four min_four
set_option linter.unusedVariables false
set_option linter.unusedSimpArgs false

attribute [local go_sem high] eqA32
/-! ### imageeditorlaw10_BlendRanges: function 9 -/
def imageeditorlaw10_BlendRanges.f (k : Nat) (a0 : Int) (a1_0 : Int) (a1_1 : Int) (a1_2 : Int) (a1_3 : Int) (a2_0 : Int) (a2_1 : Int) (a2_2 : Int) (a2_3 : Int) : Option (Bool) := (blend_Channel.f a0 a1_0 a2_0).bind fun t547 => ((blend_Colors.f k a0 a1_0 a1_1 a1_2 a1_3 a2_0 a2_1 a2_2 a2_3).bind fun bt548 => ((blend_Over.f k a0 a1_0 a1_1 a1_2 a1_3 a2_0 a2_1 a2_2 a2_3).bind fun bt552 => (if t547 ≥ 0 then (if t547 ≤ 65535 then ((imageeditorref06_Valid.f bt548.1 bt548.2.1 bt548.2.2.1 bt548.2.2.2).bind fun t558 => (if t558 = true then (if bt548.2.2.2 = 65535 then ((imageeditorref06_Valid.f bt552.1 bt552.2.1 bt552.2.2.1 bt552.2.2.2).bind fun t559 => (if t559 = true then (if bt552.2.2.2 > 0 then ((imageeditorlaw10_example.f k).bind fun t560 => (some t560)) else (if (bt552.1 == 0 && (bt552.2.1 == 0 && (bt552.2.2.1 == 0 && (bt552.2.2.2 == 0)))) = true then ((imageeditorlaw10_example.f k).bind fun t561 => (some t561)) else (none))) else (none))) else (none)) else (none))) else (none)) else (none))))
theorem imageeditorlaw10_BlendRanges.mono : ∀ a0 a1 a2 a3 a4 a5 a6 a7 a8 k, LeO (imageeditorlaw10_BlendRanges.f k a0 a1 a2 a3 a4 a5 a6 a7 a8) (imageeditorlaw10_BlendRanges.f (k + 1) a0 a1 a2 a3 a4 a5 a6 a7 a8) := by
  intro a0 a1 a2 a3 a4 a5 a6 a7 a8 k
  unfold imageeditorlaw10_BlendRanges.f
  repeat' first
      | (with_reducible exact blend_Colors.mono _ _ _ _ _ _ _ _ _ _)
      | (with_reducible exact blend_Over.mono _ _ _ _ _ _ _ _ _ _)
      | (with_reducible exact imageeditorlaw10_example.mono _)
      | (with_reducible exact LeO.refl _)
      | (with_reducible exact LeO.none _)
      | (with_reducible refine LeO.ite ?_ ?_)
      | (with_reducible refine LeO.bind ?_ (fun _ => ?_))
      | exact blend_Colors.mono _ _ _ _ _ _ _ _ _ _
      | exact blend_Over.mono _ _ _ _ _ _ _ _ _ _
      | exact imageeditorlaw10_example.mono _
      | exact LeO.none _
      | refine LeO.ite ?_ ?_
      | refine LeO.bind ?_ (fun _ => ?_)
def imageeditorlaw10_BlendRanges.T2 : Bool × List (List Nat × List Nat) := (true, [([], []), ([], []), ([], []), ([0, 1, 2], [0, 1, 2]), ([], []), ([], []), ([], []), ([4, 5, 6, 3], [4, 5, 6]), ([], []), ([], []), ([8, 3, 7, 0, 1, 2, 3, 8, 9], [3, 8]), ([9, 7, 10, 0, 1, 2, 3, 4, 5, 6, 7, 8, 9, 10], [7, 9])])
def imageeditorlaw10_BlendRanges.B2 : List Nat := [0, 0, 0, 7, 0, 0, 0, 127, 0, 0, 1023, 2047]
theorem imageeditorlaw10_BlendRanges.tab2 : rtab .any (opsOf Try.f9 2) = imageeditorlaw10_BlendRanges.T2 := by kernel_rfl
theorem imageeditorlaw10_BlendRanges.bits2 : waitsOk imageeditorlaw10_BlendRanges.T2.2 imageeditorlaw10_BlendRanges.B2 = true := by kernel_rfl
set_option maxHeartbeats 8000000 in
set_option maxRecDepth 100000 in
theorem imageeditorlaw10_BlendRanges.calls (k : Nat) (a0 : Int) (a1_0 : Int) (a1_1 : Int) (a1_2 : Int) (a1_3 : Int) (a2_0 : Int) (a2_1 : Int) (a2_2 : Int) (a2_3 : Int) (r : Bool) (w : World) (h : imageeditorlaw10_BlendRanges.f k a0 a1_0 a1_1 a1_2 a1_3 a2_0 a2_1 a2_2 a2_3 = some r) :
    Calls Try.prog 9 #[.int .i64 a0, .agg #[.int .i64 a1_0, .int .i64 a1_1, .int .i64 a1_2, .int .i64 a1_3], .agg #[.int .i64 a2_0, .int .i64 a2_1, .int .i64 a2_2, .int .i64 a2_3]] w fun e w' => e = .returned (.bool r) ∧ Below w.heap.size w w' := by
 have hu32 := Try.underlying32
 have HB := Aside0.mk (Below.refl w.heap.size w)
 have H : ((blend_Channel.f a0 a1_0 a2_0).bind fun t547 => ((blend_Colors.f k a0 a1_0 a1_1 a1_2 a1_3 a2_0 a2_1 a2_2 a2_3).bind fun bt548 => ((blend_Over.f k a0 a1_0 a1_1 a1_2 a1_3 a2_0 a2_1 a2_2 a2_3).bind fun bt552 => (if t547 ≥ 0 then (if t547 ≤ 65535 then ((imageeditorref06_Valid.f bt548.1 bt548.2.1 bt548.2.2.1 bt548.2.2.2).bind fun t558 => (if t558 = true then (if bt548.2.2.2 = 65535 then ((imageeditorref06_Valid.f bt552.1 bt552.2.1 bt552.2.2.1 bt552.2.2.2).bind fun t559 => (if t559 = true then (if bt552.2.2.2 > 0 then ((imageeditorlaw10_example.f k).bind fun t560 => (some t560)) else (if (bt552.1 == 0 && (bt552.2.1 == 0 && (bt552.2.2.1 == 0 && (bt552.2.2.2 == 0)))) = true then ((imageeditorlaw10_example.f k).bind fun t561 => (some t561)) else (none))) else (none))) else (none)) else (none))) else (none)) else (none))))) = some r := h
 clear h
 replace H := Option.bind_eq_some_iff.mp H
 obtain ⟨t547, A40, H⟩ := H
 replace H : ((blend_Colors.f k a0 a1_0 a1_1 a1_2 a1_3 a2_0 a2_1 a2_2 a2_3).bind fun bt548 => ((blend_Over.f k a0 a1_0 a1_1 a1_2 a1_3 a2_0 a2_1 a2_2 a2_3).bind fun bt552 => (if t547 ≥ 0 then (if t547 ≤ 65535 then ((imageeditorref06_Valid.f bt548.1 bt548.2.1 bt548.2.2.1 bt548.2.2.2).bind fun t558 => (if t558 = true then (if bt548.2.2.2 = 65535 then ((imageeditorref06_Valid.f bt552.1 bt552.2.1 bt552.2.2.1 bt552.2.2.2).bind fun t559 => (if t559 = true then (if bt552.2.2.2 > 0 then ((imageeditorlaw10_example.f k).bind fun t560 => (some t560)) else (if (bt552.1 == 0 && (bt552.2.1 == 0 && (bt552.2.2.1 == 0 && (bt552.2.2.2 == 0)))) = true then ((imageeditorlaw10_example.f k).bind fun t561 => (some t561)) else (none))) else (none))) else (none)) else (none))) else (none)) else (none)))) = some r := H
 have A4 := Aside0.mk A40
 clear A40
 replace H := Option.bind_eq_some_iff.mp H
 obtain ⟨⟨t548, t549, t550, t551⟩, A50, H⟩ := H
 replace H : ((blend_Over.f k a0 a1_0 a1_1 a1_2 a1_3 a2_0 a2_1 a2_2 a2_3).bind fun bt552 => (if t547 ≥ 0 then (if t547 ≤ 65535 then ((imageeditorref06_Valid.f t548 t549 t550 t551).bind fun t558 => (if t558 = true then (if t551 = 65535 then ((imageeditorref06_Valid.f bt552.1 bt552.2.1 bt552.2.2.1 bt552.2.2.2).bind fun t559 => (if t559 = true then (if bt552.2.2.2 > 0 then ((imageeditorlaw10_example.f k).bind fun t560 => (some t560)) else (if (bt552.1 == 0 && (bt552.2.1 == 0 && (bt552.2.2.1 == 0 && (bt552.2.2.2 == 0)))) = true then ((imageeditorlaw10_example.f k).bind fun t561 => (some t561)) else (none))) else (none))) else (none)) else (none))) else (none)) else (none))) = some r := H
 have A5 := Aside0.mk A50
 clear A50
 replace H := Option.bind_eq_some_iff.mp H
 obtain ⟨⟨t552, t553, t554, t555⟩, A60, H⟩ := H
 replace H : (if t547 ≥ 0 then (if t547 ≤ 65535 then ((imageeditorref06_Valid.f t548 t549 t550 t551).bind fun t558 => (if t558 = true then (if t551 = 65535 then ((imageeditorref06_Valid.f t552 t553 t554 t555).bind fun t559 => (if t559 = true then (if t555 > 0 then ((imageeditorlaw10_example.f k).bind fun t560 => (some t560)) else (if (t552 == 0 && (t553 == 0 && (t554 == 0 && (t555 == 0)))) = true then ((imageeditorlaw10_example.f k).bind fun t561 => (some t561)) else (none))) else (none))) else (none)) else (none))) else (none)) else (none)) = some r := H
 have A6 := Aside0.mk A60
 clear A60
 by_cases c7 : t547 ≥ 0
 rotate_left
 ·rw [if_neg c7] at H
  exact absurd H (by simp)

 rw [if_pos c7] at H
 have c7b0 : decide (0 ≤ t547) = true := decide_eq_true c7
 clear c7
 by_cases c8 : t547 ≤ 65535
 rotate_left
 ·rw [if_neg c8] at H
  exact absurd H (by simp)
 rw [if_pos c8] at H
 have c8b0 : decide (t547 ≤ 65535) = true := decide_eq_true c8
 clear c8
 replace H := Option.bind_eq_some_iff.mp H
 obtain ⟨t558, A90, H⟩ := H
 replace H : (if t558 = true then (if t551 = 65535 then ((imageeditorref06_Valid.f t552 t553 t554 t555).bind fun t559 => (if t559 = true then (if t555 > 0 then ((imageeditorlaw10_example.f k).bind fun t560 => (some t560)) else (if (t552 == 0 && (t553 == 0 && (t554 == 0 && (t555 == 0)))) = true then ((imageeditorlaw10_example.f k).bind fun t561 => (some t561)) else (none))) else (none))) else (none)) else (none)) = some r := H
 have A9 := Aside0.mk A90
 clear A90
 by_cases c10 : t558 = true
 ·subst c10
  have H1 : (if t551 = 65535 then ((imageeditorref06_Valid.f t552 t553 t554 t555).bind fun t559 => (if t559 = true then (if t555 > 0 then ((imageeditorlaw10_example.f k).bind fun t560 => (some t560)) else (if (t552 == 0 && (t553 == 0 && (t554 == 0 && (t555 == 0)))) = true then ((imageeditorlaw10_example.f k).bind fun t561 => (some t561)) else (none))) else (none))) else (none)) = some r := by rw [if_pos rfl] at H; exact H
  clear H
  have H := H1
  clear H1
  by_cases c11 : t551 = 65535
  rotate_left
  ·rw [if_neg c11] at H
   exact absurd H (by simp)
  rw [if_pos c11] at H
  have c11b0 : (t551 == 65535) = true := beq_iff_eq.mpr c11
  have c11b1 : (t551 != 65535) = false := bne_eq_false_iff_eq.mpr c11
  clear c11
  replace H := Option.bind_eq_some_iff.mp H
  obtain ⟨t559, A120, H⟩ := H
  replace H : (if t559 = true then (if t555 > 0 then ((imageeditorlaw10_example.f k).bind fun t560 => (some t560)) else (if (t552 == 0 && (t553 == 0 && (t554 == 0 && (t555 == 0)))) = true then ((imageeditorlaw10_example.f k).bind fun t561 => (some t561)) else (none))) else (none)) = some r := H
  have A12 := Aside0.mk A120
  clear A120
  by_cases c13 : t559 = true
  ·subst c13
   have H1 : (if t555 > 0 then ((imageeditorlaw10_example.f k).bind fun t560 => (some t560)) else (if (t552 == 0 && (t553 == 0 && (t554 == 0 && (t555 == 0)))) = true then ((imageeditorlaw10_example.f k).bind fun t561 => (some t561)) else (none))) = some r := by rw [if_pos rfl] at H; exact H
   clear H
   have H := H1
   clear H1
   by_cases c14 : t555 > 0
   ·rw [if_pos c14] at H
    have c14b0 : decide (0 < t555) = true := decide_eq_true c14
    clear c14
    replace H := Option.bind_eq_some_iff.mp H
    obtain ⟨t560, A150, H⟩ := H
    replace H : (some t560) = some r := H
    have A15 := Aside0.mk A150
    clear A150
    obtain rfl := Option.some.inj H
    go_enter Try.func9, Try.ntmps9
    try go_wp2_with (first | ((with_reducible refine gate_dst (N := 4) rfl ?_); refine box_event ?hg (N := 4) ?hd (cs := #[.int .i64 a1_0, .int .i64 a1_1, .int .i64 a1_2, .int .i64 a1_3]) (t := 32) ?hr ?_; (case hd => rfl); (case hg => rfl); (case hr => first | (go_simp; done) | (go_simp; rfl)); intro gA hg w16 hbox hb; have KA := Aside0.mk hbox; have GWA := ge_ hg (pb HB.out); have GEA := ge_ hg (pb HB.out); replace HB := Aside0.mk (below_step (pb HB.out) hb); clear hb hbox hg) | ((with_reducible refine gate_dst (N := 5) rfl ?_); refine box_event ?hg (N := 5) ?hd (cs := #[.int .i64 a2_0, .int .i64 a2_1, .int .i64 a2_2, .int .i64 a2_3]) (t := 32) ?hr ?_; (case hd => rfl); (case hg => rfl); (case hr => first | (go_simp; done) | (go_simp; rfl)); intro gB hg w17 hbox hb; have c0_ := cp_ hb KA; have KB := Aside0.mk hbox; have GWB := ge_ hg (pb1 HB.out GEA.out); have GEB := ge_ hg (pb1 HB.out GEA.out); have NAB := nl_ hg c0_; have NBA := ng_ hg c0_; replace KA := bb_ c0_ hb; replace HB := Aside0.mk (below_step (pb1 HB.out GEA.out) hb); clear c0_; clear hb hbox hg; have hnb18 := NAB.out; have hnc18 := NBA.out; have hcz19_0 := ci_ KA 0 (.int .i64 a1_0); have hcz19_1 := ci_ KA 1 (.int .i64 a1_1); have hcz19_2 := ci_ KA 2 (.int .i64 a1_2); have hcz19_3 := ci_ KA 3 (.int .i64 a1_3); have hfz19_0 := blk_frozen KA.out 0; have hfz19_1 := blk_frozen KA.out 1; have hfz19_2 := blk_frozen KA.out 2; have hfz19_3 := blk_frozen KA.out 3; have hcz20_0 := ci_ KB 0 (.int .i64 a2_0); have hcz20_1 := ci_ KB 1 (.int .i64 a2_1); have hcz20_2 := ci_ KB 2 (.int .i64 a2_2); have hcz20_3 := ci_ KB 3 (.int .i64 a2_3); have hfz20_0 := blk_frozen KB.out 0; have hfz20_1 := blk_frozen KB.out 1; have hfz20_2 := blk_frozen KB.out 2; have hfz20_3 := blk_frozen KB.out 3) | ((with_reducible refine gate_callee (f := 22) rfl ?_); refine goesL_ (some 15) rfl rfl Try.func22 (by kernel_rfl) rfl #[.int .i64 a0, .int .i64 a1_0, .int .i64 a2_0] rfl pm ?_; (with_reducible refine (blend_Channel.calls a0 a1_0 a2_0 t547 _ A4.out).mono ?_); rintro e w21 ⟨rfl, hb⟩; refine ⟨_, rfl, ?_⟩; replace KA := bp_ KA hb; replace KB := bp_ KB hb; replace HB := Aside0.mk (below_step (pb2 HB.out GEA.out GEB.out) hb); (try clear hb); (try clear hb2); (try clear hk); (try clear hi)))
    replace KA := Aside0.mk (blk_drew KA.out)
    replace KB := Aside0.mk (blk_drew KB.out)
    replace HB := Aside0.mk (below_drew1 HB.out)
    refine start_ (n := 12) (S := fun w' => w'.cell? ⟨gA, 0, none⟩ = some (.int .i64 a1_0) ∧ w'.cell? ⟨gA, 1, none⟩ = some (.int .i64 a1_1) ∧ w'.cell? ⟨gA, 2, none⟩ = some (.int .i64 a1_2) ∧ w'.cell? ⟨gA, 3, none⟩ = some (.int .i64 a1_3) ∧ w'.cell? ⟨gB, 0, none⟩ = some (.int .i64 a2_0) ∧ w'.cell? ⟨gB, 1, none⟩ = some (.int .i64 a2_1) ∧ w'.cell? ⟨gB, 2, none⟩ = some (.int .i64 a2_2) ∧ w'.cell? ⟨gB, 3, none⟩ = some (.int .i64 a2_3)) (ds := []) #[false, false, false, false, false, false, false, false, false, false, false, false] (by kernel_rfl) rfl rfl ⟨(blk_cell KA.out 0).trans rfl, (blk_cell KA.out 1).trans rfl, (blk_cell KA.out 2).trans rfl, (blk_cell KA.out 3).trans rfl, (blk_cell KB.out 0).trans rfl, (blk_cell KB.out 1).trans rfl, (blk_cell KB.out 2).trans rfl, (blk_cell KB.out 3).trans rfl⟩ (fun hHeld => ?_); refine with_tabW imageeditorlaw10_BlendRanges.tab2 imageeditorlaw10_BlendRanges.bits2 (fun HT_ HW_ => ?_)
    generalize w21.drew = w22 at KA KB HB hHeld ⊢
    refine pure_ (i := 0) (N := some 16) (v := ?_) (a' := ?_) #[true, false, false, false, false, false, false, false, false, false, false, false] rfl rfl (any_of HT_.out (by kernel_rfl)) (fun _ _ _ h => h) (Or.inl ⟨by rfl, ?_⟩) ?_ ?_
    rotate_left
    ·intro w'
     go_simp
     with_reducible rfl
    rotate_left
    ·refine ps ?_
     rfl
    refine pure_ (i := 4) (N := some 20) (v := ?_) (a' := ?_) #[true, false, false, false, true, false, false, false, false, false, false, false] rfl rfl (any_of HT_.out (by kernel_rfl)) (fun _ _ _ h => h) (Or.inl ⟨by rfl, ?_⟩) ?_ ?_
    rotate_left
    ·intro w'
     go_simp
     with_reducible rfl
    rotate_left
    ·refine ps ?_
     rfl
    refine take_ (i := 1) (N := some 17) (v := ?_) (a' := ?_) #[true, true, false, false, true, false, false, false, false, false, false, false] rfl rfl (take_ofW HT_.out HW_.out (by kernel_rfl)) (fun _ _ _ h => h) (Or.inl ⟨by rfl, ?_⟩) hHeld ?_ ?_
    rotate_left
    ·rintro w' ⟨s0, s1, s2, s3, s4, s5, s6, s7⟩
     go_simp
     with_reducible rfl
    rotate_left
    ·refine ps ?_
     rfl
    refine take_ (i := 2) (N := some 18) (v := ?_) (a' := ?_) #[true, true, true, false, true, false, false, false, false, false, false, false] rfl rfl (take_ofW HT_.out HW_.out (by kernel_rfl)) (fun _ _ _ h => h) (Or.inl ⟨by rfl, ?_⟩) hHeld ?_ ?_
    rotate_left
    ·rintro w' ⟨s0, s1, s2, s3, s4, s5, s6, s7⟩
     go_simp
     with_reducible rfl
    rotate_left
    ·refine ps ?_
     rfl
    refine take_ (i := 5) (N := some 21) (v := ?_) (a' := ?_) #[true, true, true, false, true, true, false, false, false, false, false, false] rfl rfl (take_ofW HT_.out HW_.out (by kernel_rfl)) (fun _ _ _ h => h) (Or.inl ⟨by rfl, ?_⟩) hHeld ?_ ?_
    rotate_left
    ·rintro w' ⟨s0, s1, s2, s3, s4, s5, s6, s7⟩
     go_simp
     with_reducible rfl
    rotate_left
    ·refine ps ?_
     rfl
    refine take_ (i := 6) (N := some 22) (v := ?_) (a' := ?_) #[true, true, true, false, true, true, true, false, false, false, false, false] rfl rfl (take_ofW HT_.out HW_.out (by kernel_rfl)) (fun _ _ _ h => h) (Or.inl ⟨by rfl, ?_⟩) hHeld ?_ ?_
    rotate_left
    ·rintro w' ⟨s0, s1, s2, s3, s4, s5, s6, s7⟩
     go_simp
     with_reducible rfl
    rotate_left
    ·refine ps ?_
     rfl
    refine join_ (σ := Nat × Nat) 2 #[true, true, true, true, true, true, true, true, true, true, false, false] (fun s_ => [(19, .agg #[.int .i64 t548, .int .i64 t549, .int .i64 t550, .int .i64 t551]), (23, .agg #[.int .i64 t552, .int .i64 t553, .int .i64 t554, .int .i64 t555]), (8, .pointer (some ⟨s_.1, 0, none⟩)), (9, .pointer (some ⟨s_.2, 0, none⟩))]) (fun s_ w' => (w'.cell? ⟨gA, 0, none⟩ = some (.int .i64 a1_0) ∧ w'.cell? ⟨gA, 1, none⟩ = some (.int .i64 a1_1) ∧ w'.cell? ⟨gA, 2, none⟩ = some (.int .i64 a1_2) ∧ w'.cell? ⟨gA, 3, none⟩ = some (.int .i64 a1_3) ∧ w'.cell? ⟨gB, 0, none⟩ = some (.int .i64 a2_0) ∧ w'.cell? ⟨gB, 1, none⟩ = some (.int .i64 a2_1) ∧ w'.cell? ⟨gB, 2, none⟩ = some (.int .i64 a2_2) ∧ w'.cell? ⟨gB, 3, none⟩ = some (.int .i64 a2_3)) ∧ (w'.heap[gA]? = some (.cells #[.int .i64 a1_0, .int .i64 a1_1, .int .i64 a1_2, .int .i64 a1_3] 32 (0, 0))) ∧ (w'.heap[gB]? = some (.cells #[.int .i64 a2_0, .int .i64 a2_1, .int .i64 a2_2, .int .i64 a2_3] 32 (0, 0))) ∧ (w'.heap[s_.1]? = some (.cells #[.int .i64 0, .int .i64 0, .int .i64 0, .int .i64 0] 32 (0, 0))) ∧ (w'.heap[s_.2]? = some (.cells #[.int .i64 0, .int .i64 0, .int .i64 0, .int .i64 0] 32 (0, 0))) ∧ (w.heap.size ≤ s_.1) ∧ (w.heap.size ≤ s_.1) ∧ (gA ≠ s_.1) ∧ (s_.1 ≠ gA) ∧ (gB ≠ s_.1) ∧ (s_.1 ≠ gB) ∧ (s_.2 ≠ s_.1) ∧ (s_.1 ≠ s_.2) ∧ (w.heap.size ≤ s_.2) ∧ (w.heap.size ≤ s_.2) ∧ (gA ≠ s_.2) ∧ (s_.2 ≠ gA) ∧ (gB ≠ s_.2) ∧ (s_.2 ≠ gB) ∧ (Below w.heap.size w w')) ?_ ?_
    rotate_left
    ·intro hJ3_7_8_9
     refine join_ (σ := Nat) 3 #[true, true, true, true, true, true, true, true, true, false, false, false] (fun s_ => [(19, .agg #[.int .i64 t548, .int .i64 t549, .int .i64 t550, .int .i64 t551]), (23, .agg #[.int .i64 t552, .int .i64 t553, .int .i64 t554, .int .i64 t555]), (8, .pointer (some ⟨s_, 0, none⟩))]) (fun s_ w' => (w'.cell? ⟨gA, 0, none⟩ = some (.int .i64 a1_0) ∧ w'.cell? ⟨gA, 1, none⟩ = some (.int .i64 a1_1) ∧ w'.cell? ⟨gA, 2, none⟩ = some (.int .i64 a1_2) ∧ w'.cell? ⟨gA, 3, none⟩ = some (.int .i64 a1_3) ∧ w'.cell? ⟨gB, 0, none⟩ = some (.int .i64 a2_0) ∧ w'.cell? ⟨gB, 1, none⟩ = some (.int .i64 a2_1) ∧ w'.cell? ⟨gB, 2, none⟩ = some (.int .i64 a2_2) ∧ w'.cell? ⟨gB, 3, none⟩ = some (.int .i64 a2_3)) ∧ (w'.heap[gA]? = some (.cells #[.int .i64 a1_0, .int .i64 a1_1, .int .i64 a1_2, .int .i64 a1_3] 32 (0, 0))) ∧ (w'.heap[gB]? = some (.cells #[.int .i64 a2_0, .int .i64 a2_1, .int .i64 a2_2, .int .i64 a2_3] 32 (0, 0))) ∧ (w'.heap[s_]? = some (.cells #[.int .i64 0, .int .i64 0, .int .i64 0, .int .i64 0] 32 (0, 0))) ∧ (w.heap.size ≤ s_) ∧ (w.heap.size ≤ s_) ∧ (gA ≠ s_) ∧ (s_ ≠ gA) ∧ (gB ≠ s_) ∧ (s_ ≠ gB) ∧ (Below w.heap.size w w')) ?_ ?_
     rotate_left
     ·intro hJ3_7_8
      refine join_ (σ := Nat) 3 #[true, true, true, true, true, true, true, true, false, true, false, false] (fun s_ => [(19, .agg #[.int .i64 t548, .int .i64 t549, .int .i64 t550, .int .i64 t551]), (23, .agg #[.int .i64 t552, .int .i64 t553, .int .i64 t554, .int .i64 t555]), (9, .pointer (some ⟨s_, 0, none⟩))]) (fun s_ w' => (w'.cell? ⟨gA, 0, none⟩ = some (.int .i64 a1_0) ∧ w'.cell? ⟨gA, 1, none⟩ = some (.int .i64 a1_1) ∧ w'.cell? ⟨gA, 2, none⟩ = some (.int .i64 a1_2) ∧ w'.cell? ⟨gA, 3, none⟩ = some (.int .i64 a1_3) ∧ w'.cell? ⟨gB, 0, none⟩ = some (.int .i64 a2_0) ∧ w'.cell? ⟨gB, 1, none⟩ = some (.int .i64 a2_1) ∧ w'.cell? ⟨gB, 2, none⟩ = some (.int .i64 a2_2) ∧ w'.cell? ⟨gB, 3, none⟩ = some (.int .i64 a2_3)) ∧ (w'.heap[gA]? = some (.cells #[.int .i64 a1_0, .int .i64 a1_1, .int .i64 a1_2, .int .i64 a1_3] 32 (0, 0))) ∧ (w'.heap[gB]? = some (.cells #[.int .i64 a2_0, .int .i64 a2_1, .int .i64 a2_2, .int .i64 a2_3] 32 (0, 0))) ∧ (w'.heap[s_]? = some (.cells #[.int .i64 0, .int .i64 0, .int .i64 0, .int .i64 0] 32 (0, 0))) ∧ (w.heap.size ≤ s_) ∧ (w.heap.size ≤ s_) ∧ (gA ≠ s_) ∧ (s_ ≠ gA) ∧ (gB ≠ s_) ∧ (s_ ≠ gB) ∧ (Below w.heap.size w w')) ?_ ?_
      rotate_left
      ·intro hJ3_7_9
       refine join_ (σ := Nat × Nat) 3 #[true, true, true, true, true, true, true, false, true, true, false, false] (fun s_ => [(19, .agg #[.int .i64 t548, .int .i64 t549, .int .i64 t550, .int .i64 t551]), (8, .pointer (some ⟨s_.1, 0, none⟩)), (9, .pointer (some ⟨s_.2, 0, none⟩))]) (fun s_ w' => (w'.cell? ⟨gA, 0, none⟩ = some (.int .i64 a1_0) ∧ w'.cell? ⟨gA, 1, none⟩ = some (.int .i64 a1_1) ∧ w'.cell? ⟨gA, 2, none⟩ = some (.int .i64 a1_2) ∧ w'.cell? ⟨gA, 3, none⟩ = some (.int .i64 a1_3) ∧ w'.cell? ⟨gB, 0, none⟩ = some (.int .i64 a2_0) ∧ w'.cell? ⟨gB, 1, none⟩ = some (.int .i64 a2_1) ∧ w'.cell? ⟨gB, 2, none⟩ = some (.int .i64 a2_2) ∧ w'.cell? ⟨gB, 3, none⟩ = some (.int .i64 a2_3)) ∧ (w'.heap[gA]? = some (.cells #[.int .i64 a1_0, .int .i64 a1_1, .int .i64 a1_2, .int .i64 a1_3] 32 (0, 0))) ∧ (w'.heap[gB]? = some (.cells #[.int .i64 a2_0, .int .i64 a2_1, .int .i64 a2_2, .int .i64 a2_3] 32 (0, 0))) ∧ (w'.heap[s_.1]? = some (.cells #[.int .i64 0, .int .i64 0, .int .i64 0, .int .i64 0] 32 (0, 0))) ∧ (w'.heap[s_.2]? = some (.cells #[.int .i64 0, .int .i64 0, .int .i64 0, .int .i64 0] 32 (0, 0))) ∧ (w.heap.size ≤ s_.1) ∧ (w.heap.size ≤ s_.1) ∧ (gA ≠ s_.1) ∧ (s_.1 ≠ gA) ∧ (gB ≠ s_.1) ∧ (s_.1 ≠ gB) ∧ (s_.2 ≠ s_.1) ∧ (s_.1 ≠ s_.2) ∧ (w.heap.size ≤ s_.2) ∧ (w.heap.size ≤ s_.2) ∧ (gA ≠ s_.2) ∧ (s_.2 ≠ gA) ∧ (gB ≠ s_.2) ∧ (s_.2 ≠ gB) ∧ (Below w.heap.size w w')) ?_ ?_
       rotate_left
       ·intro hJ3_8_9
        refine join_ (σ := Unit) 4 #[true, true, true, true, true, true, true, true, false, false, false, false] (fun s_ => [(19, .agg #[.int .i64 t548, .int .i64 t549, .int .i64 t550, .int .i64 t551]), (23, .agg #[.int .i64 t552, .int .i64 t553, .int .i64 t554, .int .i64 t555])]) (fun s_ w' => (w'.cell? ⟨gA, 0, none⟩ = some (.int .i64 a1_0) ∧ w'.cell? ⟨gA, 1, none⟩ = some (.int .i64 a1_1) ∧ w'.cell? ⟨gA, 2, none⟩ = some (.int .i64 a1_2) ∧ w'.cell? ⟨gA, 3, none⟩ = some (.int .i64 a1_3) ∧ w'.cell? ⟨gB, 0, none⟩ = some (.int .i64 a2_0) ∧ w'.cell? ⟨gB, 1, none⟩ = some (.int .i64 a2_1) ∧ w'.cell? ⟨gB, 2, none⟩ = some (.int .i64 a2_2) ∧ w'.cell? ⟨gB, 3, none⟩ = some (.int .i64 a2_3)) ∧ (w'.heap[gA]? = some (.cells #[.int .i64 a1_0, .int .i64 a1_1, .int .i64 a1_2, .int .i64 a1_3] 32 (0, 0))) ∧ (w'.heap[gB]? = some (.cells #[.int .i64 a2_0, .int .i64 a2_1, .int .i64 a2_2, .int .i64 a2_3] 32 (0, 0))) ∧ (Below w.heap.size w w')) ?_ ?_
        rotate_left
        ·intro hJ3_7
         refine join_ (σ := Nat) 4 #[true, true, true, true, true, true, true, false, true, false, false, false] (fun s_ => [(19, .agg #[.int .i64 t548, .int .i64 t549, .int .i64 t550, .int .i64 t551]), (8, .pointer (some ⟨s_, 0, none⟩))]) (fun s_ w' => (w'.cell? ⟨gA, 0, none⟩ = some (.int .i64 a1_0) ∧ w'.cell? ⟨gA, 1, none⟩ = some (.int .i64 a1_1) ∧ w'.cell? ⟨gA, 2, none⟩ = some (.int .i64 a1_2) ∧ w'.cell? ⟨gA, 3, none⟩ = some (.int .i64 a1_3) ∧ w'.cell? ⟨gB, 0, none⟩ = some (.int .i64 a2_0) ∧ w'.cell? ⟨gB, 1, none⟩ = some (.int .i64 a2_1) ∧ w'.cell? ⟨gB, 2, none⟩ = some (.int .i64 a2_2) ∧ w'.cell? ⟨gB, 3, none⟩ = some (.int .i64 a2_3)) ∧ (w'.heap[gA]? = some (.cells #[.int .i64 a1_0, .int .i64 a1_1, .int .i64 a1_2, .int .i64 a1_3] 32 (0, 0))) ∧ (w'.heap[gB]? = some (.cells #[.int .i64 a2_0, .int .i64 a2_1, .int .i64 a2_2, .int .i64 a2_3] 32 (0, 0))) ∧ (w'.heap[s_]? = some (.cells #[.int .i64 0, .int .i64 0, .int .i64 0, .int .i64 0] 32 (0, 0))) ∧ (w.heap.size ≤ s_) ∧ (w.heap.size ≤ s_) ∧ (gA ≠ s_) ∧ (s_ ≠ gA) ∧ (gB ≠ s_) ∧ (s_ ≠ gB) ∧ (Below w.heap.size w w')) ?_ ?_
         rotate_left
         ·intro hJ3_8
          refine join_ (σ := Nat) 4 #[true, true, true, true, true, true, true, false, false, true, false, false] (fun s_ => [(19, .agg #[.int .i64 t548, .int .i64 t549, .int .i64 t550, .int .i64 t551]), (9, .pointer (some ⟨s_, 0, none⟩))]) (fun s_ w' => (w'.cell? ⟨gA, 0, none⟩ = some (.int .i64 a1_0) ∧ w'.cell? ⟨gA, 1, none⟩ = some (.int .i64 a1_1) ∧ w'.cell? ⟨gA, 2, none⟩ = some (.int .i64 a1_2) ∧ w'.cell? ⟨gA, 3, none⟩ = some (.int .i64 a1_3) ∧ w'.cell? ⟨gB, 0, none⟩ = some (.int .i64 a2_0) ∧ w'.cell? ⟨gB, 1, none⟩ = some (.int .i64 a2_1) ∧ w'.cell? ⟨gB, 2, none⟩ = some (.int .i64 a2_2) ∧ w'.cell? ⟨gB, 3, none⟩ = some (.int .i64 a2_3)) ∧ (w'.heap[gA]? = some (.cells #[.int .i64 a1_0, .int .i64 a1_1, .int .i64 a1_2, .int .i64 a1_3] 32 (0, 0))) ∧ (w'.heap[gB]? = some (.cells #[.int .i64 a2_0, .int .i64 a2_1, .int .i64 a2_2, .int .i64 a2_3] 32 (0, 0))) ∧ (w'.heap[s_]? = some (.cells #[.int .i64 0, .int .i64 0, .int .i64 0, .int .i64 0] 32 (0, 0))) ∧ (w.heap.size ≤ s_) ∧ (w.heap.size ≤ s_) ∧ (gA ≠ s_) ∧ (s_ ≠ gA) ∧ (gB ≠ s_) ∧ (s_ ≠ gB) ∧ (Below w.heap.size w w')) ?_ ?_
          rotate_left
          ·intro hJ3_9
           refine join_ (σ := Nat × Nat) 4 #[true, true, true, false, true, true, true, false, true, true, false, false] (fun s_ => [(8, .pointer (some ⟨s_.1, 0, none⟩)), (9, .pointer (some ⟨s_.2, 0, none⟩))]) (fun s_ w' => (w'.cell? ⟨gA, 0, none⟩ = some (.int .i64 a1_0) ∧ w'.cell? ⟨gA, 1, none⟩ = some (.int .i64 a1_1) ∧ w'.cell? ⟨gA, 2, none⟩ = some (.int .i64 a1_2) ∧ w'.cell? ⟨gA, 3, none⟩ = some (.int .i64 a1_3) ∧ w'.cell? ⟨gB, 0, none⟩ = some (.int .i64 a2_0) ∧ w'.cell? ⟨gB, 1, none⟩ = some (.int .i64 a2_1) ∧ w'.cell? ⟨gB, 2, none⟩ = some (.int .i64 a2_2) ∧ w'.cell? ⟨gB, 3, none⟩ = some (.int .i64 a2_3)) ∧ (w'.heap[gA]? = some (.cells #[.int .i64 a1_0, .int .i64 a1_1, .int .i64 a1_2, .int .i64 a1_3] 32 (0, 0))) ∧ (w'.heap[gB]? = some (.cells #[.int .i64 a2_0, .int .i64 a2_1, .int .i64 a2_2, .int .i64 a2_3] 32 (0, 0))) ∧ (w'.heap[s_.1]? = some (.cells #[.int .i64 0, .int .i64 0, .int .i64 0, .int .i64 0] 32 (0, 0))) ∧ (w'.heap[s_.2]? = some (.cells #[.int .i64 0, .int .i64 0, .int .i64 0, .int .i64 0] 32 (0, 0))) ∧ (w.heap.size ≤ s_.1) ∧ (w.heap.size ≤ s_.1) ∧ (gA ≠ s_.1) ∧ (s_.1 ≠ gA) ∧ (gB ≠ s_.1) ∧ (s_.1 ≠ gB) ∧ (s_.2 ≠ s_.1) ∧ (s_.1 ≠ s_.2) ∧ (w.heap.size ≤ s_.2) ∧ (w.heap.size ≤ s_.2) ∧ (gA ≠ s_.2) ∧ (s_.2 ≠ gA) ∧ (gB ≠ s_.2) ∧ (s_.2 ≠ gB) ∧ (Below w.heap.size w w')) ?_ ?_
           rotate_left
           ·intro hJ8_9
            refine join_ (σ := Unit) 5 #[true, true, true, true, true, true, true, false, false, false, false, false] (fun s_ => [(19, .agg #[.int .i64 t548, .int .i64 t549, .int .i64 t550, .int .i64 t551])]) (fun s_ w' => (w'.cell? ⟨gA, 0, none⟩ = some (.int .i64 a1_0) ∧ w'.cell? ⟨gA, 1, none⟩ = some (.int .i64 a1_1) ∧ w'.cell? ⟨gA, 2, none⟩ = some (.int .i64 a1_2) ∧ w'.cell? ⟨gA, 3, none⟩ = some (.int .i64 a1_3) ∧ w'.cell? ⟨gB, 0, none⟩ = some (.int .i64 a2_0) ∧ w'.cell? ⟨gB, 1, none⟩ = some (.int .i64 a2_1) ∧ w'.cell? ⟨gB, 2, none⟩ = some (.int .i64 a2_2) ∧ w'.cell? ⟨gB, 3, none⟩ = some (.int .i64 a2_3)) ∧ (w'.heap[gA]? = some (.cells #[.int .i64 a1_0, .int .i64 a1_1, .int .i64 a1_2, .int .i64 a1_3] 32 (0, 0))) ∧ (w'.heap[gB]? = some (.cells #[.int .i64 a2_0, .int .i64 a2_1, .int .i64 a2_2, .int .i64 a2_3] 32 (0, 0))) ∧ (Below w.heap.size w w')) ?_ ?_
            rotate_left
            ·intro hJ3
             refine join_ (σ := Nat) 5 #[true, true, true, false, true, true, true, false, true, false, false, false] (fun s_ => [(8, .pointer (some ⟨s_, 0, none⟩))]) (fun s_ w' => (w'.cell? ⟨gA, 0, none⟩ = some (.int .i64 a1_0) ∧ w'.cell? ⟨gA, 1, none⟩ = some (.int .i64 a1_1) ∧ w'.cell? ⟨gA, 2, none⟩ = some (.int .i64 a1_2) ∧ w'.cell? ⟨gA, 3, none⟩ = some (.int .i64 a1_3) ∧ w'.cell? ⟨gB, 0, none⟩ = some (.int .i64 a2_0) ∧ w'.cell? ⟨gB, 1, none⟩ = some (.int .i64 a2_1) ∧ w'.cell? ⟨gB, 2, none⟩ = some (.int .i64 a2_2) ∧ w'.cell? ⟨gB, 3, none⟩ = some (.int .i64 a2_3)) ∧ (w'.heap[gA]? = some (.cells #[.int .i64 a1_0, .int .i64 a1_1, .int .i64 a1_2, .int .i64 a1_3] 32 (0, 0))) ∧ (w'.heap[gB]? = some (.cells #[.int .i64 a2_0, .int .i64 a2_1, .int .i64 a2_2, .int .i64 a2_3] 32 (0, 0))) ∧ (w'.heap[s_]? = some (.cells #[.int .i64 0, .int .i64 0, .int .i64 0, .int .i64 0] 32 (0, 0))) ∧ (w.heap.size ≤ s_) ∧ (w.heap.size ≤ s_) ∧ (gA ≠ s_) ∧ (s_ ≠ gA) ∧ (gB ≠ s_) ∧ (s_ ≠ gB) ∧ (Below w.heap.size w w')) ?_ ?_
             rotate_left
             ·intro hJ8
              refine join_ (σ := Nat) 5 #[true, true, true, false, true, true, true, false, false, true, false, false] (fun s_ => [(9, .pointer (some ⟨s_, 0, none⟩))]) (fun s_ w' => (w'.cell? ⟨gA, 0, none⟩ = some (.int .i64 a1_0) ∧ w'.cell? ⟨gA, 1, none⟩ = some (.int .i64 a1_1) ∧ w'.cell? ⟨gA, 2, none⟩ = some (.int .i64 a1_2) ∧ w'.cell? ⟨gA, 3, none⟩ = some (.int .i64 a1_3) ∧ w'.cell? ⟨gB, 0, none⟩ = some (.int .i64 a2_0) ∧ w'.cell? ⟨gB, 1, none⟩ = some (.int .i64 a2_1) ∧ w'.cell? ⟨gB, 2, none⟩ = some (.int .i64 a2_2) ∧ w'.cell? ⟨gB, 3, none⟩ = some (.int .i64 a2_3)) ∧ (w'.heap[gA]? = some (.cells #[.int .i64 a1_0, .int .i64 a1_1, .int .i64 a1_2, .int .i64 a1_3] 32 (0, 0))) ∧ (w'.heap[gB]? = some (.cells #[.int .i64 a2_0, .int .i64 a2_1, .int .i64 a2_2, .int .i64 a2_3] 32 (0, 0))) ∧ (w'.heap[s_]? = some (.cells #[.int .i64 0, .int .i64 0, .int .i64 0, .int .i64 0] 32 (0, 0))) ∧ (w.heap.size ≤ s_) ∧ (w.heap.size ≤ s_) ∧ (gA ≠ s_) ∧ (s_ ≠ gA) ∧ (gB ≠ s_) ∧ (s_ ≠ gB) ∧ (Below w.heap.size w w')) ?_ ?_
              rotate_left
              ·intro hJ9
               refine three_ (i := 3) (j := 8) (k := 9) (Ni := some 19) (Nj := some 8) (Nk := some 9) #[true, true, true, true, true, true, true, false, false, false, false, false] #[true, true, true, false, true, true, true, false, true, false, false, false] #[true, true, true, false, true, true, true, false, false, true, false, false] rfl rfl rfl rfl rfl rfl (three_of HT_.out (by kernel_rfl)) (by decide) (by decide) (by decide) (fun K hK => ?_) (fun K hK => ?_) (fun K hK => ?_)
               ·skip
                refine goes_ Try.func24 (by kernel_rfl) rfl #[.int .i64 a0, .agg #[.int .i64 a1_0, .int .i64 a1_1, .int .i64 a1_2, .int .i64 a1_3], .agg #[.int .i64 a2_0, .int .i64 a2_1, .int .i64 a2_2, .int .i64 a2_3]] (by rfl) rfl rfl pm ?_
                with_reducible refine (blend_Colors.calls k a0 a1_0 a1_1 a1_2 a1_3 a2_0 a2_1 a2_2 a2_3 t548 t549 t550 t551 _ A5.out).mono ?_
                rintro e w23 ⟨rfl, hb⟩
                refine ⟨_, rfl, ?_⟩
                replace KA := bb_ KA hb
                replace KB := bb_ KB hb
                replace HB := Aside0.mk (below_step HB.out hb)
                try clear hb
                refine hK.out _ _ ⟨(blk_cell KA.out 0).trans rfl, (blk_cell KA.out 1).trans rfl, (blk_cell KA.out 2).trans rfl, (blk_cell KA.out 3).trans rfl, (blk_cell KB.out 0).trans rfl, (blk_cell KB.out 1).trans rfl, (blk_cell KB.out 2).trans rfl, (blk_cell KB.out 3).trans rfl⟩ (fun hHeld => ?_)
                clear hK K
                refine norm_ (a' := ?_) ?_ ?_
                rotate_left
                ·show Act.put _ (some 19) _ = _
                 refine ps ?_
                 rfl
                exact norm_ pp (hJ3 () _ ⟨hHeld, KA.out, KB.out, HB.out⟩)
               ·skip
                refine box_step ?hg (N := 8) ?hd (cs := #[.int .i64 0, .int .i64 0, .int .i64 0, .int .i64 0]) (t := 32) ?hr ?_; (case hd => rfl); (case hg => rfl); (case hr => first | (go_simp; done) | (go_simp; rfl))
                intro gC hg w23 hbox hb
                have KC := Aside0.mk (hbox)
                have GWC := ge_ hg HB.out
                have GEC := ge_ hg HB.out
                have NAC := nl_ hg KA
                have NCA := ng_ hg KA
                have NBC := nl_ hg KB
                have NCB := ng_ hg KB
                replace KA := bb_ KA hb
                replace KB := bb_ KB hb
                replace HB := Aside0.mk (below_step HB.out hb)
                clear hb hbox hg
                refine hK.out _ _ ⟨(blk_cell KA.out 0).trans rfl, (blk_cell KA.out 1).trans rfl, (blk_cell KA.out 2).trans rfl, (blk_cell KA.out 3).trans rfl, (blk_cell KB.out 0).trans rfl, (blk_cell KB.out 1).trans rfl, (blk_cell KB.out 2).trans rfl, (blk_cell KB.out 3).trans rfl⟩ (fun hHeld => ?_)
                clear hK K
                refine norm_ (a' := ?_) ?_ ?_
                rotate_left
                ·show Act.put _ (some 8) _ = _
                 refine ps ?_
                 rfl
                exact norm_ pp (hJ8 (gC) _ ⟨hHeld, KA.out, KB.out, KC.out, GWC.out, GEC.out, NAC.out, NCA.out, NBC.out, NCB.out, HB.out⟩)
               ·skip
                refine box_step ?hg (N := 9) ?hd (cs := #[.int .i64 0, .int .i64 0, .int .i64 0, .int .i64 0]) (t := 32) ?hr ?_; (case hd => rfl); (case hg => rfl); (case hr => first | (go_simp; done) | (go_simp; rfl))
                intro gD hg w23 hbox hb
                have KD := Aside0.mk (hbox)
                have GWD := ge_ hg HB.out
                have GED := ge_ hg HB.out
                have NAD := nl_ hg KA
                have NDA := ng_ hg KA
                have NBD := nl_ hg KB
                have NDB := ng_ hg KB
                replace KA := bb_ KA hb
                replace KB := bb_ KB hb
                replace HB := Aside0.mk (below_step HB.out hb)
                clear hb hbox hg
                refine hK.out _ _ ⟨(blk_cell KA.out 0).trans rfl, (blk_cell KA.out 1).trans rfl, (blk_cell KA.out 2).trans rfl, (blk_cell KA.out 3).trans rfl, (blk_cell KB.out 0).trans rfl, (blk_cell KB.out 1).trans rfl, (blk_cell KB.out 2).trans rfl, (blk_cell KB.out 3).trans rfl⟩ (fun hHeld => ?_)
                clear hK K
                refine norm_ (a' := ?_) ?_ ?_
                rotate_left
                ·show Act.put _ (some 9) _ = _
                 refine ps ?_
                 rfl
                exact norm_ pp (hJ9 (gD) _ ⟨hHeld, KA.out, KB.out, KD.out, GWD.out, GED.out, NAD.out, NDA.out, NBD.out, NDB.out, HB.out⟩)
              ·skip
               rintro gD w24 ⟨hS_, h0_, h1_, h2_, h3_, h4_, h5_, h6_, h7_, h8_, h9_⟩
               have n0_ : Aside0 (w24.heap[gA]? = some (.cells #[.int .i64 a1_0, .int .i64 a1_1, .int .i64 a1_2, .int .i64 a1_3] 32 (0, 0))) := ⟨h0_⟩
               have n1_ : Aside0 (w24.heap[gB]? = some (.cells #[.int .i64 a2_0, .int .i64 a2_1, .int .i64 a2_2, .int .i64 a2_3] 32 (0, 0))) := ⟨h1_⟩
               have n2_ : Aside0 (w24.heap[gD]? = some (.cells #[.int .i64 0, .int .i64 0, .int .i64 0, .int .i64 0] 32 (0, 0))) := ⟨h2_⟩
               have n3_ : Aside0 (w.heap.size ≤ gD) := ⟨h3_⟩
               have n4_ : Aside0 (w.heap.size ≤ gD) := ⟨h4_⟩
               have n5_ : Aside0 (gA ≠ gD) := ⟨h5_⟩
               have n6_ : Aside0 (gD ≠ gA) := ⟨h6_⟩
               have n7_ : Aside0 (gB ≠ gD) := ⟨h7_⟩
               have n8_ : Aside0 (gD ≠ gB) := ⟨h8_⟩
               have n9_ : Aside0 (Below w.heap.size w w24) := ⟨h9_⟩
               clear KA
               clear KB
               clear HB
               clear h0_ h1_ h2_ h3_ h4_ h5_ h6_ h7_ h8_ h9_
               have KA := n0_
               have KB := n1_
               have KD := n2_
               have GWD := n3_
               have GED := n4_
               have NAD := n5_
               have NDA := n6_
               have NBD := n7_
               have NDB := n8_
               have HB := n9_
               clear n0_ n1_ n2_ n3_ n4_ n5_ n6_ n7_ n8_ n9_
               have hHeld : w24.cell? ⟨gA, 0, none⟩ = some (.int .i64 a1_0) ∧ w24.cell? ⟨gA, 1, none⟩ = some (.int .i64 a1_1) ∧ w24.cell? ⟨gA, 2, none⟩ = some (.int .i64 a1_2) ∧ w24.cell? ⟨gA, 3, none⟩ = some (.int .i64 a1_3) ∧ w24.cell? ⟨gB, 0, none⟩ = some (.int .i64 a2_0) ∧ w24.cell? ⟨gB, 1, none⟩ = some (.int .i64 a2_1) ∧ w24.cell? ⟨gB, 2, none⟩ = some (.int .i64 a2_2) ∧ w24.cell? ⟨gB, 3, none⟩ = some (.int .i64 a2_3) := hS_
               refine norm_ (a' := ?_) ?_ ?_
               rotate_left
               ·simp only [putAll, Act.put, List.setIfInBounds_toArray, List.set_cons_zero, List.set_cons_succ]
                rfl
               refine two_ (i := 3) (j := 8) (Ni := some 19) (Nj := some 8) #[true, true, true, true, true, true, true, false, false, true, false, false] #[true, true, true, false, true, true, true, false, true, true, false, false] rfl rfl rfl rfl (two_of HT_.out (by kernel_rfl)) (by decide) (by decide) (fun K hK => ?_) (fun K hK => ?_)
               ·skip
                refine goes_ Try.func24 (by kernel_rfl) rfl #[.int .i64 a0, .agg #[.int .i64 a1_0, .int .i64 a1_1, .int .i64 a1_2, .int .i64 a1_3], .agg #[.int .i64 a2_0, .int .i64 a2_1, .int .i64 a2_2, .int .i64 a2_3]] (by rfl) rfl rfl pm ?_
                with_reducible refine (blend_Colors.calls k a0 a1_0 a1_1 a1_2 a1_3 a2_0 a2_1 a2_2 a2_3 t548 t549 t550 t551 _ A5.out).mono ?_
                rintro e w25 ⟨rfl, hb⟩
                refine ⟨_, rfl, ?_⟩
                replace KA := bb_ KA hb
                replace KB := bb_ KB hb
                replace KD := bb_ KD hb
                replace HB := Aside0.mk (below_step HB.out hb)
                try clear hb
                refine hK.out _ _ ⟨(blk_cell KA.out 0).trans rfl, (blk_cell KA.out 1).trans rfl, (blk_cell KA.out 2).trans rfl, (blk_cell KA.out 3).trans rfl, (blk_cell KB.out 0).trans rfl, (blk_cell KB.out 1).trans rfl, (blk_cell KB.out 2).trans rfl, (blk_cell KB.out 3).trans rfl⟩ (fun hHeld => ?_)
                clear hK K
                refine norm_ (a' := ?_) ?_ ?_
                rotate_left
                ·show Act.put _ (some 19) _ = _
                 refine ps ?_
                 rfl
                exact norm_ pp (hJ3_9 (gD) _ ⟨hHeld, KA.out, KB.out, KD.out, GWD.out, GED.out, NAD.out, NDA.out, NBD.out, NDB.out, HB.out⟩)
               ·skip
                refine box_step ?hg (N := 8) ?hd (cs := #[.int .i64 0, .int .i64 0, .int .i64 0, .int .i64 0]) (t := 32) ?hr ?_; (case hd => rfl); (case hg => rfl); (case hr => first | (go_simp; done) | (go_simp; rfl))
                intro gC hg w25 hbox hb
                have KC := Aside0.mk (hbox)
                have GWC := ge_ hg HB.out
                have GEC := ge_ hg HB.out
                have NAC := nl_ hg KA
                have NCA := ng_ hg KA
                have NBC := nl_ hg KB
                have NCB := ng_ hg KB
                have NDC := nl_ hg KD
                have NCD := ng_ hg KD
                replace KA := bb_ KA hb
                replace KB := bb_ KB hb
                replace KD := bb_ KD hb
                replace HB := Aside0.mk (below_step HB.out hb)
                clear hb hbox hg
                refine hK.out _ _ ⟨(blk_cell KA.out 0).trans rfl, (blk_cell KA.out 1).trans rfl, (blk_cell KA.out 2).trans rfl, (blk_cell KA.out 3).trans rfl, (blk_cell KB.out 0).trans rfl, (blk_cell KB.out 1).trans rfl, (blk_cell KB.out 2).trans rfl, (blk_cell KB.out 3).trans rfl⟩ (fun hHeld => ?_)
                clear hK K
                refine norm_ (a' := ?_) ?_ ?_
                rotate_left
                ·show Act.put _ (some 8) _ = _
                 refine ps ?_
                 rfl
                exact norm_ pp (hJ8_9 (gC, gD) _ ⟨hHeld, KA.out, KB.out, KC.out, KD.out, GWC.out, GEC.out, NAC.out, NCA.out, NBC.out, NCB.out, NDC.out, NCD.out, GWD.out, GED.out, NAD.out, NDA.out, NBD.out, NDB.out, HB.out⟩)
             ·skip
              rintro gC w24 ⟨hS_, h0_, h1_, h2_, h3_, h4_, h5_, h6_, h7_, h8_, h9_⟩
              have n0_ : Aside0 (w24.heap[gA]? = some (.cells #[.int .i64 a1_0, .int .i64 a1_1, .int .i64 a1_2, .int .i64 a1_3] 32 (0, 0))) := ⟨h0_⟩
              have n1_ : Aside0 (w24.heap[gB]? = some (.cells #[.int .i64 a2_0, .int .i64 a2_1, .int .i64 a2_2, .int .i64 a2_3] 32 (0, 0))) := ⟨h1_⟩
              have n2_ : Aside0 (w24.heap[gC]? = some (.cells #[.int .i64 0, .int .i64 0, .int .i64 0, .int .i64 0] 32 (0, 0))) := ⟨h2_⟩
              have n3_ : Aside0 (w.heap.size ≤ gC) := ⟨h3_⟩
              have n4_ : Aside0 (w.heap.size ≤ gC) := ⟨h4_⟩
              have n5_ : Aside0 (gA ≠ gC) := ⟨h5_⟩
              have n6_ : Aside0 (gC ≠ gA) := ⟨h6_⟩
              have n7_ : Aside0 (gB ≠ gC) := ⟨h7_⟩
              have n8_ : Aside0 (gC ≠ gB) := ⟨h8_⟩
              have n9_ : Aside0 (Below w.heap.size w w24) := ⟨h9_⟩
              clear KA
              clear KB
              clear HB
              clear h0_ h1_ h2_ h3_ h4_ h5_ h6_ h7_ h8_ h9_
              have KA := n0_
              have KB := n1_
              have KC := n2_
              have GWC := n3_
              have GEC := n4_
              have NAC := n5_
              have NCA := n6_
              have NBC := n7_
              have NCB := n8_
              have HB := n9_
              clear n0_ n1_ n2_ n3_ n4_ n5_ n6_ n7_ n8_ n9_
              have hHeld : w24.cell? ⟨gA, 0, none⟩ = some (.int .i64 a1_0) ∧ w24.cell? ⟨gA, 1, none⟩ = some (.int .i64 a1_1) ∧ w24.cell? ⟨gA, 2, none⟩ = some (.int .i64 a1_2) ∧ w24.cell? ⟨gA, 3, none⟩ = some (.int .i64 a1_3) ∧ w24.cell? ⟨gB, 0, none⟩ = some (.int .i64 a2_0) ∧ w24.cell? ⟨gB, 1, none⟩ = some (.int .i64 a2_1) ∧ w24.cell? ⟨gB, 2, none⟩ = some (.int .i64 a2_2) ∧ w24.cell? ⟨gB, 3, none⟩ = some (.int .i64 a2_3) := hS_
              refine norm_ (a' := ?_) ?_ ?_
              rotate_left
              ·simp only [putAll, Act.put, List.setIfInBounds_toArray, List.set_cons_zero, List.set_cons_succ]
               rfl
              refine two_ (i := 3) (j := 9) (Ni := some 19) (Nj := some 9) #[true, true, true, true, true, true, true, false, true, false, false, false] #[true, true, true, false, true, true, true, false, true, true, false, false] rfl rfl rfl rfl (two_of HT_.out (by kernel_rfl)) (by decide) (by decide) (fun K hK => ?_) (fun K hK => ?_)
              ·skip
               refine goes_ Try.func24 (by kernel_rfl) rfl #[.int .i64 a0, .agg #[.int .i64 a1_0, .int .i64 a1_1, .int .i64 a1_2, .int .i64 a1_3], .agg #[.int .i64 a2_0, .int .i64 a2_1, .int .i64 a2_2, .int .i64 a2_3]] (by rfl) rfl rfl pm ?_
               with_reducible refine (blend_Colors.calls k a0 a1_0 a1_1 a1_2 a1_3 a2_0 a2_1 a2_2 a2_3 t548 t549 t550 t551 _ A5.out).mono ?_
               rintro e w25 ⟨rfl, hb⟩
               refine ⟨_, rfl, ?_⟩
               replace KA := bb_ KA hb
               replace KB := bb_ KB hb
               replace KC := bb_ KC hb
               replace HB := Aside0.mk (below_step HB.out hb)
               try clear hb
               refine hK.out _ _ ⟨(blk_cell KA.out 0).trans rfl, (blk_cell KA.out 1).trans rfl, (blk_cell KA.out 2).trans rfl, (blk_cell KA.out 3).trans rfl, (blk_cell KB.out 0).trans rfl, (blk_cell KB.out 1).trans rfl, (blk_cell KB.out 2).trans rfl, (blk_cell KB.out 3).trans rfl⟩ (fun hHeld => ?_)
               clear hK K
               refine norm_ (a' := ?_) ?_ ?_
               rotate_left
               ·show Act.put _ (some 19) _ = _
                refine ps ?_
                rfl
               exact norm_ pp (hJ3_8 (gC) _ ⟨hHeld, KA.out, KB.out, KC.out, GWC.out, GEC.out, NAC.out, NCA.out, NBC.out, NCB.out, HB.out⟩)
              ·skip
               refine box_step ?hg (N := 9) ?hd (cs := #[.int .i64 0, .int .i64 0, .int .i64 0, .int .i64 0]) (t := 32) ?hr ?_; (case hd => rfl); (case hg => rfl); (case hr => first | (go_simp; done) | (go_simp; rfl))
               intro gD hg w25 hbox hb
               have KD := Aside0.mk (hbox)
               have GWD := ge_ hg HB.out
               have GED := ge_ hg HB.out
               have NAD := nl_ hg KA
               have NDA := ng_ hg KA
               have NBD := nl_ hg KB
               have NDB := ng_ hg KB
               have NCD := nl_ hg KC
               have NDC := ng_ hg KC
               replace KA := bb_ KA hb
               replace KB := bb_ KB hb
               replace KC := bb_ KC hb
               replace HB := Aside0.mk (below_step HB.out hb)
               clear hb hbox hg
               refine hK.out _ _ ⟨(blk_cell KA.out 0).trans rfl, (blk_cell KA.out 1).trans rfl, (blk_cell KA.out 2).trans rfl, (blk_cell KA.out 3).trans rfl, (blk_cell KB.out 0).trans rfl, (blk_cell KB.out 1).trans rfl, (blk_cell KB.out 2).trans rfl, (blk_cell KB.out 3).trans rfl⟩ (fun hHeld => ?_)
               clear hK K
               refine norm_ (a' := ?_) ?_ ?_
               rotate_left
               ·show Act.put _ (some 9) _ = _
                refine ps ?_
                rfl
               exact norm_ pp (hJ8_9 (gC, gD) _ ⟨hHeld, KA.out, KB.out, KC.out, KD.out, GWC.out, GEC.out, NAC.out, NCA.out, NBC.out, NCB.out, NDC.out, NCD.out, GWD.out, GED.out, NAD.out, NDA.out, NBD.out, NDB.out, HB.out⟩)
            ·skip
             rintro _ w24 ⟨hS_, h0_, h1_, h2_⟩
             have n0_ : Aside0 (w24.heap[gA]? = some (.cells #[.int .i64 a1_0, .int .i64 a1_1, .int .i64 a1_2, .int .i64 a1_3] 32 (0, 0))) := ⟨h0_⟩
             have n1_ : Aside0 (w24.heap[gB]? = some (.cells #[.int .i64 a2_0, .int .i64 a2_1, .int .i64 a2_2, .int .i64 a2_3] 32 (0, 0))) := ⟨h1_⟩
             have n2_ : Aside0 (Below w.heap.size w w24) := ⟨h2_⟩
             clear KA
             clear KB
             clear HB
             clear h0_ h1_ h2_
             have KA := n0_
             have KB := n1_
             have HB := n2_
             clear n0_ n1_ n2_
             have hHeld : w24.cell? ⟨gA, 0, none⟩ = some (.int .i64 a1_0) ∧ w24.cell? ⟨gA, 1, none⟩ = some (.int .i64 a1_1) ∧ w24.cell? ⟨gA, 2, none⟩ = some (.int .i64 a1_2) ∧ w24.cell? ⟨gA, 3, none⟩ = some (.int .i64 a1_3) ∧ w24.cell? ⟨gB, 0, none⟩ = some (.int .i64 a2_0) ∧ w24.cell? ⟨gB, 1, none⟩ = some (.int .i64 a2_1) ∧ w24.cell? ⟨gB, 2, none⟩ = some (.int .i64 a2_2) ∧ w24.cell? ⟨gB, 3, none⟩ = some (.int .i64 a2_3) := hS_
             refine norm_ (a' := ?_) ?_ ?_
             rotate_left
             ·simp only [putAll, Act.put, List.setIfInBounds_toArray, List.set_cons_zero, List.set_cons_succ]
              rfl
             refine three_ (i := 7) (j := 8) (k := 9) (Ni := some 23) (Nj := some 8) (Nk := some 9) #[true, true, true, true, true, true, true, true, false, false, false, false] #[true, true, true, true, true, true, true, false, true, false, false, false] #[true, true, true, true, true, true, true, false, false, true, false, false] rfl rfl rfl rfl rfl rfl (three_of HT_.out (by kernel_rfl)) (by decide) (by decide) (by decide) (fun K hK => ?_) (fun K hK => ?_) (fun K hK => ?_)
             ·skip
              refine goes_ Try.func14 (by kernel_rfl) rfl #[.int .i64 a0, .agg #[.int .i64 a1_0, .int .i64 a1_1, .int .i64 a1_2, .int .i64 a1_3], .agg #[.int .i64 a2_0, .int .i64 a2_1, .int .i64 a2_2, .int .i64 a2_3]] (by rfl) rfl rfl pm ?_
              with_reducible refine (blend_Over.calls k a0 a1_0 a1_1 a1_2 a1_3 a2_0 a2_1 a2_2 a2_3 t552 t553 t554 t555 _ A6.out).mono ?_
              rintro e w25 ⟨rfl, hb⟩
              refine ⟨_, rfl, ?_⟩
              replace KA := bb_ KA hb
              replace KB := bb_ KB hb
              replace HB := Aside0.mk (below_step HB.out hb)
              try clear hb
              refine hK.out _ _ ⟨(blk_cell KA.out 0).trans rfl, (blk_cell KA.out 1).trans rfl, (blk_cell KA.out 2).trans rfl, (blk_cell KA.out 3).trans rfl, (blk_cell KB.out 0).trans rfl, (blk_cell KB.out 1).trans rfl, (blk_cell KB.out 2).trans rfl, (blk_cell KB.out 3).trans rfl⟩ (fun hHeld => ?_)
              clear hK K
              refine norm_ (a' := ?_) ?_ ?_
              rotate_left
              ·show Act.put _ (some 23) _ = _
               refine ps ?_
               rfl
              exact norm_ pp (hJ3_7 () _ ⟨hHeld, KA.out, KB.out, HB.out⟩)
             ·skip
              refine box_step ?hg (N := 8) ?hd (cs := #[.int .i64 0, .int .i64 0, .int .i64 0, .int .i64 0]) (t := 32) ?hr ?_; (case hd => rfl); (case hg => rfl); (case hr => first | (go_simp; done) | (go_simp; rfl))
              intro gC hg w25 hbox hb
              have KC := Aside0.mk (hbox)
              have GWC := ge_ hg HB.out
              have GEC := ge_ hg HB.out
              have NAC := nl_ hg KA
              have NCA := ng_ hg KA
              have NBC := nl_ hg KB
              have NCB := ng_ hg KB
              replace KA := bb_ KA hb
              replace KB := bb_ KB hb
              replace HB := Aside0.mk (below_step HB.out hb)
              clear hb hbox hg
              refine hK.out _ _ ⟨(blk_cell KA.out 0).trans rfl, (blk_cell KA.out 1).trans rfl, (blk_cell KA.out 2).trans rfl, (blk_cell KA.out 3).trans rfl, (blk_cell KB.out 0).trans rfl, (blk_cell KB.out 1).trans rfl, (blk_cell KB.out 2).trans rfl, (blk_cell KB.out 3).trans rfl⟩ (fun hHeld => ?_)
              clear hK K
              refine norm_ (a' := ?_) ?_ ?_
              rotate_left
              ·show Act.put _ (some 8) _ = _
               refine ps ?_
               rfl
              exact norm_ pp (hJ3_8 (gC) _ ⟨hHeld, KA.out, KB.out, KC.out, GWC.out, GEC.out, NAC.out, NCA.out, NBC.out, NCB.out, HB.out⟩)
             ·skip
              refine box_step ?hg (N := 9) ?hd (cs := #[.int .i64 0, .int .i64 0, .int .i64 0, .int .i64 0]) (t := 32) ?hr ?_; (case hd => rfl); (case hg => rfl); (case hr => first | (go_simp; done) | (go_simp; rfl))
              intro gD hg w25 hbox hb
              have KD := Aside0.mk (hbox)
              have GWD := ge_ hg HB.out
              have GED := ge_ hg HB.out
              have NAD := nl_ hg KA
              have NDA := ng_ hg KA
              have NBD := nl_ hg KB
              have NDB := ng_ hg KB
              replace KA := bb_ KA hb
              replace KB := bb_ KB hb
              replace HB := Aside0.mk (below_step HB.out hb)
              clear hb hbox hg
              refine hK.out _ _ ⟨(blk_cell KA.out 0).trans rfl, (blk_cell KA.out 1).trans rfl, (blk_cell KA.out 2).trans rfl, (blk_cell KA.out 3).trans rfl, (blk_cell KB.out 0).trans rfl, (blk_cell KB.out 1).trans rfl, (blk_cell KB.out 2).trans rfl, (blk_cell KB.out 3).trans rfl⟩ (fun hHeld => ?_)
              clear hK K
              refine norm_ (a' := ?_) ?_ ?_
              rotate_left
              ·show Act.put _ (some 9) _ = _
               refine ps ?_
               rfl
              exact norm_ pp (hJ3_9 (gD) _ ⟨hHeld, KA.out, KB.out, KD.out, GWD.out, GED.out, NAD.out, NDA.out, NBD.out, NDB.out, HB.out⟩)
           ·skip
            rintro ⟨gC, gD⟩ w25 ⟨hS_, h0_, h1_, h2_, h3_, h4_, h5_, h6_, h7_, h8_, h9_, h10_, h11_, h12_, h13_, h14_, h15_, h16_, h17_, h18_⟩
            have n0_ : Aside0 (w25.heap[gA]? = some (.cells #[.int .i64 a1_0, .int .i64 a1_1, .int .i64 a1_2, .int .i64 a1_3] 32 (0, 0))) := ⟨h0_⟩
            have n1_ : Aside0 (w25.heap[gB]? = some (.cells #[.int .i64 a2_0, .int .i64 a2_1, .int .i64 a2_2, .int .i64 a2_3] 32 (0, 0))) := ⟨h1_⟩
            have n2_ : Aside0 (w25.heap[gC]? = some (.cells #[.int .i64 0, .int .i64 0, .int .i64 0, .int .i64 0] 32 (0, 0))) := ⟨h2_⟩
            have n3_ : Aside0 (w25.heap[gD]? = some (.cells #[.int .i64 0, .int .i64 0, .int .i64 0, .int .i64 0] 32 (0, 0))) := ⟨h3_⟩
            have n4_ : Aside0 (w.heap.size ≤ gC) := ⟨h4_⟩
            have n5_ : Aside0 (w.heap.size ≤ gC) := ⟨h5_⟩
            have n6_ : Aside0 (gA ≠ gC) := ⟨h6_⟩
            have n7_ : Aside0 (gC ≠ gA) := ⟨h7_⟩
            have n8_ : Aside0 (gB ≠ gC) := ⟨h8_⟩
            have n9_ : Aside0 (gC ≠ gB) := ⟨h9_⟩
            have n10_ : Aside0 (gD ≠ gC) := ⟨h10_⟩
            have n11_ : Aside0 (gC ≠ gD) := ⟨h11_⟩
            have n12_ : Aside0 (w.heap.size ≤ gD) := ⟨h12_⟩
            have n13_ : Aside0 (w.heap.size ≤ gD) := ⟨h13_⟩
            have n14_ : Aside0 (gA ≠ gD) := ⟨h14_⟩
            have n15_ : Aside0 (gD ≠ gA) := ⟨h15_⟩
            have n16_ : Aside0 (gB ≠ gD) := ⟨h16_⟩
            have n17_ : Aside0 (gD ≠ gB) := ⟨h17_⟩
            have n18_ : Aside0 (Below w.heap.size w w25) := ⟨h18_⟩
            clear KA
            clear KB
            clear HB
            clear h0_ h1_ h2_ h3_ h4_ h5_ h6_ h7_ h8_ h9_ h10_ h11_ h12_ h13_ h14_ h15_ h16_ h17_ h18_
            have KA := n0_
            have KB := n1_
            have KC := n2_
            have KD := n3_
            have GWC := n4_
            have GEC := n5_
            have NAC := n6_
            have NCA := n7_
            have NBC := n8_
            have NCB := n9_
            have NDC := n10_
            have NCD := n11_
            have GWD := n12_
            have GED := n13_
            have NAD := n14_
            have NDA := n15_
            have NBD := n16_
            have NDB := n17_
            have HB := n18_
            clear n0_ n1_ n2_ n3_ n4_ n5_ n6_ n7_ n8_ n9_ n10_ n11_ n12_ n13_ n14_ n15_ n16_ n17_ n18_
            have hHeld : w25.cell? ⟨gA, 0, none⟩ = some (.int .i64 a1_0) ∧ w25.cell? ⟨gA, 1, none⟩ = some (.int .i64 a1_1) ∧ w25.cell? ⟨gA, 2, none⟩ = some (.int .i64 a1_2) ∧ w25.cell? ⟨gA, 3, none⟩ = some (.int .i64 a1_3) ∧ w25.cell? ⟨gB, 0, none⟩ = some (.int .i64 a2_0) ∧ w25.cell? ⟨gB, 1, none⟩ = some (.int .i64 a2_1) ∧ w25.cell? ⟨gB, 2, none⟩ = some (.int .i64 a2_2) ∧ w25.cell? ⟨gB, 3, none⟩ = some (.int .i64 a2_3) := hS_
            refine norm_ (a' := ?_) ?_ ?_
            rotate_left
            ·simp only [putAll, Act.put, List.setIfInBounds_toArray, List.set_cons_zero, List.set_cons_succ]
             rfl
            refine one_ (i := 3) (N := some 19) #[true, true, true, true, true, true, true, false, true, true, false, false] rfl rfl (one_of HT_.out (by kernel_rfl)) (by decide) (fun K hK => ?_)
            refine goes_ Try.func24 (by kernel_rfl) rfl #[.int .i64 a0, .agg #[.int .i64 a1_0, .int .i64 a1_1, .int .i64 a1_2, .int .i64 a1_3], .agg #[.int .i64 a2_0, .int .i64 a2_1, .int .i64 a2_2, .int .i64 a2_3]] (by rfl) rfl rfl pm ?_
            with_reducible refine (blend_Colors.calls k a0 a1_0 a1_1 a1_2 a1_3 a2_0 a2_1 a2_2 a2_3 t548 t549 t550 t551 _ A5.out).mono ?_
            rintro e w26 ⟨rfl, hb⟩
            refine ⟨_, rfl, ?_⟩
            replace KA := bb_ KA hb
            replace KB := bb_ KB hb
            replace KC := bb_ KC hb
            replace KD := bb_ KD hb
            replace HB := Aside0.mk (below_step HB.out hb)
            try clear hb
            refine hK.out _ _ ⟨(blk_cell KA.out 0).trans rfl, (blk_cell KA.out 1).trans rfl, (blk_cell KA.out 2).trans rfl, (blk_cell KA.out 3).trans rfl, (blk_cell KB.out 0).trans rfl, (blk_cell KB.out 1).trans rfl, (blk_cell KB.out 2).trans rfl, (blk_cell KB.out 3).trans rfl⟩ (fun hHeld => ?_)
            clear hK K
            refine norm_ (a' := ?_) ?_ ?_
            rotate_left
            ·show Act.put _ (some 19) _ = _
             refine ps ?_
             rfl
            exact norm_ pp (hJ3_8_9 (gC, gD) _ ⟨hHeld, KA.out, KB.out, KC.out, KD.out, GWC.out, GEC.out, NAC.out, NCA.out, NBC.out, NCB.out, NDC.out, NCD.out, GWD.out, GED.out, NAD.out, NDA.out, NBD.out, NDB.out, HB.out⟩)
          ·skip
           rintro gD w25 ⟨hS_, h0_, h1_, h2_, h3_, h4_, h5_, h6_, h7_, h8_, h9_⟩
           have n0_ : Aside0 (w25.heap[gA]? = some (.cells #[.int .i64 a1_0, .int .i64 a1_1, .int .i64 a1_2, .int .i64 a1_3] 32 (0, 0))) := ⟨h0_⟩
           have n1_ : Aside0 (w25.heap[gB]? = some (.cells #[.int .i64 a2_0, .int .i64 a2_1, .int .i64 a2_2, .int .i64 a2_3] 32 (0, 0))) := ⟨h1_⟩
           have n2_ : Aside0 (w25.heap[gD]? = some (.cells #[.int .i64 0, .int .i64 0, .int .i64 0, .int .i64 0] 32 (0, 0))) := ⟨h2_⟩
           have n3_ : Aside0 (w.heap.size ≤ gD) := ⟨h3_⟩
           have n4_ : Aside0 (w.heap.size ≤ gD) := ⟨h4_⟩
           have n5_ : Aside0 (gA ≠ gD) := ⟨h5_⟩
           have n6_ : Aside0 (gD ≠ gA) := ⟨h6_⟩
           have n7_ : Aside0 (gB ≠ gD) := ⟨h7_⟩
           have n8_ : Aside0 (gD ≠ gB) := ⟨h8_⟩
           have n9_ : Aside0 (Below w.heap.size w w25) := ⟨h9_⟩
           clear KA
           clear KB
           clear HB
           clear h0_ h1_ h2_ h3_ h4_ h5_ h6_ h7_ h8_ h9_
           have KA := n0_
           have KB := n1_
           have KD := n2_
           have GWD := n3_
           have GED := n4_
           have NAD := n5_
           have NDA := n6_
           have NBD := n7_
           have NDB := n8_
           have HB := n9_
           clear n0_ n1_ n2_ n3_ n4_ n5_ n6_ n7_ n8_ n9_
           have hHeld : w25.cell? ⟨gA, 0, none⟩ = some (.int .i64 a1_0) ∧ w25.cell? ⟨gA, 1, none⟩ = some (.int .i64 a1_1) ∧ w25.cell? ⟨gA, 2, none⟩ = some (.int .i64 a1_2) ∧ w25.cell? ⟨gA, 3, none⟩ = some (.int .i64 a1_3) ∧ w25.cell? ⟨gB, 0, none⟩ = some (.int .i64 a2_0) ∧ w25.cell? ⟨gB, 1, none⟩ = some (.int .i64 a2_1) ∧ w25.cell? ⟨gB, 2, none⟩ = some (.int .i64 a2_2) ∧ w25.cell? ⟨gB, 3, none⟩ = some (.int .i64 a2_3) := hS_
           refine norm_ (a' := ?_) ?_ ?_
           rotate_left
           ·simp only [putAll, Act.put, List.setIfInBounds_toArray, List.set_cons_zero, List.set_cons_succ]
            rfl
           refine two_ (i := 7) (j := 8) (Ni := some 23) (Nj := some 8) #[true, true, true, true, true, true, true, true, false, true, false, false] #[true, true, true, true, true, true, true, false, true, true, false, false] rfl rfl rfl rfl (two_of HT_.out (by kernel_rfl)) (by decide) (by decide) (fun K hK => ?_) (fun K hK => ?_)
           ·skip
            refine goes_ Try.func14 (by kernel_rfl) rfl #[.int .i64 a0, .agg #[.int .i64 a1_0, .int .i64 a1_1, .int .i64 a1_2, .int .i64 a1_3], .agg #[.int .i64 a2_0, .int .i64 a2_1, .int .i64 a2_2, .int .i64 a2_3]] (by rfl) rfl rfl pm ?_
            with_reducible refine (blend_Over.calls k a0 a1_0 a1_1 a1_2 a1_3 a2_0 a2_1 a2_2 a2_3 t552 t553 t554 t555 _ A6.out).mono ?_
            rintro e w26 ⟨rfl, hb⟩
            refine ⟨_, rfl, ?_⟩
            replace KA := bb_ KA hb
            replace KB := bb_ KB hb
            replace KD := bb_ KD hb
            replace HB := Aside0.mk (below_step HB.out hb)
            try clear hb
            refine hK.out _ _ ⟨(blk_cell KA.out 0).trans rfl, (blk_cell KA.out 1).trans rfl, (blk_cell KA.out 2).trans rfl, (blk_cell KA.out 3).trans rfl, (blk_cell KB.out 0).trans rfl, (blk_cell KB.out 1).trans rfl, (blk_cell KB.out 2).trans rfl, (blk_cell KB.out 3).trans rfl⟩ (fun hHeld => ?_)
            clear hK K
            refine norm_ (a' := ?_) ?_ ?_
            rotate_left
            ·show Act.put _ (some 23) _ = _
             refine ps ?_
             rfl
            exact norm_ pp (hJ3_7_9 (gD) _ ⟨hHeld, KA.out, KB.out, KD.out, GWD.out, GED.out, NAD.out, NDA.out, NBD.out, NDB.out, HB.out⟩)
           ·skip
            refine box_step ?hg (N := 8) ?hd (cs := #[.int .i64 0, .int .i64 0, .int .i64 0, .int .i64 0]) (t := 32) ?hr ?_; (case hd => rfl); (case hg => rfl); (case hr => first | (go_simp; done) | (go_simp; rfl))
            intro gC hg w26 hbox hb
            have KC := Aside0.mk (hbox)
            have GWC := ge_ hg HB.out
            have GEC := ge_ hg HB.out
            have NAC := nl_ hg KA
            have NCA := ng_ hg KA
            have NBC := nl_ hg KB
            have NCB := ng_ hg KB
            have NDC := nl_ hg KD
            have NCD := ng_ hg KD
            replace KA := bb_ KA hb
            replace KB := bb_ KB hb
            replace KD := bb_ KD hb
            replace HB := Aside0.mk (below_step HB.out hb)
            clear hb hbox hg
            refine hK.out _ _ ⟨(blk_cell KA.out 0).trans rfl, (blk_cell KA.out 1).trans rfl, (blk_cell KA.out 2).trans rfl, (blk_cell KA.out 3).trans rfl, (blk_cell KB.out 0).trans rfl, (blk_cell KB.out 1).trans rfl, (blk_cell KB.out 2).trans rfl, (blk_cell KB.out 3).trans rfl⟩ (fun hHeld => ?_)
            clear hK K
            refine norm_ (a' := ?_) ?_ ?_
            rotate_left
            ·show Act.put _ (some 8) _ = _
             refine ps ?_
             rfl
            exact norm_ pp (hJ3_8_9 (gC, gD) _ ⟨hHeld, KA.out, KB.out, KC.out, KD.out, GWC.out, GEC.out, NAC.out, NCA.out, NBC.out, NCB.out, NDC.out, NCD.out, GWD.out, GED.out, NAD.out, NDA.out, NBD.out, NDB.out, HB.out⟩)
         ·skip
          rintro gC w25 ⟨hS_, h0_, h1_, h2_, h3_, h4_, h5_, h6_, h7_, h8_, h9_⟩
          have n0_ : Aside0 (w25.heap[gA]? = some (.cells #[.int .i64 a1_0, .int .i64 a1_1, .int .i64 a1_2, .int .i64 a1_3] 32 (0, 0))) := ⟨h0_⟩
          have n1_ : Aside0 (w25.heap[gB]? = some (.cells #[.int .i64 a2_0, .int .i64 a2_1, .int .i64 a2_2, .int .i64 a2_3] 32 (0, 0))) := ⟨h1_⟩
          have n2_ : Aside0 (w25.heap[gC]? = some (.cells #[.int .i64 0, .int .i64 0, .int .i64 0, .int .i64 0] 32 (0, 0))) := ⟨h2_⟩
          have n3_ : Aside0 (w.heap.size ≤ gC) := ⟨h3_⟩
          have n4_ : Aside0 (w.heap.size ≤ gC) := ⟨h4_⟩
          have n5_ : Aside0 (gA ≠ gC) := ⟨h5_⟩
          have n6_ : Aside0 (gC ≠ gA) := ⟨h6_⟩
          have n7_ : Aside0 (gB ≠ gC) := ⟨h7_⟩
          have n8_ : Aside0 (gC ≠ gB) := ⟨h8_⟩
          have n9_ : Aside0 (Below w.heap.size w w25) := ⟨h9_⟩
          clear KA
          clear KB
          clear HB
          clear h0_ h1_ h2_ h3_ h4_ h5_ h6_ h7_ h8_ h9_
          have KA := n0_
          have KB := n1_
          have KC := n2_
          have GWC := n3_
          have GEC := n4_
          have NAC := n5_
          have NCA := n6_
          have NBC := n7_
          have NCB := n8_
          have HB := n9_
          clear n0_ n1_ n2_ n3_ n4_ n5_ n6_ n7_ n8_ n9_
          have hHeld : w25.cell? ⟨gA, 0, none⟩ = some (.int .i64 a1_0) ∧ w25.cell? ⟨gA, 1, none⟩ = some (.int .i64 a1_1) ∧ w25.cell? ⟨gA, 2, none⟩ = some (.int .i64 a1_2) ∧ w25.cell? ⟨gA, 3, none⟩ = some (.int .i64 a1_3) ∧ w25.cell? ⟨gB, 0, none⟩ = some (.int .i64 a2_0) ∧ w25.cell? ⟨gB, 1, none⟩ = some (.int .i64 a2_1) ∧ w25.cell? ⟨gB, 2, none⟩ = some (.int .i64 a2_2) ∧ w25.cell? ⟨gB, 3, none⟩ = some (.int .i64 a2_3) := hS_
          refine norm_ (a' := ?_) ?_ ?_
          rotate_left
          ·simp only [putAll, Act.put, List.setIfInBounds_toArray, List.set_cons_zero, List.set_cons_succ]
           rfl
          refine two_ (i := 7) (j := 9) (Ni := some 23) (Nj := some 9) #[true, true, true, true, true, true, true, true, true, false, false, false] #[true, true, true, true, true, true, true, false, true, true, false, false] rfl rfl rfl rfl (two_of HT_.out (by kernel_rfl)) (by decide) (by decide) (fun K hK => ?_) (fun K hK => ?_)
          ·skip
           refine goes_ Try.func14 (by kernel_rfl) rfl #[.int .i64 a0, .agg #[.int .i64 a1_0, .int .i64 a1_1, .int .i64 a1_2, .int .i64 a1_3], .agg #[.int .i64 a2_0, .int .i64 a2_1, .int .i64 a2_2, .int .i64 a2_3]] (by rfl) rfl rfl pm ?_
           with_reducible refine (blend_Over.calls k a0 a1_0 a1_1 a1_2 a1_3 a2_0 a2_1 a2_2 a2_3 t552 t553 t554 t555 _ A6.out).mono ?_
           rintro e w26 ⟨rfl, hb⟩
           refine ⟨_, rfl, ?_⟩
           replace KA := bb_ KA hb
           replace KB := bb_ KB hb
           replace KC := bb_ KC hb
           replace HB := Aside0.mk (below_step HB.out hb)
           try clear hb
           refine hK.out _ _ ⟨(blk_cell KA.out 0).trans rfl, (blk_cell KA.out 1).trans rfl, (blk_cell KA.out 2).trans rfl, (blk_cell KA.out 3).trans rfl, (blk_cell KB.out 0).trans rfl, (blk_cell KB.out 1).trans rfl, (blk_cell KB.out 2).trans rfl, (blk_cell KB.out 3).trans rfl⟩ (fun hHeld => ?_)
           clear hK K
           refine norm_ (a' := ?_) ?_ ?_
           rotate_left
           ·show Act.put _ (some 23) _ = _
            refine ps ?_
            rfl
           exact norm_ pp (hJ3_7_8 (gC) _ ⟨hHeld, KA.out, KB.out, KC.out, GWC.out, GEC.out, NAC.out, NCA.out, NBC.out, NCB.out, HB.out⟩)
          ·skip
           refine box_step ?hg (N := 9) ?hd (cs := #[.int .i64 0, .int .i64 0, .int .i64 0, .int .i64 0]) (t := 32) ?hr ?_; (case hd => rfl); (case hg => rfl); (case hr => first | (go_simp; done) | (go_simp; rfl))
           intro gD hg w26 hbox hb
           have KD := Aside0.mk (hbox)
           have GWD := ge_ hg HB.out
           have GED := ge_ hg HB.out
           have NAD := nl_ hg KA
           have NDA := ng_ hg KA
           have NBD := nl_ hg KB
           have NDB := ng_ hg KB
           have NCD := nl_ hg KC
           have NDC := ng_ hg KC
           replace KA := bb_ KA hb
           replace KB := bb_ KB hb
           replace KC := bb_ KC hb
           replace HB := Aside0.mk (below_step HB.out hb)
           clear hb hbox hg
           refine hK.out _ _ ⟨(blk_cell KA.out 0).trans rfl, (blk_cell KA.out 1).trans rfl, (blk_cell KA.out 2).trans rfl, (blk_cell KA.out 3).trans rfl, (blk_cell KB.out 0).trans rfl, (blk_cell KB.out 1).trans rfl, (blk_cell KB.out 2).trans rfl, (blk_cell KB.out 3).trans rfl⟩ (fun hHeld => ?_)
           clear hK K
           refine norm_ (a' := ?_) ?_ ?_
           rotate_left
           ·show Act.put _ (some 9) _ = _
            refine ps ?_
            rfl
           exact norm_ pp (hJ3_8_9 (gC, gD) _ ⟨hHeld, KA.out, KB.out, KC.out, KD.out, GWC.out, GEC.out, NAC.out, NCA.out, NBC.out, NCB.out, NDC.out, NCD.out, GWD.out, GED.out, NAD.out, NDA.out, NBD.out, NDB.out, HB.out⟩)
        ·skip
         rintro _ w25 ⟨hS_, h0_, h1_, h2_⟩
         have n0_ : Aside0 (w25.heap[gA]? = some (.cells #[.int .i64 a1_0, .int .i64 a1_1, .int .i64 a1_2, .int .i64 a1_3] 32 (0, 0))) := ⟨h0_⟩
         have n1_ : Aside0 (w25.heap[gB]? = some (.cells #[.int .i64 a2_0, .int .i64 a2_1, .int .i64 a2_2, .int .i64 a2_3] 32 (0, 0))) := ⟨h1_⟩
         have n2_ : Aside0 (Below w.heap.size w w25) := ⟨h2_⟩
         clear KA
         clear KB
         clear HB
         clear h0_ h1_ h2_
         have KA := n0_
         have KB := n1_
         have HB := n2_
         clear n0_ n1_ n2_
         have hHeld : w25.cell? ⟨gA, 0, none⟩ = some (.int .i64 a1_0) ∧ w25.cell? ⟨gA, 1, none⟩ = some (.int .i64 a1_1) ∧ w25.cell? ⟨gA, 2, none⟩ = some (.int .i64 a1_2) ∧ w25.cell? ⟨gA, 3, none⟩ = some (.int .i64 a1_3) ∧ w25.cell? ⟨gB, 0, none⟩ = some (.int .i64 a2_0) ∧ w25.cell? ⟨gB, 1, none⟩ = some (.int .i64 a2_1) ∧ w25.cell? ⟨gB, 2, none⟩ = some (.int .i64 a2_2) ∧ w25.cell? ⟨gB, 3, none⟩ = some (.int .i64 a2_3) := hS_
         refine norm_ (a' := ?_) ?_ ?_
         rotate_left
         ·simp only [putAll, Act.put, List.setIfInBounds_toArray, List.set_cons_zero, List.set_cons_succ]
          rfl
         refine two_ (i := 8) (j := 9) (Ni := some 8) (Nj := some 9) #[true, true, true, true, true, true, true, true, true, false, false, false] #[true, true, true, true, true, true, true, true, false, true, false, false] rfl rfl rfl rfl (two_of HT_.out (by kernel_rfl)) (by decide) (by decide) (fun K hK => ?_) (fun K hK => ?_)
         ·skip
          refine box_step ?hg (N := 8) ?hd (cs := #[.int .i64 0, .int .i64 0, .int .i64 0, .int .i64 0]) (t := 32) ?hr ?_; (case hd => rfl); (case hg => rfl); (case hr => first | (go_simp; done) | (go_simp; rfl))
          intro gC hg w26 hbox hb
          have KC := Aside0.mk (hbox)
          have GWC := ge_ hg HB.out
          have GEC := ge_ hg HB.out
          have NAC := nl_ hg KA
          have NCA := ng_ hg KA
          have NBC := nl_ hg KB
          have NCB := ng_ hg KB
          replace KA := bb_ KA hb
          replace KB := bb_ KB hb
          replace HB := Aside0.mk (below_step HB.out hb)
          clear hb hbox hg
          refine hK.out _ _ ⟨(blk_cell KA.out 0).trans rfl, (blk_cell KA.out 1).trans rfl, (blk_cell KA.out 2).trans rfl, (blk_cell KA.out 3).trans rfl, (blk_cell KB.out 0).trans rfl, (blk_cell KB.out 1).trans rfl, (blk_cell KB.out 2).trans rfl, (blk_cell KB.out 3).trans rfl⟩ (fun hHeld => ?_)
          clear hK K
          refine norm_ (a' := ?_) ?_ ?_
          rotate_left
          ·show Act.put _ (some 8) _ = _
           refine ps ?_
           rfl
          exact norm_ pp (hJ3_7_8 (gC) _ ⟨hHeld, KA.out, KB.out, KC.out, GWC.out, GEC.out, NAC.out, NCA.out, NBC.out, NCB.out, HB.out⟩)
         ·skip
          refine box_step ?hg (N := 9) ?hd (cs := #[.int .i64 0, .int .i64 0, .int .i64 0, .int .i64 0]) (t := 32) ?hr ?_; (case hd => rfl); (case hg => rfl); (case hr => first | (go_simp; done) | (go_simp; rfl))
          intro gD hg w26 hbox hb
          have KD := Aside0.mk (hbox)
          have GWD := ge_ hg HB.out
          have GED := ge_ hg HB.out
          have NAD := nl_ hg KA
          have NDA := ng_ hg KA
          have NBD := nl_ hg KB
          have NDB := ng_ hg KB
          replace KA := bb_ KA hb
          replace KB := bb_ KB hb
          replace HB := Aside0.mk (below_step HB.out hb)
          clear hb hbox hg
          refine hK.out _ _ ⟨(blk_cell KA.out 0).trans rfl, (blk_cell KA.out 1).trans rfl, (blk_cell KA.out 2).trans rfl, (blk_cell KA.out 3).trans rfl, (blk_cell KB.out 0).trans rfl, (blk_cell KB.out 1).trans rfl, (blk_cell KB.out 2).trans rfl, (blk_cell KB.out 3).trans rfl⟩ (fun hHeld => ?_)
          clear hK K
          refine norm_ (a' := ?_) ?_ ?_
          rotate_left
          ·show Act.put _ (some 9) _ = _
           refine ps ?_
           rfl
          exact norm_ pp (hJ3_7_9 (gD) _ ⟨hHeld, KA.out, KB.out, KD.out, GWD.out, GED.out, NAD.out, NDA.out, NBD.out, NDB.out, HB.out⟩)
       ·skip
        rintro ⟨gC, gD⟩ w26 ⟨hS_, h0_, h1_, h2_, h3_, h4_, h5_, h6_, h7_, h8_, h9_, h10_, h11_, h12_, h13_, h14_, h15_, h16_, h17_, h18_⟩
        have n0_ : Aside0 (w26.heap[gA]? = some (.cells #[.int .i64 a1_0, .int .i64 a1_1, .int .i64 a1_2, .int .i64 a1_3] 32 (0, 0))) := ⟨h0_⟩
        have n1_ : Aside0 (w26.heap[gB]? = some (.cells #[.int .i64 a2_0, .int .i64 a2_1, .int .i64 a2_2, .int .i64 a2_3] 32 (0, 0))) := ⟨h1_⟩
        have n2_ : Aside0 (w26.heap[gC]? = some (.cells #[.int .i64 0, .int .i64 0, .int .i64 0, .int .i64 0] 32 (0, 0))) := ⟨h2_⟩
        have n3_ : Aside0 (w26.heap[gD]? = some (.cells #[.int .i64 0, .int .i64 0, .int .i64 0, .int .i64 0] 32 (0, 0))) := ⟨h3_⟩
        have n4_ : Aside0 (w.heap.size ≤ gC) := ⟨h4_⟩
        have n5_ : Aside0 (w.heap.size ≤ gC) := ⟨h5_⟩
        have n6_ : Aside0 (gA ≠ gC) := ⟨h6_⟩
        have n7_ : Aside0 (gC ≠ gA) := ⟨h7_⟩
        have n8_ : Aside0 (gB ≠ gC) := ⟨h8_⟩
        have n9_ : Aside0 (gC ≠ gB) := ⟨h9_⟩
        have n10_ : Aside0 (gD ≠ gC) := ⟨h10_⟩
        have n11_ : Aside0 (gC ≠ gD) := ⟨h11_⟩
        have n12_ : Aside0 (w.heap.size ≤ gD) := ⟨h12_⟩
        have n13_ : Aside0 (w.heap.size ≤ gD) := ⟨h13_⟩
        have n14_ : Aside0 (gA ≠ gD) := ⟨h14_⟩
        have n15_ : Aside0 (gD ≠ gA) := ⟨h15_⟩
        have n16_ : Aside0 (gB ≠ gD) := ⟨h16_⟩
        have n17_ : Aside0 (gD ≠ gB) := ⟨h17_⟩
        have n18_ : Aside0 (Below w.heap.size w w26) := ⟨h18_⟩
        clear KA
        clear KB
        clear HB
        clear h0_ h1_ h2_ h3_ h4_ h5_ h6_ h7_ h8_ h9_ h10_ h11_ h12_ h13_ h14_ h15_ h16_ h17_ h18_
        have KA := n0_
        have KB := n1_
        have KC := n2_
        have KD := n3_
        have GWC := n4_
        have GEC := n5_
        have NAC := n6_
        have NCA := n7_
        have NBC := n8_
        have NCB := n9_
        have NDC := n10_
        have NCD := n11_
        have GWD := n12_
        have GED := n13_
        have NAD := n14_
        have NDA := n15_
        have NBD := n16_
        have NDB := n17_
        have HB := n18_
        clear n0_ n1_ n2_ n3_ n4_ n5_ n6_ n7_ n8_ n9_ n10_ n11_ n12_ n13_ n14_ n15_ n16_ n17_ n18_
        have hHeld : w26.cell? ⟨gA, 0, none⟩ = some (.int .i64 a1_0) ∧ w26.cell? ⟨gA, 1, none⟩ = some (.int .i64 a1_1) ∧ w26.cell? ⟨gA, 2, none⟩ = some (.int .i64 a1_2) ∧ w26.cell? ⟨gA, 3, none⟩ = some (.int .i64 a1_3) ∧ w26.cell? ⟨gB, 0, none⟩ = some (.int .i64 a2_0) ∧ w26.cell? ⟨gB, 1, none⟩ = some (.int .i64 a2_1) ∧ w26.cell? ⟨gB, 2, none⟩ = some (.int .i64 a2_2) ∧ w26.cell? ⟨gB, 3, none⟩ = some (.int .i64 a2_3) := hS_
        refine norm_ (a' := ?_) ?_ ?_
        rotate_left
        ·simp only [putAll, Act.put, List.setIfInBounds_toArray, List.set_cons_zero, List.set_cons_succ]
         rfl
        refine one_ (i := 7) (N := some 23) #[true, true, true, true, true, true, true, true, true, true, false, false] rfl rfl (one_of HT_.out (by kernel_rfl)) (by decide) (fun K hK => ?_)
        refine goes_ Try.func14 (by kernel_rfl) rfl #[.int .i64 a0, .agg #[.int .i64 a1_0, .int .i64 a1_1, .int .i64 a1_2, .int .i64 a1_3], .agg #[.int .i64 a2_0, .int .i64 a2_1, .int .i64 a2_2, .int .i64 a2_3]] (by rfl) rfl rfl pm ?_
        with_reducible refine (blend_Over.calls k a0 a1_0 a1_1 a1_2 a1_3 a2_0 a2_1 a2_2 a2_3 t552 t553 t554 t555 _ A6.out).mono ?_
        rintro e w27 ⟨rfl, hb⟩
        refine ⟨_, rfl, ?_⟩
        replace KA := bb_ KA hb
        replace KB := bb_ KB hb
        replace KC := bb_ KC hb
        replace KD := bb_ KD hb
        replace HB := Aside0.mk (below_step HB.out hb)
        try clear hb
        refine hK.out _ _ ⟨(blk_cell KA.out 0).trans rfl, (blk_cell KA.out 1).trans rfl, (blk_cell KA.out 2).trans rfl, (blk_cell KA.out 3).trans rfl, (blk_cell KB.out 0).trans rfl, (blk_cell KB.out 1).trans rfl, (blk_cell KB.out 2).trans rfl, (blk_cell KB.out 3).trans rfl⟩ (fun hHeld => ?_)
        clear hK K
        refine norm_ (a' := ?_) ?_ ?_
        rotate_left
        ·show Act.put _ (some 23) _ = _
         refine ps ?_
         rfl
        exact norm_ pp (hJ3_7_8_9 (gC, gD) _ ⟨hHeld, KA.out, KB.out, KC.out, KD.out, GWC.out, GEC.out, NAC.out, NCA.out, NBC.out, NCB.out, NDC.out, NCD.out, GWD.out, GED.out, NAD.out, NDA.out, NBD.out, NDB.out, HB.out⟩)
      ·skip
       rintro gD w26 ⟨hS_, h0_, h1_, h2_, h3_, h4_, h5_, h6_, h7_, h8_, h9_⟩
       have n0_ : Aside0 (w26.heap[gA]? = some (.cells #[.int .i64 a1_0, .int .i64 a1_1, .int .i64 a1_2, .int .i64 a1_3] 32 (0, 0))) := ⟨h0_⟩
       have n1_ : Aside0 (w26.heap[gB]? = some (.cells #[.int .i64 a2_0, .int .i64 a2_1, .int .i64 a2_2, .int .i64 a2_3] 32 (0, 0))) := ⟨h1_⟩
       have n2_ : Aside0 (w26.heap[gD]? = some (.cells #[.int .i64 0, .int .i64 0, .int .i64 0, .int .i64 0] 32 (0, 0))) := ⟨h2_⟩
       have n3_ : Aside0 (w.heap.size ≤ gD) := ⟨h3_⟩
       have n4_ : Aside0 (w.heap.size ≤ gD) := ⟨h4_⟩
       have n5_ : Aside0 (gA ≠ gD) := ⟨h5_⟩
       have n6_ : Aside0 (gD ≠ gA) := ⟨h6_⟩
       have n7_ : Aside0 (gB ≠ gD) := ⟨h7_⟩
       have n8_ : Aside0 (gD ≠ gB) := ⟨h8_⟩
       have n9_ : Aside0 (Below w.heap.size w w26) := ⟨h9_⟩
       clear KA
       clear KB
       clear HB
       clear h0_ h1_ h2_ h3_ h4_ h5_ h6_ h7_ h8_ h9_
       have KA := n0_
       have KB := n1_
       have KD := n2_
       have GWD := n3_
       have GED := n4_
       have NAD := n5_
       have NDA := n6_
       have NBD := n7_
       have NDB := n8_
       have HB := n9_
       clear n0_ n1_ n2_ n3_ n4_ n5_ n6_ n7_ n8_ n9_
       have hHeld : w26.cell? ⟨gA, 0, none⟩ = some (.int .i64 a1_0) ∧ w26.cell? ⟨gA, 1, none⟩ = some (.int .i64 a1_1) ∧ w26.cell? ⟨gA, 2, none⟩ = some (.int .i64 a1_2) ∧ w26.cell? ⟨gA, 3, none⟩ = some (.int .i64 a1_3) ∧ w26.cell? ⟨gB, 0, none⟩ = some (.int .i64 a2_0) ∧ w26.cell? ⟨gB, 1, none⟩ = some (.int .i64 a2_1) ∧ w26.cell? ⟨gB, 2, none⟩ = some (.int .i64 a2_2) ∧ w26.cell? ⟨gB, 3, none⟩ = some (.int .i64 a2_3) := hS_
       refine norm_ (a' := ?_) ?_ ?_
       rotate_left
       ·simp only [putAll, Act.put, List.setIfInBounds_toArray, List.set_cons_zero, List.set_cons_succ]
        rfl
       refine one_ (i := 8) (N := some 8) #[true, true, true, true, true, true, true, true, true, true, false, false] rfl rfl (one_of HT_.out (by kernel_rfl)) (by decide) (fun K hK => ?_)
       refine box_step ?hg (N := 8) ?hd (cs := #[.int .i64 0, .int .i64 0, .int .i64 0, .int .i64 0]) (t := 32) ?hr ?_; (case hd => rfl); (case hg => rfl); (case hr => first | (go_simp; done) | (go_simp; rfl))
       intro gC hg w27 hbox hb
       have KC := Aside0.mk (hbox)
       have GWC := ge_ hg HB.out
       have GEC := ge_ hg HB.out
       have NAC := nl_ hg KA
       have NCA := ng_ hg KA
       have NBC := nl_ hg KB
       have NCB := ng_ hg KB
       have NDC := nl_ hg KD
       have NCD := ng_ hg KD
       replace KA := bb_ KA hb
       replace KB := bb_ KB hb
       replace KD := bb_ KD hb
       replace HB := Aside0.mk (below_step HB.out hb)
       clear hb hbox hg
       refine hK.out _ _ ⟨(blk_cell KA.out 0).trans rfl, (blk_cell KA.out 1).trans rfl, (blk_cell KA.out 2).trans rfl, (blk_cell KA.out 3).trans rfl, (blk_cell KB.out 0).trans rfl, (blk_cell KB.out 1).trans rfl, (blk_cell KB.out 2).trans rfl, (blk_cell KB.out 3).trans rfl⟩ (fun hHeld => ?_)
       clear hK K
       refine norm_ (a' := ?_) ?_ ?_
       rotate_left
       ·show Act.put _ (some 8) _ = _
        refine ps ?_
        rfl
       exact norm_ pp (hJ3_7_8_9 (gC, gD) _ ⟨hHeld, KA.out, KB.out, KC.out, KD.out, GWC.out, GEC.out, NAC.out, NCA.out, NBC.out, NCB.out, NDC.out, NCD.out, GWD.out, GED.out, NAD.out, NDA.out, NBD.out, NDB.out, HB.out⟩)
     ·skip
      rintro gC w26 ⟨hS_, h0_, h1_, h2_, h3_, h4_, h5_, h6_, h7_, h8_, h9_⟩
      have n0_ : Aside0 (w26.heap[gA]? = some (.cells #[.int .i64 a1_0, .int .i64 a1_1, .int .i64 a1_2, .int .i64 a1_3] 32 (0, 0))) := ⟨h0_⟩
      have n1_ : Aside0 (w26.heap[gB]? = some (.cells #[.int .i64 a2_0, .int .i64 a2_1, .int .i64 a2_2, .int .i64 a2_3] 32 (0, 0))) := ⟨h1_⟩
      have n2_ : Aside0 (w26.heap[gC]? = some (.cells #[.int .i64 0, .int .i64 0, .int .i64 0, .int .i64 0] 32 (0, 0))) := ⟨h2_⟩
      have n3_ : Aside0 (w.heap.size ≤ gC) := ⟨h3_⟩
      have n4_ : Aside0 (w.heap.size ≤ gC) := ⟨h4_⟩
      have n5_ : Aside0 (gA ≠ gC) := ⟨h5_⟩
      have n6_ : Aside0 (gC ≠ gA) := ⟨h6_⟩
      have n7_ : Aside0 (gB ≠ gC) := ⟨h7_⟩
      have n8_ : Aside0 (gC ≠ gB) := ⟨h8_⟩
      have n9_ : Aside0 (Below w.heap.size w w26) := ⟨h9_⟩
      clear KA
      clear KB
      clear HB
      clear h0_ h1_ h2_ h3_ h4_ h5_ h6_ h7_ h8_ h9_
      have KA := n0_
      have KB := n1_
      have KC := n2_
      have GWC := n3_
      have GEC := n4_
      have NAC := n5_
      have NCA := n6_
      have NBC := n7_
      have NCB := n8_
      have HB := n9_
      clear n0_ n1_ n2_ n3_ n4_ n5_ n6_ n7_ n8_ n9_
      have hHeld : w26.cell? ⟨gA, 0, none⟩ = some (.int .i64 a1_0) ∧ w26.cell? ⟨gA, 1, none⟩ = some (.int .i64 a1_1) ∧ w26.cell? ⟨gA, 2, none⟩ = some (.int .i64 a1_2) ∧ w26.cell? ⟨gA, 3, none⟩ = some (.int .i64 a1_3) ∧ w26.cell? ⟨gB, 0, none⟩ = some (.int .i64 a2_0) ∧ w26.cell? ⟨gB, 1, none⟩ = some (.int .i64 a2_1) ∧ w26.cell? ⟨gB, 2, none⟩ = some (.int .i64 a2_2) ∧ w26.cell? ⟨gB, 3, none⟩ = some (.int .i64 a2_3) := hS_
      refine norm_ (a' := ?_) ?_ ?_
      rotate_left
      ·simp only [putAll, Act.put, List.setIfInBounds_toArray, List.set_cons_zero, List.set_cons_succ]
       rfl
      refine one_ (i := 9) (N := some 9) #[true, true, true, true, true, true, true, true, true, true, false, false] rfl rfl (one_of HT_.out (by kernel_rfl)) (by decide) (fun K hK => ?_)
      refine box_step ?hg (N := 9) ?hd (cs := #[.int .i64 0, .int .i64 0, .int .i64 0, .int .i64 0]) (t := 32) ?hr ?_; (case hd => rfl); (case hg => rfl); (case hr => first | (go_simp; done) | (go_simp; rfl))
      intro gD hg w27 hbox hb
      have KD := Aside0.mk (hbox)
      have GWD := ge_ hg HB.out
      have GED := ge_ hg HB.out
      have NAD := nl_ hg KA
      have NDA := ng_ hg KA
      have NBD := nl_ hg KB
      have NDB := ng_ hg KB
      have NCD := nl_ hg KC
      have NDC := ng_ hg KC
      replace KA := bb_ KA hb
      replace KB := bb_ KB hb
      replace KC := bb_ KC hb
      replace HB := Aside0.mk (below_step HB.out hb)
      clear hb hbox hg
      refine hK.out _ _ ⟨(blk_cell KA.out 0).trans rfl, (blk_cell KA.out 1).trans rfl, (blk_cell KA.out 2).trans rfl, (blk_cell KA.out 3).trans rfl, (blk_cell KB.out 0).trans rfl, (blk_cell KB.out 1).trans rfl, (blk_cell KB.out 2).trans rfl, (blk_cell KB.out 3).trans rfl⟩ (fun hHeld => ?_)
      clear hK K
      refine norm_ (a' := ?_) ?_ ?_
      rotate_left
      ·show Act.put _ (some 9) _ = _
       refine ps ?_
       rfl
      exact norm_ pp (hJ3_7_8_9 (gC, gD) _ ⟨hHeld, KA.out, KB.out, KC.out, KD.out, GWC.out, GEC.out, NAC.out, NCA.out, NBC.out, NCB.out, NDC.out, NCD.out, GWD.out, GED.out, NAD.out, NDA.out, NBD.out, NDB.out, HB.out⟩)
    rintro ⟨gC, gD⟩ w27 ⟨hS_, h0_, h1_, h2_, h3_, h4_, h5_, h6_, h7_, h8_, h9_, h10_, h11_, h12_, h13_, h14_, h15_, h16_, h17_, h18_⟩
    have n0_ : Aside0 (w27.heap[gA]? = some (.cells #[.int .i64 a1_0, .int .i64 a1_1, .int .i64 a1_2, .int .i64 a1_3] 32 (0, 0))) := ⟨h0_⟩
    have n1_ : Aside0 (w27.heap[gB]? = some (.cells #[.int .i64 a2_0, .int .i64 a2_1, .int .i64 a2_2, .int .i64 a2_3] 32 (0, 0))) := ⟨h1_⟩
    have n2_ : Aside0 (w27.heap[gC]? = some (.cells #[.int .i64 0, .int .i64 0, .int .i64 0, .int .i64 0] 32 (0, 0))) := ⟨h2_⟩
    have n3_ : Aside0 (w27.heap[gD]? = some (.cells #[.int .i64 0, .int .i64 0, .int .i64 0, .int .i64 0] 32 (0, 0))) := ⟨h3_⟩
    have n4_ : Aside0 (w.heap.size ≤ gC) := ⟨h4_⟩
    have n5_ : Aside0 (w.heap.size ≤ gC) := ⟨h5_⟩
    have n6_ : Aside0 (gA ≠ gC) := ⟨h6_⟩
    have n7_ : Aside0 (gC ≠ gA) := ⟨h7_⟩
    have n8_ : Aside0 (gB ≠ gC) := ⟨h8_⟩
    have n9_ : Aside0 (gC ≠ gB) := ⟨h9_⟩
    have n10_ : Aside0 (gD ≠ gC) := ⟨h10_⟩
    have n11_ : Aside0 (gC ≠ gD) := ⟨h11_⟩
    have n12_ : Aside0 (w.heap.size ≤ gD) := ⟨h12_⟩
    have n13_ : Aside0 (w.heap.size ≤ gD) := ⟨h13_⟩
    have n14_ : Aside0 (gA ≠ gD) := ⟨h14_⟩
    have n15_ : Aside0 (gD ≠ gA) := ⟨h15_⟩
    have n16_ : Aside0 (gB ≠ gD) := ⟨h16_⟩
    have n17_ : Aside0 (gD ≠ gB) := ⟨h17_⟩
    have n18_ : Aside0 (Below w.heap.size w w27) := ⟨h18_⟩
    clear KA
    clear KB
    clear HB
    clear h0_ h1_ h2_ h3_ h4_ h5_ h6_ h7_ h8_ h9_ h10_ h11_ h12_ h13_ h14_ h15_ h16_ h17_ h18_
    have KA := n0_
    have KB := n1_
    have KC := n2_
    have KD := n3_
    have GWC := n4_
    have GEC := n5_
    have NAC := n6_
    have NCA := n7_
    have NBC := n8_
    have NCB := n9_
    have NDC := n10_
    have NCD := n11_
    have GWD := n12_
    have GED := n13_
    have NAD := n14_
    have NDA := n15_
    have NBD := n16_
    have NDB := n17_
    have HB := n18_
    clear n0_ n1_ n2_ n3_ n4_ n5_ n6_ n7_ n8_ n9_ n10_ n11_ n12_ n13_ n14_ n15_ n16_ n17_ n18_
    have hHeld : w27.cell? ⟨gA, 0, none⟩ = some (.int .i64 a1_0) ∧ w27.cell? ⟨gA, 1, none⟩ = some (.int .i64 a1_1) ∧ w27.cell? ⟨gA, 2, none⟩ = some (.int .i64 a1_2) ∧ w27.cell? ⟨gA, 3, none⟩ = some (.int .i64 a1_3) ∧ w27.cell? ⟨gB, 0, none⟩ = some (.int .i64 a2_0) ∧ w27.cell? ⟨gB, 1, none⟩ = some (.int .i64 a2_1) ∧ w27.cell? ⟨gB, 2, none⟩ = some (.int .i64 a2_2) ∧ w27.cell? ⟨gB, 3, none⟩ = some (.int .i64 a2_3) := hS_
    refine norm_ (a' := ?_) ?_ ?_
    rotate_left
    ·simp only [putAll, Act.put, List.setIfInBounds_toArray, List.set_cons_zero, List.set_cons_succ]
     rfl
    refine one_ (i := 10) (N := none) #[true, true, true, true, true, true, true, true, true, true, true, false] rfl rfl (one_of HT_.out (by kernel_rfl)) (by decide) (fun K hK => ?_)
    have hs28 := ci_ KC 0 (.int .i64 0)
    have hfs28 := blk_frozen KC.out 0
    have hns28_0 := NAC.out
    have hns28_1 := NBC.out
    have hns28_3 := NDC.out
    have hms28_0 := NCA.out
    have hms28_1 := NCB.out
    have hms28_3 := NCD.out
    have hs29 := ci_ KC 1 (.int .i64 0)
    have hfs29 := blk_frozen KC.out 1
    have hns29_0 := NAC.out
    have hns29_1 := NBC.out
    have hns29_3 := NDC.out
    have hms29_0 := NCA.out
    have hms29_1 := NCB.out
    have hms29_3 := NCD.out
    have hs30 := ci_ KC 2 (.int .i64 0)
    have hfs30 := blk_frozen KC.out 2
    have hns30_0 := NAC.out
    have hns30_1 := NBC.out
    have hns30_3 := NDC.out
    have hms30_0 := NCA.out
    have hms30_1 := NCB.out
    have hms30_3 := NCD.out
    have hs31 := ci_ KC 3 (.int .i64 0)
    have hfs31 := blk_frozen KC.out 3
    have hns31_0 := NAC.out
    have hns31_1 := NBC.out
    have hns31_3 := NDC.out
    have hms31_0 := NCA.out
    have hms31_1 := NCB.out
    have hms31_3 := NCD.out
    refine skip_ (w1 := ?_) (by rfl) rfl ?_ ?_
    rotate_left
    ·go_simp
     rfl
    refine hK.out _ _ ⟨((cell_far (p := ⟨gC, _, none⟩) NAC.out _).trans (((cell_far (p := ⟨gC, _, none⟩) NAC.out _).trans (((cell_far (p := ⟨gC, _, none⟩) NAC.out _).trans (((cell_far (p := ⟨gC, _, none⟩) NAC.out _).trans (hHeld.1)))))))), ((cell_far (p := ⟨gC, _, none⟩) NAC.out _).trans (((cell_far (p := ⟨gC, _, none⟩) NAC.out _).trans (((cell_far (p := ⟨gC, _, none⟩) NAC.out _).trans (((cell_far (p := ⟨gC, _, none⟩) NAC.out _).trans (hHeld.2.1)))))))), ((cell_far (p := ⟨gC, _, none⟩) NAC.out _).trans (((cell_far (p := ⟨gC, _, none⟩) NAC.out _).trans (((cell_far (p := ⟨gC, _, none⟩) NAC.out _).trans (((cell_far (p := ⟨gC, _, none⟩) NAC.out _).trans (hHeld.2.2.1)))))))), ((cell_far (p := ⟨gC, _, none⟩) NAC.out _).trans (((cell_far (p := ⟨gC, _, none⟩) NAC.out _).trans (((cell_far (p := ⟨gC, _, none⟩) NAC.out _).trans (((cell_far (p := ⟨gC, _, none⟩) NAC.out _).trans (hHeld.2.2.2.1)))))))), ((cell_far (p := ⟨gC, _, none⟩) NBC.out _).trans (((cell_far (p := ⟨gC, _, none⟩) NBC.out _).trans (((cell_far (p := ⟨gC, _, none⟩) NBC.out _).trans (((cell_far (p := ⟨gC, _, none⟩) NBC.out _).trans (hHeld.2.2.2.2.1)))))))), ((cell_far (p := ⟨gC, _, none⟩) NBC.out _).trans (((cell_far (p := ⟨gC, _, none⟩) NBC.out _).trans (((cell_far (p := ⟨gC, _, none⟩) NBC.out _).trans (((cell_far (p := ⟨gC, _, none⟩) NBC.out _).trans (hHeld.2.2.2.2.2.1)))))))), ((cell_far (p := ⟨gC, _, none⟩) NBC.out _).trans (((cell_far (p := ⟨gC, _, none⟩) NBC.out _).trans (((cell_far (p := ⟨gC, _, none⟩) NBC.out _).trans (((cell_far (p := ⟨gC, _, none⟩) NBC.out _).trans (hHeld.2.2.2.2.2.2.1)))))))), ((cell_far (p := ⟨gC, _, none⟩) NBC.out _).trans (((cell_far (p := ⟨gC, _, none⟩) NBC.out _).trans (((cell_far (p := ⟨gC, _, none⟩) NBC.out _).trans (((cell_far (p := ⟨gC, _, none⟩) NBC.out _).trans (hHeld.2.2.2.2.2.2.2))))))))⟩ (fun hHeld => ?_)
    clear hK K
    refine one_ (i := 11) (N := none) #[true, true, true, true, true, true, true, true, true, true, true, true] rfl rfl (one_of HT_.out (by kernel_rfl)) (by decide) (fun K hK => ?_)
    have hs32 := ci_ KD 0 (.int .i64 0)
    have hfs32 := blk_frozen KD.out 0
    have hns32_0 := NAD.out
    have hns32_1 := NBD.out
    have hns32_2 := NCD.out
    have hms32_0 := NDA.out
    have hms32_1 := NDB.out
    have hms32_2 := NDC.out
    have hs33 := ci_ KD 1 (.int .i64 0)
    have hfs33 := blk_frozen KD.out 1
    have hns33_0 := NAD.out
    have hns33_1 := NBD.out
    have hns33_2 := NCD.out
    have hms33_0 := NDA.out
    have hms33_1 := NDB.out
    have hms33_2 := NDC.out
    have hs34 := ci_ KD 2 (.int .i64 0)
    have hfs34 := blk_frozen KD.out 2
    have hns34_0 := NAD.out
    have hns34_1 := NBD.out
    have hns34_2 := NCD.out
    have hms34_0 := NDA.out
    have hms34_1 := NDB.out
    have hms34_2 := NDC.out
    have hs35 := ci_ KD 3 (.int .i64 0)
    have hfs35 := blk_frozen KD.out 3
    have hns35_0 := NAD.out
    have hns35_1 := NBD.out
    have hns35_2 := NCD.out
    have hms35_0 := NDA.out
    have hms35_1 := NDB.out
    have hms35_2 := NDC.out
    refine skip_ (w1 := ?_) (by rfl) rfl ?_ ?_
    rotate_left
    ·go_simp
     rfl
    refine hK.out _ _ ⟨((cell_far (p := ⟨gD, _, none⟩) NAD.out _).trans (((cell_far (p := ⟨gD, _, none⟩) NAD.out _).trans (((cell_far (p := ⟨gD, _, none⟩) NAD.out _).trans (((cell_far (p := ⟨gD, _, none⟩) NAD.out _).trans (hHeld.1)))))))), ((cell_far (p := ⟨gD, _, none⟩) NAD.out _).trans (((cell_far (p := ⟨gD, _, none⟩) NAD.out _).trans (((cell_far (p := ⟨gD, _, none⟩) NAD.out _).trans (((cell_far (p := ⟨gD, _, none⟩) NAD.out _).trans (hHeld.2.1)))))))), ((cell_far (p := ⟨gD, _, none⟩) NAD.out _).trans (((cell_far (p := ⟨gD, _, none⟩) NAD.out _).trans (((cell_far (p := ⟨gD, _, none⟩) NAD.out _).trans (((cell_far (p := ⟨gD, _, none⟩) NAD.out _).trans (hHeld.2.2.1)))))))), ((cell_far (p := ⟨gD, _, none⟩) NAD.out _).trans (((cell_far (p := ⟨gD, _, none⟩) NAD.out _).trans (((cell_far (p := ⟨gD, _, none⟩) NAD.out _).trans (((cell_far (p := ⟨gD, _, none⟩) NAD.out _).trans (hHeld.2.2.2.1)))))))), ((cell_far (p := ⟨gD, _, none⟩) NBD.out _).trans (((cell_far (p := ⟨gD, _, none⟩) NBD.out _).trans (((cell_far (p := ⟨gD, _, none⟩) NBD.out _).trans (((cell_far (p := ⟨gD, _, none⟩) NBD.out _).trans (hHeld.2.2.2.2.1)))))))), ((cell_far (p := ⟨gD, _, none⟩) NBD.out _).trans (((cell_far (p := ⟨gD, _, none⟩) NBD.out _).trans (((cell_far (p := ⟨gD, _, none⟩) NBD.out _).trans (((cell_far (p := ⟨gD, _, none⟩) NBD.out _).trans (hHeld.2.2.2.2.2.1)))))))), ((cell_far (p := ⟨gD, _, none⟩) NBD.out _).trans (((cell_far (p := ⟨gD, _, none⟩) NBD.out _).trans (((cell_far (p := ⟨gD, _, none⟩) NBD.out _).trans (((cell_far (p := ⟨gD, _, none⟩) NBD.out _).trans (hHeld.2.2.2.2.2.2.1)))))))), ((cell_far (p := ⟨gD, _, none⟩) NBD.out _).trans (((cell_far (p := ⟨gD, _, none⟩) NBD.out _).trans (((cell_far (p := ⟨gD, _, none⟩) NBD.out _).trans (((cell_far (p := ⟨gD, _, none⟩) NBD.out _).trans (hHeld.2.2.2.2.2.2.2))))))))⟩ (fun hHeld => ?_)
    clear hK K
    refine done_ (done_of HT_.out (by kernel_rfl)) ?_
    have hnb36 := NCA.out
    have hnc36 := NAC.out
    have hnb37 := NCB.out
    have hnc37 := NBC.out
    have hnb38 := NCD.out
    have hnc38 := NDC.out
    have hcz39_0 := ci_ KC 0 (.int .i64 0)
    have hcz39_1 := ci_ KC 1 (.int .i64 0)
    have hcz39_2 := ci_ KC 2 (.int .i64 0)
    have hcz39_3 := ci_ KC 3 (.int .i64 0)
    have hfz39_0 := blk_frozen KC.out 0
    have hfz39_1 := blk_frozen KC.out 1
    have hfz39_2 := blk_frozen KC.out 2
    have hfz39_3 := blk_frozen KC.out 3
    try go_wp2_with (first | (go_at_call 29; (with_reducible refine (imageeditorref06_Valid.calls t548 t549 t550 t551 true _ A9.out).mono ?_); rintro e w40 ⟨rfl, hb⟩; have c0_ := co_ (g := gA) (o := .cells #[.int .i64 a1_0, .int .i64 a1_1, .int .i64 a1_2, .int .i64 a1_3] 32 (0, 0)) hb (by refine pf ?_ NAD.out; refine pf ?_ NAC.out; refine pl ?_; exact KA.out); have c1_ := co_ (g := gB) (o := .cells #[.int .i64 a2_0, .int .i64 a2_1, .int .i64 a2_2, .int .i64 a2_3] 32 (0, 0)) hb (by refine pf ?_ NBD.out; refine pf ?_ NBC.out; refine pl ?_; exact KB.out); have c2_ := co_ (g := gC) (o := .cells #[.int .i64 t548, .int .i64 t549, .int .i64 t550, .int .i64 t551] 32 (0, 0)) hb (by refine pf ?_ NCD.out; refine pl ?_; refine blk_put (cs := #[.int .i64 t548, .int .i64 t549, .int .i64 t550, .int .i64 0]) ?_ 3 _ rfl; refine pl ?_; refine blk_put (cs := #[.int .i64 t548, .int .i64 t549, .int .i64 0, .int .i64 0]) ?_ 2 _ rfl; refine pl ?_; refine blk_put (cs := #[.int .i64 t548, .int .i64 0, .int .i64 0, .int .i64 0]) ?_ 1 _ rfl; refine pl ?_; refine blk_put (cs := #[.int .i64 0, .int .i64 0, .int .i64 0, .int .i64 0]) ?_ 0 _ rfl; refine pl ?_; exact KC.out); have c3_ := co_ (g := gD) (o := .cells #[.int .i64 t552, .int .i64 t553, .int .i64 t554, .int .i64 t555] 32 (0, 0)) hb (by refine pl ?_; refine blk_put (cs := #[.int .i64 t552, .int .i64 t553, .int .i64 t554, .int .i64 0]) ?_ 3 _ rfl; refine pl ?_; refine blk_put (cs := #[.int .i64 t552, .int .i64 t553, .int .i64 0, .int .i64 0]) ?_ 2 _ rfl; refine pl ?_; refine blk_put (cs := #[.int .i64 t552, .int .i64 0, .int .i64 0, .int .i64 0]) ?_ 1 _ rfl; refine pl ?_; refine blk_put (cs := #[.int .i64 0, .int .i64 0, .int .i64 0, .int .i64 0]) ?_ 0 _ rfl; refine pf ?_ NDC.out; refine pl ?_; exact KD.out); replace KA := bb_ c0_ hb; replace KB := bb_ c1_ hb; replace KC := bb_ c2_ hb; replace KD := bb_ c3_ hb; replace HB := Aside0.mk (below_step (by repeat (first | (with_reducible first | exact HB.out | apply below_alloc | apply pw_below_drewN | apply below_drew1 | refine below_set ?_ GEA.out | refine below_set ?_ GEB.out | refine below_set ?_ GEC.out | refine below_set ?_ GED.out) | exact HB.out)) hb); clear c0_ c1_ c2_ c3_; (try clear hb); (try clear hb2); (try clear hk); (try clear hi); have hcz41_0 := ci_ KC 0 (.int .i64 t548); have hcz41_1 := ci_ KC 1 (.int .i64 t549); have hcz41_2 := ci_ KC 2 (.int .i64 t550); have hcz41_3 := ci_ KC 3 (.int .i64 t551); have hfz41_0 := blk_frozen KC.out 0; have hfz41_1 := blk_frozen KC.out 1; have hfz41_2 := blk_frozen KC.out 2; have hfz41_3 := blk_frozen KC.out 3; have hnb42 := NDA.out; have hnc42 := NAD.out; have hnb43 := NDB.out; have hnc43 := NBD.out; have hcz44_0 := ci_ KD 0 (.int .i64 t552); have hcz44_1 := ci_ KD 1 (.int .i64 t553); have hcz44_2 := ci_ KD 2 (.int .i64 t554); have hcz44_3 := ci_ KD 3 (.int .i64 t555); have hfz44_0 := blk_frozen KD.out 0; have hfz44_1 := blk_frozen KD.out 1; have hfz44_2 := blk_frozen KD.out 2; have hfz44_3 := blk_frozen KD.out 3) | (go_at_call 29; (with_reducible refine (imageeditorref06_Valid.calls t552 t553 t554 t555 true _ A12.out).mono ?_); rintro e w45 ⟨rfl, hb⟩; replace KA := bp_ KA hb; replace KB := bp_ KB hb; replace KC := bp_ KC hb; replace KD := bp_ KD hb; replace HB := Aside0.mk (below_step (by repeat (first | (with_reducible first | exact HB.out | apply below_alloc | apply pw_below_drewN | apply below_drew1 | refine below_set ?_ GEA.out | refine below_set ?_ GEB.out | refine below_set ?_ GEC.out | refine below_set ?_ GED.out) | exact HB.out)) hb); (try clear hb); (try clear hb2); (try clear hk); (try clear hi); have hcz46_0 := ci_ KD 0 (.int .i64 t552); have hcz46_1 := ci_ KD 1 (.int .i64 t553); have hcz46_2 := ci_ KD 2 (.int .i64 t554); have hcz46_3 := ci_ KD 3 (.int .i64 t555); have hfz46_0 := blk_frozen KD.out 0; have hfz46_1 := blk_frozen KD.out 1; have hfz46_2 := blk_frozen KD.out 2; have hfz46_3 := blk_frozen KD.out 3) | (go_at_call 13; (with_reducible refine (imageeditorlaw10_example.calls k  t560 _ A15.out).mono ?_); rintro e w47 ⟨rfl, hb⟩; replace KA := bp_ KA hb; replace KB := bp_ KB hb; replace KC := bp_ KC hb; replace KD := bp_ KD hb; replace HB := Aside0.mk (below_step (by repeat (first | (with_reducible first | exact HB.out | apply below_alloc | apply pw_below_drewN | apply below_drew1 | refine below_set ?_ GEA.out | refine below_set ?_ GEB.out | refine below_set ?_ GEC.out | refine below_set ?_ GED.out) | exact HB.out)) hb); (try clear hb); (try clear hb2); (try clear hk); (try clear hi)))
    go_ret
    exact ⟨by first | rfl | (simp [errW_none, errW_some] <;> rfl) | (simp [*, errW_none, errW_some] <;> rfl), by repeat (first | (with_reducible first | exact HB.out | apply below_alloc | apply pw_below_drewN | apply below_drew1 | refine below_set ?_ GEA.out | refine below_set ?_ GEB.out | refine below_set ?_ GEC.out | refine below_set ?_ GED.out) | exact HB.out)⟩
   ·rw [if_neg c14] at H
    have c14b0 : decide (0 < t555) = false := decide_eq_false c14
    clear c14
    by_cases c48 : (t552 == 0 && (t553 == 0 && (t554 == 0 && (t555 == 0)))) = true
    rotate_left
    ·rw [if_neg c48] at H
     exact absurd H (by simp)
    rw [if_pos c48] at H
    have c48b0 : (t552 == 0 && (t553 == 0 && (t554 == 0 && (t555 == 0)))) = true := c48
    (try (have c48b1 : decide (t552 = 0 && (t553 == 0 && (t554 == 0 && (t555 == 0)))) = true := by simpa using c48))
    (try (have c48b2 : (t552 == 0 && (t553 == 0 && (t554 == 0 && (t555 == 0)))) = true := by simpa using c48))
    clear c48
    replace H := Option.bind_eq_some_iff.mp H
    obtain ⟨t561, A490, H⟩ := H
    replace H : (some t561) = some r := H
    have A49 := Aside0.mk A490
    clear A490
    obtain rfl := Option.some.inj H
    go_enter Try.func9, Try.ntmps9
    try go_wp2_with (first | ((with_reducible refine gate_dst (N := 4) rfl ?_); refine box_event ?hg (N := 4) ?hd (cs := #[.int .i64 a1_0, .int .i64 a1_1, .int .i64 a1_2, .int .i64 a1_3]) (t := 32) ?hr ?_; (case hd => rfl); (case hg => rfl); (case hr => first | (go_simp; done) | (go_simp; rfl)); intro gA hg w50 hbox hb; have KA := Aside0.mk hbox; have GWA := ge_ hg (pb HB.out); have GEA := ge_ hg (pb HB.out); replace HB := Aside0.mk (below_step (pb HB.out) hb); clear hb hbox hg) | ((with_reducible refine gate_dst (N := 5) rfl ?_); refine box_event ?hg (N := 5) ?hd (cs := #[.int .i64 a2_0, .int .i64 a2_1, .int .i64 a2_2, .int .i64 a2_3]) (t := 32) ?hr ?_; (case hd => rfl); (case hg => rfl); (case hr => first | (go_simp; done) | (go_simp; rfl)); intro gB hg w51 hbox hb; have c0_ := cp_ hb KA; have KB := Aside0.mk hbox; have GWB := ge_ hg (pb1 HB.out GEA.out); have GEB := ge_ hg (pb1 HB.out GEA.out); have NAB := nl_ hg c0_; have NBA := ng_ hg c0_; replace KA := bb_ c0_ hb; replace HB := Aside0.mk (below_step (pb1 HB.out GEA.out) hb); clear c0_; clear hb hbox hg; have hnb52 := NAB.out; have hnc52 := NBA.out; have hcz53_0 := ci_ KA 0 (.int .i64 a1_0); have hcz53_1 := ci_ KA 1 (.int .i64 a1_1); have hcz53_2 := ci_ KA 2 (.int .i64 a1_2); have hcz53_3 := ci_ KA 3 (.int .i64 a1_3); have hfz53_0 := blk_frozen KA.out 0; have hfz53_1 := blk_frozen KA.out 1; have hfz53_2 := blk_frozen KA.out 2; have hfz53_3 := blk_frozen KA.out 3; have hcz54_0 := ci_ KB 0 (.int .i64 a2_0); have hcz54_1 := ci_ KB 1 (.int .i64 a2_1); have hcz54_2 := ci_ KB 2 (.int .i64 a2_2); have hcz54_3 := ci_ KB 3 (.int .i64 a2_3); have hfz54_0 := blk_frozen KB.out 0; have hfz54_1 := blk_frozen KB.out 1; have hfz54_2 := blk_frozen KB.out 2; have hfz54_3 := blk_frozen KB.out 3) | ((with_reducible refine gate_callee (f := 22) rfl ?_); refine goesL_ (some 15) rfl rfl Try.func22 (by kernel_rfl) rfl #[.int .i64 a0, .int .i64 a1_0, .int .i64 a2_0] rfl pm ?_; (with_reducible refine (blend_Channel.calls a0 a1_0 a2_0 t547 _ A4.out).mono ?_); rintro e w55 ⟨rfl, hb⟩; refine ⟨_, rfl, ?_⟩; replace KA := bp_ KA hb; replace KB := bp_ KB hb; replace HB := Aside0.mk (below_step (pb2 HB.out GEA.out GEB.out) hb); (try clear hb); (try clear hb2); (try clear hk); (try clear hi)))
    replace KA := Aside0.mk (blk_drew KA.out)
    replace KB := Aside0.mk (blk_drew KB.out)
    replace HB := Aside0.mk (below_drew1 HB.out)
    refine start_ (n := 12) (S := fun w' => w'.cell? ⟨gA, 0, none⟩ = some (.int .i64 a1_0) ∧ w'.cell? ⟨gA, 1, none⟩ = some (.int .i64 a1_1) ∧ w'.cell? ⟨gA, 2, none⟩ = some (.int .i64 a1_2) ∧ w'.cell? ⟨gA, 3, none⟩ = some (.int .i64 a1_3) ∧ w'.cell? ⟨gB, 0, none⟩ = some (.int .i64 a2_0) ∧ w'.cell? ⟨gB, 1, none⟩ = some (.int .i64 a2_1) ∧ w'.cell? ⟨gB, 2, none⟩ = some (.int .i64 a2_2) ∧ w'.cell? ⟨gB, 3, none⟩ = some (.int .i64 a2_3)) (ds := []) #[false, false, false, false, false, false, false, false, false, false, false, false] (by kernel_rfl) rfl rfl ⟨(blk_cell KA.out 0).trans rfl, (blk_cell KA.out 1).trans rfl, (blk_cell KA.out 2).trans rfl, (blk_cell KA.out 3).trans rfl, (blk_cell KB.out 0).trans rfl, (blk_cell KB.out 1).trans rfl, (blk_cell KB.out 2).trans rfl, (blk_cell KB.out 3).trans rfl⟩ (fun hHeld => ?_); refine with_tabW imageeditorlaw10_BlendRanges.tab2 imageeditorlaw10_BlendRanges.bits2 (fun HT_ HW_ => ?_)
    generalize w55.drew = w56 at KA KB HB hHeld ⊢
    refine pure_ (i := 0) (N := some 16) (v := ?_) (a' := ?_) #[true, false, false, false, false, false, false, false, false, false, false, false] rfl rfl (any_of HT_.out (by kernel_rfl)) (fun _ _ _ h => h) (Or.inl ⟨by rfl, ?_⟩) ?_ ?_
    rotate_left
    ·intro w'
     go_simp
     with_reducible rfl
    rotate_left
    ·refine ps ?_
     rfl
    refine pure_ (i := 4) (N := some 20) (v := ?_) (a' := ?_) #[true, false, false, false, true, false, false, false, false, false, false, false] rfl rfl (any_of HT_.out (by kernel_rfl)) (fun _ _ _ h => h) (Or.inl ⟨by rfl, ?_⟩) ?_ ?_
    rotate_left
    ·intro w'
     go_simp
     with_reducible rfl
    rotate_left
    ·refine ps ?_
     rfl
    refine take_ (i := 1) (N := some 17) (v := ?_) (a' := ?_) #[true, true, false, false, true, false, false, false, false, false, false, false] rfl rfl (take_ofW HT_.out HW_.out (by kernel_rfl)) (fun _ _ _ h => h) (Or.inl ⟨by rfl, ?_⟩) hHeld ?_ ?_
    rotate_left
    ·rintro w' ⟨s0, s1, s2, s3, s4, s5, s6, s7⟩
     go_simp
     with_reducible rfl
    rotate_left
    ·refine ps ?_
     rfl
    refine take_ (i := 2) (N := some 18) (v := ?_) (a' := ?_) #[true, true, true, false, true, false, false, false, false, false, false, false] rfl rfl (take_ofW HT_.out HW_.out (by kernel_rfl)) (fun _ _ _ h => h) (Or.inl ⟨by rfl, ?_⟩) hHeld ?_ ?_
    rotate_left
    ·rintro w' ⟨s0, s1, s2, s3, s4, s5, s6, s7⟩
     go_simp
     with_reducible rfl
    rotate_left
    ·refine ps ?_
     rfl
    refine take_ (i := 5) (N := some 21) (v := ?_) (a' := ?_) #[true, true, true, false, true, true, false, false, false, false, false, false] rfl rfl (take_ofW HT_.out HW_.out (by kernel_rfl)) (fun _ _ _ h => h) (Or.inl ⟨by rfl, ?_⟩) hHeld ?_ ?_
    rotate_left
    ·rintro w' ⟨s0, s1, s2, s3, s4, s5, s6, s7⟩
     go_simp
     with_reducible rfl
    rotate_left
    ·refine ps ?_
     rfl
    refine take_ (i := 6) (N := some 22) (v := ?_) (a' := ?_) #[true, true, true, false, true, true, true, false, false, false, false, false] rfl rfl (take_ofW HT_.out HW_.out (by kernel_rfl)) (fun _ _ _ h => h) (Or.inl ⟨by rfl, ?_⟩) hHeld ?_ ?_
    rotate_left
    ·rintro w' ⟨s0, s1, s2, s3, s4, s5, s6, s7⟩
     go_simp
     with_reducible rfl
    rotate_left
    ·refine ps ?_
     rfl
    refine join_ (σ := Nat × Nat) 2 #[true, true, true, true, true, true, true, true, true, true, false, false] (fun s_ => [(19, .agg #[.int .i64 t548, .int .i64 t549, .int .i64 t550, .int .i64 t551]), (23, .agg #[.int .i64 t552, .int .i64 t553, .int .i64 t554, .int .i64 t555]), (8, .pointer (some ⟨s_.1, 0, none⟩)), (9, .pointer (some ⟨s_.2, 0, none⟩))]) (fun s_ w' => (w'.cell? ⟨gA, 0, none⟩ = some (.int .i64 a1_0) ∧ w'.cell? ⟨gA, 1, none⟩ = some (.int .i64 a1_1) ∧ w'.cell? ⟨gA, 2, none⟩ = some (.int .i64 a1_2) ∧ w'.cell? ⟨gA, 3, none⟩ = some (.int .i64 a1_3) ∧ w'.cell? ⟨gB, 0, none⟩ = some (.int .i64 a2_0) ∧ w'.cell? ⟨gB, 1, none⟩ = some (.int .i64 a2_1) ∧ w'.cell? ⟨gB, 2, none⟩ = some (.int .i64 a2_2) ∧ w'.cell? ⟨gB, 3, none⟩ = some (.int .i64 a2_3)) ∧ (w'.heap[gA]? = some (.cells #[.int .i64 a1_0, .int .i64 a1_1, .int .i64 a1_2, .int .i64 a1_3] 32 (0, 0))) ∧ (w'.heap[gB]? = some (.cells #[.int .i64 a2_0, .int .i64 a2_1, .int .i64 a2_2, .int .i64 a2_3] 32 (0, 0))) ∧ (w'.heap[s_.1]? = some (.cells #[.int .i64 0, .int .i64 0, .int .i64 0, .int .i64 0] 32 (0, 0))) ∧ (w'.heap[s_.2]? = some (.cells #[.int .i64 0, .int .i64 0, .int .i64 0, .int .i64 0] 32 (0, 0))) ∧ (w.heap.size ≤ s_.1) ∧ (w.heap.size ≤ s_.1) ∧ (gA ≠ s_.1) ∧ (s_.1 ≠ gA) ∧ (gB ≠ s_.1) ∧ (s_.1 ≠ gB) ∧ (s_.2 ≠ s_.1) ∧ (s_.1 ≠ s_.2) ∧ (w.heap.size ≤ s_.2) ∧ (w.heap.size ≤ s_.2) ∧ (gA ≠ s_.2) ∧ (s_.2 ≠ gA) ∧ (gB ≠ s_.2) ∧ (s_.2 ≠ gB) ∧ (Below w.heap.size w w')) ?_ ?_
    rotate_left
    ·intro hJ3_7_8_9
     refine join_ (σ := Nat) 3 #[true, true, true, true, true, true, true, true, true, false, false, false] (fun s_ => [(19, .agg #[.int .i64 t548, .int .i64 t549, .int .i64 t550, .int .i64 t551]), (23, .agg #[.int .i64 t552, .int .i64 t553, .int .i64 t554, .int .i64 t555]), (8, .pointer (some ⟨s_, 0, none⟩))]) (fun s_ w' => (w'.cell? ⟨gA, 0, none⟩ = some (.int .i64 a1_0) ∧ w'.cell? ⟨gA, 1, none⟩ = some (.int .i64 a1_1) ∧ w'.cell? ⟨gA, 2, none⟩ = some (.int .i64 a1_2) ∧ w'.cell? ⟨gA, 3, none⟩ = some (.int .i64 a1_3) ∧ w'.cell? ⟨gB, 0, none⟩ = some (.int .i64 a2_0) ∧ w'.cell? ⟨gB, 1, none⟩ = some (.int .i64 a2_1) ∧ w'.cell? ⟨gB, 2, none⟩ = some (.int .i64 a2_2) ∧ w'.cell? ⟨gB, 3, none⟩ = some (.int .i64 a2_3)) ∧ (w'.heap[gA]? = some (.cells #[.int .i64 a1_0, .int .i64 a1_1, .int .i64 a1_2, .int .i64 a1_3] 32 (0, 0))) ∧ (w'.heap[gB]? = some (.cells #[.int .i64 a2_0, .int .i64 a2_1, .int .i64 a2_2, .int .i64 a2_3] 32 (0, 0))) ∧ (w'.heap[s_]? = some (.cells #[.int .i64 0, .int .i64 0, .int .i64 0, .int .i64 0] 32 (0, 0))) ∧ (w.heap.size ≤ s_) ∧ (w.heap.size ≤ s_) ∧ (gA ≠ s_) ∧ (s_ ≠ gA) ∧ (gB ≠ s_) ∧ (s_ ≠ gB) ∧ (Below w.heap.size w w')) ?_ ?_
     rotate_left
     ·intro hJ3_7_8
      refine join_ (σ := Nat) 3 #[true, true, true, true, true, true, true, true, false, true, false, false] (fun s_ => [(19, .agg #[.int .i64 t548, .int .i64 t549, .int .i64 t550, .int .i64 t551]), (23, .agg #[.int .i64 t552, .int .i64 t553, .int .i64 t554, .int .i64 t555]), (9, .pointer (some ⟨s_, 0, none⟩))]) (fun s_ w' => (w'.cell? ⟨gA, 0, none⟩ = some (.int .i64 a1_0) ∧ w'.cell? ⟨gA, 1, none⟩ = some (.int .i64 a1_1) ∧ w'.cell? ⟨gA, 2, none⟩ = some (.int .i64 a1_2) ∧ w'.cell? ⟨gA, 3, none⟩ = some (.int .i64 a1_3) ∧ w'.cell? ⟨gB, 0, none⟩ = some (.int .i64 a2_0) ∧ w'.cell? ⟨gB, 1, none⟩ = some (.int .i64 a2_1) ∧ w'.cell? ⟨gB, 2, none⟩ = some (.int .i64 a2_2) ∧ w'.cell? ⟨gB, 3, none⟩ = some (.int .i64 a2_3)) ∧ (w'.heap[gA]? = some (.cells #[.int .i64 a1_0, .int .i64 a1_1, .int .i64 a1_2, .int .i64 a1_3] 32 (0, 0))) ∧ (w'.heap[gB]? = some (.cells #[.int .i64 a2_0, .int .i64 a2_1, .int .i64 a2_2, .int .i64 a2_3] 32 (0, 0))) ∧ (w'.heap[s_]? = some (.cells #[.int .i64 0, .int .i64 0, .int .i64 0, .int .i64 0] 32 (0, 0))) ∧ (w.heap.size ≤ s_) ∧ (w.heap.size ≤ s_) ∧ (gA ≠ s_) ∧ (s_ ≠ gA) ∧ (gB ≠ s_) ∧ (s_ ≠ gB) ∧ (Below w.heap.size w w')) ?_ ?_
      rotate_left
      ·intro hJ3_7_9
       refine join_ (σ := Nat × Nat) 3 #[true, true, true, true, true, true, true, false, true, true, false, false] (fun s_ => [(19, .agg #[.int .i64 t548, .int .i64 t549, .int .i64 t550, .int .i64 t551]), (8, .pointer (some ⟨s_.1, 0, none⟩)), (9, .pointer (some ⟨s_.2, 0, none⟩))]) (fun s_ w' => (w'.cell? ⟨gA, 0, none⟩ = some (.int .i64 a1_0) ∧ w'.cell? ⟨gA, 1, none⟩ = some (.int .i64 a1_1) ∧ w'.cell? ⟨gA, 2, none⟩ = some (.int .i64 a1_2) ∧ w'.cell? ⟨gA, 3, none⟩ = some (.int .i64 a1_3) ∧ w'.cell? ⟨gB, 0, none⟩ = some (.int .i64 a2_0) ∧ w'.cell? ⟨gB, 1, none⟩ = some (.int .i64 a2_1) ∧ w'.cell? ⟨gB, 2, none⟩ = some (.int .i64 a2_2) ∧ w'.cell? ⟨gB, 3, none⟩ = some (.int .i64 a2_3)) ∧ (w'.heap[gA]? = some (.cells #[.int .i64 a1_0, .int .i64 a1_1, .int .i64 a1_2, .int .i64 a1_3] 32 (0, 0))) ∧ (w'.heap[gB]? = some (.cells #[.int .i64 a2_0, .int .i64 a2_1, .int .i64 a2_2, .int .i64 a2_3] 32 (0, 0))) ∧ (w'.heap[s_.1]? = some (.cells #[.int .i64 0, .int .i64 0, .int .i64 0, .int .i64 0] 32 (0, 0))) ∧ (w'.heap[s_.2]? = some (.cells #[.int .i64 0, .int .i64 0, .int .i64 0, .int .i64 0] 32 (0, 0))) ∧ (w.heap.size ≤ s_.1) ∧ (w.heap.size ≤ s_.1) ∧ (gA ≠ s_.1) ∧ (s_.1 ≠ gA) ∧ (gB ≠ s_.1) ∧ (s_.1 ≠ gB) ∧ (s_.2 ≠ s_.1) ∧ (s_.1 ≠ s_.2) ∧ (w.heap.size ≤ s_.2) ∧ (w.heap.size ≤ s_.2) ∧ (gA ≠ s_.2) ∧ (s_.2 ≠ gA) ∧ (gB ≠ s_.2) ∧ (s_.2 ≠ gB) ∧ (Below w.heap.size w w')) ?_ ?_
       rotate_left
       ·intro hJ3_8_9
        refine join_ (σ := Unit) 4 #[true, true, true, true, true, true, true, true, false, false, false, false] (fun s_ => [(19, .agg #[.int .i64 t548, .int .i64 t549, .int .i64 t550, .int .i64 t551]), (23, .agg #[.int .i64 t552, .int .i64 t553, .int .i64 t554, .int .i64 t555])]) (fun s_ w' => (w'.cell? ⟨gA, 0, none⟩ = some (.int .i64 a1_0) ∧ w'.cell? ⟨gA, 1, none⟩ = some (.int .i64 a1_1) ∧ w'.cell? ⟨gA, 2, none⟩ = some (.int .i64 a1_2) ∧ w'.cell? ⟨gA, 3, none⟩ = some (.int .i64 a1_3) ∧ w'.cell? ⟨gB, 0, none⟩ = some (.int .i64 a2_0) ∧ w'.cell? ⟨gB, 1, none⟩ = some (.int .i64 a2_1) ∧ w'.cell? ⟨gB, 2, none⟩ = some (.int .i64 a2_2) ∧ w'.cell? ⟨gB, 3, none⟩ = some (.int .i64 a2_3)) ∧ (w'.heap[gA]? = some (.cells #[.int .i64 a1_0, .int .i64 a1_1, .int .i64 a1_2, .int .i64 a1_3] 32 (0, 0))) ∧ (w'.heap[gB]? = some (.cells #[.int .i64 a2_0, .int .i64 a2_1, .int .i64 a2_2, .int .i64 a2_3] 32 (0, 0))) ∧ (Below w.heap.size w w')) ?_ ?_
        rotate_left
        ·intro hJ3_7
         refine join_ (σ := Nat) 4 #[true, true, true, true, true, true, true, false, true, false, false, false] (fun s_ => [(19, .agg #[.int .i64 t548, .int .i64 t549, .int .i64 t550, .int .i64 t551]), (8, .pointer (some ⟨s_, 0, none⟩))]) (fun s_ w' => (w'.cell? ⟨gA, 0, none⟩ = some (.int .i64 a1_0) ∧ w'.cell? ⟨gA, 1, none⟩ = some (.int .i64 a1_1) ∧ w'.cell? ⟨gA, 2, none⟩ = some (.int .i64 a1_2) ∧ w'.cell? ⟨gA, 3, none⟩ = some (.int .i64 a1_3) ∧ w'.cell? ⟨gB, 0, none⟩ = some (.int .i64 a2_0) ∧ w'.cell? ⟨gB, 1, none⟩ = some (.int .i64 a2_1) ∧ w'.cell? ⟨gB, 2, none⟩ = some (.int .i64 a2_2) ∧ w'.cell? ⟨gB, 3, none⟩ = some (.int .i64 a2_3)) ∧ (w'.heap[gA]? = some (.cells #[.int .i64 a1_0, .int .i64 a1_1, .int .i64 a1_2, .int .i64 a1_3] 32 (0, 0))) ∧ (w'.heap[gB]? = some (.cells #[.int .i64 a2_0, .int .i64 a2_1, .int .i64 a2_2, .int .i64 a2_3] 32 (0, 0))) ∧ (w'.heap[s_]? = some (.cells #[.int .i64 0, .int .i64 0, .int .i64 0, .int .i64 0] 32 (0, 0))) ∧ (w.heap.size ≤ s_) ∧ (w.heap.size ≤ s_) ∧ (gA ≠ s_) ∧ (s_ ≠ gA) ∧ (gB ≠ s_) ∧ (s_ ≠ gB) ∧ (Below w.heap.size w w')) ?_ ?_
         rotate_left
         ·intro hJ3_8
          refine join_ (σ := Nat) 4 #[true, true, true, true, true, true, true, false, false, true, false, false] (fun s_ => [(19, .agg #[.int .i64 t548, .int .i64 t549, .int .i64 t550, .int .i64 t551]), (9, .pointer (some ⟨s_, 0, none⟩))]) (fun s_ w' => (w'.cell? ⟨gA, 0, none⟩ = some (.int .i64 a1_0) ∧ w'.cell? ⟨gA, 1, none⟩ = some (.int .i64 a1_1) ∧ w'.cell? ⟨gA, 2, none⟩ = some (.int .i64 a1_2) ∧ w'.cell? ⟨gA, 3, none⟩ = some (.int .i64 a1_3) ∧ w'.cell? ⟨gB, 0, none⟩ = some (.int .i64 a2_0) ∧ w'.cell? ⟨gB, 1, none⟩ = some (.int .i64 a2_1) ∧ w'.cell? ⟨gB, 2, none⟩ = some (.int .i64 a2_2) ∧ w'.cell? ⟨gB, 3, none⟩ = some (.int .i64 a2_3)) ∧ (w'.heap[gA]? = some (.cells #[.int .i64 a1_0, .int .i64 a1_1, .int .i64 a1_2, .int .i64 a1_3] 32 (0, 0))) ∧ (w'.heap[gB]? = some (.cells #[.int .i64 a2_0, .int .i64 a2_1, .int .i64 a2_2, .int .i64 a2_3] 32 (0, 0))) ∧ (w'.heap[s_]? = some (.cells #[.int .i64 0, .int .i64 0, .int .i64 0, .int .i64 0] 32 (0, 0))) ∧ (w.heap.size ≤ s_) ∧ (w.heap.size ≤ s_) ∧ (gA ≠ s_) ∧ (s_ ≠ gA) ∧ (gB ≠ s_) ∧ (s_ ≠ gB) ∧ (Below w.heap.size w w')) ?_ ?_
          rotate_left
          ·intro hJ3_9
           refine join_ (σ := Nat × Nat) 4 #[true, true, true, false, true, true, true, false, true, true, false, false] (fun s_ => [(8, .pointer (some ⟨s_.1, 0, none⟩)), (9, .pointer (some ⟨s_.2, 0, none⟩))]) (fun s_ w' => (w'.cell? ⟨gA, 0, none⟩ = some (.int .i64 a1_0) ∧ w'.cell? ⟨gA, 1, none⟩ = some (.int .i64 a1_1) ∧ w'.cell? ⟨gA, 2, none⟩ = some (.int .i64 a1_2) ∧ w'.cell? ⟨gA, 3, none⟩ = some (.int .i64 a1_3) ∧ w'.cell? ⟨gB, 0, none⟩ = some (.int .i64 a2_0) ∧ w'.cell? ⟨gB, 1, none⟩ = some (.int .i64 a2_1) ∧ w'.cell? ⟨gB, 2, none⟩ = some (.int .i64 a2_2) ∧ w'.cell? ⟨gB, 3, none⟩ = some (.int .i64 a2_3)) ∧ (w'.heap[gA]? = some (.cells #[.int .i64 a1_0, .int .i64 a1_1, .int .i64 a1_2, .int .i64 a1_3] 32 (0, 0))) ∧ (w'.heap[gB]? = some (.cells #[.int .i64 a2_0, .int .i64 a2_1, .int .i64 a2_2, .int .i64 a2_3] 32 (0, 0))) ∧ (w'.heap[s_.1]? = some (.cells #[.int .i64 0, .int .i64 0, .int .i64 0, .int .i64 0] 32 (0, 0))) ∧ (w'.heap[s_.2]? = some (.cells #[.int .i64 0, .int .i64 0, .int .i64 0, .int .i64 0] 32 (0, 0))) ∧ (w.heap.size ≤ s_.1) ∧ (w.heap.size ≤ s_.1) ∧ (gA ≠ s_.1) ∧ (s_.1 ≠ gA) ∧ (gB ≠ s_.1) ∧ (s_.1 ≠ gB) ∧ (s_.2 ≠ s_.1) ∧ (s_.1 ≠ s_.2) ∧ (w.heap.size ≤ s_.2) ∧ (w.heap.size ≤ s_.2) ∧ (gA ≠ s_.2) ∧ (s_.2 ≠ gA) ∧ (gB ≠ s_.2) ∧ (s_.2 ≠ gB) ∧ (Below w.heap.size w w')) ?_ ?_
           rotate_left
           ·intro hJ8_9
            refine join_ (σ := Unit) 5 #[true, true, true, true, true, true, true, false, false, false, false, false] (fun s_ => [(19, .agg #[.int .i64 t548, .int .i64 t549, .int .i64 t550, .int .i64 t551])]) (fun s_ w' => (w'.cell? ⟨gA, 0, none⟩ = some (.int .i64 a1_0) ∧ w'.cell? ⟨gA, 1, none⟩ = some (.int .i64 a1_1) ∧ w'.cell? ⟨gA, 2, none⟩ = some (.int .i64 a1_2) ∧ w'.cell? ⟨gA, 3, none⟩ = some (.int .i64 a1_3) ∧ w'.cell? ⟨gB, 0, none⟩ = some (.int .i64 a2_0) ∧ w'.cell? ⟨gB, 1, none⟩ = some (.int .i64 a2_1) ∧ w'.cell? ⟨gB, 2, none⟩ = some (.int .i64 a2_2) ∧ w'.cell? ⟨gB, 3, none⟩ = some (.int .i64 a2_3)) ∧ (w'.heap[gA]? = some (.cells #[.int .i64 a1_0, .int .i64 a1_1, .int .i64 a1_2, .int .i64 a1_3] 32 (0, 0))) ∧ (w'.heap[gB]? = some (.cells #[.int .i64 a2_0, .int .i64 a2_1, .int .i64 a2_2, .int .i64 a2_3] 32 (0, 0))) ∧ (Below w.heap.size w w')) ?_ ?_
            rotate_left
            ·intro hJ3
             refine join_ (σ := Nat) 5 #[true, true, true, false, true, true, true, false, true, false, false, false] (fun s_ => [(8, .pointer (some ⟨s_, 0, none⟩))]) (fun s_ w' => (w'.cell? ⟨gA, 0, none⟩ = some (.int .i64 a1_0) ∧ w'.cell? ⟨gA, 1, none⟩ = some (.int .i64 a1_1) ∧ w'.cell? ⟨gA, 2, none⟩ = some (.int .i64 a1_2) ∧ w'.cell? ⟨gA, 3, none⟩ = some (.int .i64 a1_3) ∧ w'.cell? ⟨gB, 0, none⟩ = some (.int .i64 a2_0) ∧ w'.cell? ⟨gB, 1, none⟩ = some (.int .i64 a2_1) ∧ w'.cell? ⟨gB, 2, none⟩ = some (.int .i64 a2_2) ∧ w'.cell? ⟨gB, 3, none⟩ = some (.int .i64 a2_3)) ∧ (w'.heap[gA]? = some (.cells #[.int .i64 a1_0, .int .i64 a1_1, .int .i64 a1_2, .int .i64 a1_3] 32 (0, 0))) ∧ (w'.heap[gB]? = some (.cells #[.int .i64 a2_0, .int .i64 a2_1, .int .i64 a2_2, .int .i64 a2_3] 32 (0, 0))) ∧ (w'.heap[s_]? = some (.cells #[.int .i64 0, .int .i64 0, .int .i64 0, .int .i64 0] 32 (0, 0))) ∧ (w.heap.size ≤ s_) ∧ (w.heap.size ≤ s_) ∧ (gA ≠ s_) ∧ (s_ ≠ gA) ∧ (gB ≠ s_) ∧ (s_ ≠ gB) ∧ (Below w.heap.size w w')) ?_ ?_
             rotate_left
             ·intro hJ8
              refine join_ (σ := Nat) 5 #[true, true, true, false, true, true, true, false, false, true, false, false] (fun s_ => [(9, .pointer (some ⟨s_, 0, none⟩))]) (fun s_ w' => (w'.cell? ⟨gA, 0, none⟩ = some (.int .i64 a1_0) ∧ w'.cell? ⟨gA, 1, none⟩ = some (.int .i64 a1_1) ∧ w'.cell? ⟨gA, 2, none⟩ = some (.int .i64 a1_2) ∧ w'.cell? ⟨gA, 3, none⟩ = some (.int .i64 a1_3) ∧ w'.cell? ⟨gB, 0, none⟩ = some (.int .i64 a2_0) ∧ w'.cell? ⟨gB, 1, none⟩ = some (.int .i64 a2_1) ∧ w'.cell? ⟨gB, 2, none⟩ = some (.int .i64 a2_2) ∧ w'.cell? ⟨gB, 3, none⟩ = some (.int .i64 a2_3)) ∧ (w'.heap[gA]? = some (.cells #[.int .i64 a1_0, .int .i64 a1_1, .int .i64 a1_2, .int .i64 a1_3] 32 (0, 0))) ∧ (w'.heap[gB]? = some (.cells #[.int .i64 a2_0, .int .i64 a2_1, .int .i64 a2_2, .int .i64 a2_3] 32 (0, 0))) ∧ (w'.heap[s_]? = some (.cells #[.int .i64 0, .int .i64 0, .int .i64 0, .int .i64 0] 32 (0, 0))) ∧ (w.heap.size ≤ s_) ∧ (w.heap.size ≤ s_) ∧ (gA ≠ s_) ∧ (s_ ≠ gA) ∧ (gB ≠ s_) ∧ (s_ ≠ gB) ∧ (Below w.heap.size w w')) ?_ ?_
              rotate_left
              ·intro hJ9
               refine three_ (i := 3) (j := 8) (k := 9) (Ni := some 19) (Nj := some 8) (Nk := some 9) #[true, true, true, true, true, true, true, false, false, false, false, false] #[true, true, true, false, true, true, true, false, true, false, false, false] #[true, true, true, false, true, true, true, false, false, true, false, false] rfl rfl rfl rfl rfl rfl (three_of HT_.out (by kernel_rfl)) (by decide) (by decide) (by decide) (fun K hK => ?_) (fun K hK => ?_) (fun K hK => ?_)
               ·skip
                refine goes_ Try.func24 (by kernel_rfl) rfl #[.int .i64 a0, .agg #[.int .i64 a1_0, .int .i64 a1_1, .int .i64 a1_2, .int .i64 a1_3], .agg #[.int .i64 a2_0, .int .i64 a2_1, .int .i64 a2_2, .int .i64 a2_3]] (by rfl) rfl rfl pm ?_
                with_reducible refine (blend_Colors.calls k a0 a1_0 a1_1 a1_2 a1_3 a2_0 a2_1 a2_2 a2_3 t548 t549 t550 t551 _ A5.out).mono ?_
                rintro e w57 ⟨rfl, hb⟩
                refine ⟨_, rfl, ?_⟩
                replace KA := bb_ KA hb
                replace KB := bb_ KB hb
                replace HB := Aside0.mk (below_step HB.out hb)
                try clear hb
                refine hK.out _ _ ⟨(blk_cell KA.out 0).trans rfl, (blk_cell KA.out 1).trans rfl, (blk_cell KA.out 2).trans rfl, (blk_cell KA.out 3).trans rfl, (blk_cell KB.out 0).trans rfl, (blk_cell KB.out 1).trans rfl, (blk_cell KB.out 2).trans rfl, (blk_cell KB.out 3).trans rfl⟩ (fun hHeld => ?_)
                clear hK K
                refine norm_ (a' := ?_) ?_ ?_
                rotate_left
                ·show Act.put _ (some 19) _ = _
                 refine ps ?_
                 rfl
                exact norm_ pp (hJ3 () _ ⟨hHeld, KA.out, KB.out, HB.out⟩)
               ·skip
                refine box_step ?hg (N := 8) ?hd (cs := #[.int .i64 0, .int .i64 0, .int .i64 0, .int .i64 0]) (t := 32) ?hr ?_; (case hd => rfl); (case hg => rfl); (case hr => first | (go_simp; done) | (go_simp; rfl))
                intro gC hg w57 hbox hb
                have KC := Aside0.mk (hbox)
                have GWC := ge_ hg HB.out
                have GEC := ge_ hg HB.out
                have NAC := nl_ hg KA
                have NCA := ng_ hg KA
                have NBC := nl_ hg KB
                have NCB := ng_ hg KB
                replace KA := bb_ KA hb
                replace KB := bb_ KB hb
                replace HB := Aside0.mk (below_step HB.out hb)
                clear hb hbox hg
                refine hK.out _ _ ⟨(blk_cell KA.out 0).trans rfl, (blk_cell KA.out 1).trans rfl, (blk_cell KA.out 2).trans rfl, (blk_cell KA.out 3).trans rfl, (blk_cell KB.out 0).trans rfl, (blk_cell KB.out 1).trans rfl, (blk_cell KB.out 2).trans rfl, (blk_cell KB.out 3).trans rfl⟩ (fun hHeld => ?_)
                clear hK K
                refine norm_ (a' := ?_) ?_ ?_
                rotate_left
                ·show Act.put _ (some 8) _ = _
                 refine ps ?_
                 rfl
                exact norm_ pp (hJ8 (gC) _ ⟨hHeld, KA.out, KB.out, KC.out, GWC.out, GEC.out, NAC.out, NCA.out, NBC.out, NCB.out, HB.out⟩)
               ·skip
                refine box_step ?hg (N := 9) ?hd (cs := #[.int .i64 0, .int .i64 0, .int .i64 0, .int .i64 0]) (t := 32) ?hr ?_; (case hd => rfl); (case hg => rfl); (case hr => first | (go_simp; done) | (go_simp; rfl))
                intro gD hg w57 hbox hb
                have KD := Aside0.mk (hbox)
                have GWD := ge_ hg HB.out
                have GED := ge_ hg HB.out
                have NAD := nl_ hg KA
                have NDA := ng_ hg KA
                have NBD := nl_ hg KB
                have NDB := ng_ hg KB
                replace KA := bb_ KA hb
                replace KB := bb_ KB hb
                replace HB := Aside0.mk (below_step HB.out hb)
                clear hb hbox hg
                refine hK.out _ _ ⟨(blk_cell KA.out 0).trans rfl, (blk_cell KA.out 1).trans rfl, (blk_cell KA.out 2).trans rfl, (blk_cell KA.out 3).trans rfl, (blk_cell KB.out 0).trans rfl, (blk_cell KB.out 1).trans rfl, (blk_cell KB.out 2).trans rfl, (blk_cell KB.out 3).trans rfl⟩ (fun hHeld => ?_)
                clear hK K
                refine norm_ (a' := ?_) ?_ ?_
                rotate_left
                ·show Act.put _ (some 9) _ = _
                 refine ps ?_
                 rfl
                exact norm_ pp (hJ9 (gD) _ ⟨hHeld, KA.out, KB.out, KD.out, GWD.out, GED.out, NAD.out, NDA.out, NBD.out, NDB.out, HB.out⟩)
              ·skip
               rintro gD w58 ⟨hS_, h0_, h1_, h2_, h3_, h4_, h5_, h6_, h7_, h8_, h9_⟩
               have n0_ : Aside0 (w58.heap[gA]? = some (.cells #[.int .i64 a1_0, .int .i64 a1_1, .int .i64 a1_2, .int .i64 a1_3] 32 (0, 0))) := ⟨h0_⟩
               have n1_ : Aside0 (w58.heap[gB]? = some (.cells #[.int .i64 a2_0, .int .i64 a2_1, .int .i64 a2_2, .int .i64 a2_3] 32 (0, 0))) := ⟨h1_⟩
               have n2_ : Aside0 (w58.heap[gD]? = some (.cells #[.int .i64 0, .int .i64 0, .int .i64 0, .int .i64 0] 32 (0, 0))) := ⟨h2_⟩
               have n3_ : Aside0 (w.heap.size ≤ gD) := ⟨h3_⟩
               have n4_ : Aside0 (w.heap.size ≤ gD) := ⟨h4_⟩
               have n5_ : Aside0 (gA ≠ gD) := ⟨h5_⟩
               have n6_ : Aside0 (gD ≠ gA) := ⟨h6_⟩
               have n7_ : Aside0 (gB ≠ gD) := ⟨h7_⟩
               have n8_ : Aside0 (gD ≠ gB) := ⟨h8_⟩
               have n9_ : Aside0 (Below w.heap.size w w58) := ⟨h9_⟩
               clear KA
               clear KB
               clear HB
               clear h0_ h1_ h2_ h3_ h4_ h5_ h6_ h7_ h8_ h9_
               have KA := n0_
               have KB := n1_
               have KD := n2_
               have GWD := n3_
               have GED := n4_
               have NAD := n5_
               have NDA := n6_
               have NBD := n7_
               have NDB := n8_
               have HB := n9_
               clear n0_ n1_ n2_ n3_ n4_ n5_ n6_ n7_ n8_ n9_
               have hHeld : w58.cell? ⟨gA, 0, none⟩ = some (.int .i64 a1_0) ∧ w58.cell? ⟨gA, 1, none⟩ = some (.int .i64 a1_1) ∧ w58.cell? ⟨gA, 2, none⟩ = some (.int .i64 a1_2) ∧ w58.cell? ⟨gA, 3, none⟩ = some (.int .i64 a1_3) ∧ w58.cell? ⟨gB, 0, none⟩ = some (.int .i64 a2_0) ∧ w58.cell? ⟨gB, 1, none⟩ = some (.int .i64 a2_1) ∧ w58.cell? ⟨gB, 2, none⟩ = some (.int .i64 a2_2) ∧ w58.cell? ⟨gB, 3, none⟩ = some (.int .i64 a2_3) := hS_
               refine norm_ (a' := ?_) ?_ ?_
               rotate_left
               ·simp only [putAll, Act.put, List.setIfInBounds_toArray, List.set_cons_zero, List.set_cons_succ]
                rfl
               refine two_ (i := 3) (j := 8) (Ni := some 19) (Nj := some 8) #[true, true, true, true, true, true, true, false, false, true, false, false] #[true, true, true, false, true, true, true, false, true, true, false, false] rfl rfl rfl rfl (two_of HT_.out (by kernel_rfl)) (by decide) (by decide) (fun K hK => ?_) (fun K hK => ?_)
               ·skip
                refine goes_ Try.func24 (by kernel_rfl) rfl #[.int .i64 a0, .agg #[.int .i64 a1_0, .int .i64 a1_1, .int .i64 a1_2, .int .i64 a1_3], .agg #[.int .i64 a2_0, .int .i64 a2_1, .int .i64 a2_2, .int .i64 a2_3]] (by rfl) rfl rfl pm ?_
                with_reducible refine (blend_Colors.calls k a0 a1_0 a1_1 a1_2 a1_3 a2_0 a2_1 a2_2 a2_3 t548 t549 t550 t551 _ A5.out).mono ?_
                rintro e w59 ⟨rfl, hb⟩
                refine ⟨_, rfl, ?_⟩
                replace KA := bb_ KA hb
                replace KB := bb_ KB hb
                replace KD := bb_ KD hb
                replace HB := Aside0.mk (below_step HB.out hb)
                try clear hb
                refine hK.out _ _ ⟨(blk_cell KA.out 0).trans rfl, (blk_cell KA.out 1).trans rfl, (blk_cell KA.out 2).trans rfl, (blk_cell KA.out 3).trans rfl, (blk_cell KB.out 0).trans rfl, (blk_cell KB.out 1).trans rfl, (blk_cell KB.out 2).trans rfl, (blk_cell KB.out 3).trans rfl⟩ (fun hHeld => ?_)
                clear hK K
                refine norm_ (a' := ?_) ?_ ?_
                rotate_left
                ·show Act.put _ (some 19) _ = _
                 refine ps ?_
                 rfl
                exact norm_ pp (hJ3_9 (gD) _ ⟨hHeld, KA.out, KB.out, KD.out, GWD.out, GED.out, NAD.out, NDA.out, NBD.out, NDB.out, HB.out⟩)
               ·skip
                refine box_step ?hg (N := 8) ?hd (cs := #[.int .i64 0, .int .i64 0, .int .i64 0, .int .i64 0]) (t := 32) ?hr ?_; (case hd => rfl); (case hg => rfl); (case hr => first | (go_simp; done) | (go_simp; rfl))
                intro gC hg w59 hbox hb
                have KC := Aside0.mk (hbox)
                have GWC := ge_ hg HB.out
                have GEC := ge_ hg HB.out
                have NAC := nl_ hg KA
                have NCA := ng_ hg KA
                have NBC := nl_ hg KB
                have NCB := ng_ hg KB
                have NDC := nl_ hg KD
                have NCD := ng_ hg KD
                replace KA := bb_ KA hb
                replace KB := bb_ KB hb
                replace KD := bb_ KD hb
                replace HB := Aside0.mk (below_step HB.out hb)
                clear hb hbox hg
                refine hK.out _ _ ⟨(blk_cell KA.out 0).trans rfl, (blk_cell KA.out 1).trans rfl, (blk_cell KA.out 2).trans rfl, (blk_cell KA.out 3).trans rfl, (blk_cell KB.out 0).trans rfl, (blk_cell KB.out 1).trans rfl, (blk_cell KB.out 2).trans rfl, (blk_cell KB.out 3).trans rfl⟩ (fun hHeld => ?_)
                clear hK K
                refine norm_ (a' := ?_) ?_ ?_
                rotate_left
                ·show Act.put _ (some 8) _ = _
                 refine ps ?_
                 rfl
                exact norm_ pp (hJ8_9 (gC, gD) _ ⟨hHeld, KA.out, KB.out, KC.out, KD.out, GWC.out, GEC.out, NAC.out, NCA.out, NBC.out, NCB.out, NDC.out, NCD.out, GWD.out, GED.out, NAD.out, NDA.out, NBD.out, NDB.out, HB.out⟩)
             ·skip
              rintro gC w58 ⟨hS_, h0_, h1_, h2_, h3_, h4_, h5_, h6_, h7_, h8_, h9_⟩
              have n0_ : Aside0 (w58.heap[gA]? = some (.cells #[.int .i64 a1_0, .int .i64 a1_1, .int .i64 a1_2, .int .i64 a1_3] 32 (0, 0))) := ⟨h0_⟩
              have n1_ : Aside0 (w58.heap[gB]? = some (.cells #[.int .i64 a2_0, .int .i64 a2_1, .int .i64 a2_2, .int .i64 a2_3] 32 (0, 0))) := ⟨h1_⟩
              have n2_ : Aside0 (w58.heap[gC]? = some (.cells #[.int .i64 0, .int .i64 0, .int .i64 0, .int .i64 0] 32 (0, 0))) := ⟨h2_⟩
              have n3_ : Aside0 (w.heap.size ≤ gC) := ⟨h3_⟩
              have n4_ : Aside0 (w.heap.size ≤ gC) := ⟨h4_⟩
              have n5_ : Aside0 (gA ≠ gC) := ⟨h5_⟩
              have n6_ : Aside0 (gC ≠ gA) := ⟨h6_⟩
              have n7_ : Aside0 (gB ≠ gC) := ⟨h7_⟩
              have n8_ : Aside0 (gC ≠ gB) := ⟨h8_⟩
              have n9_ : Aside0 (Below w.heap.size w w58) := ⟨h9_⟩
              clear KA
              clear KB
              clear HB
              clear h0_ h1_ h2_ h3_ h4_ h5_ h6_ h7_ h8_ h9_
              have KA := n0_
              have KB := n1_
              have KC := n2_
              have GWC := n3_
              have GEC := n4_
              have NAC := n5_
              have NCA := n6_
              have NBC := n7_
              have NCB := n8_
              have HB := n9_
              clear n0_ n1_ n2_ n3_ n4_ n5_ n6_ n7_ n8_ n9_
              have hHeld : w58.cell? ⟨gA, 0, none⟩ = some (.int .i64 a1_0) ∧ w58.cell? ⟨gA, 1, none⟩ = some (.int .i64 a1_1) ∧ w58.cell? ⟨gA, 2, none⟩ = some (.int .i64 a1_2) ∧ w58.cell? ⟨gA, 3, none⟩ = some (.int .i64 a1_3) ∧ w58.cell? ⟨gB, 0, none⟩ = some (.int .i64 a2_0) ∧ w58.cell? ⟨gB, 1, none⟩ = some (.int .i64 a2_1) ∧ w58.cell? ⟨gB, 2, none⟩ = some (.int .i64 a2_2) ∧ w58.cell? ⟨gB, 3, none⟩ = some (.int .i64 a2_3) := hS_
              refine norm_ (a' := ?_) ?_ ?_
              rotate_left
              ·simp only [putAll, Act.put, List.setIfInBounds_toArray, List.set_cons_zero, List.set_cons_succ]
               rfl
              refine two_ (i := 3) (j := 9) (Ni := some 19) (Nj := some 9) #[true, true, true, true, true, true, true, false, true, false, false, false] #[true, true, true, false, true, true, true, false, true, true, false, false] rfl rfl rfl rfl (two_of HT_.out (by kernel_rfl)) (by decide) (by decide) (fun K hK => ?_) (fun K hK => ?_)
              ·skip
               refine goes_ Try.func24 (by kernel_rfl) rfl #[.int .i64 a0, .agg #[.int .i64 a1_0, .int .i64 a1_1, .int .i64 a1_2, .int .i64 a1_3], .agg #[.int .i64 a2_0, .int .i64 a2_1, .int .i64 a2_2, .int .i64 a2_3]] (by rfl) rfl rfl pm ?_
               with_reducible refine (blend_Colors.calls k a0 a1_0 a1_1 a1_2 a1_3 a2_0 a2_1 a2_2 a2_3 t548 t549 t550 t551 _ A5.out).mono ?_
               rintro e w59 ⟨rfl, hb⟩
               refine ⟨_, rfl, ?_⟩
               replace KA := bb_ KA hb
               replace KB := bb_ KB hb
               replace KC := bb_ KC hb
               replace HB := Aside0.mk (below_step HB.out hb)
               try clear hb
               refine hK.out _ _ ⟨(blk_cell KA.out 0).trans rfl, (blk_cell KA.out 1).trans rfl, (blk_cell KA.out 2).trans rfl, (blk_cell KA.out 3).trans rfl, (blk_cell KB.out 0).trans rfl, (blk_cell KB.out 1).trans rfl, (blk_cell KB.out 2).trans rfl, (blk_cell KB.out 3).trans rfl⟩ (fun hHeld => ?_)
               clear hK K
               refine norm_ (a' := ?_) ?_ ?_
               rotate_left
               ·show Act.put _ (some 19) _ = _
                refine ps ?_
                rfl
               exact norm_ pp (hJ3_8 (gC) _ ⟨hHeld, KA.out, KB.out, KC.out, GWC.out, GEC.out, NAC.out, NCA.out, NBC.out, NCB.out, HB.out⟩)
              ·skip
               refine box_step ?hg (N := 9) ?hd (cs := #[.int .i64 0, .int .i64 0, .int .i64 0, .int .i64 0]) (t := 32) ?hr ?_; (case hd => rfl); (case hg => rfl); (case hr => first | (go_simp; done) | (go_simp; rfl))
               intro gD hg w59 hbox hb
               have KD := Aside0.mk (hbox)
               have GWD := ge_ hg HB.out
               have GED := ge_ hg HB.out
               have NAD := nl_ hg KA
               have NDA := ng_ hg KA
               have NBD := nl_ hg KB
               have NDB := ng_ hg KB
               have NCD := nl_ hg KC
               have NDC := ng_ hg KC
               replace KA := bb_ KA hb
               replace KB := bb_ KB hb
               replace KC := bb_ KC hb
               replace HB := Aside0.mk (below_step HB.out hb)
               clear hb hbox hg
               refine hK.out _ _ ⟨(blk_cell KA.out 0).trans rfl, (blk_cell KA.out 1).trans rfl, (blk_cell KA.out 2).trans rfl, (blk_cell KA.out 3).trans rfl, (blk_cell KB.out 0).trans rfl, (blk_cell KB.out 1).trans rfl, (blk_cell KB.out 2).trans rfl, (blk_cell KB.out 3).trans rfl⟩ (fun hHeld => ?_)
               clear hK K
               refine norm_ (a' := ?_) ?_ ?_
               rotate_left
               ·show Act.put _ (some 9) _ = _
                refine ps ?_
                rfl
               exact norm_ pp (hJ8_9 (gC, gD) _ ⟨hHeld, KA.out, KB.out, KC.out, KD.out, GWC.out, GEC.out, NAC.out, NCA.out, NBC.out, NCB.out, NDC.out, NCD.out, GWD.out, GED.out, NAD.out, NDA.out, NBD.out, NDB.out, HB.out⟩)
            ·skip
             rintro _ w58 ⟨hS_, h0_, h1_, h2_⟩
             have n0_ : Aside0 (w58.heap[gA]? = some (.cells #[.int .i64 a1_0, .int .i64 a1_1, .int .i64 a1_2, .int .i64 a1_3] 32 (0, 0))) := ⟨h0_⟩
             have n1_ : Aside0 (w58.heap[gB]? = some (.cells #[.int .i64 a2_0, .int .i64 a2_1, .int .i64 a2_2, .int .i64 a2_3] 32 (0, 0))) := ⟨h1_⟩
             have n2_ : Aside0 (Below w.heap.size w w58) := ⟨h2_⟩
             clear KA
             clear KB
             clear HB
             clear h0_ h1_ h2_
             have KA := n0_
             have KB := n1_
             have HB := n2_
             clear n0_ n1_ n2_
             have hHeld : w58.cell? ⟨gA, 0, none⟩ = some (.int .i64 a1_0) ∧ w58.cell? ⟨gA, 1, none⟩ = some (.int .i64 a1_1) ∧ w58.cell? ⟨gA, 2, none⟩ = some (.int .i64 a1_2) ∧ w58.cell? ⟨gA, 3, none⟩ = some (.int .i64 a1_3) ∧ w58.cell? ⟨gB, 0, none⟩ = some (.int .i64 a2_0) ∧ w58.cell? ⟨gB, 1, none⟩ = some (.int .i64 a2_1) ∧ w58.cell? ⟨gB, 2, none⟩ = some (.int .i64 a2_2) ∧ w58.cell? ⟨gB, 3, none⟩ = some (.int .i64 a2_3) := hS_
             refine norm_ (a' := ?_) ?_ ?_
             rotate_left
             ·simp only [putAll, Act.put, List.setIfInBounds_toArray, List.set_cons_zero, List.set_cons_succ]
              rfl
             refine three_ (i := 7) (j := 8) (k := 9) (Ni := some 23) (Nj := some 8) (Nk := some 9) #[true, true, true, true, true, true, true, true, false, false, false, false] #[true, true, true, true, true, true, true, false, true, false, false, false] #[true, true, true, true, true, true, true, false, false, true, false, false] rfl rfl rfl rfl rfl rfl (three_of HT_.out (by kernel_rfl)) (by decide) (by decide) (by decide) (fun K hK => ?_) (fun K hK => ?_) (fun K hK => ?_)
             ·skip
              refine goes_ Try.func14 (by kernel_rfl) rfl #[.int .i64 a0, .agg #[.int .i64 a1_0, .int .i64 a1_1, .int .i64 a1_2, .int .i64 a1_3], .agg #[.int .i64 a2_0, .int .i64 a2_1, .int .i64 a2_2, .int .i64 a2_3]] (by rfl) rfl rfl pm ?_
              with_reducible refine (blend_Over.calls k a0 a1_0 a1_1 a1_2 a1_3 a2_0 a2_1 a2_2 a2_3 t552 t553 t554 t555 _ A6.out).mono ?_
              rintro e w59 ⟨rfl, hb⟩
              refine ⟨_, rfl, ?_⟩
              replace KA := bb_ KA hb
              replace KB := bb_ KB hb
              replace HB := Aside0.mk (below_step HB.out hb)
              try clear hb
              refine hK.out _ _ ⟨(blk_cell KA.out 0).trans rfl, (blk_cell KA.out 1).trans rfl, (blk_cell KA.out 2).trans rfl, (blk_cell KA.out 3).trans rfl, (blk_cell KB.out 0).trans rfl, (blk_cell KB.out 1).trans rfl, (blk_cell KB.out 2).trans rfl, (blk_cell KB.out 3).trans rfl⟩ (fun hHeld => ?_)
              clear hK K
              refine norm_ (a' := ?_) ?_ ?_
              rotate_left
              ·show Act.put _ (some 23) _ = _
               refine ps ?_
               rfl
              exact norm_ pp (hJ3_7 () _ ⟨hHeld, KA.out, KB.out, HB.out⟩)
             ·skip
              refine box_step ?hg (N := 8) ?hd (cs := #[.int .i64 0, .int .i64 0, .int .i64 0, .int .i64 0]) (t := 32) ?hr ?_; (case hd => rfl); (case hg => rfl); (case hr => first | (go_simp; done) | (go_simp; rfl))
              intro gC hg w59 hbox hb
              have KC := Aside0.mk (hbox)
              have GWC := ge_ hg HB.out
              have GEC := ge_ hg HB.out
              have NAC := nl_ hg KA
              have NCA := ng_ hg KA
              have NBC := nl_ hg KB
              have NCB := ng_ hg KB
              replace KA := bb_ KA hb
              replace KB := bb_ KB hb
              replace HB := Aside0.mk (below_step HB.out hb)
              clear hb hbox hg
              refine hK.out _ _ ⟨(blk_cell KA.out 0).trans rfl, (blk_cell KA.out 1).trans rfl, (blk_cell KA.out 2).trans rfl, (blk_cell KA.out 3).trans rfl, (blk_cell KB.out 0).trans rfl, (blk_cell KB.out 1).trans rfl, (blk_cell KB.out 2).trans rfl, (blk_cell KB.out 3).trans rfl⟩ (fun hHeld => ?_)
              clear hK K
              refine norm_ (a' := ?_) ?_ ?_
              rotate_left
              ·show Act.put _ (some 8) _ = _
               refine ps ?_
               rfl
              exact norm_ pp (hJ3_8 (gC) _ ⟨hHeld, KA.out, KB.out, KC.out, GWC.out, GEC.out, NAC.out, NCA.out, NBC.out, NCB.out, HB.out⟩)
             ·skip
              refine box_step ?hg (N := 9) ?hd (cs := #[.int .i64 0, .int .i64 0, .int .i64 0, .int .i64 0]) (t := 32) ?hr ?_; (case hd => rfl); (case hg => rfl); (case hr => first | (go_simp; done) | (go_simp; rfl))
              intro gD hg w59 hbox hb
              have KD := Aside0.mk (hbox)
              have GWD := ge_ hg HB.out
              have GED := ge_ hg HB.out
              have NAD := nl_ hg KA
              have NDA := ng_ hg KA
              have NBD := nl_ hg KB
              have NDB := ng_ hg KB
              replace KA := bb_ KA hb
              replace KB := bb_ KB hb
              replace HB := Aside0.mk (below_step HB.out hb)
              clear hb hbox hg
              refine hK.out _ _ ⟨(blk_cell KA.out 0).trans rfl, (blk_cell KA.out 1).trans rfl, (blk_cell KA.out 2).trans rfl, (blk_cell KA.out 3).trans rfl, (blk_cell KB.out 0).trans rfl, (blk_cell KB.out 1).trans rfl, (blk_cell KB.out 2).trans rfl, (blk_cell KB.out 3).trans rfl⟩ (fun hHeld => ?_)
              clear hK K
              refine norm_ (a' := ?_) ?_ ?_
              rotate_left
              ·show Act.put _ (some 9) _ = _
               refine ps ?_
               rfl
              exact norm_ pp (hJ3_9 (gD) _ ⟨hHeld, KA.out, KB.out, KD.out, GWD.out, GED.out, NAD.out, NDA.out, NBD.out, NDB.out, HB.out⟩)
           ·skip
            rintro ⟨gC, gD⟩ w59 ⟨hS_, h0_, h1_, h2_, h3_, h4_, h5_, h6_, h7_, h8_, h9_, h10_, h11_, h12_, h13_, h14_, h15_, h16_, h17_, h18_⟩
            have n0_ : Aside0 (w59.heap[gA]? = some (.cells #[.int .i64 a1_0, .int .i64 a1_1, .int .i64 a1_2, .int .i64 a1_3] 32 (0, 0))) := ⟨h0_⟩
            have n1_ : Aside0 (w59.heap[gB]? = some (.cells #[.int .i64 a2_0, .int .i64 a2_1, .int .i64 a2_2, .int .i64 a2_3] 32 (0, 0))) := ⟨h1_⟩
            have n2_ : Aside0 (w59.heap[gC]? = some (.cells #[.int .i64 0, .int .i64 0, .int .i64 0, .int .i64 0] 32 (0, 0))) := ⟨h2_⟩
            have n3_ : Aside0 (w59.heap[gD]? = some (.cells #[.int .i64 0, .int .i64 0, .int .i64 0, .int .i64 0] 32 (0, 0))) := ⟨h3_⟩
            have n4_ : Aside0 (w.heap.size ≤ gC) := ⟨h4_⟩
            have n5_ : Aside0 (w.heap.size ≤ gC) := ⟨h5_⟩
            have n6_ : Aside0 (gA ≠ gC) := ⟨h6_⟩
            have n7_ : Aside0 (gC ≠ gA) := ⟨h7_⟩
            have n8_ : Aside0 (gB ≠ gC) := ⟨h8_⟩
            have n9_ : Aside0 (gC ≠ gB) := ⟨h9_⟩
            have n10_ : Aside0 (gD ≠ gC) := ⟨h10_⟩
            have n11_ : Aside0 (gC ≠ gD) := ⟨h11_⟩
            have n12_ : Aside0 (w.heap.size ≤ gD) := ⟨h12_⟩
            have n13_ : Aside0 (w.heap.size ≤ gD) := ⟨h13_⟩
            have n14_ : Aside0 (gA ≠ gD) := ⟨h14_⟩
            have n15_ : Aside0 (gD ≠ gA) := ⟨h15_⟩
            have n16_ : Aside0 (gB ≠ gD) := ⟨h16_⟩
            have n17_ : Aside0 (gD ≠ gB) := ⟨h17_⟩
            have n18_ : Aside0 (Below w.heap.size w w59) := ⟨h18_⟩
            clear KA
            clear KB
            clear HB
            clear h0_ h1_ h2_ h3_ h4_ h5_ h6_ h7_ h8_ h9_ h10_ h11_ h12_ h13_ h14_ h15_ h16_ h17_ h18_
            have KA := n0_
            have KB := n1_
            have KC := n2_
            have KD := n3_
            have GWC := n4_
            have GEC := n5_
            have NAC := n6_
            have NCA := n7_
            have NBC := n8_
            have NCB := n9_
            have NDC := n10_
            have NCD := n11_
            have GWD := n12_
            have GED := n13_
            have NAD := n14_
            have NDA := n15_
            have NBD := n16_
            have NDB := n17_
            have HB := n18_
            clear n0_ n1_ n2_ n3_ n4_ n5_ n6_ n7_ n8_ n9_ n10_ n11_ n12_ n13_ n14_ n15_ n16_ n17_ n18_
            have hHeld : w59.cell? ⟨gA, 0, none⟩ = some (.int .i64 a1_0) ∧ w59.cell? ⟨gA, 1, none⟩ = some (.int .i64 a1_1) ∧ w59.cell? ⟨gA, 2, none⟩ = some (.int .i64 a1_2) ∧ w59.cell? ⟨gA, 3, none⟩ = some (.int .i64 a1_3) ∧ w59.cell? ⟨gB, 0, none⟩ = some (.int .i64 a2_0) ∧ w59.cell? ⟨gB, 1, none⟩ = some (.int .i64 a2_1) ∧ w59.cell? ⟨gB, 2, none⟩ = some (.int .i64 a2_2) ∧ w59.cell? ⟨gB, 3, none⟩ = some (.int .i64 a2_3) := hS_
            refine norm_ (a' := ?_) ?_ ?_
            rotate_left
            ·simp only [putAll, Act.put, List.setIfInBounds_toArray, List.set_cons_zero, List.set_cons_succ]
             rfl
            refine one_ (i := 3) (N := some 19) #[true, true, true, true, true, true, true, false, true, true, false, false] rfl rfl (one_of HT_.out (by kernel_rfl)) (by decide) (fun K hK => ?_)
            refine goes_ Try.func24 (by kernel_rfl) rfl #[.int .i64 a0, .agg #[.int .i64 a1_0, .int .i64 a1_1, .int .i64 a1_2, .int .i64 a1_3], .agg #[.int .i64 a2_0, .int .i64 a2_1, .int .i64 a2_2, .int .i64 a2_3]] (by rfl) rfl rfl pm ?_
            with_reducible refine (blend_Colors.calls k a0 a1_0 a1_1 a1_2 a1_3 a2_0 a2_1 a2_2 a2_3 t548 t549 t550 t551 _ A5.out).mono ?_
            rintro e w60 ⟨rfl, hb⟩
            refine ⟨_, rfl, ?_⟩
            replace KA := bb_ KA hb
            replace KB := bb_ KB hb
            replace KC := bb_ KC hb
            replace KD := bb_ KD hb
            replace HB := Aside0.mk (below_step HB.out hb)
            try clear hb
            refine hK.out _ _ ⟨(blk_cell KA.out 0).trans rfl, (blk_cell KA.out 1).trans rfl, (blk_cell KA.out 2).trans rfl, (blk_cell KA.out 3).trans rfl, (blk_cell KB.out 0).trans rfl, (blk_cell KB.out 1).trans rfl, (blk_cell KB.out 2).trans rfl, (blk_cell KB.out 3).trans rfl⟩ (fun hHeld => ?_)
            clear hK K
            refine norm_ (a' := ?_) ?_ ?_
            rotate_left
            ·show Act.put _ (some 19) _ = _
             refine ps ?_
             rfl
            exact norm_ pp (hJ3_8_9 (gC, gD) _ ⟨hHeld, KA.out, KB.out, KC.out, KD.out, GWC.out, GEC.out, NAC.out, NCA.out, NBC.out, NCB.out, NDC.out, NCD.out, GWD.out, GED.out, NAD.out, NDA.out, NBD.out, NDB.out, HB.out⟩)
          ·skip
           rintro gD w59 ⟨hS_, h0_, h1_, h2_, h3_, h4_, h5_, h6_, h7_, h8_, h9_⟩
           have n0_ : Aside0 (w59.heap[gA]? = some (.cells #[.int .i64 a1_0, .int .i64 a1_1, .int .i64 a1_2, .int .i64 a1_3] 32 (0, 0))) := ⟨h0_⟩
           have n1_ : Aside0 (w59.heap[gB]? = some (.cells #[.int .i64 a2_0, .int .i64 a2_1, .int .i64 a2_2, .int .i64 a2_3] 32 (0, 0))) := ⟨h1_⟩
           have n2_ : Aside0 (w59.heap[gD]? = some (.cells #[.int .i64 0, .int .i64 0, .int .i64 0, .int .i64 0] 32 (0, 0))) := ⟨h2_⟩
           have n3_ : Aside0 (w.heap.size ≤ gD) := ⟨h3_⟩
           have n4_ : Aside0 (w.heap.size ≤ gD) := ⟨h4_⟩
           have n5_ : Aside0 (gA ≠ gD) := ⟨h5_⟩
           have n6_ : Aside0 (gD ≠ gA) := ⟨h6_⟩
           have n7_ : Aside0 (gB ≠ gD) := ⟨h7_⟩
           have n8_ : Aside0 (gD ≠ gB) := ⟨h8_⟩
           have n9_ : Aside0 (Below w.heap.size w w59) := ⟨h9_⟩
           clear KA
           clear KB
           clear HB
           clear h0_ h1_ h2_ h3_ h4_ h5_ h6_ h7_ h8_ h9_
           have KA := n0_
           have KB := n1_
           have KD := n2_
           have GWD := n3_
           have GED := n4_
           have NAD := n5_
           have NDA := n6_
           have NBD := n7_
           have NDB := n8_
           have HB := n9_
           clear n0_ n1_ n2_ n3_ n4_ n5_ n6_ n7_ n8_ n9_
           have hHeld : w59.cell? ⟨gA, 0, none⟩ = some (.int .i64 a1_0) ∧ w59.cell? ⟨gA, 1, none⟩ = some (.int .i64 a1_1) ∧ w59.cell? ⟨gA, 2, none⟩ = some (.int .i64 a1_2) ∧ w59.cell? ⟨gA, 3, none⟩ = some (.int .i64 a1_3) ∧ w59.cell? ⟨gB, 0, none⟩ = some (.int .i64 a2_0) ∧ w59.cell? ⟨gB, 1, none⟩ = some (.int .i64 a2_1) ∧ w59.cell? ⟨gB, 2, none⟩ = some (.int .i64 a2_2) ∧ w59.cell? ⟨gB, 3, none⟩ = some (.int .i64 a2_3) := hS_
           refine norm_ (a' := ?_) ?_ ?_
           rotate_left
           ·simp only [putAll, Act.put, List.setIfInBounds_toArray, List.set_cons_zero, List.set_cons_succ]
            rfl
           refine two_ (i := 7) (j := 8) (Ni := some 23) (Nj := some 8) #[true, true, true, true, true, true, true, true, false, true, false, false] #[true, true, true, true, true, true, true, false, true, true, false, false] rfl rfl rfl rfl (two_of HT_.out (by kernel_rfl)) (by decide) (by decide) (fun K hK => ?_) (fun K hK => ?_)
           ·skip
            refine goes_ Try.func14 (by kernel_rfl) rfl #[.int .i64 a0, .agg #[.int .i64 a1_0, .int .i64 a1_1, .int .i64 a1_2, .int .i64 a1_3], .agg #[.int .i64 a2_0, .int .i64 a2_1, .int .i64 a2_2, .int .i64 a2_3]] (by rfl) rfl rfl pm ?_
            with_reducible refine (blend_Over.calls k a0 a1_0 a1_1 a1_2 a1_3 a2_0 a2_1 a2_2 a2_3 t552 t553 t554 t555 _ A6.out).mono ?_
            rintro e w60 ⟨rfl, hb⟩
            refine ⟨_, rfl, ?_⟩
            replace KA := bb_ KA hb
            replace KB := bb_ KB hb
            replace KD := bb_ KD hb
            replace HB := Aside0.mk (below_step HB.out hb)
            try clear hb
            refine hK.out _ _ ⟨(blk_cell KA.out 0).trans rfl, (blk_cell KA.out 1).trans rfl, (blk_cell KA.out 2).trans rfl, (blk_cell KA.out 3).trans rfl, (blk_cell KB.out 0).trans rfl, (blk_cell KB.out 1).trans rfl, (blk_cell KB.out 2).trans rfl, (blk_cell KB.out 3).trans rfl⟩ (fun hHeld => ?_)
            clear hK K
            refine norm_ (a' := ?_) ?_ ?_
            rotate_left
            ·show Act.put _ (some 23) _ = _
             refine ps ?_
             rfl
            exact norm_ pp (hJ3_7_9 (gD) _ ⟨hHeld, KA.out, KB.out, KD.out, GWD.out, GED.out, NAD.out, NDA.out, NBD.out, NDB.out, HB.out⟩)
           ·skip
            refine box_step ?hg (N := 8) ?hd (cs := #[.int .i64 0, .int .i64 0, .int .i64 0, .int .i64 0]) (t := 32) ?hr ?_; (case hd => rfl); (case hg => rfl); (case hr => first | (go_simp; done) | (go_simp; rfl))
            intro gC hg w60 hbox hb
            have KC := Aside0.mk (hbox)
            have GWC := ge_ hg HB.out
            have GEC := ge_ hg HB.out
            have NAC := nl_ hg KA
            have NCA := ng_ hg KA
            have NBC := nl_ hg KB
            have NCB := ng_ hg KB
            have NDC := nl_ hg KD
            have NCD := ng_ hg KD
            replace KA := bb_ KA hb
            replace KB := bb_ KB hb
            replace KD := bb_ KD hb
            replace HB := Aside0.mk (below_step HB.out hb)
            clear hb hbox hg
            refine hK.out _ _ ⟨(blk_cell KA.out 0).trans rfl, (blk_cell KA.out 1).trans rfl, (blk_cell KA.out 2).trans rfl, (blk_cell KA.out 3).trans rfl, (blk_cell KB.out 0).trans rfl, (blk_cell KB.out 1).trans rfl, (blk_cell KB.out 2).trans rfl, (blk_cell KB.out 3).trans rfl⟩ (fun hHeld => ?_)
            clear hK K
            refine norm_ (a' := ?_) ?_ ?_
            rotate_left
            ·show Act.put _ (some 8) _ = _
             refine ps ?_
             rfl
            exact norm_ pp (hJ3_8_9 (gC, gD) _ ⟨hHeld, KA.out, KB.out, KC.out, KD.out, GWC.out, GEC.out, NAC.out, NCA.out, NBC.out, NCB.out, NDC.out, NCD.out, GWD.out, GED.out, NAD.out, NDA.out, NBD.out, NDB.out, HB.out⟩)
         ·skip
          rintro gC w59 ⟨hS_, h0_, h1_, h2_, h3_, h4_, h5_, h6_, h7_, h8_, h9_⟩
          have n0_ : Aside0 (w59.heap[gA]? = some (.cells #[.int .i64 a1_0, .int .i64 a1_1, .int .i64 a1_2, .int .i64 a1_3] 32 (0, 0))) := ⟨h0_⟩
          have n1_ : Aside0 (w59.heap[gB]? = some (.cells #[.int .i64 a2_0, .int .i64 a2_1, .int .i64 a2_2, .int .i64 a2_3] 32 (0, 0))) := ⟨h1_⟩
          have n2_ : Aside0 (w59.heap[gC]? = some (.cells #[.int .i64 0, .int .i64 0, .int .i64 0, .int .i64 0] 32 (0, 0))) := ⟨h2_⟩
          have n3_ : Aside0 (w.heap.size ≤ gC) := ⟨h3_⟩
          have n4_ : Aside0 (w.heap.size ≤ gC) := ⟨h4_⟩
          have n5_ : Aside0 (gA ≠ gC) := ⟨h5_⟩
          have n6_ : Aside0 (gC ≠ gA) := ⟨h6_⟩
          have n7_ : Aside0 (gB ≠ gC) := ⟨h7_⟩
          have n8_ : Aside0 (gC ≠ gB) := ⟨h8_⟩
          have n9_ : Aside0 (Below w.heap.size w w59) := ⟨h9_⟩
          clear KA
          clear KB
          clear HB
          clear h0_ h1_ h2_ h3_ h4_ h5_ h6_ h7_ h8_ h9_
          have KA := n0_
          have KB := n1_
          have KC := n2_
          have GWC := n3_
          have GEC := n4_
          have NAC := n5_
          have NCA := n6_
          have NBC := n7_
          have NCB := n8_
          have HB := n9_
          clear n0_ n1_ n2_ n3_ n4_ n5_ n6_ n7_ n8_ n9_
          have hHeld : w59.cell? ⟨gA, 0, none⟩ = some (.int .i64 a1_0) ∧ w59.cell? ⟨gA, 1, none⟩ = some (.int .i64 a1_1) ∧ w59.cell? ⟨gA, 2, none⟩ = some (.int .i64 a1_2) ∧ w59.cell? ⟨gA, 3, none⟩ = some (.int .i64 a1_3) ∧ w59.cell? ⟨gB, 0, none⟩ = some (.int .i64 a2_0) ∧ w59.cell? ⟨gB, 1, none⟩ = some (.int .i64 a2_1) ∧ w59.cell? ⟨gB, 2, none⟩ = some (.int .i64 a2_2) ∧ w59.cell? ⟨gB, 3, none⟩ = some (.int .i64 a2_3) := hS_
          refine norm_ (a' := ?_) ?_ ?_
          rotate_left
          ·simp only [putAll, Act.put, List.setIfInBounds_toArray, List.set_cons_zero, List.set_cons_succ]
           rfl
          refine two_ (i := 7) (j := 9) (Ni := some 23) (Nj := some 9) #[true, true, true, true, true, true, true, true, true, false, false, false] #[true, true, true, true, true, true, true, false, true, true, false, false] rfl rfl rfl rfl (two_of HT_.out (by kernel_rfl)) (by decide) (by decide) (fun K hK => ?_) (fun K hK => ?_)
          ·skip
           refine goes_ Try.func14 (by kernel_rfl) rfl #[.int .i64 a0, .agg #[.int .i64 a1_0, .int .i64 a1_1, .int .i64 a1_2, .int .i64 a1_3], .agg #[.int .i64 a2_0, .int .i64 a2_1, .int .i64 a2_2, .int .i64 a2_3]] (by rfl) rfl rfl pm ?_
           with_reducible refine (blend_Over.calls k a0 a1_0 a1_1 a1_2 a1_3 a2_0 a2_1 a2_2 a2_3 t552 t553 t554 t555 _ A6.out).mono ?_
           rintro e w60 ⟨rfl, hb⟩
           refine ⟨_, rfl, ?_⟩
           replace KA := bb_ KA hb
           replace KB := bb_ KB hb
           replace KC := bb_ KC hb
           replace HB := Aside0.mk (below_step HB.out hb)
           try clear hb
           refine hK.out _ _ ⟨(blk_cell KA.out 0).trans rfl, (blk_cell KA.out 1).trans rfl, (blk_cell KA.out 2).trans rfl, (blk_cell KA.out 3).trans rfl, (blk_cell KB.out 0).trans rfl, (blk_cell KB.out 1).trans rfl, (blk_cell KB.out 2).trans rfl, (blk_cell KB.out 3).trans rfl⟩ (fun hHeld => ?_)
           clear hK K
           refine norm_ (a' := ?_) ?_ ?_
           rotate_left
           ·show Act.put _ (some 23) _ = _
            refine ps ?_
            rfl
           exact norm_ pp (hJ3_7_8 (gC) _ ⟨hHeld, KA.out, KB.out, KC.out, GWC.out, GEC.out, NAC.out, NCA.out, NBC.out, NCB.out, HB.out⟩)
          ·skip
           refine box_step ?hg (N := 9) ?hd (cs := #[.int .i64 0, .int .i64 0, .int .i64 0, .int .i64 0]) (t := 32) ?hr ?_; (case hd => rfl); (case hg => rfl); (case hr => first | (go_simp; done) | (go_simp; rfl))
           intro gD hg w60 hbox hb
           have KD := Aside0.mk (hbox)
           have GWD := ge_ hg HB.out
           have GED := ge_ hg HB.out
           have NAD := nl_ hg KA
           have NDA := ng_ hg KA
           have NBD := nl_ hg KB
           have NDB := ng_ hg KB
           have NCD := nl_ hg KC
           have NDC := ng_ hg KC
           replace KA := bb_ KA hb
           replace KB := bb_ KB hb
           replace KC := bb_ KC hb
           replace HB := Aside0.mk (below_step HB.out hb)
           clear hb hbox hg
           refine hK.out _ _ ⟨(blk_cell KA.out 0).trans rfl, (blk_cell KA.out 1).trans rfl, (blk_cell KA.out 2).trans rfl, (blk_cell KA.out 3).trans rfl, (blk_cell KB.out 0).trans rfl, (blk_cell KB.out 1).trans rfl, (blk_cell KB.out 2).trans rfl, (blk_cell KB.out 3).trans rfl⟩ (fun hHeld => ?_)
           clear hK K
           refine norm_ (a' := ?_) ?_ ?_
           rotate_left
           ·show Act.put _ (some 9) _ = _
            refine ps ?_
            rfl
           exact norm_ pp (hJ3_8_9 (gC, gD) _ ⟨hHeld, KA.out, KB.out, KC.out, KD.out, GWC.out, GEC.out, NAC.out, NCA.out, NBC.out, NCB.out, NDC.out, NCD.out, GWD.out, GED.out, NAD.out, NDA.out, NBD.out, NDB.out, HB.out⟩)
        ·skip
         rintro _ w59 ⟨hS_, h0_, h1_, h2_⟩
         have n0_ : Aside0 (w59.heap[gA]? = some (.cells #[.int .i64 a1_0, .int .i64 a1_1, .int .i64 a1_2, .int .i64 a1_3] 32 (0, 0))) := ⟨h0_⟩
         have n1_ : Aside0 (w59.heap[gB]? = some (.cells #[.int .i64 a2_0, .int .i64 a2_1, .int .i64 a2_2, .int .i64 a2_3] 32 (0, 0))) := ⟨h1_⟩
         have n2_ : Aside0 (Below w.heap.size w w59) := ⟨h2_⟩
         clear KA
         clear KB
         clear HB
         clear h0_ h1_ h2_
         have KA := n0_
         have KB := n1_
         have HB := n2_
         clear n0_ n1_ n2_
         have hHeld : w59.cell? ⟨gA, 0, none⟩ = some (.int .i64 a1_0) ∧ w59.cell? ⟨gA, 1, none⟩ = some (.int .i64 a1_1) ∧ w59.cell? ⟨gA, 2, none⟩ = some (.int .i64 a1_2) ∧ w59.cell? ⟨gA, 3, none⟩ = some (.int .i64 a1_3) ∧ w59.cell? ⟨gB, 0, none⟩ = some (.int .i64 a2_0) ∧ w59.cell? ⟨gB, 1, none⟩ = some (.int .i64 a2_1) ∧ w59.cell? ⟨gB, 2, none⟩ = some (.int .i64 a2_2) ∧ w59.cell? ⟨gB, 3, none⟩ = some (.int .i64 a2_3) := hS_
         refine norm_ (a' := ?_) ?_ ?_
         rotate_left
         ·simp only [putAll, Act.put, List.setIfInBounds_toArray, List.set_cons_zero, List.set_cons_succ]
          rfl
         refine two_ (i := 8) (j := 9) (Ni := some 8) (Nj := some 9) #[true, true, true, true, true, true, true, true, true, false, false, false] #[true, true, true, true, true, true, true, true, false, true, false, false] rfl rfl rfl rfl (two_of HT_.out (by kernel_rfl)) (by decide) (by decide) (fun K hK => ?_) (fun K hK => ?_)
         ·skip
          refine box_step ?hg (N := 8) ?hd (cs := #[.int .i64 0, .int .i64 0, .int .i64 0, .int .i64 0]) (t := 32) ?hr ?_; (case hd => rfl); (case hg => rfl); (case hr => first | (go_simp; done) | (go_simp; rfl))
          intro gC hg w60 hbox hb
          have KC := Aside0.mk (hbox)
          have GWC := ge_ hg HB.out
          have GEC := ge_ hg HB.out
          have NAC := nl_ hg KA
          have NCA := ng_ hg KA
          have NBC := nl_ hg KB
          have NCB := ng_ hg KB
          replace KA := bb_ KA hb
          replace KB := bb_ KB hb
          replace HB := Aside0.mk (below_step HB.out hb)
          clear hb hbox hg
          refine hK.out _ _ ⟨(blk_cell KA.out 0).trans rfl, (blk_cell KA.out 1).trans rfl, (blk_cell KA.out 2).trans rfl, (blk_cell KA.out 3).trans rfl, (blk_cell KB.out 0).trans rfl, (blk_cell KB.out 1).trans rfl, (blk_cell KB.out 2).trans rfl, (blk_cell KB.out 3).trans rfl⟩ (fun hHeld => ?_)
          clear hK K
          refine norm_ (a' := ?_) ?_ ?_
          rotate_left
          ·show Act.put _ (some 8) _ = _
           refine ps ?_
           rfl
          exact norm_ pp (hJ3_7_8 (gC) _ ⟨hHeld, KA.out, KB.out, KC.out, GWC.out, GEC.out, NAC.out, NCA.out, NBC.out, NCB.out, HB.out⟩)
         ·skip
          refine box_step ?hg (N := 9) ?hd (cs := #[.int .i64 0, .int .i64 0, .int .i64 0, .int .i64 0]) (t := 32) ?hr ?_; (case hd => rfl); (case hg => rfl); (case hr => first | (go_simp; done) | (go_simp; rfl))
          intro gD hg w60 hbox hb
          have KD := Aside0.mk (hbox)
          have GWD := ge_ hg HB.out
          have GED := ge_ hg HB.out
          have NAD := nl_ hg KA
          have NDA := ng_ hg KA
          have NBD := nl_ hg KB
          have NDB := ng_ hg KB
          replace KA := bb_ KA hb
          replace KB := bb_ KB hb
          replace HB := Aside0.mk (below_step HB.out hb)
          clear hb hbox hg
          refine hK.out _ _ ⟨(blk_cell KA.out 0).trans rfl, (blk_cell KA.out 1).trans rfl, (blk_cell KA.out 2).trans rfl, (blk_cell KA.out 3).trans rfl, (blk_cell KB.out 0).trans rfl, (blk_cell KB.out 1).trans rfl, (blk_cell KB.out 2).trans rfl, (blk_cell KB.out 3).trans rfl⟩ (fun hHeld => ?_)
          clear hK K
          refine norm_ (a' := ?_) ?_ ?_
          rotate_left
          ·show Act.put _ (some 9) _ = _
           refine ps ?_
           rfl
          exact norm_ pp (hJ3_7_9 (gD) _ ⟨hHeld, KA.out, KB.out, KD.out, GWD.out, GED.out, NAD.out, NDA.out, NBD.out, NDB.out, HB.out⟩)
       ·skip
        rintro ⟨gC, gD⟩ w60 ⟨hS_, h0_, h1_, h2_, h3_, h4_, h5_, h6_, h7_, h8_, h9_, h10_, h11_, h12_, h13_, h14_, h15_, h16_, h17_, h18_⟩
        have n0_ : Aside0 (w60.heap[gA]? = some (.cells #[.int .i64 a1_0, .int .i64 a1_1, .int .i64 a1_2, .int .i64 a1_3] 32 (0, 0))) := ⟨h0_⟩
        have n1_ : Aside0 (w60.heap[gB]? = some (.cells #[.int .i64 a2_0, .int .i64 a2_1, .int .i64 a2_2, .int .i64 a2_3] 32 (0, 0))) := ⟨h1_⟩
        have n2_ : Aside0 (w60.heap[gC]? = some (.cells #[.int .i64 0, .int .i64 0, .int .i64 0, .int .i64 0] 32 (0, 0))) := ⟨h2_⟩
        have n3_ : Aside0 (w60.heap[gD]? = some (.cells #[.int .i64 0, .int .i64 0, .int .i64 0, .int .i64 0] 32 (0, 0))) := ⟨h3_⟩
        have n4_ : Aside0 (w.heap.size ≤ gC) := ⟨h4_⟩
        have n5_ : Aside0 (w.heap.size ≤ gC) := ⟨h5_⟩
        have n6_ : Aside0 (gA ≠ gC) := ⟨h6_⟩
        have n7_ : Aside0 (gC ≠ gA) := ⟨h7_⟩
        have n8_ : Aside0 (gB ≠ gC) := ⟨h8_⟩
        have n9_ : Aside0 (gC ≠ gB) := ⟨h9_⟩
        have n10_ : Aside0 (gD ≠ gC) := ⟨h10_⟩
        have n11_ : Aside0 (gC ≠ gD) := ⟨h11_⟩
        have n12_ : Aside0 (w.heap.size ≤ gD) := ⟨h12_⟩
        have n13_ : Aside0 (w.heap.size ≤ gD) := ⟨h13_⟩
        have n14_ : Aside0 (gA ≠ gD) := ⟨h14_⟩
        have n15_ : Aside0 (gD ≠ gA) := ⟨h15_⟩
        have n16_ : Aside0 (gB ≠ gD) := ⟨h16_⟩
        have n17_ : Aside0 (gD ≠ gB) := ⟨h17_⟩
        have n18_ : Aside0 (Below w.heap.size w w60) := ⟨h18_⟩
        clear KA
        clear KB
        clear HB
        clear h0_ h1_ h2_ h3_ h4_ h5_ h6_ h7_ h8_ h9_ h10_ h11_ h12_ h13_ h14_ h15_ h16_ h17_ h18_
        have KA := n0_
        have KB := n1_
        have KC := n2_
        have KD := n3_
        have GWC := n4_
        have GEC := n5_
        have NAC := n6_
        have NCA := n7_
        have NBC := n8_
        have NCB := n9_
        have NDC := n10_
        have NCD := n11_
        have GWD := n12_
        have GED := n13_
        have NAD := n14_
        have NDA := n15_
        have NBD := n16_
        have NDB := n17_
        have HB := n18_
        clear n0_ n1_ n2_ n3_ n4_ n5_ n6_ n7_ n8_ n9_ n10_ n11_ n12_ n13_ n14_ n15_ n16_ n17_ n18_
        have hHeld : w60.cell? ⟨gA, 0, none⟩ = some (.int .i64 a1_0) ∧ w60.cell? ⟨gA, 1, none⟩ = some (.int .i64 a1_1) ∧ w60.cell? ⟨gA, 2, none⟩ = some (.int .i64 a1_2) ∧ w60.cell? ⟨gA, 3, none⟩ = some (.int .i64 a1_3) ∧ w60.cell? ⟨gB, 0, none⟩ = some (.int .i64 a2_0) ∧ w60.cell? ⟨gB, 1, none⟩ = some (.int .i64 a2_1) ∧ w60.cell? ⟨gB, 2, none⟩ = some (.int .i64 a2_2) ∧ w60.cell? ⟨gB, 3, none⟩ = some (.int .i64 a2_3) := hS_
        refine norm_ (a' := ?_) ?_ ?_
        rotate_left
        ·simp only [putAll, Act.put, List.setIfInBounds_toArray, List.set_cons_zero, List.set_cons_succ]
         rfl
        refine one_ (i := 7) (N := some 23) #[true, true, true, true, true, true, true, true, true, true, false, false] rfl rfl (one_of HT_.out (by kernel_rfl)) (by decide) (fun K hK => ?_)
        refine goes_ Try.func14 (by kernel_rfl) rfl #[.int .i64 a0, .agg #[.int .i64 a1_0, .int .i64 a1_1, .int .i64 a1_2, .int .i64 a1_3], .agg #[.int .i64 a2_0, .int .i64 a2_1, .int .i64 a2_2, .int .i64 a2_3]] (by rfl) rfl rfl pm ?_
        with_reducible refine (blend_Over.calls k a0 a1_0 a1_1 a1_2 a1_3 a2_0 a2_1 a2_2 a2_3 t552 t553 t554 t555 _ A6.out).mono ?_
        rintro e w61 ⟨rfl, hb⟩
        refine ⟨_, rfl, ?_⟩
        replace KA := bb_ KA hb
        replace KB := bb_ KB hb
        replace KC := bb_ KC hb
        replace KD := bb_ KD hb
        replace HB := Aside0.mk (below_step HB.out hb)
        try clear hb
        refine hK.out _ _ ⟨(blk_cell KA.out 0).trans rfl, (blk_cell KA.out 1).trans rfl, (blk_cell KA.out 2).trans rfl, (blk_cell KA.out 3).trans rfl, (blk_cell KB.out 0).trans rfl, (blk_cell KB.out 1).trans rfl, (blk_cell KB.out 2).trans rfl, (blk_cell KB.out 3).trans rfl⟩ (fun hHeld => ?_)
        clear hK K
        refine norm_ (a' := ?_) ?_ ?_
        rotate_left
        ·show Act.put _ (some 23) _ = _
         refine ps ?_
         rfl
        exact norm_ pp (hJ3_7_8_9 (gC, gD) _ ⟨hHeld, KA.out, KB.out, KC.out, KD.out, GWC.out, GEC.out, NAC.out, NCA.out, NBC.out, NCB.out, NDC.out, NCD.out, GWD.out, GED.out, NAD.out, NDA.out, NBD.out, NDB.out, HB.out⟩)
      ·skip
       rintro gD w60 ⟨hS_, h0_, h1_, h2_, h3_, h4_, h5_, h6_, h7_, h8_, h9_⟩
       have n0_ : Aside0 (w60.heap[gA]? = some (.cells #[.int .i64 a1_0, .int .i64 a1_1, .int .i64 a1_2, .int .i64 a1_3] 32 (0, 0))) := ⟨h0_⟩
       have n1_ : Aside0 (w60.heap[gB]? = some (.cells #[.int .i64 a2_0, .int .i64 a2_1, .int .i64 a2_2, .int .i64 a2_3] 32 (0, 0))) := ⟨h1_⟩
       have n2_ : Aside0 (w60.heap[gD]? = some (.cells #[.int .i64 0, .int .i64 0, .int .i64 0, .int .i64 0] 32 (0, 0))) := ⟨h2_⟩
       have n3_ : Aside0 (w.heap.size ≤ gD) := ⟨h3_⟩
       have n4_ : Aside0 (w.heap.size ≤ gD) := ⟨h4_⟩
       have n5_ : Aside0 (gA ≠ gD) := ⟨h5_⟩
       have n6_ : Aside0 (gD ≠ gA) := ⟨h6_⟩
       have n7_ : Aside0 (gB ≠ gD) := ⟨h7_⟩
       have n8_ : Aside0 (gD ≠ gB) := ⟨h8_⟩
       have n9_ : Aside0 (Below w.heap.size w w60) := ⟨h9_⟩
       clear KA
       clear KB
       clear HB
       clear h0_ h1_ h2_ h3_ h4_ h5_ h6_ h7_ h8_ h9_
       have KA := n0_
       have KB := n1_
       have KD := n2_
       have GWD := n3_
       have GED := n4_
       have NAD := n5_
       have NDA := n6_
       have NBD := n7_
       have NDB := n8_
       have HB := n9_
       clear n0_ n1_ n2_ n3_ n4_ n5_ n6_ n7_ n8_ n9_
       have hHeld : w60.cell? ⟨gA, 0, none⟩ = some (.int .i64 a1_0) ∧ w60.cell? ⟨gA, 1, none⟩ = some (.int .i64 a1_1) ∧ w60.cell? ⟨gA, 2, none⟩ = some (.int .i64 a1_2) ∧ w60.cell? ⟨gA, 3, none⟩ = some (.int .i64 a1_3) ∧ w60.cell? ⟨gB, 0, none⟩ = some (.int .i64 a2_0) ∧ w60.cell? ⟨gB, 1, none⟩ = some (.int .i64 a2_1) ∧ w60.cell? ⟨gB, 2, none⟩ = some (.int .i64 a2_2) ∧ w60.cell? ⟨gB, 3, none⟩ = some (.int .i64 a2_3) := hS_
       refine norm_ (a' := ?_) ?_ ?_
       rotate_left
       ·simp only [putAll, Act.put, List.setIfInBounds_toArray, List.set_cons_zero, List.set_cons_succ]
        rfl
       refine one_ (i := 8) (N := some 8) #[true, true, true, true, true, true, true, true, true, true, false, false] rfl rfl (one_of HT_.out (by kernel_rfl)) (by decide) (fun K hK => ?_)
       refine box_step ?hg (N := 8) ?hd (cs := #[.int .i64 0, .int .i64 0, .int .i64 0, .int .i64 0]) (t := 32) ?hr ?_; (case hd => rfl); (case hg => rfl); (case hr => first | (go_simp; done) | (go_simp; rfl))
       intro gC hg w61 hbox hb
       have KC := Aside0.mk (hbox)
       have GWC := ge_ hg HB.out
       have GEC := ge_ hg HB.out
       have NAC := nl_ hg KA
       have NCA := ng_ hg KA
       have NBC := nl_ hg KB
       have NCB := ng_ hg KB
       have NDC := nl_ hg KD
       have NCD := ng_ hg KD
       replace KA := bb_ KA hb
       replace KB := bb_ KB hb
       replace KD := bb_ KD hb
       replace HB := Aside0.mk (below_step HB.out hb)
       clear hb hbox hg
       refine hK.out _ _ ⟨(blk_cell KA.out 0).trans rfl, (blk_cell KA.out 1).trans rfl, (blk_cell KA.out 2).trans rfl, (blk_cell KA.out 3).trans rfl, (blk_cell KB.out 0).trans rfl, (blk_cell KB.out 1).trans rfl, (blk_cell KB.out 2).trans rfl, (blk_cell KB.out 3).trans rfl⟩ (fun hHeld => ?_)
       clear hK K
       refine norm_ (a' := ?_) ?_ ?_
       rotate_left
       ·show Act.put _ (some 8) _ = _
        refine ps ?_
        rfl
       exact norm_ pp (hJ3_7_8_9 (gC, gD) _ ⟨hHeld, KA.out, KB.out, KC.out, KD.out, GWC.out, GEC.out, NAC.out, NCA.out, NBC.out, NCB.out, NDC.out, NCD.out, GWD.out, GED.out, NAD.out, NDA.out, NBD.out, NDB.out, HB.out⟩)
     ·skip
      rintro gC w60 ⟨hS_, h0_, h1_, h2_, h3_, h4_, h5_, h6_, h7_, h8_, h9_⟩
      have n0_ : Aside0 (w60.heap[gA]? = some (.cells #[.int .i64 a1_0, .int .i64 a1_1, .int .i64 a1_2, .int .i64 a1_3] 32 (0, 0))) := ⟨h0_⟩
      have n1_ : Aside0 (w60.heap[gB]? = some (.cells #[.int .i64 a2_0, .int .i64 a2_1, .int .i64 a2_2, .int .i64 a2_3] 32 (0, 0))) := ⟨h1_⟩
      have n2_ : Aside0 (w60.heap[gC]? = some (.cells #[.int .i64 0, .int .i64 0, .int .i64 0, .int .i64 0] 32 (0, 0))) := ⟨h2_⟩
      have n3_ : Aside0 (w.heap.size ≤ gC) := ⟨h3_⟩
      have n4_ : Aside0 (w.heap.size ≤ gC) := ⟨h4_⟩
      have n5_ : Aside0 (gA ≠ gC) := ⟨h5_⟩
      have n6_ : Aside0 (gC ≠ gA) := ⟨h6_⟩
      have n7_ : Aside0 (gB ≠ gC) := ⟨h7_⟩
      have n8_ : Aside0 (gC ≠ gB) := ⟨h8_⟩
      have n9_ : Aside0 (Below w.heap.size w w60) := ⟨h9_⟩
      clear KA
      clear KB
      clear HB
      clear h0_ h1_ h2_ h3_ h4_ h5_ h6_ h7_ h8_ h9_
      have KA := n0_
      have KB := n1_
      have KC := n2_
      have GWC := n3_
      have GEC := n4_
      have NAC := n5_
      have NCA := n6_
      have NBC := n7_
      have NCB := n8_
      have HB := n9_
      clear n0_ n1_ n2_ n3_ n4_ n5_ n6_ n7_ n8_ n9_
      have hHeld : w60.cell? ⟨gA, 0, none⟩ = some (.int .i64 a1_0) ∧ w60.cell? ⟨gA, 1, none⟩ = some (.int .i64 a1_1) ∧ w60.cell? ⟨gA, 2, none⟩ = some (.int .i64 a1_2) ∧ w60.cell? ⟨gA, 3, none⟩ = some (.int .i64 a1_3) ∧ w60.cell? ⟨gB, 0, none⟩ = some (.int .i64 a2_0) ∧ w60.cell? ⟨gB, 1, none⟩ = some (.int .i64 a2_1) ∧ w60.cell? ⟨gB, 2, none⟩ = some (.int .i64 a2_2) ∧ w60.cell? ⟨gB, 3, none⟩ = some (.int .i64 a2_3) := hS_
      refine norm_ (a' := ?_) ?_ ?_
      rotate_left
      ·simp only [putAll, Act.put, List.setIfInBounds_toArray, List.set_cons_zero, List.set_cons_succ]
       rfl
      refine one_ (i := 9) (N := some 9) #[true, true, true, true, true, true, true, true, true, true, false, false] rfl rfl (one_of HT_.out (by kernel_rfl)) (by decide) (fun K hK => ?_)
      refine box_step ?hg (N := 9) ?hd (cs := #[.int .i64 0, .int .i64 0, .int .i64 0, .int .i64 0]) (t := 32) ?hr ?_; (case hd => rfl); (case hg => rfl); (case hr => first | (go_simp; done) | (go_simp; rfl))
      intro gD hg w61 hbox hb
      have KD := Aside0.mk (hbox)
      have GWD := ge_ hg HB.out
      have GED := ge_ hg HB.out
      have NAD := nl_ hg KA
      have NDA := ng_ hg KA
      have NBD := nl_ hg KB
      have NDB := ng_ hg KB
      have NCD := nl_ hg KC
      have NDC := ng_ hg KC
      replace KA := bb_ KA hb
      replace KB := bb_ KB hb
      replace KC := bb_ KC hb
      replace HB := Aside0.mk (below_step HB.out hb)
      clear hb hbox hg
      refine hK.out _ _ ⟨(blk_cell KA.out 0).trans rfl, (blk_cell KA.out 1).trans rfl, (blk_cell KA.out 2).trans rfl, (blk_cell KA.out 3).trans rfl, (blk_cell KB.out 0).trans rfl, (blk_cell KB.out 1).trans rfl, (blk_cell KB.out 2).trans rfl, (blk_cell KB.out 3).trans rfl⟩ (fun hHeld => ?_)
      clear hK K
      refine norm_ (a' := ?_) ?_ ?_
      rotate_left
      ·show Act.put _ (some 9) _ = _
       refine ps ?_
       rfl
      exact norm_ pp (hJ3_7_8_9 (gC, gD) _ ⟨hHeld, KA.out, KB.out, KC.out, KD.out, GWC.out, GEC.out, NAC.out, NCA.out, NBC.out, NCB.out, NDC.out, NCD.out, GWD.out, GED.out, NAD.out, NDA.out, NBD.out, NDB.out, HB.out⟩)
    rintro ⟨gC, gD⟩ w61 ⟨hS_, h0_, h1_, h2_, h3_, h4_, h5_, h6_, h7_, h8_, h9_, h10_, h11_, h12_, h13_, h14_, h15_, h16_, h17_, h18_⟩
    have n0_ : Aside0 (w61.heap[gA]? = some (.cells #[.int .i64 a1_0, .int .i64 a1_1, .int .i64 a1_2, .int .i64 a1_3] 32 (0, 0))) := ⟨h0_⟩
    have n1_ : Aside0 (w61.heap[gB]? = some (.cells #[.int .i64 a2_0, .int .i64 a2_1, .int .i64 a2_2, .int .i64 a2_3] 32 (0, 0))) := ⟨h1_⟩
    have n2_ : Aside0 (w61.heap[gC]? = some (.cells #[.int .i64 0, .int .i64 0, .int .i64 0, .int .i64 0] 32 (0, 0))) := ⟨h2_⟩
    have n3_ : Aside0 (w61.heap[gD]? = some (.cells #[.int .i64 0, .int .i64 0, .int .i64 0, .int .i64 0] 32 (0, 0))) := ⟨h3_⟩
    have n4_ : Aside0 (w.heap.size ≤ gC) := ⟨h4_⟩
    have n5_ : Aside0 (w.heap.size ≤ gC) := ⟨h5_⟩
    have n6_ : Aside0 (gA ≠ gC) := ⟨h6_⟩
    have n7_ : Aside0 (gC ≠ gA) := ⟨h7_⟩
    have n8_ : Aside0 (gB ≠ gC) := ⟨h8_⟩
    have n9_ : Aside0 (gC ≠ gB) := ⟨h9_⟩
    have n10_ : Aside0 (gD ≠ gC) := ⟨h10_⟩
    have n11_ : Aside0 (gC ≠ gD) := ⟨h11_⟩
    have n12_ : Aside0 (w.heap.size ≤ gD) := ⟨h12_⟩
    have n13_ : Aside0 (w.heap.size ≤ gD) := ⟨h13_⟩
    have n14_ : Aside0 (gA ≠ gD) := ⟨h14_⟩
    have n15_ : Aside0 (gD ≠ gA) := ⟨h15_⟩
    have n16_ : Aside0 (gB ≠ gD) := ⟨h16_⟩
    have n17_ : Aside0 (gD ≠ gB) := ⟨h17_⟩
    have n18_ : Aside0 (Below w.heap.size w w61) := ⟨h18_⟩
    clear KA
    clear KB
    clear HB
    clear h0_ h1_ h2_ h3_ h4_ h5_ h6_ h7_ h8_ h9_ h10_ h11_ h12_ h13_ h14_ h15_ h16_ h17_ h18_
    have KA := n0_
    have KB := n1_
    have KC := n2_
    have KD := n3_
    have GWC := n4_
    have GEC := n5_
    have NAC := n6_
    have NCA := n7_
    have NBC := n8_
    have NCB := n9_
    have NDC := n10_
    have NCD := n11_
    have GWD := n12_
    have GED := n13_
    have NAD := n14_
    have NDA := n15_
    have NBD := n16_
    have NDB := n17_
    have HB := n18_
    clear n0_ n1_ n2_ n3_ n4_ n5_ n6_ n7_ n8_ n9_ n10_ n11_ n12_ n13_ n14_ n15_ n16_ n17_ n18_
    have hHeld : w61.cell? ⟨gA, 0, none⟩ = some (.int .i64 a1_0) ∧ w61.cell? ⟨gA, 1, none⟩ = some (.int .i64 a1_1) ∧ w61.cell? ⟨gA, 2, none⟩ = some (.int .i64 a1_2) ∧ w61.cell? ⟨gA, 3, none⟩ = some (.int .i64 a1_3) ∧ w61.cell? ⟨gB, 0, none⟩ = some (.int .i64 a2_0) ∧ w61.cell? ⟨gB, 1, none⟩ = some (.int .i64 a2_1) ∧ w61.cell? ⟨gB, 2, none⟩ = some (.int .i64 a2_2) ∧ w61.cell? ⟨gB, 3, none⟩ = some (.int .i64 a2_3) := hS_
    refine norm_ (a' := ?_) ?_ ?_
    rotate_left
    ·simp only [putAll, Act.put, List.setIfInBounds_toArray, List.set_cons_zero, List.set_cons_succ]
     rfl
    refine one_ (i := 10) (N := none) #[true, true, true, true, true, true, true, true, true, true, true, false] rfl rfl (one_of HT_.out (by kernel_rfl)) (by decide) (fun K hK => ?_)
    have hs62 := ci_ KC 0 (.int .i64 0)
    have hfs62 := blk_frozen KC.out 0
    have hns62_0 := NAC.out
    have hns62_1 := NBC.out
    have hns62_3 := NDC.out
    have hms62_0 := NCA.out
    have hms62_1 := NCB.out
    have hms62_3 := NCD.out
    have hs63 := ci_ KC 1 (.int .i64 0)
    have hfs63 := blk_frozen KC.out 1
    have hns63_0 := NAC.out
    have hns63_1 := NBC.out
    have hns63_3 := NDC.out
    have hms63_0 := NCA.out
    have hms63_1 := NCB.out
    have hms63_3 := NCD.out
    have hs64 := ci_ KC 2 (.int .i64 0)
    have hfs64 := blk_frozen KC.out 2
    have hns64_0 := NAC.out
    have hns64_1 := NBC.out
    have hns64_3 := NDC.out
    have hms64_0 := NCA.out
    have hms64_1 := NCB.out
    have hms64_3 := NCD.out
    have hs65 := ci_ KC 3 (.int .i64 0)
    have hfs65 := blk_frozen KC.out 3
    have hns65_0 := NAC.out
    have hns65_1 := NBC.out
    have hns65_3 := NDC.out
    have hms65_0 := NCA.out
    have hms65_1 := NCB.out
    have hms65_3 := NCD.out
    refine skip_ (w1 := ?_) (by rfl) rfl ?_ ?_
    rotate_left
    ·go_simp
     rfl
    refine hK.out _ _ ⟨((cell_far (p := ⟨gC, _, none⟩) NAC.out _).trans (((cell_far (p := ⟨gC, _, none⟩) NAC.out _).trans (((cell_far (p := ⟨gC, _, none⟩) NAC.out _).trans (((cell_far (p := ⟨gC, _, none⟩) NAC.out _).trans (hHeld.1)))))))), ((cell_far (p := ⟨gC, _, none⟩) NAC.out _).trans (((cell_far (p := ⟨gC, _, none⟩) NAC.out _).trans (((cell_far (p := ⟨gC, _, none⟩) NAC.out _).trans (((cell_far (p := ⟨gC, _, none⟩) NAC.out _).trans (hHeld.2.1)))))))), ((cell_far (p := ⟨gC, _, none⟩) NAC.out _).trans (((cell_far (p := ⟨gC, _, none⟩) NAC.out _).trans (((cell_far (p := ⟨gC, _, none⟩) NAC.out _).trans (((cell_far (p := ⟨gC, _, none⟩) NAC.out _).trans (hHeld.2.2.1)))))))), ((cell_far (p := ⟨gC, _, none⟩) NAC.out _).trans (((cell_far (p := ⟨gC, _, none⟩) NAC.out _).trans (((cell_far (p := ⟨gC, _, none⟩) NAC.out _).trans (((cell_far (p := ⟨gC, _, none⟩) NAC.out _).trans (hHeld.2.2.2.1)))))))), ((cell_far (p := ⟨gC, _, none⟩) NBC.out _).trans (((cell_far (p := ⟨gC, _, none⟩) NBC.out _).trans (((cell_far (p := ⟨gC, _, none⟩) NBC.out _).trans (((cell_far (p := ⟨gC, _, none⟩) NBC.out _).trans (hHeld.2.2.2.2.1)))))))), ((cell_far (p := ⟨gC, _, none⟩) NBC.out _).trans (((cell_far (p := ⟨gC, _, none⟩) NBC.out _).trans (((cell_far (p := ⟨gC, _, none⟩) NBC.out _).trans (((cell_far (p := ⟨gC, _, none⟩) NBC.out _).trans (hHeld.2.2.2.2.2.1)))))))), ((cell_far (p := ⟨gC, _, none⟩) NBC.out _).trans (((cell_far (p := ⟨gC, _, none⟩) NBC.out _).trans (((cell_far (p := ⟨gC, _, none⟩) NBC.out _).trans (((cell_far (p := ⟨gC, _, none⟩) NBC.out _).trans (hHeld.2.2.2.2.2.2.1)))))))), ((cell_far (p := ⟨gC, _, none⟩) NBC.out _).trans (((cell_far (p := ⟨gC, _, none⟩) NBC.out _).trans (((cell_far (p := ⟨gC, _, none⟩) NBC.out _).trans (((cell_far (p := ⟨gC, _, none⟩) NBC.out _).trans (hHeld.2.2.2.2.2.2.2))))))))⟩ (fun hHeld => ?_)
    clear hK K
    refine one_ (i := 11) (N := none) #[true, true, true, true, true, true, true, true, true, true, true, true] rfl rfl (one_of HT_.out (by kernel_rfl)) (by decide) (fun K hK => ?_)
    have hs66 := ci_ KD 0 (.int .i64 0)
    have hfs66 := blk_frozen KD.out 0
    have hns66_0 := NAD.out
    have hns66_1 := NBD.out
    have hns66_2 := NCD.out
    have hms66_0 := NDA.out
    have hms66_1 := NDB.out
    have hms66_2 := NDC.out
    have hs67 := ci_ KD 1 (.int .i64 0)
    have hfs67 := blk_frozen KD.out 1
    have hns67_0 := NAD.out
    have hns67_1 := NBD.out
    have hns67_2 := NCD.out
    have hms67_0 := NDA.out
    have hms67_1 := NDB.out
    have hms67_2 := NDC.out
    have hs68 := ci_ KD 2 (.int .i64 0)
    have hfs68 := blk_frozen KD.out 2
    have hns68_0 := NAD.out
    have hns68_1 := NBD.out
    have hns68_2 := NCD.out
    have hms68_0 := NDA.out
    have hms68_1 := NDB.out
    have hms68_2 := NDC.out
    have hs69 := ci_ KD 3 (.int .i64 0)
    have hfs69 := blk_frozen KD.out 3
    have hns69_0 := NAD.out
    have hns69_1 := NBD.out
    have hns69_2 := NCD.out
    have hms69_0 := NDA.out
    have hms69_1 := NDB.out
    have hms69_2 := NDC.out
    refine skip_ (w1 := ?_) (by rfl) rfl ?_ ?_
    rotate_left
    ·go_simp
     rfl
    refine hK.out _ _ ⟨((cell_far (p := ⟨gD, _, none⟩) NAD.out _).trans (((cell_far (p := ⟨gD, _, none⟩) NAD.out _).trans (((cell_far (p := ⟨gD, _, none⟩) NAD.out _).trans (((cell_far (p := ⟨gD, _, none⟩) NAD.out _).trans (hHeld.1)))))))), ((cell_far (p := ⟨gD, _, none⟩) NAD.out _).trans (((cell_far (p := ⟨gD, _, none⟩) NAD.out _).trans (((cell_far (p := ⟨gD, _, none⟩) NAD.out _).trans (((cell_far (p := ⟨gD, _, none⟩) NAD.out _).trans (hHeld.2.1)))))))), ((cell_far (p := ⟨gD, _, none⟩) NAD.out _).trans (((cell_far (p := ⟨gD, _, none⟩) NAD.out _).trans (((cell_far (p := ⟨gD, _, none⟩) NAD.out _).trans (((cell_far (p := ⟨gD, _, none⟩) NAD.out _).trans (hHeld.2.2.1)))))))), ((cell_far (p := ⟨gD, _, none⟩) NAD.out _).trans (((cell_far (p := ⟨gD, _, none⟩) NAD.out _).trans (((cell_far (p := ⟨gD, _, none⟩) NAD.out _).trans (((cell_far (p := ⟨gD, _, none⟩) NAD.out _).trans (hHeld.2.2.2.1)))))))), ((cell_far (p := ⟨gD, _, none⟩) NBD.out _).trans (((cell_far (p := ⟨gD, _, none⟩) NBD.out _).trans (((cell_far (p := ⟨gD, _, none⟩) NBD.out _).trans (((cell_far (p := ⟨gD, _, none⟩) NBD.out _).trans (hHeld.2.2.2.2.1)))))))), ((cell_far (p := ⟨gD, _, none⟩) NBD.out _).trans (((cell_far (p := ⟨gD, _, none⟩) NBD.out _).trans (((cell_far (p := ⟨gD, _, none⟩) NBD.out _).trans (((cell_far (p := ⟨gD, _, none⟩) NBD.out _).trans (hHeld.2.2.2.2.2.1)))))))), ((cell_far (p := ⟨gD, _, none⟩) NBD.out _).trans (((cell_far (p := ⟨gD, _, none⟩) NBD.out _).trans (((cell_far (p := ⟨gD, _, none⟩) NBD.out _).trans (((cell_far (p := ⟨gD, _, none⟩) NBD.out _).trans (hHeld.2.2.2.2.2.2.1)))))))), ((cell_far (p := ⟨gD, _, none⟩) NBD.out _).trans (((cell_far (p := ⟨gD, _, none⟩) NBD.out _).trans (((cell_far (p := ⟨gD, _, none⟩) NBD.out _).trans (((cell_far (p := ⟨gD, _, none⟩) NBD.out _).trans (hHeld.2.2.2.2.2.2.2))))))))⟩ (fun hHeld => ?_)
    clear hK K
    refine done_ (done_of HT_.out (by kernel_rfl)) ?_
    have hnb70 := NCA.out
    have hnc70 := NAC.out
    have hnb71 := NCB.out
    have hnc71 := NBC.out
    have hnb72 := NCD.out
    have hnc72 := NDC.out
    have hcz73_0 := ci_ KC 0 (.int .i64 0)
    have hcz73_1 := ci_ KC 1 (.int .i64 0)
    have hcz73_2 := ci_ KC 2 (.int .i64 0)
    have hcz73_3 := ci_ KC 3 (.int .i64 0)
    have hfz73_0 := blk_frozen KC.out 0
    have hfz73_1 := blk_frozen KC.out 1
    have hfz73_2 := blk_frozen KC.out 2
    have hfz73_3 := blk_frozen KC.out 3
    try go_wp2_with (first | (go_at_call 29; (with_reducible refine (imageeditorref06_Valid.calls t548 t549 t550 t551 true _ A9.out).mono ?_); rintro e w74 ⟨rfl, hb⟩; have c0_ := co_ (g := gA) (o := .cells #[.int .i64 a1_0, .int .i64 a1_1, .int .i64 a1_2, .int .i64 a1_3] 32 (0, 0)) hb (by refine pf ?_ NAD.out; refine pf ?_ NAC.out; refine pl ?_; exact KA.out); have c1_ := co_ (g := gB) (o := .cells #[.int .i64 a2_0, .int .i64 a2_1, .int .i64 a2_2, .int .i64 a2_3] 32 (0, 0)) hb (by refine pf ?_ NBD.out; refine pf ?_ NBC.out; refine pl ?_; exact KB.out); have c2_ := co_ (g := gC) (o := .cells #[.int .i64 t548, .int .i64 t549, .int .i64 t550, .int .i64 t551] 32 (0, 0)) hb (by refine pf ?_ NCD.out; refine pl ?_; refine blk_put (cs := #[.int .i64 t548, .int .i64 t549, .int .i64 t550, .int .i64 0]) ?_ 3 _ rfl; refine pl ?_; refine blk_put (cs := #[.int .i64 t548, .int .i64 t549, .int .i64 0, .int .i64 0]) ?_ 2 _ rfl; refine pl ?_; refine blk_put (cs := #[.int .i64 t548, .int .i64 0, .int .i64 0, .int .i64 0]) ?_ 1 _ rfl; refine pl ?_; refine blk_put (cs := #[.int .i64 0, .int .i64 0, .int .i64 0, .int .i64 0]) ?_ 0 _ rfl; refine pl ?_; exact KC.out); have c3_ := co_ (g := gD) (o := .cells #[.int .i64 t552, .int .i64 t553, .int .i64 t554, .int .i64 t555] 32 (0, 0)) hb (by refine pl ?_; refine blk_put (cs := #[.int .i64 t552, .int .i64 t553, .int .i64 t554, .int .i64 0]) ?_ 3 _ rfl; refine pl ?_; refine blk_put (cs := #[.int .i64 t552, .int .i64 t553, .int .i64 0, .int .i64 0]) ?_ 2 _ rfl; refine pl ?_; refine blk_put (cs := #[.int .i64 t552, .int .i64 0, .int .i64 0, .int .i64 0]) ?_ 1 _ rfl; refine pl ?_; refine blk_put (cs := #[.int .i64 0, .int .i64 0, .int .i64 0, .int .i64 0]) ?_ 0 _ rfl; refine pf ?_ NDC.out; refine pl ?_; exact KD.out); replace KA := bb_ c0_ hb; replace KB := bb_ c1_ hb; replace KC := bb_ c2_ hb; replace KD := bb_ c3_ hb; replace HB := Aside0.mk (below_step (by repeat (first | (with_reducible first | exact HB.out | apply below_alloc | apply pw_below_drewN | apply below_drew1 | refine below_set ?_ GEA.out | refine below_set ?_ GEB.out | refine below_set ?_ GEC.out | refine below_set ?_ GED.out) | exact HB.out)) hb); clear c0_ c1_ c2_ c3_; (try clear hb); (try clear hb2); (try clear hk); (try clear hi); have hcz75_0 := ci_ KC 0 (.int .i64 t548); have hcz75_1 := ci_ KC 1 (.int .i64 t549); have hcz75_2 := ci_ KC 2 (.int .i64 t550); have hcz75_3 := ci_ KC 3 (.int .i64 t551); have hfz75_0 := blk_frozen KC.out 0; have hfz75_1 := blk_frozen KC.out 1; have hfz75_2 := blk_frozen KC.out 2; have hfz75_3 := blk_frozen KC.out 3; have hnb76 := NDA.out; have hnc76 := NAD.out; have hnb77 := NDB.out; have hnc77 := NBD.out; have hcz78_0 := ci_ KD 0 (.int .i64 t552); have hcz78_1 := ci_ KD 1 (.int .i64 t553); have hcz78_2 := ci_ KD 2 (.int .i64 t554); have hcz78_3 := ci_ KD 3 (.int .i64 t555); have hfz78_0 := blk_frozen KD.out 0; have hfz78_1 := blk_frozen KD.out 1; have hfz78_2 := blk_frozen KD.out 2; have hfz78_3 := blk_frozen KD.out 3) | (go_at_call 29; (with_reducible refine (imageeditorref06_Valid.calls t552 t553 t554 t555 true _ A12.out).mono ?_); rintro e w79 ⟨rfl, hb⟩; replace KA := bp_ KA hb; replace KB := bp_ KB hb; replace KC := bp_ KC hb; replace KD := bp_ KD hb; replace HB := Aside0.mk (below_step (by repeat (first | (with_reducible first | exact HB.out | apply below_alloc | apply pw_below_drewN | apply below_drew1 | refine below_set ?_ GEA.out | refine below_set ?_ GEB.out | refine below_set ?_ GEC.out | refine below_set ?_ GED.out) | exact HB.out)) hb); (try clear hb); (try clear hb2); (try clear hk); (try clear hi); have hcz80_0 := ci_ KD 0 (.int .i64 t552); have hcz80_1 := ci_ KD 1 (.int .i64 t553); have hcz80_2 := ci_ KD 2 (.int .i64 t554); have hcz80_3 := ci_ KD 3 (.int .i64 t555); have hfz80_0 := blk_frozen KD.out 0; have hfz80_1 := blk_frozen KD.out 1; have hfz80_2 := blk_frozen KD.out 2; have hfz80_3 := blk_frozen KD.out 3) | (go_at_call 13; (with_reducible refine (imageeditorlaw10_example.calls k  t561 _ A49.out).mono ?_); rintro e w81 ⟨rfl, hb⟩; replace KA := bp_ KA hb; replace KB := bp_ KB hb; replace KC := bp_ KC hb; replace KD := bp_ KD hb; replace HB := Aside0.mk (below_step (by repeat (first | (with_reducible first | exact HB.out | apply below_alloc | apply pw_below_drewN | apply below_drew1 | refine below_set ?_ GEA.out | refine below_set ?_ GEB.out | refine below_set ?_ GEC.out | refine below_set ?_ GED.out) | exact HB.out)) hb); (try clear hb); (try clear hb2); (try clear hk); (try clear hi)))
    go_ret
    exact ⟨by first | rfl | (simp [errW_none, errW_some] <;> rfl) | (simp [*, errW_none, errW_some] <;> rfl), by repeat (first | (with_reducible first | exact HB.out | apply below_alloc | apply pw_below_drewN | apply below_drew1 | refine below_set ?_ GEA.out | refine below_set ?_ GEB.out | refine below_set ?_ GEC.out | refine below_set ?_ GED.out) | exact HB.out)⟩
  ·replace c13 := Bool.eq_false_iff.mpr c13
   subst c13
   have H1 : (none) = some r := by rw [if_neg (show ¬ (false = true) by decide)] at H; exact H
   clear H
   have H := H1
   clear H1
   exact absurd H (by simp)
 ·replace c10 := Bool.eq_false_iff.mpr c10
  subst c10
  have H1 : (none) = some r := by rw [if_neg (show ¬ (false = true) by decide)] at H; exact H
  clear H
  have H := H1
  clear H1
  exact absurd H (by simp)
end Go.Proofs.Ytnijapaaickifaa.Q
