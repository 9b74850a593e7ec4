-- Written for this claim by a program of this session (handprint.py) that drives the kit's print. Not trusted: Lean checks it.
import Derived.Test.YtnijapaaickifaaI0
import Derived.Test.YtnijapaaickifaaI16
namespace Go.Proofs.Ytnijapaaickifaa.I
open Go.RowKit Go.Proofs.YtnijapaaickifaaW.PrintWords Go.Proofs.YtnijapaaickifaaW.PrintLast
attribute [local go_sem] max2_int min2_int max_two min_two max_three min_three max_four min_four
set_option linter.unusedVariables false
set_option linter.unusedSimpArgs false

/-! ### imageeditorref10_Valid: function 19 -/
def imageeditorref10_Valid.f (a0 : Int) : Option (Bool) := if a0 ≥ 0 then (some (decide (a0 ≤ 17))) else (some false)
set_option maxHeartbeats 8000000 in
set_option maxRecDepth 100000 in
theorem imageeditorref10_Valid.calls (a0 : Int) (r : Bool) (w : World) (h : imageeditorref10_Valid.f a0 = some r) :
    Calls Try.prog 19 #[.int .i64 a0] w fun e w' => e = .returned (.bool r) ∧ Drawn0 w w' := by
 have H : (if a0 ≥ 0 then (some (decide (a0 ≤ 17))) else (some false)) = some r := h
 clear h
 by_cases c2 : a0 ≥ 0
 ·rw [if_pos c2] at H
  have c2b0 : decide (0 ≤ a0) = true := decide_eq_true c2
  clear c2
  obtain rfl := Option.some.inj H
  go_enter Try.func19, Try.ntmps19
  go_wp2
  go_ret
  exact ⟨by first | rfl | (simp; done) | (simp [*]; done), by repeat (first | exact Drawn0.refl _ | apply Drawn0.step)⟩
 ·rw [if_neg c2] at H
  have c2b0 : decide (0 ≤ a0) = false := decide_eq_false c2
  clear c2
  obtain rfl := Option.some.inj H
  go_enter Try.func19, Try.ntmps19
  go_wp2
  go_ret
  exact ⟨by first | rfl | (simp; done) | (simp [*]; done), by repeat (first | exact Drawn0.refl _ | apply Drawn0.step)⟩

/-! ### imageeditorref01_Unit: function 31 -/
def imageeditorref01_Unit.f (a0 : Int) : Option (Int) := (imageeditorref01_Clamp.f a0 0 65535).bind fun t342 => (some t342)
set_option maxHeartbeats 8000000 in
set_option maxRecDepth 100000 in
theorem imageeditorref01_Unit.calls (a0 : Int) (r : Int) (w : World) (h : imageeditorref01_Unit.f a0 = some r) :
    Calls Try.prog 31 #[.int .i64 a0] w fun e w' => e = .returned (.int .i64 r) ∧ Below w.heap.size w w' := by
 have HB := Aside0.mk (Below.refl w.heap.size w)
 have H : ((imageeditorref01_Clamp.f a0 0 65535).bind fun t342 => (some t342)) = some r := h
 clear h
 replace H := Option.bind_eq_some_iff.mp H
 obtain ⟨t342, A20, H⟩ := H
 replace H : (some t342) = some r := H
 have A2 := Aside0.mk A20
 clear A20
 obtain rfl := Option.some.inj H
 go_enter Try.func31, Try.ntmps31
 go_wp2_with (first | ((with_reducible refine gate_callee (f := 60) rfl ?_); refine goesL_ (some 4) rfl rfl Try.func60 (by kernel_rfl) rfl #[.int .i64 a0, .int .i64 0, .int .i64 65535] rfl pm ?_; (with_reducible refine (imageeditorref01_Clamp.calls a0 0 65535 t342 _ A2.out).mono ?_); rintro e w3 ⟨rfl, hb⟩; refine ⟨_, rfl, ?_⟩; replace HB := Aside0.mk (below_step (pb HB.out) hb); (try clear hb); (try clear hb2); (try clear hk); (try clear hi)))
 go_ret
 exact ⟨by first | rfl | (simp [errW_none, errW_some] <;> rfl) | (simp [*, errW_none, errW_some] <;> rfl), pb HB.out⟩

/-! ### imageeditorref01_Mul: function 44 -/
def imageeditorref01_Mul.f (k : Nat) (a0 : Int) (a1 : Int) : Option (Int) := (imageeditorref01_Unit.f a0).bind fun t343 => ((imageeditorref01_Unit.f a1).bind fun t344 => ((imageeditorref01_Div.f k (wrap64 (t343 * t344)) 65535).bind fun t345 => (some t345)))
theorem imageeditorref01_Mul.mono : ∀ a0 a1 k, LeO (imageeditorref01_Mul.f k a0 a1) (imageeditorref01_Mul.f (k + 1) a0 a1) := by
  intro a0 a1 k
  unfold imageeditorref01_Mul.f
  repeat' first
      | (with_reducible exact imageeditorref01_Div.mono _ _ _)
      | (with_reducible exact LeO.refl _)
      | (with_reducible exact LeO.none _)
      | (with_reducible refine LeO.ite ?_ ?_)
      | (with_reducible refine LeO.bind ?_ (fun _ => ?_))
      | exact imageeditorref01_Div.mono _ _ _
      | exact LeO.none _
      | refine LeO.ite ?_ ?_
      | refine LeO.bind ?_ (fun _ => ?_)
set_option maxHeartbeats 8000000 in
set_option maxRecDepth 100000 in
theorem imageeditorref01_Mul.calls (k : Nat) (a0 : Int) (a1 : Int) (r : Int) (w : World) (h : imageeditorref01_Mul.f k a0 a1 = some r) :
    Calls Try.prog 44 #[.int .i64 a0, .int .i64 a1] w fun e w' => e = .returned (.int .i64 r) ∧ Below w.heap.size w w' := by
 have HB := Aside0.mk (Below.refl w.heap.size w)
 have H : ((imageeditorref01_Unit.f a0).bind fun t343 => ((imageeditorref01_Unit.f a1).bind fun t344 => ((imageeditorref01_Div.f k (wrap64 (t343 * t344)) 65535).bind fun t345 => (some t345)))) = some r := h
 clear h
 replace H := Option.bind_eq_some_iff.mp H
 obtain ⟨t343, A30, H⟩ := H
 replace H : ((imageeditorref01_Unit.f a1).bind fun t344 => ((imageeditorref01_Div.f k (wrap64 (t343 * t344)) 65535).bind fun t345 => (some t345))) = some r := H
 have A3 := Aside0.mk A30
 clear A30
 replace H := Option.bind_eq_some_iff.mp H
 obtain ⟨t344, A40, H⟩ := H
 replace H : ((imageeditorref01_Div.f k (wrap64 (t343 * t344)) 65535).bind fun t345 => (some t345)) = some r := H
 have A4 := Aside0.mk A40
 clear A40
 replace H := Option.bind_eq_some_iff.mp H
 obtain ⟨t345, A50, H⟩ := H
 replace H : (some t345) = some r := H
 have A5 := Aside0.mk A50
 clear A50
 obtain rfl := Option.some.inj H
 go_enter Try.func44, Try.ntmps44
 go_wp2_with (first | ((with_reducible refine gate_callee (f := 31) rfl ?_); refine goesL_ (some 6) rfl rfl Try.func31 (by kernel_rfl) rfl #[.int .i64 a0] rfl pm ?_; (with_reducible refine (imageeditorref01_Unit.calls a0 t343 _ A3.out).mono ?_); rintro e w6 ⟨rfl, hb⟩; refine ⟨_, rfl, ?_⟩; replace HB := Aside0.mk (below_step (pb HB.out) hb); (try clear hb); (try clear hb2); (try clear hk); (try clear hi)) | ((with_reducible refine gate_callee (f := 31) rfl ?_); refine goesL_ (some 8) rfl rfl Try.func31 (by kernel_rfl) rfl #[.int .i64 a1] rfl pm ?_; (with_reducible refine (imageeditorref01_Unit.calls a1 t344 _ A4.out).mono ?_); rintro e w7 ⟨rfl, hb⟩; refine ⟨_, rfl, ?_⟩; replace HB := Aside0.mk (below_step (pb HB.out) hb); (try clear hb); (try clear hb2); (try clear hk); (try clear hi)) | ((with_reducible refine gate_callee (f := 38) rfl ?_); refine goesL_ (some 10) rfl rfl Try.func38 (by kernel_rfl) rfl #[.int .i64 (wrap64 (t343 * t344)), .int .i64 65535] rfl pm ?_; (with_reducible refine (imageeditorref01_Div.calls k (wrap64 (t343 * t344)) 65535 t345 _ A5.out).mono ?_); rintro e w' ⟨rfl, ⟨nd, rfl⟩⟩; refine ⟨_, rfl, ?_⟩))
 go_ret
 exact ⟨by first | rfl | (simp [errW_none, errW_some] <;> rfl) | (simp [*, errW_none, errW_some] <;> rfl), pb HB.out⟩

/-! ### imageeditorref10_screen: function 45 -/
def imageeditorref10_screen.f (k : Nat) (a0 : Int) (a1 : Int) : Option (Int) := (imageeditorref01_Mul.f k a0 a1).bind fun t346 => (some (wrap64 ((wrap64 (a0 + a1)) - t346)))
theorem imageeditorref10_screen.mono : ∀ a0 a1 k, LeO (imageeditorref10_screen.f k a0 a1) (imageeditorref10_screen.f (k + 1) a0 a1) := by
  intro a0 a1 k
  unfold imageeditorref10_screen.f
  repeat' first
      | (with_reducible exact imageeditorref01_Mul.mono _ _ _)
      | (with_reducible exact LeO.refl _)
      | (with_reducible exact LeO.none _)
      | (with_reducible refine LeO.ite ?_ ?_)
      | (with_reducible refine LeO.bind ?_ (fun _ => ?_))
      | exact imageeditorref01_Mul.mono _ _ _
      | exact LeO.none _
      | refine LeO.ite ?_ ?_
      | refine LeO.bind ?_ (fun _ => ?_)
set_option maxHeartbeats 8000000 in
set_option maxRecDepth 100000 in
theorem imageeditorref10_screen.calls (k : Nat) (a0 : Int) (a1 : Int) (r : Int) (w : World) (h : imageeditorref10_screen.f k a0 a1 = some r) :
    Calls Try.prog 45 #[.int .i64 a0, .int .i64 a1] w fun e w' => e = .returned (.int .i64 r) ∧ Below w.heap.size w w' := by
 have HB := Aside0.mk (Below.refl w.heap.size w)
 have H : ((imageeditorref01_Mul.f k a0 a1).bind fun t346 => (some (wrap64 ((wrap64 (a0 + a1)) - t346)))) = some r := h
 clear h
 replace H := Option.bind_eq_some_iff.mp H
 obtain ⟨t346, A30, H⟩ := H
 replace H : (some (wrap64 ((wrap64 (a0 + a1)) - t346))) = some r := H
 have A3 := Aside0.mk A30
 clear A30
 obtain rfl := Option.some.inj H
 go_enter Try.func45, Try.ntmps45
 go_wp2_with (first | ((with_reducible refine gate_callee (f := 44) rfl ?_); refine goesL_ (some 10) rfl rfl Try.func44 (by kernel_rfl) rfl #[.int .i64 a0, .int .i64 a1] rfl pm ?_; (with_reducible refine (imageeditorref01_Mul.calls k a0 a1 t346 _ A3.out).mono ?_); rintro e w4 ⟨rfl, hb⟩; refine ⟨_, rfl, ?_⟩; replace HB := Aside0.mk (below_step (pb HB.out) hb); (try clear hb); (try clear hb2); (try clear hk); (try clear hi)))
 go_ret
 exact ⟨by first | rfl | (simp [errW_none, errW_some] <;> rfl) | (simp [*, errW_none, errW_some] <;> rfl), pb HB.out⟩

/-! ### imageeditorref10_hard: function 46 -/
def imageeditorref10_hard.f (k : Nat) (a0 : Int) (a1 : Int) : Option (Int) := if (wrap64 (2 * a1)) ≤ 65535 then ((imageeditorref01_Mul.f k a0 (wrap64 (2 * a1))).bind fun t347 => (some t347)) else ((imageeditorref10_screen.f k a0 (wrap64 ((wrap64 (2 * a1)) - 65535))).bind fun t348 => (some t348))
theorem imageeditorref10_hard.mono : ∀ a0 a1 k, LeO (imageeditorref10_hard.f k a0 a1) (imageeditorref10_hard.f (k + 1) a0 a1) := by
  intro a0 a1 k
  unfold imageeditorref10_hard.f
  repeat' first
      | (with_reducible exact imageeditorref01_Mul.mono _ _ _)
      | (with_reducible exact imageeditorref10_screen.mono _ _ _)
      | (with_reducible exact LeO.refl _)
      | (with_reducible exact LeO.none _)
      | (with_reducible refine LeO.ite ?_ ?_)
      | (with_reducible refine LeO.bind ?_ (fun _ => ?_))
      | exact imageeditorref01_Mul.mono _ _ _
      | exact imageeditorref10_screen.mono _ _ _
      | exact LeO.none _
      | refine LeO.ite ?_ ?_
      | refine LeO.bind ?_ (fun _ => ?_)
set_option maxHeartbeats 8000000 in
set_option maxRecDepth 100000 in
theorem imageeditorref10_hard.calls (k : Nat) (a0 : Int) (a1 : Int) (r : Int) (w : World) (h : imageeditorref10_hard.f k a0 a1 = some r) :
    Calls Try.prog 46 #[.int .i64 a0, .int .i64 a1] w fun e w' => e = .returned (.int .i64 r) ∧ Below w.heap.size w w' := by
 have HB := Aside0.mk (Below.refl w.heap.size w)
 have H : (if (wrap64 (2 * a1)) ≤ 65535 then ((imageeditorref01_Mul.f k a0 (wrap64 (2 * a1))).bind fun t347 => (some t347)) else ((imageeditorref10_screen.f k a0 (wrap64 ((wrap64 (2 * a1)) - 65535))).bind fun t348 => (some t348))) = some r := h
 clear h
 by_cases c3 : (wrap64 (2 * a1)) ≤ 65535
 ·rw [if_pos c3] at H
  have c3b0 : decide ((wrap64 (2 * a1)) ≤ 65535) = true := decide_eq_true c3
  clear c3
  replace H := Option.bind_eq_some_iff.mp H
  obtain ⟨t347, A40, H⟩ := H
  replace H : (some t347) = some r := H
  have A4 := Aside0.mk A40
  clear A40
  obtain rfl := Option.some.inj H
  go_enter Try.func46, Try.ntmps46
  go_wp2_with (first | ((with_reducible refine gate_callee (f := 44) rfl ?_); refine goesL_ (some 11) rfl rfl Try.func44 (by kernel_rfl) rfl #[.int .i64 a0, .int .i64 (wrap64 (2 * a1))] rfl pm ?_; (with_reducible refine (imageeditorref01_Mul.calls k a0 (wrap64 (2 * a1)) t347 _ A4.out).mono ?_); rintro e w5 ⟨rfl, hb⟩; refine ⟨_, rfl, ?_⟩; replace HB := Aside0.mk (below_step (pb HB.out) hb); (try clear hb); (try clear hb2); (try clear hk); (try clear hi)))
  go_ret
  exact ⟨by first | rfl | (simp [errW_none, errW_some] <;> rfl) | (simp [*, errW_none, errW_some] <;> rfl), pb HB.out⟩
 ·rw [if_neg c3] at H
  have c3b0 : decide ((wrap64 (2 * a1)) ≤ 65535) = false := decide_eq_false c3
  clear c3
  replace H := Option.bind_eq_some_iff.mp H
  obtain ⟨t348, A60, H⟩ := H
  replace H : (some t348) = some r := H
  have A6 := Aside0.mk A60
  clear A60
  obtain rfl := Option.some.inj H
  go_enter Try.func46, Try.ntmps46
  go_wp2_with (first | ((with_reducible refine gate_callee (f := 45) rfl ?_); refine goesL_ (some 16) rfl rfl Try.func45 (by kernel_rfl) rfl #[.int .i64 a0, .int .i64 (wrap64 ((wrap64 (2 * a1)) - 65535))] rfl pm ?_; (with_reducible refine (imageeditorref10_screen.calls k a0 (wrap64 ((wrap64 (2 * a1)) - 65535)) t348 _ A6.out).mono ?_); rintro e w7 ⟨rfl, hb⟩; refine ⟨_, rfl, ?_⟩; replace HB := Aside0.mk (below_step (pb HB.out) hb); (try clear hb); (try clear hb2); (try clear hk); (try clear hi)))
  go_ret
  exact ⟨by first | rfl | (simp [errW_none, errW_some] <;> rfl) | (simp [*, errW_none, errW_some] <;> rfl), pb HB.out⟩

/-! ### imageeditorref01_Quo: function 79 -/
def imageeditorref01_Quo.f (k : Nat) (a0 : Int) (a1 : Int) : Option (Int) := (imageeditorref01_Unit.f a1).bind fun t349 => (if t349 = 0 then (some 0) else ((imageeditorref01_Unit.f a0).bind fun t350 => ((imageeditorref01_Unit.f a1).bind fun t351 => ((imageeditorref01_Div.f k (wrap64 (t350 * 65535)) t351).bind fun t352 => (some (mn 65535 t352))))))
theorem imageeditorref01_Quo.mono : ∀ a0 a1 k, LeO (imageeditorref01_Quo.f k a0 a1) (imageeditorref01_Quo.f (k + 1) a0 a1) := by
  intro a0 a1 k
  unfold imageeditorref01_Quo.f
  repeat' first
      | (with_reducible exact imageeditorref01_Div.mono _ _ _)
      | (with_reducible exact LeO.refl _)
      | (with_reducible exact LeO.none _)
      | (with_reducible refine LeO.ite ?_ ?_)
      | (with_reducible refine LeO.bind ?_ (fun _ => ?_))
      | exact imageeditorref01_Div.mono _ _ _
      | exact LeO.none _
      | refine LeO.ite ?_ ?_
      | refine LeO.bind ?_ (fun _ => ?_)
set_option maxHeartbeats 8000000 in
set_option maxRecDepth 100000 in
theorem imageeditorref01_Quo.calls (k : Nat) (a0 : Int) (a1 : Int) (r : Int) (w : World) (h : imageeditorref01_Quo.f k a0 a1 = some r) :
    Calls Try.prog 79 #[.int .i64 a0, .int .i64 a1] w fun e w' => e = .returned (.int .i64 r) ∧ Below w.heap.size w w' := by
 have HB := Aside0.mk (Below.refl w.heap.size w)
 have H : ((imageeditorref01_Unit.f a1).bind fun t349 => (if t349 = 0 then (some 0) else ((imageeditorref01_Unit.f a0).bind fun t350 => ((imageeditorref01_Unit.f a1).bind fun t351 => ((imageeditorref01_Div.f k (wrap64 (t350 * 65535)) t351).bind fun t352 => (some (mn 65535 t352))))))) = some r := h
 clear h
 replace H := Option.bind_eq_some_iff.mp H
 obtain ⟨t349, A30, H⟩ := H
 replace H : (if t349 = 0 then (some 0) else ((imageeditorref01_Unit.f a0).bind fun t350 => ((imageeditorref01_Unit.f a1).bind fun t351 => ((imageeditorref01_Div.f k (wrap64 (t350 * 65535)) t351).bind fun t352 => (some (mn 65535 t352)))))) = some r := H
 have A3 := Aside0.mk A30
 clear A30
 by_cases c4 : t349 = 0
 ·rw [if_pos c4] at H
  have c4b0 : (t349 == 0) = true := beq_iff_eq.mpr c4
  have c4b1 : (t349 != 0) = false := bne_eq_false_iff_eq.mpr c4
  clear c4
  obtain rfl := Option.some.inj H
  go_enter Try.func79, Try.ntmps79
  go_wp2_with (first | ((with_reducible refine gate_callee (f := 31) rfl ?_); refine goesL_ (some 6) rfl rfl Try.func31 (by kernel_rfl) rfl #[.int .i64 a1] rfl pm ?_; (with_reducible refine (imageeditorref01_Unit.calls a1 t349 _ A3.out).mono ?_); rintro e w5 ⟨rfl, hb⟩; refine ⟨_, rfl, ?_⟩; replace HB := Aside0.mk (below_step (pb HB.out) hb); (try clear hb); (try clear hb2); (try clear hk); (try clear hi)))
  go_ret
  exact ⟨by first | rfl | (simp [errW_none, errW_some] <;> rfl) | (simp [*, errW_none, errW_some] <;> rfl), pb HB.out⟩
 ·rw [if_neg c4] at H
  have c4b0 : (t349 == 0) = false := beq_eq_false_iff_ne.mpr c4
  have c4b1 : (t349 != 0) = true := bne_iff_ne.mpr c4
  replace H := Option.bind_eq_some_iff.mp H
  obtain ⟨t350, A60, H⟩ := H
  replace H : ((imageeditorref01_Unit.f a1).bind fun t351 => ((imageeditorref01_Div.f k (wrap64 (t350 * 65535)) t351).bind fun t352 => (some (mn 65535 t352)))) = some r := H
  have A6 := Aside0.mk A60
  clear A60
  replace H := Option.bind_eq_some_iff.mp H
  obtain ⟨t351, A70, H⟩ := H
  replace H : ((imageeditorref01_Div.f k (wrap64 (t350 * 65535)) t351).bind fun t352 => (some (mn 65535 t352))) = some r := H
  have A7 := Aside0.mk A70
  clear A70
  replace H := Option.bind_eq_some_iff.mp H
  obtain ⟨t352, A80, H⟩ := H
  replace H : (some (mn 65535 t352)) = some r := H
  have A8 := Aside0.mk A80
  clear A80
  obtain ⟨ji9, hji9⟩ : ∃ j_ : Int, (mn 65535 t352) = j_ := ⟨_, rfl⟩
  replace H : (some ji9) = some r := by first | (rw [hji9] at H; exact H) | (simp only [hji9] at H ⊢; exact H)
  (try rw [hji9] at A3)
  (try rw [hji9] at A6)
  (try rw [hji9] at A7)
  (try rw [hji9] at A8)
  (try (have hji9h : ji9 ≤ 65535 := by (rw [← hji9]; unfold mn; (repeat' split) <;> omega)))
  (try (have hji9g : ji9 ≤ 64 := by omega))
  have hji9_ : (if t352 < 65535 then t352 else 65535) = ji9 := hji9
  obtain rfl := Option.some.inj H
  go_enter Try.func79, Try.ntmps79
  go_wp2_with (first | ((with_reducible refine gate_callee (f := 31) rfl ?_); refine goesL_ (some 6) rfl rfl Try.func31 (by kernel_rfl) rfl #[.int .i64 a1] rfl pm ?_; (with_reducible refine (imageeditorref01_Unit.calls a1 t349 _ A3.out).mono ?_); rintro e w10 ⟨rfl, hb⟩; refine ⟨_, rfl, ?_⟩; replace HB := Aside0.mk (below_step (pb HB.out) hb); (try clear hb); (try clear hb2); (try clear hk); (try clear hi)) | ((with_reducible refine gate_callee (f := 31) rfl ?_); refine goesL_ (some 9) rfl rfl Try.func31 (by kernel_rfl) rfl #[.int .i64 a0] rfl pm ?_; (with_reducible refine (imageeditorref01_Unit.calls a0 t350 _ A6.out).mono ?_); rintro e w11 ⟨rfl, hb⟩; refine ⟨_, rfl, ?_⟩; replace HB := Aside0.mk (below_step (pb HB.out) hb); (try clear hb); (try clear hb2); (try clear hk); (try clear hi)) | ((with_reducible refine gate_callee (f := 31) rfl ?_); refine goesL_ (some 12) rfl rfl Try.func31 (by kernel_rfl) rfl #[.int .i64 a1] rfl pm ?_; (with_reducible refine (imageeditorref01_Unit.calls a1 t351 _ A7.out).mono ?_); rintro e w12 ⟨rfl, hb⟩; refine ⟨_, rfl, ?_⟩; replace HB := Aside0.mk (below_step (pb HB.out) hb); (try clear hb); (try clear hb2); (try clear hk); (try clear hi)) | ((with_reducible refine gate_callee (f := 38) rfl ?_); refine goesL_ (some 13) rfl rfl Try.func38 (by kernel_rfl) rfl #[.int .i64 (wrap64 (t350 * 65535)), .int .i64 t351] rfl pm ?_; (with_reducible refine (imageeditorref01_Div.calls k (wrap64 (t350 * 65535)) t351 t352 _ A8.out).mono ?_); rintro e w' ⟨rfl, ⟨nd, rfl⟩⟩; refine ⟨_, rfl, ?_⟩))
  go_ret
  exact ⟨by first | rfl | (simp [errW_none, errW_some] <;> rfl) | (simp only [← hji9]; first | rfl | (simp [errW_none, errW_some] <;> rfl)) | (simp [*, errW_none, errW_some] <;> rfl), pb HB.out⟩

/-! ### imageeditorref10_dodge: function 47 -/
def imageeditorref10_dodge.f (k : Nat) (a0 : Int) (a1 : Int) : Option (Int) := if a0 = 0 then (some 0) else (if a1 = 65535 then (some 65535) else ((imageeditorref01_Quo.f k a0 (wrap64 (65535 - a1))).bind fun t353 => (some t353)))
theorem imageeditorref10_dodge.mono : ∀ a0 a1 k, LeO (imageeditorref10_dodge.f k a0 a1) (imageeditorref10_dodge.f (k + 1) a0 a1) := by
  intro a0 a1 k
  unfold imageeditorref10_dodge.f
  repeat' first
      | (with_reducible exact imageeditorref01_Quo.mono _ _ _)
      | (with_reducible exact LeO.refl _)
      | (with_reducible exact LeO.none _)
      | (with_reducible refine LeO.ite ?_ ?_)
      | (with_reducible refine LeO.bind ?_ (fun _ => ?_))
      | exact imageeditorref01_Quo.mono _ _ _
      | exact LeO.none _
      | refine LeO.ite ?_ ?_
      | refine LeO.bind ?_ (fun _ => ?_)
set_option maxHeartbeats 8000000 in
set_option maxRecDepth 100000 in
theorem imageeditorref10_dodge.calls (k : Nat) (a0 : Int) (a1 : Int) (r : Int) (w : World) (h : imageeditorref10_dodge.f k a0 a1 = some r) :
    Calls Try.prog 47 #[.int .i64 a0, .int .i64 a1] w fun e w' => e = .returned (.int .i64 r) ∧ Below w.heap.size w w' := by
 have HB := Aside0.mk (Below.refl w.heap.size w)
 have H : (if a0 = 0 then (some 0) else (if a1 = 65535 then (some 65535) else ((imageeditorref01_Quo.f k a0 (wrap64 (65535 - a1))).bind fun t353 => (some t353)))) = some r := h
 clear h
 by_cases c3 : a0 = 0
 ·rw [if_pos c3] at H
  have c3b0 : (a0 == 0) = true := beq_iff_eq.mpr c3
  have c3b1 : (a0 != 0) = false := bne_eq_false_iff_eq.mpr c3
  clear c3
  obtain rfl := Option.some.inj H
  go_enter Try.func47, Try.ntmps47
  go_wp2
  go_ret
  exact ⟨by first | rfl | (simp [errW_none, errW_some] <;> rfl) | (simp [*, errW_none, errW_some] <;> rfl), pb HB.out⟩
 ·rw [if_neg c3] at H
  have c3b0 : (a0 == 0) = false := beq_eq_false_iff_ne.mpr c3
  have c3b1 : (a0 != 0) = true := bne_iff_ne.mpr c3
  by_cases c4 : a1 = 65535
  ·rw [if_pos c4] at H
   have c4b0 : (a1 == 65535) = true := beq_iff_eq.mpr c4
   have c4b1 : (a1 != 65535) = false := bne_eq_false_iff_eq.mpr c4
   clear c4
   obtain rfl := Option.some.inj H
   go_enter Try.func47, Try.ntmps47
   go_wp2
   go_ret
   exact ⟨by first | rfl | (simp [errW_none, errW_some] <;> rfl) | (simp [*, errW_none, errW_some] <;> rfl), pb HB.out⟩
  ·rw [if_neg c4] at H
   have c4b0 : (a1 == 65535) = false := beq_eq_false_iff_ne.mpr c4
   have c4b1 : (a1 != 65535) = true := bne_iff_ne.mpr c4
   replace H := Option.bind_eq_some_iff.mp H
   obtain ⟨t353, A50, H⟩ := H
   replace H : (some t353) = some r := H
   have A5 := Aside0.mk A50
   clear A50
   obtain rfl := Option.some.inj H
   go_enter Try.func47, Try.ntmps47
   go_wp2_with (first | ((with_reducible refine gate_callee (f := 79) rfl ?_); refine goesL_ (some 12) rfl rfl Try.func79 (by kernel_rfl) rfl #[.int .i64 a0, .int .i64 (wrap64 (65535 - a1))] rfl pm ?_; (with_reducible refine (imageeditorref01_Quo.calls k a0 (wrap64 (65535 - a1)) t353 _ A5.out).mono ?_); rintro e w6 ⟨rfl, hb⟩; refine ⟨_, rfl, ?_⟩; replace HB := Aside0.mk (below_step (pb HB.out) hb); (try clear hb); (try clear hb2); (try clear hk); (try clear hi)))
   go_ret
   exact ⟨by first | rfl | (simp [errW_none, errW_some] <;> rfl) | (simp [*, errW_none, errW_some] <;> rfl), pb HB.out⟩

/-! ### imageeditorref10_burn: function 48 -/
def imageeditorref10_burn.f (k : Nat) (a0 : Int) (a1 : Int) : Option (Int) := if a0 = 65535 then (some 65535) else (if a1 = 0 then (some 0) else ((imageeditorref01_Quo.f k (wrap64 (65535 - a0)) a1).bind fun t354 => (some (wrap64 (65535 - t354)))))
theorem imageeditorref10_burn.mono : ∀ a0 a1 k, LeO (imageeditorref10_burn.f k a0 a1) (imageeditorref10_burn.f (k + 1) a0 a1) := by
  intro a0 a1 k
  unfold imageeditorref10_burn.f
  repeat' first
      | (with_reducible exact imageeditorref01_Quo.mono _ _ _)
      | (with_reducible exact LeO.refl _)
      | (with_reducible exact LeO.none _)
      | (with_reducible refine LeO.ite ?_ ?_)
      | (with_reducible refine LeO.bind ?_ (fun _ => ?_))
      | exact imageeditorref01_Quo.mono _ _ _
      | exact LeO.none _
      | refine LeO.ite ?_ ?_
      | refine LeO.bind ?_ (fun _ => ?_)
set_option maxHeartbeats 8000000 in
set_option maxRecDepth 100000 in
theorem imageeditorref10_burn.calls (k : Nat) (a0 : Int) (a1 : Int) (r : Int) (w : World) (h : imageeditorref10_burn.f k a0 a1 = some r) :
    Calls Try.prog 48 #[.int .i64 a0, .int .i64 a1] w fun e w' => e = .returned (.int .i64 r) ∧ Below w.heap.size w w' := by
 have HB := Aside0.mk (Below.refl w.heap.size w)
 have H : (if a0 = 65535 then (some 65535) else (if a1 = 0 then (some 0) else ((imageeditorref01_Quo.f k (wrap64 (65535 - a0)) a1).bind fun t354 => (some (wrap64 (65535 - t354)))))) = some r := h
 clear h
 by_cases c3 : a0 = 65535
 ·rw [if_pos c3] at H
  have c3b0 : (a0 == 65535) = true := beq_iff_eq.mpr c3
  have c3b1 : (a0 != 65535) = false := bne_eq_false_iff_eq.mpr c3
  clear c3
  obtain rfl := Option.some.inj H
  go_enter Try.func48, Try.ntmps48
  go_wp2
  go_ret
  exact ⟨by first | rfl | (simp [errW_none, errW_some] <;> rfl) | (simp [*, errW_none, errW_some] <;> rfl), pb HB.out⟩
 ·rw [if_neg c3] at H
  have c3b0 : (a0 == 65535) = false := beq_eq_false_iff_ne.mpr c3
  have c3b1 : (a0 != 65535) = true := bne_iff_ne.mpr c3
  by_cases c4 : a1 = 0
  ·rw [if_pos c4] at H
   have c4b0 : (a1 == 0) = true := beq_iff_eq.mpr c4
   have c4b1 : (a1 != 0) = false := bne_eq_false_iff_eq.mpr c4
   clear c4
   obtain rfl := Option.some.inj H
   go_enter Try.func48, Try.ntmps48
   go_wp2
   go_ret
   exact ⟨by first | rfl | (simp [errW_none, errW_some] <;> rfl) | (simp [*, errW_none, errW_some] <;> rfl), pb HB.out⟩
  ·rw [if_neg c4] at H
   have c4b0 : (a1 == 0) = false := beq_eq_false_iff_ne.mpr c4
   have c4b1 : (a1 != 0) = true := bne_iff_ne.mpr c4
   replace H := Option.bind_eq_some_iff.mp H
   obtain ⟨t354, A50, H⟩ := H
   replace H : (some (wrap64 (65535 - t354))) = some r := H
   have A5 := Aside0.mk A50
   clear A50
   obtain rfl := Option.some.inj H
   go_enter Try.func48, Try.ntmps48
   go_wp2_with (first | ((with_reducible refine gate_callee (f := 79) rfl ?_); refine goesL_ (some 12) rfl rfl Try.func79 (by kernel_rfl) rfl #[.int .i64 (wrap64 (65535 - a0)), .int .i64 a1] rfl pm ?_; (with_reducible refine (imageeditorref01_Quo.calls k (wrap64 (65535 - a0)) a1 t354 _ A5.out).mono ?_); rintro e w6 ⟨rfl, hb⟩; refine ⟨_, rfl, ?_⟩; replace HB := Aside0.mk (below_step (pb HB.out) hb); (try clear hb); (try clear hb2); (try clear hk); (try clear hi)))
   go_ret
   exact ⟨by first | rfl | (simp [errW_none, errW_some] <;> rfl) | (simp [*, errW_none, errW_some] <;> rfl), pb HB.out⟩

/-! ### imageeditorref10_Channel: function 23 -/
def imageeditorref10_Channel.f (k : Nat) (a0 : Int) (a1 : Int) (a2 : Int) : Option (Int) := (imageeditorref01_Unit.f a1).bind fun t355 => ((imageeditorref01_Unit.f a2).bind fun t356 => (if a0 = 1 then ((imageeditorref01_Mul.f k t355 t356).bind fun t357 => (some t357)) else (if a0 = 2 then ((imageeditorref10_screen.f k t355 t356).bind fun t358 => (some t358)) else (if a0 = 3 then ((imageeditorref10_hard.f k t356 t355).bind fun t359 => (some t359)) else (if a0 = 4 then (some (mn t355 t356)) else (if a0 = 5 then (some (mx t355 t356)) else (if a0 = 6 then ((imageeditorref10_dodge.f k t355 t356).bind fun t360 => (some t360)) else (if a0 = 7 then ((imageeditorref10_burn.f k t355 t356).bind fun t361 => (some t361)) else (if a0 = 8 then ((imageeditorref10_hard.f k t355 t356).bind fun t362 => (some t362)) else (if a0 = 9 then ((imageeditorref01_Div.f k (wrap64 (t355 * (wrap64 ((wrap64 ((wrap64 (65535 - (wrap64 (2 * t356)))) * t355)) + (wrap64 ((wrap64 (2 * t356)) * 65535)))))) 4294836225).bind fun t363 => ((imageeditorref01_Unit.f t363).bind fun t364 => (some t364))) else (if a0 = 10 then (some (wrap64 ((mx t355 t356) - (mn t355 t356)))) else (if a0 = 11 then ((imageeditorref01_Div.f k (wrap64 ((wrap64 (2 * t355)) * t356)) 65535).bind fun t365 => ((imageeditorref01_Unit.f (wrap64 ((wrap64 (t355 + t356)) - t365))).bind fun t366 => (some t366))) else (if a0 = 12 then ((imageeditorref01_Unit.f (wrap64 (t355 + t356))).bind fun t367 => (some t367)) else (if a0 = 13 then ((imageeditorref01_Unit.f (wrap64 (t355 - t356))).bind fun t368 => (some t368)) else (some t356)))))))))))))))
theorem imageeditorref10_Channel.mono : ∀ a0 a1 a2 k, LeO (imageeditorref10_Channel.f k a0 a1 a2) (imageeditorref10_Channel.f (k + 1) a0 a1 a2) := by
  intro a0 a1 a2 k
  unfold imageeditorref10_Channel.f
  repeat' first
      | (with_reducible exact imageeditorref01_Div.mono _ _ _)
      | (with_reducible exact imageeditorref01_Mul.mono _ _ _)
      | (with_reducible exact imageeditorref10_burn.mono _ _ _)
      | (with_reducible exact imageeditorref10_dodge.mono _ _ _)
      | (with_reducible exact imageeditorref10_hard.mono _ _ _)
      | (with_reducible exact imageeditorref10_screen.mono _ _ _)
      | (with_reducible exact LeO.refl _)
      | (with_reducible exact LeO.none _)
      | (with_reducible refine LeO.ite ?_ ?_)
      | (with_reducible refine LeO.bind ?_ (fun _ => ?_))
      | exact imageeditorref01_Div.mono _ _ _
      | exact imageeditorref01_Mul.mono _ _ _
      | exact imageeditorref10_burn.mono _ _ _
      | exact imageeditorref10_dodge.mono _ _ _
      | exact imageeditorref10_hard.mono _ _ _
      | exact imageeditorref10_screen.mono _ _ _
      | exact LeO.none _
      | refine LeO.ite ?_ ?_
      | refine LeO.bind ?_ (fun _ => ?_)
set_option maxHeartbeats 8000000 in
set_option maxRecDepth 100000 in
theorem imageeditorref10_Channel.calls (k : Nat) (a0 : Int) (a1 : Int) (a2 : Int) (r : Int) (w : World) (h : imageeditorref10_Channel.f k a0 a1 a2 = some r) :
    Calls Try.prog 23 #[.int .i64 a0, .int .i64 a1, .int .i64 a2] w fun e w' => e = .returned (.int .i64 r) ∧ Below w.heap.size w w' := by
 have HB := Aside0.mk (Below.refl w.heap.size w)
 have H : ((imageeditorref01_Unit.f a1).bind fun t355 => ((imageeditorref01_Unit.f a2).bind fun t356 => (if a0 = 1 then ((imageeditorref01_Mul.f k t355 t356).bind fun t357 => (some t357)) else (if a0 = 2 then ((imageeditorref10_screen.f k t355 t356).bind fun t358 => (some t358)) else (if a0 = 3 then ((imageeditorref10_hard.f k t356 t355).bind fun t359 => (some t359)) else (if a0 = 4 then (some (mn t355 t356)) else (if a0 = 5 then (some (mx t355 t356)) else (if a0 = 6 then ((imageeditorref10_dodge.f k t355 t356).bind fun t360 => (some t360)) else (if a0 = 7 then ((imageeditorref10_burn.f k t355 t356).bind fun t361 => (some t361)) else (if a0 = 8 then ((imageeditorref10_hard.f k t355 t356).bind fun t362 => (some t362)) else (if a0 = 9 then ((imageeditorref01_Div.f k (wrap64 (t355 * (wrap64 ((wrap64 ((wrap64 (65535 - (wrap64 (2 * t356)))) * t355)) + (wrap64 ((wrap64 (2 * t356)) * 65535)))))) 4294836225).bind fun t363 => ((imageeditorref01_Unit.f t363).bind fun t364 => (some t364))) else (if a0 = 10 then (some (wrap64 ((mx t355 t356) - (mn t355 t356)))) else (if a0 = 11 then ((imageeditorref01_Div.f k (wrap64 ((wrap64 (2 * t355)) * t356)) 65535).bind fun t365 => ((imageeditorref01_Unit.f (wrap64 ((wrap64 (t355 + t356)) - t365))).bind fun t366 => (some t366))) else (if a0 = 12 then ((imageeditorref01_Unit.f (wrap64 (t355 + t356))).bind fun t367 => (some t367)) else (if a0 = 13 then ((imageeditorref01_Unit.f (wrap64 (t355 - t356))).bind fun t368 => (some t368)) else (some t356)))))))))))))))) = some r := h
 clear h
 replace H := Option.bind_eq_some_iff.mp H
 obtain ⟨t355, A40, H⟩ := H
 replace H : ((imageeditorref01_Unit.f a2).bind fun t356 => (if a0 = 1 then ((imageeditorref01_Mul.f k t355 t356).bind fun t357 => (some t357)) else (if a0 = 2 then ((imageeditorref10_screen.f k t355 t356).bind fun t358 => (some t358)) else (if a0 = 3 then ((imageeditorref10_hard.f k t356 t355).bind fun t359 => (some t359)) else (if a0 = 4 then (some (mn t355 t356)) else (if a0 = 5 then (some (mx t355 t356)) else (if a0 = 6 then ((imageeditorref10_dodge.f k t355 t356).bind fun t360 => (some t360)) else (if a0 = 7 then ((imageeditorref10_burn.f k t355 t356).bind fun t361 => (some t361)) else (if a0 = 8 then ((imageeditorref10_hard.f k t355 t356).bind fun t362 => (some t362)) else (if a0 = 9 then ((imageeditorref01_Div.f k (wrap64 (t355 * (wrap64 ((wrap64 ((wrap64 (65535 - (wrap64 (2 * t356)))) * t355)) + (wrap64 ((wrap64 (2 * t356)) * 65535)))))) 4294836225).bind fun t363 => ((imageeditorref01_Unit.f t363).bind fun t364 => (some t364))) else (if a0 = 10 then (some (wrap64 ((mx t355 t356) - (mn t355 t356)))) else (if a0 = 11 then ((imageeditorref01_Div.f k (wrap64 ((wrap64 (2 * t355)) * t356)) 65535).bind fun t365 => ((imageeditorref01_Unit.f (wrap64 ((wrap64 (t355 + t356)) - t365))).bind fun t366 => (some t366))) else (if a0 = 12 then ((imageeditorref01_Unit.f (wrap64 (t355 + t356))).bind fun t367 => (some t367)) else (if a0 = 13 then ((imageeditorref01_Unit.f (wrap64 (t355 - t356))).bind fun t368 => (some t368)) else (some t356))))))))))))))) = some r := H
 have A4 := Aside0.mk A40
 clear A40
 replace H := Option.bind_eq_some_iff.mp H
 obtain ⟨t356, A50, H⟩ := H
 replace H : (if a0 = 1 then ((imageeditorref01_Mul.f k t355 t356).bind fun t357 => (some t357)) else (if a0 = 2 then ((imageeditorref10_screen.f k t355 t356).bind fun t358 => (some t358)) else (if a0 = 3 then ((imageeditorref10_hard.f k t356 t355).bind fun t359 => (some t359)) else (if a0 = 4 then (some (mn t355 t356)) else (if a0 = 5 then (some (mx t355 t356)) else (if a0 = 6 then ((imageeditorref10_dodge.f k t355 t356).bind fun t360 => (some t360)) else (if a0 = 7 then ((imageeditorref10_burn.f k t355 t356).bind fun t361 => (some t361)) else (if a0 = 8 then ((imageeditorref10_hard.f k t355 t356).bind fun t362 => (some t362)) else (if a0 = 9 then ((imageeditorref01_Div.f k (wrap64 (t355 * (wrap64 ((wrap64 ((wrap64 (65535 - (wrap64 (2 * t356)))) * t355)) + (wrap64 ((wrap64 (2 * t356)) * 65535)))))) 4294836225).bind fun t363 => ((imageeditorref01_Unit.f t363).bind fun t364 => (some t364))) else (if a0 = 10 then (some (wrap64 ((mx t355 t356) - (mn t355 t356)))) else (if a0 = 11 then ((imageeditorref01_Div.f k (wrap64 ((wrap64 (2 * t355)) * t356)) 65535).bind fun t365 => ((imageeditorref01_Unit.f (wrap64 ((wrap64 (t355 + t356)) - t365))).bind fun t366 => (some t366))) else (if a0 = 12 then ((imageeditorref01_Unit.f (wrap64 (t355 + t356))).bind fun t367 => (some t367)) else (if a0 = 13 then ((imageeditorref01_Unit.f (wrap64 (t355 - t356))).bind fun t368 => (some t368)) else (some t356)))))))))))))) = some r := H
 have A5 := Aside0.mk A50
 clear A50
 by_cases c6 : a0 = 1
 ·rw [if_pos c6] at H
  have c6b0 : (a0 == 1) = true := beq_iff_eq.mpr c6
  have c6b1 : (a0 != 1) = false := bne_eq_false_iff_eq.mpr c6
  clear c6
  replace H := Option.bind_eq_some_iff.mp H
  obtain ⟨t357, A70, H⟩ := H
  replace H : (some t357) = some r := H
  have A7 := Aside0.mk A70
  clear A70
  obtain rfl := Option.some.inj H
  go_enter Try.func23, Try.ntmps23
  go_wp2_with (first | ((with_reducible refine gate_callee (f := 31) rfl ?_); refine goesL_ (some 8) rfl rfl Try.func31 (by kernel_rfl) rfl #[.int .i64 a1] rfl pm ?_; (with_reducible refine (imageeditorref01_Unit.calls a1 t355 _ A4.out).mono ?_); rintro e w8 ⟨rfl, hb⟩; refine ⟨_, rfl, ?_⟩; replace HB := Aside0.mk (below_step (pb HB.out) hb); (try clear hb); (try clear hb2); (try clear hk); (try clear hi)) | ((with_reducible refine gate_callee (f := 31) rfl ?_); refine goesL_ (some 10) rfl rfl Try.func31 (by kernel_rfl) rfl #[.int .i64 a2] rfl pm ?_; (with_reducible refine (imageeditorref01_Unit.calls a2 t356 _ A5.out).mono ?_); rintro e w9 ⟨rfl, hb⟩; refine ⟨_, rfl, ?_⟩; replace HB := Aside0.mk (below_step (pb HB.out) hb); (try clear hb); (try clear hb2); (try clear hk); (try clear hi)) | ((with_reducible refine gate_callee (f := 44) rfl ?_); refine goesL_ (some 16) rfl rfl Try.func44 (by kernel_rfl) rfl #[.int .i64 t355, .int .i64 t356] rfl pm ?_; (with_reducible refine (imageeditorref01_Mul.calls k t355 t356 t357 _ A7.out).mono ?_); rintro e w10 ⟨rfl, hb⟩; refine ⟨_, rfl, ?_⟩; replace HB := Aside0.mk (below_step (pb HB.out) hb); (try clear hb); (try clear hb2); (try clear hk); (try clear hi)))
  go_ret
  exact ⟨by first | rfl | (simp [errW_none, errW_some] <;> rfl) | (simp [*, errW_none, errW_some] <;> rfl), pb HB.out⟩
 ·rw [if_neg c6] at H
  have c6b0 : (a0 == 1) = false := beq_eq_false_iff_ne.mpr c6
  have c6b1 : (a0 != 1) = true := bne_iff_ne.mpr c6
  by_cases c11 : a0 = 2
  ·rw [if_pos c11] at H
   have c11b0 : (a0 == 2) = true := beq_iff_eq.mpr c11
   have c11b1 : (a0 != 2) = false := bne_eq_false_iff_eq.mpr c11
   clear c11
   replace H := Option.bind_eq_some_iff.mp H
   obtain ⟨t358, A120, H⟩ := H
   replace H : (some t358) = some r := H
   have A12 := Aside0.mk A120
   clear A120
   obtain rfl := Option.some.inj H
   go_enter Try.func23, Try.ntmps23
   go_wp2_with (first | ((with_reducible refine gate_callee (f := 31) rfl ?_); refine goesL_ (some 8) rfl rfl Try.func31 (by kernel_rfl) rfl #[.int .i64 a1] rfl pm ?_; (with_reducible refine (imageeditorref01_Unit.calls a1 t355 _ A4.out).mono ?_); rintro e w13 ⟨rfl, hb⟩; refine ⟨_, rfl, ?_⟩; replace HB := Aside0.mk (below_step (pb HB.out) hb); (try clear hb); (try clear hb2); (try clear hk); (try clear hi)) | ((with_reducible refine gate_callee (f := 31) rfl ?_); refine goesL_ (some 10) rfl rfl Try.func31 (by kernel_rfl) rfl #[.int .i64 a2] rfl pm ?_; (with_reducible refine (imageeditorref01_Unit.calls a2 t356 _ A5.out).mono ?_); rintro e w14 ⟨rfl, hb⟩; refine ⟨_, rfl, ?_⟩; replace HB := Aside0.mk (below_step (pb HB.out) hb); (try clear hb); (try clear hb2); (try clear hk); (try clear hi)) | ((with_reducible refine gate_callee (f := 45) rfl ?_); refine goesL_ (some 21) rfl rfl Try.func45 (by kernel_rfl) rfl #[.int .i64 t355, .int .i64 t356] rfl pm ?_; (with_reducible refine (imageeditorref10_screen.calls k t355 t356 t358 _ A12.out).mono ?_); rintro e w15 ⟨rfl, hb⟩; refine ⟨_, rfl, ?_⟩; replace HB := Aside0.mk (below_step (pb HB.out) hb); (try clear hb); (try clear hb2); (try clear hk); (try clear hi)))
   go_ret
   exact ⟨by first | rfl | (simp [errW_none, errW_some] <;> rfl) | (simp [*, errW_none, errW_some] <;> rfl), pb HB.out⟩
  ·rw [if_neg c11] at H
   have c11b0 : (a0 == 2) = false := beq_eq_false_iff_ne.mpr c11
   have c11b1 : (a0 != 2) = true := bne_iff_ne.mpr c11
   by_cases c16 : a0 = 3
   ·rw [if_pos c16] at H
    have c16b0 : (a0 == 3) = true := beq_iff_eq.mpr c16
    have c16b1 : (a0 != 3) = false := bne_eq_false_iff_eq.mpr c16
    clear c16
    replace H := Option.bind_eq_some_iff.mp H
    obtain ⟨t359, A170, H⟩ := H
    replace H : (some t359) = some r := H
    have A17 := Aside0.mk A170
    clear A170
    obtain rfl := Option.some.inj H
    go_enter Try.func23, Try.ntmps23
    go_wp2_with (first | ((with_reducible refine gate_callee (f := 31) rfl ?_); refine goesL_ (some 8) rfl rfl Try.func31 (by kernel_rfl) rfl #[.int .i64 a1] rfl pm ?_; (with_reducible refine (imageeditorref01_Unit.calls a1 t355 _ A4.out).mono ?_); rintro e w18 ⟨rfl, hb⟩; refine ⟨_, rfl, ?_⟩; replace HB := Aside0.mk (below_step (pb HB.out) hb); (try clear hb); (try clear hb2); (try clear hk); (try clear hi)) | ((with_reducible refine gate_callee (f := 31) rfl ?_); refine goesL_ (some 10) rfl rfl Try.func31 (by kernel_rfl) rfl #[.int .i64 a2] rfl pm ?_; (with_reducible refine (imageeditorref01_Unit.calls a2 t356 _ A5.out).mono ?_); rintro e w19 ⟨rfl, hb⟩; refine ⟨_, rfl, ?_⟩; replace HB := Aside0.mk (below_step (pb HB.out) hb); (try clear hb); (try clear hb2); (try clear hk); (try clear hi)) | ((with_reducible refine gate_callee (f := 46) rfl ?_); refine goesL_ (some 26) rfl rfl Try.func46 (by kernel_rfl) rfl #[.int .i64 t356, .int .i64 t355] rfl pm ?_; (with_reducible refine (imageeditorref10_hard.calls k t356 t355 t359 _ A17.out).mono ?_); rintro e w20 ⟨rfl, hb⟩; refine ⟨_, rfl, ?_⟩; replace HB := Aside0.mk (below_step (pb HB.out) hb); (try clear hb); (try clear hb2); (try clear hk); (try clear hi)))
    go_ret
    exact ⟨by first | rfl | (simp [errW_none, errW_some] <;> rfl) | (simp [*, errW_none, errW_some] <;> rfl), pb HB.out⟩
   ·rw [if_neg c16] at H
    have c16b0 : (a0 == 3) = false := beq_eq_false_iff_ne.mpr c16
    have c16b1 : (a0 != 3) = true := bne_iff_ne.mpr c16
    by_cases c21 : a0 = 4
    ·rw [if_pos c21] at H
     have c21b0 : (a0 == 4) = true := beq_iff_eq.mpr c21
     have c21b1 : (a0 != 4) = false := bne_eq_false_iff_eq.mpr c21
     clear c21
     obtain ⟨ji22, hji22⟩ : ∃ j_ : Int, (mn t355 t356) = j_ := ⟨_, rfl⟩
     replace H : (some ji22) = some r := by first | (rw [hji22] at H; exact H) | (simp only [hji22] at H ⊢; exact H)
     (try rw [hji22] at A4)
     (try rw [hji22] at A5)
     have hji22_ : (if t356 < t355 then t356 else t355) = ji22 := hji22
     obtain rfl := Option.some.inj H
     go_enter Try.func23, Try.ntmps23
     go_wp2_with (first | ((with_reducible refine gate_callee (f := 31) rfl ?_); refine goesL_ (some 8) rfl rfl Try.func31 (by kernel_rfl) rfl #[.int .i64 a1] rfl pm ?_; (with_reducible refine (imageeditorref01_Unit.calls a1 t355 _ A4.out).mono ?_); rintro e w23 ⟨rfl, hb⟩; refine ⟨_, rfl, ?_⟩; replace HB := Aside0.mk (below_step (pb HB.out) hb); (try clear hb); (try clear hb2); (try clear hk); (try clear hi)) | ((with_reducible refine gate_callee (f := 31) rfl ?_); refine goesL_ (some 10) rfl rfl Try.func31 (by kernel_rfl) rfl #[.int .i64 a2] rfl pm ?_; (with_reducible refine (imageeditorref01_Unit.calls a2 t356 _ A5.out).mono ?_); rintro e w24 ⟨rfl, hb⟩; refine ⟨_, rfl, ?_⟩; replace HB := Aside0.mk (below_step (pb HB.out) hb); (try clear hb); (try clear hb2); (try clear hk); (try clear hi)))
     go_ret
     exact ⟨by first | rfl | (simp [errW_none, errW_some] <;> rfl) | (simp only [← hji22]; first | rfl | (simp [errW_none, errW_some] <;> rfl)) | (simp [*, errW_none, errW_some] <;> rfl), pb HB.out⟩
    ·rw [if_neg c21] at H
     have c21b0 : (a0 == 4) = false := beq_eq_false_iff_ne.mpr c21
     have c21b1 : (a0 != 4) = true := bne_iff_ne.mpr c21
     by_cases c25 : a0 = 5
     ·rw [if_pos c25] at H
      have c25b0 : (a0 == 5) = true := beq_iff_eq.mpr c25
      have c25b1 : (a0 != 5) = false := bne_eq_false_iff_eq.mpr c25
      clear c25
      obtain ⟨ji26, hji26⟩ : ∃ j_ : Int, (mx t355 t356) = j_ := ⟨_, rfl⟩
      replace H : (some ji26) = some r := by first | (rw [hji26] at H; exact H) | (simp only [hji26] at H ⊢; exact H)
      (try rw [hji26] at A4)
      (try rw [hji26] at A5)
      have hji26_ : (if t355 < t356 then t356 else t355) = ji26 := hji26
      obtain rfl := Option.some.inj H
      go_enter Try.func23, Try.ntmps23
      go_wp2_with (first | ((with_reducible refine gate_callee (f := 31) rfl ?_); refine goesL_ (some 8) rfl rfl Try.func31 (by kernel_rfl) rfl #[.int .i64 a1] rfl pm ?_; (with_reducible refine (imageeditorref01_Unit.calls a1 t355 _ A4.out).mono ?_); rintro e w27 ⟨rfl, hb⟩; refine ⟨_, rfl, ?_⟩; replace HB := Aside0.mk (below_step (pb HB.out) hb); (try clear hb); (try clear hb2); (try clear hk); (try clear hi)) | ((with_reducible refine gate_callee (f := 31) rfl ?_); refine goesL_ (some 10) rfl rfl Try.func31 (by kernel_rfl) rfl #[.int .i64 a2] rfl pm ?_; (with_reducible refine (imageeditorref01_Unit.calls a2 t356 _ A5.out).mono ?_); rintro e w28 ⟨rfl, hb⟩; refine ⟨_, rfl, ?_⟩; replace HB := Aside0.mk (below_step (pb HB.out) hb); (try clear hb); (try clear hb2); (try clear hk); (try clear hi)))
      go_ret
      exact ⟨by first | rfl | (simp [errW_none, errW_some] <;> rfl) | (simp only [← hji26]; first | rfl | (simp [errW_none, errW_some] <;> rfl)) | (simp [*, errW_none, errW_some] <;> rfl), pb HB.out⟩
     ·rw [if_neg c25] at H
      have c25b0 : (a0 == 5) = false := beq_eq_false_iff_ne.mpr c25
      have c25b1 : (a0 != 5) = true := bne_iff_ne.mpr c25
      by_cases c29 : a0 = 6
      ·rw [if_pos c29] at H
       have c29b0 : (a0 == 6) = true := beq_iff_eq.mpr c29
       have c29b1 : (a0 != 6) = false := bne_eq_false_iff_eq.mpr c29
       clear c29
       replace H := Option.bind_eq_some_iff.mp H
       obtain ⟨t360, A300, H⟩ := H
       replace H : (some t360) = some r := H
       have A30 := Aside0.mk A300
       clear A300
       obtain rfl := Option.some.inj H
       go_enter Try.func23, Try.ntmps23
       go_wp2_with (first | ((with_reducible refine gate_callee (f := 31) rfl ?_); refine goesL_ (some 8) rfl rfl Try.func31 (by kernel_rfl) rfl #[.int .i64 a1] rfl pm ?_; (with_reducible refine (imageeditorref01_Unit.calls a1 t355 _ A4.out).mono ?_); rintro e w31 ⟨rfl, hb⟩; refine ⟨_, rfl, ?_⟩; replace HB := Aside0.mk (below_step (pb HB.out) hb); (try clear hb); (try clear hb2); (try clear hk); (try clear hi)) | ((with_reducible refine gate_callee (f := 31) rfl ?_); refine goesL_ (some 10) rfl rfl Try.func31 (by kernel_rfl) rfl #[.int .i64 a2] rfl pm ?_; (with_reducible refine (imageeditorref01_Unit.calls a2 t356 _ A5.out).mono ?_); rintro e w32 ⟨rfl, hb⟩; refine ⟨_, rfl, ?_⟩; replace HB := Aside0.mk (below_step (pb HB.out) hb); (try clear hb); (try clear hb2); (try clear hk); (try clear hi)) | ((with_reducible refine gate_callee (f := 47) rfl ?_); refine goesL_ (some 41) rfl rfl Try.func47 (by kernel_rfl) rfl #[.int .i64 t355, .int .i64 t356] rfl pm ?_; (with_reducible refine (imageeditorref10_dodge.calls k t355 t356 t360 _ A30.out).mono ?_); rintro e w33 ⟨rfl, hb⟩; refine ⟨_, rfl, ?_⟩; replace HB := Aside0.mk (below_step (pb HB.out) hb); (try clear hb); (try clear hb2); (try clear hk); (try clear hi)))
       go_ret
       exact ⟨by first | rfl | (simp [errW_none, errW_some] <;> rfl) | (simp [*, errW_none, errW_some] <;> rfl), pb HB.out⟩
      ·rw [if_neg c29] at H
       have c29b0 : (a0 == 6) = false := beq_eq_false_iff_ne.mpr c29
       have c29b1 : (a0 != 6) = true := bne_iff_ne.mpr c29
       by_cases c34 : a0 = 7
       ·rw [if_pos c34] at H
        have c34b0 : (a0 == 7) = true := beq_iff_eq.mpr c34
        have c34b1 : (a0 != 7) = false := bne_eq_false_iff_eq.mpr c34
        clear c34
        replace H := Option.bind_eq_some_iff.mp H
        obtain ⟨t361, A350, H⟩ := H
        replace H : (some t361) = some r := H
        have A35 := Aside0.mk A350
        clear A350
        obtain rfl := Option.some.inj H
        go_enter Try.func23, Try.ntmps23
        go_wp2_with (first | ((with_reducible refine gate_callee (f := 31) rfl ?_); refine goesL_ (some 8) rfl rfl Try.func31 (by kernel_rfl) rfl #[.int .i64 a1] rfl pm ?_; (with_reducible refine (imageeditorref01_Unit.calls a1 t355 _ A4.out).mono ?_); rintro e w36 ⟨rfl, hb⟩; refine ⟨_, rfl, ?_⟩; replace HB := Aside0.mk (below_step (pb HB.out) hb); (try clear hb); (try clear hb2); (try clear hk); (try clear hi)) | ((with_reducible refine gate_callee (f := 31) rfl ?_); refine goesL_ (some 10) rfl rfl Try.func31 (by kernel_rfl) rfl #[.int .i64 a2] rfl pm ?_; (with_reducible refine (imageeditorref01_Unit.calls a2 t356 _ A5.out).mono ?_); rintro e w37 ⟨rfl, hb⟩; refine ⟨_, rfl, ?_⟩; replace HB := Aside0.mk (below_step (pb HB.out) hb); (try clear hb); (try clear hb2); (try clear hk); (try clear hi)) | ((with_reducible refine gate_callee (f := 48) rfl ?_); refine goesL_ (some 46) rfl rfl Try.func48 (by kernel_rfl) rfl #[.int .i64 t355, .int .i64 t356] rfl pm ?_; (with_reducible refine (imageeditorref10_burn.calls k t355 t356 t361 _ A35.out).mono ?_); rintro e w38 ⟨rfl, hb⟩; refine ⟨_, rfl, ?_⟩; replace HB := Aside0.mk (below_step (pb HB.out) hb); (try clear hb); (try clear hb2); (try clear hk); (try clear hi)))
        go_ret
        exact ⟨by first | rfl | (simp [errW_none, errW_some] <;> rfl) | (simp [*, errW_none, errW_some] <;> rfl), pb HB.out⟩
       ·rw [if_neg c34] at H
        have c34b0 : (a0 == 7) = false := beq_eq_false_iff_ne.mpr c34
        have c34b1 : (a0 != 7) = true := bne_iff_ne.mpr c34
        by_cases c39 : a0 = 8
        ·rw [if_pos c39] at H
         have c39b0 : (a0 == 8) = true := beq_iff_eq.mpr c39
         have c39b1 : (a0 != 8) = false := bne_eq_false_iff_eq.mpr c39
         clear c39
         replace H := Option.bind_eq_some_iff.mp H
         obtain ⟨t362, A400, H⟩ := H
         replace H : (some t362) = some r := H
         have A40 := Aside0.mk A400
         clear A400
         obtain rfl := Option.some.inj H
         go_enter Try.func23, Try.ntmps23
         go_wp2_with (first | ((with_reducible refine gate_callee (f := 31) rfl ?_); refine goesL_ (some 8) rfl rfl Try.func31 (by kernel_rfl) rfl #[.int .i64 a1] rfl pm ?_; (with_reducible refine (imageeditorref01_Unit.calls a1 t355 _ A4.out).mono ?_); rintro e w41 ⟨rfl, hb⟩; refine ⟨_, rfl, ?_⟩; replace HB := Aside0.mk (below_step (pb HB.out) hb); (try clear hb); (try clear hb2); (try clear hk); (try clear hi)) | ((with_reducible refine gate_callee (f := 31) rfl ?_); refine goesL_ (some 10) rfl rfl Try.func31 (by kernel_rfl) rfl #[.int .i64 a2] rfl pm ?_; (with_reducible refine (imageeditorref01_Unit.calls a2 t356 _ A5.out).mono ?_); rintro e w42 ⟨rfl, hb⟩; refine ⟨_, rfl, ?_⟩; replace HB := Aside0.mk (below_step (pb HB.out) hb); (try clear hb); (try clear hb2); (try clear hk); (try clear hi)) | ((with_reducible refine gate_callee (f := 46) rfl ?_); refine goesL_ (some 51) rfl rfl Try.func46 (by kernel_rfl) rfl #[.int .i64 t355, .int .i64 t356] rfl pm ?_; (with_reducible refine (imageeditorref10_hard.calls k t355 t356 t362 _ A40.out).mono ?_); rintro e w43 ⟨rfl, hb⟩; refine ⟨_, rfl, ?_⟩; replace HB := Aside0.mk (below_step (pb HB.out) hb); (try clear hb); (try clear hb2); (try clear hk); (try clear hi)))
         go_ret
         exact ⟨by first | rfl | (simp [errW_none, errW_some] <;> rfl) | (simp [*, errW_none, errW_some] <;> rfl), pb HB.out⟩
        ·rw [if_neg c39] at H
         have c39b0 : (a0 == 8) = false := beq_eq_false_iff_ne.mpr c39
         have c39b1 : (a0 != 8) = true := bne_iff_ne.mpr c39
         by_cases c44 : a0 = 9
         ·rw [if_pos c44] at H
          have c44b0 : (a0 == 9) = true := beq_iff_eq.mpr c44
          have c44b1 : (a0 != 9) = false := bne_eq_false_iff_eq.mpr c44
          clear c44
          replace H := Option.bind_eq_some_iff.mp H
          obtain ⟨t363, A450, H⟩ := H
          replace H : ((imageeditorref01_Unit.f t363).bind fun t364 => (some t364)) = some r := H
          have A45 := Aside0.mk A450
          clear A450
          replace H := Option.bind_eq_some_iff.mp H
          obtain ⟨t364, A460, H⟩ := H
          replace H : (some t364) = some r := H
          have A46 := Aside0.mk A460
          clear A460
          obtain rfl := Option.some.inj H
          go_enter Try.func23, Try.ntmps23
          go_wp2_with (first | ((with_reducible refine gate_callee (f := 31) rfl ?_); refine goesL_ (some 8) rfl rfl Try.func31 (by kernel_rfl) rfl #[.int .i64 a1] rfl pm ?_; (with_reducible refine (imageeditorref01_Unit.calls a1 t355 _ A4.out).mono ?_); rintro e w47 ⟨rfl, hb⟩; refine ⟨_, rfl, ?_⟩; replace HB := Aside0.mk (below_step (pb HB.out) hb); (try clear hb); (try clear hb2); (try clear hk); (try clear hi)) | ((with_reducible refine gate_callee (f := 31) rfl ?_); refine goesL_ (some 10) rfl rfl Try.func31 (by kernel_rfl) rfl #[.int .i64 a2] rfl pm ?_; (with_reducible refine (imageeditorref01_Unit.calls a2 t356 _ A5.out).mono ?_); rintro e w48 ⟨rfl, hb⟩; refine ⟨_, rfl, ?_⟩; replace HB := Aside0.mk (below_step (pb HB.out) hb); (try clear hb); (try clear hb2); (try clear hk); (try clear hi)) | ((with_reducible refine gate_callee (f := 38) rfl ?_); refine goesL_ (some 65) rfl rfl Try.func38 (by kernel_rfl) rfl #[.int .i64 (wrap64 (t355 * (wrap64 ((wrap64 ((wrap64 (65535 - (wrap64 (2 * t356)))) * t355)) + (wrap64 ((wrap64 (2 * t356)) * 65535)))))), .int .i64 4294836225] rfl pm ?_; (with_reducible refine (imageeditorref01_Div.calls k (wrap64 (t355 * (wrap64 ((wrap64 ((wrap64 (65535 - (wrap64 (2 * t356)))) * t355)) + (wrap64 ((wrap64 (2 * t356)) * 65535)))))) 4294836225 t363 _ A45.out).mono ?_); rintro e w' ⟨rfl, ⟨nd, rfl⟩⟩; refine ⟨_, rfl, ?_⟩) | ((with_reducible refine gate_callee (f := 31) rfl ?_); refine goesL_ (some 66) rfl rfl Try.func31 (by kernel_rfl) rfl #[.int .i64 t363] rfl pm ?_; (with_reducible refine (imageeditorref01_Unit.calls t363 t364 _ A46.out).mono ?_); rintro e w49 ⟨rfl, hb⟩; refine ⟨_, rfl, ?_⟩; replace HB := Aside0.mk (below_step (pb HB.out) hb); (try clear hb); (try clear hb2); (try clear hk); (try clear hi)))
          go_ret
          exact ⟨by first | rfl | (simp [errW_none, errW_some] <;> rfl) | (simp [*, errW_none, errW_some] <;> rfl), pb HB.out⟩
         ·rw [if_neg c44] at H
          have c44b0 : (a0 == 9) = false := beq_eq_false_iff_ne.mpr c44
          have c44b1 : (a0 != 9) = true := bne_iff_ne.mpr c44
          by_cases c50 : a0 = 10
          ·rw [if_pos c50] at H
           have c50b0 : (a0 == 10) = true := beq_iff_eq.mpr c50
           have c50b1 : (a0 != 10) = false := bne_eq_false_iff_eq.mpr c50
           clear c50
           obtain ⟨ji51, hji51⟩ : ∃ j_ : Int, (mx t355 t356) = j_ := ⟨_, rfl⟩
           replace H : (some (wrap64 ((ji51) - (mn t355 t356)))) = some r := by first | (rw [hji51] at H; exact H) | (simp only [hji51] at H ⊢; exact H)
           (try rw [hji51] at A4)
           (try rw [hji51] at A5)
           have hji51_ : (if t355 < t356 then t356 else t355) = ji51 := hji51
           obtain ⟨ji52, hji52⟩ : ∃ j_ : Int, (mn t355 t356) = j_ := ⟨_, rfl⟩
           replace H : (some (wrap64 ((ji51) - (ji52)))) = some r := by first | (rw [hji52] at H; exact H) | (simp only [hji52] at H ⊢; exact H)
           (try rw [hji52] at A4)
           (try rw [hji52] at A5)
           have hji52_ : (if t356 < t355 then t356 else t355) = ji52 := hji52
           obtain rfl := Option.some.inj H
           go_enter Try.func23, Try.ntmps23
           go_wp2_with (first | ((with_reducible refine gate_callee (f := 31) rfl ?_); refine goesL_ (some 8) rfl rfl Try.func31 (by kernel_rfl) rfl #[.int .i64 a1] rfl pm ?_; (with_reducible refine (imageeditorref01_Unit.calls a1 t355 _ A4.out).mono ?_); rintro e w53 ⟨rfl, hb⟩; refine ⟨_, rfl, ?_⟩; replace HB := Aside0.mk (below_step (pb HB.out) hb); (try clear hb); (try clear hb2); (try clear hk); (try clear hi)) | ((with_reducible refine gate_callee (f := 31) rfl ?_); refine goesL_ (some 10) rfl rfl Try.func31 (by kernel_rfl) rfl #[.int .i64 a2] rfl pm ?_; (with_reducible refine (imageeditorref01_Unit.calls a2 t356 _ A5.out).mono ?_); rintro e w54 ⟨rfl, hb⟩; refine ⟨_, rfl, ?_⟩; replace HB := Aside0.mk (below_step (pb HB.out) hb); (try clear hb); (try clear hb2); (try clear hk); (try clear hi)))
           go_ret
           exact ⟨by first | rfl | (simp [errW_none, errW_some] <;> rfl) | (simp only [← hji51, ← hji52]; first | rfl | (simp [errW_none, errW_some] <;> rfl)) | (simp [*, errW_none, errW_some] <;> rfl), pb HB.out⟩
          ·rw [if_neg c50] at H
           have c50b0 : (a0 == 10) = false := beq_eq_false_iff_ne.mpr c50
           have c50b1 : (a0 != 10) = true := bne_iff_ne.mpr c50
           by_cases c55 : a0 = 11
           ·rw [if_pos c55] at H
            have c55b0 : (a0 == 11) = true := beq_iff_eq.mpr c55
            have c55b1 : (a0 != 11) = false := bne_eq_false_iff_eq.mpr c55
            clear c55
            replace H := Option.bind_eq_some_iff.mp H
            obtain ⟨t365, A560, H⟩ := H
            replace H : ((imageeditorref01_Unit.f (wrap64 ((wrap64 (t355 + t356)) - t365))).bind fun t366 => (some t366)) = some r := H
            have A56 := Aside0.mk A560
            clear A560
            replace H := Option.bind_eq_some_iff.mp H
            obtain ⟨t366, A570, H⟩ := H
            replace H : (some t366) = some r := H
            have A57 := Aside0.mk A570
            clear A570
            obtain rfl := Option.some.inj H
            go_enter Try.func23, Try.ntmps23
            go_wp2_with (first | ((with_reducible refine gate_callee (f := 31) rfl ?_); refine goesL_ (some 8) rfl rfl Try.func31 (by kernel_rfl) rfl #[.int .i64 a1] rfl pm ?_; (with_reducible refine (imageeditorref01_Unit.calls a1 t355 _ A4.out).mono ?_); rintro e w58 ⟨rfl, hb⟩; refine ⟨_, rfl, ?_⟩; replace HB := Aside0.mk (below_step (pb HB.out) hb); (try clear hb); (try clear hb2); (try clear hk); (try clear hi)) | ((with_reducible refine gate_callee (f := 31) rfl ?_); refine goesL_ (some 10) rfl rfl Try.func31 (by kernel_rfl) rfl #[.int .i64 a2] rfl pm ?_; (with_reducible refine (imageeditorref01_Unit.calls a2 t356 _ A5.out).mono ?_); rintro e w59 ⟨rfl, hb⟩; refine ⟨_, rfl, ?_⟩; replace HB := Aside0.mk (below_step (pb HB.out) hb); (try clear hb); (try clear hb2); (try clear hk); (try clear hi)) | ((with_reducible refine gate_callee (f := 38) rfl ?_); refine goesL_ (some 85) rfl rfl Try.func38 (by kernel_rfl) rfl #[.int .i64 (wrap64 ((wrap64 (2 * t355)) * t356)), .int .i64 65535] rfl pm ?_; (with_reducible refine (imageeditorref01_Div.calls k (wrap64 ((wrap64 (2 * t355)) * t356)) 65535 t365 _ A56.out).mono ?_); rintro e w' ⟨rfl, ⟨nd, rfl⟩⟩; refine ⟨_, rfl, ?_⟩) | ((with_reducible refine gate_callee (f := 31) rfl ?_); refine goesL_ (some 87) rfl rfl Try.func31 (by kernel_rfl) rfl #[.int .i64 (wrap64 ((wrap64 (t355 + t356)) - t365))] rfl pm ?_; (with_reducible refine (imageeditorref01_Unit.calls (wrap64 ((wrap64 (t355 + t356)) - t365)) t366 _ A57.out).mono ?_); rintro e w60 ⟨rfl, hb⟩; refine ⟨_, rfl, ?_⟩; replace HB := Aside0.mk (below_step (pb HB.out) hb); (try clear hb); (try clear hb2); (try clear hk); (try clear hi)))
            go_ret
            exact ⟨by first | rfl | (simp [errW_none, errW_some] <;> rfl) | (simp [*, errW_none, errW_some] <;> rfl), pb HB.out⟩
           ·rw [if_neg c55] at H
            have c55b0 : (a0 == 11) = false := beq_eq_false_iff_ne.mpr c55
            have c55b1 : (a0 != 11) = true := bne_iff_ne.mpr c55
            by_cases c61 : a0 = 12
            ·rw [if_pos c61] at H
             have c61b0 : (a0 == 12) = true := beq_iff_eq.mpr c61
             have c61b1 : (a0 != 12) = false := bne_eq_false_iff_eq.mpr c61
             clear c61
             replace H := Option.bind_eq_some_iff.mp H
             obtain ⟨t367, A620, H⟩ := H
             replace H : (some t367) = some r := H
             have A62 := Aside0.mk A620
             clear A620
             obtain rfl := Option.some.inj H
             go_enter Try.func23, Try.ntmps23
             go_wp2_with (first | ((with_reducible refine gate_callee (f := 31) rfl ?_); refine goesL_ (some 8) rfl rfl Try.func31 (by kernel_rfl) rfl #[.int .i64 a1] rfl pm ?_; (with_reducible refine (imageeditorref01_Unit.calls a1 t355 _ A4.out).mono ?_); rintro e w63 ⟨rfl, hb⟩; refine ⟨_, rfl, ?_⟩; replace HB := Aside0.mk (below_step (pb HB.out) hb); (try clear hb); (try clear hb2); (try clear hk); (try clear hi)) | ((with_reducible refine gate_callee (f := 31) rfl ?_); refine goesL_ (some 10) rfl rfl Try.func31 (by kernel_rfl) rfl #[.int .i64 a2] rfl pm ?_; (with_reducible refine (imageeditorref01_Unit.calls a2 t356 _ A5.out).mono ?_); rintro e w64 ⟨rfl, hb⟩; refine ⟨_, rfl, ?_⟩; replace HB := Aside0.mk (below_step (pb HB.out) hb); (try clear hb); (try clear hb2); (try clear hk); (try clear hi)) | ((with_reducible refine gate_callee (f := 31) rfl ?_); refine goesL_ (some 93) rfl rfl Try.func31 (by kernel_rfl) rfl #[.int .i64 (wrap64 (t355 + t356))] rfl pm ?_; (with_reducible refine (imageeditorref01_Unit.calls (wrap64 (t355 + t356)) t367 _ A62.out).mono ?_); rintro e w65 ⟨rfl, hb⟩; refine ⟨_, rfl, ?_⟩; replace HB := Aside0.mk (below_step (pb HB.out) hb); (try clear hb); (try clear hb2); (try clear hk); (try clear hi)))
             go_ret
             exact ⟨by first | rfl | (simp [errW_none, errW_some] <;> rfl) | (simp [*, errW_none, errW_some] <;> rfl), pb HB.out⟩
            ·rw [if_neg c61] at H
             have c61b0 : (a0 == 12) = false := beq_eq_false_iff_ne.mpr c61
             have c61b1 : (a0 != 12) = true := bne_iff_ne.mpr c61
             by_cases c66 : a0 = 13
             ·rw [if_pos c66] at H
              have c66b0 : (a0 == 13) = true := beq_iff_eq.mpr c66
              have c66b1 : (a0 != 13) = false := bne_eq_false_iff_eq.mpr c66
              clear c66
              replace H := Option.bind_eq_some_iff.mp H
              obtain ⟨t368, A670, H⟩ := H
              replace H : (some t368) = some r := H
              have A67 := Aside0.mk A670
              clear A670
              obtain rfl := Option.some.inj H
              go_enter Try.func23, Try.ntmps23
              go_wp2_with (first | ((with_reducible refine gate_callee (f := 31) rfl ?_); refine goesL_ (some 8) rfl rfl Try.func31 (by kernel_rfl) rfl #[.int .i64 a1] rfl pm ?_; (with_reducible refine (imageeditorref01_Unit.calls a1 t355 _ A4.out).mono ?_); rintro e w68 ⟨rfl, hb⟩; refine ⟨_, rfl, ?_⟩; replace HB := Aside0.mk (below_step (pb HB.out) hb); (try clear hb); (try clear hb2); (try clear hk); (try clear hi)) | ((with_reducible refine gate_callee (f := 31) rfl ?_); refine goesL_ (some 10) rfl rfl Try.func31 (by kernel_rfl) rfl #[.int .i64 a2] rfl pm ?_; (with_reducible refine (imageeditorref01_Unit.calls a2 t356 _ A5.out).mono ?_); rintro e w69 ⟨rfl, hb⟩; refine ⟨_, rfl, ?_⟩; replace HB := Aside0.mk (below_step (pb HB.out) hb); (try clear hb); (try clear hb2); (try clear hk); (try clear hi)) | ((with_reducible refine gate_callee (f := 31) rfl ?_); refine goesL_ (some 99) rfl rfl Try.func31 (by kernel_rfl) rfl #[.int .i64 (wrap64 (t355 - t356))] rfl pm ?_; (with_reducible refine (imageeditorref01_Unit.calls (wrap64 (t355 - t356)) t368 _ A67.out).mono ?_); rintro e w70 ⟨rfl, hb⟩; refine ⟨_, rfl, ?_⟩; replace HB := Aside0.mk (below_step (pb HB.out) hb); (try clear hb); (try clear hb2); (try clear hk); (try clear hi)))
              go_ret
              exact ⟨by first | rfl | (simp [errW_none, errW_some] <;> rfl) | (simp [*, errW_none, errW_some] <;> rfl), pb HB.out⟩
             ·rw [if_neg c66] at H
              have c66b0 : (a0 == 13) = false := beq_eq_false_iff_ne.mpr c66
              have c66b1 : (a0 != 13) = true := bne_iff_ne.mpr c66
              obtain rfl := Option.some.inj H
              go_enter Try.func23, Try.ntmps23
              go_wp2_with (first | ((with_reducible refine gate_callee (f := 31) rfl ?_); refine goesL_ (some 8) rfl rfl Try.func31 (by kernel_rfl) rfl #[.int .i64 a1] rfl pm ?_; (with_reducible refine (imageeditorref01_Unit.calls a1 t355 _ A4.out).mono ?_); rintro e w71 ⟨rfl, hb⟩; refine ⟨_, rfl, ?_⟩; replace HB := Aside0.mk (below_step (pb HB.out) hb); (try clear hb); (try clear hb2); (try clear hk); (try clear hi)) | ((with_reducible refine gate_callee (f := 31) rfl ?_); refine goesL_ (some 10) rfl rfl Try.func31 (by kernel_rfl) rfl #[.int .i64 a2] rfl pm ?_; (with_reducible refine (imageeditorref01_Unit.calls a2 t356 _ A5.out).mono ?_); rintro e w72 ⟨rfl, hb⟩; refine ⟨_, rfl, ?_⟩; replace HB := Aside0.mk (below_step (pb HB.out) hb); (try clear hb); (try clear hb2); (try clear hk); (try clear hi)))
              go_ret
              exact ⟨by first | rfl | (simp [errW_none, errW_some] <;> rfl) | (simp [*, errW_none, errW_some] <;> rfl), pb HB.out⟩

/-! ### imageeditorref10_Lum: function 57 -/
def imageeditorref10_Lum.f (k : Nat) (a0_0 : Int) (a0_1 : Int) (a0_2 : Int) : Option (Int) := (imageeditorref01_Div.f k (wrap64 ((wrap64 ((wrap64 (30 * a0_0)) + (wrap64 (59 * a0_1)))) + (wrap64 (11 * a0_2)))) 100).bind fun t370 => (some t370)
theorem imageeditorref10_Lum.mono : ∀ a0 a1 a2 k, LeO (imageeditorref10_Lum.f k a0 a1 a2) (imageeditorref10_Lum.f (k + 1) a0 a1 a2) := by
  intro a0 a1 a2 k
  unfold imageeditorref10_Lum.f
  repeat' first
      | (with_reducible exact imageeditorref01_Div.mono _ _ _)
      | (with_reducible exact LeO.refl _)
      | (with_reducible exact LeO.none _)
      | (with_reducible refine LeO.ite ?_ ?_)
      | (with_reducible refine LeO.bind ?_ (fun _ => ?_))
      | exact imageeditorref01_Div.mono _ _ _
      | exact LeO.none _
      | refine LeO.ite ?_ ?_
      | refine LeO.bind ?_ (fun _ => ?_)
set_option maxHeartbeats 8000000 in
set_option maxRecDepth 100000 in
theorem imageeditorref10_Lum.calls (k : Nat) (a0_0 : Int) (a0_1 : Int) (a0_2 : Int) (r : Int) (w : World) (h : imageeditorref10_Lum.f k a0_0 a0_1 a0_2 = some r) :
    Calls Try.prog 57 #[.agg #[.int .i64 a0_0, .int .i64 a0_1, .int .i64 a0_2]] w fun e w' => e = .returned (.int .i64 r) ∧ Below w.heap.size w w' := by
 have hu56 := Try.underlying56
 have HB := Aside0.mk (Below.refl w.heap.size w)
 have H : ((imageeditorref01_Div.f k (wrap64 ((wrap64 ((wrap64 (30 * a0_0)) + (wrap64 (59 * a0_1)))) + (wrap64 (11 * a0_2)))) 100).bind fun t370 => (some t370)) = some r := h
 clear h
 replace H := Option.bind_eq_some_iff.mp H
 obtain ⟨t370, A20, H⟩ := H
 replace H : (some t370) = some r := H
 have A2 := Aside0.mk A20
 clear A20
 obtain rfl := Option.some.inj H
 go_enter Try.func57, Try.ntmps57
 go_wp2_with (first | ((with_reducible refine gate_dst (N := 1) rfl ?_); refine box_event ?hg (N := 1) ?hd (cs := #[.int .i64 a0_0, .int .i64 a0_1, .int .i64 a0_2]) (t := 56) ?hr ?_; (case hd => rfl); (case hg => rfl); (case hr => first | (go_simp; done) | (go_simp; rfl)); intro gA hg w3 hbox hb; have KA := Aside0.mk hbox; have GWA := ge_ hg (pb HB.out); have GEA := ge_ hg (pb HB.out); replace HB := Aside0.mk (below_step (pb HB.out) hb); clear hb hbox hg; have hcz4_0 := ci_ KA 0 (.int .i64 a0_0); have hcz4_1 := ci_ KA 1 (.int .i64 a0_1); have hcz4_2 := ci_ KA 2 (.int .i64 a0_2); have hfz4_0 := blk_frozen KA.out 0; have hfz4_1 := blk_frozen KA.out 1; have hfz4_2 := blk_frozen KA.out 2) | ((with_reducible refine gate_callee (f := 38) rfl ?_); refine goesL_ (some 14) rfl rfl Try.func38 (by kernel_rfl) rfl #[.int .i64 (wrap64 ((wrap64 ((wrap64 (30 * a0_0)) + (wrap64 (59 * a0_1)))) + (wrap64 (11 * a0_2)))), .int .i64 100] rfl pm ?_; (with_reducible refine (imageeditorref01_Div.calls k (wrap64 ((wrap64 ((wrap64 (30 * a0_0)) + (wrap64 (59 * a0_1)))) + (wrap64 (11 * a0_2)))) 100 t370 _ A2.out).mono ?_); rintro e w' ⟨rfl, ⟨nd, rfl⟩⟩; refine ⟨_, rfl, ?_⟩))
 go_ret
 exact ⟨by first | rfl | (simp [errW_none, errW_some] <;> rfl) | (simp [*, errW_none, errW_some] <;> rfl), pb1 HB.out GEA.out⟩

end Go.Proofs.Ytnijapaaickifaa.I
